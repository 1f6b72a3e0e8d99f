import PyProof.Rows.All
import Wide.All
import OpenK.AllK
import Wide.FinOn
import HandS.ForMost
import HandS.ForExc
import HandS.TryMany
import HandS.Flow
import HandS.Wide
import HandS.TupAny
import HandS.TupMul
import HandS.Deep
import HandS.Style
import PyProof.P3In
import KE.DataIsa
import KE.KDictKeyed
import KE.SortData
import HandS.SortKw
import KE.KMinKey
import HandS.TupSets
import HandS.SetFor
import HandS.Iter
import HandS.RevRange
import KE.GoesEnum
import HandS.Zip
import HandS.Conv
import HandS.WordsExc
import HandS.Ends
import PySem.Challenge.RW_onerest_k74_count_rests
set_option Elab.async false
set_option linter.all false
set_option maxRecDepth 100000
namespace RL
open PySem PySem.Spec L2

/-- the data that a program handles -/
abbrev D := PyData

/-- what is fixed through a run -/
structure Gp where
  P : Program
  w : World
  K : PySem.W.Frag
  mg : Str → Option Value

/-- a dict as it lies: hashes, keys, values in order -/
def dicO (a : Addr) (es : List (Int × V × V)) : HO := .ext fun h => ∃ o ents ep, h.get? a = some o ∧ o.ExactDict ∧ o.data = .dict ents ep ∧
  Paired (fun (e : Int × V × V) (x : DictEntry) => x.hash = e.1 ∧ RelV e.2.1 x.key ∧ RelV e.2.2 x.val) es ents.toList

mutual
/-- a key as the library's nested keys have it -/
def keyOf : D → Option NestedKey
  | .none => some .none
  | .int i => some (.num i)
  | .str x => some (.text x)
  | .tuple ds => (keysOf ds).map .tup
  | _ => none
def keysOf : List D → Option (List NestedKey)
  | [] => some []
  | d :: ds => (keyOf d).bind fun k => (keysOf ds).map fun ks => k :: ks
end

mutual
inductive Rp (G : Gp) (H : Hp) : V → D → Prop
  | non : Rp G H .non .none
  | bl (b : Bool) : Rp G H (.bl b) (.bool b)
  | int (i : Int) : Rp G H (.int i) (.int i)
  | str (x : Str) : Rp G H (.str x) (.str x)
  | lst {a : Addr} {xs : List V} {ds : List D} : SqL G.K H a xs → Rps G H xs ds → Rp G H (.ref a) (.list ds)
  | tup {a : Addr} {xs : List V} {ds : List D} : SqT G.K H a xs → Rps G H xs ds → Rp G H (.ref a) (.tuple ds)
  | dic {a : Addr} {es : List (Int × V × V)} {kvs : List (D × D)} : (a == sysModules) = false → Rd H a (dicO a es) → RpE G H es kvs → Rp G H (.ref a) (.dict kvs)
inductive Rps (G : Gp) (H : Hp) : List V → List D → Prop
  | nil : Rps G H [] []
  | cons {v : V} {vs : List V} {d : D} {ds : List D} : Rp G H v d → Rps G H vs ds → Rps G H (v :: vs) (d :: ds)
inductive RpE (G : Gp) (H : Hp) : List (Int × V × V) → List (D × D) → Prop
  | nil : RpE G H [] []
  | cons {n : Int} {k v : V} {es : List (Int × V × V)} {dk dv : D} {nk : NestedKey} {kvs : List (D × D)} : keyOf dk = some nk → n = nk.hash G.w → Rp G H k dk → Rp G H v dv → RpE G H es kvs → RpE G H ((n, k, v) :: es) ((dk, dv) :: kvs)
end

theorem Rd.mono {H H' : Hp} (s : Same H H') {a : Addr} {u : HO} (h : Rd H a u) : Rd H' a u := by
  rcases h with h | ⟨o, h⟩
  · exact .inl (s _ _ h)
  · exact .inr ⟨o, s _ _ h⟩
theorem SqL.mono {K : PySem.W.Frag} {H H' : Hp} (s : Same H H') {a : Addr} {xs : List V} (h : SqL K H a xs) : SqL K H' a xs := by
  rcases h with h | h
  · exact .inl (Rd.mono s h)
  · exact .inr h
theorem SqT.mono {K : PySem.W.Frag} {H H' : Hp} (s : Same H H') {a : Addr} {xs : List V} (h : SqT K H a xs) : SqT K H' a xs := by
  rcases h with h | h
  · exact .inl (Rd.mono s h)
  · exact .inr h
mutual
theorem Rp.mono {G : Gp} {H H' : Hp} (s : Same H H') : ∀ {v : V} {d : D}, Rp G H v d → Rp G H' v d
  | _, _, .non => .non
  | _, _, .bl b => .bl b
  | _, _, .int i => .int i
  | _, _, .str x => .str x
  | _, _, .lst h r => .lst (SqL.mono s h) (Rps.mono s r)
  | _, _, .tup h r => .tup (SqT.mono s h) (Rps.mono s r)
  | _, _, .dic n h r => .dic n (Rd.mono s h) (RpE.mono s r)
theorem Rps.mono {G : Gp} {H H' : Hp} (s : Same H H') : ∀ {vs : List V} {ds : List D}, Rps G H vs ds → Rps G H' vs ds
  | _, _, .nil => .nil
  | _, _, .cons h r => .cons (Rp.mono s h) (Rps.mono s r)
theorem RpE.mono {G : Gp} {H H' : Hp} (s : Same H H') : ∀ {es : List (Int × V × V)} {kvs : List (D × D)}, RpE G H es kvs → RpE G H' es kvs
  | _, _, .nil => .nil
  | _, _, .cons e n k v r => .cons e n (Rp.mono s k) (Rp.mono s v) (RpE.mono s r)
end

/-- a slot: unknown, shared data, a list or dict of the def's own -/
inductive Cell where
  | un | pu (d : D) | ow (d : D) | le (d : D)
abbrev Env := List Cell
/-- a list or dict at a, its items below -/
def TopO (G : Gp) (H0 H : Hp) (a : Addr) : D → Prop
  | .list ds => ∃ vs, H a = some (.lst vs) ∧ Rps G H0 vs ds
  | .dict kvs => (a == sysModules) = false ∧ ∃ es, H a = some (dicO a es) ∧ RpE G H0 es kvs
  | _ => False
def SlotR (G : Gp) (H0 H : Hp) : Option V → Cell → Prop
  | _, .un => True
  | some v, .pu d => Rp G H0 v d
  | some (.ref a), .ow d => H0 a = none ∧ TopO G H0 H a d
  | some (.ref a), .le d => H0 a = none ∧ TopO G H0 H a d
  | _, _ => False
def Cell.own : Cell → Bool
  | .ow _ => true
  | .le _ => true
  | _ => false
def OwnAt (σ : St) (ρ : Env) (i : Nat) (a : Addr) : Prop := σ[i]? = some (some (.ref a)) ∧ ∃ c, ρ[i]? = some c ∧ c.own = true
def Own (σ : St) (ρ : Env) (a : Addr) : Prop := ∃ i, OwnAt σ ρ i a
structure RE (G : Gp) (H0 H : Hp) (σ : St) (ρ : Env) : Prop where
  sub : Same H0 H
  len : σ.length = ρ.length
  slot : ∀ (i : Nat) (c : Cell), ρ[i]? = some c → ∃ ov, σ[i]? = some ov ∧ SlotR G H0 H ov c
  apart : ∀ (i j : Nat) (a : Addr), OwnAt σ ρ i a → OwnAt σ ρ j a → i = j
/-- from one state to a later one -/
structure Step (σ : St) (ρ : Env) (H0 H : Hp) (σ' : St) (ρ' : Env) (H0' H' : Hp) : Prop where
  g0 : Same H0 H0'
  na : ∀ a, (H a).isSome = true → H0 a = none → ¬ Own σ ρ a → H0' a = none
  fr : ∀ a o, H a = some o → ¬ Own σ ρ a → H' a = some o
  on : ∀ a, Own σ' ρ' a → Own σ ρ a ∨ H a = none
  dom : ∀ a, (H a).isSome = true → (H' a).isSome = true
theorem Step.refl {σ : St} {ρ : Env} {H0 H : Hp} : Step σ ρ H0 H σ ρ H0 H :=
  ⟨Same.refl _, fun _ _ h _ => h, fun _ _ h _ => h, fun _ h => .inl h, fun _ h => h⟩
theorem Step.trans {σ σ1 σ2 : St} {ρ ρ1 ρ2 : Env} {H0 H H01 H1 H02 H2 : Hp} (a : Step σ ρ H0 H σ1 ρ1 H01 H1) (b : Step σ1 ρ1 H01 H1 σ2 ρ2 H02 H2) : Step σ ρ H0 H σ2 ρ2 H02 H2 where
  g0 := a.g0.trans b.g0
  na := fun x h h0 n => b.na x (a.dom x h) (a.na x h h0 n) fun z => (a.on x z).elim n fun e => by rw [e] at h; cases h
  fr := fun x o h n => b.fr x o (a.fr x o h n) fun z => (a.on x z).elim n fun e => by rw [e] at h; cases h
  on := fun x z => (b.on x z).elim (a.on x) fun e => by
    cases q : H x with
    | none => exact .inr rfl
    | some o =>
      have := a.dom x (by rw [q]; rfl)
      rw [e] at this; cases this
  dom := fun x h => b.dom x (a.dom x h)

/-- a term's value: shared, new and nobody else's, or the slot's own -/
inductive T where
  | p (d : D) | f (d : D) | s (i : Nat)
def RT (G : Gp) (H0 H : Hp) (σ : St) (ρ : Env) (v : V) : T → Prop
  | .p d => Rp G H0 v d
  | .f d => ∃ a, v = .ref a ∧ H0 a = none ∧ ¬ Own σ ρ a ∧ TopO G H0 H a d
  | .s i => σ[i]? = some (some v) ∧ ∃ c, ρ[i]? = some c ∧ c ≠ .un
/-- what a slot holds -/
def Cell.val : Cell → Option D
  | .un => none
  | .pu d => some d
  | .ow d => some d
  | .le d => some d
def T.val (ρ : Env) : T → Option D
  | .p d => some d
  | .f d => some d
  | .s i => (ρ[i]?).bind Cell.val

/-- an exception: its class by name, its field -/
structure Ex where
  cls : Str
  arg : Option (Str × D)
inductive EO where
  | ok (t : T) (ρ : Env)
  | ex (e : Ex) (ρ : Env)
  | no
def ExR (G : Gp) (H0 H : Hp) (e : Ex) (cls : Value) (d : Option Addr) : Prop :=
  G.mg e.cls = some cls ∧ match e.arg with
    | none => d = none
    | some (f, x) => ∃ dd v, d = some dd ∧ H dd = some (.xd [(f, v)]) ∧ Rp G H0 v x
def Fresh (H : Hp) (v : V) : T → Prop
  | .f _ => ∀ a, v = .ref a → H a = none
  | _ => True
/-- what is wanted of an outcome -/
def kOf (G : Gp) (W : WX) (o : EO) (σ : St) (ρ : Env) (H0 H : Hp) (Q : VK) : Prop :=
  match o with
  | .ok t ρ' => ∀ v H0' H', RE G H0' H' σ ρ' → Step σ ρ H0 H σ ρ' H0' H' → RT G H0' H' σ ρ' v t → Fresh H v t → Q v H'
  | .ex e ρ' => ∀ cls d H0' H', RE G H0' H' σ ρ' → Step σ ρ H0 H σ ρ' H0' H' → ExR G H0' H' e cls d → W cls d σ H'
  | .no => False
def tOf (G : Gp) (W : WX) (f : Env → EO) : TE := fun σ H Q => ∃ H0 ρ, RE G H0 H σ ρ ∧ kOf G W (f ρ) σ ρ H0 H Q

theorem kOf.step {G : Gp} {W : WX} {o : EO} {σ : St} {ρ ρ1 : Env} {H0 H H01 H1 : Hp} {Q : VK} (st : Step σ ρ H0 H σ ρ1 H01 H1) (h : kOf G W o σ ρ H0 H Q) : kOf G W o σ ρ1 H01 H1 Q := by
  cases o with
  | ok t ρ' =>
    intro v H0' H' re s2 rt fr
    refine h v H0' H' re (st.trans s2) rt ?_
    cases t with
    | f d =>
      intro a e
      have := fr a e
      cases q : H a with
      | none => rfl
      | some o =>
        have := st.dom a (by rw [q]; rfl)
        rw [fr a e] at this; cases this
    | p d => trivial
    | s i => trivial
  | ex e ρ' => exact fun cls d H0' H' re s2 x => h cls d H0' H' re (st.trans s2) x
  | no => exact h

theorem PE.imp {X : Cx} {e : Expr} {t t' : TE} (h : PE X e t) (i : ∀ σ H Q, t' σ H Q → t σ H Q) : PE X e t' := ⟨fun pins s σ H Q I q => h.run pins s σ H Q I (i σ H Q q)⟩
theorem PT.imp {X : Cx} {e : Expr} {t t' : TT} (h : PT X e t) (i : ∀ σ H Q, t' σ H Q → t σ H Q) : PT X e t' := ⟨fun pins s σ H Q I q => h.run pins s σ H Q I (i σ H Q q)⟩
theorem PS.imp {X : Cx} {e : Stmt} {t t' : TS} (h : PS X e t) (i : ∀ D σ H, t' D σ H → t D σ H) : PS X e t' := ⟨fun pins s σ H D I q => h.run pins s σ H D I (i D σ H q)⟩
theorem PSs.imp {X : Cx} {e : List Stmt} {t t' : TS} (h : PSs X e t) (i : ∀ D σ H, t' D σ H → t D σ H) : PSs X e t' := ⟨fun pins s σ H D I q => h.run pins s σ H D I (i D σ H q)⟩
theorem PA.imp {X : Cx} {es : List Expr} {t t' : TA} (h : PA X es t) (i : ∀ σ H Q, t' σ H Q → t σ H Q) : PA X es t' := ⟨fun pos pins s σ H Q I q => h.run pos pins s σ H Q I (i σ H Q q)⟩

/-- an earlier term's value stands behind a later step -/
theorem SlotR.cases_own {G : Gp} {H0 H : Hp} {ov : Option V} {c : Cell} (h : SlotR G H0 H ov c) (o : c.own = true) : ∃ a d, ov = some (.ref a) ∧ c.val = some d ∧ H0 a = none ∧ TopO G H0 H a d := by
  cases c with
  | un => cases o
  | pu d => cases o
  | ow d =>
    cases ov with
    | none => exact False.elim h
    | some v =>
      cases v with
      | ref a => exact ⟨a, d, rfl, rfl, h.1, h.2⟩
      | _ => exact False.elim h
  | le d =>
    cases ov with
    | none => exact False.elim h
    | some v =>
      cases v with
      | ref a => exact ⟨a, d, rfl, rfl, h.1, h.2⟩
      | _ => exact False.elim h
theorem TopO.some {G : Gp} {H0 H : Hp} {a : Addr} {d : D} (h : TopO G H0 H a d) : ∃ o, H a = some o ∧ Mut (some o) := by
  cases d with
  | list ds => obtain ⟨vs, e, _⟩ := h; exact ⟨_, e, trivial⟩
  | dict kvs => obtain ⟨_, es, e, _⟩ := h; exact ⟨_, e, trivial⟩
  | _ => exact False.elim h
theorem TopO.mono {G : Gp} {H0 H H0' H' : Hp} {a : Addr} {d : D} (h : TopO G H0 H a d) (g : Same H0 H0') (e : ∀ o, H a = .some o → H' a = .some o) : TopO G H0' H' a d := by
  cases d with
  | list ds => obtain ⟨vs, e1, r⟩ := h; exact ⟨vs, e _ e1, r.mono g⟩
  | dict kvs => obtain ⟨n, es, e1, r⟩ := h; exact ⟨n, es, e _ e1, r.mono g⟩
  | _ => exact False.elim h
theorem RE.own_at {G : Gp} {H0 H : Hp} {σ : St} {ρ : Env} (re : RE G H0 H σ ρ) {a : Addr} (h : Own σ ρ a) : H0 a = none ∧ ∃ d, TopO G H0 H a d := by
  obtain ⟨i, e, c, ec, o⟩ := h
  obtain ⟨ov, e2, s⟩ := re.slot i c ec
  obtain ⟨b, d, rfl, _, h0, t⟩ := s.cases_own o
  rw [e] at e2
  cases e2
  exact ⟨h0, d, t⟩
/-- what is known of an earlier term -/
def KeepT (ρ ρ' : Env) : T → Prop
  | .s i => ∃ c, ρ'[i]? = some c ∧ c ≠ .un
  | _ => True
theorem RT.step {G : Gp} {σ : St} {ρ ρ' : Env} {H0 H H0' H' : Hp} {v : V} {t : T} (st : Step σ ρ H0 H σ ρ' H0' H') (k : KeepT ρ ρ' t) (h : RT G H0 H σ ρ v t) : RT G H0' H' σ ρ' v t := by
  cases t with
  | p d => exact Rp.mono st.g0 h
  | f d =>
    obtain ⟨a, e, h0, no, to⟩ := h
    obtain ⟨o, eo, _⟩ := to.some
    have hs : (H a).isSome = true := by rw [eo]; rfl
    exact ⟨a, e, st.na a hs h0 no, fun z => (st.on a z).elim no (fun q => by rw [q] at eo; exact nomatch eo), to.mono st.g0 fun o' e' => st.fr a o' e' no⟩
  | s i => exact ⟨h.1, k⟩
end RL

namespace RL
open PySem PySem.Spec L2

/-! values behind operations -/
def RV (G : Gp) (H0 H : Hp) (v : V) (d : D) : Prop := Rp G H0 v d ∨ ∃ a, v = .ref a ∧ TopO G H0 H a d
theorem RV.rp {G : Gp} {H0 H : Hp} (s : Same H0 H) {v : V} {d : D} (h : RV G H0 H v d) : Rp G H v d := by
  rcases h with h | ⟨a, rfl, h⟩
  · exact h.mono s
  · cases d with
    | list ds => obtain ⟨vs, e, r⟩ := h; exact .lst (.of e) (r.mono s)
    | dict kvs => obtain ⟨n, es, e, r⟩ := h; exact .dic n (.of e) (r.mono s)
    | _ => exact False.elim h
theorem RT.rv {G : Gp} {H0 H : Hp} {σ : St} {ρ : Env} {v : V} {t : T} {d : D} (re : RE G H0 H σ ρ) (h : RT G H0 H σ ρ v t) (e : t.val ρ = some d) : RV G H0 H v d := by
  cases t with
  | p x => cases e; exact .inl h
  | f x => cases e; obtain ⟨a, rfl, _, _, to⟩ := h; exact .inr ⟨a, rfl, to⟩
  | s i =>
    obtain ⟨es, c, ec, _⟩ := h
    simp only [T.val, ec, Option.bind_some] at e
    obtain ⟨ov, e2, sl⟩ := re.slot i c ec
    rw [es] at e2; cases e2
    cases c with
    | un => cases e
    | pu x => cases e; exact .inl sl
    | ow x =>
      obtain ⟨a, d', e3, e4, _, to⟩ := sl.cases_own rfl
      cases e3; rw [e] at e4; cases e4
      exact .inr ⟨a, rfl, to⟩
    | le x =>
      obtain ⟨a, d', e3, e4, _, to⟩ := sl.cases_own rfl
      cases e3; rw [e] at e4; cases e4
      exact .inr ⟨a, rfl, to⟩
theorem KeepT.of {ρ ρ' : Env} {t : T} {d : D} (e : t.val ρ' = some d) : KeepT ρ ρ' t := by
  cases t with
  | p _ => trivial
  | f _ => trivial
  | s i =>
    cases q : ρ'[i]? with
    | none => simp [T.val, q] at e
    | some c =>
      refine ⟨c, q, fun z => ?_⟩
      subst z
      simp [T.val, q, Cell.val] at e

structure Ext (H0 H H0' H' : Hp) : Prop where
  g0 : Same H0 H0'
  g : Same H H'
  sub : Same H0' H'
  na : ∀ a, (H a).isSome = true → H0 a = none → H0' a = none
theorem Ext.refl {H0 H : Hp} (s : Same H0 H) : Ext H0 H H0 H := ⟨Same.refl _, Same.refl _, s, fun _ _ h => h⟩
def RN (G : Gp) (H H0' H' : Hp) (v : V) : T → Prop
  | .p d => Rp G H0' v d
  | .f d => ∃ a, v = .ref a ∧ H a = none ∧ H0' a = none ∧ TopO G H0' H' a d
  | .s _ => False
/-- what an operation by values leaves -/
def VOut (G : Gp) (H0 H : Hp) (t : T) (Q : VK) : Prop := ∀ v H0' H', Ext H0 H H0' H' → RN G H H0' H' v t → Q v H'
section
variable {G : Gp} {H0 H : Hp} {Q : VK}
theorem Same.upd {H : Hp} {p : Addr} {o : HO} (n : H p = none) : Same H (upd H p o) := fun b u e => by rw [upd_ne (ne_of_none e n)]; exact e
theorem VOut.here {v : V} {d : D} (s : Same H0 H) (o : VOut G H0 H (.p d) Q) (r : Rp G H0 v d) : Q v H := o v H0 H (.refl s) r
theorem VOut.newT {vs : List V} {ds : List D} (s : Same H0 H) (o : VOut G H0 H (.p (.tuple ds)) Q) (r : Rps G H0 vs ds) (p : Addr) (n : H p = none) : Q (.ref p) (upd H p (.tup vs)) := by
  have n0 : H0 p = none := s.free n
  refine o _ (upd H0 p (.tup vs)) _ ⟨Same.upd n0, Same.upd n, fun b u e => ?_, fun a h h0 => ?_⟩ ?_
  · by_cases hb : b = p
    · subst hb; rw [upd_same] at e ⊢; exact e
    · rw [upd_ne hb] at e ⊢; exact s _ _ e
  · by_cases hb : a = p
    · subst hb; rw [n] at h; cases h
    · rw [upd_ne hb]; exact h0
  · exact .tup (.of upd_same) (r.mono (Same.upd n0))
theorem VOut.newL {vs : List V} {ds : List D} (s : Same H0 H) (o : VOut G H0 H (.f (.list ds)) Q) (r : Rps G H0 vs ds) (p : Addr) (n : H p = none) : Q (.ref p) (L2.upd H p (.lst vs)) := by
  have n0 : H0 p = none := s.free n
  exact o _ H0 _ ⟨Same.refl _, Same.upd n, s.trans (Same.upd n), fun a h h0 => h0⟩ ⟨p, rfl, n, n0, vs, upd_same, r⟩
theorem VOut.sc {d : D} {v : V} (s : Same H0 H) (o : VOut G H0 H (.p d) Q) (r : Rp G H0 v d) : Q v H := o.here s r
end
theorem Rps.length {G : Gp} {H : Hp} : ∀ {vs : List V} {ds : List D}, Rps G H vs ds → vs.length = ds.length
  | _, _, .nil => rfl
  | _, _, .cons _ r => by simp [Rps.length r]
theorem Rps.append {G : Gp} {H : Hp} : ∀ {vs ws : List V} {ds es : List D}, Rps G H vs ds → Rps G H ws es → Rps G H (vs ++ ws) (ds ++ es)
  | _, _, _, _, .nil, s => s
  | _, _, _, _, .cons h r, s => .cons h (Rps.append r s)
theorem Rps.get {G : Gp} {H : Hp} : ∀ {vs : List V} {ds : List D} {i : Nat} {d : D}, Rps G H vs ds → ds[i]? = some d → ∃ v, vs[i]? = some v ∧ Rp G H v d
  | _, _, i, _, .nil, e => by simp at e
  | _, _, 0, _, .cons h _, e => by simp at e; subst e; exact ⟨_, rfl, h⟩
  | _, _, i + 1, _, .cons _ r, e => by
    obtain ⟨v, e1, h⟩ := Rps.get (i := i) r (by simpa using e)
    exact ⟨v, by simpa using e1, h⟩
theorem Rps.getV {G : Gp} {H : Hp} : ∀ {vs : List V} {ds : List D} {i : Nat} {v : V}, Rps G H vs ds → vs[i]? = some v → ∃ d, ds[i]? = some d ∧ Rp G H v d
  | _, _, i, _, .nil, e => by simp at e
  | _, _, 0, _, .cons h _, e => by simp at e; subst e; exact ⟨_, rfl, h⟩
  | _, _, i + 1, _, .cons _ r, e => by
    obtain ⟨v, e1, h⟩ := Rps.getV (i := i) r (by simpa using e)
    exact ⟨v, by simpa using e1, h⟩
theorem Rps.drop {G : Gp} {H : Hp} : ∀ {vs : List V} {ds : List D} (n : Nat), Rps G H vs ds → Rps G H (vs.drop n) (ds.drop n)
  | _, _, 0, r => r
  | _, _, _ + 1, .nil => .nil
  | _, _, n + 1, .cons _ r => by simpa using Rps.drop n r
theorem Rps.take {G : Gp} {H : Hp} : ∀ {vs : List V} {ds : List D} (n : Nat), Rps G H vs ds → Rps G H (vs.take n) (ds.take n)
  | _, _, 0, _ => .nil
  | _, _, _ + 1, .nil => .nil
  | _, _, n + 1, .cons h r => by simpa using Rps.cons h (Rps.take n r)
theorem Rps.set {G : Gp} {H : Hp} {v : V} {d : D} (h : Rp G H v d) : ∀ {vs : List V} {ds : List D} (n : Nat), Rps G H vs ds → Rps G H (vs.set n v) (ds.set n d)
  | _, _, _, .nil => .nil
  | _, _, 0, .cons _ r => .cons h r
  | _, _, n + 1, .cons q r => .cons q (Rps.set h n r)
theorem Rps.rep {G : Gp} {H : Hp} {vs : List V} {ds : List D} (r : Rps G H vs ds) : ∀ n : Nat, Rps G H (List.replicate n vs).flatten (List.replicate n ds).flatten
  | 0 => .nil
  | n + 1 => by rw [List.replicate_succ, List.replicate_succ, List.flatten_cons, List.flatten_cons]; exact r.append (Rps.rep r n)
section
variable {G : Gp} {H0 H : Hp} {v : V}
theorem RV.int {i : Int} (h : RV G H0 H v (.int i)) : v = .int i := by
  rcases h with h | ⟨a, _, h⟩
  · cases h; rfl
  · exact False.elim h
theorem RV.bool {b : Bool} (h : RV G H0 H v (.bool b)) : v = .bl b := by
  rcases h with h | ⟨a, _, h⟩
  · cases h; rfl
  · exact False.elim h
theorem RV.str {x : Str} (h : RV G H0 H v (.str x)) : v = .str x := by
  rcases h with h | ⟨a, _, h⟩
  · cases h; rfl
  · exact False.elim h
theorem RV.non (h : RV G H0 H v .none) : v = .non := by
  rcases h with h | ⟨a, _, h⟩
  · cases h; rfl
  · exact False.elim h
theorem RV.tup {ds : List D} (h : RV G H0 H v (.tuple ds)) : ∃ a vs, v = .ref a ∧ SqT G.K H0 a vs ∧ Rps G H0 vs ds := by
  rcases h with h | ⟨a, _, h⟩
  · cases h with
    | tup h r => exact ⟨_, _, rfl, h, r⟩
  · exact False.elim h
theorem RV.lst {ds : List D} (s : Same H0 H) (h : RV G H0 H v (.list ds)) : ∃ a vs, v = .ref a ∧ SqL G.K H a vs ∧ Rps G H0 vs ds := by
  rcases h with h | ⟨a, rfl, h⟩
  · cases h with
    | lst h r => exact ⟨_, _, rfl, SqL.mono s h, r⟩
  · obtain ⟨vs, e, r⟩ := h
    exact ⟨a, vs, rfl, .of e, r⟩
end

abbrev gp (X : Cx) : Gp := ⟨X.prog, X.w, X.K, X.mg⟩
/-- an operation of two values, by data -/
def rB (G : Gp) (f : D → D → Option T) : R2 := fun x y H Q => ∃ H0 d e t, Same H0 H ∧ RV G H0 H x d ∧ RV G H0 H y e ∧ f d e = some t ∧ VOut G H0 H t Q

def mulOk (i j : Int) : Bool := decide (-(2 ^ 64) < i ∧ i < 2 ^ 64) || decide (-(2 ^ 64) < j ∧ j < 2 ^ 64) || decide (i.natAbs.log2 + j.natAbs.log2 < 1000000)
theorem size_eq : (sizeLine : Nat) = 16777216 := sizeLine_eq
def addD : D → D → Option T
  | .int i, .int j => some (.p (.int (i + j)))
  | .bool a, .int j => some (.p (.int ((if a = true then (1 : Int) else 0) + j)))
  | .str x, .str y => if x.length + y.length ≤ 16777216 then some (.p (.str (x ++ y))) else none
  | .tuple xs, .tuple ys => if xs.length + ys.length ≤ 16777216 then some (.p (.tuple (xs ++ ys))) else none
  | .list xs, .list ys => if xs.length + ys.length ≤ 16777216 then some (.f (.list (xs ++ ys))) else none
  | _, _ => none
def subD : D → D → Option T
  | .int i, .int j => some (.p (.int (i - j)))
  | .bool a, .int j => some (.p (.int ((if a = true then (1 : Int) else 0) - j)))
  | _, _ => none
def mulD : D → D → Option T
  | .int i, .int j => if mulOk i j = true then some (.p (.int (i * j))) else none
  | .tuple xs, .int k => if xs ≠ [] ∧ 2 ≤ k ∧ k ≤ 1000 ∧ xs.length ≤ 1000 then some (.p (.tuple (List.replicate k.toNat xs).flatten)) else none
  | _, _ => none
def modD : D → D → Option T
  | .int i, .int j => if 0 < j then some (.p (.int (i % j))) else none
  | _, _ => none
def divD : D → D → Option T
  | .int i, .int j => if 0 < j ∧ j.natAbs.log2 < 9000 then some (.p (.int (i / j))) else none
  | _, _ => none
def powD : D → D → Option T
  | .int i, .int j => if 0 ≤ j ∧ j ≤ 1000000 ∧ i.natAbs < 2 ^ 64 then some (.p (.int (i ^ j.toNat))) else none
  | _, _ => none
def binD : Operator → D → D → Option T
  | .Add => addD
  | .Sub => subD
  | .Mult => mulD
  | .Mod => modD
  | .FloorDiv => divD
  | .Pow => powD
  | _ => fun _ _ => none

section
variable {X : Cx}
theorem op_catG : OpR X (binaryOp .Add) (fun x y H Q => ∃ l b xs zs, x = .ref l ∧ y = .ref b ∧ SqL X.K H l xs ∧ SqL X.K H b zs ∧ xs.length + zs.length ≤ sizeLine ∧ ∀ p, H p = none → Q (.ref p) (upd H p (.lst (xs ++ zs)))) := by
  intro pins s σ H x y v u Q I rx ry h
  obtain ⟨l, b, xs, zs, rfl, rfl, hH, hB, hz, q⟩ := h
  cases rx
  cases ry
  obtain ⟨its, r, ⟨o, n, e, hc, hd, hs⟩, hl⟩ := I.list hH
  obtain ⟨its2, r2, ⟨o2, n2, e2, hc2, hd2, hs2⟩, hl2⟩ := I.list hB
  obtain ⟨oc, od, odt, osl⟩ := o
  obtain ⟨oc2, od2, odt2, osl2⟩ := o2
  simp only at hc hd hs hc2 hd2 hs2
  subst hc hd hs hc2 hd2 hs2
  have l1 := r.length
  have l2 := r2.length
  refine PySem.concat_meets ⟨_, e, rfl⟩ ⟨_, e2, rfl⟩ PySem.noFill_list_add PySem.seq_list_add PySem.F.slot_list_add PySem.F.entry_list_add (PySem.F.args_list_add_2 _ _) (PyProof.Rows.list_addW l b its.toArray its2.toArray n n2 none none osl osl2 (by rw [List.size_toArray, List.size_toArray]; omega)) ⟨e, e2, ?_⟩
  have ea : its.toArray ++ its2.toArray = (its ++ its2).toArray := by simp
  rw [ea]
  exact ⟨.ref _, _, I.lnew (t' := s.toks) (r.append r2) (by rw [List.length_append]; omega), rfl, q _ I.fresh⟩
end
end RL

namespace RL
open PySem PySem.Spec L2
/-- the entries of the two dicts that are written out -/
def dctE (w : World) : Bool → List (Int × V × V)
  | false => []
  | true => [(NestedKey.hash w (.num 0), .int 0, .int 0)]
def dctD : Bool → List (D × D)
  | false => []
  | true => [(.int 0, .int 0)]
/-- {} and {0: 0} -/
def tDct (X : Cx) (z : Bool) : TE := fun _ H Q => ∀ p, H p = none → (p == sysModules) = false → Q (.ref p) (upd H p (dicO p (dctE X.w z)))
section
variable {X : Cx} {pos : Pos}
theorem pe_dct0 : PE X (.Dict [] [] pos) (tDct X false) := ⟨fun pins s σ H Q I h =>
  wpAny_Dict_empty ⟨.ref s.heap.objs.size, _, I.laid (a := s.heap.objs.size) (o := dicO s.heap.objs.size []) (t' := s.toks) (fun _ _ q => Heap.get?_push_of_some _ q) (Nat.le_refl _)
    ⟨⟨_, #[], 0, Heap.get?_push_size _ rfl, ⟨rfl, rfl, rfl⟩, rfl, .nil⟩, ⟨_, Heap.get?_push_size _ rfl⟩, fun h1 h2 ⟨o, ents, ep, e1, r⟩ k => ⟨o, ents, ep, k o e1, r⟩⟩, rfl, h _ (I.hok.fresh (Nat.le_refl _)) (beq_eq_false_iff_ne.mpr (Ne.symm (Nat.ne_of_lt I.big)))⟩⟩
theorem dic_one {P : Program} {w : World} {h : Heap} {a : Addr} {v : Value} (rv : RelV (.int 0) v) (dd : h.DictOf (mixKind P w) a [((Sum.inl 0 : Key), v)]) :
    ∃ o ents ep, h.get? a = some o ∧ o.ExactDict ∧ o.data = .dict ents ep ∧ Paired (fun (e : Int × V × V) (x : DictEntry) => x.hash = e.1 ∧ RelV e.2.1 x.key ∧ RelV e.2.2 x.val) (dctE w true) ents.toList := by
  obtain ⟨o, ents, ep, e1, e2, e3, e4, e5, -⟩ := dd
  refine ⟨o, ents, ep, e1, e2, e3, ?_⟩
  have e4' : ∀ e ∈ ents.toList, ∃ k, (mixKind P w).is k e.key = true ∧ e.hash = (mixKind P w).hash k := fun e he => e4 e (Array.mem_toList_iff.mp he)
  generalize ents.toList = es at e4' e5
  cases e5 with
  | cons h1 h2 h3 =>
    cases h3
    obtain ⟨k, k1, k2⟩ := e4' _ List.mem_cons_self
    have hk : keyIs (.inl 0) _ = true := h1
    rcases keyIs_shape hk with ⟨i, t, q1, q2⟩ | ⟨x, t, q1, q2⟩
    · cases q1
      refine .cons ⟨?_, ?_, ?_⟩ .nil
      · rw [k2]
        have : k = .inl 0 := (mixKind P w).inj _ _ _ k1 h1
        subst this
        rfl
      · rw [q2]; exact ⟨_, rfl⟩
      · rw [h2]; exact rv
    · cases q1
theorem pe_dct1 {j1 j2 : Nat} {p1 p2 : Pos} : PE X (.Dict [some (.Constant (.int 0) j1 p1)] [.Constant (.int 0) j2 p2] pos) (tDct X true) := by
  refine ⟨fun pins s σ H Q I q => ?_⟩
  have hn := I.hok.fresh (Nat.le_refl s.heap.objs.size)
  have hb : (s.heap.objs.size == sysModules) = false := beq_eq_false_iff_ne.mpr (Ne.symm (Nat.ne_of_lt I.big))
  have I1 := I.laid (a := s.heap.objs.size) (o := .dK []) (h' := s.heap.push { cls := .type "dict", data := .dict #[] }) (t' := s.toks) (fun _ _ q => Heap.get?_push_of_some _ q) (Nat.le_refl _) (dk_empty s.heap I.big)
  refine wpAny_Dict_walk (knd := mixKind X.prog X.w) rfl rfl (by simp) (by simp) (thn ((pps_cons (pos := pos) pe_int pe_int pps_nil).run pins _ σ _ (fun ps H2 => ps = [(.int 0, .int 0)] ∧ H2 = upd H s.heap.objs.size (.dK [])) I1 ⟨rfl, rfl⟩) fun ws s2 ⟨ps, H2, I2, rel, e1, e2⟩ => ?_)
  subst e1 e2
  obtain ⟨rs, c, rk⟩ := carries_of (P := X.prog) (w := X.w) (kvs := [((.inl 0 : Key), V.int 0)]) rel
  obtain ⟨z, hd, vs0, r0, dd⟩ := dk_of I2.hok upd_same
  cases r0
  refine ⟨rs, c, dd, fun h' dd' hs => ⟨.ref s.heap.objs.size, _, ?_, rfl, q _ hn hb⟩⟩
  have he : ∃ q, h'.get? s.heap.objs.size = some q := let ⟨q, _, _, hq, _⟩ := dd'; ⟨q, hq⟩
  cases rk with
  | @cons p q ps qs h1 h2 =>
    cases h2
    obtain ⟨k, v⟩ := q
    obtain ⟨h3, h4⟩ := h1
    cases h3
    have I3 := d_write I2 (a := s.heap.objs.size) (ob := dicO s.heap.objs.size (dctE X.w true)) (t' := s2.toks + ws.length) (by rw [upd_same]; exact True.intro) hs he ⟨dic_one h4 dd', he, fun h1 h2 ⟨o, ents, ep, e1, r⟩ k => ⟨o, ents, ep, k o e1, r⟩⟩
    rw [upd_upd] at I3
    exact I3
end
end RL

namespace RL
open PySem PySem.Spec L2
section
variable {X : Cx}
theorem SqT.up {K : PySem.W.Frag} {H0 H : Hp} (s : Same H0 H) {a : Addr} {xs : List V} (h : SqT K H0 a xs) : SqT K H a xs := SqT.mono s h
theorem op_addB : OpR X (binaryOp .Add) (rB (gp X) addD) := by
  intro pins s σ H x y v u Q I rx ry ⟨H0, d, e, t, sm, hd, he, hf, o⟩
  cases d <;> cases e <;> simp only [addD] at hf <;> first | cases hf | skip
  · rename_i a j
    cases hd.bool; cases he.int
    cases rx
    obtain ⟨t, rfl⟩ := ry
    exact IntBool.add_bool_int ⟨.int ((if a = true then (1 : Int) else 0) + j), H, I.tok _, ⟨_, rfl⟩, o.sc sm (.int _)⟩
  · rename_i i j
    cases hd.int; cases he.int
    exact op_add pins s σ H _ _ v u Q I rx ry ⟨i, j, rfl, rfl, o.sc sm (.int _)⟩
  · rename_i a b
    split at hf
    · cases hf
      cases hd.str; cases he.str
      exact op_add_str pins s σ H _ _ v u Q I rx ry ⟨a, b, rfl, rfl, by rw [size_eq]; assumption, o.sc sm (.str _)⟩
    · cases hf
  · rename_i xs ys
    split at hf
    · cases hf
      obtain ⟨a, vs, rfl, ha, ra⟩ := hd.lst sm
      obtain ⟨b, ws, rfl, hb, rb⟩ := he.lst sm
      exact op_catG pins s σ H _ _ v u Q I rx ry ⟨a, b, vs, ws, rfl, rfl, ha, hb, by rw [ra.length, rb.length, size_eq]; assumption, fun p n => o.newL sm (ra.append rb) p n⟩
    · cases hf
  · rename_i xs ys
    split at hf
    · cases hf
      obtain ⟨a, vs, rfl, ha, ra⟩ := hd.tup
      obtain ⟨b, ws, rfl, hb, rb⟩ := he.tup
      refine op_catA pins s σ H _ _ v u Q I rx ry ⟨a, b, vs, ws, rfl, rfl, SqT.mono sm ha, SqT.mono sm hb, by rw [ra.length, rb.length, size_eq]; assumption, fun e => ?_, fun _ e => ?_, fun _ _ p n => o.newT sm (ra.append rb) p n⟩
      · subst e
        cases ra
        exact o.here sm (.tup hb rb)
      · subst e
        cases rb
        rw [List.append_nil] at o
        exact o.here sm (.tup ha ra)
    · cases hf
theorem op_subB : OpR X (binaryOp .Sub) (rB (gp X) subD) := by
  intro pins s σ H x y v u Q I rx ry ⟨H0, d, e, t, sm, hd, he, hf, o⟩
  cases d <;> cases e <;> simp only [subD] at hf <;> first | cases hf | skip
  · rename_i a j
    cases hd.bool; cases he.int
    cases rx
    obtain ⟨t, rfl⟩ := ry
    exact IntBool.sub_bool_int ⟨.int ((if a = true then (1 : Int) else 0) - j), H, I.tok _, ⟨_, rfl⟩, o.sc sm (.int _)⟩
  rename_i i j
  cases hd.int; cases he.int
  exact op_sub pins s σ H _ _ v u Q I rx ry ⟨i, j, rfl, rfl, o.sc sm (.int _)⟩
theorem op_mulB : OpR X (binaryOp .Mult) (rB (gp X) mulD) := by
  intro pins s σ H x y v u Q I rx ry ⟨H0, d, e, t, sm, hd, he, hf, o⟩
  cases d <;> cases e <;> simp only [mulD] at hf <;> first | cases hf | skip
  · rename_i i j
    split at hf
    · rename_i hm
      cases hf
      cases hd.int; cases he.int
      simp only [mulOk, Bool.or_eq_true, decide_eq_true_eq] at hm
      rcases hm with (hm | hm) | hm
      · exact op_mul pins s σ H _ _ v u Q I rx ry ⟨i, j, rfl, rfl, .inl hm, o.sc sm (.int _)⟩
      · exact op_mul pins s σ H _ _ v u Q I rx ry ⟨i, j, rfl, rfl, .inr hm, o.sc sm (.int _)⟩
      · exact op_mulW pins s σ H _ _ v u Q I rx ry ⟨i, j, rfl, rfl, hm, o.sc sm (.int _)⟩
    · cases hf
  · rename_i xs k
    split at hf
    · rename_i hm
      cases hf
      obtain ⟨a, vs, rfl, ha, ra⟩ := hd.tup
      cases he.int
      have hl := ra.length
      refine op_repT pins s σ H _ _ v u Q I rx ry ⟨a, k, vs, rfl, rfl, SqT.mono sm ha, fun e => hm.1 ?_, hm.2.1, hm.2.2.1, by rw [hl]; exact hm.2.2.2, fun p n => o.newT sm (ra.rep k.toNat) p n⟩
      subst e
      exact List.eq_nil_of_length_eq_zero hl.symm
    · cases hf
theorem op_modB : OpR X (binaryOp .Mod) (rB (gp X) modD) := by
  intro pins s σ H x y v u Q I rx ry ⟨H0, d, e, t, sm, hd, he, hf, o⟩
  cases d <;> cases e <;> simp only [modD] at hf <;> first | cases hf | skip
  rename_i i j
  split at hf
  · cases hf
    cases hd.int; cases he.int
    exact op_mod pins s σ H _ _ v u Q I rx ry ⟨i, j, rfl, rfl, by assumption, o.sc sm (.int _)⟩
  · cases hf
theorem op_divB : OpR X (binaryOp .FloorDiv) (rB (gp X) divD) := by
  intro pins s σ H x y v u Q I rx ry ⟨H0, d, e, t, sm, hd, he, hf, o⟩
  cases d <;> cases e <;> simp only [divD] at hf <;> first | cases hf | skip
  rename_i i j
  split at hf
  · cases hf
    cases hd.int; cases he.int
    exact op_fdivW pins s σ H _ _ v u Q I rx ry ⟨i, j, rfl, rfl, by assumption, o.sc sm (.int _)⟩
  · cases hf
theorem op_powB : OpR X (binaryOp .Pow) (rB (gp X) powD) := by
  intro pins s σ H x y v u Q I rx ry ⟨H0, d, e, t, sm, hd, he, hf, o⟩
  cases d <;> cases e <;> simp only [powD] at hf <;> first | cases hf | skip
  rename_i i j
  split at hf
  · cases hf
    cases hd.int; cases he.int
    exact op_pow pins s σ H _ _ v u Q I rx ry ⟨i, j, rfl, rfl, by assumption, o.sc sm (.int _)⟩
  · cases hf
theorem op_bin (op : Operator) : OpR X (binaryOp op) (rB (gp X) (binD op)) := by
  have no : ∀ op, OpR X (binaryOp op) (rB (gp X) fun _ _ => none) := fun op pins s σ H x y v u Q I rx ry ⟨_, _, _, _, _, _, _, hf, _⟩ => nomatch hf
  cases op
  · exact op_addB
  · exact op_subB
  · exact op_mulB
  · exact no _
  · exact no _
  · exact op_modB
  · exact op_powB
  · exact no _
  · exact no _
  · exact no _
  · exact no _
  · exact no _
  · exact op_divB

/-! comparisons -/
def isSc : D → Bool
  | .none => true
  | .bool _ => true
  | .int _ => true
  | .str _ => true
  | _ => false
def eqOk (d e : D) : Bool := SeqAt.shaped d && SeqAt.shaped e
mutual
theorem Rp.dp {G : Gp} {H : Hp} : ∀ {v : V} {d : D}, Rp G H v d → d.canLay0 = true → Dp G.K H v d
  | _, _, .non, _ => .non
  | _, _, .bl b, _ => .bl b
  | _, _, .int i, _ => .int i
  | _, _, .str x, _ => .str x
  | _, _, .lst h r, c => .lst h (Rps.dp r (by simpa only [PyData.canLay0] using c))
  | _, _, .tup h r, c => .tup h (Rps.dp r (by simpa only [PyData.canLay0] using c))
  | _, _, .dic _ _ _, c => by simp [PyData.canLay0] at c
theorem Rps.dp {G : Gp} {H : Hp} : ∀ {vs : List V} {ds : List D}, Rps G H vs ds → PyData.canLayAll0 ds = true → DpAll G.K H vs ds
  | _, _, .nil, _ => .nil
  | _, _, .cons h r, c => by
    simp only [PyData.canLayAll0, Bool.and_eq_true] at c
    exact .cons (Rp.dp h c.1) (Rps.dp r c.2)
end
theorem RV.dp {G : Gp} {H0 H : Hp} {v : V} {d : D} (s : Same H0 H) (h : RV G H0 H v d) (c : SeqAt.shaped d = true) : Dp G.K H v d := (h.rp s).dp (SeqAt.canLay_of_shaped c)
def isNoneD : D → Bool
  | .none => true
  | _ => false
/-- two lists, one of them empty -/
def empL : D → D → Bool
  | .list [], .list _ => true
  | .list _, .list [] => true
  | _, _ => false
def cmpD : CmpOp → D → D → Option Bool
  | .Eq, d, e => if (eqOk d e || empL d e) = true then some (PyData.eqv d e) else none
  | .NotEq, d, e => if (eqOk d e || empL d e) = true then some (!PyData.eqv d e) else none
  | .Lt, .int i, .int j => some (decide (i < j))
  | .LtE, .int i, .int j => some (decide (i ≤ j))
  | .Gt, .int i, .int j => some (decide (j < i))
  | .GtE, .int i, .int j => some (decide (j ≤ i))
  | .Is, d, .none => some (isNoneD d)
  | .IsNot, d, .none => some (!isNoneD d)
  | .Is, .bool a, .bool b => some (a == b)
  | .IsNot, .bool a, .bool b => some (!(a == b))
  | .In, d, .list ds => if eqOk d (.list ds) = true then some (ds.any fun z => PyData.eqv z d) else none
  | .NotIn, d, .list ds => if eqOk d (.list ds) = true then some (!ds.any fun z => PyData.eqv z d) else none
  | .In, d, .tuple ds => if eqOk d (.tuple ds) = true then some (ds.any fun z => PyData.eqv z d) else none
  | .NotIn, d, .tuple ds => if eqOk d (.tuple ds) = true then some (!ds.any fun z => PyData.eqv z d) else none
  | .In, .str x, .str y => some (!(Builtin.Str.occurrences y x 0 y.length 1).isEmpty)
  | .NotIn, .str x, .str y => some (!(!(Builtin.Str.occurrences y x 0 y.length 1).isEmpty))
  | _, _, _ => none
def rC (G : Gp) (f : D → D → Option Bool) : R2 := fun x y H Q => ∃ H0 d e b, Same H0 H ∧ RV G H0 H x d ∧ RV G H0 H y e ∧ f d e = some b ∧ Q (.bl b) H
theorem RV.isNone {G : Gp} {H0 H : Hp} {v : V} {d : D} (h : RV G H0 H v d) : decide (v = .non) = isNoneD d := by
  rcases h with h | ⟨a, rfl, h⟩
  · cases h <;> rfl
  · cases d with
    | none => exact False.elim h
    | _ => rfl

theorem empL_inv {d e : D} (h : empL d e = true) : ∃ xs ys, d = .list xs ∧ e = .list ys ∧ ((xs = [] ∧ ys = []) ∨ xs.length ≠ ys.length) := by
  unfold empL at h
  split at h
  · rename_i ys
    refine ⟨_, _, rfl, rfl, ?_⟩
    cases ys with
    | nil => exact .inl ⟨rfl, rfl⟩
    | cons y ys => exact .inr (by simp)
  · rename_i xs _
    refine ⟨_, _, rfl, rfl, ?_⟩
    cases xs with
    | nil => exact .inl ⟨rfl, rfl⟩
    | cons y ys => exact .inr (by simp)
  · cases h
theorem op_eqE (hu : X.A.units + 65 < cLine) {x y : V} {pins : List (Addr × Obj)} {s : Shared} {σ : St} {H : Hp} {v u : Value} {Q : VK} (I : Inv X pins σ H s) (rx : RelV x v) (ry : RelV y u) {H0 : Hp} {d e : D} (sm : Same H0 H) (hd : RV (gp X) H0 H x d) (he : RV (gp X) H0 H y e) (c : empL d e = true)
    (q : Q (.bl (PyData.eqv d e)) H) : wpAny (model X.prog X.w) X.A (compareOp .Eq v u) (fun v s' => ∃ x H', Inv X pins σ H' s' ∧ RelV x v ∧ Q x H') X.xe s := by
  obtain ⟨xs, ys, rfl, rfl, h⟩ := empL_inv c
  rcases h with ⟨rfl, rfl⟩ | h
  · exact op_eqD (by omega) pins s σ H _ _ v u Q I rx ry ⟨_, _, hd.dp sm rfl, he.dp sm rfl, rfl, rfl, q⟩
  · obtain ⟨a, vs, rfl, ha, ra⟩ := hd.lst sm
    obtain ⟨b2, ws, rfl, hb, rb⟩ := he.lst sm
    obtain ⟨its, r, ⟨o1, n1, e1, hc1, -, hd1⟩, -⟩ := I.list ha
    obtain ⟨its2, r2, ⟨o2, n2, e2, hc2, -, hd2⟩, -⟩ := I.list hb
    cases rx; cases ry
    have l1 := r.length
    have l2 := r2.length
    have l3 := ra.length
    have l4 := rb.length
    have e : PyData.eqv (.list xs) (.list ys) = false := by rw [PyData.eqv]; exact SeqAt.eqvAll_other_length h
    rw [e] at q
    refine SeqAt.eq_list_lengthsAt ⟨o1, e1, hc1, n1, hd1⟩ ⟨o2, e2, hc2, n2, hd2⟩ ?_ (by omega) ⟨.bl false, H, I, rfl, q⟩
    rw [bne_iff_ne, List.size_toArray, List.size_toArray]
    omega
theorem op_neE (hu : X.A.units + 65 < cLine) {x y : V} {pins : List (Addr × Obj)} {s : Shared} {σ : St} {H : Hp} {v u : Value} {Q : VK} (I : Inv X pins σ H s) (rx : RelV x v) (ry : RelV y u) {H0 : Hp} {d e : D} (sm : Same H0 H) (hd : RV (gp X) H0 H x d) (he : RV (gp X) H0 H y e) (c : empL d e = true)
    (q : Q (.bl (!PyData.eqv d e)) H) : wpAny (model X.prog X.w) X.A (compareOp .NotEq v u) (fun v s' => ∃ x H', Inv X pins σ H' s' ∧ RelV x v ∧ Q x H') X.xe s := by
  obtain ⟨xs, ys, rfl, rfl, h⟩ := empL_inv c
  rcases h with ⟨rfl, rfl⟩ | h
  · exact op_neD (by omega) pins s σ H _ _ v u Q I rx ry ⟨_, _, hd.dp sm rfl, he.dp sm rfl, rfl, rfl, q⟩
  · obtain ⟨a, vs, rfl, ha, ra⟩ := hd.lst sm
    obtain ⟨b2, ws, rfl, hb, rb⟩ := he.lst sm
    obtain ⟨its, r, ⟨o1, n1, e1, hc1, -, hd1⟩, -⟩ := I.list ha
    obtain ⟨its2, r2, ⟨o2, n2, e2, hc2, -, hd2⟩, -⟩ := I.list hb
    cases rx; cases ry
    have l1 := r.length
    have l2 := r2.length
    have l3 := ra.length
    have l4 := rb.length
    have e : PyData.eqv (.list xs) (.list ys) = false := by rw [PyData.eqv]; exact SeqAt.eqvAll_other_length h
    rw [e] at q
    refine SeqAt.RcNeAt.lists_lengths ⟨o1, e1, hc1, n1, hd1⟩ ⟨o2, e2, hc2, n2, hd2⟩ ?_ (by omega) _ _ _ _ ⟨.bl true, H, I, rfl, q⟩
    rw [bne_iff_ne, List.size_toArray, List.size_toArray]
    omega
theorem op_eqC (hu : X.A.units + 65 < cLine) (op : CmpOp) : OpR X (compareOp op) (rC (gp X) (cmpD op)) := by
  intro pins s σ H x y v u Q I rx ry ⟨H0, d, e, b, sm, hd, he, hf, q⟩
  cases op with
  | Eq =>
    simp only [cmpD] at hf
    split at hf
    · rename_i c
      cases hf
      rw [Bool.or_eq_true] at c
      rcases c with c | c
      · rw [eqOk, Bool.and_eq_true] at c
        exact op_eqD (by omega) pins s σ H _ _ v u Q I rx ry ⟨d, e, hd.dp sm c.1, he.dp sm c.2, c.1, c.2, q⟩
      · exact op_eqE hu I rx ry sm hd he c q
    · cases hf
  | NotEq =>
    simp only [cmpD] at hf
    split at hf
    · rename_i c
      cases hf
      rw [Bool.or_eq_true] at c
      rcases c with c | c
      · rw [eqOk, Bool.and_eq_true] at c
        exact op_neD (by omega) pins s σ H _ _ v u Q I rx ry ⟨d, e, hd.dp sm c.1, he.dp sm c.2, c.1, c.2, q⟩
      · exact op_neE hu I rx ry sm hd he c q
    · cases hf
  | Lt =>
    cases d <;> cases e <;> simp only [cmpD] at hf <;> first | cases hf | skip
    cases hd.int; cases he.int
    exact op_lt pins s σ H _ _ v u Q I rx ry ⟨_, _, rfl, rfl, q⟩
  | LtE =>
    cases d <;> cases e <;> simp only [cmpD] at hf <;> first | cases hf | skip
    cases hd.int; cases he.int
    exact op_le pins s σ H _ _ v u Q I rx ry ⟨_, _, rfl, rfl, q⟩
  | Gt =>
    cases d <;> cases e <;> simp only [cmpD] at hf <;> first | cases hf | skip
    cases hd.int; cases he.int
    exact op_gt pins s σ H _ _ v u Q I rx ry ⟨_, _, rfl, rfl, q⟩
  | GtE =>
    cases d <;> cases e <;> simp only [cmpD] at hf <;> first | cases hf | skip
    cases hd.int; cases he.int
    exact op_ge pins s σ H _ _ v u Q I rx ry ⟨_, _, rfl, rfl, q⟩
  | Is =>
    have hn : e = .none → wpAny (model X.prog X.w) X.A (compareOp .Is v u) (EP X pins σ Q) X.xe s := by
      intro z
      subst z
      cases he.non
      simp only [cmpD] at hf
      cases hf
      exact op_isN pins s σ H _ _ v u Q I rx ry ⟨rfl, by rw [hd.isNone]; exact q⟩
    cases e with
    | none => exact hn rfl
    | bool b2 =>
      cases d <;> simp only [cmpD] at hf <;> first | cases hf | skip
      cases hd.bool; cases he.bool
      exact op_isBl pins s σ H _ _ v u Q I rx ry ⟨_, _, rfl, rfl, q⟩
    | _ => simp [cmpD] at hf
  | IsNot =>
    have hn : e = .none → wpAny (model X.prog X.w) X.A (compareOp .IsNot v u) (EP X pins σ Q) X.xe s := by
      intro z
      subst z
      cases he.non
      simp only [cmpD] at hf
      cases hf
      refine op_notN pins s σ H _ _ v u Q I rx ry ⟨rfl, ?_⟩
      rw [hd.isNone]
      cases d <;> exact q
    cases e with
    | none => exact hn rfl
    | bool b2 =>
      cases d <;> simp only [cmpD] at hf <;> first | cases hf | skip
      cases hd.bool; cases he.bool
      exact op_notBl pins s σ H _ _ v u Q I rx ry ⟨_, _, rfl, rfl, q⟩
    | _ => simp [cmpD] at hf
  | In =>
    cases e with
    | list ds =>
      simp only [cmpD] at hf
      split at hf
      · rename_i c
        cases hf
        rw [eqOk, Bool.and_eq_true] at c
        exact op_inD hu pins s σ H _ _ v u Q I rx ry ⟨d, ds, hd.dp sm c.1, he.dp sm c.2, c.1, c.2, q⟩
      · cases hf
    | tuple ds =>
      simp only [cmpD] at hf
      split at hf
      · rename_i c
        cases hf
        rw [eqOk, Bool.and_eq_true] at c
        obtain ⟨as, r1⟩ := Dp.reads I d x v (hd.dp sm c.1) rx
        obtain ⟨bs, r2⟩ := Dp.reads I (.tuple ds) y u (he.dp sm c.2) ry
        have hc := SeqAt.canLay_of_shaped c.2
        have hdep := SeqAt.depth_of_shaped c.1
        exact SeqAt.in_tuple_reads r2 r1 (by simpa only [PyData.canLay0] using hc) (SeqAt.canLay_of_shaped c.1) (by
          have h2 : min (PyData.depthAll ds) d.depth ≤ d.depth := Nat.min_le_right _ _
          omega) ⟨.bl _, H, I, rfl, q⟩
      · cases hf
    | str z =>
      cases d <;> simp only [cmpD] at hf <;> first | cases hf | skip
      cases hd.str; cases he.str
      exact op_in_str pins s σ H _ _ v u Q I rx ry ⟨_, _, rfl, rfl, q⟩
    | _ => simp [cmpD] at hf
  | NotIn =>
    cases e with
    | list ds =>
      simp only [cmpD] at hf
      split at hf
      · rename_i c
        cases hf
        rw [eqOk, Bool.and_eq_true] at c
        exact op_notInD hu pins s σ H _ _ v u Q I rx ry ⟨d, ds, hd.dp sm c.1, he.dp sm c.2, c.1, c.2, q⟩
      · cases hf
    | tuple ds =>
      simp only [cmpD] at hf
      split at hf
      · rename_i c
        cases hf
        rw [eqOk, Bool.and_eq_true] at c
        obtain ⟨as, r1⟩ := Dp.reads I d x v (hd.dp sm c.1) rx
        obtain ⟨bs, r2⟩ := Dp.reads I (.tuple ds) y u (he.dp sm c.2) ry
        have hc := SeqAt.canLay_of_shaped c.2
        have hdep := SeqAt.depth_of_shaped c.1
        exact SeqAt.notIn_tuple_reads r2 r1 (by simpa only [PyData.canLay0] using hc) (SeqAt.canLay_of_shaped c.1) (by
          have h2 : min (PyData.depthAll ds) d.depth ≤ d.depth := Nat.min_le_right _ _
          omega) ⟨.bl _, H, I, rfl, q⟩
      · cases hf
    | str z =>
      cases d <;> simp only [cmpD] at hf <;> first | cases hf | skip
      cases hd.str; cases he.str
      exact op_notin_str pins s σ H _ _ v u Q I rx ry ⟨_, _, rfl, rfl, q⟩
    | _ => simp [cmpD] at hf
end
end RL

namespace RL
open PySem PySem.Spec L2
/-! subscripts, slices -/
def cutD (ds : List D) (lo hi : Option Int) : List D := (ds.drop (HT.sIx ds.length 0 lo)).take (HT.sIx ds.length ds.length hi - HT.sIx ds.length 0 lo)
def idxD : D → D → Option T
  | .list ds, .int i => (atI ds i).map .p
  | .tuple ds, .int i => (atI ds i).map .p
  | .str z, .int i => if z.length ≤ 16777216 then (atI z.cps.toList i).map fun c => .p (.str ⟨#[c]⟩) else none
  | _, _ => none
def slcD (d : D) (lo hi : Option Int) : Option T :=
  match d with
  | .list ds => some (.f (.list (cutD ds lo hi)))
  | .tuple ds => some (.p (.tuple (cutD ds lo hi)))
  | _ => none
theorem Rps.atI {G : Gp} {H : Hp} {vs : List V} {ds : List D} {i : Int} {d : D} (r : Rps G H vs ds) (e : L2.atI ds i = some d) : ∃ v, L2.atI vs i = some v ∧ Rp G H v d := by
  unfold L2.atI at e ⊢
  rw [r.length]
  cases q : ixN ds.length i with
  | none => rw [q] at e; cases e
  | some j =>
    rw [q] at e
    exact r.get e
theorem Rps.cut {G : Gp} {H : Hp} {vs : List V} {ds : List D} (r : Rps G H vs ds) (lo hi : Option Int) : Rps G H (cutV vs lo hi) (cutD ds lo hi) := by
  unfold cutV cutD
  rw [r.length]
  exact (r.drop _).take _
theorem cutD_whole {ds : List D} {lo hi : Option Int} (h : HT.sIx ds.length 0 lo = 0 ∧ HT.sIx ds.length ds.length hi = ds.length) : cutD ds lo hi = ds := by
  unfold cutD
  rw [h.1, h.2]
  simp
def rS (G : Gp) (f : D → Option Int → Option Int → Option T) : V → Option Int → Option Int → Hp → VK → Prop := fun x lo hi H Q => ∃ H0 d t, Same H0 H ∧ RV G H0 H x d ∧ f d lo hi = some t ∧ VOut G H0 H t Q
section
variable {X : Cx}
theorem ix_D : IxR X (rB (gp X) idxD) := by
  intro value slice pins s σ H x y v u Q I rx ry ⟨H0, d, e, t, sm, hd, he, hf, o⟩ hs
  cases d <;> cases e <;> simp only [idxD] at hf <;> first | cases hf | skip
  · rename_i z i
    split at hf
    · rename_i hz
      obtain ⟨c, hc, rfl⟩ := Option.map_eq_some_iff.mp hf
      cases hd.str; cases he.int
      exact ix_str value slice pins s σ H _ _ v u Q I rx ry ⟨z, i, c, rfl, rfl, by rw [size_eq]; exact hz, hc, o.sc sm (.str _)⟩ hs
    · cases hf
  · rename_i ds i
    obtain ⟨c, hc, rfl⟩ := Option.map_eq_some_iff.mp hf
    obtain ⟨a, vs, rfl, ha, ra⟩ := hd.lst sm
    cases he.int
    obtain ⟨w, hw, rw'⟩ := ra.atI hc
    exact ix_list value slice pins s σ H _ _ v u Q I rx ry ⟨a, vs, i, w, rfl, rfl, ha, hw, o.here sm rw'⟩ hs
  · rename_i ds i
    obtain ⟨c, hc, rfl⟩ := Option.map_eq_some_iff.mp hf
    obtain ⟨a, vs, rfl, ha, ra⟩ := hd.tup
    cases he.int
    obtain ⟨w, hw, rw'⟩ := ra.atI hc
    exact ix_tup value slice pins s σ H _ _ v u Q I rx ry ⟨a, vs, i, w, rfl, rfl, SqT.mono sm ha, hw, o.here sm rw'⟩ hs
theorem sl_D : SlR X (rS (gp X) slcD) := by
  intro pins s σ H x v vl vu lo hi sl Q I rx hs pl pu ⟨H0, d, t, sm, hd, hf, o⟩
  cases d with
  | list ds =>
    cases hf
    obtain ⟨a, vs, rfl, ha, ra⟩ := hd.lst sm
    exact sl_list pins s σ H _ v vl vu lo hi sl Q I rx hs pl pu ⟨a, vs, rfl, ha, fun p n => o.newL sm (ra.cut lo hi) p n⟩
  | tuple ds =>
    cases hf
    obtain ⟨a, vs, rfl, ha, ra⟩ := hd.tup
    refine sl_tupA pins s σ H _ v vl vu lo hi sl Q I rx hs pl pu ⟨a, vs, rfl, SqT.mono sm ha, fun q => ?_, fun _ p n => o.newT sm (ra.cut lo hi) p n⟩
    rw [ra.length] at q
    rw [cutD_whole q] at o
    exact o.here sm (.tup ha ra)
  | _ => exact nomatch hf

/-! built-in functions -/
def isaD : String → D → Option Bool
  | "bool", d => some d.isBool
  | "int", d => some d.isInt
  | "str", d => some d.isStr
  | "list", d => some d.isList
  | "tuple", d => some d.isTuple
  | "dict", d => some d.isDict
  | _, _ => none
inductive Prim where
  | len | int | tuple | list | all | any | max | min | sum | abs | sorted | str
def allB : List D → Option (List Bool)
  | [] => some []
  | .bool b :: ds => (allB ds).map (b :: ·)
  | _ => none
def allI : List D → Option (List Int)
  | [] => some []
  | .int i :: ds => (allI ds).map (i :: ·)
  | _ => none
def lenD : D → Option T
  | .list ds => some (.p (.int ds.length))
  | .tuple ds => some (.p (.int ds.length))
  | .str z => if z.length ≤ 16777216 then some (.p (.int z.length)) else none
  | _ => none
def intD : D → Option T
  | .int i => some (.p (.int i))
  | .bool b => some (.p (.int (if b then 1 else 0)))
  | _ => none
def tupD : D → Option T
  | .tuple ds => some (.p (.tuple ds))
  | .list ds => some (.p (.tuple ds))
  | _ => none
def lstD : D → Option T
  | .tuple ds => some (.f (.list ds))
  | .list ds => some (.f (.list ds))
  | _ => none
def allD : D → Option T
  | .list ds => (allB ds).map fun bs => .p (.bool (bs.all id))
  | _ => none
def anyD : D → Option T
  | .list ds => (allB ds).map fun bs => .p (.bool (bs.any id))
  | _ => none
def absD : D → Option T
  | .int i => some (.p (.int (if i < 0 then -i else i)))
  | _ => none
def maxD : D → D → Option T
  | .int i, .int j => some (.p (.int (if j > i then j else i)))
  | _, _ => none
def minD : D → D → Option T
  | .int i, .int j => some (.p (.int (if j < i then j else i)))
  | _, _ => none
def maxI (i : Int) (is : List Int) : Int := is.foldl (fun a b => if b > a then b else a) i
def minI (i : Int) (is : List Int) : Int := is.foldl (fun a b => if b < a then b else a) i
def maxOf : List Int → Option T
  | [] => none
  | i :: is => some (.p (.int (maxI i is)))
def minOf : List Int → Option T
  | [] => none
  | i :: is => some (.p (.int (minI i is)))
def maxL1 : D → Option T
  | .list ds => (allI ds).bind maxOf
  | _ => none
def minL1 : D → Option T
  | .list ds => (allI ds).bind minOf
  | _ => none
def sumL1 : D → Option T
  | .list ds => (allI ds).map fun is => .p (.int is.sum)
  | _ => none
/-- max(xs, default=z) -/
def mxdD : D → D → Option T
  | .list ds, .int z => (allI ds).map fun is => .p (.int (match is with | [] => z | i :: is => maxI i is))
  | _, _ => none
def prim1 : Prim → D → Option T
  | .len => lenD
  | .int => intD
  | .tuple => tupD
  | .list => lstD
  | .all => allD
  | .any => anyD
  | .abs => absD
  | .max => maxL1
  | .min => minL1
  | .sum => sumL1
  | _ => fun _ => none
def prim2 : Prim → D → D → Option T
  | .max => maxD
  | .min => minD
  | _ => fun _ _ => none
def primD (k : Prim) : List D → Option T
  | [d] => prim1 k d
  | [d, e] => prim2 k d e
  | _ => none
def rF (G : Gp) (f : List D → Option T) : List V → Hp → VK → Prop := fun vs H Q => ∃ H0 ds t, Same H0 H ∧ Paired (RV G H0 H) vs ds ∧ f ds = some t ∧ VOut G H0 H t Q

def primV : Prim → Value
  | .len => .builtin "len"
  | .int => .type "int"
  | .tuple => .type "tuple"
  | .list => .type "list"
  | .all => .builtin "all"
  | .any => .builtin "any"
  | .max => .builtin "max"
  | .min => .builtin "min"
  | .sum => .builtin "sum"
  | .abs => .builtin "abs"
  | .sorted => .builtin "sorted"
  | .str => .type "str"
theorem allB_map : ∀ {ds : List D} {bs : List Bool}, allB ds = some bs → ds = bs.map PyData.bool
  | [], _, h => by cases h; rfl
  | d :: ds, bs, h => by
    cases d <;> simp only [allB] at h <;> first | cases h | skip
    obtain ⟨r, hr, rfl⟩ := Option.map_eq_some_iff.mp h
    rw [allB_map hr]; rfl
theorem allI_map : ∀ {ds : List D} {is : List Int}, allI ds = some is → ds = is.map PyData.int
  | [], _, h => by cases h; rfl
  | d :: ds, is, h => by
    cases d <;> simp only [allI] at h <;> first | cases h | skip
    obtain ⟨r, hr, rfl⟩ := Option.map_eq_some_iff.mp h
    rw [allI_map hr]; rfl
theorem Rps.bools {G : Gp} {H : Hp} : ∀ {vs : List V} {bs : List Bool}, Rps G H vs (bs.map PyData.bool) → vs = bs.map V.bl
  | _, [], h => by cases h; rfl
  | _, b :: bs, h => by
    cases h with
    | cons a r => cases a; rw [Rps.bools r]; rfl
theorem Rps.ints {G : Gp} {H : Hp} : ∀ {vs : List V} {is : List Int}, Rps G H vs (is.map PyData.int) → vs = is.map V.int
  | _, [], h => by cases h; rfl
  | _, i :: is, h => by
    cases h with
    | cons a r => cases a; rw [Rps.ints r]; rfl
theorem paired1 {G : Gp} {H0 H : Hp} {vs : List V} {d : D} (h : Paired (RV G H0 H) vs [d]) : ∃ v, vs = [v] ∧ RV G H0 H v d := by
  cases h with
  | cons a r => cases r; exact ⟨_, rfl, a⟩
theorem paired2 {G : Gp} {H0 H : Hp} {vs : List V} {d e : D} (h : Paired (RV G H0 H) vs [d, e]) : ∃ v u, vs = [v, u] ∧ RV G H0 H v d ∧ RV G H0 H u e := by
  cases h with
  | cons a r =>
    cases r with
    | cons b r => cases r; exact ⟨_, _, rfl, a, b⟩
theorem maxI_ge : ∀ (is : List Int) (i : Int), i ≤ maxI i is ∧ ∀ j ∈ is, j ≤ maxI i is
  | [], i => ⟨Int.le_refl _, nofun⟩
  | k :: is, i => by
    obtain ⟨a, b⟩ := maxI_ge is (if k > i then k else i)
    have e : maxI i (k :: is) = maxI (if k > i then k else i) is := rfl
    have q : i ≤ (if k > i then k else i) ∧ k ≤ (if k > i then k else i) := by split <;> omega
    rw [e]
    generalize (if k > i then k else i) = u at a b q ⊢
    refine ⟨by omega, fun j hj => ?_⟩
    rcases List.mem_cons.mp hj with z | z
    · subst z; omega
    · exact b j z
theorem maxI_mem : ∀ (is : List Int) (i : Int), maxI i is = i ∨ maxI i is ∈ is
  | [], i => .inl rfl
  | k :: is, i => by
    have e : maxI i (k :: is) = maxI (if k > i then k else i) is := rfl
    rw [e]
    rcases maxI_mem is (if k > i then k else i) with h | h
    · rw [h]
      split
      · exact .inr List.mem_cons_self
      · exact .inl rfl
    · exact .inr (List.mem_cons_of_mem _ h)
theorem minI_le : ∀ (is : List Int) (i : Int), minI i is ≤ i ∧ ∀ j ∈ is, minI i is ≤ j
  | [], i => ⟨Int.le_refl _, nofun⟩
  | k :: is, i => by
    obtain ⟨a, b⟩ := minI_le is (if k < i then k else i)
    have e : minI i (k :: is) = minI (if k < i then k else i) is := rfl
    have q : (if k < i then k else i) ≤ i ∧ (if k < i then k else i) ≤ k := by split <;> omega
    rw [e]
    generalize (if k < i then k else i) = u at a b q ⊢
    refine ⟨by omega, fun j hj => ?_⟩
    rcases List.mem_cons.mp hj with z | z
    · subst z; omega
    · exact b j z
theorem minI_mem : ∀ (is : List Int) (i : Int), minI i is = i ∨ minI i is ∈ is
  | [], i => .inl rfl
  | k :: is, i => by
    have e : minI i (k :: is) = minI (if k < i then k else i) is := rfl
    rw [e]
    rcases minI_mem is (if k < i then k else i) with h | h
    · rw [h]
      split
      · exact .inr List.mem_cons_self
      · exact .inl rfl
    · exact .inr (List.mem_cons_of_mem _ h)
theorem max_one {m i : Int} {is : List Int} (h1 : m ∈ i :: is) (h2 : ∀ y, y ∈ i :: is → y ≤ m) : m = maxI i is := by
  obtain ⟨a, b⟩ := maxI_ge is i
  have c : maxI i is ≤ m := h2 _ (by
    rcases maxI_mem is i with h | h
    · rw [h]; exact List.mem_cons_self
    · exact List.mem_cons_of_mem _ h)
  rcases List.mem_cons.mp h1 with z | z
  · omega
  · have := b m z; omega
theorem min_one {m i : Int} {is : List Int} (h1 : m ∈ i :: is) (h2 : ∀ y, y ∈ i :: is → m ≤ y) : m = minI i is := by
  obtain ⟨a, b⟩ := minI_le is i
  have c : m ≤ minI i is := h2 _ (by
    rcases minI_mem is i with h | h
    · rw [h]; exact List.mem_cons_self
    · exact List.mem_cons_of_mem _ h)
  rcases List.mem_cons.mp h1 with z | z
  · omega
  · have := b m z; omega
theorem cr_prim (hc : X.calm = true) (k : Prim) : CallR X (primV k) (rF (gp X) (primD k)) := by
  intro pins s σ H vs us Q I r ⟨H0, ds, t, sm, hp, hf, o⟩
  rcases ds with _ | ⟨d, _ | ⟨e, _ | ⟨e2, ds⟩⟩⟩
  · exact nomatch hf
  · obtain ⟨v, rfl, hd⟩ := paired1 hp
    replace hf : prim1 k d = some t := hf
    cases k with
    | len =>
      cases d with
      | list ds =>
        cases hf
        obtain ⟨a, vs, rfl, ha, ra⟩ := hd.lst sm
        exact call_len_seq pins s σ H _ us Q I r ⟨a, vs, rfl, .inl ha, by rw [ra.length]; exact o.sc sm (.int _)⟩
      | tuple ds =>
        cases hf
        obtain ⟨a, vs, rfl, ha, ra⟩ := hd.tup
        exact call_len_seq pins s σ H _ us Q I r ⟨a, vs, rfl, .inr (SqT.mono sm ha), by rw [ra.length]; exact o.sc sm (.int _)⟩
      | str z =>
        simp only [prim1, lenD] at hf
        split at hf
        · cases hf
          cases hd.str
          exact call_len_str pins s σ H _ us Q I r ⟨z, rfl, by rw [size_eq]; assumption, o.sc sm (.int _)⟩
        · cases hf
      | _ => exact nomatch hf
    | int =>
      cases d with
      | int i => cases hf; cases hd.int; exact call_int1 pins s σ H _ us Q I r (.inl ⟨i, rfl, o.sc sm (.int _)⟩)
      | bool b => cases hf; cases hd.bool; exact call_int1 pins s σ H _ us Q I r (.inr ⟨b, rfl, o.sc sm (.int _)⟩)
      | _ => exact nomatch hf
    | tuple =>
      cases d with
      | tuple ds =>
        cases hf
        obtain ⟨a, vs, rfl, ha, ra⟩ := hd.tup
        exact call_tuple_of pins s σ H _ us Q I r ⟨a, vs, rfl, .inr ⟨SqT.mono sm ha, o.here sm (.tup ha ra)⟩⟩
      | list ds =>
        cases hf
        obtain ⟨a, vs, rfl, ha, ra⟩ := hd.lst sm
        exact call_tuple_of pins s σ H _ us Q I r ⟨a, vs, rfl, .inl ⟨ha, fun p n => o.newT sm ra p n⟩⟩
      | _ => exact nomatch hf
    | list =>
      cases d with
      | tuple ds =>
        cases hf
        obtain ⟨a, vs, rfl, ha, ra⟩ := hd.tup
        exact call_list_of pins s σ H _ us Q I r ⟨a, vs, rfl, .inr (SqT.mono sm ha), fun p n => o.newL sm ra p n⟩
      | list ds =>
        cases hf
        obtain ⟨a, vs, rfl, ha, ra⟩ := hd.lst sm
        exact call_list_of pins s σ H _ us Q I r ⟨a, vs, rfl, .inl ha, fun p n => o.newL sm ra p n⟩
      | _ => exact nomatch hf
    | all =>
      cases d with
      | list ds =>
        obtain ⟨bs, hb, rfl⟩ := Option.map_eq_some_iff.mp hf
        obtain ⟨a, vs, rfl, ha, ra⟩ := hd.lst sm
        rw [allB_map hb] at ra
        exact cr_all hc pins s σ H _ us Q I r ⟨a, bs, rfl, by rw [← ra.bools]; exact ha, o.sc sm (.bl _)⟩
      | _ => exact nomatch hf
    | any =>
      cases d with
      | list ds =>
        obtain ⟨bs, hb, rfl⟩ := Option.map_eq_some_iff.mp hf
        obtain ⟨a, vs, rfl, ha, ra⟩ := hd.lst sm
        rw [allB_map hb] at ra
        exact cr_any hc pins s σ H _ us Q I r ⟨a, bs, rfl, by rw [← ra.bools]; exact ha, o.sc sm (.bl _)⟩
      | _ => exact nomatch hf
    | abs =>
      cases d with
      | int i => cases hf; cases hd.int; exact call_abs pins s σ H _ us Q I r ⟨i, rfl, o.sc sm (.int _)⟩
      | _ => exact nomatch hf
    | sum =>
      cases d with
      | list ds =>
        obtain ⟨is, hb, rfl⟩ := Option.map_eq_some_iff.mp hf
        obtain ⟨a, vs, rfl, ha, ra⟩ := hd.lst sm
        rw [allI_map hb] at ra
        exact cr_sum hc pins s σ H _ us Q I r ⟨a, is, rfl, by rw [← ra.ints]; exact ha, o.sc sm (.int _)⟩
      | _ => exact nomatch hf
    | max =>
      cases d with
      | list ds =>
        obtain ⟨is, hb, hm⟩ := Option.bind_eq_some_iff.mp hf
        cases is with
        | nil => exact nomatch hm
        | cons i is =>
          cases hm
          obtain ⟨a, vs, rfl, ha, ra⟩ := hd.lst sm
          rw [allI_map hb] at ra
          exact cr_max hc pins s σ H _ us Q I r ⟨a, i :: is, rfl, by rw [← ra.ints]; exact ha, by simp, fun m h1 h2 => by rw [max_one h1 h2]; exact o.sc sm (.int _)⟩
      | _ => exact nomatch hf
    | min =>
      cases d with
      | list ds =>
        obtain ⟨is, hb, hm⟩ := Option.bind_eq_some_iff.mp hf
        cases is with
        | nil => exact nomatch hm
        | cons i is =>
          cases hm
          obtain ⟨a, vs, rfl, ha, ra⟩ := hd.lst sm
          rw [allI_map hb] at ra
          exact cr_min hc pins s σ H _ us Q I r ⟨a, i :: is, rfl, by rw [← ra.ints]; exact ha, by simp, fun m h1 h2 => by rw [min_one h1 h2]; exact o.sc sm (.int _)⟩
      | _ => exact nomatch hf
    | _ => exact nomatch hf
  · obtain ⟨v, u, rfl, hd, he⟩ := paired2 hp
    replace hf : prim2 k d e = some t := hf
    cases k with
    | max =>
      cases d <;> cases e <;> first | (cases hf; done) | skip
      cases hf; cases hd.int; cases he.int
      exact call_max2 hc pins s σ H _ us Q I r ⟨_, _, rfl, o.sc sm (.int _)⟩
    | min =>
      cases d <;> cases e <;> first | (cases hf; done) | skip
      cases hf; cases hd.int; cases he.int
      exact call_min2 hc pins s σ H _ us Q I r ⟨_, _, rfl, o.sc sm (.int _)⟩
    | _ => exact nomatch hf
  · exact nomatch hf
end
end RL

namespace RL
open PySem PySem.Spec L2 PyProof.Rows
/-! max(xs, default=z) -/
section
variable {prog : Program} {w : World} {A : Around}
/-- the keyword default, handed on from turn to turn -/
abbrev dfl (z : Value) : List (Str × Value) := [(Str.ofString "default", z)]
theorem mxd_turns {R : Result → Shared → Prop} {it S : Addr} {fp wr : List Addr} {n : Nat} {P : Nat → Value → Prop} {St : Nat → Heap → Prop} {bt : Nat → Nat → Bool} (z : Value)
    (W : Walks prog w A.in1 it fp wr n P St) (cmp : CmpOf prog w A.in1 .Gt P bt) (off : S ∉ fp) :
    ∀ (m j : Nat) (s : Shared) (b : Value) (c : Nat), n - (j + 1) = m → j + 1 ≤ n → St (j + 1) s.heap → P (argBest bt j) b → s.heap.get? S = some { cls := .type "list", dict := none, data := .seq #[b, b] c, slots := #[] } →
    (∀ v h' tk, P (argBest bt (n - 1)) v → (∀ a o, a ∉ wr → a ≠ S → s.heap.get? a = some o → h'.get? a = some o) → R (.ok (.ret v)) { s with heap := h', toks := tk }) →
    codeAny (model prog w) A (.builtin "max.loop" ⟨[.ref it, .none, .ref S], dfl z⟩) R s := by
  have offw : S ∉ wr := fun q => off (W.sub _ q)
  have nm : (toString "max" ++ toString ".loop" : String) = "max.loop" := by decide
  intro m
  induction m with
  | zero =>
    intro j s b c hm hj st hb hS done
    have e : j + 1 = n := by omega
    refine codeAny_builtin PySem.F.entry_max_loop ?_; rw [Around.under_plainId PySem.F.plain_max_loop _]
    show wpAny _ A.in1 (seqItems? (.ref S) >>= _) _ _ _
    refine wpAny_bind (wpAny_seqItems hS rfl ?_); show wpAny _ A.in1 (tryCatch (pyNext (.ref it)) _ >>= _) _ _ _
    refine wpAny_bind (wpAny_tryCatch (W.done s _ _ (e ▸ st) fun h' tk keep => ?_))
    have hS2 := keep S _ offw hS
    show wpAny _ A.in1 (updateSeq S (fun _ => #[]) >>= _) _ _ _
    refine wpAny_bind ?_; refine wpAny_updateSeq hS2 rfl (wpAny_bind (wpAny_letGo (wpAny_pure ?_)))
    exact done b _ tk (by rw [← e]; exact hb) fun a o aw aS q => (Heap.get?_update_other _ _ (Ne.symm aS)).trans (keep a o aw q)
  | succ m ih =>
    intro j s b c hm hj st hb hS done
    have lt : j + 1 < n := by omega
    refine codeAny_builtin PySem.F.entry_max_loop ?_; rw [Around.under_plainId PySem.F.plain_max_loop _]
    show wpAny _ A.in1 (seqItems? (.ref S) >>= _) _ _ _
    refine wpAny_bind (wpAny_seqItems hS rfl ?_); show wpAny _ A.in1 (tryCatch (pyNext (.ref it)) _ >>= _) _ _ _
    refine wpAny_bind (wpAny_tryCatch (W.item (j + 1) s _ _ lt st fun v h' tk hv st2 keep => ?_))
    have hS2 := keep S _ offw hS
    show wpAny _ A.in1 (tryCatch (holding [v, v] (richCompare .Gt v b >>= _)) _ >>= _) _ _ _
    refine wpAny_bind (wpAny_tryCatch (wpAny_holding (wpAny_bind (cmp (j + 1) (argBest bt j) v b _ _ _ hv hb ?_)))); refine wpAny_bind (wpAny_holding (wpAny_truthy_bool ?_)); refine wpAny_bind (wpAny_letGo (wpAny_pure ?_))
    cases q : bt (j + 1) (argBest bt j) with
    | true =>
      rw [if_pos rfl]
      refine wpAny_bind ?_; refine wpAny_updateSeq hS2 rfl (wpAny_bind (wpAny_letGo ?_)); rw [nm]
      refine wpAny_pure ⟨plainId_quiet PySem.F.plain_max_loop _, ih (j + 1) _ v _ (by omega) lt (W.frame _ _ _ st2 fun a ha o e => (Heap.get?_update_other _ _ (fun x : S = a => off (by rw [x]; exact ha))).trans e) (by simp only [argBest, q, if_true]; exact hv) (Heap.get?_update_self _ hS2 rfl) ?_⟩
      exact fun u h2 tk2 hu k2 => done u h2 tk2 hu fun a o aw aS e => k2 a o aw aS ((Heap.get?_update_other _ _ (Ne.symm aS)).trans (keep a o aw e))
    | false =>
      rw [if_neg Bool.false_ne_true]
      refine wpAny_bind (wpAny_letGo ?_); rw [nm]
      refine wpAny_pure ⟨plainId_quiet PySem.F.plain_max_loop _, ih (j + 1) _ b c (by omega) lt st2 (by simp only [argBest, q, Bool.false_eq_true, if_false]; exact hb) hS2 ?_⟩
      exact fun u h2 tk2 hu k2 => done u h2 tk2 hu fun a o aw aS e => k2 a o aw aS (keep a o aw e)
theorem mxd_start {R : Result → Shared → Prop} {it S : Addr} {fp wr : List Addr} {n : Nat} {P : Nat → Value → Prop} {St : Nat → Heap → Prop} {bt : Nat → Nat → Bool} (z : Value)
    (W : Walks prog w A.in1 it fp wr n P St) (cmp : CmpOf prog w A.in1 .Gt P bt) (off : S ∉ fp) {s : Shared} {c : Nat} (st : St 0 s.heap) (hS : s.heap.get? S = some { cls := .type "list", dict := none, data := .seq #[] c, slots := #[] })
    (none_ : n = 0 → ∀ h' tk, (∀ a o, a ∉ wr → a ≠ S → s.heap.get? a = some o → h'.get? a = some o) → R (.ok (.ret z)) { s with heap := h', toks := tk })
    (done : 0 < n → ∀ v h' tk, P (argBest bt (n - 1)) v → (∀ a o, a ∉ wr → a ≠ S → s.heap.get? a = some o → h'.get? a = some o) → R (.ok (.ret v)) { s with heap := h', toks := tk }) :
    codeAny (model prog w) A (.builtin "max.loop" ⟨[.ref it, .none, .ref S], dfl z⟩) R s := by
  have offw : S ∉ wr := fun q => off (W.sub _ q)
  have nm : (toString "max" ++ toString ".loop" : String) = "max.loop" := by decide
  refine codeAny_builtin PySem.F.entry_max_loop ?_; rw [Around.under_plainId PySem.F.plain_max_loop _]
  show wpAny _ A.in1 (seqItems? (.ref S) >>= _) _ _ _
  refine wpAny_bind (wpAny_seqItems hS rfl ?_); show wpAny _ A.in1 (tryCatch (pyNext (.ref it)) _ >>= _) _ _ _
  by_cases hn : n = 0
  · refine wpAny_bind (wpAny_tryCatch (W.done s _ _ (hn ▸ st) fun h' tk keep => ?_))
    refine wpAny_bind (wpAny_rule (wpAny_pure ?_))
    exact none_ hn h' tk fun a o aw _ e => keep a o aw e
  · have lt : 0 < n := by omega
    refine wpAny_bind (wpAny_tryCatch (W.item 0 s _ _ lt st fun v h' tk hv st2 keep => ?_))
    have hS2 := keep S _ offw hS
    show wpAny _ A.in1 (updateSeq S (fun _ => #[v, v]) >>= _) _ _ _
    refine wpAny_bind ?_; refine wpAny_updateSeq hS2 rfl ?_; rw [nm]
    refine wpAny_pure ⟨plainId_quiet PySem.F.plain_max_loop _, mxd_turns z W cmp off _ 0 _ v _ rfl lt (W.frame _ _ _ st2 fun a ha o e => (Heap.get?_update_other _ _ (fun x : S = a => off (by rw [x]; exact ha))).trans e) hv (Heap.get?_update_self _ hS2 rfl) ?_⟩
    exact fun u h2 tk2 hu k2 => done lt u h2 tk2 hu fun a o aw aS e => k2 a o aw aS ((Heap.get?_update_other _ _ (Ne.symm aS)).trans (keep a o aw e))
end
theorem mxd_args (a z : Value) : argsOk "max" ⟨[a], dfl z⟩ := by unfold argsOk; kernel_rfl
section
variable {prog : Program} {w : World} {A : Around} {E : Value → Shared → Prop} {s : Shared} {l : Addr} {xs : Array (Int × Tok)}
theorem mxd_list {Q : Value → Shared → Prop} (z : Value) (hh : A.handled = none) (hl : s.heap.IsList l (intItems xs))
    (q0 : xs.size = 0 → ∀ h' tk, (∀ b o, s.heap.get? b = some o → h'.get? b = some o) → Q z { s with heap := h', toks := tk })
    (q1 : 0 < xs.size → ∀ v h' tk, (intItems xs)[argBest (fun i j => decide (numAt xs i > numAt xs j)) (xs.size - 1)]? = some v → (∀ b o, s.heap.get? b = some o → h'.get? b = some o) → Q v { s with heap := h', toks := tk }) :
    wpAny (model prog w) A (call (.builtin "max") [.ref l] (dfl z)) Q E s := by
  have nm : (toString "max" ++ toString ".loop" : String) = "max.loop" := by decide
  refine kmk_tree PySem.F.kind_max PySem.F.plain_max PySem.F.entry_max (mxd_args _ _) ?_
  show wpAny _ A.in1 (Builtin.Builtins.bindParams "max" ["key", "default"] 0 ⟨[], dfl z⟩ >>= _) _ _ s
  refine wpAny_bind (wpAny_of_eq (show Builtin.Builtins.bindParams "max" ["key", "default"] 0 ⟨[], dfl z⟩ = pure [none, some z] from rfl) ?_)
  refine wpAny_bind (wpAny_pure ?_)
  refine wpAny_bind (iter_intList hl fun s₂ e st fp hlI => ?_)
  subst e
  refine wpAny_bind (wpAny_newObj_type ?_)
  have off : (s.heap.push { cls := .type "list_iterator", data := .fields #[.ref l, .int 0 0] }).objs.size ∉ [s.heap.objs.size, l] := fun m => Nat.lt_irrefl _ (fp _ m)
  rw [nm]
  have sz : (intItems xs).size = xs.size := by simp [intItems]
  have W := Walks.list (prog := prog) (w := w) (A := A.in1) hh s.heap.objs.size l hlI (intItems xs)
  refine wpAny_pure ⟨plainId_quiet PySem.F.plain_max_loop _, mxd_start z W (CmpOf.ints_gt (numAt xs) (fun _ _ => intItems_at)) off (W.frame _ _ _ st fun b _ o e => Heap.get?_push_of_some _ e) (Heap.get?_push_size _ rfl) (fun n0 h' tk k => ?_) fun n0 v h' tk hv k => ?_⟩
  · exact q0 (by rw [← sz]; exact n0) h' tk (old_kept fun b o hb e => k b o hb (Nat.ne_of_lt (Heap.lt_size e)) (Heap.get?_push_of_some _ e))
  · exact q1 (by rw [← sz]; exact n0) v h' tk (by simpa [intItems] using hv) (old_kept fun b o hb e => k b o hb (Nat.ne_of_lt (Heap.lt_size e)) (Heap.get?_push_of_some _ e))
theorem mxd_raw {its : List Value} {ns : List Int} {Q : Value → Shared → Prop} (z : Value) (hh : A.handled = none) (hl : s.heap.IsList l its.toArray) (hi : IntsAre its ns)
    (h : ∀ h' tk v, (∀ b o, s.heap.get? b = some o → h'.get? b = some o) → ((ns = [] ∧ v = z) ∨ ∃ i is t', ns = i :: is ∧ v = .int (maxI i is) t') → Q v { s with heap := h', toks := tk }) :
    wpAny (model prog w) A (call (.builtin "max") [.ref l] (dfl z)) Q E s := by
  obtain ⟨xs, e⟩ := hi.allInts.items
  have hn : numsOf (intItems xs).toList = ns := by rw [← e]; exact hi.numsOf
  rw [nums_intItems] at hn
  rw [e] at hl
  refine mxd_list z hh hl (fun n0 h' tk k => h h' tk z k (.inl ⟨?_, rfl⟩)) fun n0 v h' tk hv k => ?_
  · rw [← hn, List.map_eq_nil_iff, ← List.length_eq_zero_iff, Array.length_toList]; exact n0
  · obtain ⟨t', rfl⟩ := intItems_at hv
    obtain ⟨g1, g2⟩ := argBest_gt (numAt xs) (xs.size - 1)
    have hm : numAt xs (argBest (fun i j => decide (numAt xs i > numAt xs j)) (xs.size - 1)) ∈ ns := by
      rw [numAt_eq, hn]; exact PySem.getD_mem (by rw [← hn, List.length_map, Array.length_toList]; omega)
    have hb : ∀ a ∈ ns, a ≤ numAt xs (argBest (fun i j => decide (numAt xs i > numAt xs j)) (xs.size - 1)) := fun a ha => by
      obtain ⟨j, hj, rfl⟩ := mem_getD ha
      have hj' : j ≤ xs.size - 1 := by
        rw [← hn, List.length_map, Array.length_toList] at hj; omega
      have := g2 j hj'
      rw [numAt_eq xs j, hn] at this
      exact this
    cases ns with
    | nil => cases hm
    | cons i is => exact h h' tk _ k (.inr ⟨i, is, t', rfl, by rw [max_one hm hb]⟩)
end
section
variable {X : Cx}
def rMxd (G : Gp) : List V → List V → Hp → VK → Prop := fun vs zs H Q => ∃ x y, vs = [x] ∧ zs = [y] ∧ rB G mxdD x y H Q
theorem crk_mxd (hc : X.calm = true) : CallRK X (.builtin "max") [Str.ofString "default"] (rMxd (gp X)) := by
  intro pins s σ H vs zs us ws Q I r rz ⟨x, y, hx, hy, H0, d, e, t, sm, hd, he, hf, o⟩
  subst hx hy
  cases d with
  | list ds =>
    cases e with
    | int z =>
      obtain ⟨is, hb, rfl⟩ := Option.map_eq_some_iff.mp hf
      obtain ⟨a, vs, rfl, ha, ra⟩ := hd.lst sm
      rw [allI_map hb] at ra
      have hv := ra.ints
      subst hv
      have hz := he.int
      subst hz
      obtain ⟨its, rv, hl, _⟩ := I.list ha
      obtain ⟨u1, e1, r1⟩ := Vals.one rz
      subst e1
      obtain ⟨tz, rfl⟩ := r1
      rw [Vals.ref1 r]
      refine mxd_raw (.int z tz) (I.ok.hd hc) hl.isList rv.ints fun h' tk v hk hv => ?_
      rcases hv with ⟨rfl, rfl⟩ | ⟨i, is, t', rfl, rfl⟩
      · exact ⟨.int z, H, I.kept hk, ⟨_, rfl⟩, o.sc sm (.int _)⟩
      · exact ⟨.int (maxI i is), H, I.kept hk, ⟨_, rfl⟩, o.sc sm (.int _)⟩
    | _ => cases hf
  | _ => cases hf
end
end RL

/-! len(set(t)), t a tuple of nested tuples -/
namespace NS
open PySem PySem.Spec L2

/-- a key with the tuple that bears it -/
abbrev El := Addr × NestedKey
section
variable {P : Program} {w : World} {A : Around} {E : Value → Shared → Prop} {s : Shared}
def Bears (h : Heap) (e : El) : Prop := NestedIs h e.2 (.ref e.1) ∧ e.2.depth ≤ 8
abbrev hh (w : World) (e : El) : Int := e.2.hash w
theorem Bears.kind {h : Heap} {e : El} (b : Bears h e) : (nestedKind P w).is h e.2 e.1 := b
theorem Bears.tupleAt {h : Heap} {e : El} (b : Bears h e) : ∃ o vs n ks, h.get? e.1 = some o ∧ o.cls = .type "tuple" ∧ o.data = .seq vs n ∧ e.2 = .tup ks ∧ NestedAll h ks vs.toList := by
  obtain ⟨a, k⟩ := e
  obtain ⟨q, _⟩ := b
  cases q with
  | tup h1 h2 h3 h4 => exact ⟨_, _, _, _, h1, h2, h3, rfl, h4⟩
theorem Bears.keep {h h' : Heap} {e : El} (b : Bears h e) (k : ∀ c o, h.get? c = some o → h'.get? c = some o) : Bears h' e := ⟨NestedIs.at (fun c o _ _ q _ => k c o q) _ _ b.1, b.2⟩
theorem Bears.but {h h' : Heap} {a : Addr} {o : Obj} {e : El} (b : Bears h e) (ho : h.get? a = some o) (hn : ∀ vs n, o.data ≠ .seq vs n) (sb : Heap.SameBut a h h') : Bears h' e :=
  ⟨NestedIs.at (fun c o' vs n q d => by
    refine (sb.2 c fun z => ?_).trans q
    rw [z, ho] at q
    cases q
    exact hn _ _ d) _ _ b.1, b.2⟩

theorem depth_mem : ∀ {ks : List NestedKey} {k : NestedKey}, k ∈ ks → k.depth ≤ NestedKey.depthAll ks
  | k0 :: ks, k, h => by
    rcases List.mem_cons.mp h with z | z
    · subst z; simp only [NestedKey.depthAll]; omega
    · have := depth_mem z
      simp only [NestedKey.depthAll]; omega
theorem cls_no : ∀ (n : Nat) (k : NestedKey) (v : Value) (s : Shared) (Q : Bool → Shared → Prop), NestedIs s.heap k v → k.depth ≤ n → Q false s → wpAny (model P w) A (ofAClassStatement n v) Q E s := by
  intro n
  induction n with
  | zero =>
    intro k v s Q h hd q
    cases h with
    | tup h1 h2 h3 h4 => simp [NestedKey.depth] at hd
    | _ => exact wpAny_pure q
  | succ n ih =>
    intro k v s Q h hd q
    cases h with
    | @tup a o vs m ks h1 h2 h3 h4 =>
      have hT : s.TypeIs (.ref a) "tuple" := ⟨o, h1, h2⟩
      unfold ofAClassStatement
      refine wpAny_bind (wpAny_typeOf hT ?_)
      simp only [show (("tuple" : String) == "tuple") = true by decide, if_true, Bool.not_true, Bool.false_eq_true, if_false]
      try refine wpAny_bind (wpAny_pure ?_)
      try simp only [Bool.not_true, Bool.false_eq_true, if_false]
      show wpAny _ _ (seqItems? (.ref a) >>= _) _ _ s
      refine wpAny_bind (wpAny_seqItems h1 h3 (wpAny_bind ?_))
      show wpAny _ _ (forIn vs _ _) _ _ s
      rw [← Array.forIn_toList]
      refine wpAny_forIn_list _ (fun rest r s' => r.1 = none ∧ s' = s ∧ ∃ rk, NestedAll s.heap rk rest ∧ ∀ k ∈ rk, k ∈ ks) _ ?_ ?_ _ _ ⟨rfl, rfl, ks, h4, fun _ z => z⟩
      · rintro v rest r s' ⟨hr, rfl, rk, hall, sub⟩
        cases hall with
        | @cons k v' rk' vs' hv hrest =>
          have hdk : k.depth ≤ n := Nat.le_trans (depth_mem (sub k List.mem_cons_self)) (by simp only [NestedKey.depth] at hd; omega)
          refine wpAny_bind (ih k _ s' _ hv hdk ?_)
          simp only [Bool.false_eq_true, if_false]
          exact wpAny_pure ⟨rfl, rfl, rk', hrest, fun k z => sub k (List.mem_cons_of_mem _ z)⟩
      · rintro ⟨r1, r2⟩ s' ⟨hr, rfl, _⟩
        simp only at hr
        subst hr
        exact wpAny_pure q
    | _ => exact wpAny_pure q
mutual
def noText : NestedKey → Bool
  | .none => true
  | .num _ => true
  | .text _ => false
  | .tup ks => noTexts ks
def noTexts : List NestedKey → Bool
  | [] => true
  | k :: ks => noText k && noTexts ks
end
theorem noText_mem : ∀ {ks : List NestedKey} {k : NestedKey}, k ∈ ks → noTexts ks = true → noText k = true
  | k0 :: ks, k, h, e => by
    simp only [noTexts, Bool.and_eq_true] at e
    rcases List.mem_cons.mp h with z | z
    · subst z; exact e.1
    · exact noText_mem z e.2
theorem byVal : ∀ (n : Nat) (k : NestedKey) (v : Value) (s : Shared) (Q : Bool → Shared → Prop), NestedIs s.heap k v → k.depth ≤ n → noText k = true → Q true s → wpAny (model P w) A (hashByValue n v) Q E s := by
  intro n
  induction n with
  | zero =>
    intro k v s Q h hd ht q
    cases h with
    | tup h1 h2 h3 h4 => simp [NestedKey.depth] at hd
    | text x t => simp [noText] at ht
    | _ => exact wpAny_pure q
  | succ n ih =>
    intro k v s Q h hd ht q
    cases h with
    | @tup a o vs m ks h1 h2 h3 h4 =>
      have hT : s.TypeIs (.ref a) "tuple" := ⟨o, h1, h2⟩
      unfold hashByValue
      refine wpAny_bind (wpAny_specialOf hT F.slot_tuple_hash.lookup ?_)
      show wpAny _ _ (seqItems? (.ref a) >>= _) _ _ s
      refine wpAny_bind (wpAny_seqItems h1 h3 (wpAny_bind ?_))
      show wpAny _ _ (forIn vs _ _) _ _ s
      rw [← Array.forIn_toList]
      refine wpAny_forIn_list _ (fun rest r s' => r.1 = none ∧ s' = s ∧ ∃ rk, NestedAll s.heap rk rest ∧ ∀ k ∈ rk, k ∈ ks) _ ?_ ?_ _ _ ⟨rfl, rfl, ks, h4, fun _ z => z⟩
      · rintro v rest r s' ⟨hr, rfl, rk, hall, sub⟩
        cases hall with
        | @cons k v' rk' vs' hv hrest =>
          have hk := sub k List.mem_cons_self
          have hdk : k.depth ≤ n := Nat.le_trans (depth_mem hk) (by simp only [NestedKey.depth] at hd; omega)
          refine wpAny_bind (ih k _ s' _ hv hdk (noText_mem hk (by simpa only [noText] using ht)) ?_)
          simp only [Bool.not_true, Bool.false_eq_true, if_false]
          exact wpAny_pure ⟨rfl, rfl, rk', hrest, fun k z => sub k (List.mem_cons_of_mem _ z)⟩
      · rintro ⟨r1, r2⟩ s' ⟨hr, rfl, _⟩
        simp only at hr
        subst hr
        exact wpAny_pure q
    | text x t => simp [noText] at ht
    | _ => exact wpAny_pure q

/-- what a look among such keys shows: nothing -/
theorem unseen {x : El} {Q : Bool → Shared → Prop} (hx : Bears s.heap x) {ys : List Value} (hy : ∀ y ∈ ys, ∃ e, y = Value.ref e.1 ∧ Bears s.heap e) (q : Q false s) : wpAny (model P w) A (searchCouldBeSeen (.ref x.1) ys) Q E s := by
  unfold searchCouldBeSeen
  refine wpAny_bind ?_
  refine wpAny_forIn_list _ (fun rest r s' => r.1 = none ∧ s' = s ∧ ∀ y ∈ rest, ∃ e, y = Value.ref e.1 ∧ Bears s.heap e) _ ?_ ?_ _ _ ⟨rfl, rfl, hy⟩
  · rintro v rest r s' ⟨hr, rfl, all⟩
    obtain ⟨e, rfl, he⟩ := all v List.mem_cons_self
    have more : ∀ y ∈ rest, ∃ e, y = Value.ref e.1 ∧ Bears s'.heap e := fun y z => all y (List.mem_cons_of_mem _ z)
    dsimp only
    by_cases c : (x.1 == e.1 || (carriedByValue (.ref x.1) && carriedByValue (.ref e.1))) = true
    · exact wp_if_pos c (wpAny_pure ⟨rfl, rfl, more⟩)
    · refine wp_if_neg c (wpAny_bind ((nestedKind P w).quiet hx ?_))
      simp only [Bool.not_true, Bool.false_eq_true, if_false]
      refine wpAny_bind ((nestedKind P w).quiet he ?_)
      simp only [Bool.not_true, Bool.false_eq_true, if_false]
      refine wpAny_bind (cls_no 8 _ _ s' _ hx.1 hx.2 ?_)
      simp only [Bool.false_eq_true, if_false]
      refine wpAny_bind (cls_no 8 _ _ s' _ he.1 he.2 ?_)
      simp only [Bool.false_eq_true, if_false]
      exact wpAny_pure ⟨rfl, rfl, more⟩
  · rintro ⟨r1, r2⟩ s' ⟨hr, rfl, _⟩
    simp only at hr
    subst hr
    exact wpAny_pure q

/-! the set at a: its elements in the order of the table -/
abbrev ent (w : World) (e : El) : Int × Value := (hh w e, .ref e.1)
structure SetN (P : Program) (w : World) (h : Heap) (a : Addr) (L : List El) (es : Array (Int × Value)) (ep : Nat) (t : SetTable) : Prop where
  ob : ∃ o, h.get? a = some o ∧ o.ExactSet ∧ o.data = .set es ep t
  ents : es.toList = L.map (ent w)
  tab : TabOk t (L.map (hh w))
  nd : (L.map (·.2)).Nodup
  els : ∀ e ∈ L, Bears h e
  plain : t.plain = true
  led : w.params.followText "set-order" = true ∨ t.led = true
  room : L.length * 5 < t.mask * 3
  few : L.length < 64
variable {a : Addr} {L : List El} {es : Array (Int × Value)} {ep : Nat} {t : SetTable}
theorem SetN.sz (R : SetN P w s.heap a L es ep t) : es.size = L.length := by
  have h := congrArg List.length R.ents
  rwa [Array.length_toList, List.length_map] at h
theorem SetN.fits (R : SetN P w s.heap a L es ep t) : t.fits es.size = true := by
  have h1 := R.tab.sz
  rw [List.length_map] at h1
  have h2 := R.sz
  have h3 := R.room
  unfold SetTable.fits SetTable.fill
  rw [R.tab.dm, Bool.and_eq_true, beq_iff_eq, decide_eq_true_eq]
  show t.place.size = es.size ∧ t.place.size + 0 ≤ t.mask
  omega
theorem SetN.at (R : SetN P w s.heap a L es ep t) {i : Nat} {e : El} (h : L[i]? = some e) : es[i]? = some (ent w e) := by
  rw [← Array.getElem?_toList, R.ents, List.getElem?_map, h]; rfl
theorem SetN.gw (R : SetN P w s.heap a L es ep t) : ¬ t.gaveWay = true := by
  unfold SetTable.gaveWay
  rw [mask_odd R.tab.mok]
  decide
abbrev pr0 (m : Nat) (h : Int) : SetTable.Probe := runAt m (SetTable.bits h % (m + 1)) (SetTable.bits h)
theorem pr0_dummy (m : Nat) (h : Int) (n : Nat) : (nth m (pr0 m h) n).dummy = none := by
  have key : ∀ (n : Nat) (p : SetTable.Probe), p.dummy = none → (nth m p n).dummy = none := by
    intro n
    induction n with
    | zero => exact fun p z => z
    | succ n ih =>
      intro p z
      refine ih (adv m p) ?_
      unfold adv
      split <;> exact z
  exact key n _ rfl
theorem look_from (R : SetN P w s.heap a L es ep t) {x : El} (hx : Bears s.heap x) (hu : A.units + 8 < cLine) {N : Nat} (hNf : N < 10 * SetTable.turns t.mask)
    (hN : way t.mask (hh w x) N ∉ t.place.toList) (hNb : ∀ c, c < N → way t.mask (hh w x) c ∈ t.place.toList) {Q : SetFound → Shared → Prop}
    (yes : x.2 ∈ L.map (·.2) → Q (.there none) s) (no : x.2 ∉ L.map (·.2) → Q (.free (way t.mask (hh w x) N) false) s) :
    ∀ (f c : Nat) (st : Option SetTable.Probe), st.getD (t.probeStart (hh w x)) = nth t.mask (pr0 t.mask (hh w x)) c → c ≤ N → N - c < f →
      (∀ (i : Nat) e, L[i]? = some e → e.2 = x.2 → ∃ c', c ≤ c' ∧ c' < N ∧ t.place.toList[i]? = some (way t.mask (hh w x) c')) →
      wpAny (model P w) A (setSearchFrom a (.ref x.1) (hh w x) true f st) Q E s
  | 0, _, _, _, _, z, _ => absurd z (Nat.not_lt_zero _)
  | f + 1, c, st, hst, hc, hf, hre => by
    obtain ⟨o, ho, hex, hd⟩ := R.ob
    rw [setSearchFrom_succ]
    refine wpAny_bind (wpAny_setState_of ho hd R.fits ?_)
    dsimp only
    refine wp_if_neg R.gw ?_
    try refine wpAny_bind (wpAny_pure ?_)
    have sh : ∀ q, nth t.mask (nth t.mask (pr0 t.mask (hh w x)) c) q = nth t.mask (pr0 t.mask (hh w x)) (c + q) := fun q => (nth_add t.mask c _ q).symm
    have ej : ∀ q, (nth t.mask (nth t.mask (pr0 t.mask (hh w x)) c) q).j = way t.mask (hh w x) (c + q) := fun q => congrArg SetTable.Probe.j (sh q)
    have hcN : c + (N - c) = N := by omega
    have hashAt : ∀ (i : Nat) e, L[i]? = some e → (fun i => (es[i]?.map (·.1)).getD 0) i = hh w e := fun i e he => by
      show (es[i]?.map (·.1)).getD 0 = _
      rw [R.at he]; rfl
    rcases go_spec t R.tab.ris R.tab.dm (fun i => (es[i]?.map (·.1)).getD 0) (hh w x) (10 * SetTable.turns t.mask) (N - c) _ (pr0_dummy _ _ c) (by omega)
      (fun q hq => by rw [ej]; exact hNb (c + q) (by omega)) (by rw [ej, hcN]; exact hN) with ⟨q, i, hq, hi, _, hno, hpr⟩ | ⟨hno, hpr⟩
    · rw [show t.probe (fun i => (es[i]?.map (·.1)).getD 0) (hh w x) (st.getD (t.probeStart (hh w x))) = some (.candidate (way t.mask (hh w x) (c + q)) i (nth t.mask (pr0 t.mask (hh w x)) (c + (q + 1)))) by
        rw [hst, ← ej, ← sh]; exact hpr]
      dsimp only
      rw [ej] at hi
      have hil : i < L.length := by
        have h1 := (List.getElem?_eq_some_iff.mp hi).1
        have h2 := R.tab.sz
        rw [List.length_map] at h2
        rw [Array.length_toList] at h1
        omega
      obtain ⟨e, he⟩ : ∃ e, L[i]? = some e := ⟨_, List.getElem?_eq_getElem hil⟩
      have hm := List.mem_of_getElem? he
      have onward : wpAny (model P w) A (searchRest a (.ref x.1) (hh w x) true f es t (way t.mask (hh w x) (c + q)) i (nth t.mask (pr0 t.mask (hh w x)) (c + (q + 1)))) Q E s := by
        unfold searchRest
        rw [R.at he]
        dsimp only
        refine wpAny_bind (wpAny_holding ((nestedKind P w).eqBool (show A.units + 8 < cLine from hu) (R.els e hm) hx ?_))
        refine wpAny_bind (wpAny_setState_of ho hd R.fits ?_)
        dsimp only
        by_cases hk : e.2 = x.2
        · exact wp_if_pos (by simp [hk]) (wpAny_pure (yes (List.mem_map.mpr ⟨e, hm, hk⟩)))
        · refine wp_if_neg (by simp [hk]) ?_
          try refine wpAny_bind (wpAny_pure ?_)
          rw [sameMem]
          dsimp only
          have hsl : t.slot (way t.mask (hh w x) (c + q)) = .live i := slot_live R.tab.ris hi
          simp only [if_true, hsl, R.at he]
          refine wpAny_bind (wpAny_isSame_ref_self (wpAny_bind (wpAny_pure ?_)))
          simp only [if_true]
          refine wp_if_neg (by simp [hk]) ?_
          refine look_from R hx hu hNf hN hNb yes no f (c + (q + 1)) _ rfl (by omega) (by omega) fun i0 e0 h0 hk0 => ?_
          obtain ⟨c', a1, a2, a3⟩ := hre i0 e0 h0 hk0
          refine ⟨c', ?_, a2, a3⟩
          have same_hash : (fun i => (es[i]?.map (·.1)).getD 0) i0 = hh w x := (hashAt i0 e0 h0).trans (congrArg (NestedKey.hash w) hk0)
          rcases Nat.lt_or_ge c' (c + q) with z | z
          · exact absurd same_hash (hno (c' - c) i0 (by omega) (by rw [ej, show c + (c' - c) = c' by omega]; exact a3))
          · rcases Nat.lt_or_ge (c + q) c' with y | y
            · omega
            · exfalso
              have ec : c' = c + q := Nat.le_antisymm y z
              rw [ec] at a3
              have s0 := slot_live R.tab.ris a3
              rw [hsl] at s0
              injection s0 with s0
              rw [← s0, he] at h0
              exact hk ((congrArg Prod.snd (Option.some.inj h0)).trans hk0)
      by_cases hl : t.led = true
      · refine wp_if_neg (by simp [hl]) ?_
        try refine wpAny_bind (wpAny_pure ?_)
        exact onward
      · refine wp_if_pos (by simp [hl]) ?_
        refine wpAny_bind (unseen hx (fun y hy => ?_) ?_)
        · obtain ⟨u, hu1, hu2⟩ := List.mem_map.mp hy
          have hu3 : u ∈ es ∧ u.1 = hh w x := by simpa using hu1
          have hu4 : u ∈ es.toList := by simpa using hu3.1
          rw [R.ents] at hu4
          obtain ⟨e2, he2, q2⟩ := List.mem_map.mp hu4
          exact ⟨e2, by rw [← hu2, ← q2], R.els e2 he2⟩
        · refine wp_if_neg (by decide) ?_
          try refine wpAny_bind (wpAny_pure ?_)
          exact onward
    · rw [show t.probe (fun i => (es[i]?.map (·.1)).getD 0) (hh w x) (st.getD (t.probeStart (hh w x))) = some (.empty (way t.mask (hh w x) N) none) by
        rw [hst, show way t.mask (hh w x) N = (nth t.mask (nth t.mask (pr0 t.mask (hh w x)) c) (N - c)).j by rw [ej, hcN]]; exact hpr]
      dsimp only
      refine wpAny_pure (no fun hm => ?_)
      obtain ⟨e0, h0, hk0⟩ := List.mem_map.mp hm
      obtain ⟨i0, hi0, q0⟩ := List.getElem_of_mem h0
      have h00 : L[i0]? = some e0 := by rw [List.getElem?_eq_getElem hi0, q0]
      obtain ⟨c', a1, a2, a3⟩ := hre i0 e0 h00 hk0
      exact hno (c' - c) i0 (by omega) (by rw [ej, show c + (c' - c) = c' by omega]; exact a3) ((hashAt i0 e0 h00).trans (congrArg (NestedKey.hash w) hk0))
theorem look_at (R : SetN P w s.heap a L es ep t) {x : El} (hx : Bears s.heap x) (hu : A.units + 8 < cLine) {Q : SetFound → Shared → Prop} (yes : x.2 ∈ L.map (·.2) → Q (.there none) s)
    (no : ∀ N, x.2 ∉ L.map (·.2) → way t.mask (hh w x) N ∉ t.place.toList → (∀ c, c < N → way t.mask (hh w x) c ∈ t.place.toList) → Q (.free (way t.mask (hh w x) N) false) s) :
    wpAny (model P w) A (setSearch a (.ref x.1) (hh w x) true) Q E s := by
  have hroom := R.room
  obtain ⟨N, hNf, hN, hNb⟩ := R.tab.first (by rw [List.length_map]; omega) (hh w x)
  have hbig : N < 100000 := by
    have : 10 * SetTable.turns t.mask ≤ 1420 := by
      unfold SetTable.turns
      rcases R.tab.mok with e | e | e <;> omega
    omega
  unfold setSearch
  refine look_from R hx hu hNf hN hNb yes (fun z => no N z hN hNb) 100000 0 none rfl (Nat.zero_le _) (by omega) fun i e he hk => ?_
  have hi : (L.map (hh w))[i]? = some (hh w x) := by rw [List.getElem?_map, he]; exact congrArg some (congrArg (NestedKey.hash w) hk)
  have hil : i < t.place.toList.length := by
    have h1 := (List.getElem?_eq_some_iff.mp he).1
    have h2 := R.tab.sz
    rw [List.length_map] at h2
    rw [Array.length_toList]
    omega
  have hj := List.getElem?_eq_getElem hil
  obtain ⟨c, hc, e⟩ := R.tab.before hN hi hj
  exact ⟨c, Nat.zero_le _, hc, by rw [hj, e]⟩
theorem Bears.off {h h' : Heap} {o : Obj} {e : El} (b : Bears h e) (ho : h.get? a = some o) (hd : o.data = .set es ep t) (sb : Heap.SameBut a h h') : Bears h' e :=
  b.but ho (fun vs n z => by rw [hd] at z; cases z) sb
/-- the entries picked by an order of their places -/
theorem picked (L : List El) (es : Array (Int × Value)) (order : Array Nat) (hr : es.toList = L.map (ent w)) (hp : order.toList.Perm (List.range L.length)) :
    ∃ L2 : List El, (order.filterMap (es[·]?)).toList = L2.map (ent w) ∧ L2.Perm L ∧ L2.map (hh w) = order.toList.map fun i => (es.map (·.1)).getD i 0 := by
  have at_ : ∀ (i : Nat) (e : El), L[i]? = some e → es[i]? = some (ent w e) := fun i e h => by
    rw [← Array.getElem?_toList, hr, List.getElem?_map, h]; rfl
  have go : ∀ l : List Nat, (∀ i ∈ l, i < L.length) → l.filterMap (fun i => es[i]?) = (l.filterMap (fun i => L[i]?)).map (ent w) ∧ (l.filterMap (fun i => L[i]?)).map (hh w) = l.map fun i => (es.map (·.1)).getD i 0 := by
    intro l
    induction l with
    | nil => exact fun _ => ⟨rfl, rfl⟩
    | cons i l ih =>
      intro hl
      obtain ⟨e1, e2⟩ := ih fun k z => hl k (List.mem_cons_of_mem _ z)
      obtain ⟨e, hg⟩ : ∃ e, L[i]? = some e := ⟨_, List.getElem?_eq_getElem (hl i List.mem_cons_self)⟩
      have hh1 := at_ i e hg
      refine ⟨?_, ?_⟩
      · rw [List.filterMap_cons_some hh1, List.filterMap_cons_some hg, List.map_cons, e1]
      · rw [List.filterMap_cons_some hg, List.map_cons, List.map_cons, e2]
        congr 1
        rw [Array.getD_eq_getD_getElem?, Array.getElem?_map, hh1]
        rfl
  obtain ⟨e1, e2⟩ := go order.toList fun i hi => List.mem_range.mp (hp.mem_iff.mp hi)
  refine ⟨order.toList.filterMap (fun i => L[i]?), by first | (rw [Array.toList_filterMap]; exact e1) | simpa using e1, ?_, e2⟩
  have whole : ∀ n, n ≤ L.length → (List.range n).filterMap (fun i => L[i]?) = L.take n := by
    intro n
    induction n with
    | zero => exact fun _ => rfl
    | succ n ih =>
      intro hn
      obtain ⟨e, hg⟩ : ∃ e, L[n]? = some e := ⟨_, List.getElem?_eq_getElem hn⟩
      rw [List.range_succ, List.filterMap_append, ih (Nat.le_of_succ_le hn), List.take_succ, hg, List.filterMap_cons_some hg]
      rfl
  have := hp.filterMap (fun i => L[i]?)
  rwa [whole L.length (Nat.le_refl _), List.take_length] at this
theorem anew {o : Obj} (ho : s.heap.get? a = some o) (hex : o.ExactSet) (hd : o.data = .set es ep t) (hr : es.toList = L.map (ent w)) (hsz : t.place.size = es.size) (hdm : t.dummies = #[]) (hfl : es.size ≤ t.mask)
    (nd : (L.map (·.2)).Nodup) (els : ∀ e ∈ L, Bears s.heap e) (pl : t.plain = true) (ld : w.params.followText "set-order" = true ∨ t.led = true) (few : L.length < 64) {want M : Nat}
    (hw : SetTable.sizeAbove want - 1 = M) (hM : MaskOk M) (hw2 : SetTable.sizeAbove want ≤ 128) (hn : L.length * 5 < M * 3) {Q : Unit → Shared → Prop}
    (q : ∀ h' L' es' ep' t', Heap.SameBut a s.heap h' → SetN P w h' a L' es' ep' t' → L'.Perm L → Q () { s with heap := h' }) : wpAny (model P w) A (setRelay a want) Q E s := by
  have hsl : es.size = L.length := by
    have h := congrArg List.length hr
    rwa [Array.length_toList, List.length_map] at h
  have hfits : t.fits es.size = true := by
    unfold SetTable.fits SetTable.fill
    rw [hdm, Bool.and_eq_true, beq_iff_eq, decide_eq_true_eq]
    show t.place.size = es.size ∧ t.place.size + 0 ≤ t.mask
    omega
  obtain ⟨t', order, e, hp, T, em, el, ep', ed⟩ := relaid_ok t (hs := es.map (·.1)) (wanted := want) hw hM (by rw [Array.size_map, hsl]; omega)
  rw [Array.size_map, hsl] at hp
  obtain ⟨L2, r1, r2, r3⟩ := picked L es order hr hp
  rw [← r3] at T
  have hs2 : (order.filterMap (es[·]?)).size = es.size := by
    have h := congrArg List.length r1
    rw [Array.length_toList, List.length_map, r2.length_eq] at h
    rw [h, hsl]
  rw [setRelay_eq]
  refine wpAny_bind (wpAny_setState_of ho hd hfits ?_)
  dsimp only
  refine wp_if_neg (by rw [sizeLine_eq]; omega) ?_
  try refine wpAny_bind (wpAny_pure ?_)
  rw [e]
  dsimp only
  refine wpAny_bind (wp_if_neg (by rw [hs2]; simp) ?_)
  try refine wpAny_bind (wpAny_pure ?_)
  refine wpAny_pure ?_
  dsimp only
  refine wpAny_storeSet_of ho hd ?_ (by rw [hs2, hsl, sizeLine_eq]; omega)
  have sb : Heap.SameBut a s.heap (s.heap.update a (Obj.putSet (order.filterMap (es[·]?)) t')) := Heap.SameBut.update ..
  refine q _ L2 (order.filterMap (es[·]?)) (ep + 1) t' sb ⟨⟨_, store_at ho hd, ⟨hex.1, hex.2.1, hex.2.2⟩, rfl⟩, r1, T, (r2.map (·.2)).nodup_iff.mpr nd, fun e he => (els e (r2.mem_iff.mp he)).off ho hd sb, by rw [ep']; exact pl, by rw [el]; exact ld, ?_, by rw [r2.length_eq]; exact few⟩ r2
  rw [r2.length_eq, em]
  exact hn
end
end NS

namespace NS
open PySem PySem.Spec L2
section
variable {P : Program} {w : World} {A : Around} {E : Value → Shared → Prop} {s : Shared} {a : Addr} {L : List El} {es : Array (Int × Value)} {ep : Nat} {t : SetTable}
theorem put_in (R : SetN P w s.heap a L es ep t) {x : El} (hx : Bears s.heap x) (hxt : noText x.2 = true) (hu : A.units + 8 < cLine) (hfew : L.length + 1 < 64) {Q : Bool → Shared → Prop}
    (q : ∀ b h' L' es' ep' t', Heap.SameBut a s.heap h' → SetN P w h' a L' es' ep' t' → (x.2 ∈ L.map (·.2) → L' = L) → (x.2 ∉ L.map (·.2) → L'.Perm (x :: L)) → Q b { s with heap := h' }) :
    wpAny (model P w) A (setAddHashed a (.ref x.1) (hh w x) ) Q E s := by
  obtain ⟨o, ho, hex, hd⟩ := R.ob
  have hsl := R.sz
  have hroom := R.room
  unfold setAddHashed
  refine wpAny_holding ?_
  rw [show (100000 : Nat) = 99999 + 1 from rfl, setAddHashedIn_succ]
  refine wpAny_bind (wpAny_setState_of ho hd R.fits ?_)
  dsimp only
  refine wp_if_neg (by simp [byScan, Value.scannable]) ?_
  try refine wpAny_bind (wpAny_pure ?_)
  refine wpAny_bind (look_at R hx hu (fun hm => ?_) fun N hm hN hb => ?_)
  · exact wpAny_pure (q false s.heap L es ep t (Heap.SameBut.refl a s.heap) R (fun _ => rfl) fun z => absurd hm z)
  · dsimp only
    refine wpAny_bind (wpAny_setState_of ho hd R.fits ?_)
    dsimp only
    obtain ⟨q1, q2, q3, q4, q5, q6, q7, q8, q9⟩ := R.tab.put hN hb
    have hp1 : (t.put (way t.mask (hh w x) N)).1.plain = true := by rw [q6]; exact R.plain
    generalize t.put (way t.mask (hh w x) N) = pt at q1 q3 q4 q5 q6 q7 q8 q9 hp1 ⊢
    obtain ⟨t1, p⟩ := pt
    dsimp only at q1 q3 q4 q5 q6 q7 q8 q9 hp1 ⊢
    subst q1
    first
      | (refine wpAny_bind ?_; refine wp_if_pos hp1 ?_; refine byVal 8 _ _ _ _ hx.1 hx.2 hxt ?_)
      | refine wp_if_pos hp1 (wpAny_bind (byVal 8 _ _ _ _ hx.1 hx.2 hxt ?_))
    simp only [if_true]
    generalize SetTable.below t.place (way t.mask (hh w x) N) = p at q2 q3 ⊢
    have hin : (SetTable.insertAt es p (ent w x)).toList = (L.take p ++ x :: L.drop p).map (ent w) := by
      rw [SetTable.toList_insertAt, R.ents, List.map_append, List.map_cons, List.map_take, List.map_drop]
    have pm := put_perm L p x
    have hlen : (L.take p ++ x :: L.drop p).length = L.length + 1 := pm.length_eq
    have hcut : (L.take p ++ x :: L.drop p).map (hh w) = (L.map (hh w)).take p ++ hh w x :: (L.map (hh w)).drop p := by
      rw [List.map_append, List.map_cons, List.map_take, List.map_drop]
    rw [← hcut] at q3
    have nd1 : ((L.take p ++ x :: L.drop p).map (·.2)).Nodup := (pm.map (·.2)).nodup_iff.mpr (by rw [List.map_cons]; exact List.nodup_cons.mpr ⟨hm, R.nd⟩)
    have hes : (SetTable.insertAt es p (ent w x)).size = L.length + 1 := by
      have h := congrArg List.length hin
      rwa [Array.length_toList, List.length_map, hlen] at h
    generalize SetTable.insertAt es p (ent w x) = es1 at hin hes ⊢
    generalize L.take p ++ x :: L.drop p = L1 at pm hlen q3 nd1 hin
    refine wpAny_bind (wpAny_storeSet_of ho hd ?_ (by rw [hes, sizeLine_eq]; omega))
    have sb : Heap.SameBut a s.heap (s.heap.update a (Obj.putSet es1 t1)) := Heap.SameBut.update ..
    have ho1 := store_at (es' := es1) (t' := t1) ho hd
    generalize s.heap.update a (Obj.putSet es1 t1) = h1 at sb ho1 ⊢
    have els1 : ∀ e ∈ L1, Bears h1 e := fun e he => by
      rcases List.mem_cons.mp (pm.mem_iff.mp he) with z | z
      · rw [z]; exact hx.off ho hd sb
      · exact (R.els e z).off ho hd sb
    have ld1 : w.params.followText "set-order" = true ∨ t1.led = true := by rw [q5]; exact R.led
    by_cases hf : t1.tooFull = true
    · first
        | (refine wpAny_bind ?_; refine wp_if_pos (by simp [hf]) ?_)
        | (refine wp_if_pos (by simp [hf]) ?_; refine wpAny_bind ?_)
      have hfull : (L.length + 1) * 5 ≥ t1.mask * 3 := by
        have h := hf
        unfold SetTable.tooFull at h
        rw [decide_eq_true_eq, q9, List.length_map] at h
        exact h
      rw [hsl]
      have hsz1 : t1.place.size = es1.size := by
        have h := q3.sz
        rw [List.length_map, hlen] at h
        rw [h, hes]
      have two : (t.mask = 7 ∧ L.length = 4) ∨ (t.mask = 31 ∧ L.length = 18) := by
        rcases R.tab.mok with e | e | e
        · left; rw [q4, e] at hfull; rw [e] at hroom; exact ⟨e, by omega⟩
        · right; rw [q4, e] at hfull; rw [e] at hroom; exact ⟨e, by omega⟩
        · exfalso; rw [q4, e] at hfull; omega
      have go : ∀ M, SetTable.sizeAbove (SetTable.grown (L.length + 1)) - 1 = M → MaskOk M → SetTable.sizeAbove (SetTable.grown (L.length + 1)) ≤ 128 → (L.length + 1) * 5 < M * 3 →
          wpAny (model P w) A (setRelay a (SetTable.grown (L.length + 1))) (fun _ s' => wpAny (model P w) A (pure true) Q E s') E { s with heap := h1 } := fun M m1 m2 m3 m4 => by
        refine anew (s := { s with heap := h1 }) ho1 ⟨hex.1, hex.2.1, hex.2.2⟩ rfl hin hsz1 q3.dm (by rw [hes, q4]; rcases two with ⟨e, e2⟩ | ⟨e, e2⟩ <;> omega) nd1 els1 hp1 ld1 (by rw [hlen]; exact hfew) m1 m2 m3 (by rw [hlen]; exact m4) ?_
        exact fun h2 L2 es2 ep2 t2 sb2 R2 pm2 => wpAny_pure (q true h2 L2 es2 ep2 t2 (sb.trans sb2) R2 (fun z => absurd z hm) fun _ => pm2.trans pm)
      rcases two with ⟨_, e2⟩ | ⟨_, e2⟩
      · exact go 31 (by rw [e2, size_20]) (.inr (.inl rfl)) (by rw [e2, size_20]; decide) (by omega)
      · exact go 127 (by rw [e2, size_76]) (.inr (.inr rfl)) (by rw [e2, size_76]; decide) (by omega)
    · first
        | refine wp_if_neg (by simp [hf]) ?_
        | (refine wpAny_bind ?_; refine wp_if_neg (by simp [hf]) ?_; refine wpAny_pure ?_)
      refine wpAny_pure (q true h1 L1 es1 (ep + 1) t1 sb ⟨⟨_, ho1, ⟨hex.1, hex.2.1, hex.2.2⟩, rfl⟩, hin, q3, nd1, els1, hp1, ld1, ?_, by rw [hlen]; exact hfew⟩ (fun z => absurd z hm) fun _ => pm)
      have h := hf
      unfold SetTable.tooFull at h
      rw [decide_eq_true_eq, q9, List.length_map] at h
      rw [hlen]
      omega
end
end NS

namespace NS
open PySem PySem.Spec L2
/-- what a set has got of the first i elements -/
structure Has (ks : List El) (i : Nat) (L : List El) : Prop where
  sub : ∀ e ∈ L, e ∈ ks.take i
  all : ∀ e ∈ ks.take i, e.2 ∈ L.map (·.2)
  len : L.length ≤ i
theorem take1 {α : Type} {l : List α} {i : Nat} {x : α} (h : l[i]? = some x) : l.take (i + 1) = l.take i ++ [x] := by rw [List.take_succ, h]; rfl
theorem Has.next {ks L L' : List El} {i : Nat} {x : El} (g : Has ks i L) (h : ks[i]? = some x) (c1 : x.2 ∈ L.map (·.2) → L' = L) (c2 : x.2 ∉ L.map (·.2) → L'.Perm (x :: L)) : Has ks (i + 1) L' := by
  rcases Classical.em (x.2 ∈ L.map (·.2)) with c | c
  · rw [c1 c]
    refine ⟨fun e he => ?_, fun e he => ?_, Nat.le_succ_of_le g.len⟩
    · rw [take1 h]; exact List.mem_append_left _ (g.sub e he)
    · rw [take1 h] at he
      rcases List.mem_append.mp he with z | z
      · exact g.all e z
      · rw [List.mem_singleton.mp z]; exact c
  · have pm := c2 c
    refine ⟨fun e he => ?_, fun e he => ?_, ?_⟩
    · rw [take1 h]
      rcases List.mem_cons.mp (pm.mem_iff.mp he) with z | z
      · rw [z]; exact List.mem_append_right _ (List.mem_singleton.mpr rfl)
      · exact List.mem_append_left _ (g.sub e z)
    · rw [(pm.map (·.2)).mem_iff, List.map_cons]
      rw [take1 h] at he
      rcases List.mem_append.mp he with z | z
      · exact List.mem_cons_of_mem _ (g.all e z)
      · rw [List.mem_singleton.mp z]; exact List.mem_cons_self
    · rw [pm.length_eq, List.length_cons]; exact Nat.succ_le_succ g.len
section
variable {P : Program} {w : World} {A : Around} {E : Value → Shared → Prop} {s : Shared}
theorem SetN.keep {h h' : Heap} {a : Addr} {L : List El} {es : Array (Int × Value)} {ep : Nat} {t : SetTable} (R : SetN P w h a L es ep t) (ha : ∀ o, h.get? a = some o → h'.get? a = some o) (ht : ∀ e ∈ L, Bears h' e) : SetN P w h' a L es ep t := by
  obtain ⟨o, ho, r⟩ := R.ob
  exact ⟨⟨o, ha o ho, r⟩, R.ents, R.tab, R.nd, ht, R.plain, R.led, R.room, R.few⟩
abbrev newSet (w : World) : Obj := { cls := .type "set", dict := none, data := .set #[] 0 (.fresh 0 0 (!w.params.followText "set-order")) }
theorem SetN.fresh {h : Heap} {a : Addr} (ho : h.get? a = some (newSet w)) : SetN P w h a [] #[] 0 (.fresh 0 0 (!w.params.followText "set-order")) where
  ob := ⟨_, ho, ⟨rfl, rfl, rfl⟩, rfl⟩
  ents := rfl
  tab := ⟨List.Pairwise.nil, rfl, rfl, .inl rfl, fun x hx => (by cases hx), fun i h j hi => (by simp at hi)⟩
  nd := List.nodup_nil
  els := fun p hp => (by cases hp)
  plain := rfl
  led := by
    show _ ∨ (!w.params.followText "set-order") = true
    cases w.params.followText "set-order"
    · exact .inr rfl
    · exact .inl rfl
  room := by show 0 * 5 < 7 * 3; decide
  few := by show 0 < 64; decide
theorem fill_loop {I : Addr} {fp wr : List Addr} {G : Array GenState → Array GenState → Prop} {n : Nat} {Pv : Nat → Value → Prop} {St : Nat → Shared → Prop} {R : Result → Shared → Prop}
    (W : WalksS P w A.in1 I fp wr G n Pv St) (S : Addr) (hSf : S ∉ fp) (ks : List El) (hn : n = ks.length) (hfew : ks.length < 64) (hval : ∀ i v, Pv i v → ∃ e, ks[i]? = some e ∧ v = .ref e.1)
    (h0 : Heap) (hk : ∀ e ∈ ks, Bears h0 e) (hnt : ∀ e ∈ ks, noText e.2 = true) (hS0 : h0.get? S = none) (hw0 : ∀ b ∈ wr, h0.get? b = none) (hu : A.in1.units + 8 < cLine) :
    ∀ (k i : Nat) (s : Shared), n - i = k → i ≤ n → St i s → (∀ b o, h0.get? b = some o → s.heap.get? b = some o) → (∃ L es ep t, SetN P w s.heap S L es ep t ∧ Has ks i L) →
      (∀ s' L es ep t, Moved (S :: wr) G s s' → SetN P w s'.heap S L es ep t → Has ks n L → (∀ b o, h0.get? b = some o → s'.heap.get? b = some o) → R (.ok (.ret .none)) s') →
      codeAny (model P w) A (.builtin "set.update.loop" ⟨[.ref S, .ref I], []⟩) R s := by
  have hSw : S ∉ wr := fun h => hSf (W.sub _ h)
  have wide : ∀ b ∈ wr, b ∈ S :: wr := fun b hb => List.mem_cons_of_mem _ hb
  have stays : ∀ {s s' : Shared}, Moved wr G s s' → (∀ b o, h0.get? b = some o → s.heap.get? b = some o) → ∀ b o, h0.get? b = some o → s'.heap.get? b = some o := fun hm hkp b o e =>
    hm.heap b o (fun hb => by rw [hw0 b hb] at e; cases e) (hkp b o e)
  intro k
  induction k with
  | zero =>
    intro i s hk' hi hst hkp ⟨L, es, ep, t, hS, g⟩ hR
    obtain rfl : i = n := by omega
    refine codeAny_builtin PyProof.Rows.F.entry_set_update_loop ?_
    rw [Around.under_plainId PyProof.Rows.F.plain_set_update_loop _]
    show wpAny _ A.in1 (pyNext (.ref I) >>= _) _ _ s
    refine wpAny_bind (W.done s _ _ hst fun s' hm => ?_)
    show wpAny _ A.in1 (ret Value.none) _ _ s'
    have hkp' := stays hm hkp
    exact wpAny_pure (hR s' L es ep t (hm.mono wide) (hS.keep (fun o e => hm.heap S o hSw e) fun e he => (hk e (List.mem_of_mem_take (g.sub e he))).keep hkp') g hkp')
  | succ k ih =>
    intro i s hk' hi hst hkp ⟨L, es, ep, t, hS, g⟩ hR
    have hlt : i < n := by omega
    refine codeAny_builtin PyProof.Rows.F.entry_set_update_loop ?_
    rw [Around.under_plainId PyProof.Rows.F.plain_set_update_loop _]
    show wpAny _ A.in1 (pyNext (.ref I) >>= _) _ _ s
    refine wpAny_bind (W.item i s _ _ hlt hst fun v s' hP hst' hm => ?_)
    obtain ⟨x, hx0, rfl⟩ := hval i v hP
    have hkp' := stays hm hkp
    have hS' : SetN P w s'.heap S L es ep t := hS.keep (fun o e => hm.heap S o hSw e) fun e he => (hk e (List.mem_of_mem_take (g.sub e he))).keep hkp'
    have hxm := List.mem_of_getElem? hx0
    have hx : Bears s'.heap x := (hk x hxm).keep hkp'
    show wpAny _ A.in1 (holding [Value.ref x.1] (setAdd S (.ref x.1)) >>= _) _ _ s'
    refine wpAny_bind (wpAny_holding ?_)
    unfold setAdd
    refine wpAny_holding (wpAny_bind ((nestedKind P w).pyHash (show A.in1.units + 8 < cLine from hu) hx ?_))
    refine put_in (s := { s' with toks := s'.toks + x.2.draws }) hS' hx (hnt x hxm) hu (by have := g.len; omega) fun b h' L' es' ep' t' hsb hS2 c1 c2 => ?_
    have hkp2 : ∀ b o, h0.get? b = some o → h'.get? b = some o := fun b o e => (hsb.2 b (fun z => by rw [z, hS0] at e; cases e)).trans (hkp' b o e)
    refine wpAny_pure ⟨plainId_quiet PyProof.Rows.F.plain_set_update_loop _, ih (i + 1) _ (by omega) hlt (W.frame _ s' _ _ hst' (Nat.le_add_right _ _) fun b hb o e => ?_) hkp2 ⟨L', es', ep', t', hS2, g.next hx0 c1 c2⟩ fun s'' L2 es2 ep2 t2 hm'' hS'' g'' hkp'' => ?_⟩
    · rw [hsb.2 b (fun h : b = S => hSf (by rw [← h]; exact hb))]; exact e
    · refine hR s'' L2 es2 ep2 t2 (Moved.trans W.gtrans ((hm.mono wide).then_heap (Nat.le_add_right _ _) fun b o hb e => ?_) hm'') hS'' g'' hkp''
      rw [hsb.2 b (fun h : b = S => hb (by rw [h]; exact List.mem_cons_self))]; exact e
end
end NS

namespace NS
open PySem PySem.Spec L2 PyProof.Rows
section
variable {P : Program} {w : World} {A : Around} {E : Value → Shared → Prop} {s : Shared}
set_option maxHeartbeats 1600000 in
theorem call_set_tupN {l : Addr} {items : Array Value} (ks : List El) {Q : Value → Shared → Prop} (hnd : A.handled = none) (hl : s.heap.IsTuple l items) (hit : items.toList = ks.map fun e => Value.ref e.1)
    (hk : ∀ e ∈ ks, Bears s.heap e) (hnt : ∀ e ∈ ks, noText e.2 = true) (hfew : ks.length < 64) (hu : A.units + 12 < cLine)
    (q : ∀ (h' : Heap) (tk : Nat) L es ep t, SetN P w h' s.heap.objs.size L es ep t → Has ks ks.length L → (∀ b o, s.heap.get? b = some o → h'.get? b = some o) → Q (.ref s.heap.objs.size) { s with heap := h', toks := tk }) :
    wpAny (model P w) A (call (.type "set") [.ref l]) Q E s := by
  have hisz : items.size = ks.length := by
    have z := congrArg List.length hit
    rwa [Array.length_toList, List.length_map] at z
  obtain ⟨c, tl, hmro⟩ := F.called_set.mro
  have hmade := F.called_set.made
  have hsub := F.called_set.sub
  refine wpAny_call (codeAny_of_tree ?_)
  show wpAny _ _ (callAny (.type "set") _) _ _ _
  refine wpAny_pure ⟨Code.quiet_builtin _ (by decide +kernel), codeAny_builtin F.entry_type_call ?_⟩
  rw [Around.under_plain (weight_type_call_type "set" [.ref l] []) rfl]
  have h1 := F.called_set.notType
  have h2 := F.called_set.canCreate
  have hct := F.typeCall_set_1 (.ref l)
  repeat (any_goals (first | assumption | wp_step))
  refine codeAny_mono (code_set_led1 (.ref l) (E := E) (Q₁ := fun obj s₁ => obj = .ref s.heap.objs.size ∧ s₁ = { s with heap := s.heap.push (newSet w) }) ⟨rfl, rfl⟩) fun r s₁ hr => ?_
  cases r with
  | error e => exact hr
  | ok fl =>
    cases fl with
    | ret obj =>
      obtain ⟨rfl, rfl⟩ := hr
      have hS : (s.heap.push (newSet w)).get? s.heap.objs.size = some (newSet w) := Heap.get?_push_size _ rfl
      have hT : Shared.TypeIs { s with heap := s.heap.push (newSet w) } (.ref s.heap.objs.size) "set" := ⟨_, hS, rfl⟩
      have hli := F.called_set.init.lookup
      have hbi := F.called_set.init.bind (.ref s.heap.objs.size)
      repeat (any_goals (first | assumption | wp_step))
      refine codeAny_mono (codeAny_call_builtin (R := wants (fun r s₂ => r = .none ∧ ∃ h' tk L es ep t, s₂ = { s with heap := h', toks := tk } ∧ SetN P w h' s.heap.objs.size L es ep t ∧ Has ks ks.length L ∧
          (∀ b o, s.heap.get? b = some o → h'.get? b = some o)) E) F.called_set.init.plain F.entry_set_init (check_set_init_1 hT ?_)) fun r₂ s₂ hr₂ => ?_
      · obtain ⟨⟨oc, od, odt, osl⟩, hol, hcl, nl, hdl⟩ := hl
        simp only at hcl hdl
        subst hcl; subst hdl
        have hol' : (s.heap.push (newSet w)).get? l = some { cls := .type "tuple", dict := od, data := .seq items nl, slots := osl } := Heap.get?_push_of_some _ hol
        have hsls := F.sub_tuple_set
        have hslf := F.sub_tuple_frozenset
        have hne : (Value.type "tuple" == Value.type "dict") = false := by decide
        have hl1 : (s.heap.push (newSet w)).IsTuple l items := ⟨_, hol', rfl, nl, rfl⟩
        unfold Builtin.«set.__init__» noKeywords Builtin.Frozenset.updateFrom
        generalize hPI : pyIter = PI
        wp_walk
        subst hPI
        refine wpAny_pyIter_tuple hl1 (wpAny_bind (wpAny_runValue ?_))
        have hlS : l < s.heap.objs.size := Heap.lt_size hol
        have hz1 : (s.heap.push (newSet w)).objs.size = s.heap.objs.size + 1 := Heap.size_push ..
        have hneI : l ≠ (s.heap.push (newSet w)).objs.size := by rw [hz1]; exact Nat.ne_of_lt (Nat.lt_succ_of_lt hlS)
        have hSf : s.heap.objs.size ∉ [(s.heap.push (newSet w)).objs.size, l] := by
          rw [hz1]; simp only [List.mem_cons, List.mem_singleton, List.not_mem_nil, or_false, not_or]
          exact ⟨Nat.ne_of_lt (Nat.lt_succ_self _), Nat.ne_of_gt hlS⟩
        have hval : ∀ (i : Nat) (v : Value), items[i]? = some v → ∃ e, ks[i]? = some e ∧ v = .ref e.1 := fun i v hv => by
          have z : items.toList[i]? = some v := by rw [Array.getElem?_toList]; exact hv
          rw [hit, List.getElem?_map] at z
          cases hq : ks[i]? with
          | none => rw [hq] at z; cases z
          | some e => rw [hq] at z; exact ⟨e, rfl, (Option.some.inj z).symm⟩
        have none_of : ∀ b, s.heap.objs.size ≤ b → s.heap.get? b = none := fun b hb => Heap.get?_none_of_le hb
        have hgetS : ((s.heap.push (newSet w)).push { cls := .type "tuple_iterator", data := .fields #[.ref l, .int 0 0] }).get? s.heap.objs.size = some (newSet w) := Heap.get?_push_of_some _ hS
        refine fill_loop ((Walks.tuple (show A.in1.in1.in1.handled = none by simp [hnd]) _ l hneI items).toS) s.heap.objs.size
          hSf ks hisz hfew hval s.heap hk hnt (none_of _ (Nat.le_refl _)) (fun b hb => none_of b (by rw [List.mem_singleton.mp hb, hz1]; exact Nat.le_succ _)) (by show A.units + 1 + 1 + 1 + 8 < cLine; omega) (items.size - 0) 0 _ (by omega) (Nat.zero_le _)
          ⟨⟨_, Heap.get?_push_size _ rfl, rfl, rfl⟩, (hl1.push _)⟩ (fun b o e => Heap.get?_push_of_some _ (Heap.get?_push_of_some _ e)) ⟨[], #[], 0, _, SetN.fresh hgetS, ⟨fun _ z => (nomatch z), fun _ z => (by simp at z), Nat.le_refl _⟩⟩ ?_
        intro s' L es ep t hm hS' g' hkp
        obtain ⟨h', g2, d', tk', os'⟩ := s'
        obtain rfl : g2 = s.gens := hm.gens
        obtain rfl : d' = s.drawn := hm.drawn
        obtain rfl : os' = s.os := hm.os
        show wpAny _ _ _ _ _ _
        refine wpAny_pure ?_
        show wpAny _ _ (ret Value.none) _ _ _
        rw [hisz] at g'
        exact wpAny_pure ⟨rfl, h', tk', L, es, ep, t, rfl, hS', g', hkp⟩
      · cases r₂ with
        | error e => exact hr₂
        | ok fl₂ =>
          cases fl₂ with
          | ret r =>
            obtain ⟨rfl, h', tk, L, es, ep, t, rfl, hS', g', hk'⟩ := hr₂
            repeat (any_goals (first | assumption | wp_step))
            exact q _ _ _ _ _ _ hS' g' hk'
          | _ => exact hr₂.elim
    | _ => exact hr.elim
end
end NS

namespace RL
open PySem PySem.Spec L2
/-- how many unlike keys -/
def dcount : List NestedKey → Nat
  | [] => 0
  | k :: ks => if k ∈ ks then dcount ks else dcount ks + 1
def dd : List NestedKey → List NestedKey
  | [] => []
  | k :: ks => if k ∈ ks then dd ks else k :: dd ks
theorem mem_dd : ∀ {ks : List NestedKey} {k : NestedKey}, k ∈ dd ks ↔ k ∈ ks
  | [], k => Iff.rfl
  | k0 :: ks, k => by
    unfold dd
    by_cases h : k0 ∈ ks
    · rw [if_pos h, mem_dd, List.mem_cons]
      exact ⟨.inr, fun z => z.elim (fun e => by rw [e]; exact h) id⟩
    · rw [if_neg h, List.mem_cons, List.mem_cons, mem_dd]
theorem nd_dd : ∀ ks : List NestedKey, (dd ks).Nodup
  | [] => List.nodup_nil
  | k :: ks => by
    unfold dd
    by_cases h : k ∈ ks
    · rw [if_pos h]; exact nd_dd ks
    · rw [if_neg h]; exact List.nodup_cons.mpr ⟨fun z => h (mem_dd.mp z), nd_dd ks⟩
theorem len_dd : ∀ ks : List NestedKey, (dd ks).length = dcount ks
  | [] => rfl
  | k :: ks => by
    unfold dd dcount
    split
    · exact len_dd ks
    · rw [List.length_cons, len_dd ks]
theorem dcount_of {M ks : List NestedKey} (nd : M.Nodup) (h1 : ∀ k ∈ M, k ∈ ks) (h2 : ∀ k ∈ ks, k ∈ M) : M.length = dcount ks := by
  rw [← len_dd]
  exact ((List.perm_ext_iff_of_nodup nd (nd_dd ks)).mpr fun k => ⟨fun z => mem_dd.mpr (h1 k z), fun z => h2 k (mem_dd.mp z)⟩).length_eq
def isTupKey : NestedKey → Bool
  | .tup _ => true
  | _ => false
def setKeyOk (k : NestedKey) : Bool := isTupKey k && NS.noText k && decide (k.depth ≤ 8)
def lsetD : D → Option T
  | .tuple ds => (keysOf ds).bind fun ks => if ks.length < 64 ∧ ks.all setKeyOk = true then some (.p (.int (dcount ks))) else none
  | _ => none
section
variable {X : Cx} {pins : List (Addr × Obj)} {σ : St} {H : Hp} {s : Shared}
mutual
theorem Rp.nested (I : Inv X pins σ H s) : ∀ (d : D) (k : NestedKey) (v : V) (u : Value), Rp (gp X) H v d → keyOf d = some k → RelV v u → NestedIs s.heap k u
  | .none, _, _, _, h, e, r => by cases h; cases e; cases r; exact .none
  | .int i, _, _, _, h, e, r => by cases h; cases e; obtain ⟨t, rfl⟩ := r; exact .int _ _
  | .str x, _, _, _, h, e, r => by cases h; cases e; obtain ⟨t, rfl⟩ := r; exact .text _ _
  | .tuple ds, k, _, _, h, e, r => by
    cases h with
    | tup hs hr =>
      simp only [keyOf] at e
      obtain ⟨ks, ek, rfl⟩ := Option.map_eq_some_iff.mp e
      cases r
      obtain ⟨its, rv, ⟨o, ho, hc, n, hd⟩, _⟩ := I.tuple hs
      exact .tup ho hc hd (by simpa using Rps.nested I ds ks _ _ hr ek rv)
  | .bool _, _, _, _, _, e, _ => by simp [keyOf] at e
  | .list _, _, _, _, _, e, _ => by simp [keyOf] at e
  | .dict _, _, _, _, _, e, _ => by simp [keyOf] at e
theorem Rps.nested (I : Inv X pins σ H s) : ∀ (ds : List D) (ks : List NestedKey) (vs : List V) (us : List Value), Rps (gp X) H vs ds → keysOf ds = some ks → Vals vs us → NestedAll s.heap ks us
  | [], _, _, _, h, e, r => by cases h; cases e; cases r; exact .nil
  | d :: ds, ks, _, _, h, e, r => by
    cases h with
    | cons h1 h2 =>
      simp only [keysOf] at e
      obtain ⟨k, ek, e⟩ := Option.bind_eq_some_iff.mp e
      obtain ⟨ks', eks, rfl⟩ := Option.map_eq_some_iff.mp e
      cases r with
      | cons r1 r2 => exact .cons (Rp.nested I d k _ _ h1 ek r1) (Rps.nested I ds ks' _ _ h2 eks r2)
end
/-- the tuples of a list, with their keys -/
theorem els_of {h : Heap} : ∀ (ks : List NestedKey) (us : List Value), NestedAll h ks us → ks.all setKeyOk = true → ∃ es : List NS.El, us = es.map (fun e => Value.ref e.1) ∧ es.map (·.2) = ks ∧ (∀ e ∈ es, NS.Bears h e) ∧ ∀ e ∈ es, NS.noText e.2 = true
  | [], _, h, _ => by cases h; exact ⟨[], rfl, rfl, fun _ z => (nomatch z), fun _ z => (nomatch z)⟩
  | k :: ks, _, h, c => by
    rw [List.all_cons, Bool.and_eq_true] at c
    cases h with
    | cons h1 h2 =>
      obtain ⟨es, rfl, e2, e3, e4⟩ := els_of ks _ h2 c.2
      simp only [setKeyOk, Bool.and_eq_true, decide_eq_true_eq] at c
      cases h1 with
      | @tup a o vs n ks' q1 q2 q3 q4 =>
        refine ⟨(a, .tup ks') :: es, rfl, by rw [List.map_cons, e2], fun e he => ?_, fun e he => ?_⟩
        · rcases List.mem_cons.mp he with z | z
          · rw [z]; exact ⟨.tup q1 q2 q3 q4, c.1.2⟩
          · exact e3 e z
        · rcases List.mem_cons.mp he with z | z
          · rw [z]; exact c.1.1.2
          · exact e4 e z
      | _ => simp [isTupKey] at c
end
def rL (G : Gp) (f : D → Option T) : V → Hp → VK → Prop := fun x H Q => ∃ H0 d t, Same H0 H ∧ RV G H0 H x d ∧ f d = some t ∧ VOut G H0 H t Q
theorem pe_lset {X : Cx} {a : Expr} {ta : TE} {p p2 q pos : Pos} (hc : X.calm = true) (hu : X.A.units + 20 < cLine) (hg : Gl X "len") (hm : X.mg "len" = none) (hg2 : Gl X "set") (hm2 : X.mg "set" = none) (ha : PE X a ta)
    (na : starEach [a] X.env = (false, eval a X.env) :: starEach [] X.env) : PE X (.Call (.Name "len" p) [.Call (.Name "set" p2) [a] [] q] [] pos) (fun σ H Q => ta σ H fun x H1 => rL (gp X) lsetD x H1 Q) := by
  refine ⟨fun pins s σ H Q I h => ?_⟩
  refine PyProof.Rows.Call_ (ld_blt I hg hm PySem.boot_len ?_)
  refine PyProof.Rows.callWith_builtin1 (PyProof.Rows.args_cons ?_ rfl) rfl rfl
  refine PyProof.Rows.Call_ (ld_blt I hg2 hm2 PyProof.Rows.boot_set ?_)
  refine PyProof.Rows.callWith_type1 (PyProof.Rows.args_cons (thn (ha.run pins s σ H _ I h) fun v s1 ⟨x, H1, I1, r1, H0, d, t, sm, hd, hf, o⟩ => PyProof.Rows.args_nil ?_) na) na rfl
  cases d with
  | tuple ds =>
    obtain ⟨ks, ek, hf⟩ := Option.bind_eq_some_iff.mp hf
    split at hf
    · rename_i hk
      cases hf
      obtain ⟨l, vs, rfl, hl, rr⟩ := hd.tup
      cases r1
      obtain ⟨its, rv, pl, hz⟩ := I1.tuple (SqT.mono sm hl)
      obtain ⟨es, e1, e2, e3, e4⟩ := els_of ks its (Rps.nested I1 ds ks vs its (rr.mono sm) ek rv) hk.2
      have hlen : es.length = ks.length := by rw [← e2, List.length_map]
      refine NS.call_set_tupN (w := X.w) es (I1.ok.hd hc) (show s1.heap.IsTuple l its.toArray from pl) (by simpa using e1) e3 e4 (by rw [hlen]; exact hk.1) (by omega) fun h' tk L es' ep t' R g kp => ?_
      refine PyProof.Rows.args_nil ?_
      have I2 : Inv X pins σ H1 { s1 with heap := h', toks := tk } := I1.kept kp
      obtain ⟨ob, ho, hex, hdd⟩ := R.ob
      have hcount : L.length = dcount ks := by
        have := dcount_of (M := L.map (·.2)) (ks := ks) R.nd (fun k hkm => ?_) (fun k hkm => ?_)
        · rwa [List.length_map] at this
        · obtain ⟨e, he, rfl⟩ := List.mem_map.mp hkm
          rw [← e2]
          exact List.mem_map.mpr ⟨e, List.mem_of_mem_take (g.sub e he), rfl⟩
        · rw [← e2] at hkm
          obtain ⟨e, he, rfl⟩ := List.mem_map.mp hkm
          exact g.all e (by rw [List.take_length]; exact he)
      have hsz := NS.SetN.sz (s := { s1 with heap := h', toks := tk }) R
      have hfew := R.few
      refine call_len_set ho hex hdd (NS.SetN.fits (s := { s1 with heap := h', toks := tk }) R) (by rw [hsz]; omega) ⟨.int (dcount ks : Nat), H1, I2.tok _, ⟨_, by rw [hsz, hcount]⟩, o.sc sm (.int _)⟩
    · cases hf
  | _ => exact nomatch hf
end RL

namespace RL
open PySem PySem.Spec L2

/-! a def's terms, without places -/
inductive Tg where
  | nm (i : Nat) | nil | cons (a b : Tg) | tp (ts : Tg)
inductive P where
  | var (i : Nat)
  | cst (d : D)
  | glo (x : Str) (z : Int)
  | bin (op : Operator) (a b : P)
  | neg (a : P)
  | cmp (op : CmpOp) (a b : P)
  | chn (op op' : CmpOp) (a b c : P)
  | and (a b : P) | or (a b : P) | not (a : P)
  | ite (c a b : P)
  | tup (as : P) | lst (as : P)
  | nil | cons (a as : P)
  | idx (a i : P)
  | slc (a lo hi : P)
  | prim (k : Prim) (as : P)
  | isa (ty : String) (a : P)
  | lset (a : P)
  | call (k : Nat) (as : P)
  | itr (a : P) | rng (as : P) | enm (a : P) | zip (a b : P)
  | tupR (a : P) | lstR (a : P)
  | lc (own : List (Str × Nat)) (t : Tg) (it c body : P)
  | dct (z : Bool)
  | sh (a : P)
  | mxd (a d : P)
  | callK (k : Nat) (ks : List Str) (js : List Nat) (as : P)
  | rgs (as : P)
  | rgr (a : P)

/-- what a run of terms gives -/
inductive R where
  | ok (ts : List T) (ρ : Env)
  | ex (e : Ex) (ρ : Env)
  | no
def R.b1 (r : R) (f : T → Env → R) : R :=
  match r with
  | .ok [t] ρ => f t ρ
  | .ok _ _ => .no
  | .ex e ρ => .ex e ρ
  | .no => .no
def R.bA (r : R) (f : List T → Env → R) : R :=
  match r with
  | .ok ts ρ => f ts ρ
  | .ex e ρ => .ex e ρ
  | .no => .no
def R.eo : R → EO
  | .ok [t] ρ => .ok t ρ
  | .ok _ _ => .no
  | .ex e ρ => .ex e ρ
  | .no => .no
/-- shared from now on -/
def T.seal (t : T) (ρ : Env) : Option (D × Env) :=
  match t with
  | .p d => some (d, ρ)
  | .f d => some (d, ρ)
  | .s i =>
    match ρ[i]? with
    | some (.pu d) => some (d, ρ)
    | some (.ow d) => some (d, ρ.set i (.pu d))
    | _ => none
def sealAll : List T → Env → Option (List D × Env)
  | [], ρ => some ([], ρ)
  | t :: ts, ρ =>
    match t.seal ρ with
    | some (d, ρ1) =>
      match sealAll ts ρ1 with
      | some (ds, ρ2) => some (d :: ds, ρ2)
      | none => none
    | none => none
def vals : List T → Env → Option (List D)
  | [], _ => some []
  | t :: ts, ρ => (t.val ρ).bind fun d => (vals ts ρ).map (d :: ·)
def give (o : Option T) (ρ : Env) : R := match o with
  | some t => .ok [t] ρ
  | none => .no
def op2 (f : D → D → Option T) (t1 t2 : T) (ρ : Env) : R :=
  match t1.val ρ, t2.val ρ with
  | some d1, some d2 => give (f d1 d2) ρ
  | _, _ => .no
def op1 (f : D → Option T) (t : T) (ρ : Env) : R :=
  match t.val ρ with
  | some d => give (f d) ρ
  | none => .no
def opN (f : List D → Option T) (ts : List T) (ρ : Env) : R :=
  match vals ts ρ with
  | some ds => give (f ds) ρ
  | none => .no
def bl2 (f : D → D → Option Bool) (d e : D) : Option T := (f d e).map fun b => .p (.bool b)
def boolOf : D → Option Bool
  | .bool b => some b
  | _ => none
/-- as a test -/
def R.tst (r : R) (f : Bool → Env → R) : R := r.b1 fun t ρ =>
  match (t.val ρ).bind boolOf with
  | some b => f b ρ
  | none => .no
def negD : D → Option T
  | .int i => some (.p (.int (-i)))
  | _ => none
def intOf : D → Option Int
  | .int i => some i
  | _ => none
/-- a slice's end -/
def R.part (absent : Bool) (r : R) (f : Option Int → Env → R) (ρ : Env) : R :=
  match absent with
  | true => f none ρ
  | false => r.b1 fun t ρ1 =>
    match (t.val ρ1).bind intOf with
    | some i => f (some i) ρ1
    | none => .no
def P.isNil : P → Bool
  | .nil => true
  | _ => false
/-- the target bound to a value -/
def Tg.bind : Tg → D → Env → Option Env
  | .nm i, d, ρ => if i < ρ.length then some (ρ.set i (.pu d)) else none
  | .tp ts, .tuple ds, ρ => ts.bind (.tuple ds) ρ
  | .nil, .tuple [], ρ => some ρ
  | .cons a b, .tuple (d :: ds), ρ => (a.bind d ρ).bind fun ρ1 => b.bind (.tuple ds) ρ1
  | _, _, _ => none
def itemsD : D → Option (List D)
  | .list ds => some ds
  | .tuple ds => some ds
  | _ => none
def wipeE (ρ : Env) : List Nat → Env
  | [] => ρ
  | v :: vs => (wipeE ρ vs).set v .un
def restore (ρ0 ρ : Env) : List Nat → Env
  | [] => ρ
  | v :: vs => (restore ρ0 ρ vs).set v (ρ0[v]?.getD .un)
/-- a clause over its items: what each turn gives, in a row -/
def genGo (t : Tg) (c b : Env → R) (ws : List Nat) : List D → Env → Option (List D × Env)
  | [], ρ => some ([], ρ)
  | d :: ds, ρ =>
    match t.bind d ρ with
    | none => none
    | some ρ1 =>
      match c ρ1 with
      | .ok [k] ρ2 =>
        match (k.val ρ2).bind boolOf with
        | some true =>
          match b ρ2 with
          | .ok [u] ρ3 =>
            match u.seal ρ3 with
            | some (e, ρ4) => (genGo t c b ws ds (wipeE ρ4 ws)).map fun p => (e :: p.1, p.2)
            | none => none
          | _ => none
        | some false => genGo t c b ws ds (wipeE ρ2 ws)
        | none => none
      | _ => none
def sealR (r : R) (f : D → Option T) : R := r.b1 fun t ρ =>
  match t.seal ρ with
  | some (d, ρ1) => give (f d) ρ1
  | none => .no
def Tg.slots : Tg → List Nat
  | .nm i => [i]
  | .nil => []
  | .cons a b => a.slots ++ b.slots
  | .tp ts => ts.slots
def rangeD (i j : Int) : List D := (List.range (j - i).toNat).map fun k => .int (i + (k : Nat))
def rngD : List D → Option T
  | [.int j] => if -(2 ^ 62) ≤ j ∧ j ≤ 2 ^ 24 then some (.p (.list (rangeD 0 j))) else none
  | [.int i, .int j] => if -(2 ^ 62) ≤ i ∧ i < 2 ^ 62 ∧ -(2 ^ 62) ≤ j ∧ j < 2 ^ 62 ∧ (j - i).toNat ≤ 2 ^ 24 then some (.p (.list (rangeD i j))) else none
  | _ => none
/-- from i on, by steps of c -/
def stepD (i c : Int) (n : Nat) : List D := (List.range n).map fun k => .int (i + (k : Nat) * c)
def rgsD : List D → Option T
  | [.int i, .int j, .int c] => if c ≠ 0 ∧ c.natAbs < 1073741824 ∧ Builtin.Range.small i j c = true ∧ 0 ≤ Builtin.Range.rangeSize i j c ∧ (Builtin.Range.rangeSize i j c).toNat ≤ 2 ^ 24 then some (.p (.list (stepD i c (Builtin.Range.rangeSize i j c).toNat))) else none
  | _ => none
/-- range(j) from its end -/
def rgrD : D → Option T
  | .int j => if -(2 ^ 62) ≤ j ∧ j ≤ 2 ^ 24 then some (.p (.list (stepD (0 + (((j - 0).toNat : Nat) : Int) - 1) (-1) (j - 0).toNat))) else none
  | _ => none
/-- the values in the parameters' order -/
def pickT : List Nat → List T → Option (List T)
  | [], _ => some []
  | j :: js, ts => match ts[j]?, pickT js ts with
    | some t, some r => some (t :: r)
    | _, _ => none
def permT (js : List Nat) (ts : List T) : Option (List T) := if ts.length = js.length then pickT js ts else none
def enmD (d : D) : Option T := match d with
  | .list ds => some (.p (.list ((List.range ds.length).zip ds |>.map fun p => .tuple [.int (p.1 : Nat), p.2])))
  | .tuple ds => some (.p (.list ((List.range ds.length).zip ds |>.map fun p => .tuple [.int (p.1 : Nat), p.2])))
  | _ => none
def zipD : D → D → Option T
  | .list ds, .list es => some (.p (.list ((ds.zip es).map fun p => .tuple [p.1, p.2])))
  | .tuple ds, .tuple es => some (.p (.list ((ds.zip es).map fun p => .tuple [p.1, p.2])))
  | _, _ => none
def itrD (d : D) : Option T := (itemsD d).map fun ds => .p (.list ds)
def listOf : D → Option (List D)
  | .list ds => some ds
  | _ => none

/-! what a def gives, by data -/
inductive FR where
  | ret (t : T) (ios : List D)
  | exc (e : Ex) (ios : List D)
  | stuck
structure Fn where
  name : Str
  io : List Bool
  φ : List D → FR
mutual
def flat : D → Bool
  | .list _ => false
  | .dict _ => false
  | .tuple ds => flats ds
  | _ => true
def flats : List D → Bool
  | [] => true
  | d :: ds => flat d && flats ds
end
def flatO : D → Bool
  | .list ds => flats ds
  | _ => false
/-- the arguments' data; the slots that are lent; the slots that the callee changes -/
def argsOf : List Bool → List T → Env → Option (List D × List Nat × List Nat)
  | [], [], _ => some ([], [], [])
  | false :: ms, t :: ts, ρ =>
    match t.val ρ, argsOf ms ts ρ with
    | some d, some (ds, ls, is) =>
      match t with
      | .s i => if (ρ[i]?.map Cell.own) = some true then some (d :: ds, i :: ls, is) else some (d :: ds, ls, is)
      | _ => some (d :: ds, ls, is)
    | _, _ => none
  | true :: ms, .s i :: ts, ρ =>
    match ρ[i]?, argsOf ms ts ρ with
    | some (.ow d), some (ds, ls, is) => some (d :: ds, ls, i :: is)
    | _, _ => none
  | _, _, _ => none
def putIos : List Nat → List D → Env → Option Env
  | [], [], ρ => some ρ
  | i :: is, d :: ds, ρ => (putIos is ds ρ).map fun ρ1 => ρ1.set i (.ow d)
  | _, _, _ => none
def T.flat (ρ : Env) : T → Bool
  | .p d => RL.flat d
  | .f d => flatO d
  | .s _ => false
def callR (g : Fn) (ts : List T) (ρ : Env) : R :=
  match argsOf g.io ts ρ with
  | none => .no
  | some (ds, ls, is) =>
    if is.Nodup ∧ (∀ i ∈ ls, i ∉ is) then
      match g.φ ds with
      | .ret t ios =>
        match putIos is ios ρ with
        | some ρ1 => if ls = [] ∨ (t.flat ρ = true ∧ ios.all flatO = true) then .ok [t] ρ1 else .no
        | none => .no
      | .exc e ios =>
        match putIos is ios ρ with
        | some ρ1 => if ls = [] ∨ ((e.arg.map fun p => RL.flat p.2).getD true = true ∧ ios.all flatO = true) then .ex e ρ1 else .no
        | none => .no
      | .stuck => .no
    else .no
/-- a new list handed to a def that changes it: it lies in a slot beside, through the call -/
def tmpIx : List Bool → List T → Option Nat
  | true :: _, .f _ :: _ => some 0
  | _ :: ms, _ :: ts => (tmpIx ms ts).map (· + 1)
  | _, _ => none
def T.notF : T → Bool
  | .f _ => false
  | _ => true
def R.cut (n : Nat) : R → R
  | .ok [.p d] ρ => .ok [.p d] (ρ.take n)
  | .ok [.f d] ρ => .ok [.f d] (ρ.take n)
  | .ok _ _ => .no
  | .ex e ρ => .ex e (ρ.take n)
  | .no => .no
def callX (g : Fn) (ts : List T) (ρ : Env) : R :=
  match tmpIx g.io ts with
  | none => callR g ts ρ
  | some i =>
    match ts[i]? with
    | some (.f d) => if (ts.set i (.s ρ.length)).all T.notF = true then (callR g (ts.set i (.s ρ.length)) (ρ ++ [.ow d])).cut ρ.length else .no
    | _ => .no
variable (Γ : Nat → Option Fn)
def den : P → Env → R
  | .var i, ρ => match ρ[i]? with
    | some (.pu d) => .ok [.p d] ρ
    | some (.ow _) => .ok [.s i] ρ
    | some (.le _) => .ok [.s i] ρ
    | _ => .no
  | .cst d, ρ => .ok [.p d] ρ
  | .dct z, ρ => .ok [.f (.dict (dctD z))] ρ
  | .sh a, ρ => sealR (den a ρ) fun d => some (.p d)
  | .mxd a d, ρ => (den a ρ).b1 fun t1 ρ1 => (den d ρ1).b1 fun t2 ρ2 => op2 mxdD t1 t2 ρ2
  | .callK k _ js as, ρ => (den as ρ).bA fun ts ρ1 => match Γ k with
    | some g => match permT js ts with
      | some us => callX g us ρ1
      | none => .no
    | none => .no
  | .rgs as, ρ => (den as ρ).bA fun ts ρ1 => opN rgsD ts ρ1
  | .rgr a, ρ => (den a ρ).b1 fun t ρ1 => op1 rgrD t ρ1
  | .glo _ z, ρ => .ok [.p (.int z)] ρ
  | .bin op a b, ρ => (den a ρ).b1 fun t1 ρ1 => (den b ρ1).b1 fun t2 ρ2 => op2 (binD op) t1 t2 ρ2
  | .neg a, ρ => (den a ρ).b1 fun t ρ1 => op1 negD t ρ1
  | .cmp op a b, ρ => (den a ρ).b1 fun t1 ρ1 => (den b ρ1).b1 fun t2 ρ2 => op2 (bl2 (cmpD op)) t1 t2 ρ2
  | .chn op op' a b c, ρ => (den a ρ).b1 fun t1 ρ1 => (den b ρ1).b1 fun t2 ρ2 =>
    (op2 (bl2 (cmpD op)) t1 t2 ρ2).tst fun k ρ2' => if k = true then (den c ρ2').b1 fun t3 ρ3 => op2 (bl2 (cmpD op')) t2 t3 ρ3 else .ok [.p (.bool false)] ρ2'
  | .and a b, ρ => (den a ρ).tst fun k ρ1 => if k = true then (den b ρ1).tst fun j ρ2 => .ok [.p (.bool j)] ρ2 else .ok [.p (.bool false)] ρ1
  | .or a b, ρ => (den a ρ).tst fun k ρ1 => if k = true then .ok [.p (.bool true)] ρ1 else (den b ρ1).tst fun j ρ2 => .ok [.p (.bool j)] ρ2
  | .not a, ρ => (den a ρ).tst fun k ρ1 => .ok [.p (.bool (!k))] ρ1
  | .ite c a b, ρ => (den c ρ).tst fun k ρ1 => if k = true then den a ρ1 else den b ρ1
  | .tup as, ρ => (den as ρ).bA fun ts ρ1 =>
    match sealAll ts ρ1 with
    | some (ds, ρ2) => if ds.length ≤ 16777216 then .ok [.p (.tuple ds)] ρ2 else .no
    | none => .no
  | .lst as, ρ => (den as ρ).bA fun ts ρ1 =>
    match sealAll ts ρ1 with
    | some (ds, ρ2) => if ds.length ≤ 16777216 then .ok [.f (.list ds)] ρ2 else .no
    | none => .no
  | .nil, ρ => .ok [] ρ
  | .cons a as, ρ => (den a ρ).b1 fun t ρ1 => (den as ρ1).bA fun ts ρ2 => if (t.val ρ2).isSome = true then .ok (t :: ts) ρ2 else .no
  | .idx a i, ρ => (den a ρ).b1 fun t1 ρ1 => (den i ρ1).b1 fun t2 ρ2 => op2 idxD t1 t2 ρ2
  | .slc a lo hi, ρ => (den a ρ).b1 fun t ρ1 => R.part lo.isNil (den lo ρ1) (fun l ρ2 => if (t.val ρ2).isSome = true then R.part hi.isNil (den hi ρ2) (fun h ρ3 => op1 (fun d => slcD d l h) t ρ3) ρ2 else .no) ρ1
  | .prim k as, ρ => (den as ρ).bA fun ts ρ1 => opN (primD k) ts ρ1
  | .isa ty a, ρ => (den a ρ).b1 fun t ρ1 => op1 (fun d => (isaD ty d).map fun b => .p (.bool b)) t ρ1
  | .lset a, ρ => (den a ρ).b1 fun t ρ1 => op1 lsetD t ρ1
  | .call k as, ρ => (den as ρ).bA fun ts ρ1 => match Γ k with
    | some g => callX g ts ρ1
    | none => .no
  | .itr a, ρ => sealR (den a ρ) itrD
  | .rng as, ρ => (den as ρ).bA fun ts ρ1 => opN rngD ts ρ1
  | .enm a, ρ => sealR (den a ρ) enmD
  | .zip a b, ρ => (den a ρ).b1 fun t1 ρ1 => (den b ρ1).b1 fun t2 ρ2 =>
    match sealAll [t1, t2] ρ2 with
    | some ([d, e], ρ3) => give (zipD d e) ρ3
    | _ => .no
  | .tupR a, ρ => (den a ρ).b1 fun t ρ1 => op1 tupD t ρ1
  | .lstR a, ρ => (den a ρ).b1 fun t ρ1 => op1 lstD t ρ1
  | .lc own t it c body, ρ => (den it ρ).b1 fun ti ρ1 =>
    match ti with
    | .p (.list ds) =>
      match genGo t (den c) (den body) (own.map (·.2)) ds (wipeE ρ1 (own.map (·.2))) with
      | some (es, ρ2) => if ds.length ≤ 16777216 then .ok [.f (.list es)] (restore ρ1 ρ2 (own.map (·.2))) else .no
      | none => .no
    | _ => .no
end RL

namespace RL
open PySem PySem.Spec L2
section
variable {G : Gp} {W : WX} {σ : St} {ρ ρ' ρ1 ρ2 : Env} {H0 H H01 H1 H02 H2 H0' H' : Hp} {Q : VK}
theorem Fresh.back {v : V} {t : T} (st : Step σ ρ H0 H σ ρ1 H01 H1) (h : Fresh H1 v t) : Fresh H v t := by
  cases t with
  | f d =>
    intro a e
    cases q : H a with
    | none => rfl
    | some o =>
      have := st.dom a (by rw [q]; rfl)
      rw [h a e] at this; cases this
  | _ => trivial
theorem SlotR.ext {ov : Option V} {c : Cell} (x : Ext H0 H H0' H') (h : SlotR G H0 H ov c) : SlotR G H0' H' ov c := by
  cases c with
  | un => cases ov <;> trivial
  | pu d =>
    cases ov with
    | none => exact False.elim h
    | some v => exact Rp.mono x.g0 h
  | ow d =>
    cases ov with
    | none => exact False.elim h
    | some v =>
      cases v with
      | ref a =>
        obtain ⟨o, e, _⟩ := h.2.some
        exact ⟨x.na a (by rw [e]; rfl) h.1, h.2.mono x.g0 fun o e => x.g a o e⟩
      | _ => exact False.elim h
  | le d =>
    cases ov with
    | none => exact False.elim h
    | some v =>
      cases v with
      | ref a =>
        obtain ⟨o, e, _⟩ := h.2.some
        exact ⟨x.na a (by rw [e]; rfl) h.1, h.2.mono x.g0 fun o e => x.g a o e⟩
      | _ => exact False.elim h
theorem RE.ext (re : RE G H0 H σ ρ) (x : Ext H0 H H0' H') : RE G H0' H' σ ρ :=
  ⟨x.sub, re.len, fun i c e => let ⟨ov, e1, s⟩ := re.slot i c e; ⟨ov, e1, s.ext x⟩, re.apart⟩
theorem Ext.step (x : Ext H0 H H0' H') : Step σ ρ H0 H σ ρ H0' H' :=
  ⟨x.g0, fun a h h0 _ => x.na a h h0, fun a o e _ => x.g a o e, fun a h => .inl h, fun a h => by
    cases q : H a with
    | none => rw [q] at h; cases h
    | some o => rw [x.g a o q]; rfl⟩
theorem RN.rt (re : RE G H0 H σ ρ) (x : Ext H0 H H0' H') {v : V} {t : T} (h : RN G H H0' H' v t) : RT G H0' H' σ ρ v t ∧ Fresh H v t := by
  cases t with
  | p d => exact ⟨h, trivial⟩
  | f d =>
    obtain ⟨a, rfl, n, n0, to⟩ := h
    refine ⟨⟨a, rfl, n0, fun z => ?_, to⟩, fun b e => by cases e; exact n⟩
    obtain ⟨_, d', to'⟩ := re.own_at z
    obtain ⟨o, e, _⟩ := to'.some
    rw [n] at e; cases e
  | s i => exact False.elim h
/-- an operation's end -/
theorem vout_of {t : T} {v : V} (re : RE G H01 H1 σ ρ1) (st : Step σ ρ H0 H σ ρ1 H01 H1) (k : kOf G W (.ok t ρ1) σ ρ H0 H Q) : VOut G H01 H1 t Q := fun v H0' H' x rn =>
  let ⟨rt, fr⟩ := rn.rt re x
  k v H0' H' (re.ext x) (st.trans x.step) rt (fr.back st)
theorem give_eo {o : Option T} {ρ : Env} : (give o ρ).eo = match o with | some t => .ok t ρ | none => .no := by cases o <;> rfl
theorem eo_b1 (r : R) (f : T → Env → R) : (r.b1 f).eo = match r.eo with | .ok t ρ => (f t ρ).eo | .ex e ρ => .ex e ρ | .no => .no := by
  cases r with
  | ok ts ρ =>
    rcases ts with _ | ⟨t, _ | ⟨u, ts⟩⟩ <;> rfl
  | ex e ρ => rfl
  | no => rfl
/-- one term, then what is done with its value -/
theorem one_s {fa : Env → R} {g : T → Env → R} {Rr : V → Hp → Prop}
    (fin : ∀ ρ H0 t ρ1 v H01 H1, RE G H0 H σ ρ → RE G H01 H1 σ ρ1 → Step σ ρ H0 H σ ρ1 H01 H1 → RT G H01 H1 σ ρ1 v t → Fresh H v t → kOf G W (g t ρ1).eo σ ρ H0 H Q → Rr v H1)
    (h : tOf G W (fun ρ => ((fa ρ).b1 g).eo) σ H Q) : tOf G W (fun ρ => (fa ρ).eo) σ H Rr := by
  obtain ⟨H0, ρ, re, k⟩ := h
  refine ⟨H0, ρ, re, ?_⟩
  replace k : kOf G W ((fa ρ).b1 g).eo σ ρ H0 H Q := k
  show kOf G W (fa ρ).eo σ ρ H0 H Rr
  rw [eo_b1] at k
  cases e1 : (fa ρ).eo with
  | no => rw [e1] at k; exact k
  | ex e ρ' => rw [e1] at k; exact k
  | ok t1 ρ1 =>
    rw [e1] at k
    exact fun v1 H01 H1 re1 st1 rt1 fr1 => fin ρ H0 t1 ρ1 v1 H01 H1 re re1 st1 rt1 fr1 k
theorem op1_s {fa : Env → R} {f : D → Option T} {Rr : V → Hp → Prop} (fin : ∀ v H1, rL G f v H1 Q → Rr v H1)
    (h : tOf G W (fun ρ => ((fa ρ).b1 (op1 f)).eo) σ H Q) : tOf G W (fun ρ => (fa ρ).eo) σ H Rr := by
  refine one_s (fun ρ H0 t ρ1 v H01 H1 re re1 st rt fr k => fin v H1 ?_) h
  unfold op1 at k
  cases e : t.val ρ1 with
  | none => rw [e] at k; exact False.elim k
  | some d =>
    rw [e] at k
    simp only [give_eo] at k
    cases e2 : f d with
    | none => rw [e2] at k; exact False.elim k
    | some t' => rw [e2] at k; exact ⟨H01, d, t', re1.sub, rt.rv re1 e, e2, vout_of (v := v) re1 st k⟩
/-- two terms from the left -/
theorem two_s {fa fb : Env → R} {g : T → T → Env → R} {Rr : V → V → Hp → Prop} (hk : ∀ t1 t2 ρ, (g t1 t2 ρ).eo ≠ .no → ∃ d, t1.val ρ = some d)
    (fin : ∀ ρ H0 t1 t2 ρ2 v1 v2 H02 H2, RE G H0 H σ ρ → RE G H02 H2 σ ρ2 → Step σ ρ H0 H σ ρ2 H02 H2 → RT G H02 H2 σ ρ2 v1 t1 → RT G H02 H2 σ ρ2 v2 t2 → Fresh H v1 t1 → Fresh H v2 t2 → kOf G W (g t1 t2 ρ2).eo σ ρ H0 H Q → Rr v1 v2 H2)
    (h : tOf G W (fun ρ => ((fa ρ).b1 fun t1 ρ1 => (fb ρ1).b1 fun t2 ρ2 => g t1 t2 ρ2).eo) σ H Q) : tOf G W (fun ρ => (fa ρ).eo) σ H fun x H1 => tOf G W (fun ρ => (fb ρ).eo) σ H1 fun y H2 => Rr x y H2 := by
  refine one_s (fun ρ H0 t1 ρ1 v1 H01 H1 re re1 st1 rt1 fr1 k => ?_) h
  refine ⟨H01, ρ1, re1, ?_⟩
  show kOf G W (fb ρ1).eo σ ρ1 H01 H1 _
  rw [eo_b1] at k
  cases e2 : (fb ρ1).eo with
  | no => rw [e2] at k; exact k
  | ex e ρ' =>
    rw [e2] at k
    exact fun cls d H0' H' re' st' x => k cls d H0' H' re' (st1.trans st') x
  | ok t2 ρ2 =>
    rw [e2] at k
    replace k : kOf G W (g t1 t2 ρ2).eo σ ρ H0 H Q := k
    intro v2 H02 H2 re2 st2 rt2 fr2
    have hn : (g t1 t2 ρ2).eo ≠ .no := fun z => by rw [z] at k; exact k
    obtain ⟨d, hd⟩ := hk t1 t2 ρ2 hn
    exact fin ρ H0 t1 t2 ρ2 v1 v2 H02 H2 re re2 (st1.trans st2) (rt1.step st2 (KeepT.of hd)) rt2 fr1 (fr2.back st1) k
theorem op2_s {fa fb : Env → R} {f : D → D → Option T} (h : tOf G W (fun ρ => ((fa ρ).b1 fun t1 ρ1 => (fb ρ1).b1 fun t2 ρ2 => op2 f t1 t2 ρ2).eo) σ H Q) :
    tOf G W (fun ρ => (fa ρ).eo) σ H fun x H1 => tOf G W (fun ρ => (fb ρ).eo) σ H1 fun y H2 => rB G f x y H2 Q := by
  refine two_s (fun t1 t2 ρ hn => ?_) (fun ρ H0 t1 t2 ρ2 v1 v2 H02 H2 re re2 st rt1 rt2 fr1 fr2 k => ?_) h
  · unfold op2 at hn
    cases e : t1.val ρ with
    | none => rw [e] at hn; exact absurd rfl hn
    | some d => exact ⟨d, rfl⟩
  · unfold op2 at k
    cases e : t1.val ρ2 with
    | none => rw [e] at k; exact False.elim k
    | some d =>
      cases e' : t2.val ρ2 with
      | none => rw [e, e'] at k; exact False.elim k
      | some d' =>
        rw [e, e'] at k
        simp only [give_eo] at k
        cases e2 : f d d' with
        | none => rw [e2] at k; exact False.elim k
        | some t' => rw [e2] at k; exact ⟨H02, d, d', t', re2.sub, rt1.rv re2 e, rt2.rv re2 e', e2, vout_of (v := v1) re2 st k⟩

/-! argument lists -/
def kA (G : Gp) (W : WX) (r : R) (σ : St) (ρ : Env) (H0 H : Hp) (Q : List V → Hp → Prop) : Prop :=
  match r with
  | .ok ts ρ' => ∀ vs H0' H', RE G H0' H' σ ρ' → Step σ ρ H0 H σ ρ' H0' H' → Paired (RT G H0' H' σ ρ') vs ts → Paired (Fresh H) vs ts → Q vs H'
  | .ex e ρ' => ∀ cls d H0' H', RE G H0' H' σ ρ' → Step σ ρ H0 H σ ρ' H0' H' → ExR G H0' H' e cls d → W cls d σ H'
  | .no => False
def aOf (G : Gp) (W : WX) (f : Env → R) : TA := fun σ H Q => ∃ H0 ρ, RE G H0 H σ ρ ∧ kA G W (f ρ) σ ρ H0 H Q
/-- that every earlier term still has a value -/
def keeps (ts : List T) (ρ : Env) : Bool := ts.all fun t => (t.val ρ).isSome
end
end RL

namespace RL
open PySem PySem.Spec L2
section
variable {G : Gp} {W : WX} {σ : St} {ρ ρ' ρ1 ρ2 : Env} {H0 H H01 H1 H02 H2 H0' H' : Hp} {Q : VK}

/-! argument lists -/
theorem Paired.imp {α β : Type} {F F' : α → β → Prop} {l : List α} {m : List β} (h : Paired F l m) (i : ∀ a b, F a b → F' a b) : Paired F' l m := L2.Paired.mapP h i
theorem args_nil_s {Q : List V → Hp → Prop} (h : aOf G W (fun ρ => .ok [] ρ) σ H Q) : tNil σ H Q := by
  obtain ⟨H0, ρ, re, k⟩ := h
  exact k [] H0 H re .refl .nil .nil
theorem args_cons_s {fa fs : Env → R} {Q : List V → Hp → Prop} (h : aOf G W (fun ρ => (fa ρ).b1 fun t ρ1 => (fs ρ1).bA fun ts ρ2 => if (t.val ρ2).isSome = true then .ok (t :: ts) ρ2 else .no) σ H Q) :
    tCons (tOf G W fun ρ => (fa ρ).eo) (aOf G W fs) σ H Q := by
  obtain ⟨H0, ρ, re, k⟩ := h
  refine ⟨H0, ρ, re, ?_⟩
  show kOf G W (fa ρ).eo σ ρ H0 H _
  replace k : kA G W ((fa ρ).b1 fun t ρ1 => (fs ρ1).bA fun ts ρ2 => if (t.val ρ2).isSome = true then .ok (t :: ts) ρ2 else .no) σ ρ H0 H Q := k
  cases e1 : fa ρ with
  | no => rw [e1] at k; exact k
  | ex e ρ' => rw [e1] at k; exact k
  | ok ts1 ρ1 =>
    rw [e1] at k
    rcases ts1 with _ | ⟨t1, _ | ⟨u, ts1⟩⟩
    · exact k
    · replace k : kA G W ((fs ρ1).bA fun ts ρ2 => if (t1.val ρ2).isSome = true then .ok (t1 :: ts) ρ2 else .no) σ ρ H0 H Q := k
      intro v1 H01 H1 re1 st1 rt1 fr1
      refine ⟨H01, ρ1, re1, ?_⟩
      show kA G W (fs ρ1) σ ρ1 H01 H1 _
      cases e2 : fs ρ1 with
      | no => rw [e2] at k; exact k
      | ex e ρ' => rw [e2] at k; exact fun cls d H0' H' re' st' x => k cls d H0' H' re' (st1.trans st') x
      | ok ts ρ2 =>
        rw [e2] at k
        replace k : kA G W (if (t1.val ρ2).isSome = true then .ok (t1 :: ts) ρ2 else .no) σ ρ H0 H Q := k
        by_cases c : (t1.val ρ2).isSome = true
        · rw [if_pos c] at k
          obtain ⟨d, hd⟩ := Option.isSome_iff_exists.mp c
          exact fun vs H02 H2 re2 st2 rts frs => k (v1 :: vs) H02 H2 re2 (st1.trans st2) (.cons (rt1.step st2 (KeepT.of hd)) rts) (.cons fr1 (L2.Paired.mapP frs fun v t z => z.back st1))
        · rw [if_neg c] at k
          exact False.elim k
    · exact k
theorem eo_bA (r : R) (f : List T → Env → R) : (r.bA f).eo = match r with | .ok ts ρ => (f ts ρ).eo | .ex e ρ => .ex e ρ | .no => .no := by cases r <;> rfl
theorem args_s {fs : Env → R} {g : List T → Env → R} {Rr : List V → Hp → Prop}
    (fin : ∀ ρ H0 ts ρ1 vs H01 H1, RE G H0 H σ ρ → RE G H01 H1 σ ρ1 → Step σ ρ H0 H σ ρ1 H01 H1 → Paired (RT G H01 H1 σ ρ1) vs ts → Paired (Fresh H) vs ts → kOf G W (g ts ρ1).eo σ ρ H0 H Q → Rr vs H1)
    (h : tOf G W (fun ρ => ((fs ρ).bA g).eo) σ H Q) : aOf G W fs σ H Rr := by
  obtain ⟨H0, ρ, re, k⟩ := h
  refine ⟨H0, ρ, re, ?_⟩
  replace k : kOf G W ((fs ρ).bA g).eo σ ρ H0 H Q := k
  rw [eo_bA] at k
  cases e1 : fs ρ with
  | no => rw [e1] at k; exact k
  | ex e ρ' => rw [e1] at k; exact k
  | ok ts ρ1 =>
    rw [e1] at k
    replace k : kOf G W (g ts ρ1).eo σ ρ H0 H Q := k
    exact fun vs H01 H1 re1 st1 rts frs => fin ρ H0 ts ρ1 vs H01 H1 re re1 st1 rts frs k
theorem vals_rv : ∀ {vs : List V} {ts : List T} {ds : List D}, RE G H0 H σ ρ → Paired (RT G H0 H σ ρ) vs ts → vals ts ρ = some ds → Paired (RV G H0 H) vs ds
  | _, _, _, _, .nil, e => by cases e; exact .nil
  | _, _, _, re, .cons h r, e => by
    simp only [vals] at e
    obtain ⟨d, hd, e⟩ := Option.bind_eq_some_iff.mp e
    obtain ⟨ds, hds, rfl⟩ := Option.map_eq_some_iff.mp e
    exact .cons (h.rv re hd) (vals_rv re r hds)
theorem opN_s {fs : Env → R} {f : List D → Option T} (h : tOf G W (fun ρ => ((fs ρ).bA (opN f)).eo) σ H Q) : aOf G W fs σ H fun vs H1 => rF G f vs H1 Q := by
  refine args_s (fun ρ H0 ts ρ1 vs H01 H1 re re1 st rts frs k => ?_) h
  unfold opN at k
  cases e : vals ts ρ1 with
  | none => rw [e] at k; exact False.elim k
  | some ds =>
    rw [e] at k
    simp only [give_eo] at k
    cases e2 : f ds with
    | none => rw [e2] at k; exact False.elim k
    | some t' => rw [e2] at k; exact ⟨H01, ds, t', re1.sub, vals_rv re1 rts e, e2, vout_of (v := .non) re1 st k⟩

/-! sealing -/
def RTw (G : Gp) (H0 H : Hp) (σ : St) (ρ : Env) (v : V) : T → Prop
  | .p d => Rp G H0 v d
  | .f d => ∃ a, v = .ref a ∧ ¬ Own σ ρ a ∧ TopO G H0 H a d
  | .s i => σ[i]? = some (some v)
theorem RT.w {v : V} {t : T} (h : RT G H0 H σ ρ v t) : RTw G H0 H σ ρ v t := by
  cases t with
  | p d => exact h
  | f d => obtain ⟨a, e, _, n, to⟩ := h; exact ⟨a, e, n, to⟩
  | s i => exact h.1
/-- one more address is shared -/
def absorb (H0 H : Hp) (a : Addr) : Hp := fun b => if b = a then H a else H0 b
theorem absorb_same {H0 H : Hp} (s : Same H0 H) (a : Addr) : Same H0 (absorb H0 H a) := fun b o e => by
  unfold absorb
  split
  · rename_i h; subst h; exact s _ _ e
  · exact e
theorem absorb_sub {H0 H : Hp} (s : Same H0 H) (a : Addr) : Same (absorb H0 H a) H := fun b o e => by
  unfold absorb at e
  split at e
  · rename_i h; subst h; exact e
  · exact s _ _ e
theorem absorb_at (H0 H : Hp) (a : Addr) : absorb H0 H a a = H a := by unfold absorb; rw [if_pos rfl]
theorem absorb_ne {H0 H : Hp} {a b : Addr} (h : b ≠ a) : absorb H0 H a b = H0 b := by unfold absorb; rw [if_neg h]
theorem TopO.rp {a : Addr} {d : D} (h : TopO G H0 H a d) (s : Same H0 H0') (e : H0' a = H a) : Rp G H0' (.ref a) d := by
  cases d with
  | list ds => obtain ⟨vs, e1, r⟩ := h; exact .lst (.of (e.trans e1)) (r.mono s)
  | dict kvs => obtain ⟨n, es, e1, r⟩ := h; exact .dic n (.of (e.trans e1)) (r.mono s)
  | _ => exact False.elim h
theorem own_set {i : Nat} {d : D} {a : Addr} (h : Own σ (ρ.set i (.pu d)) a) : Own σ ρ a := by
  obtain ⟨j, e, c, ec, o⟩ := h
  by_cases hj : i = j
  · subst hj
    rw [List.getElem?_set] at ec
    split at ec
    · split at ec
      · cases ec; cases o
      · cases ec
    · rename_i z; exact absurd rfl z
  · rw [List.getElem?_set_ne hj] at ec
    exact ⟨j, e, c, ec, o⟩
theorem ownAt_set {i j : Nat} {d : D} {a : Addr} (h : OwnAt σ (ρ.set i (.pu d)) j a) : OwnAt σ ρ j a ∧ j ≠ i := by
  obtain ⟨e, c, ec, o⟩ := h
  by_cases hj : i = j
  · subst hj
    rw [List.getElem?_set] at ec
    split at ec
    · split at ec
      · cases ec; cases o
      · cases ec
    · rename_i z; exact absurd rfl z
  · rw [List.getElem?_set_ne hj] at ec
    exact ⟨⟨e, c, ec, o⟩, fun z => hj z.symm⟩
/-- the slots other than one that changes its address' state -/
theorem SlotR.absorb {ov : Option V} {c : Cell} {a : Addr} (s : Same H0 H) (n : c.own = true → ov ≠ some (.ref a)) (h : SlotR G H0 H ov c) : SlotR G (absorb H0 H a) H ov c := by
  cases c with
  | un => cases ov <;> trivial
  | pu d =>
    cases ov with
    | none => exact False.elim h
    | some v => exact Rp.mono (absorb_same s a) h
  | ow d =>
    obtain ⟨b, d', rfl, _, h0, to⟩ := h.cases_own rfl
    have hne : b ≠ a := fun z => n rfl (by rw [z])
    exact ⟨by rw [absorb_ne hne]; exact h0, h.2.mono (absorb_same s a) fun _ e => e⟩
  | le d =>
    obtain ⟨b, d', rfl, _, h0, to⟩ := h.cases_own rfl
    have hne : b ≠ a := fun z => n rfl (by rw [z])
    exact ⟨by rw [absorb_ne hne]; exact h0, h.2.mono (absorb_same s a) fun _ e => e⟩
theorem RTw.absorb {v : V} {t : T} {a : Addr} {ρ' : Env} (s : Same H0 H) (ow : ∀ b, Own σ ρ' b → Own σ ρ b) (h : RTw G H0 H σ ρ v t) : RTw G (absorb H0 H a) H σ ρ' v t := by
  cases t with
  | p d => exact Rp.mono (absorb_same s a) h
  | f d => obtain ⟨b, e, n, to⟩ := h; exact ⟨b, e, fun z => n (ow b z), to.mono (absorb_same s a) fun _ e => e⟩
  | s i => exact h
theorem seal_s {v : V} {t : T} {d : D} (re : RE G H01 H1 σ ρ1) (st : Step σ ρ H0 H σ ρ1 H01 H1) (rt : RTw G H01 H1 σ ρ1 v t) (fr : Fresh H v t) (e : t.seal ρ1 = some (d, ρ2)) :
    ∃ H02, RE G H02 H1 σ ρ2 ∧ Step σ ρ H0 H σ ρ2 H02 H1 ∧ Rp G H02 v d ∧ Same H01 H02 ∧ ∀ v' t', RTw G H01 H1 σ ρ1 v' t' → RTw G H02 H1 σ ρ2 v' t' := by
  cases t with
  | p x => cases e; exact ⟨H01, re, st, rt, Same.refl _, fun _ _ h => h⟩
  | f x =>
    cases e
    obtain ⟨a, rfl, no, to⟩ := rt
    refine ⟨absorb H01 H1 a, ⟨absorb_sub re.sub a, re.len, fun i c ec => ?_, re.apart⟩, ⟨st.g0.trans (absorb_same re.sub a), fun x hx h0 n => ?_, st.fr, st.on, st.dom⟩, to.rp (absorb_same re.sub a) (absorb_at _ _ _), absorb_same re.sub a, fun v' t' h => h.absorb re.sub fun _ z => z⟩
    · obtain ⟨ov, e1, sl⟩ := re.slot i c ec
      exact ⟨ov, e1, sl.absorb re.sub fun o z => no ⟨i, by rw [e1, z], c, ec, o⟩⟩
    · have hne : x ≠ a := fun z => by
        have := fr a rfl
        rw [z, this] at hx; cases hx
      rw [absorb_ne hne]
      exact st.na x hx h0 n
  | s i =>
    simp only [T.seal] at e
    cases ec : ρ1[i]? with
    | none => rw [ec] at e; cases e
    | some c =>
      rw [ec] at e
      cases c with
      | un => cases e
      | le x => cases e
      | pu x =>
        cases e
        obtain ⟨ov, e1, sl⟩ := re.slot i _ ec
        rw [show σ[i]? = some (some v) from rt] at e1
        cases e1
        exact ⟨H01, re, st, sl, Same.refl _, fun _ _ h => h⟩
      | ow x =>
        cases e
        obtain ⟨ov, e1, sl⟩ := re.slot i _ ec
        obtain ⟨a, x', rfl, ex, h0a, to⟩ := sl.cases_own rfl
        cases ex
        rw [show σ[i]? = some (some v) from rt] at e1
        cases e1
        have hown : OwnAt σ ρ1 i a := ⟨rt, _, ec, rfl⟩
        refine ⟨absorb H01 H1 a, ⟨absorb_sub re.sub a, by rw [List.length_set]; exact re.len, fun j c ej => ?_, fun j k b h1 h2 => re.apart j k b (ownAt_set h1).1 (ownAt_set h2).1⟩,
          ⟨st.g0.trans (absorb_same re.sub a), fun x hx h0 n => ?_, st.fr, fun b z => st.on b (own_set z), st.dom⟩, to.rp (absorb_same re.sub a) (absorb_at _ _ _), absorb_same re.sub a, fun v' t' h => h.absorb re.sub fun _ z => own_set z⟩
        · by_cases hj : i = j
          · subst hj
            rw [List.getElem?_set_self (List.getElem?_eq_some_iff.mp ec).1] at ej
            cases ej
            exact ⟨_, rt, to.rp (absorb_same re.sub a) (absorb_at _ _ _)⟩
          · rw [List.getElem?_set_ne hj] at ej
            obtain ⟨ov, e2, sl2⟩ := re.slot j c ej
            exact ⟨ov, e2, sl2.absorb re.sub fun o z => hj (re.apart i j a hown ⟨by rw [e2, z], c, ej, o⟩)⟩
        · have hne : x ≠ a := fun z => by
            subst z
            rcases st.on x ⟨i, hown⟩ with q | q
            · exact n q
            · rw [q] at hx; cases hx
          rw [absorb_ne hne]
          exact st.na x hx h0 n
theorem sealAll_s : ∀ {ts : List T} {vs : List V} {ds : List D} {ρ1 ρ2 : Env} {H01 : Hp}, RE G H01 H1 σ ρ1 → Step σ ρ H0 H σ ρ1 H01 H1 → Paired (RTw G H01 H1 σ ρ1) vs ts → Paired (Fresh H) vs ts → sealAll ts ρ1 = some (ds, ρ2) →
    ∃ H02, RE G H02 H1 σ ρ2 ∧ Step σ ρ H0 H σ ρ2 H02 H1 ∧ Rps G H02 vs ds ∧ Same H01 H02
  | [], _, _, _, _, H01, re, st, rts, _, e => by
    cases rts; cases e
    exact ⟨H01, re, st, .nil, Same.refl _⟩
  | t :: ts, _, _, ρ1, _, H01, re, st, rts, frs, e => by
    cases rts with
    | cons rt rts =>
      cases frs with
      | cons fr frs =>
        simp only [sealAll] at e
        cases e1 : t.seal ρ1 with
        | none => rw [e1] at e; cases e
        | some p =>
          obtain ⟨d, ρ1'⟩ := p
          rw [e1] at e
          simp only at e
          cases e2 : sealAll ts ρ1' with
          | none => rw [e2] at e; cases e
          | some q =>
            obtain ⟨ds, ρ2'⟩ := q
            rw [e2] at e
            cases e
            obtain ⟨Ha, rea, sta, rpa, sma, ka⟩ := seal_s re st rt fr e1
            obtain ⟨Hb, reb, stb, rpb, smb⟩ := sealAll_s rea sta (L2.Paired.mapP rts fun v t z => ka v t z) frs e2
            exact ⟨Hb, reb, stb, .cons (rpa.mono smb) rpb, sma.trans smb⟩
end
end RL

namespace RL
open PySem PySem.Spec L2
/-! what a def promises, by data -/
def ioV : List Bool → List V → List V
  | true :: ms, v :: vs => v :: ioV ms vs
  | false :: ms, _ :: vs => ioV ms vs
  | _, _ => []
def ArgsR (G : Gp) (H0 H : Hp) : List Bool → List V → List D → Prop
  | false :: ms, v :: vs, d :: ds => Rp G H0 v d ∧ ArgsR G H0 H ms vs ds
  | true :: ms, v :: vs, d :: ds => (∃ a, v = .ref a ∧ H0 a = none ∧ TopO G H0 H a d) ∧ ArgsR G H0 H ms vs ds
  | [], [], [] => True
  | _, _, _ => False
abbrev IoR (G : Gp) (H0 H : Hp) : List V → List D → Prop := Paired fun v d => ∃ a, v = .ref a ∧ H0 a = none ∧ TopO G H0 H a d
structure StepF (A : List V) (H0 H H0' H' : Hp) : Prop where
  g0 : Same H0 H0'
  na : ∀ a, (H a).isSome = true → H0 a = none → V.ref a ∉ A → H0' a = none
  fr : ∀ a o, H a = some o → V.ref a ∉ A → H' a = some o
  dom : ∀ a, (H a).isSome = true → (H' a).isSome = true
def RTF (G : Gp) (H0 H : Hp) (v : V) : T → Prop
  | .p d => Rp G H0 v d
  | .f d => ∃ a, v = .ref a ∧ H0 a = none ∧ TopO G H0 H a d
  | .s _ => False
def spD (G : Gp) (g : Fn) : Sp := fun vs H Q E => ∃ H0 ds, Same H0 H ∧ ArgsR G H0 H g.io vs ds ∧ (ioV g.io vs).Nodup ∧
  match g.φ ds with
  | .ret t ios => ∀ v H0' H', Same H0' H' → IoR G H0' H' (ioV g.io vs) ios → StepF (ioV g.io vs) H0 H H0' H' → RTF G H0' H' v t → Fresh H v t → Q v H'
  | .exc e ios => ∀ cls d H0' H', Same H0' H' → IoR G H0' H' (ioV g.io vs) ios → StepF (ioV g.io vs) H0 H H0' H' → ExR G H0' H' e cls d → E cls d H'
  | .stuck => False

mutual
theorem Rp.moveF {G : Gp} {H H' : Hp} (k : ∀ a xs, SqT G.K H a xs → SqT G.K H' a xs) : ∀ {v : V} {d : D}, Rp G H v d → flat d = true → Rp G H' v d
  | _, _, .non, _ => .non
  | _, _, .bl b, _ => .bl b
  | _, _, .int i, _ => .int i
  | _, _, .str x, _ => .str x
  | _, _, .tup h r, f => .tup (k _ _ h) (Rps.moveF k r (by simpa only [flat] using f))
  | _, _, .lst _ _, f => by simp [flat] at f
  | _, _, .dic _ _ _, f => by simp [flat] at f
theorem Rps.moveF {G : Gp} {H H' : Hp} (k : ∀ a xs, SqT G.K H a xs → SqT G.K H' a xs) : ∀ {vs : List V} {ds : List D}, Rps G H vs ds → flats ds = true → Rps G H' vs ds
  | _, _, .nil, _ => .nil
  | _, _, .cons h r, f => by
    simp only [flats, Bool.and_eq_true] at f
    exact .cons (Rp.moveF k h f.1) (Rps.moveF k r f.2)
end
theorem TopO.moveF {G : Gp} {H0 H H0' : Hp} {a : Addr} {d : D} (k : ∀ a xs, SqT G.K H0 a xs → SqT G.K H0' a xs) (h : TopO G H0 H a d) (f : flatO d = true) : TopO G H0' H a d := by
  cases d with
  | list ds => obtain ⟨vs, e, r⟩ := h; exact ⟨vs, e, r.moveF k (by simpa only [flatO] using f)⟩
  | _ => simp [flatO] at f

section
variable {G : Gp} {W : WX} {σ : St} {ρ ρ' ρ1 ρ2 : Env} {H0 H H01 H1 H02 H2 H0' H' : Hp} {Q : VK}
theorem argsOf_s {H0c : Hp} {Ab : Addr → Prop} (re : RE G H01 H1 σ ρ1) (s1 : Same H01 H0c) (s2 : Same H0c H1) (ab : ∀ b, Ab b → H0c b = H1 b) (nab : ∀ b, ¬ Ab b → H0c b = H01 b) :
    ∀ {io : List Bool} {ts : List T} {vs : List V} {ds : List D} {ls is : List Nat}, argsOf io ts ρ1 = some (ds, ls, is) → Paired (RT G H01 H1 σ ρ1) vs ts →
      (∀ i ∈ ls, ∀ b, σ[i]? = some (some (.ref b)) → Ab b) → (∀ p ∈ vs.zip ts, ∀ d b, p = (.ref b, .f d) → Ab b) → (∀ i ∈ is, ∀ b, σ[i]? = some (some (.ref b)) → ¬ Ab b) →
      ArgsR G H0c H1 io vs ds ∧ Paired (fun v i => ∃ a d, v = .ref a ∧ σ[i]? = some (some (.ref a)) ∧ ρ1[i]? = some (.ow d)) (ioV io vs) is
  | [], [], _, _, _, _, e, r, _, _, _ => by
    cases r
    simp only [argsOf, Option.some.injEq, Prod.mk.injEq] at e
    obtain ⟨rfl, rfl, rfl⟩ := e
    exact ⟨trivial, .nil⟩
  | [], _ :: _, _, _, _, _, e, _, _, _, _ => by simp [argsOf] at e
  | false :: ms, [], _, _, _, _, e, _, _, _, _ => by simp [argsOf] at e
  | true :: ms, [], _, _, _, _, e, _, _, _, _ => by simp [argsOf] at e
  | false :: ms, t :: ts, _, ds, ls, is, e, r, hl, hf, hi => by
    cases r with
    | @cons v _ vs _ r1 r2 =>
      simp only [argsOf] at e
      cases e1 : t.val ρ1 with
      | none => rw [e1] at e; simp at e
      | some d =>
        cases e2 : argsOf ms ts ρ1 with
        | none => rw [e1, e2] at e; simp at e
        | some q =>
          obtain ⟨ds', ls', is'⟩ := q
          rw [e1, e2] at e
          simp only at e
          have go : (∀ i ∈ ls', ∀ b, σ[i]? = some (some (.ref b)) → Ab b) → (∀ i ∈ is', ∀ b, σ[i]? = some (some (.ref b)) → ¬ Ab b) → Rp G H0c v d → ArgsR G H0c H1 (false :: ms) (v :: vs) (d :: ds') ∧ Paired (fun v i => ∃ a d, v = .ref a ∧ σ[i]? = some (some (.ref a)) ∧ ρ1[i]? = some (.ow d)) (ioV (false :: ms) (v :: vs)) is' := by
            intro hlt hi rp
            obtain ⟨a1, a2⟩ := argsOf_s re s1 s2 ab nab e2 r2 hlt (fun p h => hf p (List.mem_cons_of_mem _ h)) hi
            exact ⟨⟨rp, a1⟩, a2⟩
          cases t with
          | p x =>
            cases e1
            simp only [Option.some.injEq, Prod.mk.injEq] at e
            obtain ⟨rfl, rfl, rfl⟩ := e
            exact go hl hi (Rp.mono s1 r1)
          | f x =>
            cases e1
            simp only [Option.some.injEq, Prod.mk.injEq] at e
            obtain ⟨rfl, rfl, rfl⟩ := e
            obtain ⟨a, rfl, h0, no, to⟩ := r1
            exact go hl hi (to.rp s1 (ab a (hf (.ref a, .f d) List.mem_cons_self d a rfl)))
          | s i =>
            obtain ⟨es, c, ec, _⟩ := r1
            obtain ⟨ov, e3, sl⟩ := re.slot i c ec
            rw [es] at e3; cases e3
            have hv : c.val = some d := by simpa [T.val, ec] using e1
            simp only [ec, Option.map_some, Option.some.injEq] at e
            by_cases o : c.own = true
            · rw [if_pos o] at e
              simp only [Option.some.injEq, Prod.mk.injEq] at e
              obtain ⟨rfl, rfl, rfl⟩ := e
              obtain ⟨a, d', e4, e5, h0, to⟩ := sl.cases_own o
              cases e4
              rw [hv] at e5; cases e5
              exact go (fun k h => hl k (List.mem_cons_of_mem _ h)) hi (to.rp s1 (ab a (hl i List.mem_cons_self a es)))
            · rw [if_neg o] at e
              simp only [Option.some.injEq, Prod.mk.injEq] at e
              obtain ⟨rfl, rfl, rfl⟩ := e
              refine go hl hi ?_
              cases c with
              | un => cases hv
              | pu x => cases hv; exact Rp.mono s1 sl
              | ow x => exact absurd rfl o
              | le x => exact absurd rfl o
  | true :: ms, t :: ts, _, ds, ls, is, e, r, hl, hf, hi => by
    cases r with
    | @cons v _ vs _ r1 r2 =>
      cases t with
      | p x => simp [argsOf] at e
      | f x => simp [argsOf] at e
      | s i =>
        simp only [argsOf] at e
        cases ec : ρ1[i]? with
        | none => rw [ec] at e; simp at e
        | some c =>
          rw [ec] at e
          cases e2 : argsOf ms ts ρ1 with
          | none => rw [e2] at e; cases c <;> simp at e
          | some q =>
            obtain ⟨ds', ls', is'⟩ := q
            rw [e2] at e
            cases c with
            | ow d =>
              simp only [Option.some.injEq, Prod.mk.injEq] at e
              obtain ⟨rfl, rfl, rfl⟩ := e
              obtain ⟨es, _⟩ := r1
              obtain ⟨ov, e3, sl⟩ := re.slot i _ ec
              rw [es] at e3; cases e3
              obtain ⟨a, d', e4, e5, h0, to⟩ := sl.cases_own rfl
              cases e4; cases e5
              obtain ⟨a1, a2⟩ := argsOf_s re s1 s2 ab nab e2 r2 hl (fun p h => hf p (List.mem_cons_of_mem _ h)) (fun k h => hi k (List.mem_cons_of_mem _ h))
              have hna := hi i List.mem_cons_self a es
              exact ⟨⟨⟨a, rfl, by rw [nab a hna]; exact h0, to.mono s1 fun _ z => z⟩, a1⟩, .cons ⟨a, d, rfl, es, ec⟩ a2⟩
            | _ => simp at e
theorem putIos_get : ∀ {is : List Nat} {ios : List D} {ρ ρ2 : Env}, is.Nodup → (∀ i ∈ is, ∃ c, ρ[i]? = some c) → putIos is ios ρ = some ρ2 → ρ2.length = ρ.length ∧ (∀ j, j ∉ is → ρ2[j]? = ρ[j]?) ∧ Paired (fun i d => ρ2[i]? = some (.ow d)) is ios
  | [], [], _, _, _, _, e => by cases e; exact ⟨rfl, fun _ _ => rfl, .nil⟩
  | [], _ :: _, _, _, _, _, e => by simp [putIos] at e
  | _ :: _, [], _, _, _, _, e => by simp [putIos] at e
  | i :: is, d :: ds, ρ, ρ2, nd, hc, e => by
    simp only [putIos] at e
    obtain ⟨ρ1, e1, rfl⟩ := Option.map_eq_some_iff.mp e
    have nd' := List.nodup_cons.mp nd
    obtain ⟨h1, h2, h3⟩ := putIos_get nd'.2 (fun k h => hc k (List.mem_cons_of_mem _ h)) e1
    refine ⟨by rw [List.length_set]; exact h1, fun j hj => ?_, .cons ?_ ?_⟩
    · simp only [List.mem_cons, not_or] at hj
      rw [List.getElem?_set_ne (fun z => hj.1 z.symm)]
      exact h2 j hj.2
    · obtain ⟨c, ec⟩ := hc i List.mem_cons_self
      have hi : i < ρ1.length := by rw [h1]; exact (List.getElem?_eq_some_iff.mp ec).1
      rw [List.getElem?_set_self hi]
    · have : ∀ {l : List Nat} {m : List D}, Paired (fun i d => ρ1[i]? = some (.ow d)) l m → i ∉ l → Paired (fun k d' => (ρ1.set i (.ow d))[k]? = some (.ow d')) l m := by
        intro l m h
        induction h with
        | nil => intro _; exact .nil
        | cons q _ ih =>
          intro hn
          simp only [List.mem_cons, not_or] at hn
          exact .cons (by rw [List.getElem?_set_ne hn.1]; exact q) (ih hn.2)
      exact this h3 nd'.1
end
end RL

namespace RL
open PySem PySem.Spec L2
open Classical in
noncomputable def absorbs (H0 H : Hp) (A : Addr → Prop) : Hp := fun b => if A b then H b else H0 b
open Classical in
noncomputable def without (H0 : Hp) (A : Addr → Prop) : Hp := fun b => if A b then none else H0 b
section
variable {G : Gp} {W : WX} {σ : St} {ρ ρ' ρ1 ρ2 : Env} {H0 H H01 H1 H02 H2 H0' H' : Hp} {Q : VK}
theorem absorbs_yes {A : Addr → Prop} {b : Addr} (h : A b) : absorbs H0 H A b = H b := if_pos h
theorem absorbs_no {A : Addr → Prop} {b : Addr} (h : ¬ A b) : absorbs H0 H A b = H0 b := if_neg h
theorem without_yes {A : Addr → Prop} {b : Addr} (h : A b) : without H0 A b = none := if_pos h
theorem without_no {A : Addr → Prop} {b : Addr} (h : ¬ A b) : without H0 A b = H0 b := if_neg h
theorem TopO.notup {a : Addr} {d : D} {xs : List V} (h : TopO G H0 H a d) (e : H a = .some (HO.tup xs)) : False := by
  cases d with
  | list ds => obtain ⟨vs, e1, _⟩ := h; rw [e] at e1; cases e1
  | dict kvs => obtain ⟨_, es, e1, _⟩ := h; rw [e] at e1; unfold dicO at e1; cases e1
  | _ => exact False.elim h
theorem TopO.nofrz {a : Addr} {d : D} {o : Obj} {u : HO} (h : TopO G H0 H a d) (e : H a = .some (HO.frz o u)) : False := by
  cases d with
  | list ds => obtain ⟨vs, e1, _⟩ := h; rw [e] at e1; cases e1
  | dict kvs => obtain ⟨_, es, e1, _⟩ := h; rw [e] at e1; unfold dicO at e1; cases e1
  | _ => exact False.elim h
/-- what is behind a call: the state of the caller -/
theorem after_call {H0c H0d : Hp} {A : List V} {ls is : List Nat} {ios : List D} (re : RE G H01 H1 σ ρ1) {σs : St} (st : Step σs ρ H0 H σ ρ1 H01 H1) {Ab : Addr → Prop}
    (hab : ∀ b, Ab b → (∃ i ∈ ls, σ[i]? = some (some (.ref b))) ∨ (H b = none ∧ ¬ Own σ ρ1 b)) (hlo : ∀ i ∈ ls, ∃ c, ρ1[i]? = some c ∧ c.own = true) (hc : H0c = absorbs H01 H1 Ab)
    (hA : Paired (fun v i => ∃ a d, v = .ref a ∧ σ[i]? = some (some (.ref a)) ∧ ρ1[i]? = some (.ow d)) A is) (hput : putIos is ios ρ1 = some ρ2) (nd : is.Nodup)
    (sub : Same H0d H') (io : IoR G H0d H' A ios) (sf : StepF A H0c H1 H0d H') (hls : ls = [] ∨ ios.all flatO = true) :
    ∃ H02, RE G H02 H' σ ρ2 ∧ Step σs ρ H0 H σ ρ2 H02 H' ∧ (∀ b, Own σ ρ2 b ↔ Own σ ρ1 b) ∧ (ls = [] → H02 = H0d) ∧ (∀ a xs, SqT G.K H0d a xs → SqT G.K H02 a xs) ∧ (∀ b, ¬ Own σ ρ1 b → H02 b = H0d b) := by
  have hio : ∀ i ∈ is, ∃ a d, σ[i]? = some (some (.ref a)) ∧ ρ1[i]? = some (.ow d) ∧ V.ref a ∈ A := by
    have : ∀ {A : List V} {is : List Nat}, Paired (fun v i => ∃ a d, v = .ref a ∧ σ[i]? = some (some (.ref a)) ∧ ρ1[i]? = some (.ow d)) A is → ∀ i ∈ is, ∃ a d, σ[i]? = some (some (.ref a)) ∧ ρ1[i]? = some (.ow d) ∧ V.ref a ∈ A := by
      intro A is h
      induction h with
      | nil => intro i hi; cases hi
      | cons q _ ih =>
        obtain ⟨a, d, rfl, e1, e2⟩ := q
        intro i hi
        rcases List.mem_cons.mp hi with z | z
        · subst z; exact ⟨a, d, e1, e2, List.mem_cons_self⟩
        · obtain ⟨a', d', q1, q2, q3⟩ := ih i z
          exact ⟨a', d', q1, q2, List.mem_cons_of_mem _ q3⟩
    exact this hA
  have hAi : ∀ a, V.ref a ∈ A → ∃ i ∈ is, σ[i]? = some (some (.ref a)) ∧ OwnAt σ ρ1 i a := by
    have : ∀ {A : List V} {is : List Nat}, Paired (fun v i => ∃ a d, v = .ref a ∧ σ[i]? = some (some (.ref a)) ∧ ρ1[i]? = some (.ow d)) A is → ∀ a, V.ref a ∈ A → ∃ i ∈ is, σ[i]? = some (some (.ref a)) ∧ OwnAt σ ρ1 i a := by
      intro A is h
      induction h with
      | nil => intro a ha; cases ha
      | cons q _ ih =>
        obtain ⟨a, d, rfl, e1, e2⟩ := q
        intro b hb
        rcases List.mem_cons.mp hb with z | z
        · cases z; exact ⟨_, List.mem_cons_self, e1, e1, _, e2, rfl⟩
        · obtain ⟨i, h1, h2, h3⟩ := ih b z
          exact ⟨i, List.mem_cons_of_mem _ h1, h2, h3⟩
    exact this hA
  obtain ⟨pl, pn, pp⟩ := putIos_get nd (fun i hi => let ⟨_, d, _, e, _⟩ := hio i hi; ⟨_, e⟩) hput
  -- the same slots own
  have own1 : ∀ i a, OwnAt σ ρ2 i a → OwnAt σ ρ1 i a := fun i a ⟨e, c, ec, o⟩ => by
    by_cases hi : i ∈ is
    · obtain ⟨b, d, e1, e2, _⟩ := hio i hi
      exact ⟨e, _, e2, rfl⟩
    · rw [pn i hi] at ec; exact ⟨e, c, ec, o⟩
  have ppi : ∀ i ∈ is, ∃ d, ρ2[i]? = some (.ow d) := by
    have : ∀ {is : List Nat} {ios : List D}, Paired (fun i d => ρ2[i]? = some (.ow d)) is ios → ∀ i ∈ is, ∃ d, ρ2[i]? = some (.ow d) := by
      intro is ios h
      induction h with
      | nil => intro i hi; cases hi
      | cons q _ ih =>
        intro i hi
        rcases List.mem_cons.mp hi with z | z
        · subst z; exact ⟨_, q⟩
        · exact ih i z
    exact this pp
  have own2 : ∀ i a, OwnAt σ ρ1 i a → OwnAt σ ρ2 i a := fun i a ⟨e, c, ec, o⟩ => by
    by_cases hi : i ∈ is
    · obtain ⟨d, hd⟩ := ppi i hi
      exact ⟨e, _, hd, rfl⟩
    · rw [← pn i hi] at ec; exact ⟨e, c, ec, o⟩
  have ownI : ∀ b, Own σ ρ2 b ↔ Own σ ρ1 b := fun b => ⟨fun ⟨i, h⟩ => ⟨i, own1 i b h⟩, fun ⟨i, h⟩ => ⟨i, own2 i b h⟩⟩
  have s1c : Same H01 H0c := fun b o e => by
    rw [hc]
    by_cases q : Ab b
    · rw [absorbs_yes q]; exact re.sub _ _ e
    · rw [absorbs_no q]; exact e
  have Hown : ∀ b, Own σ ρ1 b → ∃ o, H1 b = some o ∧ Mut (some o) := fun b h => let ⟨_, d, to⟩ := re.own_at h; to.some
  -- where nothing is lent, the callee's ground is ours
  have clean : ls = [] → ∀ b, Own σ ρ1 b → H0d b = none := fun hl b h => by
    by_cases hbA : V.ref b ∈ A
    · have : ∀ {A : List V} {ios : List D}, IoR G H0d H' A ios → V.ref b ∈ A → H0d b = none := by
        intro A ios h
        induction h with
        | nil => intro z; cases z
        | cons q _ ih =>
          obtain ⟨a, rfl, q1, _⟩ := q
          intro z
          rcases List.mem_cons.mp z with z | z
          · cases z; exact q1
          · exact ih z
      exact this io hbA
    · obtain ⟨o, eo, _⟩ := Hown b h
      have hnb : ¬ Ab b := fun q => by
        rcases hab b q with ⟨i, hi, _⟩ | ⟨_, z⟩
        · rw [hl] at hi; cases hi
        · exact z h
      exact sf.na b (by rw [eo]; rfl) (by rw [hc, absorbs_no hnb]; exact (re.own_at h).1) hbA
  have lentOwn : ∀ i ∈ ls, ∀ b, σ[i]? = some (some (.ref b)) → Own σ ρ1 b := fun i hi b e => let ⟨c, ec, o⟩ := hlo i hi; ⟨i, e, c, ec, o⟩
  have whole : ls = [] → without H0d (Own σ ρ1) = H0d := fun hl => funext fun b => by
    by_cases q : Own σ ρ1 b
    · rw [without_yes q, clean hl b q]
    · rw [without_no q]
  have tupk : ∀ a xs, SqT G.K H0d a xs → SqT G.K (without H0d (Own σ ρ1)) a xs := fun a xs h => by
    by_cases q : Own σ ρ1 a
    · rcases h with h | h
      · exfalso
        obtain ⟨h0, d, to⟩ := re.own_at q
        by_cases hbA : V.ref a ∈ A
        · have : ∀ {A : List V} {ios : List D}, IoR G H0d H' A ios → V.ref a ∈ A → H0d a = none := by
            intro A ios h
            induction h with
            | nil => intro z; cases z
            | cons q _ ih =>
              obtain ⟨b, rfl, q1, _⟩ := q
              intro z
              rcases List.mem_cons.mp z with z | z
              · cases z; exact q1
              · exact ih z
          have hn := this io hbA
          rcases h with h | ⟨o, h⟩ <;> (rw [hn] at h; cases h)
        · have same : ∀ o, H1 a = some o → H' a = some o := fun o e => sf.fr a o e hbA
          have to' := to.mono (Same.refl _) same
          rcases h with h | ⟨o, h⟩
          · exact to'.notup (sub _ _ h)
          · exact to'.nofrz (sub _ _ h)
      · exact .inr h
    · rcases h with (h | ⟨o, h⟩) | h
      · exact .inl (.inl (by rw [without_no q]; exact h))
      · exact .inl (.inr ⟨o, by rw [without_no q]; exact h⟩)
      · exact .inr h
  have s12 : Same H01 (without H0d (Own σ ρ1)) := fun b o e => by
    have q : ¬ Own σ ρ1 b := fun q => by rw [(re.own_at q).1] at e; cases e
    rw [without_no q]
    exact sf.g0 b o (s1c b o e)
  have trip : ∀ {A : List V} {is : List Nat} {ios : List D}, Paired (fun v i => ∃ a d, v = .ref a ∧ σ[i]? = some (some (.ref a)) ∧ ρ1[i]? = some (.ow d)) A is → Paired (fun i d => ρ2[i]? = some (.ow d)) is ios → IoR G H0d H' A ios →
      ∀ i ∈ is, ∃ a d, σ[i]? = some (some (.ref a)) ∧ ρ2[i]? = some (.ow d) ∧ H0d a = none ∧ TopO G H0d H' a d ∧ d ∈ ios := by
    intro A is ios h1
    induction h1 generalizing ios with
    | nil => intro _ _ i hi; cases hi
    | cons q _ ih =>
      intro h2 h3 i hi
      cases h2 with
      | cons q2 r2 =>
        cases h3 with
        | cons q3 r3 =>
          rcases List.mem_cons.mp hi with z | z
          · subst z
            obtain ⟨a, d, rfl, e1, _⟩ := q
            obtain ⟨a', e, h0, to⟩ := q3
            cases e
            exact ⟨a, _, e1, q2, h0, to, List.mem_cons_self⟩
          · obtain ⟨a, d, e1, e2, e3, e4, e5⟩ := ih r2 r3 i z
            exact ⟨a, d, e1, e2, e3, e4, List.mem_cons_of_mem _ e5⟩
  refine ⟨without H0d (Own σ ρ1), ⟨fun b o e => ?_, by rw [pl]; exact re.len, fun j c ec => ?_, fun i j a h1 h2 => re.apart i j a (own1 i a h1) (own1 j a h2)⟩, ⟨st.g0.trans s12, fun x hx h0 n => ?_, fun x o e n => ?_, fun a z => st.on a ((ownI a).mp z), fun a h => sf.dom a (st.dom a h)⟩, ownI, whole, tupk, fun b n => without_no n⟩
  · by_cases q : Own σ ρ1 b
    · rw [without_yes q] at e; cases e
    · rw [without_no q] at e; exact sub _ _ e
  · by_cases hj : j ∈ is
    · obtain ⟨a, d, e1, e2, e3, to, hd⟩ := trip hA pp io j hj
      rw [e2] at ec; cases ec
      refine ⟨_, e1, ?_⟩
      have hown : Own σ ρ1 a := (ownI a).mp ⟨j, e1, _, e2, rfl⟩
      refine ⟨without_yes hown, ?_⟩
      rcases hls with hl | hf
      · rw [whole hl]; exact to
      · exact to.moveF tupk (List.all_eq_true.mp hf d hd)
    · rw [pn j hj] at ec
      obtain ⟨ov, e1, sl⟩ := re.slot j c ec
      refine ⟨ov, e1, ?_⟩
      by_cases o : c.own = true
      · obtain ⟨a, d, rfl, hv, h0, to⟩ := sl.cases_own o
        have hat : OwnAt σ ρ1 j a := ⟨e1, c, ec, o⟩
        have hnA : V.ref a ∉ A := fun z => by
          obtain ⟨i, hi, _, hia⟩ := hAi a z
          exact hj (re.apart i j a hia hat ▸ hi)
        have to' : TopO G (without H0d (Own σ ρ1)) H' a d := to.mono s12 fun o e => sf.fr a o e hnA
        have hn : without H0d (Own σ ρ1) a = none := without_yes ⟨j, hat⟩
        cases c with
        | ow x => cases hv; exact ⟨hn, to'⟩
        | le x => cases hv; exact ⟨hn, to'⟩
        | _ => cases o
      · cases c with
        | un => cases ov <;> trivial
        | pu d =>
          cases ov with
          | none => exact False.elim sl
          | some v => exact Rp.mono s12 sl
        | ow x => exact absurd rfl o
        | le x => exact absurd rfl o
  · have h1 : ¬ Own σ ρ1 x := fun z => (st.on x z).elim n fun q => by rw [q] at hx; cases hx
    rw [without_no h1]
    refine sf.na x (st.dom x hx) ?_ (fun z => by obtain ⟨i, _, _, hia⟩ := hAi x z; exact h1 ⟨i, hia⟩)
    have hnb : ¬ Ab x := fun q => by
      rcases hab x q with ⟨i, hi, e⟩ | ⟨z, _⟩
      · exact h1 (lentOwn i hi x e)
      · rw [z] at hx; cases hx
    rw [hc, absorbs_no hnb]
    exact st.na x hx h0 n
  · have hx : (H x).isSome = true := by rw [e]; rfl
    have h1 : ¬ Own σ ρ1 x := fun z => (st.on x z).elim n fun q => by rw [q] at hx; cases hx
    exact sf.fr x o (st.fr x o e n) fun z => by obtain ⟨i, _, _, hia⟩ := hAi x z; exact h1 ⟨i, hia⟩
end
end RL

namespace RL
open PySem PySem.Spec L2
section
variable {G : Gp} {W : WX} {σ : St} {ρ ρ' ρ1 ρ2 : Env} {H0 H H01 H1 H02 H2 H0' H' : Hp} {Q : VK}
theorem argsOf_lent : ∀ {io : List Bool} {ts : List T} {ds : List D} {ls is : List Nat}, argsOf io ts ρ1 = some (ds, ls, is) → ∀ i ∈ ls, ∃ c, ρ1[i]? = some c ∧ c.own = true
  | [], [], _, _, _, e => by
    simp only [argsOf, Option.some.injEq, Prod.mk.injEq] at e
    obtain ⟨rfl, rfl, rfl⟩ := e
    intro i hi; cases hi
  | [], _ :: _, _, _, _, e => by simp [argsOf] at e
  | false :: ms, [], _, _, _, e => by simp [argsOf] at e
  | true :: ms, [], _, _, _, e => by simp [argsOf] at e
  | false :: ms, t :: ts, ds, ls, is, e => by
    simp only [argsOf] at e
    cases e1 : t.val ρ1 with
    | none => rw [e1] at e; simp at e
    | some d =>
      cases e2 : argsOf ms ts ρ1 with
      | none => rw [e1, e2] at e; simp at e
      | some q =>
        obtain ⟨ds', ls', is'⟩ := q
        have ih := argsOf_lent e2
        rw [e1, e2] at e
        simp only at e
        cases t with
        | p x => simp only [Option.some.injEq, Prod.mk.injEq] at e; obtain ⟨rfl, rfl, rfl⟩ := e; exact ih
        | f x => simp only [Option.some.injEq, Prod.mk.injEq] at e; obtain ⟨rfl, rfl, rfl⟩ := e; exact ih
        | s i =>
          simp only at e
          by_cases o : (ρ1[i]?.map Cell.own) = some true
          · rw [if_pos o] at e
            simp only [Option.some.injEq, Prod.mk.injEq] at e
            obtain ⟨rfl, rfl, rfl⟩ := e
            intro k hk
            rcases List.mem_cons.mp hk with z | z
            · subst z
              obtain ⟨c, ec, o⟩ := Option.map_eq_some_iff.mp o
              exact ⟨c, ec, o⟩
            · exact ih k z
          · rw [if_neg o] at e
            simp only [Option.some.injEq, Prod.mk.injEq] at e
            obtain ⟨rfl, rfl, rfl⟩ := e
            exact ih
  | true :: ms, t :: ts, ds, ls, is, e => by
    cases t with
    | p x => simp [argsOf] at e
    | f x => simp [argsOf] at e
    | s i =>
      simp only [argsOf] at e
      cases ec : ρ1[i]? with
      | none => rw [ec] at e; simp at e
      | some c =>
        rw [ec] at e
        cases e2 : argsOf ms ts ρ1 with
        | none => rw [e2] at e; cases c <;> simp at e
        | some q =>
          obtain ⟨ds', ls', is'⟩ := q
          rw [e2] at e
          cases c with
          | ow d =>
            simp only [Option.some.injEq, Prod.mk.injEq] at e
            obtain ⟨rfl, rfl, rfl⟩ := e
            exact argsOf_lent e2
          | _ => simp at e
theorem ioV_nodup (re : RE G H01 H1 σ ρ1) : ∀ {A : List V} {is : List Nat}, Paired (fun v i => ∃ a d, v = .ref a ∧ σ[i]? = some (some (.ref a)) ∧ ρ1[i]? = some (.ow d)) A is → is.Nodup → A.Nodup := by
  intro A is h
  induction h with
  | nil => intro _; exact List.nodup_nil
  | @cons v i A is q r ih =>
    intro nd
    obtain ⟨a, d, rfl, e1, e2⟩ := q
    have nd' := List.nodup_cons.mp nd
    refine List.nodup_cons.mpr ⟨fun z => ?_, ih nd'.2⟩
    have : ∀ {A : List V} {is : List Nat}, Paired (fun v i => ∃ a d, v = .ref a ∧ σ[i]? = some (some (.ref a)) ∧ ρ1[i]? = some (.ow d)) A is → V.ref a ∈ A → ∃ j ∈ is, OwnAt σ ρ1 j a := by
      intro A is h
      induction h with
      | nil => intro z; cases z
      | cons q _ ih =>
        obtain ⟨b, d', rfl, e3, e4⟩ := q
        intro z
        rcases List.mem_cons.mp z with z | z
        · cases z; exact ⟨_, List.mem_cons_self, e3, _, e4, rfl⟩
        · obtain ⟨j, h1, h2⟩ := ih z
          exact ⟨j, List.mem_cons_of_mem _ h1, h2⟩
    obtain ⟨j, hj, ho⟩ := this r z
    have := re.apart i j a ⟨e1, _, e2, rfl⟩ ho
    subst this
    exact nd'.1 hj
theorem ExR.moveF {H0d : Hp} {e : Ex} {cls : Value} {d : Option Addr} (k : ∀ a xs, SqT G.K H0d a xs → SqT G.K H02 a xs) (h : ExR G H0d H' e cls d) (f : (e.arg.map fun p => RL.flat p.2).getD true = true) : ExR G H02 H' e cls d := by
  obtain ⟨h1, h2⟩ := h
  refine ⟨h1, ?_⟩
  cases ea : e.arg with
  | none => rw [ea] at h2; exact h2
  | some p =>
    obtain ⟨f1, x⟩ := p
    rw [ea] at h2 f
    obtain ⟨dd, v, e1, e2, r⟩ := h2
    exact ⟨dd, v, e1, e2, r.moveF k f⟩
theorem Fresh.backA {σ1 : St} {v : V} {t : T} (st : Step σ ρ H0 H σ1 ρ1 H01 H1) (h : Fresh H1 v t) : Fresh H v t := by
  cases t with
  | f d =>
    intro a e
    cases q : H a with
    | none => rfl
    | some o =>
      have := st.dom a (by rw [q]; rfl)
      rw [h a e] at this; cases this
  | _ => trivial
/-- what is wanted of a call's outcome -/
def kC (G : Gp) (o : EO) (σs : St) (ρs : Env) (H0 H : Hp) (σ : St) (Q : VK) (E : XK) : Prop :=
  match o with
  | .ok t ρ' => ∀ v H0' H', RE G H0' H' σ ρ' → Step σs ρs H0 H σ ρ' H0' H' → RT G H0' H' σ ρ' v t → Fresh H v t → Q v H'
  | .ex e ρ' => ∀ cls d H0' H', RE G H0' H' σ ρ' → Step σs ρs H0 H σ ρ' H0' H' → ExR G H0' H' e cls d → E cls d H'
  | .no => False
theorem call_core {σs : St} {g : Fn} {ts : List T} {vs : List V} {E : XK} (re1 : RE G H01 H1 σ ρ1) (st : Step σs ρ H0 H σ ρ1 H01 H1) (rts : Paired (RT G H01 H1 σ ρ1) vs ts) (frs : Paired (Fresh H) vs ts) (k : kC G (callR g ts ρ1).eo σs ρ H0 H σ Q E) : spD G g vs H1 Q E := by
  unfold callR at k
  cases ea : argsOf g.io ts ρ1 with
  | none => rw [ea] at k; exact False.elim k
  | some q =>
    obtain ⟨ds, ls, is⟩ := q
    rw [ea] at k
    simp only at k
    by_cases cn : is.Nodup ∧ (∀ i ∈ ls, i ∉ is)
    · rw [if_pos cn] at k
      -- the addresses that are lent
      let Ab : Addr → Prop := fun b => (∃ i ∈ ls, σ[i]? = some (some (.ref b))) ∨ (H b = none ∧ (H1 b).isSome = true ∧ ¬ Own σ ρ1 b)
      have s1 : Same H01 (absorbs H01 H1 Ab) := fun b o e => by
        by_cases q : Ab b
        · rw [absorbs_yes q]; exact re1.sub _ _ e
        · rw [absorbs_no q]; exact e
      have s2 : Same (absorbs H01 H1 Ab) H1 := fun b o e => by
        by_cases q : Ab b
        · rw [absorbs_yes q] at e; exact e
        · rw [absorbs_no q] at e; exact re1.sub _ _ e
      have hlo := argsOf_lent ea
      have hfr : ∀ p ∈ vs.zip ts, ∀ d b, p = (.ref b, .f d) → Ab b := by
        have : ∀ {vs : List V} {ts : List T}, Paired (RT G H01 H1 σ ρ1) vs ts → Paired (Fresh H) vs ts → ∀ p ∈ vs.zip ts, ∀ d b, p = (.ref b, .f d) → Ab b := by
          intro vs ts h1
          induction h1 with
          | nil => intro _ p hp; simp at hp
          | cons q _ ih =>
            intro h2 p hp d b e
            cases h2 with
            | cons q2 r2 =>
              simp only [List.zip_cons_cons, List.mem_cons] at hp
              rcases hp with z | z
              · rw [e] at z
                injection z with z1 z2
                subst z1; subst z2
                obtain ⟨a, ea, h0, no, to⟩ := q
                cases ea
                obtain ⟨o, eo, _⟩ := to.some
                exact .inr ⟨q2 _ rfl, by rw [eo]; rfl, no⟩
              · exact ih r2 p z d b e
        exact this rts frs
      have hsi : ∀ i ∈ is, ∀ b, σ[i]? = some (some (.ref b)) → (∃ d, ρ1[i]? = some (.ow d)) → ¬ Ab b := fun i hi b e ⟨d, ec⟩ q => by
        rcases q with ⟨j, hj, e2⟩ | ⟨_, _, z⟩
        · obtain ⟨c, ec2, o⟩ := hlo j hj
          have := re1.apart i j b ⟨e, _, ec, rfl⟩ ⟨e2, c, ec2, o⟩
          subst this
          exact cn.2 i hj hi
        · exact z ⟨i, e, _, ec, rfl⟩
      have hisow : ∀ i ∈ is, ∃ d, ρ1[i]? = some (.ow d) := by
        have : ∀ {io : List Bool} {ts : List T} {ds : List D} {ls is : List Nat}, argsOf io ts ρ1 = some (ds, ls, is) → ∀ i ∈ is, ∃ d, ρ1[i]? = some (.ow d) := by
          intro io
          induction io with
          | nil =>
            intro ts ds ls is e
            cases ts with
            | nil => simp only [argsOf, Option.some.injEq, Prod.mk.injEq] at e; obtain ⟨rfl, rfl, rfl⟩ := e; intro i hi; cases hi
            | cons => simp [argsOf] at e
          | cons m io ih =>
            intro ts ds ls is e
            cases ts with
            | nil => cases m <;> simp [argsOf] at e
            | cons t ts =>
              cases m with
              | false =>
                simp only [argsOf] at e
                cases e1 : t.val ρ1 with
                | none => rw [e1] at e; simp at e
                | some d =>
                  cases e2 : argsOf io ts ρ1 with
                  | none => rw [e1, e2] at e; simp at e
                  | some q =>
                    obtain ⟨ds', ls', is'⟩ := q
                    rw [e1, e2] at e
                    have : is = is' := by
                      cases t with
                      | p x => simp only [Option.some.injEq, Prod.mk.injEq] at e; exact e.2.2.symm
                      | f x => simp only [Option.some.injEq, Prod.mk.injEq] at e; exact e.2.2.symm
                      | s i => simp only at e; split at e <;> (simp only [Option.some.injEq, Prod.mk.injEq] at e; exact e.2.2.symm)
                    rw [this]
                    exact ih e2
              | true =>
                cases t with
                | p x => simp [argsOf] at e
                | f x => simp [argsOf] at e
                | s i =>
                  simp only [argsOf] at e
                  cases ec : ρ1[i]? with
                  | none => rw [ec] at e; simp at e
                  | some c =>
                    rw [ec] at e
                    cases e2 : argsOf io ts ρ1 with
                    | none => rw [e2] at e; cases c <;> simp at e
                    | some q =>
                      obtain ⟨ds', ls', is'⟩ := q
                      rw [e2] at e
                      cases c with
                      | ow d =>
                        simp only [Option.some.injEq, Prod.mk.injEq] at e
                        obtain ⟨rfl, rfl, rfl⟩ := e
                        intro j hj
                        rcases List.mem_cons.mp hj with z | z
                        · subst z; exact ⟨d, ec⟩
                        · exact ih e2 j z
                      | _ => simp at e
        exact this ea
      obtain ⟨a1, a2⟩ := argsOf_s re1 s1 s2 (fun b q => absorbs_yes q) (fun b q => absorbs_no q) ea rts (fun i hi b e => .inl ⟨i, hi, e⟩) hfr (fun i hi b e => hsi i hi b e (hisow i hi))
      refine ⟨absorbs H01 H1 Ab, ds, s2, a1, ioV_nodup re1 a2 cn.1, ?_⟩
      have hab : ∀ b, Ab b → (∃ i ∈ ls, σ[i]? = some (some (.ref b))) ∨ (H b = none ∧ ¬ Own σ ρ1 b) := fun b q => q.elim .inl fun z => .inr ⟨z.1, z.2.2⟩
      cases ef : g.φ ds with
      | stuck => rw [ef] at k; exact k
      | ret t ios =>
        rw [ef] at k
        simp only at k
        cases ep : putIos is ios ρ1 with
        | none => rw [ep] at k; exact False.elim k
        | some ρ2 =>
          rw [ep] at k
          simp only at k
          by_cases cl : ls = [] ∨ (t.flat ρ1 = true ∧ ios.all flatO = true)
          · rw [if_pos cl] at k
            intro v H0d H' sub io sf rf fr
            obtain ⟨H02, re2, st2, ow, e0, tk, nw⟩ := after_call re1 st hab hlo rfl a2 ep cn.1 sub io sf (cl.imp_right (·.2))
            have notOwn : ∀ a, H1 a = none → ¬ Own σ ρ2 a := fun a e z => by
              obtain ⟨_, d, to⟩ := re1.own_at ((ow a).mp z)
              obtain ⟨o, eo, _⟩ := to.some
              rw [e] at eo; cases eo
            refine k v H02 H' re2 st2 ?_ (fr.backA st)
            cases t with
            | s i => exact False.elim rf
            | p d =>
              rcases cl with c | c
              · rw [e0 c]; exact rf
              · exact Rp.moveF tk rf c.1
            | f d =>
              obtain ⟨a, rfl, h0, to⟩ := rf
              have hn := notOwn a (fr a rfl)
              refine ⟨a, rfl, ?_, hn, ?_⟩
              · rw [nw a (fun z => hn ((ow a).mpr z))]; exact h0
              · rcases cl with c | c
                · rw [e0 c]; exact to
                · exact to.moveF tk c.1
          · rw [if_neg cl] at k; exact False.elim k
      | exc e ios =>
        rw [ef] at k
        simp only at k
        cases ep : putIos is ios ρ1 with
        | none => rw [ep] at k; exact False.elim k
        | some ρ2 =>
          rw [ep] at k
          simp only at k
          by_cases cl : ls = [] ∨ ((e.arg.map fun p => RL.flat p.2).getD true = true ∧ ios.all flatO = true)
          · rw [if_pos cl] at k
            intro cls d H0d H' sub io sf x
            obtain ⟨H02, re2, st2, ow, e0, tk, nw⟩ := after_call re1 st hab hlo rfl a2 ep cn.1 sub io sf (cl.imp_right (·.2))
            refine k cls d H02 H' re2 st2 ?_
            rcases cl with c | c
            · rw [e0 c]; exact x
            · exact x.moveF tk c.1
          · rw [if_neg cl] at k; exact False.elim k
    · rw [if_neg cn] at k; exact False.elim k
theorem call_s {fs : Env → R} {g : Fn} (h : tOf G W (fun ρ => ((fs ρ).bA fun ts ρ1 => callR g ts ρ1).eo) σ H Q) : aOf G W fs σ H fun vs H1 => spD G g vs H1 Q (fun cls d H' => W cls d σ H') := by
  refine args_s (fun ρ H0 ts ρ1 vs H01 H1 re re1 st rts frs k => call_core re1 st rts frs ?_) h
  cases e : (callR g ts ρ1).eo with
  | ok t ρ' => rw [e] at k; exact k
  | ex x ρ' => rw [e] at k; exact k
  | no => rw [e] at k; exact k
theorem own_app {x : Option V} {c : Cell} {i : Nat} {b : Addr} (l : σ.length = ρ1.length) (h : OwnAt (σ ++ [x]) (ρ1 ++ [c]) i b) : OwnAt σ ρ1 i b ∨ (i = σ.length ∧ x = some (.ref b)) := by
  obtain ⟨e, c', ec, o⟩ := h
  by_cases hi : i < σ.length
  · rw [List.getElem?_append_left hi] at e
    rw [List.getElem?_append_left (by rw [← l]; exact hi)] at ec
    exact .inl ⟨e, c', ec, o⟩
  · rw [List.getElem?_append_right (by omega)] at e
    have h0 : i - σ.length = 0 := by
      cases q : i - σ.length with
      | zero => rfl
      | succ n => rw [q] at e; simp at e
    rw [h0] at e
    simp at e
    exact .inr ⟨by omega, e⟩
theorem own_appL {x : Option V} {c : Cell} {i : Nat} {b : Addr} (h : OwnAt σ ρ1 i b) : OwnAt (σ ++ [x]) (ρ1 ++ [c]) i b := by
  obtain ⟨e, c', ec, o⟩ := h
  exact ⟨by rw [List.getElem?_append_left (List.getElem?_eq_some_iff.mp e).1]; exact e, c', by rw [List.getElem?_append_left (List.getElem?_eq_some_iff.mp ec).1]; exact ec, o⟩
theorem RE.app {a : Addr} {d : D} (re : RE G H0 H σ ρ) (h0 : H0 a = none) (no : ¬ Own σ ρ a) (to : TopO G H0 H a d) : RE G H0 H (σ ++ [some (.ref a)]) (ρ ++ [.ow d]) := by
  refine ⟨re.sub, by rw [List.length_append, List.length_append, re.len]; rfl, fun i c e => ?_, fun i j b h1 h2 => ?_⟩
  · by_cases hi : i < ρ.length
    · rw [List.getElem?_append_left hi] at e
      obtain ⟨ov, e1, s⟩ := re.slot i c e
      exact ⟨ov, by rw [List.getElem?_append_left (by rw [re.len]; exact hi)]; exact e1, s⟩
    · rw [List.getElem?_append_right (by omega)] at e
      cases q : i - ρ.length with
      | zero =>
        rw [q] at e
        simp at e
        subst e
        refine ⟨some (.ref a), ?_, h0, to⟩
        rw [List.getElem?_append_right (by rw [re.len]; omega), re.len, q]; rfl
      | succ n => rw [q] at e; simp at e
  · rcases own_app re.len h1 with o1 | ⟨e1, x1⟩ <;> rcases own_app re.len h2 with o2 | ⟨e2, x2⟩
    · exact re.apart i j b o1 o2
    · cases x2; exact absurd ⟨i, o1⟩ no
    · cases x1; exact absurd ⟨j, o2⟩ no
    · omega
theorem own_take {x : Option V} {n : Nat} (hn : n = σ.length) {i : Nat} {b : Addr} (h : OwnAt σ (ρ1.take n) i b) : OwnAt (σ ++ [x]) ρ1 i b := by
  obtain ⟨e, c, ec, o⟩ := h
  have hi := (List.getElem?_eq_some_iff.mp e).1
  rw [List.getElem?_take, if_pos (by omega)] at ec
  exact ⟨by rw [List.getElem?_append_left hi]; exact e, c, ec, o⟩
theorem RE.cut {x : Option V} {n : Nat} (hn : n = σ.length) (re : RE G H0 H (σ ++ [x]) ρ) : RE G H0 H σ (ρ.take n) := by
  have hl := re.len
  rw [List.length_append, List.length_singleton] at hl
  refine ⟨re.sub, by rw [List.length_take]; omega, fun i c e => ?_, fun i j b h1 h2 => re.apart i j b (own_take hn h1) (own_take hn h2)⟩
  have hi : i < n := by
    have := (List.getElem?_eq_some_iff.mp e).1
    rw [List.length_take] at this
    omega
  rw [List.getElem?_take, if_pos hi] at e
  obtain ⟨ov, e1, s⟩ := re.slot i c e
  rw [List.getElem?_append_left (by omega)] at e1
  exact ⟨ov, e1, s⟩
theorem tmpIx_at : ∀ {io : List Bool} {ts : List T} {i : Nat}, tmpIx io ts = some i → ∃ d, ts[i]? = some (.f d)
  | [], _, _, h => by simp [tmpIx] at h
  | m :: ms, [], _, h => by cases m <;> simp [tmpIx] at h
  | true :: ms, .f d :: ts, _, h => by simp [tmpIx] at h; subst h; exact ⟨d, rfl⟩
  | true :: ms, .p d :: ts, _, h => by
    simp only [tmpIx, Option.map_eq_some_iff] at h
    obtain ⟨j, hj, rfl⟩ := h
    simpa using tmpIx_at hj
  | true :: ms, .s d :: ts, _, h => by
    simp only [tmpIx, Option.map_eq_some_iff] at h
    obtain ⟨j, hj, rfl⟩ := h
    simpa using tmpIx_at hj
  | false :: ms, t :: ts, _, h => by
    simp only [tmpIx, Option.map_eq_some_iff] at h
    obtain ⟨j, hj, rfl⟩ := h
    simpa using tmpIx_at hj
theorem pair_at {α β : Type} {F : α → β → Prop} : ∀ {l : List α} {m : List β} {i : Nat} {b : β}, Paired F l m → m[i]? = some b → ∃ a, l[i]? = some a ∧ F a b
  | _, _, i, _, .nil, h => by simp at h
  | _, _, 0, _, .cons q _, h => by simp at h; subst h; exact ⟨_, rfl, q⟩
  | _, _, i + 1, _, .cons _ r, h => by simpa using pair_at r (by simpa using h)
theorem pair_set {α β : Type} {F F' : α → β → Prop} : ∀ {l : List α} {m : List β} {i : Nat} {b : β}, Paired F l m → (∀ a, l[i]? = some a → F' a b) → (∀ a c, c ∈ m.set i b → c ≠ b → F a c → F' a c) → (∀ a c, c = b → F a c → F' a c) → Paired F' l (m.set i b)
  | _, _, i, _, .nil, _, _, _ => .nil
  | _, _, 0, b, .cons q r, h1, h2, h3 => by
    refine .cons (h1 _ rfl) ?_
    have : ∀ {l : List α} {m : List β}, Paired F l m → (∀ a c, c ∈ m → c ≠ b → F a c → F' a c) → (∀ a c, c = b → F a c → F' a c) → Paired F' l m := by
      intro l m h
      induction h with
      | nil => intro _ _; exact .nil
      | cons q r ih =>
        intro k1 k2
        refine .cons ?_ (ih (fun a c hc => k1 a c (List.mem_cons_of_mem _ hc)) k2)
        rename_i x y _ _
        exact Classical.byCases (fun e : y = b => k2 _ _ e q) (fun e => k1 _ _ List.mem_cons_self e q)
    exact this r (fun a c hc => h2 a c (List.mem_cons_of_mem _ hc)) h3
  | _, _, i + 1, b, .cons (b := y) q r, h1, h2, h3 => by
    refine .cons ?_ (pair_set r (fun a ha => h1 a (by simpa using ha)) (fun a c hc => h2 a c (List.mem_cons_of_mem _ hc)) h3)
    exact Classical.byCases (fun e : y = b => h3 _ _ e q) (fun e => h2 _ _ List.mem_cons_self e q)
theorem callX_s {fs : Env → R} {g : Fn} (h : tOf G W (fun ρ => ((fs ρ).bA fun ts ρ1 => callX g ts ρ1).eo) σ H Q) : aOf G W fs σ H fun vs H1 => spD G g vs H1 Q (fun cls d H' => W cls d σ H') := by
  refine args_s (fun ρ H0 ts ρ1 vs H01 H1 re re1 st rts frs k => ?_) h
  cases ei : tmpIx g.io ts with
  | none =>
    have e : callX g ts ρ1 = callR g ts ρ1 := by simp only [callX, ei]
    rw [e] at k
    refine call_core re1 st rts frs ?_
    cases e : (callR g ts ρ1).eo with
    | ok t ρ' => rw [e] at k; exact k
    | ex x ρ' => rw [e] at k; exact k
    | no => rw [e] at k; exact k
  | some i =>
    obtain ⟨d, hd⟩ := tmpIx_at ei
    obtain ⟨v, hv, rt⟩ := pair_at rts hd
    obtain ⟨v', hv', fr⟩ := pair_at frs hd
    rw [hv] at hv'; cases hv'
    obtain ⟨a, rfl, h0, no, to⟩ := rt
    have hn := fr a rfl
    have hl : ρ1.length = σ.length := re1.len.symm
    simp only [callX, ei, hd] at k
    split at k
    · rename_i hall
      have hnf : ∀ t ∈ ts.set i (.s ρ1.length), t.notF = true := fun t ht => List.all_eq_true.mp hall t ht
      have st' : Step σ ρ H0 H (σ ++ [some (.ref a)]) (ρ1 ++ [.ow d]) H01 H1 := ⟨st.g0, st.na, st.fr, fun b ⟨j, o⟩ => by
        rcases own_app re1.len o with o | ⟨_, x⟩
        · exact st.on b ⟨j, o⟩
        · cases x; exact .inr hn, st.dom⟩
      have rts' : Paired (RT G H01 H1 (σ ++ [some (.ref a)]) (ρ1 ++ [.ow d])) vs (ts.set i (.s ρ1.length)) := by
        refine pair_set rts (fun w hw => ?_) (fun w t ht _ r => ?_) (fun w t e r => ?_)
        · rw [hv] at hw; cases hw
          refine ⟨?_, .ow d, ?_, nofun⟩
          · rw [hl, List.getElem?_append_right (Nat.le_refl _), Nat.sub_self]; rfl
          · rw [List.getElem?_append_right (Nat.le_refl _), Nat.sub_self]; rfl
        · have hf := hnf t ht
          cases t with
          | p x => exact r
          | f x => cases hf
          | s j =>
            obtain ⟨e1, c, ec, nc⟩ := r
            exact ⟨by rw [List.getElem?_append_left (List.getElem?_eq_some_iff.mp e1).1]; exact e1, c, by rw [List.getElem?_append_left (List.getElem?_eq_some_iff.mp ec).1]; exact ec, nc⟩
        · subst e
          obtain ⟨e1, c, ec, nc⟩ := r
          exact absurd (List.getElem?_eq_some_iff.mp ec).1 (Nat.lt_irrefl _)
      have frs' : Paired (Fresh H) vs (ts.set i (.s ρ1.length)) := by
        refine pair_set frs (fun w hw => trivial) (fun w t ht _ r => r) (fun w t e r => r)
      refine call_core (re1.app h0 no to) st' rts' frs' ?_
      cases ec : callR g (ts.set i (.s ρ1.length)) (ρ1 ++ [.ow d]) with
      | no => rw [ec] at k; exact k
      | ex x ρ' =>
        rw [ec] at k
        exact fun cls dd H0' H' re' st2 xr => k cls dd H0' H' (re'.cut hl) ⟨st2.g0, st2.na, st2.fr, fun b ⟨j, o⟩ => st2.on b ⟨j, own_take hl o⟩, st2.dom⟩ xr
      | ok us ρ' =>
        rw [ec] at k
        rcases us with _ | ⟨t, _ | ⟨u, us⟩⟩
        · exact k
        · cases t with
          | p x => exact fun v H0' H' re' st2 r f => k v H0' H' (re'.cut hl) ⟨st2.g0, st2.na, st2.fr, fun b ⟨j, o⟩ => st2.on b ⟨j, own_take hl o⟩, st2.dom⟩ r f
          | f x =>
            refine fun v H0' H' re' st2 r f => k v H0' H' (re'.cut hl) ⟨st2.g0, st2.na, st2.fr, fun b ⟨j, o⟩ => st2.on b ⟨j, own_take hl o⟩, st2.dom⟩ ?_ f
            obtain ⟨b, e, q1, q2, q3⟩ := r
            exact ⟨b, e, q1, fun ⟨j, o⟩ => q2 ⟨j, own_take hl o⟩, q3⟩
          | s j => exact False.elim k
        · cases t <;> exact False.elim k
    · exact False.elim k
end
end RL

namespace RL
open PySem PySem.Spec L2
/-! calls by name -/
def kwG (js : List Nat) (us ws : List Value) : List Value := if us.length = 0 ∧ ws.length = js.length then js.map fun j => ws.getD j .none else []
def kwL (js : List Nat) (vs zs : List V) : List V := if vs.length = 0 ∧ zs.length = js.length then js.map fun j => zs.getD j .non else []
theorem vals_getD : ∀ {zs : List V} {ws : List Value} (j : Nat), Vals zs ws → RelV (zs.getD j .non) (ws.getD j .none)
  | _, _, _, .nil => rfl
  | _, _, 0, .cons h _ => h
  | _, _, j + 1, .cons _ r => by simpa using vals_getD j r
theorem vals_perm {zs : List V} {ws : List Value} (h : Vals zs ws) : ∀ js : List Nat, Vals (js.map fun j => zs.getD j .non) (js.map fun j => ws.getD j .none)
  | [] => .nil
  | j :: js => .cons (vals_getD j h) (vals_perm h js)
theorem kw_rel (js : List Nat) {vs : List V} {us : List Value} {zs : List V} {ws : List Value} (a : Vals vs us) (b : Vals zs ws) : Vals (kwL js vs zs) (kwG js us ws) := by
  unfold kwL kwG
  rw [a.length, b.length]
  split
  · exact vals_perm b js
  · exact .nil
/-- a def called by its parameters' names -/
theorem kb_of {K : PySem.W.Frag} {x qual : Str} {st : Stmt} {f : Addr} {fd : FuncData} {ps ks : List Str} {js : List Nat} (F : Fun K x qual st f fd) (hp : 0 < ps.length)
    (h : ∀ (kV doc pm : Value) (an : Option Addr) (cdv ct : Value) (ws : List Value), ws.length = js.length → bindArgs (PySem.W.fnOf x qual (defArgs st) (defBody st) (defScope st) .none kV doc pm an cdv ct) ⟨[], ks.zip ws⟩ = pure (ps.zip (js.map fun j => ws.getD j .none))) :
    KBinds K fd ps ks (kwG js) (kwL js) := by
  obtain ⟨oc, od, kV, doc, pm, an, cdv, ct, osl, rfl, lk, hcd⟩ := F.ex
  refine ⟨fun s us ws X hl => ?_, fun a b => kw_rel js a b⟩
  unfold kwG at hl ⊢
  split at hl
  · rename_i c
    rw [if_pos c]
    have : us = [] := List.eq_nil_of_length_eq_zero c.1
    subst this
    exact .of_eq (h kV doc pm an cdv ct ws c.2)
  · simp at hl; omega
section
variable {X : Cx} {CX : CXT} {k : Nat} {f : Addr} {fd : FuncData} {ps ks : List Str} {sp : Sp} {E : St → XK} {x : Str} {p pos : Pos} {kws : List Keyword} {tk : TA} {g : List Value → List Value → List Value} {gV : List V → List V → List V}
theorem run_named {pins : List (Addr × Obj)} {σ : St} {H : Hp} {s : Shared} {Q : VK} {ws : List Value} {zs : List V} (F : FnOk X.prog X.w X.K X.mg X.base CX k f fd ps sp) (hr : Room k X.A) (hb : KBinds X.K fd ps ks g gV) (hx : PassesAt CX X σ (E σ))
    (I : Inv X pins σ H s) (rz : Vals zs ws) (h : sp (gV [] zs) H Q (E σ)) : wpAny (model X.prog X.w) X.A (call (.ref f) [] (ks.zip ws)) (EP X pins σ Q) X.xe s := by
  have r2 := hb.rel (vs := []) (us := []) .nil rz
  have hl : (g [] ws).length = ps.length := by rw [← r2.length]; exact F.len _ _ _ _ h
  refine wpAny_call (codeAny_mono (F.run X.A X.stack s H ⟨[], ks.zip ws⟩ (g [] ws) (gV [] zs) Q (E σ) hr I.env0 (hb.to s [] ws I.kIn hl) r2 h) fun r s' hq => ?_)
  cases r with
  | error e => exact hx pins H s e s' I hq
  | ok fl =>
    cases fl with
    | ret u => exact I.after hq
    | next => exact False.elim hq
    | brk => exact False.elim hq
    | cont => exact False.elim hq
/-- f(k = v, ..) -/
theorem pe_callK0 (F : FnOk X.prog X.w X.K X.mg X.base CX k f fd ps sp) (hr : Room k X.A) (hg : Gl X x) (hm : X.mg x = some (.ref f)) (hk : PySem.W.keepIn X.K (.ref f) = true) (hb : KBinds X.K fd ps ks g gV) (hx : ∀ σ, PassesAt CX X σ (E σ)) (hkw : PK X kws tk)
    (hall : (backToKw pos (keywordEach kws X.env)).all (·.1.isSome) = true) (hks : (backToKw pos (keywordEach kws X.env)).filterMap (·.1) = ks) (hdb : (x == ("__debug__" : Str)) = false)
    (hpl : ((backTo pos (starEach [] X.env)).any (·.1) || (backToKw pos (keywordEach kws X.env)).any (·.1.isNone)) = false) :
    PE X (.Call (.Name x p) [] kws pos) (fun σ H Q => tk σ H fun zs H2 => sp (gV [] zs) H2 Q (E σ)) := by
  refine ⟨fun pins s σ H Q I h => ?_⟩
  refine wpAny_Call_Name_kw (ld_glob I hg hm ?_ hdb)
  refine PySem.W.callWith_KW0 (h₀ := X.base) I.ok.mod.kin hk hall ?_ hpl
  refine thn (hkw.run pos pins s σ H _ I h) fun ws s2 ⟨zs, H2, I2, rz, q2⟩ => ⟨I2.kIn, ?_⟩
  rw [hks]
  exact run_named F hr hb (hx σ) I2 rz q2
end
theorem pair_at' {α β : Type} {R : α → β → Prop} : ∀ {xs : List α} {ys : List β} {j : Nat} {y : β}, Paired R xs ys → ys[j]? = some y → ∃ x, xs[j]? = some x ∧ R x y
  | _, _, j, _, .nil, h => by simp at h
  | _, _, 0, _, .cons a _, h => by simp at h; subst h; exact ⟨_, rfl, a⟩
  | _, _, j + 1, _, .cons _ r, h => by
    obtain ⟨x, e, q⟩ := pair_at' (j := j) r (by simpa using h)
    exact ⟨x, by simpa using e, q⟩
theorem pick_pair {R : V → T → Prop} {vs : List V} {ts : List T} (h : Paired R vs ts) : ∀ {js : List Nat} {us : List T}, pickT js ts = some us → Paired R (js.map fun j => vs.getD j .non) us
  | [], _, e => by cases e; exact .nil
  | j :: js, us, e => by
    simp only [pickT] at e
    split at e
    · rename_i t r e1 e2
      cases e
      obtain ⟨v, hv, rv⟩ := pair_at' h e1
      refine .cons ?_ (pick_pair h e2)
      show R (vs.getD j .non) _
      rw [List.getD_eq_getElem?_getD, hv]; exact rv
    · cases e
section
variable {G : Gp} {W : WX} {σ : St} {H : Hp}
theorem perm_s {fs : Env → R} {g : Fn} {Q : VK} {js : List Nat} (h : tOf G W (fun ρ => ((fs ρ).bA fun ts ρ1 => match permT js ts with
    | some us => callX g us ρ1
    | none => .no).eo) σ H Q) : aOf G W fs σ H fun zs H1 => spD G g (kwL js [] zs) H1 Q (fun cls d H' => W cls d σ H') := by
  have h2 : tOf G W (fun ρ => (((fs ρ).bA fun ts ρ1 => match permT js ts with
      | some us => R.ok us ρ1
      | none => .no).bA fun us ρ1 => callX g us ρ1).eo) σ H Q := by
    obtain ⟨H0, ρ, re, k⟩ := h
    refine ⟨H0, ρ, re, ?_⟩
    have e : ((fs ρ).bA fun ts ρ1 => match permT js ts with
        | some us => callX g us ρ1
        | none => .no) = (((fs ρ).bA fun ts ρ1 => match permT js ts with
      | some us => R.ok us ρ1
      | none => .no).bA fun us ρ1 => callX g us ρ1) := by
      cases fs ρ with
      | ok ts ρ1 =>
        simp only [R.bA]
        cases permT js ts <;> rfl
      | ex e ρ1 => rfl
      | no => rfl
    show kOf G W (R.eo _) σ ρ H0 H Q
    rw [← e]; exact k
  obtain ⟨H0, ρ, re, k⟩ := callX_s h2
  refine ⟨H0, ρ, re, ?_⟩
  replace k : kA G W ((fs ρ).bA fun ts ρ1 => match permT js ts with
      | some us => R.ok us ρ1
      | none => .no) σ ρ H0 H (fun vs H1 => spD G g vs H1 Q fun cls d H' => W cls d σ H') := k
  cases e : fs ρ with
  | no => rw [e] at k; exact k
  | ex x ρ1 => rw [e] at k; exact k
  | ok ts ρ1 =>
    rw [e] at k
    intro vs H0' H' re' st rts frs
    cases e2 : permT js ts with
    | none => simp only [R.bA, e2] at k; exact False.elim k
    | some us =>
      simp only [R.bA, e2] at k
      unfold permT at e2
      split at e2
      · rename_i hl
        have hv : vs.length = js.length := by rw [← hl]; exact Paired.length rts
        have hk : kwL js [] vs = js.map fun j => vs.getD j .non := by unfold kwL; rw [if_pos ⟨rfl, hv⟩]
        rw [hk]
        exact k _ H0' H' re' st (pick_pair rts e2) (pick_pair frs e2)
      · cases e2
end
end RL

namespace RL
open PySem PySem.Spec L2

/-! what stands fixed around a def: its names by slot, its scope; the defs that it may call -/
structure Cfg where
  N : List Str
  sc : Scope
  fn : Str → Bool
  lv : Nat
  fx : List Nat
  consts : List (Str × Int)
  excs : List Str
  sub : List (Str × Str × Bool)
  kt : List (Nat × List Str × List Nat)
structure FnGood (G : Gp) (base : Heap) (g : Fn) (lv : Nat) : Prop where
  ex : ∃ f fd ps, G.mg g.name = some (.ref f) ∧ PySem.W.keepIn G.K (.ref f) = true ∧ FnOk G.P G.w G.K G.mg base (L2.CX G.P G.w) lv f fd ps (spD G g) ∧ Binds G.K fd ps []
def blts : List Str := ["len", "int", "tuple", "list", "all", "any", "max", "min", "sum", "abs", "sorted", "str", "isinstance", "set", "range", "enumerate", "zip", "bool", "dict", "reversed", "divmod"]
structure Fx (G : Gp) (base : Heap) (Γ : Nat → Option Fn) (lvl : Nat → Nat) (cs : List (Str × Int)) (kt : List (Nat × List Str × List Nat)) : Prop where
  blt : ∀ x ∈ blts, G.mg x = none
  glo : ∀ p ∈ cs, ∃ t, G.mg p.1 = some (.int p.2 t)
  fns : ∀ k g, Γ k = some g → FnGood G base g (lvl k)
  kwb : ∀ e ∈ kt, ∀ g, Γ e.1 = some g → ∃ f fd ps, G.mg g.name = some (.ref f) ∧ PySem.W.keepIn G.K (.ref f) = true ∧ FnOk G.P G.w G.K G.mg base (L2.CX G.P G.w) (lvl e.1) f fd ps (spD G g) ∧ KBinds G.K fd ps e.2.1 (kwG e.2.2) (kwL e.2.2)
structure CxOk (X : Cx) (W : WX) (c : Cfg) : Prop where
  N : X.N = c.N
  nd : X.N.Nodup
  sc : X.env.scope = c.sc
  fn : X.fn = c.fn
  calm : X.calm = true
  room : Room c.lv X.A
  takes : Takes X W
def kindB (c : Cfg) (x : Str) : Option NameKind := c.sc.names.lookup x
def visB (c : Cfg) (x : Str) : Bool := (kindB c x == some .local || kindB c x == some .cell || kindB c x == some .free) && !(x == ("__debug__" : Str)) && !(x == ("__classdict__" : Str))
def glB (c : Cfg) (x : Str) : Bool := kindB c x == some .globalImplicit && !(x == ("__debug__" : Str)) && !(x == ("__name__" : Str))
def notStar : Expr → Bool
  | .Starred _ _ => false
  | _ => true
def tsB : Expr → Bool
  | .IfExp .. => false
  | .NamedExpr .. => false
  | _ => true
def P.isL : P → Bool
  | .nil => true
  | .cons _ _ => true
  | _ => false
def primN : Prim → Str
  | .len => "len" | .int => "int" | .tuple => "tuple" | .list => "list" | .all => "all" | .any => "any" | .max => "max" | .min => "min" | .sum => "sum" | .abs => "abs" | .sorted => "sorted" | .str => "str"
def constB : Const → D → Bool
  | .int i, .int j => i == j
  | .bool b, .bool c => b == c
  | .str x, .str y => x == y
  | .none, .none => true
  | _, _ => false
def plainIx : Expr → Bool
  | .Slice .. => false
  | _ => true
def tyL : List String := ["bool", "int", "str", "list", "tuple", "dict"]
def tyB (s : String) (x : Str) : Bool := x == (Str.ofString s) && tyL.contains s
def isTupE : Expr → Bool
  | .Tuple .. => true
  | _ => false
def relSc (scope sc : Scope) : Scope := L2.relS scope sc
def Cfg.blk (c : Cfg) (scope : Scope) : Cfg := { c with sc := relSc scope c.sc, fn := fun x => scope.names.lookup x == some .cell }
def noSet : Expr → Bool
  | .Set .. => false
  | _ => true
/-- {} and {0: 0} -/
def dctB : Bool → List (Option Expr) → List Expr → Bool
  | false, [], [] => true
  | true, [some (.Constant (.int 0) _ _)], [.Constant (.int 0) _ _] => true
  | _, _, _ => false
def isTr : P → Bool
  | .cst (.bool true) => true
  | _ => false
def Tg.isL : Tg → Bool
  | .nil => true
  | .cons _ _ => true
  | _ => false
def Tg.isP : Tg → Expr → Bool
  | .nm _, .Name _ _ => true
  | .tp _, .Tuple _ _ _ => true
  | _, _ => false
/-- a name that the def, or the block, stores -/
def locB (c : Cfg) (x : Str) : Bool := kindB c x == some .local || (kindB c x == some .cell && c.fn x)
def chkT (c : Cfg) (t : Tg) (es : List Expr) : Bool :=
  match t with
  | .nm i => match es with
    | [.Name x _] => c.N[i]? == some x && locB c x
    | _ => false
  | .nil => es.isEmpty
  | .cons a b => match es with
    | e :: es => notStar e && a.isP e && chkT c a [e] && b.isL && chkT c b es
    | _ => false
  | .tp ts => match es with
    | [.Tuple es _ _] => ts.isL && chkT c ts es
    | _ => false
section
variable (Γ : Nat → Option Fn) (lvl : Nat → Nat)
mutual
def chk (c : Cfg) (m : Bool) (p : P) (es : List Expr) : Bool :=
  match p with
  | .nil => match es with
    | [] => m
    | _ => false
  | .cons a as => match es with
    | e :: es => m && notStar e && chk c false a [e] && as.isL && chk c true as es
    | _ => false
  | .var i => match es with
    | [.Name x _] => c.N[i]? == some x && visB c x
    | _ => false
  | .cst d => match es with
    | [.Constant k _ _] => constB k d
    | _ => false
  | .dct z => match es with
    | [.Dict ks vs _] => dctB z ks vs
    | _ => false
  | .sh a => match es with
    | [.Call f as ks pos] => chk c false a [.Call f as ks pos]
    | _ => false
  | .mxd a d => match es with
    | [.Call (.Name x _) [e] [⟨some nm, v, _⟩] _] => x == ("max" : Str) && glB c x && notStar e && nm == ("default" : Str) && chk c false a [e] && chk c false d [v]
    | _ => false
  | .callK k ks js as => match es with
    | [.Call (.Name x _) [] kws _] => (match Γ k with | some g => g.name == x && decide (lvl k ≤ c.lv) | none => false) && glB c x && c.kt.contains (k, ks, js) && kws.map (·.arg) == ks.map some && as.isL && chk c true as (kws.map (·.value))
    | _ => false
  | .rgs _ => false
  | .rgr _ => false
  | .glo x z => match es with
    | [.Name y _] => x == y && glB c y && c.consts.contains (x, z)
    | _ => false
  | .bin op a b => match es with
    | [.BinOp l o r _] => o == op && chk c false a [l] && chk c false b [r]
    | _ => false
  | .neg a => match es with
    | [.UnaryOp .USub e _] => chk c false a [e]
    | _ => false
  | .cmp op a b => match es with
    | [.Compare l [o] [r] _] => o == op && chk c false a [l] && chk c false b [r] && !behindInMarks o r
    | _ => false
  | .chn op op' a b d => match es with
    | [.Compare l [o, o'] [r, q] _] => o == op && o' == op' && chk c false a [l] && chk c false b [r] && chk c false d [q] && !lastMarks [o, o'] [r, q]
    | _ => false
  | .and a b => match es with
    | [.BoolOp .And [x, y] pos] => tsB x && tsB y && chk c false a [x] && chk c false b [y]
    | [.BoolOp .And (x :: y :: z :: rest) pos] => tsB x && chk c false a [x] && chk c false b [.BoolOp .And (y :: z :: rest) pos]
    | _ => false
  | .or a b => match es with
    | [.BoolOp .Or [x, y] pos] => tsB x && tsB y && chk c false a [x] && chk c false b [y]
    | [.BoolOp .Or (x :: y :: z :: rest) pos] => tsB x && chk c false a [x] && chk c false b [.BoolOp .Or (y :: z :: rest) pos]
    | _ => false
  | .not a => match es with
    | [.UnaryOp .Not e _] => tsB e && chk c false a [e]
    | _ => false
  | .ite k a b => match es with
    | [.IfExp k' a' b' _] => tsB k' && chk c false k [k'] && chk c false a [a'] && chk c false b [b']
    | _ => false
  | .tup as => match es with
    | [.Tuple es _ _] => as.isL && chk c true as es
    | _ => false
  | .lst as => match es with
    | [.List es _] => as.isL && chk c true as es
    | _ => false
  | .idx a i => match es with
    | [.Subscript a' i' _] => plainIx i' && chk c false a [a'] && chk c false i [i']
    | _ => false
  | .slc a lo hi => match es with
    | [.Subscript a' (.Slice lo' hi' none _) _] => chk c false a [a'] && (match lo' with | none => lo.isNil | some e => !lo.isNil && chk c false lo [e]) && (match hi' with | none => hi.isNil | some e => !hi.isNil && chk c false hi [e])
    | _ => false
  | .prim k as => match es with
    | [.Call (.Name x _) (e :: es) [] _] => x == primN k && glB c x && as.isL && (e :: es).all notStar && chk c true as (e :: es)
    | _ => false
  | .isa ty a => match es with
    | [.Call (.Name x _) [e, .Name y _] [] _] => x == ("isinstance" : Str) && glB c x && tyB ty y && glB c y && notStar e && chk c false a [e]
    | _ => false
  | .lset a => match es with
    | [.Call (.Name x _) [.Call (.Name y _) [e] [] _] [] _] => x == ("len" : Str) && glB c x && y == ("set" : Str) && glB c y && notStar e && chk c false a [e]
    | _ => false
  | .call k as => match es with
    | [.Call (.Name x _) (e :: es) [] _] => (match Γ k with | some g => g.name == x && decide (lvl k ≤ c.lv) | none => false) && glB c x && as.isL && (e :: es).all notStar && chk c true as (e :: es)
    | _ => false
  | .itr _ => false
  | .rng _ => false
  | .enm _ => false
  | .zip _ _ => false
  | .tupR a => match es with
    | [.Call (.Name x _) [e] [] _] => x == ("tuple" : Str) && glB c x && notStar e && chkR c a e
    | _ => false
  | .lstR a => match es with
    | [.Call (.Name x _) [e] [] _] => x == ("list" : Str) && glB c x && notStar e && chkR c a e
    | _ => false
  | .lc own t it k b => match es with
    | [.ListComp elt [⟨tg, iter, ifs, 0⟩] scope _] => noSet iter && blkC c.N c.sc scope own && (t.slots.all fun i => (own.map (·.2)).contains i) && (own.all fun p => decide (p.2 < c.N.length)) && t.isP tg && chkT (c.blk scope) t [tg] && chkI c it tg iter &&
      (match ifs with | [] => isTr k | [e] => tsB e && chk (c.blk scope) false k [e] | _ => false) && chk (c.blk scope) false b [elt]
    | _ => false
/-- an iterable -/
def chkI (c : Cfg) (p : P) (tg e : Expr) : Bool :=
  match p with
  | .itr a => chk c false a [e]
  | .rng as => match e with
    | .Call (.Name x _) [e1] [] _ => x == ("range" : Str) && glB c x && as.isL && notStar e1 && chk c true as [e1]
    | .Call (.Name x _) [e1, e2] [] _ => x == ("range" : Str) && glB c x && as.isL && notStar e1 && notStar e2 && chk c true as [e1, e2]
    | _ => false
  | .rgs as => match e with
    | .Call (.Name x _) [e1, e2, e3] [] _ => x == ("range" : Str) && glB c x && as.isL && notStar e1 && notStar e2 && notStar e3 && chk c true as [e1, e2, e3]
    | _ => false
  | .rgr a => match e with
    | .Call (.Name y _) [.Call (.Name x _) [e1] [] _] [] _ => y == ("reversed" : Str) && glB c y && x == ("range" : Str) && glB c x && notStar e1 && chk c false a [e1]
    | _ => false
  | .enm a => match e with
    | .Call (.Name x _) [e1] [] _ => x == ("enumerate" : Str) && glB c x && notStar e1 && chk c false a [e1] && isTupE tg
    | _ => false
  | .zip a b => match e with
    | .Call (.Name x _) [e1, e2] [] _ => x == ("zip" : Str) && glB c x && notStar e1 && notStar e2 && chk c false a [e1] && chk c false b [e2] && isTupE tg
    | _ => false
  | _ => false
/-- a range as an argument of tuple or list -/
def chkR (c : Cfg) (p : P) (e : Expr) : Bool :=
  match p with
  | .rng as => match as with
    | .cons a .nil => match e with
      | .Call (.Name x _) [e1] [] _ => x == ("range" : Str) && glB c x && notStar e1 && chk c false a [e1]
      | _ => false
    | .cons a (.cons b .nil) => match e with
      | .Call (.Name x _) [e1, e2] [] _ => x == ("range" : Str) && glB c x && notStar e1 && notStar e2 && chk c false a [e1] && chk c false b [e2]
      | _ => false
    | _ => false
  | _ => false
end
end
end RL

namespace RL
open PySem PySem.Spec L2
theorem boot_ty : ∀ ty ∈ tyL, bootBuiltins (Str.ofString ty) = some (.type ty) := by decide +kernel
theorem ty_blt : ∀ ty ∈ tyL, Str.ofString ty ∈ blts := by decide +kernel
theorem ty_name : ∀ ty ∈ tyL, Str.ofString ty ≠ ("__name__" : Str) ∧ (Str.ofString ty == ("__debug__" : Str)) = false := by decide +kernel
section
variable {X : Cx}
/-- a value's type by its data -/
def tyN : D → String
  | .none => "NoneType" | .bool _ => "bool" | .int _ => "int" | .str _ => "str" | .list _ => "list" | .tuple _ => "tuple" | .dict _ => "dict"
theorem kit_one {K : PySem.W.Frag} {ty : String} {d : D} {b : Bool} (h : isaD ty d = some b) : PySem.W.kitOne K (.type (tyN d)) (.type ty) = some b := by
  unfold isaD at h
  split at h <;> first | (cases h; cases d <;> rfl) | cases h
theorem kit_rp {pins : List (Addr × Obj)} {σ : St} {H : Hp} {s : Shared} (I : Inv X pins σ H s) {v : V} {u : Value} {d : D} (h : Rp (gp X) H v d) (r : RelV v u) :
    ∃ P : Heap → Prop, PySem.W.KitX X.K u (.type (tyN d)) P ∧ P s.heap ∧ u ≠ .builtin "__main__.__loader__#opaque" := by
  cases h with
  | non => cases r; exact ⟨_, PySem.W.kitx_none, True.intro, fun z => nomatch z⟩
  | bl b => cases r; exact ⟨_, PySem.W.kitx_bool, True.intro, fun z => nomatch z⟩
  | int i => obtain ⟨t, rfl⟩ := r; exact ⟨_, PySem.W.kitx_int, True.intro, fun z => nomatch z⟩
  | str x => obtain ⟨t, rfl⟩ := r; exact ⟨_, PySem.W.kitx_str, True.intro, fun z => nomatch z⟩
  | lst h _ =>
    cases r
    obtain ⟨its, _, ⟨o, n, e, hc, hd, _⟩, _⟩ := I.list h
    exact ⟨_, PySem.W.kitx_list, ⟨o, e, hc⟩, fun z => nomatch z⟩
  | tup h _ =>
    cases r
    obtain ⟨its, _, ⟨o, e, hc, _⟩, _⟩ := I.tuple h
    exact ⟨_, PySem.W.kitx_tuple, ⟨o, e, hc⟩, fun z => nomatch z⟩
  | dic _ h _ =>
    cases r
    rcases h with h | ⟨ob, h⟩
    · obtain ⟨⟨o, ents, ep, e, ex, _⟩, _⟩ : ObjOk X.prog X.w H s.heap _ (dicO _ _) := I.hok _ _ h
      exact ⟨_, PySem.W.kitx_dict, ⟨o, e, ex.1⟩, fun z => nomatch z⟩
    · obtain ⟨_, ⟨o, ents, ep, e, ex, _⟩, _⟩ : ObjOk X.prog X.w H s.heap _ (.frz ob (dicO _ _)) := I.hok _ _ h
      exact ⟨_, PySem.W.kitx_dict, ⟨o, e, ex.1⟩, fun z => nomatch z⟩
theorem cr_isa (ty : String) : CallR X (.builtin "isinstance") (fun xs H Q => ∃ x, xs = [x, .ty ty] ∧ rL (gp X) (fun d => (isaD ty d).map fun b => .p (.bool b)) x H Q) := by
  intro pins s σ H vs us Q I r ⟨x, e, H0, d, t, sm, hd, hf, o⟩
  subst e
  obtain ⟨b, hb, rfl⟩ := Option.map_eq_some_iff.mp hf
  cases r with
  | cons r1 r2 =>
    cases r2 with
    | cons r3 r4 =>
      cases r4
      cases r3
      obtain ⟨P, kt, hP, ne⟩ := kit_rp I (hd.rp sm) r1
      exact PySem.W.kia_one kt I.kIn hP (kit_one hb) ne fun tk => ⟨.bl b, H, I.tok _, rfl, o.sc sm (.bl b)⟩
theorem starE {e : Expr} {es : List Expr} {env : PySem.Env} (h : notStar e = true) : starEach (e :: es) env = (false, eval e env) :: starEach es env := by
  cases e <;> first | rfl | cases h
theorem noStar : ∀ {es : List Expr} {env : PySem.Env} {pos : Pos}, es.all notStar = true → ((backTo pos (starEach es env)).any fun x => x.1) = false
  | [], _, _, _ => rfl
  | e :: es, env, pos, h => by
    rw [List.all_cons, Bool.and_eq_true] at h
    rw [starE h.1]
    show (false || ((backTo pos (starEach es env)).any fun x => x.1)) = false
    rw [noStar h.2]; rfl
theorem pt_ts {e : Expr} {t : TE} (h : PE X e t) (he : ∀ whole, isTrue e X.env whole = (do let v ← whole; standAt e.pos; holding [v] (truthy v))) : PT X e (tTest t) := pt_val h he
end
end RL

namespace RL
open PySem PySem.Spec L2
section
variable {G : Gp} {W : WX} {σ : St} {ρ ρ' ρ1 ρ2 : Env} {H0 H H01 H1 H02 H2 H0' H' : Hp} {Q : VK}
theorem kOf.mono {o : EO} {Q' : VK} (h : kOf G W o σ ρ H0 H Q) (i : ∀ v H', Q v H' → Q' v H') : kOf G W o σ ρ H0 H Q' := by
  cases o with
  | ok t ρ' => exact fun v H0' H' re st rt fr => i _ _ (h v H0' H' re st rt fr)
  | ex e ρ' => exact h
  | no => exact h
theorem tOf.mono {f : Env → EO} {Q' : VK} (h : tOf G W f σ H Q) (i : ∀ v H', Q v H' → Q' v H') : tOf G W f σ H Q' :=
  let ⟨H0, ρ, re, k⟩ := h; ⟨H0, ρ, re, k.mono i⟩
/-- behind a step: the rest from where it stands -/
theorem tOf.from {f : Env → EO} (re : RE G H01 H1 σ ρ1) (st : Step σ ρ H0 H σ ρ1 H01 H1) (k : kOf G W (f ρ1) σ ρ H0 H Q) : tOf G W f σ H1 Q := ⟨H01, ρ1, re, k.step st⟩
theorem Step.rt {t : T} {v : V} (h : RT G H0 H σ ρ v t) : RT G H0 H σ ρ v t := h
theorem done {t : T} {v : V} (re : RE G H01 H1 σ ρ1) (st : Step σ ρ H0 H σ ρ1 H01 H1) (rt : RT G H01 H1 σ ρ1 v t) (fr : Fresh H v t) (k : kOf G W (.ok t ρ1) σ ρ H0 H Q) : Q v H1 := k v H01 H1 re st rt fr
theorem RT.boolOf {t : T} {v : V} {b : Bool} (re : RE G H0 H σ ρ) (rt : RT G H0 H σ ρ v t) (e : (t.val ρ).bind boolOf = some b) : v = .bl b ∧ t.val ρ = some (.bool b) := by
  obtain ⟨d, hd, hb⟩ := Option.bind_eq_some_iff.mp e
  cases d with
  | bool c => cases hb; exact ⟨(rt.rv re hd).bool, hd⟩
  | _ => exact nomatch hb
theorem tst_s {fa : Env → R} {f : Bool → Env → R} {Rr : Bool → Hp → Prop} (fin : ∀ ρ H0 b ρ1 H01 H1, RE G H0 H σ ρ → RE G H01 H1 σ ρ1 → Step σ ρ H0 H σ ρ1 H01 H1 → kOf G W (f b ρ1).eo σ ρ H0 H Q → Rr b H1)
    (h : tOf G W (fun ρ => ((fa ρ).tst f).eo) σ H Q) : tOf G W (fun ρ => (fa ρ).eo) σ H fun v H1 => ∃ b, v = .bl b ∧ Rr b H1 := by
  refine one_s (g := fun t ρ => match (t.val ρ).bind boolOf with | some b => f b ρ | none => .no) (fun ρ H0 t ρ1 v H01 H1 re re1 st rt fr k => ?_) h
  cases e : (t.val ρ1).bind boolOf with
  | none => simp only [e] at k; exact False.elim k
  | some b =>
    simp only [e] at k
    exact ⟨b, (rt.boolOf re1 e).1, fin ρ H0 b ρ1 H01 H1 re re1 st k⟩
theorem bool_done {b : Bool} (re : RE G H01 H1 σ ρ1) (st : Step σ ρ H0 H σ ρ1 H01 H1) (k : kOf G W (R.ok [.p (.bool b)] ρ1).eo σ ρ H0 H Q) : Q (.bl b) H1 := k _ H01 H1 re st (.bl b) trivial
theorem and_s {fa fb : Env → R} (h : tOf G W (fun ρ => ((fa ρ).tst fun k ρ1 => if k = true then (fb ρ1).tst fun j ρ2 => .ok [.p (.bool j)] ρ2 else .ok [.p (.bool false)] ρ1).eo) σ H Q) : tAndV (tOf G W fun ρ => (fa ρ).eo) (tOf G W fun ρ => (fb ρ).eo) σ H Q := by
  refine tst_s (fun ρ H0 b ρ1 H01 H1 re re1 st k => ?_) h
  cases b with
  | true =>
    rw [if_pos rfl] at k ⊢
    have h2 : tOf G W (fun ρ => ((fb ρ).tst fun j ρ2 => .ok [.p (.bool j)] ρ2).eo) σ H1 Q := .from re1 st k
    refine (tst_s (Rr := fun b H' => Q (.bl b) H') (fun _ _ b _ _ _ re re1 st k => bool_done re1 st k) h2).mono fun v H' ⟨b, e, q⟩ => by rw [e]; exact q
  | false => exact bool_done re1 st k
theorem or_s {fa fb : Env → R} (h : tOf G W (fun ρ => ((fa ρ).tst fun k ρ1 => if k = true then .ok [.p (.bool true)] ρ1 else (fb ρ1).tst fun j ρ2 => .ok [.p (.bool j)] ρ2).eo) σ H Q) : tOrV (tOf G W fun ρ => (fa ρ).eo) (tOf G W fun ρ => (fb ρ).eo) σ H Q := by
  refine tst_s (fun ρ H0 b ρ1 H01 H1 re re1 st k => ?_) h
  cases b with
  | true => exact bool_done re1 st k
  | false =>
    have h2 : tOf G W (fun ρ => ((fb ρ).tst fun j ρ2 => .ok [.p (.bool j)] ρ2).eo) σ H1 Q := .from re1 st k
    exact (tst_s (Rr := fun b H' => Q (.bl b) H') (fun _ _ b _ _ _ re re1 st k => bool_done re1 st k) h2).mono fun v H' ⟨b, e, q⟩ => by rw [e]; exact q
theorem not_s {fa : Env → R} (h : tOf G W (fun ρ => ((fa ρ).tst fun k ρ1 => .ok [.p (.bool (!k))] ρ1).eo) σ H Q) : tNotV (tOf G W fun ρ => (fa ρ).eo) σ H Q :=
  tst_s (fun ρ H0 b ρ1 H01 H1 re re1 st k => bool_done re1 st k) h
theorem ite_s {fk fa fb : Env → R} (h : tOf G W (fun ρ => ((fk ρ).tst fun k ρ1 => if k = true then fa ρ1 else fb ρ1).eo) σ H Q) : tIf (tTest (tOf G W fun ρ => (fk ρ).eo)) (tOf G W fun ρ => (fa ρ).eo) (tOf G W fun ρ => (fb ρ).eo) σ H Q := by
  refine tst_s (fun ρ H0 b ρ1 H01 H1 re re1 st k => ?_) h
  cases b with
  | true => exact .from re1 st k
  | false => exact .from re1 st k
theorem cmp_s {f : D → D → Option Bool} {fa fb : Env → R} (h : tOf G W (fun ρ => ((fa ρ).b1 fun t1 ρ1 => (fb ρ1).b1 fun t2 ρ2 => op2 (bl2 f) t1 t2 ρ2).eo) σ H Q) :
    tOp (rC G f) (tOf G W fun ρ => (fa ρ).eo) (tOf G W fun ρ => (fb ρ).eo) σ H Q := by
  refine (op2_s h).mono fun x H1 h1 => h1.mono fun y H2 ⟨H0, d, e, t, sm, hd, he, hf, o⟩ => ?_
  obtain ⟨b, hb, rfl⟩ := Option.map_eq_some_iff.mp hf
  exact ⟨H0, d, e, b, sm, hd, he, hb, o.sc sm (.bl b)⟩
theorem op2_val {f : D → D → Option T} {t1 t2 : T} {ρ : Env} (h : (op2 f t1 t2 ρ).eo ≠ .no) : ∃ d e, t1.val ρ = some d ∧ t2.val ρ = some e := by
  unfold op2 at h
  cases e1 : t1.val ρ with
  | none => rw [e1] at h; exact absurd rfl h
  | some d =>
    cases e2 : t2.val ρ with
    | none => rw [e1, e2] at h; exact absurd rfl h
    | some e => exact ⟨d, e, rfl, rfl⟩
theorem chn_s {f f' : D → D → Option Bool} {fa fb fc : Env → R} (h : tOf G W (fun ρ => ((fa ρ).b1 fun t1 ρ1 => (fb ρ1).b1 fun t2 ρ2 =>
    (op2 (bl2 f) t1 t2 ρ2).tst fun k ρ2' => if k = true then (fc ρ2').b1 fun t3 ρ3 => op2 (bl2 f') t2 t3 ρ3 else .ok [.p (.bool false)] ρ2').eo) σ H Q) :
    tChain (rC G f) (rC G f') (tOf G W fun ρ => (fa ρ).eo) (tOf G W fun ρ => (fb ρ).eo) (tOf G W fun ρ => (fc ρ).eo) σ H Q := by
  have key : ∀ (t1 t2 : T) (ρ : Env) (g : Bool → Env → R), ((op2 (bl2 f) t1 t2 ρ).tst g).eo ≠ .no → ∃ d e b, t1.val ρ = some d ∧ t2.val ρ = some e ∧ f d e = some b ∧ (op2 (bl2 f) t1 t2 ρ).tst g = g b ρ := by
    intro t1 t2 ρ g hn
    unfold op2 bl2 at hn ⊢
    cases e1 : t1.val ρ with
    | none => rw [e1] at hn; exact absurd rfl hn
    | some d =>
      cases e2 : t2.val ρ with
      | none => rw [e1, e2] at hn; exact absurd rfl hn
      | some e =>
        rw [e1, e2] at hn
        cases e3 : f d e with
        | none => simp only [e3] at hn; exact absurd rfl hn
        | some b => exact ⟨d, e, b, rfl, rfl, e3, by simp [e3, give, R.tst, R.b1, T.val, boolOf]⟩
  refine two_s (fun t1 t2 ρ hn => let ⟨d, _, _, e, _⟩ := key t1 t2 ρ _ hn; ⟨d, e⟩) (fun ρ H0 t1 t2 ρ2 v1 v2 H02 H2 re re2 st rt1 rt2 fr1 fr2 k => ?_) h
  obtain ⟨d, e, b, e1, e2, e3, e4⟩ := key t1 t2 ρ2 _ (fun z => by rw [z] at k; exact k)
  rw [e4] at k
  refine ⟨H02, d, e, b, re2.sub, rt1.rv re2 e1, rt2.rv re2 e2, e3, b, rfl, ?_⟩
  cases b with
  | false => exact bool_done re2 st k
  | true =>
    rw [if_pos rfl] at k ⊢
    have h2 : tOf G W (fun ρ => ((fc ρ).b1 fun t3 ρ3 => op2 (bl2 f') t2 t3 ρ3).eo) σ H2 Q := ⟨H02, ρ2, re2, kOf.step st k⟩
    refine ⟨H02, ρ2, re2, ?_⟩
    replace k : kOf G W ((fc ρ2).b1 fun t3 ρ3 => op2 (bl2 f') t2 t3 ρ3).eo σ ρ2 H02 H2 Q := kOf.step st k
    show kOf G W (fc ρ2).eo σ ρ2 H02 H2 _
    rw [eo_b1] at k
    cases q : (fc ρ2).eo with
    | no => rw [q] at k; exact k
    | ex e ρ' => rw [q] at k; exact k
    | ok t3 ρ3 =>
      rw [q] at k
      intro v3 H03 H3 re3 st3 rt3 fr3
      have hn3 : (op2 (bl2 f') t2 t3 ρ3).eo ≠ .no := fun z => by simp only [z] at k; exact k
      obtain ⟨d2, d3, q2, q3⟩ := op2_val hn3
      replace k : kOf G W (op2 (bl2 f') t2 t3 ρ3).eo σ ρ2 H02 H2 Q := k
      unfold op2 at k
      rw [q2, q3] at k
      simp only [give_eo] at k
      cases q4 : bl2 f' d2 d3 with
      | none => rw [q4] at k; exact False.elim k
      | some t' =>
        rw [q4] at k
        obtain ⟨b', hb, rfl⟩ := Option.map_eq_some_iff.mp q4
        exact ⟨H03, d2, d3, b', re3.sub, (rt2.step st3 (KeepT.of q2)).rv re3 q2, rt3.rv re3 q3, hb, bool_done re3 st3 k⟩
theorem neg_s {fa : Env → R} (h : tOf G W (fun ρ => ((fa ρ).b1 fun t ρ1 => op1 negD t ρ1).eo) σ H Q) : tUn (rU fun i => V.int (-i)) (tOf G W fun ρ => (fa ρ).eo) σ H Q := by
  refine op1_s (fun v H1 ⟨H0, d, t, sm, hd, hf, o⟩ => ?_) h
  cases d with
  | int i => cases hf; exact ⟨i, hd.int, o.sc sm (.int _)⟩
  | _ => exact nomatch hf
theorem seq_s {fs : Env → R} {mk : List D → T} (h : tOf G W (fun ρ => ((fs ρ).bA fun ts ρ1 => match sealAll ts ρ1 with
    | some (ds, ρ2) => if ds.length ≤ 16777216 then .ok [mk ds] ρ2 else .no
    | none => .no).eo) σ H Q) : aOf G W fs σ H fun vs H1 => ∃ H02 ds, Same H02 H1 ∧ Rps G H02 vs ds ∧ ds.length ≤ 16777216 ∧ VOut G H02 H1 (mk ds) Q := by
  refine args_s (fun ρ H0 ts ρ1 vs H01 H1 re re1 st rts frs k => ?_) h
  cases e : sealAll ts ρ1 with
  | none => simp only [e] at k; exact False.elim k
  | some q =>
    obtain ⟨ds, ρ2⟩ := q
    simp only [e] at k
    split at k
    · rename_i hl
      obtain ⟨H02, re2, st2, rp, sm⟩ := sealAll_s re1 st (L2.Paired.mapP rts fun v t z => z.w) frs e
      exact ⟨H02, ds, re2.sub, rp, hl, vout_of (v := .non) re2 st2 k⟩
    · exact False.elim k
theorem aOf.mono {f : Env → R} {Q Q' : List V → Hp → Prop} (h : aOf G W f σ H Q) (i : ∀ v H', Q v H' → Q' v H') : aOf G W f σ H Q' := by
  obtain ⟨H0, ρ, re, k⟩ := h
  refine ⟨H0, ρ, re, ?_⟩
  cases e : f ρ with
  | ok ts ρ' => rw [e] at k; exact fun vs H0' H' re st rt fr => i _ _ (k vs H0' H' re st rt fr)
  | ex e ρ' => rw [e] at k; exact k
  | no => rw [e] at k; exact k
theorem tup_s {fs : Env → R} (h : tOf G W (fun ρ => ((fs ρ).bA fun ts ρ1 => match sealAll ts ρ1 with
    | some (ds, ρ2) => if ds.length ≤ 16777216 then .ok [.p (.tuple ds)] ρ2 else .no
    | none => .no).eo) σ H Q) : tTup (aOf G W fs) σ H Q :=
  (seq_s (mk := fun ds => .p (.tuple ds)) h).mono fun vs H1 ⟨H02, ds, sm, rp, hl, o⟩ => ⟨by rw [rp.length, size_eq]; exact hl, fun p n => o.newT sm rp p n⟩
theorem lst_s {fs : Env → R} (h : tOf G W (fun ρ => ((fs ρ).bA fun ts ρ1 => match sealAll ts ρ1 with
    | some (ds, ρ2) => if ds.length ≤ 16777216 then .ok [.f (.list ds)] ρ2 else .no
    | none => .no).eo) σ H Q) : tLst (aOf G W fs) σ H Q :=
  (seq_s (mk := fun ds => .f (.list ds)) h).mono fun vs H1 ⟨H02, ds, sm, rp, hl, o⟩ => ⟨by rw [rp.length, size_eq]; exact hl, fun p n => o.newL sm rp p n⟩
theorem var_s {i : Nat} (h : tOf G W (fun ρ => (match ρ[i]? with
    | some (.pu d) => R.ok [.p d] ρ
    | some (.ow _) => .ok [.s i] ρ
    | some (.le _) => .ok [.s i] ρ
    | _ => .no).eo) σ H Q) : tVar i σ H Q := by
  obtain ⟨H0, ρ, re, k⟩ := h
  cases e : ρ[i]? with
  | none => simp only [e] at k; exact False.elim k
  | some c =>
    obtain ⟨ov, e1, sl⟩ := re.slot i c e
    cases c with
    | un => simp only [e] at k; exact False.elim k
    | pu d =>
      simp only [e] at k
      cases ov with
      | none => exact False.elim sl
      | some v => exact ⟨v, e1, k v H0 H re .refl sl trivial⟩
    | ow d =>
      simp only [e] at k
      obtain ⟨a, d', rfl, _, _, _⟩ := sl.cases_own rfl
      exact ⟨_, e1, k _ H0 H re .refl ⟨e1, _, e, nofun⟩ trivial⟩
    | le d =>
      simp only [e] at k
      obtain ⟨a, d', rfl, _, _, _⟩ := sl.cases_own rfl
      exact ⟨_, e1, k _ H0 H re .refl ⟨e1, _, e, nofun⟩ trivial⟩
theorem cst_s {v : V} {d : D} (r : ∀ H0, Rp G H0 v d) (h : tOf G W (fun ρ => (R.ok [.p d] ρ).eo) σ H Q) : tC v σ H Q := by
  obtain ⟨H0, ρ, re, k⟩ := h
  exact k v H0 H re .refl (r H0) trivial
/-- a slice's end, in front of the rest -/
theorem slc_s {fa fl fh : Env → R} {l0 h0 : Bool} {tl th : TO} (hl : tl = if l0 = true then tNoPart else tPart (tOf G W fun ρ => (fl ρ).eo)) (hh : th = if h0 = true then tNoPart else tPart (tOf G W fun ρ => (fh ρ).eo))
    (h : tOf G W (fun ρ => ((fa ρ).b1 fun t ρ1 => R.part l0 (fl ρ1) (fun l ρ2 => if (t.val ρ2).isSome = true then R.part h0 (fh ρ2) (fun h ρ3 => op1 (fun d => slcD d l h) t ρ3) ρ2 else .no) ρ1).eo) σ H Q) : tSl (rS G slcD) (tOf G W fun ρ => (fa ρ).eo) tl th σ H Q := by
  have opv : ∀ {t : T} {ρ : Env} {l h : Option Int}, (op1 (fun d => slcD d l h) t ρ).eo ≠ .no → ∃ d, t.val ρ = some d := by
    intro t ρ l h hn
    unfold op1 at hn
    cases e : t.val ρ with
    | none => rw [e] at hn; exact absurd rfl hn
    | some d => exact ⟨d, rfl⟩
  -- the end
  have fin : ∀ {σ : St} {ρ ρ1 : Env} {H0 H H01 H1 : Hp} {v : V} {t : T} {l h : Option Int}, RE G H01 H1 σ ρ1 → Step σ ρ H0 H σ ρ1 H01 H1 → RT G H01 H1 σ ρ1 v t → kOf G W (op1 (fun d => slcD d l h) t ρ1).eo σ ρ H0 H Q → rS G slcD v l h H1 Q := by
    intro σ ρ ρ1 H0 H H01 H1 v t l h re st rt k
    unfold op1 at k
    cases e : t.val ρ1 with
    | none => rw [e] at k; exact False.elim k
    | some d =>
      rw [e] at k
      simp only [give_eo] at k
      cases e2 : slcD d l h with
      | none => rw [e2] at k; exact False.elim k
      | some t' => rw [e2] at k; exact ⟨H01, d, t', re.sub, rt.rv re e, e2, vout_of (v := v) re st k⟩
  -- the upper end
  have up : ∀ {σ : St} {ρ ρ1 : Env} {H0 H H01 H1 : Hp} {v : V} {t : T} {l : Option Int}, RE G H01 H1 σ ρ1 → Step σ ρ H0 H σ ρ1 H01 H1 → RT G H01 H1 σ ρ1 v t →
      kOf G W (R.part h0 (fh ρ1) (fun h ρ3 => op1 (fun d => slcD d l h) t ρ3) ρ1).eo σ ρ H0 H Q → th σ H1 fun u H3 => rS G slcD v l u H3 Q := by
    intro σ ρ ρ1 H0 H H01 H1 v t l re st rt k
    subst hh
    cases h0 with
    | true => exact fin re st rt k
    | false =>
      simp only [R.part] at k
      replace k := kOf.step st k
      rw [eo_b1] at k
      refine ⟨H01, ρ1, re, ?_⟩
      show kOf G W (fh ρ1).eo σ ρ1 H01 H1 _
      cases q : (fh ρ1).eo with
      | no => rw [q] at k; exact k
      | ex e ρ' => rw [q] at k; exact k
      | ok t2 ρ2 =>
        rw [q] at k
        intro v2 H02 H2 re2 st2 rt2 fr2
        cases e : (t2.val ρ2).bind intOf with
        | none => simp only [e] at k; exact False.elim k
        | some j =>
          simp only [e] at k
          obtain ⟨d, hd, hj⟩ := Option.bind_eq_some_iff.mp e
          cases d with
          | int j' =>
            cases hj
            have hn : (op1 (fun d => slcD d l (some j)) t ρ2).eo ≠ .no := fun z => by rw [z] at k; exact k
            obtain ⟨d, hv⟩ := opv hn
            exact ⟨j, (rt2.rv re2 hd).int, fin re2 st2 (rt.step st2 (KeepT.of hv)) k⟩
          | _ => exact nomatch hj
  refine one_s (fun ρ H0 t ρ1 v H01 H1 re re1 st rt fr k => ?_) h
  subst hl
  cases l0 with
  | true =>
    replace k : kOf G W (if (t.val ρ1).isSome = true then R.part h0 (fh ρ1) (fun h ρ3 => op1 (fun d => slcD d none h) t ρ3) ρ1 else .no).eo σ ρ H0 H Q := k
    split at k
    · exact up re1 st rt k
    · exact False.elim k
  | false =>
    simp only [R.part] at k
    replace k := kOf.step st k
    rw [eo_b1] at k
    refine ⟨H01, ρ1, re1, ?_⟩
    show kOf G W (fl ρ1).eo σ ρ1 H01 H1 _
    cases q : (fl ρ1).eo with
    | no => rw [q] at k; exact k
    | ex e ρ' => rw [q] at k; exact k
    | ok t2 ρ2 =>
      rw [q] at k
      intro v2 H02 H2 re2 st2 rt2 fr2
      cases e : (t2.val ρ2).bind intOf with
      | none => simp only [e] at k; exact False.elim k
      | some j =>
        simp only [e] at k
        obtain ⟨d, hd, hj⟩ := Option.bind_eq_some_iff.mp e
        cases d with
        | int j' =>
          cases hj
          refine ⟨j, (rt2.rv re2 hd).int, ?_⟩
          split at k
          · rename_i hs
            obtain ⟨dv, hv⟩ := Option.isSome_iff_exists.mp hs
            exact up re2 st2 (rt.step st2 (KeepT.of hv)) k
          · exact False.elim k
        | _ => exact nomatch hj
end
end RL

namespace RL
open PySem PySem.Spec L2
theorem prim_blt : ∀ k : Prim, primN k ∈ blts := by intro k; cases k <;> decide +kernel
theorem primV_boot : ∀ k : Prim, bootBuiltins (primN k) = some (primV k) := by intro k; cases k <;> decide +kernel
theorem primV_is : ∀ k : Prim, (∃ id, primV k = .builtin id) ∨ (∃ t, primV k = .type t) := by intro k; cases k <;> first | exact .inl ⟨_, rfl⟩ | exact .inr ⟨_, rfl⟩
section
variable {X : Cx} {W : WX} {c : Cfg} {Γ : Nat → Option Fn} {lvl : Nat → Nat}
structure Cl (Γ : Nat → Option Fn) (lvl : Nat → Nat) (c : Cfg) (X : Cx) (W : WX) (p : P) : Prop where
  pe : ∀ e, chk Γ lvl c false p [e] = true → PE X e (tOf (gp X) W fun ρ => (den Γ p ρ).eo)
  pt : ∀ e, chk Γ lvl c false p [e] = true → tsB e = true → PT X e (tTest (tOf (gp X) W fun ρ => (den Γ p ρ).eo))
  pw : ∀ op es pos, chk Γ lvl c false p [.BoolOp op es pos] = true → PW X (.BoolOp op es pos) (tTest (tOf (gp X) W fun ρ => (den Γ p ρ).eo))
  pa : p.isL = true → ∀ es, chk Γ lvl c true p es = true → PA X es (aOf (gp X) W (den Γ p))
theorem gl_of (cx : CxOk X W c) {x : Str} (h : glB c x = true) : Gl X x ∧ x ≠ ("__name__" : Str) ∧ (x == ("__debug__" : Str)) = false := by
  simp only [glB, Bool.and_eq_true, beq_iff_eq, Bool.not_eq_true'] at h
  refine ⟨?_, fun z => ?_, h.1.2⟩
  · show X.env.scope.names.lookup x = _
    rw [cx.sc]; exact h.1.1
  · have := h.2
    rw [z] at this
    exact absurd this (by decide)
theorem vis_of (cx : CxOk X W c) {x : Str} (h : visB c x = true) : Vis X.env.scope x ∧ (x == ("__debug__" : Str)) = false ∧ (x == ("__classdict__" : Str)) = false := by
  simp only [visB, Bool.and_eq_true, Bool.or_eq_true, beq_iff_eq, Bool.not_eq_true', kindB] at h
  refine ⟨?_, h.1.2, h.2⟩
  rw [cx.sc]
  rcases h.1.1 with (a | a) | a
  · exact .inl a
  · exact .inr (.inl a)
  · exact .inr (.inr a)
theorem tO_mono {f : Env → EO} {σ : St} {H : Hp} {Q Q' : VK} (h : tOf (gp X) W f σ H Q) (i : ∀ v H', Q v H' → Q' v H') : tOf (gp X) W f σ H Q' := h.mono i
theorem cl_plain {p : P} (h : ∀ e, chk Γ lvl c false p [e] = true → PE X e (tOf (gp X) W fun ρ => (den Γ p ρ).eo)) (ht : ∀ e, chk Γ lvl c false p [e] = true → (∀ env whole, isTrue e env whole = (do let v ← whole; standAt e.pos; holding [v] (truthy v))))
    (nb : ∀ op es pos, chk Γ lvl c false p [.BoolOp op es pos] = false) (nl : p.isL = false) : Cl Γ lvl c X W p :=
  ⟨h, fun e k _ => pt_ts (h e k) (ht e k X.env), fun op es pos k => (by rw [nb] at k; cases k), fun k => (by rw [nl] at k; cases k)⟩
theorem cl_dead {p : P} (h : ∀ m es, chk Γ lvl c m p es = false) : Cl Γ lvl c X W p :=
  ⟨fun e k => by rw [h] at k; (cases k), fun e k => by rw [h] at k; (cases k), fun _ _ _ k => by rw [h] at k; (cases k), fun _ es k => by rw [h] at k; (cases k)⟩

theorem cl_var (cx : CxOk X W c) (i : Nat) : Cl Γ lvl c X W (.var i) := by
  refine cl_plain (fun e k => ?_) (fun e k => ?_) (fun _ _ _ => rfl) rfl
  · simp only [chk] at k
    split at k
    · rename_i x _ heq
      cases heq
      simp only [Bool.and_eq_true, beq_iff_eq] at k
      obtain ⟨v1, v2, v3⟩ := vis_of cx k.2
      exact PE.imp (pe_var (by rw [cx.N]; exact k.1) v1 v2 v3) fun σ H Q h => var_s h
    · cases k
  · simp only [chk] at k
    split at k
    · rename_i x _ heq
      cases heq
      exact fun _ _ => rfl
    · cases k
theorem dct_s {z : Bool} {σ : St} {H : Hp} {Q : VK} (h : tOf (gp X) W (fun ρ => (R.ok [.f (.dict (dctD z))] ρ).eo) σ H Q) : tDct X z σ H Q := by
  obtain ⟨H0, ρ, re, k⟩ := h
  have o : VOut (gp X) H0 H (.f (.dict (dctD z))) Q := vout_of (v := .non) re .refl k
  intro p n hs
  refine o _ H0 _ ⟨Same.refl _, Same.upd n, re.sub.trans (Same.upd n), fun a h h0 => h0⟩ ⟨p, rfl, n, re.sub.free n, hs, dctE X.w z, upd_same, ?_⟩
  cases z with
  | false => exact .nil
  | true => exact .cons rfl rfl (.int 0) (.int 0) .nil
theorem cl_dct (z : Bool) : Cl Γ lvl c X W (.dct z) := by
  refine cl_plain (fun e k => ?_) (fun e k => ?_) (fun _ _ _ => rfl) rfl
  · simp only [chk] at k
    split at k
    · rename_i ks vs _ heq
      cases heq
      unfold dctB at k
      split at k
      · exact PE.imp pe_dct0 fun σ H Q h => dct_s h
      · exact PE.imp pe_dct1 fun σ H Q h => dct_s h
      · cases k
    · cases k
  · simp only [chk] at k
    split at k
    · rename_i heq
      cases heq
      exact fun _ _ => rfl
    · cases k
theorem cl_cst (d : D) : Cl Γ lvl c X W (.cst d) := by
  refine cl_plain (fun e k => ?_) (fun e k => ?_) (fun _ _ _ => rfl) rfl
  · simp only [chk] at k
    split at k
    · rename_i q _ _ heq
      cases heq
      cases q <;> cases d <;> simp only [constB] at k <;> first | (cases k; done) | skip
      · exact PE.imp pe_non fun σ H Q h => cst_s (fun _ => .non) h
      · rw [beq_iff_eq] at k; subst k
        exact PE.imp pe_bl fun σ H Q h => cst_s (fun _ => .bl _) h
      · rw [beq_iff_eq] at k; subst k
        exact PE.imp pe_int fun σ H Q h => cst_s (fun _ => .int _) h
      · rw [beq_iff_eq] at k; subst k
        exact PE.imp pe_str fun σ H Q h => cst_s (fun _ => .str _) h
    · cases k
  · simp only [chk] at k
    split at k
    · rename_i q _ _ heq
      cases heq
      exact fun _ _ => rfl
    · cases k
theorem cl_glo (cx : CxOk X W c) (fx : Fx (gp X) X.base Γ lvl c.consts c.kt) (x : Str) (z : Int) : Cl Γ lvl c X W (.glo x z) := by
  refine cl_plain (fun e k => ?_) (fun e k => ?_) (fun _ _ _ => rfl) rfl
  · simp only [chk] at k
    split at k
    · rename_i y _ heq
      cases heq
      simp only [Bool.and_eq_true, beq_iff_eq] at k
      obtain ⟨rfl, _⟩ := k.1
      obtain ⟨g1, g2, g3⟩ := gl_of cx k.1.2
      obtain ⟨t, ht⟩ := fx.glo (x, z) (List.contains_iff_mem.mp k.2)
      exact PE.imp (pe_glob (v := .int z) g1 ht ⟨t, rfl⟩ g3) fun σ H Q h => cst_s (fun _ => .int _) h
    · cases k
  · simp only [chk] at k
    split at k
    · rename_i q _ heq
      cases heq
      exact fun _ _ => rfl
    · cases k
theorem cl_bin (op : Operator) {a b : P} (ca : Cl Γ lvl c X W a) (cb : Cl Γ lvl c X W b) : Cl Γ lvl c X W (.bin op a b) := by
  refine cl_plain (fun e k => ?_) (fun e k => ?_) (fun _ _ _ => rfl) rfl
  · simp only [chk] at k
    split at k
    · rename_i l o r _ heq
      cases heq
      simp only [Bool.and_eq_true, beq_iff_eq] at k
      obtain ⟨⟨rfl, ka⟩, kb⟩ := k
      exact PE.imp (pe_op (op_bin _) (ca.pe _ ka) (cb.pe _ kb)) fun σ H Q h => op2_s h
    · cases k
  · simp only [chk] at k
    split at k
    · rename_i l o r _ heq
      cases heq
      exact fun _ _ => rfl
    · cases k
theorem cl_neg {a : P} (ca : Cl Γ lvl c X W a) : Cl Γ lvl c X W (.neg a) := by
  refine cl_plain (fun e k => ?_) (fun e k => ?_) (fun _ _ _ => rfl) rfl
  · simp only [chk] at k
    split at k
    · rename_i e _ heq
      cases heq
      exact PE.imp (pe_un un_neg (ca.pe _ k)) fun σ H Q h => neg_s h
    · cases k
  · simp only [chk] at k
    split at k
    · rename_i e _ heq
      cases heq
      exact fun _ _ => rfl
    · cases k
theorem cl_cmp (cx : CxOk X W c) (op : CmpOp) {a b : P} (ca : Cl Γ lvl c X W a) (cb : Cl Γ lvl c X W b) : Cl Γ lvl c X W (.cmp op a b) := by
  have hu : X.A.units + 65 < cLine := by have := cx.room.un; omega
  have inv : ∀ e, chk Γ lvl c false (.cmp op a b) [e] = true → ∃ l r pos, e = .Compare l [op] [r] pos ∧ chk Γ lvl c false a [l] = true ∧ chk Γ lvl c false b [r] = true ∧ behindInMarks op r = false := by
    intro e k
    simp only [chk] at k
    split at k
    · rename_i l o r _ heq
      cases heq
      simp only [Bool.and_eq_true, beq_iff_eq, Bool.not_eq_true'] at k
      obtain ⟨⟨⟨rfl, ka⟩, kb⟩, km⟩ := k
      exact ⟨_, _, _, rfl, ka, kb, km⟩
    · cases k
  refine ⟨fun e k => ?_, fun e k _ => ?_, fun _ _ _ k => ?_, fun k => ?_⟩
  · obtain ⟨l, r, pos, rfl, ka, kb, km⟩ := inv e k
    exact PE.imp (pe_cmpR (op_eqC hu op) (ca.pe _ ka) (cb.pe _ kb) km) fun σ H Q h => cmp_s h
  · obtain ⟨l, r, pos, rfl, ka, kb, km⟩ := inv e k
    exact PT.imp (pt_cmpR (op_eqC hu op) (ca.pe _ ka) (cb.pe _ kb) km) fun σ H Q h => cmp_s h
  · cases k
  · cases k
theorem cl_chn (cx : CxOk X W c) (op op' : CmpOp) {a b d : P} (ca : Cl Γ lvl c X W a) (cb : Cl Γ lvl c X W b) (cd : Cl Γ lvl c X W d) : Cl Γ lvl c X W (.chn op op' a b d) := by
  have hu : X.A.units + 65 < cLine := by have := cx.room.un; omega
  have inv : ∀ e, chk Γ lvl c false (.chn op op' a b d) [e] = true → ∃ l r q pos, e = .Compare l [op, op'] [r, q] pos ∧ chk Γ lvl c false a [l] = true ∧ chk Γ lvl c false b [r] = true ∧ chk Γ lvl c false d [q] = true ∧ lastMarks [op, op'] [r, q] = false := by
    intro e k
    simp only [chk] at k
    split at k
    · rename_i l o o' r q _ heq
      cases heq
      simp only [Bool.and_eq_true, beq_iff_eq, Bool.not_eq_true'] at k
      obtain ⟨⟨⟨⟨⟨rfl, rfl⟩, ka⟩, kb⟩, kd⟩, km⟩ := k
      exact ⟨_, _, _, _, rfl, ka, kb, kd, km⟩
    · cases k
  refine ⟨fun e k => ?_, fun e k _ => ?_, fun _ _ _ k => ?_, fun k => ?_⟩
  · obtain ⟨l, r, q, pos, rfl, ka, kb, kd, km⟩ := inv e k
    exact PE.imp (pe_chain (op_eqC hu op) (op_eqC hu op') (ca.pe _ ka) (cb.pe _ kb) (cd.pe _ kd) km) fun σ H Q h => chn_s h
  · obtain ⟨l, r, q, pos, rfl, ka, kb, kd, km⟩ := inv e k
    exact PT.imp (pt_chain (op_eqC hu op) (op_eqC hu op') (ca.pe _ ka) (cb.pe _ kb) (cd.pe _ kd) km) fun σ H Q h => chn_s h
  · cases k
  · cases k
theorem cl_and {a b : P} (ca : Cl Γ lvl c X W a) (cb : Cl Γ lvl c X W b) : Cl Γ lvl c X W (.and a b) := by
  have inv : ∀ e, chk Γ lvl c false (.and a b) [e] = true → ∃ x y rest pos, e = .BoolOp .And (x :: y :: rest) pos ∧ tsB x = true ∧ chk Γ lvl c false a [x] = true ∧ ((rest = [] ∧ tsB y = true ∧ chk Γ lvl c false b [y] = true) ∨ chk Γ lvl c false b [.BoolOp .And (y :: rest) pos] = true) := by
    intro e k
    simp only [chk] at k
    split at k
    · rename_i x y pos heq
      cases heq
      simp only [Bool.and_eq_true] at k
      exact ⟨x, y, [], pos, rfl, k.1.1.1, k.1.2, .inl ⟨rfl, k.1.1.2, k.2⟩⟩
    · rename_i x y z rest pos heq
      cases heq
      simp only [Bool.and_eq_true] at k
      exact ⟨x, y, z :: rest, pos, rfl, k.1.1, k.1.2, .inr k.2⟩
    · cases k
  have pe : ∀ e, chk Γ lvl c false (.and a b) [e] = true → PE X e (tOf (gp X) W fun ρ => (den Γ (.and a b) ρ).eo) := by
    intro e k
    obtain ⟨x, y, rest, pos, rfl, tx, kx, ky⟩ := inv e k
    rcases ky with ⟨rfl, ty, ky⟩ | ky
    · exact PE.imp (pe_and (ca.pe _ kx) (pe_one (cb.pe _ ky))) fun σ H Q h => and_s h
    · exact PE.imp (pe_and (ca.pe _ kx) (cb.pe _ ky)) fun σ H Q h => and_s h
  have pw : ∀ e, chk Γ lvl c false (.and a b) [e] = true → PW X e (tTest (tOf (gp X) W fun ρ => (den Γ (.and a b) ρ).eo)) := by
    intro e k
    obtain ⟨x, y, rest, pos, rfl, tx, kx, ky⟩ := inv e k
    have hw : PW X (.BoolOp .And (y :: rest) pos) (tTest (tOf (gp X) W fun ρ => (den Γ b ρ).eo)) := by
      rcases ky with ⟨rfl, ty, ky⟩ | ky
      · exact pw_and1 (cb.pt _ ky ty)
      · exact cb.pw _ _ _ ky
    refine ⟨fun wh pins s σ H Q I h => (pw_and (ca.pt _ kx tx) hw).run wh pins s σ H Q I ?_⟩
    refine tO_mono (and_s h) fun v H1 ⟨b, e, q⟩ => ⟨b, e, ?_⟩
    cases b with
    | true => exact q
    | false => obtain ⟨k', e', q'⟩ := q; cases e'; exact q'
  exact ⟨pe, fun e k _ => (pw e k).pt, fun op es pos k => pw _ k, nofun⟩
theorem cl_or {a b : P} (ca : Cl Γ lvl c X W a) (cb : Cl Γ lvl c X W b) : Cl Γ lvl c X W (.or a b) := by
  have inv : ∀ e, chk Γ lvl c false (.or a b) [e] = true → ∃ x y rest pos, e = .BoolOp .Or (x :: y :: rest) pos ∧ tsB x = true ∧ chk Γ lvl c false a [x] = true ∧ ((rest = [] ∧ tsB y = true ∧ chk Γ lvl c false b [y] = true) ∨ chk Γ lvl c false b [.BoolOp .Or (y :: rest) pos] = true) := by
    intro e k
    simp only [chk] at k
    split at k
    · rename_i x y pos heq
      cases heq
      simp only [Bool.and_eq_true] at k
      exact ⟨x, y, [], pos, rfl, k.1.1.1, k.1.2, .inl ⟨rfl, k.1.1.2, k.2⟩⟩
    · rename_i x y z rest pos heq
      cases heq
      simp only [Bool.and_eq_true] at k
      exact ⟨x, y, z :: rest, pos, rfl, k.1.1, k.1.2, .inr k.2⟩
    · cases k
  have pe : ∀ e, chk Γ lvl c false (.or a b) [e] = true → PE X e (tOf (gp X) W fun ρ => (den Γ (.or a b) ρ).eo) := by
    intro e k
    obtain ⟨x, y, rest, pos, rfl, tx, kx, ky⟩ := inv e k
    rcases ky with ⟨rfl, ty, ky⟩ | ky
    · exact PE.imp (pe_or (ca.pe _ kx) (pe_one (cb.pe _ ky))) fun σ H Q h => or_s h
    · exact PE.imp (pe_or (ca.pe _ kx) (cb.pe _ ky)) fun σ H Q h => or_s h
  have pw : ∀ e, chk Γ lvl c false (.or a b) [e] = true → PW X e (tTest (tOf (gp X) W fun ρ => (den Γ (.or a b) ρ).eo)) := by
    intro e k
    obtain ⟨x, y, rest, pos, rfl, tx, kx, ky⟩ := inv e k
    have hw : PW X (.BoolOp .Or (y :: rest) pos) (tTest (tOf (gp X) W fun ρ => (den Γ b ρ).eo)) := by
      rcases ky with ⟨rfl, ty, ky⟩ | ky
      · exact pw_or1 (cb.pt _ ky ty)
      · exact cb.pw _ _ _ ky
    refine ⟨fun wh pins s σ H Q I h => (pw_or (ca.pt _ kx tx) hw).run wh pins s σ H Q I ?_⟩
    refine tO_mono (or_s h) fun v H1 ⟨b, e, q⟩ => ⟨b, e, ?_⟩
    cases b with
    | false => exact q
    | true => obtain ⟨k', e', q'⟩ := q; cases e'; exact q'
  exact ⟨pe, fun e k _ => (pw e k).pt, fun op es pos k => pw _ k, nofun⟩
theorem cl_not {a : P} (ca : Cl Γ lvl c X W a) : Cl Γ lvl c X W (.not a) := by
  have inv : ∀ e, chk Γ lvl c false (.not a) [e] = true → ∃ x pos, e = .UnaryOp .Not x pos ∧ tsB x = true ∧ chk Γ lvl c false a [x] = true := by
    intro e k
    simp only [chk] at k
    split at k
    · rename_i x pos heq
      cases heq
      rw [Bool.and_eq_true] at k
      exact ⟨_, _, rfl, k.1, k.2⟩
    · cases k
  refine ⟨fun e k => ?_, fun e k _ => ?_, fun _ _ _ k => ?_, fun k => ?_⟩
  · obtain ⟨x, pos, rfl, tx, kx⟩ := inv e k
    exact PE.imp (pe_not (ca.pe _ kx)) fun σ H Q h => not_s h
  · obtain ⟨x, pos, rfl, tx, kx⟩ := inv e k
    refine PT.imp (pt_not (ca.pt _ kx tx)) fun σ H Q h => tO_mono (not_s h) fun v H1 ⟨b, e, k', e', q⟩ => ⟨b, e, ?_⟩
    cases e'; exact q
  · cases k
  · cases k
theorem cl_ite {k a b : P} (ck : Cl Γ lvl c X W k) (ca : Cl Γ lvl c X W a) (cb : Cl Γ lvl c X W b) : Cl Γ lvl c X W (.ite k a b) := by
  have inv : ∀ e, chk Γ lvl c false (.ite k a b) [e] = true → ∃ x y z pos, e = .IfExp x y z pos ∧ tsB x = true ∧ chk Γ lvl c false k [x] = true ∧ chk Γ lvl c false a [y] = true ∧ chk Γ lvl c false b [z] = true := by
    intro e k
    simp only [chk] at k
    split at k
    · rename_i x y z pos heq
      cases heq
      simp only [Bool.and_eq_true] at k
      exact ⟨_, _, _, _, rfl, k.1.1.1, k.1.1.2, k.1.2, k.2⟩
    · cases k
  refine ⟨fun e k => ?_, fun e k ht => ?_, fun _ _ _ k => ?_, fun k => ?_⟩
  · obtain ⟨x, y, z, pos, rfl, tx, kx, ky, kz⟩ := inv e k
    exact PE.imp (pe_ifExp (ck.pt _ kx tx) (ca.pe _ ky) (cb.pe _ kz)) fun σ H Q h => ite_s h
  · obtain ⟨x, y, z, pos, rfl, tx, kx, ky, kz⟩ := inv e k
    cases ht
  · cases k
  · cases k
end
end RL

namespace RL
open PySem PySem.Spec L2
section
variable {X : Cx} {W : WX} {c : Cfg} {Γ : Nat → Option Fn} {lvl : Nat → Nat}
theorem cl_tup {as : P} (ca : Cl Γ lvl c X W as) : Cl Γ lvl c X W (.tup as) := by
  refine cl_plain (fun e k => ?_) (fun e k => ?_) (fun _ _ _ => rfl) rfl
  · simp only [chk] at k
    split at k
    · rename_i es _ _ heq
      cases heq
      rw [Bool.and_eq_true] at k
      exact PE.imp (pe_tup (ca.pa k.1 _ k.2)) fun σ H Q h => tup_s h
    · cases k
  · simp only [chk] at k
    split at k
    · rename_i heq
      cases heq
      exact fun _ _ => rfl
    · cases k
theorem cl_lst {as : P} (ca : Cl Γ lvl c X W as) : Cl Γ lvl c X W (.lst as) := by
  refine cl_plain (fun e k => ?_) (fun e k => ?_) (fun _ _ _ => rfl) rfl
  · simp only [chk] at k
    split at k
    · rename_i es _ heq
      cases heq
      rw [Bool.and_eq_true] at k
      exact PE.imp (pe_lst (ca.pa k.1 _ k.2)) fun σ H Q h => lst_s h
    · cases k
  · simp only [chk] at k
    split at k
    · rename_i heq
      cases heq
      exact fun _ _ => rfl
    · cases k
theorem cl_nil : Cl Γ lvl c X W .nil := by
  refine ⟨fun e k => ?_, fun e k _ => ?_, fun _ _ _ k => ?_, fun _ es k => ?_⟩
  · cases k
  · cases k
  · cases k
  · simp only [chk] at k
    split at k
    · exact PA.imp pa_nil fun σ H Q h => args_nil_s h
    · cases k
theorem cl_cons {a as : P} (ca : Cl Γ lvl c X W a) (cs : Cl Γ lvl c X W as) : Cl Γ lvl c X W (.cons a as) := by
  have inv : ∀ es, chk Γ lvl c true (.cons a as) es = true → ∃ x xs, es = x :: xs ∧ notStar x = true ∧ chk Γ lvl c false a [x] = true ∧ as.isL = true ∧ chk Γ lvl c true as xs = true := by
    intro es k
    simp only [chk] at k
    split at k
    · simp only [Bool.and_eq_true] at k
      exact ⟨_, _, rfl, k.1.1.1.2, k.1.1.2, k.1.2, k.2⟩
    · cases k
  have pa : ∀ es, chk Γ lvl c true (.cons a as) es = true → PA X es (aOf (gp X) W (den Γ (.cons a as))) := by
    intro es k
    obtain ⟨x, xs, rfl, ns, kx, kl, ks⟩ := inv es k
    exact PA.imp (pa_cons (ca.pe _ kx) (cs.pa kl _ ks) (starE ns)) fun σ H Q h => args_cons_s h
  refine ⟨fun e k => ?_, fun e k ht => ?_, fun op es pos k => ?_, fun _ es k => pa es k⟩
  · simp only [chk, Bool.false_and] at k
    cases k
  · simp only [chk, Bool.false_and] at k
    cases k
  · simp only [chk, Bool.false_and] at k
    cases k
theorem cl_idx {a i : P} (ca : Cl Γ lvl c X W a) (ci : Cl Γ lvl c X W i) : Cl Γ lvl c X W (.idx a i) := by
  refine cl_plain (fun e k => ?_) (fun e k => ?_) (fun _ _ _ => rfl) rfl
  · simp only [chk] at k
    split at k
    · rename_i x y pos heq
      cases heq
      simp only [Bool.and_eq_true] at k
      have hp : PlainIx y := by
        have := k.1.1
        cases y <;> first | exact fun _ _ => rfl | cases this
      exact PE.imp (pe_ix ix_D (ca.pe _ k.1.2) (ci.pe _ k.2) hp) fun σ H Q h => op2_s h
    · cases k
  · simp only [chk] at k
    split at k
    · rename_i heq
      cases heq
      exact fun _ _ => rfl
    · cases k
theorem cl_slc {a lo hi : P} (ca : Cl Γ lvl c X W a) (cl : Cl Γ lvl c X W lo) (ch : Cl Γ lvl c X W hi) : Cl Γ lvl c X W (.slc a lo hi) := by
  refine cl_plain (fun e k => ?_) (fun e k => ?_) (fun _ _ _ => rfl) rfl
  · simp only [chk] at k
    split at k
    · rename_i x lo' hi' p2 pos heq
      cases heq
      simp only [Bool.and_eq_true] at k
      have hl : PO X lo' (if lo.isNil = true then tNoPart else tPart (tOf (gp X) W fun ρ => (den Γ lo ρ).eo)) := by
        have q := k.1.2
        cases lo' with
        | none => simp only at q; rw [if_pos q]; exact po_none
        | some e =>
          simp only [Bool.and_eq_true, Bool.not_eq_true'] at q
          rw [q.1]
          exact po_some (cl.pe _ q.2)
      have hh : PO X hi' (if hi.isNil = true then tNoPart else tPart (tOf (gp X) W fun ρ => (den Γ hi ρ).eo)) := by
        have q := k.2
        cases hi' with
        | none => simp only at q; rw [if_pos q]; exact po_none
        | some e =>
          simp only [Bool.and_eq_true, Bool.not_eq_true'] at q
          rw [q.1]
          exact po_some (ch.pe _ q.2)
      exact PE.imp (pe_slice sl_D (ca.pe _ k.1.1) hl hh) fun σ H Q h => slc_s rfl rfl h
    · cases k
  · simp only [chk] at k
    split at k
    · rename_i heq
      cases heq
      exact fun _ _ => rfl
    · cases k
theorem cl_prim (cx : CxOk X W c) (fx : Fx (gp X) X.base Γ lvl c.consts c.kt) (k : Prim) {as : P} (ca : Cl Γ lvl c X W as) : Cl Γ lvl c X W (.prim k as) := by
  refine cl_plain (fun e h => ?_) (fun e h => ?_) (fun _ _ _ => rfl) rfl
  · simp only [chk] at h
    split at h
    · rename_i x _ e es _ heq
      cases heq
      simp only [Bool.and_eq_true, beq_iff_eq] at h
      obtain ⟨⟨⟨⟨rfl, hg⟩, hl⟩, hs⟩, hk⟩ := h
      obtain ⟨g1, g2, g3⟩ := gl_of cx hg
      have pa := ca.pa hl _ hk
      have hm := fx.blt _ (prim_blt k)
      have hb := primV_boot k
      have cr := cr_prim cx.calm k
      have hs2 := hs
      rw [List.all_cons, Bool.and_eq_true] at hs2
      have key : ∀ p pos, PE X (.Call (.Name (primN k) p) (e :: es) [] pos) (tCB (rF (gp X) (primD k)) (aOf (gp X) W (den Γ as))) := by
        intro p pos
        rcases primV_is k with ⟨id, e1⟩ | ⟨t, e1⟩
        · rw [e1] at hb cr
          exact pe_callB cr g1 hm hb pa g2 g3 (starE hs2.1) (noStar hs2.2)
        · rw [e1] at hb cr
          exact pe_callTy cr g1 hm hb pa g2 g3 (starE hs2.1) (noStar hs2.2)
      exact PE.imp (key _ _) fun σ H Q h => opN_s h
    · cases h
  · simp only [chk] at h
    split at h
    · rename_i heq
      cases heq
      exact fun _ _ => rfl
    · cases h
theorem cl_isa (cx : CxOk X W c) (fx : Fx (gp X) X.base Γ lvl c.consts c.kt) (ty : String) {a : P} (ca : Cl Γ lvl c X W a) : Cl Γ lvl c X W (.isa ty a) := by
  refine cl_plain (fun e h => ?_) (fun e h => ?_) (fun _ _ _ => rfl) rfl
  · simp only [chk] at h
    split at h
    · rename_i x _ e y _ _ heq
      cases heq
      simp only [Bool.and_eq_true, beq_iff_eq, tyB] at h
      obtain ⟨⟨⟨⟨⟨rfl, hg⟩, ⟨rfl, hT⟩⟩, hgy⟩, hs⟩, hk⟩ := h
      have hT := List.contains_iff_mem.mp hT
      obtain ⟨g1, g2, g3⟩ := gl_of cx hg
      obtain ⟨y1, y2, y3⟩ := gl_of cx hgy
      have py := fun pos => pe_bltn (X := X) (pos := pos) (v := .ty ty) y1 (fx.blt _ (ty_blt ty hT)) (boot_ty ty hT) rfl y2 y3
      have pa := fun pos => pa_cons (ca.pe _ hk) (pa_cons (py pos) pa_nil rfl) (starE hs)
      exact PE.imp (pe_callB (cr_isa ty) g1 (fx.blt _ (by decide +kernel)) PyProof.Rows.boot_isinstance (pa _) g2 g3 (starE hs) (noStar rfl)) fun σ H Q h => (op1_s (fun v H1 r => ⟨v, rfl, r⟩) h)
    · cases h
  · simp only [chk] at h
    split at h
    · rename_i heq
      cases heq
      exact fun _ _ => rfl
    · cases h
theorem cl_lset (cx : CxOk X W c) (fx : Fx (gp X) X.base Γ lvl c.consts c.kt) {a : P} (ca : Cl Γ lvl c X W a) : Cl Γ lvl c X W (.lset a) := by
  have hu : X.A.units + 20 < cLine := by have := cx.room.un; omega
  refine cl_plain (fun e h => ?_) (fun e h => ?_) (fun _ _ _ => rfl) rfl
  · simp only [chk] at h
    split at h
    · rename_i heq
      cases heq
      simp only [Bool.and_eq_true, beq_iff_eq] at h
      obtain ⟨⟨⟨⟨⟨rfl, hg⟩, rfl⟩, hgy⟩, hs⟩, hk⟩ := h
      exact PE.imp (pe_lset cx.calm hu (gl_of cx hg).1 (fx.blt _ (by decide +kernel)) (gl_of cx hgy).1 (fx.blt _ (by decide +kernel)) (ca.pe _ hk) (starE hs)) fun σ H Q h => op1_s (fun v H1 r => r) h
    · cases h
  · simp only [chk] at h
    split at h
    · rename_i heq
      cases heq
      exact fun _ _ => rfl
    · cases h
theorem cl_mxd (cx : CxOk X W c) (fx : Fx (gp X) X.base Γ lvl c.consts c.kt) {a d : P} (ca : Cl Γ lvl c X W a) (cd : Cl Γ lvl c X W d) : Cl Γ lvl c X W (.mxd a d) := by
  refine cl_plain (fun e h => ?_) (fun e h => ?_) (fun _ _ _ => rfl) rfl
  · simp only [chk] at h
    split at h
    · rename_i x _ e nm v _ _ heq
      cases heq
      simp only [Bool.and_eq_true, beq_iff_eq] at h
      obtain ⟨⟨⟨⟨⟨rfl, hg⟩, hn⟩, rfl⟩, ha⟩, hd⟩ := h
      refine PE.imp (pe_callBK (crk_mxd cx.calm) (gl_of cx hg).1 (fx.blt _ (by decide +kernel)) (by decide +kernel) (pa_cons (ca.pe _ ha) pa_nil (starE hn)) (pk_cons (cd.pe _ hd) pk_nil) (by decide +kernel) (by decide +kernel) (congrArg (fun z => backTo _ z) (starE hn)) (noStar (es := [e]) (by simp [hn])) rfl rfl rfl) fun σ H Q q => ?_
      have q2 := op2_s q
      refine tO_mono q2 fun x1 H1 q3 => ?_
      exact tO_mono q3 fun y1 H2 q4 => ⟨x1, y1, rfl, rfl, q4⟩
    · cases h
  · simp only [chk] at h
    split at h
    · rename_i heq
      cases heq
      exact fun _ _ => rfl
    · cases h
theorem cl_call (cx : CxOk X W c) (fx : Fx (gp X) X.base Γ lvl c.consts c.kt) (k : Nat) {as : P} (ca : Cl Γ lvl c X W as) : Cl Γ lvl c X W (.call k as) := by
  refine cl_plain (fun e h => ?_) (fun e h => ?_) (fun _ _ _ => rfl) rfl
  · simp only [chk] at h
    split at h
    · rename_i x _ e es _ heq
      cases heq
      simp only [Bool.and_eq_true] at h
      obtain ⟨⟨⟨⟨h1, hg⟩, hl⟩, hs⟩, hk⟩ := h
      cases hΓ : Γ k with
      | none => rw [hΓ] at h1; cases h1
      | some g =>
        rw [hΓ] at h1
        simp only [Bool.and_eq_true, beq_iff_eq, decide_eq_true_eq] at h1
        obtain ⟨rfl, hlv⟩ := h1
        obtain ⟨f, fd, ps, m1, m2, m3, m4⟩ := (fx.fns k g hΓ).ex
        obtain ⟨g1, g2, g3⟩ := gl_of cx hg
        have hs2 := hs
        rw [List.all_cons, Bool.and_eq_true] at hs2
        refine PE.imp (pe_callS m3 (cx.room.mono hlv) g1 m1 m2 m4 (fun σ => passAt cx.takes σ) (ca.pa hl _ hk) g3 (starE hs2.1) (noStar hs2.2)) fun σ H Q h => ?_
        have h' : tOf (gp X) W (fun ρ => ((den Γ as ρ).bA fun ts ρ1 => callX g ts ρ1).eo) σ H Q := by
          have : (fun ρ => (den Γ (.call k as) ρ).eo) = fun ρ => ((den Γ as ρ).bA fun ts ρ1 => callX g ts ρ1).eo := by
            funext ρ
            simp only [den, hΓ]
          rw [← this]; exact h
        exact callX_s h'
    · cases h
  · simp only [chk] at h
    split at h
    · rename_i heq
      cases heq
      exact fun _ _ => rfl
    · cases h
end
end RL

namespace RL
open PySem PySem.Spec L2
section
variable {G : Gp} {W : WX} {σ σ' : St} {ρ ρ' ρ1 ρ2 : Env} {H0 H H01 H1 H02 H2 H0' H' : Hp} {Q : VK}
/-! states with some slots wiped -/
theorem wipeE_length (ρ : Env) : ∀ vs : List Nat, (wipeE ρ vs).length = ρ.length
  | [] => rfl
  | v :: vs => by unfold wipeE; rw [List.length_set, wipeE_length ρ vs]
theorem wipeE_in {i : Nat} : ∀ {vs : List Nat}, i ∈ vs → i < ρ.length → (wipeE ρ vs)[i]? = some .un
  | [], h, _ => by cases h
  | v :: vs, h, hl => by
    unfold wipeE
    by_cases e : v = i
    · subst e; rw [List.getElem?_set_self (by rw [wipeE_length]; exact hl)]
    · rw [List.getElem?_set_ne e]
      rcases List.mem_cons.mp h with z | z
      · exact absurd z.symm e
      · exact wipeE_in z hl
theorem wipeE_out {i : Nat} : ∀ {vs : List Nat}, i ∉ vs → (wipeE ρ vs)[i]? = ρ[i]?
  | [], _ => rfl
  | v :: vs, h => by
    simp only [List.mem_cons, not_or] at h
    unfold wipeE
    rw [List.getElem?_set_ne (fun z => h.1 z.symm)]
    exact wipeE_out h.2
theorem wipe_in {i : Nat} : ∀ {vs : List Nat}, i ∈ vs → i < σ.length → (wipe σ vs)[i]? = some none
  | [], h, _ => by cases h
  | v :: vs, h, hl => by
    unfold wipe
    by_cases e : v = i
    · subst e; rw [List.getElem?_set_self (by rw [wipe_length]; exact hl)]
    · rw [List.getElem?_set_ne e]
      rcases List.mem_cons.mp h with z | z
      · exact absurd z.symm e
      · exact wipe_in z hl
theorem wipe_out {i : Nat} : ∀ {vs : List Nat}, i ∉ vs → (wipe σ vs)[i]? = σ[i]?
  | [], _ => rfl
  | v :: vs, h => by
    simp only [List.mem_cons, not_or] at h
    unfold wipe
    rw [List.getElem?_set_ne (fun z => h.1 z.symm)]
    exact wipe_out h.2
theorem restore_length (ρ0 ρ : Env) : ∀ vs : List Nat, (restore ρ0 ρ vs).length = ρ.length
  | [] => rfl
  | v :: vs => by unfold restore; rw [List.length_set, restore_length ρ0 ρ vs]
theorem restore_in {ρ0 : Env} {i : Nat} : ∀ {vs : List Nat}, i ∈ vs → i < ρ.length → (restore ρ0 ρ vs)[i]? = some (ρ0[i]?.getD .un)
  | [], h, _ => by cases h
  | v :: vs, h, hl => by
    unfold restore
    by_cases e : v = i
    · subst e; rw [List.getElem?_set_self (by rw [restore_length]; exact hl)]
    · rw [List.getElem?_set_ne e]
      rcases List.mem_cons.mp h with z | z
      · exact absurd z.symm e
      · exact restore_in z hl
theorem restore_out {ρ0 : Env} {i : Nat} : ∀ {vs : List Nat}, i ∉ vs → (restore ρ0 ρ vs)[i]? = ρ[i]?
  | [], _ => rfl
  | v :: vs, h => by
    simp only [List.mem_cons, not_or] at h
    unfold restore
    rw [List.getElem?_set_ne (fun z => h.1 z.symm)]
    exact restore_out h.2
theorem ext_get {α : Type} {l m : List α} (h : ∀ i : Nat, l[i]? = m[i]?) : l = m := List.ext_getElem? h
theorem wipe_eq {vs : List Nat} (hl : σ'.length = σ.length) (h : ∀ i, i ∉ vs → σ'[i]? = σ[i]?) : wipe σ' vs = wipe σ vs := by
  refine ext_get fun i => ?_
  by_cases hi : i ∈ vs
  · by_cases hb : i < σ.length
    · rw [wipe_in hi (by rw [hl]; exact hb), wipe_in hi hb]
    · rw [List.getElem?_eq_none (by rw [wipe_length]; omega), List.getElem?_eq_none (by rw [wipe_length]; omega)]
  · rw [wipe_out hi, wipe_out hi]; exact h i hi
theorem ownAt_wipe {vs : List Nat} {i : Nat} {a : Addr} (h : OwnAt (wipe σ vs) (wipeE ρ vs) i a) : OwnAt σ ρ i a ∧ i ∉ vs := by
  obtain ⟨e, c, ec, o⟩ := h
  have hi : i ∉ vs := fun z => by
    have := (wipe_some e).2
    exact this z
  rw [wipe_out hi] at e
  rw [wipeE_out hi] at ec
  exact ⟨⟨e, c, ec, o⟩, hi⟩
theorem RE.wipe (vs : List Nat) (re : RE G H0 H σ ρ) : RE G H0 H (L2.wipe σ vs) (wipeE ρ vs) := by
  refine ⟨re.sub, by rw [wipe_length, wipeE_length]; exact re.len, fun i c e => ?_, fun i j a h1 h2 => re.apart i j a (ownAt_wipe h1).1 (ownAt_wipe h2).1⟩
  by_cases hi : i ∈ vs
  · have hb : i < ρ.length := by rw [← wipeE_length ρ vs]; exact (List.getElem?_eq_some_iff.mp e).1
    rw [wipeE_in hi hb] at e
    cases e
    exact ⟨none, wipe_in hi (by rw [re.len]; exact hb), trivial⟩
  · rw [wipeE_out hi] at e
    obtain ⟨ov, e1, s⟩ := re.slot i c e
    exact ⟨ov, by rw [wipe_out hi]; exact e1, s⟩
theorem Step.wipe (vs : List Nat) : Step σ ρ H0 H (L2.wipe σ vs) (wipeE ρ vs) H0 H :=
  ⟨Same.refl _, fun _ _ h _ => h, fun _ _ h _ => h, fun a ⟨i, h⟩ => .inl ⟨i, (ownAt_wipe h).1⟩, fun _ h => h⟩
theorem ownAt_restore {vs : List Nat} {i : Nat} {a : Addr} (hl : ρ'.length = ρ1.length) (h : OwnAt σ (restore ρ1 ρ' vs) i a) : (i ∈ vs ∧ OwnAt σ ρ1 i a) ∨ (i ∉ vs ∧ OwnAt (L2.wipe σ vs) ρ' i a) := by
  obtain ⟨e, c, ec, o⟩ := h
  by_cases hi : i ∈ vs
  · have hb : i < ρ'.length := by rw [← restore_length ρ1 ρ' vs]; exact (List.getElem?_eq_some_iff.mp ec).1
    rw [restore_in hi hb] at ec
    have hb1 : i < ρ1.length := by rw [← hl]; exact hb
    rw [List.getElem?_eq_getElem hb1] at ec
    cases ec
    exact .inl ⟨hi, e, _, List.getElem?_eq_getElem hb1, o⟩
  · rw [restore_out hi] at ec
    exact .inr ⟨hi, by rw [wipe_out hi]; exact e, c, ec, o⟩
/-- behind a block: the block's own slots as before -/
theorem RE.restore {vs : List Nat} (re1 : RE G H01 H1 σ ρ1) (re : RE G H0' H' (L2.wipe σ vs) ρ') (st : Step (L2.wipe σ vs) (wipeE ρ1 vs) H01 H1 (L2.wipe σ vs) ρ' H0' H') :
    RE G H0' H' σ (RL.restore ρ1 ρ' vs) ∧ Step σ ρ1 H01 H1 σ (RL.restore ρ1 ρ' vs) H0' H' ∧ ∀ b, Own σ (RL.restore ρ1 ρ' vs) b → Own σ ρ1 b ∨ Own (L2.wipe σ vs) ρ' b := by
  have hl : ρ'.length = ρ1.length := by
    have := re.len
    rw [wipe_length, re1.len] at this
    exact this.symm
  have ownW : ∀ b, Own (L2.wipe σ vs) (wipeE ρ1 vs) b → ∃ j, j ∉ vs ∧ OwnAt σ ρ1 j b := fun b ⟨j, h⟩ => ⟨j, (ownAt_wipe h).2, (ownAt_wipe h).1⟩
  have hid : ∀ i a, i ∈ vs → OwnAt σ ρ1 i a → ¬ Own (L2.wipe σ vs) (wipeE ρ1 vs) a := fun i a hi h z => by
    obtain ⟨j, hj, hb⟩ := ownW a z
    exact hj (re1.apart i j a h hb ▸ hi)
  have got : ∀ i a, OwnAt σ ρ1 i a → (H1 a).isSome = true := fun i a h => by
    obtain ⟨_, d, to⟩ := re1.own_at ⟨i, h⟩
    obtain ⟨o, eo, _⟩ := to.some
    rw [eo]; rfl
  refine ⟨⟨re.sub, by rw [restore_length, hl]; exact re1.len, fun i c e => ?_, fun i j a h1 h2 => ?_⟩, ⟨st.g0, fun a h h0 n => st.na a h h0 fun z => n (let ⟨j, _, hb⟩ := ownW a z; ⟨j, hb⟩), fun a o h n => st.fr a o h fun z => n (let ⟨j, _, hb⟩ := ownW a z; ⟨j, hb⟩), fun a ⟨i, h⟩ => ?_, st.dom⟩, fun b ⟨i, h⟩ => ?_⟩
  · by_cases hi : i ∈ vs
    · have hb : i < ρ'.length := by rw [← restore_length ρ1 ρ' vs]; exact (List.getElem?_eq_some_iff.mp e).1
      rw [restore_in hi hb] at e
      have hb1 : i < ρ1.length := by rw [← hl]; exact hb
      rw [List.getElem?_eq_getElem hb1] at e
      cases e
      obtain ⟨ov, e1, s⟩ := re1.slot i _ (List.getElem?_eq_getElem hb1)
      refine ⟨ov, e1, ?_⟩
      by_cases o : (ρ1[i]).own = true
      · obtain ⟨a, d, rfl, hv, h0, to⟩ := s.cases_own o
        have hat : OwnAt σ ρ1 i a := ⟨e1, _, List.getElem?_eq_getElem hb1, o⟩
        have hn := hid i a hi hat
        have h0' := st.na a (got i a hat) h0 hn
        have to' : TopO G H0' H' a d := to.mono st.g0 fun o e => st.fr a o e hn
        cases hc : ρ1[i] with
        | ow x => rw [hc] at hv; cases hv; exact ⟨h0', to'⟩
        | le x => rw [hc] at hv; cases hv; exact ⟨h0', to'⟩
        | un => rw [hc] at o; cases o
        | pu x => rw [hc] at o; cases o
      · cases hc : ρ1[i] with
        | un => cases ov <;> trivial
        | pu d =>
          show SlotR G H0' H' ov (Cell.pu d)
          rw [hc] at s
          cases ov with
          | none => exact False.elim s
          | some v => exact Rp.mono st.g0 s
        | ow x => rw [hc] at o; exact absurd rfl o
        | le x => rw [hc] at o; exact absurd rfl o
    · rw [restore_out hi] at e
      obtain ⟨ov, e1, s⟩ := re.slot i c e
      rw [wipe_out hi] at e1
      exact ⟨ov, e1, s⟩
  · rcases ownAt_restore hl h1 with ⟨i1, o1⟩ | ⟨i1, o1⟩ <;> rcases ownAt_restore hl h2 with ⟨j1, o2⟩ | ⟨j1, o2⟩
    · exact re1.apart i j a o1 o2
    · rcases st.on a ⟨j, o2⟩ with z | z
      · exact absurd z (hid i a i1 o1)
      · have := got i a o1
        rw [z] at this; cases this
    · rcases st.on a ⟨i, o1⟩ with z | z
      · exact absurd z (hid j a j1 o2)
      · have := got j a o2
        rw [z] at this; cases this
    · exact re.apart i j a o1 o2
  · rcases ownAt_restore hl h with ⟨_, o1⟩ | ⟨_, o1⟩
    · exact .inl ⟨i, o1⟩
    · rcases st.on a ⟨i, o1⟩ with z | z
      · obtain ⟨j, _, hb⟩ := ownW a z; exact .inl ⟨j, hb⟩
      · exact .inr z
  · rcases ownAt_restore hl h with ⟨_, o1⟩ | ⟨_, o1⟩
    · exact .inl ⟨i, o1⟩
    · exact .inr ⟨i, o1⟩

/-! stores -/
theorem ownAt_setv {i j : Nat} {v : V} {d : D} {a : Addr} (h : OwnAt (σ.set i (some v)) (ρ.set i (.pu d)) j a) : OwnAt σ ρ j a ∧ j ≠ i := by
  obtain ⟨e, c, ec, o⟩ := h
  by_cases hj : i = j
  · subst hj
    rw [List.getElem?_set] at ec
    split at ec
    · split at ec
      · cases ec; cases o
      · cases ec
    · rename_i z; exact absurd rfl z
  · rw [List.getElem?_set_ne hj] at ec e
    exact ⟨⟨e, c, ec, o⟩, fun z => hj z.symm⟩
theorem RE.setPu {i : Nat} {v : V} {d : D} (re : RE G H0 H σ ρ) (r : Rp G H0 v d) : RE G H0 H (σ.set i (some v)) (ρ.set i (.pu d)) := by
  refine ⟨re.sub, by rw [List.length_set, List.length_set]; exact re.len, fun j c e => ?_, fun j k a h1 h2 => re.apart j k a (ownAt_setv h1).1 (ownAt_setv h2).1⟩
  by_cases hj : i = j
  · subst hj
    have hb : i < ρ.length := by
      have := (List.getElem?_eq_some_iff.mp e).1
      rwa [List.length_set] at this
    rw [List.getElem?_set_self hb] at e
    cases e
    exact ⟨some v, List.getElem?_set_self (by rw [re.len]; exact hb), r⟩
  · rw [List.getElem?_set_ne hj] at e
    obtain ⟨ov, e1, s⟩ := re.slot j c e
    exact ⟨ov, by rw [List.getElem?_set_ne hj]; exact e1, s⟩
theorem Step.setPu {i : Nat} {v : V} {d : D} : Step σ ρ H0 H (σ.set i (some v)) (ρ.set i (.pu d)) H0 H :=
  ⟨Same.refl _, fun _ _ h _ => h, fun _ _ h _ => h, fun a ⟨j, h⟩ => .inl ⟨j, (ownAt_setv h).1⟩, fun _ h => h⟩
end
/-- a target bound -/
def gAft (G : Gp) (t : Tg) (ρ ρ' : Env) (σ : St) (H0 H : Hp) (Q : St → Hp → Prop) : Prop := ∀ σ', RE G H0 H σ' ρ' → σ'.length = σ.length → (∀ i, i ∉ t.slots → σ'[i]? = σ[i]?) → Step σ ρ H0 H σ' ρ' H0 H → Q σ' H
def gOf (G : Gp) (t : Tg) : TG := fun v σ H Q => ∃ H0 ρ d ρ', RE G H0 H σ ρ ∧ Rp G H0 v d ∧ t.bind d ρ = some ρ' ∧ gAft G t ρ ρ' σ H0 H Q
def gsOf (G : Gp) (t : Tg) : TGs := fun vs σ H Q => ∃ H0 ρ ds ρ', RE G H0 H σ ρ ∧ Rps G H0 vs ds ∧ t.bind (.tuple ds) ρ = some ρ' ∧ gAft G t ρ ρ' σ H0 H Q
theorem PG.imp {X : Cx} {e : Expr} {t t' : TG} (h : PG X e t) (i : ∀ v σ H Q, t' v σ H Q → t v σ H Q) : PG X e t' := ⟨fun pins s σ H v u Q I r q => h.run pins s σ H v u Q I r (i v σ H Q q)⟩
theorem PGs.imp {X : Cx} {e : List Expr} {t t' : TGs} (h : PGs X e t) (i : ∀ v σ H Q, t' v σ H Q → t v σ H Q) : PGs X e t' := ⟨fun pins s σ H v u Q I r q => h.run pins s σ H v u Q I r (i v σ H Q q)⟩
theorem asgE {e : Expr} {es : List Expr} {env : PySem.Env} (h : notStar e = true) : assignEach (e :: es) env = (false, assign e env) :: assignEach es env := by
  cases e <;> first | rfl | cases h
section
variable {X : Cx} {W : WX} {c : Cfg}
theorem chkT_len : ∀ {t : Tg} {es : List Expr} {ds : List D} {ρ ρ' : Env}, t.isL = true → chkT c t es = true → t.bind (.tuple ds) ρ = some ρ' → ds.length = es.length ∧ (assignEach es X.env).length = es.length ∧ (assignEach es X.env).findIdx? (·.1) = none
  | .nm i, _, _, _, _, h, _, _ => by cases h
  | .tp ts, _, _, _, _, h, _, _ => by cases h
  | .nil, es, ds, ρ, ρ', _, k, b => by
    cases es with
    | nil =>
      cases ds with
      | nil => exact ⟨rfl, rfl, rfl⟩
      | cons d ds => cases b
    | cons e es => cases k
  | .cons a t, es, ds, ρ, ρ', _, k, b => by
    cases es with
    | nil => cases k
    | cons e es =>
      simp only [chkT, Bool.and_eq_true] at k
      cases ds with
      | nil => cases b
      | cons d ds =>
        simp only [Tg.bind] at b
        obtain ⟨ρ1, b1, b2⟩ := Option.bind_eq_some_iff.mp b
        obtain ⟨h1, h2, h3⟩ := chkT_len k.1.2 k.2 b2
        rw [asgE k.1.1.1.1, List.length_cons, List.length_cons, List.length_cons, h1, h2]
        refine ⟨rfl, rfl, ?_⟩
        rw [List.findIdx?_cons, h3]; rfl
theorem pg_s (cx : CxOk X W c) : ∀ (t : Tg), (∀ e, t.isP e = true → chkT c t [e] = true → PG X e (gOf (gp X) t)) ∧ (t.isL = true → ∀ es, chkT c t es = true → PGs X es (gsOf (gp X) t))
  | .nm i => by
    refine ⟨fun e hp k => ?_, nofun⟩
    cases e with
    | Name x pos =>
      simp only [chkT, Bool.and_eq_true, beq_iff_eq] at k
      have hN : X.N[i]? = some x := by rw [cx.N]; exact k.1
      have hloc : L2.Loc X.env.scope x := by
        have := k.2
        simp only [locB, kindB, Bool.or_eq_true, Bool.and_eq_true, beq_iff_eq] at this
        unfold L2.Loc
        rw [cx.sc]
        rcases this with z | ⟨z, _⟩
        · exact .inl z
        · exact .inr z
      have hf : X.fn x = true ∨ X.env.scope.names.lookup x = some .local := by
        have := k.2
        simp only [locB, kindB, Bool.or_eq_true, Bool.and_eq_true, beq_iff_eq] at this
        rw [cx.sc, cx.fn]
        rcases this with z | ⟨_, z⟩
        · exact .inr z
        · exact .inl z
      refine PG.imp (pg_name cx.nd hN hloc hf) fun v σ H Q ⟨H0, ρ, d, ρ', re, rp, b, q⟩ => ?_
      simp only [Tg.bind] at b
      split at b
      · rename_i hi
        cases b
        exact q _ (re.setPu rp) (by rw [List.length_set]) (fun j hj => List.getElem?_set_ne fun z => hj (by simp [Tg.slots, z])) .setPu
      · cases b
    | _ => cases hp
  | .nil => by
    refine ⟨fun e hp => (by cases hp), fun _ es k => ?_⟩
    cases es with
    | nil =>
      refine PGs.imp pgs_nil fun vs σ H Q ⟨H0, ρ, ds, ρ', re, rp, b, q⟩ => ?_
      cases rp with
      | nil => cases b; exact ⟨rfl, q σ re rfl (fun _ _ => rfl) .refl⟩
      | cons => cases b
    | cons => cases k
  | .cons a t => by
    refine ⟨fun e hp => (by cases hp), fun _ es k => ?_⟩
    cases es with
    | nil => cases k
    | cons e es =>
      simp only [chkT, Bool.and_eq_true] at k
      obtain ⟨⟨⟨⟨k1, k2⟩, k3⟩, k4⟩, k5⟩ := k
      refine PGs.imp (pgs_cons ((pg_s cx a).1 e k2 k3) ((pg_s cx t).2 k4 es k5) (by rw [asgE k1]; rfl)) fun vs σ H Q ⟨H0, ρ, ds, ρ', re, rp, b, q⟩ => ?_
      cases rp with
      | nil => cases b
      | @cons v vs d ds r rs =>
        simp only [Tg.bind] at b
        obtain ⟨ρ1, b1, b2⟩ := Option.bind_eq_some_iff.mp b
        refine ⟨v, vs, rfl, H0, ρ, d, ρ1, re, r, b1, fun σ1 re1 l1 o1 s1 => ⟨H0, ρ1, ds, ρ', re1, rs, b2, fun σ2 re2 l2 o2 s2 => ?_⟩⟩
        refine q σ2 re2 (l2.trans l1) (fun i hi => ?_) (s1.trans s2)
        simp only [Tg.slots, List.mem_append, not_or] at hi
        rw [o2 i hi.2, o1 i hi.1]
  | .tp ts => by
    refine ⟨fun e hp k => ?_, nofun⟩
    cases e with
    | Tuple es kk pos =>
      simp only [chkT, Bool.and_eq_true] at k
      -- the length, once a run stands
      refine ⟨fun pins s σ H v u Q I r h => ?_⟩
      obtain ⟨H0, ρ, d, ρ', re, rp, b, q⟩ := h
      cases d with
      | tuple ds =>
        simp only [Tg.bind] at b
        obtain ⟨l1, l2, l3⟩ := chkT_len (X := X) k.1 k.2 b
        cases rp with
        | tup hs hr =>
          refine (pg_tup cx.calm ((pg_s cx ts).2 k.1 es k.2) l2 l3).run pins s σ H _ u Q I r ⟨_, _, rfl, SqT.mono re.sub hs, by rw [hr.length, l1], H0, ρ, ds, ρ', re, hr, b, q⟩
      | _ => cases b
    | _ => cases hp
end
end RL

namespace RL
open PySem PySem.Spec L2
/-- a walk over data -/
def ItR (G : Gp) (H0 : Hp) (J : It) (ds : List D) : Prop := ∀ (i : Nat) (H0' H' : Hp), Same H0 H0' → Same H0' H' →
  (i < ds.length → J.go i H' ∧ ∀ x H'', J.yld i H' x H'' → ∃ H0'' d, ds[i]? = some d ∧ Ext H0' H' H0'' H'' ∧ Rp G H0'' x d) ∧ (i = ds.length → J.stop i H')
def kI (G : Gp) (W : WX) (o : EO) (σ : St) (ρ : Env) (H0 H : Hp) (R : It → Hp → Prop) : Prop :=
  match o with
  | .ok (.p (.list ds)) ρ' => ∀ J H0' H', RE G H0' H' σ ρ' → Step σ ρ H0 H σ ρ' H0' H' → ItR G H0' J ds → R J H'
  | .ok _ _ => False
  | .ex e ρ' => ∀ cls d H0' H', RE G H0' H' σ ρ' → Step σ ρ H0 H σ ρ' H0' H' → ExR G H0' H' e cls d → W cls d σ H'
  | .no => False
def iOf (G : Gp) (W : WX) (f : Env → EO) : TI := fun σ H R => ∃ H0 ρ, RE G H0 H σ ρ ∧ kI G W (f ρ) σ ρ H0 H R
theorem PI.imp {X : Cx} {tg e : Expr} {t t' : TI} (h : PI X tg e t) (i : ∀ σ H Q, t' σ H Q → t σ H Q) : PI X tg e t' := ⟨fun pins s σ H Q I q => h.run pins s σ H Q I (i σ H Q q)⟩
section
variable {G : Gp} {W : WX} {σ σ' : St} {ρ ρ' ρ1 ρ2 : Env} {H0 H H01 H1 H02 H2 H0' H' : Hp} {Q : VK}
theorem ItR.list {a : Addr} {xs : List V} {ds : List D} (h : SqL G.K H0 a xs) (r : Rps G H0 xs ds) : ItR G H0 (Itl G.K a) ds := by
  intro i H0' H' s1 s2
  have hq : SqL G.K H' a xs := SqL.mono (s1.trans s2) h
  refine ⟨fun hi => ⟨?_, fun x H'' y => ?_⟩, fun hi => ⟨xs, hq, by rw [r.length]; omega⟩⟩
  · obtain ⟨v, hv, _⟩ := r.get (List.getElem?_eq_getElem hi)
    exact ⟨xs, v, hq, hv⟩
  · obtain ⟨rfl, y⟩ := y
    obtain ⟨v, hv, rv⟩ := r.get (List.getElem?_eq_getElem hi)
    have := y xs hq
    rw [hv] at this; cases this
    exact ⟨H0', ds[i], List.getElem?_eq_getElem hi, .refl s2, rv.mono s1⟩
theorem ItR.tup {a : Addr} {xs : List V} {ds : List D} (h : SqT G.K H0 a xs) (r : Rps G H0 xs ds) : ItR G H0 (Itt G.K a) ds := by
  intro i H0' H' s1 s2
  have hq : SqT G.K H' a xs := SqT.mono (s1.trans s2) h
  refine ⟨fun hi => ⟨?_, fun x H'' y => ?_⟩, fun hi => ⟨xs, hq, by rw [r.length]; omega⟩⟩
  · obtain ⟨v, hv, _⟩ := r.get (List.getElem?_eq_getElem hi)
    exact ⟨xs, v, hq, hv⟩
  · obtain ⟨rfl, y⟩ := y
    obtain ⟨v, hv, rv⟩ := r.get (List.getElem?_eq_getElem hi)
    have := y xs hq
    rw [hv] at this; cases this
    exact ⟨H0', ds[i], List.getElem?_eq_getElem hi, .refl s2, rv.mono s1⟩
theorem rangeD_len (i j : Int) : (rangeD i j).length = (j - i).toNat := by simp [rangeD]
theorem rangeD_get {i j : Int} {k : Nat} (h : k < (j - i).toNat) : (rangeD i j)[k]? = some (.int (i + k)) := by
  simp [rangeD, List.getElem?_map, List.getElem?_range h]
theorem ItR.rng (i j : Int) : ItR G H0 (Itr i (j - i).toNat) (rangeD i j) := by
  intro k H0' H' s1 s2
  rw [rangeD_len]
  refine ⟨fun hi => ⟨hi, fun x H'' y => ?_⟩, fun hi => Nat.le_of_eq hi.symm⟩
  obtain ⟨rfl, rfl⟩ := y
  exact ⟨H0', _, rangeD_get hi, .refl s2, .int _⟩
theorem eo_sealR {r : R} {f : D → Option T} : (sealR r f).eo = match r.eo with
    | .ok t ρ => (match t.seal ρ with | some (d, ρ1) => (match f d with | some t' => EO.ok t' ρ1 | none => .no) | none => .no)
    | .ex e ρ => .ex e ρ
    | .no => .no := by
  unfold sealR
  rw [eo_b1]
  cases r.eo with
  | ok t ρ =>
    simp only
    cases t.seal ρ with
    | none => rfl
    | some q => obtain ⟨d, ρ1⟩ := q; simp only [give_eo] <;> cases f d <;> rfl
  | _ => rfl
end
section
variable {X : Cx} {W : WX} {σ : St} {ρ ρ' ρ1 ρ2 : Env} {H0 H H01 H1 : Hp}
theorem pi_itr {tg e : Expr} {fa : Env → R} (ha : PE X e (tOf (gp X) W fun ρ => (fa ρ).eo)) : PI X tg e (iOf (gp X) W fun ρ => (sealR (fa ρ) itrD).eo) := by
  refine ⟨fun pins s σ H R I h => ?_⟩
  obtain ⟨H0, ρ, re, k⟩ := h
  replace k : kI (gp X) W (sealR (fa ρ) itrD).eo σ ρ H0 H R := k
  rw [eo_sealR] at k
  cases e1 : (fa ρ).eo with
  | no => rw [e1] at k; exact False.elim k
  | ex e ρ' =>
    rw [e1] at k
    refine (pi_list ha).run pins s σ H R I ⟨H0, ρ, re, ?_⟩
    show kOf (gp X) W (fa ρ).eo σ ρ H0 H _
    rw [e1]; exact k
  | ok t ρ1 =>
    rw [e1] at k
    cases e2 : t.seal ρ1 with
    | none => simp only [e2] at k; exact False.elim k
    | some q =>
      obtain ⟨d, ρ2⟩ := q
      simp only [e2] at k
      cases d with
      | list ds =>
        refine (pi_list ha).run pins s σ H R I ⟨H0, ρ, re, ?_⟩
        show kOf (gp X) W (fa ρ).eo σ ρ H0 H _
        rw [e1]
        intro v H01 H1 re1 st1 rt1 fr1
        obtain ⟨H02, re2, st2, rp, sm, _⟩ := seal_s re1 st1 rt1.w fr1 e2
        cases rp with
        | lst hs hr => exact ⟨_, rfl, ⟨_, SqL.mono re2.sub hs⟩, k _ H02 H1 re2 st2 (.list hs hr)⟩
      | tuple ds =>
        refine (pi_tup ha).run pins s σ H R I ⟨H0, ρ, re, ?_⟩
        show kOf (gp X) W (fa ρ).eo σ ρ H0 H _
        rw [e1]
        intro v H01 H1 re1 st1 rt1 fr1
        obtain ⟨H02, re2, st2, rp, sm, _⟩ := seal_s re1 st1 rt1.w fr1 e2
        cases rp with
        | tup hs hr => exact ⟨_, rfl, ⟨_, SqT.mono re2.sub hs⟩, k _ H02 H1 re2 st2 (.tup hs hr)⟩
      | _ => exact False.elim k
theorem rng_args {fs : Env → R} {R' : It → Hp → Prop} (h : iOf (gp X) W (fun ρ => ((fs ρ).bA (opN rngD)).eo) σ H R') :
    aOf (gp X) W fs σ H fun vs H1 => ∃ i j : Int, (∃ ρ0 ts ρ', fs ρ0 = .ok ts ρ' ∧ vs.length = ts.length) ∧ (vs = [.int j] ∧ i = 0 ∨ vs = [.int i, .int j]) ∧ (-(2 ^ 62) ≤ i ∧ i < 2 ^ 62 ∧ -(2 ^ 62) ≤ j ∧ j < 2 ^ 62) ∧ R' (Itr i (j - i).toNat) H1 := by
  obtain ⟨H0, ρ, re, k⟩ := h
  refine ⟨H0, ρ, re, ?_⟩
  replace k : kI (gp X) W ((fs ρ).bA (opN rngD)).eo σ ρ H0 H R' := k
  rw [eo_bA] at k
  cases e1 : fs ρ with
  | no => rw [e1] at k; exact k
  | ex e ρ' => rw [e1] at k; exact k
  | ok ts ρ1 =>
    rw [e1] at k
    intro vs H01 H1 re1 st1 rts frs
    replace k : kI (gp X) W (opN rngD ts ρ1).eo σ ρ H0 H R' := k
    unfold opN at k
    cases e2 : vals ts ρ1 with
    | none => rw [e2] at k; exact False.elim k
    | some ds =>
      rw [e2] at k
      simp only [give_eo] at k
      have rv := vals_rv re1 rts e2
      cases e3 : rngD ds with
      | none => rw [e3] at k; exact False.elim k
      | some t' =>
        rw [e3] at k
        rcases ds with _ | ⟨d, _ | ⟨d2, _ | ⟨d3, ds⟩⟩⟩
        · cases e3
        · cases d <;> simp only [rngD] at e3 <;> first | (cases e3; done) | skip
          rename_i j
          split at e3
          · rename_i hj
            cases e3
            obtain ⟨v, rfl, r1⟩ := paired1 rv
            cases r1.int
            have h2 : (2 : Int) ^ 24 < 2 ^ 62 := by decide
            exact ⟨0, j, ⟨_, _, _, e1, Paired.length rts⟩, .inl ⟨rfl, rfl⟩, ⟨by decide, by decide, hj.1, by omega⟩, k _ H01 H1 re1 st1 (ItR.rng 0 j)⟩
          · cases e3
        · cases d <;> cases d2 <;> simp only [rngD] at e3 <;> first | (cases e3; done) | skip
          rename_i i j
          split at e3
          · rename_i hj
            cases e3
            obtain ⟨v, u, rfl, r1, r2⟩ := paired2 rv
            cases r1.int
            cases r2.int
            exact ⟨i, j, ⟨_, _, _, e1, Paired.length rts⟩, .inr rfl, ⟨hj.1, hj.2.1, hj.2.2.1, hj.2.2.2.1⟩, k _ H01 H1 re1 st1 (ItR.rng i j)⟩
          · cases e3
        · cases d <;> cases d2 <;> simp only [rngD] at e3 <;> cases e3
theorem pi_rng1 {tg e1 : Expr} {p pos : Pos} {fs : Env → R} (hg : Gl X "range") (hm : X.mg "range" = none) (ha : PA X [e1] (aOf (gp X) W fs)) (n1 : notStar e1 = true) (hl : ∀ ρ ts ρ', fs ρ = .ok ts ρ' → ts.length = 1) :
    PI X tg (.Call (.Name "range" p) [e1] [] pos) (iOf (gp X) W fun ρ => ((fs ρ).bA (opN rngD)).eo) := by
  refine PI.imp (pi_range1 hg hm ha (starE n1)) fun σ H R h => ?_
  refine aOf.mono (rng_args h) fun vs H1 ⟨i, j, ⟨r0, ts, r1, e1, ln⟩, e, b, q⟩ => ?_
  rcases e with ⟨rfl, rfl⟩ | rfl
  · exact ⟨j, rfl, b.2.2.1, b.2.2.2, by simpa using q⟩
  · rw [hl _ _ _ e1] at ln; cases ln
theorem pi_rng2 {tg e1 e2 : Expr} {p pos : Pos} {fs : Env → R} (hg : Gl X "range") (hm : X.mg "range" = none) (ha : PA X [e1, e2] (aOf (gp X) W fs)) (n1 : notStar e1 = true) (n2 : notStar e2 = true) (hl : ∀ ρ ts ρ', fs ρ = .ok ts ρ' → ts.length = 2) :
    PI X tg (.Call (.Name "range" p) [e1, e2] [] pos) (iOf (gp X) W fun ρ => ((fs ρ).bA (opN rngD)).eo) := by
  refine PI.imp (pi_range2 hg hm ha (by rw [starE n1, starE n2]; rfl) (by rw [starE n2]; rfl)) fun σ H R h => ?_
  refine aOf.mono (rng_args h) fun vs H1 ⟨i, j, ⟨r0, ts, r1, e1, ln⟩, e, b, q⟩ => ?_
  rcases e with ⟨rfl, rfl⟩ | rfl
  · rw [hl _ _ _ e1] at ln; cases ln
  · exact ⟨i, j, rfl, b, q⟩
theorem len_nil {Γ : Nat → Option Fn} {ρ : Env} {ts : List T} {ρ' : Env} (h : den Γ .nil ρ = .ok ts ρ') : ts.length = 0 := by
  simp only [den] at h
  cases h; rfl
theorem len_cons {Γ : Nat → Option Fn} {a as : P} {n : Nat} (hn : ∀ ρ ts ρ', den Γ as ρ = .ok ts ρ' → ts.length = n) {ρ : Env} {ts : List T} {ρ' : Env} (h : den Γ (.cons a as) ρ = .ok ts ρ') : ts.length = n + 1 := by
  simp only [den] at h
  cases e1 : den Γ a ρ with
  | no => rw [e1] at h; cases h
  | ex e ρ1 => rw [e1] at h; cases h
  | ok us ρ1 =>
    rw [e1] at h
    rcases us with _ | ⟨t, _ | ⟨t2, us⟩⟩
    · cases h
    · replace h : ((den Γ as ρ1).bA fun ts ρ2 => if (t.val ρ2).isSome = true then R.ok (t :: ts) ρ2 else .no) = .ok ts ρ' := h
      cases e2 : den Γ as ρ1 with
      | no => rw [e2] at h; cases h
      | ex e ρ2 => rw [e2] at h; cases h
      | ok vs ρ2 =>
        rw [e2] at h
        replace h : (if (t.val ρ2).isSome = true then R.ok (t :: vs) ρ2 else .no) = .ok ts ρ' := h
        split at h
        · cases h; rw [List.length_cons, hn _ _ _ e2]
        · cases h
    · cases h
end
end RL

namespace RL
open PySem PySem.Spec L2
theorem stepD_len (i c : Int) (n : Nat) : (stepD i c n).length = n := by simp [stepD]
theorem stepD_get {i c : Int} {n k : Nat} (h : k < n) : (stepD i c n)[k]? = some (.int (i + (k : Nat) * c)) := by
  simp [stepD, List.getElem?_map, List.getElem?_range h]
theorem ItR.stp {G : Gp} {H0 : Hp} (i c : Int) (n : Nat) : ItR G H0 (Itc i c n) (stepD i c n) := by
  intro k H0' H' s1 s2
  rw [stepD_len]
  refine ⟨fun hi => ⟨hi, fun x H'' y => ?_⟩, fun hi => Nat.le_of_eq hi.symm⟩
  obtain ⟨rfl, y⟩ := y
  subst y
  exact ⟨H0', _, stepD_get hi, .refl s2, .int _⟩
section
variable {X : Cx} {W : WX} {σ : St} {H : Hp}
theorem opN_args {fs : Env → R} {f : List D → Option T} {R' : It → Hp → Prop} (h : iOf (gp X) W (fun ρ => ((fs ρ).bA (opN f)).eo) σ H R') :
    aOf (gp X) W fs σ H fun vs H1 => ∃ H01 ds es, Paired (RV (gp X) H01 H1) vs ds ∧ f ds = some (.p (.list es)) ∧ ∀ J, ItR (gp X) H01 J es → R' J H1 := by
  obtain ⟨H0, ρ, re, k⟩ := h
  refine ⟨H0, ρ, re, ?_⟩
  replace k : kI (gp X) W ((fs ρ).bA (opN f)).eo σ ρ H0 H R' := k
  rw [eo_bA] at k
  cases e1 : fs ρ with
  | no => rw [e1] at k; exact k
  | ex e ρ' => rw [e1] at k; exact k
  | ok ts ρ1 =>
    rw [e1] at k
    intro vs H01 H1 re1 st1 rts frs
    replace k : kI (gp X) W (opN f ts ρ1).eo σ ρ H0 H R' := k
    unfold opN at k
    cases e2 : vals ts ρ1 with
    | none => rw [e2] at k; exact False.elim k
    | some ds =>
      rw [e2] at k
      simp only [give_eo] at k
      have rv := vals_rv re1 rts e2
      cases e3 : f ds with
      | none => rw [e3] at k; exact False.elim k
      | some t' =>
        rw [e3] at k
        cases t' with
        | p d =>
          cases d with
          | list es => exact ⟨H01, ds, es, rv, e3, fun J hJ => k J H01 H1 re1 st1 hJ⟩
          | _ => exact False.elim k
        | f d => exact False.elim k
        | s i => exact False.elim k
theorem paired3 {G : Gp} {H0 H : Hp} {vs : List V} {d e f : D} (h : Paired (RV G H0 H) vs [d, e, f]) : ∃ v u w, vs = [v, u, w] ∧ RV G H0 H v d ∧ RV G H0 H u e ∧ RV G H0 H w f := by
  cases h with
  | cons a r =>
    obtain ⟨u, w, rfl, b, c⟩ := paired2 r
    exact ⟨_, _, _, rfl, a, b, c⟩
theorem pi_rgs {tg e1 e2 e3 : Expr} {p pos : Pos} {fs : Env → R} (hg : Gl X "range") (hm : X.mg "range" = none) (ha : PA X [e1, e2, e3] (aOf (gp X) W fs)) (n1 : notStar e1 = true) (n2 : notStar e2 = true) (n3 : notStar e3 = true) :
    PI X tg (.Call (.Name "range" p) [e1, e2, e3] [] pos) (iOf (gp X) W fun ρ => ((fs ρ).bA (opN rgsD)).eo) := by
  refine PI.imp (pi_range3 hg hm ha (starE n1) (noStar (es := [e2, e3]) (by simp [n2, n3]))) fun σ H R h => ?_
  refine aOf.mono (opN_args h) fun vs H1 ⟨H01, ds, es, rv, e, q⟩ => ?_
  unfold rgsD at e
  split at e
  · rename_i i j c
    split at e
    · rename_i hc
      cases e
      obtain ⟨v, u, w, rfl, r1, r2, r3⟩ := paired3 rv
      cases r1.int; cases r2.int; cases r3.int
      exact ⟨i, j, c, _, rfl, ⟨hc.1, hc.2.1, hc.2.2.1, (Int.toNat_of_nonneg hc.2.2.2.1).symm⟩, q _ (ItR.stp _ _ _)⟩
    · cases e
  · cases e
theorem op1_it {fa : Env → R} {f : D → Option T} {R' : It → Hp → Prop} (h : iOf (gp X) W (fun ρ => ((fa ρ).b1 fun t ρ1 => op1 f t ρ1).eo) σ H R') :
    tOf (gp X) W (fun ρ => (fa ρ).eo) σ H fun v H1 => ∃ H01 d es, RV (gp X) H01 H1 v d ∧ f d = some (.p (.list es)) ∧ ∀ J, ItR (gp X) H01 J es → R' J H1 := by
  obtain ⟨H0, ρ, re, k⟩ := h
  replace k : kI (gp X) W ((fa ρ).b1 fun t ρ1 => op1 f t ρ1).eo σ ρ H0 H R' := k
  rw [eo_b1] at k
  refine ⟨H0, ρ, re, ?_⟩
  show kOf (gp X) W (fa ρ).eo σ ρ H0 H _
  cases e1 : (fa ρ).eo with
  | no => rw [e1] at k; exact False.elim k
  | ex e ρ' => rw [e1] at k; exact k
  | ok t ρ1 =>
    rw [e1] at k
    intro v H01 H1 re1 st1 rt1 fr1
    replace k : kI (gp X) W (op1 f t ρ1).eo σ ρ H0 H R' := k
    unfold op1 at k
    cases e2 : t.val ρ1 with
    | none => rw [e2] at k; exact False.elim k
    | some d =>
      rw [e2] at k
      simp only [give_eo] at k
      cases e3 : f d with
      | none => rw [e3] at k; exact False.elim k
      | some t' =>
        rw [e3] at k
        cases t' with
        | p d' =>
          cases d' with
          | list es => exact ⟨H01, d, es, rt1.rv re1 e2, e3, fun J hJ => k J H01 H1 re1 st1 hJ⟩
          | _ => exact False.elim k
        | f d => exact False.elim k
        | s i => exact False.elim k
theorem pi_rgr {tg e1 : Expr} {p p2 pos pos2 : Pos} {fa : Env → R} (hg : Gl X "reversed") (hm : X.mg "reversed" = none) (hg2 : Gl X "range") (hm2 : X.mg "range" = none) (ha : PE X e1 (tOf (gp X) W fun ρ => (fa ρ).eo)) (n1 : notStar e1 = true) :
    PI X tg (.Call (.Name "reversed" p) [.Call (.Name "range" p2) [e1] [] pos2] [] pos) (iOf (gp X) W fun ρ => ((fa ρ).b1 fun t ρ1 => op1 rgrD t ρ1).eo) := by
  refine PI.imp (pi_revR hg hm (prg_1 hg2 hm2 ha (starE n1))) fun σ H R h => ?_
  refine tO_mono (op1_it h) fun v H1 ⟨H01, d, es, rv, e, q⟩ => ?_
  unfold rgrD at e
  split at e
  · rename_i j
    split at e
    · rename_i hc
      cases e
      cases rv.int
      have h2 : (2 : Int) ^ 24 < 2 ^ 62 := by decide
      exact ⟨j, rfl, by decide, by decide, hc.1, by omega, q _ (ItR.stp _ _ _)⟩
    · cases e
  · cases e
end
end RL

namespace RL
open PySem PySem.Spec L2
def W0 : WX := fun _ _ _ _ => False
section
variable {G : Gp} {W : WX} {σ σ' : St} {ρ ρ' ρ1 ρ2 : Env} {H0 H H01 H1 H02 H2 H0' H' : Hp} {Q : VK}
/-- a thing that is nobody's may come or change -/
theorem RE.upd {D : Addr} {o : HO} (re : RE G H0 H σ ρ) (h0 : H0 D = none) (no : ¬ Own σ ρ D) : RE G H0 (L2.upd H D o) σ ρ := by
  refine ⟨fun b u e => ?_, re.len, fun i c e => ?_, re.apart⟩
  · have hb : b ≠ D := fun z => by rw [z, h0] at e; cases e
    rw [upd_ne hb]; exact re.sub _ _ e
  · obtain ⟨ov, e1, s⟩ := re.slot i c e
    refine ⟨ov, e1, ?_⟩
    cases c with
    | un => cases ov <;> trivial
    | pu d =>
      cases ov with
      | none => exact False.elim s
      | some v => exact s
    | ow d =>
      obtain ⟨a, d', rfl, hv, h0a, to⟩ := s.cases_own rfl
      have ha : a ≠ D := fun z => no ⟨i, by rw [← z]; exact e1, _, e, rfl⟩
      exact ⟨s.1, s.2.mono (Same.refl _) fun o e => by rw [upd_ne ha]; exact e⟩
    | le d =>
      obtain ⟨a, d', rfl, hv, h0a, to⟩ := s.cases_own rfl
      have ha : a ≠ D := fun z => no ⟨i, by rw [← z]; exact e1, _, e, rfl⟩
      exact ⟨s.1, s.2.mono (Same.refl _) fun o e => by rw [upd_ne ha]; exact e⟩
theorem Step.upd {D : Addr} {o : HO} (st : Step σ ρ H0 H σ' ρ' H0' H') (hD : H D = none) : Step σ ρ H0 H σ' ρ' H0' (L2.upd H' D o) :=
  ⟨st.g0, st.na, fun a u e n => by
    have : a ≠ D := fun z => by rw [z, hD] at e; cases e
    rw [upd_ne this]; exact st.fr a u e n, st.on, fun a h => by
    by_cases z : a = D
    · rw [z, upd_same]; rfl
    · rw [upd_ne z]; exact st.dom a h⟩
theorem Rps.snoc {vs : List V} {ds : List D} {v : V} {d : D} (r : Rps G H vs ds) (h : Rp G H v d) : Rps G H (vs ++ [v]) (ds ++ [d]) := r.append (.cons h .nil)
structure LcP (G : Gp) (t : Tg) (fc fb : Env → R) (vs : List Nat) (ds : List D) (es : List D) (ρe : Env) (D : Addr) (σw : St) (ρw : Env) (H01 H1 : Hp) (i : Nat) (H' : Hp) : Prop where
  ex : ∃ H0' ρ' acc eacc rest, RE G H0' H' σw ρ' ∧ Step σw ρw H01 H1 σw ρ' H0' H' ∧ H' D = some (.lst acc) ∧ H0' D = none ∧ ¬ Own σw ρ' D ∧ Rps G H0' acc eacc ∧ eacc.length ≤ i ∧ genGo t fc fb vs (ds.drop i) ρ' = some (rest, ρe) ∧ eacc ++ rest = es
theorem drop_cons {α : Type} {l : List α} {i : Nat} (h : i < l.length) : l.drop i = l[i] :: l.drop (i + 1) := List.drop_eq_getElem_cons h
theorem lc_s {t : Tg} {vs : List Nat} {fi fc fb : Env → R} (hts : ∀ i ∈ t.slots, i ∈ vs)
    (h : tOf G W (fun ρ => ((fi ρ).b1 fun ti ρ1 => match ti with
      | .p (.list ds) => (match genGo t fc fb vs ds (wipeE ρ1 vs) with
        | some (es, ρ2) => if ds.length ≤ 16777216 then R.ok [.f (.list es)] (restore ρ1 ρ2 vs) else .no
        | none => .no)
      | _ => .no).eo) σ H Q) :
    tLc (iOf G W fun ρ => (fi ρ).eo) (gOf G t) (tTest (tOf G W0 fun ρ => (fc ρ).eo)) (tOf G W0 fun ρ => (fb ρ).eo) vs σ H Q := by
  obtain ⟨H0, ρ, re, k⟩ := h
  refine ⟨H0, ρ, re, ?_⟩
  dsimp only at k
  rw [eo_b1] at k
  show kI G W (fi ρ).eo σ ρ H0 H _
  cases ei : (fi ρ).eo with
  | no => rw [ei] at k; exact k
  | ex e ρ' => rw [ei] at k; exact k
  | ok ti ρ1 =>
    rw [ei] at k
    cases ti with
    | s i => exact False.elim k
    | f d => exact False.elim k
    | p d =>
      cases d with
      | list ds =>
        simp only at k
        cases eg : genGo t fc fb vs ds (wipeE ρ1 vs) with
        | none => rw [eg] at k; exact False.elim k
        | some q =>
          obtain ⟨es, ρe⟩ := q
          rw [eg] at k
          simp only at k
          split at k
          · rename_i hlen
            intro J H01 H1 re1 st1 it D hD
            have hD0 : H01 D = none := re1.sub.free hD
            have hDn : ¬ Own (wipe σ vs) (wipeE ρ1 vs) D := fun ⟨i, z⟩ => by
              obtain ⟨_, d, to⟩ := re1.own_at ⟨i, (ownAt_wipe z).1⟩
              obtain ⟨o, eo, _⟩ := to.some
              rw [hD] at eo; cases eo
            refine ⟨fun i m H' => m = ds.length - i ∧ i ≤ ds.length ∧ LcP G t fc fb vs ds es ρe D (wipe σ vs) (wipeE ρ1 vs) H01 H1 i H', ⟨ds.length, rfl, Nat.zero_le _, ⟨H01, wipeE ρ1 vs, [], [], es, (re1.wipe vs).upd hD0 hDn, Step.refl.upd hD, upd_same, hD0, hDn, .nil, Nat.le_refl _, eg, rfl⟩⟩, ?_⟩
            rintro i m H' ⟨rfl, hi, ⟨H0', ρ', acc, eacc, rest, re', st', hDa, hD0', hDo, racc, hle, hg, hes⟩⟩
            by_cases hlt : i < ds.length
            · rw [drop_cons hlt] at hg
              simp only [genGo] at hg
              cases eb : t.bind ds[i] ρ' with
              | none => rw [eb] at hg; cases hg
              | some ρa =>
                rw [eb] at hg
                simp only at hg
                obtain ⟨hgo, hy⟩ := (it i H0' H' st'.g0 re'.sub).1 hlt
                refine .inr ⟨hgo, fun H'' => LcP G t fc fb vs ds es ρe D (wipe σ vs) (wipeE ρ1 vs) H01 H1 (i + 1) H'', fun H'' z => ⟨_, by omega, rfl, hlt, z⟩, fun x H'' y => ?_⟩
                obtain ⟨H0'', d', hd', ext, rx⟩ := hy x H'' y
                have : d' = ds[i] := by
                  have := List.getElem?_eq_getElem hlt
                  rw [hd'] at this
                  exact Option.some.inj this
                subst this
                refine ⟨H0'', ρ', ds[i], ρa, re'.ext ext, rx, eb, fun σ2 re2 l2 o2 s2 => ⟨?_, ?_⟩⟩
                · rw [wipe_eq (σ := wipe σ vs) l2 fun j hj => o2 j fun z => hj (hts j z)]
                  exact wipe_eq (wipe_length _ _) fun j hj => wipe_out hj
                · have hw : wipe σ2 vs = wipe σ vs := by
                    rw [wipe_eq (σ := wipe σ vs) l2 fun j hj => o2 j fun z => hj (hts j z)]
                    exact wipe_eq (wipe_length _ _) fun j hj => wipe_out hj
                  -- the state in front of the test
                  have stA : Step (wipe σ vs) (wipeE ρ1 vs) H01 H1 σ2 ρa H0'' H'' := (st'.trans ext.step).trans s2
                  have dA : H'' D = some (.lst acc) := ext.g D _ hDa
                  have d0A : H0'' D = none := ext.na D (by rw [hDa]; rfl) hD0'
                  have noA : ¬ Own σ2 ρa D := fun z => (s2.on D z).elim hDo fun q => by rw [q] at dA; cases dA
                  cases ec : fc ρa with
                  | no => rw [ec] at hg; cases hg
                  | ex e ρ => rw [ec] at hg; cases hg
                  | ok ks ρb =>
                    rw [ec] at hg
                    rcases ks with _ | ⟨kt, _ | ⟨k2, ks⟩⟩
                    · cases hg
                    · simp only at hg
                      refine ⟨H0'', ρa, re2, ?_⟩
                      show kOf G W0 (fc ρa).eo σ2 ρa H0'' H'' _
                      rw [ec]
                      intro v H03 H3 re3 st3 rt3 fr3
                      have d3 : H3 D = some (.lst acc) := st3.fr D _ dA noA
                      have d03 : H03 D = none := st3.na D (by rw [dA]; rfl) d0A noA
                      have no3 : ¬ Own σ2 ρb D := fun z => (st3.on D z).elim noA fun q => by rw [q] at dA; cases dA
                      cases ek : (kt.val ρb).bind boolOf with
                      | none => rw [ek] at hg; cases hg
                      | some kb =>
                        rw [ek] at hg
                        refine ⟨kb, (rt3.boolOf re3 ek).1, ?_⟩
                        have stB := stA.trans st3
                        cases kb with
                        | false =>
                          simp only at hg
                          dsimp only
                          rw [if_neg (by decide)]
                          refine ⟨H03, wipeE ρb vs, acc, eacc, rest, ?_, ?_, d3, d03, fun ⟨j, z⟩ => no3 ⟨j, (ownAt_wipe (by rw [hw]; exact z)).1⟩, racc.mono (ext.g0.trans (s2.g0.trans st3.g0)), by omega, hg, hes⟩
                          · rw [← hw]; exact re3.wipe vs
                          · have := stB.trans (Step.wipe (σ := σ2) (ρ := ρb) (H0 := H03) (H := H3) vs)
                            rw [hw] at this
                            exact this
                        | true =>
                          dsimp only
                          rw [if_pos rfl]
                          simp only at hg
                          cases ebd : fb ρb with
                          | no => rw [ebd] at hg; cases hg
                          | ex e ρ => rw [ebd] at hg; cases hg
                          | ok us ρc =>
                            rw [ebd] at hg
                            rcases us with _ | ⟨u, _ | ⟨u2, us⟩⟩
                            · cases hg
                            · simp only at hg
                              refine ⟨H03, ρb, re3, ?_⟩
                              show kOf G W0 (fb ρb).eo σ2 ρb H03 H3 _
                              rw [ebd]
                              intro y H04 H4 re4 st4 rt4 fr4
                              cases es' : u.seal ρc with
                              | none => rw [es'] at hg; cases hg
                              | some q =>
                                obtain ⟨e, ρd⟩ := q
                                rw [es'] at hg
                                simp only at hg
                                obtain ⟨H05, re5, st5, rp5, sm5, _⟩ := seal_s re4 st4 rt4.w fr4 es'
                                have d4 : H4 D = some (.lst acc) := st5.fr D _ d3 no3
                                have d05 : H05 D = none := st5.na D (by rw [d3]; rfl) d03 no3
                                have no5 : ¬ Own σ2 ρd D := fun z => (st5.on D z).elim no3 fun q => by rw [q] at d3; cases d3
                                obtain ⟨⟨rest', ρe'⟩, hr, heq⟩ := Option.map_eq_some_iff.mp hg
                                simp only [Prod.mk.injEq] at heq
                                obtain ⟨rfl, rfl⟩ := heq
                                refine ⟨acc, d4, by rw [racc.length, size_eq]; omega, ?_⟩
                                refine ⟨H05, wipeE ρd vs, acc ++ [y], eacc ++ [e], rest', ?_, ?_, upd_same, d05, fun ⟨j, z⟩ => no5 ⟨j, (ownAt_wipe (by rw [hw]; exact z)).1⟩, (racc.mono (ext.g0.trans (s2.g0.trans (st3.g0.trans st5.g0)))).snoc rp5, by rw [List.length_append, List.length_singleton]; omega, hr, by rw [List.append_assoc]; exact hes⟩
                                · rw [← hw]; exact (re5.upd d05 no5).wipe vs
                                · have := ((stB.trans st5).trans (Step.wipe (σ := σ2) (ρ := ρd) (H0 := H05) (H := H4) vs)).upd (D := D) (o := .lst (acc ++ [y])) hD
                                  rw [hw] at this
                                  exact this
                            · cases hg
                    · cases hg
            · have e : i = ds.length := by omega
              subst e
              refine .inl ⟨(it ds.length H0' H' st'.g0 re'.sub).2 rfl, ?_⟩
              rw [List.drop_length] at hg
              cases hg
              rw [List.append_nil] at hes
              subst hes
              obtain ⟨rr, sr, ow⟩ := RE.restore re1 re' st'
              have hnn : ¬ Own σ (restore ρ1 ρe vs) D := fun z => (ow D z).elim (fun z => by
                obtain ⟨_, d, to⟩ := re1.own_at z
                obtain ⟨o, eo, _⟩ := to.some
                rw [hD] at eo; cases eo) hDo
              refine k _ H0' H' rr (st1.trans sr) ⟨D, rfl, hD0', hnn, ⟨acc, hDa, racc⟩⟩ fun a e => ?_
              cases e
              cases q : H D with
              | none => rfl
              | some o =>
                have := st1.dom D (by rw [q]; rfl)
                rw [hD] at this; cases this
          · exact False.elim k
      | _ => exact False.elim k
end
end RL

namespace RL
open PySem PySem.Spec L2
set_option maxHeartbeats 1000000 in
theorem meets_enum1 {v : Value} {o : Obj} {H : Heap → Prop} (B : Begins v o H) :
    Meets (Builtin.«enumerate.__new__» ⟨[.type "enumerate", v], []⟩) (fun _ R s => H s.heap ∧
      R (.ok (.ret (.ref (s.heap.push o).objs.size))) { s with heap := (s.heap.push o).push { cls := .type "enumerate", data := .fields #[.none, .bool false, .ref s.heap.objs.size, rawInt 0, .none, .none] } }) :=
  .of_wp fun prog w A R s h => by
    obtain ⟨hp, g, d, tk, os⟩ := s; obtain ⟨h1, h⟩ := h
    have hsub := sub_enumerate
    have q1 : ∀ {A' : Around} {E : Value → Shared → Prop} {Q : Value → Shared → Prop}, Q (.ref hp.objs.size) ⟨hp.push o, g, d, tk, os⟩ → wpAny (model prog w) A' (pyIter v) Q E ⟨hp, g, d, tk, os⟩ :=
      fun q => B.iter prog w _ _ ⟨hp, g, d, tk, os⟩ _ h1 q
    wp_walk using q1
    refine wpAny_stack_any fun st => wpAny_pure ?_
    split
    · rename_i c _ _ _ _ _
      cases (c == Value.type "enumerate")
      · wp_walk using q1
        exact ⟨_, rfl, h⟩
      · wp_walk using q1
        exact ⟨_, rfl, h⟩
    · wp_walk using q1
      exact ⟨_, rfl, h⟩
/-- enumerate over a tuple -/
def IteT (K : PySem.W.Frag) (a : Addr) : It :=
  ⟨fun i H => ∃ (xs : List V) (x : V), SqT K H a xs ∧ xs[i]? = some x, fun i H v H' => ∃ T x, v = .ref T ∧ H T = none ∧ H' = upd H T (.tup [.int (i : Nat), x]) ∧ ∀ xs, SqT K H a xs → xs[i]? = some x, fun i H => ∃ xs : List V, SqT K H a xs ∧ xs.length = i⟩
theorem apartE {h : Heap} {a it : Addr} {vs : Array Value} {i : Nat} (p : h.IsTuple a vs) (q : h.IsTupleIter it a i) : a ≠ it := by
  obtain ⟨o, e, c, _⟩ := p
  obtain ⟨o', e', c', _⟩ := q
  intro z
  subst z
  rw [e] at e'; cases e'
  rw [c] at c'; exact absurd c' (by decide)
theorem turn_enumT {P : Program} {w : World} {K : PySem.W.Frag} {elts : List Expr} {kk : Nat} {tpos : Pos} (a e it : Addr) :
    Turn P w K (.Tuple elts kk tpos) (IteT K a) [e, it] e (fun i h => (∃ old, IsEnum h e it ((i : Nat) : Int) old) ∧ h.IsTupleIter it a i ∧ e ≠ it) where
  mem := by simp
  obj := fun i h st b hb => by
    obtain ⟨⟨old, he⟩, ⟨o, ho, hc, hd⟩, _⟩ := st
    have e' : b = e ∨ b = it := by simpa using hb
    rcases e' with z | z
    · rw [z]; exact ⟨_, he, fun v q => nomatch q⟩
    · rw [z]; exact ⟨o, ho, fun v q => by rw [hd] at q; cases q⟩
  keep := fun i h h' st k => let ⟨⟨old, he⟩, hi, hne⟩ := st; ⟨⟨old, k e (by simp) _ he⟩, hi.at fun o q => k it (by simp) o q, hne⟩
  item := by
    intro X hP hw hK hc i pins s σ H E I hf st hg
    subst hP hw hK
    obtain ⟨⟨old, he⟩, hit, hne⟩ := st
    obtain ⟨xs, x, hq, hx⟩ := hg
    obtain ⟨its, rv, p, hz⟩ := I.tuple hq
    obtain ⟨u, hu, ru⟩ := rv.get hx
    have hel : e < s.heap.objs.size := Heap.lt_size he
    have hil : it < s.heap.objs.size := by obtain ⟨_, q, _⟩ := hit; exact Heap.lt_size q
    have hp : s.heap.IsTuple a its.toArray := p
    have hat := apartE hp hit
    have hea : e ≠ a := fun z => by
      obtain ⟨o, q, c, _⟩ := hp
      have he' : s.heap.get? e = some _ := he
      rw [z, q] at he'; cases he'
      have c' : Value.type "enumerate" = Value.type "tuple" := c
      exact absurd c' (by decide)
    have hlt : i < its.toArray.size := by
      have := (List.getElem?_eq_some_iff.mp hu).1
      simpa using this
    refine wpAny_pyNext_enum_itemC (Draws.tuple (A := X.A.in1) (I.ok.hd hc) it a hat its.toArray) he ⟨hit, hp⟩ hlt hne (by simp [hne, hea]) fun u' h' tk hu' ho st' hT hsz hk => ?_
    have eu : u' = u := by
      rw [show its.toArray[i]? = some u by simpa using hu] at hu'
      exact (Option.some.inj hu').symm
    subst eu
    refine ⟨_, rfl, wpAny_letOwnedTupleGo_enum (s := { s with heap := h', toks := tk + 1 }) ho fun h'' he' sb => ?_⟩
    have hT2 : h''.get? s.heap.objs.size = some { cls := .type "tuple", data := .seq #[.int i tk, u'] } := (sb.2 _ (Nat.ne_of_gt hel)).trans hT
    have new : ObjOk X.prog X.w (upd H s.heap.objs.size (.tup [.int (i : Nat), x])) h'' s.heap.objs.size (.tup [.int (i : Nat), x]) :=
      ⟨by show 2 ≤ sizeLine; decide, [.int i tk, u'], .cons ⟨_, rfl⟩ (.cons ru .nil), ⟨_, hT2, rfl, _, rfl⟩⟩
    have I1 : Inv X pins σ (upd H s.heap.objs.size (.tup [.int (i : Nat), x])) { s with heap := h'', toks := tk + 1 } :=
      I.turnedNew (ch := [e, it]) (fun b ob hb q => (sb.2 b (fun z => hb (by simp [z]))).trans (hk b ob (fun z => hb (by simp [z])) (fun z => hb (by simp [z])) q)) hf (Nat.le_refl _) new
    refine ⟨.ref s.heap.objs.size, _, I1, rfl, ⟨_, x, rfl, I.hok.fresh (Nat.le_refl _), rfl, fun ys hy => by rw [I.tuple_inj hy hq]; exact hx⟩, ⟨⟨u', ?_⟩, st'.1.at fun o q => (sb.2 it (Ne.symm hne)).trans q, hne⟩, fun b hb => ?_⟩
    · have e1 : ((i + 1 : Nat) : Int) = (i : Int) + 1 := by omega
      rw [e1]; exact he'
    · have hb' : b < s.heap.objs.size := by
        have e' : b = e ∨ b = it := by simpa using hb
        rcases e' with z | z
        · rw [z]; exact hel
        · rw [z]; exact hil
      rw [upd_ne (Nat.ne_of_lt hb')]
      exact (hf b hb).1
  done := by
    intro X hP hw hK hc i pins s σ H E I hf st hg
    subst hP hw hK
    obtain ⟨⟨old, he⟩, hit, hne⟩ := st
    obtain ⟨xs, hq, hx⟩ := hg
    obtain ⟨its, rv, p, hz⟩ := I.tuple hq
    obtain ⟨f0, f1, f2, f3, f4, f5⟩ := hf it (by simp)
    have hp : s.heap.IsTuple a its.toArray := p
    have hat := apartE hp hit
    have hl := rv.length
    have D := Draws.tuple (prog := X.prog) (w := X.w) (A := X.A.in1) (I.ok.hd hc) it a hat its.toArray
    have hge : its.toArray.size = i := by simp; omega
    exact wpAny_pyNext_enum_endD D he ⟨hge ▸ hit, hp⟩ fun h' eb => ⟨rfl, I.turned (t' := s.toks) (fun b o hb q => eb b o hb q) f0 f1 f3 f4 f5⟩
  self := fun A i s Q E st h => let ⟨⟨_, he⟩, _⟩ := st; wpAny_pyIter_enum he h
def iEnumT (K : PySem.W.Frag) (ta : TA) : TI := fun σ H R => ta σ H fun vs H1 => ∃ a xs, vs = [.ref a] ∧ SqT K H1 a xs ∧ R (IteT K a) H1
theorem pi_enumT {X : Cx} {e : Expr} {ta : TA} {p pos tpos : Pos} {elts : List Expr} {kk : Nat} (hg : Gl X "enumerate") (hm : X.mg "enumerate" = none) (ha : PA X [e] ta) (hs : starEach [e] X.env = [(false, eval e X.env)]) :
    PI X (.Tuple elts kk tpos) (.Call (.Name "enumerate" p) [e] [] pos) (iEnumT X.K ta) := by
  refine ⟨fun pins s σ H R I h => ?_⟩
  refine PyProof.Rows.Call_ (ld_blt I hg hm PyProof.Rows.boot_enumerate (PyProof.Rows.callWith_type1 (thn (ha.run pos pins s σ H _ I h) fun us s1 ⟨vs, H1, I1, r1, q1⟩ => ?_) hs rfl))
  obtain ⟨a, xs, ex, hq, q⟩ := q1
  subst ex
  cases r1 with
  | cons r rr =>
    cases rr
    cases r
    obtain ⟨its, rv, p', hz⟩ := I1.tuple hq
    have hp : s1.heap.IsTuple a its.toArray := p'
    refine callType_new F.called_enumerate (by decide) (F.typeCall_enumerate_1 _) (F.newCall_enumerate_1 _) (fun obj => F.args_object_init_2 obj _) F.entry_enumerate_new (meets_enum1 (begins_tuple a its.toArray)) ⟨hp, ?_⟩
    have hz1 : (s1.heap.push { cls := .type "tuple_iterator", data := .fields #[.ref a, .int 0 0] }).objs.size = s1.heap.objs.size + 1 := Heap.size_push ..
    show _ ∧ _
    rw [hz1]
    have he : IsEnum ((s1.heap.push { cls := .type "tuple_iterator", data := .fields #[.ref a, .int 0 0] }).push { cls := .type "enumerate", data := .fields #[.none, .bool false, .ref s1.heap.objs.size, rawInt 0, .none, .none] }) (s1.heap.objs.size + 1) s1.heap.objs.size 0 .none := by
      have := Heap.get?_push_size (s1.heap.push { cls := .type "tuple_iterator", data := .fields #[.ref a, .int 0 0] }) (o := { cls := .type "enumerate", data := .fields #[.none, .bool false, .ref s1.heap.objs.size, rawInt 0, .none, .none] }) rfl
      rw [hz1] at this; exact this
    refine ⟨⟨_, he, rfl⟩, wpAny_pyIter_enum he ?_⟩
    have hk : ∀ b o, s1.heap.get? b = some o → ((s1.heap.push { cls := .type "tuple_iterator", data := .fields #[.ref a, .int 0 0] }).push { cls := .type "enumerate", data := .fields #[.none, .bool false, .ref s1.heap.objs.size, rawInt 0, .none, .none] }).get? b = some o := fun b o x => Heap.get?_push_of_some _ (Heap.get?_push_of_some _ x)
    refine ⟨s1.heap.objs.size + 1, [s1.heap.objs.size + 1, s1.heap.objs.size], _, _, H1, rfl, I1.kept (t' := s1.toks) hk, turn_enumT a (s1.heap.objs.size + 1) s1.heap.objs.size, ⟨⟨.none, he⟩, ⟨_, Heap.get?_push_of_some _ (Heap.get?_push_size _ rfl), rfl, rfl⟩, Nat.succ_ne_self _⟩, fun b hb => ?_, q⟩
    have e' : b = s1.heap.objs.size + 1 ∨ b = s1.heap.objs.size := by simpa using hb
    have hle : s1.heap.objs.size ≤ b := by
      rcases e' with z | z
      · rw [z]; exact Nat.le_add_right _ _
      · rw [z]; exact Nat.le_refl _
    exact I1.fpOk hle (I1.hok.fresh hle)
end RL

namespace RL
open PySem PySem.Spec L2
section
variable {G : Gp} {W : WX} {σ σ' : St} {ρ ρ' ρ1 ρ2 : Env} {H0 H H01 H1 H02 H2 H0' H' : Hp} {Q : VK}
/-- a tuple laid -/
theorem Ext.tup {T : Addr} {vs : List V} {ds : List D} (s : Same H0 H) (r : Rps G H0 vs ds) (n : H T = none) : Ext H0 H (upd H0 T (.tup vs)) (upd H T (.tup vs)) ∧ Rp G (upd H0 T (.tup vs)) (.ref T) (.tuple ds) := by
  have n0 : H0 T = none := s.free n
  refine ⟨⟨Same.upd n0, Same.upd n, fun b u e => ?_, fun a h h0 => ?_⟩, ?_⟩
  · by_cases hb : b = T
    · subst hb; rw [upd_same] at e ⊢; exact e
    · rw [upd_ne hb] at e ⊢; exact s _ _ e
  · by_cases hb : a = T
    · subst hb; rw [n] at h; cases h
    · rw [upd_ne hb]; exact h0
  · exact .tup (.of upd_same) (r.mono (Same.upd n0))
def enmL (ds : List D) : List D := (List.range ds.length).zip ds |>.map fun p => .tuple [.int (p.1 : Nat), p.2]
theorem enmL_len (ds : List D) : (enmL ds).length = ds.length := by simp [enmL]
theorem enmL_get {ds : List D} {i : Nat} (h : i < ds.length) : (enmL ds)[i]? = some (.tuple [.int (i : Nat), ds[i]]) := by
  have h1 : (List.range ds.length)[i]? = some i := List.getElem?_range h
  simp [enmL, List.getElem?_map, List.getElem?_zip_eq_some, h]
def zipL (ds es : List D) : List D := (ds.zip es).map fun p => .tuple [p.1, p.2]
theorem zipL_len (ds es : List D) : (zipL ds es).length = min ds.length es.length := by simp [zipL]
theorem zipL_get {ds es : List D} {i : Nat} {d e : D} (h : ds[i]? = some d) (h' : es[i]? = some e) : (zipL ds es)[i]? = some (.tuple [d, e]) := by
  simp [zipL, List.getElem?_map, List.getElem?_zip_eq_some]
  exact ⟨h, h'⟩
theorem ItR.enmT {a : Addr} {xs : List V} {ds : List D} (h : SqT G.K H0 a xs) (r : Rps G H0 xs ds) : ItR G H0 (IteT G.K a) (enmL ds) := by
  intro i H0' H' s1 s2
  have hq : SqT G.K H' a xs := SqT.mono (s1.trans s2) h
  rw [enmL_len]
  refine ⟨fun hi => ⟨?_, fun x H'' y => ?_⟩, fun hi => ⟨xs, hq, by rw [r.length]; omega⟩⟩
  · obtain ⟨v, hv, _⟩ := r.get (List.getElem?_eq_getElem hi)
    exact ⟨xs, v, hq, hv⟩
  · obtain ⟨T, z, rfl, hn, rfl, y⟩ := y
    obtain ⟨v, hv, rv⟩ := r.get (List.getElem?_eq_getElem hi)
    have := y xs hq
    rw [hv] at this; cases this
    obtain ⟨ex, rp⟩ := Ext.tup s2 (Rps.cons (.int (i : Nat)) (Rps.cons (rv.mono s1) .nil)) hn
    exact ⟨_, _, enmL_get hi, ex, rp⟩
theorem ItR.enm {a : Addr} {xs : List V} {ds : List D} (h : SqL G.K H0 a xs) (r : Rps G H0 xs ds) : ItR G H0 (Ite G.K a) (enmL ds) := by
  intro i H0' H' s1 s2
  have hq : SqL G.K H' a xs := SqL.mono (s1.trans s2) h
  rw [enmL_len]
  refine ⟨fun hi => ⟨?_, fun x H'' y => ?_⟩, fun hi => ⟨xs, hq, by rw [r.length]; omega⟩⟩
  · obtain ⟨v, hv, _⟩ := r.get (List.getElem?_eq_getElem hi)
    exact ⟨xs, v, hq, hv⟩
  · obtain ⟨T, z, rfl, hn, rfl, y⟩ := y
    obtain ⟨v, hv, rv⟩ := r.get (List.getElem?_eq_getElem hi)
    have := y xs hq
    rw [hv] at this; cases this
    obtain ⟨ex, rp⟩ := Ext.tup s2 (Rps.cons (.int (i : Nat)) (Rps.cons (rv.mono s1) .nil)) hn
    exact ⟨_, _, enmL_get hi, ex, rp⟩
theorem ItR.zip {a b : Addr} {xs ys : List V} {ds es : List D} (h : SqL G.K H0 a xs) (r : Rps G H0 xs ds) (h' : SqL G.K H0 b ys) (r' : Rps G H0 ys es) : ItR G H0 (Itz G.K a b) (zipL ds es) := by
  intro i H0' H' s1 s2
  have hq : SqL G.K H' a xs := SqL.mono (s1.trans s2) h
  have hq' : SqL G.K H' b ys := SqL.mono (s1.trans s2) h'
  rw [zipL_len]
  refine ⟨fun hi => ?_, fun hi => ⟨xs, ys, hq, hq', by rw [r.length, r'.length]; omega⟩⟩
  have hi1 : i < ds.length := by omega
  have hi2 : i < es.length := by omega
  obtain ⟨v, hv, rv⟩ := r.get (List.getElem?_eq_getElem hi1)
  obtain ⟨v', hv', rv'⟩ := r'.get (List.getElem?_eq_getElem hi2)
  refine ⟨⟨xs, ys, v, v', hq, hq', hv, hv'⟩, fun x H'' y => ?_⟩
  obtain ⟨T, z, z', rfl, hn, rfl, y, y'⟩ := y
  have e1 := y xs hq
  have e2 := y' ys hq'
  rw [hv] at e1; cases e1
  rw [hv'] at e2; cases e2
  obtain ⟨ex, rp⟩ := Ext.tup s2 (Rps.cons (rv.mono s1) (Rps.cons (rv'.mono s1) .nil)) hn
  exact ⟨_, _, zipL_get (List.getElem?_eq_getElem hi1) (List.getElem?_eq_getElem hi2), ex, rp⟩
theorem ItR.zipT {a b : Addr} {xs ys : List V} {ds es : List D} (h : SqT G.K H0 a xs) (r : Rps G H0 xs ds) (h' : SqT G.K H0 b ys) (r' : Rps G H0 ys es) : ItR G H0 (RZ.ItzT G.K a b) (zipL ds es) := by
  intro i H0' H' s1 s2
  have hq : SqT G.K H' a xs := SqT.mono (s1.trans s2) h
  have hq' : SqT G.K H' b ys := SqT.mono (s1.trans s2) h'
  rw [zipL_len]
  refine ⟨fun hi => ?_, fun hi => ⟨xs, ys, hq, hq', by rw [r.length, r'.length]; omega⟩⟩
  have hi1 : i < ds.length := by omega
  have hi2 : i < es.length := by omega
  obtain ⟨v, hv, rv⟩ := r.get (List.getElem?_eq_getElem hi1)
  obtain ⟨v', hv', rv'⟩ := r'.get (List.getElem?_eq_getElem hi2)
  refine ⟨⟨xs, ys, v, v', hq, hq', hv, hv'⟩, fun x H'' y => ?_⟩
  obtain ⟨T, z, z', rfl, hn, rfl, y, y'⟩ := y
  have e1 := y xs hq
  have e2 := y' ys hq'
  rw [hv] at e1; cases e1
  rw [hv'] at e2; cases e2
  obtain ⟨ex, rp⟩ := Ext.tup s2 (Rps.cons (rv.mono s1) (Rps.cons (rv'.mono s1) .nil)) hn
  exact ⟨_, _, zipL_get (List.getElem?_eq_getElem hi1) (List.getElem?_eq_getElem hi2), ex, rp⟩
end
section
variable {X : Cx} {W : WX} {σ : St} {ρ ρ' ρ1 ρ2 : Env} {H0 H H01 H1 : Hp}
theorem pi_enm {tg e : Expr} {p pos : Pos} {fa : Env → R} (hg : Gl X "enumerate") (hm : X.mg "enumerate" = none) (ha : PE X e (tOf (gp X) W fun ρ => (fa ρ).eo)) (ns : notStar e = true) (ht : isTupE tg = true) :
    PI X tg (.Call (.Name "enumerate" p) [e] [] pos) (iOf (gp X) W fun ρ => (sealR (fa ρ) enmD).eo) := by
  cases tg with
  | Tuple elts kk tpos =>
    have pa : PA X [e] _ := pa_cons ha pa_nil (starE ns)
    refine ⟨fun pins s σ H R I h => ?_⟩
    obtain ⟨H0, ρ, re, k⟩ := h
    replace k : kI (gp X) W (sealR (fa ρ) enmD).eo σ ρ H0 H R := k
    rw [eo_sealR] at k
    cases e1 : (fa ρ).eo with
    | no => rw [e1] at k; exact False.elim k
    | ex e' ρ' =>
      rw [e1] at k
      refine (pi_enum hg hm pa (starE ns)).run pins s σ H R I ⟨H0, ρ, re, ?_⟩
      show kOf (gp X) W (fa ρ).eo σ ρ H0 H _
      rw [e1]; exact k
    | ok t ρ1 =>
      rw [e1] at k
      cases e2 : t.seal ρ1 with
      | none => simp only [e2] at k; exact False.elim k
      | some q =>
        obtain ⟨d, ρ2⟩ := q
        simp only [e2] at k
        cases d with
        | list ds =>
          refine (pi_enum hg hm pa (starE ns)).run pins s σ H R I ⟨H0, ρ, re, ?_⟩
          show kOf (gp X) W (fa ρ).eo σ ρ H0 H _
          rw [e1]
          intro v H01 H1 re1 st1 rt1 fr1
          obtain ⟨H02, re2, st2, rp, sm, _⟩ := seal_s re1 st1 rt1.w fr1 e2
          cases rp with
          | lst hs hr => exact ⟨_, _, rfl, SqL.mono re2.sub hs, k _ H02 H1 re2 st2 (.enm hs hr)⟩
        | tuple ds =>
          refine (pi_enumT hg hm pa (starE ns)).run pins s σ H R I ⟨H0, ρ, re, ?_⟩
          show kOf (gp X) W (fa ρ).eo σ ρ H0 H _
          rw [e1]
          intro v H01 H1 re1 st1 rt1 fr1
          obtain ⟨H02, re2, st2, rp, sm, _⟩ := seal_s re1 st1 rt1.w fr1 e2
          cases rp with
          | tup hs hr => exact ⟨_, _, rfl, SqT.mono re2.sub hs, k _ H02 H1 re2 st2 (.enmT hs hr)⟩
        | _ => exact False.elim k
  | _ => cases ht
theorem pi_zip2 {tg e e' : Expr} {p pos : Pos} {fa fb : Env → R} (hg : Gl X "zip") (hm : X.mg "zip" = none) (ha : PE X e (tOf (gp X) W fun ρ => (fa ρ).eo)) (hb : PE X e' (tOf (gp X) W fun ρ => (fb ρ).eo)) (ns : notStar e = true) (ns' : notStar e' = true) (ht : isTupE tg = true) :
    PI X tg (.Call (.Name "zip" p) [e, e'] [] pos) (iOf (gp X) W fun ρ => ((fa ρ).b1 fun t1 ρ1 => (fb ρ1).b1 fun t2 ρ2 => match sealAll [t1, t2] ρ2 with
      | some ([d, e], ρ3) => give (zipD d e) ρ3
      | _ => .no).eo) := by
  cases tg with
  | Tuple elts kk tpos =>
    have pa : PA X [e, e'] _ := pa_cons ha (pa_cons hb pa_nil (starE ns')) (starE ns)
    refine PI.imp (RZ.pi_zipA hg hm pa (starE ns) (noStar (by simp [ns']))) fun σ H R h => ?_
    obtain ⟨H0, ρ, re, k⟩ := h
    dsimp only at k
    rw [eo_b1] at k
    refine ⟨H0, ρ, re, ?_⟩
    show kOf (gp X) W (fa ρ).eo σ ρ H0 H _
    cases e1 : (fa ρ).eo with
    | no => rw [e1] at k; exact False.elim k
    | ex e' ρ' => rw [e1] at k; exact k
    | ok t1 ρ1 =>
      rw [e1] at k
      simp only at k
      rw [eo_b1] at k
      intro v1 H01 H1 re1 st1 rt1 fr1
      refine ⟨H01, ρ1, re1, ?_⟩
      show kOf (gp X) W (fb ρ1).eo σ ρ1 H01 H1 _
      cases e2 : (fb ρ1).eo with
      | no => rw [e2] at k; exact False.elim k
      | ex e' ρ' => rw [e2] at k; exact fun cls d H0' H' re' st' x => k cls d H0' H' re' (st1.trans st') x
      | ok t2 ρ2 =>
        rw [e2] at k
        intro v2 H02 H2 re2 st2 rt2 fr2
        simp only at k
        cases es : sealAll [t1, t2] ρ2 with
        | none => rw [es] at k; exact False.elim k
        | some q =>
          obtain ⟨ds, ρ3⟩ := q
          rw [es] at k
          rcases ds with _ | ⟨d, _ | ⟨d2, _ | ⟨d3, ds⟩⟩⟩
          · exact False.elim k
          · exact False.elim k
          · simp only [give_eo] at k
            -- the first still stands
            have keep : KeepT ρ2 ρ2 t1 ∨ True := .inr trivial
            have rt1' : RTw (gp X) H02 H2 σ ρ2 v1 t1 := by
              cases t1 with
              | p d => exact Rp.mono st2.g0 rt1
              | f d => exact (RT.step st2 (t := .f d) trivial rt1).w
              | s i => exact rt1.1
            obtain ⟨H03, re3, st3, rps, sm⟩ := sealAll_s re2 (st1.trans st2) (.cons rt1' (.cons rt2.w .nil)) (.cons fr1 (.cons (fr2.back st1) .nil)) es
            cases rps with
            | cons r1 rr =>
              cases rr with
              | cons r2 rr =>
                cases d with
                | list xs =>
                  cases d2 with
                  | list ys =>
                    cases r1 with
                    | lst h1 q1 =>
                      cases r2 with
                      | lst h2 q2 => exact ⟨_, _, _, _, rfl, .inl ⟨SqL.mono re3.sub h1, SqL.mono re3.sub h2, k _ H03 H2 re3 st3 (.zip h1 q1 h2 q2)⟩⟩
                  | _ => exact False.elim k
                | tuple xs =>
                  cases d2 with
                  | tuple ys =>
                    cases r1 with
                    | tup h1 q1 =>
                      cases r2 with
                      | tup h2 q2 => exact ⟨_, _, _, _, rfl, .inr ⟨SqT.mono re3.sub h1, SqT.mono re3.sub h2, k _ H03 H2 re3 st3 (.zipT h1 q1 h2 q2)⟩⟩
                  | _ => exact False.elim k
                | _ => cases d2 <;> exact False.elim k
          · exact False.elim k
  | _ => cases ht
end
end RL

namespace RL
open PySem PySem.Spec L2
section
variable {X : Cx} {W : WX} {c : Cfg} {Γ : Nat → Option Fn} {lvl : Nat → Nat}
theorem blk_ok (cx : CxOk X W c) (s : Shared) (H : Hp) (scope : Scope) (cl : List (Str × Addr)) (C : Addr) (fp : List Addr) : CxOk (X.blk s H scope (compEnvC scope cl C X.env) fp) W0 (c.blk scope) where
  N := cx.N
  nd := cx.nd
  sc := by
    show relabel scope X.env = _
    unfold Cfg.blk relSc
    dsimp only
    rw [← cx.sc]; rfl
  fn := rfl
  calm := cx.calm
  room := cx.room
  takes := fun u s' ⟨_, _, _, _, _, _, _, _, _, _, _, _, _, _, _, _, w⟩ => w
theorem fold_ok {e : Expr} (h : noSet e = true) (env : PySem.Env) (x : Value) : foldedSetIterable e env x = pure x := by
  cases e <;> first | rfl | cases h
theorem lc_parts (own : List (Str × Nat)) (t : Tg) {it k b : P} (hk : ∀ X W c, CxOk X W c → Fx (gp X) X.base Γ lvl c.consts c.kt → Cl Γ lvl c X W k) (hb : ∀ X W c, CxOk X W c → Fx (gp X) X.base Γ lvl c.consts c.kt → Cl Γ lvl c X W b)
    (hi : ∀ tg e, chkI Γ lvl c it tg e = true → PI X tg e (iOf (gp X) W fun ρ => (den Γ it ρ).eo)) (cx : CxOk X W c) (fx : Fx (gp X) X.base Γ lvl c.consts c.kt) {e : Expr} (h : chk Γ lvl c false (.lc own t it k b) [e] = true) :
    ∃ elt tg iter ifs scope pos, e = .ListComp elt [⟨tg, iter, ifs, 0⟩] scope pos ∧ PI X tg iter (iOf (gp X) W fun ρ => (den Γ it ρ).eo) ∧ BlkOk X.N X.env.scope scope own ∧
      (∀ (s : Shared) (H : Hp) (C : Addr) (cl : List (Str × Addr)) (fp : List Addr), PG (X.blk s H scope (compEnvC scope cl C X.env) fp) tg (gOf (gp X) t)) ∧
      (∀ (s : Shared) (H : Hp) (C : Addr) (cl : List (Str × Addr)) (fp : List Addr), PTs (X.blk s H scope (compEnvC scope cl C X.env) fp) ifs (tTest (tOf (gp X) W0 fun ρ => (den Γ k ρ).eo))) ∧
      (∀ (s : Shared) (H : Hp) (C : Addr) (cl : List (Str × Addr)) (fp : List Addr), PE (X.blk s H scope (compEnvC scope cl C X.env) fp) elt (tOf (gp X) W0 fun ρ => (den Γ b ρ).eo)) ∧
      (∀ x, foldedSetIterable iter X.env x = pure x) ∧ ∀ σ H Q, tOf (gp X) W (fun ρ => (den Γ (.lc own t it k b) ρ).eo) σ H Q → tLc (iOf (gp X) W fun ρ => (den Γ it ρ).eo) (gOf (gp X) t) (tTest (tOf (gp X) W0 fun ρ => (den Γ k ρ).eo)) (tOf (gp X) W0 fun ρ => (den Γ b ρ).eo) (own.map (·.2)) σ H Q := by
  simp only [chk] at h
  split at h
  · rename_i elt tg iter ifs scope pos heq
    cases heq
    simp only [Bool.and_eq_true] at h
    obtain ⟨⟨⟨⟨⟨⟨⟨⟨h1, h2⟩, h3⟩, h4⟩, h5⟩, h6⟩, h7⟩, h8⟩, h9⟩ := h
    have ok : BlkOk X.N X.env.scope scope own := by
      rw [cx.N, cx.sc]; exact blkOk_by h2
    refine ⟨elt, tg, iter, ifs, scope, pos, rfl, hi tg iter h7, ok, fun s H C cl fp => ?_, fun s H C cl fp => ?_, fun s H C cl fp => ?_, fold_ok h1 _, fun σ H Q h => ?_⟩
    · exact (pg_s (blk_ok cx s H scope cl C fp) t).1 tg h5 h6
    · have cb := blk_ok cx s H scope cl C fp
      have fb : Fx (gp (X.blk s H scope (compEnvC scope cl C X.env) fp)) (X.blk s H scope (compEnvC scope cl C X.env) fp).base Γ lvl (c.blk scope).consts (c.blk scope).kt := fx
      have ck := hk _ W0 _ cb fb
      rcases ifs with _ | ⟨e, _ | ⟨e2, es⟩⟩
      · have : k = .cst (.bool true) := by
          cases k with
          | cst d => cases d with
            | bool b => cases b with
              | true => rfl
              | false => cases h8
            | _ => cases h8
          | _ => cases h8
        subst this
        refine ⟨fun pins s σ H Q I q => pts_nil.run pins s σ H Q I ?_⟩
        obtain ⟨H0, ρ, re, kk⟩ := q
        obtain ⟨b, e, q⟩ := kk (.bl true) H0 H re .refl (.bl true) trivial
        cases e; exact q
      · simp only [Bool.and_eq_true] at h8
        exact pts_one (ck.pt e h8.2 h8.1)
      · cases h8
    · have cb := blk_ok cx s H scope cl C fp
      exact (hb _ W0 _ cb fx).pe elt h9
    · refine lc_s (vs := own.map (·.2)) (fun i hi => ?_) h
      have := List.all_eq_true.mp h3 i hi
      exact List.contains_iff_mem.mp this
  · cases h
theorem cl_lc (own : List (Str × Nat)) (t : Tg) {it k b : P} (hk : ∀ X W c, CxOk X W c → Fx (gp X) X.base Γ lvl c.consts c.kt → Cl Γ lvl c X W k) (hb : ∀ X W c, CxOk X W c → Fx (gp X) X.base Γ lvl c.consts c.kt → Cl Γ lvl c X W b)
    (hi : ∀ tg e, chkI Γ lvl c it tg e = true → PI X tg e (iOf (gp X) W fun ρ => (den Γ it ρ).eo)) (cx : CxOk X W c) (fx : Fx (gp X) X.base Γ lvl c.consts c.kt) : Cl Γ lvl c X W (.lc own t it k b) := by
  refine cl_plain (fun e h => ?_) (fun e h => ?_) (fun _ _ _ => by simp only [chk]) rfl
  · obtain ⟨elt, tg, iter, ifs, scope, pos, rfl, q1, q2, q3, q4, q5, q6, q7⟩ := lc_parts own t hk hb hi cx fx h
    exact PE.imp (pe_lc cx.calm cx.nd q1 q2 q3 q4 q5 q6) q7
  · obtain ⟨elt, tg, iter, ifs, scope, pos, rfl, _⟩ := lc_parts own t hk hb hi cx fx h
    exact fun _ _ => rfl
end
end RL

namespace RL
open PySem PySem.Spec L2
section
variable {G : Gp} {W : WX} {σ σ' : St} {ρ ρ' ρ1 ρ2 : Env} {H0 H H01 H1 H02 H2 H0' H' : Hp} {Q : VK}
theorem rg_rps (i j : Int) : Rps G H0 (rgV i j) (rangeD i j) := by
  unfold rgV rangeD
  generalize List.range (j - i).toNat = l
  induction l with
  | nil => exact .nil
  | cons k l ih => exact .cons (.int _) ih
theorem rngC_s {fs : Env → R} {f : D → Option T} (h : tOf G W (fun ρ => (((fs ρ).bA (opN rngD)).b1 fun t ρ1 => op1 f t ρ1).eo) σ H Q) :
    aOf G W fs σ H fun vs H1 => ∃ i j : Int, (∃ ρ0 ts ρ', fs ρ0 = .ok ts ρ' ∧ vs.length = ts.length) ∧ (vs = [.int j] ∧ i = 0 ∨ vs = [.int i, .int j]) ∧ RgOk i j ∧ ∃ H01 t, Same H01 H1 ∧ f (.list (rangeD i j)) = some t ∧ VOut G H01 H1 t Q := by
  obtain ⟨H0, ρ, re, k⟩ := h
  refine ⟨H0, ρ, re, ?_⟩
  dsimp only at k
  rw [eo_b1, eo_bA] at k
  cases e1 : fs ρ with
  | no => rw [e1] at k; exact k
  | ex e ρ' => rw [e1] at k; exact k
  | ok ts ρ1 =>
    rw [e1] at k
    intro vs H01 H1 re1 st1 rts frs
    simp only at k
    unfold opN at k
    cases e2 : vals ts ρ1 with
    | none => rw [e2] at k; exact False.elim k
    | some ds =>
      rw [e2] at k
      simp only [give_eo] at k
      have rv := vals_rv re1 rts e2
      have fin : ∀ i j : Int, rngD ds = some (.p (.list (rangeD i j))) → ∃ t, f (.list (rangeD i j)) = some t ∧ VOut G H01 H1 t Q := by
        intro i j e3
        rw [e3] at k
        simp only [op1, T.val] at k
        cases e4 : f (.list (rangeD i j)) with
        | none => rw [e4] at k; exact False.elim k
        | some t => rw [e4] at k; exact ⟨t, rfl, vout_of (v := .non) re1 st1 k⟩
      cases e3 : rngD ds with
      | none => rw [e3] at k; exact False.elim k
      | some t' =>
        rcases ds with _ | ⟨d, _ | ⟨d2, _ | ⟨d3, ds⟩⟩⟩
        · cases e3
        · cases d <;> simp only [rngD] at e3 <;> first | (cases e3; done) | skip
          rename_i j
          split at e3
          · rename_i hj
            obtain ⟨v, rfl, r1⟩ := paired1 rv
            cases r1.int
            have h2 : (2 : Int) ^ 24 < 2 ^ 62 := by decide
            obtain ⟨t, q1, q2⟩ := fin 0 j (by simp only [rngD]; rw [if_pos hj])
            have hn : (j - 0).toNat ≤ 2 ^ 24 := by
              have : ((2 : Nat) ^ 24 : Int) = (2 : Int) ^ 24 := by decide
              omega
            exact ⟨0, j, ⟨_, _, _, e1, Paired.length rts⟩, .inl ⟨rfl, rfl⟩, ⟨by decide, by decide, hj.1, by omega, hn⟩, H01, t, re1.sub, q1, q2⟩
          · cases e3
        · cases d <;> cases d2 <;> simp only [rngD] at e3 <;> first | (cases e3; done) | skip
          rename_i i j
          split at e3
          · rename_i hj
            obtain ⟨v, u, rfl, r1, r2⟩ := paired2 rv
            cases r1.int
            cases r2.int
            obtain ⟨t, q1, q2⟩ := fin i j (by simp only [rngD]; rw [if_pos hj])
            exact ⟨i, j, ⟨_, _, _, e1, Paired.length rts⟩, .inr rfl, hj, H01, t, re1.sub, q1, q2⟩
          · cases e3
        · cases d <;> cases d2 <;> simp only [rngD] at e3 <;> cases e3
end
section
variable {X : Cx} {W : WX} {c : Cfg} {Γ : Nat → Option Fn} {lvl : Nat → Nat}
theorem arg1_s {a : P} {σ : St} {H : Hp} {Q : List V → Hp → Prop} (h : aOf (gp X) W (den Γ (.cons a .nil)) σ H Q) : tOf (gp X) W (fun ρ => (den Γ a ρ).eo) σ H fun x H1 => Q [x] H1 :=
  (args_cons_s h).mono fun x H1 q => args_nil_s q
theorem arg2_s {a b : P} {σ : St} {H : Hp} {Q : List V → Hp → Prop} (h : aOf (gp X) W (den Γ (.cons a (.cons b .nil))) σ H Q) : tOf (gp X) W (fun ρ => (den Γ a ρ).eo) σ H fun x H1 => tOf (gp X) W (fun ρ => (den Γ b ρ).eo) σ H1 fun y H2 => Q [x, y] H2 :=
  (args_cons_s h).mono fun x H1 q => arg1_s q
theorem len1 {a : P} : ∀ ρ ts ρ', den Γ (.cons a .nil) ρ = .ok ts ρ' → ts.length = 1 := fun _ _ _ h => len_cons (fun _ _ _ h => len_nil h) h
theorem len2 {a b : P} : ∀ ρ ts ρ', den Γ (.cons a (.cons b .nil)) ρ = .ok ts ρ' → ts.length = 2 := fun _ _ _ h => len_cons len1 h
theorem rg_s {f : D → Option T} {p : P} {e : Expr} (cx : CxOk X W c) (fx : Fx (gp X) X.base Γ lvl c.consts c.kt) (h : chkR Γ lvl c p e = true) (hp : ∀ q, sizeOf q < sizeOf p → Cl Γ lvl c X W q) :
    ∃ te, PRg X e te ∧ ∀ σ H Q, tOf (gp X) W (fun ρ => ((den Γ p ρ).b1 fun t ρ1 => op1 f t ρ1).eo) σ H Q → ∀ K : Int → Int → Hp → Prop, (∀ i j H1, RgOk i j → (∃ H01 t, Same H01 H1 ∧ f (.list (rangeD i j)) = some t ∧ VOut (gp X) H01 H1 t Q) → K i j H1) → te σ H K := by
  have hm : X.mg "range" = none := fx.blt _ (by decide +kernel)
  cases p with
  | rng as =>
    cases as with
    | cons a r =>
      cases r with
      | nil =>
        simp only [chkR] at h
        split at h
        · simp only [Bool.and_eq_true, beq_iff_eq] at h
          obtain ⟨⟨⟨rfl, hg⟩, hn⟩, ha⟩ := h
          refine ⟨_, prg_1 (gl_of cx hg).1 hm ((hp _ (by simp; omega)).pe _ ha) (starE hn), fun σ H Q h K hK => ?_⟩
          refine (arg1_s (rngC_s h)).mono fun x H1 ⟨i, j, ⟨r0, ts, r1, e1, ln⟩, e, b, q⟩ => ?_
          rcases e with ⟨e, rfl⟩ | e
          · cases e; exact ⟨j, rfl, hK _ _ _ b q⟩
          · cases e
        · cases h
      | cons b r2 =>
        cases r2 with
        | nil =>
          simp only [chkR] at h
          split at h
          · simp only [Bool.and_eq_true, beq_iff_eq] at h
            obtain ⟨⟨⟨⟨⟨rfl, hg⟩, hn⟩, hn2⟩, ha⟩, hb⟩ := h
            refine ⟨_, prg_2 (gl_of cx hg).1 hm ((hp _ (by simp; omega)).pe _ ha) ((hp _ (by simp; omega)).pe _ hb) (starE hn) (starE hn2) (noStar (by simp [hn2])), fun σ H Q h K hK => ?_⟩
            refine (arg2_s (rngC_s h)).mono fun x H1 h1 => h1.mono fun y H2 ⟨i, j, ⟨r0, ts, r1, e1, ln⟩, e, b, q⟩ => ?_
            rcases e with ⟨e, rfl⟩ | e
            · cases e
            · cases e; exact ⟨i, j, rfl, rfl, hK _ _ _ b q⟩
          · cases h
        | _ => cases h
      | _ => cases h
    | _ => cases h
  | _ => cases h
theorem cl_tupR (cx : CxOk X W c) (fx : Fx (gp X) X.base Γ lvl c.consts c.kt) {a : P} (ha : ∀ q, sizeOf q < sizeOf a → Cl Γ lvl c X W q) : Cl Γ lvl c X W (.tupR a) := by
  refine cl_plain (fun e h => ?_) (fun e h => ?_) (fun _ _ _ => by simp only [chk]) rfl
  · simp only [chk] at h
    split at h
    · rename_i heq
      cases heq
      simp only [Bool.and_eq_true, beq_iff_eq] at h
      obtain ⟨⟨⟨rfl, hg⟩, hn⟩, hr⟩ := h
      obtain ⟨te, hp, imp⟩ := rg_s (f := tupD) cx fx hr ha
      refine PE.imp (pe_tupRg cx.calm (gl_of cx hg).1 (fx.blt _ (by decide +kernel)) hp (starE hn)) fun σ H Q h => ?_
      refine imp σ H Q h _ fun i j H1 b ⟨H01, t, sm, e, o⟩ => ⟨b, fun q hq => ?_⟩
      cases e
      exact o.newT sm (rg_rps i j) q hq
    · cases h
  · simp only [chk] at h
    split at h
    · rename_i heq
      cases heq
      exact fun _ _ => rfl
    · cases h
theorem cl_lstR (cx : CxOk X W c) (fx : Fx (gp X) X.base Γ lvl c.consts c.kt) {a : P} (ha : ∀ q, sizeOf q < sizeOf a → Cl Γ lvl c X W q) : Cl Γ lvl c X W (.lstR a) := by
  refine cl_plain (fun e h => ?_) (fun e h => ?_) (fun _ _ _ => by simp only [chk]) rfl
  · simp only [chk] at h
    split at h
    · rename_i heq
      cases heq
      simp only [Bool.and_eq_true, beq_iff_eq] at h
      obtain ⟨⟨⟨rfl, hg⟩, hn⟩, hr⟩ := h
      obtain ⟨te, hp, imp⟩ := rg_s (f := lstD) cx fx hr ha
      refine PE.imp (pe_listRg cx.calm (gl_of cx hg).1 (fx.blt _ (by decide +kernel)) hp (starE hn)) fun σ H Q h => ?_
      refine imp σ H Q h _ fun i j H1 b ⟨H01, t, sm, e, o⟩ => ⟨b, fun q hq => ?_⟩
      cases e
      exact o.newL sm (rg_rps i j) q hq
    · cases h
  · simp only [chk] at h
    split at h
    · rename_i heq
      cases heq
      exact fun _ _ => rfl
    · cases h
end
end RL

namespace RL
open PySem PySem.Spec L2
section
variable {Γ : Nat → Option Fn} {lvl : Nat → Nat}
def ClA (Γ : Nat → Option Fn) (lvl : Nat → Nat) (p : P) : Prop := ∀ (X : Cx) (W : WX) (c : Cfg), CxOk X W c → Fx (gp X) X.base Γ lvl c.consts c.kt → Cl Γ lvl c X W p
def PiA (Γ : Nat → Option Fn) (lvl : Nat → Nat) (p : P) : Prop := ∀ (X : Cx) (W : WX) (c : Cfg), CxOk X W c → Fx (gp X) X.base Γ lvl c.consts c.kt → ∀ tg e, chkI Γ lvl c p tg e = true → PI X tg e (iOf (gp X) W fun ρ => (den Γ p ρ).eo)
theorem pi_dead {p : P} (h : ∀ c tg e, chkI Γ lvl c p tg e = false) : PiA Γ lvl p := fun X W c cx fx tg e k => by rw [h] at k; cases k
theorem pia_itr {a : P} (ha : ClA Γ lvl a) : PiA Γ lvl (.itr a) := fun X W c cx fx tg e k => by
  simp only [chkI] at k
  exact pi_itr ((ha X W c cx fx).pe e k)
theorem pia_rng {as : P} (ha : ClA Γ lvl as) : PiA Γ lvl (.rng as) := fun X W c cx fx tg e k => by
  have hm : X.mg "range" = none := fx.blt _ (by decide +kernel)
  simp only [chkI] at k
  split at k
  · simp only [Bool.and_eq_true, beq_iff_eq] at k
    obtain ⟨⟨⟨⟨rfl, hg⟩, hl⟩, hn⟩, hk⟩ := k
    refine pi_rng1 (gl_of cx hg).1 hm ((ha X W c cx fx).pa hl _ hk) hn fun ρ ts ρ' h => ?_
    cases as with
    | nil => simp [chk] at hk
    | cons a r =>
      cases r with
      | nil => exact len1 ρ ts ρ' h
      | cons b r2 => simp [chk] at hk
      | _ => simp [chk, P.isL] at hk
    | _ => cases hl
  · simp only [Bool.and_eq_true, beq_iff_eq] at k
    obtain ⟨⟨⟨⟨⟨rfl, hg⟩, hl⟩, hn⟩, hn2⟩, hk⟩ := k
    refine pi_rng2 (gl_of cx hg).1 hm ((ha X W c cx fx).pa hl _ hk) hn hn2 fun ρ ts ρ' h => ?_
    cases as with
    | nil => simp [chk] at hk
    | cons a r =>
      cases r with
      | nil => simp [chk] at hk
      | cons b r2 =>
        cases r2 with
        | nil => exact len2 ρ ts ρ' h
        | cons b r2 => simp [chk] at hk
        | _ => simp [chk, P.isL] at hk
      | _ => simp [chk, P.isL] at hk
    | _ => cases hl
  · cases k
theorem pia_enm {a : P} (ha : ClA Γ lvl a) : PiA Γ lvl (.enm a) := fun X W c cx fx tg e k => by
  simp only [chkI] at k
  split at k
  · simp only [Bool.and_eq_true, beq_iff_eq] at k
    obtain ⟨⟨⟨⟨rfl, hg⟩, hn⟩, hk⟩, ht⟩ := k
    exact pi_enm (gl_of cx hg).1 (fx.blt _ (by decide +kernel)) ((ha X W c cx fx).pe _ hk) hn ht
  · cases k
theorem pia_zip {a b : P} (ha : ClA Γ lvl a) (hb : ClA Γ lvl b) : PiA Γ lvl (.zip a b) := fun X W c cx fx tg e k => by
  simp only [chkI] at k
  split at k
  · simp only [Bool.and_eq_true, beq_iff_eq] at k
    obtain ⟨⟨⟨⟨⟨⟨rfl, hg⟩, hn⟩, hn2⟩, hk⟩, hk2⟩, ht⟩ := k
    exact pi_zip2 (gl_of cx hg).1 (fx.blt _ (by decide +kernel)) ((ha X W c cx fx).pe _ hk) ((hb X W c cx fx).pe _ hk2) hn hn2 ht
  · cases k
theorem share_s {G : Gp} {W : WX} {σ : St} {H : Hp} {Q : VK} {fa : Env → R} (h : tOf G W (fun ρ => (sealR (fa ρ) fun d => some (.p d)).eo) σ H Q) : tOf G W (fun ρ => (fa ρ).eo) σ H Q := by
  obtain ⟨H0, ρ, re, k⟩ := h
  replace k : kOf G W (sealR (fa ρ) fun d => some (.p d)).eo σ ρ H0 H Q := k
  rw [eo_sealR] at k
  refine ⟨H0, ρ, re, ?_⟩
  show kOf G W (fa ρ).eo σ ρ H0 H Q
  cases e1 : (fa ρ).eo with
  | no => rw [e1] at k; exact k
  | ex e ρ' => rw [e1] at k; exact k
  | ok t ρ1 =>
    rw [e1] at k
    cases e2 : t.seal ρ1 with
    | none => simp only [e2] at k; exact False.elim k
    | some q =>
      obtain ⟨d, ρ2⟩ := q
      simp only [e2] at k
      intro v H01 H1 re1 st1 rt1 fr1
      obtain ⟨H02, re2, st2, rp, sm, _⟩ := seal_s re1 st1 rt1.w fr1 e2
      exact k v H02 H1 re2 st2 rp trivial
theorem cl_sh {X : Cx} {W : WX} {c : Cfg} {a : P} (ca : Cl Γ lvl c X W a) : Cl Γ lvl c X W (.sh a) := by
  refine cl_plain (fun e k => ?_) (fun e k => ?_) (fun _ _ _ => by simp only [chk]) rfl
  · simp only [chk] at k
    split at k
    · rename_i heq
      cases heq
      exact PE.imp (ca.pe _ k) fun σ H Q h => share_s h
    · cases k
  · simp only [chk] at k
    split at k
    · rename_i heq
      cases heq
      exact fun _ _ => rfl
    · cases k
theorem pk_imp {X : Cx} {kws : List Keyword} {t t' : TA} (h : PK X kws t) (i : ∀ σ H Q, t' σ H Q → t σ H Q) : PK X kws t' := ⟨fun pos pins s σ H Q I q => h.run pos pins s σ H Q I (i σ H Q q)⟩
theorem pk_of {X : Cx} {W : WX} {c : Cfg} : ∀ (as : P) (kws : List Keyword), (∀ q, sizeOf q < sizeOf as → Cl Γ lvl c X W q) → as.isL = true → chk Γ lvl c true as (kws.map (·.value)) = true → PK X kws (aOf (gp X) W (den Γ as))
  | .nil, [], _, _, _ => pk_imp pk_nil fun σ H Q h => args_nil_s h
  | .nil, _ :: _, _, _, k => by simp [chk] at k
  | .cons a as, [], _, _, k => by simp [chk] at k
  | .cons a as, ⟨nm, e, p⟩ :: kws, ha, _, k => by
    simp only [chk, List.map_cons, Bool.and_eq_true] at k
    have ih := pk_of as kws (fun q hq => ha q (by simp; omega)) k.1.2 k.2
    exact pk_imp (pk_cons ((ha a (by simp; omega)).pe _ k.1.1.2) ih) fun σ H Q h => args_cons_s h
theorem kw_names (pos : Pos) (env : PySem.Env) : ∀ kws : List Keyword, (backToKw pos (keywordEach kws env)).map (·.1) = kws.map (·.arg)
  | [] => rfl
  | ⟨nm, e, p⟩ :: kws => by
    have ih := kw_names pos env kws
    show nm :: (backToKw pos (keywordEach kws env)).map (·.1) = _
    rw [ih]; rfl
theorem map_some {α β : Type} {l : List (Option α × β)} {ks : List α} (h : l.map (·.1) = ks.map some) : l.all (·.1.isSome) = true ∧ l.filterMap (·.1) = ks ∧ l.any (·.1.isNone) = false := by
  induction l generalizing ks with
  | nil =>
    cases ks with
    | nil => exact ⟨rfl, rfl, rfl⟩
    | cons k ks => cases h
  | cons x l ih =>
    cases ks with
    | nil => cases h
    | cons k ks =>
      simp only [List.map_cons, List.cons.injEq] at h
      obtain ⟨a, b, c⟩ := ih h.2
      obtain ⟨x1, x2⟩ := x
      simp only at h
      obtain ⟨rfl, _⟩ := h
      exact ⟨by simp [a], by simp [b], by simp [c]⟩
theorem cl_callK {X : Cx} {W : WX} {c : Cfg} (cx : CxOk X W c) (fx : Fx (gp X) X.base Γ lvl c.consts c.kt) (k : Nat) (ks : List Str) (js : List Nat) {as : P} (ha : ∀ q, sizeOf q < sizeOf as → Cl Γ lvl c X W q) : Cl Γ lvl c X W (.callK k ks js as) := by
  refine cl_plain (fun e h => ?_) (fun e h => ?_) (fun _ _ _ => by simp only [chk]) rfl
  · simp only [chk] at h
    split at h
    · rename_i x _ kws _ heq
      cases heq
      simp only [Bool.and_eq_true, beq_iff_eq] at h
      obtain ⟨⟨⟨⟨⟨h1, hg⟩, ht⟩, hn⟩, hl⟩, hk⟩ := h
      cases hΓ : Γ k with
      | none => rw [hΓ] at h1; cases h1
      | some g =>
        rw [hΓ] at h1
        simp only [Bool.and_eq_true, beq_iff_eq, decide_eq_true_eq] at h1
        obtain ⟨rfl, hlv⟩ := h1
        obtain ⟨f, fd, ps, m1, m2, m3, m4⟩ := fx.kwb (k, ks, js) (List.contains_iff_mem.mp ht) g hΓ
        obtain ⟨g1, g2, g3⟩ := gl_of cx hg
        obtain ⟨q1, q2, q3⟩ := map_some ((kw_names _ _ kws).trans hn)
        refine PE.imp (pe_callK0 m3 (cx.room.mono hlv) g1 m1 m2 m4 (fun σ => passAt cx.takes σ) (pk_of as kws ha hl hk) q1 q2 g3 (by rw [q3]; rfl)) fun σ H Q h => ?_
        have h' : tOf (gp X) W (fun ρ => ((den Γ as ρ).bA fun ts ρ1 => match permT js ts with
            | some us => callX g us ρ1
            | none => .no).eo) σ H Q := by
          have : (fun ρ => (den Γ (.callK k ks js as) ρ).eo) = fun ρ => ((den Γ as ρ).bA fun ts ρ1 => match permT js ts with
            | some us => callX g us ρ1
            | none => .no).eo := by
            funext ρ
            simp only [den, hΓ] <;> rfl
          rw [← this]; exact h
        exact perm_s h'
    · cases h
  · simp only [chk] at h
    split at h
    · rename_i heq
      cases heq
      exact fun _ _ => rfl
    · cases h
theorem pia_rgs {as : P} (ha : ClA Γ lvl as) : PiA Γ lvl (.rgs as) := fun X W c cx fx tg e k => by
  have hm : X.mg "range" = none := fx.blt _ (by decide +kernel)
  simp only [chkI] at k
  split at k
  · simp only [Bool.and_eq_true, beq_iff_eq] at k
    obtain ⟨⟨⟨⟨⟨⟨rfl, hg⟩, hl⟩, hn⟩, hn2⟩, hn3⟩, hk⟩ := k
    exact pi_rgs (gl_of cx hg).1 hm ((ha X W c cx fx).pa hl _ hk) hn hn2 hn3
  · cases k
theorem pia_rgr {a : P} (ha : ClA Γ lvl a) : PiA Γ lvl (.rgr a) := fun X W c cx fx tg e k => by
  simp only [chkI] at k
  split at k
  · simp only [Bool.and_eq_true, beq_iff_eq] at k
    obtain ⟨⟨⟨⟨⟨rfl, hg⟩, rfl⟩, hg2⟩, hn⟩, hk⟩ := k
    exact pi_rgr (gl_of cx hg).1 (fx.blt _ (by decide +kernel)) (gl_of cx hg2).1 (fx.blt _ (by decide +kernel)) ((ha X W c cx fx).pe _ hk) hn
  · cases k
theorem chk_both : ∀ p : P, ClA Γ lvl p ∧ PiA Γ lvl p
  | .var i => ⟨fun X W c cx fx => cl_var cx i, pi_dead fun _ _ _ => by simp only [chkI]⟩
  | .dct z => ⟨fun X W c cx fx => cl_dct z, pi_dead fun _ _ _ => by simp only [chkI]⟩
  | .sh a => ⟨fun X W c cx fx => cl_sh ((chk_both a).1 X W c cx fx), pi_dead fun _ _ _ => by simp only [chkI]⟩
  | .mxd a d => ⟨fun X W c cx fx => cl_mxd cx fx ((chk_both a).1 X W c cx fx) ((chk_both d).1 X W c cx fx), pi_dead fun _ _ _ => by simp only [chkI]⟩
  | .callK k ks js as => ⟨fun X W c cx fx => cl_callK cx fx k ks js fun q hq => (chk_both q).1 X W c cx fx, pi_dead fun _ _ _ => by simp only [chkI]⟩
  | .rgs as => ⟨fun X W c cx fx => cl_dead fun _ _ => by simp only [chk], pia_rgs (chk_both as).1⟩
  | .rgr a => ⟨fun X W c cx fx => cl_dead fun _ _ => by simp only [chk], pia_rgr (chk_both a).1⟩
  | .cst d => ⟨fun X W c cx fx => cl_cst d, pi_dead fun _ _ _ => by simp only [chkI]⟩
  | .glo x z => ⟨fun X W c cx fx => cl_glo cx fx x z, pi_dead fun _ _ _ => by simp only [chkI]⟩
  | .bin op a b => ⟨fun X W c cx fx => cl_bin op ((chk_both a).1 X W c cx fx) ((chk_both b).1 X W c cx fx), pi_dead fun _ _ _ => by simp only [chkI]⟩
  | .neg a => ⟨fun X W c cx fx => cl_neg ((chk_both a).1 X W c cx fx), pi_dead fun _ _ _ => by simp only [chkI]⟩
  | .cmp op a b => ⟨fun X W c cx fx => cl_cmp cx op ((chk_both a).1 X W c cx fx) ((chk_both b).1 X W c cx fx), pi_dead fun _ _ _ => by simp only [chkI]⟩
  | .chn op op' a b d => ⟨fun X W c cx fx => cl_chn cx op op' ((chk_both a).1 X W c cx fx) ((chk_both b).1 X W c cx fx) ((chk_both d).1 X W c cx fx), pi_dead fun _ _ _ => by simp only [chkI]⟩
  | .and a b => ⟨fun X W c cx fx => cl_and ((chk_both a).1 X W c cx fx) ((chk_both b).1 X W c cx fx), pi_dead fun _ _ _ => by simp only [chkI]⟩
  | .or a b => ⟨fun X W c cx fx => cl_or ((chk_both a).1 X W c cx fx) ((chk_both b).1 X W c cx fx), pi_dead fun _ _ _ => by simp only [chkI]⟩
  | .not a => ⟨fun X W c cx fx => cl_not ((chk_both a).1 X W c cx fx), pi_dead fun _ _ _ => by simp only [chkI]⟩
  | .ite k a b => ⟨fun X W c cx fx => cl_ite ((chk_both k).1 X W c cx fx) ((chk_both a).1 X W c cx fx) ((chk_both b).1 X W c cx fx), pi_dead fun _ _ _ => by simp only [chkI]⟩
  | .tup as => ⟨fun X W c cx fx => cl_tup ((chk_both as).1 X W c cx fx), pi_dead fun _ _ _ => by simp only [chkI]⟩
  | .lst as => ⟨fun X W c cx fx => cl_lst ((chk_both as).1 X W c cx fx), pi_dead fun _ _ _ => by simp only [chkI]⟩
  | .nil => ⟨fun X W c cx fx => cl_nil, pi_dead fun _ _ _ => by simp only [chkI]⟩
  | .cons a as => ⟨fun X W c cx fx => cl_cons ((chk_both a).1 X W c cx fx) ((chk_both as).1 X W c cx fx), pi_dead fun _ _ _ => by simp only [chkI]⟩
  | .idx a i => ⟨fun X W c cx fx => cl_idx ((chk_both a).1 X W c cx fx) ((chk_both i).1 X W c cx fx), pi_dead fun _ _ _ => by simp only [chkI]⟩
  | .slc a lo hi => ⟨fun X W c cx fx => cl_slc ((chk_both a).1 X W c cx fx) ((chk_both lo).1 X W c cx fx) ((chk_both hi).1 X W c cx fx), pi_dead fun _ _ _ => by simp only [chkI]⟩
  | .prim k as => ⟨fun X W c cx fx => cl_prim cx fx k ((chk_both as).1 X W c cx fx), pi_dead fun _ _ _ => by simp only [chkI]⟩
  | .isa ty a => ⟨fun X W c cx fx => cl_isa cx fx ty ((chk_both a).1 X W c cx fx), pi_dead fun _ _ _ => by simp only [chkI]⟩
  | .lset a => ⟨fun X W c cx fx => cl_lset cx fx ((chk_both a).1 X W c cx fx), pi_dead fun _ _ _ => by simp only [chkI]⟩
  | .call k as => ⟨fun X W c cx fx => cl_call cx fx k ((chk_both as).1 X W c cx fx), pi_dead fun _ _ _ => by simp only [chkI]⟩
  | .itr a => ⟨fun X W c cx fx => cl_dead fun _ _ => by simp only [chk], pia_itr (chk_both a).1⟩
  | .rng as => ⟨fun X W c cx fx => cl_dead fun _ _ => by simp only [chk], pia_rng (chk_both as).1⟩
  | .enm a => ⟨fun X W c cx fx => cl_dead fun _ _ => by simp only [chk], pia_enm (chk_both a).1⟩
  | .zip a b => ⟨fun X W c cx fx => cl_dead fun _ _ => by simp only [chk], pia_zip (chk_both a).1 (chk_both b).1⟩
  | .tupR a => ⟨fun X W c cx fx => cl_tupR cx fx fun q hq => (chk_both q).1 X W c cx fx, pi_dead fun _ _ _ => by simp only [chkI]⟩
  | .lstR a => ⟨fun X W c cx fx => cl_lstR cx fx fun q hq => (chk_both q).1 X W c cx fx, pi_dead fun _ _ _ => by simp only [chkI]⟩
  | .lc own t it k b => ⟨fun X W c cx fx => cl_lc own t (chk_both k).1 (chk_both b).1 ((chk_both it).2 X W c cx fx) cx fx, pi_dead fun _ _ _ => by simp only [chkI]⟩
termination_by p => sizeOf p
end
end RL

namespace RL
open PySem PySem.Spec L2
inductive SO where
  | nx (ρ : Env) | rt (t : T) (ρ : Env) | bk (ρ : Env) | ct (ρ : Env) | ex (e : Ex) (ρ : Env) | no
inductive S where
  | nop
  | asg (t : Tg) (e : P)
  | par (i j : Nat) (a b : P)
  | setL (i : Nat) (k e : P)
  | aug (op : Operator) (i : Nat) (e : P)
  | app (i : Nat) (e : P)
  | exp (e : P)
  | ret (e : P) | retN
  | iff (c : P) (a b : S)
  | whl (c : P) (b : S)
  | frr (t : Tg) (it : P) (b : S)
  | brk | cont
  | rse (cls : Str)
  | tryM (b hs : S)
  | hd (x : Str) (known : List (Str × Bool)) (h rest : S)
  | nil | cons (a b : S)
def R.st (r : R) (f : T → Env → SO) : SO :=
  match r with
  | .ok [t] ρ => f t ρ
  | .ok _ _ => .no
  | .ex e ρ => .ex e ρ
  | .no => .no
def storeS (t : Tg) (v : T) (ρ : Env) : SO :=
  match t, v with
  | .nm i, .f d => if i < ρ.length then .nx (ρ.set i (.ow d)) else .no
  | t, v =>
    match v.seal ρ with
    | some (d, ρ1) => (match t.bind d ρ1 with | some ρ2 => .nx ρ2 | none => .no)
    | none => .no
def parS (i j : Nat) (r : R) : SO :=
  match r with
  | .ok ts ρ =>
    match sealAll ts ρ with
    | some ([d, e], ρ1) => if i < ρ1.length ∧ j < ρ1.length then .nx ((ρ1.set i (.pu d)).set j (.pu e)) else .no
    | _ => .no
  | .ex e ρ => .ex e ρ
  | .no => .no
def ownL (ρ : Env) (i : Nat) : Option (List D) :=
  match ρ[i]? with
  | some (.ow (.list ds)) => some ds
  | _ => none
def setS (i : Nat) (t k : T) (ρ : Env) : SO :=
  match (k.val ρ).bind intOf, t.seal ρ with
  | some z, some (d, ρ1) =>
    match ownL ρ1 i with
    | some ds => (match ixN ds.length z with | some n => .nx (ρ1.set i (.ow (.list (ds.set n d)))) | none => .no)
    | none => .no
  | _, _ => .no
def appS (i : Nat) (t : T) (ρ : Env) : SO :=
  match t.seal ρ with
  | some (d, ρ1) =>
    match ownL ρ1 i with
    | some ds => if ds.length < 16777216 then .nx (ρ1.set i (.ow (.list (ds ++ [d])))) else .no
    | none => .no
  | none => .no
def augD : Operator → D → D → Option D
  | .Add, .int i, .int j => some (.int (i + j))
  | .Sub, .int i, .int j => some (.int (i - j))
  | .Mult, .int i, .int j => if mulOk i j = true then some (.int (i * j)) else none
  | _, _, _ => none
def augS (op : Operator) (i : Nat) (d : D) (t : T) (ρ : Env) : SO :=
  match t.val ρ with
  | some e => (match augD op d e with | some r => if i < ρ.length then .nx (ρ.set i (.pu r)) else .no | none => .no)
  | none => .no
def tstS (r : R) (f : Bool → Env → SO) : SO := r.st fun t ρ =>
  match (t.val ρ).bind boolOf with
  | some b => f b ρ
  | none => .no
def whlGo (c : Env → R) (b : Env → SO) : Nat → Env → SO
  | 0, _ => .no
  | n + 1, ρ => tstS (c ρ) fun k ρ1 =>
    if k = true then
      match b ρ1 with
      | .nx ρ2 => whlGo c b n ρ2
      | .ct ρ2 => whlGo c b n ρ2
      | .bk ρ2 => .nx ρ2
      | o => o
    else .nx ρ1
def SO.ok : SO → Prop
  | .no => False
  | _ => True
open Classical in
noncomputable def whlD (c : Env → R) (b : Env → SO) (ρ : Env) : SO := if h : ∃ n, (whlGo c b n ρ).ok then whlGo c b (Classical.choose h) ρ else .no
def forGo (t : Tg) (b : Env → SO) : List D → Env → SO
  | [], ρ => .nx ρ
  | d :: ds, ρ =>
    match t.bind d ρ with
    | none => .no
    | some ρ1 =>
      match b ρ1 with
      | .nx ρ2 => forGo t b ds ρ2
      | .ct ρ2 => forGo t b ds ρ2
      | .bk ρ2 => .nx ρ2
      | o => o
variable (Γ : Nat → Option Fn)
mutual
noncomputable def denS : S → Env → SO
  | .nop, ρ => .nx ρ
  | .asg t e, ρ => (den Γ e ρ).st fun v ρ1 => storeS t v ρ1
  | .par i j a b, ρ => parS i j (den Γ (.cons a (.cons b .nil)) ρ)
  | .setL i k e, ρ => (den Γ e ρ).st fun t ρ1 => (match ownL ρ1 i with | some _ => (den Γ k ρ1).st fun z ρ2 => setS i t z ρ2 | none => .no)
  | .aug op i e, ρ => (match ρ[i]? with | some (.pu d) => (den Γ e ρ).st fun t ρ1 => augS op i d t ρ1 | _ => .no)
  | .app i e, ρ => (match ownL ρ i with | some _ => (den Γ e ρ).st fun t ρ1 => appS i t ρ1 | none => .no)
  | .exp e, ρ => (den Γ e ρ).st fun _ ρ1 => .nx ρ1
  | .ret e, ρ => (den Γ e ρ).st fun t ρ1 => .rt t ρ1
  | .retN, ρ => .rt (.p .none) ρ
  | .iff c a b, ρ => tstS (den Γ c ρ) fun k ρ1 => if k = true then denS a ρ1 else denS b ρ1
  | .whl c b, ρ => whlD (den Γ c) (denS b) ρ
  | .frr t it b, ρ => (den Γ it ρ).st fun ti ρ1 => (match ti with | .p (.list ds) => forGo t (denS b) ds ρ1 | _ => .no)
  | .brk, ρ => .bk ρ
  | .cont, ρ => .ct ρ
  | .rse cls, ρ => .ex ⟨cls, none⟩ ρ
  | .tryM b hs, ρ =>
    match denS b ρ with
    | .ex e ρ1 => denH hs e ρ1
    | o => o
  | .hd _ _ _ _, _ => .no
  | .nil, ρ => .nx ρ
  | .cons a b, ρ =>
    match denS a ρ with
    | .nx ρ1 => denS b ρ1
    | o => o
/-- the clauses -/
noncomputable def denH : S → Ex → Env → SO
  | .hd _ known h rest, e, ρ =>
    match known.lookup e.cls with
    | some true => denS h ρ
    | some false => denH rest e ρ
    | none => .no
  | .nil, e, ρ => .ex e ρ
  | _, _, _ => .no
end
theorem whlGo_up {c : Env → R} {b : Env → SO} : ∀ {n : Nat} {ρ : Env}, (whlGo c b n ρ).ok → whlGo c b (n + 1) ρ = whlGo c b n ρ := by
  intro n
  induction n with
  | zero => intro ρ h; exact False.elim h
  | succ n ih =>
    intro ρ h
    rw [whlGo] at h
    rw [whlGo, whlGo]
    cases e : c ρ with
    | no => rfl
    | ex e ρ => rfl
    | ok ts ρ1 =>
      rw [e] at h
      rcases ts with _ | ⟨t, _ | ⟨u, ts⟩⟩
      · rfl
      · simp only [tstS, R.st] at h ⊢
        cases e2 : (t.val ρ1).bind boolOf with
        | none => rfl
        | some k =>
          rw [e2] at h
          cases k with
          | false => rfl
          | true =>
            simp only [if_true] at h ⊢
            cases e3 : b ρ1 with
            | nx ρ2 => rw [e3] at h; exact ih h
            | ct ρ2 => rw [e3] at h; exact ih h
            | _ => rfl
      · rfl
theorem whlGo_le {c : Env → R} {b : Env → SO} {n m : Nat} {ρ : Env} (h : (whlGo c b n ρ).ok) (l : n ≤ m) : whlGo c b m ρ = whlGo c b n ρ := by
  induction l with
  | refl => rfl
  | step l ih => rw [whlGo_up (by rw [ih]; exact h), ih]
theorem whlD_of {c : Env → R} {b : Env → SO} {n : Nat} {ρ : Env} (h : (whlGo c b n ρ).ok) : whlD c b ρ = whlGo c b n ρ := by
  have hx : ∃ n, (whlGo c b n ρ).ok := ⟨n, h⟩
  unfold whlD
  rw [dif_pos hx]
  have h2 := Classical.choose_spec hx
  rcases Nat.le_total n (Classical.choose hx) with l | l
  · exact whlGo_le h l
  · exact (whlGo_le h2 l).symm
theorem whlD_ok {c : Env → R} {b : Env → SO} {ρ : Env} (h : (whlD c b ρ).ok) : ∃ n, (whlGo c b n ρ).ok ∧ whlD c b ρ = whlGo c b n ρ := by
  unfold whlD at h ⊢
  split at h
  · rename_i hx
    exact ⟨_, h, by rw [dif_pos hx]⟩
  · exact False.elim h
end RL

namespace RL
open PySem PySem.Spec L2
structure Aft (G : Gp) (fx : List Nat) (σ : St) (ρ : Env) (H0 H : Hp) (σ' : St) (ρ' : Env) (H0' H' : Hp) : Prop where
  re : RE G H0' H' σ' ρ'
  st : Step σ ρ H0 H σ' ρ' H0' H'
  fx : ∀ i ∈ fx, σ'[i]? = σ[i]?
def kS (G : Gp) (W : WX) (fx : List Nat) (o : SO) (D : Ends) (σ : St) (ρ : Env) (H0 H : Hp) : Prop :=
  match o with
  | .nx ρ' => ∀ σ' H0' H', Aft G fx σ ρ H0 H σ' ρ' H0' H' → D.nx σ' H'
  | .bk ρ' => ∀ σ' H0' H', Aft G fx σ ρ H0 H σ' ρ' H0' H' → D.bk σ' H'
  | .ct ρ' => ∀ σ' H0' H', Aft G fx σ ρ H0 H σ' ρ' H0' H' → D.ct σ' H'
  | .rt t ρ' => ∀ v σ' H0' H', Aft G fx σ ρ H0 H σ' ρ' H0' H' → RT G H0' H' σ' ρ' v t → Fresh H v t → D.rt v H'
  | .ex e ρ' => ∀ cls d σ' H0' H', Aft G fx σ ρ H0 H σ' ρ' H0' H' → ExR G H0' H' e cls d → W cls d σ' H'
  | .no => False
def sOf (G : Gp) (W : WX) (fx : List Nat) (f : Env → SO) : TS := fun D σ H => ∃ H0 ρ, RE G H0 H σ ρ ∧ kS G W fx (f ρ) D σ ρ H0 H
section
variable {G : Gp} {W : WX} {fx : List Nat} {D : Ends} {σ σ' σ1 σ2 : St} {ρ ρ' ρ1 ρ2 : Env} {H0 H H01 H1 H02 H2 H0' H' : Hp} {Q : VK}
theorem Aft.refl (re : RE G H0 H σ ρ) : Aft G fx σ ρ H0 H σ ρ H0 H := ⟨re, .refl, fun _ _ => rfl⟩
theorem Aft.of (re : RE G H0' H' σ ρ') (st : Step σ ρ H0 H σ ρ' H0' H') : Aft G fx σ ρ H0 H σ ρ' H0' H' := ⟨re, st, fun _ _ => rfl⟩
theorem Aft.trans (a : Aft G fx σ ρ H0 H σ1 ρ1 H01 H1) (b : Aft G fx σ1 ρ1 H01 H1 σ2 ρ2 H02 H2) : Aft G fx σ ρ H0 H σ2 ρ2 H02 H2 := ⟨b.re, a.st.trans b.st, fun i hi => (b.fx i hi).trans (a.fx i hi)⟩
theorem kS.step {o : SO} (a : Aft G fx σ ρ H0 H σ1 ρ1 H01 H1) (h : kS G W fx o D σ ρ H0 H) : kS G W fx o D σ1 ρ1 H01 H1 := by
  cases o with
  | nx ρ' => exact fun σ' H0' H' b => h σ' H0' H' (a.trans b)
  | bk ρ' => exact fun σ' H0' H' b => h σ' H0' H' (a.trans b)
  | ct ρ' => exact fun σ' H0' H' b => h σ' H0' H' (a.trans b)
  | rt t ρ' => exact fun v σ' H0' H' b rt fr => h v σ' H0' H' (a.trans b) rt (fr.backA a.st)
  | ex e ρ' => exact fun cls d σ' H0' H' b x => h cls d σ' H0' H' (a.trans b) x
  | no => exact h
theorem kS.nx (re : RE G H0' H' σ ρ') (st : Step σ ρ H0 H σ ρ' H0' H') (h : kS G W fx (.nx ρ') D σ ρ H0 H) : D.nx σ H' := h σ H0' H' (.of re st)
/-- one term, then what a statement does with its value -/
theorem st_s {fa : Env → R} {g : T → Env → SO} {Rr : V → Hp → Prop}
    (fin : ∀ ρ H0 t ρ1 v H01 H1, RE G H0 H σ ρ → RE G H01 H1 σ ρ1 → Step σ ρ H0 H σ ρ1 H01 H1 → RT G H01 H1 σ ρ1 v t → Fresh H v t → kS G W fx (g t ρ1) D σ ρ H0 H → Rr v H1)
    (h : sOf G W fx (fun ρ => (fa ρ).st g) D σ H) : tOf G W (fun ρ => (fa ρ).eo) σ H Rr := by
  obtain ⟨H0, ρ, re, k⟩ := h
  refine ⟨H0, ρ, re, ?_⟩
  dsimp only at k ⊢
  cases e1 : fa ρ with
  | no => rw [e1] at k; exact k
  | ex e ρ' => rw [e1] at k; exact fun cls d H0' H' re' st' x => k cls d σ H0' H' (.of re' st') x
  | ok ts ρ1 =>
    rw [e1] at k
    rcases ts with _ | ⟨t, _ | ⟨u, ts⟩⟩
    · exact False.elim k
    · exact fun v H01 H1 re1 st1 rt1 fr1 => fin ρ H0 t ρ1 v H01 H1 re re1 st1 rt1 fr1 k
    · exact False.elim k
theorem tstS_s {fa : Env → R} {g : Bool → Env → SO} {Rr : Bool → Hp → Prop}
    (fin : ∀ ρ H0 b ρ1 H01 H1, RE G H0 H σ ρ → RE G H01 H1 σ ρ1 → Step σ ρ H0 H σ ρ1 H01 H1 → kS G W fx (g b ρ1) D σ ρ H0 H → Rr b H1)
    (h : sOf G W fx (fun ρ => tstS (fa ρ) g) D σ H) : tTest (tOf G W (fun ρ => (fa ρ).eo)) σ H Rr := by
  refine st_s (g := fun t ρ => match (t.val ρ).bind boolOf with | some b => g b ρ | none => .no) (fun ρ H0 t ρ1 v H01 H1 re re1 st rt fr k => ?_) h
  cases e : (t.val ρ1).bind boolOf with
  | none => simp only [e] at k; exact False.elim k
  | some b =>
    simp only [e] at k
    exact ⟨b, (rt.boolOf re1 e).1, fin ρ H0 b ρ1 H01 H1 re re1 st k⟩

/-! stores -/
theorem ownAt_setw {i j : Nat} {a b : Addr} {d : RL.D} (h : OwnAt (σ.set i (some (.ref a))) (ρ.set i (.ow d)) j b) : (j = i ∧ b = a) ∨ (j ≠ i ∧ OwnAt σ ρ j b) := by
  obtain ⟨e, c, ec, o⟩ := h
  by_cases hj : i = j
  · subst hj
    rw [List.getElem?_set] at e
    split at e
    · split at e
      · cases e; exact .inl ⟨rfl, rfl⟩
      · cases e
    · rename_i z; exact absurd rfl z
  · rw [List.getElem?_set_ne hj] at ec e
    exact .inr ⟨fun z => hj z.symm, ⟨e, c, ec, o⟩⟩
theorem RE.setOw {i : Nat} {a : Addr} {d : RL.D} (re : RE G H0 H σ ρ) (h0 : H0 a = none) (no : ¬ Own σ ρ a) (to : TopO G H0 H a d) : RE G H0 H (σ.set i (some (.ref a))) (ρ.set i (.ow d)) := by
  refine ⟨re.sub, by rw [List.length_set, List.length_set]; exact re.len, fun j c e => ?_, fun j k b h1 h2 => ?_⟩
  · by_cases hj : i = j
    · subst hj
      have hb : i < ρ.length := by
        have := (List.getElem?_eq_some_iff.mp e).1
        rwa [List.length_set] at this
      rw [List.getElem?_set_self hb] at e
      cases e
      exact ⟨some (.ref a), List.getElem?_set_self (by rw [re.len]; exact hb), h0, to⟩
    · rw [List.getElem?_set_ne hj] at e
      obtain ⟨ov, e1, s⟩ := re.slot j c e
      exact ⟨ov, by rw [List.getElem?_set_ne hj]; exact e1, s⟩
  · rcases ownAt_setw h1 with ⟨rfl, rfl⟩ | ⟨n1, o1⟩ <;> rcases ownAt_setw h2 with ⟨rfl, e⟩ | ⟨n2, o2⟩
    · rfl
    · exact absurd ⟨k, o2⟩ no
    · subst e; exact absurd ⟨j, o1⟩ no
    · exact re.apart j k b o1 o2
theorem Step.setOw {i : Nat} {a : Addr} {d : RL.D} (st : Step σ ρ H0 H σ ρ1 H01 H1) (n : H a = none) : Step σ ρ H0 H (σ.set i (some (.ref a))) (ρ1.set i (.ow d)) H01 H1 :=
  ⟨st.g0, st.na, st.fr, fun b ⟨j, h⟩ => by
    rcases ownAt_setw h with ⟨_, rfl⟩ | ⟨_, o⟩
    · exact .inr n
    · exact st.on b ⟨j, o⟩, st.dom⟩
theorem fx_set {i : Nat} {ov : Option V} (hi : i ∉ fx) : ∀ j ∈ fx, (σ.set i ov)[j]? = σ[j]? := fun j hj => List.getElem?_set_ne fun z => hi (by rw [z]; exact hj)
theorem name_s {i : Nat} {t : T} {v : V} (hi : i ∉ fx) (re1 : RE G H01 H1 σ ρ1) (st : Step σ ρ H0 H σ ρ1 H01 H1) (rt : RT G H01 H1 σ ρ1 v t) (fr : Fresh H v t) (k : kS G W fx (storeS (.nm i) t ρ1) D σ ρ H0 H) : D.nx (σ.set i (some v)) H1 := by
  have go : (∀ d ρ2, t.seal ρ1 = some (d, ρ2) → i < ρ2.length → kS G W fx (.nx (ρ2.set i (.pu d))) D σ ρ H0 H → D.nx (σ.set i (some v)) H1) := fun d ρ2 e hl k => by
    obtain ⟨H02, re2, st2, rp, sm, _⟩ := seal_s re1 st rt.w fr e
    exact k _ H02 H1 ⟨re2.setPu rp, st2.trans .setPu, fx_set hi⟩
  have gen : (match t.seal ρ1 with | some (d, ρ1) => (match Tg.bind (.nm i) d ρ1 with | some ρ2 => SO.nx ρ2 | none => .no) | none => .no) = storeS (.nm i) t ρ1 → D.nx (σ.set i (some v)) H1 := fun e => by
    rw [← e] at k
    cases q : t.seal ρ1 with
    | none => rw [q] at k; exact False.elim k
    | some q' =>
      obtain ⟨d, ρ2⟩ := q'
      rw [q] at k
      simp only [Tg.bind] at k
      by_cases hl : i < ρ2.length
      · rw [if_pos hl] at k; exact go d ρ2 q hl k
      · rw [if_neg hl] at k; exact False.elim k
  cases t with
  | p d => exact gen rfl
  | s j => exact gen rfl
  | f d =>
    simp only [storeS] at k
    split at k
    · obtain ⟨a, rfl, h0, no, to⟩ := rt
      exact k _ H01 H1 ⟨re1.setOw h0 no to, st.setOw (fr a rfl), fx_set hi⟩
    · exact False.elim k
theorem asgN_s {i : Nat} {fa : Env → R} (hi : i ∉ fx) (h : sOf G W fx (fun ρ => (fa ρ).st fun v ρ1 => storeS (.nm i) v ρ1) D σ H) : tAsg (tOf G W fun ρ => (fa ρ).eo) (gName i) D σ H :=
  st_s (fun ρ H0 t ρ1 v H01 H1 re re1 st rt fr k => name_s hi re1 st rt fr k) h
theorem asgT_s {t : Tg} {fa : Env → R} (ht : ∀ i, t ≠ .nm i) (hf : ∀ i ∈ t.slots, i ∉ fx) (h : sOf G W fx (fun ρ => (fa ρ).st fun v ρ1 => storeS t v ρ1) D σ H) : tAsg (tOf G W fun ρ => (fa ρ).eo) (gOf G t) D σ H := by
  refine st_s (fun ρ H0 u ρ1 v H01 H1 re re1 st rt fr k => ?_) h
  have e : storeS t u ρ1 = (match u.seal ρ1 with | some (d, ρ1) => (match t.bind d ρ1 with | some ρ2 => SO.nx ρ2 | none => .no) | none => .no) := by
    cases t with
    | nm i => exact absurd rfl (ht i)
    | _ => rfl
  rw [e] at k
  cases q : u.seal ρ1 with
  | none => rw [q] at k; exact False.elim k
  | some q' =>
    obtain ⟨d, ρ2⟩ := q'
    rw [q] at k
    simp only at k
    cases q2 : t.bind d ρ2 with
    | none => rw [q2] at k; exact False.elim k
    | some ρ3 =>
      rw [q2] at k
      obtain ⟨H02, re2, st2, rp, sm, _⟩ := seal_s re1 st rt.w fr q
      exact ⟨H02, ρ2, d, ρ3, re2, rp, q2, fun σ3 re3 l3 o3 s3 => k σ3 H02 H1 ⟨re3, st2.trans s3, fun i hi => o3 i fun z => hf i z hi⟩⟩
theorem par_s {i j : Nat} {fs : Env → R} (hi : i ∉ fx) (hj : j ∉ fx) (h : sOf G W fx (fun ρ => parS i j (fs ρ)) D σ H) : tPar i j (aOf G W fs) D σ H := by
  obtain ⟨H0, ρ, re, k⟩ := h
  refine ⟨H0, ρ, re, ?_⟩
  dsimp only at k ⊢
  cases e1 : fs ρ with
  | no => rw [e1] at k; exact k
  | ex e ρ' => rw [e1] at k; exact fun cls d H0' H' re' st' x => k cls d σ H0' H' (.of re' st') x
  | ok ts ρ1 =>
    rw [e1] at k
    intro vs H01 H1 re1 st1 rts frs
    simp only [parS] at k
    cases es : sealAll ts ρ1 with
    | none => rw [es] at k; exact False.elim k
    | some q =>
      obtain ⟨ds, ρ2⟩ := q
      rw [es] at k
      rcases ds with _ | ⟨d, _ | ⟨e, _ | ⟨e3, ds⟩⟩⟩
      · exact False.elim k
      · exact False.elim k
      · simp only at k
        split at k
        · obtain ⟨H02, re2, st2, rps, sm⟩ := sealAll_s re1 st1 (L2.Paired.mapP rts fun v t z => z.w) frs es
          cases rps with
          | cons r1 rr =>
            cases rr with
            | cons r2 rr =>
              cases rr
              exact ⟨_, _, rfl, k _ H02 H1 ⟨(re2.setPu r1).setPu r2, (st2.trans .setPu).trans .setPu, fun l hl => (fx_set hj l hl).trans (fx_set hi l hl)⟩⟩
        · exact False.elim k
      · exact False.elim k
theorem exp_s {fa : Env → R} (h : sOf G W fx (fun ρ => (fa ρ).st fun _ ρ1 => .nx ρ1) D σ H) : tDrop (tOf G W fun ρ => (fa ρ).eo) D σ H :=
  st_s (g := fun _ ρ1 => .nx ρ1) (fun ρ H0 t ρ1 v H01 H1 re re1 st rt fr k => kS.nx re1 st k) h
theorem ret_s {fa : Env → R} (h : sOf G W fx (fun ρ => (fa ρ).st fun t ρ1 => .rt t ρ1) D σ H) : tRet (tOf G W fun ρ => (fa ρ).eo) D σ H :=
  st_s (g := fun t ρ1 => .rt t ρ1) (fun ρ H0 t ρ1 v H01 H1 re re1 st rt fr k => k v σ H01 H1 (.of re1 st) rt fr) h
theorem retN_s (h : sOf G W fx (fun ρ => .rt (.p .none) ρ) D σ H) : tRetN D σ H := by
  obtain ⟨H0, ρ, re, k⟩ := h
  exact k .non σ H0 H (.refl re) .non trivial
theorem nop_s (h : sOf G W fx (fun ρ => .nx ρ) D σ H) : tNext D σ H := by
  obtain ⟨H0, ρ, re, k⟩ := h
  exact k σ H0 H (.refl re)
theorem brk_s (h : sOf G W fx (fun ρ => .bk ρ) D σ H) : tBreak D σ H := by
  obtain ⟨H0, ρ, re, k⟩ := h
  exact k σ H0 H (.refl re)
theorem cont_s (h : sOf G W fx (fun ρ => .ct ρ) D σ H) : tCont D σ H := by
  obtain ⟨H0, ρ, re, k⟩ := h
  exact k σ H0 H (.refl re)
theorem sOf.from {f : Env → SO} (a : Aft G fx σ ρ H0 H σ1 ρ1 H01 H1) (k : kS G W fx (f ρ1) D σ ρ H0 H) : sOf G W fx f D σ1 H1 := ⟨H01, ρ1, a.re, k.step a⟩
theorem iff_s {fk : Env → R} {fa fb : Env → SO} (h : sOf G W fx (fun ρ => tstS (fk ρ) fun k ρ1 => if k = true then fa ρ1 else fb ρ1) D σ H) : tIfS (tTest (tOf G W fun ρ => (fk ρ).eo)) (sOf G W fx fa) (sOf G W fx fb) D σ H := by
  refine tstS_s (fun ρ H0 b ρ1 H01 H1 re re1 st k => ?_) h
  cases b with
  | true => exact .from (.of re1 st) k
  | false => exact .from (.of re1 st) k
theorem cons_s {fa fb : Env → SO} (h : sOf G W fx (fun ρ => match fa ρ with | .nx ρ1 => fb ρ1 | o => o) D σ H) : tSeq (sOf G W fx fa) (sOf G W fx fb) D σ H := by
  obtain ⟨H0, ρ, re, k⟩ := h
  refine ⟨H0, ρ, re, ?_⟩
  dsimp only at k
  cases e : fa ρ with
  | nx ρ1 => rw [e] at k; exact fun σ' H0' H' a => ⟨H0', ρ1, a.re, k.step a⟩
  | rt t ρ1 => rw [e] at k; exact k
  | bk ρ1 => rw [e] at k; exact k
  | ct ρ1 => rw [e] at k; exact k
  | ex x ρ1 => rw [e] at k; exact k
  | no => rw [e] at k; exact k
theorem whl_s {fk : Env → R} {fb : Env → SO} (h : sOf G W fx (fun ρ => whlD fk fb ρ) D σ H) : tWhile (tTest (tOf G W fun ρ => (fk ρ).eo)) (sOf G W fx fb) D σ H := by
  obtain ⟨H0, ρ, re, k⟩ := h
  dsimp only at k
  have hok : (whlD fk fb ρ).ok := by
    cases e : whlD fk fb ρ with
    | no => rw [e] at k; exact k
    | _ => trivial
  obtain ⟨n, hn, en⟩ := whlD_ok hok
  rw [en] at k
  refine ⟨fun m σ' H' => ∃ H0' ρ', RE G H0' H' σ' ρ' ∧ kS G W fx (whlGo fk fb m ρ') D σ' ρ' H0' H', ⟨n, H0, ρ, re, k⟩, ?_⟩
  rintro m σ' H' ⟨H0', ρ', re', k'⟩
  cases m with
  | zero => exact False.elim k'
  | succ m =>
    have k2 : sOf G W fx (fun ρ => tstS (fk ρ) fun k ρ1 => if k = true then
      (match fb ρ1 with
      | .nx ρ2 => whlGo fk fb m ρ2
      | .ct ρ2 => whlGo fk fb m ρ2
      | .bk ρ2 => .nx ρ2
      | o => o)
      else .nx ρ1) D σ' H' := ⟨H0', ρ', re', k'⟩
    refine tstS_s (fun ρ H0 b ρ1 H01 H1 re re1 st k => ?_) k2
    cases b with
    | false => exact k.nx re1 st
    | true =>
      dsimp only at k ⊢
      rw [if_pos rfl] at k ⊢
      refine ⟨fun σ' H' => ∃ H0' ρ', RE G H0' H' σ' ρ' ∧ kS G W fx (whlGo fk fb m ρ') D σ' ρ' H0' H', fun σ' H' z => ⟨m, Nat.lt_succ_self m, z⟩, H01, ρ1, re1, ?_⟩
      replace k := k.step (.of re1 st)
      cases e : fb ρ1 with
      | nx ρ2 => rw [e] at k; exact fun σ2 H0' H' a => ⟨H0', ρ2, a.re, k.step a⟩
      | ct ρ2 => rw [e] at k; exact fun σ2 H0' H' a => ⟨H0', ρ2, a.re, k.step a⟩
      | bk ρ2 => rw [e] at k; exact k
      | rt t ρ2 => rw [e] at k; exact k
      | ex x ρ2 => rw [e] at k; exact k
      | no => rw [e] at k; exact k
theorem for_s {t : Tg} {fi : Env → R} {fb : Env → SO} (hf : ∀ i ∈ t.slots, i ∉ fx) (h : sOf G W fx (fun ρ => (fi ρ).st fun ti ρ1 => (match ti with | .p (.list ds) => forGo t fb ds ρ1 | _ => .no)) D σ H) :
    tFor (iOf G W fun ρ => (fi ρ).eo) (gOf G t) (sOf G W fx fb) D σ H := by
  obtain ⟨H0, ρ, re, k⟩ := h
  refine ⟨H0, ρ, re, ?_⟩
  dsimp only at k ⊢
  cases ei : fi ρ with
  | no => rw [ei] at k; exact k
  | ex e ρ' => rw [ei] at k; exact fun cls d H0' H' re' st' x => k cls d σ H0' H' (.of re' st') x
  | ok ts ρ1 =>
    rw [ei] at k
    rcases ts with _ | ⟨ti, _ | ⟨u, ts⟩⟩
    · exact False.elim k
    · cases ti with
      | s i => exact False.elim k
      | f d => exact False.elim k
      | p d =>
        cases d with
        | list ds =>
          replace k : kS G W fx (forGo t fb ds ρ1) D σ ρ H0 H := k
          intro J H01 H1 re1 st1 it
          refine ⟨fun i m σ' H' => m = ds.length - i ∧ i ≤ ds.length ∧ ∃ H0' ρ', Same H01 H0' ∧ RE G H0' H' σ' ρ' ∧ kS G W fx (forGo t fb (ds.drop i) ρ') D σ' ρ' H0' H', ⟨ds.length, rfl, Nat.zero_le _, H01, ρ1, Same.refl _, re1, k.step (.of re1 st1)⟩, ?_⟩
          rintro i m σ' H' ⟨rfl, hi, H0', ρ', sm, re', k'⟩
          by_cases hlt : i < ds.length
          · rw [drop_cons hlt] at k'
            simp only [forGo] at k'
            cases eb : t.bind ds[i] ρ' with
            | none => rw [eb] at k'; exact False.elim k'
            | some ρa =>
              rw [eb] at k'
              simp only at k'
              obtain ⟨hgo, hy⟩ := (it i H0' H' sm re'.sub).1 hlt
              refine .inr ⟨hgo, fun σ' H' => i + 1 ≤ ds.length ∧ ∃ H0' ρ', Same H01 H0' ∧ RE G H0' H' σ' ρ' ∧ kS G W fx (forGo t fb (ds.drop (i + 1)) ρ') D σ' ρ' H0' H', fun σ' H' z => ⟨_, by omega, rfl, z⟩, fun x H'' y => ?_⟩
              obtain ⟨H0'', d', hd', ext, rx⟩ := hy x H'' y
              have : d' = ds[i] := by
                have := List.getElem?_eq_getElem hlt
                rw [hd'] at this
                exact Option.some.inj this
              subst this
              refine ⟨H0'', ρ', ds[i], ρa, re'.ext ext, rx, eb, fun σ2 re2 l2 o2 s2 => ⟨H0'', ρa, re2, ?_⟩⟩
              have a2 : Aft G fx σ' ρ' H0' H' σ2 ρa H0'' H'' := ⟨re2, ext.step.trans s2, fun j hj => o2 j fun z => hf j z hj⟩
              replace k' := k'.step a2
              have sm2 : Same H01 H0'' := sm.trans ext.g0
              cases e : fb ρa with
              | nx ρ2 => rw [e] at k'; exact fun σ3 H03 H3 a => ⟨hlt, H03, ρ2, sm2.trans a.st.g0, a.re, k'.step a⟩
              | ct ρ2 => rw [e] at k'; exact fun σ3 H03 H3 a => ⟨hlt, H03, ρ2, sm2.trans a.st.g0, a.re, k'.step a⟩
              | bk ρ2 => rw [e] at k'; exact k'
              | rt t ρ2 => rw [e] at k'; exact k'
              | ex x ρ2 => rw [e] at k'; exact k'
              | no => rw [e] at k'; exact k'
          · have e : i = ds.length := by omega
            subst e
            refine .inl ⟨(it ds.length H0' H' sm re'.sub).2 rfl, ?_⟩
            rw [List.drop_length] at k'
            exact k' σ' H0' H' (.refl re')
        | _ => exact False.elim k
    · exact False.elim k
end
end RL

namespace RL
open PySem PySem.Spec L2
section
variable {G : Gp} {W : WX} {fx : List Nat} {D : Ends} {σ σ' σ1 σ2 : St} {ρ ρ' ρ1 ρ2 : Env} {H0 H H01 H1 H02 H2 H0' H' : Hp} {Q : VK}
theorem own_seto {i : Nat} {d d' : RL.D} {a : Addr} (e : ρ[i]? = some (.ow d)) (j : Nat) : OwnAt σ (ρ.set i (.ow d')) j a ↔ OwnAt σ ρ j a := by
  by_cases hj : i = j
  · subst hj
    have hb := (List.getElem?_eq_some_iff.mp e).1
    exact ⟨fun ⟨e1, _, _, _⟩ => ⟨e1, _, e, rfl⟩, fun ⟨e1, _, _, _⟩ => ⟨e1, _, List.getElem?_set_self hb, rfl⟩⟩
  · exact ⟨fun ⟨e1, c, ec, o⟩ => ⟨e1, c, by rwa [List.getElem?_set_ne hj] at ec, o⟩, fun ⟨e1, c, ec, o⟩ => ⟨e1, c, by rw [List.getElem?_set_ne hj]; exact ec, o⟩⟩
/-- a slot's own thing changed -/
theorem RE.putOw {i : Nat} {p : Addr} {o : HO} {d d' : RL.D} (re : RE G H0 H σ ρ) (ei : ρ[i]? = some (.ow d)) (es : σ[i]? = some (some (.ref p))) (to : TopO G H0 (L2.upd H p o) p d') :
    RE G H0 (L2.upd H p o) σ (ρ.set i (.ow d')) ∧ Step σ ρ H0 H σ (ρ.set i (.ow d')) H0 (L2.upd H p o) := by
  have hat : OwnAt σ ρ i p := ⟨es, _, ei, rfl⟩
  obtain ⟨h0, dd, _⟩ := re.own_at ⟨i, hat⟩
  refine ⟨⟨fun b u e => ?_, by rw [List.length_set]; exact re.len, fun j c e => ?_, fun j k a h1 h2 => re.apart j k a ((own_seto ei j).mp h1) ((own_seto ei k).mp h2)⟩,
    ⟨Same.refl _, fun _ _ h _ => h, fun a u e n => ?_, fun a ⟨j, h⟩ => .inl ⟨j, (own_seto ei j).mp h⟩, fun a h => ?_⟩⟩
  · have hb : b ≠ p := fun z => by rw [z, h0] at e; cases e
    rw [upd_ne hb]; exact re.sub _ _ e
  · by_cases hj : i = j
    · subst hj
      rw [List.getElem?_set_self (List.getElem?_eq_some_iff.mp ei).1] at e
      cases e
      exact ⟨_, es, h0, to⟩
    · rw [List.getElem?_set_ne hj] at e
      obtain ⟨ov, e1, s⟩ := re.slot j c e
      refine ⟨ov, e1, ?_⟩
      have key : ∀ a, ov = some (.ref a) → c.own = true → a ≠ p := fun a ea oc z => by
        subst z
        exact hj (re.apart i j a hat ⟨by rw [e1, ea], c, e, oc⟩)
      cases c with
      | un => cases ov <;> trivial
      | pu d =>
        cases ov with
        | none => exact False.elim s
        | some v => exact s
      | ow d =>
        obtain ⟨a, d', rfl, hv, h0a, to⟩ := s.cases_own rfl
        exact ⟨s.1, s.2.mono (Same.refl _) fun o e => by rw [upd_ne (key a rfl rfl)]; exact e⟩
      | le d =>
        obtain ⟨a, d', rfl, hv, h0a, to⟩ := s.cases_own rfl
        exact ⟨s.1, s.2.mono (Same.refl _) fun o e => by rw [upd_ne (key a rfl rfl)]; exact e⟩
  · have : a ≠ p := fun z => n ⟨i, by rw [z]; exact hat⟩
    rw [upd_ne this]; exact e
  · by_cases z : a = p
    · rw [z, upd_same]; rfl
    · rw [upd_ne z]; exact h
theorem ownL_at {i : Nat} {ds : List RL.D} (re : RE G H0 H σ ρ) (e : ownL ρ i = some ds) : ρ[i]? = some (.ow (.list ds)) ∧ ∃ p vs, σ[i]? = some (some (.ref p)) ∧ H p = some (.lst vs) ∧ Rps G H0 vs ds := by
  unfold ownL at e
  split at e
  · rename_i ds' ec
    cases e
    obtain ⟨ov, e1, s⟩ := re.slot i _ ec
    obtain ⟨a, d, rfl, hv, h0, to⟩ := s.cases_own rfl
    cases hv
    obtain ⟨vs, e2, r⟩ := to
    exact ⟨ec, a, vs, e1, e2, r⟩
  · cases e
theorem setL_s {i : Nat} {fe fk : Env → R} (h : sOf G W fx (fun ρ => (fe ρ).st fun t ρ1 => (match ownL ρ1 i with | some _ => (fk ρ1).st fun z ρ2 => setS i t z ρ2 | none => .no)) D σ H) :
    tAsg (tOf G W fun ρ => (fe ρ).eo) (gSub (tVar i) (tOf G W fun ρ => (fk ρ).eo) rSetL) D σ H := by
  refine st_s (g := fun t ρ1 => (match ownL ρ1 i with | some _ => (fk ρ1).st fun z ρ2 => setS i t z ρ2 | none => .no)) (fun ρ H0 t ρ1 v H01 H1 re re1 st rt fr k => ?_) h
  cases e0 : ownL ρ1 i with
  | none => simp only [e0] at k; exact False.elim k
  | some ds0 =>
    simp only [e0] at k
    obtain ⟨_, p, vs0, hs, _, _⟩ := ownL_at re1 e0
    refine ⟨_, hs, ?_⟩
    have k2 : kS G W fx ((fk ρ1).st fun z ρ2 => setS i t z ρ2) D σ ρ H0 H := k
    refine ⟨H01, ρ1, re1, ?_⟩
    show kOf G W (fk ρ1).eo σ ρ1 H01 H1 _
    cases e1 : fk ρ1 with
    | no => rw [e1] at k2; exact k2
    | ex e ρ' => rw [e1] at k2; exact fun cls d H0' H' re' st' x => k2 cls d σ H0' H' (.of re' (st.trans st')) x
    | ok ts ρ2 =>
      rw [e1] at k2
      rcases ts with _ | ⟨z, _ | ⟨u, ts⟩⟩
      · exact False.elim k2
      · intro zv H02 H2 re2 st2 rt2 fr2
        replace k2 : kS G W fx (setS i t z ρ2) D σ ρ H0 H := k2
        unfold setS at k2
        cases e2 : (z.val ρ2).bind intOf with
        | none => rw [e2] at k2; exact False.elim k2
        | some zi =>
          cases e3 : t.seal ρ2 with
          | none => rw [e2, e3] at k2; exact False.elim k2
          | some q =>
            obtain ⟨d, ρ3⟩ := q
            rw [e2, e3] at k2
            simp only at k2
            cases e4 : ownL ρ3 i with
            | none => rw [e4] at k2; exact False.elim k2
            | some ds =>
              rw [e4] at k2
              simp only at k2
              cases e5 : ixN ds.length zi with
              | none => rw [e5] at k2; exact False.elim k2
              | some n =>
                rw [e5] at k2
                obtain ⟨dz, hz, hzi⟩ := Option.bind_eq_some_iff.mp e2
                cases dz with
                | int j =>
                  cases hzi
                  have rt' : RTw G H02 H2 σ ρ2 v t := by
                    cases t with
                    | p d => exact Rp.mono st2.g0 rt
                    | f d => exact (RT.step st2 (t := .f d) trivial rt).w
                    | s i => exact rt.1
                  obtain ⟨H03, re3, st3, rp, sm, _⟩ := seal_s re2 (st.trans st2) rt' fr e3
                  obtain ⟨ec, p', vs, hs', hp, rps⟩ := ownL_at re3 e4
                  rw [hs] at hs'
                  cases hs'
                  refine ⟨p, vs, _, n, rfl, (rt2.rv re2 hz).int, hp, by rw [rps.length]; exact e5, ?_⟩
                  obtain ⟨re4, st4⟩ := re3.putOw ec hs (o := .lst (vs.set n v)) (d' := .list (ds.set n d)) ⟨_, upd_same, rps.set rp n⟩
                  exact k2 σ H03 _ (.of re4 (st3.trans st4))
                | _ => exact nomatch hzi
      · exact False.elim k2
theorem app_s {i : Nat} {fe : Env → R} (h : sOf G W fx (fun ρ => (match ownL ρ i with | some _ => (fe ρ).st fun t ρ1 => appS i t ρ1 | none => .no)) D σ H) :
    tDrop (tBM G.K "list" rAppend (tVar i) (tCons (tOf G W fun ρ => (fe ρ).eo) tNil)) D σ H := by
  obtain ⟨H0, ρ, re, k⟩ := h
  dsimp only at k
  cases e0 : ownL ρ i with
  | none => rw [e0] at k; exact False.elim k
  | some ds0 =>
    rw [e0] at k
    obtain ⟨_, p, vs0, hs, hp0, _⟩ := ownL_at re e0
    refine ⟨_, hs, .inl ⟨rfl, _, .of hp0⟩, ?_⟩
    have k2 : sOf G W fx (fun ρ => (fe ρ).st fun t ρ1 => appS i t ρ1) D σ H := ⟨H0, ρ, re, k⟩
    refine st_s (fun ρ H0 t ρ1 v H01 H1 re re1 st rt fr k => ?_) k2
    unfold appS at k
    cases e3 : t.seal ρ1 with
    | none => rw [e3] at k; exact False.elim k
    | some q =>
      obtain ⟨d, ρ3⟩ := q
      rw [e3] at k
      simp only at k
      cases e4 : ownL ρ3 i with
      | none => rw [e4] at k; exact False.elim k
      | some ds =>
        rw [e4] at k
        simp only at k
        split at k
        · rename_i hl
          obtain ⟨H03, re3, st3, rp, sm, _⟩ := seal_s re1 st rt.w fr e3
          obtain ⟨ec, p', vs, hs', hp, rps⟩ := ownL_at re3 e4
          rw [hs] at hs'
          cases hs'
          obtain ⟨re4, st4⟩ := re3.putOw ec hs (o := .lst (vs ++ [v])) (d' := .list (ds ++ [d])) ⟨_, upd_same, rps.snoc rp⟩
          exact ⟨p, vs, v, rfl, rfl, hp, by rw [rps.length, size_eq]; exact hl, k σ H03 _ (.of re4 (st3.trans st4))⟩
        · exact False.elim k
theorem aug_s {op : Operator} {i : Nat} {fe : Env → R} {ti : TIp} (hi : i ∉ fx) (hti : ∀ d e r x y H Q, augD op d e = some r → (∀ H0, Rp G H0 x d) → (∀ H0, Rp G H0 y e) → (∀ v, (∀ H0, Rp G H0 v r) → Q v H) → ti x y H Q)
    (hsc : ∀ d e r, augD op d e = some r → ∃ a b, d = .int a ∧ e = .int b)
    (h : sOf G W fx (fun ρ => (match ρ[i]? with | some (.pu d) => (fe ρ).st fun t ρ1 => augS op i d t ρ1 | _ => .no)) D σ H) : tAug i (tOf G W fun ρ => (fe ρ).eo) ti D σ H := by
  obtain ⟨H0, ρ, re, k⟩ := h
  dsimp only at k
  cases ei : ρ[i]? with
  | none => simp only [ei] at k; exact False.elim k
  | some c =>
    cases c with
    | pu d =>
      simp only [ei] at k
      obtain ⟨ov, e1, s⟩ := re.slot i _ ei
      cases ov with
      | none => exact False.elim s
      | some x =>
        refine ⟨x, e1, H0, ρ, re, ?_⟩
        show kOf G W (fe ρ).eo σ ρ H0 H _
        cases e2 : fe ρ with
        | no => rw [e2] at k; exact k
        | ex e ρ' => rw [e2] at k; exact fun cls d H0' H' re' st' x => k cls d σ H0' H' (.of re' st') x
        | ok ts ρ1 =>
          rw [e2] at k
          rcases ts with _ | ⟨t, _ | ⟨u, ts⟩⟩
          · exact False.elim k
          · intro y H01 H1 re1 st1 rt1 fr1
            replace k : kS G W fx (augS op i d t ρ1) D σ ρ H0 H := k
            unfold augS at k
            cases e3 : t.val ρ1 with
            | none => rw [e3] at k; exact False.elim k
            | some e =>
              rw [e3] at k
              simp only at k
              cases e4 : augD op d e with
              | none => rw [e4] at k; exact False.elim k
              | some r =>
                rw [e4] at k
                simp only at k
                split at k
                · obtain ⟨a, b, rfl, rfl⟩ := hsc _ _ _ e4
                  have hx : x = .int a := (show RV G H0 H x (.int a) from .inl s).int
                  have hy : y = .int b := (rt1.rv re1 e3).int
                  subst hx hy
                  exact hti _ _ _ _ _ _ _ e4 (fun _ => .int _) (fun _ => .int _) fun v hv => k _ H01 H1 ⟨re1.setPu (hv H01), st1.trans .setPu, fx_set hi⟩
                · exact False.elim k
          · exact False.elim k
    | _ => simp only [ei] at k; exact False.elim k
theorem rse_s {cls : Str} {C : Value} (hC : G.mg cls = some C) (h : sOf G W fx (fun ρ => .ex ⟨cls, none⟩ ρ) D σ H) : W C none σ H := by
  obtain ⟨H0, ρ, re, k⟩ := h
  exact k C none σ H0 H (.refl re) ⟨hC, rfl⟩
end
end RL

namespace RL
open PySem PySem.Spec L2
structure ExcGood (G : Gp) (x : Str) : Prop where
  ex : ∃ (C : Addr) (bmB : List Value) (B newId initId : String), ExcBaseFacts B newId initId bmB ∧ PySem.W.excIn G.K C bmB newId = true ∧ G.mg x = some (.ref C) ∧ PySem.W.keepIn G.K (.ref C) = true ∧
    ∀ (M : Model) (h : Heap), G.K.In h → PySem.W.Looks M h (isSubtype (.ref C) (.type "BaseException")) true ∧ PySem.W.Looks M h (typeOf (.ref C)) (.type "type")
structure FxS (G : Gp) (base : Heap) (Γ : Nat → Option Fn) (lvl : Nat → Nat) (c : Cfg) : Prop extends Fx G base Γ lvl c.consts c.kt where
  exc : ∀ x ∈ c.excs, ExcGood G x
  sub : ∀ t ∈ c.sub, ∃ Ce Cx, G.mg t.1 = some (.ref Ce) ∧ G.mg t.2.1 = some (.ref Cx) ∧ PySem.W.exmOne G.K (.ref Ce) (.ref Cx) = some t.2.2
structure CxS (X : Cx) (W : WX) (c : Cfg) : Prop extends CxOk X W c where
  own : PassesOwn (model X.prog X.w) X.A X.env X.xe
  stk : X.stack = X.env :: X.outer
  frm : X.env.frame = some X.env.locals
  kind : c.sc.kind = .function
def isComp : Expr → Bool
  | .ListComp .. => true
  | .SetComp .. => true
  | .DictComp .. => true
  | _ => false
def isTup : Expr → Bool
  | .Tuple .. => true
  | _ => false
def S.isL : S → Bool
  | .nil => true
  | .cons _ _ => true
  | _ => false
def freshB (c : Cfg) (is : List Nat) : Bool := is.all fun i => !c.fx.contains i
def localB (c : Cfg) (x : Str) : Bool := kindB c x == some .local
def scopeOf : Expr → List (Str × NameKind)
  | .ListComp _ _ s _ => s.names
  | _ => []
/-- an except clause's suite: constants stored, or returned -/
def chkB (c : Cfg) (m : Bool) (s : S) (sts : List Stmt) : Bool :=
  match s with
  | .nil => match sts with
    | [] => m
    | _ => false
  | .cons a b => match sts with
    | st :: sts => m && chkB c false a [st] && b.isL && chkB c true b sts
    | _ => false
  | .nop => match sts with
    | [.Pass _] => true
    | _ => false
  | .asg (.nm i) (.cst d) => match sts with
    | [.Assign [.Name y _] (.Constant k _ _) _] => c.N[i]? == some y && locB c y && freshB c [i] && constB k d
    | _ => false
  | .ret (.cst d) => match sts with
    | [.Return (some (.Constant k _ _)) _] => constB k d
    | _ => false
  | .brk => match sts with
    | [.Break _] => true
    | _ => false
  | .cont => match sts with
    | [.Continue _] => true
    | _ => false
  | _ => false
def chkH (c : Cfg) (s : S) (hs : List ExceptHandler) : Bool :=
  match s with
  | .nil => hs.isEmpty
  | .hd x known h rest => match hs with
    | .ExceptHandler (some (.Name y _)) none (b0 :: suite) _ :: hs => y == x && glB c x && known.all (fun p => c.sub.contains (p.1, x, p.2)) && c.sub.any (fun t => t.2.1 == x) && h.isL && chkB c true h (b0 :: suite) && chkH c rest hs
    | _ => false
  | _ => false
def S.isH : S → Bool
  | .hd _ _ _ _ => true
  | _ => false
section
variable (Γ : Nat → Option Fn) (lvl : Nat → Nat)
def chkS (c : Cfg) (m : Bool) (s : S) (sts : List Stmt) : Bool :=
  match s with
  | .nil => match sts with
    | [] => m
    | _ => false
  | .cons a b => match sts with
    | st :: sts => m && chkS c false a [st] && b.isL && chkS c true b sts
    | _ => false
  | .nop => match sts with
    | [.Pass _] => true
    | [.Expr (.Constant (.str _) _ _) _] => true
    | _ => false
  | .asg t e => match sts with
    | [.Assign [.Name y py] v pos] => (match t with
      | .nm i => c.N[i]? == some y && locB c y && freshB c [i] && chk Γ lvl c false e [v] &&
        (match v with
          | .ListComp elt gs scope vpos => (localB c y && (py.line == vpos.line) && !(scope.names.any fun (n, k) => n == y && (k == .local || k == .cell))) || kindB c y == some .cell
          | _ => !isComp v)
      | _ => false)
    | [.Assign [.Tuple es k tp] v pos] => (match t with
      | .tp ts => chkT c (.tp ts) [.Tuple es k tp] && freshB c ts.slots && chk Γ lvl c false e [v] && !isComp v && !isTup v
      | _ => false)
    | _ => false
  | .par i j a b => match sts with
    | [.Assign [.Tuple [.Name x px, .Name y py] _ _] (.Tuple [va, vb] _ _) _] => c.N[i]? == some x && c.N[j]? == some y && !(i == j) && localB c x && localB c y && px.line == py.line && freshB c [i, j] &&
      notStar va && notStar vb && !(foldedForSure 8 va && foldedForSure 8 vb) && !(constantsAlone 8 va && constantsAlone 8 vb) && !(x == y) && chk Γ lvl c false a [va] && chk Γ lvl c false b [vb]
    | _ => false
  | .setL i k e => match sts with
    | [.Assign [.Subscript (.Name x _) kx _] v _] => c.N[i]? == some x && visB c x && plainIx kx && chk Γ lvl c false k [kx] && chk Γ lvl c false e [v]
    | _ => false
  | .aug op i e => match sts with
    | [.AugAssign (.Name x _) o v _] => o == op && (op == .Add || op == .Sub || op == .Mult) && c.N[i]? == some x && locB c x && freshB c [i] && chk Γ lvl c false e [v]
    | _ => false
  | .app i e => match sts with
    | [.Expr (.Call (.Attribute (.Name x _) m ap) [v] [] cp) _] => m == ("append" : Str) && c.N[i]? == some x && visB c x && (ap.endLine == cp.line) && notStar v && chk Γ lvl c false e [v]
    | _ => false
  | .exp e => match sts with
    | [.Expr (.Call f as ks p) _] => chk Γ lvl c false e [.Call f as ks p]
    | _ => false
  | .ret e => match sts with
    | [.Return (some v) _] => chk Γ lvl c false e [v]
    | _ => false
  | .retN => match sts with
    | [.Return none _] => true
    | _ => false
  | .iff k a b => match sts with
    | [.If v p q _] => tsB v && chk Γ lvl c false k [v] && a.isL && chkS c true a p && b.isL && chkS c true b q
    | _ => false
  | .whl k b => match sts with
    | [.While v p [] _] => tsB v && chk Γ lvl c false k [v] && b.isL && chkS c true b p
    | _ => false
  | .frr t it b => match sts with
    | [.For tg v p [] _] => noSet v && t.isP tg && chkT c t [tg] && freshB c t.slots && chkI Γ lvl c it tg v && b.isL && chkS c true b p
    | _ => false
  | .brk => match sts with
    | [.Break _] => true
    | _ => false
  | .cont => match sts with
    | [.Continue _] => true
    | _ => false
  | .rse x => match sts with
    | [.Raise (some (.Call (.Name y _) [.Constant (.str _) _ _] [] _)) none _] => y == x && glB c x && c.excs.contains x
    | _ => false
  | .tryM b hs => match sts with
    | [.Try body hds [] [] _] => b.isL && chkS c true b body && hs.isH && chkH c hs hds
    | _ => false
  | .hd _ _ _ _ => false
end
section
variable {X : Cx} {W : WX} {c : Cfg} {Γ : Nat → Option Fn} {lvl : Nat → Nat}
structure ClS (Γ : Nat → Option Fn) (lvl : Nat → Nat) (c : Cfg) (X : Cx) (W : WX) (s : S) : Prop where
  ps : ∀ st, chkS Γ lvl c false s [st] = true → PS X st (sOf (gp X) W c.fx (denS Γ s))
  pss : s.isL = true → ∀ sts, chkS Γ lvl c true s sts = true → PSs X sts (sOf (gp X) W c.fx (denS Γ s))
theorem freshB_of {is : List Nat} (h : freshB c is = true) : ∀ i ∈ is, i ∉ c.fx := fun i hi z => by
  have := List.all_eq_true.mp h i hi
  rw [Bool.not_eq_true'] at this
  rw [List.contains_iff_mem.mpr z] at this
  cases this
theorem loc_of (cx : CxOk X W c) {x : Str} (k : locB c x = true) : L2.Loc X.env.scope x ∧ (X.fn x = true ∨ X.env.scope.names.lookup x = some .local) := by
  simp only [locB, kindB, Bool.or_eq_true, Bool.and_eq_true, beq_iff_eq] at k
  constructor
  · unfold L2.Loc
    rw [cx.sc]
    rcases k with z | ⟨z, _⟩
    · exact .inl z
    · exact .inr z
  · rw [cx.sc, cx.fn]
    rcases k with z | ⟨_, z⟩
    · exact .inr z
    · exact .inl z
theorem sw_no {t : Expr} {v : Expr} {l : Nat} {env : PySem.Env} (h : isComp v = false) : swapsWithSole [t] v l env = pure false := by
  cases v <;> first | rfl | cases h
theorem sw_sub {a b : Expr} {p : Pos} {v : Expr} {l : Nat} {env : PySem.Env} : swapsWithSole [.Subscript a b p] v l env = pure false := by
  cases v <;> rfl
theorem sw_no1 {t : Option Expr} {v : Expr} {l : Nat} {env : PySem.Env} (h : isComp v = false) : swapsWith v t l env = pure false := by
  cases v <;> first | rfl | cases h
theorem cs_plain {s : S} (h : ∀ st, chkS Γ lvl c false s [st] = true → PS X st (sOf (gp X) W c.fx (denS Γ s))) (nl : s.isL = false) : ClS Γ lvl c X W s :=
  ⟨h, fun k => by rw [nl] at k; (cases k)⟩
theorem ss_no {es : List Expr} {k : Nat} {tp : Pos} {v : Expr} {env : PySem.Env} (h : isTup v = false) : swappedStores [.Tuple es k tp] v env = pure none := by
  cases v <;> first | rfl | cases h
theorem ss_sub {a b : Expr} {p : Pos} {v : Expr} {env : PySem.Env} : swappedStores [.Subscript a b p] v env = pure none := by
  cases v <;> rfl
theorem comp_lc {p : P} {v : Expr} (hc : isComp v = true) (h : chk Γ lvl c false p [v] = true) : ∃ own t it k b, p = .lc own t it k b := by
  cases v with
  | ListComp e g s pos => cases p <;> first | exact ⟨_, _, _, _, _, rfl⟩ | (simp [chk] at h; done)
  | SetComp e g s pos => cases p <;> (simp [chk] at h; done)
  | DictComp k e g s pos => cases p <;> (simp [chk] at h; done)
  | _ => cases hc
theorem sw_cell {elt : Expr} {gs : List Comprehension} {scope : Scope} {vpos py : Pos} {y : Str} {l : Nat} {env : PySem.Env} (hy : env.scope.names.lookup y = some .cell) : swapsWith (.ListComp elt gs scope vpos) (some (.Name y py)) l env = pure false := by
  have e : (env.kindOf y == some .local) = false := by
    show (env.scope.names.lookup y == some .local) = false
    rw [hy]; rfl
  show (pure (env.blockKind == .function && env.kindOf y == some .local && _ && _) : Sem Bool) = pure false
  rw [e, Bool.and_false, Bool.false_and, Bool.false_and]
theorem cs_asg (cx : CxS X W c) (fx : FxS (gp X) X.base Γ lvl c) (t : Tg) (e : P) : ClS Γ lvl c X W (.asg t e) := by
  refine cs_plain (fun st h => ?_) rfl
  have ce := (chk_both (Γ := Γ) (lvl := lvl) e).1 X W c cx.toCxOk fx.toFx
  simp only [chkS] at h
  split at h
  · rename_i y py v pos heq
    cases heq
    cases t with
    | nm i =>
      simp only [Bool.and_eq_true, beq_iff_eq] at h
      obtain ⟨⟨⟨⟨hN, hl⟩, hf⟩, he⟩, hv⟩ := h
      obtain ⟨l1, l2⟩ := loc_of cx.toCxOk hl
      have hi : i ∉ c.fx := freshB_of hf i (by simp)
      have hN' : X.N[i]? = some y := by rw [cx.N]; exact hN
      by_cases hc : isComp v = true
      · obtain ⟨own, t, it, k, b, rfl⟩ := comp_lc hc he
        obtain ⟨elt, tg, iter, ifs, scope, vpos, rfl, q1, q2, q3, q4, q5, q6, q7⟩ := lc_parts own t (chk_both k).1 (chk_both b).1 ((chk_both it).2 X W c cx.toCxOk fx.toFx) cx.toCxOk fx.toFx he
        rw [Bool.or_eq_true] at hv
        rcases hv with hv | hv
        rotate_left
        · have hy : X.env.scope.names.lookup y = some .cell := by
            rw [cx.sc]
            simpa only [kindB, beq_iff_eq] using hv
          exact PS.imp (ps_set cx.nd hN' l1 (ce.pe _ he) (sw_cell hy) l2) fun D σ H h => asgN_s hi h
        simp only [Bool.and_eq_true, Bool.not_eq_true'] at hv
        have hy : X.env.scope.names.lookup y = some .local := by
          rw [cx.sc]
          have := hv.1.1
          simpa only [localB, kindB, beq_iff_eq] using this
        have hk : X.env.scope.kind = .function := by rw [cx.sc]; exact cx.kind
        refine PS.imp (ps_setLc cx.calm cx.nd hN' hy (sw_true hk hy hv.1.2 hv.2) q1 q2 q3 q4 q5 q6) fun D σ H h => ?_
        exact q7 _ _ _ (asgN_s hi h)
      · have hc : isComp v = false := by simpa using hc
        exact PS.imp (ps_set cx.nd hN' l1 (ce.pe _ he) (sw_no1 hc) l2) fun D σ H h => asgN_s hi h
    | _ => cases h
  · rename_i es k tp v pos heq
    cases heq
    cases t with
    | tp ts =>
      simp only [Bool.and_eq_true, Bool.not_eq_true'] at h
      obtain ⟨⟨⟨⟨ht, hf⟩, he⟩, hc⟩, hv⟩ := h
      refine PS.imp (ps_asg (ce.pe _ he) ((pg_s cx.toCxOk (.tp ts)).1 _ rfl ht) (sw_no hc) (ss_no hv) (by rw [asgE rfl]; rfl)) fun D σ H h => asgT_s nofun (freshB_of hf) h
    | _ => cases h
  · cases h
end
end RL

namespace RL
open PySem PySem.Spec L2
section
variable {X : Cx} {W : WX} {c : Cfg} {Γ : Nat → Option Fn} {lvl : Nat → Nat}
theorem cs_nop (cx : CxS X W c) : ClS Γ lvl c X W .nop := by
  refine cs_plain (fun st h => ?_) rfl
  simp only [chkS] at h
  split at h
  · rename_i heq
    cases heq
    exact PS.imp ps_pass fun D σ H h => nop_s h
  · rename_i heq
    cases heq
    exact PS.imp ps_doc fun D σ H h => nop_s h
  · cases h
theorem swap_ok {env : PySem.Env} {x y : Str} {px py tp p2 : Pos} {kt k2 : Nat} {va vb : Expr} (hk : env.scope.kind = .function) (lx : env.scope.names.lookup x = some .local) (ly : env.scope.names.lookup y = some .local)
    (hl : px.line = py.line) (hxy : (x == y) = false) (f1 : (foldedForSure 8 va && foldedForSure 8 vb) = false) (f2 : (constantsAlone 8 va && constantsAlone 8 vb) = false) (n1 : notStar va = true) (n2 : notStar vb = true) :
    swappedStores [.Tuple [.Name x px, .Name y py] kt tp] (.Tuple [va, vb] k2 p2) env = pure (some [x, y]) := by
  have e1 : env.kindOf x = some .local := lx
  have e2 : env.kindOf y = some .local := ly
  have hb : (env.blockKind != .function) = false := by
    unfold Env.blockKind
    rw [hk]; rfl
  have hyx : (y == x) = false := by
    rw [beq_eq_false_iff_ne] at hxy ⊢
    exact fun z => hxy z.symm
  have hx2 : x ≠ y := by rw [beq_eq_false_iff_ne] at hxy; exact hxy
  have e3 : ([x, y] : List Str).eraseDups.length = 2 := by
    rw [List.eraseDups_cons]
    simp [hyx, List.eraseDups_cons]
  have st : ∀ v : Expr, notStar v = true → (match v with | .Starred .. => true | _ => false) = false := by intro v h; cases v <;> first | rfl | cases h
  unfold swappedStores
  simp only [List.length_cons, List.length_nil, hb, List.any_cons, List.any_nil, st _ n1, st _ n2, List.all_cons, List.all_nil, Bool.and_true, f1, f2, List.head?_cons, Option.map_some, Option.getD_some, Expr.pos, List.filterMap_cons, List.filterMap_nil, e1, e2, hl, beq_self_eq_true, if_true, e3]
  rw [if_neg (by decide), if_neg, if_neg (by decide), if_neg (by decide), if_neg (by decide)]
  intro z
  rw [Bool.or_eq_true, Bool.or_false] at z
  rcases z with z | z
  · cases va <;> first | (cases z; done) | (cases n1; done)
  · cases vb <;> first | (cases z; done) | (cases n2; done)
theorem cs_par (cx : CxS X W c) (fx : FxS (gp X) X.base Γ lvl c) (i j : Nat) (a b : P) : ClS Γ lvl c X W (.par i j a b) := by
  refine cs_plain (fun st h => ?_) rfl
  have ca := (chk_both (Γ := Γ) (lvl := lvl) a).1 X W c cx.toCxOk fx.toFx
  have cb := (chk_both (Γ := Γ) (lvl := lvl) b).1 X W c cx.toCxOk fx.toFx
  simp only [chkS] at h
  split at h
  · rename_i x px y py kt tp va vb k2 p2 pos heq
    cases heq
    simp only [Bool.and_eq_true, beq_iff_eq, Bool.not_eq_true', localB, kindB] at h
    obtain ⟨⟨⟨⟨⟨⟨⟨⟨⟨⟨⟨⟨⟨hi, hj⟩, hij⟩, hx⟩, hy⟩, hl⟩, hf⟩, n1⟩, n2⟩, f1⟩, f2⟩, hxy⟩, ka⟩, kb⟩ := h
    have hij' : i ≠ j := fun z => by rw [z] at hij; simp at hij
    have pa : PA X [va, vb] (aOf (gp X) W (den Γ (.cons a (.cons b .nil)))) := PA.imp (pa_cons (ca.pe _ ka) (pa_cons (cb.pe _ kb) pa_nil (starE n2)) (starE n1)) fun σ H Q h => (arg2_s h : _)
    have lx : X.env.scope.names.lookup x = some .local := by rw [cx.sc]; exact hx
    have ly : X.env.scope.names.lookup y = some .local := by rw [cx.sc]; exact hy
    have hsw : swappedStores [.Tuple [.Name x px, .Name y py] kt tp] (.Tuple [va, vb] k2 p2) X.env = pure (some [x, y]) := by
      exact swap_ok (by rw [cx.sc]; exact cx.kind) lx ly hl hxy f1 f2 n1 n2
    exact PS.imp (ps_par cx.calm cx.nd (by rw [cx.N]; exact hi) (by rw [cx.N]; exact hj) hij' lx ly pa hsw) fun D σ H h => par_s (freshB_of hf i (by simp)) (freshB_of hf j (by simp)) h
  · cases h
theorem cs_setL (cx : CxS X W c) (fx : FxS (gp X) X.base Γ lvl c) (i : Nat) (k e : P) : ClS Γ lvl c X W (.setL i k e) := by
  refine cs_plain (fun st h => ?_) rfl
  have ck := (chk_both (Γ := Γ) (lvl := lvl) k).1 X W c cx.toCxOk fx.toFx
  have ce := (chk_both (Γ := Γ) (lvl := lvl) e).1 X W c cx.toCxOk fx.toFx
  simp only [chkS] at h
  split at h
  · rename_i x px kx p1 v pos heq
    cases heq
    simp only [Bool.and_eq_true, beq_iff_eq, Bool.not_eq_true'] at h
    obtain ⟨⟨⟨⟨hN, hv⟩, hp⟩, hk⟩, he⟩ := h
    obtain ⟨v1, v2, v3⟩ := vis_of cx.toCxOk hv
    refine PS.imp (ps_asg (ce.pe _ he) (pg_sub (pe_var (by rw [cx.N]; exact hN) v1 v2 v3) (ck.pe _ hk) set_list fun v => ?_) sw_sub ss_sub (by rw [asgE rfl]; rfl)) fun D σ H h => setL_s h
    cases kx <;> first | rfl | cases hp
  · cases h
theorem mul_fit {i j : Int} (h : mulOk i j = true) : PySem.IntMulOk i j := by
  simp only [mulOk, Bool.or_eq_true, decide_eq_true_eq] at h
  rcases h with (h | h) | h
  · exact (show L2.CMul i j from .inl h).ok
  · exact (show L2.CMul i j from .inr h).ok
  · exact (show L2.CMulW i j from h).ok
theorem ip_mulR {X : Cx} : PIp X .Mult (fun x y H Q => ∃ i j, x = .int i ∧ y = .int j ∧ mulOk i j = true ∧ Q (.int (i * j)) H) := by
  intro pins s σ H x y v u Q I r1 r2 ⟨i, j, e1, e2, ok, q⟩
  subst e1; subst e2
  obtain ⟨t, rfl⟩ := r1
  obtain ⟨t', rfl⟩ := r2
  exact PySem.P.imul_int ⟨.int _, H, I.tok _, ⟨_, rfl⟩, q⟩ (mul_fit ok)
theorem cs_aug (cx : CxS X W c) (fx : FxS (gp X) X.base Γ lvl c) (op : Operator) (i : Nat) (e : P) : ClS Γ lvl c X W (.aug op i e) := by
  refine cs_plain (fun st h => ?_) rfl
  have ce := (chk_both (Γ := Γ) (lvl := lvl) e).1 X W c cx.toCxOk fx.toFx
  simp only [chkS] at h
  split at h
  · rename_i x px o v pos heq
    cases heq
    simp only [Bool.and_eq_true, Bool.or_eq_true, beq_iff_eq] at h
    obtain ⟨⟨⟨⟨⟨rfl, ho⟩, hN⟩, hl⟩, hf⟩, he⟩ := h
    obtain ⟨l1, l2⟩ := loc_of cx.toCxOk hl
    have hi : i ∉ c.fx := freshB_of hf i (by simp)
    have hsc : ∀ d e r, augD o d e = some r → ∃ a b, d = .int a ∧ e = .int b := by
      intro d e r h
      rcases ho with (rfl | rfl) | rfl <;> (cases d <;> cases e <;> first | exact ⟨_, _, rfl, rfl⟩ | cases h)
    rcases ho with (rfl | rfl) | rfl
    · refine PS.imp (ps_aug cx.nd (by rw [cx.N]; exact hN) l1 (ce.pe _ he) ip_add l2) fun D σ H h => aug_s hi (fun d e r x y H Q h1 h2 h3 q => ?_) hsc h
      obtain ⟨a, b, rfl, rfl⟩ := hsc _ _ _ h1
      cases h1
      cases h2 (fun _ => none); cases h3 (fun _ => none)
      exact ⟨a, b, rfl, rfl, q _ fun _ => .int _⟩
    · refine PS.imp (ps_aug cx.nd (by rw [cx.N]; exact hN) l1 (ce.pe _ he) ip_sub l2) fun D σ H h => aug_s hi (fun d e r x y H Q h1 h2 h3 q => ?_) hsc h
      obtain ⟨a, b, rfl, rfl⟩ := hsc _ _ _ h1
      cases h1
      cases h2 (fun _ => none); cases h3 (fun _ => none)
      exact ⟨a, b, rfl, rfl, q _ fun _ => .int _⟩
    · refine PS.imp (ps_aug cx.nd (by rw [cx.N]; exact hN) l1 (ce.pe _ he) ip_mulR l2) fun D σ H h => aug_s hi (fun d e r x y H Q h1 h2 h3 q => ?_) hsc h
      obtain ⟨a, b, rfl, rfl⟩ := hsc _ _ _ h1
      simp only [augD] at h1
      split at h1
      · rename_i ok
        cases h1
        cases h2 (fun _ => none); cases h3 (fun _ => none)
        exact ⟨a, b, rfl, rfl, ok, q _ fun _ => .int _⟩
      · cases h1
  · cases h
theorem cs_app (cx : CxS X W c) (fx : FxS (gp X) X.base Γ lvl c) (i : Nat) (e : P) : ClS Γ lvl c X W (.app i e) := by
  refine cs_plain (fun st h => ?_) rfl
  have ce := (chk_both (Γ := Γ) (lvl := lvl) e).1 X W c cx.toCxOk fx.toFx
  simp only [chkS] at h
  split at h
  · rename_i x px m ap v cp pos heq
    cases heq
    simp only [Bool.and_eq_true, beq_iff_eq] at h
    obtain ⟨⟨⟨⟨⟨rfl, hN⟩, hv⟩, hl⟩, ns⟩, he⟩ := h
    obtain ⟨v1, v2, v3⟩ := vis_of cx.toCxOk hv
    refine PS.imp (ps_expr (pe_bm PySem.F.plainAttrs_list PySem.F.slot_list_append PySem.F.type_list_append mt_append (pe_var (by rw [cx.N]; exact hN) v1 v2 v3) (pa_cons (ce.pe _ he) pa_nil (starE ns)) rfl ?_ (by simpa using hl) (starE ns) (noStar rfl)) rfl) fun D σ H h => app_s h
    rw [starE ns]; rfl
  · cases h
theorem cs_exp (cx : CxS X W c) (fx : FxS (gp X) X.base Γ lvl c) (e : P) : ClS Γ lvl c X W (.exp e) := by
  refine cs_plain (fun st h => ?_) rfl
  have ce := (chk_both (Γ := Γ) (lvl := lvl) e).1 X W c cx.toCxOk fx.toFx
  simp only [chkS] at h
  split at h
  · rename_i heq
    cases heq
    exact PS.imp (ps_expr (ce.pe _ h) rfl) fun D σ H h => exp_s h
  · cases h
theorem cs_ret (cx : CxS X W c) (fx : FxS (gp X) X.base Γ lvl c) (e : P) : ClS Γ lvl c X W (.ret e) := by
  refine cs_plain (fun st h => ?_) rfl
  have ce := (chk_both (Γ := Γ) (lvl := lvl) e).1 X W c cx.toCxOk fx.toFx
  simp only [chkS] at h
  split at h
  · rename_i heq
    cases heq
    exact PS.imp (ps_ret (ce.pe _ h)) fun D σ H h => ret_s h
  · cases h
theorem cs_retN (cx : CxS X W c) : ClS Γ lvl c X W .retN := by
  refine cs_plain (fun st h => ?_) rfl
  simp only [chkS] at h
  split at h
  · rename_i heq
    cases heq
    exact PS.imp ps_retN fun D σ H h => retN_s h
  · cases h
theorem cs_iff (cx : CxS X W c) (fx : FxS (gp X) X.base Γ lvl c) (k : P) {a b : S} (ca : ClS Γ lvl c X W a) (cb : ClS Γ lvl c X W b) : ClS Γ lvl c X W (.iff k a b) := by
  refine cs_plain (fun st h => ?_) rfl
  have ck := (chk_both (Γ := Γ) (lvl := lvl) k).1 X W c cx.toCxOk fx.toFx
  simp only [chkS] at h
  split at h
  · rename_i heq
    cases heq
    simp only [Bool.and_eq_true] at h
    obtain ⟨⟨⟨⟨⟨ht, hk⟩, la⟩, ha⟩, lb⟩, hb⟩ := h
    exact PS.imp (ps_if (ck.pt _ hk ht) (ca.pss la _ ha) (cb.pss lb _ hb)) fun D σ H h => iff_s h
  · cases h
theorem cs_whl (cx : CxS X W c) (fx : FxS (gp X) X.base Γ lvl c) (k : P) {b : S} (cb : ClS Γ lvl c X W b) : ClS Γ lvl c X W (.whl k b) := by
  refine cs_plain (fun st h => ?_) rfl
  have ck := (chk_both (Γ := Γ) (lvl := lvl) k).1 X W c cx.toCxOk fx.toFx
  simp only [chkS] at h
  split at h
  · rename_i heq
    cases heq
    simp only [Bool.and_eq_true] at h
    obtain ⟨⟨⟨ht, hk⟩, lb⟩, hb⟩ := h
    exact PS.imp (ps_while cx.own (ck.pt _ hk ht) (cb.pss lb _ hb)) fun D σ H h => whl_s h
  · cases h
theorem cs_frr (cx : CxS X W c) (fx : FxS (gp X) X.base Γ lvl c) (t : Tg) (it : P) {b : S} (cb : ClS Γ lvl c X W b) : ClS Γ lvl c X W (.frr t it b) := by
  refine cs_plain (fun st h => ?_) rfl
  have ci := (chk_both (Γ := Γ) (lvl := lvl) it).2 X W c cx.toCxOk fx.toFx
  simp only [chkS] at h
  split at h
  · rename_i heq
    cases heq
    simp only [Bool.and_eq_true] at h
    obtain ⟨⟨⟨⟨⟨⟨hs, hp⟩, ht⟩, hf⟩, hi⟩, lb⟩, hb⟩ := h
    exact PS.imp (ps_for cx.own cx.calm (ci _ _ hi) ((pg_s cx.toCxOk t).1 _ hp ht) (cb.pss lb _ hb) (fold_ok hs _)) fun D σ H h => for_s (freshB_of hf) h
  · cases h
theorem cs_brk (cx : CxS X W c) : ClS Γ lvl c X W .brk := by
  refine cs_plain (fun st h => ?_) rfl
  simp only [chkS] at h
  split at h
  · rename_i heq
    cases heq
    exact PS.imp ps_break fun D σ H h => brk_s h
  · cases h
theorem cs_cont (cx : CxS X W c) : ClS Γ lvl c X W .cont := by
  refine cs_plain (fun st h => ?_) rfl
  simp only [chkS] at h
  split at h
  · rename_i heq
    cases heq
    exact PS.imp ps_continue fun D σ H h => cont_s h
  · cases h
theorem cs_rse (cx : CxS X W c) (fx : FxS (gp X) X.base Γ lvl c) (x : Str) : ClS Γ lvl c X W (.rse x) := by
  refine cs_plain (fun st h => ?_) rfl
  simp only [chkS] at h
  split at h
  · rename_i heq
    cases heq
    simp only [Bool.and_eq_true, beq_iff_eq] at h
    obtain ⟨⟨rfl, hg⟩, he⟩ := h
    obtain ⟨C, bmB, B, n1, n2, f1, f2, f3, f4, f5⟩ := (fx.exc _ (List.contains_iff_mem.mp he)).ex
    obtain ⟨g1, g2, g3⟩ := gl_of cx.toCxOk hg
    exact PS.imp (ps_raise cx.calm cx.takes (pmk_own f1 f2 f3 f4 f5 g1 g3)) fun D σ H h => rse_s (G := gp X) f3 h
  · cases h
structure CxL (Y : Cx) (c : Cfg) : Prop where
  N : Y.N = c.N
  nd : Y.N.Nodup
  sc : Y.env.scope = c.sc
  fn : Y.fn = c.fn
theorem chkB_s {Y : Cx} {W : WX} {c : Cfg} (cl : CxL Y c) : ∀ s : S, (∀ st, chkB c false s [st] = true → PS Y st (sOf (gp Y) W c.fx (denS Γ s))) ∧ (s.isL = true → ∀ sts, chkB c true s sts = true → PSs Y sts (sOf (gp Y) W c.fx (denS Γ s)))
  | .nil => ⟨fun st h => (by simp [chkB] at h), fun _ sts h => by
      simp only [chkB] at h
      split at h
      · exact PSs.imp pss_nil fun D σ H h => nop_s h
      · cases h⟩
  | .cons a b => ⟨fun st h => (by simp [chkB] at h), fun _ sts h => by
      simp only [chkB] at h
      split at h
      · simp only [Bool.and_eq_true] at h
        obtain ⟨⟨⟨_, ha⟩, lb⟩, hb⟩ := h
        exact PSs.imp (pss_cons ((chkB_s cl a).1 _ ha) ((chkB_s cl b).2 lb _ hb)) fun D σ H h => cons_s h
      · cases h⟩
  | .nop => ⟨fun st h => (by
      simp only [chkB] at h
      split at h
      · rename_i heq
        cases heq
        exact PS.imp ps_pass fun D σ H h => nop_s h
      · (cases h)), nofun⟩
  | .asg t e => ⟨fun st h => (by
      cases t with
      | nm i =>
        cases e with
        | cst d =>
          simp only [chkB] at h
          split at h
          · rename_i y py k kk p2 pos heq
            cases heq
            simp only [Bool.and_eq_true, beq_iff_eq] at h
            obtain ⟨⟨⟨hN, hl⟩, hf⟩, hk⟩ := h
            have pe := (cl_cst (X := Y) (W := W) (c := c) (Γ := Γ) (lvl := fun _ => 0) d).pe (.Constant k kk p2) (by simp only [chk]; exact hk)
            have l1 : L2.Loc Y.env.scope y ∧ (Y.fn y = true ∨ Y.env.scope.names.lookup y = some .local) := by
              simp only [locB, kindB, Bool.or_eq_true, Bool.and_eq_true, beq_iff_eq] at hl
              constructor
              · unfold L2.Loc
                rw [cl.sc]
                rcases hl with z | ⟨z, _⟩
                · exact .inl z
                · exact .inr z
              · rw [cl.sc, cl.fn]
                rcases hl with z | ⟨_, z⟩
                · exact .inr z
                · exact .inl z
            exact PS.imp (ps_set cl.nd (by rw [cl.N]; exact hN) l1.1 pe rfl l1.2) fun D σ H h => asgN_s (freshB_of hf i (by simp)) h
          · cases h
        | _ => simp [chkB] at h
      | _ => simp [chkB] at h), nofun⟩
  | .ret e => ⟨fun st h => (by
      cases e with
      | cst d =>
        simp only [chkB] at h
        split at h
        · rename_i k kk p2 pos heq
          cases heq
          have pe := (cl_cst (X := Y) (W := W) (c := c) (Γ := Γ) (lvl := fun _ => 0) d).pe (.Constant k kk p2) (by simp only [chk]; exact h)
          exact PS.imp (ps_ret pe) fun D σ H h => ret_s h
        · cases h
      | _ => simp [chkB] at h), nofun⟩
  | .brk => ⟨fun st h => (by
      simp only [chkB] at h
      split at h
      · rename_i heq
        cases heq
        exact PS.imp ps_break fun D σ H h => brk_s h
      · (cases h)), nofun⟩
  | .cont => ⟨fun st h => (by
      simp only [chkB] at h
      split at h
      · rename_i heq
        cases heq
        exact PS.imp ps_continue fun D σ H h => cont_s h
      · (cases h)), nofun⟩
  | .par _ _ _ _ => ⟨fun st h => (by simp [chkB] at h), nofun⟩
  | .setL _ _ _ => ⟨fun st h => (by simp [chkB] at h), nofun⟩
  | .aug _ _ _ => ⟨fun st h => (by simp [chkB] at h), nofun⟩
  | .app _ _ => ⟨fun st h => (by simp [chkB] at h), nofun⟩
  | .exp _ => ⟨fun st h => (by simp [chkB] at h), nofun⟩
  | .retN => ⟨fun st h => (by simp [chkB] at h), nofun⟩
  | .iff _ _ _ => ⟨fun st h => (by simp [chkB] at h), nofun⟩
  | .whl _ _ => ⟨fun st h => (by simp [chkB] at h), nofun⟩
  | .frr _ _ _ => ⟨fun st h => (by simp [chkB] at h), nofun⟩
  | .rse _ => ⟨fun st h => (by simp [chkB] at h), nofun⟩
  | .tryM _ _ => ⟨fun st h => (by simp [chkB] at h), nofun⟩
  | .hd _ _ _ _ => ⟨fun st h => (by simp [chkB] at h), nofun⟩
theorem chkH_s (cx : CxS X W c) (fx : FxS (gp X) X.base Γ lvl c) : ∀ (hs : S) (hds : List ExceptHandler), chkH c hs hds = true → ∃ l, HdsOk X hds l ∧ ∀ (e : Ex) (D : Ends) (σ : St) (ρ : Env) (H0 H : Hp) (cls : Value) (d : Option Addr),
    kS (gp X) W c.fx (denH Γ hs e ρ) D σ ρ H0 H → RE (gp X) H0 H σ ρ → ExR (gp X) H0 H e cls d → wMany X.K W D l cls d σ H
  | .nil, hds, h => by
    simp only [chkH] at h
    have : hds = [] := by cases hds <;> first | rfl | cases h
    subst this
    refine ⟨[], .nil, fun e D σ ρ H0 H cls d k re x => ?_⟩
    simp only [denH] at k
    exact k cls d σ H0 H (.refl re) x
  | .hd x known h rest, hds, hc => by
    simp only [chkH] at hc
    split at hc
    · rename_i y np b0 suite pos' hds
      simp only [Bool.and_eq_true, beq_iff_eq] at hc
      obtain ⟨⟨⟨⟨⟨⟨rfl, hg⟩, hk⟩, hany⟩, hl⟩, hb⟩, hr⟩ := hc
      obtain ⟨l, hl', sem⟩ := chkH_s cx fx rest hds hr
      obtain ⟨t, ht, hty⟩ := List.any_eq_true.mp hany
      obtain ⟨_, Cx, _, mx, _⟩ := fx.sub t ht
      rw [beq_iff_eq.mp hty] at mx
      obtain ⟨g1, g2, g3⟩ := gl_of cx.toCxOk hg
      refine ⟨(.ref Cx, fun _ _ _ => sOf (gp X) W c.fx (denS Γ h)) :: l, .cons ⟨g1, g3, .inl mx⟩ (fun a oe cls d pn _ _ => (chkB_s (Y := X.suite a ((a, oe) :: pn)) (W := W) ⟨cx.N, cx.nd, cx.sc, cx.fn⟩ h).2 hl _ hb) hl', fun e D σ ρ H0 H cls d k re xr => ?_⟩
      simp only [denH] at k
      cases el : known.lookup e.cls with
      | none => rw [el] at k; exact False.elim k
      | some b =>
        rw [el] at k
        have hm : (e.cls, b) ∈ known := by
          have : ∀ {known : List (Str × Bool)}, known.lookup e.cls = some b → (e.cls, b) ∈ known := by
            intro known
            induction known with
            | nil => intro z; cases z
            | cons p r ih =>
              intro z
              obtain ⟨n, v⟩ := p
              rw [List.lookup_cons] at z
              cases q : e.cls == n with
              | true =>
                rw [q] at z
                cases z
                rw [beq_iff_eq.mp q]; exact List.mem_cons_self
              | false => rw [q] at z; exact List.mem_cons_of_mem _ (ih z)
          exact this el
        have hsub := List.contains_iff_mem.mp (List.all_eq_true.mp hk _ hm)
        obtain ⟨Ce, Cx', me, mx', ex⟩ := fx.sub _ hsub
        have e1 := mx.symm.trans mx'
        cases e1
        have e2 := xr.1.symm.trans me
        cases e2
        refine ⟨b, ex, fun hb' a _ => ?_, fun hb' => ?_⟩
        · subst hb'
          exact ⟨H0, ρ, re, k⟩
        · subst hb'
          exact sem e D σ ρ H0 H _ d k re xr
    · cases hc
  | .nop, _, h => by simp [chkH] at h
  | .asg _ _, _, h => by simp [chkH] at h
  | .par _ _ _ _, _, h => by simp [chkH] at h
  | .setL _ _ _, _, h => by simp [chkH] at h
  | .aug _ _ _, _, h => by simp [chkH] at h
  | .app _ _, _, h => by simp [chkH] at h
  | .exp _, _, h => by simp [chkH] at h
  | .ret _, _, h => by simp [chkH] at h
  | .retN, _, h => by simp [chkH] at h
  | .iff _ _ _, _, h => by simp [chkH] at h
  | .whl _ _, _, h => by simp [chkH] at h
  | .frr _ _ _, _, h => by simp [chkH] at h
  | .brk, _, h => by simp [chkH] at h
  | .cont, _, h => by simp [chkH] at h
  | .rse _, _, h => by simp [chkH] at h
  | .tryM _ _, _, h => by simp [chkH] at h
  | .cons _ _, _, h => by simp [chkH] at h
theorem cs_try (cx : CxS X W c) (fx : FxS (gp X) X.base Γ lvl c) (b hs : S) (ih : ∀ (X : Cx) (W : WX), CxS X W c → FxS (gp X) X.base Γ lvl c → ClS Γ lvl c X W b) : ClS Γ lvl c X W (.tryM b hs) := by
  refine cs_plain (fun st h => ?_) rfl
  simp only [chkS] at h
  split at h
  · rename_i body hds pos heq
    cases heq
    simp only [Bool.and_eq_true] at h
    obtain ⟨⟨⟨lb, hb⟩, hh⟩, hc⟩ := h
    obtain ⟨l, hl, sem⟩ := chkH_s cx fx hs hds hc
    cases hds with
    | nil => cases hs <;> first | (cases hh; done) | (simp [chkH] at hc; done)
    | cons h0 hds =>
      refine PS.imp (ps_try_many (tb := fun W => sOf (gp X) W c.fx (denS Γ b)) (Wout := W) cx.stk cx.frm cx.takes (fun W' pn xe tk po => ?_) hl) fun D σ H hq => ?_
      · exact (ih (X.tr pn xe) W' { N := cx.N, nd := cx.nd, sc := cx.sc, fn := cx.fn, calm := cx.calm, room := cx.room, takes := tk, own := po, stk := cx.stk, frm := cx.frm, kind := cx.kind } fx).pss lb _ hb
      · obtain ⟨H0, ρ, re, k⟩ := hq
        refine ⟨H0, ρ, re, ?_⟩
        simp only [denS] at k
        cases e : denS Γ b ρ with
        | nx ρ1 => rw [e] at k; exact k
        | rt t ρ1 => rw [e] at k; exact k
        | bk ρ1 => rw [e] at k; exact k
        | ct ρ1 => rw [e] at k; exact k
        | no => rw [e] at k; exact k
        | ex x ρ1 =>
          rw [e] at k
          exact fun cls d σ' H0' H' a xr => sem x D σ' ρ1 H0' H' cls d (k.step a) a.re xr
  · cases h
theorem chkS_s {Γ : Nat → Option Fn} {lvl : Nat → Nat} {c : Cfg} : ∀ (s : S) {X : Cx} {W : WX}, CxS X W c → FxS (gp X) X.base Γ lvl c → ClS Γ lvl c X W s
  | .nop, X, W, cx, fx => cs_nop cx
  | .asg t e, X, W, cx, fx => cs_asg cx fx t e
  | .par i j a b, X, W, cx, fx => cs_par cx fx i j a b
  | .setL i k e, X, W, cx, fx => cs_setL cx fx i k e
  | .aug op i e, X, W, cx, fx => cs_aug cx fx op i e
  | .app i e, X, W, cx, fx => cs_app cx fx i e
  | .exp e, X, W, cx, fx => cs_exp cx fx e
  | .ret e, X, W, cx, fx => cs_ret cx fx e
  | .retN, X, W, cx, fx => cs_retN cx
  | .iff k a b, X, W, cx, fx => cs_iff cx fx k (chkS_s a cx fx) (chkS_s b cx fx)
  | .whl k b, X, W, cx, fx => cs_whl cx fx k (chkS_s b cx fx)
  | .frr t it b, X, W, cx, fx => cs_frr cx fx t it (chkS_s b cx fx)
  | .brk, X, W, cx, fx => cs_brk cx
  | .cont, X, W, cx, fx => cs_cont cx
  | .rse x, X, W, cx, fx => cs_rse cx fx x
  | .tryM b hs, X, W, cx, fx => cs_try cx fx b hs fun X W cx fx => chkS_s b cx fx
  | .hd _ _ _ _, X, W, cx, fx => ⟨fun st h => by simp [chkS] at h, nofun⟩
  | .nil, X, W, cx, fx => ⟨fun st h => by simp [chkS] at h, fun _ sts h => by
      simp only [chkS] at h
      split at h
      · exact PSs.imp pss_nil fun D σ H h => nop_s h
      · cases h⟩
  | .cons a b, X, W, cx, fx => ⟨fun st h => by simp [chkS] at h, fun _ sts h => by
      simp only [chkS] at h
      split at h
      · simp only [Bool.and_eq_true] at h
        obtain ⟨⟨⟨_, ha⟩, lb⟩, hb⟩ := h
        exact PSs.imp (pss_cons ((chkS_s a cx fx).ps _ ha) ((chkS_s b cx fx).pss lb _ hb)) fun D σ H h => cons_s h
      · cases h⟩
end
end RL

namespace RL
open PySem PySem.Spec L2
/-! a def -/
def cellsOf : List Bool → List D → Option Env
  | [], [] => some []
  | b :: bs, d :: ds => (cellsOf bs ds).map fun ρ => (if b then .ow d else .pu d) :: ρ
  | _, _ => none
def ioFrom : Nat → List Bool → List Nat
  | _, [] => []
  | n, true :: bs => n :: ioFrom (n + 1) bs
  | n, false :: bs => ioFrom (n + 1) bs
def ioSlots (io : List Bool) : List Nat := ioFrom 0 io
def iosAt (ρ : Env) : List Nat → Option (List D)
  | [] => some []
  | i :: is =>
    match ρ[i]? with
    | some (.ow d) => (iosAt ρ is).map (d :: ·)
    | _ => none
def outT (is : List Nat) (ρ : Env) : T → Option T
  | .p d => some (.p d)
  | .f d => some (.f d)
  | .s i =>
    match ρ[i]? with
    | some (.pu d) => some (.p d)
    | some (.ow d) => if is.contains i then none else some (.f d)
    | _ => none
def retF (is : List Nat) (t : T) (ρ : Env) : FR :=
  match iosAt ρ is, outT is ρ t with
  | some ios, some t' => .ret t' ios
  | _, _ => .stuck
def finish (is : List Nat) : SO → FR
  | .nx ρ => retF is (.p .none) ρ
  | .rt t ρ => retF is t ρ
  | .ex e ρ => (match iosAt ρ is with | some ios => .exc e ios | none => .stuck)
  | _ => .stuck
noncomputable def runF (Γ : Nat → Option Fn) (n : Nat) (io : List Bool) (body : S) (ds : List D) : FR :=
  match cellsOf io ds with
  | some ρ => finish (ioSlots io) (denS Γ body (ρ ++ List.replicate (n - io.length) .un))
  | none => .stuck
section
variable {G : Gp} {W : WX} {fx : List Nat} {σ σ' σ1 σ2 : St} {ρ ρ' ρ1 ρ2 : Env} {H0 H H01 H1 H02 H2 H0' H' : Hp} {Q : VK}
theorem args_len : ∀ {io : List Bool} {vs : List V} {ds : List D}, ArgsR G H0 H io vs ds → vs.length = io.length ∧ ds.length = io.length
  | [], [], [], _ => ⟨rfl, rfl⟩
  | false :: ms, v :: vs, d :: ds, h => let ⟨a, b⟩ := args_len h.2; ⟨by simp [a], by simp [b]⟩
  | true :: ms, v :: vs, d :: ds, h => let ⟨a, b⟩ := args_len h.2; ⟨by simp [a], by simp [b]⟩
  | [], _ :: _, _, h => by cases h
  | [], [], _ :: _, h => by cases h
  | false :: _, [], _, h => by cases h
  | true :: _, [], _, h => by cases h
  | false :: _, _ :: _, [], h => by cases h
  | true :: _, _ :: _, [], h => by cases h
/-- the cells of the parameters -/
theorem cells_get : ∀ {io : List Bool} {vs : List V} {ds : List D} {ρ : Env}, ArgsR G H0 H io vs ds → cellsOf io ds = some ρ → ρ.length = io.length ∧
    ∀ (i : Nat) (c : Cell), ρ[i]? = some c → ∃ v d, vs[i]? = some v ∧ ((io[i]? = some false ∧ c = Cell.pu d ∧ Rp G H0 v d) ∨ (io[i]? = some true ∧ c = Cell.ow d ∧ ∃ a, v = .ref a ∧ H0 a = none ∧ TopO G H0 H a d))
  | [], [], [], _, _, e => by cases e; exact ⟨rfl, fun i c h => by simp at h⟩
  | m :: ms, v :: vs, d :: ds, ρ, h, e => by
    simp only [cellsOf] at e
    obtain ⟨ρ1, e1, rfl⟩ := Option.map_eq_some_iff.mp e
    have h2 : ArgsR G H0 H ms vs ds := by cases m <;> exact h.2
    obtain ⟨l, g⟩ := cells_get h2 e1
    refine ⟨by simp [l], fun i c hc => ?_⟩
    cases i with
    | zero =>
      simp only [List.getElem?_cons_zero, Option.some.injEq] at hc
      subst hc
      cases m with
      | false => exact ⟨v, d, rfl, .inl ⟨rfl, rfl, h.1⟩⟩
      | true => exact ⟨v, d, rfl, .inr ⟨rfl, rfl, h.1⟩⟩
    | succ i =>
      simp only [List.getElem?_cons_succ] at hc ⊢
      exact g i c hc
  | [], _ :: _, _, _, h, _ => by cases h
  | [], [], _ :: _, _, h, _ => by cases h
  | m :: _, [], _, _, h, _ => by cases m <;> cases h
  | m :: _, _ :: _, [], _, h, _ => by cases m <;> cases h
theorem ioFrom_mem : ∀ {io : List Bool} {n i : Nat}, i ∈ ioFrom n io ↔ ∃ j, i = n + j ∧ io[j]? = some true
  | [], n, i => by simp [ioFrom]
  | true :: bs, n, i => by
    simp only [ioFrom, List.mem_cons, ioFrom_mem]
    constructor
    · rintro (rfl | ⟨j, rfl, h⟩)
      · exact ⟨0, rfl, rfl⟩
      · exact ⟨j + 1, by omega, h⟩
    · rintro ⟨j, rfl, h⟩
      cases j with
      | zero => exact .inl rfl
      | succ j => exact .inr ⟨j, by omega, h⟩
  | false :: bs, n, i => by
    simp only [ioFrom, ioFrom_mem]
    constructor
    · rintro ⟨j, rfl, h⟩
      exact ⟨j + 1, by omega, h⟩
    · rintro ⟨j, rfl, h⟩
      cases j with
      | zero => simp at h
      | succ j => exact ⟨j, by omega, h⟩
/-- the values of the parameters that a def changes -/
theorem ioV_mem : ∀ {io : List Bool} {vs : List V} {v : V}, v ∈ ioV io vs ↔ ∃ i : Nat, io[i]? = some true ∧ vs[i]? = some v
  | [], vs, v => by simp [ioV]
  | m :: ms, [], v => by cases m <;> simp [ioV]
  | true :: ms, x :: vs, v => by
    simp only [ioV, List.mem_cons, ioV_mem]
    constructor
    · rintro (rfl | ⟨i, h1, h2⟩)
      · exact ⟨0, rfl, rfl⟩
      · exact ⟨i + 1, h1, h2⟩
    · rintro ⟨i, h1, h2⟩
      cases i with
      | zero => simp at h2; exact .inl h2.symm
      | succ i => exact .inr ⟨i, h1, h2⟩
  | false :: ms, x :: vs, v => by
    simp only [ioV, ioV_mem]
    constructor
    · rintro ⟨i, h1, h2⟩; exact ⟨i + 1, h1, h2⟩
    · rintro ⟨i, h1, h2⟩
      cases i with
      | zero => simp at h1
      | succ i => exact ⟨i, h1, h2⟩
theorem ioV_inj : ∀ {io : List Bool} {vs : List V} {i j : Nat} {v : V}, (ioV io vs).Nodup → io[i]? = some true → io[j]? = some true → vs[i]? = some v → vs[j]? = some v → i = j
  | [], _, _, _, _, _, h, _, _, _ => by simp at h
  | _ :: _, [], _, _, _, _, _, _, h, _ => by simp at h
  | true :: ms, x :: vs, 0, 0, _, _, _, _, _, _ => rfl
  | true :: ms, x :: vs, 0, j + 1, v, nd, _, h2, h3, h4 => by
    simp only [ioV, List.nodup_cons] at nd
    simp only [List.getElem?_cons_zero, Option.some.injEq, List.getElem?_cons_succ] at h2 h3 h4
    subst h3
    exact absurd (ioV_mem.mpr ⟨j, h2, h4⟩) nd.1
  | true :: ms, x :: vs, i + 1, 0, v, nd, h1, _, h3, h4 => by
    simp only [ioV, List.nodup_cons] at nd
    simp only [List.getElem?_cons_zero, Option.some.injEq, List.getElem?_cons_succ] at h1 h3 h4
    subst h4
    exact absurd (ioV_mem.mpr ⟨i, h1, h3⟩) nd.1
  | true :: ms, x :: vs, i + 1, j + 1, v, nd, h1, h2, h3, h4 => by
    simp only [ioV, List.nodup_cons] at nd
    simp only [List.getElem?_cons_succ] at h1 h2 h3 h4
    rw [ioV_inj nd.2 h1 h2 h3 h4]
  | false :: ms, x :: vs, 0, _, _, _, h, _, _, _ => by simp at h
  | false :: ms, x :: vs, i + 1, 0, _, _, _, h, _, _ => by simp at h
  | false :: ms, x :: vs, i + 1, j + 1, v, nd, h1, h2, h3, h4 => by
    simp only [ioV] at nd
    simp only [List.getElem?_cons_succ] at h1 h2 h3 h4
    rw [ioV_inj nd h1 h2 h3 h4]
theorem start_get {N : List Str} {vs : List V} {i : Nat} (h : i < vs.length) : (L2.start N vs)[i]? = some vs[i]? := by
  unfold L2.start
  rw [List.getElem?_append_left (by rw [List.length_map]; exact h), List.getElem?_map, List.getElem?_eq_getElem h]
  rfl
theorem start_len {N : List Str} {vs : List V} (h : vs.length ≤ N.length) : (L2.start N vs).length = N.length := by
  unfold L2.start
  rw [List.length_append, List.length_map, List.length_replicate]; omega
theorem start_out {N : List Str} {vs : List V} {i : Nat} (h : vs.length ≤ i) (h2 : i < N.length) : (L2.start N vs)[i]? = some none := by
  unfold L2.start
  rw [List.getElem?_append_right (by rw [List.length_map]; exact h), List.getElem?_replicate, List.length_map, if_pos (by omega)]
/-- the state at a def's entry -/
theorem init_re {N : List Str} {io : List Bool} {vs : List V} {ds : List D} {ρ : Env} (sm : Same H0 H) (ar : ArgsR G H0 H io vs ds) (nd : (ioV io vs).Nodup) (e : cellsOf io ds = some ρ) (hl : io.length ≤ N.length) :
    RE G H0 H (L2.start N vs) (ρ ++ List.replicate (N.length - io.length) .un) ∧ ∀ i a, OwnAt (L2.start N vs) (ρ ++ List.replicate (N.length - io.length) .un) i a ↔ io[i]? = some true ∧ vs[i]? = some (.ref a) := by
  obtain ⟨l1, l2⟩ := args_len ar
  obtain ⟨lρ, g⟩ := cells_get ar e
  have hv : vs.length ≤ N.length := by rw [l1]; exact hl
  have inn : ∀ i, i < io.length → (ρ ++ List.replicate (N.length - io.length) Cell.un)[i]? = ρ[i]? := fun i h => List.getElem?_append_left (by rw [lρ]; exact h)
  have own : ∀ i a, OwnAt (L2.start N vs) (ρ ++ List.replicate (N.length - io.length) .un) i a ↔ io[i]? = some true ∧ vs[i]? = some (.ref a) := by
    intro i a
    constructor
    · rintro ⟨e1, c, ec, o⟩
      by_cases hi : i < io.length
      · rw [inn i hi] at ec
        obtain ⟨v, d, hv, h | h⟩ := g i c ec
        · obtain ⟨_, rfl, _⟩ := h; cases o
        · rw [start_get (by rw [l1]; exact hi), hv] at e1
          cases e1
          exact ⟨h.1, hv⟩
      · rw [List.getElem?_append_right (by rw [lρ]; omega), List.getElem?_replicate] at ec
        split at ec
        · cases ec; cases o
        · cases ec
    · rintro ⟨h1, h2⟩
      have hi : i < io.length := (List.getElem?_eq_some_iff.mp h1).1
      obtain ⟨c, hc⟩ : ∃ c, ρ[i]? = some c := ⟨_, List.getElem?_eq_getElem (by rw [lρ]; exact hi)⟩
      obtain ⟨v, d, hv, h | h⟩ := g i c hc
      · rw [h1] at h; cases h.1
      · obtain ⟨_, rfl, _⟩ := h
        exact ⟨by rw [start_get (by rw [l1]; exact hi), h2], _, by rw [inn i hi]; exact hc, rfl⟩
  refine ⟨⟨sm, by rw [start_len hv, List.length_append, lρ, List.length_replicate]; omega, fun i c ec => ?_, fun i j a h1 h2 => ?_⟩, own⟩
  · by_cases hi : i < io.length
    · rw [inn i hi] at ec
      obtain ⟨v, d, hv, h | h⟩ := g i c ec
      · obtain ⟨_, rfl, r⟩ := h
        exact ⟨some v, by rw [start_get (by rw [l1]; exact hi), hv], r⟩
      · obtain ⟨_, rfl, a, rfl, h0, to⟩ := h
        exact ⟨some (.ref a), by rw [start_get (by rw [l1]; exact hi), hv], h0, to⟩
    · rw [List.getElem?_append_right (by rw [lρ]; omega), List.getElem?_replicate] at ec
      split at ec
      · rename_i hlt
        cases ec
        exact ⟨none, start_out (by rw [l1]; omega) (by rw [lρ] at hlt; omega), trivial⟩
      · cases ec
  · obtain ⟨a1, a2⟩ := (own i a).mp h1
    obtain ⟨b1, b2⟩ := (own j a).mp h2
    exact ioV_inj nd a1 b1 a2 b2
end
end RL

namespace RL
open PySem PySem.Spec L2
section
variable {G : Gp} {W : WX} {fx : List Nat} {σ σ' σ1 σ2 : St} {ρ ρ' ρ1 ρ2 : Env} {H0 H H01 H1 H02 H2 H0' H' : Hp} {Q : VK}
theorem iosAt_get : ∀ {is : List Nat} {ios : List D}, iosAt ρ is = some ios → Paired (fun i d => ρ[i]? = some (.ow d)) is ios
  | [], _, e => by cases e; exact .nil
  | i :: is, ios, e => by
    simp only [iosAt] at e
    split at e
    · rename_i d ec
      obtain ⟨ds, e1, rfl⟩ := Option.map_eq_some_iff.mp e
      exact .cons ec (iosAt_get e1)
    · cases e
/-- the changed parameters at the end -/
theorem io_end : ∀ {io : List Bool} {vs : List V} {n : Nat} {ios : List D}, RE G H0' H' σ' ρ' → (∀ (j : Nat), io[j]? = some true → ∃ v, vs[j]? = some v ∧ σ'[n + j]? = some (some v)) → Paired (fun i d => ρ'[i]? = some (Cell.ow d)) (ioFrom n io) ios → vs.length = io.length → IoR G H0' H' (ioV io vs) ios
  | [], [], n, ios, re, h, p, _ => by cases p; exact .nil
  | [], _ :: _, _, _, _, _, _, l => by cases l
  | _ :: _, [], _, _, _, _, _, l => by cases l
  | true :: bs, v :: vs, n, ios, re, h, p, l => by
    cases p with
    | @cons _ d _ ds q r =>
      refine .cons ?_ (io_end (n := n + 1) re (fun j hj => ?_) r (by simpa using l))
      · obtain ⟨ov, e1, s⟩ := re.slot n _ q
        obtain ⟨a, d', rfl, hv, h0, to⟩ := s.cases_own rfl
        cases hv
        obtain ⟨w, e2, e3⟩ := h 0 rfl
        simp only [List.getElem?_cons_zero, Option.some.injEq, Nat.add_zero] at e2 e3
        subst e2
        rw [e1] at e3; cases e3
        exact ⟨a, rfl, h0, to⟩
      · obtain ⟨w, e2, e3⟩ := h (j + 1) (by simpa using hj)
        exact ⟨w, by simpa using e2, by rw [← e3]; congr 1; omega⟩
  | false :: bs, v :: vs, n, ios, re, h, p, l => by
    refine io_end (io := bs) (vs := vs) (n := n + 1) re (fun j hj => ?_) p (by simpa using l)
    obtain ⟨w, e2, e3⟩ := h (j + 1) (by simpa using hj)
    exact ⟨w, by simpa using e2, by rw [← e3]; congr 1; omega⟩
/-- a def's way out -/
theorem finish_s {N : List Str} {io : List Bool} {vs : List V} {ds : List D} {E : XK} {body : Env → SO} (sm : Same H0 H) (ar : ArgsR G H0 H io vs ds) (nd : (ioV io vs).Nodup) (hl : io.length ≤ N.length) (e : cellsOf io ds = some ρ)
    (k : match finish (ioSlots io) (body (ρ ++ List.replicate (N.length - io.length) .un)) with
      | .ret t ios => ∀ v H0' H', Same H0' H' → IoR G H0' H' (ioV io vs) ios → StepF (ioV io vs) H0 H H0' H' → RTF G H0' H' v t → Fresh H v t → Q v H'
      | .exc e ios => ∀ cls d H0' H', Same H0' H' → IoR G H0' H' (ioV io vs) ios → StepF (ioV io vs) H0 H H0' H' → ExR G H0' H' e cls d → E cls d H'
      | .stuck => False) :
    sOf G (fun cls d _ H => E cls d H) (ioSlots io) body { nx := fun _ H' => Q .non H', rt := Q } (L2.start N vs) H := by
  obtain ⟨re, own⟩ := init_re sm ar nd e hl
  obtain ⟨l1, l2⟩ := args_len ar
  obtain ⟨lρ, g⟩ := cells_get ar e
  refine ⟨H0, _, re, ?_⟩
  generalize hρ : ρ ++ List.replicate (N.length - io.length) Cell.un = ρ0 at re own k
  -- what every way out says
  have out : ∀ {σ' : St} {ρ' : Env} {H0' H' : Hp} {ios : List D}, Aft G (ioSlots io) (L2.start N vs) ρ0 H0 H σ' ρ' H0' H' → iosAt ρ' (ioSlots io) = some ios → IoR G H0' H' (ioV io vs) ios ∧ StepF (ioV io vs) H0 H H0' H' := by
    intro σ' ρ' H0' H' ios a ei
    refine ⟨io_end (n := 0) a.re (fun j hj => ?_) (iosAt_get ei) l1, ⟨a.st.g0, fun b hb h0 n => a.st.na b hb h0 fun z => ?_, fun b o hb n => a.st.fr b o hb fun z => ?_, a.st.dom⟩⟩
    · have hjl : j < vs.length := by rw [l1]; exact (List.getElem?_eq_some_iff.mp hj).1
      refine ⟨vs[j], List.getElem?_eq_getElem hjl, ?_⟩
      rw [a.fx (0 + j) (ioFrom_mem.mpr ⟨j, rfl, hj⟩), Nat.zero_add, start_get hjl, List.getElem?_eq_getElem hjl]
    · obtain ⟨i, hi⟩ := z
      obtain ⟨q1, q2⟩ := (own i b).mp hi
      exact n (ioV_mem.mpr ⟨i, q1, q2⟩)
    · obtain ⟨i, hi⟩ := z
      obtain ⟨q1, q2⟩ := (own i b).mp hi
      exact n (ioV_mem.mpr ⟨i, q1, q2⟩)
  have ret : ∀ {t : T} {ρ' : Env}, (match retF (ioSlots io) t ρ' with
      | .ret t ios => ∀ v H0' H', Same H0' H' → IoR G H0' H' (ioV io vs) ios → StepF (ioV io vs) H0 H H0' H' → RTF G H0' H' v t → Fresh H v t → Q v H'
      | .exc e ios => ∀ cls d H0' H', Same H0' H' → IoR G H0' H' (ioV io vs) ios → StepF (ioV io vs) H0 H H0' H' → ExR G H0' H' e cls d → E cls d H'
      | .stuck => False) → ∀ v σ' H0' H', Aft G (ioSlots io) (L2.start N vs) ρ0 H0 H σ' ρ' H0' H' → RT G H0' H' σ' ρ' v t → Fresh H v t → Q v H' := by
    intro t ρ' k v σ' H0' H' a rt fr
    unfold retF at k
    cases ei : iosAt ρ' (ioSlots io) with
    | none => rw [ei] at k; exact False.elim k
    | some ios =>
      cases et : outT (ioSlots io) ρ' t with
      | none => rw [ei, et] at k; exact False.elim k
      | some t' =>
        rw [ei, et] at k
        simp only at k
        obtain ⟨o1, o2⟩ := out a ei
        cases t with
        | p d => cases et; exact k v H0' H' a.re.sub o1 o2 rt trivial
        | f d =>
          cases et
          obtain ⟨b, rfl, h0, _, to⟩ := rt
          exact k _ H0' H' a.re.sub o1 o2 ⟨b, rfl, h0, to⟩ fr
        | s i =>
          simp only [outT] at et
          split at et
          · rename_i d ec
            cases et
            obtain ⟨ov, e1, s⟩ := a.re.slot i _ ec
            rw [rt.1] at e1; cases e1
            exact k v H0' H' a.re.sub o1 o2 s trivial
          · rename_i d ec
            split at et
            · cases et
            · rename_i hc
              cases et
              obtain ⟨ov, e1, s⟩ := a.re.slot i _ ec
              rw [rt.1] at e1; cases e1
              obtain ⟨b, d', eb, hv, h0, to⟩ := s.cases_own rfl
              cases eb; cases hv
              refine k _ H0' H' a.re.sub o1 o2 ⟨b, rfl, h0, to⟩ fun b' eb' => ?_
              cases eb'
              have hat : OwnAt σ' ρ' i b := ⟨rt.1, _, ec, rfl⟩
              rcases a.st.on b ⟨i, hat⟩ with z | z
              · obtain ⟨j, hj⟩ := z
                obtain ⟨q1, q2⟩ := (own j b).mp hj
                have hjm : j ∈ ioSlots io := ioFrom_mem.mpr ⟨j, by omega, q1⟩
                have hjl : j < vs.length := (List.getElem?_eq_some_iff.mp q2).1
                have e2 : σ'[j]? = some (some (.ref b)) := by
                  rw [a.fx j hjm, start_get hjl, q2]
                obtain ⟨dj, hdj⟩ : ∃ d, ρ'[j]? = some (.ow d) := by
                  have : ∀ {is : List Nat} {ios : List D}, Paired (fun i d => ρ'[i]? = some (Cell.ow d)) is ios → ∀ i ∈ is, ∃ d, ρ'[i]? = some (.ow d) := by
                    intro is ios h
                    induction h with
                    | nil => intro i hi; cases hi
                    | cons q _ ih =>
                      intro i hi
                      rcases List.mem_cons.mp hi with z | z
                      · subst z; exact ⟨_, q⟩
                      · exact ih i z
                  exact this (iosAt_get ei) j hjm
                have := a.re.apart i j b hat ⟨e2, _, hdj, rfl⟩
                subst this
                exact absurd (List.contains_iff_mem.mpr hjm) hc
              · exact z
          · cases et
  cases eb : body ρ0 with
  | nx ρ' =>
    rw [eb] at k
    exact fun σ' H0' H' a => ret (t := .p .none) (ρ' := ρ') k .non σ' H0' H' a .non trivial
  | rt t ρ' =>
    rw [eb] at k
    exact fun v σ' H0' H' a rt fr => ret (t := t) (ρ' := ρ') k v σ' H0' H' a rt fr
  | ex x ρ' =>
    rw [eb] at k
    simp only [finish] at k
    intro cls d σ' H0' H' a xr
    cases ei : iosAt ρ' (ioSlots io) with
    | none => rw [ei] at k; exact False.elim k
    | some ios =>
      rw [ei] at k
      simp only at k
      obtain ⟨o1, o2⟩ := out a ei
      exact k cls d H0' H' a.re.sub o1 o2 xr
  | bk ρ' => rw [eb] at k; exact False.elim k
  | ct ρ' => rw [eb] at k; exact False.elim k
  | no => rw [eb] at k; exact k
end
/-- a def holds what its term says -/
theorem fn_ok {G : Gp} {base : Heap} {x qual : Str} {st : Stmt} {f : Addr} {fd : FuncData} {N ps : List Str} {k : Nat} {Γ : Nat → Option Fn} {lvl : Nat → Nat} {c : Cfg} {s : S} {io : List Bool}
    (F : Fun G.K x qual st f fd) (sc : FnScope N ps (defScope st)) (hps : ps.length = io.length) (hN : io.length ≤ N.length) (fx : FxS G base Γ lvl c)
    (hcN : c.N = N) (hcs : c.sc = defScope st) (hcf : c.fn = fun _ => true) (hcl : c.lv = k) (hcx : c.fx = ioSlots io) (hs : s.isL = true) (hchk : chkS Γ lvl c true s (defBody st) = true) (nm : Str) :
    FnOk G.P G.w G.K G.mg base (L2.CX G.P G.w) (k + 1) f fd ps (spD G ⟨nm, io, runF Γ N.length io s⟩) := by
  refine F.okX sc (fun vs H Q E ⟨H0, ds, sm, ar, nd, kk⟩ => by rw [hps]; exact (args_len ar).1) (fun cdv A outer st0 H vs Q E hr ⟨H0, ds, sm, ar, nd, kk⟩ => ?_)
  refine ⟨_, ((chkS_s s (X := cxOf (L2.CX G.P G.w) G.P G.w G.K G.mg base N qual (defScope st) f cdv A outer st0 H E) (W := fun cls d _ H => E cls d H) (c := c) (Γ := Γ) (lvl := lvl) ?_ fx).pss hs _ hchk), ?_⟩
  · exact { N := hcN.symm, nd := sc.nd, sc := hcs.symm, fn := hcf.symm, calm := rfl, room := by rw [hcl]; exact hr, takes := takes_of rfl rfl rfl rfl, own := passes_of rfl, stk := rfl, frm := rfl, kind := by rw [hcs]; exact sc.kind }
  · rw [hcx]
    simp only [runF] at kk
    cases e : cellsOf io ds with
    | none => rw [e] at kk; exact False.elim kk
    | some ρ =>
      rw [e] at kk
      exact finish_s (G := G) sm ar nd hN e kk
/-- a def of which nothing is known -/
theorem fn_zero {G : Gp} {base : Heap} {x qual : Str} {st : Stmt} {f : Addr} {fd : FuncData} {N ps : List Str} {k : Nat} {io : List Bool} {g : Fn}
    (F : Fun G.K x qual st f fd) (sc : FnScope N ps (defScope st)) (hps : ps.length = io.length) (hg : ∀ ds, g.φ ds = .stuck) (hio : g.io = io) :
    FnOk G.P G.w G.K G.mg base (L2.CX G.P G.w) (k + 1) f fd ps (spD G g) := by
  have no : ∀ {vs : List V} {H : Hp} {Q : VK} {E : XK}, spD G g vs H Q E → False := fun ⟨H0, ds, sm, ar, nd, kk⟩ => by rw [hg] at kk; exact kk
  exact F.okX sc (fun vs H Q E h => (no h).elim) (fun cdv A outer st0 H vs Q E hr h => (no h).elim)
end RL

namespace RL
open PySem PySem.Spec L2
theorem raises_K {K : PySem.W.Frag} {cls : Value} (h1 : PySem.W.subIn K cls (.type "BaseException") = some true) (h2 : PySem.W.typeIn K cls = some (.type "type")) (M : Model) (h : Heap) (k : K.In h) :
    PySem.W.Looks M h (isSubtype cls (.type "BaseException")) true ∧ PySem.W.Looks M h (typeOf cls) (.type "type") := ⟨PySem.W.looks_subIn k h1, PySem.W.looks_typeIn k h2⟩
/-- which clause names an error of a class -/
theorem exm_of {K : PySem.W.Frag} {e x : Addr} {b : Bool} (h1 : PySem.W.subIn K (.ref x) (.type "BaseException") = some true) (h2 : PySem.W.isClsIn K x = true) (h3 : PySem.W.typeIn K (.ref x) = some (.type "type")) (h4 : PySem.W.subIn K (.ref e) (.ref x) = some b) :
    PySem.W.exmOne K (.ref e) (.ref x) = some b := by
  have e1 : (PySem.W.subIn K (.ref x) (.type "BaseException") == some true) = true := by rw [h1] <;> rfl
  have e2 : ((PySem.W.clsIn K x).isSome && PySem.W.typeIn K (.ref x) == some (.type "type")) = true := by
    have h2' : (PySem.W.clsIn K x).isSome = true := h2
    rw [h2', h3] <;> rfl
  unfold PySem.W.exmOne PySem.W.kitCls
  dsimp only
  rw [if_pos e1, if_pos e2]
  exact h4
theorem FnOk.imp {P : Program} {w : World} {K : PySem.W.Frag} {mg : Str → Option Value} {base : Heap} {CX : CXT} {k : Nat} {f : Addr} {fd : FuncData} {ps : List Str} {sp sp' : Sp} (h : FnOk P w K mg base CX k f fd ps sp)
    (i : ∀ vs H Q E, sp' vs H Q E → sp vs H Q E) : FnOk P w K mg base CX k f fd ps sp' :=
  ⟨fun vs H Q E s => h.len vs H Q E (i _ _ _ _ s), fun A outer s H args us vs Q E hr e b r q => h.run A outer s H args us vs Q E hr e b r (i _ _ _ _ q)⟩
/-- a law: of a list of numbers it tells True -/
def spLaw (K : PySem.W.Frag) : Sp := fun vs H Q _ => ∃ a, ∃ ns : List Int, vs = [.ref a] ∧ SqL K H a (ns.map V.int) ∧ ns.length ≤ 63 ∧ ∀ H', Q (.bl true) H'
theorem ints_rps {G : Gp} {H : Hp} : ∀ ns : List Int, Rps G H (ns.map V.int) (ns.map PyData.int)
  | [] => .nil
  | n :: ns => .cons (.int n) (ints_rps ns)
theorem law_sp {G : Gp} {g : Fn} (hio : g.io = [false]) (pl : ∀ ns : List Int, ns.length ≤ 63 → g.φ [.list (ns.map PyData.int)] = .ret (.p (.bool true)) []) {vs : List V} {H : Hp} {Q : VK} {E : XK} (h : spLaw G.K vs H Q E) : spD G g vs H Q E := by
  obtain ⟨a, ns, rfl, hS, hl, q⟩ := h
  refine ⟨H, [.list (ns.map PyData.int)], Same.refl _, by rw [hio]; exact ⟨.lst hS (ints_rps ns), trivial⟩, by rw [hio]; exact List.nodup_nil, ?_⟩
  rw [pl ns hl]
  intro v H0' H' _ _ _ rt _
  cases rt
  exact q _
theorem cx_none {P : Program} {w : World} {H : Hp} {s : Shared} {e : Value} {s' : Shared} (h : L2.CX P w [] H s (fun _ _ _ => False) e s') : False := by
  obtain ⟨_, _, _, _, _, _, _, _, _, _, _, _, z⟩ := h
  exact z
end RL

namespace RL
open PySem PySem.Spec L2
theorem cast_lit (n : Nat) : ((no_index (OfNat.ofNat n : Nat) : Nat) : Int) = @OfNat.ofNat Int n _ := rfl
theorem cast0 : ((0 : Nat) : Int) = 0 := rfl
theorem cast1 : ((1 : Nat) : Int) = 1 := rfl
theorem shaped_int (i : Int) : SeqAt.shaped (.int i) = true := rfl
theorem shaped_bool (b : Bool) : SeqAt.shaped (.bool b) = true := rfl
theorem shaped_none : SeqAt.shaped .none = true := rfl
theorem gen_map {t : Tg} {c b : Env → R} {ws : List Nat} {ρ : Env} (g : D → D) : ∀ (ds : List D), (∀ d ∈ ds, ∃ ρ1 u ρ3 ρ4, t.bind d ρ = some ρ1 ∧ c ρ1 = .ok [.p (.bool true)] ρ1 ∧ b ρ1 = .ok [u] ρ3 ∧ u.seal ρ3 = some (g d, ρ4) ∧ wipeE ρ4 ws = ρ) → genGo t c b ws ds ρ = some (ds.map g, ρ)
  | [], _ => rfl
  | d :: ds, h => by
    obtain ⟨ρ1, u, ρ3, ρ4, h1, h2, h3, h4, h5⟩ := h d List.mem_cons_self
    have ih := gen_map g ds fun d hd => h d (List.mem_cons_of_mem _ hd)
    simp only [genGo, h1, h2, h3, h4, h5, ih, T.val, Option.bind_some, boolOf, Option.map_some, List.map_cons]
/-- with a test -/
theorem gen_filter {t : Tg} {c b : Env → R} {ws : List Nat} {ρ : Env} (p : D → Bool) (g : D → D) : ∀ (ds : List D), (∀ d ∈ ds, ∃ ρ1, t.bind d ρ = some ρ1 ∧ c ρ1 = .ok [.p (.bool (p d))] ρ1 ∧ wipeE ρ1 ws = ρ ∧ (p d = true → ∃ u ρ3 ρ4, b ρ1 = .ok [u] ρ3 ∧ u.seal ρ3 = some (g d, ρ4) ∧ wipeE ρ4 ws = ρ)) → genGo t c b ws ds ρ = some ((ds.filter p).map g, ρ)
  | [], _ => rfl
  | d :: ds, h => by
    obtain ⟨ρ1, h1, h2, h3, h4⟩ := h d List.mem_cons_self
    have ih := gen_filter p g ds fun d hd => h d (List.mem_cons_of_mem _ hd)
    cases e : p d with
    | true =>
      obtain ⟨u, ρ3, ρ4, q1, q2, q3⟩ := h4 e
      rw [e] at h2
      simp only [genGo, h1, h2, q1, q2, q3, ih, T.val, Option.bind_some, boolOf, Option.map_some, List.filter_cons, e, if_true, List.map_cons]
    | false =>
      rw [e] at h2
      simp only [genGo, h1, h2, h3, ih, T.val, Option.bind_some, boolOf, List.filter_cons, e]
      rfl
theorem allB_of (f : D → Bool) : ∀ ds : List D, allB (ds.map fun d => .bool (f d)) = some (ds.map f)
  | [] => rfl
  | d :: ds => by simp [allB, allB_of f ds]
theorem all_of (f : D → Bool) (ds : List D) : allD (.list (ds.map fun d => .bool (f d))) = some (.p (.bool (ds.all f))) := by
  simp [allD, allB_of]
theorem any_of (f : D → Bool) (ds : List D) : anyD (.list (ds.map fun d => .bool (f d))) = some (.p (.bool (ds.any f))) := by
  simp [anyD, allB_of]
/-- a loop whose turns each leave a state -/
theorem for_inv {t : Tg} {b : Env → SO} (st : List D → Env) : ∀ (ds : List D), (∀ d ds', (∃ l, l ++ d :: ds' = ds) → ∃ ρ1, t.bind d (st (d :: ds')) = some ρ1 ∧ (b ρ1 = .nx (st ds') ∨ b ρ1 = .ct (st ds'))) → forGo t b ds (st ds) = .nx (st [])
  | [], _ => rfl
  | d :: ds, h => by
    obtain ⟨ρ1, h1, h2⟩ := h d ds ⟨[], rfl⟩
    have ih := for_inv (b := b) st ds fun d' ds' ⟨l, e⟩ => h d' ds' ⟨d :: l, by rw [List.cons_append, e]⟩
    rcases h2 with h2 | h2 <;> simp only [forGo, h1, h2, ih]
theorem keyOf_inj_aux : (∀ (d e : D) (k : NestedKey), keyOf d = some k → keyOf e = some k → d = e) ∧ (∀ (ds es : List D) (ks : List NestedKey), keysOf ds = some ks → keysOf es = some ks → ds = es) := by
  have key : ∀ n : Nat, (∀ (d e : D) (k : NestedKey), sizeOf d ≤ n → keyOf d = some k → keyOf e = some k → d = e) ∧ (∀ (ds es : List D) (ks : List NestedKey), sizeOf ds ≤ n → keysOf ds = some ks → keysOf es = some ks → ds = es) := by
    intro n
    induction n with
    | zero =>
      refine ⟨fun d e k h => ?_, fun ds es ks h => ?_⟩
      · cases d <;> simp at h
      · cases ds <;> simp at h
    | succ n ih =>
      refine ⟨fun d e k h h1 h2 => ?_, fun ds es ks h h1 h2 => ?_⟩
      · cases d <;> cases e <;> simp only [keyOf, Option.some.injEq, Option.map_eq_some_iff, reduceCtorEq] at h1 h2 <;> first
          | rfl
          | (subst h1; cases h2; rfl)
          | (subst h1; obtain ⟨_, _, z⟩ := h2; cases z; done)
          | (obtain ⟨ks, q1, rfl⟩ := h1; cases h2; done)
          | (obtain ⟨ks, q1, rfl⟩ := h1; obtain ⟨ks', q2, e⟩ := h2; cases e; rw [ih.2 _ _ ks (by simp at h; omega) q1 q2])
      · cases ds with
        | nil =>
          cases es with
          | nil => rfl
          | cons e es =>
            simp only [keysOf, Option.some.injEq, Option.bind_eq_some_iff, Option.map_eq_some_iff] at h1 h2
            subst h1
            obtain ⟨k, _, ks, _, z⟩ := h2
            cases z
        | cons d ds =>
          cases es with
          | nil =>
            simp only [keysOf, Option.some.injEq, Option.bind_eq_some_iff, Option.map_eq_some_iff] at h1 h2
            subst h2
            obtain ⟨k, _, ks, _, z⟩ := h1
            cases z
          | cons e es =>
            simp only [keysOf, Option.bind_eq_some_iff, Option.map_eq_some_iff] at h1 h2
            obtain ⟨k, a1, ks, a2, rfl⟩ := h1
            obtain ⟨k', b1, ks', b2, z⟩ := h2
            cases z
            simp at h
            rw [ih.1 d e k (by omega) a1 b1, ih.2 ds es ks (by omega) a2 b2]
  exact ⟨fun d e k => (key (sizeOf d)).1 d e k (Nat.le_refl _), fun ds es ks => (key (sizeOf ds)).2 ds es ks (Nat.le_refl _)⟩
theorem keyOf_inj {d e : D} {k : NestedKey} (h : keyOf d = some k) (h' : keyOf e = some k) : d = e := keyOf_inj_aux.1 d e k h h'
theorem keysOf_mem : ∀ {ds : List D} {ks : List NestedKey} {k : NestedKey}, keysOf ds = some ks → k ∈ ks → ∃ d ∈ ds, keyOf d = some k
  | [], _, _, h, m => by cases h; cases m
  | d :: ds, _, k, h, m => by
    simp only [keysOf, Option.bind_eq_some_iff, Option.map_eq_some_iff] at h
    obtain ⟨k', a1, ks, a2, rfl⟩ := h
    rcases List.mem_cons.mp m with z | z
    · exact ⟨d, List.mem_cons_self, by rw [z]; exact a1⟩
    · obtain ⟨e, he, hk⟩ := keysOf_mem a2 z
      exact ⟨e, List.mem_cons_of_mem _ he, hk⟩
theorem keysOf_len : ∀ {ds : List D} {ks : List NestedKey}, keysOf ds = some ks → ks.length = ds.length
  | [], _, h => by cases h; rfl
  | d :: ds, _, h => by
    simp only [keysOf, Option.bind_eq_some_iff, Option.map_eq_some_iff] at h
    obtain ⟨k', a1, ks, a2, rfl⟩ := h
    rw [List.length_cons, List.length_cons, keysOf_len a2]
/-- how many unlike items -/
theorem dcount_nd : ∀ {ds : List D} {ks : List NestedKey}, keysOf ds = some ks → (dcount ks = ks.length ↔ ds.Nodup)
  | [], _, h => by cases h; simp [dcount]
  | d :: ds, _, h => by
    simp only [keysOf, Option.bind_eq_some_iff, Option.map_eq_some_iff] at h
    obtain ⟨k, a1, ks, a2, rfl⟩ := h
    have ih := dcount_nd a2
    have hle : ∀ l : List NestedKey, dcount l ≤ l.length := by
      intro l
      induction l with
      | nil => exact Nat.le_refl _
      | cons a l ih => unfold dcount; split <;> simp only [List.length_cons] <;> omega
    unfold dcount
    rw [List.length_cons, List.nodup_cons]
    by_cases hm : k ∈ ks
    · rw [if_pos hm]
      have := hle ks
      refine ⟨fun z => by omega, fun z => ?_⟩
      obtain ⟨e, he, hk⟩ := keysOf_mem a2 hm
      rw [keyOf_inj a1 hk] at z
      exact absurd he z.1
    · rw [if_neg hm]
      constructor
      · intro z
        refine ⟨fun hd => hm ?_, ih.mp (by omega)⟩
        -- its key stands among the keys
        have : ∀ {ds : List D} {ks : List NestedKey}, keysOf ds = some ks → d ∈ ds → k ∈ ks := by
          intro ds
          induction ds with
          | nil => intro ks _ z; cases z
          | cons e ds ih =>
            intro ks h z
            simp only [keysOf, Option.bind_eq_some_iff, Option.map_eq_some_iff] at h
            obtain ⟨k', b1, ks', b2, rfl⟩ := h
            rcases List.mem_cons.mp z with q | q
            · subst q
              rw [a1] at b1; cases b1
              exact List.mem_cons_self
            · exact List.mem_cons_of_mem _ (ih b2 q)
        exact this a2 hd
      · intro z
        rw [ih.mpr z.2]
end RL

namespace RL
open PySem PySem.Spec L2
/-- a loop that leaves early with one value where an item is not good -/
theorem for_all {b : Env → SO} {i : Nat} {E : Cell → Env} {v : T} (p : D → Bool) : ∀ (ds : List D) (c : Cell), (∀ d c, Tg.bind (.nm i) d (E c) = some (E (.pu d))) → (∀ d ∈ ds, b (E (.pu d)) = if p d = true then .nx (E (.pu d)) else .rt v (E (.pu d))) →
    ∃ c', forGo (.nm i) b ds (E c) = if ds.all p = true then .nx (E c') else .rt v (E c')
  | [], c, _, _ => ⟨c, rfl⟩
  | d :: ds, c, hE, hb => by
    obtain ⟨c', ih⟩ := for_all p ds (.pu d) hE fun e he => hb e (List.mem_cons_of_mem _ he)
    have h1 := hb d List.mem_cons_self
    cases e : p d with
    | true =>
      refine ⟨c', ?_⟩
      rw [e, if_pos rfl] at h1
      simp only [forGo, hE, h1, ih, List.all_cons, e, Bool.true_and]
    | false =>
      refine ⟨.pu d, ?_⟩
      rw [e, if_neg (by decide)] at h1
      simp only [forGo, hE, h1, List.all_cons, e, Bool.false_and]
      rfl
/-- a loop by its invariant -/
theorem for_ex {t : Tg} {b : Env → SO} (I : Nat → Env → Prop) : ∀ (ds : List D) (n : Nat) (ρ : Env), (∀ (i : Nat) (d : D), ds[i]? = some d → ∀ ρ, I (n + i) ρ → ∃ ρ1 ρ2, t.bind d ρ = some ρ1 ∧ b ρ1 = .nx ρ2 ∧ I (n + i + 1) ρ2) → I n ρ → ∃ ρ', forGo t b ds ρ = .nx ρ' ∧ I (n + ds.length) ρ'
  | [], n, ρ, _, h => ⟨ρ, rfl, h⟩
  | d :: ds, n, ρ, hs, h => by
    obtain ⟨ρ1, ρ2, h1, h2, h3⟩ := hs 0 d rfl ρ h
    obtain ⟨ρ', h4, h5⟩ := for_ex I ds (n + 1) ρ2 (fun i d' hd ρ hI => by
      have := hs (i + 1) d' (by simpa using hd) ρ (by rw [show n + (i + 1) = n + 1 + i by omega]; exact hI)
      rw [show n + (i + 1) + 1 = n + 1 + i + 1 by omega] at this
      exact this) h3
    refine ⟨ρ', by simp only [forGo, h1, h2, h4], ?_⟩
    rw [List.length_cons, show n + (ds.length + 1) = n + 1 + ds.length by omega]
    exact h5
/-- a comprehension by its invariant -/
theorem gen_ex {t : Tg} {c b : Env → R} {ws : List Nat} (I : Nat → Env → Prop) (Pd : Nat → D → Prop) : ∀ (ds : List D) (n : Nat) (ρ : Env),
    (∀ (i : Nat) (d : D), ds[i]? = some d → ∀ ρ, I (n + i) ρ → ∃ ρ1 u ρ3 e ρ4, t.bind d ρ = some ρ1 ∧ c ρ1 = .ok [.p (.bool true)] ρ1 ∧ b ρ1 = .ok [u] ρ3 ∧ u.seal ρ3 = some (e, ρ4) ∧ Pd (n + i) e ∧ I (n + i + 1) (wipeE ρ4 ws)) →
    I n ρ → ∃ es ρ', genGo t c b ws ds ρ = some (es, ρ') ∧ I (n + ds.length) ρ' ∧ es.length = ds.length ∧ ∀ (i : Nat) (e : D), es[i]? = some e → Pd (n + i) e
  | [], n, ρ, _, h => ⟨[], ρ, rfl, h, rfl, fun i e he => by simp at he⟩
  | d :: ds, n, ρ, hs, h => by
    obtain ⟨ρ1, u, ρ3, e, ρ4, h1, h2, h3, h4, h5, h6⟩ := hs 0 d rfl ρ h
    obtain ⟨es, ρ', q1, q2, q3, q4⟩ := gen_ex I Pd ds (n + 1) (wipeE ρ4 ws) (fun i d' hd ρ hI => by
      have := hs (i + 1) d' (by simpa using hd) ρ (by rw [show n + (i + 1) = n + 1 + i by omega]; exact hI)
      rw [show n + (i + 1) + 1 = n + 1 + i + 1 by omega, show n + (i + 1) = n + 1 + i by omega] at this
      exact this) h6
    refine ⟨e :: es, ρ', by simp only [genGo, h1, h2, h3, h4, q1, T.val, Option.bind_some, boolOf, Option.map_some], ?_, by rw [List.length_cons, List.length_cons, q3], fun i e' he => ?_⟩
    · rw [List.length_cons, show n + (ds.length + 1) = n + 1 + ds.length by omega]; exact q2
    · cases i with
      | zero => simp at he; subst he; exact h5
      | succ i =>
        have := q4 i e' (by simpa using he)
        rwa [show n + 1 + i = n + (i + 1) by omega] at this
theorem all_get {p : D → Bool} {ds : List D} (h : ∀ (i : Nat) (e : D), ds[i]? = some e → p e = true) : ds.all p = true := List.all_eq_true.mpr fun e he => by
  obtain ⟨i, hi, rfl⟩ := List.getElem_of_mem he
  exact h i _ (List.getElem?_eq_getElem hi)
/-- a loop that leaves early, whatever it keeps -/
theorem for_early {t : Tg} {b : Env → SO} (I : Env → Prop) (v : T) (p : D → Bool) : ∀ (ds : List D) (ρ : Env), (∀ d ∈ ds, ∀ ρ, I ρ → ∃ ρ1, t.bind d ρ = some ρ1 ∧ (p d = true → ∃ ρ2, b ρ1 = .nx ρ2 ∧ I ρ2) ∧ (p d = false → ∃ ρ2, b ρ1 = .rt v ρ2 ∧ I ρ2)) → I ρ →
    ∃ ρ', I ρ' ∧ forGo t b ds ρ = if ds.all p = true then .nx ρ' else .rt v ρ'
  | [], ρ, _, h => ⟨ρ, h, rfl⟩
  | d :: ds, ρ, hs, h => by
    obtain ⟨ρ1, h1, h2, h3⟩ := hs d List.mem_cons_self ρ h
    cases e : p d with
    | true =>
      obtain ⟨ρ2, q1, q2⟩ := h2 e
      obtain ⟨ρ', r1, r2⟩ := for_early I v p ds ρ2 (fun d hd => hs d (List.mem_cons_of_mem _ hd)) q2
      exact ⟨ρ', r1, by simp only [forGo, h1, q1, r2, List.all_cons, e, Bool.true_and]⟩
    | false =>
      obtain ⟨ρ2, q1, q2⟩ := h3 e
      exact ⟨ρ2, q2, by simp only [forGo, h1, q1, List.all_cons, e, Bool.false_and]; rfl⟩
end RL

namespace K74
open PySem PySem.Spec L2 RL
def topS (i : Nat) : Stmt := PySem.Challenge.pw_onerest_k74_count_rests.main.body.getD i (.Pass ⟨0, 0, 0, 0⟩)
def consts : List (Str × Int) := [("MOST_STATES", 4), ("MOST_RULES", 12), ("MOST_NODES", 250)]
def excs : List Str := ["BadBook", "BadTree"]
def subs : List (Str × Str × Bool) := []
def kts : List (Nat × List Str × List Nat) := []
/-- is_integer -/
def s0 : S := (.cons (.ret (.and (.isa "int" (.var 0)) (.not (.isa "bool" (.var 0))))) .nil)
abbrev t0 : Stmt := topS 7
def N0 : List Str := ["thing"]
def io0 : List Bool := [false]
/-- is_below -/
def s1 : S := (.cons (.ret (.and (.call 0 (.cons (.var 1) .nil)) (.chn .LtE .Lt (.cst (.int 0)) (.var 1) (.var 0)))) .nil)
abbrev t1 : Stmt := topS 8
def N1 : List Str := ["many", "thing"]
def io1 : List Bool := [false, false]
/-- is_rule -/
def s2 : S := (.cons (.iff (.or (.not (.isa "tuple" (.var 1))) (.cmp .NotEq (.prim .len (.cons (.var 1) .nil)) (.cst (.int 4)))) (.cons (.ret (.cst (.bool false))) .nil) .nil) (.cons (.asg (.tp (.cons (.nm 2) (.cons (.nm 3) (.cons (.nm 4) (.cons (.nm 5) .nil))))) (.var 1)) (.cons (.iff (.or (.not (.call 1 (.cons (.var 0) (.cons (.var 2) .nil)))) (.or (.not (.call 1 (.cons (.var 0) (.cons (.var 3) .nil)))) (.or (.not (.call 1 (.cons (.var 0) (.cons (.var 4) .nil)))) (.cmp .Eq (.var 3) (.var 4))))) (.cons (.ret (.cst (.bool false))) .nil) .nil) (.cons (.iff (.or (.not (.isa "tuple" (.var 5))) (.cmp .NotEq (.prim .len (.cons (.var 5) .nil)) (.var 0))) (.cons (.ret (.cst (.bool false))) .nil) .nil) (.cons (.ret (.prim .all (.cons (.lc [("state", 6)] (.nm 6) (.itr (.var 5)) (.cst (.bool true)) (.call 1 (.cons (.var 0) (.cons (.var 6) .nil)))) .nil))) .nil)))))
abbrev t2 : Stmt := topS 9
def N2 : List Str := ["many", "thing", "above", "own", "new", "signal", "state"]
def io2 : List Bool := [false, false]
/-- is_book -/
def s3 : S := (.cons (.iff (.or (.not (.isa "tuple" (.var 0))) (.cmp .NotEq (.prim .len (.cons (.var 0) .nil)) (.cst (.int 2)))) (.cons (.ret (.cst (.bool false))) .nil) .nil) (.cons (.asg (.tp (.cons (.nm 1) (.cons (.nm 2) .nil))) (.var 0)) (.cons (.iff (.or (.not (.call 0 (.cons (.var 1) .nil))) (.or (.cmp .Lt (.var 1) (.cst (.int 1))) (.cmp .Gt (.var 1) (.glo "MOST_STATES" 4)))) (.cons (.ret (.cst (.bool false))) .nil) .nil) (.cons (.iff (.or (.not (.isa "tuple" (.var 2))) (.cmp .Gt (.prim .len (.cons (.var 2) .nil)) (.glo "MOST_RULES" 12))) (.cons (.ret (.cst (.bool false))) .nil) .nil) (.cons (.iff (.not (.prim .all (.cons (.lc [("rule", 3)] (.nm 3) (.itr (.var 2)) (.cst (.bool true)) (.call 2 (.cons (.var 1) (.cons (.var 3) .nil)))) .nil))) (.cons (.ret (.cst (.bool false))) .nil) .nil) (.cons (.ret (.cmp .Eq (.lset (.var 2)) (.prim .len (.cons (.var 2) .nil)))) .nil))))))
abbrev t3 : Stmt := topS 10
def N3 : List Str := ["thing", "many", "rules", "rule"]
def io3 : List Bool := [false]
/-- need_book -/
def s4 : S := (.cons (.iff (.not (.call 3 (.cons (.var 0) .nil))) (.cons (.rse "BadBook") .nil) .nil) .nil)
abbrev t4 : Stmt := topS 11
def N4 : List Str := ["book"]
def io4 : List Bool := [false]
/-- is_state -/
def s5 : S := (.cons (.ret (.call 1 (.cons (.idx (.var 0) (.cst (.int 0))) (.cons (.var 1) .nil)))) .nil)
abbrev t5 : Stmt := topS 12
def N5 : List Str := ["book", "thing"]
def io5 : List Bool := [false, false]
/-- firing_rules -/
def s6 : S := (.cons (.asg (.nm 3) (.idx (.var 0) (.cst (.int 1)))) (.cons (.ret (.lc [("k", 4)] (.nm 4) (.rng (.cons (.prim .len (.cons (.var 3) .nil)) .nil)) (.and (.cmp .Eq (.idx (.idx (.var 3) (.var 4)) (.cst (.int 0))) (.var 1)) (.cmp .Eq (.idx (.idx (.var 3) (.var 4)) (.cst (.int 1))) (.var 2))) (.var 4))) .nil))
abbrev t6 : Stmt := topS 13
def N6 : List Str := ["book", "above", "own", "rules", "k"]
def io6 : List Bool := [false, false, false]
/-- is_tree_of -/
def s7 : S := (.cons (.iff (.or (.not (.isa "tuple" (.var 1))) (.cmp .NotEq (.prim .len (.cons (.var 1) .nil)) (.cst (.int 3)))) (.cons (.ret (.cst (.bool false))) .nil) .nil) (.cons (.asg (.tp (.cons (.nm 2) (.cons (.nm 3) (.cons (.nm 4) .nil)))) (.var 1)) (.cons (.iff (.or (.not (.call 5 (.cons (.var 0) (.cons (.var 2) .nil)))) (.or (.not (.isa "tuple" (.var 3))) (.not (.isa "tuple" (.var 4))))) (.cons (.ret (.cst (.bool false))) .nil) .nil) (.cons (.iff (.or (.cmp .NotEq (.prim .len (.cons (.var 3) .nil)) (.prim .len (.cons (.var 4) .nil))) (.cmp .Gt (.prim .len (.cons (.var 4) .nil)) (.glo "MOST_NODES" 250))) (.cons (.ret (.cst (.bool false))) .nil) .nil) (.cons (.frr (.tp (.cons (.nm 5) (.cons (.nm 6) .nil))) (.enm (.var 3)) (.cons (.iff (.or (.not (.call 0 (.cons (.var 6) .nil))) (.or (.cmp .Lt (.var 6) (.neg (.cst (.int 1)))) (.cmp .GtE (.var 6) (.var 5)))) (.cons (.ret (.cst (.bool false))) .nil) .nil) .nil)) (.cons (.ret (.prim .all (.cons (.lc [("state", 7)] (.nm 7) (.itr (.var 4)) (.cst (.bool true)) (.call 5 (.cons (.var 0) (.cons (.var 7) .nil)))) .nil))) .nil))))))
abbrev t7 : Stmt := topS 16
def N7 : List Str := ["book", "thing", "outside", "parents", "states", "node", "parent", "state"]
def io7 : List Bool := [false, false]
/-- need_tree -/
def s8 : S := (.cons (.exp (.call 4 (.cons (.var 0) .nil))) (.cons (.iff (.not (.call 7 (.cons (.var 0) (.cons (.var 1) .nil)))) (.cons (.rse "BadTree") .nil) .nil) .nil))
abbrev t8 : Stmt := topS 17
def N8 : List Str := ["book", "tree"]
def io8 : List Bool := [false, false]
/-- count_rests -/
def s9 : S := (.cons (.exp (.call 8 (.cons (.var 0) (.cons (.var 1) .nil)))) (.cons (.par 2 3 (.idx (.var 1) (.cst (.int 0))) (.idx (.var 1) (.cst (.int 1)))) (.cons (.asg (.nm 4) (.idx (.var 0) (.cst (.int 0)))) (.cons (.asg (.nm 5) (.lc [("above", 7)] (.nm 7) (.rng (.cons (.var 4) .nil)) (.cst (.bool true)) (.lc [("own", 6)] (.nm 6) (.rng (.cons (.var 4) .nil)) (.cmp .Eq (.call 6 (.cons (.var 0) (.cons (.var 7) (.cons (.var 6) .nil)))) (.lst .nil)) (.var 6)))) (.cons (.asg (.nm 8) (.lc [("parent", 10)] (.nm 10) (.itr (.var 3)) (.cst (.bool true)) (.lc [("state", 9)] (.nm 9) (.rng (.cons (.var 4) .nil)) (.cst (.bool true)) (.cst (.int 1))))) (.cons (.asg (.nm 11) (.cst (.int 1))) (.cons (.frr (.nm 12) (.rgr (.prim .len (.cons (.var 3) .nil))) (.cons (.asg (.nm 13) (.lc [("above", 7)] (.nm 7) (.rng (.cons (.var 4) .nil)) (.cst (.bool true)) (.prim .sum (.cons (.lc [("own", 6)] (.nm 6) (.itr (.idx (.var 5) (.var 7))) (.cst (.bool true)) (.idx (.idx (.var 8) (.var 12)) (.var 6))) .nil)))) (.cons (.iff (.cmp .Lt (.idx (.var 3) (.var 12)) (.cst (.int 0))) (.cons (.aug .Mult 11 (.idx (.var 13) (.var 2))) .nil) (.cons (.setL 8 (.idx (.var 3) (.var 12)) (.lc [("old", 14), ("new", 15)] (.tp (.cons (.nm 14) (.cons (.nm 15) .nil))) (.zip (.idx (.var 8) (.idx (.var 3) (.var 12))) (.var 13)) (.cst (.bool true)) (.bin .Mult (.var 14) (.var 15)))) .nil)) .nil))) (.cons (.ret (.var 11)) .nil))))))))
abbrev t9 : Stmt := topS 19
def N9 : List Str := ["book", "tree", "outside", "parents", "many", "quiet", "own", "above", "below", "state", "parent", "total", "node", "counts", "old", "new"]
def io9 : List Bool := [false, false]
/-- _law_source -/
def s10 : S := (.cons (.asg (.nm 2) (.cst (.int 0))) (.cons (.iff (.cmp .Gt (.prim .len (.cons (.var 0) .nil)) (.cst (.int 0))) (.cons (.asg (.nm 2) (.idx (.var 0) (.bin .Mod (.prim .int (.cons (.var 1) .nil)) (.prim .len (.cons (.var 0) .nil))))) .nil) .nil) (.cons (.asg (.nm 3) (.cst (.int 0))) (.cons (.iff (.cmp .GtE (.var 2) (.bin .Pow (.cst (.int 10)) (.cst (.int 18)))) (.cons (.asg (.nm 3) (.bin .Sub (.var 2) (.bin .Pow (.cst (.int 10)) (.cst (.int 18))))) .nil) .nil) (.cons (.ret (.lst (.cons (.var 3) (.cons (.bin .Add (.bin .Mod (.prim .int (.cons (.var 2) .nil)) (.bin .Add (.bin .Pow (.cst (.int 10)) (.cst (.int 30))) (.cst (.int 57)))) (.var 1)) (.cons (.cst (.int 0)) .nil))))) .nil)))))
abbrev t10 : Stmt := topS 21
def N10 : List Str := ["script", "k", "cell", "digits"]
def io10 : List Bool := [false, false]
/-- _law_take -/
def s11 : S := (.cons (.setL 0 (.cst (.int 2)) (.bin .Add (.idx (.var 0) (.cst (.int 2))) (.cst (.int 1)))) (.cons (.iff (.cmp .Gt (.idx (.var 0) (.cst (.int 0))) (.cst (.int 0))) (.cons (.asg (.nm 2) (.bin .Mod (.prim .int (.cons (.idx (.var 0) (.cst (.int 0))) .nil)) (.var 1))) (.cons (.setL 0 (.cst (.int 0)) (.bin .FloorDiv (.idx (.var 0) (.cst (.int 0))) (.var 1))) (.cons (.ret (.var 2)) .nil))) .nil) (.cons (.asg (.nm 3) (.idx (.var 0) (.cst (.int 1)))) (.cons (.asg (.nm 4) (.idx (.var 0) (.cst (.int 2)))) (.cons (.asg (.nm 5) (.bin .Mult (.bin .Add (.bin .Add (.var 3) (.bin .Mult (.bin .Mult (.cst (.int 7919)) (.var 4)) (.var 4))) (.cst (.int 13))) (.bin .Add (.bin .Add (.var 3) (.bin .Mult (.cst (.int 104729)) (.var 4))) (.cst (.int 1))))) (.cons (.asg (.nm 5) (.bin .Add (.bin .FloorDiv (.bin .Mult (.var 5) (.var 5)) (.cst (.int 1009))) (.bin .Mult (.var 3) (.var 4)))) (.cons (.ret (.bin .Mod (.bin .Mod (.bin .Mult (.bin .Mod (.prim .int (.cons (.var 5) .nil)) (.cst (.int 2305843009213693951))) (.cst (.int 48271))) (.cst (.int 1000000007))) (.var 1))) .nil)))))))
abbrev t11 : Stmt := topS 22
def N11 : List Str := ["source", "many", "drawn", "seed", "step", "mixed"]
def io11 : List Bool := [true, false]
/-- _law_any_book -/
def s12 : S := (.cons (.asg (.nm 1) (.bin .Add (.cst (.int 1)) (.call 11 (.cons (.var 0) (.cons (.cst (.int 4)) .nil))))) (.cons (.asg (.nm 2) (.lst .nil)) (.cons (.asg (.nm 3) (.cst (.int 0))) (.cons (.iff (.cmp .Gt (.var 1) (.cst (.int 1))) (.cons (.asg (.nm 3) (.call 11 (.cons (.var 0) (.cons (.cst (.int 13)) .nil)))) .nil) .nil) (.cons (.frr (.nm 4) (.rng (.cons (.var 3) .nil)) (.cons (.asg (.nm 5) (.call 11 (.cons (.var 0) (.cons (.var 1) .nil)))) (.cons (.asg (.nm 6) (.bin .Mod (.prim .int (.cons (.bin .Add (.bin .Add (.var 5) (.cst (.int 1))) (.call 11 (.cons (.var 0) (.cons (.bin .Sub (.var 1) (.cst (.int 1))) .nil)))) .nil)) (.var 1))) (.cons (.asg (.nm 7) (.tup (.cons (.call 11 (.cons (.var 0) (.cons (.var 1) .nil))) (.cons (.var 5) (.cons (.var 6) (.cons (.prim .tuple (.cons (.lc [("j", 8)] (.nm 8) (.rng (.cons (.var 1) .nil)) (.cst (.bool true)) (.call 11 (.cons (.var 0) (.cons (.var 1) .nil)))) .nil)) .nil)))))) (.cons (.iff (.cmp .NotIn (.var 7) (.var 2)) (.cons (.app 2 (.var 7)) .nil) .nil) .nil))))) (.cons (.ret (.tup (.cons (.var 1) (.cons (.prim .tuple (.cons (.var 2) .nil)) .nil)))) .nil))))))
abbrev t12 : Stmt := topS 23
def N12 : List Str := ["source", "n", "rules", "many", "k", "own", "new", "rule", "j"]
def io12 : List Bool := [true]
/-- _law_tree -/
def s13 : S := (.cons (.asg (.nm 4) (.call 10 (.cons (.var 0) (.cons (.var 1) .nil)))) (.cons (.asg (.nm 5) (.call 11 (.cons (.var 4) (.cons (.var 2) .nil)))) (.cons (.asg (.nm 6) (.prim .max (.cons (.call 11 (.cons (.var 4) (.cons (.bin .Add (.prim .min (.cons (.var 3) (.cons (.cst (.int 6)) .nil))) (.cst (.int 1))) .nil))) (.cons (.prim .min (.cons (.bin .Sub (.bin .Sub (.prim .len (.cons (.var 0) .nil)) (.var 1)) (.cst (.int 1))) (.cons (.var 3) .nil))) .nil)))) (.cons (.asg (.nm 7) (.lst .nil)) (.cons (.asg (.nm 8) (.lst .nil)) (.cons (.frr (.nm 9) (.rng (.cons (.var 6) .nil)) (.cons (.iff (.cmp .Lt (.bin .Add (.bin .Add (.var 1) (.cst (.int 1))) (.var 9)) (.prim .len (.cons (.var 0) .nil))) (.cons (.asg (.nm 4) (.call 10 (.cons (.var 0) (.cons (.bin .Add (.bin .Add (.var 1) (.cst (.int 1))) (.var 9)) .nil)))) .nil) .nil) (.cons (.app 7 (.idx (.lst (.cons (.bin .Sub (.var 9) (.cst (.int 1))) (.cons (.bin .Sub (.call 11 (.cons (.var 4) (.cons (.bin .Add (.var 9) (.cst (.int 1))) .nil))) (.cst (.int 1))) .nil))) (.call 11 (.cons (.var 4) (.cons (.cst (.int 2)) .nil))))) (.cons (.app 8 (.call 11 (.cons (.var 4) (.cons (.var 2) .nil)))) .nil)))) (.cons (.ret (.tup (.cons (.var 5) (.cons (.prim .tuple (.cons (.var 7) .nil)) (.cons (.prim .tuple (.cons (.var 8) .nil)) .nil))))) .nil)))))))
abbrev t13 : Stmt := topS 24
def N13 : List Str := ["script", "first", "n", "most", "source", "outside", "many", "parents", "states", "k"]
def io13 : List Bool := [false, false, false, false]
/-- _law_fillings -/
def s14 : S := (.cons (.asg (.nm 1) (.lst (.cons (.tup .nil) .nil))) (.cons (.frr (.nm 2) (.itr (.var 0)) (.cons (.asg (.nm 3) (.lst .nil)) (.cons (.frr (.nm 4) (.itr (.var 1)) (.cons (.asg (.nm 3) (.bin .Add (.var 3) (.lc [("state", 5)] (.nm 5) (.itr (.var 2)) (.cst (.bool true)) (.bin .Add (.var 4) (.tup (.cons (.var 5) .nil)))))) .nil)) (.cons (.asg (.nm 1) (.var 3)) .nil)))) (.cons (.ret (.var 1)) .nil)))
abbrev t14 : Stmt := topS 25
def N14 : List Str := ["choices", "found", "choice", "longer", "states", "state"]
def io14 : List Bool := [false]
/-- _law_beside -/
def s15 : S := (.cons (.asg (.nm 2) (.prim .len (.cons (.idx (.var 0) (.cst (.int 1))) .nil))) (.cons (.asg (.nm 3) (.prim .tuple (.cons (.lc [("parent", 4)] (.nm 4) (.itr (.idx (.var 1) (.cst (.int 1)))) (.cst (.bool true)) (.idx (.lst (.cons (.neg (.cst (.int 1))) (.cons (.bin .Add (.var 2) (.var 4)) .nil))) (.prim .int (.cons (.cmp .GtE (.var 4) (.cst (.int 0))) .nil)))) .nil))) (.cons (.ret (.tup (.cons (.idx (.var 0) (.cst (.int 0))) (.cons (.bin .Add (.idx (.var 0) (.cst (.int 1))) (.var 3)) (.cons (.bin .Add (.idx (.var 0) (.cst (.int 2))) (.idx (.var 1) (.cst (.int 2)))) .nil))))) .nil)))
abbrev t15 : Stmt := topS 26
def N15 : List Str := ["one", "other", "many", "moved", "parent"]
def io15 : List Bool := [false, false]
/-- _law_is_integer -/
def s16 : S := (.cons (.ret (.and (.isa "int" (.var 0)) (.not (.isa "bool" (.var 0))))) .nil)
abbrev t16 : Stmt := topS 27
def N16 : List Str := ["actual"]
def io16 : List Bool := [false]
/-- _law_quiet -/
def s17 : S := (.cons (.frr (.tp (.cons (.nm 2) (.cons (.nm 3) .nil))) (.zip (.idx (.var 1) (.cst (.int 1))) (.idx (.var 1) (.cst (.int 2)))) (.cons (.asg (.nm 4) (.idx (.var 1) (.cst (.int 0)))) (.cons (.iff (.cmp .GtE (.var 2) (.cst (.int 0))) (.cons (.asg (.nm 4) (.idx (.idx (.var 1) (.cst (.int 2))) (.var 2))) .nil) .nil) (.cons (.frr (.nm 5) (.itr (.idx (.var 0) (.cst (.int 1)))) (.cons (.iff (.and (.cmp .Eq (.idx (.var 5) (.cst (.int 0))) (.var 4)) (.cmp .Eq (.idx (.var 5) (.cst (.int 1))) (.var 3))) (.cons (.ret (.cst (.bool false))) .nil) .nil) .nil)) .nil)))) (.cons (.ret (.cst (.bool true))) .nil))
abbrev t17 : Stmt := topS 28
def N17 : List Str := ["book", "tree", "parent", "state", "above", "rule"]
def io17 : List Bool := [false, false]
/-- law -/
def s18 : S := (.cons (.asg (.nm 1) (.call 12 (.cons (.call 10 (.cons (.var 0) (.cons (.cst (.int 0)) .nil))) .nil))) (.cons (.asg (.nm 2) (.idx (.var 1) (.cst (.int 0)))) (.cons (.asg (.tp (.cons (.nm 3) (.cons (.nm 4) (.cons (.nm 5) .nil)))) (.call 13 (.cons (.var 0) (.cons (.cst (.int 1)) (.cons (.var 2) (.cons (.idx (.lst (.cons (.cst (.int 8)) (.cons (.cst (.int 7)) (.cons (.cst (.int 4)) (.cons (.cst (.int 3)) .nil))))) (.bin .Sub (.var 2) (.cst (.int 1)))) .nil)))))) (.cons (.asg (.nm 6) (.lc [("one", 7)] (.nm 7) (.itr (.call 14 (.cons (.lc [("k", 8)] (.nm 8) (.itr (.var 4)) (.cst (.bool true)) (.lstR (.rng (.cons (.var 2) .nil)))) .nil))) (.cst (.bool true)) (.tup (.cons (.var 3) (.cons (.var 4) (.cons (.var 7) .nil)))))) (.cons (.asg (.nm 9) (.prim .len (.cons (.lc [("tree", 10)] (.nm 10) (.itr (.var 6)) (.call 17 (.cons (.var 1) (.cons (.var 10) .nil))) (.var 10)) .nil))) (.cons (.asg (.nm 11) (.call 10 (.cons (.var 0) (.cons (.cst (.int 41)) .nil)))) (.cons (.frr (.nm 7) (.itr (.lst (.cons (.var 5) (.cons (.prim .tuple (.cons (.lc [("k", 8)] (.nm 8) (.itr (.var 4)) (.cst (.bool true)) (.call 11 (.cons (.var 11) (.cons (.var 2) .nil)))) .nil)) .nil)))) (.cons (.asg (.nm 12) (.call 9 (.cons (.var 1) (.cons (.tup (.cons (.var 3) (.cons (.var 4) (.cons (.var 7) .nil)))) .nil)))) (.cons (.iff (.or (.not (.call 16 (.cons (.var 12) .nil))) (.cmp .NotEq (.var 12) (.var 9))) (.cons (.ret (.cst (.bool false))) .nil) .nil) .nil))) (.cons (.asg (.nm 13) (.call 13 (.cons (.var 0) (.cons (.cst (.int 10)) (.cons (.var 2) (.cons (.cst (.int 30)) .nil)))))) (.cons (.asg (.nm 14) (.tup (.cons (.var 3) (.cons (.idx (.var 13) (.cst (.int 1))) (.cons (.idx (.var 13) (.cst (.int 2))) .nil))))) (.cons (.asg (.nm 15) (.call 9 (.cons (.var 1) (.cons (.var 14) .nil)))) (.cons (.asg (.nm 16) (.tup (.cons (.var 3) (.cons (.var 4) (.cons (.var 5) .nil))))) (.cons (.frr (.nm 17) (.rng (.cons (.cst (.int 3)) .nil)) (.cons (.asg (.nm 16) (.call 15 (.cons (.var 16) (.cons (.var 14) .nil)))) .nil)) (.cons (.ret (.cmp .Eq (.call 9 (.cons (.var 1) (.cons (.var 16) .nil))) (.bin .Mult (.bin .Mult (.bin .Mult (.var 9) (.var 15)) (.var 15)) (.var 15)))) .nil)))))))))))))
abbrev t18 : Stmt := topS 29
def N18 : List Str := ["script", "book", "n", "outside", "parents", "states", "trees", "one", "k", "due", "tree", "cell", "actual", "drawn", "other", "single", "wide", "turn"]
def io18 : List Bool := [false]
def lvs : List Nat := [1, 2, 3, 4, 5, 6, 7, 8, 9, 10, 11, 12, 13, 14, 15, 16, 17, 18, 19]
def lvl (k : Nat) : Nat := lvs.getD k 0
noncomputable def L0 : List Fn := []
noncomputable def f0 : Fn := ⟨"is_integer", io0, runF (fun j => L0[j]?) 1 io0 s0⟩
noncomputable def L1 : List Fn := [f0]
noncomputable def f1 : Fn := ⟨"is_below", io1, runF (fun j => L1[j]?) 2 io1 s1⟩
noncomputable def L2 : List Fn := [f0, f1]
noncomputable def f2 : Fn := ⟨"is_rule", io2, runF (fun j => L2[j]?) 7 io2 s2⟩
noncomputable def L3 : List Fn := [f0, f1, f2]
noncomputable def f3 : Fn := ⟨"is_book", io3, runF (fun j => L3[j]?) 4 io3 s3⟩
noncomputable def L4 : List Fn := [f0, f1, f2, f3]
noncomputable def f4 : Fn := ⟨"need_book", io4, runF (fun j => L4[j]?) 1 io4 s4⟩
noncomputable def L5 : List Fn := [f0, f1, f2, f3, f4]
noncomputable def f5 : Fn := ⟨"is_state", io5, runF (fun j => L5[j]?) 2 io5 s5⟩
noncomputable def L6 : List Fn := [f0, f1, f2, f3, f4, f5]
noncomputable def f6 : Fn := ⟨"firing_rules", io6, runF (fun j => L6[j]?) 5 io6 s6⟩
noncomputable def L7 : List Fn := [f0, f1, f2, f3, f4, f5, f6]
noncomputable def f7 : Fn := ⟨"is_tree_of", io7, runF (fun j => L7[j]?) 8 io7 s7⟩
noncomputable def L8 : List Fn := [f0, f1, f2, f3, f4, f5, f6, f7]
noncomputable def f8 : Fn := ⟨"need_tree", io8, runF (fun j => L8[j]?) 2 io8 s8⟩
noncomputable def L9 : List Fn := [f0, f1, f2, f3, f4, f5, f6, f7, f8]
noncomputable def f9 : Fn := ⟨"count_rests", io9, runF (fun j => L9[j]?) 16 io9 s9⟩
noncomputable def L10 : List Fn := [f0, f1, f2, f3, f4, f5, f6, f7, f8, f9]
noncomputable def f10 : Fn := ⟨"_law_source", io10, runF (fun j => L10[j]?) 4 io10 s10⟩
noncomputable def L11 : List Fn := [f0, f1, f2, f3, f4, f5, f6, f7, f8, f9, f10]
noncomputable def f11 : Fn := ⟨"_law_take", io11, runF (fun j => L11[j]?) 6 io11 s11⟩
noncomputable def L12 : List Fn := [f0, f1, f2, f3, f4, f5, f6, f7, f8, f9, f10, f11]
noncomputable def f12 : Fn := ⟨"_law_any_book", io12, runF (fun j => L12[j]?) 9 io12 s12⟩
noncomputable def L13 : List Fn := [f0, f1, f2, f3, f4, f5, f6, f7, f8, f9, f10, f11, f12]
noncomputable def f13 : Fn := ⟨"_law_tree", io13, runF (fun j => L13[j]?) 10 io13 s13⟩
noncomputable def L14 : List Fn := [f0, f1, f2, f3, f4, f5, f6, f7, f8, f9, f10, f11, f12, f13]
noncomputable def f14 : Fn := ⟨"_law_fillings", io14, runF (fun j => L14[j]?) 6 io14 s14⟩
noncomputable def L15 : List Fn := [f0, f1, f2, f3, f4, f5, f6, f7, f8, f9, f10, f11, f12, f13, f14]
noncomputable def f15 : Fn := ⟨"_law_beside", io15, runF (fun j => L15[j]?) 5 io15 s15⟩
noncomputable def L16 : List Fn := [f0, f1, f2, f3, f4, f5, f6, f7, f8, f9, f10, f11, f12, f13, f14, f15]
noncomputable def f16 : Fn := ⟨"_law_is_integer", io16, runF (fun j => L16[j]?) 1 io16 s16⟩
noncomputable def L17 : List Fn := [f0, f1, f2, f3, f4, f5, f6, f7, f8, f9, f10, f11, f12, f13, f14, f15, f16]
noncomputable def f17 : Fn := ⟨"_law_quiet", io17, runF (fun j => L17[j]?) 6 io17 s17⟩
noncomputable def L18 : List Fn := [f0, f1, f2, f3, f4, f5, f6, f7, f8, f9, f10, f11, f12, f13, f14, f15, f16, f17]
noncomputable def f18 : Fn := ⟨"law", io18, runF (fun j => L18[j]?) 18 io18 s18⟩
def c0 : Cfg := ⟨N0, defScope t0, fun _ => true, 0, ioSlots io0, consts, excs, subs, kts⟩
theorem sc0 : FnScope N0 ["thing"] (defScope t0) := ⟨rfl, rfl, rfl, by decide +kernel, rfl, by decide +kernel, by decide +kernel⟩
theorem ck0 : chkS (fun j => L0[j]?) lvl c0 true s0 (defBody t0) = true := by decide +kernel
def c1 : Cfg := ⟨N1, defScope t1, fun _ => true, 1, ioSlots io1, consts, excs, subs, kts⟩
theorem sc1 : FnScope N1 ["many", "thing"] (defScope t1) := ⟨rfl, rfl, rfl, by decide +kernel, rfl, by decide +kernel, by decide +kernel⟩
theorem ck1 : chkS (fun j => L1[j]?) lvl c1 true s1 (defBody t1) = true := by decide +kernel
def c2 : Cfg := ⟨N2, defScope t2, fun _ => true, 2, ioSlots io2, consts, excs, subs, kts⟩
theorem sc2 : FnScope N2 ["many", "thing"] (defScope t2) := ⟨rfl, rfl, rfl, by decide +kernel, rfl, by decide +kernel, by decide +kernel⟩
theorem ck2 : chkS (fun j => L2[j]?) lvl c2 true s2 (defBody t2) = true := by decide +kernel
def c3 : Cfg := ⟨N3, defScope t3, fun _ => true, 3, ioSlots io3, consts, excs, subs, kts⟩
theorem sc3 : FnScope N3 ["thing"] (defScope t3) := ⟨rfl, rfl, rfl, by decide +kernel, rfl, by decide +kernel, by decide +kernel⟩
theorem ck3 : chkS (fun j => L3[j]?) lvl c3 true s3 (defBody t3) = true := by decide +kernel
def c4 : Cfg := ⟨N4, defScope t4, fun _ => true, 4, ioSlots io4, consts, excs, subs, kts⟩
theorem sc4 : FnScope N4 ["book"] (defScope t4) := ⟨rfl, rfl, rfl, by decide +kernel, rfl, by decide +kernel, by decide +kernel⟩
theorem ck4 : chkS (fun j => L4[j]?) lvl c4 true s4 (defBody t4) = true := by decide +kernel
def c5 : Cfg := ⟨N5, defScope t5, fun _ => true, 5, ioSlots io5, consts, excs, subs, kts⟩
theorem sc5 : FnScope N5 ["book", "thing"] (defScope t5) := ⟨rfl, rfl, rfl, by decide +kernel, rfl, by decide +kernel, by decide +kernel⟩
theorem ck5 : chkS (fun j => L5[j]?) lvl c5 true s5 (defBody t5) = true := by decide +kernel
def c6 : Cfg := ⟨N6, defScope t6, fun _ => true, 6, ioSlots io6, consts, excs, subs, kts⟩
theorem sc6 : FnScope N6 ["book", "above", "own"] (defScope t6) := ⟨rfl, rfl, rfl, by decide +kernel, rfl, by decide +kernel, by decide +kernel⟩
theorem ck6 : chkS (fun j => L6[j]?) lvl c6 true s6 (defBody t6) = true := by decide +kernel
def c7 : Cfg := ⟨N7, defScope t7, fun _ => true, 7, ioSlots io7, consts, excs, subs, kts⟩
theorem sc7 : FnScope N7 ["book", "thing"] (defScope t7) := ⟨rfl, rfl, rfl, by decide +kernel, rfl, by decide +kernel, by decide +kernel⟩
theorem ck7 : chkS (fun j => L7[j]?) lvl c7 true s7 (defBody t7) = true := by decide +kernel
def c8 : Cfg := ⟨N8, defScope t8, fun _ => true, 8, ioSlots io8, consts, excs, subs, kts⟩
theorem sc8 : FnScope N8 ["book", "tree"] (defScope t8) := ⟨rfl, rfl, rfl, by decide +kernel, rfl, by decide +kernel, by decide +kernel⟩
theorem ck8 : chkS (fun j => L8[j]?) lvl c8 true s8 (defBody t8) = true := by decide +kernel
def c9 : Cfg := ⟨N9, defScope t9, fun _ => true, 9, ioSlots io9, consts, excs, subs, kts⟩
theorem sc9 : FnScope N9 ["book", "tree"] (defScope t9) := ⟨rfl, rfl, rfl, by decide +kernel, rfl, by decide +kernel, by decide +kernel⟩
theorem ck9 : chkS (fun j => L9[j]?) lvl c9 true s9 (defBody t9) = true := by decide +kernel
def c10 : Cfg := ⟨N10, defScope t10, fun _ => true, 10, ioSlots io10, consts, excs, subs, kts⟩
theorem sc10 : FnScope N10 ["script", "k"] (defScope t10) := ⟨rfl, rfl, rfl, by decide +kernel, rfl, by decide +kernel, by decide +kernel⟩
theorem ck10 : chkS (fun j => L10[j]?) lvl c10 true s10 (defBody t10) = true := by decide +kernel
def c11 : Cfg := ⟨N11, defScope t11, fun _ => true, 11, ioSlots io11, consts, excs, subs, kts⟩
theorem sc11 : FnScope N11 ["source", "many"] (defScope t11) := ⟨rfl, rfl, rfl, by decide +kernel, rfl, by decide +kernel, by decide +kernel⟩
theorem ck11 : chkS (fun j => L11[j]?) lvl c11 true s11 (defBody t11) = true := by decide +kernel
def c12 : Cfg := ⟨N12, defScope t12, fun _ => true, 12, ioSlots io12, consts, excs, subs, kts⟩
theorem sc12 : FnScope N12 ["source"] (defScope t12) := ⟨rfl, rfl, rfl, by decide +kernel, rfl, by decide +kernel, by decide +kernel⟩
theorem ck12 : chkS (fun j => L12[j]?) lvl c12 true s12 (defBody t12) = true := by decide +kernel
def c13 : Cfg := ⟨N13, defScope t13, fun _ => true, 13, ioSlots io13, consts, excs, subs, kts⟩
theorem sc13 : FnScope N13 ["script", "first", "n", "most"] (defScope t13) := ⟨rfl, rfl, rfl, by decide +kernel, rfl, by decide +kernel, by decide +kernel⟩
theorem ck13 : chkS (fun j => L13[j]?) lvl c13 true s13 (defBody t13) = true := by decide +kernel
def c14 : Cfg := ⟨N14, defScope t14, fun _ => true, 14, ioSlots io14, consts, excs, subs, kts⟩
theorem sc14 : FnScope N14 ["choices"] (defScope t14) := ⟨rfl, rfl, rfl, by decide +kernel, rfl, by decide +kernel, by decide +kernel⟩
theorem ck14 : chkS (fun j => L14[j]?) lvl c14 true s14 (defBody t14) = true := by decide +kernel
def c15 : Cfg := ⟨N15, defScope t15, fun _ => true, 15, ioSlots io15, consts, excs, subs, kts⟩
theorem sc15 : FnScope N15 ["one", "other"] (defScope t15) := ⟨rfl, rfl, rfl, by decide +kernel, rfl, by decide +kernel, by decide +kernel⟩
theorem ck15 : chkS (fun j => L15[j]?) lvl c15 true s15 (defBody t15) = true := by decide +kernel
def c16 : Cfg := ⟨N16, defScope t16, fun _ => true, 16, ioSlots io16, consts, excs, subs, kts⟩
theorem sc16 : FnScope N16 ["actual"] (defScope t16) := ⟨rfl, rfl, rfl, by decide +kernel, rfl, by decide +kernel, by decide +kernel⟩
theorem ck16 : chkS (fun j => L16[j]?) lvl c16 true s16 (defBody t16) = true := by decide +kernel
def c17 : Cfg := ⟨N17, defScope t17, fun _ => true, 17, ioSlots io17, consts, excs, subs, kts⟩
theorem sc17 : FnScope N17 ["book", "tree"] (defScope t17) := ⟨rfl, rfl, rfl, by decide +kernel, rfl, by decide +kernel, by decide +kernel⟩
theorem ck17 : chkS (fun j => L17[j]?) lvl c17 true s17 (defBody t17) = true := by decide +kernel
def c18 : Cfg := ⟨N18, defScope t18, fun _ => true, 18, ioSlots io18, consts, excs, subs, kts⟩
theorem sc18 : FnScope N18 ["script"] (defScope t18) := ⟨rfl, rfl, rfl, by decide +kernel, rfl, by decide +kernel, by decide +kernel⟩
theorem ck18 : chkS (fun j => L18[j]?) lvl c18 true s18 (defBody t18) = true := by decide +kernel
section
variable {G : Gp} {base : Heap}
structure Txt (G : Gp) : Prop where
  blt : ∀ x ∈ blts, G.mg x = none
  glo : ∀ p ∈ consts, ∃ t, G.mg p.1 = some (.int p.2 t)
  exc : ∀ x ∈ excs, ExcGood G x
  sub : ∀ t ∈ subs, ∃ Ce Cx, G.mg t.1 = some (.ref Ce) ∧ G.mg t.2.1 = some (.ref Cx) ∧ PySem.W.exmOne G.K (.ref Ce) (.ref Cx) = some t.2.2
  d0 : ∃ f fd, G.mg "is_integer" = some (.ref f) ∧ Fun G.K "is_integer" "is_integer" t0 f fd
  d1 : ∃ f fd, G.mg "is_below" = some (.ref f) ∧ Fun G.K "is_below" "is_below" t1 f fd
  d2 : ∃ f fd, G.mg "is_rule" = some (.ref f) ∧ Fun G.K "is_rule" "is_rule" t2 f fd
  d3 : ∃ f fd, G.mg "is_book" = some (.ref f) ∧ Fun G.K "is_book" "is_book" t3 f fd
  d4 : ∃ f fd, G.mg "need_book" = some (.ref f) ∧ Fun G.K "need_book" "need_book" t4 f fd
  d5 : ∃ f fd, G.mg "is_state" = some (.ref f) ∧ Fun G.K "is_state" "is_state" t5 f fd
  d6 : ∃ f fd, G.mg "firing_rules" = some (.ref f) ∧ Fun G.K "firing_rules" "firing_rules" t6 f fd
  d7 : ∃ f fd, G.mg "is_tree_of" = some (.ref f) ∧ Fun G.K "is_tree_of" "is_tree_of" t7 f fd
  d8 : ∃ f fd, G.mg "need_tree" = some (.ref f) ∧ Fun G.K "need_tree" "need_tree" t8 f fd
  d9 : ∃ f fd, G.mg "count_rests" = some (.ref f) ∧ Fun G.K "count_rests" "count_rests" t9 f fd
  d10 : ∃ f fd, G.mg "_law_source" = some (.ref f) ∧ Fun G.K "_law_source" "_law_source" t10 f fd
  d11 : ∃ f fd, G.mg "_law_take" = some (.ref f) ∧ Fun G.K "_law_take" "_law_take" t11 f fd
  d12 : ∃ f fd, G.mg "_law_any_book" = some (.ref f) ∧ Fun G.K "_law_any_book" "_law_any_book" t12 f fd
  d13 : ∃ f fd, G.mg "_law_tree" = some (.ref f) ∧ Fun G.K "_law_tree" "_law_tree" t13 f fd
  d14 : ∃ f fd, G.mg "_law_fillings" = some (.ref f) ∧ Fun G.K "_law_fillings" "_law_fillings" t14 f fd
  d15 : ∃ f fd, G.mg "_law_beside" = some (.ref f) ∧ Fun G.K "_law_beside" "_law_beside" t15 f fd
  d16 : ∃ f fd, G.mg "_law_is_integer" = some (.ref f) ∧ Fun G.K "_law_is_integer" "_law_is_integer" t16 f fd
  d17 : ∃ f fd, G.mg "_law_quiet" = some (.ref f) ∧ Fun G.K "_law_quiet" "_law_quiet" t17 f fd
  d18 : ∃ f fd, G.mg "law" = some (.ref f) ∧ Fun G.K "law" "law" t18 f fd
theorem b0 {K : PySem.W.Frag} {f : Addr} {fd : FuncData} (F : Fun K "is_integer" "is_integer" t0 f fd) : Binds K fd ["thing"] [] := F.binds fun _ _ _ _ _ _ us hl => match us, hl with | [_], _ => rfl
theorem h0 (T : Txt G) {f : Addr} {fd : FuncData} (F : Fun G.K "is_integer" "is_integer" t0 f fd) : FnOk G.P G.w G.K G.mg base (L2.CX G.P G.w) (lvl 0) f fd ["thing"] (spD G f0) := by
  refine fn_ok (Γ := fun j => L0[j]?) (lvl := lvl) (c := c0) F sc0 rfl (by decide) ⟨⟨T.blt, T.glo, fun j g h => ?_, fun e he g h => ?_⟩, T.exc, T.sub⟩ rfl rfl rfl rfl rfl rfl ck0 _
  · match j, h with
    | j + 0, h => simp [L0] at h
  · exact nomatch he
theorem g0 (T : Txt G) : FnGood G base f0 (lvl 0) := by
  obtain ⟨f, fd, m, F⟩ := T.d0
  exact ⟨f, fd, ["thing"], m, F.kp, h0 T F, b0 F⟩
theorem b1 {K : PySem.W.Frag} {f : Addr} {fd : FuncData} (F : Fun K "is_below" "is_below" t1 f fd) : Binds K fd ["many", "thing"] [] := F.binds fun _ _ _ _ _ _ us hl => match us, hl with | [_, _], _ => rfl
theorem h1 (T : Txt G) {f : Addr} {fd : FuncData} (F : Fun G.K "is_below" "is_below" t1 f fd) : FnOk G.P G.w G.K G.mg base (L2.CX G.P G.w) (lvl 1) f fd ["many", "thing"] (spD G f1) := by
  refine fn_ok (Γ := fun j => L1[j]?) (lvl := lvl) (c := c1) F sc1 rfl (by decide) ⟨⟨T.blt, T.glo, fun j g h => ?_, fun e he g h => ?_⟩, T.exc, T.sub⟩ rfl rfl rfl rfl rfl rfl ck1 _
  · match j, h with
    | 0, h => cases h; exact g0 T
    | j + 1, h => simp [L1] at h
  · exact nomatch he
theorem g1 (T : Txt G) : FnGood G base f1 (lvl 1) := by
  obtain ⟨f, fd, m, F⟩ := T.d1
  exact ⟨f, fd, ["many", "thing"], m, F.kp, h1 T F, b1 F⟩
theorem b2 {K : PySem.W.Frag} {f : Addr} {fd : FuncData} (F : Fun K "is_rule" "is_rule" t2 f fd) : Binds K fd ["many", "thing"] [] := F.binds fun _ _ _ _ _ _ us hl => match us, hl with | [_, _], _ => rfl
theorem h2 (T : Txt G) {f : Addr} {fd : FuncData} (F : Fun G.K "is_rule" "is_rule" t2 f fd) : FnOk G.P G.w G.K G.mg base (L2.CX G.P G.w) (lvl 2) f fd ["many", "thing"] (spD G f2) := by
  refine fn_ok (Γ := fun j => L2[j]?) (lvl := lvl) (c := c2) F sc2 rfl (by decide) ⟨⟨T.blt, T.glo, fun j g h => ?_, fun e he g h => ?_⟩, T.exc, T.sub⟩ rfl rfl rfl rfl rfl rfl ck2 _
  · match j, h with
    | 0, h => cases h; exact g0 T
    | 1, h => cases h; exact g1 T
    | j + 2, h => simp [L2] at h
  · exact nomatch he
theorem g2 (T : Txt G) : FnGood G base f2 (lvl 2) := by
  obtain ⟨f, fd, m, F⟩ := T.d2
  exact ⟨f, fd, ["many", "thing"], m, F.kp, h2 T F, b2 F⟩
theorem b3 {K : PySem.W.Frag} {f : Addr} {fd : FuncData} (F : Fun K "is_book" "is_book" t3 f fd) : Binds K fd ["thing"] [] := F.binds fun _ _ _ _ _ _ us hl => match us, hl with | [_], _ => rfl
theorem h3 (T : Txt G) {f : Addr} {fd : FuncData} (F : Fun G.K "is_book" "is_book" t3 f fd) : FnOk G.P G.w G.K G.mg base (L2.CX G.P G.w) (lvl 3) f fd ["thing"] (spD G f3) := by
  refine fn_ok (Γ := fun j => L3[j]?) (lvl := lvl) (c := c3) F sc3 rfl (by decide) ⟨⟨T.blt, T.glo, fun j g h => ?_, fun e he g h => ?_⟩, T.exc, T.sub⟩ rfl rfl rfl rfl rfl rfl ck3 _
  · match j, h with
    | 0, h => cases h; exact g0 T
    | 1, h => cases h; exact g1 T
    | 2, h => cases h; exact g2 T
    | j + 3, h => simp [L3] at h
  · exact nomatch he
theorem g3 (T : Txt G) : FnGood G base f3 (lvl 3) := by
  obtain ⟨f, fd, m, F⟩ := T.d3
  exact ⟨f, fd, ["thing"], m, F.kp, h3 T F, b3 F⟩
theorem b4 {K : PySem.W.Frag} {f : Addr} {fd : FuncData} (F : Fun K "need_book" "need_book" t4 f fd) : Binds K fd ["book"] [] := F.binds fun _ _ _ _ _ _ us hl => match us, hl with | [_], _ => rfl
theorem h4 (T : Txt G) {f : Addr} {fd : FuncData} (F : Fun G.K "need_book" "need_book" t4 f fd) : FnOk G.P G.w G.K G.mg base (L2.CX G.P G.w) (lvl 4) f fd ["book"] (spD G f4) := by
  refine fn_ok (Γ := fun j => L4[j]?) (lvl := lvl) (c := c4) F sc4 rfl (by decide) ⟨⟨T.blt, T.glo, fun j g h => ?_, fun e he g h => ?_⟩, T.exc, T.sub⟩ rfl rfl rfl rfl rfl rfl ck4 _
  · match j, h with
    | 0, h => cases h; exact g0 T
    | 1, h => cases h; exact g1 T
    | 2, h => cases h; exact g2 T
    | 3, h => cases h; exact g3 T
    | j + 4, h => simp [L4] at h
  · exact nomatch he
theorem g4 (T : Txt G) : FnGood G base f4 (lvl 4) := by
  obtain ⟨f, fd, m, F⟩ := T.d4
  exact ⟨f, fd, ["book"], m, F.kp, h4 T F, b4 F⟩
theorem b5 {K : PySem.W.Frag} {f : Addr} {fd : FuncData} (F : Fun K "is_state" "is_state" t5 f fd) : Binds K fd ["book", "thing"] [] := F.binds fun _ _ _ _ _ _ us hl => match us, hl with | [_, _], _ => rfl
theorem h5 (T : Txt G) {f : Addr} {fd : FuncData} (F : Fun G.K "is_state" "is_state" t5 f fd) : FnOk G.P G.w G.K G.mg base (L2.CX G.P G.w) (lvl 5) f fd ["book", "thing"] (spD G f5) := by
  refine fn_ok (Γ := fun j => L5[j]?) (lvl := lvl) (c := c5) F sc5 rfl (by decide) ⟨⟨T.blt, T.glo, fun j g h => ?_, fun e he g h => ?_⟩, T.exc, T.sub⟩ rfl rfl rfl rfl rfl rfl ck5 _
  · match j, h with
    | 0, h => cases h; exact g0 T
    | 1, h => cases h; exact g1 T
    | 2, h => cases h; exact g2 T
    | 3, h => cases h; exact g3 T
    | 4, h => cases h; exact g4 T
    | j + 5, h => simp [L5] at h
  · exact nomatch he
theorem g5 (T : Txt G) : FnGood G base f5 (lvl 5) := by
  obtain ⟨f, fd, m, F⟩ := T.d5
  exact ⟨f, fd, ["book", "thing"], m, F.kp, h5 T F, b5 F⟩
theorem b6 {K : PySem.W.Frag} {f : Addr} {fd : FuncData} (F : Fun K "firing_rules" "firing_rules" t6 f fd) : Binds K fd ["book", "above", "own"] [] := F.binds fun _ _ _ _ _ _ us hl => match us, hl with | [_, _, _], _ => rfl
theorem h6 (T : Txt G) {f : Addr} {fd : FuncData} (F : Fun G.K "firing_rules" "firing_rules" t6 f fd) : FnOk G.P G.w G.K G.mg base (L2.CX G.P G.w) (lvl 6) f fd ["book", "above", "own"] (spD G f6) := by
  refine fn_ok (Γ := fun j => L6[j]?) (lvl := lvl) (c := c6) F sc6 rfl (by decide) ⟨⟨T.blt, T.glo, fun j g h => ?_, fun e he g h => ?_⟩, T.exc, T.sub⟩ rfl rfl rfl rfl rfl rfl ck6 _
  · match j, h with
    | 0, h => cases h; exact g0 T
    | 1, h => cases h; exact g1 T
    | 2, h => cases h; exact g2 T
    | 3, h => cases h; exact g3 T
    | 4, h => cases h; exact g4 T
    | 5, h => cases h; exact g5 T
    | j + 6, h => simp [L6] at h
  · exact nomatch he
theorem g6 (T : Txt G) : FnGood G base f6 (lvl 6) := by
  obtain ⟨f, fd, m, F⟩ := T.d6
  exact ⟨f, fd, ["book", "above", "own"], m, F.kp, h6 T F, b6 F⟩
theorem b7 {K : PySem.W.Frag} {f : Addr} {fd : FuncData} (F : Fun K "is_tree_of" "is_tree_of" t7 f fd) : Binds K fd ["book", "thing"] [] := F.binds fun _ _ _ _ _ _ us hl => match us, hl with | [_, _], _ => rfl
theorem h7 (T : Txt G) {f : Addr} {fd : FuncData} (F : Fun G.K "is_tree_of" "is_tree_of" t7 f fd) : FnOk G.P G.w G.K G.mg base (L2.CX G.P G.w) (lvl 7) f fd ["book", "thing"] (spD G f7) := by
  refine fn_ok (Γ := fun j => L7[j]?) (lvl := lvl) (c := c7) F sc7 rfl (by decide) ⟨⟨T.blt, T.glo, fun j g h => ?_, fun e he g h => ?_⟩, T.exc, T.sub⟩ rfl rfl rfl rfl rfl rfl ck7 _
  · match j, h with
    | 0, h => cases h; exact g0 T
    | 1, h => cases h; exact g1 T
    | 2, h => cases h; exact g2 T
    | 3, h => cases h; exact g3 T
    | 4, h => cases h; exact g4 T
    | 5, h => cases h; exact g5 T
    | 6, h => cases h; exact g6 T
    | j + 7, h => simp [L7] at h
  · exact nomatch he
theorem g7 (T : Txt G) : FnGood G base f7 (lvl 7) := by
  obtain ⟨f, fd, m, F⟩ := T.d7
  exact ⟨f, fd, ["book", "thing"], m, F.kp, h7 T F, b7 F⟩
theorem b8 {K : PySem.W.Frag} {f : Addr} {fd : FuncData} (F : Fun K "need_tree" "need_tree" t8 f fd) : Binds K fd ["book", "tree"] [] := F.binds fun _ _ _ _ _ _ us hl => match us, hl with | [_, _], _ => rfl
theorem h8 (T : Txt G) {f : Addr} {fd : FuncData} (F : Fun G.K "need_tree" "need_tree" t8 f fd) : FnOk G.P G.w G.K G.mg base (L2.CX G.P G.w) (lvl 8) f fd ["book", "tree"] (spD G f8) := by
  refine fn_ok (Γ := fun j => L8[j]?) (lvl := lvl) (c := c8) F sc8 rfl (by decide) ⟨⟨T.blt, T.glo, fun j g h => ?_, fun e he g h => ?_⟩, T.exc, T.sub⟩ rfl rfl rfl rfl rfl rfl ck8 _
  · match j, h with
    | 0, h => cases h; exact g0 T
    | 1, h => cases h; exact g1 T
    | 2, h => cases h; exact g2 T
    | 3, h => cases h; exact g3 T
    | 4, h => cases h; exact g4 T
    | 5, h => cases h; exact g5 T
    | 6, h => cases h; exact g6 T
    | 7, h => cases h; exact g7 T
    | j + 8, h => simp [L8] at h
  · exact nomatch he
theorem g8 (T : Txt G) : FnGood G base f8 (lvl 8) := by
  obtain ⟨f, fd, m, F⟩ := T.d8
  exact ⟨f, fd, ["book", "tree"], m, F.kp, h8 T F, b8 F⟩
theorem b9 {K : PySem.W.Frag} {f : Addr} {fd : FuncData} (F : Fun K "count_rests" "count_rests" t9 f fd) : Binds K fd ["book", "tree"] [] := F.binds fun _ _ _ _ _ _ us hl => match us, hl with | [_, _], _ => rfl
theorem h9 (T : Txt G) {f : Addr} {fd : FuncData} (F : Fun G.K "count_rests" "count_rests" t9 f fd) : FnOk G.P G.w G.K G.mg base (L2.CX G.P G.w) (lvl 9) f fd ["book", "tree"] (spD G f9) := by
  refine fn_ok (Γ := fun j => L9[j]?) (lvl := lvl) (c := c9) F sc9 rfl (by decide) ⟨⟨T.blt, T.glo, fun j g h => ?_, fun e he g h => ?_⟩, T.exc, T.sub⟩ rfl rfl rfl rfl rfl rfl ck9 _
  · match j, h with
    | 0, h => cases h; exact g0 T
    | 1, h => cases h; exact g1 T
    | 2, h => cases h; exact g2 T
    | 3, h => cases h; exact g3 T
    | 4, h => cases h; exact g4 T
    | 5, h => cases h; exact g5 T
    | 6, h => cases h; exact g6 T
    | 7, h => cases h; exact g7 T
    | 8, h => cases h; exact g8 T
    | j + 9, h => simp [L9] at h
  · exact nomatch he
theorem g9 (T : Txt G) : FnGood G base f9 (lvl 9) := by
  obtain ⟨f, fd, m, F⟩ := T.d9
  exact ⟨f, fd, ["book", "tree"], m, F.kp, h9 T F, b9 F⟩
theorem b10 {K : PySem.W.Frag} {f : Addr} {fd : FuncData} (F : Fun K "_law_source" "_law_source" t10 f fd) : Binds K fd ["script", "k"] [] := F.binds fun _ _ _ _ _ _ us hl => match us, hl with | [_, _], _ => rfl
theorem h10 (T : Txt G) {f : Addr} {fd : FuncData} (F : Fun G.K "_law_source" "_law_source" t10 f fd) : FnOk G.P G.w G.K G.mg base (L2.CX G.P G.w) (lvl 10) f fd ["script", "k"] (spD G f10) := by
  refine fn_ok (Γ := fun j => L10[j]?) (lvl := lvl) (c := c10) F sc10 rfl (by decide) ⟨⟨T.blt, T.glo, fun j g h => ?_, fun e he g h => ?_⟩, T.exc, T.sub⟩ rfl rfl rfl rfl rfl rfl ck10 _
  · match j, h with
    | 0, h => cases h; exact g0 T
    | 1, h => cases h; exact g1 T
    | 2, h => cases h; exact g2 T
    | 3, h => cases h; exact g3 T
    | 4, h => cases h; exact g4 T
    | 5, h => cases h; exact g5 T
    | 6, h => cases h; exact g6 T
    | 7, h => cases h; exact g7 T
    | 8, h => cases h; exact g8 T
    | 9, h => cases h; exact g9 T
    | j + 10, h => simp [L10] at h
  · exact nomatch he
theorem g10 (T : Txt G) : FnGood G base f10 (lvl 10) := by
  obtain ⟨f, fd, m, F⟩ := T.d10
  exact ⟨f, fd, ["script", "k"], m, F.kp, h10 T F, b10 F⟩
theorem b11 {K : PySem.W.Frag} {f : Addr} {fd : FuncData} (F : Fun K "_law_take" "_law_take" t11 f fd) : Binds K fd ["source", "many"] [] := F.binds fun _ _ _ _ _ _ us hl => match us, hl with | [_, _], _ => rfl
theorem h11 (T : Txt G) {f : Addr} {fd : FuncData} (F : Fun G.K "_law_take" "_law_take" t11 f fd) : FnOk G.P G.w G.K G.mg base (L2.CX G.P G.w) (lvl 11) f fd ["source", "many"] (spD G f11) := by
  refine fn_ok (Γ := fun j => L11[j]?) (lvl := lvl) (c := c11) F sc11 rfl (by decide) ⟨⟨T.blt, T.glo, fun j g h => ?_, fun e he g h => ?_⟩, T.exc, T.sub⟩ rfl rfl rfl rfl rfl rfl ck11 _
  · match j, h with
    | 0, h => cases h; exact g0 T
    | 1, h => cases h; exact g1 T
    | 2, h => cases h; exact g2 T
    | 3, h => cases h; exact g3 T
    | 4, h => cases h; exact g4 T
    | 5, h => cases h; exact g5 T
    | 6, h => cases h; exact g6 T
    | 7, h => cases h; exact g7 T
    | 8, h => cases h; exact g8 T
    | 9, h => cases h; exact g9 T
    | 10, h => cases h; exact g10 T
    | j + 11, h => simp [L11] at h
  · exact nomatch he
theorem g11 (T : Txt G) : FnGood G base f11 (lvl 11) := by
  obtain ⟨f, fd, m, F⟩ := T.d11
  exact ⟨f, fd, ["source", "many"], m, F.kp, h11 T F, b11 F⟩
theorem b12 {K : PySem.W.Frag} {f : Addr} {fd : FuncData} (F : Fun K "_law_any_book" "_law_any_book" t12 f fd) : Binds K fd ["source"] [] := F.binds fun _ _ _ _ _ _ us hl => match us, hl with | [_], _ => rfl
theorem h12 (T : Txt G) {f : Addr} {fd : FuncData} (F : Fun G.K "_law_any_book" "_law_any_book" t12 f fd) : FnOk G.P G.w G.K G.mg base (L2.CX G.P G.w) (lvl 12) f fd ["source"] (spD G f12) := by
  refine fn_ok (Γ := fun j => L12[j]?) (lvl := lvl) (c := c12) F sc12 rfl (by decide) ⟨⟨T.blt, T.glo, fun j g h => ?_, fun e he g h => ?_⟩, T.exc, T.sub⟩ rfl rfl rfl rfl rfl rfl ck12 _
  · match j, h with
    | 0, h => cases h; exact g0 T
    | 1, h => cases h; exact g1 T
    | 2, h => cases h; exact g2 T
    | 3, h => cases h; exact g3 T
    | 4, h => cases h; exact g4 T
    | 5, h => cases h; exact g5 T
    | 6, h => cases h; exact g6 T
    | 7, h => cases h; exact g7 T
    | 8, h => cases h; exact g8 T
    | 9, h => cases h; exact g9 T
    | 10, h => cases h; exact g10 T
    | 11, h => cases h; exact g11 T
    | j + 12, h => simp [L12] at h
  · exact nomatch he
theorem g12 (T : Txt G) : FnGood G base f12 (lvl 12) := by
  obtain ⟨f, fd, m, F⟩ := T.d12
  exact ⟨f, fd, ["source"], m, F.kp, h12 T F, b12 F⟩
theorem b13 {K : PySem.W.Frag} {f : Addr} {fd : FuncData} (F : Fun K "_law_tree" "_law_tree" t13 f fd) : Binds K fd ["script", "first", "n", "most"] [] := F.binds fun _ _ _ _ _ _ us hl => match us, hl with | [_, _, _, _], _ => rfl
theorem h13 (T : Txt G) {f : Addr} {fd : FuncData} (F : Fun G.K "_law_tree" "_law_tree" t13 f fd) : FnOk G.P G.w G.K G.mg base (L2.CX G.P G.w) (lvl 13) f fd ["script", "first", "n", "most"] (spD G f13) := by
  refine fn_ok (Γ := fun j => L13[j]?) (lvl := lvl) (c := c13) F sc13 rfl (by decide) ⟨⟨T.blt, T.glo, fun j g h => ?_, fun e he g h => ?_⟩, T.exc, T.sub⟩ rfl rfl rfl rfl rfl rfl ck13 _
  · match j, h with
    | 0, h => cases h; exact g0 T
    | 1, h => cases h; exact g1 T
    | 2, h => cases h; exact g2 T
    | 3, h => cases h; exact g3 T
    | 4, h => cases h; exact g4 T
    | 5, h => cases h; exact g5 T
    | 6, h => cases h; exact g6 T
    | 7, h => cases h; exact g7 T
    | 8, h => cases h; exact g8 T
    | 9, h => cases h; exact g9 T
    | 10, h => cases h; exact g10 T
    | 11, h => cases h; exact g11 T
    | 12, h => cases h; exact g12 T
    | j + 13, h => simp [L13] at h
  · exact nomatch he
theorem g13 (T : Txt G) : FnGood G base f13 (lvl 13) := by
  obtain ⟨f, fd, m, F⟩ := T.d13
  exact ⟨f, fd, ["script", "first", "n", "most"], m, F.kp, h13 T F, b13 F⟩
theorem b14 {K : PySem.W.Frag} {f : Addr} {fd : FuncData} (F : Fun K "_law_fillings" "_law_fillings" t14 f fd) : Binds K fd ["choices"] [] := F.binds fun _ _ _ _ _ _ us hl => match us, hl with | [_], _ => rfl
theorem h14 (T : Txt G) {f : Addr} {fd : FuncData} (F : Fun G.K "_law_fillings" "_law_fillings" t14 f fd) : FnOk G.P G.w G.K G.mg base (L2.CX G.P G.w) (lvl 14) f fd ["choices"] (spD G f14) := by
  refine fn_ok (Γ := fun j => L14[j]?) (lvl := lvl) (c := c14) F sc14 rfl (by decide) ⟨⟨T.blt, T.glo, fun j g h => ?_, fun e he g h => ?_⟩, T.exc, T.sub⟩ rfl rfl rfl rfl rfl rfl ck14 _
  · match j, h with
    | 0, h => cases h; exact g0 T
    | 1, h => cases h; exact g1 T
    | 2, h => cases h; exact g2 T
    | 3, h => cases h; exact g3 T
    | 4, h => cases h; exact g4 T
    | 5, h => cases h; exact g5 T
    | 6, h => cases h; exact g6 T
    | 7, h => cases h; exact g7 T
    | 8, h => cases h; exact g8 T
    | 9, h => cases h; exact g9 T
    | 10, h => cases h; exact g10 T
    | 11, h => cases h; exact g11 T
    | 12, h => cases h; exact g12 T
    | 13, h => cases h; exact g13 T
    | j + 14, h => simp [L14] at h
  · exact nomatch he
theorem g14 (T : Txt G) : FnGood G base f14 (lvl 14) := by
  obtain ⟨f, fd, m, F⟩ := T.d14
  exact ⟨f, fd, ["choices"], m, F.kp, h14 T F, b14 F⟩
theorem b15 {K : PySem.W.Frag} {f : Addr} {fd : FuncData} (F : Fun K "_law_beside" "_law_beside" t15 f fd) : Binds K fd ["one", "other"] [] := F.binds fun _ _ _ _ _ _ us hl => match us, hl with | [_, _], _ => rfl
theorem h15 (T : Txt G) {f : Addr} {fd : FuncData} (F : Fun G.K "_law_beside" "_law_beside" t15 f fd) : FnOk G.P G.w G.K G.mg base (L2.CX G.P G.w) (lvl 15) f fd ["one", "other"] (spD G f15) := by
  refine fn_ok (Γ := fun j => L15[j]?) (lvl := lvl) (c := c15) F sc15 rfl (by decide) ⟨⟨T.blt, T.glo, fun j g h => ?_, fun e he g h => ?_⟩, T.exc, T.sub⟩ rfl rfl rfl rfl rfl rfl ck15 _
  · match j, h with
    | 0, h => cases h; exact g0 T
    | 1, h => cases h; exact g1 T
    | 2, h => cases h; exact g2 T
    | 3, h => cases h; exact g3 T
    | 4, h => cases h; exact g4 T
    | 5, h => cases h; exact g5 T
    | 6, h => cases h; exact g6 T
    | 7, h => cases h; exact g7 T
    | 8, h => cases h; exact g8 T
    | 9, h => cases h; exact g9 T
    | 10, h => cases h; exact g10 T
    | 11, h => cases h; exact g11 T
    | 12, h => cases h; exact g12 T
    | 13, h => cases h; exact g13 T
    | 14, h => cases h; exact g14 T
    | j + 15, h => simp [L15] at h
  · exact nomatch he
theorem g15 (T : Txt G) : FnGood G base f15 (lvl 15) := by
  obtain ⟨f, fd, m, F⟩ := T.d15
  exact ⟨f, fd, ["one", "other"], m, F.kp, h15 T F, b15 F⟩
theorem b16 {K : PySem.W.Frag} {f : Addr} {fd : FuncData} (F : Fun K "_law_is_integer" "_law_is_integer" t16 f fd) : Binds K fd ["actual"] [] := F.binds fun _ _ _ _ _ _ us hl => match us, hl with | [_], _ => rfl
theorem h16 (T : Txt G) {f : Addr} {fd : FuncData} (F : Fun G.K "_law_is_integer" "_law_is_integer" t16 f fd) : FnOk G.P G.w G.K G.mg base (L2.CX G.P G.w) (lvl 16) f fd ["actual"] (spD G f16) := by
  refine fn_ok (Γ := fun j => L16[j]?) (lvl := lvl) (c := c16) F sc16 rfl (by decide) ⟨⟨T.blt, T.glo, fun j g h => ?_, fun e he g h => ?_⟩, T.exc, T.sub⟩ rfl rfl rfl rfl rfl rfl ck16 _
  · match j, h with
    | 0, h => cases h; exact g0 T
    | 1, h => cases h; exact g1 T
    | 2, h => cases h; exact g2 T
    | 3, h => cases h; exact g3 T
    | 4, h => cases h; exact g4 T
    | 5, h => cases h; exact g5 T
    | 6, h => cases h; exact g6 T
    | 7, h => cases h; exact g7 T
    | 8, h => cases h; exact g8 T
    | 9, h => cases h; exact g9 T
    | 10, h => cases h; exact g10 T
    | 11, h => cases h; exact g11 T
    | 12, h => cases h; exact g12 T
    | 13, h => cases h; exact g13 T
    | 14, h => cases h; exact g14 T
    | 15, h => cases h; exact g15 T
    | j + 16, h => simp [L16] at h
  · exact nomatch he
theorem g16 (T : Txt G) : FnGood G base f16 (lvl 16) := by
  obtain ⟨f, fd, m, F⟩ := T.d16
  exact ⟨f, fd, ["actual"], m, F.kp, h16 T F, b16 F⟩
theorem b17 {K : PySem.W.Frag} {f : Addr} {fd : FuncData} (F : Fun K "_law_quiet" "_law_quiet" t17 f fd) : Binds K fd ["book", "tree"] [] := F.binds fun _ _ _ _ _ _ us hl => match us, hl with | [_, _], _ => rfl
theorem h17 (T : Txt G) {f : Addr} {fd : FuncData} (F : Fun G.K "_law_quiet" "_law_quiet" t17 f fd) : FnOk G.P G.w G.K G.mg base (L2.CX G.P G.w) (lvl 17) f fd ["book", "tree"] (spD G f17) := by
  refine fn_ok (Γ := fun j => L17[j]?) (lvl := lvl) (c := c17) F sc17 rfl (by decide) ⟨⟨T.blt, T.glo, fun j g h => ?_, fun e he g h => ?_⟩, T.exc, T.sub⟩ rfl rfl rfl rfl rfl rfl ck17 _
  · match j, h with
    | 0, h => cases h; exact g0 T
    | 1, h => cases h; exact g1 T
    | 2, h => cases h; exact g2 T
    | 3, h => cases h; exact g3 T
    | 4, h => cases h; exact g4 T
    | 5, h => cases h; exact g5 T
    | 6, h => cases h; exact g6 T
    | 7, h => cases h; exact g7 T
    | 8, h => cases h; exact g8 T
    | 9, h => cases h; exact g9 T
    | 10, h => cases h; exact g10 T
    | 11, h => cases h; exact g11 T
    | 12, h => cases h; exact g12 T
    | 13, h => cases h; exact g13 T
    | 14, h => cases h; exact g14 T
    | 15, h => cases h; exact g15 T
    | 16, h => cases h; exact g16 T
    | j + 17, h => simp [L17] at h
  · exact nomatch he
theorem g17 (T : Txt G) : FnGood G base f17 (lvl 17) := by
  obtain ⟨f, fd, m, F⟩ := T.d17
  exact ⟨f, fd, ["book", "tree"], m, F.kp, h17 T F, b17 F⟩
theorem b18 {K : PySem.W.Frag} {f : Addr} {fd : FuncData} (F : Fun K "law" "law" t18 f fd) : Binds K fd ["script"] [] := F.binds fun _ _ _ _ _ _ us hl => match us, hl with | [_], _ => rfl
theorem h18 (T : Txt G) {f : Addr} {fd : FuncData} (F : Fun G.K "law" "law" t18 f fd) : FnOk G.P G.w G.K G.mg base (L2.CX G.P G.w) (lvl 18) f fd ["script"] (spD G f18) := by
  refine fn_ok (Γ := fun j => L18[j]?) (lvl := lvl) (c := c18) F sc18 rfl (by decide) ⟨⟨T.blt, T.glo, fun j g h => ?_, fun e he g h => ?_⟩, T.exc, T.sub⟩ rfl rfl rfl rfl rfl rfl ck18 _
  · match j, h with
    | 0, h => cases h; exact g0 T
    | 1, h => cases h; exact g1 T
    | 2, h => cases h; exact g2 T
    | 3, h => cases h; exact g3 T
    | 4, h => cases h; exact g4 T
    | 5, h => cases h; exact g5 T
    | 6, h => cases h; exact g6 T
    | 7, h => cases h; exact g7 T
    | 8, h => cases h; exact g8 T
    | 9, h => cases h; exact g9 T
    | 10, h => cases h; exact g10 T
    | 11, h => cases h; exact g11 T
    | 12, h => cases h; exact g12 T
    | 13, h => cases h; exact g13 T
    | 14, h => cases h; exact g14 T
    | 15, h => cases h; exact g15 T
    | 16, h => cases h; exact g16 T
    | 17, h => cases h; exact g17 T
    | j + 18, h => simp [L18] at h
  · exact nomatch he
theorem g18 (T : Txt G) : FnGood G base f18 (lvl 18) := by
  obtain ⟨f, fd, m, F⟩ := T.d18
  exact ⟨f, fd, ["script"], m, F.kp, h18 T F, b18 F⟩
end
end K74
namespace K74
open PySem RL
def isInt : PyData → Bool
  | .int _ => true
  | _ => false
def below (m : Int) : PyData → Bool
  | .int i => decide (0 ≤ i) && decide (i < m)
  | _ => false
theorem eq_is_integer (d : PyData) : f0.φ [d] = .ret (.p (.bool (isInt d))) [] := by
  cases d <;> simp only [f0, io0, s0, isInt, runF, cellsOf, denS, den, R.st, R.b1, R.bA, R.tst, R.eo, R.part, P.isNil, tstS, dctD, op1, op2, opN, vals, give, T.val, Cell.val, Cell.own, boolOf, intOf, isaD, PyData.isInt, PyData.isBool, PyData.isTuple, PyData.isList, PyData.isStr, PyData.isDict,  RL.finish, retF, iosAt, outT, ioSlots, ioFrom, storeS, T.seal, sealAll, Tg.bind, callX, tmpIx, T.notF, R.cut, List.take_succ_cons, List.take_zero, List.take_nil, callR, argsOf, putIos, T.flat, flatO, flats, RL.flat, primD, prim1, prim2, lenD, intD, tupD, lstD, absD, maxD, minD, bl2, cmpD, eqOk, isNoneD, binD, addD, subD, modD, divD, negD, idxD, slcD, itrD, itemsD, sealR, enmD, zipD, rngD, parS, setS, appS, augS, augD, ownL,  List.getElem?_cons_zero, List.getElem?_cons_succ, List.getElem?_nil, List.set_cons_zero, List.set_cons_succ, List.length_cons, List.length_nil, List.replicate_succ, List.replicate_zero, List.cons_append, List.nil_append, Option.map_some, Option.map_none, Option.bind_some, Option.bind_none, Option.isSome_some, Option.isSome_none, if_true, if_false, List.contains_nil, Bool.false_eq_true, reduceCtorEq, Bool.not_true, Bool.not_false, List.nodup_nil, List.not_mem_nil, List.mem_cons, or_false, false_or, true_and, and_true, not_true_eq_false, not_false_eq_true, List.nodup_cons, Bool.true_and, Bool.and_true, List.all_nil, List.all_cons, Nat.reduceLT, Nat.reduceAdd, Nat.reduceSub, Nat.reduceLeDiff, Nat.zero_lt_succ, Nat.lt_add_one, wipeE, restore, List.map_cons, List.map_nil, Option.getD_some, Option.getD_none, Prod.mk.injEq, Option.some.injEq, implies_true, forall_const, true_or, or_true, ite_true, ite_false, forall_eq, forall_eq_or_imp, Nat.not_lt_zero, decide_true, decide_false, beq_self_eq_true, and_self, Nat.reduceEqDiff, List.getElem?_map, RL.shaped_int, RL.shaped_bool, RL.shaped_none, PyData.eqv, Int.reduceEq, Int.reduceNe, Int.reduceBEq, Int.reduceLT, Int.reduceLE, bne, false_imp_iff, true_imp_iff, Int.cast_ofNat_Int, Bool.not_eq_true, Bool.false_and, Bool.and_false, Bool.true_or, Bool.false_or, Bool.or_true, Bool.or_false, List.any_nil, List.any_cons]
theorem eq_is_below (m : Int) (d : PyData) : f1.φ [.int m, d] = .ret (.p (.bool (below m d))) [] := by
  have h0 : L1[0]? = some f0 := rfl
  have i0 : f0.io = [false] := rfl
  cases d <;> simp only [f1, io1, s1, h0, i0, eq_is_integer, isInt, below, runF, cellsOf, denS, den, R.st, R.b1, R.bA, R.tst, R.eo, R.part, P.isNil, tstS, dctD, op1, op2, opN, vals, give, T.val, Cell.val, Cell.own, boolOf, intOf, isaD, PyData.isInt, PyData.isBool, PyData.isTuple, PyData.isList, PyData.isStr, PyData.isDict,  RL.finish, retF, iosAt, outT, ioSlots, ioFrom, storeS, T.seal, sealAll, Tg.bind, callX, tmpIx, T.notF, R.cut, List.take_succ_cons, List.take_zero, List.take_nil, callR, argsOf, putIos, T.flat, flatO, flats, RL.flat, primD, prim1, prim2, lenD, intD, tupD, lstD, absD, maxD, minD, bl2, cmpD, eqOk, isNoneD, binD, addD, subD, modD, divD, negD, idxD, slcD, itrD, itemsD, sealR, enmD, zipD, rngD, parS, setS, appS, augS, augD, ownL,  List.getElem?_cons_zero, List.getElem?_cons_succ, List.getElem?_nil, List.set_cons_zero, List.set_cons_succ, List.length_cons, List.length_nil, List.replicate_succ, List.replicate_zero, List.cons_append, List.nil_append, Option.map_some, Option.map_none, Option.bind_some, Option.bind_none, Option.isSome_some, Option.isSome_none, if_true, if_false, List.contains_nil, Bool.false_eq_true, reduceCtorEq, Bool.not_true, Bool.not_false, List.nodup_nil, List.not_mem_nil, List.mem_cons, or_false, false_or, true_and, and_true, not_true_eq_false, not_false_eq_true, List.nodup_cons, Bool.true_and, Bool.and_true, List.all_nil, List.all_cons, Nat.reduceLT, Nat.reduceAdd, Nat.reduceSub, Nat.reduceLeDiff, Nat.zero_lt_succ, Nat.lt_add_one, wipeE, restore, List.map_cons, List.map_nil, Option.getD_some, Option.getD_none, Prod.mk.injEq, Option.some.injEq, implies_true, forall_const, true_or, or_true, ite_true, ite_false, forall_eq, forall_eq_or_imp, Nat.not_lt_zero, decide_true, decide_false, beq_self_eq_true, and_self, Nat.reduceEqDiff, List.getElem?_map, RL.shaped_int, RL.shaped_bool, RL.shaped_none, PyData.eqv, Int.reduceEq, Int.reduceNe, Int.reduceBEq, Int.reduceLT, Int.reduceLE, bne, false_imp_iff, true_imp_iff, Int.cast_ofNat_Int, Bool.not_eq_true, Bool.false_and, Bool.and_false, Bool.true_or, Bool.false_or, Bool.or_true, Bool.or_false, List.any_nil, List.any_cons]
  rename_i i
  by_cases h : 0 ≤ i
  · simp only [h, runF, cellsOf, denS, den, R.st, R.b1, R.bA, R.tst, R.eo, R.part, P.isNil, tstS, dctD, op1, op2, opN, vals, give, T.val, Cell.val, Cell.own, boolOf, intOf, isaD, PyData.isInt, PyData.isBool, PyData.isTuple, PyData.isList, PyData.isStr, PyData.isDict,  RL.finish, retF, iosAt, outT, ioSlots, ioFrom, storeS, T.seal, sealAll, Tg.bind, callX, tmpIx, T.notF, R.cut, List.take_succ_cons, List.take_zero, List.take_nil, callR, argsOf, putIos, T.flat, flatO, flats, RL.flat, primD, prim1, prim2, lenD, intD, tupD, lstD, absD, maxD, minD, bl2, cmpD, eqOk, isNoneD, binD, addD, subD, modD, divD, negD, idxD, slcD, itrD, itemsD, sealR, enmD, zipD, rngD, parS, setS, appS, augS, augD, ownL,  List.getElem?_cons_zero, List.getElem?_cons_succ, List.getElem?_nil, List.set_cons_zero, List.set_cons_succ, List.length_cons, List.length_nil, List.replicate_succ, List.replicate_zero, List.cons_append, List.nil_append, Option.map_some, Option.map_none, Option.bind_some, Option.bind_none, Option.isSome_some, Option.isSome_none, if_true, if_false, List.contains_nil, Bool.false_eq_true, reduceCtorEq, Bool.not_true, Bool.not_false, List.nodup_nil, List.not_mem_nil, List.mem_cons, or_false, false_or, true_and, and_true, not_true_eq_false, not_false_eq_true, List.nodup_cons, Bool.true_and, Bool.and_true, List.all_nil, List.all_cons, Nat.reduceLT, Nat.reduceAdd, Nat.reduceSub, Nat.reduceLeDiff, Nat.zero_lt_succ, Nat.lt_add_one, wipeE, restore, List.map_cons, List.map_nil, Option.getD_some, Option.getD_none, Prod.mk.injEq, Option.some.injEq, implies_true, forall_const, true_or, or_true, ite_true, ite_false, forall_eq, forall_eq_or_imp, Nat.not_lt_zero, decide_true, decide_false, beq_self_eq_true, and_self, Nat.reduceEqDiff, List.getElem?_map, RL.shaped_int, RL.shaped_bool, RL.shaped_none, PyData.eqv, Int.reduceEq, Int.reduceNe, Int.reduceBEq, Int.reduceLT, Int.reduceLE, bne, false_imp_iff, true_imp_iff, Int.cast_ofNat_Int, Bool.not_eq_true, Bool.false_and, Bool.and_false, Bool.true_or, Bool.false_or, Bool.or_true, Bool.or_false, List.any_nil, List.any_cons]
  · simp only [h, runF, cellsOf, denS, den, R.st, R.b1, R.bA, R.tst, R.eo, R.part, P.isNil, tstS, dctD, op1, op2, opN, vals, give, T.val, Cell.val, Cell.own, boolOf, intOf, isaD, PyData.isInt, PyData.isBool, PyData.isTuple, PyData.isList, PyData.isStr, PyData.isDict,  RL.finish, retF, iosAt, outT, ioSlots, ioFrom, storeS, T.seal, sealAll, Tg.bind, callX, tmpIx, T.notF, R.cut, List.take_succ_cons, List.take_zero, List.take_nil, callR, argsOf, putIos, T.flat, flatO, flats, RL.flat, primD, prim1, prim2, lenD, intD, tupD, lstD, absD, maxD, minD, bl2, cmpD, eqOk, isNoneD, binD, addD, subD, modD, divD, negD, idxD, slcD, itrD, itemsD, sealR, enmD, zipD, rngD, parS, setS, appS, augS, augD, ownL,  List.getElem?_cons_zero, List.getElem?_cons_succ, List.getElem?_nil, List.set_cons_zero, List.set_cons_succ, List.length_cons, List.length_nil, List.replicate_succ, List.replicate_zero, List.cons_append, List.nil_append, Option.map_some, Option.map_none, Option.bind_some, Option.bind_none, Option.isSome_some, Option.isSome_none, if_true, if_false, List.contains_nil, Bool.false_eq_true, reduceCtorEq, Bool.not_true, Bool.not_false, List.nodup_nil, List.not_mem_nil, List.mem_cons, or_false, false_or, true_and, and_true, not_true_eq_false, not_false_eq_true, List.nodup_cons, Bool.true_and, Bool.and_true, List.all_nil, List.all_cons, Nat.reduceLT, Nat.reduceAdd, Nat.reduceSub, Nat.reduceLeDiff, Nat.zero_lt_succ, Nat.lt_add_one, wipeE, restore, List.map_cons, List.map_nil, Option.getD_some, Option.getD_none, Prod.mk.injEq, Option.some.injEq, implies_true, forall_const, true_or, or_true, ite_true, ite_false, forall_eq, forall_eq_or_imp, Nat.not_lt_zero, decide_true, decide_false, beq_self_eq_true, and_self, Nat.reduceEqDiff, List.getElem?_map, RL.shaped_int, RL.shaped_bool, RL.shaped_none, PyData.eqv, Int.reduceEq, Int.reduceNe, Int.reduceBEq, Int.reduceLT, Int.reduceLE, bne, false_imp_iff, true_imp_iff, Int.cast_ofNat_Int, Bool.not_eq_true, Bool.false_and, Bool.and_false, Bool.true_or, Bool.false_or, Bool.or_true, Bool.or_false, List.any_nil, List.any_cons, Bool.false_and]
theorem below_int {m : Int} {d : PyData} (h : below m d = true) : ∃ i, d = .int i ∧ 0 ≤ i ∧ i < m := by
  cases d <;> simp [below] at h
  exact ⟨_, rfl, h⟩
end K74

namespace K74
open PySem RL
def ruleOk (m : Int) : PyData → Bool
  | .tuple [a, o, n, .tuple sg] => below m a && below m o && below m n && !(PyData.eqv o n) && ((sg.length : Int) == m) && sg.all (below m)
  | _ => false
def sigOk (m : Int) : PyData → Bool
  | .tuple sg => ((sg.length : Int) == m) && sg.all (below m)
  | _ => false
theorem ruleOk_4 (m : Int) (a o n s : PyData) : ruleOk m (.tuple [a, o, n, s]) = (below m a && below m o && below m n && !(PyData.eqv o n) && sigOk m s) := by
  cases s <;> simp [ruleOk, sigOk, Bool.and_assoc]
theorem ruleOk_len {m : Int} {ds : List PyData} (hl : ds.length ≠ 4) : ruleOk m (.tuple ds) = false := by
  rcases ds with _ | ⟨a, _ | ⟨o, _ | ⟨n, _ | ⟨s, _ | ⟨x, ds⟩⟩⟩⟩⟩ <;> first | rfl | (simp at hl; done) | (cases s <;> rfl)
theorem eq_is_rule (m : Int) (hm0 : m ≤ 16777216) (d : PyData) : f2.φ [.int m, d] = .ret (.p (.bool (ruleOk m d))) [] := by
  have h1 : L2[1]? = some f1 := rfl
  have i1 : f1.io = [false, false] := rfl
  cases d with
  | tuple ds =>
    by_cases hl : ds.length = 4
    · obtain ⟨a, o, n, s, rfl⟩ : ∃ a o n s, ds = [a, o, n, s] := by
        rcases ds with _ | ⟨a, _ | ⟨o, _ | ⟨n, _ | ⟨s, _ | ⟨x, ds⟩⟩⟩⟩⟩ <;> simp at hl
        exact ⟨_, _, _, _, rfl⟩
      rw [ruleOk_4]
      cases ha : below m a with
      | false => simp only [f2, io2, s2, h1, i1, eq_is_below, ha, runF, cellsOf, denS, den, R.st, R.b1, R.bA, R.tst, R.eo, R.part, P.isNil, tstS, dctD, op1, op2, opN, vals, give, T.val, Cell.val, Cell.own, boolOf, intOf, isaD, PyData.isInt, PyData.isBool, PyData.isTuple, PyData.isList, PyData.isStr, PyData.isDict,  RL.finish, retF, iosAt, outT, ioSlots, ioFrom, storeS, T.seal, sealAll, Tg.bind, callX, tmpIx, T.notF, R.cut, List.take_succ_cons, List.take_zero, List.take_nil, callR, argsOf, putIos, T.flat, flatO, flats, RL.flat, primD, prim1, prim2, lenD, intD, tupD, lstD, absD, maxD, minD, bl2, cmpD, eqOk, isNoneD, binD, addD, subD, modD, divD, negD, idxD, slcD, itrD, itemsD, sealR, enmD, zipD, rngD, parS, setS, appS, augS, augD, ownL,  List.getElem?_cons_zero, List.getElem?_cons_succ, List.getElem?_nil, List.set_cons_zero, List.set_cons_succ, List.length_cons, List.length_nil, List.replicate_succ, List.replicate_zero, List.cons_append, List.nil_append, Option.map_some, Option.map_none, Option.bind_some, Option.bind_none, Option.isSome_some, Option.isSome_none, if_true, if_false, List.contains_nil, Bool.false_eq_true, reduceCtorEq, Bool.not_true, Bool.not_false, List.nodup_nil, List.not_mem_nil, List.mem_cons, or_false, false_or, true_and, and_true, not_true_eq_false, not_false_eq_true, List.nodup_cons, Bool.true_and, Bool.and_true, List.all_nil, List.all_cons, Nat.reduceLT, Nat.reduceAdd, Nat.reduceSub, Nat.reduceLeDiff, Nat.zero_lt_succ, Nat.lt_add_one, wipeE, restore, List.map_cons, List.map_nil, Option.getD_some, Option.getD_none, Prod.mk.injEq, Option.some.injEq, implies_true, forall_const, true_or, or_true, ite_true, ite_false, forall_eq, forall_eq_or_imp, Nat.not_lt_zero, decide_true, decide_false, beq_self_eq_true, and_self, Nat.reduceEqDiff, List.getElem?_map, RL.shaped_int, RL.shaped_bool, RL.shaped_none, PyData.eqv, Int.reduceEq, Int.reduceNe, Int.reduceBEq, Int.reduceLT, Int.reduceLE, bne, false_imp_iff, true_imp_iff, Int.cast_ofNat_Int, Bool.not_eq_true, Bool.false_and, Bool.and_false, Bool.true_or, Bool.false_or, Bool.or_true, Bool.or_false, List.any_nil, List.any_cons]
      | true =>
        cases ho : below m o with
        | false => simp only [f2, io2, s2, h1, i1, eq_is_below, ha, ho, runF, cellsOf, denS, den, R.st, R.b1, R.bA, R.tst, R.eo, R.part, P.isNil, tstS, dctD, op1, op2, opN, vals, give, T.val, Cell.val, Cell.own, boolOf, intOf, isaD, PyData.isInt, PyData.isBool, PyData.isTuple, PyData.isList, PyData.isStr, PyData.isDict,  RL.finish, retF, iosAt, outT, ioSlots, ioFrom, storeS, T.seal, sealAll, Tg.bind, callX, tmpIx, T.notF, R.cut, List.take_succ_cons, List.take_zero, List.take_nil, callR, argsOf, putIos, T.flat, flatO, flats, RL.flat, primD, prim1, prim2, lenD, intD, tupD, lstD, absD, maxD, minD, bl2, cmpD, eqOk, isNoneD, binD, addD, subD, modD, divD, negD, idxD, slcD, itrD, itemsD, sealR, enmD, zipD, rngD, parS, setS, appS, augS, augD, ownL,  List.getElem?_cons_zero, List.getElem?_cons_succ, List.getElem?_nil, List.set_cons_zero, List.set_cons_succ, List.length_cons, List.length_nil, List.replicate_succ, List.replicate_zero, List.cons_append, List.nil_append, Option.map_some, Option.map_none, Option.bind_some, Option.bind_none, Option.isSome_some, Option.isSome_none, if_true, if_false, List.contains_nil, Bool.false_eq_true, reduceCtorEq, Bool.not_true, Bool.not_false, List.nodup_nil, List.not_mem_nil, List.mem_cons, or_false, false_or, true_and, and_true, not_true_eq_false, not_false_eq_true, List.nodup_cons, Bool.true_and, Bool.and_true, List.all_nil, List.all_cons, Nat.reduceLT, Nat.reduceAdd, Nat.reduceSub, Nat.reduceLeDiff, Nat.zero_lt_succ, Nat.lt_add_one, wipeE, restore, List.map_cons, List.map_nil, Option.getD_some, Option.getD_none, Prod.mk.injEq, Option.some.injEq, implies_true, forall_const, true_or, or_true, ite_true, ite_false, forall_eq, forall_eq_or_imp, Nat.not_lt_zero, decide_true, decide_false, beq_self_eq_true, and_self, Nat.reduceEqDiff, List.getElem?_map, RL.shaped_int, RL.shaped_bool, RL.shaped_none, PyData.eqv, Int.reduceEq, Int.reduceNe, Int.reduceBEq, Int.reduceLT, Int.reduceLE, bne, false_imp_iff, true_imp_iff, Int.cast_ofNat_Int, Bool.not_eq_true, Bool.false_and, Bool.and_false, Bool.true_or, Bool.false_or, Bool.or_true, Bool.or_false, List.any_nil, List.any_cons]
        | true =>
          cases hn : below m n with
          | false => simp only [f2, io2, s2, h1, i1, eq_is_below, ha, ho, hn, runF, cellsOf, denS, den, R.st, R.b1, R.bA, R.tst, R.eo, R.part, P.isNil, tstS, dctD, op1, op2, opN, vals, give, T.val, Cell.val, Cell.own, boolOf, intOf, isaD, PyData.isInt, PyData.isBool, PyData.isTuple, PyData.isList, PyData.isStr, PyData.isDict,  RL.finish, retF, iosAt, outT, ioSlots, ioFrom, storeS, T.seal, sealAll, Tg.bind, callX, tmpIx, T.notF, R.cut, List.take_succ_cons, List.take_zero, List.take_nil, callR, argsOf, putIos, T.flat, flatO, flats, RL.flat, primD, prim1, prim2, lenD, intD, tupD, lstD, absD, maxD, minD, bl2, cmpD, eqOk, isNoneD, binD, addD, subD, modD, divD, negD, idxD, slcD, itrD, itemsD, sealR, enmD, zipD, rngD, parS, setS, appS, augS, augD, ownL,  List.getElem?_cons_zero, List.getElem?_cons_succ, List.getElem?_nil, List.set_cons_zero, List.set_cons_succ, List.length_cons, List.length_nil, List.replicate_succ, List.replicate_zero, List.cons_append, List.nil_append, Option.map_some, Option.map_none, Option.bind_some, Option.bind_none, Option.isSome_some, Option.isSome_none, if_true, if_false, List.contains_nil, Bool.false_eq_true, reduceCtorEq, Bool.not_true, Bool.not_false, List.nodup_nil, List.not_mem_nil, List.mem_cons, or_false, false_or, true_and, and_true, not_true_eq_false, not_false_eq_true, List.nodup_cons, Bool.true_and, Bool.and_true, List.all_nil, List.all_cons, Nat.reduceLT, Nat.reduceAdd, Nat.reduceSub, Nat.reduceLeDiff, Nat.zero_lt_succ, Nat.lt_add_one, wipeE, restore, List.map_cons, List.map_nil, Option.getD_some, Option.getD_none, Prod.mk.injEq, Option.some.injEq, implies_true, forall_const, true_or, or_true, ite_true, ite_false, forall_eq, forall_eq_or_imp, Nat.not_lt_zero, decide_true, decide_false, beq_self_eq_true, and_self, Nat.reduceEqDiff, List.getElem?_map, RL.shaped_int, RL.shaped_bool, RL.shaped_none, PyData.eqv, Int.reduceEq, Int.reduceNe, Int.reduceBEq, Int.reduceLT, Int.reduceLE, bne, false_imp_iff, true_imp_iff, Int.cast_ofNat_Int, Bool.not_eq_true, Bool.false_and, Bool.and_false, Bool.true_or, Bool.false_or, Bool.or_true, Bool.or_false, List.any_nil, List.any_cons]
          | true =>
            obtain ⟨i, rfl, _⟩ := below_int ho
            obtain ⟨j, rfl, _⟩ := below_int hn
            cases he : i == j with
            | true => simp only [f2, io2, s2, h1, i1, eq_is_below, ha, ho, hn, he, runF, cellsOf, denS, den, R.st, R.b1, R.bA, R.tst, R.eo, R.part, P.isNil, tstS, dctD, op1, op2, opN, vals, give, T.val, Cell.val, Cell.own, boolOf, intOf, isaD, PyData.isInt, PyData.isBool, PyData.isTuple, PyData.isList, PyData.isStr, PyData.isDict,  RL.finish, retF, iosAt, outT, ioSlots, ioFrom, storeS, T.seal, sealAll, Tg.bind, callX, tmpIx, T.notF, R.cut, List.take_succ_cons, List.take_zero, List.take_nil, callR, argsOf, putIos, T.flat, flatO, flats, RL.flat, primD, prim1, prim2, lenD, intD, tupD, lstD, absD, maxD, minD, bl2, cmpD, eqOk, isNoneD, binD, addD, subD, modD, divD, negD, idxD, slcD, itrD, itemsD, sealR, enmD, zipD, rngD, parS, setS, appS, augS, augD, ownL,  List.getElem?_cons_zero, List.getElem?_cons_succ, List.getElem?_nil, List.set_cons_zero, List.set_cons_succ, List.length_cons, List.length_nil, List.replicate_succ, List.replicate_zero, List.cons_append, List.nil_append, Option.map_some, Option.map_none, Option.bind_some, Option.bind_none, Option.isSome_some, Option.isSome_none, if_true, if_false, List.contains_nil, Bool.false_eq_true, reduceCtorEq, Bool.not_true, Bool.not_false, List.nodup_nil, List.not_mem_nil, List.mem_cons, or_false, false_or, true_and, and_true, not_true_eq_false, not_false_eq_true, List.nodup_cons, Bool.true_and, Bool.and_true, List.all_nil, List.all_cons, Nat.reduceLT, Nat.reduceAdd, Nat.reduceSub, Nat.reduceLeDiff, Nat.zero_lt_succ, Nat.lt_add_one, wipeE, restore, List.map_cons, List.map_nil, Option.getD_some, Option.getD_none, Prod.mk.injEq, Option.some.injEq, implies_true, forall_const, true_or, or_true, ite_true, ite_false, forall_eq, forall_eq_or_imp, Nat.not_lt_zero, decide_true, decide_false, beq_self_eq_true, and_self, Nat.reduceEqDiff, List.getElem?_map, RL.shaped_int, RL.shaped_bool, RL.shaped_none, PyData.eqv, Int.reduceEq, Int.reduceNe, Int.reduceBEq, Int.reduceLT, Int.reduceLE, bne, false_imp_iff, true_imp_iff, Int.cast_ofNat_Int, Bool.not_eq_true, Bool.false_and, Bool.and_false, Bool.true_or, Bool.false_or, Bool.or_true, Bool.or_false, List.any_nil, List.any_cons]
            | false =>
              cases s with
              | tuple sg =>
                cases hm : (sg.length : Int) == m with
                | false => simp only [f2, io2, s2, h1, i1, eq_is_below, ha, ho, hn, he, hm, sigOk, runF, cellsOf, denS, den, R.st, R.b1, R.bA, R.tst, R.eo, R.part, P.isNil, tstS, dctD, op1, op2, opN, vals, give, T.val, Cell.val, Cell.own, boolOf, intOf, isaD, PyData.isInt, PyData.isBool, PyData.isTuple, PyData.isList, PyData.isStr, PyData.isDict,  RL.finish, retF, iosAt, outT, ioSlots, ioFrom, storeS, T.seal, sealAll, Tg.bind, callX, tmpIx, T.notF, R.cut, List.take_succ_cons, List.take_zero, List.take_nil, callR, argsOf, putIos, T.flat, flatO, flats, RL.flat, primD, prim1, prim2, lenD, intD, tupD, lstD, absD, maxD, minD, bl2, cmpD, eqOk, isNoneD, binD, addD, subD, modD, divD, negD, idxD, slcD, itrD, itemsD, sealR, enmD, zipD, rngD, parS, setS, appS, augS, augD, ownL,  List.getElem?_cons_zero, List.getElem?_cons_succ, List.getElem?_nil, List.set_cons_zero, List.set_cons_succ, List.length_cons, List.length_nil, List.replicate_succ, List.replicate_zero, List.cons_append, List.nil_append, Option.map_some, Option.map_none, Option.bind_some, Option.bind_none, Option.isSome_some, Option.isSome_none, if_true, if_false, List.contains_nil, Bool.false_eq_true, reduceCtorEq, Bool.not_true, Bool.not_false, List.nodup_nil, List.not_mem_nil, List.mem_cons, or_false, false_or, true_and, and_true, not_true_eq_false, not_false_eq_true, List.nodup_cons, Bool.true_and, Bool.and_true, List.all_nil, List.all_cons, Nat.reduceLT, Nat.reduceAdd, Nat.reduceSub, Nat.reduceLeDiff, Nat.zero_lt_succ, Nat.lt_add_one, wipeE, restore, List.map_cons, List.map_nil, Option.getD_some, Option.getD_none, Prod.mk.injEq, Option.some.injEq, implies_true, forall_const, true_or, or_true, ite_true, ite_false, forall_eq, forall_eq_or_imp, Nat.not_lt_zero, decide_true, decide_false, beq_self_eq_true, and_self, Nat.reduceEqDiff, List.getElem?_map, RL.shaped_int, RL.shaped_bool, RL.shaped_none, PyData.eqv, Int.reduceEq, Int.reduceNe, Int.reduceBEq, Int.reduceLT, Int.reduceLE, bne, false_imp_iff, true_imp_iff, Int.cast_ofNat_Int, Bool.not_eq_true, Bool.false_and, Bool.and_false, Bool.true_or, Bool.false_or, Bool.or_true, Bool.or_false, List.any_nil, List.any_cons]
                | true =>
                  have hg := gen_map (t := .nm 6) (c := den (fun j => L2[j]?) (.cst (.bool true))) (b := den (fun j => L2[j]?) (.call 1 (.cons (.var 0) (.cons (.var 6) .nil)))) (ws := [6])
                    (ρ := [.pu (.int m), .pu (.tuple [a, .int i, .int j, .tuple sg]), .pu a, .pu (.int i), .pu (.int j), .pu (.tuple sg), .un]) (fun d => .bool (below m d)) sg (fun d _ => ⟨_, _, _, _, rfl, rfl, by simp only [h1, i1, eq_is_below, runF, cellsOf, denS, den, R.st, R.b1, R.bA, R.tst, R.eo, R.part, P.isNil, tstS, dctD, op1, op2, opN, vals, give, T.val, Cell.val, Cell.own, boolOf, intOf, isaD, PyData.isInt, PyData.isBool, PyData.isTuple, PyData.isList, PyData.isStr, PyData.isDict,  RL.finish, retF, iosAt, outT, ioSlots, ioFrom, storeS, T.seal, sealAll, Tg.bind, callX, tmpIx, T.notF, R.cut, List.take_succ_cons, List.take_zero, List.take_nil, callR, argsOf, putIos, T.flat, flatO, flats, RL.flat, primD, prim1, prim2, lenD, intD, tupD, lstD, absD, maxD, minD, bl2, cmpD, eqOk, isNoneD, binD, addD, subD, modD, divD, negD, idxD, slcD, itrD, itemsD, sealR, enmD, zipD, rngD, parS, setS, appS, augS, augD, ownL,  List.getElem?_cons_zero, List.getElem?_cons_succ, List.getElem?_nil, List.set_cons_zero, List.set_cons_succ, List.length_cons, List.length_nil, List.replicate_succ, List.replicate_zero, List.cons_append, List.nil_append, Option.map_some, Option.map_none, Option.bind_some, Option.bind_none, Option.isSome_some, Option.isSome_none, if_true, if_false, List.contains_nil, Bool.false_eq_true, reduceCtorEq, Bool.not_true, Bool.not_false, List.nodup_nil, List.not_mem_nil, List.mem_cons, or_false, false_or, true_and, and_true, not_true_eq_false, not_false_eq_true, List.nodup_cons, Bool.true_and, Bool.and_true, List.all_nil, List.all_cons, Nat.reduceLT, Nat.reduceAdd, Nat.reduceSub, Nat.reduceLeDiff, Nat.zero_lt_succ, Nat.lt_add_one, wipeE, restore, List.map_cons, List.map_nil, Option.getD_some, Option.getD_none, Prod.mk.injEq, Option.some.injEq, implies_true, forall_const, true_or, or_true, ite_true, ite_false, forall_eq, forall_eq_or_imp, Nat.not_lt_zero, decide_true, decide_false, beq_self_eq_true, and_self, Nat.reduceEqDiff, List.getElem?_map, RL.shaped_int, RL.shaped_bool, RL.shaped_none, PyData.eqv, Int.reduceEq, Int.reduceNe, Int.reduceBEq, Int.reduceLT, Int.reduceLE, bne, false_imp_iff, true_imp_iff, Int.cast_ofNat_Int, Bool.not_eq_true, Bool.false_and, Bool.and_false, Bool.true_or, Bool.false_or, Bool.or_true, Bool.or_false, List.any_nil, List.any_cons]; rfl, rfl, rfl⟩)
                  simp only [h1, i1, eq_is_below, runF, cellsOf, denS, den, R.st, R.b1, R.bA, R.tst, R.eo, R.part, P.isNil, tstS, dctD, op1, op2, opN, vals, give, T.val, Cell.val, Cell.own, boolOf, intOf, isaD, PyData.isInt, PyData.isBool, PyData.isTuple, PyData.isList, PyData.isStr, PyData.isDict,  RL.finish, retF, iosAt, outT, ioSlots, ioFrom, storeS, T.seal, sealAll, Tg.bind, callX, tmpIx, T.notF, R.cut, List.take_succ_cons, List.take_zero, List.take_nil, callR, argsOf, putIos, T.flat, flatO, flats, RL.flat, primD, prim1, prim2, lenD, intD, tupD, lstD, absD, maxD, minD, bl2, cmpD, eqOk, isNoneD, binD, addD, subD, modD, divD, negD, idxD, slcD, itrD, itemsD, sealR, enmD, zipD, rngD, parS, setS, appS, augS, augD, ownL,  List.getElem?_cons_zero, List.getElem?_cons_succ, List.getElem?_nil, List.set_cons_zero, List.set_cons_succ, List.length_cons, List.length_nil, List.replicate_succ, List.replicate_zero, List.cons_append, List.nil_append, Option.map_some, Option.map_none, Option.bind_some, Option.bind_none, Option.isSome_some, Option.isSome_none, if_true, if_false, List.contains_nil, Bool.false_eq_true, reduceCtorEq, Bool.not_true, Bool.not_false, List.nodup_nil, List.not_mem_nil, List.mem_cons, or_false, false_or, true_and, and_true, not_true_eq_false, not_false_eq_true, List.nodup_cons, Bool.true_and, Bool.and_true, List.all_nil, List.all_cons, Nat.reduceLT, Nat.reduceAdd, Nat.reduceSub, Nat.reduceLeDiff, Nat.zero_lt_succ, Nat.lt_add_one, wipeE, restore, List.map_cons, List.map_nil, Option.getD_some, Option.getD_none, Prod.mk.injEq, Option.some.injEq, implies_true, forall_const, true_or, or_true, ite_true, ite_false, forall_eq, forall_eq_or_imp, Nat.not_lt_zero, decide_true, decide_false, beq_self_eq_true, and_self, Nat.reduceEqDiff, List.getElem?_map, RL.shaped_int, RL.shaped_bool, RL.shaped_none, PyData.eqv, Int.reduceEq, Int.reduceNe, Int.reduceBEq, Int.reduceLT, Int.reduceLE, bne, false_imp_iff, true_imp_iff, Int.cast_ofNat_Int, Bool.not_eq_true, Bool.false_and, Bool.and_false, Bool.true_or, Bool.false_or, Bool.or_true, Bool.or_false, List.any_nil, List.any_cons] at hg
                  have hz : sg.length ≤ 16777216 := by
                    have := beq_iff_eq.mp hm
                    omega
                  simp only [f2, io2, s2, h1, i1, eq_is_below, ha, ho, hn, he, hm, sigOk, hg, hz, all_of, runF, cellsOf, denS, den, R.st, R.b1, R.bA, R.tst, R.eo, R.part, P.isNil, tstS, dctD, op1, op2, opN, vals, give, T.val, Cell.val, Cell.own, boolOf, intOf, isaD, PyData.isInt, PyData.isBool, PyData.isTuple, PyData.isList, PyData.isStr, PyData.isDict,  RL.finish, retF, iosAt, outT, ioSlots, ioFrom, storeS, T.seal, sealAll, Tg.bind, callX, tmpIx, T.notF, R.cut, List.take_succ_cons, List.take_zero, List.take_nil, callR, argsOf, putIos, T.flat, flatO, flats, RL.flat, primD, prim1, prim2, lenD, intD, tupD, lstD, absD, maxD, minD, bl2, cmpD, eqOk, isNoneD, binD, addD, subD, modD, divD, negD, idxD, slcD, itrD, itemsD, sealR, enmD, zipD, rngD, parS, setS, appS, augS, augD, ownL,  List.getElem?_cons_zero, List.getElem?_cons_succ, List.getElem?_nil, List.set_cons_zero, List.set_cons_succ, List.length_cons, List.length_nil, List.replicate_succ, List.replicate_zero, List.cons_append, List.nil_append, Option.map_some, Option.map_none, Option.bind_some, Option.bind_none, Option.isSome_some, Option.isSome_none, if_true, if_false, List.contains_nil, Bool.false_eq_true, reduceCtorEq, Bool.not_true, Bool.not_false, List.nodup_nil, List.not_mem_nil, List.mem_cons, or_false, false_or, true_and, and_true, not_true_eq_false, not_false_eq_true, List.nodup_cons, Bool.true_and, Bool.and_true, List.all_nil, List.all_cons, Nat.reduceLT, Nat.reduceAdd, Nat.reduceSub, Nat.reduceLeDiff, Nat.zero_lt_succ, Nat.lt_add_one, wipeE, restore, List.map_cons, List.map_nil, Option.getD_some, Option.getD_none, Prod.mk.injEq, Option.some.injEq, implies_true, forall_const, true_or, or_true, ite_true, ite_false, forall_eq, forall_eq_or_imp, Nat.not_lt_zero, decide_true, decide_false, beq_self_eq_true, and_self, Nat.reduceEqDiff, List.getElem?_map, RL.shaped_int, RL.shaped_bool, RL.shaped_none, PyData.eqv, Int.reduceEq, Int.reduceNe, Int.reduceBEq, Int.reduceLT, Int.reduceLE, bne, false_imp_iff, true_imp_iff, Int.cast_ofNat_Int, Bool.not_eq_true, Bool.false_and, Bool.and_false, Bool.true_or, Bool.false_or, Bool.or_true, Bool.or_false, List.any_nil, List.any_cons]
              | _ => simp only [f2, io2, s2, h1, i1, eq_is_below, ha, ho, hn, he, sigOk, runF, cellsOf, denS, den, R.st, R.b1, R.bA, R.tst, R.eo, R.part, P.isNil, tstS, dctD, op1, op2, opN, vals, give, T.val, Cell.val, Cell.own, boolOf, intOf, isaD, PyData.isInt, PyData.isBool, PyData.isTuple, PyData.isList, PyData.isStr, PyData.isDict,  RL.finish, retF, iosAt, outT, ioSlots, ioFrom, storeS, T.seal, sealAll, Tg.bind, callX, tmpIx, T.notF, R.cut, List.take_succ_cons, List.take_zero, List.take_nil, callR, argsOf, putIos, T.flat, flatO, flats, RL.flat, primD, prim1, prim2, lenD, intD, tupD, lstD, absD, maxD, minD, bl2, cmpD, eqOk, isNoneD, binD, addD, subD, modD, divD, negD, idxD, slcD, itrD, itemsD, sealR, enmD, zipD, rngD, parS, setS, appS, augS, augD, ownL,  List.getElem?_cons_zero, List.getElem?_cons_succ, List.getElem?_nil, List.set_cons_zero, List.set_cons_succ, List.length_cons, List.length_nil, List.replicate_succ, List.replicate_zero, List.cons_append, List.nil_append, Option.map_some, Option.map_none, Option.bind_some, Option.bind_none, Option.isSome_some, Option.isSome_none, if_true, if_false, List.contains_nil, Bool.false_eq_true, reduceCtorEq, Bool.not_true, Bool.not_false, List.nodup_nil, List.not_mem_nil, List.mem_cons, or_false, false_or, true_and, and_true, not_true_eq_false, not_false_eq_true, List.nodup_cons, Bool.true_and, Bool.and_true, List.all_nil, List.all_cons, Nat.reduceLT, Nat.reduceAdd, Nat.reduceSub, Nat.reduceLeDiff, Nat.zero_lt_succ, Nat.lt_add_one, wipeE, restore, List.map_cons, List.map_nil, Option.getD_some, Option.getD_none, Prod.mk.injEq, Option.some.injEq, implies_true, forall_const, true_or, or_true, ite_true, ite_false, forall_eq, forall_eq_or_imp, Nat.not_lt_zero, decide_true, decide_false, beq_self_eq_true, and_self, Nat.reduceEqDiff, List.getElem?_map, RL.shaped_int, RL.shaped_bool, RL.shaped_none, PyData.eqv, Int.reduceEq, Int.reduceNe, Int.reduceBEq, Int.reduceLT, Int.reduceLE, bne, false_imp_iff, true_imp_iff, Int.cast_ofNat_Int, Bool.not_eq_true, Bool.false_and, Bool.and_false, Bool.true_or, Bool.false_or, Bool.or_true, Bool.or_false, List.any_nil, List.any_cons]
    · have h4 : ((ds.length : Int) == 4) = false := by simp; omega
      rw [ruleOk_len hl]
      simp only [f2, io2, s2, h1, i1, eq_is_below, h4, runF, cellsOf, denS, den, R.st, R.b1, R.bA, R.tst, R.eo, R.part, P.isNil, tstS, dctD, op1, op2, opN, vals, give, T.val, Cell.val, Cell.own, boolOf, intOf, isaD, PyData.isInt, PyData.isBool, PyData.isTuple, PyData.isList, PyData.isStr, PyData.isDict,  RL.finish, retF, iosAt, outT, ioSlots, ioFrom, storeS, T.seal, sealAll, Tg.bind, callX, tmpIx, T.notF, R.cut, List.take_succ_cons, List.take_zero, List.take_nil, callR, argsOf, putIos, T.flat, flatO, flats, RL.flat, primD, prim1, prim2, lenD, intD, tupD, lstD, absD, maxD, minD, bl2, cmpD, eqOk, isNoneD, binD, addD, subD, modD, divD, negD, idxD, slcD, itrD, itemsD, sealR, enmD, zipD, rngD, parS, setS, appS, augS, augD, ownL,  List.getElem?_cons_zero, List.getElem?_cons_succ, List.getElem?_nil, List.set_cons_zero, List.set_cons_succ, List.length_cons, List.length_nil, List.replicate_succ, List.replicate_zero, List.cons_append, List.nil_append, Option.map_some, Option.map_none, Option.bind_some, Option.bind_none, Option.isSome_some, Option.isSome_none, if_true, if_false, List.contains_nil, Bool.false_eq_true, reduceCtorEq, Bool.not_true, Bool.not_false, List.nodup_nil, List.not_mem_nil, List.mem_cons, or_false, false_or, true_and, and_true, not_true_eq_false, not_false_eq_true, List.nodup_cons, Bool.true_and, Bool.and_true, List.all_nil, List.all_cons, Nat.reduceLT, Nat.reduceAdd, Nat.reduceSub, Nat.reduceLeDiff, Nat.zero_lt_succ, Nat.lt_add_one, wipeE, restore, List.map_cons, List.map_nil, Option.getD_some, Option.getD_none, Prod.mk.injEq, Option.some.injEq, implies_true, forall_const, true_or, or_true, ite_true, ite_false, forall_eq, forall_eq_or_imp, Nat.not_lt_zero, decide_true, decide_false, beq_self_eq_true, and_self, Nat.reduceEqDiff, List.getElem?_map, RL.shaped_int, RL.shaped_bool, RL.shaped_none, PyData.eqv, Int.reduceEq, Int.reduceNe, Int.reduceBEq, Int.reduceLT, Int.reduceLE, bne, false_imp_iff, true_imp_iff, Int.cast_ofNat_Int, Bool.not_eq_true, Bool.false_and, Bool.and_false, Bool.true_or, Bool.false_or, Bool.or_true, Bool.or_false, List.any_nil, List.any_cons]
  | _ => simp only [f2, io2, s2, h1, i1, eq_is_below, ruleOk, runF, cellsOf, denS, den, R.st, R.b1, R.bA, R.tst, R.eo, R.part, P.isNil, tstS, dctD, op1, op2, opN, vals, give, T.val, Cell.val, Cell.own, boolOf, intOf, isaD, PyData.isInt, PyData.isBool, PyData.isTuple, PyData.isList, PyData.isStr, PyData.isDict,  RL.finish, retF, iosAt, outT, ioSlots, ioFrom, storeS, T.seal, sealAll, Tg.bind, callX, tmpIx, T.notF, R.cut, List.take_succ_cons, List.take_zero, List.take_nil, callR, argsOf, putIos, T.flat, flatO, flats, RL.flat, primD, prim1, prim2, lenD, intD, tupD, lstD, absD, maxD, minD, bl2, cmpD, eqOk, isNoneD, binD, addD, subD, modD, divD, negD, idxD, slcD, itrD, itemsD, sealR, enmD, zipD, rngD, parS, setS, appS, augS, augD, ownL,  List.getElem?_cons_zero, List.getElem?_cons_succ, List.getElem?_nil, List.set_cons_zero, List.set_cons_succ, List.length_cons, List.length_nil, List.replicate_succ, List.replicate_zero, List.cons_append, List.nil_append, Option.map_some, Option.map_none, Option.bind_some, Option.bind_none, Option.isSome_some, Option.isSome_none, if_true, if_false, List.contains_nil, Bool.false_eq_true, reduceCtorEq, Bool.not_true, Bool.not_false, List.nodup_nil, List.not_mem_nil, List.mem_cons, or_false, false_or, true_and, and_true, not_true_eq_false, not_false_eq_true, List.nodup_cons, Bool.true_and, Bool.and_true, List.all_nil, List.all_cons, Nat.reduceLT, Nat.reduceAdd, Nat.reduceSub, Nat.reduceLeDiff, Nat.zero_lt_succ, Nat.lt_add_one, wipeE, restore, List.map_cons, List.map_nil, Option.getD_some, Option.getD_none, Prod.mk.injEq, Option.some.injEq, implies_true, forall_const, true_or, or_true, ite_true, ite_false, forall_eq, forall_eq_or_imp, Nat.not_lt_zero, decide_true, decide_false, beq_self_eq_true, and_self, Nat.reduceEqDiff, List.getElem?_map, RL.shaped_int, RL.shaped_bool, RL.shaped_none, PyData.eqv, Int.reduceEq, Int.reduceNe, Int.reduceBEq, Int.reduceLT, Int.reduceLE, bne, false_imp_iff, true_imp_iff, Int.cast_ofNat_Int, Bool.not_eq_true, Bool.false_and, Bool.and_false, Bool.true_or, Bool.false_or, Bool.or_true, Bool.or_false, List.any_nil, List.any_cons]
end K74

namespace K74
open PySem RL
theorem nums_keys {m : Int} : ∀ {sg : List PyData}, sg.all (below m) = true → ∃ is : List Int, sg = is.map PyData.int ∧ (∀ i ∈ is, 0 ≤ i ∧ i < m) ∧ keysOf sg = some (is.map NestedKey.num)
  | [], _ => ⟨[], rfl, nofun, rfl⟩
  | d :: sg, h => by
    rw [List.all_cons, Bool.and_eq_true] at h
    obtain ⟨is, rfl, q, e⟩ := nums_keys h.2
    obtain ⟨i, rfl, hi⟩ := below_int h.1
    refine ⟨i :: is, rfl, fun j hj => ?_, by simp [keysOf, keyOf, e]⟩
    rcases List.mem_cons.mp hj with z | z
    · rw [z]; exact hi
    · exact q j z
theorem nums_flat : ∀ is : List Int, NS.noTexts (is.map NestedKey.num) = true ∧ NestedKey.depthAll (is.map NestedKey.num) ≤ 1
  | [] => ⟨rfl, by decide⟩
  | i :: is => by
    obtain ⟨a, b⟩ := nums_flat is
    refine ⟨by simp [NS.noTexts, NS.noText, a], ?_⟩
    simp only [List.map_cons, NestedKey.depthAll, NestedKey.depth]
    omega
theorem ruleOk_inv {m : Int} {d : PyData} (h : ruleOk m d = true) : ∃ a o n sg, d = .tuple [.int a, .int o, .int n, .tuple sg] ∧ (0 ≤ a ∧ a < m) ∧ (0 ≤ o ∧ o < m) ∧ (0 ≤ n ∧ n < m) ∧ o ≠ n ∧ (sg.length : Int) = m ∧ sg.all (below m) = true := by
  cases d with
  | tuple ds =>
    by_cases hl : ds.length = 4
    · obtain ⟨a, o, n, s, rfl⟩ : ∃ a o n s, ds = [a, o, n, s] := by
        rcases ds with _ | ⟨a, _ | ⟨o, _ | ⟨n, _ | ⟨s, _ | ⟨x, ds⟩⟩⟩⟩⟩ <;> simp at hl
        exact ⟨_, _, _, _, rfl⟩
      rw [ruleOk_4] at h
      simp only [Bool.and_eq_true, Bool.not_eq_true'] at h
      obtain ⟨⟨⟨⟨h1, h2⟩, h3⟩, h4⟩, h5⟩ := h
      obtain ⟨a, rfl, ha⟩ := below_int h1
      obtain ⟨o, rfl, ho⟩ := below_int h2
      obtain ⟨n, rfl, hn⟩ := below_int h3
      cases s with
      | tuple sg =>
        simp only [sigOk, Bool.and_eq_true, beq_iff_eq] at h5
        refine ⟨a, o, n, sg, rfl, ha, ho, hn, fun z => ?_, h5.1, h5.2⟩
        subst z
        simp [PyData.eqv] at h4
      | _ => simp [sigOk] at h5
    · rw [ruleOk_len hl] at h; cases h
  | _ => simp [ruleOk] at h
theorem rule_key {m : Int} {d : PyData} (h : ruleOk m d = true) : ∃ k, keyOf d = some k ∧ setKeyOk k = true := by
  obtain ⟨a, o, n, sg, rfl, _, _, _, _, _, hs⟩ := ruleOk_inv h
  obtain ⟨is, e, _, hk⟩ := nums_keys hs
  obtain ⟨f1, f2⟩ := nums_flat is
  refine ⟨.tup [.num a, .num o, .num n, .tup (is.map NestedKey.num)], by simp only [keyOf, keysOf, hk, Option.map_some, Option.bind_some], ?_⟩
  simp only [setKeyOk, isTupKey, NS.noText, NS.noTexts, f1, NestedKey.depth, NestedKey.depthAll, Bool.true_and, Bool.and_true, decide_eq_true_eq]
  refine decide_eq_true ?_
  omega
theorem rules_keys {m : Int} : ∀ {rs : List PyData}, rs.all (ruleOk m) = true → ∃ ks, keysOf rs = some ks ∧ ks.all setKeyOk = true
  | [], _ => ⟨[], rfl, rfl⟩
  | d :: rs, h => by
    rw [List.all_cons, Bool.and_eq_true] at h
    obtain ⟨k, e1, e2⟩ := rule_key h.1
    obtain ⟨ks, e3, e4⟩ := rules_keys h.2
    exact ⟨k :: ks, by simp [keysOf, e1, e3], by simp [e2, e4]⟩
open Classical in
noncomputable def bookOk : PyData → Bool
  | .tuple [.int m, .tuple rs] => decide (1 ≤ m) && decide (m ≤ 4) && decide (rs.length ≤ 12) && rs.all (ruleOk m) && decide rs.Nodup
  | _ => false
theorem rules_lset {m : Int} {rs : List PyData} (h : rs.all (ruleOk m) = true) (hl : rs.length ≤ 12) : ∃ n : Nat, lsetD (.tuple rs) = some (.p (.int n)) ∧ (((n : Int) == (rs.length : Int)) = true ↔ rs.Nodup) := by
  obtain ⟨ks, e1, e2⟩ := rules_keys h
  have hk := keysOf_len e1
  refine ⟨dcount ks, ?_, ?_⟩
  · simp only [lsetD, e1, Option.bind_some]
    rw [if_pos ⟨by omega, e2⟩]
  · rw [← dcount_nd e1, hk, beq_iff_eq]
    omega
theorem eq_is_book (d : PyData) : f3.φ [d] = .ret (.p (.bool (bookOk d))) [] := by
  have h0 : L3[0]? = some f0 := rfl
  have i0 : f0.io = [false] := rfl
  have h2 : L3[2]? = some f2 := rfl
  have i2 : f2.io = [false, false] := rfl
  cases d with
  | tuple ds =>
    by_cases hl : ds.length = 2
    · obtain ⟨mm, rr, rfl⟩ : ∃ a o, ds = [a, o] := by
        rcases ds with _ | ⟨a, _ | ⟨o, _ | ⟨n, ds⟩⟩⟩ <;> simp at hl
        exact ⟨_, _, rfl⟩
      cases mm with
      | int m =>
        cases hm1 : decide (m < 1) with
        | true =>
          have e : bookOk (.tuple [.int m, rr]) = false := by
            have : ¬ (1 ≤ m) := by have := of_decide_eq_true hm1; omega
            cases rr <;> simp [bookOk, this]
          simp only [f3, io3, s3, h0, i0, eq_is_integer, isInt, hm1, e, runF, cellsOf, denS, den, R.st, R.b1, R.bA, R.tst, R.eo, R.part, P.isNil, tstS, dctD, op1, op2, opN, vals, give, T.val, Cell.val, Cell.own, boolOf, intOf, isaD, PyData.isInt, PyData.isBool, PyData.isTuple, PyData.isList, PyData.isStr, PyData.isDict,  RL.finish, retF, iosAt, outT, ioSlots, ioFrom, storeS, T.seal, sealAll, Tg.bind, callX, tmpIx, T.notF, R.cut, List.take_succ_cons, List.take_zero, List.take_nil, callR, argsOf, putIos, T.flat, flatO, flats, RL.flat, primD, prim1, prim2, lenD, intD, tupD, lstD, absD, maxD, minD, bl2, cmpD, eqOk, isNoneD, binD, addD, subD, modD, divD, negD, idxD, slcD, itrD, itemsD, sealR, enmD, zipD, rngD, parS, setS, appS, augS, augD, ownL,  List.getElem?_cons_zero, List.getElem?_cons_succ, List.getElem?_nil, List.set_cons_zero, List.set_cons_succ, List.length_cons, List.length_nil, List.replicate_succ, List.replicate_zero, List.cons_append, List.nil_append, Option.map_some, Option.map_none, Option.bind_some, Option.bind_none, Option.isSome_some, Option.isSome_none, if_true, if_false, List.contains_nil, Bool.false_eq_true, reduceCtorEq, Bool.not_true, Bool.not_false, List.nodup_nil, List.not_mem_nil, List.mem_cons, or_false, false_or, true_and, and_true, not_true_eq_false, not_false_eq_true, List.nodup_cons, Bool.true_and, Bool.and_true, List.all_nil, List.all_cons, Nat.reduceLT, Nat.reduceAdd, Nat.reduceSub, Nat.reduceLeDiff, Nat.zero_lt_succ, Nat.lt_add_one, wipeE, restore, List.map_cons, List.map_nil, Option.getD_some, Option.getD_none, Prod.mk.injEq, Option.some.injEq, implies_true, forall_const, true_or, or_true, ite_true, ite_false, forall_eq, forall_eq_or_imp, Nat.not_lt_zero, decide_true, decide_false, beq_self_eq_true, and_self, Nat.reduceEqDiff, List.getElem?_map, RL.shaped_int, RL.shaped_bool, RL.shaped_none, PyData.eqv, Int.reduceEq, Int.reduceNe, Int.reduceBEq, Int.reduceLT, Int.reduceLE, bne, false_imp_iff, true_imp_iff, Int.cast_ofNat_Int, Bool.not_eq_true, Bool.false_and, Bool.and_false, Bool.true_or, Bool.false_or, Bool.or_true, Bool.or_false, List.any_nil, List.any_cons]
        | false =>
          cases hm4 : decide (4 < m) with
          | true =>
            have e : bookOk (.tuple [.int m, rr]) = false := by
              have : ¬ (m ≤ 4) := by have := of_decide_eq_true hm4; omega
              cases rr <;> simp [bookOk, this]
            simp only [f3, io3, s3, h0, i0, eq_is_integer, isInt, hm1, hm4, e, runF, cellsOf, denS, den, R.st, R.b1, R.bA, R.tst, R.eo, R.part, P.isNil, tstS, dctD, op1, op2, opN, vals, give, T.val, Cell.val, Cell.own, boolOf, intOf, isaD, PyData.isInt, PyData.isBool, PyData.isTuple, PyData.isList, PyData.isStr, PyData.isDict,  RL.finish, retF, iosAt, outT, ioSlots, ioFrom, storeS, T.seal, sealAll, Tg.bind, callX, tmpIx, T.notF, R.cut, List.take_succ_cons, List.take_zero, List.take_nil, callR, argsOf, putIos, T.flat, flatO, flats, RL.flat, primD, prim1, prim2, lenD, intD, tupD, lstD, absD, maxD, minD, bl2, cmpD, eqOk, isNoneD, binD, addD, subD, modD, divD, negD, idxD, slcD, itrD, itemsD, sealR, enmD, zipD, rngD, parS, setS, appS, augS, augD, ownL,  List.getElem?_cons_zero, List.getElem?_cons_succ, List.getElem?_nil, List.set_cons_zero, List.set_cons_succ, List.length_cons, List.length_nil, List.replicate_succ, List.replicate_zero, List.cons_append, List.nil_append, Option.map_some, Option.map_none, Option.bind_some, Option.bind_none, Option.isSome_some, Option.isSome_none, if_true, if_false, List.contains_nil, Bool.false_eq_true, reduceCtorEq, Bool.not_true, Bool.not_false, List.nodup_nil, List.not_mem_nil, List.mem_cons, or_false, false_or, true_and, and_true, not_true_eq_false, not_false_eq_true, List.nodup_cons, Bool.true_and, Bool.and_true, List.all_nil, List.all_cons, Nat.reduceLT, Nat.reduceAdd, Nat.reduceSub, Nat.reduceLeDiff, Nat.zero_lt_succ, Nat.lt_add_one, wipeE, restore, List.map_cons, List.map_nil, Option.getD_some, Option.getD_none, Prod.mk.injEq, Option.some.injEq, implies_true, forall_const, true_or, or_true, ite_true, ite_false, forall_eq, forall_eq_or_imp, Nat.not_lt_zero, decide_true, decide_false, beq_self_eq_true, and_self, Nat.reduceEqDiff, List.getElem?_map, RL.shaped_int, RL.shaped_bool, RL.shaped_none, PyData.eqv, Int.reduceEq, Int.reduceNe, Int.reduceBEq, Int.reduceLT, Int.reduceLE, bne, false_imp_iff, true_imp_iff, Int.cast_ofNat_Int, Bool.not_eq_true, Bool.false_and, Bool.and_false, Bool.true_or, Bool.false_or, Bool.or_true, Bool.or_false, List.any_nil, List.any_cons]
          | false =>
            have hm1' : 1 ≤ m := by have := of_decide_eq_false hm1; omega
            have hm4' : m ≤ 4 := by have := of_decide_eq_false hm4; omega
            cases rr with
            | tuple rs =>
              cases hlen : decide ((12 : Int) < (rs.length : Int)) with
              | true =>
                have e : bookOk (.tuple [.int m, .tuple rs]) = false := by
                  have : ¬ (rs.length ≤ 12) := by have := of_decide_eq_true hlen; omega
                  simp [bookOk, this]
                simp only [f3, io3, s3, h0, i0, eq_is_integer, isInt, hm1, hm4, hlen, e, runF, cellsOf, denS, den, R.st, R.b1, R.bA, R.tst, R.eo, R.part, P.isNil, tstS, dctD, op1, op2, opN, vals, give, T.val, Cell.val, Cell.own, boolOf, intOf, isaD, PyData.isInt, PyData.isBool, PyData.isTuple, PyData.isList, PyData.isStr, PyData.isDict,  RL.finish, retF, iosAt, outT, ioSlots, ioFrom, storeS, T.seal, sealAll, Tg.bind, callX, tmpIx, T.notF, R.cut, List.take_succ_cons, List.take_zero, List.take_nil, callR, argsOf, putIos, T.flat, flatO, flats, RL.flat, primD, prim1, prim2, lenD, intD, tupD, lstD, absD, maxD, minD, bl2, cmpD, eqOk, isNoneD, binD, addD, subD, modD, divD, negD, idxD, slcD, itrD, itemsD, sealR, enmD, zipD, rngD, parS, setS, appS, augS, augD, ownL,  List.getElem?_cons_zero, List.getElem?_cons_succ, List.getElem?_nil, List.set_cons_zero, List.set_cons_succ, List.length_cons, List.length_nil, List.replicate_succ, List.replicate_zero, List.cons_append, List.nil_append, Option.map_some, Option.map_none, Option.bind_some, Option.bind_none, Option.isSome_some, Option.isSome_none, if_true, if_false, List.contains_nil, Bool.false_eq_true, reduceCtorEq, Bool.not_true, Bool.not_false, List.nodup_nil, List.not_mem_nil, List.mem_cons, or_false, false_or, true_and, and_true, not_true_eq_false, not_false_eq_true, List.nodup_cons, Bool.true_and, Bool.and_true, List.all_nil, List.all_cons, Nat.reduceLT, Nat.reduceAdd, Nat.reduceSub, Nat.reduceLeDiff, Nat.zero_lt_succ, Nat.lt_add_one, wipeE, restore, List.map_cons, List.map_nil, Option.getD_some, Option.getD_none, Prod.mk.injEq, Option.some.injEq, implies_true, forall_const, true_or, or_true, ite_true, ite_false, forall_eq, forall_eq_or_imp, Nat.not_lt_zero, decide_true, decide_false, beq_self_eq_true, and_self, Nat.reduceEqDiff, List.getElem?_map, RL.shaped_int, RL.shaped_bool, RL.shaped_none, PyData.eqv, Int.reduceEq, Int.reduceNe, Int.reduceBEq, Int.reduceLT, Int.reduceLE, bne, false_imp_iff, true_imp_iff, Int.cast_ofNat_Int, Bool.not_eq_true, Bool.false_and, Bool.and_false, Bool.true_or, Bool.false_or, Bool.or_true, Bool.or_false, List.any_nil, List.any_cons]
              | false =>
                have hlen' : rs.length ≤ 12 := by have := of_decide_eq_false hlen; omega
                have hg := gen_map (t := .nm 3) (c := den (fun j => L3[j]?) (.cst (.bool true))) (b := den (fun j => L3[j]?) (.call 2 (.cons (.var 1) (.cons (.var 3) .nil)))) (ws := [3])
                    (ρ := [.pu (.tuple [.int m, .tuple rs]), .pu (.int m), .pu (.tuple rs), .un]) (fun d => .bool (ruleOk m d)) rs (fun d _ => ⟨_, _, _, _, rfl, rfl, by simp only [h2, i2, eq_is_rule m (by omega), runF, cellsOf, denS, den, R.st, R.b1, R.bA, R.tst, R.eo, R.part, P.isNil, tstS, dctD, op1, op2, opN, vals, give, T.val, Cell.val, Cell.own, boolOf, intOf, isaD, PyData.isInt, PyData.isBool, PyData.isTuple, PyData.isList, PyData.isStr, PyData.isDict,  RL.finish, retF, iosAt, outT, ioSlots, ioFrom, storeS, T.seal, sealAll, Tg.bind, callX, tmpIx, T.notF, R.cut, List.take_succ_cons, List.take_zero, List.take_nil, callR, argsOf, putIos, T.flat, flatO, flats, RL.flat, primD, prim1, prim2, lenD, intD, tupD, lstD, absD, maxD, minD, bl2, cmpD, eqOk, isNoneD, binD, addD, subD, modD, divD, negD, idxD, slcD, itrD, itemsD, sealR, enmD, zipD, rngD, parS, setS, appS, augS, augD, ownL,  List.getElem?_cons_zero, List.getElem?_cons_succ, List.getElem?_nil, List.set_cons_zero, List.set_cons_succ, List.length_cons, List.length_nil, List.replicate_succ, List.replicate_zero, List.cons_append, List.nil_append, Option.map_some, Option.map_none, Option.bind_some, Option.bind_none, Option.isSome_some, Option.isSome_none, if_true, if_false, List.contains_nil, Bool.false_eq_true, reduceCtorEq, Bool.not_true, Bool.not_false, List.nodup_nil, List.not_mem_nil, List.mem_cons, or_false, false_or, true_and, and_true, not_true_eq_false, not_false_eq_true, List.nodup_cons, Bool.true_and, Bool.and_true, List.all_nil, List.all_cons, Nat.reduceLT, Nat.reduceAdd, Nat.reduceSub, Nat.reduceLeDiff, Nat.zero_lt_succ, Nat.lt_add_one, wipeE, restore, List.map_cons, List.map_nil, Option.getD_some, Option.getD_none, Prod.mk.injEq, Option.some.injEq, implies_true, forall_const, true_or, or_true, ite_true, ite_false, forall_eq, forall_eq_or_imp, Nat.not_lt_zero, decide_true, decide_false, beq_self_eq_true, and_self, Nat.reduceEqDiff, List.getElem?_map, RL.shaped_int, RL.shaped_bool, RL.shaped_none, PyData.eqv, Int.reduceEq, Int.reduceNe, Int.reduceBEq, Int.reduceLT, Int.reduceLE, bne, false_imp_iff, true_imp_iff, Int.cast_ofNat_Int, Bool.not_eq_true, Bool.false_and, Bool.and_false, Bool.true_or, Bool.false_or, Bool.or_true, Bool.or_false, List.any_nil, List.any_cons]; rfl, rfl, rfl⟩)
                simp only [h2, i2, eq_is_rule m (show m ≤ 16777216 by omega), runF, cellsOf, denS, den, R.st, R.b1, R.bA, R.tst, R.eo, R.part, P.isNil, tstS, dctD, op1, op2, opN, vals, give, T.val, Cell.val, Cell.own, boolOf, intOf, isaD, PyData.isInt, PyData.isBool, PyData.isTuple, PyData.isList, PyData.isStr, PyData.isDict,  RL.finish, retF, iosAt, outT, ioSlots, ioFrom, storeS, T.seal, sealAll, Tg.bind, callX, tmpIx, T.notF, R.cut, List.take_succ_cons, List.take_zero, List.take_nil, callR, argsOf, putIos, T.flat, flatO, flats, RL.flat, primD, prim1, prim2, lenD, intD, tupD, lstD, absD, maxD, minD, bl2, cmpD, eqOk, isNoneD, binD, addD, subD, modD, divD, negD, idxD, slcD, itrD, itemsD, sealR, enmD, zipD, rngD, parS, setS, appS, augS, augD, ownL,  List.getElem?_cons_zero, List.getElem?_cons_succ, List.getElem?_nil, List.set_cons_zero, List.set_cons_succ, List.length_cons, List.length_nil, List.replicate_succ, List.replicate_zero, List.cons_append, List.nil_append, Option.map_some, Option.map_none, Option.bind_some, Option.bind_none, Option.isSome_some, Option.isSome_none, if_true, if_false, List.contains_nil, Bool.false_eq_true, reduceCtorEq, Bool.not_true, Bool.not_false, List.nodup_nil, List.not_mem_nil, List.mem_cons, or_false, false_or, true_and, and_true, not_true_eq_false, not_false_eq_true, List.nodup_cons, Bool.true_and, Bool.and_true, List.all_nil, List.all_cons, Nat.reduceLT, Nat.reduceAdd, Nat.reduceSub, Nat.reduceLeDiff, Nat.zero_lt_succ, Nat.lt_add_one, wipeE, restore, List.map_cons, List.map_nil, Option.getD_some, Option.getD_none, Prod.mk.injEq, Option.some.injEq, implies_true, forall_const, true_or, or_true, ite_true, ite_false, forall_eq, forall_eq_or_imp, Nat.not_lt_zero, decide_true, decide_false, beq_self_eq_true, and_self, Nat.reduceEqDiff, List.getElem?_map, RL.shaped_int, RL.shaped_bool, RL.shaped_none, PyData.eqv, Int.reduceEq, Int.reduceNe, Int.reduceBEq, Int.reduceLT, Int.reduceLE, bne, false_imp_iff, true_imp_iff, Int.cast_ofNat_Int, Bool.not_eq_true, Bool.false_and, Bool.and_false, Bool.true_or, Bool.false_or, Bool.or_true, Bool.or_false, List.any_nil, List.any_cons] at hg
                have hz : rs.length ≤ 16777216 := by omega
                cases hall : rs.all (ruleOk m) with
                | false =>
                  have e : bookOk (.tuple [.int m, .tuple rs]) = false := by simp [bookOk, hall]
                  simp only [f3, io3, s3, h0, i0, h2, i2, eq_is_rule m (show m ≤ 16777216 by omega), eq_is_integer, isInt, hm1, hm4, hlen, hg, hz, all_of, hall, e, runF, cellsOf, denS, den, R.st, R.b1, R.bA, R.tst, R.eo, R.part, P.isNil, tstS, dctD, op1, op2, opN, vals, give, T.val, Cell.val, Cell.own, boolOf, intOf, isaD, PyData.isInt, PyData.isBool, PyData.isTuple, PyData.isList, PyData.isStr, PyData.isDict,  RL.finish, retF, iosAt, outT, ioSlots, ioFrom, storeS, T.seal, sealAll, Tg.bind, callX, tmpIx, T.notF, R.cut, List.take_succ_cons, List.take_zero, List.take_nil, callR, argsOf, putIos, T.flat, flatO, flats, RL.flat, primD, prim1, prim2, lenD, intD, tupD, lstD, absD, maxD, minD, bl2, cmpD, eqOk, isNoneD, binD, addD, subD, modD, divD, negD, idxD, slcD, itrD, itemsD, sealR, enmD, zipD, rngD, parS, setS, appS, augS, augD, ownL,  List.getElem?_cons_zero, List.getElem?_cons_succ, List.getElem?_nil, List.set_cons_zero, List.set_cons_succ, List.length_cons, List.length_nil, List.replicate_succ, List.replicate_zero, List.cons_append, List.nil_append, Option.map_some, Option.map_none, Option.bind_some, Option.bind_none, Option.isSome_some, Option.isSome_none, if_true, if_false, List.contains_nil, Bool.false_eq_true, reduceCtorEq, Bool.not_true, Bool.not_false, List.nodup_nil, List.not_mem_nil, List.mem_cons, or_false, false_or, true_and, and_true, not_true_eq_false, not_false_eq_true, List.nodup_cons, Bool.true_and, Bool.and_true, List.all_nil, List.all_cons, Nat.reduceLT, Nat.reduceAdd, Nat.reduceSub, Nat.reduceLeDiff, Nat.zero_lt_succ, Nat.lt_add_one, wipeE, restore, List.map_cons, List.map_nil, Option.getD_some, Option.getD_none, Prod.mk.injEq, Option.some.injEq, implies_true, forall_const, true_or, or_true, ite_true, ite_false, forall_eq, forall_eq_or_imp, Nat.not_lt_zero, decide_true, decide_false, beq_self_eq_true, and_self, Nat.reduceEqDiff, List.getElem?_map, RL.shaped_int, RL.shaped_bool, RL.shaped_none, PyData.eqv, Int.reduceEq, Int.reduceNe, Int.reduceBEq, Int.reduceLT, Int.reduceLE, bne, false_imp_iff, true_imp_iff, Int.cast_ofNat_Int, Bool.not_eq_true, Bool.false_and, Bool.and_false, Bool.true_or, Bool.false_or, Bool.or_true, Bool.or_false, List.any_nil, List.any_cons]
                | true =>
                  obtain ⟨n, hn1, hn2⟩ := rules_lset hall hlen'
                  have e : bookOk (.tuple [.int m, .tuple rs]) = ((n : Int) == (rs.length : Int)) := by
                    rw [Bool.eq_iff_iff, hn2]
                    simp [bookOk, hall, hm1', hm4', hlen']
                  simp only [f3, io3, s3, h0, i0, h2, i2, eq_is_rule m (show m ≤ 16777216 by omega), eq_is_integer, isInt, hm1, hm4, hlen, hg, hz, all_of, hall, hn1, e, runF, cellsOf, denS, den, R.st, R.b1, R.bA, R.tst, R.eo, R.part, P.isNil, tstS, dctD, op1, op2, opN, vals, give, T.val, Cell.val, Cell.own, boolOf, intOf, isaD, PyData.isInt, PyData.isBool, PyData.isTuple, PyData.isList, PyData.isStr, PyData.isDict,  RL.finish, retF, iosAt, outT, ioSlots, ioFrom, storeS, T.seal, sealAll, Tg.bind, callX, tmpIx, T.notF, R.cut, List.take_succ_cons, List.take_zero, List.take_nil, callR, argsOf, putIos, T.flat, flatO, flats, RL.flat, primD, prim1, prim2, lenD, intD, tupD, lstD, absD, maxD, minD, bl2, cmpD, eqOk, isNoneD, binD, addD, subD, modD, divD, negD, idxD, slcD, itrD, itemsD, sealR, enmD, zipD, rngD, parS, setS, appS, augS, augD, ownL,  List.getElem?_cons_zero, List.getElem?_cons_succ, List.getElem?_nil, List.set_cons_zero, List.set_cons_succ, List.length_cons, List.length_nil, List.replicate_succ, List.replicate_zero, List.cons_append, List.nil_append, Option.map_some, Option.map_none, Option.bind_some, Option.bind_none, Option.isSome_some, Option.isSome_none, if_true, if_false, List.contains_nil, Bool.false_eq_true, reduceCtorEq, Bool.not_true, Bool.not_false, List.nodup_nil, List.not_mem_nil, List.mem_cons, or_false, false_or, true_and, and_true, not_true_eq_false, not_false_eq_true, List.nodup_cons, Bool.true_and, Bool.and_true, List.all_nil, List.all_cons, Nat.reduceLT, Nat.reduceAdd, Nat.reduceSub, Nat.reduceLeDiff, Nat.zero_lt_succ, Nat.lt_add_one, wipeE, restore, List.map_cons, List.map_nil, Option.getD_some, Option.getD_none, Prod.mk.injEq, Option.some.injEq, implies_true, forall_const, true_or, or_true, ite_true, ite_false, forall_eq, forall_eq_or_imp, Nat.not_lt_zero, decide_true, decide_false, beq_self_eq_true, and_self, Nat.reduceEqDiff, List.getElem?_map, RL.shaped_int, RL.shaped_bool, RL.shaped_none, PyData.eqv, Int.reduceEq, Int.reduceNe, Int.reduceBEq, Int.reduceLT, Int.reduceLE, bne, false_imp_iff, true_imp_iff, Int.cast_ofNat_Int, Bool.not_eq_true, Bool.false_and, Bool.and_false, Bool.true_or, Bool.false_or, Bool.or_true, Bool.or_false, List.any_nil, List.any_cons]
            | _ => simp only [f3, io3, s3, h0, i0, eq_is_integer, isInt, hm1, hm4, bookOk, runF, cellsOf, denS, den, R.st, R.b1, R.bA, R.tst, R.eo, R.part, P.isNil, tstS, dctD, op1, op2, opN, vals, give, T.val, Cell.val, Cell.own, boolOf, intOf, isaD, PyData.isInt, PyData.isBool, PyData.isTuple, PyData.isList, PyData.isStr, PyData.isDict,  RL.finish, retF, iosAt, outT, ioSlots, ioFrom, storeS, T.seal, sealAll, Tg.bind, callX, tmpIx, T.notF, R.cut, List.take_succ_cons, List.take_zero, List.take_nil, callR, argsOf, putIos, T.flat, flatO, flats, RL.flat, primD, prim1, prim2, lenD, intD, tupD, lstD, absD, maxD, minD, bl2, cmpD, eqOk, isNoneD, binD, addD, subD, modD, divD, negD, idxD, slcD, itrD, itemsD, sealR, enmD, zipD, rngD, parS, setS, appS, augS, augD, ownL,  List.getElem?_cons_zero, List.getElem?_cons_succ, List.getElem?_nil, List.set_cons_zero, List.set_cons_succ, List.length_cons, List.length_nil, List.replicate_succ, List.replicate_zero, List.cons_append, List.nil_append, Option.map_some, Option.map_none, Option.bind_some, Option.bind_none, Option.isSome_some, Option.isSome_none, if_true, if_false, List.contains_nil, Bool.false_eq_true, reduceCtorEq, Bool.not_true, Bool.not_false, List.nodup_nil, List.not_mem_nil, List.mem_cons, or_false, false_or, true_and, and_true, not_true_eq_false, not_false_eq_true, List.nodup_cons, Bool.true_and, Bool.and_true, List.all_nil, List.all_cons, Nat.reduceLT, Nat.reduceAdd, Nat.reduceSub, Nat.reduceLeDiff, Nat.zero_lt_succ, Nat.lt_add_one, wipeE, restore, List.map_cons, List.map_nil, Option.getD_some, Option.getD_none, Prod.mk.injEq, Option.some.injEq, implies_true, forall_const, true_or, or_true, ite_true, ite_false, forall_eq, forall_eq_or_imp, Nat.not_lt_zero, decide_true, decide_false, beq_self_eq_true, and_self, Nat.reduceEqDiff, List.getElem?_map, RL.shaped_int, RL.shaped_bool, RL.shaped_none, PyData.eqv, Int.reduceEq, Int.reduceNe, Int.reduceBEq, Int.reduceLT, Int.reduceLE, bne, false_imp_iff, true_imp_iff, Int.cast_ofNat_Int, Bool.not_eq_true, Bool.false_and, Bool.and_false, Bool.true_or, Bool.false_or, Bool.or_true, Bool.or_false, List.any_nil, List.any_cons]
      | _ => simp only [f3, io3, s3, h0, i0, eq_is_integer, isInt, bookOk, runF, cellsOf, denS, den, R.st, R.b1, R.bA, R.tst, R.eo, R.part, P.isNil, tstS, dctD, op1, op2, opN, vals, give, T.val, Cell.val, Cell.own, boolOf, intOf, isaD, PyData.isInt, PyData.isBool, PyData.isTuple, PyData.isList, PyData.isStr, PyData.isDict,  RL.finish, retF, iosAt, outT, ioSlots, ioFrom, storeS, T.seal, sealAll, Tg.bind, callX, tmpIx, T.notF, R.cut, List.take_succ_cons, List.take_zero, List.take_nil, callR, argsOf, putIos, T.flat, flatO, flats, RL.flat, primD, prim1, prim2, lenD, intD, tupD, lstD, absD, maxD, minD, bl2, cmpD, eqOk, isNoneD, binD, addD, subD, modD, divD, negD, idxD, slcD, itrD, itemsD, sealR, enmD, zipD, rngD, parS, setS, appS, augS, augD, ownL,  List.getElem?_cons_zero, List.getElem?_cons_succ, List.getElem?_nil, List.set_cons_zero, List.set_cons_succ, List.length_cons, List.length_nil, List.replicate_succ, List.replicate_zero, List.cons_append, List.nil_append, Option.map_some, Option.map_none, Option.bind_some, Option.bind_none, Option.isSome_some, Option.isSome_none, if_true, if_false, List.contains_nil, Bool.false_eq_true, reduceCtorEq, Bool.not_true, Bool.not_false, List.nodup_nil, List.not_mem_nil, List.mem_cons, or_false, false_or, true_and, and_true, not_true_eq_false, not_false_eq_true, List.nodup_cons, Bool.true_and, Bool.and_true, List.all_nil, List.all_cons, Nat.reduceLT, Nat.reduceAdd, Nat.reduceSub, Nat.reduceLeDiff, Nat.zero_lt_succ, Nat.lt_add_one, wipeE, restore, List.map_cons, List.map_nil, Option.getD_some, Option.getD_none, Prod.mk.injEq, Option.some.injEq, implies_true, forall_const, true_or, or_true, ite_true, ite_false, forall_eq, forall_eq_or_imp, Nat.not_lt_zero, decide_true, decide_false, beq_self_eq_true, and_self, Nat.reduceEqDiff, List.getElem?_map, RL.shaped_int, RL.shaped_bool, RL.shaped_none, PyData.eqv, Int.reduceEq, Int.reduceNe, Int.reduceBEq, Int.reduceLT, Int.reduceLE, bne, false_imp_iff, true_imp_iff, Int.cast_ofNat_Int, Bool.not_eq_true, Bool.false_and, Bool.and_false, Bool.true_or, Bool.false_or, Bool.or_true, Bool.or_false, List.any_nil, List.any_cons]
    · have h4 : ((ds.length : Int) == 2) = false := by simp; omega
      have e : bookOk (.tuple ds) = false := by
        rcases ds with _ | ⟨a, _ | ⟨o, _ | ⟨n, ds⟩⟩⟩
        · rfl
        · cases a <;> rfl
        · simp at hl
        · cases a <;> cases o <;> rfl
      simp only [f3, io3, s3, h0, i0, h4, e, runF, cellsOf, denS, den, R.st, R.b1, R.bA, R.tst, R.eo, R.part, P.isNil, tstS, dctD, op1, op2, opN, vals, give, T.val, Cell.val, Cell.own, boolOf, intOf, isaD, PyData.isInt, PyData.isBool, PyData.isTuple, PyData.isList, PyData.isStr, PyData.isDict,  RL.finish, retF, iosAt, outT, ioSlots, ioFrom, storeS, T.seal, sealAll, Tg.bind, callX, tmpIx, T.notF, R.cut, List.take_succ_cons, List.take_zero, List.take_nil, callR, argsOf, putIos, T.flat, flatO, flats, RL.flat, primD, prim1, prim2, lenD, intD, tupD, lstD, absD, maxD, minD, bl2, cmpD, eqOk, isNoneD, binD, addD, subD, modD, divD, negD, idxD, slcD, itrD, itemsD, sealR, enmD, zipD, rngD, parS, setS, appS, augS, augD, ownL,  List.getElem?_cons_zero, List.getElem?_cons_succ, List.getElem?_nil, List.set_cons_zero, List.set_cons_succ, List.length_cons, List.length_nil, List.replicate_succ, List.replicate_zero, List.cons_append, List.nil_append, Option.map_some, Option.map_none, Option.bind_some, Option.bind_none, Option.isSome_some, Option.isSome_none, if_true, if_false, List.contains_nil, Bool.false_eq_true, reduceCtorEq, Bool.not_true, Bool.not_false, List.nodup_nil, List.not_mem_nil, List.mem_cons, or_false, false_or, true_and, and_true, not_true_eq_false, not_false_eq_true, List.nodup_cons, Bool.true_and, Bool.and_true, List.all_nil, List.all_cons, Nat.reduceLT, Nat.reduceAdd, Nat.reduceSub, Nat.reduceLeDiff, Nat.zero_lt_succ, Nat.lt_add_one, wipeE, restore, List.map_cons, List.map_nil, Option.getD_some, Option.getD_none, Prod.mk.injEq, Option.some.injEq, implies_true, forall_const, true_or, or_true, ite_true, ite_false, forall_eq, forall_eq_or_imp, Nat.not_lt_zero, decide_true, decide_false, beq_self_eq_true, and_self, Nat.reduceEqDiff, List.getElem?_map, RL.shaped_int, RL.shaped_bool, RL.shaped_none, PyData.eqv, Int.reduceEq, Int.reduceNe, Int.reduceBEq, Int.reduceLT, Int.reduceLE, bne, false_imp_iff, true_imp_iff, Int.cast_ofNat_Int, Bool.not_eq_true, Bool.false_and, Bool.and_false, Bool.true_or, Bool.false_or, Bool.or_true, Bool.or_false, List.any_nil, List.any_cons]
  | _ => simp only [f3, io3, s3, h0, i0, eq_is_integer, bookOk, runF, cellsOf, denS, den, R.st, R.b1, R.bA, R.tst, R.eo, R.part, P.isNil, tstS, dctD, op1, op2, opN, vals, give, T.val, Cell.val, Cell.own, boolOf, intOf, isaD, PyData.isInt, PyData.isBool, PyData.isTuple, PyData.isList, PyData.isStr, PyData.isDict,  RL.finish, retF, iosAt, outT, ioSlots, ioFrom, storeS, T.seal, sealAll, Tg.bind, callX, tmpIx, T.notF, R.cut, List.take_succ_cons, List.take_zero, List.take_nil, callR, argsOf, putIos, T.flat, flatO, flats, RL.flat, primD, prim1, prim2, lenD, intD, tupD, lstD, absD, maxD, minD, bl2, cmpD, eqOk, isNoneD, binD, addD, subD, modD, divD, negD, idxD, slcD, itrD, itemsD, sealR, enmD, zipD, rngD, parS, setS, appS, augS, augD, ownL,  List.getElem?_cons_zero, List.getElem?_cons_succ, List.getElem?_nil, List.set_cons_zero, List.set_cons_succ, List.length_cons, List.length_nil, List.replicate_succ, List.replicate_zero, List.cons_append, List.nil_append, Option.map_some, Option.map_none, Option.bind_some, Option.bind_none, Option.isSome_some, Option.isSome_none, if_true, if_false, List.contains_nil, Bool.false_eq_true, reduceCtorEq, Bool.not_true, Bool.not_false, List.nodup_nil, List.not_mem_nil, List.mem_cons, or_false, false_or, true_and, and_true, not_true_eq_false, not_false_eq_true, List.nodup_cons, Bool.true_and, Bool.and_true, List.all_nil, List.all_cons, Nat.reduceLT, Nat.reduceAdd, Nat.reduceSub, Nat.reduceLeDiff, Nat.zero_lt_succ, Nat.lt_add_one, wipeE, restore, List.map_cons, List.map_nil, Option.getD_some, Option.getD_none, Prod.mk.injEq, Option.some.injEq, implies_true, forall_const, true_or, or_true, ite_true, ite_false, forall_eq, forall_eq_or_imp, Nat.not_lt_zero, decide_true, decide_false, beq_self_eq_true, and_self, Nat.reduceEqDiff, List.getElem?_map, RL.shaped_int, RL.shaped_bool, RL.shaped_none, PyData.eqv, Int.reduceEq, Int.reduceNe, Int.reduceBEq, Int.reduceLT, Int.reduceLE, bne, false_imp_iff, true_imp_iff, Int.cast_ofNat_Int, Bool.not_eq_true, Bool.false_and, Bool.and_false, Bool.true_or, Bool.false_or, Bool.or_true, Bool.or_false, List.any_nil, List.any_cons]
end K74

namespace K74
open PySem RL
theorem mul_r {i j : Int} (h1 : -(2 ^ 64) < j) (h2 : j < 2 ^ 64) : mulD (.int i) (.int j) = some (.p (.int (i * j))) := by
  have : mulOk i j = true := by simp only [mulOk, h1, h2, and_self, decide_true, Bool.or_true, Bool.true_or]
  simp only [mulD, this, if_true]
theorem mul_l {i j : Int} (h1 : -(2 ^ 64) < i) (h2 : i < 2 ^ 64) : mulD (.int i) (.int j) = some (.p (.int (i * j))) := by
  have : mulOk i j = true := by simp only [mulOk, h1, h2, and_self, decide_true, Bool.or_true, Bool.true_or]
  simp only [mulD, this, if_true]
theorem small_log {m : Int} (h0 : 0 < m) (h1 : m ≤ 16777216) : m.natAbs.log2 < 9000 := by
  have h : m.natAbs ≤ 16777216 := by omega
  have : m.natAbs.log2 ≤ 24 := by
    by_cases z : m.natAbs = 0
    · rw [z]; decide
    · have := (Nat.log2_lt z (k := 25)).mpr (by omega)
      omega
  omega
theorem mod_in (x : Int) {m : Int} (h0 : 0 < m) : 0 ≤ x % m ∧ x % m < m := ⟨Int.emod_nonneg _ (by omega), Int.emod_lt_of_pos _ h0⟩
theorem below_mod (x : Int) {m : Int} (h0 : 0 < m) : below m (.int (x % m)) = true := by
  obtain ⟨a, b⟩ := mod_in x h0
  simp [below, a, b]
theorem rng_in {m : Int} (h0 : 0 ≤ m) (h1 : m ≤ 16777216) : (-(2 ^ 62 : Int) ≤ m) = True ∧ (m ≤ 2 ^ 24) = True := by
  have : (2 : Int) ^ 24 = 16777216 := by decide
  have : (2 : Int) ^ 62 = 4611686018427387904 := by decide
  exact ⟨eq_true (by omega), eq_true (by omega)⟩
theorem rng_len {m : Int} (h0 : 0 ≤ m) : ((rangeD 0 m).length : Int) = m := by
  rw [rangeD_len]; omega
theorem range_at {a b : Int} {i : Nat} {d : PyData} (h : (rangeD a b)[i]? = some d) : (i : Int) < b - a ∧ d = .int (a + (i : Int)) := by
  have hi := (List.getElem?_eq_some_iff.mp h).1
  simp only [rangeD, List.length_map, List.length_range] at hi
  simp only [rangeD, List.getElem?_map, List.getElem?_range hi, Option.map_some, Option.some.injEq] at h
  exact ⟨by omega, h.symm⟩
theorem cut_to {ds : List PyData} {z : Int} {n : Nat} (hz : z = n) (hn : n ≤ ds.length) : slcD (.tuple ds) none (some z) = some (.p (.tuple (ds.take n))) := by
  subst hz
  simp only [slcD, cutD]
  rw [HT.sIx_nat, HT.sIx_none, Nat.min_eq_left hn]
  simp
theorem cut_from {ds : List PyData} {z : Int} {n : Nat} (hz : z = n) (hn : n ≤ ds.length) : slcD (.tuple ds) (some z) none = some (.p (.tuple (ds.drop n))) := by
  subst hz
  simp only [slcD, cutD]
  rw [HT.sIx_nat, HT.sIx_none, Nat.min_eq_left hn, List.take_of_length_le (by simp)]
theorem cut_any {ds : List PyData} {z : Int} {n : Nat} (hz : z = n) : slcD (.tuple ds) (some z) none = some (.p (.tuple (ds.drop n))) := by
  subst hz
  simp only [slcD, cutD]
  rw [HT.sIx_nat, HT.sIx_none, List.take_of_length_le (by simp)]
  by_cases h : n ≤ ds.length
  · rw [Nat.min_eq_left h]
  · rw [Nat.min_eq_right (by omega), List.drop_of_length_le (Nat.le_refl _), List.drop_of_length_le (by omega)]
theorem cut_toAny {ds : List PyData} {z : Int} {n : Nat} (hz : z = n) : slcD (.tuple ds) none (some z) = some (.p (.tuple (ds.take n))) := by
  subst hz
  simp only [slcD, cutD]
  rw [HT.sIx_nat, HT.sIx_none]
  by_cases h : n ≤ ds.length
  · rw [Nat.min_eq_left h]; simp
  · rw [Nat.min_eq_right (by omega), List.take_of_length_le (i := n) (by omega)]; simp
theorem add_tup {xs ys : List PyData} (h : xs.length + ys.length ≤ 16777216) : addD (.tuple xs) (.tuple ys) = some (.p (.tuple (xs ++ ys))) := by
  simp only [addD, h, if_true]
theorem add_lst {xs ys : List PyData} (h : xs.length + ys.length ≤ 16777216) : addD (.list xs) (.list ys) = some (.f (.list (xs ++ ys))) := by
  simp only [addD, h, if_true]
theorem add_int (i j : Int) : addD (.int i) (.int j) = some (.p (.int (i + j))) := rfl
theorem at_nat {ds : List PyData} {z : Int} {n : Nat} {d : PyData} (hz : z = n) (h : ds[n]? = some d) : L2.atI ds z = some d := by
  subst hz; exact L2.atI_nat h
theorem atI_in {ds : List PyData} {z : Int} (h0 : 0 ≤ z) (h1 : z < ds.length) : ∃ d, L2.atI ds z = some d ∧ d ∈ ds := by
  have hz : z.toNat < ds.length := by omega
  exact ⟨ds[z.toNat], at_nat (n := z.toNat) (by omega) (List.getElem?_eq_getElem hz), List.getElem_mem hz⟩
theorem atI_one {ds : List PyData} {z : Int} (h0 : 0 ≤ z) (h1 : z < ds.length) : L2.atI ds z = some (ds.getD z.toNat .none) := by
  have hz : z.toNat < ds.length := by omega
  refine at_nat (n := z.toNat) (by omega) ?_
  rw [List.getElem?_eq_getElem hz, List.getD_eq_getElem?_getD, List.getElem?_eq_getElem hz, Option.getD_some]
theorem below_iff {m i : Int} : below m (.int i) = true ↔ 0 ≤ i ∧ i < m := by simp [below]
/-- a list against the empty one -/
theorem ne_nil (fs : List PyData) : (eqOk (.list fs) (.list []) || empL (.list fs) (.list [])) = true ∧ PyData.eqvAll fs [] = fs.isEmpty := by
  cases fs with
  | nil => exact ⟨rfl, rfl⟩
  | cons x xs => exact ⟨by simp only [empL, Bool.or_true], rfl⟩
theorem filter_not (p : PyData → Bool) (ds : List PyData) : (((ds.filter fun d => !p d).map id).isEmpty) = ds.all p := by
  induction ds with
  | nil => rfl
  | cons d ds ih => cases h : p d <;> simp [List.filter_cons, h] <;> simpa using ih
theorem rangeD_mem {a b : Int} {d : PyData} (h : d ∈ rangeD a b) : ∃ k : Int, d = .int k ∧ a ≤ k ∧ k < b := by
  simp only [rangeD, List.mem_map, List.mem_range] at h
  obtain ⟨i, hi, rfl⟩ := h
  exact ⟨_, rfl, by omega, by omega⟩
end K74

namespace K74
open PySem RL
theorem ok_need_book {d : PyData} (h : bookOk d = true) : f4.φ [d] = .ret (.p .none) [] := by
  have h3 : L4[3]? = some f3 := rfl
  have i3 : f3.io = [false] := rfl
  simp only [f4, io4, s4, h3, i3, eq_is_book, h, runF, cellsOf, denS, den, R.st, R.b1, R.bA, R.tst, R.eo, R.part, P.isNil, tstS, dctD, op1, op2, opN, vals, give, T.val, Cell.val, Cell.own, boolOf, intOf, isaD, PyData.isInt, PyData.isBool, PyData.isTuple, PyData.isList, PyData.isStr, PyData.isDict,  RL.finish, retF, iosAt, outT, ioSlots, ioFrom, storeS, T.seal, sealAll, Tg.bind, callX, tmpIx, T.notF, R.cut, List.take_succ_cons, List.take_zero, List.take_nil, callR, argsOf, putIos, T.flat, flatO, flats, RL.flat, primD, prim1, prim2, lenD, intD, tupD, lstD, absD, maxD, minD, bl2, cmpD, eqOk, isNoneD, binD, addD, subD, modD, divD, negD, idxD, slcD, itrD, itemsD, sealR, enmD, zipD, rngD, parS, setS, appS, augS, augD, ownL,  List.getElem?_cons_zero, List.getElem?_cons_succ, List.getElem?_nil, List.set_cons_zero, List.set_cons_succ, List.length_cons, List.length_nil, List.replicate_succ, List.replicate_zero, List.cons_append, List.nil_append, Option.map_some, Option.map_none, Option.bind_some, Option.bind_none, Option.isSome_some, Option.isSome_none, if_true, if_false, List.contains_nil, Bool.false_eq_true, reduceCtorEq, Bool.not_true, Bool.not_false, List.nodup_nil, List.not_mem_nil, List.mem_cons, or_false, false_or, true_and, and_true, not_true_eq_false, not_false_eq_true, List.nodup_cons, Bool.true_and, Bool.and_true, List.all_nil, List.all_cons, Nat.reduceLT, Nat.reduceAdd, Nat.reduceSub, Nat.reduceLeDiff, Nat.zero_lt_succ, Nat.lt_add_one, wipeE, restore, List.map_cons, List.map_nil, Option.getD_some, Option.getD_none, Prod.mk.injEq, Option.some.injEq, implies_true, forall_const, true_or, or_true, ite_true, ite_false, forall_eq, forall_eq_or_imp, Nat.not_lt_zero, decide_true, decide_false, beq_self_eq_true, and_self, Nat.reduceEqDiff, List.getElem?_map, RL.shaped_int, RL.shaped_bool, RL.shaped_none, PyData.eqv, Int.reduceEq, Int.reduceNe, Int.reduceBEq, Int.reduceLT, Int.reduceLE, bne, false_imp_iff, true_imp_iff, Int.cast_ofNat_Int, Bool.not_eq_true, Bool.false_and, Bool.and_false, Bool.true_or, Bool.false_or, Bool.or_true, Bool.or_false, List.any_nil, List.any_cons]
end K74

namespace K74
open PySem RL
theorem no_need_book {d : PyData} (h : bookOk d = false) : f4.φ [d] = .exc ⟨"BadBook", none⟩ [] := by
  have h_is_book : L4[3]? = some f3 := rfl
  have i_is_book : f3.io = [false] := rfl
  have q := eq_is_book d
  rw [h] at q
  simp only [f4, io4, s4, h_is_book, i_is_book, q, runF, cellsOf, denS, den, R.st, R.b1, R.bA, R.tst, R.eo, R.part, P.isNil, tstS, dctD, op1, op2, opN, vals, give, T.val, Cell.val, Cell.own, boolOf, intOf, isaD, PyData.isInt, PyData.isBool, PyData.isTuple, PyData.isList, PyData.isStr, PyData.isDict,  RL.finish, retF, iosAt, outT, ioSlots, ioFrom, storeS, T.seal, sealAll, Tg.bind, callX, tmpIx, T.notF, R.cut, List.take_succ_cons, List.take_zero, List.take_nil, callR, argsOf, putIos, T.flat, flatO, flats, RL.flat, primD, prim1, prim2, lenD, intD, tupD, lstD, absD, maxD, minD, bl2, cmpD, eqOk, isNoneD, binD, addD, subD, modD, divD, negD, idxD, slcD, itrD, itemsD, sealR, enmD, zipD, rngD, parS, setS, appS, augS, augD, ownL,  List.getElem?_cons_zero, List.getElem?_cons_succ, List.getElem?_nil, List.set_cons_zero, List.set_cons_succ, List.length_cons, List.length_nil, List.replicate_succ, List.replicate_zero, List.cons_append, List.nil_append, Option.map_some, Option.map_none, Option.bind_some, Option.bind_none, Option.isSome_some, Option.isSome_none, if_true, if_false, List.contains_nil, Bool.false_eq_true, reduceCtorEq, Bool.not_true, Bool.not_false, List.nodup_nil, List.not_mem_nil, List.mem_cons, or_false, false_or, true_and, and_true, not_true_eq_false, not_false_eq_true, List.nodup_cons, Bool.true_and, Bool.and_true, List.all_nil, List.all_cons, Nat.reduceLT, Nat.reduceAdd, Nat.reduceSub, Nat.reduceLeDiff, Nat.zero_lt_succ, Nat.lt_add_one, wipeE, restore, List.map_cons, List.map_nil, Option.getD_some, Option.getD_none, Prod.mk.injEq, Option.some.injEq, implies_true, forall_const, true_or, or_true, ite_true, ite_false, forall_eq, forall_eq_or_imp, Nat.not_lt_zero, decide_true, decide_false, beq_self_eq_true, and_self, Nat.reduceEqDiff, List.getElem?_map, RL.shaped_int, RL.shaped_bool, RL.shaped_none, PyData.eqv, Int.reduceEq, Int.reduceNe, Int.reduceBEq, Int.reduceLT, Int.reduceLE, bne, false_imp_iff, true_imp_iff, Int.cast_ofNat_Int, Bool.not_eq_true, Bool.false_and, Bool.and_false, Bool.true_or, Bool.false_or, Bool.or_true, Bool.or_false, List.any_nil, List.any_cons]
theorem bookOk_inv {d : PyData} (h : bookOk d = true) : ∃ m rs, d = .tuple [.int m, .tuple rs] ∧ 1 ≤ m ∧ m ≤ 4 ∧ rs.length ≤ 12 ∧ rs.all (ruleOk m) = true ∧ rs.Nodup := by
  unfold bookOk at h
  split at h
  · rename_i m rs
    simp only [Bool.and_eq_true, decide_eq_true_eq] at h
    exact ⟨m, rs, rfl, h.1.1.1.1, h.1.1.1.2, h.1.1.2, h.1.2, h.2⟩
  · cases h
end K74

namespace K74
open PySem RL
theorem eq_is_state (m : Int) (r : List PyData) (d : PyData) : f5.φ [.tuple (.int m :: r), d] = .ret (.p (.bool (below m d))) [] := by
  have h_is_below : L5[1]? = some f1 := rfl
  have i_is_below : f1.io = [false, false] := rfl
  have a0 : L2.atI (PyData.int m :: r) (0 : Int) = some (.int m) := L2.atI_nat (j := 0) rfl
  simp only [f5, io5, s5, h_is_below, i_is_below, eq_is_below, a0, runF, cellsOf, denS, den, R.st, R.b1, R.bA, R.tst, R.eo, R.part, P.isNil, tstS, dctD, op1, op2, opN, vals, give, T.val, Cell.val, Cell.own, boolOf, intOf, isaD, PyData.isInt, PyData.isBool, PyData.isTuple, PyData.isList, PyData.isStr, PyData.isDict,  RL.finish, retF, iosAt, outT, ioSlots, ioFrom, storeS, T.seal, sealAll, Tg.bind, callX, tmpIx, T.notF, R.cut, List.take_succ_cons, List.take_zero, List.take_nil, callR, argsOf, putIos, T.flat, flatO, flats, RL.flat, primD, prim1, prim2, lenD, intD, tupD, lstD, absD, maxD, minD, bl2, cmpD, eqOk, isNoneD, binD, addD, subD, modD, divD, negD, idxD, slcD, itrD, itemsD, sealR, enmD, zipD, rngD, parS, setS, appS, augS, augD, ownL,  List.getElem?_cons_zero, List.getElem?_cons_succ, List.getElem?_nil, List.set_cons_zero, List.set_cons_succ, List.length_cons, List.length_nil, List.replicate_succ, List.replicate_zero, List.cons_append, List.nil_append, Option.map_some, Option.map_none, Option.bind_some, Option.bind_none, Option.isSome_some, Option.isSome_none, if_true, if_false, List.contains_nil, Bool.false_eq_true, reduceCtorEq, Bool.not_true, Bool.not_false, List.nodup_nil, List.not_mem_nil, List.mem_cons, or_false, false_or, true_and, and_true, not_true_eq_false, not_false_eq_true, List.nodup_cons, Bool.true_and, Bool.and_true, List.all_nil, List.all_cons, Nat.reduceLT, Nat.reduceAdd, Nat.reduceSub, Nat.reduceLeDiff, Nat.zero_lt_succ, Nat.lt_add_one, wipeE, restore, List.map_cons, List.map_nil, Option.getD_some, Option.getD_none, Prod.mk.injEq, Option.some.injEq, implies_true, forall_const, true_or, or_true, ite_true, ite_false, forall_eq, forall_eq_or_imp, Nat.not_lt_zero, decide_true, decide_false, beq_self_eq_true, and_self, Nat.reduceEqDiff, List.getElem?_map, RL.shaped_int, RL.shaped_bool, RL.shaped_none, PyData.eqv, Int.reduceEq, Int.reduceNe, Int.reduceBEq, Int.reduceLT, Int.reduceLE, bne, false_imp_iff, true_imp_iff, Int.cast_ofNat_Int, Bool.not_eq_true, Bool.false_and, Bool.and_false, Bool.true_or, Bool.false_or, Bool.or_true, Bool.or_false, List.any_nil, List.any_cons]
end K74

namespace K74
open PySem RL
/-- what stands at a place as a parent -/
def parOk : PyData → Bool
  | .tuple [.int i, .int p] => decide (-1 ≤ p) && decide (p < i)
  | _ => false
def treeOk (m : Int) : PyData → Bool
  | .tuple [o, .tuple ps, .tuple ss] => below m o && decide (ps.length = ss.length) && decide (ss.length ≤ 250) && (enmL ps).all parOk && ss.all (below m)
  | _ => false
theorem enm_eq (ds : List PyData) : enmD (.tuple ds) = some (.p (.list (enmL ds))) := rfl
theorem eq_is_tree_of (m : Int) (hm : m ≤ 16777216) (r : List PyData) (d : PyData) : f7.φ [.tuple (.int m :: r), d] = .ret (.p (.bool (treeOk m d))) [] := by
  have h0 : L7[0]? = some f0 := rfl
  have i0 : f0.io = [false] := rfl
  have h2 : L7[5]? = some f5 := rfl
  have i2 : f5.io = [false, false] := rfl
  cases d with
  | tuple ds =>
    by_cases hl : ds.length = 3
    · obtain ⟨o, p, s, rfl⟩ : ∃ a b c, ds = [a, b, c] := by
        rcases ds with _ | ⟨a, _ | ⟨o, _ | ⟨n, _ | ⟨x, ds⟩⟩⟩⟩ <;> simp at hl
        exact ⟨_, _, _, rfl⟩
      cases ho : below m o with
      | false =>
        have e : treeOk m (.tuple [o, p, s]) = false := by cases p <;> cases s <;> simp [treeOk, ho]
        simp only [f7, io7, s7, h2, i2, eq_is_state, ho, e, runF, cellsOf, denS, den, R.st, R.b1, R.bA, R.tst, R.eo, R.part, P.isNil, tstS, dctD, op1, op2, opN, vals, give, T.val, Cell.val, Cell.own, boolOf, intOf, isaD, PyData.isInt, PyData.isBool, PyData.isTuple, PyData.isList, PyData.isStr, PyData.isDict,  RL.finish, retF, iosAt, outT, ioSlots, ioFrom, storeS, T.seal, sealAll, Tg.bind, callX, tmpIx, T.notF, R.cut, List.take_succ_cons, List.take_zero, List.take_nil, callR, argsOf, putIos, T.flat, flatO, flats, RL.flat, primD, prim1, prim2, lenD, intD, tupD, lstD, absD, maxD, minD, bl2, cmpD, eqOk, isNoneD, binD, addD, subD, modD, divD, negD, idxD, slcD, itrD, itemsD, sealR, enmD, zipD, rngD, parS, setS, appS, augS, augD, ownL,  List.getElem?_cons_zero, List.getElem?_cons_succ, List.getElem?_nil, List.set_cons_zero, List.set_cons_succ, List.length_cons, List.length_nil, List.replicate_succ, List.replicate_zero, List.cons_append, List.nil_append, Option.map_some, Option.map_none, Option.bind_some, Option.bind_none, Option.isSome_some, Option.isSome_none, if_true, if_false, List.contains_nil, Bool.false_eq_true, reduceCtorEq, Bool.not_true, Bool.not_false, List.nodup_nil, List.not_mem_nil, List.mem_cons, or_false, false_or, true_and, and_true, not_true_eq_false, not_false_eq_true, List.nodup_cons, Bool.true_and, Bool.and_true, List.all_nil, List.all_cons, Nat.reduceLT, Nat.reduceAdd, Nat.reduceSub, Nat.reduceLeDiff, Nat.zero_lt_succ, Nat.lt_add_one, wipeE, restore, List.map_cons, List.map_nil, Option.getD_some, Option.getD_none, Prod.mk.injEq, Option.some.injEq, implies_true, forall_const, true_or, or_true, ite_true, ite_false, forall_eq, forall_eq_or_imp, Nat.not_lt_zero, decide_true, decide_false, beq_self_eq_true, and_self, Nat.reduceEqDiff, List.getElem?_map, RL.shaped_int, RL.shaped_bool, RL.shaped_none, PyData.eqv, Int.reduceEq, Int.reduceNe, Int.reduceBEq, Int.reduceLT, Int.reduceLE, bne, false_imp_iff, true_imp_iff, Int.cast_ofNat_Int, Bool.not_eq_true, Bool.false_and, Bool.and_false, Bool.true_or, Bool.false_or, Bool.or_true, Bool.or_false, List.any_nil, List.any_cons]
      | true =>
        cases p with
        | tuple ps =>
          cases s with
          | tuple ss =>
            cases hpl : (ps.length : Int) == (ss.length : Int) with
            | false =>
              have e : treeOk m (.tuple [o, .tuple ps, .tuple ss]) = false := by
                have : ¬ (ps.length = ss.length) := fun z => by rw [z] at hpl; simp at hpl
                simp [treeOk, this]
              simp only [f7, io7, s7, h2, i2, eq_is_state, ho, hpl, e, runF, cellsOf, denS, den, R.st, R.b1, R.bA, R.tst, R.eo, R.part, P.isNil, tstS, dctD, op1, op2, opN, vals, give, T.val, Cell.val, Cell.own, boolOf, intOf, isaD, PyData.isInt, PyData.isBool, PyData.isTuple, PyData.isList, PyData.isStr, PyData.isDict,  RL.finish, retF, iosAt, outT, ioSlots, ioFrom, storeS, T.seal, sealAll, Tg.bind, callX, tmpIx, T.notF, R.cut, List.take_succ_cons, List.take_zero, List.take_nil, callR, argsOf, putIos, T.flat, flatO, flats, RL.flat, primD, prim1, prim2, lenD, intD, tupD, lstD, absD, maxD, minD, bl2, cmpD, eqOk, isNoneD, binD, addD, subD, modD, divD, negD, idxD, slcD, itrD, itemsD, sealR, enmD, zipD, rngD, parS, setS, appS, augS, augD, ownL,  List.getElem?_cons_zero, List.getElem?_cons_succ, List.getElem?_nil, List.set_cons_zero, List.set_cons_succ, List.length_cons, List.length_nil, List.replicate_succ, List.replicate_zero, List.cons_append, List.nil_append, Option.map_some, Option.map_none, Option.bind_some, Option.bind_none, Option.isSome_some, Option.isSome_none, if_true, if_false, List.contains_nil, Bool.false_eq_true, reduceCtorEq, Bool.not_true, Bool.not_false, List.nodup_nil, List.not_mem_nil, List.mem_cons, or_false, false_or, true_and, and_true, not_true_eq_false, not_false_eq_true, List.nodup_cons, Bool.true_and, Bool.and_true, List.all_nil, List.all_cons, Nat.reduceLT, Nat.reduceAdd, Nat.reduceSub, Nat.reduceLeDiff, Nat.zero_lt_succ, Nat.lt_add_one, wipeE, restore, List.map_cons, List.map_nil, Option.getD_some, Option.getD_none, Prod.mk.injEq, Option.some.injEq, implies_true, forall_const, true_or, or_true, ite_true, ite_false, forall_eq, forall_eq_or_imp, Nat.not_lt_zero, decide_true, decide_false, beq_self_eq_true, and_self, Nat.reduceEqDiff, List.getElem?_map, RL.shaped_int, RL.shaped_bool, RL.shaped_none, PyData.eqv, Int.reduceEq, Int.reduceNe, Int.reduceBEq, Int.reduceLT, Int.reduceLE, bne, false_imp_iff, true_imp_iff, Int.cast_ofNat_Int, Bool.not_eq_true, Bool.false_and, Bool.and_false, Bool.true_or, Bool.false_or, Bool.or_true, Bool.or_false, List.any_nil, List.any_cons]
            | true =>
              have hpl' : ps.length = ss.length := by have := beq_iff_eq.mp hpl; omega
              cases hlen : decide ((250 : Int) < (ss.length : Int)) with
              | true =>
                have e : treeOk m (.tuple [o, .tuple ps, .tuple ss]) = false := by
                  have : ¬ (ss.length ≤ 250) := by have := of_decide_eq_true hlen; omega
                  simp [treeOk, this]
                simp only [f7, io7, s7, h2, i2, eq_is_state, ho, hpl, hlen, e, runF, cellsOf, denS, den, R.st, R.b1, R.bA, R.tst, R.eo, R.part, P.isNil, tstS, dctD, op1, op2, opN, vals, give, T.val, Cell.val, Cell.own, boolOf, intOf, isaD, PyData.isInt, PyData.isBool, PyData.isTuple, PyData.isList, PyData.isStr, PyData.isDict,  RL.finish, retF, iosAt, outT, ioSlots, ioFrom, storeS, T.seal, sealAll, Tg.bind, callX, tmpIx, T.notF, R.cut, List.take_succ_cons, List.take_zero, List.take_nil, callR, argsOf, putIos, T.flat, flatO, flats, RL.flat, primD, prim1, prim2, lenD, intD, tupD, lstD, absD, maxD, minD, bl2, cmpD, eqOk, isNoneD, binD, addD, subD, modD, divD, negD, idxD, slcD, itrD, itemsD, sealR, enmD, zipD, rngD, parS, setS, appS, augS, augD, ownL,  List.getElem?_cons_zero, List.getElem?_cons_succ, List.getElem?_nil, List.set_cons_zero, List.set_cons_succ, List.length_cons, List.length_nil, List.replicate_succ, List.replicate_zero, List.cons_append, List.nil_append, Option.map_some, Option.map_none, Option.bind_some, Option.bind_none, Option.isSome_some, Option.isSome_none, if_true, if_false, List.contains_nil, Bool.false_eq_true, reduceCtorEq, Bool.not_true, Bool.not_false, List.nodup_nil, List.not_mem_nil, List.mem_cons, or_false, false_or, true_and, and_true, not_true_eq_false, not_false_eq_true, List.nodup_cons, Bool.true_and, Bool.and_true, List.all_nil, List.all_cons, Nat.reduceLT, Nat.reduceAdd, Nat.reduceSub, Nat.reduceLeDiff, Nat.zero_lt_succ, Nat.lt_add_one, wipeE, restore, List.map_cons, List.map_nil, Option.getD_some, Option.getD_none, Prod.mk.injEq, Option.some.injEq, implies_true, forall_const, true_or, or_true, ite_true, ite_false, forall_eq, forall_eq_or_imp, Nat.not_lt_zero, decide_true, decide_false, beq_self_eq_true, and_self, Nat.reduceEqDiff, List.getElem?_map, RL.shaped_int, RL.shaped_bool, RL.shaped_none, PyData.eqv, Int.reduceEq, Int.reduceNe, Int.reduceBEq, Int.reduceLT, Int.reduceLE, bne, false_imp_iff, true_imp_iff, Int.cast_ofNat_Int, Bool.not_eq_true, Bool.false_and, Bool.and_false, Bool.true_or, Bool.false_or, Bool.or_true, Bool.or_false, List.any_nil, List.any_cons]
              | false =>
                have hlen' : ss.length ≤ 250 := by have := of_decide_eq_false hlen; omega
                obtain ⟨ρ', ⟨c5, c6, hI⟩, hf⟩ := for_early (t := .tp (.cons (.nm 5) (.cons (.nm 6) .nil))) (b := denS (fun j => L7[j]?) (.cons (.iff (.or (.not (.call 0 (.cons (.var 6) .nil))) (.or (.cmp .Lt (.var 6) (.neg (.cst (.int 1)))) (.cmp .GtE (.var 6) (.var 5)))) (.cons (.ret (.cst (.bool false))) .nil) .nil) .nil))
                  (fun ρ => ∃ c5 c6, ρ = [.pu (.tuple (.int m :: r)), .pu (.tuple [o, .tuple ps, .tuple ss]), .pu o, .pu (.tuple ps), .pu (.tuple ss), c5, c6, .un]) (.p (.bool false)) parOk (enmL ps) [.pu (.tuple (.int m :: r)), .pu (.tuple [o, .tuple ps, .tuple ss]), .pu o, .pu (.tuple ps), .pu (.tuple ss), .un, .un, .un]
                  (fun d hd ρ hI => by
                    obtain ⟨c5, c6, rfl⟩ := hI
                    obtain ⟨i, x, rfl⟩ : ∃ (i : Int) (x : PyData), d = .tuple [.int i, x] := by
                      simp only [enmL, List.mem_map] at hd
                      obtain ⟨p, _, rfl⟩ := hd
                      exact ⟨_, _, rfl⟩
                    refine ⟨[.pu (.tuple (.int m :: r)), .pu (.tuple [o, .tuple ps, .tuple ss]), .pu o, .pu (.tuple ps), .pu (.tuple ss), .pu (.int i), .pu x, .un], rfl, fun hp => ?_, fun hp => ?_⟩
                    · cases x with
                      | int p =>
                        simp only [parOk, Bool.and_eq_true, decide_eq_true_eq] at hp
                        have d1 : decide (p < -1) = false := decide_eq_false (by omega)
                        have d2 : decide (i ≤ p) = false := decide_eq_false (by omega)
                        exact ⟨_, by simp only [h0, i0, eq_is_integer, isInt, d1, d2, runF, cellsOf, denS, den, R.st, R.b1, R.bA, R.tst, R.eo, R.part, P.isNil, tstS, dctD, op1, op2, opN, vals, give, T.val, Cell.val, Cell.own, boolOf, intOf, isaD, PyData.isInt, PyData.isBool, PyData.isTuple, PyData.isList, PyData.isStr, PyData.isDict,  RL.finish, retF, iosAt, outT, ioSlots, ioFrom, storeS, T.seal, sealAll, Tg.bind, callX, tmpIx, T.notF, R.cut, List.take_succ_cons, List.take_zero, List.take_nil, callR, argsOf, putIos, T.flat, flatO, flats, RL.flat, primD, prim1, prim2, lenD, intD, tupD, lstD, absD, maxD, minD, bl2, cmpD, eqOk, isNoneD, binD, addD, subD, modD, divD, negD, idxD, slcD, itrD, itemsD, sealR, enmD, zipD, rngD, parS, setS, appS, augS, augD, ownL,  List.getElem?_cons_zero, List.getElem?_cons_succ, List.getElem?_nil, List.set_cons_zero, List.set_cons_succ, List.length_cons, List.length_nil, List.replicate_succ, List.replicate_zero, List.cons_append, List.nil_append, Option.map_some, Option.map_none, Option.bind_some, Option.bind_none, Option.isSome_some, Option.isSome_none, if_true, if_false, List.contains_nil, Bool.false_eq_true, reduceCtorEq, Bool.not_true, Bool.not_false, List.nodup_nil, List.not_mem_nil, List.mem_cons, or_false, false_or, true_and, and_true, not_true_eq_false, not_false_eq_true, List.nodup_cons, Bool.true_and, Bool.and_true, List.all_nil, List.all_cons, Nat.reduceLT, Nat.reduceAdd, Nat.reduceSub, Nat.reduceLeDiff, Nat.zero_lt_succ, Nat.lt_add_one, wipeE, restore, List.map_cons, List.map_nil, Option.getD_some, Option.getD_none, Prod.mk.injEq, Option.some.injEq, implies_true, forall_const, true_or, or_true, ite_true, ite_false, forall_eq, forall_eq_or_imp, Nat.not_lt_zero, decide_true, decide_false, beq_self_eq_true, and_self, Nat.reduceEqDiff, List.getElem?_map, RL.shaped_int, RL.shaped_bool, RL.shaped_none, PyData.eqv, Int.reduceEq, Int.reduceNe, Int.reduceBEq, Int.reduceLT, Int.reduceLE, bne, false_imp_iff, true_imp_iff, Int.cast_ofNat_Int, Bool.not_eq_true, Bool.false_and, Bool.and_false, Bool.true_or, Bool.false_or, Bool.or_true, Bool.or_false, List.any_nil, List.any_cons]; rfl, _, _, rfl⟩
                      | _ => simp [parOk] at hp
                    · cases x with
                      | int p =>
                        cases d1 : decide (p < -1) with
                        | true => exact ⟨_, by simp only [h0, i0, eq_is_integer, isInt, d1, runF, cellsOf, denS, den, R.st, R.b1, R.bA, R.tst, R.eo, R.part, P.isNil, tstS, dctD, op1, op2, opN, vals, give, T.val, Cell.val, Cell.own, boolOf, intOf, isaD, PyData.isInt, PyData.isBool, PyData.isTuple, PyData.isList, PyData.isStr, PyData.isDict,  RL.finish, retF, iosAt, outT, ioSlots, ioFrom, storeS, T.seal, sealAll, Tg.bind, callX, tmpIx, T.notF, R.cut, List.take_succ_cons, List.take_zero, List.take_nil, callR, argsOf, putIos, T.flat, flatO, flats, RL.flat, primD, prim1, prim2, lenD, intD, tupD, lstD, absD, maxD, minD, bl2, cmpD, eqOk, isNoneD, binD, addD, subD, modD, divD, negD, idxD, slcD, itrD, itemsD, sealR, enmD, zipD, rngD, parS, setS, appS, augS, augD, ownL,  List.getElem?_cons_zero, List.getElem?_cons_succ, List.getElem?_nil, List.set_cons_zero, List.set_cons_succ, List.length_cons, List.length_nil, List.replicate_succ, List.replicate_zero, List.cons_append, List.nil_append, Option.map_some, Option.map_none, Option.bind_some, Option.bind_none, Option.isSome_some, Option.isSome_none, if_true, if_false, List.contains_nil, Bool.false_eq_true, reduceCtorEq, Bool.not_true, Bool.not_false, List.nodup_nil, List.not_mem_nil, List.mem_cons, or_false, false_or, true_and, and_true, not_true_eq_false, not_false_eq_true, List.nodup_cons, Bool.true_and, Bool.and_true, List.all_nil, List.all_cons, Nat.reduceLT, Nat.reduceAdd, Nat.reduceSub, Nat.reduceLeDiff, Nat.zero_lt_succ, Nat.lt_add_one, wipeE, restore, List.map_cons, List.map_nil, Option.getD_some, Option.getD_none, Prod.mk.injEq, Option.some.injEq, implies_true, forall_const, true_or, or_true, ite_true, ite_false, forall_eq, forall_eq_or_imp, Nat.not_lt_zero, decide_true, decide_false, beq_self_eq_true, and_self, Nat.reduceEqDiff, List.getElem?_map, RL.shaped_int, RL.shaped_bool, RL.shaped_none, PyData.eqv, Int.reduceEq, Int.reduceNe, Int.reduceBEq, Int.reduceLT, Int.reduceLE, bne, false_imp_iff, true_imp_iff, Int.cast_ofNat_Int, Bool.not_eq_true, Bool.false_and, Bool.and_false, Bool.true_or, Bool.false_or, Bool.or_true, Bool.or_false, List.any_nil, List.any_cons]; rfl, _, _, rfl⟩
                        | false =>
                          have d2 : decide (i ≤ p) = true := by
                            have := of_decide_eq_false d1
                            apply decide_eq_true
                            apply Classical.byContradiction
                            intro z
                            have : parOk (.tuple [.int i, .int p]) = true := by
                              simp only [parOk, Bool.and_eq_true, decide_eq_true_eq]; omega
                            rw [hp] at this; cases this
                          exact ⟨_, by simp only [h0, i0, eq_is_integer, isInt, d1, d2, runF, cellsOf, denS, den, R.st, R.b1, R.bA, R.tst, R.eo, R.part, P.isNil, tstS, dctD, op1, op2, opN, vals, give, T.val, Cell.val, Cell.own, boolOf, intOf, isaD, PyData.isInt, PyData.isBool, PyData.isTuple, PyData.isList, PyData.isStr, PyData.isDict,  RL.finish, retF, iosAt, outT, ioSlots, ioFrom, storeS, T.seal, sealAll, Tg.bind, callX, tmpIx, T.notF, R.cut, List.take_succ_cons, List.take_zero, List.take_nil, callR, argsOf, putIos, T.flat, flatO, flats, RL.flat, primD, prim1, prim2, lenD, intD, tupD, lstD, absD, maxD, minD, bl2, cmpD, eqOk, isNoneD, binD, addD, subD, modD, divD, negD, idxD, slcD, itrD, itemsD, sealR, enmD, zipD, rngD, parS, setS, appS, augS, augD, ownL,  List.getElem?_cons_zero, List.getElem?_cons_succ, List.getElem?_nil, List.set_cons_zero, List.set_cons_succ, List.length_cons, List.length_nil, List.replicate_succ, List.replicate_zero, List.cons_append, List.nil_append, Option.map_some, Option.map_none, Option.bind_some, Option.bind_none, Option.isSome_some, Option.isSome_none, if_true, if_false, List.contains_nil, Bool.false_eq_true, reduceCtorEq, Bool.not_true, Bool.not_false, List.nodup_nil, List.not_mem_nil, List.mem_cons, or_false, false_or, true_and, and_true, not_true_eq_false, not_false_eq_true, List.nodup_cons, Bool.true_and, Bool.and_true, List.all_nil, List.all_cons, Nat.reduceLT, Nat.reduceAdd, Nat.reduceSub, Nat.reduceLeDiff, Nat.zero_lt_succ, Nat.lt_add_one, wipeE, restore, List.map_cons, List.map_nil, Option.getD_some, Option.getD_none, Prod.mk.injEq, Option.some.injEq, implies_true, forall_const, true_or, or_true, ite_true, ite_false, forall_eq, forall_eq_or_imp, Nat.not_lt_zero, decide_true, decide_false, beq_self_eq_true, and_self, Nat.reduceEqDiff, List.getElem?_map, RL.shaped_int, RL.shaped_bool, RL.shaped_none, PyData.eqv, Int.reduceEq, Int.reduceNe, Int.reduceBEq, Int.reduceLT, Int.reduceLE, bne, false_imp_iff, true_imp_iff, Int.cast_ofNat_Int, Bool.not_eq_true, Bool.false_and, Bool.and_false, Bool.true_or, Bool.false_or, Bool.or_true, Bool.or_false, List.any_nil, List.any_cons]; rfl, _, _, rfl⟩
                      | _ => exact ⟨_, by simp only [h0, i0, eq_is_integer, isInt, runF, cellsOf, denS, den, R.st, R.b1, R.bA, R.tst, R.eo, R.part, P.isNil, tstS, dctD, op1, op2, opN, vals, give, T.val, Cell.val, Cell.own, boolOf, intOf, isaD, PyData.isInt, PyData.isBool, PyData.isTuple, PyData.isList, PyData.isStr, PyData.isDict,  RL.finish, retF, iosAt, outT, ioSlots, ioFrom, storeS, T.seal, sealAll, Tg.bind, callX, tmpIx, T.notF, R.cut, List.take_succ_cons, List.take_zero, List.take_nil, callR, argsOf, putIos, T.flat, flatO, flats, RL.flat, primD, prim1, prim2, lenD, intD, tupD, lstD, absD, maxD, minD, bl2, cmpD, eqOk, isNoneD, binD, addD, subD, modD, divD, negD, idxD, slcD, itrD, itemsD, sealR, enmD, zipD, rngD, parS, setS, appS, augS, augD, ownL,  List.getElem?_cons_zero, List.getElem?_cons_succ, List.getElem?_nil, List.set_cons_zero, List.set_cons_succ, List.length_cons, List.length_nil, List.replicate_succ, List.replicate_zero, List.cons_append, List.nil_append, Option.map_some, Option.map_none, Option.bind_some, Option.bind_none, Option.isSome_some, Option.isSome_none, if_true, if_false, List.contains_nil, Bool.false_eq_true, reduceCtorEq, Bool.not_true, Bool.not_false, List.nodup_nil, List.not_mem_nil, List.mem_cons, or_false, false_or, true_and, and_true, not_true_eq_false, not_false_eq_true, List.nodup_cons, Bool.true_and, Bool.and_true, List.all_nil, List.all_cons, Nat.reduceLT, Nat.reduceAdd, Nat.reduceSub, Nat.reduceLeDiff, Nat.zero_lt_succ, Nat.lt_add_one, wipeE, restore, List.map_cons, List.map_nil, Option.getD_some, Option.getD_none, Prod.mk.injEq, Option.some.injEq, implies_true, forall_const, true_or, or_true, ite_true, ite_false, forall_eq, forall_eq_or_imp, Nat.not_lt_zero, decide_true, decide_false, beq_self_eq_true, and_self, Nat.reduceEqDiff, List.getElem?_map, RL.shaped_int, RL.shaped_bool, RL.shaped_none, PyData.eqv, Int.reduceEq, Int.reduceNe, Int.reduceBEq, Int.reduceLT, Int.reduceLE, bne, false_imp_iff, true_imp_iff, Int.cast_ofNat_Int, Bool.not_eq_true, Bool.false_and, Bool.and_false, Bool.true_or, Bool.false_or, Bool.or_true, Bool.or_false, List.any_nil, List.any_cons]; rfl, _, _, rfl⟩) ⟨_, _, rfl⟩
                subst hI
                simp only [h0, i0, runF, cellsOf, denS, den, R.st, R.b1, R.bA, R.tst, R.eo, R.part, P.isNil, tstS, dctD, op1, op2, opN, vals, give, T.val, Cell.val, Cell.own, boolOf, intOf, isaD, PyData.isInt, PyData.isBool, PyData.isTuple, PyData.isList, PyData.isStr, PyData.isDict,  RL.finish, retF, iosAt, outT, ioSlots, ioFrom, storeS, T.seal, sealAll, Tg.bind, callX, tmpIx, T.notF, R.cut, List.take_succ_cons, List.take_zero, List.take_nil, callR, argsOf, putIos, T.flat, flatO, flats, RL.flat, primD, prim1, prim2, lenD, intD, tupD, lstD, absD, maxD, minD, bl2, cmpD, eqOk, isNoneD, binD, addD, subD, modD, divD, negD, idxD, slcD, itrD, itemsD, sealR, enmD, zipD, rngD, parS, setS, appS, augS, augD, ownL,  List.getElem?_cons_zero, List.getElem?_cons_succ, List.getElem?_nil, List.set_cons_zero, List.set_cons_succ, List.length_cons, List.length_nil, List.replicate_succ, List.replicate_zero, List.cons_append, List.nil_append, Option.map_some, Option.map_none, Option.bind_some, Option.bind_none, Option.isSome_some, Option.isSome_none, if_true, if_false, List.contains_nil, Bool.false_eq_true, reduceCtorEq, Bool.not_true, Bool.not_false, List.nodup_nil, List.not_mem_nil, List.mem_cons, or_false, false_or, true_and, and_true, not_true_eq_false, not_false_eq_true, List.nodup_cons, Bool.true_and, Bool.and_true, List.all_nil, List.all_cons, Nat.reduceLT, Nat.reduceAdd, Nat.reduceSub, Nat.reduceLeDiff, Nat.zero_lt_succ, Nat.lt_add_one, wipeE, restore, List.map_cons, List.map_nil, Option.getD_some, Option.getD_none, Prod.mk.injEq, Option.some.injEq, implies_true, forall_const, true_or, or_true, ite_true, ite_false, forall_eq, forall_eq_or_imp, Nat.not_lt_zero, decide_true, decide_false, beq_self_eq_true, and_self, Nat.reduceEqDiff, List.getElem?_map, RL.shaped_int, RL.shaped_bool, RL.shaped_none, PyData.eqv, Int.reduceEq, Int.reduceNe, Int.reduceBEq, Int.reduceLT, Int.reduceLE, bne, false_imp_iff, true_imp_iff, Int.cast_ofNat_Int, Bool.not_eq_true, Bool.false_and, Bool.and_false, Bool.true_or, Bool.false_or, Bool.or_true, Bool.or_false, List.any_nil, List.any_cons] at hf
                have hg := gen_map (t := .nm 7) (c := den (fun j => L7[j]?) (.cst (.bool true))) (b := den (fun j => L7[j]?) (.call 5 (.cons (.var 0) (.cons (.var 7) .nil)))) (ws := [7])
                  (ρ := [.pu (.tuple (.int m :: r)), .pu (.tuple [o, .tuple ps, .tuple ss]), .pu o, .pu (.tuple ps), .pu (.tuple ss), c5, c6, .un]) (fun d => .bool (below m d)) ss (fun d _ => ⟨_, _, _, _, rfl, rfl, by simp only [h2, i2, eq_is_state, runF, cellsOf, denS, den, R.st, R.b1, R.bA, R.tst, R.eo, R.part, P.isNil, tstS, dctD, op1, op2, opN, vals, give, T.val, Cell.val, Cell.own, boolOf, intOf, isaD, PyData.isInt, PyData.isBool, PyData.isTuple, PyData.isList, PyData.isStr, PyData.isDict,  RL.finish, retF, iosAt, outT, ioSlots, ioFrom, storeS, T.seal, sealAll, Tg.bind, callX, tmpIx, T.notF, R.cut, List.take_succ_cons, List.take_zero, List.take_nil, callR, argsOf, putIos, T.flat, flatO, flats, RL.flat, primD, prim1, prim2, lenD, intD, tupD, lstD, absD, maxD, minD, bl2, cmpD, eqOk, isNoneD, binD, addD, subD, modD, divD, negD, idxD, slcD, itrD, itemsD, sealR, enmD, zipD, rngD, parS, setS, appS, augS, augD, ownL,  List.getElem?_cons_zero, List.getElem?_cons_succ, List.getElem?_nil, List.set_cons_zero, List.set_cons_succ, List.length_cons, List.length_nil, List.replicate_succ, List.replicate_zero, List.cons_append, List.nil_append, Option.map_some, Option.map_none, Option.bind_some, Option.bind_none, Option.isSome_some, Option.isSome_none, if_true, if_false, List.contains_nil, Bool.false_eq_true, reduceCtorEq, Bool.not_true, Bool.not_false, List.nodup_nil, List.not_mem_nil, List.mem_cons, or_false, false_or, true_and, and_true, not_true_eq_false, not_false_eq_true, List.nodup_cons, Bool.true_and, Bool.and_true, List.all_nil, List.all_cons, Nat.reduceLT, Nat.reduceAdd, Nat.reduceSub, Nat.reduceLeDiff, Nat.zero_lt_succ, Nat.lt_add_one, wipeE, restore, List.map_cons, List.map_nil, Option.getD_some, Option.getD_none, Prod.mk.injEq, Option.some.injEq, implies_true, forall_const, true_or, or_true, ite_true, ite_false, forall_eq, forall_eq_or_imp, Nat.not_lt_zero, decide_true, decide_false, beq_self_eq_true, and_self, Nat.reduceEqDiff, List.getElem?_map, RL.shaped_int, RL.shaped_bool, RL.shaped_none, PyData.eqv, Int.reduceEq, Int.reduceNe, Int.reduceBEq, Int.reduceLT, Int.reduceLE, bne, false_imp_iff, true_imp_iff, Int.cast_ofNat_Int, Bool.not_eq_true, Bool.false_and, Bool.and_false, Bool.true_or, Bool.false_or, Bool.or_true, Bool.or_false, List.any_nil, List.any_cons]; rfl, rfl, rfl⟩)
                simp only [h2, i2, eq_is_state, runF, cellsOf, denS, den, R.st, R.b1, R.bA, R.tst, R.eo, R.part, P.isNil, tstS, dctD, op1, op2, opN, vals, give, T.val, Cell.val, Cell.own, boolOf, intOf, isaD, PyData.isInt, PyData.isBool, PyData.isTuple, PyData.isList, PyData.isStr, PyData.isDict,  RL.finish, retF, iosAt, outT, ioSlots, ioFrom, storeS, T.seal, sealAll, Tg.bind, callX, tmpIx, T.notF, R.cut, List.take_succ_cons, List.take_zero, List.take_nil, callR, argsOf, putIos, T.flat, flatO, flats, RL.flat, primD, prim1, prim2, lenD, intD, tupD, lstD, absD, maxD, minD, bl2, cmpD, eqOk, isNoneD, binD, addD, subD, modD, divD, negD, idxD, slcD, itrD, itemsD, sealR, enmD, zipD, rngD, parS, setS, appS, augS, augD, ownL,  List.getElem?_cons_zero, List.getElem?_cons_succ, List.getElem?_nil, List.set_cons_zero, List.set_cons_succ, List.length_cons, List.length_nil, List.replicate_succ, List.replicate_zero, List.cons_append, List.nil_append, Option.map_some, Option.map_none, Option.bind_some, Option.bind_none, Option.isSome_some, Option.isSome_none, if_true, if_false, List.contains_nil, Bool.false_eq_true, reduceCtorEq, Bool.not_true, Bool.not_false, List.nodup_nil, List.not_mem_nil, List.mem_cons, or_false, false_or, true_and, and_true, not_true_eq_false, not_false_eq_true, List.nodup_cons, Bool.true_and, Bool.and_true, List.all_nil, List.all_cons, Nat.reduceLT, Nat.reduceAdd, Nat.reduceSub, Nat.reduceLeDiff, Nat.zero_lt_succ, Nat.lt_add_one, wipeE, restore, List.map_cons, List.map_nil, Option.getD_some, Option.getD_none, Prod.mk.injEq, Option.some.injEq, implies_true, forall_const, true_or, or_true, ite_true, ite_false, forall_eq, forall_eq_or_imp, Nat.not_lt_zero, decide_true, decide_false, beq_self_eq_true, and_self, Nat.reduceEqDiff, List.getElem?_map, RL.shaped_int, RL.shaped_bool, RL.shaped_none, PyData.eqv, Int.reduceEq, Int.reduceNe, Int.reduceBEq, Int.reduceLT, Int.reduceLE, bne, false_imp_iff, true_imp_iff, Int.cast_ofNat_Int, Bool.not_eq_true, Bool.false_and, Bool.and_false, Bool.true_or, Bool.false_or, Bool.or_true, Bool.or_false, List.any_nil, List.any_cons] at hg
                have hz : ss.length ≤ 16777216 := by omega
                cases hall : (enmL ps).all parOk with
                | false =>
                  have e : treeOk m (.tuple [o, .tuple ps, .tuple ss]) = false := by simp only [treeOk, hall, Bool.and_false, Bool.false_and]
                  simp only [hall, Bool.false_eq_true, if_false] at hf
                  simp only [f7, io7, s7, h0, i0, h2, i2, eq_is_state, ho, hpl, hlen, enm_eq, hf, e, runF, cellsOf, denS, den, R.st, R.b1, R.bA, R.tst, R.eo, R.part, P.isNil, tstS, dctD, op1, op2, opN, vals, give, T.val, Cell.val, Cell.own, boolOf, intOf, isaD, PyData.isInt, PyData.isBool, PyData.isTuple, PyData.isList, PyData.isStr, PyData.isDict,  RL.finish, retF, iosAt, outT, ioSlots, ioFrom, storeS, T.seal, sealAll, Tg.bind, callX, tmpIx, T.notF, R.cut, List.take_succ_cons, List.take_zero, List.take_nil, callR, argsOf, putIos, T.flat, flatO, flats, RL.flat, primD, prim1, prim2, lenD, intD, tupD, lstD, absD, maxD, minD, bl2, cmpD, eqOk, isNoneD, binD, addD, subD, modD, divD, negD, idxD, slcD, itrD, itemsD, sealR, zipD, rngD, parS, setS, appS, augS, augD, ownL,  List.getElem?_cons_zero, List.getElem?_cons_succ, List.getElem?_nil, List.set_cons_zero, List.set_cons_succ, List.length_cons, List.length_nil, List.replicate_succ, List.replicate_zero, List.cons_append, List.nil_append, Option.map_some, Option.map_none, Option.bind_some, Option.bind_none, Option.isSome_some, Option.isSome_none, if_true, if_false, List.contains_nil, Bool.false_eq_true, reduceCtorEq, Bool.not_true, Bool.not_false, List.nodup_nil, List.not_mem_nil, List.mem_cons, or_false, false_or, true_and, and_true, not_true_eq_false, not_false_eq_true, List.nodup_cons, Bool.true_and, Bool.and_true, List.all_nil, List.all_cons, Nat.reduceLT, Nat.reduceAdd, Nat.reduceSub, Nat.reduceLeDiff, Nat.zero_lt_succ, Nat.lt_add_one, wipeE, restore, List.map_cons, List.map_nil, Option.getD_some, Option.getD_none, Prod.mk.injEq, Option.some.injEq, implies_true, forall_const, true_or, or_true, ite_true, ite_false, forall_eq, forall_eq_or_imp, Nat.not_lt_zero, decide_true, decide_false, beq_self_eq_true, and_self, Nat.reduceEqDiff, List.getElem?_map, RL.shaped_int, RL.shaped_bool, RL.shaped_none, PyData.eqv, Int.reduceEq, Int.reduceNe, Int.reduceBEq, Int.reduceLT, Int.reduceLE, bne, false_imp_iff, true_imp_iff, Int.cast_ofNat_Int, Bool.not_eq_true, Bool.false_and, Bool.and_false, Bool.true_or, Bool.false_or, Bool.or_true, Bool.or_false, List.any_nil, List.any_cons]
                | true =>
                  have e : treeOk m (.tuple [o, .tuple ps, .tuple ss]) = ss.all (below m) := by
                    simp only [treeOk, ho, hall, hpl', decide_true, decide_eq_true hlen', Bool.true_and]
                  simp only [hall, if_true] at hf
                  simp only [f7, io7, s7, h0, i0, h2, i2, eq_is_state, ho, hpl, hlen, enm_eq, hf, hg, hz, all_of, e, runF, cellsOf, denS, den, R.st, R.b1, R.bA, R.tst, R.eo, R.part, P.isNil, tstS, dctD, op1, op2, opN, vals, give, T.val, Cell.val, Cell.own, boolOf, intOf, isaD, PyData.isInt, PyData.isBool, PyData.isTuple, PyData.isList, PyData.isStr, PyData.isDict,  RL.finish, retF, iosAt, outT, ioSlots, ioFrom, storeS, T.seal, sealAll, Tg.bind, callX, tmpIx, T.notF, R.cut, List.take_succ_cons, List.take_zero, List.take_nil, callR, argsOf, putIos, T.flat, flatO, flats, RL.flat, primD, prim1, prim2, lenD, intD, tupD, lstD, absD, maxD, minD, bl2, cmpD, eqOk, isNoneD, binD, addD, subD, modD, divD, negD, idxD, slcD, itrD, itemsD, sealR, zipD, rngD, parS, setS, appS, augS, augD, ownL,  List.getElem?_cons_zero, List.getElem?_cons_succ, List.getElem?_nil, List.set_cons_zero, List.set_cons_succ, List.length_cons, List.length_nil, List.replicate_succ, List.replicate_zero, List.cons_append, List.nil_append, Option.map_some, Option.map_none, Option.bind_some, Option.bind_none, Option.isSome_some, Option.isSome_none, if_true, if_false, List.contains_nil, Bool.false_eq_true, reduceCtorEq, Bool.not_true, Bool.not_false, List.nodup_nil, List.not_mem_nil, List.mem_cons, or_false, false_or, true_and, and_true, not_true_eq_false, not_false_eq_true, List.nodup_cons, Bool.true_and, Bool.and_true, List.all_nil, List.all_cons, Nat.reduceLT, Nat.reduceAdd, Nat.reduceSub, Nat.reduceLeDiff, Nat.zero_lt_succ, Nat.lt_add_one, wipeE, restore, List.map_cons, List.map_nil, Option.getD_some, Option.getD_none, Prod.mk.injEq, Option.some.injEq, implies_true, forall_const, true_or, or_true, ite_true, ite_false, forall_eq, forall_eq_or_imp, Nat.not_lt_zero, decide_true, decide_false, beq_self_eq_true, and_self, Nat.reduceEqDiff, List.getElem?_map, RL.shaped_int, RL.shaped_bool, RL.shaped_none, PyData.eqv, Int.reduceEq, Int.reduceNe, Int.reduceBEq, Int.reduceLT, Int.reduceLE, bne, false_imp_iff, true_imp_iff, Int.cast_ofNat_Int, Bool.not_eq_true, Bool.false_and, Bool.and_false, Bool.true_or, Bool.false_or, Bool.or_true, Bool.or_false, List.any_nil, List.any_cons]
          | _ => simp only [f7, io7, s7, h2, i2, eq_is_state, ho, treeOk, runF, cellsOf, denS, den, R.st, R.b1, R.bA, R.tst, R.eo, R.part, P.isNil, tstS, dctD, op1, op2, opN, vals, give, T.val, Cell.val, Cell.own, boolOf, intOf, isaD, PyData.isInt, PyData.isBool, PyData.isTuple, PyData.isList, PyData.isStr, PyData.isDict,  RL.finish, retF, iosAt, outT, ioSlots, ioFrom, storeS, T.seal, sealAll, Tg.bind, callX, tmpIx, T.notF, R.cut, List.take_succ_cons, List.take_zero, List.take_nil, callR, argsOf, putIos, T.flat, flatO, flats, RL.flat, primD, prim1, prim2, lenD, intD, tupD, lstD, absD, maxD, minD, bl2, cmpD, eqOk, isNoneD, binD, addD, subD, modD, divD, negD, idxD, slcD, itrD, itemsD, sealR, enmD, zipD, rngD, parS, setS, appS, augS, augD, ownL,  List.getElem?_cons_zero, List.getElem?_cons_succ, List.getElem?_nil, List.set_cons_zero, List.set_cons_succ, List.length_cons, List.length_nil, List.replicate_succ, List.replicate_zero, List.cons_append, List.nil_append, Option.map_some, Option.map_none, Option.bind_some, Option.bind_none, Option.isSome_some, Option.isSome_none, if_true, if_false, List.contains_nil, Bool.false_eq_true, reduceCtorEq, Bool.not_true, Bool.not_false, List.nodup_nil, List.not_mem_nil, List.mem_cons, or_false, false_or, true_and, and_true, not_true_eq_false, not_false_eq_true, List.nodup_cons, Bool.true_and, Bool.and_true, List.all_nil, List.all_cons, Nat.reduceLT, Nat.reduceAdd, Nat.reduceSub, Nat.reduceLeDiff, Nat.zero_lt_succ, Nat.lt_add_one, wipeE, restore, List.map_cons, List.map_nil, Option.getD_some, Option.getD_none, Prod.mk.injEq, Option.some.injEq, implies_true, forall_const, true_or, or_true, ite_true, ite_false, forall_eq, forall_eq_or_imp, Nat.not_lt_zero, decide_true, decide_false, beq_self_eq_true, and_self, Nat.reduceEqDiff, List.getElem?_map, RL.shaped_int, RL.shaped_bool, RL.shaped_none, PyData.eqv, Int.reduceEq, Int.reduceNe, Int.reduceBEq, Int.reduceLT, Int.reduceLE, bne, false_imp_iff, true_imp_iff, Int.cast_ofNat_Int, Bool.not_eq_true, Bool.false_and, Bool.and_false, Bool.true_or, Bool.false_or, Bool.or_true, Bool.or_false, List.any_nil, List.any_cons]
        | _ => cases s <;> simp only [f7, io7, s7, h2, i2, eq_is_state, ho, treeOk, runF, cellsOf, denS, den, R.st, R.b1, R.bA, R.tst, R.eo, R.part, P.isNil, tstS, dctD, op1, op2, opN, vals, give, T.val, Cell.val, Cell.own, boolOf, intOf, isaD, PyData.isInt, PyData.isBool, PyData.isTuple, PyData.isList, PyData.isStr, PyData.isDict,  RL.finish, retF, iosAt, outT, ioSlots, ioFrom, storeS, T.seal, sealAll, Tg.bind, callX, tmpIx, T.notF, R.cut, List.take_succ_cons, List.take_zero, List.take_nil, callR, argsOf, putIos, T.flat, flatO, flats, RL.flat, primD, prim1, prim2, lenD, intD, tupD, lstD, absD, maxD, minD, bl2, cmpD, eqOk, isNoneD, binD, addD, subD, modD, divD, negD, idxD, slcD, itrD, itemsD, sealR, enmD, zipD, rngD, parS, setS, appS, augS, augD, ownL,  List.getElem?_cons_zero, List.getElem?_cons_succ, List.getElem?_nil, List.set_cons_zero, List.set_cons_succ, List.length_cons, List.length_nil, List.replicate_succ, List.replicate_zero, List.cons_append, List.nil_append, Option.map_some, Option.map_none, Option.bind_some, Option.bind_none, Option.isSome_some, Option.isSome_none, if_true, if_false, List.contains_nil, Bool.false_eq_true, reduceCtorEq, Bool.not_true, Bool.not_false, List.nodup_nil, List.not_mem_nil, List.mem_cons, or_false, false_or, true_and, and_true, not_true_eq_false, not_false_eq_true, List.nodup_cons, Bool.true_and, Bool.and_true, List.all_nil, List.all_cons, Nat.reduceLT, Nat.reduceAdd, Nat.reduceSub, Nat.reduceLeDiff, Nat.zero_lt_succ, Nat.lt_add_one, wipeE, restore, List.map_cons, List.map_nil, Option.getD_some, Option.getD_none, Prod.mk.injEq, Option.some.injEq, implies_true, forall_const, true_or, or_true, ite_true, ite_false, forall_eq, forall_eq_or_imp, Nat.not_lt_zero, decide_true, decide_false, beq_self_eq_true, and_self, Nat.reduceEqDiff, List.getElem?_map, RL.shaped_int, RL.shaped_bool, RL.shaped_none, PyData.eqv, Int.reduceEq, Int.reduceNe, Int.reduceBEq, Int.reduceLT, Int.reduceLE, bne, false_imp_iff, true_imp_iff, Int.cast_ofNat_Int, Bool.not_eq_true, Bool.false_and, Bool.and_false, Bool.true_or, Bool.false_or, Bool.or_true, Bool.or_false, List.any_nil, List.any_cons]
    · have h4 : ((ds.length : Int) == 3) = false := by simp; omega
      have e : treeOk m (.tuple ds) = false := by
        rcases ds with _ | ⟨a, _ | ⟨o, _ | ⟨n, _ | ⟨x, ds⟩⟩⟩⟩
        · rfl
        · rfl
        · cases o <;> rfl
        · simp at hl
        · cases o <;> cases n <;> rfl
      simp only [f7, io7, s7, h4, e, runF, cellsOf, denS, den, R.st, R.b1, R.bA, R.tst, R.eo, R.part, P.isNil, tstS, dctD, op1, op2, opN, vals, give, T.val, Cell.val, Cell.own, boolOf, intOf, isaD, PyData.isInt, PyData.isBool, PyData.isTuple, PyData.isList, PyData.isStr, PyData.isDict,  RL.finish, retF, iosAt, outT, ioSlots, ioFrom, storeS, T.seal, sealAll, Tg.bind, callX, tmpIx, T.notF, R.cut, List.take_succ_cons, List.take_zero, List.take_nil, callR, argsOf, putIos, T.flat, flatO, flats, RL.flat, primD, prim1, prim2, lenD, intD, tupD, lstD, absD, maxD, minD, bl2, cmpD, eqOk, isNoneD, binD, addD, subD, modD, divD, negD, idxD, slcD, itrD, itemsD, sealR, enmD, zipD, rngD, parS, setS, appS, augS, augD, ownL,  List.getElem?_cons_zero, List.getElem?_cons_succ, List.getElem?_nil, List.set_cons_zero, List.set_cons_succ, List.length_cons, List.length_nil, List.replicate_succ, List.replicate_zero, List.cons_append, List.nil_append, Option.map_some, Option.map_none, Option.bind_some, Option.bind_none, Option.isSome_some, Option.isSome_none, if_true, if_false, List.contains_nil, Bool.false_eq_true, reduceCtorEq, Bool.not_true, Bool.not_false, List.nodup_nil, List.not_mem_nil, List.mem_cons, or_false, false_or, true_and, and_true, not_true_eq_false, not_false_eq_true, List.nodup_cons, Bool.true_and, Bool.and_true, List.all_nil, List.all_cons, Nat.reduceLT, Nat.reduceAdd, Nat.reduceSub, Nat.reduceLeDiff, Nat.zero_lt_succ, Nat.lt_add_one, wipeE, restore, List.map_cons, List.map_nil, Option.getD_some, Option.getD_none, Prod.mk.injEq, Option.some.injEq, implies_true, forall_const, true_or, or_true, ite_true, ite_false, forall_eq, forall_eq_or_imp, Nat.not_lt_zero, decide_true, decide_false, beq_self_eq_true, and_self, Nat.reduceEqDiff, List.getElem?_map, RL.shaped_int, RL.shaped_bool, RL.shaped_none, PyData.eqv, Int.reduceEq, Int.reduceNe, Int.reduceBEq, Int.reduceLT, Int.reduceLE, bne, false_imp_iff, true_imp_iff, Int.cast_ofNat_Int, Bool.not_eq_true, Bool.false_and, Bool.and_false, Bool.true_or, Bool.false_or, Bool.or_true, Bool.or_false, List.any_nil, List.any_cons]
  | _ => simp only [f7, io7, s7, treeOk, runF, cellsOf, denS, den, R.st, R.b1, R.bA, R.tst, R.eo, R.part, P.isNil, tstS, dctD, op1, op2, opN, vals, give, T.val, Cell.val, Cell.own, boolOf, intOf, isaD, PyData.isInt, PyData.isBool, PyData.isTuple, PyData.isList, PyData.isStr, PyData.isDict,  RL.finish, retF, iosAt, outT, ioSlots, ioFrom, storeS, T.seal, sealAll, Tg.bind, callX, tmpIx, T.notF, R.cut, List.take_succ_cons, List.take_zero, List.take_nil, callR, argsOf, putIos, T.flat, flatO, flats, RL.flat, primD, prim1, prim2, lenD, intD, tupD, lstD, absD, maxD, minD, bl2, cmpD, eqOk, isNoneD, binD, addD, subD, modD, divD, negD, idxD, slcD, itrD, itemsD, sealR, enmD, zipD, rngD, parS, setS, appS, augS, augD, ownL,  List.getElem?_cons_zero, List.getElem?_cons_succ, List.getElem?_nil, List.set_cons_zero, List.set_cons_succ, List.length_cons, List.length_nil, List.replicate_succ, List.replicate_zero, List.cons_append, List.nil_append, Option.map_some, Option.map_none, Option.bind_some, Option.bind_none, Option.isSome_some, Option.isSome_none, if_true, if_false, List.contains_nil, Bool.false_eq_true, reduceCtorEq, Bool.not_true, Bool.not_false, List.nodup_nil, List.not_mem_nil, List.mem_cons, or_false, false_or, true_and, and_true, not_true_eq_false, not_false_eq_true, List.nodup_cons, Bool.true_and, Bool.and_true, List.all_nil, List.all_cons, Nat.reduceLT, Nat.reduceAdd, Nat.reduceSub, Nat.reduceLeDiff, Nat.zero_lt_succ, Nat.lt_add_one, wipeE, restore, List.map_cons, List.map_nil, Option.getD_some, Option.getD_none, Prod.mk.injEq, Option.some.injEq, implies_true, forall_const, true_or, or_true, ite_true, ite_false, forall_eq, forall_eq_or_imp, Nat.not_lt_zero, decide_true, decide_false, beq_self_eq_true, and_self, Nat.reduceEqDiff, List.getElem?_map, RL.shaped_int, RL.shaped_bool, RL.shaped_none, PyData.eqv, Int.reduceEq, Int.reduceNe, Int.reduceBEq, Int.reduceLT, Int.reduceLE, bne, false_imp_iff, true_imp_iff, Int.cast_ofNat_Int, Bool.not_eq_true, Bool.false_and, Bool.and_false, Bool.true_or, Bool.false_or, Bool.or_true, Bool.or_false, List.any_nil, List.any_cons]
end K74

namespace K74
open PySem RL
theorem enmL_at {ds : List PyData} {i : Nat} {d : PyData} (h : (enmL ds)[i]? = some d) : ∃ x, ds[i]? = some x ∧ d = .tuple [.int (i : Int), x] := by
  have hi : i < ds.length := by rw [← enmL_len]; exact (List.getElem?_eq_some_iff.mp h).1
  rw [RL.enmL_get hi] at h
  exact ⟨ds[i], List.getElem?_eq_getElem hi, (Option.some.inj h).symm⟩
def parL (ps : List PyData) : Prop := ∀ j, j < ps.length → ∃ p : Int, ps[j]? = some (.int p) ∧ -1 ≤ p ∧ p < j
theorem parL_snoc {ps : List PyData} (h : parL ps) {p : Int} (p0 : -1 ≤ p) (p1 : p < ps.length) : parL (ps ++ [.int p]) := by
  intro j hj
  rw [List.length_append, List.length_singleton] at hj
  by_cases e : j < ps.length
  · rw [List.getElem?_append_left e]; exact h j e
  · have e' : j = ps.length := by omega
    subst e'
    exact ⟨p, by simp, p0, p1⟩
theorem tree_mk {m o : Int} {ps ss : List PyData} (h0 : 0 ≤ o) (h1 : o < m) (hp : parL ps) (hl : ps.length = ss.length) (hm : ss.length ≤ 250) (hs : ss.all (below m) = true) : treeOk m (.tuple [.int o, .tuple ps, .tuple ss]) = true := by
  have e : (enmL ps).all parOk = true := all_get fun i d hd => by
    obtain ⟨x, hx, rfl⟩ := enmL_at hd
    obtain ⟨p, hq, p0, p1⟩ := hp i (List.getElem?_eq_some_iff.mp hx).1
    rw [hx] at hq
    cases Option.some.inj hq
    simp only [parOk, Bool.and_eq_true, decide_eq_true_eq]
    exact ⟨p0, p1⟩
  simp only [treeOk, e, hs, Bool.and_true, Bool.and_eq_true, decide_eq_true_eq]
  exact ⟨⟨below_iff.mpr ⟨h0, h1⟩, hl⟩, hm⟩
end K74

namespace K74
open PySem RL
/-- whether a rule can fire -/
def fires (a o : Int) : PyData → Bool
  | .tuple (.int x :: .int y :: _) => x == a && y == o
  | _ => false
def firingB (rs : List PyData) (a o : Int) : PyData → Bool
  | .int k => fires a o (rs.getD k.toNat .none)
  | _ => false
def firing (rs : List PyData) (a o : Int) : List PyData := ((rangeD 0 (rs.length : Int)).filter (firingB rs a o)).map id
theorem firing_ints {rs : List PyData} {a o : Int} : ∀ d ∈ firing rs a o, ∃ k : Int, d = .int k ∧ 0 ≤ k ∧ k < (rs.length : Int) := by
  intro d hd
  simp only [firing, List.map_id, List.mem_filter] at hd
  exact rangeD_mem hd.1
theorem firing_len (rs : List PyData) (a o : Int) : (firing rs a o).length ≤ rs.length := by
  have h := List.length_filter_le (firingB rs a o) (rangeD 0 (rs.length : Int))
  rw [rangeD_len] at h
  simp only [firing, List.length_map]; omega
theorem getD_rule {m : Int} {rs : List PyData} (h : rs.all (ruleOk m) = true) {k : Int} (k0 : 0 ≤ k) (k1 : k < (rs.length : Int)) : ruleOk m (rs.getD k.toNat .none) = true := by
  have hj : k.toNat < rs.length := by omega
  have hj' : rs.getD k.toNat .none = rs[k.toNat] := by rw [List.getD_eq_getElem?_getD, List.getElem?_eq_getElem hj, Option.getD_some]
  rw [hj']; exact List.all_eq_true.mp h _ (List.getElem_mem hj)
theorem eq_firing_rules {m : Int} {rs : List PyData} (hr : rs.all (ruleOk m) = true) (hl : rs.length ≤ 1000) (b0 : PyData) (a o : Int) :
    f6.φ [.tuple [b0, .tuple rs], .int a, .int o] = .ret (.f (.list (firing rs a o))) [] := by
  have b1 : L2.atI ([b0, .tuple rs] : List PyData) (1 : Int) = some (.tuple rs) := rfl
  have hy : (rangeD 0 (rs.length : Int)).length ≤ 16777216 := by rw [rangeD_len]; omega
  have hg := gen_filter (t := (.nm 4)) (c := den (fun j => L6[j]?) (.and (.cmp .Eq (.idx (.idx (.var 3) (.var 4)) (.cst (.int 0))) (.var 1)) (.cmp .Eq (.idx (.idx (.var 3) (.var 4)) (.cst (.int 1))) (.var 2)))) (b := den (fun j => L6[j]?) (.var 4)) (ws := [4])
    (ρ := [.pu (.tuple [b0, .tuple rs]), .pu (.int a), .pu (.int o), .pu (.tuple rs), .un]) (firingB rs a o) id (rangeD 0 (rs.length : Int)) (fun d hd => by
      obtain ⟨k, rfl, k0, k1⟩ := rangeD_mem hd
      have e1 := atI_one k0 k1
      have hrk := getD_rule hr k0 k1
      obtain ⟨x, y, z, sg, e, _, _, _, _, _, _⟩ := ruleOk_inv hrk
      rw [e] at e1
      have e3 : firingB rs a o (.int k) = (x == a && y == o) := by simp only [firingB, e, fires]
      have c0 : L2.atI ([.int x, .int y, .int z, .tuple sg] : List PyData) (0 : Int) = some (.int x) := rfl
      have c1 : L2.atI ([.int x, .int y, .int z, .tuple sg] : List PyData) (1 : Int) = some (.int y) := rfl
      refine ⟨[.pu (.tuple [b0, .tuple rs]), .pu (.int a), .pu (.int o), .pu (.tuple rs), .pu (.int k)], rfl, ?_, rfl, fun _ => ⟨.p (.int k), [.pu (.tuple [b0, .tuple rs]), .pu (.int a), .pu (.int o), .pu (.tuple rs), .pu (.int k)], [.pu (.tuple [b0, .tuple rs]), .pu (.int a), .pu (.int o), .pu (.tuple rs), .pu (.int k)], ?_, rfl, rfl⟩⟩
      · rw [e3]
        cases hxa : x == a <;> simp only [e1, c0, c1, hxa, runF, cellsOf, denS, den, R.st, R.b1, R.bA, R.tst, R.eo, R.part, P.isNil, tstS, dctD, op1, op2, opN, vals, give, T.val, Cell.val, Cell.own, boolOf, intOf, isaD, PyData.isInt, PyData.isBool, PyData.isTuple, PyData.isList, PyData.isStr, PyData.isDict,  RL.finish, retF, iosAt, outT, ioSlots, ioFrom, storeS, T.seal, sealAll, Tg.bind, callX, tmpIx, T.notF, R.cut, List.take_succ_cons, List.take_zero, List.take_nil, callR, argsOf, putIos, T.flat, flatO, flats, RL.flat, primD, prim1, prim2, lenD, intD, tupD, lstD, absD, maxD, minD, bl2, cmpD, eqOk, isNoneD, binD, addD, subD, modD, divD, negD, idxD, slcD, itrD, itemsD, sealR, enmD, zipD, rngD, parS, setS, appS, augS, augD, ownL,  List.getElem?_cons_zero, List.getElem?_cons_succ, List.getElem?_nil, List.set_cons_zero, List.set_cons_succ, List.length_cons, List.length_nil, List.replicate_succ, List.replicate_zero, List.cons_append, List.nil_append, Option.map_some, Option.map_none, Option.bind_some, Option.bind_none, Option.isSome_some, Option.isSome_none, if_true, if_false, List.contains_nil, Bool.false_eq_true, reduceCtorEq, Bool.not_true, Bool.not_false, List.nodup_nil, List.not_mem_nil, List.mem_cons, or_false, false_or, true_and, and_true, not_true_eq_false, not_false_eq_true, List.nodup_cons, Bool.true_and, Bool.and_true, List.all_nil, List.all_cons, Nat.reduceLT, Nat.reduceAdd, Nat.reduceSub, Nat.reduceLeDiff, Nat.zero_lt_succ, Nat.lt_add_one, wipeE, restore, List.map_cons, List.map_nil, Option.getD_some, Option.getD_none, Prod.mk.injEq, Option.some.injEq, implies_true, forall_const, true_or, or_true, ite_true, ite_false, forall_eq, forall_eq_or_imp, Nat.not_lt_zero, decide_true, decide_false, beq_self_eq_true, and_self, Nat.reduceEqDiff, List.getElem?_map, RL.shaped_int, RL.shaped_bool, RL.shaped_none, PyData.eqv, Int.reduceEq, Int.reduceNe, Int.reduceBEq, Int.reduceLT, Int.reduceLE, bne, false_imp_iff, true_imp_iff, Int.cast_ofNat_Int, Bool.not_eq_true, Bool.false_and, Bool.and_false, Bool.true_or, Bool.false_or, Bool.or_true, Bool.or_false, List.any_nil, List.any_cons]
      · simp only [runF, cellsOf, denS, den, R.st, R.b1, R.bA, R.tst, R.eo, R.part, P.isNil, tstS, dctD, op1, op2, opN, vals, give, T.val, Cell.val, Cell.own, boolOf, intOf, isaD, PyData.isInt, PyData.isBool, PyData.isTuple, PyData.isList, PyData.isStr, PyData.isDict,  RL.finish, retF, iosAt, outT, ioSlots, ioFrom, storeS, T.seal, sealAll, Tg.bind, callX, tmpIx, T.notF, R.cut, List.take_succ_cons, List.take_zero, List.take_nil, callR, argsOf, putIos, T.flat, flatO, flats, RL.flat, primD, prim1, prim2, lenD, intD, tupD, lstD, absD, maxD, minD, bl2, cmpD, eqOk, isNoneD, binD, addD, subD, modD, divD, negD, idxD, slcD, itrD, itemsD, sealR, enmD, zipD, rngD, parS, setS, appS, augS, augD, ownL,  List.getElem?_cons_zero, List.getElem?_cons_succ, List.getElem?_nil, List.set_cons_zero, List.set_cons_succ, List.length_cons, List.length_nil, List.replicate_succ, List.replicate_zero, List.cons_append, List.nil_append, Option.map_some, Option.map_none, Option.bind_some, Option.bind_none, Option.isSome_some, Option.isSome_none, if_true, if_false, List.contains_nil, Bool.false_eq_true, reduceCtorEq, Bool.not_true, Bool.not_false, List.nodup_nil, List.not_mem_nil, List.mem_cons, or_false, false_or, true_and, and_true, not_true_eq_false, not_false_eq_true, List.nodup_cons, Bool.true_and, Bool.and_true, List.all_nil, List.all_cons, Nat.reduceLT, Nat.reduceAdd, Nat.reduceSub, Nat.reduceLeDiff, Nat.zero_lt_succ, Nat.lt_add_one, wipeE, restore, List.map_cons, List.map_nil, Option.getD_some, Option.getD_none, Prod.mk.injEq, Option.some.injEq, implies_true, forall_const, true_or, or_true, ite_true, ite_false, forall_eq, forall_eq_or_imp, Nat.not_lt_zero, decide_true, decide_false, beq_self_eq_true, and_self, Nat.reduceEqDiff, List.getElem?_map, RL.shaped_int, RL.shaped_bool, RL.shaped_none, PyData.eqv, Int.reduceEq, Int.reduceNe, Int.reduceBEq, Int.reduceLT, Int.reduceLE, bne, false_imp_iff, true_imp_iff, Int.cast_ofNat_Int, Bool.not_eq_true, Bool.false_and, Bool.and_false, Bool.true_or, Bool.false_or, Bool.or_true, Bool.or_false, List.any_nil, List.any_cons])
  simp only [runF, cellsOf, denS, den, R.st, R.b1, R.bA, R.tst, R.eo, R.part, P.isNil, tstS, dctD, op1, op2, opN, vals, give, T.val, Cell.val, Cell.own, boolOf, intOf, isaD, PyData.isInt, PyData.isBool, PyData.isTuple, PyData.isList, PyData.isStr, PyData.isDict,  RL.finish, retF, iosAt, outT, ioSlots, ioFrom, storeS, T.seal, sealAll, Tg.bind, callX, tmpIx, T.notF, R.cut, List.take_succ_cons, List.take_zero, List.take_nil, callR, argsOf, putIos, T.flat, flatO, flats, RL.flat, primD, prim1, prim2, lenD, intD, tupD, lstD, absD, maxD, minD, bl2, cmpD, eqOk, isNoneD, binD, addD, subD, modD, divD, negD, idxD, slcD, itrD, itemsD, sealR, enmD, zipD, rngD, parS, setS, appS, augS, augD, ownL,  List.getElem?_cons_zero, List.getElem?_cons_succ, List.getElem?_nil, List.set_cons_zero, List.set_cons_succ, List.length_cons, List.length_nil, List.replicate_succ, List.replicate_zero, List.cons_append, List.nil_append, Option.map_some, Option.map_none, Option.bind_some, Option.bind_none, Option.isSome_some, Option.isSome_none, if_true, if_false, List.contains_nil, Bool.false_eq_true, reduceCtorEq, Bool.not_true, Bool.not_false, List.nodup_nil, List.not_mem_nil, List.mem_cons, or_false, false_or, true_and, and_true, not_true_eq_false, not_false_eq_true, List.nodup_cons, Bool.true_and, Bool.and_true, List.all_nil, List.all_cons, Nat.reduceLT, Nat.reduceAdd, Nat.reduceSub, Nat.reduceLeDiff, Nat.zero_lt_succ, Nat.lt_add_one, wipeE, restore, List.map_cons, List.map_nil, Option.getD_some, Option.getD_none, Prod.mk.injEq, Option.some.injEq, implies_true, forall_const, true_or, or_true, ite_true, ite_false, forall_eq, forall_eq_or_imp, Nat.not_lt_zero, decide_true, decide_false, beq_self_eq_true, and_self, Nat.reduceEqDiff, List.getElem?_map, RL.shaped_int, RL.shaped_bool, RL.shaped_none, PyData.eqv, Int.reduceEq, Int.reduceNe, Int.reduceBEq, Int.reduceLT, Int.reduceLE, bne, false_imp_iff, true_imp_iff, Int.cast_ofNat_Int, Bool.not_eq_true, Bool.false_and, Bool.and_false, Bool.true_or, Bool.false_or, Bool.or_true, Bool.or_false, List.any_nil, List.any_cons] at hg
  unfold firing
  generalize hrl : (rs.length : Int) = L at *
  obtain ⟨r1, r2⟩ := rng_in (m := L) (by omega) (by omega)
  generalize ((rangeD 0 L).filter (firingB rs a o)).map id = gs at hg ⊢
  simp only [f6, io6, s6, b1, hrl, r1, r2, hy, hg, runF, cellsOf, denS, den, R.st, R.b1, R.bA, R.tst, R.eo, R.part, P.isNil, tstS, dctD, op1, op2, opN, vals, give, T.val, Cell.val, Cell.own, boolOf, intOf, isaD, PyData.isInt, PyData.isBool, PyData.isTuple, PyData.isList, PyData.isStr, PyData.isDict,  RL.finish, retF, iosAt, outT, ioSlots, ioFrom, storeS, T.seal, sealAll, Tg.bind, callX, tmpIx, T.notF, R.cut, List.take_succ_cons, List.take_zero, List.take_nil, callR, argsOf, putIos, T.flat, flatO, flats, RL.flat, primD, prim1, prim2, lenD, intD, tupD, lstD, absD, maxD, minD, bl2, cmpD, eqOk, isNoneD, binD, addD, subD, modD, divD, negD, idxD, slcD, itrD, itemsD, sealR, enmD, zipD, rngD, parS, setS, appS, augS, augD, ownL,  List.getElem?_cons_zero, List.getElem?_cons_succ, List.getElem?_nil, List.set_cons_zero, List.set_cons_succ, List.length_cons, List.length_nil, List.replicate_succ, List.replicate_zero, List.cons_append, List.nil_append, Option.map_some, Option.map_none, Option.bind_some, Option.bind_none, Option.isSome_some, Option.isSome_none, if_true, if_false, List.contains_nil, Bool.false_eq_true, reduceCtorEq, Bool.not_true, Bool.not_false, List.nodup_nil, List.not_mem_nil, List.mem_cons, or_false, false_or, true_and, and_true, not_true_eq_false, not_false_eq_true, List.nodup_cons, Bool.true_and, Bool.and_true, List.all_nil, List.all_cons, Nat.reduceLT, Nat.reduceAdd, Nat.reduceSub, Nat.reduceLeDiff, Nat.zero_lt_succ, Nat.lt_add_one, wipeE, restore, List.map_cons, List.map_nil, Option.getD_some, Option.getD_none, Prod.mk.injEq, Option.some.injEq, implies_true, forall_const, true_or, or_true, ite_true, ite_false, forall_eq, forall_eq_or_imp, Nat.not_lt_zero, decide_true, decide_false, beq_self_eq_true, and_self, Nat.reduceEqDiff, List.getElem?_map, RL.shaped_int, RL.shaped_bool, RL.shaped_none, PyData.eqv, Int.reduceEq, Int.reduceNe, Int.reduceBEq, Int.reduceLT, Int.reduceLE, bne, false_imp_iff, true_imp_iff, Int.cast_ofNat_Int, Bool.not_eq_true, Bool.false_and, Bool.and_false, Bool.true_or, Bool.false_or, Bool.or_true, Bool.or_false, List.any_nil, List.any_cons]
end K74

namespace K74
/-! how many fillings leave every node quiet: from the last node on -/
/-- a sum over the states below n -/
def sumN (n : Nat) (f : Nat → Int) : Int := ((List.range n).map f).sum
theorem sum_map_mul {α : Type} (l : List α) (f : α → Int) (c : Int) : (l.map fun x => f x * c).sum = (l.map f).sum * c := by
  induction l with
  | nil => simp
  | cons a l ih => simp only [List.map_cons, List.sum_cons, ih, Int.add_mul]
theorem sum_map_mul' {α : Type} (l : List α) (f : α → Int) (c : Int) : (l.map fun x => c * f x).sum = c * (l.map f).sum := by
  induction l with
  | nil => simp
  | cons a l ih => simp only [List.map_cons, List.sum_cons, ih, Int.mul_add]
theorem sum_flatMap {α β : Type} (l : List α) (g : α → List β) (f : β → Int) : ((l.flatMap g).map f).sum = (l.map fun a => ((g a).map f).sum).sum := by
  induction l with
  | nil => rfl
  | cons a l ih => simp only [List.flatMap_cons, List.map_append, List.sum_append, List.map_cons, List.sum_cons, ih]
section
variable (n : Nat) (q : Nat → Nat → Bool) (o : Nat)
/-- all tuples of so many states, in order -/
def fills : Nat → List (List Nat)
  | 0 => [[]]
  | k + 1 => (fills k).flatMap fun f => (List.range n).map fun s => f ++ [s]
theorem fills_len : ∀ (k : Nat) (f : List Nat), f ∈ fills n k → f.length = k
  | 0, f, h => by simp only [fills, List.mem_singleton] at h; subst h; rfl
  | k + 1, f, h => by
    simp only [fills, List.mem_flatMap, List.mem_map] at h
    obtain ⟨g, hg, s, _, rfl⟩ := h
    simp [fills_len k g hg]
theorem fills_lt : ∀ (k : Nat) (f : List Nat), f ∈ fills n k → ∀ s ∈ f, s < n
  | 0, f, h => by simp only [fills, List.mem_singleton] at h; subst h; exact nofun
  | k + 1, f, h => by
    simp only [fills, List.mem_flatMap, List.mem_map, List.mem_range] at h
    obtain ⟨g, hg, s, hs, rfl⟩ := h
    intro t ht
    rcases List.mem_append.mp ht with ht | ht
    · exact fills_lt k g hg t ht
    · rw [List.mem_singleton] at ht; rw [ht]; exact hs
variable (par : Nat → Option Nat)
/-- the state above a node -/
def abv (f : List Nat) (j : Nat) : Nat := match par j with
  | none => o
  | some p => f.getD p 0
/-- the weight of the first nodes -/
def wt (b : Nat → Nat → Int) (f : List Nat) : Nat → Int
  | 0 => 1
  | k + 1 => wt b f k * (if q (abv o par f k) (f.getD k 0) = true then b k (f.getD k 0) else 0)
def W (k : Nat) (b : Nat → Nat → Int) : Int := ((fills n k).map fun f => wt q o par b f k).sum
/-- how many ways a node has, by the state above -/
def ways (b : Nat → Nat → Int) (k a : Nat) : Int := sumN n fun s => if q a s = true then b k s else 0
variable {par}
theorem wt_snoc (hp : ∀ j p, par j = some p → p < j) (b : Nat → Nat → Int) (f : List Nat) (s : Nat) : ∀ k, k ≤ f.length → wt q o par b (f ++ [s]) k = wt q o par b f k
  | 0, _ => rfl
  | k + 1, hk => by
    have e1 : (f ++ [s]).getD k 0 = f.getD k 0 := by simp only [List.getD_eq_getElem?_getD]; rw [List.getElem?_append_left (by omega)]
    have e2 : abv o par (f ++ [s]) k = abv o par f k := by
      unfold abv
      cases h : par k with
      | none => rfl
      | some p =>
        have := hp k p h
        simp only [List.getD_eq_getElem?_getD]; rw [List.getElem?_append_left (by omega)]
    simp only [wt, wt_snoc hp b f s k (by omega), e1, e2]
theorem W_succ (hp : ∀ j p, par j = some p → p < j) (b : Nat → Nat → Int) (k : Nat) : W n q o par (k + 1) b = ((fills n k).map fun f => wt q o par b f k * ways n q b k (abv o par f k)).sum := by
  unfold W
  rw [fills, sum_flatMap]
  congr 1
  refine List.map_congr_left fun f hf => ?_
  have hl := fills_len n k f hf
  rw [List.map_map]
  unfold ways sumN
  rw [← sum_map_mul']
  congr 1
  refine List.map_congr_left fun s _ => ?_
  have e1 : (f ++ [s]).getD k 0 = s := by simp [List.getD_eq_getElem?_getD, ← hl]
  have e2 : abv o par (f ++ [s]) k = abv o par f k := by
    unfold abv
    cases h : par k with
    | none => rfl
    | some p =>
      have := hp k p h
      simp only [List.getD_eq_getElem?_getD]; rw [List.getElem?_append_left (by omega)]
  simp only [Function.comp, wt, wt_snoc q o hp b f s k (by omega), e1, e2]
/-- one value multiplied -/
def mulAt (b : Nat → Nat → Int) (p : Nat) (c : Nat → Int) : Nat → Nat → Int := fun j s => if j = p then b j s * c s else b j s
theorem wt_mulAt (b : Nat → Nat → Int) (p : Nat) (c : Nat → Int) (f : List Nat) : ∀ k, wt q o par (mulAt b p c) f k = wt q o par b f k * (if p < k then c (f.getD p 0) else 1)
  | 0 => by simp [wt]
  | k + 1 => by
    simp only [wt, wt_mulAt b p c f k, mulAt]
    by_cases h : k = p
    · subst h
      rw [if_neg (Nat.lt_irrefl _), if_pos rfl, if_pos (Nat.lt_succ_self _), Int.mul_one]
      split
      · rw [Int.mul_assoc]
      · simp
    · rw [if_neg h]
      have e : (if p < k + 1 then c (f.getD p 0) else (1 : Int)) = if p < k then c (f.getD p 0) else 1 := by
        by_cases h2 : p < k
        · rw [if_pos h2, if_pos (by omega)]
        · rw [if_neg h2, if_neg (by omega)]
      rw [e, Int.mul_assoc, Int.mul_assoc]
      congr 1
      exact Int.mul_comm _ _
/-- one node, then all from the last on -/
def stp (par : Nat → Option Nat) (k : Nat) (st : (Nat → Nat → Int) × Int) : (Nat → Nat → Int) × Int :=
  match par k with
  | none => (st.1, st.2 * ways n q st.1 k o)
  | some p => (mulAt st.1 p (ways n q st.1 k), st.2)
def run (par : Nat → Option Nat) : Nat → (Nat → Nat → Int) × Int → (Nat → Nat → Int) × Int
  | 0, st => st
  | k + 1, st => run par k (stp n q o par k st)
theorem run_W (hp : ∀ j p, par j = some p → p < j) : ∀ (k : Nat) (b : Nat → Nat → Int) (t : Int), (run n q o par k (b, t)).2 = t * W n q o par k b
  | 0, b, t => by simp [run, W, fills, wt]
  | k + 1, b, t => by
    rw [run, W_succ n q o hp b k]
    unfold stp
    cases h : par k with
    | none =>
      simp only
      rw [run_W hp k, Int.mul_assoc]
      congr 1
      unfold W
      rw [Int.mul_comm, ← sum_map_mul]
      congr 1
      refine List.map_congr_left fun f _ => ?_
      simp only [abv, h]
    | some p =>
      simp only
      rw [run_W hp k]
      congr 1
      unfold W
      congr 1
      refine List.map_congr_left fun f _ => ?_
      rw [wt_mulAt, if_pos (hp k p h)]
      simp only [abv, h]
/-- quiet nodes -/
def quietB (par : Nat → Option Nat) (f : List Nat) (k : Nat) : Bool := (List.range k).all fun j => q (abv o par f j) (f.getD j 0)
theorem wt_one (f : List Nat) : ∀ k, wt q o par (fun _ _ => 1) f k = if quietB q o par f k = true then 1 else 0
  | 0 => rfl
  | k + 1 => by
    rw [wt, wt_one f k]
    unfold quietB
    rw [List.range_succ, List.all_append, List.all_cons, List.all_nil, Bool.and_true]
    cases (List.range k).all fun j => q (abv o par f j) (f.getD j 0) <;> cases q (abv o par f k) (f.getD k 0) <;> rfl
theorem count_filter {α : Type} (l : List α) (p : α → Bool) : (l.map fun x => if p x = true then (1 : Int) else 0).sum = ((l.filter p).length : Int) := by
  induction l with
  | nil => rfl
  | cons a l ih =>
    rw [List.map_cons, List.sum_cons, ih, List.filter_cons]
    cases p a with
    | true => rw [if_pos rfl, if_pos rfl, List.length_cons]; omega
    | false => rw [if_neg (by decide), if_neg (by decide)]; omega
/-- what the program counts -/
def total (par : Nat → Option Nat) (k : Nat) : Int := (run n q o par k (fun _ _ => 1, 1)).2
theorem total_eq (hp : ∀ j p, par j = some p → p < j) (k : Nat) : total n q o par k = (((fills n k).filter fun f => quietB q o par f k).length : Int) := by
  unfold total
  rw [run_W n q o hp, Int.one_mul]
  unfold W
  rw [← count_filter]
  congr 1
  exact List.map_congr_left fun f _ => wt_one q o f k
/-! side by side -/
def joinB (k : Nat) (b1 b : Nat → Nat → Int) : Nat → Nat → Int := fun j s => if j < k then b1 j s else b (j - k) s
def joinP (k : Nat) (par1 par2 : Nat → Option Nat) : Nat → Option Nat := fun j => if j < k then par1 j else (par2 (j - k)).map (k + ·)
theorem ways_join (k v a : Nat) (b1 b : Nat → Nat → Int) : ways n q (joinB k b1 b) (k + v) a = ways n q b v a := by
  unfold ways sumN
  congr 1
  refine List.map_congr_left fun s _ => ?_
  have : joinB k b1 b (k + v) s = b v s := by
    unfold joinB
    rw [if_neg (by omega), Nat.add_sub_cancel_left]
  rw [this]
theorem mulAt_join (k p : Nat) (b1 b : Nat → Nat → Int) (c : Nat → Int) : mulAt (joinB k b1 b) (k + p) c = joinB k b1 (mulAt b p c) := by
  funext j s
  unfold mulAt joinB
  by_cases h : j < k
  · rw [if_neg (by omega), if_pos h, if_pos h]
  · rw [if_neg h, if_neg h]
    show _ = if j - k = p then b (j - k) s * c s else b (j - k) s
    by_cases h2 : j = k + p
    · rw [if_pos h2, if_pos (by omega)]
    · rw [if_neg h2, if_neg (by omega)]
theorem run_join (k : Nat) (par1 par2 : Nat → Option Nat) (b1 : Nat → Nat → Int) : ∀ (m : Nat) (b : Nat → Nat → Int) (t : Int), run n q o (joinP k par1 par2) (k + m) (joinB k b1 b, t) = run n q o (joinP k par1 par2) k (joinB k b1 (run n q o par2 m (b, t)).1, (run n q o par2 m (b, t)).2)
  | 0, b, t => rfl
  | m + 1, b, t => by
    show run n q o _ (k + m) (stp n q o _ (k + m) _) = _
    have e : joinP k par1 par2 (k + m) = (par2 m).map (k + ·) := by
      unfold joinP
      rw [if_neg (by omega), Nat.add_sub_cancel_left]
    rw [show run n q o par2 (m + 1) (b, t) = run n q o par2 m (stp n q o par2 m (b, t)) from rfl]
    unfold stp
    rw [e]
    cases h : par2 m with
    | none =>
      simp only [Option.map_none]
      rw [ways_join]
      exact run_join k par1 par2 b1 m _ _
    | some p =>
      simp only [Option.map_some]
      rw [show ways n q (joinB k b1 b) (k + m) = ways n q b m from funext fun a => ways_join n q k m a b1 b, mulAt_join]
      exact run_join k par1 par2 b1 m _ _
theorem wt_join (k : Nat) (par1 par2 : Nat → Option Nat) (b1 b : Nat → Nat → Int) (f : List Nat) : ∀ j, j ≤ k → wt q o (joinP k par1 par2) (joinB k b1 b) f j = wt q o par1 b1 f j
  | 0, _ => rfl
  | j + 1, h => by
    have e1 : abv o (joinP k par1 par2) f j = abv o par1 f j := by unfold abv joinP; rw [if_pos (by omega)]
    have e2 : ∀ s, joinB k b1 b j s = b1 j s := fun s => by unfold joinB; rw [if_pos (by omega)]
    simp only [wt, wt_join k par1 par2 b1 b f j (by omega), e1, e2]
theorem join_lt {k : Nat} {par1 par2 : Nat → Option Nat} (h1 : ∀ j p, par1 j = some p → p < j) (h2 : ∀ j p, par2 j = some p → p < j) : ∀ j p, joinP k par1 par2 j = some p → p < j := by
  intro j p h
  unfold joinP at h
  split at h
  · exact h1 j p h
  · obtain ⟨p', e, rfl⟩ := Option.map_eq_some_iff.mp h
    have := h2 _ _ e
    omega
theorem total_join {k : Nat} {par1 par2 : Nat → Option Nat} (h1 : ∀ j p, par1 j = some p → p < j) (h2 : ∀ j p, par2 j = some p → p < j) (m : Nat) : total n q o (joinP k par1 par2) (k + m) = total n q o par1 k * total n q o par2 m := by
  unfold total
  have e : (fun _ _ => (1 : Int)) = joinB k (fun _ _ => 1) fun _ _ => 1 := by
    funext j s; unfold joinB; split <;> rfl
  rw [show run n q o (joinP k par1 par2) (k + m) (fun _ _ => 1, 1) = run n q o (joinP k par1 par2) (k + m) (joinB k (fun _ _ => 1) fun _ _ => 1, 1) by rw [← e]]
  rw [run_join, run_W n q o (join_lt h1 h2), run_W n q o h1, Int.one_mul, Int.mul_comm]
  congr 1
  unfold W
  congr 1
  exact List.map_congr_left fun f _ => wt_join q o k par1 par2 _ _ f k (Nat.le_refl _)
theorem W_par {par1 par2 : Nat → Option Nat} (k : Nat) (h : ∀ j, j < k → par1 j = par2 j) (b : Nat → Nat → Int) (f : List Nat) : ∀ j, j ≤ k → wt q o par1 b f j = wt q o par2 b f j
  | 0, _ => rfl
  | j + 1, hj => by
    have e1 : abv o par1 f j = abv o par2 f j := by unfold abv; rw [h j (by omega)]
    simp only [wt, W_par k h b f j (by omega), e1]
/-- bounds -/
def sumE (e : Nat → Nat) : Nat → Nat
  | 0 => 0
  | k + 1 => sumE e k + e k
theorem le_sumE (e : Nat → Nat) : ∀ k j, j < k → e j ≤ sumE e k
  | k + 1, j, h => by
    unfold sumE
    by_cases hj : j = k
    · subst hj; omega
    · have := le_sumE e k j (by omega); omega
theorem sumE_upd (e : Nat → Nat) (p d : Nat) : ∀ k, sumE (fun j => if j = p then e j + d else e j) k = sumE e k + if p < k then d else 0
  | 0 => by simp [sumE]
  | k + 1 => by
    simp only [sumE, sumE_upd e p d k]
    by_cases h : k = p
    · subst h; rw [if_pos rfl, if_neg (by omega), if_pos (by omega)]; omega
    · rw [if_neg h]
      by_cases h2 : p < k
      · rw [if_pos h2, if_pos (by omega)]; omega
      · rw [if_neg h2, if_neg (by omega)]; omega
structure Bd (N k : Nat) (b : Nat → Nat → Int) (t : Int) : Prop where
  ex : ∃ (e : Nat → Nat) (et : Nat), (∀ j s, 0 ≤ b j s ∧ b j s ≤ 4 ^ e j) ∧ 0 ≤ t ∧ t ≤ 4 ^ et ∧ et + sumE e k + k ≤ N
theorem sum_le {l : List Nat} {f : Nat → Int} {B : Int} (h : ∀ s ∈ l, 0 ≤ f s ∧ f s ≤ B) : 0 ≤ (l.map f).sum ∧ (l.map f).sum ≤ l.length * B := by
  induction l with
  | nil => simp
  | cons a l ih =>
    obtain ⟨h1, h2⟩ := h a List.mem_cons_self
    obtain ⟨h3, h4⟩ := ih fun s hs => h s (List.mem_cons_of_mem _ hs)
    simp only [List.map_cons, List.sum_cons, List.length_cons]
    have : ((l.length + 1 : Nat) : Int) * B = l.length * B + B := by
      rw [Int.natCast_add, Int.add_mul]; simp
    omega
theorem ways_le (hn : n ≤ 4) {b : Nat → Nat → Int} {k e : Nat} (h : ∀ s, 0 ≤ b k s ∧ b k s ≤ 4 ^ e) (a : Nat) : 0 ≤ ways n q b k a ∧ ways n q b k a ≤ 4 ^ (e + 1) := by
  have hp : (0 : Int) ≤ 4 ^ e := Int.le_trans (h 0).1 (h 0).2
  have := sum_le (l := List.range n) (f := fun s => if q a s = true then b k s else 0) (B := 4 ^ e) fun s _ => by
    split
    · exact h s
    · exact ⟨Int.le_refl _, hp⟩
  rw [List.length_range] at this
  refine ⟨this.1, Int.le_trans this.2 ?_⟩
  rw [Int.pow_succ, Int.mul_comm _ 4]
  exact Int.mul_le_mul_of_nonneg_right (by omega) hp
theorem Bd.step (hn : n ≤ 4) {par : Nat → Option Nat} (hp : ∀ j p, par j = some p → p < j) {N k : Nat} {b : Nat → Nat → Int} {t : Int} (h : Bd N (k + 1) b t) : Bd N k (stp n q o par k (b, t)).1 (stp n q o par k (b, t)).2 := by
  obtain ⟨e, et, hb, t0, t1, hs⟩ := h.ex
  have hw := fun a => ways_le n q hn (b := b) (k := k) (e := e k) (hb k) a
  simp only [sumE] at hs
  unfold stp
  cases hpk : par k with
  | none =>
    refine ⟨e, et + (e k + 1), hb, Int.mul_nonneg t0 (hw o).1, ?_, by omega⟩
    rw [Int.pow_add]
    exact Int.mul_le_mul t1 (hw o).2 (hw o).1 (Int.le_trans t0 t1)
  | some p =>
    have hlt := hp k p hpk
    refine ⟨fun j => if j = p then e j + (e k + 1) else e j, et, fun j s => ?_, t0, t1, ?_⟩
    · simp only [mulAt]
      by_cases hj : j = p
      · rw [if_pos hj, if_pos hj, Int.pow_add]
        exact ⟨Int.mul_nonneg (hb j s).1 (hw s).1, Int.mul_le_mul (hb j s).2 (hw s).2 (hw s).1 (Int.le_trans (hb j s).1 (hb j s).2)⟩
      · rw [if_neg hj, if_neg hj]; exact hb j s
    · rw [sumE_upd, if_pos hlt]; omega
end
end K74

namespace K74
open PySem RL
/-- quiet: no rule can fire -/
def quietQ (rs : List PyData) (a s : Nat) : Bool := (firing rs (a : Int) (s : Int)).isEmpty
/-- the parents as numbers -/
def parN (ps : List PyData) (j : Nat) : Option Nat := match ps.getD j .none with
  | .int p => if p < 0 then none else some p.toNat
  | _ => none
theorem parN_lt {ps : List PyData} (h : parL ps) : ∀ j p, parN ps j = some p → p < j := by
  intro j p e
  unfold parN at e
  by_cases hj : j < ps.length
  · obtain ⟨z, hz, z0, z1⟩ := h j hj
    rw [List.getD_eq_getElem?_getD, hz, Option.getD_some] at e
    simp only at e
    split at e
    · cases e
    · cases e; omega
  · rw [List.getD_eq_getElem?_getD, List.getElem?_eq_none (by omega), Option.getD_none] at e
    cases e
def intsR (n : Nat) (f : Nat → Int) : List PyData := (List.range n).map fun s => .int (f s)
theorem rangeD_N (n : Nat) : rangeD 0 (n : Int) = intsR n fun s => (s : Int) := by
  simp only [rangeD, intsR]
  rw [show ((n : Int) - 0).toNat = n by omega]
  exact List.map_congr_left fun i _ => by simp
theorem intsR_len (n : Nat) (f : Nat → Int) : (intsR n f).length = n := by simp [intsR]
theorem intsR_get {n : Nat} {f : Nat → Int} {s : Nat} (h : s < n) : (intsR n f)[s]? = some (.int (f s)) := by
  simp [intsR, List.getElem?_map, List.getElem?_range h]
theorem intsR_at {n : Nat} {f : Nat → Int} {s : Nat} {z : Int} (h : s < n) (hz : z = s) : L2.atI (intsR n f) z = some (.int (f s)) := at_nat hz (intsR_get h)
def rowsR (K n : Nat) (b : Nat → Nat → Int) : List PyData := (List.range K).map fun j => .list (intsR n (b j))
theorem rowsR_at {K n : Nat} {b : Nat → Nat → Int} {j : Nat} {z : Int} (h : j < K) (hz : z = j) : L2.atI (rowsR K n b) z = some (.list (intsR n (b j))) := by
  refine at_nat hz ?_
  simp [rowsR, List.getElem?_map, List.getElem?_range h]
theorem rowsR_len (K n : Nat) (b : Nat → Nat → Int) : (rowsR K n b).length = K := by simp [rowsR]
theorem rowsR_set {K n p : Nat} {b : Nat → Nat → Int} {c : Nat → Int} (h : p < K) : (rowsR K n b).set p (.list (intsR n fun s => b p s * c s)) = rowsR K n (mulAt b p c) := by
  have e0 : (fun s => b p s * c s) = mulAt b p c p := by funext s; simp [mulAt]
  rw [e0]
  apply List.ext_getElem?
  intro i
  rw [List.getElem?_set]
  by_cases hi : i < K
  · by_cases e : p = i
    · subst e
      rw [if_pos rfl, if_pos (by rw [rowsR_len]; exact hi)]
      simp only [rowsR, List.getElem?_map, List.getElem?_range hi, Option.map_some]
    · rw [if_neg e]
      simp only [rowsR, List.getElem?_map, List.getElem?_range hi, Option.map_some, Option.some.injEq, PyData.list.injEq]
      congr 1
      funext s
      simp only [mulAt]
      rw [if_neg (fun z => e z.symm)]
  · have n1 : (rowsR K n (mulAt b p c))[i]? = none := List.getElem?_eq_none (by rw [rowsR_len]; omega)
    have n2 : (rowsR K n b)[i]? = none := List.getElem?_eq_none (by rw [rowsR_len]; omega)
    rw [n1, n2]
    split
    · rw [if_neg (by rw [rowsR_len]; omega)]
    · rfl
/-- quiet states below a state -/
def qlist (n : Nat) (q : Nat → Nat → Bool) (a : Nat) : List Nat := (List.range n).filter (q a)
theorem sum_if (l : List Nat) (p : Nat → Bool) (f : Nat → Int) : (l.map fun s => if p s = true then f s else 0).sum = ((l.filter p).map f).sum := by
  induction l with
  | nil => rfl
  | cons a l ih =>
    rw [List.map_cons, List.sum_cons, ih, List.filter_cons]
    cases p a with
    | true => rw [if_pos rfl, if_pos rfl, List.map_cons, List.sum_cons]
    | false => rw [if_neg (by decide), if_neg (by decide)]; omega
theorem ways_q (n : Nat) (q : Nat → Nat → Bool) (b : Nat → Nat → Int) (k a : Nat) : ways n q b k a = ((qlist n q a).map (b k)).sum := by
  unfold ways sumN qlist
  exact sum_if _ _ _
theorem allI_map' {α : Type} (l : List α) (f : α → Int) : allI (l.map fun s => PyData.int (f s)) = some (l.map f) := by
  induction l with
  | nil => rfl
  | cons a l ih => simp [allI, ih]
theorem mul_bnd {i j : Int} {e f : Nat} (hi : 0 ≤ i ∧ i ≤ 4 ^ e) (hj : 0 ≤ j ∧ j ≤ 4 ^ f) (he : e ≤ 1000) (hf : f ≤ 1000) : mulOk i j = true := by
  have b : ∀ (x : Int) (g : Nat), 0 ≤ x → x ≤ 4 ^ g → x.natAbs < 2 ^ (2 * g + 1) := by
    intro x g x0 x1
    have e1 : (4 : Int) ^ g = ((4 ^ g : Nat) : Int) := by simp
    have e2 : (4 : Nat) ^ g = 2 ^ (2 * g) := by rw [Nat.pow_mul]
    have e3 : (2 : Nat) ^ (2 * g + 1) = 2 ^ (2 * g) * 2 := Nat.pow_succ 2 (2 * g)
    have : 0 < (2 : Nat) ^ (2 * g) := Nat.two_pow_pos _
    rw [e1, e2] at x1
    generalize (2 : Nat) ^ (2 * g) = u at *
    omega
  have w := L2.wide_mul (b i e hi.1 hi.2) (b j f hj.1 hj.2) (by omega) (by omega) (by omega)
  simp only [mulOk, Bool.or_eq_true, decide_eq_true_eq]
  exact .inr w
theorem eq_need_tree {m : Int} (m4 : m ≤ 4) (r : List PyData) (t : PyData) (hb : bookOk (.tuple (.int m :: r)) = true) : f8.φ [.tuple (.int m :: r), t] = if treeOk m t = true then .ret (.p .none) [] else .exc ⟨"BadTree", none⟩ [] := by
  have h_need_book : L8[4]? = some f4 := rfl
  have i_need_book : f4.io = [false] := rfl
  have h_is_tree_of : L8[7]? = some f7 := rfl
  have i_is_tree_of : f7.io = [false, false] := rfl
  have q := ok_need_book hb
  have q2 := eq_is_tree_of m (by omega) r t
  cases h : treeOk m t <;> rw [h] at q2 <;> simp only [f8, io8, s8, h_need_book, i_need_book, h_is_tree_of, i_is_tree_of, q, q2, runF, cellsOf, denS, den, R.st, R.b1, R.bA, R.tst, R.eo, R.part, P.isNil, tstS, dctD, op1, op2, opN, vals, give, T.val, Cell.val, Cell.own, boolOf, intOf, isaD, PyData.isInt, PyData.isBool, PyData.isTuple, PyData.isList, PyData.isStr, PyData.isDict,  RL.finish, retF, iosAt, outT, ioSlots, ioFrom, storeS, T.seal, sealAll, Tg.bind, callX, tmpIx, T.notF, R.cut, List.take_succ_cons, List.take_zero, List.take_nil, callR, argsOf, putIos, T.flat, flatO, flats, RL.flat, primD, prim1, prim2, lenD, intD, tupD, lstD, absD, maxD, minD, bl2, cmpD, eqOk, isNoneD, binD, addD, subD, modD, divD, negD, idxD, slcD, itrD, itemsD, sealR, enmD, zipD, rngD, parS, setS, appS, augS, augD, ownL,  List.getElem?_cons_zero, List.getElem?_cons_succ, List.getElem?_nil, List.set_cons_zero, List.set_cons_succ, List.length_cons, List.length_nil, List.replicate_succ, List.replicate_zero, List.cons_append, List.nil_append, Option.map_some, Option.map_none, Option.bind_some, Option.bind_none, Option.isSome_some, Option.isSome_none, if_true, if_false, List.contains_nil, Bool.false_eq_true, reduceCtorEq, Bool.not_true, Bool.not_false, List.nodup_nil, List.not_mem_nil, List.mem_cons, or_false, false_or, true_and, and_true, not_true_eq_false, not_false_eq_true, List.nodup_cons, Bool.true_and, Bool.and_true, List.all_nil, List.all_cons, Nat.reduceLT, Nat.reduceAdd, Nat.reduceSub, Nat.reduceLeDiff, Nat.zero_lt_succ, Nat.lt_add_one, wipeE, restore, List.map_cons, List.map_nil, Option.getD_some, Option.getD_none, Prod.mk.injEq, Option.some.injEq, implies_true, forall_const, true_or, or_true, ite_true, ite_false, forall_eq, forall_eq_or_imp, Nat.not_lt_zero, decide_true, decide_false, beq_self_eq_true, and_self, Nat.reduceEqDiff, List.getElem?_map, RL.shaped_int, RL.shaped_bool, RL.shaped_none, PyData.eqv, Int.reduceEq, Int.reduceNe, Int.reduceBEq, Int.reduceLT, Int.reduceLE, bne, false_imp_iff, true_imp_iff, Int.cast_ofNat_Int, Bool.not_eq_true, Bool.false_and, Bool.and_false, Bool.true_or, Bool.false_or, Bool.or_true, Bool.or_false, List.any_nil, List.any_cons]
def qB (rs : List PyData) (a : Int) : PyData → Bool
  | .int s => (firing rs a s).isEmpty
  | _ => false
def qD (n : Nat) (q : Nat → Nat → Bool) (a : Nat) : List PyData := (qlist n q a).map fun (s : Nat) => PyData.int (s : Int)
theorem qD_eq (n : Nat) (rs : List PyData) (a : Nat) : ((rangeD 0 (n : Int)).filter (qB rs (a : Int))).map id = qD n (quietQ rs) a := by
  rw [rangeD_N, intsR, List.filter_map, List.map_map]
  unfold qD qlist
  congr 1
theorem quiet_in (book tree c2 c3 : Cell) (m : Int) (n : Nat) (hm : m = n) (c5 c8 : Cell) (B0 : PyData) (rs : List PyData) (hB : book = .pu (.tuple [B0, .tuple rs])) (hr : rs.all (ruleOk m) = true) (hl : rs.length ≤ 1000) (a : Int) :
    genGo (.nm 6) (den (fun j => L9[j]?) (.cmp .Eq (.call 6 (.cons (.var 0) (.cons (.var 7) (.cons (.var 6) .nil)))) (.lst .nil))) (den (fun j => L9[j]?) (.var 6)) [6] (rangeD 0 m) [book, tree, c2, c3, .pu (.int m), c5, .un, .pu (.int a), c8, .un, .un, .un, .un, .un, .un, .un] =
      some (((rangeD 0 m).filter (qB rs a)).map id, [book, tree, c2, c3, .pu (.int m), c5, .un, .pu (.int a), c8, .un, .un, .un, .un, .un, .un, .un]) := by
  have h_firing_rules : L9[6]? = some f6 := rfl
  have i_firing_rules : f6.io = [false, false, false] := rfl
  subst hB
  refine gen_filter _ _ _ fun d hd => ?_
  obtain ⟨s, rfl, s0, s1⟩ := rangeD_mem hd
  have q := eq_firing_rules hr hl B0 a s
  obtain ⟨n1, n2⟩ := ne_nil (firing rs a s)
  simp only [eqOk] at n1
  refine ⟨[.pu (.tuple [B0, .tuple rs]), tree, c2, c3, .pu (.int m), c5, .pu (.int s), .pu (.int a), c8, .un, .un, .un, .un, .un, .un, .un], rfl, ?_, rfl, fun _ => ⟨.p (.int s), [.pu (.tuple [B0, .tuple rs]), tree, c2, c3, .pu (.int m), c5, .pu (.int s), .pu (.int a), c8, .un, .un, .un, .un, .un, .un, .un], [.pu (.tuple [B0, .tuple rs]), tree, c2, c3, .pu (.int m), c5, .pu (.int s), .pu (.int a), c8, .un, .un, .un, .un, .un, .un, .un], ?_, rfl, rfl⟩⟩
  · simp only [h_firing_rules, i_firing_rules, q, n1, n2, qB, runF, cellsOf, denS, den, R.st, R.b1, R.bA, R.tst, R.eo, R.part, P.isNil, tstS, dctD, op1, op2, opN, vals, give, T.val, Cell.val, Cell.own, boolOf, intOf, isaD, PyData.isInt, PyData.isBool, PyData.isTuple, PyData.isList, PyData.isStr, PyData.isDict,  RL.finish, retF, iosAt, outT, ioSlots, ioFrom, storeS, T.seal, sealAll, Tg.bind, callX, tmpIx, T.notF, R.cut, List.take_succ_cons, List.take_zero, List.take_nil, callR, argsOf, putIos, T.flat, flatO, flats, RL.flat, primD, prim1, prim2, lenD, intD, tupD, lstD, absD, maxD, minD, bl2, cmpD, eqOk, isNoneD, binD, addD, subD, modD, divD, negD, idxD, slcD, itrD, itemsD, sealR, enmD, zipD, rngD, parS, setS, appS, augS, augD, ownL,  List.getElem?_cons_zero, List.getElem?_cons_succ, List.getElem?_nil, List.set_cons_zero, List.set_cons_succ, List.length_cons, List.length_nil, List.replicate_succ, List.replicate_zero, List.cons_append, List.nil_append, Option.map_some, Option.map_none, Option.bind_some, Option.bind_none, Option.isSome_some, Option.isSome_none, if_true, if_false, List.contains_nil, Bool.false_eq_true, reduceCtorEq, Bool.not_true, Bool.not_false, List.nodup_nil, List.not_mem_nil, List.mem_cons, or_false, false_or, true_and, and_true, not_true_eq_false, not_false_eq_true, List.nodup_cons, Bool.true_and, Bool.and_true, List.all_nil, List.all_cons, Nat.reduceLT, Nat.reduceAdd, Nat.reduceSub, Nat.reduceLeDiff, Nat.zero_lt_succ, Nat.lt_add_one, wipeE, restore, List.map_cons, List.map_nil, Option.getD_some, Option.getD_none, Prod.mk.injEq, Option.some.injEq, implies_true, forall_const, true_or, or_true, ite_true, ite_false, forall_eq, forall_eq_or_imp, Nat.not_lt_zero, decide_true, decide_false, beq_self_eq_true, and_self, Nat.reduceEqDiff, List.getElem?_map, RL.shaped_int, RL.shaped_bool, RL.shaped_none, PyData.eqv, Int.reduceEq, Int.reduceNe, Int.reduceBEq, Int.reduceLT, Int.reduceLE, bne, false_imp_iff, true_imp_iff, Int.cast_ofNat_Int, Bool.not_eq_true, Bool.false_and, Bool.and_false, Bool.true_or, Bool.false_or, Bool.or_true, Bool.or_false, List.any_nil, List.any_cons]
  · simp only [runF, cellsOf, denS, den, R.st, R.b1, R.bA, R.tst, R.eo, R.part, P.isNil, tstS, dctD, op1, op2, opN, vals, give, T.val, Cell.val, Cell.own, boolOf, intOf, isaD, PyData.isInt, PyData.isBool, PyData.isTuple, PyData.isList, PyData.isStr, PyData.isDict,  RL.finish, retF, iosAt, outT, ioSlots, ioFrom, storeS, T.seal, sealAll, Tg.bind, callX, tmpIx, T.notF, R.cut, List.take_succ_cons, List.take_zero, List.take_nil, callR, argsOf, putIos, T.flat, flatO, flats, RL.flat, primD, prim1, prim2, lenD, intD, tupD, lstD, absD, maxD, minD, bl2, cmpD, eqOk, isNoneD, binD, addD, subD, modD, divD, negD, idxD, slcD, itrD, itemsD, sealR, enmD, zipD, rngD, parS, setS, appS, augS, augD, ownL,  List.getElem?_cons_zero, List.getElem?_cons_succ, List.getElem?_nil, List.set_cons_zero, List.set_cons_succ, List.length_cons, List.length_nil, List.replicate_succ, List.replicate_zero, List.cons_append, List.nil_append, Option.map_some, Option.map_none, Option.bind_some, Option.bind_none, Option.isSome_some, Option.isSome_none, if_true, if_false, List.contains_nil, Bool.false_eq_true, reduceCtorEq, Bool.not_true, Bool.not_false, List.nodup_nil, List.not_mem_nil, List.mem_cons, or_false, false_or, true_and, and_true, not_true_eq_false, not_false_eq_true, List.nodup_cons, Bool.true_and, Bool.and_true, List.all_nil, List.all_cons, Nat.reduceLT, Nat.reduceAdd, Nat.reduceSub, Nat.reduceLeDiff, Nat.zero_lt_succ, Nat.lt_add_one, wipeE, restore, List.map_cons, List.map_nil, Option.getD_some, Option.getD_none, Prod.mk.injEq, Option.some.injEq, implies_true, forall_const, true_or, or_true, ite_true, ite_false, forall_eq, forall_eq_or_imp, Nat.not_lt_zero, decide_true, decide_false, beq_self_eq_true, and_self, Nat.reduceEqDiff, List.getElem?_map, RL.shaped_int, RL.shaped_bool, RL.shaped_none, PyData.eqv, Int.reduceEq, Int.reduceNe, Int.reduceBEq, Int.reduceLT, Int.reduceLE, bne, false_imp_iff, true_imp_iff, Int.cast_ofNat_Int, Bool.not_eq_true, Bool.false_and, Bool.and_false, Bool.true_or, Bool.false_or, Bool.or_true, Bool.or_false, List.any_nil, List.any_cons]
/-- the list of the quiet states, for each state above -/
def qRows (n : Nat) (q : Nat → Nat → Bool) : List PyData := (List.range n).map fun a => .list (qD n q a)
theorem qRows_at {n : Nat} {q : Nat → Nat → Bool} {a : Nat} {z : Int} (h : a < n) (hz : z = a) : L2.atI (qRows n q) z = some (.list (qD n q a)) := by
  refine at_nat hz ?_
  simp [qRows, List.getElem?_map, List.getElem?_range h]
theorem quiet_out (book tree c2 c3 : Cell) (n : Nat) (hn : n ≤ 4) (B0 : PyData) (rs : List PyData) (hB : book = .pu (.tuple [B0, .tuple rs])) (hr : rs.all (ruleOk (n : Int)) = true) (hl : rs.length ≤ 1000) :
    genGo (.nm 7) (den (fun j => L9[j]?) (.cst (.bool true))) (den (fun j => L9[j]?) (.lc [("own", 6)] (.nm 6) (.rng (.cons (.var 4) .nil)) (.cmp .Eq (.call 6 (.cons (.var 0) (.cons (.var 7) (.cons (.var 6) .nil)))) (.lst .nil)) (.var 6))) [7] (rangeD 0 (n : Int)) [book, tree, c2, c3, .pu (.int (n : Int)), .un, .un, .un, .un, .un, .un, .un, .un, .un, .un, .un] =
      some (qRows n (quietQ rs), [book, tree, c2, c3, .pu (.int (n : Int)), .un, .un, .un, .un, .un, .un, .un, .un, .un, .un, .un]) := by
  have h_firing_rules : L9[6]? = some f6 := rfl
  have i_firing_rules : f6.io = [false, false, false] := rfl
  let g : PyData → PyData := fun d => match d with | .int a => .list (((rangeD 0 (n : Int)).filter (qB rs a)).map id) | d => d
  have e : (rangeD 0 (n : Int)).map g = qRows n (quietQ rs) := by
    rw [rangeD_N, intsR, List.map_map, qRows]
    refine List.map_congr_left fun a _ => ?_
    simp only [Function.comp, g]
    rw [qD_eq]
  rw [← e]
  refine gen_map g _ fun d hd => ?_
  obtain ⟨a, rfl, a0, a1⟩ := rangeD_mem hd
  have ga : g (.int a) = .list (((rangeD 0 (n : Int)).filter (qB rs a)).map id) := rfl
  rw [ga]
  clear ga e
  clear g
  have q := quiet_in book tree c2 c3 (n : Int) n rfl .un .un B0 rs hB hr hl a
  have hy : (rangeD 0 (n : Int)).length ≤ 16777216 := by rw [rangeD_len]; omega
  generalize hm : (n : Int) = m at *
  obtain ⟨r1, r2⟩ := rng_in (m := m) (by omega) (by omega)
  refine ⟨[book, tree, c2, c3, .pu (.int m), .un, .un, .pu (.int a), .un, .un, .un, .un, .un, .un, .un, .un], .f (.list (((rangeD 0 m).filter (qB rs a)).map id)), [book, tree, c2, c3, .pu (.int m), .un, .un, .pu (.int a), .un, .un, .un, .un, .un, .un, .un, .un], [book, tree, c2, c3, .pu (.int m), .un, .un, .pu (.int a), .un, .un, .un, .un, .un, .un, .un, .un], rfl, rfl, ?_, rfl, rfl⟩
  generalize ((rangeD 0 m).filter (qB rs a)).map id = Q at q
  simp only [h_firing_rules, i_firing_rules, runF, cellsOf, denS, den, R.st, R.b1, R.bA, R.tst, R.eo, R.part, P.isNil, tstS, dctD, op1, op2, opN, vals, give, T.val, Cell.val, Cell.own, boolOf, intOf, isaD, PyData.isInt, PyData.isBool, PyData.isTuple, PyData.isList, PyData.isStr, PyData.isDict,  RL.finish, retF, iosAt, outT, ioSlots, ioFrom, storeS, T.seal, sealAll, Tg.bind, callX, tmpIx, T.notF, R.cut, List.take_succ_cons, List.take_zero, List.take_nil, callR, argsOf, putIos, T.flat, flatO, flats, RL.flat, primD, prim1, prim2, lenD, intD, tupD, lstD, absD, maxD, minD, bl2, cmpD, eqOk, isNoneD, binD, addD, subD, modD, divD, negD, idxD, slcD, itrD, itemsD, sealR, enmD, zipD, rngD, parS, setS, appS, augS, augD, ownL,  List.getElem?_cons_zero, List.getElem?_cons_succ, List.getElem?_nil, List.set_cons_zero, List.set_cons_succ, List.length_cons, List.length_nil, List.replicate_succ, List.replicate_zero, List.cons_append, List.nil_append, Option.map_some, Option.map_none, Option.bind_some, Option.bind_none, Option.isSome_some, Option.isSome_none, if_true, if_false, List.contains_nil, Bool.false_eq_true, reduceCtorEq, Bool.not_true, Bool.not_false, List.nodup_nil, List.not_mem_nil, List.mem_cons, or_false, false_or, true_and, and_true, not_true_eq_false, not_false_eq_true, List.nodup_cons, Bool.true_and, Bool.and_true, List.all_nil, List.all_cons, Nat.reduceLT, Nat.reduceAdd, Nat.reduceSub, Nat.reduceLeDiff, Nat.zero_lt_succ, Nat.lt_add_one, wipeE, restore, List.map_cons, List.map_nil, Option.getD_some, Option.getD_none, Prod.mk.injEq, Option.some.injEq, implies_true, forall_const, true_or, or_true, ite_true, ite_false, forall_eq, forall_eq_or_imp, Nat.not_lt_zero, decide_true, decide_false, beq_self_eq_true, and_self, Nat.reduceEqDiff, List.getElem?_map, RL.shaped_int, RL.shaped_bool, RL.shaped_none, PyData.eqv, Int.reduceEq, Int.reduceNe, Int.reduceBEq, Int.reduceLT, Int.reduceLE, bne, false_imp_iff, true_imp_iff, Int.cast_ofNat_Int, Bool.not_eq_true, Bool.false_and, Bool.and_false, Bool.true_or, Bool.false_or, Bool.or_true, Bool.or_false, List.any_nil, List.any_cons] at q
  simp only [h_firing_rules, i_firing_rules, r1, r2, q, hy, runF, cellsOf, denS, den, R.st, R.b1, R.bA, R.tst, R.eo, R.part, P.isNil, tstS, dctD, op1, op2, opN, vals, give, T.val, Cell.val, Cell.own, boolOf, intOf, isaD, PyData.isInt, PyData.isBool, PyData.isTuple, PyData.isList, PyData.isStr, PyData.isDict,  RL.finish, retF, iosAt, outT, ioSlots, ioFrom, storeS, T.seal, sealAll, Tg.bind, callX, tmpIx, T.notF, R.cut, List.take_succ_cons, List.take_zero, List.take_nil, callR, argsOf, putIos, T.flat, flatO, flats, RL.flat, primD, prim1, prim2, lenD, intD, tupD, lstD, absD, maxD, minD, bl2, cmpD, eqOk, isNoneD, binD, addD, subD, modD, divD, negD, idxD, slcD, itrD, itemsD, sealR, enmD, zipD, rngD, parS, setS, appS, augS, augD, ownL,  List.getElem?_cons_zero, List.getElem?_cons_succ, List.getElem?_nil, List.set_cons_zero, List.set_cons_succ, List.length_cons, List.length_nil, List.replicate_succ, List.replicate_zero, List.cons_append, List.nil_append, Option.map_some, Option.map_none, Option.bind_some, Option.bind_none, Option.isSome_some, Option.isSome_none, if_true, if_false, List.contains_nil, Bool.false_eq_true, reduceCtorEq, Bool.not_true, Bool.not_false, List.nodup_nil, List.not_mem_nil, List.mem_cons, or_false, false_or, true_and, and_true, not_true_eq_false, not_false_eq_true, List.nodup_cons, Bool.true_and, Bool.and_true, List.all_nil, List.all_cons, Nat.reduceLT, Nat.reduceAdd, Nat.reduceSub, Nat.reduceLeDiff, Nat.zero_lt_succ, Nat.lt_add_one, wipeE, restore, List.map_cons, List.map_nil, Option.getD_some, Option.getD_none, Prod.mk.injEq, Option.some.injEq, implies_true, forall_const, true_or, or_true, ite_true, ite_false, forall_eq, forall_eq_or_imp, Nat.not_lt_zero, decide_true, decide_false, beq_self_eq_true, and_self, Nat.reduceEqDiff, List.getElem?_map, RL.shaped_int, RL.shaped_bool, RL.shaped_none, PyData.eqv, Int.reduceEq, Int.reduceNe, Int.reduceBEq, Int.reduceLT, Int.reduceLE, bne, false_imp_iff, true_imp_iff, Int.cast_ofNat_Int, Bool.not_eq_true, Bool.false_and, Bool.and_false, Bool.true_or, Bool.false_or, Bool.or_true, Bool.or_false, List.any_nil, List.any_cons]
theorem ones_out (book tree c2 c3 c5 : Cell) (n : Nat) (hn : n ≤ 4) (ps : List PyData) :
    genGo (.nm 10) (den (fun j => L9[j]?) (.cst (.bool true))) (den (fun j => L9[j]?) (.lc [("state", 9)] (.nm 9) (.rng (.cons (.var 4) .nil)) (.cst (.bool true)) (.cst (.int 1)))) [10] ps [book, tree, c2, c3, .pu (.int (n : Int)), c5, .un, .un, .un, .un, .un, .un, .un, .un, .un, .un] =
      some (rowsR ps.length n fun _ _ => 1, [book, tree, c2, c3, .pu (.int (n : Int)), c5, .un, .un, .un, .un, .un, .un, .un, .un, .un, .un]) := by
  have e : ps.map (fun _ => PyData.list (intsR n fun _ => 1)) = rowsR ps.length n fun _ _ => 1 := by
    apply List.ext_getElem?
    intro i
    by_cases h : i < ps.length
    · simp [rowsR, List.getElem?_map, List.getElem?_eq_getElem h, List.getElem?_range h]
    · rw [List.getElem?_eq_none (by simp; omega), List.getElem?_eq_none (by rw [rowsR_len]; omega)]
  rw [← e]
  refine gen_map (fun _ => PyData.list (intsR n fun _ => 1)) _ fun d hd => ?_
  have e2 : (rangeD 0 (n : Int)).map (fun _ => PyData.int 1) = intsR n fun _ => 1 := by
    rw [rangeD_N, intsR, intsR, List.map_map]; rfl
  have hg := gen_map (t := .nm 9) (c := den (fun j => L9[j]?) (.cst (.bool true))) (b := den (fun j => L9[j]?) (.cst (.int 1))) (ws := [9]) (ρ := [book, tree, c2, c3, .pu (.int (n : Int)), c5, .un, .un, .un, .un, .pu d, .un, .un, .un, .un, .un]) (fun _ => PyData.int 1) (rangeD 0 (n : Int)) fun x hx =>
    ⟨[book, tree, c2, c3, .pu (.int (n : Int)), c5, .un, .un, .un, .pu x, .pu d, .un, .un, .un, .un, .un], .p (.int 1), [book, tree, c2, c3, .pu (.int (n : Int)), c5, .un, .un, .un, .pu x, .pu d, .un, .un, .un, .un, .un], [book, tree, c2, c3, .pu (.int (n : Int)), c5, .un, .un, .un, .pu x, .pu d, .un, .un, .un, .un, .un], rfl, rfl, rfl, rfl, rfl⟩
  rw [e2] at hg
  have hy : (rangeD 0 (n : Int)).length ≤ 16777216 := by rw [rangeD_len]; omega
  generalize hm : (n : Int) = m at *
  obtain ⟨r1, r2⟩ := rng_in (m := m) (by omega) (by omega)
  generalize (intsR n fun _ => 1) = O at hg
  refine ⟨[book, tree, c2, c3, .pu (.int m), c5, .un, .un, .un, .un, .pu d, .un, .un, .un, .un, .un], .f (.list O), [book, tree, c2, c3, .pu (.int m), c5, .un, .un, .un, .un, .pu d, .un, .un, .un, .un, .un], [book, tree, c2, c3, .pu (.int m), c5, .un, .un, .un, .un, .pu d, .un, .un, .un, .un, .un], rfl, rfl, ?_, rfl, rfl⟩
  simp only [runF, cellsOf, denS, den, R.st, R.b1, R.bA, R.tst, R.eo, R.part, P.isNil, tstS, dctD, op1, op2, opN, vals, give, T.val, Cell.val, Cell.own, boolOf, intOf, isaD, PyData.isInt, PyData.isBool, PyData.isTuple, PyData.isList, PyData.isStr, PyData.isDict,  RL.finish, retF, iosAt, outT, ioSlots, ioFrom, storeS, T.seal, sealAll, Tg.bind, callX, tmpIx, T.notF, R.cut, List.take_succ_cons, List.take_zero, List.take_nil, callR, argsOf, putIos, T.flat, flatO, flats, RL.flat, primD, prim1, prim2, lenD, intD, tupD, lstD, absD, maxD, minD, bl2, cmpD, eqOk, isNoneD, binD, addD, subD, modD, divD, negD, idxD, slcD, itrD, itemsD, sealR, enmD, zipD, rngD, parS, setS, appS, augS, augD, ownL,  List.getElem?_cons_zero, List.getElem?_cons_succ, List.getElem?_nil, List.set_cons_zero, List.set_cons_succ, List.length_cons, List.length_nil, List.replicate_succ, List.replicate_zero, List.cons_append, List.nil_append, Option.map_some, Option.map_none, Option.bind_some, Option.bind_none, Option.isSome_some, Option.isSome_none, if_true, if_false, List.contains_nil, Bool.false_eq_true, reduceCtorEq, Bool.not_true, Bool.not_false, List.nodup_nil, List.not_mem_nil, List.mem_cons, or_false, false_or, true_and, and_true, not_true_eq_false, not_false_eq_true, List.nodup_cons, Bool.true_and, Bool.and_true, List.all_nil, List.all_cons, Nat.reduceLT, Nat.reduceAdd, Nat.reduceSub, Nat.reduceLeDiff, Nat.zero_lt_succ, Nat.lt_add_one, wipeE, restore, List.map_cons, List.map_nil, Option.getD_some, Option.getD_none, Prod.mk.injEq, Option.some.injEq, implies_true, forall_const, true_or, or_true, ite_true, ite_false, forall_eq, forall_eq_or_imp, Nat.not_lt_zero, decide_true, decide_false, beq_self_eq_true, and_self, Nat.reduceEqDiff, List.getElem?_map, RL.shaped_int, RL.shaped_bool, RL.shaped_none, PyData.eqv, Int.reduceEq, Int.reduceNe, Int.reduceBEq, Int.reduceLT, Int.reduceLE, bne, false_imp_iff, true_imp_iff, Int.cast_ofNat_Int, Bool.not_eq_true, Bool.false_and, Bool.and_false, Bool.true_or, Bool.false_or, Bool.or_true, Bool.or_false, List.any_nil, List.any_cons] at hg
  simp only [r1, r2, hg, hy, runF, cellsOf, denS, den, R.st, R.b1, R.bA, R.tst, R.eo, R.part, P.isNil, tstS, dctD, op1, op2, opN, vals, give, T.val, Cell.val, Cell.own, boolOf, intOf, isaD, PyData.isInt, PyData.isBool, PyData.isTuple, PyData.isList, PyData.isStr, PyData.isDict,  RL.finish, retF, iosAt, outT, ioSlots, ioFrom, storeS, T.seal, sealAll, Tg.bind, callX, tmpIx, T.notF, R.cut, List.take_succ_cons, List.take_zero, List.take_nil, callR, argsOf, putIos, T.flat, flatO, flats, RL.flat, primD, prim1, prim2, lenD, intD, tupD, lstD, absD, maxD, minD, bl2, cmpD, eqOk, isNoneD, binD, addD, subD, modD, divD, negD, idxD, slcD, itrD, itemsD, sealR, enmD, zipD, rngD, parS, setS, appS, augS, augD, ownL,  List.getElem?_cons_zero, List.getElem?_cons_succ, List.getElem?_nil, List.set_cons_zero, List.set_cons_succ, List.length_cons, List.length_nil, List.replicate_succ, List.replicate_zero, List.cons_append, List.nil_append, Option.map_some, Option.map_none, Option.bind_some, Option.bind_none, Option.isSome_some, Option.isSome_none, if_true, if_false, List.contains_nil, Bool.false_eq_true, reduceCtorEq, Bool.not_true, Bool.not_false, List.nodup_nil, List.not_mem_nil, List.mem_cons, or_false, false_or, true_and, and_true, not_true_eq_false, not_false_eq_true, List.nodup_cons, Bool.true_and, Bool.and_true, List.all_nil, List.all_cons, Nat.reduceLT, Nat.reduceAdd, Nat.reduceSub, Nat.reduceLeDiff, Nat.zero_lt_succ, Nat.lt_add_one, wipeE, restore, List.map_cons, List.map_nil, Option.getD_some, Option.getD_none, Prod.mk.injEq, Option.some.injEq, implies_true, forall_const, true_or, or_true, ite_true, ite_false, forall_eq, forall_eq_or_imp, Nat.not_lt_zero, decide_true, decide_false, beq_self_eq_true, and_self, Nat.reduceEqDiff, List.getElem?_map, RL.shaped_int, RL.shaped_bool, RL.shaped_none, PyData.eqv, Int.reduceEq, Int.reduceNe, Int.reduceBEq, Int.reduceLT, Int.reduceLE, bne, false_imp_iff, true_imp_iff, Int.cast_ofNat_Int, Bool.not_eq_true, Bool.false_and, Bool.and_false, Bool.true_or, Bool.false_or, Bool.or_true, Bool.or_false, List.any_nil, List.any_cons]
/-- the counts of one node -/
theorem counts_out (book tree c2 c3 : Cell) (n : Nat) (hn : n ≤ 4) (q : Nat → Nat → Bool) (K : Nat) (b : Nat → Nat → Int) (c11 : Cell) (v : Nat) (hv : v < K) (z : Int) (hz : z = v) (c13 : Cell) :
    genGo (.nm 7) (den (fun j => L9[j]?) (.cst (.bool true))) (den (fun j => L9[j]?) (.prim .sum (.cons (.lc [("own", 6)] (.nm 6) (.itr (.idx (.var 5) (.var 7))) (.cst (.bool true)) (.idx (.idx (.var 8) (.var 12)) (.var 6))) .nil))) [7] (rangeD 0 (n : Int)) [book, tree, c2, c3, .pu (.int (n : Int)), .ow (.list (qRows n q)), .un, .un, .ow (.list (rowsR K n b)), .un, .un, c11, .pu (.int z), c13, .un, .un] =
      some (intsR n (ways n q b v), [book, tree, c2, c3, .pu (.int (n : Int)), .ow (.list (qRows n q)), .un, .un, .ow (.list (rowsR K n b)), .un, .un, c11, .pu (.int z), c13, .un, .un]) := by
  let g : PyData → PyData := fun d => match d with | .int a => .int (ways n q b v a.toNat) | d => d
  have e : (rangeD 0 (n : Int)).map g = intsR n (ways n q b v) := by
    rw [rangeD_N, intsR, intsR, List.map_map]
    exact List.map_congr_left fun a _ => by simp [Function.comp, g]
  rw [← e]
  refine gen_map g _ fun d hd => ?_
  obtain ⟨a, rfl, a0, a1⟩ := rangeD_mem hd
  obtain ⟨w, rfl⟩ : ∃ w : Nat, a = w := ⟨a.toNat, by omega⟩
  have hw : w < n := by omega
  have ga : g (.int (w : Int)) = .int (ways n q b v w) := by simp [g]
  have qa := qRows_at (n := n) (q := q) hw (z := (w : Int)) rfl
  have ra := rowsR_at (n := n) (b := b) hv hz
  -- the states that are quiet below it
  let h : PyData → PyData := fun d => match d with | .int s => .int (b v s.toNat) | d => d
  have e2 : (qD n q w).map h = (qlist n q w).map fun s => .int (b v s) := by
    rw [qD, List.map_map]
    exact List.map_congr_left fun s _ => by simp [Function.comp, h]
  have hs : sumL1 (.list ((qD n q w).map h)) = some (.p (.int (ways n q b v w))) := by
    rw [e2]
    simp only [sumL1, allI_map', Option.map_some]
    rw [ways_q]
  generalize hA : (w : Int) = A at *
  have hg := gen_map (t := .nm 6) (c := den (fun j => L9[j]?) (.cst (.bool true))) (b := den (fun j => L9[j]?) (.idx (.idx (.var 8) (.var 12)) (.var 6))) (ws := [6])
    (ρ := [book, tree, c2, c3, .pu (.int (n : Int)), .ow (.list (qRows n q)), .un, .pu (.int A), .ow (.list (rowsR K n b)), .un, .un, c11, .pu (.int z), c13, .un, .un]) h (qD n q w) (fun d hd => by
      obtain ⟨s, hs, rfl⟩ := List.mem_map.mp hd
      have hsn : s < n := List.mem_range.mp (List.mem_filter.mp hs).1
      have sa := intsR_at (f := b v) hsn (z := (s : Int)) rfl
      have gh : h (.int (s : Int)) = .int (b v s) := by simp [h]
      rw [gh]
      generalize (s : Int) = S at sa
      refine ⟨[book, tree, c2, c3, .pu (.int (n : Int)), .ow (.list (qRows n q)), .pu (.int S), .pu (.int A), .ow (.list (rowsR K n b)), .un, .un, c11, .pu (.int z), c13, .un, .un], .p (.int (b v s)), [book, tree, c2, c3, .pu (.int (n : Int)), .ow (.list (qRows n q)), .pu (.int S), .pu (.int A), .ow (.list (rowsR K n b)), .un, .un, c11, .pu (.int z), c13, .un, .un], [book, tree, c2, c3, .pu (.int (n : Int)), .ow (.list (qRows n q)), .pu (.int S), .pu (.int A), .ow (.list (rowsR K n b)), .un, .un, c11, .pu (.int z), c13, .un, .un], rfl, rfl, ?_, rfl, rfl⟩
      generalize rowsR K n b = RR at ra
      generalize intsR n (b v) = II at ra sa
      simp only [ra, sa, runF, cellsOf, denS, den, R.st, R.b1, R.bA, R.tst, R.eo, R.part, P.isNil, tstS, dctD, op1, op2, opN, vals, give, T.val, Cell.val, Cell.own, boolOf, intOf, isaD, PyData.isInt, PyData.isBool, PyData.isTuple, PyData.isList, PyData.isStr, PyData.isDict,  RL.finish, retF, iosAt, outT, ioSlots, ioFrom, storeS, T.seal, sealAll, Tg.bind, callX, tmpIx, T.notF, R.cut, List.take_succ_cons, List.take_zero, List.take_nil, callR, argsOf, putIos, T.flat, flatO, flats, RL.flat, primD, prim1, prim2, lenD, intD, tupD, lstD, absD, maxD, minD, bl2, cmpD, eqOk, isNoneD, binD, addD, subD, modD, divD, negD, idxD, slcD, itrD, itemsD, sealR, enmD, zipD, rngD, parS, setS, appS, augS, augD, ownL,  List.getElem?_cons_zero, List.getElem?_cons_succ, List.getElem?_nil, List.set_cons_zero, List.set_cons_succ, List.length_cons, List.length_nil, List.replicate_succ, List.replicate_zero, List.cons_append, List.nil_append, Option.map_some, Option.map_none, Option.bind_some, Option.bind_none, Option.isSome_some, Option.isSome_none, if_true, if_false, List.contains_nil, Bool.false_eq_true, reduceCtorEq, Bool.not_true, Bool.not_false, List.nodup_nil, List.not_mem_nil, List.mem_cons, or_false, false_or, true_and, and_true, not_true_eq_false, not_false_eq_true, List.nodup_cons, Bool.true_and, Bool.and_true, List.all_nil, List.all_cons, Nat.reduceLT, Nat.reduceAdd, Nat.reduceSub, Nat.reduceLeDiff, Nat.zero_lt_succ, Nat.lt_add_one, wipeE, restore, List.map_cons, List.map_nil, Option.getD_some, Option.getD_none, Prod.mk.injEq, Option.some.injEq, implies_true, forall_const, true_or, or_true, ite_true, ite_false, forall_eq, forall_eq_or_imp, Nat.not_lt_zero, decide_true, decide_false, beq_self_eq_true, and_self, Nat.reduceEqDiff, List.getElem?_map, RL.shaped_int, RL.shaped_bool, RL.shaped_none, PyData.eqv, Int.reduceEq, Int.reduceNe, Int.reduceBEq, Int.reduceLT, Int.reduceLE, bne, false_imp_iff, true_imp_iff, Int.cast_ofNat_Int, Bool.not_eq_true, Bool.false_and, Bool.and_false, Bool.true_or, Bool.false_or, Bool.or_true, Bool.or_false, List.any_nil, List.any_cons])
  have hq : (qD n q w).length ≤ 16777216 := by
    rw [qD, List.length_map]
    have := List.length_filter_le (q w) (List.range n)
    rw [List.length_range] at this
    unfold qlist; omega
  refine ⟨[book, tree, c2, c3, .pu (.int (n : Int)), .ow (.list (qRows n q)), .un, .pu (.int A), .ow (.list (rowsR K n b)), .un, .un, c11, .pu (.int z), c13, .un, .un], .p (g (.int A)), [book, tree, c2, c3, .pu (.int (n : Int)), .ow (.list (qRows n q)), .un, .pu (.int A), .ow (.list (rowsR K n b)), .un, .un, c11, .pu (.int z), c13, .un, .un], [book, tree, c2, c3, .pu (.int (n : Int)), .ow (.list (qRows n q)), .un, .pu (.int A), .ow (.list (rowsR K n b)), .un, .un, c11, .pu (.int z), c13, .un, .un], rfl, rfl, ?_, rfl, rfl⟩
  rw [ga]
  generalize (n : Int) = m at *
  generalize rowsR K n b = RR at *
  generalize qRows n q = QQ at *
  generalize (qD n q w).map h = HH at *
  generalize qD n q w = DD at *
  simp only [runF, cellsOf, denS, den, R.st, R.b1, R.bA, R.tst, R.eo, R.part, P.isNil, tstS, dctD, op1, op2, opN, vals, give, T.val, Cell.val, Cell.own, boolOf, intOf, isaD, PyData.isInt, PyData.isBool, PyData.isTuple, PyData.isList, PyData.isStr, PyData.isDict,  RL.finish, retF, iosAt, outT, ioSlots, ioFrom, storeS, T.seal, sealAll, Tg.bind, callX, tmpIx, T.notF, R.cut, List.take_succ_cons, List.take_zero, List.take_nil, callR, argsOf, putIos, T.flat, flatO, flats, RL.flat, primD, prim1, prim2, lenD, intD, tupD, lstD, absD, maxD, minD, bl2, cmpD, eqOk, isNoneD, binD, addD, subD, modD, divD, negD, idxD, slcD, itrD, itemsD, sealR, enmD, zipD, rngD, parS, setS, appS, augS, augD, ownL,  List.getElem?_cons_zero, List.getElem?_cons_succ, List.getElem?_nil, List.set_cons_zero, List.set_cons_succ, List.length_cons, List.length_nil, List.replicate_succ, List.replicate_zero, List.cons_append, List.nil_append, Option.map_some, Option.map_none, Option.bind_some, Option.bind_none, Option.isSome_some, Option.isSome_none, if_true, if_false, List.contains_nil, Bool.false_eq_true, reduceCtorEq, Bool.not_true, Bool.not_false, List.nodup_nil, List.not_mem_nil, List.mem_cons, or_false, false_or, true_and, and_true, not_true_eq_false, not_false_eq_true, List.nodup_cons, Bool.true_and, Bool.and_true, List.all_nil, List.all_cons, Nat.reduceLT, Nat.reduceAdd, Nat.reduceSub, Nat.reduceLeDiff, Nat.zero_lt_succ, Nat.lt_add_one, wipeE, restore, List.map_cons, List.map_nil, Option.getD_some, Option.getD_none, Prod.mk.injEq, Option.some.injEq, implies_true, forall_const, true_or, or_true, ite_true, ite_false, forall_eq, forall_eq_or_imp, Nat.not_lt_zero, decide_true, decide_false, beq_self_eq_true, and_self, Nat.reduceEqDiff, List.getElem?_map, RL.shaped_int, RL.shaped_bool, RL.shaped_none, PyData.eqv, Int.reduceEq, Int.reduceNe, Int.reduceBEq, Int.reduceLT, Int.reduceLE, bne, false_imp_iff, true_imp_iff, Int.cast_ofNat_Int, Bool.not_eq_true, Bool.false_and, Bool.and_false, Bool.true_or, Bool.false_or, Bool.or_true, Bool.or_false, List.any_nil, List.any_cons] at hg
  simp only [qa, hg, hq, hs, runF, cellsOf, denS, den, R.st, R.b1, R.bA, R.tst, R.eo, R.part, P.isNil, tstS, dctD, op1, op2, opN, vals, give, T.val, Cell.val, Cell.own, boolOf, intOf, isaD, PyData.isInt, PyData.isBool, PyData.isTuple, PyData.isList, PyData.isStr, PyData.isDict,  RL.finish, retF, iosAt, outT, ioSlots, ioFrom, storeS, T.seal, sealAll, Tg.bind, callX, tmpIx, T.notF, R.cut, List.take_succ_cons, List.take_zero, List.take_nil, callR, argsOf, putIos, T.flat, flatO, flats, RL.flat, primD, prim1, prim2, lenD, intD, tupD, lstD, absD, maxD, minD, bl2, cmpD, eqOk, isNoneD, binD, addD, subD, modD, divD, negD, idxD, slcD, itrD, itemsD, sealR, enmD, zipD, rngD, parS, setS, appS, augS, augD, ownL,  List.getElem?_cons_zero, List.getElem?_cons_succ, List.getElem?_nil, List.set_cons_zero, List.set_cons_succ, List.length_cons, List.length_nil, List.replicate_succ, List.replicate_zero, List.cons_append, List.nil_append, Option.map_some, Option.map_none, Option.bind_some, Option.bind_none, Option.isSome_some, Option.isSome_none, if_true, if_false, List.contains_nil, Bool.false_eq_true, reduceCtorEq, Bool.not_true, Bool.not_false, List.nodup_nil, List.not_mem_nil, List.mem_cons, or_false, false_or, true_and, and_true, not_true_eq_false, not_false_eq_true, List.nodup_cons, Bool.true_and, Bool.and_true, List.all_nil, List.all_cons, Nat.reduceLT, Nat.reduceAdd, Nat.reduceSub, Nat.reduceLeDiff, Nat.zero_lt_succ, Nat.lt_add_one, wipeE, restore, List.map_cons, List.map_nil, Option.getD_some, Option.getD_none, Prod.mk.injEq, Option.some.injEq, implies_true, forall_const, true_or, or_true, ite_true, ite_false, forall_eq, forall_eq_or_imp, Nat.not_lt_zero, decide_true, decide_false, beq_self_eq_true, and_self, Nat.reduceEqDiff, List.getElem?_map, RL.shaped_int, RL.shaped_bool, RL.shaped_none, PyData.eqv, Int.reduceEq, Int.reduceNe, Int.reduceBEq, Int.reduceLT, Int.reduceLE, bne, false_imp_iff, true_imp_iff, Int.cast_ofNat_Int, Bool.not_eq_true, Bool.false_and, Bool.and_false, Bool.true_or, Bool.false_or, Bool.or_true, Bool.or_false, List.any_nil, List.any_cons]
end K74

namespace K74
open PySem RL
def pairsR (n : Nat) (f g : Nat → Int) : List PyData := (List.range n).map fun s => .tuple [.int (f s), .int (g s)]
theorem zip_pairs (n : Nat) (f g : Nat → Int) : zipD (.list (intsR n f)) (.list (intsR n g)) = some (.p (.list (pairsR n f g))) := by
  simp only [zipD, Option.some.injEq, T.p.injEq, PyData.list.injEq]
  unfold intsR pairsR
  rw [List.zip_map', List.map_map]
  rfl
theorem pairs_len (n : Nat) (f g : Nat → Int) : (pairsR n f g).length = n := by simp [pairsR]
set_option maxHeartbeats 4000000 in
theorem node_step (book tree : Cell) (o : Int) (oN : Nat) (ho : o = oN) (ps : List PyData) (hp : parL ps) (n : Nat) (hn : n ≤ 4) (hoN : oN < n) (q : Nat → Nat → Bool) (b : Nat → Nat → Int) (t : Int) (v : Nat) (hv : v < ps.length) (hK : ps.length ≤ 300) (hB : Bd 300 (v + 1) b t) (z : Int) (hz : z = v) (c13 : Cell) :
    ∃ c13', denS (fun j => L9[j]?) (.cons (.asg (.nm 13) (.lc [("above", 7)] (.nm 7) (.rng (.cons (.var 4) .nil)) (.cst (.bool true)) (.prim .sum (.cons (.lc [("own", 6)] (.nm 6) (.itr (.idx (.var 5) (.var 7))) (.cst (.bool true)) (.idx (.idx (.var 8) (.var 12)) (.var 6))) .nil)))) (.cons (.iff (.cmp .Lt (.idx (.var 3) (.var 12)) (.cst (.int 0))) (.cons (.aug .Mult 11 (.idx (.var 13) (.var 2))) .nil) (.cons (.setL 8 (.idx (.var 3) (.var 12)) (.lc [("old", 14), ("new", 15)] (.tp (.cons (.nm 14) (.cons (.nm 15) .nil))) (.zip (.idx (.var 8) (.idx (.var 3) (.var 12))) (.var 13)) (.cst (.bool true)) (.bin .Mult (.var 14) (.var 15)))) .nil)) .nil)) [book, tree, .pu (.int o), .pu (.tuple ps), .pu (.int (n : Int)), .ow (.list (qRows n q)), .un, .un, .ow (.list (rowsR ps.length n b)), .un, .un, .pu (.int t), .pu (.int z), c13, .un, .un] =
      .nx [book, tree, .pu (.int o), .pu (.tuple ps), .pu (.int (n : Int)), .ow (.list (qRows n q)), .un, .un, .ow (.list (rowsR ps.length n (stp n q oN (parN ps) v (b, t)).1)), .un, .un, .pu (.int (stp n q oN (parN ps) v (b, t)).2), .pu (.int z), c13', .un, .un] := by
  have hc := counts_out book tree (.pu (.int o)) (.pu (.tuple ps)) n hn q ps.length b (.pu (.int t)) v hv z hz c13
  have hy : (rangeD 0 (n : Int)).length ≤ 16777216 := by rw [rangeD_len]; omega
  obtain ⟨r1, r2⟩ := rng_in (m := (n : Int)) (by omega) (by omega)
  obtain ⟨p, hp0, p0, p1⟩ := hp v hv
  have hpa : L2.atI ps z = some (.int p) := at_nat hz hp0
  have hpg : ps.getD v .none = .int p := by rw [List.getD_eq_getElem?_getD, hp0, Option.getD_some]
  obtain ⟨e, et, hb, t0, t1, hs⟩ := hB.ex
  simp only [sumE] at hs
  have hev := hb v
  have hw := fun a => ways_le n q hn (b := b) (k := v) (e := e v) (hb v) a
  cases hneg : decide (p < 0) with
  | true =>
    have hn' := of_decide_eq_true hneg
    have hpar : parN ps v = none := by simp only [parN, hpg]; rw [if_pos hn']
    have hst : stp n q oN (parN ps) v (b, t) = (b, t * ways n q b v oN) := by unfold stp; rw [hpar]
    rw [hst]
    have ca := intsR_at (n := n) (f := ways n q b v) hoN ho
    have hmul : mulOk t (ways n q b v oN) = true := mul_bnd ⟨t0, t1⟩ (hw oN) (by omega) (by omega)
    refine ⟨.ow (.list (intsR n (ways n q b v))), ?_⟩
    simp only
    generalize ways n q b v oN = wv at ca hmul ⊢
    generalize intsR n (ways n q b v) = WW at *
    generalize rowsR ps.length n b = RR at *
    generalize qRows n q = QQ at *
    generalize (n : Int) = m at *
    simp only [runF, cellsOf, denS, den, R.st, R.b1, R.bA, R.tst, R.eo, R.part, P.isNil, tstS, dctD, op1, op2, opN, vals, give, T.val, Cell.val, Cell.own, boolOf, intOf, isaD, PyData.isInt, PyData.isBool, PyData.isTuple, PyData.isList, PyData.isStr, PyData.isDict,  RL.finish, retF, iosAt, outT, ioSlots, ioFrom, storeS, T.seal, sealAll, Tg.bind, callX, tmpIx, T.notF, R.cut, List.take_succ_cons, List.take_zero, List.take_nil, callR, argsOf, putIos, T.flat, flatO, flats, RL.flat, primD, prim1, prim2, lenD, intD, tupD, lstD, absD, maxD, minD, bl2, cmpD, eqOk, isNoneD, binD, addD, subD, modD, divD, negD, idxD, slcD, itrD, itemsD, sealR, enmD, zipD, rngD, parS, setS, appS, augS, augD, ownL,  List.getElem?_cons_zero, List.getElem?_cons_succ, List.getElem?_nil, List.set_cons_zero, List.set_cons_succ, List.length_cons, List.length_nil, List.replicate_succ, List.replicate_zero, List.cons_append, List.nil_append, Option.map_some, Option.map_none, Option.bind_some, Option.bind_none, Option.isSome_some, Option.isSome_none, if_true, if_false, List.contains_nil, Bool.false_eq_true, reduceCtorEq, Bool.not_true, Bool.not_false, List.nodup_nil, List.not_mem_nil, List.mem_cons, or_false, false_or, true_and, and_true, not_true_eq_false, not_false_eq_true, List.nodup_cons, Bool.true_and, Bool.and_true, List.all_nil, List.all_cons, Nat.reduceLT, Nat.reduceAdd, Nat.reduceSub, Nat.reduceLeDiff, Nat.zero_lt_succ, Nat.lt_add_one, wipeE, restore, List.map_cons, List.map_nil, Option.getD_some, Option.getD_none, Prod.mk.injEq, Option.some.injEq, implies_true, forall_const, true_or, or_true, ite_true, ite_false, forall_eq, forall_eq_or_imp, Nat.not_lt_zero, decide_true, decide_false, beq_self_eq_true, and_self, Nat.reduceEqDiff, List.getElem?_map, RL.shaped_int, RL.shaped_bool, RL.shaped_none, PyData.eqv, Int.reduceEq, Int.reduceNe, Int.reduceBEq, Int.reduceLT, Int.reduceLE, bne, false_imp_iff, true_imp_iff, Int.cast_ofNat_Int, Bool.not_eq_true, Bool.false_and, Bool.and_false, Bool.true_or, Bool.false_or, Bool.or_true, Bool.or_false, List.any_nil, List.any_cons] at hc
    simp only [hc, hy, r1, r2, hpa, hneg, ca, hmul, runF, cellsOf, denS, den, R.st, R.b1, R.bA, R.tst, R.eo, R.part, P.isNil, tstS, dctD, op1, op2, opN, vals, give, T.val, Cell.val, Cell.own, boolOf, intOf, isaD, PyData.isInt, PyData.isBool, PyData.isTuple, PyData.isList, PyData.isStr, PyData.isDict,  RL.finish, retF, iosAt, outT, ioSlots, ioFrom, storeS, T.seal, sealAll, Tg.bind, callX, tmpIx, T.notF, R.cut, List.take_succ_cons, List.take_zero, List.take_nil, callR, argsOf, putIos, T.flat, flatO, flats, RL.flat, primD, prim1, prim2, lenD, intD, tupD, lstD, absD, maxD, minD, bl2, cmpD, eqOk, isNoneD, binD, addD, subD, modD, divD, negD, idxD, slcD, itrD, itemsD, sealR, enmD, zipD, rngD, parS, setS, appS, augS, augD, ownL,  List.getElem?_cons_zero, List.getElem?_cons_succ, List.getElem?_nil, List.set_cons_zero, List.set_cons_succ, List.length_cons, List.length_nil, List.replicate_succ, List.replicate_zero, List.cons_append, List.nil_append, Option.map_some, Option.map_none, Option.bind_some, Option.bind_none, Option.isSome_some, Option.isSome_none, if_true, if_false, List.contains_nil, Bool.false_eq_true, reduceCtorEq, Bool.not_true, Bool.not_false, List.nodup_nil, List.not_mem_nil, List.mem_cons, or_false, false_or, true_and, and_true, not_true_eq_false, not_false_eq_true, List.nodup_cons, Bool.true_and, Bool.and_true, List.all_nil, List.all_cons, Nat.reduceLT, Nat.reduceAdd, Nat.reduceSub, Nat.reduceLeDiff, Nat.zero_lt_succ, Nat.lt_add_one, wipeE, restore, List.map_cons, List.map_nil, Option.getD_some, Option.getD_none, Prod.mk.injEq, Option.some.injEq, implies_true, forall_const, true_or, or_true, ite_true, ite_false, forall_eq, forall_eq_or_imp, Nat.not_lt_zero, decide_true, decide_false, beq_self_eq_true, and_self, Nat.reduceEqDiff, List.getElem?_map, RL.shaped_int, RL.shaped_bool, RL.shaped_none, PyData.eqv, Int.reduceEq, Int.reduceNe, Int.reduceBEq, Int.reduceLT, Int.reduceLE, bne, false_imp_iff, true_imp_iff, Int.cast_ofNat_Int, Bool.not_eq_true, Bool.false_and, Bool.and_false, Bool.true_or, Bool.false_or, Bool.or_true, Bool.or_false, List.any_nil, List.any_cons]
  | false =>
    have hn' := of_decide_eq_false hneg
    have hpar : parN ps v = some p.toNat := by simp only [parN, hpg]; rw [if_neg hn']
    have hst : stp n q oN (parN ps) v (b, t) = (mulAt b p.toNat (ways n q b v), t) := by unfold stp; rw [hpar]
    rw [hst]
    have hpl : p.toNat < ps.length := by omega
    have ra := rowsR_at (n := n) (b := b) hpl (z := p) (by omega)
    have hix : L2.ixN (rowsR ps.length n b).length p = some p.toNat := by
      unfold L2.ixN
      rw [if_pos (by omega), if_pos (by rw [rowsR_len]; omega)]
    have hset := rowsR_set (n := n) (b := b) (c := ways n q b v) hpl
    have hz2 := zip_pairs n (b p.toNat) (ways n q b v)
    have hele : e p.toNat ≤ 300 := by
      have := le_sumE e v p.toNat (by omega)
      omega
    let g : PyData → PyData := fun d => match d with | .tuple [.int x, .int y] => .int (x * y) | d => d
    have hg := gen_map (t := (.tp (.cons (.nm 14) (.cons (.nm 15) .nil)))) (c := den (fun j => L9[j]?) (.cst (.bool true))) (b := den (fun j => L9[j]?) (.bin .Mult (.var 14) (.var 15))) (ws := [14, 15])
      (ρ := [book, tree, .pu (.int o), .pu (.tuple ps), .pu (.int (n : Int)), .ow (.list (qRows n q)), .un, .un, .ow (.list (rowsR ps.length n b)), .un, .un, .pu (.int t), .pu (.int z), .pu (.list (intsR n (ways n q b v))), .un, .un]) g (pairsR n (b p.toNat) (ways n q b v)) (fun d hd => by
        obtain ⟨s, hs, rfl⟩ := List.mem_map.mp hd
        have hm : mulOk (b p.toNat s) (ways n q b v s) = true := mul_bnd (hb p.toNat s) (hw s) (by omega) (by omega)
        have hm2 : mulD (.int (b p.toNat s)) (.int (ways n q b v s)) = some (.p (.int (b p.toNat s * ways n q b v s))) := by simp only [mulD, hm, if_true]
        have gd : g (.tuple [.int (b p.toNat s), .int (ways n q b v s)]) = .int (b p.toNat s * ways n q b v s) := rfl
        rw [gd]
        generalize b p.toNat s * ways n q b v s = xy at hm2 ⊢
        generalize b p.toNat s = x at hm2
        generalize ways n q b v s = y at hm2
        refine ⟨[book, tree, .pu (.int o), .pu (.tuple ps), .pu (.int (n : Int)), .ow (.list (qRows n q)), .un, .un, .ow (.list (rowsR ps.length n b)), .un, .un, .pu (.int t), .pu (.int z), .pu (.list (intsR n (ways n q b v))), .pu (.int x), .pu (.int y)], .p (.int xy), [book, tree, .pu (.int o), .pu (.tuple ps), .pu (.int (n : Int)), .ow (.list (qRows n q)), .un, .un, .ow (.list (rowsR ps.length n b)), .un, .un, .pu (.int t), .pu (.int z), .pu (.list (intsR n (ways n q b v))), .pu (.int x), .pu (.int y)], [book, tree, .pu (.int o), .pu (.tuple ps), .pu (.int (n : Int)), .ow (.list (qRows n q)), .un, .un, .ow (.list (rowsR ps.length n b)), .un, .un, .pu (.int t), .pu (.int z), .pu (.list (intsR n (ways n q b v))), .pu (.int x), .pu (.int y)], rfl, rfl, ?_, rfl, rfl⟩
        simp only [hm2, runF, cellsOf, denS, den, R.st, R.b1, R.bA, R.tst, R.eo, R.part, P.isNil, tstS, dctD, op1, op2, opN, vals, give, T.val, Cell.val, Cell.own, boolOf, intOf, isaD, PyData.isInt, PyData.isBool, PyData.isTuple, PyData.isList, PyData.isStr, PyData.isDict,  RL.finish, retF, iosAt, outT, ioSlots, ioFrom, storeS, T.seal, sealAll, Tg.bind, callX, tmpIx, T.notF, R.cut, List.take_succ_cons, List.take_zero, List.take_nil, callR, argsOf, putIos, T.flat, flatO, flats, RL.flat, primD, prim1, prim2, lenD, intD, tupD, lstD, absD, maxD, minD, bl2, cmpD, eqOk, isNoneD, binD, addD, subD, modD, divD, negD, idxD, slcD, itrD, itemsD, sealR, enmD, zipD, rngD, parS, setS, appS, augS, augD, ownL,  List.getElem?_cons_zero, List.getElem?_cons_succ, List.getElem?_nil, List.set_cons_zero, List.set_cons_succ, List.length_cons, List.length_nil, List.replicate_succ, List.replicate_zero, List.cons_append, List.nil_append, Option.map_some, Option.map_none, Option.bind_some, Option.bind_none, Option.isSome_some, Option.isSome_none, if_true, if_false, List.contains_nil, Bool.false_eq_true, reduceCtorEq, Bool.not_true, Bool.not_false, List.nodup_nil, List.not_mem_nil, List.mem_cons, or_false, false_or, true_and, and_true, not_true_eq_false, not_false_eq_true, List.nodup_cons, Bool.true_and, Bool.and_true, List.all_nil, List.all_cons, Nat.reduceLT, Nat.reduceAdd, Nat.reduceSub, Nat.reduceLeDiff, Nat.zero_lt_succ, Nat.lt_add_one, wipeE, restore, List.map_cons, List.map_nil, Option.getD_some, Option.getD_none, Prod.mk.injEq, Option.some.injEq, implies_true, forall_const, true_or, or_true, ite_true, ite_false, forall_eq, forall_eq_or_imp, Nat.not_lt_zero, decide_true, decide_false, beq_self_eq_true, and_self, Nat.reduceEqDiff, List.getElem?_map, RL.shaped_int, RL.shaped_bool, RL.shaped_none, PyData.eqv, Int.reduceEq, Int.reduceNe, Int.reduceBEq, Int.reduceLT, Int.reduceLE, bne, false_imp_iff, true_imp_iff, Int.cast_ofNat_Int, Bool.not_eq_true, Bool.false_and, Bool.and_false, Bool.true_or, Bool.false_or, Bool.or_true, Bool.or_false, List.any_nil, List.any_cons])
    have hgm : (pairsR n (b p.toNat) (ways n q b v)).map g = intsR n fun s => b p.toNat s * ways n q b v s := by
      rw [pairsR, List.map_map, intsR]
      exact List.map_congr_left fun s _ => rfl
    rw [hgm] at hg
    have hpy : (pairsR n (b p.toNat) (ways n q b v)).length ≤ 16777216 := by rw [pairs_len]; omega
    refine ⟨.pu (.list (intsR n (ways n q b v))), ?_⟩
    simp only
    rw [← hset]
    generalize (intsR n fun s => b p.toNat s * ways n q b v s) = NN at *
    generalize pairsR n (b p.toNat) (ways n q b v) = PP at *
    generalize intsR n (ways n q b v) = WW at *
    generalize intsR n (b p.toNat) = BB at *
    generalize rowsR ps.length n b = RR at *
    generalize qRows n q = QQ at *
    generalize (n : Int) = m at *
    generalize p.toNat = pN at *
    simp only [runF, cellsOf, denS, den, R.st, R.b1, R.bA, R.tst, R.eo, R.part, P.isNil, tstS, dctD, op1, op2, opN, vals, give, T.val, Cell.val, Cell.own, boolOf, intOf, isaD, PyData.isInt, PyData.isBool, PyData.isTuple, PyData.isList, PyData.isStr, PyData.isDict,  RL.finish, retF, iosAt, outT, ioSlots, ioFrom, storeS, T.seal, sealAll, Tg.bind, callX, tmpIx, T.notF, R.cut, List.take_succ_cons, List.take_zero, List.take_nil, callR, argsOf, putIos, T.flat, flatO, flats, RL.flat, primD, prim1, prim2, lenD, intD, tupD, lstD, absD, maxD, minD, bl2, cmpD, eqOk, isNoneD, binD, addD, subD, modD, divD, negD, idxD, slcD, itrD, itemsD, sealR, enmD, rngD, parS, setS, appS, augS, augD, ownL,  List.getElem?_cons_zero, List.getElem?_cons_succ, List.getElem?_nil, List.set_cons_zero, List.set_cons_succ, List.length_cons, List.length_nil, List.replicate_succ, List.replicate_zero, List.cons_append, List.nil_append, Option.map_some, Option.map_none, Option.bind_some, Option.bind_none, Option.isSome_some, Option.isSome_none, if_true, if_false, List.contains_nil, Bool.false_eq_true, reduceCtorEq, Bool.not_true, Bool.not_false, List.nodup_nil, List.not_mem_nil, List.mem_cons, or_false, false_or, true_and, and_true, not_true_eq_false, not_false_eq_true, List.nodup_cons, Bool.true_and, Bool.and_true, List.all_nil, List.all_cons, Nat.reduceLT, Nat.reduceAdd, Nat.reduceSub, Nat.reduceLeDiff, Nat.zero_lt_succ, Nat.lt_add_one, wipeE, restore, List.map_cons, List.map_nil, Option.getD_some, Option.getD_none, Prod.mk.injEq, Option.some.injEq, implies_true, forall_const, true_or, or_true, ite_true, ite_false, forall_eq, forall_eq_or_imp, Nat.not_lt_zero, decide_true, decide_false, beq_self_eq_true, and_self, Nat.reduceEqDiff, List.getElem?_map, RL.shaped_int, RL.shaped_bool, RL.shaped_none, PyData.eqv, Int.reduceEq, Int.reduceNe, Int.reduceBEq, Int.reduceLT, Int.reduceLE, bne, false_imp_iff, true_imp_iff, Int.cast_ofNat_Int, Bool.not_eq_true, Bool.false_and, Bool.and_false, Bool.true_or, Bool.false_or, Bool.or_true, Bool.or_false, List.any_nil, List.any_cons] at hc hg
    simp only [hc, hy, r1, r2, hpa, hneg, ra, hz2, hg, hpy, hix, runF, cellsOf, denS, den, R.st, R.b1, R.bA, R.tst, R.eo, R.part, P.isNil, tstS, dctD, op1, op2, opN, vals, give, T.val, Cell.val, Cell.own, boolOf, intOf, isaD, PyData.isInt, PyData.isBool, PyData.isTuple, PyData.isList, PyData.isStr, PyData.isDict,  RL.finish, retF, iosAt, outT, ioSlots, ioFrom, storeS, T.seal, sealAll, Tg.bind, callX, tmpIx, T.notF, R.cut, List.take_succ_cons, List.take_zero, List.take_nil, callR, argsOf, putIos, T.flat, flatO, flats, RL.flat, primD, prim1, prim2, lenD, intD, tupD, lstD, absD, maxD, minD, bl2, cmpD, eqOk, isNoneD, binD, addD, subD, modD, divD, negD, idxD, slcD, itrD, itemsD, sealR, enmD, rngD, parS, setS, appS, augS, augD, ownL,  List.getElem?_cons_zero, List.getElem?_cons_succ, List.getElem?_nil, List.set_cons_zero, List.set_cons_succ, List.length_cons, List.length_nil, List.replicate_succ, List.replicate_zero, List.cons_append, List.nil_append, Option.map_some, Option.map_none, Option.bind_some, Option.bind_none, Option.isSome_some, Option.isSome_none, if_true, if_false, List.contains_nil, Bool.false_eq_true, reduceCtorEq, Bool.not_true, Bool.not_false, List.nodup_nil, List.not_mem_nil, List.mem_cons, or_false, false_or, true_and, and_true, not_true_eq_false, not_false_eq_true, List.nodup_cons, Bool.true_and, Bool.and_true, List.all_nil, List.all_cons, Nat.reduceLT, Nat.reduceAdd, Nat.reduceSub, Nat.reduceLeDiff, Nat.zero_lt_succ, Nat.lt_add_one, wipeE, restore, List.map_cons, List.map_nil, Option.getD_some, Option.getD_none, Prod.mk.injEq, Option.some.injEq, implies_true, forall_const, true_or, or_true, ite_true, ite_false, forall_eq, forall_eq_or_imp, Nat.not_lt_zero, decide_true, decide_false, beq_self_eq_true, and_self, Nat.reduceEqDiff, List.getElem?_map, RL.shaped_int, RL.shaped_bool, RL.shaped_none, PyData.eqv, Int.reduceEq, Int.reduceNe, Int.reduceBEq, Int.reduceLT, Int.reduceLE, bne, false_imp_iff, true_imp_iff, Int.cast_ofNat_Int, Bool.not_eq_true, Bool.false_and, Bool.and_false, Bool.true_or, Bool.false_or, Bool.or_true, Bool.or_false, List.any_nil, List.any_cons]
end K74

namespace K74
open PySem RL
theorem rgr_nat (k : Nat) (h : k ≤ 100000) : rgrD (.int (k : Int)) = some (.p (.list (stepD (0 + (k : Int) - 1) (-1) k))) := by
  have e : ((k : Int) - 0).toNat = k := by omega
  have p24 : (2 : Int) ^ 24 = 16777216 := by decide
  have p62 : (2 : Int) ^ 62 = 4611686018427387904 := by decide
  unfold rgrD
  simp only
  rw [if_pos (by omega), e]
theorem step_at {i c : Int} {n k : Nat} {d : PyData} (h : (stepD i c n)[k]? = some d) : k < n ∧ d = .int (i + (k : Int) * c) := by
  have hk := (List.getElem?_eq_some_iff.mp h).1
  rw [stepD_len] at hk
  rw [stepD_get hk] at h
  exact ⟨hk, (Option.some.inj h).symm⟩
theorem Bd_one (n : Nat) (K : Nat) (h : K ≤ 300) : Bd 300 K (fun _ _ => 1) 1 := by
  refine ⟨fun _ => 0, 0, fun _ _ => ⟨(by decide : (0 : Int) ≤ 1), (by decide : (1 : Int) ≤ 4 ^ 0)⟩, by decide, by decide, ?_⟩
  have : ∀ k, sumE (fun _ => 0) k = 0 := by
    intro k
    induction k with
    | zero => rfl
    | succ k ih => simp [sumE, ih]
  rw [this]; omega
set_option maxHeartbeats 4000000 in
theorem eq_count_rests {n : Nat} (hn1 : 1 ≤ n) (hn : n ≤ 4) {rs : List PyData} (hb : bookOk (.tuple [.int (n : Int), .tuple rs]) = true) (hr : rs.all (ruleOk (n : Int)) = true) (hl : rs.length ≤ 12) {o : Int} {oN : Nat} (ho : o = oN) (hoN : oN < n) {ps ss : List PyData} (hp : parL ps)
    (hpl : ps.length ≤ 250) (ht : treeOk (n : Int) (.tuple [.int o, .tuple ps, .tuple ss]) = true) :
    f9.φ [.tuple [.int (n : Int), .tuple rs], .tuple [.int o, .tuple ps, .tuple ss]] = .ret (.p (.int (total n (quietQ rs) oN (parN ps) ps.length))) [] := by
  have h_need_tree : L9[8]? = some f8 := rfl
  have i_need_tree : f8.io = [false, false] := rfl
  have h_firing_rules : L9[6]? = some f6 := rfl
  have i_firing_rules : f6.io = [false, false, false] := rfl
  have qn := eq_need_tree (m := (n : Int)) (by omega) [.tuple rs] (.tuple [.int o, .tuple ps, .tuple ss]) hb
  rw [ht, if_pos rfl] at qn
  have hq := quiet_out (.pu (.tuple [.int (n : Int), .tuple rs])) (.pu (.tuple [.int o, .tuple ps, .tuple ss])) (.pu (.int o)) (.pu (.tuple ps)) n hn (.int (n : Int)) rs rfl hr (by omega)
  have h1 := ones_out (.pu (.tuple [.int (n : Int), .tuple rs])) (.pu (.tuple [.int o, .tuple ps, .tuple ss])) (.pu (.int o)) (.pu (.tuple ps)) (.ow (.list (qRows n (quietQ rs)))) n hn ps
  obtain ⟨ρ', hf, b, t, c12, c13, hI, hrun, hB⟩ := for_ex (t := (.nm 12)) (b := denS (fun j => L9[j]?) (.cons (.asg (.nm 13) (.lc [("above", 7)] (.nm 7) (.rng (.cons (.var 4) .nil)) (.cst (.bool true)) (.prim .sum (.cons (.lc [("own", 6)] (.nm 6) (.itr (.idx (.var 5) (.var 7))) (.cst (.bool true)) (.idx (.idx (.var 8) (.var 12)) (.var 6))) .nil)))) (.cons (.iff (.cmp .Lt (.idx (.var 3) (.var 12)) (.cst (.int 0))) (.cons (.aug .Mult 11 (.idx (.var 13) (.var 2))) .nil) (.cons (.setL 8 (.idx (.var 3) (.var 12)) (.lc [("old", 14), ("new", 15)] (.tp (.cons (.nm 14) (.cons (.nm 15) .nil))) (.zip (.idx (.var 8) (.idx (.var 3) (.var 12))) (.var 13)) (.cst (.bool true)) (.bin .Mult (.var 14) (.var 15)))) .nil)) .nil)))
    (fun i ρ => ∃ b t c12 c13, ρ = [.pu (.tuple [.int (n : Int), .tuple rs]), .pu (.tuple [.int o, .tuple ps, .tuple ss]), .pu (.int o), .pu (.tuple ps), .pu (.int (n : Int)), .ow (.list (qRows n (quietQ rs))), .un, .un, .ow (.list (rowsR ps.length n b)), .un, .un, .pu (.int t), c12, c13, .un, .un] ∧
      run n (quietQ rs) oN (parN ps) (ps.length - i) (b, t) = run n (quietQ rs) oN (parN ps) ps.length (fun _ _ => 1, 1) ∧ Bd 300 (ps.length - i) b t)
    (stepD (0 + (ps.length : Int) - 1) (-1) ps.length) 0 [.pu (.tuple [.int (n : Int), .tuple rs]), .pu (.tuple [.int o, .tuple ps, .tuple ss]), .pu (.int o), .pu (.tuple ps), .pu (.int (n : Int)), .ow (.list (qRows n (quietQ rs))), .un, .un, .ow (.list (rowsR ps.length n fun _ _ => 1)), .un, .un, .pu (.int 1), .un, .un, .un, .un]
    (fun i d hd ρ hI => by
      obtain ⟨b, t, c12, c13, rfl, hrun, hB⟩ := hI
      obtain ⟨hi, rfl⟩ := step_at hd
      rw [Nat.zero_add] at hrun hB
      have ev : ps.length - i = ps.length - i - 1 + 1 := by omega
      rw [ev] at hrun hB
      obtain ⟨c13', hs⟩ := node_step (.pu (.tuple [.int (n : Int), .tuple rs])) (.pu (.tuple [.int o, .tuple ps, .tuple ss])) o oN ho ps hp n hn hoN (quietQ rs) b t (ps.length - i - 1) (by omega) (by omega) hB (0 + (ps.length : Int) - 1 + (i : Int) * -1) (by omega) c13
      refine ⟨_, _, rfl, hs, _, _, _, _, rfl, ?_, ?_⟩
      · rw [Nat.zero_add, show ps.length - (i + 1) = ps.length - i - 1 by omega]
        exact hrun
      · rw [Nat.zero_add, show ps.length - (i + 1) = ps.length - i - 1 by omega]
        exact Bd.step n (quietQ rs) oN hn (parN_lt hp) hB) ⟨_, _, _, _, rfl, rfl, Bd_one n _ (by omega)⟩
  subst hI
  rw [Nat.zero_add, stepD_len, Nat.sub_self] at hrun
  have htot : total n (quietQ rs) oN (parN ps) ps.length = t := by
    unfold total
    rw [← hrun]; rfl
  rw [htot]
  have hg := rgr_nat ps.length (by omega)
  have hy : (rangeD 0 (n : Int)).length ≤ 16777216 := by rw [rangeD_len]; omega
  have hpz : ps.length ≤ 16777216 := by omega
  obtain ⟨r1, r2⟩ := rng_in (m := (n : Int)) (by omega) (by omega)
  have a0 : L2.atI ([.int o, .tuple ps, .tuple ss] : List PyData) (0 : Int) = some (.int o) := rfl
  have a1 : L2.atI ([.int o, .tuple ps, .tuple ss] : List PyData) (1 : Int) = some (.tuple ps) := rfl
  have b0 : L2.atI ([.int (n : Int), .tuple rs] : List PyData) (0 : Int) = some (.int (n : Int)) := rfl
  generalize stepD (0 + (ps.length : Int) - 1) (-1) ps.length = ST at hf hg
  generalize rowsR ps.length n b = R1 at hf
  generalize (rowsR ps.length n fun _ _ => 1) = R0 at hf h1
  generalize qRows n (quietQ rs) = QQ at *
  generalize (n : Int) = m at *
  simp only [h_need_tree, i_need_tree, h_firing_rules, i_firing_rules, runF, cellsOf, denS, den, R.st, R.b1, R.bA, R.tst, R.eo, R.part, P.isNil, tstS, dctD, op1, op2, opN, vals, give, T.val, Cell.val, Cell.own, boolOf, intOf, isaD, PyData.isInt, PyData.isBool, PyData.isTuple, PyData.isList, PyData.isStr, PyData.isDict,  RL.finish, retF, iosAt, outT, ioSlots, ioFrom, storeS, T.seal, sealAll, Tg.bind, callX, tmpIx, T.notF, R.cut, List.take_succ_cons, List.take_zero, List.take_nil, callR, argsOf, putIos, T.flat, flatO, flats, RL.flat, primD, prim1, prim2, lenD, intD, tupD, lstD, absD, maxD, minD, bl2, cmpD, eqOk, isNoneD, binD, addD, subD, modD, divD, negD, idxD, slcD, itrD, itemsD, sealR, enmD, rngD, parS, setS, appS, augS, augD, ownL,  List.getElem?_cons_zero, List.getElem?_cons_succ, List.getElem?_nil, List.set_cons_zero, List.set_cons_succ, List.length_cons, List.length_nil, List.replicate_succ, List.replicate_zero, List.cons_append, List.nil_append, Option.map_some, Option.map_none, Option.bind_some, Option.bind_none, Option.isSome_some, Option.isSome_none, if_true, if_false, List.contains_nil, Bool.false_eq_true, reduceCtorEq, Bool.not_true, Bool.not_false, List.nodup_nil, List.not_mem_nil, List.mem_cons, or_false, false_or, true_and, and_true, not_true_eq_false, not_false_eq_true, List.nodup_cons, Bool.true_and, Bool.and_true, List.all_nil, List.all_cons, Nat.reduceLT, Nat.reduceAdd, Nat.reduceSub, Nat.reduceLeDiff, Nat.zero_lt_succ, Nat.lt_add_one, wipeE, restore, List.map_cons, List.map_nil, Option.getD_some, Option.getD_none, Prod.mk.injEq, Option.some.injEq, implies_true, forall_const, true_or, or_true, ite_true, ite_false, forall_eq, forall_eq_or_imp, Nat.not_lt_zero, decide_true, decide_false, beq_self_eq_true, and_self, Nat.reduceEqDiff, List.getElem?_map, RL.shaped_int, RL.shaped_bool, RL.shaped_none, PyData.eqv, Int.reduceEq, Int.reduceNe, Int.reduceBEq, Int.reduceLT, Int.reduceLE, bne, false_imp_iff, true_imp_iff, Int.cast_ofNat_Int, Bool.not_eq_true, Bool.false_and, Bool.and_false, Bool.true_or, Bool.false_or, Bool.or_true, Bool.or_false, List.any_nil, List.any_cons] at hq h1 hf
  simp only [f9, io9, s9, h_need_tree, i_need_tree, h_firing_rules, i_firing_rules, qn, a0, a1, b0, r1, r2, hq, hy, h1, hpz, hg, hf, runF, cellsOf, denS, den, R.st, R.b1, R.bA, R.tst, R.eo, R.part, P.isNil, tstS, dctD, op1, op2, opN, vals, give, T.val, Cell.val, Cell.own, boolOf, intOf, isaD, PyData.isInt, PyData.isBool, PyData.isTuple, PyData.isList, PyData.isStr, PyData.isDict,  RL.finish, retF, iosAt, outT, ioSlots, ioFrom, storeS, T.seal, sealAll, Tg.bind, callX, tmpIx, T.notF, R.cut, List.take_succ_cons, List.take_zero, List.take_nil, callR, argsOf, putIos, T.flat, flatO, flats, RL.flat, primD, prim1, prim2, lenD, intD, tupD, lstD, absD, maxD, minD, bl2, cmpD, eqOk, isNoneD, binD, addD, subD, modD, divD, negD, idxD, slcD, itrD, itemsD, sealR, enmD, rngD, parS, setS, appS, augS, augD, ownL,  List.getElem?_cons_zero, List.getElem?_cons_succ, List.getElem?_nil, List.set_cons_zero, List.set_cons_succ, List.length_cons, List.length_nil, List.replicate_succ, List.replicate_zero, List.cons_append, List.nil_append, Option.map_some, Option.map_none, Option.bind_some, Option.bind_none, Option.isSome_some, Option.isSome_none, if_true, if_false, List.contains_nil, Bool.false_eq_true, reduceCtorEq, Bool.not_true, Bool.not_false, List.nodup_nil, List.not_mem_nil, List.mem_cons, or_false, false_or, true_and, and_true, not_true_eq_false, not_false_eq_true, List.nodup_cons, Bool.true_and, Bool.and_true, List.all_nil, List.all_cons, Nat.reduceLT, Nat.reduceAdd, Nat.reduceSub, Nat.reduceLeDiff, Nat.zero_lt_succ, Nat.lt_add_one, wipeE, restore, List.map_cons, List.map_nil, Option.getD_some, Option.getD_none, Prod.mk.injEq, Option.some.injEq, implies_true, forall_const, true_or, or_true, ite_true, ite_false, forall_eq, forall_eq_or_imp, Nat.not_lt_zero, decide_true, decide_false, beq_self_eq_true, and_self, Nat.reduceEqDiff, List.getElem?_map, RL.shaped_int, RL.shaped_bool, RL.shaped_none, PyData.eqv, Int.reduceEq, Int.reduceNe, Int.reduceBEq, Int.reduceLT, Int.reduceLE, bne, false_imp_iff, true_imp_iff, Int.cast_ofNat_Int, Bool.not_eq_true, Bool.false_and, Bool.and_false, Bool.true_or, Bool.false_or, Bool.or_true, Bool.or_false, List.any_nil, List.any_cons]
end K74

namespace K74
open PySem RL
theorem atI_ints {xs : List Int} {z : Int} (h0 : 0 ≤ z) (h1 : z < (xs.length : Int)) : ∃ x ∈ xs, L2.atI (xs.map PyData.int) z = some (.int x) := by
  have hz : z.toNat < xs.length := by omega
  exact ⟨xs[z.toNat], List.getElem_mem hz, at_nat (n := z.toNat) (by omega) (by rw [List.getElem?_map, List.getElem?_eq_getElem hz]; rfl)⟩
end K74

namespace K74
open PySem RL
theorem s_p18 : powD (.int 10) (.int 18) = some (.p (.int 1000000000000000000)) := rfl
theorem s_p30 : powD (.int 10) (.int 30) = some (.p (.int 1000000000000000000000000000000)) := rfl
theorem s_m30 (a : Int) : modD (.int a) (.int (1000000000000000000000000000000 + 57)) = some (.p (.int (a % (1000000000000000000000000000000 + 57)))) := by
  simp only [modD]
  exact if_pos (by decide)
theorem s_m61 (a : Int) : modD (.int a) (.int 2305843009213693951) = some (.p (.int (a % 2305843009213693951))) := by
  simp only [modD]
  exact if_pos (by decide)
theorem s_m9 (a : Int) : modD (.int a) (.int 1000000007) = some (.p (.int (a % 1000000007))) := by
  simp only [modD]
  exact if_pos (by decide)
/-- a source: its digits, its seed, how often it was asked -/
structure Src (d : PyData) (t : Int) : Prop where
  ex : ∃ dg sd st : Int, d = .list [.int dg, .int sd, .int st] ∧ (0 ≤ sd ∧ sd ≤ 2000000000000000000000000000000) ∧ (0 ≤ st ∧ st ≤ t)
theorem eq__law_source (ns : List Int) (k : Int) (h0 : 0 ≤ k) (h1 : k ≤ 1000) : ∃ d, f10.φ [.list (ns.map PyData.int), .int k] = .ret (.f d) [] ∧ Src d 0 := by
  have fin : ∀ c : Int, Src (.list [.int (if 1000000000000000000 ≤ c then c - 1000000000000000000 else 0), .int (c % (1000000000000000000000000000000 + 57) + k), .int 0]) 0 := by
    intro c
    have h2 := mod_in c (show (0 : Int) < 1000000000000000000000000000000 + 57 by decide)
    refine ⟨_, _, 0, rfl, ⟨by omega, ?_⟩, by decide, by decide⟩
    have : ((1000000000000000000000000000000 : Int) + 57) = 1000000000000000000000000000057 := by decide
    rw [this] at h2 ⊢
    omega
  cases hl : decide ((0 : Int) < ((ns.map PyData.int).length : Int)) with
  | false =>
    refine ⟨_, ?_, fin 0⟩
    rw [if_neg (by decide)]
    generalize ns.map PyData.int = X at hl ⊢
    simp only [f10, io10, s10, hl, s_p18, s_p30, s_m30, runF, cellsOf, denS, den, R.st, R.b1, R.bA, R.tst, R.eo, R.part, P.isNil, tstS, dctD, op1, op2, opN, vals, give, T.val, Cell.val, Cell.own, boolOf, intOf, isaD, PyData.isInt, PyData.isBool, PyData.isTuple, PyData.isList, PyData.isStr, PyData.isDict,  RL.finish, retF, iosAt, outT, ioSlots, ioFrom, storeS, T.seal, sealAll, Tg.bind, callX, tmpIx, T.notF, R.cut, List.take_succ_cons, List.take_zero, List.take_nil, callR, argsOf, putIos, T.flat, flatO, flats, RL.flat, primD, prim1, prim2, lenD, intD, tupD, lstD, absD, maxD, minD, bl2, cmpD, eqOk, isNoneD, binD, addD, subD, divD, negD, idxD, slcD, itrD, itemsD, sealR, enmD, zipD, rngD, parS, setS, appS, augS, augD, ownL,  List.getElem?_cons_zero, List.getElem?_cons_succ, List.getElem?_nil, List.set_cons_zero, List.set_cons_succ, List.length_cons, List.length_nil, List.replicate_succ, List.replicate_zero, List.cons_append, List.nil_append, Option.map_some, Option.map_none, Option.bind_some, Option.bind_none, Option.isSome_some, Option.isSome_none, if_true, if_false, List.contains_nil, Bool.false_eq_true, reduceCtorEq, Bool.not_true, Bool.not_false, List.nodup_nil, List.not_mem_nil, List.mem_cons, or_false, false_or, true_and, and_true, not_true_eq_false, not_false_eq_true, List.nodup_cons, Bool.true_and, Bool.and_true, List.all_nil, List.all_cons, Nat.reduceLT, Nat.reduceAdd, Nat.reduceSub, Nat.reduceLeDiff, Nat.zero_lt_succ, Nat.lt_add_one, wipeE, restore, List.map_cons, List.map_nil, Option.getD_some, Option.getD_none, Prod.mk.injEq, Option.some.injEq, implies_true, forall_const, true_or, or_true, ite_true, ite_false, forall_eq, forall_eq_or_imp, Nat.not_lt_zero, decide_true, decide_false, beq_self_eq_true, and_self, Nat.reduceEqDiff, List.getElem?_map, RL.shaped_int, RL.shaped_bool, RL.shaped_none, PyData.eqv, Int.reduceEq, Int.reduceNe, Int.reduceBEq, Int.reduceLT, Int.reduceLE, bne, false_imp_iff, true_imp_iff, Int.cast_ofNat_Int, Bool.not_eq_true, Bool.false_and, Bool.and_false, Bool.true_or, Bool.false_or, Bool.or_true, Bool.or_false, List.any_nil, List.any_cons]
  | true =>
    have hl' := of_decide_eq_true hl
    obtain ⟨m0, m1⟩ := mod_in k hl'
    rw [List.length_map] at m1
    have hmod : modD (.int k) (.int ((ns.map PyData.int).length : Int)) = some (.p (.int (k % ((ns.map PyData.int).length : Int)))) := by
      simp only [modD]; exact if_pos hl'
    rw [List.length_map] at hmod m0
    obtain ⟨c, -, ha⟩ := atI_ints (xs := ns) (z := k % (ns.length : Int)) m0 m1
    have hll : ((ns.map PyData.int).length : Int) = (ns.length : Int) := by rw [List.length_map]
    generalize k % (ns.length : Int) = w at hmod ha
    refine ⟨_, ?_, fin c⟩
    rw [hll] at hl
    generalize ns.map PyData.int = X at hll ha ⊢
    generalize (ns.length : Int) = L at *
    cases hc : decide ((1000000000000000000 : Int) ≤ c) with
    | true =>
      rw [if_pos (of_decide_eq_true hc)]
      simp only [f10, io10, s10, hll, hl, hmod, ha, hc, s_p18, s_p30, s_m30, runF, cellsOf, denS, den, R.st, R.b1, R.bA, R.tst, R.eo, R.part, P.isNil, tstS, dctD, op1, op2, opN, vals, give, T.val, Cell.val, Cell.own, boolOf, intOf, isaD, PyData.isInt, PyData.isBool, PyData.isTuple, PyData.isList, PyData.isStr, PyData.isDict,  RL.finish, retF, iosAt, outT, ioSlots, ioFrom, storeS, T.seal, sealAll, Tg.bind, callX, tmpIx, T.notF, R.cut, List.take_succ_cons, List.take_zero, List.take_nil, callR, argsOf, putIos, T.flat, flatO, flats, RL.flat, primD, prim1, prim2, lenD, intD, tupD, lstD, absD, maxD, minD, bl2, cmpD, eqOk, isNoneD, binD, addD, subD, divD, negD, idxD, slcD, itrD, itemsD, sealR, enmD, zipD, rngD, parS, setS, appS, augS, augD, ownL,  List.getElem?_cons_zero, List.getElem?_cons_succ, List.getElem?_nil, List.set_cons_zero, List.set_cons_succ, List.length_cons, List.length_nil, List.replicate_succ, List.replicate_zero, List.cons_append, List.nil_append, Option.map_some, Option.map_none, Option.bind_some, Option.bind_none, Option.isSome_some, Option.isSome_none, if_true, if_false, List.contains_nil, Bool.false_eq_true, reduceCtorEq, Bool.not_true, Bool.not_false, List.nodup_nil, List.not_mem_nil, List.mem_cons, or_false, false_or, true_and, and_true, not_true_eq_false, not_false_eq_true, List.nodup_cons, Bool.true_and, Bool.and_true, List.all_nil, List.all_cons, Nat.reduceLT, Nat.reduceAdd, Nat.reduceSub, Nat.reduceLeDiff, Nat.zero_lt_succ, Nat.lt_add_one, wipeE, restore, List.map_cons, List.map_nil, Option.getD_some, Option.getD_none, Prod.mk.injEq, Option.some.injEq, implies_true, forall_const, true_or, or_true, ite_true, ite_false, forall_eq, forall_eq_or_imp, Nat.not_lt_zero, decide_true, decide_false, beq_self_eq_true, and_self, Nat.reduceEqDiff, List.getElem?_map, RL.shaped_int, RL.shaped_bool, RL.shaped_none, PyData.eqv, Int.reduceEq, Int.reduceNe, Int.reduceBEq, Int.reduceLT, Int.reduceLE, bne, false_imp_iff, true_imp_iff, Int.cast_ofNat_Int, Bool.not_eq_true, Bool.false_and, Bool.and_false, Bool.true_or, Bool.false_or, Bool.or_true, Bool.or_false, List.any_nil, List.any_cons]
    | false =>
      rw [if_neg (of_decide_eq_false hc)]
      simp only [f10, io10, s10, hll, hl, hmod, ha, hc, s_p18, s_p30, s_m30, runF, cellsOf, denS, den, R.st, R.b1, R.bA, R.tst, R.eo, R.part, P.isNil, tstS, dctD, op1, op2, opN, vals, give, T.val, Cell.val, Cell.own, boolOf, intOf, isaD, PyData.isInt, PyData.isBool, PyData.isTuple, PyData.isList, PyData.isStr, PyData.isDict,  RL.finish, retF, iosAt, outT, ioSlots, ioFrom, storeS, T.seal, sealAll, Tg.bind, callX, tmpIx, T.notF, R.cut, List.take_succ_cons, List.take_zero, List.take_nil, callR, argsOf, putIos, T.flat, flatO, flats, RL.flat, primD, prim1, prim2, lenD, intD, tupD, lstD, absD, maxD, minD, bl2, cmpD, eqOk, isNoneD, binD, addD, subD, divD, negD, idxD, slcD, itrD, itemsD, sealR, enmD, zipD, rngD, parS, setS, appS, augS, augD, ownL,  List.getElem?_cons_zero, List.getElem?_cons_succ, List.getElem?_nil, List.set_cons_zero, List.set_cons_succ, List.length_cons, List.length_nil, List.replicate_succ, List.replicate_zero, List.cons_append, List.nil_append, Option.map_some, Option.map_none, Option.bind_some, Option.bind_none, Option.isSome_some, Option.isSome_none, if_true, if_false, List.contains_nil, Bool.false_eq_true, reduceCtorEq, Bool.not_true, Bool.not_false, List.nodup_nil, List.not_mem_nil, List.mem_cons, or_false, false_or, true_and, and_true, not_true_eq_false, not_false_eq_true, List.nodup_cons, Bool.true_and, Bool.and_true, List.all_nil, List.all_cons, Nat.reduceLT, Nat.reduceAdd, Nat.reduceSub, Nat.reduceLeDiff, Nat.zero_lt_succ, Nat.lt_add_one, wipeE, restore, List.map_cons, List.map_nil, Option.getD_some, Option.getD_none, Prod.mk.injEq, Option.some.injEq, implies_true, forall_const, true_or, or_true, ite_true, ite_false, forall_eq, forall_eq_or_imp, Nat.not_lt_zero, decide_true, decide_false, beq_self_eq_true, and_self, Nat.reduceEqDiff, List.getElem?_map, RL.shaped_int, RL.shaped_bool, RL.shaped_none, PyData.eqv, Int.reduceEq, Int.reduceNe, Int.reduceBEq, Int.reduceLT, Int.reduceLE, bne, false_imp_iff, true_imp_iff, Int.cast_ofNat_Int, Bool.not_eq_true, Bool.false_and, Bool.and_false, Bool.true_or, Bool.false_or, Bool.or_true, Bool.or_false, List.any_nil, List.any_cons]
theorem wide_ok {i j : Int} {a b : Nat} (hi : i.natAbs < 2 ^ a) (hj : j.natAbs < 2 ^ b) (h0 : 0 < a) (h1 : 0 < b) (h : a + b ≤ 1000000) : mulD (.int i) (.int j) = some (.p (.int (i * j))) := by
  have w := L2.wide_mul hi hj h0 h1 h
  have : mulOk i j = true := by
    simp only [mulOk, Bool.or_eq_true, decide_eq_true_eq]
    exact .inr w
  simp only [mulD, this, if_true]
theorem eq__law_take (d : PyData) (t m : Int) (hd : Src d t) (ht : t ≤ 1000000) (m0 : 0 < m) (m1 : m ≤ 16777216) : ∃ r d', f11.φ [d, .int m] = .ret (.p (.int r)) [d'] ∧ (0 ≤ r ∧ r < m) ∧ Src d' (t + 1) := by
  obtain ⟨dg, sd, st, rfl, ⟨s0, s1⟩, t0, t1⟩ := hd.ex
  have i2 : L2.ixN 3 (2 : Int) = some 2 := rfl
  have i0 : L2.ixN 3 (0 : Int) = some 0 := rfl
  have a2 : L2.atI ([.int dg, .int sd, .int st] : List PyData) (2 : Int) = some (.int st) := rfl
  generalize hu : st + 1 = u
  have b0 : L2.atI ([.int dg, .int sd, .int u] : List PyData) (0 : Int) = some (.int dg) := rfl
  have b1 : L2.atI ([.int dg, .int sd, .int u] : List PyData) (1 : Int) = some (.int sd) := rfl
  have b2 : L2.atI ([.int dg, .int sd, .int u] : List PyData) (2 : Int) = some (.int u) := rfl
  have lm := small_log m0 m1
  have mm : ∀ a : Int, modD (.int a) (.int m) = some (.p (.int (a % m))) := fun a => by simp only [modD]; exact if_pos m0
  cases hg : decide ((0 : Int) < dg) with
  | true =>
    refine ⟨dg % m, .list [.int (dg / m), .int sd, .int u], ?_, mod_in dg m0, ⟨_, _, _, rfl, ⟨s0, s1⟩, by omega, by omega⟩⟩
    simp only [f11, io11, s11, a2, hu, i2, i0, b0, hg, mm, m0, lm, runF, cellsOf, denS, den, R.st, R.b1, R.bA, R.tst, R.eo, R.part, P.isNil, tstS, dctD, op1, op2, opN, vals, give, T.val, Cell.val, Cell.own, boolOf, intOf, isaD, PyData.isInt, PyData.isBool, PyData.isTuple, PyData.isList, PyData.isStr, PyData.isDict,  RL.finish, retF, iosAt, outT, ioSlots, ioFrom, storeS, T.seal, sealAll, Tg.bind, callX, tmpIx, T.notF, R.cut, List.take_succ_cons, List.take_zero, List.take_nil, callR, argsOf, putIos, T.flat, flatO, flats, RL.flat, primD, prim1, prim2, lenD, intD, tupD, lstD, absD, maxD, minD, bl2, cmpD, eqOk, isNoneD, binD, addD, subD, divD, negD, idxD, slcD, itrD, itemsD, sealR, enmD, zipD, rngD, parS, setS, appS, augS, augD, ownL,  List.getElem?_cons_zero, List.getElem?_cons_succ, List.getElem?_nil, List.set_cons_zero, List.set_cons_succ, List.length_cons, List.length_nil, List.replicate_succ, List.replicate_zero, List.cons_append, List.nil_append, Option.map_some, Option.map_none, Option.bind_some, Option.bind_none, Option.isSome_some, Option.isSome_none, if_true, if_false, List.contains_nil, Bool.false_eq_true, reduceCtorEq, Bool.not_true, Bool.not_false, List.nodup_nil, List.not_mem_nil, List.mem_cons, or_false, false_or, true_and, and_true, not_true_eq_false, not_false_eq_true, List.nodup_cons, Bool.true_and, Bool.and_true, List.all_nil, List.all_cons, Nat.reduceLT, Nat.reduceAdd, Nat.reduceSub, Nat.reduceLeDiff, Nat.zero_lt_succ, Nat.lt_add_one, wipeE, restore, List.map_cons, List.map_nil, Option.getD_some, Option.getD_none, Prod.mk.injEq, Option.some.injEq, implies_true, forall_const, true_or, or_true, ite_true, ite_false, forall_eq, forall_eq_or_imp, Nat.not_lt_zero, decide_true, decide_false, beq_self_eq_true, and_self, Nat.reduceEqDiff, List.getElem?_map, RL.shaped_int, RL.shaped_bool, RL.shaped_none, PyData.eqv, Int.reduceEq, Int.reduceNe, Int.reduceBEq, Int.reduceLT, Int.reduceLE, bne, false_imp_iff, true_imp_iff, Int.cast_ofNat_Int, Bool.not_eq_true, Bool.false_and, Bool.and_false, Bool.true_or, Bool.false_or, Bool.or_true, Bool.or_false, List.any_nil, List.any_cons]
  | false =>
    have p64 : (2 : Int) ^ 64 = 18446744073709551616 := by decide
    have x1 : mulD (.int 7919) (.int u) = some (.p (.int (7919 * u))) := mul_l (by decide) (by decide)
    have x2 : mulD (.int (7919 * u)) (.int u) = some (.p (.int (7919 * u * u))) := mul_r (by omega) (by omega)
    have x3 : mulD (.int 104729) (.int u) = some (.p (.int (104729 * u))) := mul_l (by decide) (by decide)
    have hu2 : 0 ≤ 7919 * u * u ∧ 7919 * u * u ≤ 7919 * 1000001 * 1000001 := ⟨Int.mul_nonneg (by omega) (by omega), Int.mul_le_mul (by omega) (by omega) (by omega) (by decide)⟩
    generalize 7919 * u * u = v at x2 hu2
    generalize hS : sd + v + 13 = S
    generalize hT : sd + 104729 * u + 1 = T'
    have p102 : (2 : Nat) ^ 102 = 5070602400912917605986812821504 := by decide
    have bS : S.natAbs < 2 ^ 102 := by omega
    have bT : T'.natAbs < 2 ^ 102 := by omega
    have x4 : mulD (.int S) (.int T') = some (.p (.int (S * T'))) := wide_ok bS bT (by decide) (by decide) (by decide)
    have bP : (S * T').natAbs < 2 ^ 204 := by
      rw [Int.natAbs_mul, show (204 : Nat) = 102 + 102 from rfl, Nat.pow_add]
      exact Nat.mul_lt_mul'' bS bT
    generalize S * T' = Q at x4 bP
    have x5 : mulD (.int Q) (.int Q) = some (.p (.int (Q * Q))) := wide_ok bP bP (by decide) (by decide) (by decide)
    have x6 : mulD (.int sd) (.int u) = some (.p (.int (sd * u))) := mul_r (by omega) (by omega)
    have k1009 : (Int.natAbs 1009).log2 < 9000 := small_log (by decide) (by decide)
    generalize Q * Q = QQ at x5
    generalize sd * u = su at x6
    generalize hR : QQ / 1009 + su = R'
    have y1 := s_m61 R'
    obtain ⟨z0, z1⟩ := mod_in R' (show (0 : Int) < 2305843009213693951 by decide)
    generalize R' % 2305843009213693951 = w at y1 z0 z1
    have x7 : mulD (.int w) (.int 48271) = some (.p (.int (w * 48271))) := mul_r (by decide) (by decide)
    have y2 := s_m9 (w * 48271)
    generalize w * 48271 % 1000000007 = e at y2
    refine ⟨e % m, .list [.int dg, .int sd, .int u], ?_, mod_in e m0, ⟨_, _, _, rfl, ⟨s0, s1⟩, by omega, by omega⟩⟩
    simp only [f11, io11, s11, a2, hu, i2, i0, b0, b1, b2, hg, x1, x2, x3, hS, hT, x4, x5, k1009, x6, hR, y1, x7, y2, mm, runF, cellsOf, denS, den, R.st, R.b1, R.bA, R.tst, R.eo, R.part, P.isNil, tstS, dctD, op1, op2, opN, vals, give, T.val, Cell.val, Cell.own, boolOf, intOf, isaD, PyData.isInt, PyData.isBool, PyData.isTuple, PyData.isList, PyData.isStr, PyData.isDict,  RL.finish, retF, iosAt, outT, ioSlots, ioFrom, storeS, T.seal, sealAll, Tg.bind, callX, tmpIx, T.notF, R.cut, List.take_succ_cons, List.take_zero, List.take_nil, callR, argsOf, putIos, T.flat, flatO, flats, RL.flat, primD, prim1, prim2, lenD, intD, tupD, lstD, absD, maxD, minD, bl2, cmpD, eqOk, isNoneD, binD, addD, subD, divD, negD, idxD, slcD, itrD, itemsD, sealR, enmD, zipD, rngD, parS, setS, appS, augS, augD, ownL,  List.getElem?_cons_zero, List.getElem?_cons_succ, List.getElem?_nil, List.set_cons_zero, List.set_cons_succ, List.length_cons, List.length_nil, List.replicate_succ, List.replicate_zero, List.cons_append, List.nil_append, Option.map_some, Option.map_none, Option.bind_some, Option.bind_none, Option.isSome_some, Option.isSome_none, if_true, if_false, List.contains_nil, Bool.false_eq_true, reduceCtorEq, Bool.not_true, Bool.not_false, List.nodup_nil, List.not_mem_nil, List.mem_cons, or_false, false_or, true_and, and_true, not_true_eq_false, not_false_eq_true, List.nodup_cons, Bool.true_and, Bool.and_true, List.all_nil, List.all_cons, Nat.reduceLT, Nat.reduceAdd, Nat.reduceSub, Nat.reduceLeDiff, Nat.zero_lt_succ, Nat.lt_add_one, wipeE, restore, List.map_cons, List.map_nil, Option.getD_some, Option.getD_none, Prod.mk.injEq, Option.some.injEq, implies_true, forall_const, true_or, or_true, ite_true, ite_false, forall_eq, forall_eq_or_imp, Nat.not_lt_zero, decide_true, decide_false, beq_self_eq_true, and_self, Nat.reduceEqDiff, List.getElem?_map, RL.shaped_int, RL.shaped_bool, RL.shaped_none, PyData.eqv, Int.reduceEq, Int.reduceNe, Int.reduceBEq, Int.reduceLT, Int.reduceLE, bne, false_imp_iff, true_imp_iff, Int.cast_ofNat_Int, Bool.not_eq_true, Bool.false_and, Bool.and_false, Bool.true_or, Bool.false_or, Bool.or_true, Bool.or_false, List.any_nil, List.any_cons]
end K74

namespace K74
open PySem RL
theorem Src.up {d : PyData} {t u : Int} (h : Src d t) (hu : t ≤ u) : Src d u := by
  obtain ⟨dg, sd, st, e, a, b, c⟩ := h.ex
  exact ⟨dg, sd, st, e, a, b, by omega⟩
theorem sig_gen (n : Int) (h2 : 0 < n) (h4 : n ≤ 4) (c2 c3 c4 c5 c6 c7 : Cell) (d : PyData) (t : Int) (hd : Src d t) (ht : t ≤ 100000) :
    ∃ es d', genGo (.nm 8) (den (fun j => L12[j]?) (.cst (.bool true))) (den (fun j => L12[j]?) (.call 11 (.cons (.var 0) (.cons (.var 1) .nil)))) [8] (rangeD 0 n) [.ow d, .pu (.int n), c2, c3, c4, c5, c6, c7, .un] = some (es, [.ow d', .pu (.int n), c2, c3, c4, c5, c6, c7, .un]) ∧ (es.length : Int) = n ∧ es.all (below n) = true ∧ Src d' (t + n) := by
  have h__law_take : L12[11]? = some f11 := rfl
  have i__law_take : f11.io = [true, false] := rfl
  obtain ⟨es, ρ', hg, ⟨d', hI, hS⟩, hl, hP⟩ := gen_ex (t := (.nm 8)) (c := den (fun j => L12[j]?) (.cst (.bool true))) (b := den (fun j => L12[j]?) (.call 11 (.cons (.var 0) (.cons (.var 1) .nil)))) (ws := [8])
    (fun i ρ => ∃ d, ρ = [.ow d, .pu (.int n), c2, c3, c4, c5, c6, c7, .un] ∧ Src d (t + (i : Int))) (fun _ e => below n e = true) (rangeD 0 n) 0 [.ow d, .pu (.int n), c2, c3, c4, c5, c6, c7, .un] (fun i x hx ρ hI => by
      obtain ⟨d, rfl, hS⟩ := hI
      obtain ⟨hi, rfl⟩ := range_at hx
      obtain ⟨r, d', q, hr, hS'⟩ := eq__law_take d _ n hS (by omega) h2 (by omega)
      refine ⟨[.ow d, .pu (.int n), c2, c3, c4, c5, c6, c7, .pu (.int (0 + (i : Int)))], .p (.int r), [.ow d', .pu (.int n), c2, c3, c4, c5, c6, c7, .pu (.int (0 + (i : Int)))], .int r, [.ow d', .pu (.int n), c2, c3, c4, c5, c6, c7, .pu (.int (0 + (i : Int)))], rfl, rfl, ?_, rfl, below_iff.mpr hr, d', rfl, hS'.up (by omega)⟩
      generalize (0 + (i : Int)) = z
      obtain ⟨dg, sd, st, rfl, _, _⟩ := hS.ex
      obtain ⟨dg', sd', st', rfl, _, _⟩ := hS'.ex
      simp only [h__law_take, i__law_take, q, runF, cellsOf, denS, den, R.st, R.b1, R.bA, R.tst, R.eo, R.part, P.isNil, tstS, dctD, op1, op2, opN, vals, give, T.val, Cell.val, Cell.own, boolOf, intOf, isaD, PyData.isInt, PyData.isBool, PyData.isTuple, PyData.isList, PyData.isStr, PyData.isDict,  RL.finish, retF, iosAt, outT, ioSlots, ioFrom, storeS, T.seal, sealAll, Tg.bind, callX, tmpIx, T.notF, R.cut, List.take_succ_cons, List.take_zero, List.take_nil, callR, argsOf, putIos, T.flat, flatO, flats, RL.flat, primD, prim1, prim2, lenD, intD, tupD, lstD, absD, maxD, minD, bl2, cmpD, eqOk, isNoneD, binD, addD, subD, modD, divD, negD, idxD, slcD, itrD, itemsD, sealR, enmD, zipD, rngD, parS, setS, appS, augS, augD, ownL,  List.getElem?_cons_zero, List.getElem?_cons_succ, List.getElem?_nil, List.set_cons_zero, List.set_cons_succ, List.length_cons, List.length_nil, List.replicate_succ, List.replicate_zero, List.cons_append, List.nil_append, Option.map_some, Option.map_none, Option.bind_some, Option.bind_none, Option.isSome_some, Option.isSome_none, if_true, if_false, List.contains_nil, Bool.false_eq_true, reduceCtorEq, Bool.not_true, Bool.not_false, List.nodup_nil, List.not_mem_nil, List.mem_cons, or_false, false_or, true_and, and_true, not_true_eq_false, not_false_eq_true, List.nodup_cons, Bool.true_and, Bool.and_true, List.all_nil, List.all_cons, Nat.reduceLT, Nat.reduceAdd, Nat.reduceSub, Nat.reduceLeDiff, Nat.zero_lt_succ, Nat.lt_add_one, wipeE, restore, List.map_cons, List.map_nil, Option.getD_some, Option.getD_none, Prod.mk.injEq, Option.some.injEq, implies_true, forall_const, true_or, or_true, ite_true, ite_false, forall_eq, forall_eq_or_imp, Nat.not_lt_zero, decide_true, decide_false, beq_self_eq_true, and_self, Nat.reduceEqDiff, List.getElem?_map, RL.shaped_int, RL.shaped_bool, RL.shaped_none, PyData.eqv, Int.reduceEq, Int.reduceNe, Int.reduceBEq, Int.reduceLT, Int.reduceLE, bne, false_imp_iff, true_imp_iff, Int.cast_ofNat_Int, Bool.not_eq_true, Bool.false_and, Bool.and_false, Bool.true_or, Bool.false_or, Bool.or_true, Bool.or_false, List.any_nil, List.any_cons]) ⟨d, rfl, by simpa using hd⟩
  subst hI
  have hrl := rng_len (m := n) (by omega)
  exact ⟨es, d', hg, by omega, all_get fun i e he => hP i e he, hS.up (by omega)⟩
theorem ruleOk_mk {m a o n : Int} {sg : List PyData} (ha : 0 ≤ a ∧ a < m) (ho : 0 ≤ o ∧ o < m) (hn : 0 ≤ n ∧ n < m) (hne : o ≠ n) (hl : (sg.length : Int) = m) (hs : sg.all (below m) = true) : ruleOk m (.tuple [.int a, .int o, .int n, .tuple sg]) = true := by
  rw [ruleOk_4]
  simp [below, sigOk, PyData.eqv, ha, ho, hn, hne, hl, hs]
theorem new_ne {m o p : Int} (hm : 2 ≤ m) (ho : 0 ≤ o ∧ o < m) (hp : 0 ≤ p ∧ p < m - 1) : o ≠ (o + 1 + p) % m := by
  intro z
  by_cases h : o + 1 + p < m
  · rw [Int.emod_eq_of_lt (by omega) h] at z; omega
  · have e : (o + 1 + p) % m = o + 1 + p - m := by
      rw [← Int.sub_emod_right, Int.emod_eq_of_lt (by omega) (by omega)]
    omega
theorem nums_lay : ∀ is : List Int, PyData.canLayAll0 (is.map PyData.int) = true ∧ PyData.depthAll (is.map PyData.int) = 0
  | [] => ⟨rfl, rfl⟩
  | i :: is => by
    obtain ⟨a, b⟩ := nums_lay is
    exact ⟨by simp [PyData.canLayAll0, PyData.canLay0, a], by simp [PyData.depthAll, PyData.depth, b]⟩
theorem rule_lay {m : Int} {d : PyData} (h : ruleOk m d = true) : d.canLay0 = true ∧ d.depth ≤ 2 := by
  obtain ⟨a, o, n, sg, rfl, _, _, _, _, _, hs⟩ := ruleOk_inv h
  obtain ⟨is, e, _, _⟩ := nums_keys hs
  subst e
  obtain ⟨p, q⟩ := nums_lay is
  exact ⟨by simp [PyData.canLayAll0, PyData.canLay0, p], by simp [PyData.depthAll, PyData.depth, q]⟩
theorem rules_lay {m : Int} : ∀ {rs : List PyData}, rs.all (ruleOk m) = true → PyData.canLayAll0 rs = true ∧ PyData.depthAll rs ≤ 2
  | [], _ => ⟨rfl, by decide⟩
  | d :: rs, h => by
    rw [List.all_cons, Bool.and_eq_true] at h
    obtain ⟨a, b⟩ := rule_lay h.1
    obtain ⟨c, e⟩ := rules_lay h.2
    refine ⟨by simp [PyData.canLayAll0, a, c], ?_⟩
    simp only [PyData.depthAll]
    omega
theorem rule_shaped {m : Int} {d : PyData} (h : ruleOk m d = true) : SeqAt.shaped d = true := by
  obtain ⟨a, b⟩ := rule_lay h
  simp only [SeqAt.shaped, a, Bool.true_and]
  exact decide_eq_true (by omega)
theorem rules_shaped {m : Int} {rs : List PyData} (h : rs.all (ruleOk m) = true) : SeqAt.shaped (.list rs) = true ∧ SeqAt.shaped (.tuple rs) = true := by
  obtain ⟨a, b⟩ := rules_lay h
  simp only [SeqAt.shaped, PyData.canLay0, PyData.depth, a, Bool.true_and]
  exact ⟨decide_eq_true (by omega), decide_eq_true (by omega)⟩
/-- rules of a book -/
structure Rules (m : Int) (rs : List PyData) : Prop where
  ok : rs.all (ruleOk m) = true
  nd : rs.Nodup
theorem rules_snoc {m : Int} {rs : List PyData} {d : PyData} (h : Rules m rs) (hd : ruleOk m d = true) (hn : (rs.any fun z => PyData.eqv z d) = false) : Rules m (rs ++ [d]) := by
  refine ⟨by simp [h.ok, hd], ?_⟩
  rw [List.nodup_append]
  refine ⟨h.nd, by simp, fun a hA b hB => ?_⟩
  rw [List.mem_singleton] at hB
  subst hB
  intro z
  subst z
  have := List.any_eq_false.mp hn a hA
  rw [PySem.SeqAt.eqv_refl a (rule_lay hd).1] at this
  exact this rfl
set_option maxHeartbeats 4000000 in
theorem book_step (n : Int) (h2 : 2 ≤ n) (h4 : n ≤ 4) (d : PyData) (t : Int) (hd : Src d t) (ht : t ≤ 50000) (rs : List PyData) (hR : Rules n rs) (hl : rs.length ≤ 100) (c3 : Cell) (k : PyData) (c5 c6 c7 : Cell) :
    ∃ d' rs' c5' c6' c7', denS (fun j => L12[j]?) (.cons (.asg (.nm 5) (.call 11 (.cons (.var 0) (.cons (.var 1) .nil)))) (.cons (.asg (.nm 6) (.bin .Mod (.prim .int (.cons (.bin .Add (.bin .Add (.var 5) (.cst (.int 1))) (.call 11 (.cons (.var 0) (.cons (.bin .Sub (.var 1) (.cst (.int 1))) .nil)))) .nil)) (.var 1))) (.cons (.asg (.nm 7) (.tup (.cons (.call 11 (.cons (.var 0) (.cons (.var 1) .nil))) (.cons (.var 5) (.cons (.var 6) (.cons (.prim .tuple (.cons (.lc [("j", 8)] (.nm 8) (.rng (.cons (.var 1) .nil)) (.cst (.bool true)) (.call 11 (.cons (.var 0) (.cons (.var 1) .nil)))) .nil)) .nil)))))) (.cons (.iff (.cmp .NotIn (.var 7) (.var 2)) (.cons (.app 2 (.var 7)) .nil) .nil) .nil)))) [.ow d, .pu (.int n), .ow (.list rs), c3, .pu k, c5, c6, c7, .un] = .nx [.ow d', .pu (.int n), .ow (.list rs'), c3, .pu k, c5', c6', c7', .un] ∧ Src d' (t + 10) ∧ Rules n rs' ∧ rs'.length ≤ rs.length + 1 := by
  have h__law_take : L12[11]? = some f11 := rfl
  have i__law_take : f11.io = [true, false] := rfl
  obtain ⟨x1, d1, q1, r1, S1⟩ := eq__law_take d t n hd (by omega) (by omega) (by omega)
  obtain ⟨x2, d2, q2, r2, S2⟩ := eq__law_take d1 (t + 1) (n - 1) S1 (by omega) (by omega) (by omega)
  obtain ⟨x3, d3, q3, r3, S3⟩ := eq__law_take d2 (t + 1 + 1) n S2 (by omega) (by omega) (by omega)
  have hn0 : 0 < n := by omega
  have hne := new_ne h2 r1 r2
  have hw := mod_in (x1 + 1 + x2) hn0
  generalize hW : (x1 + 1 + x2) % n = w at hne hw
  obtain ⟨es, d4, hg, el, eb, S4⟩ := sig_gen n hn0 h4 (.ow (.list rs)) c3 (.pu k) (.pu (.int x1)) (.pu (.int w)) c7 d3 (t + 1 + 1 + 1) S3 (by omega)
  have hr : ruleOk n (.tuple [.int x3, .int x1, .int w, .tuple es]) = true := ruleOk_mk r3 r1 hw hne el eb
  have sh1 := rule_shaped hr
  have sh2 := (rules_shaped hR.ok).1
  obtain ⟨y1, y2⟩ := rng_in (m := n) (by omega) (by omega)
  have hy : (rangeD 0 n).length ≤ 16777216 := by have := rng_len (m := n) (by omega); omega
  have hz : rs.length < 16777216 := by omega
  have S4' := S4.up (u := t + 10) (by omega)
  obtain ⟨g1, s1, u1, rfl, _, _⟩ := hd.ex
  obtain ⟨g2, s2, u2, rfl, _, _⟩ := S1.ex
  obtain ⟨g3, s3, u3, rfl, _, _⟩ := S2.ex
  obtain ⟨g4, s4, u4, rfl, _, _⟩ := S3.ex
  obtain ⟨g5, s5, u5, rfl, _, _⟩ := S4.ex
  simp only [h__law_take, i__law_take, runF, cellsOf, denS, den, R.st, R.b1, R.bA, R.tst, R.eo, R.part, P.isNil, tstS, dctD, op1, op2, opN, vals, give, T.val, Cell.val, Cell.own, boolOf, intOf, isaD, PyData.isInt, PyData.isBool, PyData.isTuple, PyData.isList, PyData.isStr, PyData.isDict,  RL.finish, retF, iosAt, outT, ioSlots, ioFrom, storeS, T.seal, sealAll, Tg.bind, callX, tmpIx, T.notF, R.cut, List.take_succ_cons, List.take_zero, List.take_nil, callR, argsOf, putIos, T.flat, flatO, flats, RL.flat, primD, prim1, prim2, lenD, intD, tupD, lstD, absD, maxD, minD, bl2, cmpD, eqOk, isNoneD, binD, addD, subD, modD, divD, negD, idxD, slcD, itrD, itemsD, sealR, enmD, zipD, rngD, parS, setS, appS, augS, augD, ownL,  List.getElem?_cons_zero, List.getElem?_cons_succ, List.getElem?_nil, List.set_cons_zero, List.set_cons_succ, List.length_cons, List.length_nil, List.replicate_succ, List.replicate_zero, List.cons_append, List.nil_append, Option.map_some, Option.map_none, Option.bind_some, Option.bind_none, Option.isSome_some, Option.isSome_none, if_true, if_false, List.contains_nil, Bool.false_eq_true, reduceCtorEq, Bool.not_true, Bool.not_false, List.nodup_nil, List.not_mem_nil, List.mem_cons, or_false, false_or, true_and, and_true, not_true_eq_false, not_false_eq_true, List.nodup_cons, Bool.true_and, Bool.and_true, List.all_nil, List.all_cons, Nat.reduceLT, Nat.reduceAdd, Nat.reduceSub, Nat.reduceLeDiff, Nat.zero_lt_succ, Nat.lt_add_one, wipeE, restore, List.map_cons, List.map_nil, Option.getD_some, Option.getD_none, Prod.mk.injEq, Option.some.injEq, implies_true, forall_const, true_or, or_true, ite_true, ite_false, forall_eq, forall_eq_or_imp, Nat.not_lt_zero, decide_true, decide_false, beq_self_eq_true, and_self, Nat.reduceEqDiff, List.getElem?_map, RL.shaped_int, RL.shaped_bool, RL.shaped_none, PyData.eqv, Int.reduceEq, Int.reduceNe, Int.reduceBEq, Int.reduceLT, Int.reduceLE, bne, false_imp_iff, true_imp_iff, Int.cast_ofNat_Int, Bool.not_eq_true, Bool.false_and, Bool.and_false, Bool.true_or, Bool.false_or, Bool.or_true, Bool.or_false, List.any_nil, List.any_cons] at hg
  cases ha : rs.any (fun z => PyData.eqv z (.tuple [.int x3, .int x1, .int w, .tuple es])) with
  | true =>
    refine ⟨.list [.int g5, .int s5, .int u5], rs, .pu (.int x1), .pu (.int w), .pu (.tuple [.int x3, .int x1, .int w, .tuple es]), ?_, S4', hR, by omega⟩
    simp only [h__law_take, i__law_take, q1, q2, q3, hn0, hW, y1, y2, hy, hg, sh1, sh2, ha, runF, cellsOf, denS, den, R.st, R.b1, R.bA, R.tst, R.eo, R.part, P.isNil, tstS, dctD, op1, op2, opN, vals, give, T.val, Cell.val, Cell.own, boolOf, intOf, isaD, PyData.isInt, PyData.isBool, PyData.isTuple, PyData.isList, PyData.isStr, PyData.isDict,  RL.finish, retF, iosAt, outT, ioSlots, ioFrom, storeS, T.seal, sealAll, Tg.bind, callX, tmpIx, T.notF, R.cut, List.take_succ_cons, List.take_zero, List.take_nil, callR, argsOf, putIos, T.flat, flatO, flats, RL.flat, primD, prim1, prim2, lenD, intD, tupD, lstD, absD, maxD, minD, bl2, cmpD, eqOk, isNoneD, binD, addD, subD, modD, divD, negD, idxD, slcD, itrD, itemsD, sealR, enmD, zipD, rngD, parS, setS, appS, augS, augD, ownL,  List.getElem?_cons_zero, List.getElem?_cons_succ, List.getElem?_nil, List.set_cons_zero, List.set_cons_succ, List.length_cons, List.length_nil, List.replicate_succ, List.replicate_zero, List.cons_append, List.nil_append, Option.map_some, Option.map_none, Option.bind_some, Option.bind_none, Option.isSome_some, Option.isSome_none, if_true, if_false, List.contains_nil, Bool.false_eq_true, reduceCtorEq, Bool.not_true, Bool.not_false, List.nodup_nil, List.not_mem_nil, List.mem_cons, or_false, false_or, true_and, and_true, not_true_eq_false, not_false_eq_true, List.nodup_cons, Bool.true_and, Bool.and_true, List.all_nil, List.all_cons, Nat.reduceLT, Nat.reduceAdd, Nat.reduceSub, Nat.reduceLeDiff, Nat.zero_lt_succ, Nat.lt_add_one, wipeE, restore, List.map_cons, List.map_nil, Option.getD_some, Option.getD_none, Prod.mk.injEq, Option.some.injEq, implies_true, forall_const, true_or, or_true, ite_true, ite_false, forall_eq, forall_eq_or_imp, Nat.not_lt_zero, decide_true, decide_false, beq_self_eq_true, and_self, Nat.reduceEqDiff, List.getElem?_map, RL.shaped_int, RL.shaped_bool, RL.shaped_none, PyData.eqv, Int.reduceEq, Int.reduceNe, Int.reduceBEq, Int.reduceLT, Int.reduceLE, bne, false_imp_iff, true_imp_iff, Int.cast_ofNat_Int, Bool.not_eq_true, Bool.false_and, Bool.and_false, Bool.true_or, Bool.false_or, Bool.or_true, Bool.or_false, List.any_nil, List.any_cons]
  | false =>
    refine ⟨.list [.int g5, .int s5, .int u5], rs ++ [.tuple [.int x3, .int x1, .int w, .tuple es]], .pu (.int x1), .pu (.int w), .pu (.tuple [.int x3, .int x1, .int w, .tuple es]), ?_, S4', rules_snoc hR hr ha, by simp⟩
    simp only [h__law_take, i__law_take, q1, q2, q3, hn0, hW, y1, y2, hy, hg, sh1, sh2, ha, hz, runF, cellsOf, denS, den, R.st, R.b1, R.bA, R.tst, R.eo, R.part, P.isNil, tstS, dctD, op1, op2, opN, vals, give, T.val, Cell.val, Cell.own, boolOf, intOf, isaD, PyData.isInt, PyData.isBool, PyData.isTuple, PyData.isList, PyData.isStr, PyData.isDict,  RL.finish, retF, iosAt, outT, ioSlots, ioFrom, storeS, T.seal, sealAll, Tg.bind, callX, tmpIx, T.notF, R.cut, List.take_succ_cons, List.take_zero, List.take_nil, callR, argsOf, putIos, T.flat, flatO, flats, RL.flat, primD, prim1, prim2, lenD, intD, tupD, lstD, absD, maxD, minD, bl2, cmpD, eqOk, isNoneD, binD, addD, subD, modD, divD, negD, idxD, slcD, itrD, itemsD, sealR, enmD, zipD, rngD, parS, setS, appS, augS, augD, ownL,  List.getElem?_cons_zero, List.getElem?_cons_succ, List.getElem?_nil, List.set_cons_zero, List.set_cons_succ, List.length_cons, List.length_nil, List.replicate_succ, List.replicate_zero, List.cons_append, List.nil_append, Option.map_some, Option.map_none, Option.bind_some, Option.bind_none, Option.isSome_some, Option.isSome_none, if_true, if_false, List.contains_nil, Bool.false_eq_true, reduceCtorEq, Bool.not_true, Bool.not_false, List.nodup_nil, List.not_mem_nil, List.mem_cons, or_false, false_or, true_and, and_true, not_true_eq_false, not_false_eq_true, List.nodup_cons, Bool.true_and, Bool.and_true, List.all_nil, List.all_cons, Nat.reduceLT, Nat.reduceAdd, Nat.reduceSub, Nat.reduceLeDiff, Nat.zero_lt_succ, Nat.lt_add_one, wipeE, restore, List.map_cons, List.map_nil, Option.getD_some, Option.getD_none, Prod.mk.injEq, Option.some.injEq, implies_true, forall_const, true_or, or_true, ite_true, ite_false, forall_eq, forall_eq_or_imp, Nat.not_lt_zero, decide_true, decide_false, beq_self_eq_true, and_self, Nat.reduceEqDiff, List.getElem?_map, RL.shaped_int, RL.shaped_bool, RL.shaped_none, PyData.eqv, Int.reduceEq, Int.reduceNe, Int.reduceBEq, Int.reduceLT, Int.reduceLE, bne, false_imp_iff, true_imp_iff, Int.cast_ofNat_Int, Bool.not_eq_true, Bool.false_and, Bool.and_false, Bool.true_or, Bool.false_or, Bool.or_true, Bool.or_false, List.any_nil, List.any_cons]
set_option maxHeartbeats 4000000 in
theorem eq__law_any_book (d : PyData) (hd : Src d 0) : ∃ n rs d', f12.φ [d] = .ret (.p (.tuple [.int n, .tuple rs])) [d'] ∧ 1 ≤ n ∧ n ≤ 4 ∧ Rules n rs ∧ rs.length ≤ 12 := by
  have h__law_take : L12[11]? = some f11 := rfl
  have i__law_take : f11.io = [true, false] := rfl
  obtain ⟨x1, d1, q1, r1, S1⟩ := eq__law_take d 0 4 hd (by decide) (by decide) (by decide)
  generalize hN : 1 + x1 = n
  have e0 : Rules n [] := ⟨rfl, List.nodup_nil⟩
  -- the loop
  have loop : ∀ (M : Int) (d : PyData) (t : Int), Src d t → t ≤ 100 → 0 ≤ M → M ≤ 12 → (0 < M → 2 ≤ n) → ∃ d' rs c4 c5 c6 c7, forGo (.nm 4) (denS (fun j => L12[j]?) (.cons (.asg (.nm 5) (.call 11 (.cons (.var 0) (.cons (.var 1) .nil)))) (.cons (.asg (.nm 6) (.bin .Mod (.prim .int (.cons (.bin .Add (.bin .Add (.var 5) (.cst (.int 1))) (.call 11 (.cons (.var 0) (.cons (.bin .Sub (.var 1) (.cst (.int 1))) .nil)))) .nil)) (.var 1))) (.cons (.asg (.nm 7) (.tup (.cons (.call 11 (.cons (.var 0) (.cons (.var 1) .nil))) (.cons (.var 5) (.cons (.var 6) (.cons (.prim .tuple (.cons (.lc [("j", 8)] (.nm 8) (.rng (.cons (.var 1) .nil)) (.cst (.bool true)) (.call 11 (.cons (.var 0) (.cons (.var 1) .nil)))) .nil)) .nil)))))) (.cons (.iff (.cmp .NotIn (.var 7) (.var 2)) (.cons (.app 2 (.var 7)) .nil) .nil) .nil))))) (rangeD 0 M) [.ow d, .pu (.int n), .ow (.list []), .pu (.int M), .un, .un, .un, .un, .un] = .nx [.ow d', .pu (.int n), .ow (.list rs), .pu (.int M), c4, c5, c6, c7, .un] ∧ Rules n rs ∧ rs.length ≤ 12 ∧ ∃ t', Src d' t' := by
    intro M d t hS ht M0 M1 hM
    have hrl : (rangeD 0 M).length ≤ 12 := by have := rng_len M0; omega
    obtain ⟨ρ', hf, d', rs, c4, c5, c6, c7, hI, hS', hR, hl⟩ := for_ex (t := (.nm 4)) (b := denS (fun j => L12[j]?) (.cons (.asg (.nm 5) (.call 11 (.cons (.var 0) (.cons (.var 1) .nil)))) (.cons (.asg (.nm 6) (.bin .Mod (.prim .int (.cons (.bin .Add (.bin .Add (.var 5) (.cst (.int 1))) (.call 11 (.cons (.var 0) (.cons (.bin .Sub (.var 1) (.cst (.int 1))) .nil)))) .nil)) (.var 1))) (.cons (.asg (.nm 7) (.tup (.cons (.call 11 (.cons (.var 0) (.cons (.var 1) .nil))) (.cons (.var 5) (.cons (.var 6) (.cons (.prim .tuple (.cons (.lc [("j", 8)] (.nm 8) (.rng (.cons (.var 1) .nil)) (.cst (.bool true)) (.call 11 (.cons (.var 0) (.cons (.var 1) .nil)))) .nil)) .nil)))))) (.cons (.iff (.cmp .NotIn (.var 7) (.var 2)) (.cons (.app 2 (.var 7)) .nil) .nil) .nil)))))
      (fun i ρ => ∃ d rs c4 c5 c6 c7, ρ = [.ow d, .pu (.int n), .ow (.list rs), .pu (.int M), c4, c5, c6, c7, .un] ∧ Src d (t + 10 * (i : Int)) ∧ Rules n rs ∧ rs.length ≤ i) (rangeD 0 M) 0 [.ow d, .pu (.int n), .ow (.list []), .pu (.int M), .un, .un, .un, .un, .un]
      (fun i x hx ρ hI => by
        obtain ⟨d, rs, c4, c5, c6, c7, rfl, hS, hR, hl⟩ := hI
        obtain ⟨hi, rfl⟩ := range_at hx
        obtain ⟨d', rs', c5', c6', c7', hs, hS', hR', hl'⟩ := book_step n (hM (by omega)) (by omega) d _ hS (by omega) rs hR (by omega) (.pu (.int M)) (.int (0 + (i : Int))) c5 c6 c7
        exact ⟨_, _, rfl, hs, _, _, _, _, _, _, rfl, hS'.up (by omega), hR', by omega⟩) ⟨_, _, _, _, _, _, rfl, by simpa using hS, e0, by simp⟩
    subst hI
    exact ⟨d', rs, c4, c5, c6, c7, hf, hR, by omega, _, hS'⟩
  cases hg : decide ((1 : Int) < n) with
  | false =>
    obtain ⟨d', rs, c4, c5, c6, c7, hf, hR, hl, t', hS'⟩ := loop 0 d1 1 (S1.up (by decide)) (by decide) (by decide) (by decide) (by omega)
    have rz : (if (-2 ^ 62 : Int) ≤ 0 ∧ (0 : Int) ≤ 2 ^ 24 then some (T.p (PyData.list (rangeD 0 0))) else none) = some (T.p (PyData.list (rangeD 0 0))) := if_pos (by decide)
    have hz : rs.length ≤ 16777216 := by omega
    refine ⟨n, rs, d', ?_, by omega, by omega, hR, hl⟩
    obtain ⟨g1, s1, u1, rfl, _, _⟩ := hd.ex
    obtain ⟨g2, s2, u2, rfl, _, _⟩ := S1.ex
    obtain ⟨g3, s3, u3, rfl, _, _⟩ := hS'.ex
    simp only [h__law_take, i__law_take, runF, cellsOf, denS, den, R.st, R.b1, R.bA, R.tst, R.eo, R.part, P.isNil, tstS, dctD, op1, op2, opN, vals, give, T.val, Cell.val, Cell.own, boolOf, intOf, isaD, PyData.isInt, PyData.isBool, PyData.isTuple, PyData.isList, PyData.isStr, PyData.isDict,  RL.finish, retF, iosAt, outT, ioSlots, ioFrom, storeS, T.seal, sealAll, Tg.bind, callX, tmpIx, T.notF, R.cut, List.take_succ_cons, List.take_zero, List.take_nil, callR, argsOf, putIos, T.flat, flatO, flats, RL.flat, primD, prim1, prim2, lenD, intD, tupD, lstD, absD, maxD, minD, bl2, cmpD, eqOk, isNoneD, binD, addD, subD, modD, divD, negD, idxD, slcD, itrD, itemsD, sealR, enmD, zipD, rngD, parS, setS, appS, augS, augD, ownL,  List.getElem?_cons_zero, List.getElem?_cons_succ, List.getElem?_nil, List.set_cons_zero, List.set_cons_succ, List.length_cons, List.length_nil, List.replicate_succ, List.replicate_zero, List.cons_append, List.nil_append, Option.map_some, Option.map_none, Option.bind_some, Option.bind_none, Option.isSome_some, Option.isSome_none, if_true, if_false, List.contains_nil, Bool.false_eq_true, reduceCtorEq, Bool.not_true, Bool.not_false, List.nodup_nil, List.not_mem_nil, List.mem_cons, or_false, false_or, true_and, and_true, not_true_eq_false, not_false_eq_true, List.nodup_cons, Bool.true_and, Bool.and_true, List.all_nil, List.all_cons, Nat.reduceLT, Nat.reduceAdd, Nat.reduceSub, Nat.reduceLeDiff, Nat.zero_lt_succ, Nat.lt_add_one, wipeE, restore, List.map_cons, List.map_nil, Option.getD_some, Option.getD_none, Prod.mk.injEq, Option.some.injEq, implies_true, forall_const, true_or, or_true, ite_true, ite_false, forall_eq, forall_eq_or_imp, Nat.not_lt_zero, decide_true, decide_false, beq_self_eq_true, and_self, Nat.reduceEqDiff, List.getElem?_map, RL.shaped_int, RL.shaped_bool, RL.shaped_none, PyData.eqv, Int.reduceEq, Int.reduceNe, Int.reduceBEq, Int.reduceLT, Int.reduceLE, bne, false_imp_iff, true_imp_iff, Int.cast_ofNat_Int, Bool.not_eq_true, Bool.false_and, Bool.and_false, Bool.true_or, Bool.false_or, Bool.or_true, Bool.or_false, List.any_nil, List.any_cons] at hf
    simp only [f12, io12, s12, h__law_take, i__law_take, q1, hN, hg, rz, hf, hz, runF, cellsOf, denS, den, R.st, R.b1, R.bA, R.tst, R.eo, R.part, P.isNil, tstS, dctD, op1, op2, opN, vals, give, T.val, Cell.val, Cell.own, boolOf, intOf, isaD, PyData.isInt, PyData.isBool, PyData.isTuple, PyData.isList, PyData.isStr, PyData.isDict,  RL.finish, retF, iosAt, outT, ioSlots, ioFrom, storeS, T.seal, sealAll, Tg.bind, callX, tmpIx, T.notF, R.cut, List.take_succ_cons, List.take_zero, List.take_nil, callR, argsOf, putIos, T.flat, flatO, flats, RL.flat, primD, prim1, prim2, lenD, intD, tupD, lstD, absD, maxD, minD, bl2, cmpD, eqOk, isNoneD, binD, addD, subD, modD, divD, negD, idxD, slcD, itrD, itemsD, sealR, enmD, zipD, rngD, parS, setS, appS, augS, augD, ownL,  List.getElem?_cons_zero, List.getElem?_cons_succ, List.getElem?_nil, List.set_cons_zero, List.set_cons_succ, List.length_cons, List.length_nil, List.replicate_succ, List.replicate_zero, List.cons_append, List.nil_append, Option.map_some, Option.map_none, Option.bind_some, Option.bind_none, Option.isSome_some, Option.isSome_none, if_true, if_false, List.contains_nil, Bool.false_eq_true, reduceCtorEq, Bool.not_true, Bool.not_false, List.nodup_nil, List.not_mem_nil, List.mem_cons, or_false, false_or, true_and, and_true, not_true_eq_false, not_false_eq_true, List.nodup_cons, Bool.true_and, Bool.and_true, List.all_nil, List.all_cons, Nat.reduceLT, Nat.reduceAdd, Nat.reduceSub, Nat.reduceLeDiff, Nat.zero_lt_succ, Nat.lt_add_one, wipeE, restore, List.map_cons, List.map_nil, Option.getD_some, Option.getD_none, Prod.mk.injEq, Option.some.injEq, implies_true, forall_const, true_or, or_true, ite_true, ite_false, forall_eq, forall_eq_or_imp, Nat.not_lt_zero, decide_true, decide_false, beq_self_eq_true, and_self, Nat.reduceEqDiff, List.getElem?_map, RL.shaped_int, RL.shaped_bool, RL.shaped_none, PyData.eqv, Int.reduceEq, Int.reduceNe, Int.reduceBEq, Int.reduceLT, Int.reduceLE, bne, false_imp_iff, true_imp_iff, Int.cast_ofNat_Int, Bool.not_eq_true, Bool.false_and, Bool.and_false, Bool.true_or, Bool.false_or, Bool.or_true, Bool.or_false, List.any_nil, List.any_cons]
  | true =>
    have hg' := of_decide_eq_true hg
    obtain ⟨M, d2, q2, r2, S2⟩ := eq__law_take d1 1 13 (S1.up (by decide)) (by decide) (by decide) (by decide)
    obtain ⟨d', rs, c4, c5, c6, c7, hf, hR, hl, t', hS'⟩ := loop M d2 2 (S2.up (by decide)) (by decide) (by omega) (by omega) (by omega)
    obtain ⟨y1, y2⟩ := rng_in (m := M) (by omega) (by omega)
    have hz : rs.length ≤ 16777216 := by omega
    refine ⟨n, rs, d', ?_, by omega, by omega, hR, hl⟩
    obtain ⟨g1, s1, u1, rfl, _, _⟩ := hd.ex
    obtain ⟨g2, s2, u2, rfl, _, _⟩ := S1.ex
    obtain ⟨g3, s3, u3, rfl, _, _⟩ := S2.ex
    obtain ⟨g4, s4, u4, rfl, _, _⟩ := hS'.ex
    simp only [h__law_take, i__law_take, runF, cellsOf, denS, den, R.st, R.b1, R.bA, R.tst, R.eo, R.part, P.isNil, tstS, dctD, op1, op2, opN, vals, give, T.val, Cell.val, Cell.own, boolOf, intOf, isaD, PyData.isInt, PyData.isBool, PyData.isTuple, PyData.isList, PyData.isStr, PyData.isDict,  RL.finish, retF, iosAt, outT, ioSlots, ioFrom, storeS, T.seal, sealAll, Tg.bind, callX, tmpIx, T.notF, R.cut, List.take_succ_cons, List.take_zero, List.take_nil, callR, argsOf, putIos, T.flat, flatO, flats, RL.flat, primD, prim1, prim2, lenD, intD, tupD, lstD, absD, maxD, minD, bl2, cmpD, eqOk, isNoneD, binD, addD, subD, modD, divD, negD, idxD, slcD, itrD, itemsD, sealR, enmD, zipD, rngD, parS, setS, appS, augS, augD, ownL,  List.getElem?_cons_zero, List.getElem?_cons_succ, List.getElem?_nil, List.set_cons_zero, List.set_cons_succ, List.length_cons, List.length_nil, List.replicate_succ, List.replicate_zero, List.cons_append, List.nil_append, Option.map_some, Option.map_none, Option.bind_some, Option.bind_none, Option.isSome_some, Option.isSome_none, if_true, if_false, List.contains_nil, Bool.false_eq_true, reduceCtorEq, Bool.not_true, Bool.not_false, List.nodup_nil, List.not_mem_nil, List.mem_cons, or_false, false_or, true_and, and_true, not_true_eq_false, not_false_eq_true, List.nodup_cons, Bool.true_and, Bool.and_true, List.all_nil, List.all_cons, Nat.reduceLT, Nat.reduceAdd, Nat.reduceSub, Nat.reduceLeDiff, Nat.zero_lt_succ, Nat.lt_add_one, wipeE, restore, List.map_cons, List.map_nil, Option.getD_some, Option.getD_none, Prod.mk.injEq, Option.some.injEq, implies_true, forall_const, true_or, or_true, ite_true, ite_false, forall_eq, forall_eq_or_imp, Nat.not_lt_zero, decide_true, decide_false, beq_self_eq_true, and_self, Nat.reduceEqDiff, List.getElem?_map, RL.shaped_int, RL.shaped_bool, RL.shaped_none, PyData.eqv, Int.reduceEq, Int.reduceNe, Int.reduceBEq, Int.reduceLT, Int.reduceLE, bne, false_imp_iff, true_imp_iff, Int.cast_ofNat_Int, Bool.not_eq_true, Bool.false_and, Bool.and_false, Bool.true_or, Bool.false_or, Bool.or_true, Bool.or_false, List.any_nil, List.any_cons] at hf
    simp only [f12, io12, s12, h__law_take, i__law_take, q1, q2, hN, hg, y1, y2, hf, hz, runF, cellsOf, denS, den, R.st, R.b1, R.bA, R.tst, R.eo, R.part, P.isNil, tstS, dctD, op1, op2, opN, vals, give, T.val, Cell.val, Cell.own, boolOf, intOf, isaD, PyData.isInt, PyData.isBool, PyData.isTuple, PyData.isList, PyData.isStr, PyData.isDict,  RL.finish, retF, iosAt, outT, ioSlots, ioFrom, storeS, T.seal, sealAll, Tg.bind, callX, tmpIx, T.notF, R.cut, List.take_succ_cons, List.take_zero, List.take_nil, callR, argsOf, putIos, T.flat, flatO, flats, RL.flat, primD, prim1, prim2, lenD, intD, tupD, lstD, absD, maxD, minD, bl2, cmpD, eqOk, isNoneD, binD, addD, subD, modD, divD, negD, idxD, slcD, itrD, itemsD, sealR, enmD, zipD, rngD, parS, setS, appS, augS, augD, ownL,  List.getElem?_cons_zero, List.getElem?_cons_succ, List.getElem?_nil, List.set_cons_zero, List.set_cons_succ, List.length_cons, List.length_nil, List.replicate_succ, List.replicate_zero, List.cons_append, List.nil_append, Option.map_some, Option.map_none, Option.bind_some, Option.bind_none, Option.isSome_some, Option.isSome_none, if_true, if_false, List.contains_nil, Bool.false_eq_true, reduceCtorEq, Bool.not_true, Bool.not_false, List.nodup_nil, List.not_mem_nil, List.mem_cons, or_false, false_or, true_and, and_true, not_true_eq_false, not_false_eq_true, List.nodup_cons, Bool.true_and, Bool.and_true, List.all_nil, List.all_cons, Nat.reduceLT, Nat.reduceAdd, Nat.reduceSub, Nat.reduceLeDiff, Nat.zero_lt_succ, Nat.lt_add_one, wipeE, restore, List.map_cons, List.map_nil, Option.getD_some, Option.getD_none, Prod.mk.injEq, Option.some.injEq, implies_true, forall_const, true_or, or_true, ite_true, ite_false, forall_eq, forall_eq_or_imp, Nat.not_lt_zero, decide_true, decide_false, beq_self_eq_true, and_self, Nat.reduceEqDiff, List.getElem?_map, RL.shaped_int, RL.shaped_bool, RL.shaped_none, PyData.eqv, Int.reduceEq, Int.reduceNe, Int.reduceBEq, Int.reduceLT, Int.reduceLE, bne, false_imp_iff, true_imp_iff, Int.cast_ofNat_Int, Bool.not_eq_true, Bool.false_and, Bool.and_false, Bool.true_or, Bool.false_or, Bool.or_true, Bool.or_false, List.any_nil, List.any_cons]
end K74

namespace K74
open PySem RL
theorem at2_0 (a b : PyData) : L2.atI [a, b] (0 : Int) = some a := rfl
theorem at2_1 (a b : PyData) : L2.atI [a, b] (1 : Int) = some b := rfl
set_option maxHeartbeats 4000000 in
theorem tree74_step (ns : List Int) (f n most o many : Int) (hn : 0 < n) (hn4 : n ≤ 4) (f0 : 0 ≤ f) (f1 : f ≤ 100) (i : Nat) (z : Int) (hz : z = (i : Int)) (hi : i ≤ 100) (d : PyData) (t : Int) (hd : Src d t) (ht : t ≤ 1000) (ps ss : List PyData) (hp : parL ps) (hpl : ps.length = i) (hsl : ss.length = i) :
    ∃ d' p s, -1 ≤ p ∧ p < (i : Int) ∧ below n (.int s) = true ∧ Src d' (t + 3) ∧ denS (fun j => L13[j]?) (.cons (.iff (.cmp .Lt (.bin .Add (.bin .Add (.var 1) (.cst (.int 1))) (.var 9)) (.prim .len (.cons (.var 0) .nil))) (.cons (.asg (.nm 4) (.call 10 (.cons (.var 0) (.cons (.bin .Add (.bin .Add (.var 1) (.cst (.int 1))) (.var 9)) .nil)))) .nil) .nil) (.cons (.app 7 (.idx (.lst (.cons (.bin .Sub (.var 9) (.cst (.int 1))) (.cons (.bin .Sub (.call 11 (.cons (.var 4) (.cons (.bin .Add (.var 9) (.cst (.int 1))) .nil))) (.cst (.int 1))) .nil))) (.call 11 (.cons (.var 4) (.cons (.cst (.int 2)) .nil))))) (.cons (.app 8 (.call 11 (.cons (.var 4) (.cons (.var 2) .nil)))) .nil))) [.pu (.list (ns.map PyData.int)), .pu (.int f), .pu (.int n), .pu (.int most), .ow d, .pu (.int o), .pu (.int many), .ow (.list ps), .ow (.list ss), .pu (.int z)] =
      .nx [.pu (.list (ns.map PyData.int)), .pu (.int f), .pu (.int n), .pu (.int most), .ow d', .pu (.int o), .pu (.int many), .ow (.list (ps ++ [.int p])), .ow (.list (ss ++ [.int s])), .pu (.int z)] := by
  have h__law_take : L13[11]? = some f11 := rfl
  have i__law_take : f11.io = [true, false] := rfl
  have h__law_source : L13[10]? = some f10 := rfl
  have i__law_source : f10.io = [false, false] := rfl
  have l1 : ps.length < 16777216 := by omega
  have l2 : ss.length < 16777216 := by omega
  cases hc : decide (f + 1 + z < ((ns.map PyData.int).length : Int)) with
  | true =>
    obtain ⟨d0, q0, S0⟩ := eq__law_source ns (f + 1 + z) (by omega) (by omega)
    obtain ⟨x1, d1, q1, r1, S1⟩ := eq__law_take d0 0 (z + 1) S0 (by omega) (by omega) (by omega)
    obtain ⟨x2, d2, q2, r2, S2⟩ := eq__law_take d1 (0 + 1) 2 S1 (by omega) (by omega) (by omega)
    obtain ⟨x3, d3, q3, r3, S3⟩ := eq__law_take d2 (0 + 1 + 1) n S2 (by omega) (by omega) (by omega)
    have t0 : 0 ≤ t := by obtain ⟨_, _, _, _, _, h⟩ := hd.ex; omega
    have S3' := S3.up (u := t + 3) (by omega)
    generalize ns.map PyData.int = X at hc q0 ⊢
    obtain ⟨g0, s0, u0, rfl, _, _⟩ := hd.ex
    obtain ⟨g1, s1, u1, rfl, _, _⟩ := S0.ex
    obtain ⟨g2, s2, u2, rfl, _, _⟩ := S1.ex
    obtain ⟨g3, s3, u3, rfl, _, _⟩ := S2.ex
    obtain ⟨g4, s4, u4, rfl, _, _⟩ := S3.ex
    obtain h | h : x2 = 0 ∨ x2 = 1 := by omega
    · subst h
      exact ⟨_, z - 1, x3, by omega, by omega, below_iff.mpr r3, S3', by simp only [h__law_take, i__law_take, h__law_source, i__law_source, hc, q0, q1, q2, q3, l1, l2, at2_0, at2_1, runF, cellsOf, denS, den, R.st, R.b1, R.bA, R.tst, R.eo, R.part, P.isNil, tstS, dctD, op1, op2, opN, vals, give, T.val, Cell.val, Cell.own, boolOf, intOf, isaD, PyData.isInt, PyData.isBool, PyData.isTuple, PyData.isList, PyData.isStr, PyData.isDict,  RL.finish, retF, iosAt, outT, ioSlots, ioFrom, storeS, T.seal, sealAll, Tg.bind, callX, tmpIx, T.notF, R.cut, List.take_succ_cons, List.take_zero, List.take_nil, callR, argsOf, putIos, T.flat, flatO, flats, RL.flat, primD, prim1, prim2, lenD, intD, tupD, lstD, absD, maxD, minD, bl2, cmpD, eqOk, isNoneD, binD, addD, subD, modD, divD, negD, idxD, slcD, itrD, itemsD, sealR, enmD, zipD, rngD, parS, setS, appS, augS, augD, ownL,  List.getElem?_cons_zero, List.getElem?_cons_succ, List.getElem?_nil, List.set_cons_zero, List.set_cons_succ, List.length_cons, List.length_nil, List.replicate_succ, List.replicate_zero, List.cons_append, List.nil_append, Option.map_some, Option.map_none, Option.bind_some, Option.bind_none, Option.isSome_some, Option.isSome_none, if_true, if_false, List.contains_nil, Bool.false_eq_true, reduceCtorEq, Bool.not_true, Bool.not_false, List.nodup_nil, List.not_mem_nil, List.mem_cons, or_false, false_or, true_and, and_true, not_true_eq_false, not_false_eq_true, List.nodup_cons, Bool.true_and, Bool.and_true, List.all_nil, List.all_cons, Nat.reduceLT, Nat.reduceAdd, Nat.reduceSub, Nat.reduceLeDiff, Nat.zero_lt_succ, Nat.lt_add_one, wipeE, restore, List.map_cons, List.map_nil, Option.getD_some, Option.getD_none, Prod.mk.injEq, Option.some.injEq, implies_true, forall_const, true_or, or_true, ite_true, ite_false, forall_eq, forall_eq_or_imp, Nat.not_lt_zero, decide_true, decide_false, beq_self_eq_true, and_self, Nat.reduceEqDiff, List.getElem?_map, RL.shaped_int, RL.shaped_bool, RL.shaped_none, PyData.eqv, Int.reduceEq, Int.reduceNe, Int.reduceBEq, Int.reduceLT, Int.reduceLE, bne, false_imp_iff, true_imp_iff, Int.cast_ofNat_Int, Bool.not_eq_true, Bool.false_and, Bool.and_false, Bool.true_or, Bool.false_or, Bool.or_true, Bool.or_false, List.any_nil, List.any_cons]⟩
    · subst h
      exact ⟨_, x1 - 1, x3, by omega, by omega, below_iff.mpr r3, S3', by simp only [h__law_take, i__law_take, h__law_source, i__law_source, hc, q0, q1, q2, q3, l1, l2, at2_0, at2_1, runF, cellsOf, denS, den, R.st, R.b1, R.bA, R.tst, R.eo, R.part, P.isNil, tstS, dctD, op1, op2, opN, vals, give, T.val, Cell.val, Cell.own, boolOf, intOf, isaD, PyData.isInt, PyData.isBool, PyData.isTuple, PyData.isList, PyData.isStr, PyData.isDict,  RL.finish, retF, iosAt, outT, ioSlots, ioFrom, storeS, T.seal, sealAll, Tg.bind, callX, tmpIx, T.notF, R.cut, List.take_succ_cons, List.take_zero, List.take_nil, callR, argsOf, putIos, T.flat, flatO, flats, RL.flat, primD, prim1, prim2, lenD, intD, tupD, lstD, absD, maxD, minD, bl2, cmpD, eqOk, isNoneD, binD, addD, subD, modD, divD, negD, idxD, slcD, itrD, itemsD, sealR, enmD, zipD, rngD, parS, setS, appS, augS, augD, ownL,  List.getElem?_cons_zero, List.getElem?_cons_succ, List.getElem?_nil, List.set_cons_zero, List.set_cons_succ, List.length_cons, List.length_nil, List.replicate_succ, List.replicate_zero, List.cons_append, List.nil_append, Option.map_some, Option.map_none, Option.bind_some, Option.bind_none, Option.isSome_some, Option.isSome_none, if_true, if_false, List.contains_nil, Bool.false_eq_true, reduceCtorEq, Bool.not_true, Bool.not_false, List.nodup_nil, List.not_mem_nil, List.mem_cons, or_false, false_or, true_and, and_true, not_true_eq_false, not_false_eq_true, List.nodup_cons, Bool.true_and, Bool.and_true, List.all_nil, List.all_cons, Nat.reduceLT, Nat.reduceAdd, Nat.reduceSub, Nat.reduceLeDiff, Nat.zero_lt_succ, Nat.lt_add_one, wipeE, restore, List.map_cons, List.map_nil, Option.getD_some, Option.getD_none, Prod.mk.injEq, Option.some.injEq, implies_true, forall_const, true_or, or_true, ite_true, ite_false, forall_eq, forall_eq_or_imp, Nat.not_lt_zero, decide_true, decide_false, beq_self_eq_true, and_self, Nat.reduceEqDiff, List.getElem?_map, RL.shaped_int, RL.shaped_bool, RL.shaped_none, PyData.eqv, Int.reduceEq, Int.reduceNe, Int.reduceBEq, Int.reduceLT, Int.reduceLE, bne, false_imp_iff, true_imp_iff, Int.cast_ofNat_Int, Bool.not_eq_true, Bool.false_and, Bool.and_false, Bool.true_or, Bool.false_or, Bool.or_true, Bool.or_false, List.any_nil, List.any_cons]⟩
  | false =>
    obtain ⟨x1, d1, q1, r1, S1⟩ := eq__law_take d t (z + 1) hd (by omega) (by omega) (by omega)
    obtain ⟨x2, d2, q2, r2, S2⟩ := eq__law_take d1 (t + 1) 2 S1 (by omega) (by omega) (by omega)
    obtain ⟨x3, d3, q3, r3, S3⟩ := eq__law_take d2 (t + 1 + 1) n S2 (by omega) (by omega) (by omega)
    have S3' := S3.up (u := t + 3) (by omega)
    generalize ns.map PyData.int = X at hc ⊢
    obtain ⟨g0, s0, u0, rfl, _, _⟩ := hd.ex
    obtain ⟨g2, s2, u2, rfl, _, _⟩ := S1.ex
    obtain ⟨g3, s3, u3, rfl, _, _⟩ := S2.ex
    obtain ⟨g4, s4, u4, rfl, _, _⟩ := S3.ex
    obtain h | h : x2 = 0 ∨ x2 = 1 := by omega
    · subst h
      exact ⟨_, z - 1, x3, by omega, by omega, below_iff.mpr r3, S3', by simp only [h__law_take, i__law_take, h__law_source, i__law_source, hc, q1, q2, q3, l1, l2, at2_0, at2_1, runF, cellsOf, denS, den, R.st, R.b1, R.bA, R.tst, R.eo, R.part, P.isNil, tstS, dctD, op1, op2, opN, vals, give, T.val, Cell.val, Cell.own, boolOf, intOf, isaD, PyData.isInt, PyData.isBool, PyData.isTuple, PyData.isList, PyData.isStr, PyData.isDict,  RL.finish, retF, iosAt, outT, ioSlots, ioFrom, storeS, T.seal, sealAll, Tg.bind, callX, tmpIx, T.notF, R.cut, List.take_succ_cons, List.take_zero, List.take_nil, callR, argsOf, putIos, T.flat, flatO, flats, RL.flat, primD, prim1, prim2, lenD, intD, tupD, lstD, absD, maxD, minD, bl2, cmpD, eqOk, isNoneD, binD, addD, subD, modD, divD, negD, idxD, slcD, itrD, itemsD, sealR, enmD, zipD, rngD, parS, setS, appS, augS, augD, ownL,  List.getElem?_cons_zero, List.getElem?_cons_succ, List.getElem?_nil, List.set_cons_zero, List.set_cons_succ, List.length_cons, List.length_nil, List.replicate_succ, List.replicate_zero, List.cons_append, List.nil_append, Option.map_some, Option.map_none, Option.bind_some, Option.bind_none, Option.isSome_some, Option.isSome_none, if_true, if_false, List.contains_nil, Bool.false_eq_true, reduceCtorEq, Bool.not_true, Bool.not_false, List.nodup_nil, List.not_mem_nil, List.mem_cons, or_false, false_or, true_and, and_true, not_true_eq_false, not_false_eq_true, List.nodup_cons, Bool.true_and, Bool.and_true, List.all_nil, List.all_cons, Nat.reduceLT, Nat.reduceAdd, Nat.reduceSub, Nat.reduceLeDiff, Nat.zero_lt_succ, Nat.lt_add_one, wipeE, restore, List.map_cons, List.map_nil, Option.getD_some, Option.getD_none, Prod.mk.injEq, Option.some.injEq, implies_true, forall_const, true_or, or_true, ite_true, ite_false, forall_eq, forall_eq_or_imp, Nat.not_lt_zero, decide_true, decide_false, beq_self_eq_true, and_self, Nat.reduceEqDiff, List.getElem?_map, RL.shaped_int, RL.shaped_bool, RL.shaped_none, PyData.eqv, Int.reduceEq, Int.reduceNe, Int.reduceBEq, Int.reduceLT, Int.reduceLE, bne, false_imp_iff, true_imp_iff, Int.cast_ofNat_Int, Bool.not_eq_true, Bool.false_and, Bool.and_false, Bool.true_or, Bool.false_or, Bool.or_true, Bool.or_false, List.any_nil, List.any_cons]⟩
    · subst h
      exact ⟨_, x1 - 1, x3, by omega, by omega, below_iff.mpr r3, S3', by simp only [h__law_take, i__law_take, h__law_source, i__law_source, hc, q1, q2, q3, l1, l2, at2_0, at2_1, runF, cellsOf, denS, den, R.st, R.b1, R.bA, R.tst, R.eo, R.part, P.isNil, tstS, dctD, op1, op2, opN, vals, give, T.val, Cell.val, Cell.own, boolOf, intOf, isaD, PyData.isInt, PyData.isBool, PyData.isTuple, PyData.isList, PyData.isStr, PyData.isDict,  RL.finish, retF, iosAt, outT, ioSlots, ioFrom, storeS, T.seal, sealAll, Tg.bind, callX, tmpIx, T.notF, R.cut, List.take_succ_cons, List.take_zero, List.take_nil, callR, argsOf, putIos, T.flat, flatO, flats, RL.flat, primD, prim1, prim2, lenD, intD, tupD, lstD, absD, maxD, minD, bl2, cmpD, eqOk, isNoneD, binD, addD, subD, modD, divD, negD, idxD, slcD, itrD, itemsD, sealR, enmD, zipD, rngD, parS, setS, appS, augS, augD, ownL,  List.getElem?_cons_zero, List.getElem?_cons_succ, List.getElem?_nil, List.set_cons_zero, List.set_cons_succ, List.length_cons, List.length_nil, List.replicate_succ, List.replicate_zero, List.cons_append, List.nil_append, Option.map_some, Option.map_none, Option.bind_some, Option.bind_none, Option.isSome_some, Option.isSome_none, if_true, if_false, List.contains_nil, Bool.false_eq_true, reduceCtorEq, Bool.not_true, Bool.not_false, List.nodup_nil, List.not_mem_nil, List.mem_cons, or_false, false_or, true_and, and_true, not_true_eq_false, not_false_eq_true, List.nodup_cons, Bool.true_and, Bool.and_true, List.all_nil, List.all_cons, Nat.reduceLT, Nat.reduceAdd, Nat.reduceSub, Nat.reduceLeDiff, Nat.zero_lt_succ, Nat.lt_add_one, wipeE, restore, List.map_cons, List.map_nil, Option.getD_some, Option.getD_none, Prod.mk.injEq, Option.some.injEq, implies_true, forall_const, true_or, or_true, ite_true, ite_false, forall_eq, forall_eq_or_imp, Nat.not_lt_zero, decide_true, decide_false, beq_self_eq_true, and_self, Nat.reduceEqDiff, List.getElem?_map, RL.shaped_int, RL.shaped_bool, RL.shaped_none, PyData.eqv, Int.reduceEq, Int.reduceNe, Int.reduceBEq, Int.reduceLT, Int.reduceLE, bne, false_imp_iff, true_imp_iff, Int.cast_ofNat_Int, Bool.not_eq_true, Bool.false_and, Bool.and_false, Bool.true_or, Bool.false_or, Bool.or_true, Bool.or_false, List.any_nil, List.any_cons]⟩
set_option maxHeartbeats 4000000 in
theorem eq__law_tree74 (ns : List Int) (f n most : Int) (hn : 0 < n) (hn4 : n ≤ 4) (f0 : 0 ≤ f) (f1 : f ≤ 100) (m0 : 1 ≤ most) (m1 : most ≤ 30) (hl : ns.length ≤ 1000) :
    ∃ o ps ss, f13.φ [.list (ns.map PyData.int), .int f, .int n, .int most] = .ret (.p (.tuple [.int o, .tuple ps, .tuple ss])) [] ∧ (0 ≤ o ∧ o < n) ∧ parL ps ∧ (ps.length : Int) ≤ most ∧ ss.length = ps.length ∧ ss.all (below n) = true := by
  have h__law_take : L13[11]? = some f11 := rfl
  have i__law_take : f11.io = [true, false] := rfl
  have h__law_source : L13[10]? = some f10 := rfl
  have i__law_source : f10.io = [false, false] := rfl
  obtain ⟨d0, q0, S0⟩ := eq__law_source ns f f0 (by omega)
  obtain ⟨o, d1, q1, r1, S1⟩ := eq__law_take d0 0 n S0 (by omega) (by omega) (by omega)
  generalize h6 : (if (6 : Int) < most then (6 : Int) else most) = m6
  have m6a : 1 ≤ m6 ∧ m6 ≤ most := by subst h6; split <;> omega
  obtain ⟨x2, d2, q2, r2, S2⟩ := eq__law_take d1 (0 + 1) (m6 + 1) S1 (by omega) (by omega) (by omega)
  have hLn : ((ns.map PyData.int).length : Int) ≤ 1000 := by rw [List.length_map]; omega
  have st := fun (M : Int) => tree74_step ns f n most o M hn hn4 f0 f1
  generalize ns.map PyData.int = X at *
  generalize hL : ((X.length : Nat) : Int) = L at *
  generalize hA : (if most < L - f - 1 then most else L - f - 1) = A
  have hA1 : A ≤ most := by subst hA; split <;> omega
  generalize hM : (if x2 < A then A else x2) = M
  have hM1 : 0 ≤ M ∧ M ≤ most := by subst hM; split <;> omega
  have hrl : ((rangeD 0 M).length : Int) = M := rng_len (by omega)
  obtain ⟨ρ', hf, d', ps, ss, c9, hI, hp, hpl, hsl, hs, t', S', _⟩ := for_ex (t := (.nm 9)) (b := denS (fun j => L13[j]?) (.cons (.iff (.cmp .Lt (.bin .Add (.bin .Add (.var 1) (.cst (.int 1))) (.var 9)) (.prim .len (.cons (.var 0) .nil))) (.cons (.asg (.nm 4) (.call 10 (.cons (.var 0) (.cons (.bin .Add (.bin .Add (.var 1) (.cst (.int 1))) (.var 9)) .nil)))) .nil) .nil) (.cons (.app 7 (.idx (.lst (.cons (.bin .Sub (.var 9) (.cst (.int 1))) (.cons (.bin .Sub (.call 11 (.cons (.var 4) (.cons (.bin .Add (.var 9) (.cst (.int 1))) .nil))) (.cst (.int 1))) .nil))) (.call 11 (.cons (.var 4) (.cons (.cst (.int 2)) .nil))))) (.cons (.app 8 (.call 11 (.cons (.var 4) (.cons (.var 2) .nil)))) .nil))))
    (fun i ρ => ∃ d ps ss c9, ρ = [.pu (.list X), .pu (.int f), .pu (.int n), .pu (.int most), .ow d, .pu (.int o), .pu (.int M), .ow (.list ps), .ow (.list ss), c9] ∧ parL ps ∧ ps.length = i ∧ ss.length = i ∧ ss.all (below n) = true ∧ ∃ t, Src d t ∧ t ≤ 10 + 3 * (i : Int)) (rangeD 0 M) 0
    [.pu (.list X), .pu (.int f), .pu (.int n), .pu (.int most), .ow d2, .pu (.int o), .pu (.int M), .ow (.list []), .ow (.list []), .un]
    (fun i d hd ρ hI => by
      obtain ⟨d, ps, ss, c9, rfl, hp, hpl, hsl, hs, t, St, ht⟩ := hI
      obtain ⟨hi, rfl⟩ := range_at hd
      rw [Nat.zero_add] at hpl hsl ht
      obtain ⟨d', p, s, p0, p1, hb, S', hst⟩ := st M i (0 + (i : Int)) (by omega) (by omega) d t St (by omega) ps ss hp hpl hsl
      refine ⟨_, _, rfl, hst, _, _, _, _, rfl, parL_snoc hp p0 (by omega), by simp; omega, by simp; omega, ?_, t + 3, S', by omega⟩
      simp [hs, hb]) ⟨_, _, _, _, rfl, fun j hj => absurd hj (by simp), rfl, rfl, rfl, _, S2, by omega⟩
  subst hI
  rw [Nat.zero_add] at hpl hsl
  refine ⟨o, ps, ss, ?_, r1, hp, by omega, by omega, hs⟩
  have l1 : ps.length ≤ 16777216 := by omega
  have l2 : ss.length ≤ 16777216 := by omega
  obtain ⟨y1, y2⟩ := rng_in (m := M) (by omega) (by omega)
  obtain ⟨g0, s0, u0, rfl, _, _⟩ := S0.ex
  obtain ⟨g1, s1, u1, rfl, _, _⟩ := S1.ex
  obtain ⟨g2, s2, u2, rfl, _, _⟩ := S2.ex
  obtain ⟨g3, s3, u3, rfl, _, _⟩ := S'.ex
  simp only [h__law_take, i__law_take, h__law_source, i__law_source, runF, cellsOf, denS, den, R.st, R.b1, R.bA, R.tst, R.eo, R.part, P.isNil, tstS, dctD, op1, op2, opN, vals, give, T.val, Cell.val, Cell.own, boolOf, intOf, isaD, PyData.isInt, PyData.isBool, PyData.isTuple, PyData.isList, PyData.isStr, PyData.isDict,  RL.finish, retF, iosAt, outT, ioSlots, ioFrom, storeS, T.seal, sealAll, Tg.bind, callX, tmpIx, T.notF, R.cut, List.take_succ_cons, List.take_zero, List.take_nil, callR, argsOf, putIos, T.flat, flatO, flats, RL.flat, primD, prim1, prim2, lenD, intD, tupD, lstD, absD, maxD, minD, bl2, cmpD, eqOk, isNoneD, binD, addD, subD, modD, divD, negD, idxD, slcD, itrD, itemsD, sealR, enmD, zipD, rngD, parS, setS, appS, augS, augD, ownL,  List.getElem?_cons_zero, List.getElem?_cons_succ, List.getElem?_nil, List.set_cons_zero, List.set_cons_succ, List.length_cons, List.length_nil, List.replicate_succ, List.replicate_zero, List.cons_append, List.nil_append, Option.map_some, Option.map_none, Option.bind_some, Option.bind_none, Option.isSome_some, Option.isSome_none, if_true, if_false, List.contains_nil, Bool.false_eq_true, reduceCtorEq, Bool.not_true, Bool.not_false, List.nodup_nil, List.not_mem_nil, List.mem_cons, or_false, false_or, true_and, and_true, not_true_eq_false, not_false_eq_true, List.nodup_cons, Bool.true_and, Bool.and_true, List.all_nil, List.all_cons, Nat.reduceLT, Nat.reduceAdd, Nat.reduceSub, Nat.reduceLeDiff, Nat.zero_lt_succ, Nat.lt_add_one, wipeE, restore, List.map_cons, List.map_nil, Option.getD_some, Option.getD_none, Prod.mk.injEq, Option.some.injEq, implies_true, forall_const, true_or, or_true, ite_true, ite_false, forall_eq, forall_eq_or_imp, Nat.not_lt_zero, decide_true, decide_false, beq_self_eq_true, and_self, Nat.reduceEqDiff, List.getElem?_map, RL.shaped_int, RL.shaped_bool, RL.shaped_none, PyData.eqv, Int.reduceEq, Int.reduceNe, Int.reduceBEq, Int.reduceLT, Int.reduceLE, bne, false_imp_iff, true_imp_iff, Int.cast_ofNat_Int, Bool.not_eq_true, Bool.false_and, Bool.and_false, Bool.true_or, Bool.false_or, Bool.or_true, Bool.or_false, List.any_nil, List.any_cons] at hf
  simp only [f13, io13, s13, h__law_take, i__law_take, h__law_source, i__law_source, q0, q1, gt_iff_lt, h6, q2, hL, hA, hM, y1, y2, hf, l1, l2, runF, cellsOf, denS, den, R.st, R.b1, R.bA, R.tst, R.eo, R.part, P.isNil, tstS, dctD, op1, op2, opN, vals, give, T.val, Cell.val, Cell.own, boolOf, intOf, isaD, PyData.isInt, PyData.isBool, PyData.isTuple, PyData.isList, PyData.isStr, PyData.isDict,  RL.finish, retF, iosAt, outT, ioSlots, ioFrom, storeS, T.seal, sealAll, Tg.bind, callX, tmpIx, T.notF, R.cut, List.take_succ_cons, List.take_zero, List.take_nil, callR, argsOf, putIos, T.flat, flatO, flats, RL.flat, primD, prim1, prim2, lenD, intD, tupD, lstD, absD, maxD, minD, bl2, cmpD, eqOk, isNoneD, binD, addD, subD, modD, divD, negD, idxD, slcD, itrD, itemsD, sealR, enmD, zipD, rngD, parS, setS, appS, augS, augD, ownL,  List.getElem?_cons_zero, List.getElem?_cons_succ, List.getElem?_nil, List.set_cons_zero, List.set_cons_succ, List.length_cons, List.length_nil, List.replicate_succ, List.replicate_zero, List.cons_append, List.nil_append, Option.map_some, Option.map_none, Option.bind_some, Option.bind_none, Option.isSome_some, Option.isSome_none, if_true, if_false, List.contains_nil, Bool.false_eq_true, reduceCtorEq, Bool.not_true, Bool.not_false, List.nodup_nil, List.not_mem_nil, List.mem_cons, or_false, false_or, true_and, and_true, not_true_eq_false, not_false_eq_true, List.nodup_cons, Bool.true_and, Bool.and_true, List.all_nil, List.all_cons, Nat.reduceLT, Nat.reduceAdd, Nat.reduceSub, Nat.reduceLeDiff, Nat.zero_lt_succ, Nat.lt_add_one, wipeE, restore, List.map_cons, List.map_nil, Option.getD_some, Option.getD_none, Prod.mk.injEq, Option.some.injEq, implies_true, forall_const, true_or, or_true, ite_true, ite_false, forall_eq, forall_eq_or_imp, Nat.not_lt_zero, decide_true, decide_false, beq_self_eq_true, and_self, Nat.reduceEqDiff, List.getElem?_map, RL.shaped_int, RL.shaped_bool, RL.shaped_none, PyData.eqv, Int.reduceEq, Int.reduceNe, Int.reduceBEq, Int.reduceLT, Int.reduceLE, bne, false_imp_iff, true_imp_iff, Int.cast_ofNat_Int, Bool.not_eq_true, Bool.false_and, Bool.and_false, Bool.true_or, Bool.false_or, Bool.or_true, Bool.or_false, List.any_nil, List.any_cons]
end K74

namespace K74
open PySem RL
/-- states as a tuple -/
def tupN (f : List Nat) : PyData := .tuple (f.map fun (s : Nat) => PyData.int (s : Int))
def ext (n : Nat) (f : List Nat) : List (List Nat) := (List.range n).map fun s => f ++ [s]
theorem ext_tup (n : Nat) (f : List Nat) : (rangeD 0 (n : Int)).map (fun d => PyData.tuple (f.map (fun (s : Nat) => PyData.int (s : Int)) ++ [d])) = (ext n f).map tupN := by
  rw [rangeD_N, intsR, ext, List.map_map, List.map_map]
  refine List.map_congr_left fun s _ => ?_
  simp [tupN]
theorem fills_length (n : Nat) : ∀ K, (fills n K).length = n ^ K
  | 0 => rfl
  | K + 1 => by
    have e : ∀ l : List (List Nat), (l.flatMap fun f => (List.range n).map fun s => f ++ [s]).length = l.length * n := by
      intro l
      induction l with
      | nil => simp
      | cons a l ih => rw [List.flatMap_cons, List.length_append, ih]; simp [Nat.add_mul]; omega
    rw [fills, e, fills_length n K, Nat.pow_succ]
theorem flat_len (n : Nat) (l : List (List Nat)) : (l.flatMap (ext n)).length = l.length * n := by
  induction l with
  | nil => simp
  | cons a l ih => rw [List.flatMap_cons, List.length_append, ih]; simp [ext, Nat.add_mul]; omega
theorem take_flat {α β : Type} (F : List α) (g : α → List β) {j : Nat} (h : j < F.length) : (F.take (j + 1)).flatMap g = (F.take j).flatMap g ++ g F[j] := by
  rw [List.take_succ, List.getElem?_eq_getElem h, Option.toList_some, List.flatMap_append, List.flatMap_singleton]
set_option maxHeartbeats 4000000 in
theorem fill_in (n : Nat) (hn : n ≤ 4) (F : List (List Nat)) (hF : F.length * n ≤ 100000) (hFl : ∀ f ∈ F, f.length ≤ 1000) (c0 : Cell) (c4 : Cell) :
    ∃ c4', forGo (.nm 4) (denS (fun j => L14[j]?) (.cons (.asg (.nm 3) (.bin .Add (.var 3) (.lc [("state", 5)] (.nm 5) (.itr (.var 2)) (.cst (.bool true)) (.bin .Add (.var 4) (.tup (.cons (.var 5) .nil)))))) .nil)) (F.map tupN) [c0, .pu (.list (F.map tupN)), .pu (.list (rangeD 0 (n : Int))), .ow (.list []), c4, .un] =
      .nx [c0, .pu (.list (F.map tupN)), .pu (.list (rangeD 0 (n : Int))), .ow (.list ((F.flatMap (ext n)).map tupN)), c4', .un] := by
  obtain ⟨ρ', hf, c4', hI⟩ := for_ex (t := (.nm 4)) (b := denS (fun j => L14[j]?) (.cons (.asg (.nm 3) (.bin .Add (.var 3) (.lc [("state", 5)] (.nm 5) (.itr (.var 2)) (.cst (.bool true)) (.bin .Add (.var 4) (.tup (.cons (.var 5) .nil)))))) .nil))
    (fun i ρ => ∃ c4, ρ = [c0, .pu (.list (F.map tupN)), .pu (.list (rangeD 0 (n : Int))), .ow (.list (((F.take i).flatMap (ext n)).map tupN)), c4, .un]) (F.map tupN) 0
    [c0, .pu (.list (F.map tupN)), .pu (.list (rangeD 0 (n : Int))), .ow (.list []), c4, .un]
    (fun i d hd ρ hI => by
      obtain ⟨c4, rfl⟩ := hI
      rw [List.getElem?_map] at hd
      have hi : i < F.length := by
        by_cases h : i < F.length
        · exact h
        · rw [List.getElem?_eq_none (by omega)] at hd; cases hd
      rw [List.getElem?_eq_getElem hi] at hd
      cases hd
      rw [Nat.zero_add, take_flat F (ext n) hi, List.map_append]
      have hz1 : (((F.take i).flatMap (ext n)).map tupN).length ≤ 100000 := by
        rw [List.length_map, flat_len, List.length_take]
        have := Nat.mul_le_mul_right n (Nat.min_le_right i F.length)
        omega
      have hlf : F[i].length ≤ 1000 := hFl _ (List.getElem_mem hi)
      have hf1 : (F[i].map fun (s : Nat) => PyData.int (s : Int)).length ≤ 16777215 := by rw [List.length_map]; omega
      have hQ : (rangeD 0 (n : Int)).length ≤ 16777216 := by rw [rangeD_len]; omega
      generalize ((F.take i).flatMap (ext n)).map tupN = B at hz1 ⊢
      generalize F.map tupN = C1
      generalize F[i] = f at hf1 hlf ⊢
      have hg := gen_map (t := (.nm 5)) (c := den (fun j => L14[j]?) (.cst (.bool true))) (b := den (fun j => L14[j]?) (.bin .Add (.var 4) (.tup (.cons (.var 5) .nil)))) (ws := [5]) (ρ := [c0, .pu (.list C1), .pu (.list (rangeD 0 (n : Int))), .ow (.list B), .pu (tupN f), .un])
        (fun d => PyData.tuple (f.map (fun (s : Nat) => PyData.int (s : Int)) ++ [d])) (rangeD 0 (n : Int)) (fun x hx =>
          ⟨[c0, .pu (.list C1), .pu (.list (rangeD 0 (n : Int))), .ow (.list B), .pu (tupN f), .pu x], .p (.tuple (f.map (fun (s : Nat) => PyData.int (s : Int)) ++ [x])), [c0, .pu (.list C1), .pu (.list (rangeD 0 (n : Int))), .ow (.list B), .pu (tupN f), .pu x], [c0, .pu (.list C1), .pu (.list (rangeD 0 (n : Int))), .ow (.list B), .pu (tupN f), .pu x], rfl, rfl, by simp only [tupN, hf1, runF, cellsOf, denS, den, R.st, R.b1, R.bA, R.tst, R.eo, R.part, P.isNil, tstS, dctD, op1, op2, opN, vals, give, T.val, Cell.val, Cell.own, boolOf, intOf, isaD, PyData.isInt, PyData.isBool, PyData.isTuple, PyData.isList, PyData.isStr, PyData.isDict,  RL.finish, retF, iosAt, outT, ioSlots, ioFrom, storeS, T.seal, sealAll, Tg.bind, callX, tmpIx, T.notF, R.cut, List.take_succ_cons, List.take_zero, List.take_nil, callR, argsOf, putIos, T.flat, flatO, flats, RL.flat, primD, prim1, prim2, lenD, intD, tupD, lstD, absD, maxD, minD, bl2, cmpD, eqOk, isNoneD, binD, addD, subD, modD, divD, negD, idxD, slcD, itrD, itemsD, sealR, enmD, zipD, rngD, parS, setS, appS, augS, augD, ownL,  List.getElem?_cons_zero, List.getElem?_cons_succ, List.getElem?_nil, List.set_cons_zero, List.set_cons_succ, List.length_cons, List.length_nil, List.replicate_succ, List.replicate_zero, List.cons_append, List.nil_append, Option.map_some, Option.map_none, Option.bind_some, Option.bind_none, Option.isSome_some, Option.isSome_none, if_true, if_false, List.contains_nil, Bool.false_eq_true, reduceCtorEq, Bool.not_true, Bool.not_false, List.nodup_nil, List.not_mem_nil, List.mem_cons, or_false, false_or, true_and, and_true, not_true_eq_false, not_false_eq_true, List.nodup_cons, Bool.true_and, Bool.and_true, List.all_nil, List.all_cons, Nat.reduceLT, Nat.reduceAdd, Nat.reduceSub, Nat.reduceLeDiff, Nat.zero_lt_succ, Nat.lt_add_one, wipeE, restore, List.map_cons, List.map_nil, Option.getD_some, Option.getD_none, Prod.mk.injEq, Option.some.injEq, implies_true, forall_const, true_or, or_true, ite_true, ite_false, forall_eq, forall_eq_or_imp, Nat.not_lt_zero, decide_true, decide_false, beq_self_eq_true, and_self, Nat.reduceEqDiff, List.getElem?_map, RL.shaped_int, RL.shaped_bool, RL.shaped_none, PyData.eqv, Int.reduceEq, Int.reduceNe, Int.reduceBEq, Int.reduceLT, Int.reduceLE, bne, false_imp_iff, true_imp_iff, Int.cast_ofNat_Int, Bool.not_eq_true, Bool.false_and, Bool.and_false, Bool.true_or, Bool.false_or, Bool.or_true, Bool.or_false, List.any_nil, List.any_cons], rfl, rfl⟩)
      rw [ext_tup] at hg
      have hy : ((ext n f).map tupN).length ≤ 100 := by simp [ext]; omega
      generalize (ext n f).map tupN = E at hg hy ⊢
      generalize rangeD 0 (n : Int) = Q at hg hQ ⊢
      have hy2 : B.length + E.length ≤ 16777216 := by omega
      simp only [runF, cellsOf, denS, den, R.st, R.b1, R.bA, R.tst, R.eo, R.part, P.isNil, tstS, dctD, op1, op2, opN, vals, give, T.val, Cell.val, Cell.own, boolOf, intOf, isaD, PyData.isInt, PyData.isBool, PyData.isTuple, PyData.isList, PyData.isStr, PyData.isDict,  RL.finish, retF, iosAt, outT, ioSlots, ioFrom, storeS, T.seal, sealAll, Tg.bind, callX, tmpIx, T.notF, R.cut, List.take_succ_cons, List.take_zero, List.take_nil, callR, argsOf, putIos, T.flat, flatO, flats, RL.flat, primD, prim1, prim2, lenD, intD, tupD, lstD, absD, maxD, minD, bl2, cmpD, eqOk, isNoneD, binD, addD, subD, modD, divD, negD, idxD, slcD, itrD, itemsD, sealR, enmD, zipD, rngD, parS, setS, appS, augS, augD, ownL,  List.getElem?_cons_zero, List.getElem?_cons_succ, List.getElem?_nil, List.set_cons_zero, List.set_cons_succ, List.length_cons, List.length_nil, List.replicate_succ, List.replicate_zero, List.cons_append, List.nil_append, Option.map_some, Option.map_none, Option.bind_some, Option.bind_none, Option.isSome_some, Option.isSome_none, if_true, if_false, List.contains_nil, Bool.false_eq_true, reduceCtorEq, Bool.not_true, Bool.not_false, List.nodup_nil, List.not_mem_nil, List.mem_cons, or_false, false_or, true_and, and_true, not_true_eq_false, not_false_eq_true, List.nodup_cons, Bool.true_and, Bool.and_true, List.all_nil, List.all_cons, Nat.reduceLT, Nat.reduceAdd, Nat.reduceSub, Nat.reduceLeDiff, Nat.zero_lt_succ, Nat.lt_add_one, wipeE, restore, List.map_cons, List.map_nil, Option.getD_some, Option.getD_none, Prod.mk.injEq, Option.some.injEq, implies_true, forall_const, true_or, or_true, ite_true, ite_false, forall_eq, forall_eq_or_imp, Nat.not_lt_zero, decide_true, decide_false, beq_self_eq_true, and_self, Nat.reduceEqDiff, List.getElem?_map, RL.shaped_int, RL.shaped_bool, RL.shaped_none, PyData.eqv, Int.reduceEq, Int.reduceNe, Int.reduceBEq, Int.reduceLT, Int.reduceLE, bne, false_imp_iff, true_imp_iff, Int.cast_ofNat_Int, Bool.not_eq_true, Bool.false_and, Bool.and_false, Bool.true_or, Bool.false_or, Bool.or_true, Bool.or_false, List.any_nil, List.any_cons] at hg
      refine ⟨_, [c0, .pu (.list C1), .pu (.list Q), .ow (.list (B ++ E)), .pu (tupN f), .un], rfl, ?_, .pu (tupN f), rfl⟩
      simp only [hg, hQ, hy2, runF, cellsOf, denS, den, R.st, R.b1, R.bA, R.tst, R.eo, R.part, P.isNil, tstS, dctD, op1, op2, opN, vals, give, T.val, Cell.val, Cell.own, boolOf, intOf, isaD, PyData.isInt, PyData.isBool, PyData.isTuple, PyData.isList, PyData.isStr, PyData.isDict,  RL.finish, retF, iosAt, outT, ioSlots, ioFrom, storeS, T.seal, sealAll, Tg.bind, callX, tmpIx, T.notF, R.cut, List.take_succ_cons, List.take_zero, List.take_nil, callR, argsOf, putIos, T.flat, flatO, flats, RL.flat, primD, prim1, prim2, lenD, intD, tupD, lstD, absD, maxD, minD, bl2, cmpD, eqOk, isNoneD, binD, addD, subD, modD, divD, negD, idxD, slcD, itrD, itemsD, sealR, enmD, zipD, rngD, parS, setS, appS, augS, augD, ownL,  List.getElem?_cons_zero, List.getElem?_cons_succ, List.getElem?_nil, List.set_cons_zero, List.set_cons_succ, List.length_cons, List.length_nil, List.replicate_succ, List.replicate_zero, List.cons_append, List.nil_append, Option.map_some, Option.map_none, Option.bind_some, Option.bind_none, Option.isSome_some, Option.isSome_none, if_true, if_false, List.contains_nil, Bool.false_eq_true, reduceCtorEq, Bool.not_true, Bool.not_false, List.nodup_nil, List.not_mem_nil, List.mem_cons, or_false, false_or, true_and, and_true, not_true_eq_false, not_false_eq_true, List.nodup_cons, Bool.true_and, Bool.and_true, List.all_nil, List.all_cons, Nat.reduceLT, Nat.reduceAdd, Nat.reduceSub, Nat.reduceLeDiff, Nat.zero_lt_succ, Nat.lt_add_one, wipeE, restore, List.map_cons, List.map_nil, Option.getD_some, Option.getD_none, Prod.mk.injEq, Option.some.injEq, implies_true, forall_const, true_or, or_true, ite_true, ite_false, forall_eq, forall_eq_or_imp, Nat.not_lt_zero, decide_true, decide_false, beq_self_eq_true, and_self, Nat.reduceEqDiff, List.getElem?_map, RL.shaped_int, RL.shaped_bool, RL.shaped_none, PyData.eqv, Int.reduceEq, Int.reduceNe, Int.reduceBEq, Int.reduceLT, Int.reduceLE, bne, false_imp_iff, true_imp_iff, Int.cast_ofNat_Int, Bool.not_eq_true, Bool.false_and, Bool.and_false, Bool.true_or, Bool.false_or, Bool.or_true, Bool.or_false, List.any_nil, List.any_cons]) ⟨c4, rfl⟩
  subst hI
  rw [Nat.zero_add, List.length_map, List.take_length] at hf
  exact ⟨c4', hf⟩
set_option maxHeartbeats 4000000 in
theorem eq__law_fillings (n : Nat) (hn : n ≤ 4) (K : Nat) (hK : ∀ i, i ≤ K → n ^ i ≤ 1000) (hK2 : K ≤ 100) : ∃ v, f14.φ [.list (List.replicate K (.list (rangeD 0 (n : Int))))] = .ret v [] ∧ (v = .p (.list ((fills n K).map tupN)) ∨ v = .f (.list ((fills n K).map tupN))) := by
  obtain ⟨ρ', hf, c1, c2, c3, c4, hI, hc⟩ := for_ex (t := (.nm 2)) (b := denS (fun j => L14[j]?) (.cons (.asg (.nm 3) (.lst .nil)) (.cons (.frr (.nm 4) (.itr (.var 1)) (.cons (.asg (.nm 3) (.bin .Add (.var 3) (.lc [("state", 5)] (.nm 5) (.itr (.var 2)) (.cst (.bool true)) (.bin .Add (.var 4) (.tup (.cons (.var 5) .nil)))))) .nil)) (.cons (.asg (.nm 1) (.var 3)) .nil))))
    (fun i ρ => ∃ c1 c2 c3 c4, ρ = [.pu (.list (List.replicate K (.list (rangeD 0 (n : Int))))), c1, c2, c3, c4, .un] ∧ (c1 = .ow (.list ((fills n i).map tupN)) ∨ c1 = .pu (.list ((fills n i).map tupN)))) (List.replicate K (.list (rangeD 0 (n : Int)))) 0
    [.pu (.list (List.replicate K (.list (rangeD 0 (n : Int))))), .ow (.list [.tuple []]), .un, .un, .un, .un]
    (fun i d hd ρ hI => by
      obtain ⟨c1, c2, c3, c4, rfl, hc⟩ := hI
      have hi : i < K := by
        by_cases h : i < K
        · exact h
        · rw [List.getElem?_eq_none (by simp; omega)] at hd; cases hd
      rw [List.getElem?_replicate, if_pos hi] at hd
      cases hd
      rw [Nat.zero_add] at hc ⊢
      have hlen := fills_length n i
      have hp := hK i (by omega)
      have hl2 : (fills n i).length * n ≤ 100000 := by
        have := Nat.mul_le_mul (show (fills n i).length ≤ 1000 by omega) hn
        omega
      generalize List.replicate K (PyData.list (rangeD 0 (n : Int))) = X
      obtain ⟨c4', h⟩ := fill_in n hn (fills n i) hl2 (fun f hf => by rw [fills_len n i f hf]; omega) (.pu (.list X)) c4
      have ef : fills n (i + 1) = (fills n i).flatMap (ext n) := rfl
      have hz : ((fills n i).map tupN).length ≤ 16777216 := by rw [List.length_map]; omega
      refine ⟨_, [.pu (.list X), .pu (.list ((fills n (i + 1)).map tupN)), .pu (.list (rangeD 0 (n : Int))), .pu (.list ((fills n (i + 1)).map tupN)), c4', .un], rfl, ?_, _, _, _, _, rfl, .inr rfl⟩
      rw [ef]
      generalize (fills n i).map tupN = A at *
      generalize ((fills n i).flatMap (ext n)).map tupN = B at *
      generalize rangeD 0 (n : Int) = Q at *
      simp only [runF, cellsOf, denS, den, R.st, R.b1, R.bA, R.tst, R.eo, R.part, P.isNil, tstS, dctD, op1, op2, opN, vals, give, T.val, Cell.val, Cell.own, boolOf, intOf, isaD, PyData.isInt, PyData.isBool, PyData.isTuple, PyData.isList, PyData.isStr, PyData.isDict,  RL.finish, retF, iosAt, outT, ioSlots, ioFrom, storeS, T.seal, sealAll, Tg.bind, callX, tmpIx, T.notF, R.cut, List.take_succ_cons, List.take_zero, List.take_nil, callR, argsOf, putIos, T.flat, flatO, flats, RL.flat, primD, prim1, prim2, lenD, intD, tupD, lstD, absD, maxD, minD, bl2, cmpD, eqOk, isNoneD, binD, addD, subD, modD, divD, negD, idxD, slcD, itrD, itemsD, sealR, enmD, zipD, rngD, parS, setS, appS, augS, augD, ownL,  List.getElem?_cons_zero, List.getElem?_cons_succ, List.getElem?_nil, List.set_cons_zero, List.set_cons_succ, List.length_cons, List.length_nil, List.replicate_succ, List.replicate_zero, List.cons_append, List.nil_append, Option.map_some, Option.map_none, Option.bind_some, Option.bind_none, Option.isSome_some, Option.isSome_none, if_true, if_false, List.contains_nil, Bool.false_eq_true, reduceCtorEq, Bool.not_true, Bool.not_false, List.nodup_nil, List.not_mem_nil, List.mem_cons, or_false, false_or, true_and, and_true, not_true_eq_false, not_false_eq_true, List.nodup_cons, Bool.true_and, Bool.and_true, List.all_nil, List.all_cons, Nat.reduceLT, Nat.reduceAdd, Nat.reduceSub, Nat.reduceLeDiff, Nat.zero_lt_succ, Nat.lt_add_one, wipeE, restore, List.map_cons, List.map_nil, Option.getD_some, Option.getD_none, Prod.mk.injEq, Option.some.injEq, implies_true, forall_const, true_or, or_true, ite_true, ite_false, forall_eq, forall_eq_or_imp, Nat.not_lt_zero, decide_true, decide_false, beq_self_eq_true, and_self, Nat.reduceEqDiff, List.getElem?_map, RL.shaped_int, RL.shaped_bool, RL.shaped_none, PyData.eqv, Int.reduceEq, Int.reduceNe, Int.reduceBEq, Int.reduceLT, Int.reduceLE, bne, false_imp_iff, true_imp_iff, Int.cast_ofNat_Int, Bool.not_eq_true, Bool.false_and, Bool.and_false, Bool.true_or, Bool.false_or, Bool.or_true, Bool.or_false, List.any_nil, List.any_cons] at h
      rcases hc with rfl | rfl <;> simp only [h, hz, runF, cellsOf, denS, den, R.st, R.b1, R.bA, R.tst, R.eo, R.part, P.isNil, tstS, dctD, op1, op2, opN, vals, give, T.val, Cell.val, Cell.own, boolOf, intOf, isaD, PyData.isInt, PyData.isBool, PyData.isTuple, PyData.isList, PyData.isStr, PyData.isDict,  RL.finish, retF, iosAt, outT, ioSlots, ioFrom, storeS, T.seal, sealAll, Tg.bind, callX, tmpIx, T.notF, R.cut, List.take_succ_cons, List.take_zero, List.take_nil, callR, argsOf, putIos, T.flat, flatO, flats, RL.flat, primD, prim1, prim2, lenD, intD, tupD, lstD, absD, maxD, minD, bl2, cmpD, eqOk, isNoneD, binD, addD, subD, modD, divD, negD, idxD, slcD, itrD, itemsD, sealR, enmD, zipD, rngD, parS, setS, appS, augS, augD, ownL,  List.getElem?_cons_zero, List.getElem?_cons_succ, List.getElem?_nil, List.set_cons_zero, List.set_cons_succ, List.length_cons, List.length_nil, List.replicate_succ, List.replicate_zero, List.cons_append, List.nil_append, Option.map_some, Option.map_none, Option.bind_some, Option.bind_none, Option.isSome_some, Option.isSome_none, if_true, if_false, List.contains_nil, Bool.false_eq_true, reduceCtorEq, Bool.not_true, Bool.not_false, List.nodup_nil, List.not_mem_nil, List.mem_cons, or_false, false_or, true_and, and_true, not_true_eq_false, not_false_eq_true, List.nodup_cons, Bool.true_and, Bool.and_true, List.all_nil, List.all_cons, Nat.reduceLT, Nat.reduceAdd, Nat.reduceSub, Nat.reduceLeDiff, Nat.zero_lt_succ, Nat.lt_add_one, wipeE, restore, List.map_cons, List.map_nil, Option.getD_some, Option.getD_none, Prod.mk.injEq, Option.some.injEq, implies_true, forall_const, true_or, or_true, ite_true, ite_false, forall_eq, forall_eq_or_imp, Nat.not_lt_zero, decide_true, decide_false, beq_self_eq_true, and_self, Nat.reduceEqDiff, List.getElem?_map, RL.shaped_int, RL.shaped_bool, RL.shaped_none, PyData.eqv, Int.reduceEq, Int.reduceNe, Int.reduceBEq, Int.reduceLT, Int.reduceLE, bne, false_imp_iff, true_imp_iff, Int.cast_ofNat_Int, Bool.not_eq_true, Bool.false_and, Bool.and_false, Bool.true_or, Bool.false_or, Bool.or_true, Bool.or_false, List.any_nil, List.any_cons]) ⟨_, _, _, _, rfl, .inl rfl⟩
  subst hI
  rw [Nat.zero_add, List.length_replicate] at hc
  have hz : (List.replicate K (PyData.list (rangeD 0 (n : Int)))).length ≤ 16777216 := by rw [List.length_replicate]; omega
  generalize List.replicate K (PyData.list (rangeD 0 (n : Int))) = X at *
  generalize (fills n K).map tupN = A at *
  simp only [runF, cellsOf, denS, den, R.st, R.b1, R.bA, R.tst, R.eo, R.part, P.isNil, tstS, dctD, op1, op2, opN, vals, give, T.val, Cell.val, Cell.own, boolOf, intOf, isaD, PyData.isInt, PyData.isBool, PyData.isTuple, PyData.isList, PyData.isStr, PyData.isDict,  RL.finish, retF, iosAt, outT, ioSlots, ioFrom, storeS, T.seal, sealAll, Tg.bind, callX, tmpIx, T.notF, R.cut, List.take_succ_cons, List.take_zero, List.take_nil, callR, argsOf, putIos, T.flat, flatO, flats, RL.flat, primD, prim1, prim2, lenD, intD, tupD, lstD, absD, maxD, minD, bl2, cmpD, eqOk, isNoneD, binD, addD, subD, modD, divD, negD, idxD, slcD, itrD, itemsD, sealR, enmD, zipD, rngD, parS, setS, appS, augS, augD, ownL,  List.getElem?_cons_zero, List.getElem?_cons_succ, List.getElem?_nil, List.set_cons_zero, List.set_cons_succ, List.length_cons, List.length_nil, List.replicate_succ, List.replicate_zero, List.cons_append, List.nil_append, Option.map_some, Option.map_none, Option.bind_some, Option.bind_none, Option.isSome_some, Option.isSome_none, if_true, if_false, List.contains_nil, Bool.false_eq_true, reduceCtorEq, Bool.not_true, Bool.not_false, List.nodup_nil, List.not_mem_nil, List.mem_cons, or_false, false_or, true_and, and_true, not_true_eq_false, not_false_eq_true, List.nodup_cons, Bool.true_and, Bool.and_true, List.all_nil, List.all_cons, Nat.reduceLT, Nat.reduceAdd, Nat.reduceSub, Nat.reduceLeDiff, Nat.zero_lt_succ, Nat.lt_add_one, wipeE, restore, List.map_cons, List.map_nil, Option.getD_some, Option.getD_none, Prod.mk.injEq, Option.some.injEq, implies_true, forall_const, true_or, or_true, ite_true, ite_false, forall_eq, forall_eq_or_imp, Nat.not_lt_zero, decide_true, decide_false, beq_self_eq_true, and_self, Nat.reduceEqDiff, List.getElem?_map, RL.shaped_int, RL.shaped_bool, RL.shaped_none, PyData.eqv, Int.reduceEq, Int.reduceNe, Int.reduceBEq, Int.reduceLT, Int.reduceLE, bne, false_imp_iff, true_imp_iff, Int.cast_ofNat_Int, Bool.not_eq_true, Bool.false_and, Bool.and_false, Bool.true_or, Bool.false_or, Bool.or_true, Bool.or_false, List.any_nil, List.any_cons] at hf
  rcases hc with rfl | rfl
  · exact ⟨_, by simp only [f14, io14, s14, hf, hz, runF, cellsOf, denS, den, R.st, R.b1, R.bA, R.tst, R.eo, R.part, P.isNil, tstS, dctD, op1, op2, opN, vals, give, T.val, Cell.val, Cell.own, boolOf, intOf, isaD, PyData.isInt, PyData.isBool, PyData.isTuple, PyData.isList, PyData.isStr, PyData.isDict,  RL.finish, retF, iosAt, outT, ioSlots, ioFrom, storeS, T.seal, sealAll, Tg.bind, callX, tmpIx, T.notF, R.cut, List.take_succ_cons, List.take_zero, List.take_nil, callR, argsOf, putIos, T.flat, flatO, flats, RL.flat, primD, prim1, prim2, lenD, intD, tupD, lstD, absD, maxD, minD, bl2, cmpD, eqOk, isNoneD, binD, addD, subD, modD, divD, negD, idxD, slcD, itrD, itemsD, sealR, enmD, zipD, rngD, parS, setS, appS, augS, augD, ownL,  List.getElem?_cons_zero, List.getElem?_cons_succ, List.getElem?_nil, List.set_cons_zero, List.set_cons_succ, List.length_cons, List.length_nil, List.replicate_succ, List.replicate_zero, List.cons_append, List.nil_append, Option.map_some, Option.map_none, Option.bind_some, Option.bind_none, Option.isSome_some, Option.isSome_none, if_true, if_false, List.contains_nil, Bool.false_eq_true, reduceCtorEq, Bool.not_true, Bool.not_false, List.nodup_nil, List.not_mem_nil, List.mem_cons, or_false, false_or, true_and, and_true, not_true_eq_false, not_false_eq_true, List.nodup_cons, Bool.true_and, Bool.and_true, List.all_nil, List.all_cons, Nat.reduceLT, Nat.reduceAdd, Nat.reduceSub, Nat.reduceLeDiff, Nat.zero_lt_succ, Nat.lt_add_one, wipeE, restore, List.map_cons, List.map_nil, Option.getD_some, Option.getD_none, Prod.mk.injEq, Option.some.injEq, implies_true, forall_const, true_or, or_true, ite_true, ite_false, forall_eq, forall_eq_or_imp, Nat.not_lt_zero, decide_true, decide_false, beq_self_eq_true, and_self, Nat.reduceEqDiff, List.getElem?_map, RL.shaped_int, RL.shaped_bool, RL.shaped_none, PyData.eqv, Int.reduceEq, Int.reduceNe, Int.reduceBEq, Int.reduceLT, Int.reduceLE, bne, false_imp_iff, true_imp_iff, Int.cast_ofNat_Int, Bool.not_eq_true, Bool.false_and, Bool.and_false, Bool.true_or, Bool.false_or, Bool.or_true, Bool.or_false, List.any_nil, List.any_cons] <;> rfl, .inr rfl⟩
  · exact ⟨_, by simp only [f14, io14, s14, hf, hz, runF, cellsOf, denS, den, R.st, R.b1, R.bA, R.tst, R.eo, R.part, P.isNil, tstS, dctD, op1, op2, opN, vals, give, T.val, Cell.val, Cell.own, boolOf, intOf, isaD, PyData.isInt, PyData.isBool, PyData.isTuple, PyData.isList, PyData.isStr, PyData.isDict,  RL.finish, retF, iosAt, outT, ioSlots, ioFrom, storeS, T.seal, sealAll, Tg.bind, callX, tmpIx, T.notF, R.cut, List.take_succ_cons, List.take_zero, List.take_nil, callR, argsOf, putIos, T.flat, flatO, flats, RL.flat, primD, prim1, prim2, lenD, intD, tupD, lstD, absD, maxD, minD, bl2, cmpD, eqOk, isNoneD, binD, addD, subD, modD, divD, negD, idxD, slcD, itrD, itemsD, sealR, enmD, zipD, rngD, parS, setS, appS, augS, augD, ownL,  List.getElem?_cons_zero, List.getElem?_cons_succ, List.getElem?_nil, List.set_cons_zero, List.set_cons_succ, List.length_cons, List.length_nil, List.replicate_succ, List.replicate_zero, List.cons_append, List.nil_append, Option.map_some, Option.map_none, Option.bind_some, Option.bind_none, Option.isSome_some, Option.isSome_none, if_true, if_false, List.contains_nil, Bool.false_eq_true, reduceCtorEq, Bool.not_true, Bool.not_false, List.nodup_nil, List.not_mem_nil, List.mem_cons, or_false, false_or, true_and, and_true, not_true_eq_false, not_false_eq_true, List.nodup_cons, Bool.true_and, Bool.and_true, List.all_nil, List.all_cons, Nat.reduceLT, Nat.reduceAdd, Nat.reduceSub, Nat.reduceLeDiff, Nat.zero_lt_succ, Nat.lt_add_one, wipeE, restore, List.map_cons, List.map_nil, Option.getD_some, Option.getD_none, Prod.mk.injEq, Option.some.injEq, implies_true, forall_const, true_or, or_true, ite_true, ite_false, forall_eq, forall_eq_or_imp, Nat.not_lt_zero, decide_true, decide_false, beq_self_eq_true, and_self, Nat.reduceEqDiff, List.getElem?_map, RL.shaped_int, RL.shaped_bool, RL.shaped_none, PyData.eqv, Int.reduceEq, Int.reduceNe, Int.reduceBEq, Int.reduceLT, Int.reduceLE, bne, false_imp_iff, true_imp_iff, Int.cast_ofNat_Int, Bool.not_eq_true, Bool.false_and, Bool.and_false, Bool.true_or, Bool.false_or, Bool.or_true, Bool.or_false, List.any_nil, List.any_cons] <;> rfl, .inl rfl⟩
end K74

namespace K74
open PySem RL
theorem quiet_all (rs : List PyData) (a o : Int) : (firing rs a o).isEmpty = rs.all fun r => !fires a o r := by
  rw [Bool.eq_iff_iff, List.isEmpty_iff, List.all_eq_true]
  simp only [firing, List.map_id, List.filter_eq_nil_iff]
  constructor
  · intro h r hr
    obtain ⟨i, hi, rfl⟩ := List.getElem_of_mem hr
    have := h (.int (i : Int)) (by
      simp only [rangeD, List.mem_map, List.mem_range]
      exact ⟨i, by omega, by simp⟩)
    simp only [firingB, Int.toNat_natCast, List.getD_eq_getElem?_getD, List.getElem?_eq_getElem hi, Option.getD_some] at this
    simpa using this
  · intro h d hd
    obtain ⟨k, rfl, k0, k1⟩ := rangeD_mem hd
    have hj : k.toNat < rs.length := by omega
    have := h _ (List.getElem_mem hj)
    simp only [firingB, List.getD_eq_getElem?_getD, List.getElem?_eq_getElem hj, Option.getD_some]
    simpa using this
def abvZ (o : Int) (S : List PyData) (p : Int) : Int := if p < 0 then o else match S.getD p.toNat .none with | .int a => a | _ => 0
def quietP (rs : List PyData) (o : Int) (S : List PyData) : PyData → Bool
  | .tuple [.int p, .int s] => rs.all fun r => !fires (abvZ o S p) s r
  | _ => true
def natsD (f : List Nat) : List PyData := f.map fun (s : Nat) => PyData.int (s : Int)
theorem natsD_get {f : List Nat} {i : Nat} (h : i < f.length) : (natsD f)[i]? = some (.int (f.getD i 0 : Nat)) := by
  simp [natsD, List.getElem?_map, List.getElem?_eq_getElem h, List.getD_eq_getElem?_getD]
theorem quiet_eq (rs : List PyData) (oN : Nat) {ps : List PyData} (hp : parL ps) {f : List Nat} (hf : f.length = ps.length) : (RL.zipL ps (natsD f)).all (quietP rs (oN : Int) (natsD f)) = quietB (quietQ rs) oN (parN ps) f ps.length := by
  have key : ∀ i, (hi : i < ps.length) → ∃ p : Int, ps[i]? = some (.int p) ∧ quietP rs (oN : Int) (natsD f) (.tuple [.int p, .int (f.getD i 0 : Nat)]) = quietQ rs (abv oN (parN ps) f i) (f.getD i 0) := by
    intro i hi
    obtain ⟨p, e, p0, p1⟩ := hp i hi
    refine ⟨p, e, ?_⟩
    simp only [quietP]
    rw [quietQ, quiet_all]
    have : abvZ (oN : Int) (natsD f) p = (abv oN (parN ps) f i : Nat) := by
      unfold abvZ abv parN
      have e' : ps.getD i .none = .int p := by rw [List.getD_eq_getElem?_getD, e, Option.getD_some]
      rw [e']
      by_cases hz : p < 0
      · simp only [hz, if_true]
      · simp only [hz, if_false]
        have hj : p.toNat < f.length := by omega
        rw [List.getD_eq_getElem?_getD, natsD_get hj, Option.getD_some]
    rw [this]
  unfold quietB
  rw [Bool.eq_iff_iff, List.all_eq_true, List.all_eq_true]
  constructor
  · intro h j hj
    rw [List.mem_range] at hj
    obtain ⟨p, e, q⟩ := key j hj
    rw [← q]
    exact h _ (List.mem_of_getElem? (zipL_get e (natsD_get (by omega))))
  · intro h d hd
    obtain ⟨i, hi, rfl⟩ := List.getElem_of_mem hd
    have hi' : i < ps.length := by rw [RL.zipL_len] at hi; omega
    obtain ⟨p, e, q⟩ := key i hi'
    have e2 := zipL_get e (natsD_get (f := f) (i := i) (by omega))
    rw [List.getElem?_eq_getElem hi] at e2
    rw [Option.some.inj e2, q]
    exact h i (List.mem_range.mpr hi')
set_option maxHeartbeats 4000000 in
theorem eq__law_quiet {m : Int} {rs : List PyData} (hr : rs.all (ruleOk m) = true) (hl : rs.length ≤ 1000) (oN : Nat) {ps : List PyData} (hp : parL ps) {f : List Nat} (hf : f.length = ps.length) (hpl : ps.length ≤ 1000) :
    f17.φ [.tuple [.int m, .tuple rs], .tuple [.int (oN : Int), .tuple ps, tupN f]] = .ret (.p (.bool (quietB (quietQ rs) oN (parN ps) f ps.length))) [] := by
  have hrl : rs.length ≤ 16777216 := by omega
  obtain ⟨ρ', ⟨c2, c3, c4, c5, hI⟩, hfo⟩ := for_early (t := (.tp (.cons (.nm 2) (.cons (.nm 3) .nil)))) (b := denS (fun j => L17[j]?) (.cons (.asg (.nm 4) (.idx (.var 1) (.cst (.int 0)))) (.cons (.iff (.cmp .GtE (.var 2) (.cst (.int 0))) (.cons (.asg (.nm 4) (.idx (.idx (.var 1) (.cst (.int 2))) (.var 2))) .nil) .nil) (.cons (.frr (.nm 5) (.itr (.idx (.var 0) (.cst (.int 1)))) (.cons (.iff (.and (.cmp .Eq (.idx (.var 5) (.cst (.int 0))) (.var 4)) (.cmp .Eq (.idx (.var 5) (.cst (.int 1))) (.var 3))) (.cons (.ret (.cst (.bool false))) .nil) .nil) .nil)) .nil))))
    (fun ρ => ∃ c2 c3 c4 c5, ρ = [.pu (.tuple [.int m, .tuple rs]), .pu (.tuple [.int (oN : Int), .tuple ps, .tuple (natsD f)]), c2, c3, c4, c5]) (.p (.bool false)) (quietP rs (oN : Int) (natsD f)) (RL.zipL ps (natsD f))
    [.pu (.tuple [.int m, .tuple rs]), .pu (.tuple [.int (oN : Int), .tuple ps, .tuple (natsD f)]), .un, .un, .un, .un]
    (fun d hd ρ hI => by
      obtain ⟨c2, c3, c4, c5, rfl⟩ := hI
      obtain ⟨i, hi, rfl⟩ := List.getElem_of_mem hd
      have hi' : i < ps.length := by rw [RL.zipL_len] at hi; omega
      obtain ⟨p, e, p0, p1⟩ := hp i hi'
      have e2 := zipL_get e (natsD_get (f := f) (i := i) (by omega))
      rw [List.getElem?_eq_getElem hi] at e2
      rw [Option.some.inj e2]
      generalize ((f.getD i 0 : Nat) : Int) = s
      have b1 : L2.atI ([.int m, .tuple rs] : List PyData) (1 : Int) = some (.tuple rs) := rfl
      have a0 : L2.atI ([.int (oN : Int), .tuple ps, .tuple (natsD f)] : List PyData) (0 : Int) = some (.int (oN : Int)) := rfl
      have a2 : L2.atI ([.int (oN : Int), .tuple ps, .tuple (natsD f)] : List PyData) (2 : Int) = some (.tuple (natsD f)) := rfl
      have ha : (0 ≤ p → L2.atI (natsD f) p = some (.int (abvZ (oN : Int) (natsD f) p))) ∧ (p < 0 → abvZ (oN : Int) (natsD f) p = (oN : Int)) := by
        constructor
        · intro h
          have hj : p.toNat < f.length := by omega
          have e3 := natsD_get hj
          rw [at_nat (n := p.toNat) (by omega) e3]
          have hz : ¬ p < 0 := by omega
          simp only [abvZ, hz, if_false, List.getD_eq_getElem?_getD, e3, Option.getD_some]
        · intro h
          simp only [abvZ, h, if_true]
      have hp3 : quietP rs (oN : Int) (natsD f) (.tuple [.int p, .int s]) = rs.all fun r => !fires (abvZ (oN : Int) (natsD f) p) s r := rfl
      rw [hp3]
      generalize abvZ (oN : Int) (natsD f) p = A at ha ⊢
      generalize natsD f = S at *
      generalize (oN : Int) = O at *
      have inner : ∀ c5, ∃ c5', forGo (.nm 5) (denS (fun j => L17[j]?) (.cons (.iff (.and (.cmp .Eq (.idx (.var 5) (.cst (.int 0))) (.var 4)) (.cmp .Eq (.idx (.var 5) (.cst (.int 1))) (.var 3))) (.cons (.ret (.cst (.bool false))) .nil) .nil) .nil)) rs [.pu (.tuple [.int m, .tuple rs]), .pu (.tuple [.int O, .tuple ps, .tuple S]), .pu (.int p), .pu (.int s), .pu (.int A), c5] =
          if (rs.all fun r => !fires A s r) = true then .nx [.pu (.tuple [.int m, .tuple rs]), .pu (.tuple [.int O, .tuple ps, .tuple S]), .pu (.int p), .pu (.int s), .pu (.int A), c5'] else .rt (.p (.bool false)) [.pu (.tuple [.int m, .tuple rs]), .pu (.tuple [.int O, .tuple ps, .tuple S]), .pu (.int p), .pu (.int s), .pu (.int A), c5'] := fun c5 =>
        for_all (E := fun c => [.pu (.tuple [.int m, .tuple rs]), .pu (.tuple [.int O, .tuple ps, .tuple S]), .pu (.int p), .pu (.int s), .pu (.int A), c]) _ rs c5 (fun _ _ => rfl) fun d hd => by
          obtain ⟨x, y, z, sg, rfl, _, _, _, _, _, _⟩ := ruleOk_inv (List.all_eq_true.mp hr d hd)
          have c0 : L2.atI ([.int x, .int y, .int z, .tuple sg] : List PyData) (0 : Int) = some (.int x) := rfl
          have c1 : L2.atI ([.int x, .int y, .int z, .tuple sg] : List PyData) (1 : Int) = some (.int y) := rfl
          have e3 : fires A s (.tuple [.int x, .int y, .int z, .tuple sg]) = (x == A && y == s) := rfl
          rw [e3]
          cases hx : x == A <;> cases hy : y == s <;> simp only [c0, c1, hx, hy, runF, cellsOf, denS, den, R.st, R.b1, R.bA, R.tst, R.eo, R.part, P.isNil, tstS, dctD, op1, op2, opN, vals, give, T.val, Cell.val, Cell.own, boolOf, intOf, isaD, PyData.isInt, PyData.isBool, PyData.isTuple, PyData.isList, PyData.isStr, PyData.isDict,  RL.finish, retF, iosAt, outT, ioSlots, ioFrom, storeS, T.seal, sealAll, Tg.bind, callX, tmpIx, T.notF, R.cut, List.take_succ_cons, List.take_zero, List.take_nil, callR, argsOf, putIos, T.flat, flatO, flats, RL.flat, primD, prim1, prim2, lenD, intD, tupD, lstD, absD, maxD, minD, bl2, cmpD, eqOk, isNoneD, binD, addD, subD, modD, divD, negD, idxD, slcD, itrD, itemsD, sealR, enmD, zipD, rngD, parS, setS, appS, augS, augD, ownL,  List.getElem?_cons_zero, List.getElem?_cons_succ, List.getElem?_nil, List.set_cons_zero, List.set_cons_succ, List.length_cons, List.length_nil, List.replicate_succ, List.replicate_zero, List.cons_append, List.nil_append, Option.map_some, Option.map_none, Option.bind_some, Option.bind_none, Option.isSome_some, Option.isSome_none, if_true, if_false, List.contains_nil, Bool.false_eq_true, reduceCtorEq, Bool.not_true, Bool.not_false, List.nodup_nil, List.not_mem_nil, List.mem_cons, or_false, false_or, true_and, and_true, not_true_eq_false, not_false_eq_true, List.nodup_cons, Bool.true_and, Bool.and_true, List.all_nil, List.all_cons, Nat.reduceLT, Nat.reduceAdd, Nat.reduceSub, Nat.reduceLeDiff, Nat.zero_lt_succ, Nat.lt_add_one, wipeE, restore, List.map_cons, List.map_nil, Option.getD_some, Option.getD_none, Prod.mk.injEq, Option.some.injEq, implies_true, forall_const, true_or, or_true, ite_true, ite_false, forall_eq, forall_eq_or_imp, Nat.not_lt_zero, decide_true, decide_false, beq_self_eq_true, and_self, Nat.reduceEqDiff, List.getElem?_map, RL.shaped_int, RL.shaped_bool, RL.shaped_none, PyData.eqv, Int.reduceEq, Int.reduceNe, Int.reduceBEq, Int.reduceLT, Int.reduceLE, bne, false_imp_iff, true_imp_iff, Int.cast_ofNat_Int, Bool.not_eq_true, Bool.false_and, Bool.and_false, Bool.true_or, Bool.false_or, Bool.or_true, Bool.or_false, List.any_nil, List.any_cons]
      refine ⟨[.pu (.tuple [.int m, .tuple rs]), .pu (.tuple [.int O, .tuple ps, .tuple S]), .pu (.int p), .pu (.int s), c4, c5], rfl, fun h => ?_, fun h => ?_⟩
      · obtain ⟨c5', hq⟩ := inner c5
        rw [h, if_pos rfl] at hq
        refine ⟨_, ?_, .pu (.int p), .pu (.int s), .pu (.int A), c5', rfl⟩
        cases hc : decide (0 ≤ p) with
        | true =>
          have h1 := ha.1 (of_decide_eq_true hc)
          simp only [runF, cellsOf, denS, den, R.st, R.b1, R.bA, R.tst, R.eo, R.part, P.isNil, tstS, dctD, op1, op2, opN, vals, give, T.val, Cell.val, Cell.own, boolOf, intOf, isaD, PyData.isInt, PyData.isBool, PyData.isTuple, PyData.isList, PyData.isStr, PyData.isDict,  RL.finish, retF, iosAt, outT, ioSlots, ioFrom, storeS, T.seal, sealAll, Tg.bind, callX, tmpIx, T.notF, R.cut, List.take_succ_cons, List.take_zero, List.take_nil, callR, argsOf, putIos, T.flat, flatO, flats, RL.flat, primD, prim1, prim2, lenD, intD, tupD, lstD, absD, maxD, minD, bl2, cmpD, eqOk, isNoneD, binD, addD, subD, modD, divD, negD, idxD, slcD, itrD, itemsD, sealR, enmD, zipD, rngD, parS, setS, appS, augS, augD, ownL,  List.getElem?_cons_zero, List.getElem?_cons_succ, List.getElem?_nil, List.set_cons_zero, List.set_cons_succ, List.length_cons, List.length_nil, List.replicate_succ, List.replicate_zero, List.cons_append, List.nil_append, Option.map_some, Option.map_none, Option.bind_some, Option.bind_none, Option.isSome_some, Option.isSome_none, if_true, if_false, List.contains_nil, Bool.false_eq_true, reduceCtorEq, Bool.not_true, Bool.not_false, List.nodup_nil, List.not_mem_nil, List.mem_cons, or_false, false_or, true_and, and_true, not_true_eq_false, not_false_eq_true, List.nodup_cons, Bool.true_and, Bool.and_true, List.all_nil, List.all_cons, Nat.reduceLT, Nat.reduceAdd, Nat.reduceSub, Nat.reduceLeDiff, Nat.zero_lt_succ, Nat.lt_add_one, wipeE, restore, List.map_cons, List.map_nil, Option.getD_some, Option.getD_none, Prod.mk.injEq, Option.some.injEq, implies_true, forall_const, true_or, or_true, ite_true, ite_false, forall_eq, forall_eq_or_imp, Nat.not_lt_zero, decide_true, decide_false, beq_self_eq_true, and_self, Nat.reduceEqDiff, List.getElem?_map, RL.shaped_int, RL.shaped_bool, RL.shaped_none, PyData.eqv, Int.reduceEq, Int.reduceNe, Int.reduceBEq, Int.reduceLT, Int.reduceLE, bne, false_imp_iff, true_imp_iff, Int.cast_ofNat_Int, Bool.not_eq_true, Bool.false_and, Bool.and_false, Bool.true_or, Bool.false_or, Bool.or_true, Bool.or_false, List.any_nil, List.any_cons] at hq
          simp only [b1, a0, a2, hc, h1, hq, hrl, runF, cellsOf, denS, den, R.st, R.b1, R.bA, R.tst, R.eo, R.part, P.isNil, tstS, dctD, op1, op2, opN, vals, give, T.val, Cell.val, Cell.own, boolOf, intOf, isaD, PyData.isInt, PyData.isBool, PyData.isTuple, PyData.isList, PyData.isStr, PyData.isDict,  RL.finish, retF, iosAt, outT, ioSlots, ioFrom, storeS, T.seal, sealAll, Tg.bind, callX, tmpIx, T.notF, R.cut, List.take_succ_cons, List.take_zero, List.take_nil, callR, argsOf, putIos, T.flat, flatO, flats, RL.flat, primD, prim1, prim2, lenD, intD, tupD, lstD, absD, maxD, minD, bl2, cmpD, eqOk, isNoneD, binD, addD, subD, modD, divD, negD, idxD, slcD, itrD, itemsD, sealR, enmD, zipD, rngD, parS, setS, appS, augS, augD, ownL,  List.getElem?_cons_zero, List.getElem?_cons_succ, List.getElem?_nil, List.set_cons_zero, List.set_cons_succ, List.length_cons, List.length_nil, List.replicate_succ, List.replicate_zero, List.cons_append, List.nil_append, Option.map_some, Option.map_none, Option.bind_some, Option.bind_none, Option.isSome_some, Option.isSome_none, if_true, if_false, List.contains_nil, Bool.false_eq_true, reduceCtorEq, Bool.not_true, Bool.not_false, List.nodup_nil, List.not_mem_nil, List.mem_cons, or_false, false_or, true_and, and_true, not_true_eq_false, not_false_eq_true, List.nodup_cons, Bool.true_and, Bool.and_true, List.all_nil, List.all_cons, Nat.reduceLT, Nat.reduceAdd, Nat.reduceSub, Nat.reduceLeDiff, Nat.zero_lt_succ, Nat.lt_add_one, wipeE, restore, List.map_cons, List.map_nil, Option.getD_some, Option.getD_none, Prod.mk.injEq, Option.some.injEq, implies_true, forall_const, true_or, or_true, ite_true, ite_false, forall_eq, forall_eq_or_imp, Nat.not_lt_zero, decide_true, decide_false, beq_self_eq_true, and_self, Nat.reduceEqDiff, List.getElem?_map, RL.shaped_int, RL.shaped_bool, RL.shaped_none, PyData.eqv, Int.reduceEq, Int.reduceNe, Int.reduceBEq, Int.reduceLT, Int.reduceLE, bne, false_imp_iff, true_imp_iff, Int.cast_ofNat_Int, Bool.not_eq_true, Bool.false_and, Bool.and_false, Bool.true_or, Bool.false_or, Bool.or_true, Bool.or_false, List.any_nil, List.any_cons]
        | false =>
          have h1 := ha.2 (by have := of_decide_eq_false hc; omega)
          subst h1
          simp only [runF, cellsOf, denS, den, R.st, R.b1, R.bA, R.tst, R.eo, R.part, P.isNil, tstS, dctD, op1, op2, opN, vals, give, T.val, Cell.val, Cell.own, boolOf, intOf, isaD, PyData.isInt, PyData.isBool, PyData.isTuple, PyData.isList, PyData.isStr, PyData.isDict,  RL.finish, retF, iosAt, outT, ioSlots, ioFrom, storeS, T.seal, sealAll, Tg.bind, callX, tmpIx, T.notF, R.cut, List.take_succ_cons, List.take_zero, List.take_nil, callR, argsOf, putIos, T.flat, flatO, flats, RL.flat, primD, prim1, prim2, lenD, intD, tupD, lstD, absD, maxD, minD, bl2, cmpD, eqOk, isNoneD, binD, addD, subD, modD, divD, negD, idxD, slcD, itrD, itemsD, sealR, enmD, zipD, rngD, parS, setS, appS, augS, augD, ownL,  List.getElem?_cons_zero, List.getElem?_cons_succ, List.getElem?_nil, List.set_cons_zero, List.set_cons_succ, List.length_cons, List.length_nil, List.replicate_succ, List.replicate_zero, List.cons_append, List.nil_append, Option.map_some, Option.map_none, Option.bind_some, Option.bind_none, Option.isSome_some, Option.isSome_none, if_true, if_false, List.contains_nil, Bool.false_eq_true, reduceCtorEq, Bool.not_true, Bool.not_false, List.nodup_nil, List.not_mem_nil, List.mem_cons, or_false, false_or, true_and, and_true, not_true_eq_false, not_false_eq_true, List.nodup_cons, Bool.true_and, Bool.and_true, List.all_nil, List.all_cons, Nat.reduceLT, Nat.reduceAdd, Nat.reduceSub, Nat.reduceLeDiff, Nat.zero_lt_succ, Nat.lt_add_one, wipeE, restore, List.map_cons, List.map_nil, Option.getD_some, Option.getD_none, Prod.mk.injEq, Option.some.injEq, implies_true, forall_const, true_or, or_true, ite_true, ite_false, forall_eq, forall_eq_or_imp, Nat.not_lt_zero, decide_true, decide_false, beq_self_eq_true, and_self, Nat.reduceEqDiff, List.getElem?_map, RL.shaped_int, RL.shaped_bool, RL.shaped_none, PyData.eqv, Int.reduceEq, Int.reduceNe, Int.reduceBEq, Int.reduceLT, Int.reduceLE, bne, false_imp_iff, true_imp_iff, Int.cast_ofNat_Int, Bool.not_eq_true, Bool.false_and, Bool.and_false, Bool.true_or, Bool.false_or, Bool.or_true, Bool.or_false, List.any_nil, List.any_cons] at hq
          simp only [b1, a0, a2, hc, hq, hrl, runF, cellsOf, denS, den, R.st, R.b1, R.bA, R.tst, R.eo, R.part, P.isNil, tstS, dctD, op1, op2, opN, vals, give, T.val, Cell.val, Cell.own, boolOf, intOf, isaD, PyData.isInt, PyData.isBool, PyData.isTuple, PyData.isList, PyData.isStr, PyData.isDict,  RL.finish, retF, iosAt, outT, ioSlots, ioFrom, storeS, T.seal, sealAll, Tg.bind, callX, tmpIx, T.notF, R.cut, List.take_succ_cons, List.take_zero, List.take_nil, callR, argsOf, putIos, T.flat, flatO, flats, RL.flat, primD, prim1, prim2, lenD, intD, tupD, lstD, absD, maxD, minD, bl2, cmpD, eqOk, isNoneD, binD, addD, subD, modD, divD, negD, idxD, slcD, itrD, itemsD, sealR, enmD, zipD, rngD, parS, setS, appS, augS, augD, ownL,  List.getElem?_cons_zero, List.getElem?_cons_succ, List.getElem?_nil, List.set_cons_zero, List.set_cons_succ, List.length_cons, List.length_nil, List.replicate_succ, List.replicate_zero, List.cons_append, List.nil_append, Option.map_some, Option.map_none, Option.bind_some, Option.bind_none, Option.isSome_some, Option.isSome_none, if_true, if_false, List.contains_nil, Bool.false_eq_true, reduceCtorEq, Bool.not_true, Bool.not_false, List.nodup_nil, List.not_mem_nil, List.mem_cons, or_false, false_or, true_and, and_true, not_true_eq_false, not_false_eq_true, List.nodup_cons, Bool.true_and, Bool.and_true, List.all_nil, List.all_cons, Nat.reduceLT, Nat.reduceAdd, Nat.reduceSub, Nat.reduceLeDiff, Nat.zero_lt_succ, Nat.lt_add_one, wipeE, restore, List.map_cons, List.map_nil, Option.getD_some, Option.getD_none, Prod.mk.injEq, Option.some.injEq, implies_true, forall_const, true_or, or_true, ite_true, ite_false, forall_eq, forall_eq_or_imp, Nat.not_lt_zero, decide_true, decide_false, beq_self_eq_true, and_self, Nat.reduceEqDiff, List.getElem?_map, RL.shaped_int, RL.shaped_bool, RL.shaped_none, PyData.eqv, Int.reduceEq, Int.reduceNe, Int.reduceBEq, Int.reduceLT, Int.reduceLE, bne, false_imp_iff, true_imp_iff, Int.cast_ofNat_Int, Bool.not_eq_true, Bool.false_and, Bool.and_false, Bool.true_or, Bool.false_or, Bool.or_true, Bool.or_false, List.any_nil, List.any_cons]
      · obtain ⟨c5', hq⟩ := inner c5
        rw [h, if_neg (by decide)] at hq
        refine ⟨_, ?_, .pu (.int p), .pu (.int s), .pu (.int A), c5', rfl⟩
        cases hc : decide (0 ≤ p) with
        | true =>
          have h1 := ha.1 (of_decide_eq_true hc)
          simp only [runF, cellsOf, denS, den, R.st, R.b1, R.bA, R.tst, R.eo, R.part, P.isNil, tstS, dctD, op1, op2, opN, vals, give, T.val, Cell.val, Cell.own, boolOf, intOf, isaD, PyData.isInt, PyData.isBool, PyData.isTuple, PyData.isList, PyData.isStr, PyData.isDict,  RL.finish, retF, iosAt, outT, ioSlots, ioFrom, storeS, T.seal, sealAll, Tg.bind, callX, tmpIx, T.notF, R.cut, List.take_succ_cons, List.take_zero, List.take_nil, callR, argsOf, putIos, T.flat, flatO, flats, RL.flat, primD, prim1, prim2, lenD, intD, tupD, lstD, absD, maxD, minD, bl2, cmpD, eqOk, isNoneD, binD, addD, subD, modD, divD, negD, idxD, slcD, itrD, itemsD, sealR, enmD, zipD, rngD, parS, setS, appS, augS, augD, ownL,  List.getElem?_cons_zero, List.getElem?_cons_succ, List.getElem?_nil, List.set_cons_zero, List.set_cons_succ, List.length_cons, List.length_nil, List.replicate_succ, List.replicate_zero, List.cons_append, List.nil_append, Option.map_some, Option.map_none, Option.bind_some, Option.bind_none, Option.isSome_some, Option.isSome_none, if_true, if_false, List.contains_nil, Bool.false_eq_true, reduceCtorEq, Bool.not_true, Bool.not_false, List.nodup_nil, List.not_mem_nil, List.mem_cons, or_false, false_or, true_and, and_true, not_true_eq_false, not_false_eq_true, List.nodup_cons, Bool.true_and, Bool.and_true, List.all_nil, List.all_cons, Nat.reduceLT, Nat.reduceAdd, Nat.reduceSub, Nat.reduceLeDiff, Nat.zero_lt_succ, Nat.lt_add_one, wipeE, restore, List.map_cons, List.map_nil, Option.getD_some, Option.getD_none, Prod.mk.injEq, Option.some.injEq, implies_true, forall_const, true_or, or_true, ite_true, ite_false, forall_eq, forall_eq_or_imp, Nat.not_lt_zero, decide_true, decide_false, beq_self_eq_true, and_self, Nat.reduceEqDiff, List.getElem?_map, RL.shaped_int, RL.shaped_bool, RL.shaped_none, PyData.eqv, Int.reduceEq, Int.reduceNe, Int.reduceBEq, Int.reduceLT, Int.reduceLE, bne, false_imp_iff, true_imp_iff, Int.cast_ofNat_Int, Bool.not_eq_true, Bool.false_and, Bool.and_false, Bool.true_or, Bool.false_or, Bool.or_true, Bool.or_false, List.any_nil, List.any_cons] at hq
          simp only [b1, a0, a2, hc, h1, hq, hrl, runF, cellsOf, denS, den, R.st, R.b1, R.bA, R.tst, R.eo, R.part, P.isNil, tstS, dctD, op1, op2, opN, vals, give, T.val, Cell.val, Cell.own, boolOf, intOf, isaD, PyData.isInt, PyData.isBool, PyData.isTuple, PyData.isList, PyData.isStr, PyData.isDict,  RL.finish, retF, iosAt, outT, ioSlots, ioFrom, storeS, T.seal, sealAll, Tg.bind, callX, tmpIx, T.notF, R.cut, List.take_succ_cons, List.take_zero, List.take_nil, callR, argsOf, putIos, T.flat, flatO, flats, RL.flat, primD, prim1, prim2, lenD, intD, tupD, lstD, absD, maxD, minD, bl2, cmpD, eqOk, isNoneD, binD, addD, subD, modD, divD, negD, idxD, slcD, itrD, itemsD, sealR, enmD, zipD, rngD, parS, setS, appS, augS, augD, ownL,  List.getElem?_cons_zero, List.getElem?_cons_succ, List.getElem?_nil, List.set_cons_zero, List.set_cons_succ, List.length_cons, List.length_nil, List.replicate_succ, List.replicate_zero, List.cons_append, List.nil_append, Option.map_some, Option.map_none, Option.bind_some, Option.bind_none, Option.isSome_some, Option.isSome_none, if_true, if_false, List.contains_nil, Bool.false_eq_true, reduceCtorEq, Bool.not_true, Bool.not_false, List.nodup_nil, List.not_mem_nil, List.mem_cons, or_false, false_or, true_and, and_true, not_true_eq_false, not_false_eq_true, List.nodup_cons, Bool.true_and, Bool.and_true, List.all_nil, List.all_cons, Nat.reduceLT, Nat.reduceAdd, Nat.reduceSub, Nat.reduceLeDiff, Nat.zero_lt_succ, Nat.lt_add_one, wipeE, restore, List.map_cons, List.map_nil, Option.getD_some, Option.getD_none, Prod.mk.injEq, Option.some.injEq, implies_true, forall_const, true_or, or_true, ite_true, ite_false, forall_eq, forall_eq_or_imp, Nat.not_lt_zero, decide_true, decide_false, beq_self_eq_true, and_self, Nat.reduceEqDiff, List.getElem?_map, RL.shaped_int, RL.shaped_bool, RL.shaped_none, PyData.eqv, Int.reduceEq, Int.reduceNe, Int.reduceBEq, Int.reduceLT, Int.reduceLE, bne, false_imp_iff, true_imp_iff, Int.cast_ofNat_Int, Bool.not_eq_true, Bool.false_and, Bool.and_false, Bool.true_or, Bool.false_or, Bool.or_true, Bool.or_false, List.any_nil, List.any_cons]
        | false =>
          have h1 := ha.2 (by have := of_decide_eq_false hc; omega)
          subst h1
          simp only [runF, cellsOf, denS, den, R.st, R.b1, R.bA, R.tst, R.eo, R.part, P.isNil, tstS, dctD, op1, op2, opN, vals, give, T.val, Cell.val, Cell.own, boolOf, intOf, isaD, PyData.isInt, PyData.isBool, PyData.isTuple, PyData.isList, PyData.isStr, PyData.isDict,  RL.finish, retF, iosAt, outT, ioSlots, ioFrom, storeS, T.seal, sealAll, Tg.bind, callX, tmpIx, T.notF, R.cut, List.take_succ_cons, List.take_zero, List.take_nil, callR, argsOf, putIos, T.flat, flatO, flats, RL.flat, primD, prim1, prim2, lenD, intD, tupD, lstD, absD, maxD, minD, bl2, cmpD, eqOk, isNoneD, binD, addD, subD, modD, divD, negD, idxD, slcD, itrD, itemsD, sealR, enmD, zipD, rngD, parS, setS, appS, augS, augD, ownL,  List.getElem?_cons_zero, List.getElem?_cons_succ, List.getElem?_nil, List.set_cons_zero, List.set_cons_succ, List.length_cons, List.length_nil, List.replicate_succ, List.replicate_zero, List.cons_append, List.nil_append, Option.map_some, Option.map_none, Option.bind_some, Option.bind_none, Option.isSome_some, Option.isSome_none, if_true, if_false, List.contains_nil, Bool.false_eq_true, reduceCtorEq, Bool.not_true, Bool.not_false, List.nodup_nil, List.not_mem_nil, List.mem_cons, or_false, false_or, true_and, and_true, not_true_eq_false, not_false_eq_true, List.nodup_cons, Bool.true_and, Bool.and_true, List.all_nil, List.all_cons, Nat.reduceLT, Nat.reduceAdd, Nat.reduceSub, Nat.reduceLeDiff, Nat.zero_lt_succ, Nat.lt_add_one, wipeE, restore, List.map_cons, List.map_nil, Option.getD_some, Option.getD_none, Prod.mk.injEq, Option.some.injEq, implies_true, forall_const, true_or, or_true, ite_true, ite_false, forall_eq, forall_eq_or_imp, Nat.not_lt_zero, decide_true, decide_false, beq_self_eq_true, and_self, Nat.reduceEqDiff, List.getElem?_map, RL.shaped_int, RL.shaped_bool, RL.shaped_none, PyData.eqv, Int.reduceEq, Int.reduceNe, Int.reduceBEq, Int.reduceLT, Int.reduceLE, bne, false_imp_iff, true_imp_iff, Int.cast_ofNat_Int, Bool.not_eq_true, Bool.false_and, Bool.and_false, Bool.true_or, Bool.false_or, Bool.or_true, Bool.or_false, List.any_nil, List.any_cons] at hq
          simp only [b1, a0, a2, hc, hq, hrl, runF, cellsOf, denS, den, R.st, R.b1, R.bA, R.tst, R.eo, R.part, P.isNil, tstS, dctD, op1, op2, opN, vals, give, T.val, Cell.val, Cell.own, boolOf, intOf, isaD, PyData.isInt, PyData.isBool, PyData.isTuple, PyData.isList, PyData.isStr, PyData.isDict,  RL.finish, retF, iosAt, outT, ioSlots, ioFrom, storeS, T.seal, sealAll, Tg.bind, callX, tmpIx, T.notF, R.cut, List.take_succ_cons, List.take_zero, List.take_nil, callR, argsOf, putIos, T.flat, flatO, flats, RL.flat, primD, prim1, prim2, lenD, intD, tupD, lstD, absD, maxD, minD, bl2, cmpD, eqOk, isNoneD, binD, addD, subD, modD, divD, negD, idxD, slcD, itrD, itemsD, sealR, enmD, zipD, rngD, parS, setS, appS, augS, augD, ownL,  List.getElem?_cons_zero, List.getElem?_cons_succ, List.getElem?_nil, List.set_cons_zero, List.set_cons_succ, List.length_cons, List.length_nil, List.replicate_succ, List.replicate_zero, List.cons_append, List.nil_append, Option.map_some, Option.map_none, Option.bind_some, Option.bind_none, Option.isSome_some, Option.isSome_none, if_true, if_false, List.contains_nil, Bool.false_eq_true, reduceCtorEq, Bool.not_true, Bool.not_false, List.nodup_nil, List.not_mem_nil, List.mem_cons, or_false, false_or, true_and, and_true, not_true_eq_false, not_false_eq_true, List.nodup_cons, Bool.true_and, Bool.and_true, List.all_nil, List.all_cons, Nat.reduceLT, Nat.reduceAdd, Nat.reduceSub, Nat.reduceLeDiff, Nat.zero_lt_succ, Nat.lt_add_one, wipeE, restore, List.map_cons, List.map_nil, Option.getD_some, Option.getD_none, Prod.mk.injEq, Option.some.injEq, implies_true, forall_const, true_or, or_true, ite_true, ite_false, forall_eq, forall_eq_or_imp, Nat.not_lt_zero, decide_true, decide_false, beq_self_eq_true, and_self, Nat.reduceEqDiff, List.getElem?_map, RL.shaped_int, RL.shaped_bool, RL.shaped_none, PyData.eqv, Int.reduceEq, Int.reduceNe, Int.reduceBEq, Int.reduceLT, Int.reduceLE, bne, false_imp_iff, true_imp_iff, Int.cast_ofNat_Int, Bool.not_eq_true, Bool.false_and, Bool.and_false, Bool.true_or, Bool.false_or, Bool.or_true, Bool.or_false, List.any_nil, List.any_cons]) ⟨_, _, _, _, rfl⟩
  subst hI
  rw [quiet_eq rs oN hp hf] at hfo
  have tn : tupN f = .tuple (natsD f) := rfl
  rw [tn]
  have a1 : L2.atI ([.int (oN : Int), .tuple ps, .tuple (natsD f)] : List PyData) (1 : Int) = some (.tuple ps) := rfl
  have a2 : L2.atI ([.int (oN : Int), .tuple ps, .tuple (natsD f)] : List PyData) (2 : Int) = some (.tuple (natsD f)) := rfl
  have hz : zipD (.tuple ps) (.tuple (natsD f)) = some (.p (.list (RL.zipL ps (natsD f)))) := rfl
  have hzl : (RL.zipL ps (natsD f)).length ≤ 16777216 := by rw [RL.zipL_len]; omega
  have hpz : ps.length ≤ 16777216 := by omega
  have hsz : (natsD f).length ≤ 16777216 := by simp [natsD]; omega
  generalize RL.zipL ps (natsD f) = Z at *
  simp only [runF, cellsOf, denS, den, R.st, R.b1, R.bA, R.tst, R.eo, R.part, P.isNil, tstS, dctD, op1, op2, opN, vals, give, T.val, Cell.val, Cell.own, boolOf, intOf, isaD, PyData.isInt, PyData.isBool, PyData.isTuple, PyData.isList, PyData.isStr, PyData.isDict,  RL.finish, retF, iosAt, outT, ioSlots, ioFrom, storeS, T.seal, sealAll, Tg.bind, callX, tmpIx, T.notF, R.cut, List.take_succ_cons, List.take_zero, List.take_nil, callR, argsOf, putIos, T.flat, flatO, flats, RL.flat, primD, prim1, prim2, lenD, intD, tupD, lstD, absD, maxD, minD, bl2, cmpD, eqOk, isNoneD, binD, addD, subD, modD, divD, negD, idxD, slcD, itrD, itemsD, sealR, enmD, rngD, parS, setS, appS, augS, augD, ownL,  List.getElem?_cons_zero, List.getElem?_cons_succ, List.getElem?_nil, List.set_cons_zero, List.set_cons_succ, List.length_cons, List.length_nil, List.replicate_succ, List.replicate_zero, List.cons_append, List.nil_append, Option.map_some, Option.map_none, Option.bind_some, Option.bind_none, Option.isSome_some, Option.isSome_none, if_true, if_false, List.contains_nil, Bool.false_eq_true, reduceCtorEq, Bool.not_true, Bool.not_false, List.nodup_nil, List.not_mem_nil, List.mem_cons, or_false, false_or, true_and, and_true, not_true_eq_false, not_false_eq_true, List.nodup_cons, Bool.true_and, Bool.and_true, List.all_nil, List.all_cons, Nat.reduceLT, Nat.reduceAdd, Nat.reduceSub, Nat.reduceLeDiff, Nat.zero_lt_succ, Nat.lt_add_one, wipeE, restore, List.map_cons, List.map_nil, Option.getD_some, Option.getD_none, Prod.mk.injEq, Option.some.injEq, implies_true, forall_const, true_or, or_true, ite_true, ite_false, forall_eq, forall_eq_or_imp, Nat.not_lt_zero, decide_true, decide_false, beq_self_eq_true, and_self, Nat.reduceEqDiff, List.getElem?_map, RL.shaped_int, RL.shaped_bool, RL.shaped_none, PyData.eqv, Int.reduceEq, Int.reduceNe, Int.reduceBEq, Int.reduceLT, Int.reduceLE, bne, false_imp_iff, true_imp_iff, Int.cast_ofNat_Int, Bool.not_eq_true, Bool.false_and, Bool.and_false, Bool.true_or, Bool.false_or, Bool.or_true, Bool.or_false, List.any_nil, List.any_cons] at hfo
  cases hb : quietB (quietQ rs) oN (parN ps) f ps.length with
  | true =>
    rw [hb, if_pos rfl] at hfo
    simp only [f17, io17, s17, a1, a2, hz, hfo, hzl, hpz, hsz, runF, cellsOf, denS, den, R.st, R.b1, R.bA, R.tst, R.eo, R.part, P.isNil, tstS, dctD, op1, op2, opN, vals, give, T.val, Cell.val, Cell.own, boolOf, intOf, isaD, PyData.isInt, PyData.isBool, PyData.isTuple, PyData.isList, PyData.isStr, PyData.isDict,  RL.finish, retF, iosAt, outT, ioSlots, ioFrom, storeS, T.seal, sealAll, Tg.bind, callX, tmpIx, T.notF, R.cut, List.take_succ_cons, List.take_zero, List.take_nil, callR, argsOf, putIos, T.flat, flatO, flats, RL.flat, primD, prim1, prim2, lenD, intD, tupD, lstD, absD, maxD, minD, bl2, cmpD, eqOk, isNoneD, binD, addD, subD, modD, divD, negD, idxD, slcD, itrD, itemsD, sealR, enmD, rngD, parS, setS, appS, augS, augD, ownL,  List.getElem?_cons_zero, List.getElem?_cons_succ, List.getElem?_nil, List.set_cons_zero, List.set_cons_succ, List.length_cons, List.length_nil, List.replicate_succ, List.replicate_zero, List.cons_append, List.nil_append, Option.map_some, Option.map_none, Option.bind_some, Option.bind_none, Option.isSome_some, Option.isSome_none, if_true, if_false, List.contains_nil, Bool.false_eq_true, reduceCtorEq, Bool.not_true, Bool.not_false, List.nodup_nil, List.not_mem_nil, List.mem_cons, or_false, false_or, true_and, and_true, not_true_eq_false, not_false_eq_true, List.nodup_cons, Bool.true_and, Bool.and_true, List.all_nil, List.all_cons, Nat.reduceLT, Nat.reduceAdd, Nat.reduceSub, Nat.reduceLeDiff, Nat.zero_lt_succ, Nat.lt_add_one, wipeE, restore, List.map_cons, List.map_nil, Option.getD_some, Option.getD_none, Prod.mk.injEq, Option.some.injEq, implies_true, forall_const, true_or, or_true, ite_true, ite_false, forall_eq, forall_eq_or_imp, Nat.not_lt_zero, decide_true, decide_false, beq_self_eq_true, and_self, Nat.reduceEqDiff, List.getElem?_map, RL.shaped_int, RL.shaped_bool, RL.shaped_none, PyData.eqv, Int.reduceEq, Int.reduceNe, Int.reduceBEq, Int.reduceLT, Int.reduceLE, bne, false_imp_iff, true_imp_iff, Int.cast_ofNat_Int, Bool.not_eq_true, Bool.false_and, Bool.and_false, Bool.true_or, Bool.false_or, Bool.or_true, Bool.or_false, List.any_nil, List.any_cons]
  | false =>
    rw [hb, if_neg (by decide)] at hfo
    simp only [f17, io17, s17, a1, a2, hz, hfo, hzl, hpz, hsz, runF, cellsOf, denS, den, R.st, R.b1, R.bA, R.tst, R.eo, R.part, P.isNil, tstS, dctD, op1, op2, opN, vals, give, T.val, Cell.val, Cell.own, boolOf, intOf, isaD, PyData.isInt, PyData.isBool, PyData.isTuple, PyData.isList, PyData.isStr, PyData.isDict,  RL.finish, retF, iosAt, outT, ioSlots, ioFrom, storeS, T.seal, sealAll, Tg.bind, callX, tmpIx, T.notF, R.cut, List.take_succ_cons, List.take_zero, List.take_nil, callR, argsOf, putIos, T.flat, flatO, flats, RL.flat, primD, prim1, prim2, lenD, intD, tupD, lstD, absD, maxD, minD, bl2, cmpD, eqOk, isNoneD, binD, addD, subD, modD, divD, negD, idxD, slcD, itrD, itemsD, sealR, enmD, rngD, parS, setS, appS, augS, augD, ownL,  List.getElem?_cons_zero, List.getElem?_cons_succ, List.getElem?_nil, List.set_cons_zero, List.set_cons_succ, List.length_cons, List.length_nil, List.replicate_succ, List.replicate_zero, List.cons_append, List.nil_append, Option.map_some, Option.map_none, Option.bind_some, Option.bind_none, Option.isSome_some, Option.isSome_none, if_true, if_false, List.contains_nil, Bool.false_eq_true, reduceCtorEq, Bool.not_true, Bool.not_false, List.nodup_nil, List.not_mem_nil, List.mem_cons, or_false, false_or, true_and, and_true, not_true_eq_false, not_false_eq_true, List.nodup_cons, Bool.true_and, Bool.and_true, List.all_nil, List.all_cons, Nat.reduceLT, Nat.reduceAdd, Nat.reduceSub, Nat.reduceLeDiff, Nat.zero_lt_succ, Nat.lt_add_one, wipeE, restore, List.map_cons, List.map_nil, Option.getD_some, Option.getD_none, Prod.mk.injEq, Option.some.injEq, implies_true, forall_const, true_or, or_true, ite_true, ite_false, forall_eq, forall_eq_or_imp, Nat.not_lt_zero, decide_true, decide_false, beq_self_eq_true, and_self, Nat.reduceEqDiff, List.getElem?_map, RL.shaped_int, RL.shaped_bool, RL.shaped_none, PyData.eqv, Int.reduceEq, Int.reduceNe, Int.reduceBEq, Int.reduceLT, Int.reduceLE, bne, false_imp_iff, true_imp_iff, Int.cast_ofNat_Int, Bool.not_eq_true, Bool.false_and, Bool.and_false, Bool.true_or, Bool.false_or, Bool.or_true, Bool.or_false, List.any_nil, List.any_cons]
theorem eq__law_is_integer (i : Int) : f16.φ [.int i] = .ret (.p (.bool true)) [] := by
  simp only [f16, io16, s16, runF, cellsOf, denS, den, R.st, R.b1, R.bA, R.tst, R.eo, R.part, P.isNil, tstS, dctD, op1, op2, opN, vals, give, T.val, Cell.val, Cell.own, boolOf, intOf, isaD, PyData.isInt, PyData.isBool, PyData.isTuple, PyData.isList, PyData.isStr, PyData.isDict,  RL.finish, retF, iosAt, outT, ioSlots, ioFrom, storeS, T.seal, sealAll, Tg.bind, callX, tmpIx, T.notF, R.cut, List.take_succ_cons, List.take_zero, List.take_nil, callR, argsOf, putIos, T.flat, flatO, flats, RL.flat, primD, prim1, prim2, lenD, intD, tupD, lstD, absD, maxD, minD, bl2, cmpD, eqOk, isNoneD, binD, addD, subD, modD, divD, negD, idxD, slcD, itrD, itemsD, sealR, enmD, zipD, rngD, parS, setS, appS, augS, augD, ownL,  List.getElem?_cons_zero, List.getElem?_cons_succ, List.getElem?_nil, List.set_cons_zero, List.set_cons_succ, List.length_cons, List.length_nil, List.replicate_succ, List.replicate_zero, List.cons_append, List.nil_append, Option.map_some, Option.map_none, Option.bind_some, Option.bind_none, Option.isSome_some, Option.isSome_none, if_true, if_false, List.contains_nil, Bool.false_eq_true, reduceCtorEq, Bool.not_true, Bool.not_false, List.nodup_nil, List.not_mem_nil, List.mem_cons, or_false, false_or, true_and, and_true, not_true_eq_false, not_false_eq_true, List.nodup_cons, Bool.true_and, Bool.and_true, List.all_nil, List.all_cons, Nat.reduceLT, Nat.reduceAdd, Nat.reduceSub, Nat.reduceLeDiff, Nat.zero_lt_succ, Nat.lt_add_one, wipeE, restore, List.map_cons, List.map_nil, Option.getD_some, Option.getD_none, Prod.mk.injEq, Option.some.injEq, implies_true, forall_const, true_or, or_true, ite_true, ite_false, forall_eq, forall_eq_or_imp, Nat.not_lt_zero, decide_true, decide_false, beq_self_eq_true, and_self, Nat.reduceEqDiff, List.getElem?_map, RL.shaped_int, RL.shaped_bool, RL.shaped_none, PyData.eqv, Int.reduceEq, Int.reduceNe, Int.reduceBEq, Int.reduceLT, Int.reduceLE, bne, false_imp_iff, true_imp_iff, Int.cast_ofNat_Int, Bool.not_eq_true, Bool.false_and, Bool.and_false, Bool.true_or, Bool.false_or, Bool.or_true, Bool.or_false, List.any_nil, List.any_cons]
end K74

namespace K74
open PySem RL
theorem flats_ints : ∀ {ds : List PyData}, (∀ d ∈ ds, ∃ k : Int, d = .int k) → flats ds = true
  | [], _ => rfl
  | d :: ds, h => by
    obtain ⟨k, rfl⟩ := h d List.mem_cons_self
    simp only [flats, RL.flat, Bool.true_and]
    exact flats_ints fun e he => h e (List.mem_cons_of_mem _ he)
theorem parL_ints {ps : List PyData} (h : parL ps) : ∀ d ∈ ps, ∃ k : Int, d = .int k := fun d hd => by
  obtain ⟨i, hi, rfl⟩ := List.getElem_of_mem hd
  obtain ⟨p, e, _⟩ := h i hi
  rw [List.getElem?_eq_getElem hi] at e
  exact ⟨p, Option.some.inj e⟩
theorem below_ints {m : Int} {ss : List PyData} (h : ss.all (below m) = true) : ∀ d ∈ ss, ∃ k : Int, d = .int k := fun d hd => by
  obtain ⟨i, e, _⟩ := below_int (List.all_eq_true.mp h d hd)
  exact ⟨i, e⟩
/-- a parent moved by so many -/
def shP (K : Int) : PyData → PyData
  | .int p => .int (if 0 ≤ p then K + p else -1)
  | d => d
theorem parL_join {p1 p2 : List PyData} (h1 : parL p1) (h2 : parL p2) : parL (p1 ++ p2.map (shP (p1.length : Int))) := by
  intro j hj
  rw [List.length_append, List.length_map] at hj
  by_cases h : j < p1.length
  · rw [List.getElem?_append_left h]; exact h1 j h
  · rw [List.getElem?_append_right (by omega)]
    obtain ⟨p, e, a, b⟩ := h2 (j - p1.length) (by omega)
    rw [List.getElem?_map, e]
    refine ⟨_, rfl, ?_, ?_⟩
    · split <;> omega
    · split <;> omega
theorem parN_join {p1 p2 : List PyData} (h2 : parL p2) : parN (p1 ++ p2.map (shP (p1.length : Int))) = joinP p1.length (parN p1) (parN p2) := by
  funext j
  unfold joinP
  by_cases h : j < p1.length
  · rw [if_pos h]
    unfold parN
    rw [List.getD_eq_getElem?_getD, List.getD_eq_getElem?_getD, List.getElem?_append_left h]
  · rw [if_neg h]
    unfold parN
    rw [List.getD_eq_getElem?_getD, List.getD_eq_getElem?_getD, List.getElem?_append_right (by omega), List.getElem?_map]
    by_cases h3 : j - p1.length < p2.length
    · obtain ⟨p, e, a, b⟩ := h2 (j - p1.length) h3
      rw [e]
      simp only [Option.map_some, Option.getD_some, shP]
      by_cases hp : 0 ≤ p
      · rw [if_pos hp, if_neg (by omega), if_neg (by omega)]
        simp only [Option.map_some, Option.some.injEq]; omega
      · rw [if_neg hp, if_pos (by omega), if_pos (by omega)]; rfl
    · rw [List.getElem?_eq_none (by omega)]; rfl
set_option maxHeartbeats 4000000 in
theorem eq__law_beside (o : Int) (x : PyData) {p1 p2 s1 s2 : List PyData} (h2 : parL p2) (l1 : p1.length ≤ 1000) (l2 : p2.length ≤ 1000) (l3 : s1.length ≤ 1000) (l4 : s2.length ≤ 1000) :
    f15.φ [.tuple [.int o, .tuple p1, .tuple s1], .tuple [x, .tuple p2, .tuple s2]] = .ret (.p (.tuple [.int o, .tuple (p1 ++ p2.map (shP (p1.length : Int))), .tuple (s1 ++ s2)])) [] := by
  have a0 : L2.atI ([.int o, .tuple p1, .tuple s1] : List PyData) (0 : Int) = some (.int o) := rfl
  have a1 : L2.atI ([.int o, .tuple p1, .tuple s1] : List PyData) (1 : Int) = some (.tuple p1) := rfl
  have a2 : L2.atI ([.int o, .tuple p1, .tuple s1] : List PyData) (2 : Int) = some (.tuple s1) := rfl
  have b1 : L2.atI ([x, .tuple p2, .tuple s2] : List PyData) (1 : Int) = some (.tuple p2) := rfl
  have b2 : L2.atI ([x, .tuple p2, .tuple s2] : List PyData) (2 : Int) = some (.tuple s2) := rfl
  have z1 : p2.length ≤ 16777216 := by omega
  generalize hK : (p1.length : Int) = K
  have hg := gen_map (t := (.nm 4)) (c := den (fun j => L15[j]?) (.cst (.bool true))) (b := den (fun j => L15[j]?) (.idx (.lst (.cons (.neg (.cst (.int 1))) (.cons (.bin .Add (.var 2) (.var 4)) .nil))) (.prim .int (.cons (.cmp .GtE (.var 4) (.cst (.int 0))) .nil)))) (ws := [4]) (ρ := [.pu (.tuple [.int o, .tuple p1, .tuple s1]), .pu (.tuple [x, .tuple p2, .tuple s2]), .pu (.int K), .un, .un])
    (shP K) p2 (fun d hd => by
      obtain ⟨p, rfl⟩ := parL_ints h2 d hd
      refine ⟨[.pu (.tuple [.int o, .tuple p1, .tuple s1]), .pu (.tuple [x, .tuple p2, .tuple s2]), .pu (.int K), .un, .pu (.int p)], .p (shP K (.int p)), [.pu (.tuple [.int o, .tuple p1, .tuple s1]), .pu (.tuple [x, .tuple p2, .tuple s2]), .pu (.int K), .un, .pu (.int p)], [.pu (.tuple [.int o, .tuple p1, .tuple s1]), .pu (.tuple [x, .tuple p2, .tuple s2]), .pu (.int K), .un, .pu (.int p)], rfl, rfl, ?_, rfl, rfl⟩
      have at0 := at2_0 (.int (-1)) (.int (K + p))
      have at1 := at2_1 (.int (-1)) (.int (K + p))
      cases hp : decide (0 ≤ p) with
      | true =>
        have e : shP K (.int p) = .int (K + p) := by simp only [shP, if_pos (of_decide_eq_true hp)]
        simp only [e, hp, at1, runF, cellsOf, denS, den, R.st, R.b1, R.bA, R.tst, R.eo, R.part, P.isNil, tstS, dctD, op1, op2, opN, vals, give, T.val, Cell.val, Cell.own, boolOf, intOf, isaD, PyData.isInt, PyData.isBool, PyData.isTuple, PyData.isList, PyData.isStr, PyData.isDict,  RL.finish, retF, iosAt, outT, ioSlots, ioFrom, storeS, T.seal, sealAll, Tg.bind, callX, tmpIx, T.notF, R.cut, List.take_succ_cons, List.take_zero, List.take_nil, callR, argsOf, putIos, T.flat, flatO, flats, RL.flat, primD, prim1, prim2, lenD, intD, tupD, lstD, absD, maxD, minD, bl2, cmpD, eqOk, isNoneD, binD, addD, subD, modD, divD, negD, idxD, slcD, itrD, itemsD, sealR, enmD, zipD, rngD, parS, setS, appS, augS, augD, ownL,  List.getElem?_cons_zero, List.getElem?_cons_succ, List.getElem?_nil, List.set_cons_zero, List.set_cons_succ, List.length_cons, List.length_nil, List.replicate_succ, List.replicate_zero, List.cons_append, List.nil_append, Option.map_some, Option.map_none, Option.bind_some, Option.bind_none, Option.isSome_some, Option.isSome_none, if_true, if_false, List.contains_nil, Bool.false_eq_true, reduceCtorEq, Bool.not_true, Bool.not_false, List.nodup_nil, List.not_mem_nil, List.mem_cons, or_false, false_or, true_and, and_true, not_true_eq_false, not_false_eq_true, List.nodup_cons, Bool.true_and, Bool.and_true, List.all_nil, List.all_cons, Nat.reduceLT, Nat.reduceAdd, Nat.reduceSub, Nat.reduceLeDiff, Nat.zero_lt_succ, Nat.lt_add_one, wipeE, restore, List.map_cons, List.map_nil, Option.getD_some, Option.getD_none, Prod.mk.injEq, Option.some.injEq, implies_true, forall_const, true_or, or_true, ite_true, ite_false, forall_eq, forall_eq_or_imp, Nat.not_lt_zero, decide_true, decide_false, beq_self_eq_true, and_self, Nat.reduceEqDiff, List.getElem?_map, RL.shaped_int, RL.shaped_bool, RL.shaped_none, PyData.eqv, Int.reduceEq, Int.reduceNe, Int.reduceBEq, Int.reduceLT, Int.reduceLE, bne, false_imp_iff, true_imp_iff, Int.cast_ofNat_Int, Bool.not_eq_true, Bool.false_and, Bool.and_false, Bool.true_or, Bool.false_or, Bool.or_true, Bool.or_false, List.any_nil, List.any_cons]
      | false =>
        have e : shP K (.int p) = .int (-1) := by simp only [shP, if_neg (of_decide_eq_false hp)]
        simp only [e, hp, at0, runF, cellsOf, denS, den, R.st, R.b1, R.bA, R.tst, R.eo, R.part, P.isNil, tstS, dctD, op1, op2, opN, vals, give, T.val, Cell.val, Cell.own, boolOf, intOf, isaD, PyData.isInt, PyData.isBool, PyData.isTuple, PyData.isList, PyData.isStr, PyData.isDict,  RL.finish, retF, iosAt, outT, ioSlots, ioFrom, storeS, T.seal, sealAll, Tg.bind, callX, tmpIx, T.notF, R.cut, List.take_succ_cons, List.take_zero, List.take_nil, callR, argsOf, putIos, T.flat, flatO, flats, RL.flat, primD, prim1, prim2, lenD, intD, tupD, lstD, absD, maxD, minD, bl2, cmpD, eqOk, isNoneD, binD, addD, subD, modD, divD, negD, idxD, slcD, itrD, itemsD, sealR, enmD, zipD, rngD, parS, setS, appS, augS, augD, ownL,  List.getElem?_cons_zero, List.getElem?_cons_succ, List.getElem?_nil, List.set_cons_zero, List.set_cons_succ, List.length_cons, List.length_nil, List.replicate_succ, List.replicate_zero, List.cons_append, List.nil_append, Option.map_some, Option.map_none, Option.bind_some, Option.bind_none, Option.isSome_some, Option.isSome_none, if_true, if_false, List.contains_nil, Bool.false_eq_true, reduceCtorEq, Bool.not_true, Bool.not_false, List.nodup_nil, List.not_mem_nil, List.mem_cons, or_false, false_or, true_and, and_true, not_true_eq_false, not_false_eq_true, List.nodup_cons, Bool.true_and, Bool.and_true, List.all_nil, List.all_cons, Nat.reduceLT, Nat.reduceAdd, Nat.reduceSub, Nat.reduceLeDiff, Nat.zero_lt_succ, Nat.lt_add_one, wipeE, restore, List.map_cons, List.map_nil, Option.getD_some, Option.getD_none, Prod.mk.injEq, Option.some.injEq, implies_true, forall_const, true_or, or_true, ite_true, ite_false, forall_eq, forall_eq_or_imp, Nat.not_lt_zero, decide_true, decide_false, beq_self_eq_true, and_self, Nat.reduceEqDiff, List.getElem?_map, RL.shaped_int, RL.shaped_bool, RL.shaped_none, PyData.eqv, Int.reduceEq, Int.reduceNe, Int.reduceBEq, Int.reduceLT, Int.reduceLE, bne, false_imp_iff, true_imp_iff, Int.cast_ofNat_Int, Bool.not_eq_true, Bool.false_and, Bool.and_false, Bool.true_or, Bool.false_or, Bool.or_true, Bool.or_false, List.any_nil, List.any_cons])
  have z2 : p1.length + (p2.map (shP K)).length ≤ 16777216 := by rw [List.length_map]; omega
  have z3 : s1.length + s2.length ≤ 16777216 := by omega
  have z4 : (p2.map (shP K)).length ≤ 16777216 := by rw [List.length_map]; omega
  generalize p2.map (shP K) = Q at hg z2 z4 ⊢
  simp only [runF, cellsOf, denS, den, R.st, R.b1, R.bA, R.tst, R.eo, R.part, P.isNil, tstS, dctD, op1, op2, opN, vals, give, T.val, Cell.val, Cell.own, boolOf, intOf, isaD, PyData.isInt, PyData.isBool, PyData.isTuple, PyData.isList, PyData.isStr, PyData.isDict,  RL.finish, retF, iosAt, outT, ioSlots, ioFrom, storeS, T.seal, sealAll, Tg.bind, callX, tmpIx, T.notF, R.cut, List.take_succ_cons, List.take_zero, List.take_nil, callR, argsOf, putIos, T.flat, flatO, flats, RL.flat, primD, prim1, prim2, lenD, intD, tupD, lstD, absD, maxD, minD, bl2, cmpD, eqOk, isNoneD, binD, addD, subD, modD, divD, negD, idxD, slcD, itrD, itemsD, sealR, enmD, zipD, rngD, parS, setS, appS, augS, augD, ownL,  List.getElem?_cons_zero, List.getElem?_cons_succ, List.getElem?_nil, List.set_cons_zero, List.set_cons_succ, List.length_cons, List.length_nil, List.replicate_succ, List.replicate_zero, List.cons_append, List.nil_append, Option.map_some, Option.map_none, Option.bind_some, Option.bind_none, Option.isSome_some, Option.isSome_none, if_true, if_false, List.contains_nil, Bool.false_eq_true, reduceCtorEq, Bool.not_true, Bool.not_false, List.nodup_nil, List.not_mem_nil, List.mem_cons, or_false, false_or, true_and, and_true, not_true_eq_false, not_false_eq_true, List.nodup_cons, Bool.true_and, Bool.and_true, List.all_nil, List.all_cons, Nat.reduceLT, Nat.reduceAdd, Nat.reduceSub, Nat.reduceLeDiff, Nat.zero_lt_succ, Nat.lt_add_one, wipeE, restore, List.map_cons, List.map_nil, Option.getD_some, Option.getD_none, Prod.mk.injEq, Option.some.injEq, implies_true, forall_const, true_or, or_true, ite_true, ite_false, forall_eq, forall_eq_or_imp, Nat.not_lt_zero, decide_true, decide_false, beq_self_eq_true, and_self, Nat.reduceEqDiff, List.getElem?_map, RL.shaped_int, RL.shaped_bool, RL.shaped_none, PyData.eqv, Int.reduceEq, Int.reduceNe, Int.reduceBEq, Int.reduceLT, Int.reduceLE, bne, false_imp_iff, true_imp_iff, Int.cast_ofNat_Int, Bool.not_eq_true, Bool.false_and, Bool.and_false, Bool.true_or, Bool.false_or, Bool.or_true, Bool.or_false, List.any_nil, List.any_cons] at hg
  simp only [f15, io15, s15, a0, a1, a2, b1, b2, z1, z2, z3, z4, hK, hg, runF, cellsOf, denS, den, R.st, R.b1, R.bA, R.tst, R.eo, R.part, P.isNil, tstS, dctD, op1, op2, opN, vals, give, T.val, Cell.val, Cell.own, boolOf, intOf, isaD, PyData.isInt, PyData.isBool, PyData.isTuple, PyData.isList, PyData.isStr, PyData.isDict,  RL.finish, retF, iosAt, outT, ioSlots, ioFrom, storeS, T.seal, sealAll, Tg.bind, callX, tmpIx, T.notF, R.cut, List.take_succ_cons, List.take_zero, List.take_nil, callR, argsOf, putIos, T.flat, flatO, flats, RL.flat, primD, prim1, prim2, lenD, intD, tupD, lstD, absD, maxD, minD, bl2, cmpD, eqOk, isNoneD, binD, addD, subD, modD, divD, negD, idxD, slcD, itrD, itemsD, sealR, enmD, zipD, rngD, parS, setS, appS, augS, augD, ownL,  List.getElem?_cons_zero, List.getElem?_cons_succ, List.getElem?_nil, List.set_cons_zero, List.set_cons_succ, List.length_cons, List.length_nil, List.replicate_succ, List.replicate_zero, List.cons_append, List.nil_append, Option.map_some, Option.map_none, Option.bind_some, Option.bind_none, Option.isSome_some, Option.isSome_none, if_true, if_false, List.contains_nil, Bool.false_eq_true, reduceCtorEq, Bool.not_true, Bool.not_false, List.nodup_nil, List.not_mem_nil, List.mem_cons, or_false, false_or, true_and, and_true, not_true_eq_false, not_false_eq_true, List.nodup_cons, Bool.true_and, Bool.and_true, List.all_nil, List.all_cons, Nat.reduceLT, Nat.reduceAdd, Nat.reduceSub, Nat.reduceLeDiff, Nat.zero_lt_succ, Nat.lt_add_one, wipeE, restore, List.map_cons, List.map_nil, Option.getD_some, Option.getD_none, Prod.mk.injEq, Option.some.injEq, implies_true, forall_const, true_or, or_true, ite_true, ite_false, forall_eq, forall_eq_or_imp, Nat.not_lt_zero, decide_true, decide_false, beq_self_eq_true, and_self, Nat.reduceEqDiff, List.getElem?_map, RL.shaped_int, RL.shaped_bool, RL.shaped_none, PyData.eqv, Int.reduceEq, Int.reduceNe, Int.reduceBEq, Int.reduceLT, Int.reduceLE, bne, false_imp_iff, true_imp_iff, Int.cast_ofNat_Int, Bool.not_eq_true, Bool.false_and, Bool.and_false, Bool.true_or, Bool.false_or, Bool.or_true, Bool.or_false, List.any_nil, List.any_cons]
end K74

namespace K74
open PySem RL
theorem natsD_below {n : Nat} {f : List Nat} (h : ∀ s ∈ f, s < n) : (natsD f).all (below (n : Int)) = true := by
  rw [List.all_eq_true]
  intro d hd
  simp only [natsD, List.mem_map] at hd
  obtain ⟨s, hs, rfl⟩ := hd
  have := h s hs
  exact below_iff.mpr ⟨by omega, by omega⟩
theorem total_bnd (n : Nat) (q : Nat → Nat → Bool) (o : Nat) {par : Nat → Option Nat} (hp : ∀ j p, par j = some p → p < j) (k : Nat) : 0 ≤ total n q o par k ∧ total n q o par k ≤ ((n ^ k : Nat) : Int) := by
  rw [total_eq n q o hp]
  have h := List.length_filter_le (fun f => quietB q o par f k) (fills n k)
  rw [fills_length] at h
  omega
theorem mul_small {a b : Int} (h0 : 0 ≤ b) (h1 : b < 18446744073709551616) : mulD (.int a) (.int b) = some (.p (.int (a * b))) := mul_r (by omega) (by omega)
/-- trees side by side -/
def Wide (n : Nat) (q : Nat → Nat → Bool) (o : Nat) (o' : Int) (L : Nat) (T' : Int) (d : PyData) : Prop :=
  ∃ ps ss, d = .tuple [.int o', .tuple ps, .tuple ss] ∧ parL ps ∧ ps.length = L ∧ ss.length = L ∧ ss.all (below (n : Int)) = true ∧ total n q o (parN ps) L = T'
section
variable (n : Nat) (hn1 : 1 ≤ n) (hn : n ≤ 4) (rs : List PyData) (hR : Rules (n : Int) rs) (hl : rs.length ≤ 12) (oN : Nat) (hoN : oN < n)
include hn1 hn hR hl hoN
theorem book74 : bookOk (.tuple [.int (n : Int), .tuple rs]) = true := by
  simp [bookOk, hR.ok, hR.nd, hl]; omega
theorem wide_count {L : Nat} {T' : Int} {d : PyData} (hL : L ≤ 250) (h : Wide n (quietQ rs) oN (oN : Int) L T' d) : f9.φ [.tuple [.int (n : Int), .tuple rs], d] = .ret (.p (.int T')) [] := by
  obtain ⟨ps, ss, rfl, hp, rfl, hsl, hs, rfl⟩ := h
  exact eq_count_rests hn1 hn (book74 n hn1 hn rs hR hl oN hoN) hR.ok hl rfl hoN hp hL (tree_mk (by omega) (by omega) hp hsl.symm (by omega) hs)
theorem wide_beside {L M : Nat} {t u : Int} {d e : PyData} (hL : L ≤ 1000) (hM : M ≤ 1000) (h : Wide n (quietQ rs) oN (oN : Int) L t d) (h' : Wide n (quietQ rs) oN (oN : Int) M u e) : ∃ w, f15.φ [d, e] = .ret (.p w) [] ∧ Wide n (quietQ rs) oN (oN : Int) (L + M) (t * u) w := by
  obtain ⟨ps, ss, rfl, hp, hpl, hsl, hs, ht⟩ := h
  obtain ⟨ps2, ss2, rfl, hp2, hpl2, hsl2, hs2, ht2⟩ := h'
  subst hpl
  subst hpl2
  refine ⟨_, eq__law_beside _ _ hp2 (by omega) (by omega) (by omega) (by omega), _, _, rfl, parL_join hp hp2, by simp, by simp [hsl, hsl2], by simp [hs, hs2], ?_⟩
  rw [parN_join hp2, total_join n (quietQ rs) oN (parN_lt hp) (parN_lt hp2), ht, ht2]
end


theorem fills_gen (n : Nat) (hn : n ≤ 4) (rs ps ss : List PyData) (oN : Nat) (X : List PyData) :
    genGo (.nm 8) (den (fun j => L18[j]?) (.cst (.bool true))) (den (fun j => L18[j]?) (.lstR (.rng (.cons (.var 2) .nil)))) [8] ps [.pu (.list X), .pu (.tuple [.int (n : Int), .tuple rs]), .pu (.int (n : Int)), .pu (.int (oN : Int)), .pu (.tuple ps), .pu (.tuple ss), .un, .un, .un, .un, .un, .un, .un, .un, .un, .un, .un, .un] = some (List.replicate ps.length (.list (rangeD 0 (n : Int))), [.pu (.list X), .pu (.tuple [.int (n : Int), .tuple rs]), .pu (.int (n : Int)), .pu (.int (oN : Int)), .pu (.tuple ps), .pu (.tuple ss), .un, .un, .un, .un, .un, .un, .un, .un, .un, .un, .un, .un]) := by
  have hy : (rangeD 0 (n : Int)).length ≤ 16777216 := by rw [rangeD_len]; omega
  have hg := gen_map (t := (.nm 8)) (c := den (fun j => L18[j]?) (.cst (.bool true))) (b := den (fun j => L18[j]?) (.lstR (.rng (.cons (.var 2) .nil)))) (ws := [8]) (ρ := [.pu (.list X), .pu (.tuple [.int (n : Int), .tuple rs]), .pu (.int (n : Int)), .pu (.int (oN : Int)), .pu (.tuple ps), .pu (.tuple ss), .un, .un, .un, .un, .un, .un, .un, .un, .un, .un, .un, .un]) (fun _ => PyData.list (rangeD 0 (n : Int))) ps (fun d hd => by
    generalize hm : (n : Int) = m at *
    obtain ⟨r1, r2⟩ := rng_in (m := m) (by omega) (by omega)
    refine ⟨[.pu (.list X), .pu (.tuple [.int m, .tuple rs]), .pu (.int m), .pu (.int (oN : Int)), .pu (.tuple ps), .pu (.tuple ss), .un, .un, .pu d, .un, .un, .un, .un, .un, .un, .un, .un, .un], .f (.list (rangeD 0 m)), [.pu (.list X), .pu (.tuple [.int m, .tuple rs]), .pu (.int m), .pu (.int (oN : Int)), .pu (.tuple ps), .pu (.tuple ss), .un, .un, .pu d, .un, .un, .un, .un, .un, .un, .un, .un, .un], [.pu (.list X), .pu (.tuple [.int m, .tuple rs]), .pu (.int m), .pu (.int (oN : Int)), .pu (.tuple ps), .pu (.tuple ss), .un, .un, .pu d, .un, .un, .un, .un, .un, .un, .un, .un, .un], rfl, rfl, ?_, rfl, rfl⟩
    simp only [r1, r2, hy, runF, cellsOf, denS, den, R.st, R.b1, R.bA, R.tst, R.eo, R.part, P.isNil, tstS, dctD, op1, op2, opN, vals, give, T.val, Cell.val, Cell.own, boolOf, intOf, isaD, PyData.isInt, PyData.isBool, PyData.isTuple, PyData.isList, PyData.isStr, PyData.isDict,  RL.finish, retF, iosAt, outT, ioSlots, ioFrom, storeS, T.seal, sealAll, Tg.bind, callX, tmpIx, T.notF, R.cut, List.take_succ_cons, List.take_zero, List.take_nil, callR, argsOf, putIos, T.flat, flatO, flats, RL.flat, primD, prim1, prim2, lenD, intD, tupD, lstD, absD, maxD, minD, bl2, cmpD, eqOk, isNoneD, binD, addD, subD, modD, divD, negD, idxD, slcD, itrD, itemsD, sealR, enmD, zipD, rngD, parS, setS, appS, augS, augD, ownL,  List.getElem?_cons_zero, List.getElem?_cons_succ, List.getElem?_nil, List.set_cons_zero, List.set_cons_succ, List.length_cons, List.length_nil, List.replicate_succ, List.replicate_zero, List.cons_append, List.nil_append, Option.map_some, Option.map_none, Option.bind_some, Option.bind_none, Option.isSome_some, Option.isSome_none, if_true, if_false, List.contains_nil, Bool.false_eq_true, reduceCtorEq, Bool.not_true, Bool.not_false, List.nodup_nil, List.not_mem_nil, List.mem_cons, or_false, false_or, true_and, and_true, not_true_eq_false, not_false_eq_true, List.nodup_cons, Bool.true_and, Bool.and_true, List.all_nil, List.all_cons, Nat.reduceLT, Nat.reduceAdd, Nat.reduceSub, Nat.reduceLeDiff, Nat.zero_lt_succ, Nat.lt_add_one, wipeE, restore, List.map_cons, List.map_nil, Option.getD_some, Option.getD_none, Prod.mk.injEq, Option.some.injEq, implies_true, forall_const, true_or, or_true, ite_true, ite_false, forall_eq, forall_eq_or_imp, Nat.not_lt_zero, decide_true, decide_false, beq_self_eq_true, and_self, Nat.reduceEqDiff, List.getElem?_map, RL.shaped_int, RL.shaped_bool, RL.shaped_none, PyData.eqv, Int.reduceEq, Int.reduceNe, Int.reduceBEq, Int.reduceLT, Int.reduceLE, bne, false_imp_iff, true_imp_iff, Int.cast_ofNat_Int, Bool.not_eq_true, Bool.false_and, Bool.and_false, Bool.true_or, Bool.false_or, Bool.or_true, Bool.or_false, List.any_nil, List.any_cons])
  rw [List.map_const'] at hg
  exact hg

theorem trees_gen (n : Nat) (rs ps ss : List PyData) (oN : Nat) (X : List PyData) (L : List PyData) :
    genGo (.nm 7) (den (fun j => L18[j]?) (.cst (.bool true))) (den (fun j => L18[j]?) (.tup (.cons (.var 3) (.cons (.var 4) (.cons (.var 7) .nil))))) [7] L [.pu (.list X), .pu (.tuple [.int (n : Int), .tuple rs]), .pu (.int (n : Int)), .pu (.int (oN : Int)), .pu (.tuple ps), .pu (.tuple ss), .un, .un, .un, .un, .un, .un, .un, .un, .un, .un, .un, .un] = some (L.map fun d => .tuple [.int (oN : Int), .tuple ps, d], [.pu (.list X), .pu (.tuple [.int (n : Int), .tuple rs]), .pu (.int (n : Int)), .pu (.int (oN : Int)), .pu (.tuple ps), .pu (.tuple ss), .un, .un, .un, .un, .un, .un, .un, .un, .un, .un, .un, .un]) := by
  refine gen_map _ _ fun d hd => ?_
  exact ⟨[.pu (.list X), .pu (.tuple [.int (n : Int), .tuple rs]), .pu (.int (n : Int)), .pu (.int (oN : Int)), .pu (.tuple ps), .pu (.tuple ss), .un, .pu d, .un, .un, .un, .un, .un, .un, .un, .un, .un, .un], .p (.tuple [.int (oN : Int), .tuple ps, d]), [.pu (.list X), .pu (.tuple [.int (n : Int), .tuple rs]), .pu (.int (n : Int)), .pu (.int (oN : Int)), .pu (.tuple ps), .pu (.tuple ss), .un, .pu d, .un, .un, .un, .un, .un, .un, .un, .un, .un, .un], [.pu (.list X), .pu (.tuple [.int (n : Int), .tuple rs]), .pu (.int (n : Int)), .pu (.int (oN : Int)), .pu (.tuple ps), .pu (.tuple ss), .un, .pu d, .un, .un, .un, .un, .un, .un, .un, .un, .un, .un], rfl, rfl, by simp only [runF, cellsOf, denS, den, R.st, R.b1, R.bA, R.tst, R.eo, R.part, P.isNil, tstS, dctD, op1, op2, opN, vals, give, T.val, Cell.val, Cell.own, boolOf, intOf, isaD, PyData.isInt, PyData.isBool, PyData.isTuple, PyData.isList, PyData.isStr, PyData.isDict,  RL.finish, retF, iosAt, outT, ioSlots, ioFrom, storeS, T.seal, sealAll, Tg.bind, callX, tmpIx, T.notF, R.cut, List.take_succ_cons, List.take_zero, List.take_nil, callR, argsOf, putIos, T.flat, flatO, flats, RL.flat, primD, prim1, prim2, lenD, intD, tupD, lstD, absD, maxD, minD, bl2, cmpD, eqOk, isNoneD, binD, addD, subD, modD, divD, negD, idxD, slcD, itrD, itemsD, sealR, enmD, zipD, rngD, parS, setS, appS, augS, augD, ownL,  List.getElem?_cons_zero, List.getElem?_cons_succ, List.getElem?_nil, List.set_cons_zero, List.set_cons_succ, List.length_cons, List.length_nil, List.replicate_succ, List.replicate_zero, List.cons_append, List.nil_append, Option.map_some, Option.map_none, Option.bind_some, Option.bind_none, Option.isSome_some, Option.isSome_none, if_true, if_false, List.contains_nil, Bool.false_eq_true, reduceCtorEq, Bool.not_true, Bool.not_false, List.nodup_nil, List.not_mem_nil, List.mem_cons, or_false, false_or, true_and, and_true, not_true_eq_false, not_false_eq_true, List.nodup_cons, Bool.true_and, Bool.and_true, List.all_nil, List.all_cons, Nat.reduceLT, Nat.reduceAdd, Nat.reduceSub, Nat.reduceLeDiff, Nat.zero_lt_succ, Nat.lt_add_one, wipeE, restore, List.map_cons, List.map_nil, Option.getD_some, Option.getD_none, Prod.mk.injEq, Option.some.injEq, implies_true, forall_const, true_or, or_true, ite_true, ite_false, forall_eq, forall_eq_or_imp, Nat.not_lt_zero, decide_true, decide_false, beq_self_eq_true, and_self, Nat.reduceEqDiff, List.getElem?_map, RL.shaped_int, RL.shaped_bool, RL.shaped_none, PyData.eqv, Int.reduceEq, Int.reduceNe, Int.reduceBEq, Int.reduceLT, Int.reduceLE, bne, false_imp_iff, true_imp_iff, Int.cast_ofNat_Int, Bool.not_eq_true, Bool.false_and, Bool.and_false, Bool.true_or, Bool.false_or, Bool.or_true, Bool.or_false, List.any_nil, List.any_cons], rfl, rfl⟩

def quietT (rs : List PyData) : PyData → Bool
  | .tuple [.int o, .tuple ps, .tuple S] => (RL.zipL ps S).all (quietP rs o S)
  | _ => false
theorem due_gen (n : Nat) (rs ps ss : List PyData) (oN : Nat) (X Z : List PyData) (hr : rs.all (ruleOk (n : Int)) = true) (hl : rs.length ≤ 12) (hp : parL ps) (hpl : ps.length ≤ 1000) :
    genGo (.nm 10) (den (fun j => L18[j]?) (.call 17 (.cons (.var 1) (.cons (.var 10) .nil)))) (den (fun j => L18[j]?) (.var 10)) [10] (((fills n ps.length).map tupN).map fun d => .tuple [.int (oN : Int), .tuple ps, d]) [.pu (.list X), .pu (.tuple [.int (n : Int), .tuple rs]), .pu (.int (n : Int)), .pu (.int (oN : Int)), .pu (.tuple ps), .pu (.tuple ss), .pu (.list Z), .un, .un, .un, .un, .un, .un, .un, .un, .un, .un, .un] = some (((((fills n ps.length).map tupN).map fun d => .tuple [.int (oN : Int), .tuple ps, d]).filter (quietT rs)).map id, [.pu (.list X), .pu (.tuple [.int (n : Int), .tuple rs]), .pu (.int (n : Int)), .pu (.int (oN : Int)), .pu (.tuple ps), .pu (.tuple ss), .pu (.list Z), .un, .un, .un, .un, .un, .un, .un, .un, .un, .un, .un]) := by
  have h__law_quiet : L18[17]? = some f17 := rfl
  have i__law_quiet : f17.io = [false, false] := rfl
  refine gen_filter _ _ _ fun d hd => ?_
  simp only [List.map_map, List.mem_map, Function.comp] at hd
  obtain ⟨f, hf, rfl⟩ := hd
  have q := eq__law_quiet hr (by omega) oN hp (fills_len n _ f hf) hpl
  have e : quietT rs (.tuple [.int (oN : Int), .tuple ps, tupN f]) = quietB (quietQ rs) oN (parN ps) f ps.length := quiet_eq rs oN hp (fills_len n _ f hf)
  rw [← e] at q
  generalize PyData.tuple [.int (oN : Int), .tuple ps, tupN f] = d at q ⊢
  refine ⟨[.pu (.list X), .pu (.tuple [.int (n : Int), .tuple rs]), .pu (.int (n : Int)), .pu (.int (oN : Int)), .pu (.tuple ps), .pu (.tuple ss), .pu (.list Z), .un, .un, .un, .pu d, .un, .un, .un, .un, .un, .un, .un], rfl, ?_, rfl, fun _ => ⟨.p d, [.pu (.list X), .pu (.tuple [.int (n : Int), .tuple rs]), .pu (.int (n : Int)), .pu (.int (oN : Int)), .pu (.tuple ps), .pu (.tuple ss), .pu (.list Z), .un, .un, .un, .pu d, .un, .un, .un, .un, .un, .un, .un], [.pu (.list X), .pu (.tuple [.int (n : Int), .tuple rs]), .pu (.int (n : Int)), .pu (.int (oN : Int)), .pu (.tuple ps), .pu (.tuple ss), .pu (.list Z), .un, .un, .un, .pu d, .un, .un, .un, .un, .un, .un, .un], ?_, rfl, rfl⟩⟩
  · simp only [h__law_quiet, i__law_quiet, q, runF, cellsOf, denS, den, R.st, R.b1, R.bA, R.tst, R.eo, R.part, P.isNil, tstS, dctD, op1, op2, opN, vals, give, T.val, Cell.val, Cell.own, boolOf, intOf, isaD, PyData.isInt, PyData.isBool, PyData.isTuple, PyData.isList, PyData.isStr, PyData.isDict,  RL.finish, retF, iosAt, outT, ioSlots, ioFrom, storeS, T.seal, sealAll, Tg.bind, callX, tmpIx, T.notF, R.cut, List.take_succ_cons, List.take_zero, List.take_nil, callR, argsOf, putIos, T.flat, flatO, flats, RL.flat, primD, prim1, prim2, lenD, intD, tupD, lstD, absD, maxD, minD, bl2, cmpD, eqOk, isNoneD, binD, addD, subD, modD, divD, negD, idxD, slcD, itrD, itemsD, sealR, enmD, zipD, rngD, parS, setS, appS, augS, augD, ownL,  List.getElem?_cons_zero, List.getElem?_cons_succ, List.getElem?_nil, List.set_cons_zero, List.set_cons_succ, List.length_cons, List.length_nil, List.replicate_succ, List.replicate_zero, List.cons_append, List.nil_append, Option.map_some, Option.map_none, Option.bind_some, Option.bind_none, Option.isSome_some, Option.isSome_none, if_true, if_false, List.contains_nil, Bool.false_eq_true, reduceCtorEq, Bool.not_true, Bool.not_false, List.nodup_nil, List.not_mem_nil, List.mem_cons, or_false, false_or, true_and, and_true, not_true_eq_false, not_false_eq_true, List.nodup_cons, Bool.true_and, Bool.and_true, List.all_nil, List.all_cons, Nat.reduceLT, Nat.reduceAdd, Nat.reduceSub, Nat.reduceLeDiff, Nat.zero_lt_succ, Nat.lt_add_one, wipeE, restore, List.map_cons, List.map_nil, Option.getD_some, Option.getD_none, Prod.mk.injEq, Option.some.injEq, implies_true, forall_const, true_or, or_true, ite_true, ite_false, forall_eq, forall_eq_or_imp, Nat.not_lt_zero, decide_true, decide_false, beq_self_eq_true, and_self, Nat.reduceEqDiff, List.getElem?_map, RL.shaped_int, RL.shaped_bool, RL.shaped_none, PyData.eqv, Int.reduceEq, Int.reduceNe, Int.reduceBEq, Int.reduceLT, Int.reduceLE, bne, false_imp_iff, true_imp_iff, Int.cast_ofNat_Int, Bool.not_eq_true, Bool.false_and, Bool.and_false, Bool.true_or, Bool.false_or, Bool.or_true, Bool.or_false, List.any_nil, List.any_cons]
  · simp only [runF, cellsOf, denS, den, R.st, R.b1, R.bA, R.tst, R.eo, R.part, P.isNil, tstS, dctD, op1, op2, opN, vals, give, T.val, Cell.val, Cell.own, boolOf, intOf, isaD, PyData.isInt, PyData.isBool, PyData.isTuple, PyData.isList, PyData.isStr, PyData.isDict,  RL.finish, retF, iosAt, outT, ioSlots, ioFrom, storeS, T.seal, sealAll, Tg.bind, callX, tmpIx, T.notF, R.cut, List.take_succ_cons, List.take_zero, List.take_nil, callR, argsOf, putIos, T.flat, flatO, flats, RL.flat, primD, prim1, prim2, lenD, intD, tupD, lstD, absD, maxD, minD, bl2, cmpD, eqOk, isNoneD, binD, addD, subD, modD, divD, negD, idxD, slcD, itrD, itemsD, sealR, enmD, zipD, rngD, parS, setS, appS, augS, augD, ownL,  List.getElem?_cons_zero, List.getElem?_cons_succ, List.getElem?_nil, List.set_cons_zero, List.set_cons_succ, List.length_cons, List.length_nil, List.replicate_succ, List.replicate_zero, List.cons_append, List.nil_append, Option.map_some, Option.map_none, Option.bind_some, Option.bind_none, Option.isSome_some, Option.isSome_none, if_true, if_false, List.contains_nil, Bool.false_eq_true, reduceCtorEq, Bool.not_true, Bool.not_false, List.nodup_nil, List.not_mem_nil, List.mem_cons, or_false, false_or, true_and, and_true, not_true_eq_false, not_false_eq_true, List.nodup_cons, Bool.true_and, Bool.and_true, List.all_nil, List.all_cons, Nat.reduceLT, Nat.reduceAdd, Nat.reduceSub, Nat.reduceLeDiff, Nat.zero_lt_succ, Nat.lt_add_one, wipeE, restore, List.map_cons, List.map_nil, Option.getD_some, Option.getD_none, Prod.mk.injEq, Option.some.injEq, implies_true, forall_const, true_or, or_true, ite_true, ite_false, forall_eq, forall_eq_or_imp, Nat.not_lt_zero, decide_true, decide_false, beq_self_eq_true, and_self, Nat.reduceEqDiff, List.getElem?_map, RL.shaped_int, RL.shaped_bool, RL.shaped_none, PyData.eqv, Int.reduceEq, Int.reduceNe, Int.reduceBEq, Int.reduceLT, Int.reduceLE, bne, false_imp_iff, true_imp_iff, Int.cast_ofNat_Int, Bool.not_eq_true, Bool.false_and, Bool.and_false, Bool.true_or, Bool.false_or, Bool.or_true, Bool.or_false, List.any_nil, List.any_cons]
theorem due_len (n : Nat) (rs ps : List PyData) (oN : Nat) (hp : parL ps) : ((((((fills n ps.length).map tupN).map fun d => PyData.tuple [.int (oN : Int), .tuple ps, d]).filter (quietT rs)).map id).length : Int) = total n (quietQ rs) oN (parN ps) ps.length := by
  rw [total_eq n (quietQ rs) oN (parN_lt hp), List.length_map, List.map_map, List.filter_map, List.length_map]
  congr 2
  refine List.filter_congr fun f hf => ?_
  exact quiet_eq rs oN hp (fills_len n _ f hf)

theorem draw_gen (n : Nat) (hn1 : 1 ≤ n) (hn : n ≤ 4) (rs ps ss : List PyData) (oN : Nat) (X Z : List PyData) (u : Int) (hpl : ps.length ≤ 1000) (d : PyData) (hd : Src d 0) :
    ∃ es d', genGo (.nm 8) (den (fun j => L18[j]?) (.cst (.bool true))) (den (fun j => L18[j]?) (.call 11 (.cons (.var 11) (.cons (.var 2) .nil)))) [8] ps [.pu (.list X), .pu (.tuple [.int (n : Int), .tuple rs]), .pu (.int (n : Int)), .pu (.int (oN : Int)), .pu (.tuple ps), .pu (.tuple ss), .pu (.list Z), .un, .un, .pu (.int u), .un, .ow d, .un, .un, .un, .un, .un, .un] = some (es, [.pu (.list X), .pu (.tuple [.int (n : Int), .tuple rs]), .pu (.int (n : Int)), .pu (.int (oN : Int)), .pu (.tuple ps), .pu (.tuple ss), .pu (.list Z), .un, .un, .pu (.int u), .un, .ow d', .un, .un, .un, .un, .un, .un]) ∧ es.length = ps.length ∧ es.all (below (n : Int)) = true ∧ ∃ t, Src d' t := by
  have h__law_take : L18[11]? = some f11 := rfl
  have i__law_take : f11.io = [true, false] := rfl
  obtain ⟨es, ρ', hg, ⟨d', hI, hS⟩, hl, hP⟩ := gen_ex (t := (.nm 8)) (c := den (fun j => L18[j]?) (.cst (.bool true))) (b := den (fun j => L18[j]?) (.call 11 (.cons (.var 11) (.cons (.var 2) .nil)))) (ws := [8])
    (fun i ρ => ∃ d, ρ = [.pu (.list X), .pu (.tuple [.int (n : Int), .tuple rs]), .pu (.int (n : Int)), .pu (.int (oN : Int)), .pu (.tuple ps), .pu (.tuple ss), .pu (.list Z), .un, .un, .pu (.int u), .un, .ow d, .un, .un, .un, .un, .un, .un] ∧ Src d (i : Int)) (fun _ e => below (n : Int) e = true) ps 0 [.pu (.list X), .pu (.tuple [.int (n : Int), .tuple rs]), .pu (.int (n : Int)), .pu (.int (oN : Int)), .pu (.tuple ps), .pu (.tuple ss), .pu (.list Z), .un, .un, .pu (.int u), .un, .ow d, .un, .un, .un, .un, .un, .un] (fun i x hx ρ hI => by
      obtain ⟨d, rfl, hS⟩ := hI
      have hi := (List.getElem?_eq_some_iff.mp hx).1
      obtain ⟨r, d', q, hr, hS'⟩ := eq__law_take d _ (n : Int) hS (by omega) (by omega) (by omega)
      refine ⟨[.pu (.list X), .pu (.tuple [.int (n : Int), .tuple rs]), .pu (.int (n : Int)), .pu (.int (oN : Int)), .pu (.tuple ps), .pu (.tuple ss), .pu (.list Z), .un, .pu x, .pu (.int u), .un, .ow d, .un, .un, .un, .un, .un, .un], .p (.int r), [.pu (.list X), .pu (.tuple [.int (n : Int), .tuple rs]), .pu (.int (n : Int)), .pu (.int (oN : Int)), .pu (.tuple ps), .pu (.tuple ss), .pu (.list Z), .un, .pu x, .pu (.int u), .un, .ow d', .un, .un, .un, .un, .un, .un], .int r, [.pu (.list X), .pu (.tuple [.int (n : Int), .tuple rs]), .pu (.int (n : Int)), .pu (.int (oN : Int)), .pu (.tuple ps), .pu (.tuple ss), .pu (.list Z), .un, .pu x, .pu (.int u), .un, .ow d', .un, .un, .un, .un, .un, .un], rfl, rfl, ?_, rfl, below_iff.mpr hr, d', rfl, hS'.up (by omega)⟩
      generalize (n : Int) = N at *
      obtain ⟨dg, sd, st, rfl, _, _⟩ := hS.ex
      obtain ⟨dg', sd', st', rfl, _, _⟩ := hS'.ex
      simp only [h__law_take, i__law_take, q, runF, cellsOf, denS, den, R.st, R.b1, R.bA, R.tst, R.eo, R.part, P.isNil, tstS, dctD, op1, op2, opN, vals, give, T.val, Cell.val, Cell.own, boolOf, intOf, isaD, PyData.isInt, PyData.isBool, PyData.isTuple, PyData.isList, PyData.isStr, PyData.isDict,  RL.finish, retF, iosAt, outT, ioSlots, ioFrom, storeS, T.seal, sealAll, Tg.bind, callX, tmpIx, T.notF, R.cut, List.take_succ_cons, List.take_zero, List.take_nil, callR, argsOf, putIos, T.flat, flatO, flats, RL.flat, primD, prim1, prim2, lenD, intD, tupD, lstD, absD, maxD, minD, bl2, cmpD, eqOk, isNoneD, binD, addD, subD, modD, divD, negD, idxD, slcD, itrD, itemsD, sealR, enmD, zipD, rngD, parS, setS, appS, augS, augD, ownL,  List.getElem?_cons_zero, List.getElem?_cons_succ, List.getElem?_nil, List.set_cons_zero, List.set_cons_succ, List.length_cons, List.length_nil, List.replicate_succ, List.replicate_zero, List.cons_append, List.nil_append, Option.map_some, Option.map_none, Option.bind_some, Option.bind_none, Option.isSome_some, Option.isSome_none, if_true, if_false, List.contains_nil, Bool.false_eq_true, reduceCtorEq, Bool.not_true, Bool.not_false, List.nodup_nil, List.not_mem_nil, List.mem_cons, or_false, false_or, true_and, and_true, not_true_eq_false, not_false_eq_true, List.nodup_cons, Bool.true_and, Bool.and_true, List.all_nil, List.all_cons, Nat.reduceLT, Nat.reduceAdd, Nat.reduceSub, Nat.reduceLeDiff, Nat.zero_lt_succ, Nat.lt_add_one, wipeE, restore, List.map_cons, List.map_nil, Option.getD_some, Option.getD_none, Prod.mk.injEq, Option.some.injEq, implies_true, forall_const, true_or, or_true, ite_true, ite_false, forall_eq, forall_eq_or_imp, Nat.not_lt_zero, decide_true, decide_false, beq_self_eq_true, and_self, Nat.reduceEqDiff, List.getElem?_map, RL.shaped_int, RL.shaped_bool, RL.shaped_none, PyData.eqv, Int.reduceEq, Int.reduceNe, Int.reduceBEq, Int.reduceLT, Int.reduceLE, bne, false_imp_iff, true_imp_iff, Int.cast_ofNat_Int, Bool.not_eq_true, Bool.false_and, Bool.and_false, Bool.true_or, Bool.false_or, Bool.or_true, Bool.or_false, List.any_nil, List.any_cons]) ⟨d, rfl, by simpa using hd⟩
  subst hI
  exact ⟨es, d', hg, hl, all_get fun i e he => hP i e he, _, hS⟩

theorem two_loop (n : Nat) (rs ps ss : List PyData) (oN : Nat) (X Z : List PyData) (u : Int) (d : PyData) (L : List PyData) (h : ∀ x ∈ L, f9.φ [.tuple [.int (n : Int), .tuple rs], .tuple [.int (oN : Int), .tuple ps, x]] = .ret (.p (.int u)) []) :
    ∃ c7 c12, forGo (.nm 7) (denS (fun j => L18[j]?) (.cons (.asg (.nm 12) (.call 9 (.cons (.var 1) (.cons (.tup (.cons (.var 3) (.cons (.var 4) (.cons (.var 7) .nil)))) .nil)))) (.cons (.iff (.or (.not (.call 16 (.cons (.var 12) .nil))) (.cmp .NotEq (.var 12) (.var 9))) (.cons (.ret (.cst (.bool false))) .nil) .nil) .nil))) L [.pu (.list X), .pu (.tuple [.int (n : Int), .tuple rs]), .pu (.int (n : Int)), .pu (.int (oN : Int)), .pu (.tuple ps), .pu (.tuple ss), .pu (.list Z), .un, .un, .pu (.int u), .un, .ow d, .un, .un, .un, .un, .un, .un] = .nx [.pu (.list X), .pu (.tuple [.int (n : Int), .tuple rs]), .pu (.int (n : Int)), .pu (.int (oN : Int)), .pu (.tuple ps), .pu (.tuple ss), .pu (.list Z), c7, .un, .pu (.int u), .un, .ow d, c12, .un, .un, .un, .un, .un] := by
  have h_count_rests : L18[9]? = some f9 := rfl
  have i_count_rests : f9.io = [false, false] := rfl
  have h__law_is_integer : L18[16]? = some f16 := rfl
  have i__law_is_integer : f16.io = [false] := rfl
  obtain ⟨ρ', hf, c7, c12, hI⟩ := for_ex (t := (.nm 7)) (b := denS (fun j => L18[j]?) (.cons (.asg (.nm 12) (.call 9 (.cons (.var 1) (.cons (.tup (.cons (.var 3) (.cons (.var 4) (.cons (.var 7) .nil)))) .nil)))) (.cons (.iff (.or (.not (.call 16 (.cons (.var 12) .nil))) (.cmp .NotEq (.var 12) (.var 9))) (.cons (.ret (.cst (.bool false))) .nil) .nil) .nil))) (fun _ ρ => ∃ c7 c12, ρ = [.pu (.list X), .pu (.tuple [.int (n : Int), .tuple rs]), .pu (.int (n : Int)), .pu (.int (oN : Int)), .pu (.tuple ps), .pu (.tuple ss), .pu (.list Z), c7, .un, .pu (.int u), .un, .ow d, c12, .un, .un, .un, .un, .un]) L 0 [.pu (.list X), .pu (.tuple [.int (n : Int), .tuple rs]), .pu (.int (n : Int)), .pu (.int (oN : Int)), .pu (.tuple ps), .pu (.tuple ss), .pu (.list Z), .un, .un, .pu (.int u), .un, .ow d, .un, .un, .un, .un, .un, .un] (fun i x hx ρ hI => by
    obtain ⟨c7, c12, rfl⟩ := hI
    have q := h x (List.mem_of_getElem? hx)
    refine ⟨[.pu (.list X), .pu (.tuple [.int (n : Int), .tuple rs]), .pu (.int (n : Int)), .pu (.int (oN : Int)), .pu (.tuple ps), .pu (.tuple ss), .pu (.list Z), .pu x, .un, .pu (.int u), .un, .ow d, c12, .un, .un, .un, .un, .un], [.pu (.list X), .pu (.tuple [.int (n : Int), .tuple rs]), .pu (.int (n : Int)), .pu (.int (oN : Int)), .pu (.tuple ps), .pu (.tuple ss), .pu (.list Z), .pu x, .un, .pu (.int u), .un, .ow d, .pu (.int u), .un, .un, .un, .un, .un], rfl, ?_, _, _, rfl⟩
    generalize (n : Int) = N at *
    generalize (oN : Int) = O at *
    simp only [h_count_rests, i_count_rests, h__law_is_integer, i__law_is_integer, q, eq__law_is_integer, runF, cellsOf, denS, den, R.st, R.b1, R.bA, R.tst, R.eo, R.part, P.isNil, tstS, dctD, op1, op2, opN, vals, give, T.val, Cell.val, Cell.own, boolOf, intOf, isaD, PyData.isInt, PyData.isBool, PyData.isTuple, PyData.isList, PyData.isStr, PyData.isDict,  RL.finish, retF, iosAt, outT, ioSlots, ioFrom, storeS, T.seal, sealAll, Tg.bind, callX, tmpIx, T.notF, R.cut, List.take_succ_cons, List.take_zero, List.take_nil, callR, argsOf, putIos, T.flat, flatO, flats, RL.flat, primD, prim1, prim2, lenD, intD, tupD, lstD, absD, maxD, minD, bl2, cmpD, eqOk, isNoneD, binD, addD, subD, modD, divD, negD, idxD, slcD, itrD, itemsD, sealR, enmD, zipD, rngD, parS, setS, appS, augS, augD, ownL,  List.getElem?_cons_zero, List.getElem?_cons_succ, List.getElem?_nil, List.set_cons_zero, List.set_cons_succ, List.length_cons, List.length_nil, List.replicate_succ, List.replicate_zero, List.cons_append, List.nil_append, Option.map_some, Option.map_none, Option.bind_some, Option.bind_none, Option.isSome_some, Option.isSome_none, if_true, if_false, List.contains_nil, Bool.false_eq_true, reduceCtorEq, Bool.not_true, Bool.not_false, List.nodup_nil, List.not_mem_nil, List.mem_cons, or_false, false_or, true_and, and_true, not_true_eq_false, not_false_eq_true, List.nodup_cons, Bool.true_and, Bool.and_true, List.all_nil, List.all_cons, Nat.reduceLT, Nat.reduceAdd, Nat.reduceSub, Nat.reduceLeDiff, Nat.zero_lt_succ, Nat.lt_add_one, wipeE, restore, List.map_cons, List.map_nil, Option.getD_some, Option.getD_none, Prod.mk.injEq, Option.some.injEq, implies_true, forall_const, true_or, or_true, ite_true, ite_false, forall_eq, forall_eq_or_imp, Nat.not_lt_zero, decide_true, decide_false, beq_self_eq_true, and_self, Nat.reduceEqDiff, List.getElem?_map, RL.shaped_int, RL.shaped_bool, RL.shaped_none, PyData.eqv, Int.reduceEq, Int.reduceNe, Int.reduceBEq, Int.reduceLT, Int.reduceLE, bne, false_imp_iff, true_imp_iff, Int.cast_ofNat_Int, Bool.not_eq_true, Bool.false_and, Bool.and_false, Bool.true_or, Bool.false_or, Bool.or_true, Bool.or_false, List.any_nil, List.any_cons]) ⟨_, _, rfl⟩
  subst hI
  exact ⟨c7, c12, hf⟩

theorem wide_loop (n : Nat) (hn1 : 1 ≤ n) (hn : n ≤ 4) (rs : List PyData) (hR : Rules (n : Int) rs) (hl : rs.length ≤ 12) (oN : Nat) (hoN : oN < n) (ps ss : List PyData) (X Z : List PyData) (u w : Int) (c7 c12 : Cell) (d dr ot wd : PyData) (L M : Nat) (hL : L ≤ 50) (hM : M ≤ 50) (hw : Wide n (quietQ rs) oN (oN : Int) L u wd) (ho : Wide n (quietQ rs) oN (oN : Int) M w ot) :
    ∃ wd' c17, forGo (.nm 17) (denS (fun j => L18[j]?) (.cons (.asg (.nm 16) (.call 15 (.cons (.var 16) (.cons (.var 14) .nil)))) .nil)) (rangeD 0 3) [.pu (.list X), .pu (.tuple [.int (n : Int), .tuple rs]), .pu (.int (n : Int)), .pu (.int (oN : Int)), .pu (.tuple ps), .pu (.tuple ss), .pu (.list Z), c7, .un, .pu (.int u), .un, .ow d, c12, .pu dr, .pu ot, .pu (.int w), .pu wd, .un] = .nx [.pu (.list X), .pu (.tuple [.int (n : Int), .tuple rs]), .pu (.int (n : Int)), .pu (.int (oN : Int)), .pu (.tuple ps), .pu (.tuple ss), .pu (.list Z), c7, .un, .pu (.int u), .un, .ow d, c12, .pu dr, .pu ot, .pu (.int w), .pu wd', c17] ∧ Wide n (quietQ rs) oN (oN : Int) (L + M + M + M) (u * w * w * w) wd' := by
  have h__law_beside : L18[15]? = some f15 := rfl
  have i__law_beside : f15.io = [false, false] := rfl
  obtain ⟨w1, q1, W1⟩ := wide_beside n hn1 hn rs hR hl oN hoN (by omega) (by omega) hw ho
  obtain ⟨w2, q2, W2⟩ := wide_beside n hn1 hn rs hR hl oN hoN (by omega) (by omega) W1 ho
  obtain ⟨w3, q3, W3⟩ := wide_beside n hn1 hn rs hR hl oN hoN (by omega) (by omega) W2 ho
  refine ⟨w3, .pu (.int 2), ?_, W3⟩
  have e : rangeD 0 3 = [.int 0, .int 1, .int 2] := rfl
  rw [e]
  generalize (n : Int) = N at *
  generalize (oN : Int) = O at *
  simp only [forGo, h__law_beside, i__law_beside, q1, q2, q3, runF, cellsOf, denS, den, R.st, R.b1, R.bA, R.tst, R.eo, R.part, P.isNil, tstS, dctD, op1, op2, opN, vals, give, T.val, Cell.val, Cell.own, boolOf, intOf, isaD, PyData.isInt, PyData.isBool, PyData.isTuple, PyData.isList, PyData.isStr, PyData.isDict,  RL.finish, retF, iosAt, outT, ioSlots, ioFrom, storeS, T.seal, sealAll, Tg.bind, callX, tmpIx, T.notF, R.cut, List.take_succ_cons, List.take_zero, List.take_nil, callR, argsOf, putIos, T.flat, flatO, flats, RL.flat, primD, prim1, prim2, lenD, intD, tupD, lstD, absD, maxD, minD, bl2, cmpD, eqOk, isNoneD, binD, addD, subD, modD, divD, negD, idxD, slcD, itrD, itemsD, sealR, enmD, zipD, rngD, parS, setS, appS, augS, augD, ownL,  List.getElem?_cons_zero, List.getElem?_cons_succ, List.getElem?_nil, List.set_cons_zero, List.set_cons_succ, List.length_cons, List.length_nil, List.replicate_succ, List.replicate_zero, List.cons_append, List.nil_append, Option.map_some, Option.map_none, Option.bind_some, Option.bind_none, Option.isSome_some, Option.isSome_none, if_true, if_false, List.contains_nil, Bool.false_eq_true, reduceCtorEq, Bool.not_true, Bool.not_false, List.nodup_nil, List.not_mem_nil, List.mem_cons, or_false, false_or, true_and, and_true, not_true_eq_false, not_false_eq_true, List.nodup_cons, Bool.true_and, Bool.and_true, List.all_nil, List.all_cons, Nat.reduceLT, Nat.reduceAdd, Nat.reduceSub, Nat.reduceLeDiff, Nat.zero_lt_succ, Nat.lt_add_one, wipeE, restore, List.map_cons, List.map_nil, Option.getD_some, Option.getD_none, Prod.mk.injEq, Option.some.injEq, implies_true, forall_const, true_or, or_true, ite_true, ite_false, forall_eq, forall_eq_or_imp, Nat.not_lt_zero, decide_true, decide_false, beq_self_eq_true, and_self, Nat.reduceEqDiff, List.getElem?_map, RL.shaped_int, RL.shaped_bool, RL.shaped_none, PyData.eqv, Int.reduceEq, Int.reduceNe, Int.reduceBEq, Int.reduceLT, Int.reduceLE, bne, false_imp_iff, true_imp_iff, Int.cast_ofNat_Int, Bool.not_eq_true, Bool.false_and, Bool.and_false, Bool.true_or, Bool.false_or, Bool.or_true, Bool.or_false, List.any_nil, List.any_cons]

set_option maxHeartbeats 4000000 in
theorem plain : ∀ ns : List Int, ns.length ≤ 63 → f18.φ [.list (ns.map PyData.int)] = .ret (.p (.bool true)) [] := by
  intro ns hns
  have h_count_rests : L18[9]? = some f9 := rfl
  have i_count_rests : f9.io = [false, false] := rfl
  have h__law_source : L18[10]? = some f10 := rfl
  have i__law_source : f10.io = [false, false] := rfl
  have h__law_take : L18[11]? = some f11 := rfl
  have i__law_take : f11.io = [true, false] := rfl
  have h__law_any_book : L18[12]? = some f12 := rfl
  have i__law_any_book : f12.io = [true] := rfl
  have h__law_tree : L18[13]? = some f13 := rfl
  have i__law_tree : f13.io = [false, false, false, false] := rfl
  have h__law_fillings : L18[14]? = some f14 := rfl
  have i__law_fillings : f14.io = [false] := rfl
  have h__law_beside : L18[15]? = some f15 := rfl
  have i__law_beside : f15.io = [false, false] := rfl
  have h__law_is_integer : L18[16]? = some f16 := rfl
  have i__law_is_integer : f16.io = [false] := rfl
  have h__law_quiet : L18[17]? = some f17 := rfl
  have i__law_quiet : f17.io = [false, false] := rfl
  obtain ⟨d0, q0, S0⟩ := eq__law_source ns 0 (by decide) (by decide)
  obtain ⟨N, rs, d1, q1, hN1, hN4, hR, hl⟩ := eq__law_any_book d0 S0
  obtain ⟨n, rfl⟩ : ∃ n : Nat, N = (n : Int) := ⟨N.toNat, by omega⟩
  have hn1 : 1 ≤ n := by omega
  have hn : n ≤ 4 := by omega
  obtain ⟨most, hmo, m0, m1, mp⟩ : ∃ most : Int, L2.atI ([.int 8, .int 7, .int 4, .int 3] : List PyData) ((n : Int) - 1) = some (.int most) ∧ 1 ≤ most ∧ most ≤ 8 ∧ n ^ most.toNat ≤ 1000 := by
    have : n = 1 ∨ n = 2 ∨ n = 3 ∨ n = 4 := by omega
    rcases this with rfl | rfl | rfl | rfl <;> exact ⟨_, rfl, by decide, by decide, by decide⟩
  obtain ⟨O, ps, ss, q2, hO, hp, hpl, hsl, hs⟩ := eq__law_tree74 ns 1 (n : Int) most (by omega) (by omega) (by decide) (by decide) m0 (by omega) (by omega)
  obtain ⟨oN, rfl⟩ : ∃ n : Nat, O = (n : Int) := ⟨O.toNat, by omega⟩
  have hoN : oN < n := by omega
  obtain ⟨v, q3, hv⟩ := eq__law_fillings n hn ps.length (fun i hi => Nat.le_trans (Nat.pow_le_pow_right hn1 (by omega)) mp) (by omega)
  have g1 := fills_gen n hn rs ps ss oN (ns.map PyData.int)
  have g0 := trees_gen n rs ps ss oN (ns.map PyData.int) ((fills n ps.length).map tupN)
  have g2 := due_gen n rs ps ss oN (ns.map PyData.int) (((fills n ps.length).map tupN).map fun d => .tuple [.int (oN : Int), .tuple ps, d]) hR.ok hl hp (by omega)
  have hdue := due_len n rs ps oN hp
  have hFl : ((fills n ps.length).map tupN).length ≤ 1000 := by
    rw [List.length_map, fills_length]
    exact Nat.le_trans (Nat.pow_le_pow_right hn1 (by omega)) mp
  have hZl : (((fills n ps.length).map tupN).map fun d => PyData.tuple [.int (oN : Int), .tuple ps, d]).length ≤ 16777216 := by rw [List.length_map]; omega
  obtain ⟨d2, q4, S4⟩ := eq__law_source ns 41 (by decide) (by decide)
  generalize hZ : (((fills n ps.length).map tupN).map fun d => PyData.tuple [.int (oN : Int), .tuple ps, d]) = Z at *
  generalize hu : total n (quietQ rs) oN (parN ps) ps.length = u at hdue
  obtain ⟨es, d3, g3, hel, heb, t3, S3⟩ := draw_gen n hn1 hn rs ps ss oN (ns.map PyData.int) Z u (by omega) d2 S4
  have w1 : Wide n (quietQ rs) oN (oN : Int) ps.length u (.tuple [.int (oN : Int), .tuple ps, .tuple ss]) := ⟨ps, ss, rfl, hp, rfl, hsl, hs, hu⟩
  have w2 : Wide n (quietQ rs) oN (oN : Int) ps.length u (.tuple [.int (oN : Int), .tuple ps, .tuple es]) := ⟨ps, es, rfl, hp, rfl, hel, heb, hu⟩
  have c1 := wide_count n hn1 hn rs hR hl oN hoN (by omega) w1
  have c2 := wide_count n hn1 hn rs hR hl oN hoN (by omega) w2
  obtain ⟨c7, c12, f0⟩ := two_loop n rs ps ss oN (ns.map PyData.int) Z u d3 [.tuple ss, .tuple es] (fun x hx => by
    rcases List.mem_cons.mp hx with rfl | hx
    · exact c1
    · rw [List.mem_singleton] at hx; subst hx; exact c2)
  obtain ⟨O2, ps2, ss2, q5, hO2, hp2, hpl2, hsl2, hs2⟩ := eq__law_tree74 ns 10 (n : Int) 30 (by omega) (by omega) (by decide) (by decide) (by decide) (by decide) (by omega)
  obtain ⟨w, hw⟩ : ∃ w, total n (quietQ rs) oN (parN ps2) ps2.length = w := ⟨_, rfl⟩
  have w3 : Wide n (quietQ rs) oN (oN : Int) ps2.length w (.tuple [.int (oN : Int), .tuple ps2, .tuple ss2]) := ⟨ps2, ss2, rfl, hp2, rfl, hsl2, hs2, hw⟩
  have c3 := wide_count n hn1 hn rs hR hl oN hoN (by omega) w3
  have hwb := total_bnd n (quietQ rs) oN (parN_lt hp2) ps2.length
  rw [hw] at hwb
  have hw64 : w < 18446744073709551616 := by
    have h1 : n ^ ps2.length ≤ 4 ^ 30 := Nat.le_trans (Nat.pow_le_pow_left hn _) (Nat.pow_le_pow_right (by decide) (by omega))
    have h2 : (4 : Nat) ^ 30 = 1152921504606846976 := by decide
    omega
  obtain ⟨wd, c17, f1, W⟩ := wide_loop n hn1 hn rs hR hl oN hoN ps ss (ns.map PyData.int) Z u w c7 c12 d3 (.tuple [.int O2, .tuple ps2, .tuple ss2]) (.tuple [.int (oN : Int), .tuple ps2, .tuple ss2]) (.tuple [.int (oN : Int), .tuple ps, .tuple ss]) ps.length ps2.length (by omega) (by omega) w1 w3
  have c4 := wide_count n hn1 hn rs hR hl oN hoN (by omega) W
  have x1 : mulD (.int u) (.int w) = some (.p (.int (u * w))) := mul_small hwb.1 hw64
  have x2 : mulD (.int (u * w)) (.int w) = some (.p (.int (u * w * w))) := mul_small hwb.1 hw64
  have x3 : mulD (.int (u * w * w)) (.int w) = some (.p (.int (u * w * w * w))) := mul_small hwb.1 hw64
  have bm : L2.atI ([.int (n : Int), .tuple rs] : List PyData) (0 : Int) = some (.int (n : Int)) := rfl
  have d1e : L2.atI ([.int O2, .tuple ps2, .tuple ss2] : List PyData) (1 : Int) = some (.tuple ps2) := rfl
  have d2e : L2.atI ([.int O2, .tuple ps2, .tuple ss2] : List PyData) (2 : Int) = some (.tuple ss2) := rfl
  have hpz : ps.length ≤ 16777216 := by omega
  have hez : es.length ≤ 16777216 := by omega
  have rz : (if (-2 ^ 62 : Int) ≤ 3 ∧ (3 : Int) ≤ 2 ^ 24 then some (T.p (PyData.list (rangeD 0 3))) else none) = some (T.p (PyData.list (rangeD 0 3))) := if_pos (by decide)
  have hFz : ((fills n ps.length).map tupN).length ≤ 16777216 := by omega
  have hQz : ((Z.filter (quietT rs)).map id).length ≤ 16777216 := by
    rw [List.length_map]
    exact Nat.le_trans (List.length_filter_le _ _) hZl
  clear c1 c2 w1 w2 w3 W hw hu hZ mp hs2 hs heb
  generalize (fills n ps.length).map tupN = Fl at *
  generalize (Z.filter (quietT rs)).map id = Q at *
  generalize u * w * w * w = r3 at *
  generalize u * w * w = r2 at *
  generalize u * w = r1 at *
  generalize ns.map PyData.int = X at *
  generalize List.replicate ps.length (PyData.list (rangeD 0 (n : Int))) = Rp at *
  generalize (n : Int) = N at *
  generalize (oN : Int) = O at *
  simp only [h_count_rests, i_count_rests, h__law_source, i__law_source, h__law_take, i__law_take, h__law_any_book, i__law_any_book, h__law_tree, i__law_tree, h__law_fillings, i__law_fillings, h__law_beside, i__law_beside, h__law_is_integer, i__law_is_integer, h__law_quiet, i__law_quiet, runF, cellsOf, denS, den, R.st, R.b1, R.bA, R.tst, R.eo, R.part, P.isNil, tstS, dctD, op1, op2, opN, vals, give, T.val, Cell.val, Cell.own, boolOf, intOf, isaD, PyData.isInt, PyData.isBool, PyData.isTuple, PyData.isList, PyData.isStr, PyData.isDict,  RL.finish, retF, iosAt, outT, ioSlots, ioFrom, storeS, T.seal, sealAll, Tg.bind, callX, tmpIx, T.notF, R.cut, List.take_succ_cons, List.take_zero, List.take_nil, callR, argsOf, putIos, T.flat, flatO, flats, RL.flat, primD, prim1, prim2, lenD, intD, tupD, lstD, absD, maxD, minD, bl2, cmpD, eqOk, isNoneD, binD, addD, subD, modD, divD, negD, idxD, slcD, itrD, itemsD, sealR, enmD, zipD, rngD, parS, setS, appS, augS, augD, ownL,  List.getElem?_cons_zero, List.getElem?_cons_succ, List.getElem?_nil, List.set_cons_zero, List.set_cons_succ, List.length_cons, List.length_nil, List.replicate_succ, List.replicate_zero, List.cons_append, List.nil_append, Option.map_some, Option.map_none, Option.bind_some, Option.bind_none, Option.isSome_some, Option.isSome_none, if_true, if_false, List.contains_nil, Bool.false_eq_true, reduceCtorEq, Bool.not_true, Bool.not_false, List.nodup_nil, List.not_mem_nil, List.mem_cons, or_false, false_or, true_and, and_true, not_true_eq_false, not_false_eq_true, List.nodup_cons, Bool.true_and, Bool.and_true, List.all_nil, List.all_cons, Nat.reduceLT, Nat.reduceAdd, Nat.reduceSub, Nat.reduceLeDiff, Nat.zero_lt_succ, Nat.lt_add_one, wipeE, restore, List.map_cons, List.map_nil, Option.getD_some, Option.getD_none, Prod.mk.injEq, Option.some.injEq, implies_true, forall_const, true_or, or_true, ite_true, ite_false, forall_eq, forall_eq_or_imp, Nat.not_lt_zero, decide_true, decide_false, beq_self_eq_true, and_self, Nat.reduceEqDiff, List.getElem?_map, RL.shaped_int, RL.shaped_bool, RL.shaped_none, PyData.eqv, Int.reduceEq, Int.reduceNe, Int.reduceBEq, Int.reduceLT, Int.reduceLE, bne, false_imp_iff, true_imp_iff, Int.cast_ofNat_Int, Bool.not_eq_true, Bool.false_and, Bool.and_false, Bool.true_or, Bool.false_or, Bool.or_true, Bool.or_false, List.any_nil, List.any_cons] at g0 g1 g2 g3 f0 f1
  obtain ⟨v1, v2, v3, rfl, _, _⟩ := S0.ex
  obtain ⟨u1, u2, u3, rfl, _, _⟩ := S4.ex
  obtain ⟨z1, z2, z3, rfl, _, _⟩ := S3.ex
  rcases hv with rfl | rfl <;>
  simp only [f18, io18, s18, h_count_rests, i_count_rests, h__law_source, i__law_source, h__law_take, i__law_take, h__law_any_book, i__law_any_book, h__law_tree, i__law_tree, h__law_fillings, i__law_fillings, h__law_beside, i__law_beside, h__law_is_integer, i__law_is_integer, h__law_quiet, i__law_quiet, q0, q1, bm, hmo, q2, g1, q3, g0, hpz, hez, hFz, hZl, g2, hdue, hQz, q4, g3, f0, q5, d1e, d2e, c3, rz, f1, c4, x1, x2, x3, runF, cellsOf, denS, den, R.st, R.b1, R.bA, R.tst, R.eo, R.part, P.isNil, tstS, dctD, op1, op2, opN, vals, give, T.val, Cell.val, Cell.own, boolOf, intOf, isaD, PyData.isInt, PyData.isBool, PyData.isTuple, PyData.isList, PyData.isStr, PyData.isDict,  RL.finish, retF, iosAt, outT, ioSlots, ioFrom, storeS, T.seal, sealAll, Tg.bind, callX, tmpIx, T.notF, R.cut, List.take_succ_cons, List.take_zero, List.take_nil, callR, argsOf, putIos, T.flat, flatO, flats, RL.flat, primD, prim1, prim2, lenD, intD, tupD, lstD, absD, maxD, minD, bl2, cmpD, eqOk, isNoneD, binD, addD, subD, modD, divD, negD, idxD, slcD, itrD, itemsD, sealR, enmD, zipD, rngD, parS, setS, appS, augS, augD, ownL,  List.getElem?_cons_zero, List.getElem?_cons_succ, List.getElem?_nil, List.set_cons_zero, List.set_cons_succ, List.length_cons, List.length_nil, List.replicate_succ, List.replicate_zero, List.cons_append, List.nil_append, Option.map_some, Option.map_none, Option.bind_some, Option.bind_none, Option.isSome_some, Option.isSome_none, if_true, if_false, List.contains_nil, Bool.false_eq_true, reduceCtorEq, Bool.not_true, Bool.not_false, List.nodup_nil, List.not_mem_nil, List.mem_cons, or_false, false_or, true_and, and_true, not_true_eq_false, not_false_eq_true, List.nodup_cons, Bool.true_and, Bool.and_true, List.all_nil, List.all_cons, Nat.reduceLT, Nat.reduceAdd, Nat.reduceSub, Nat.reduceLeDiff, Nat.zero_lt_succ, Nat.lt_add_one, wipeE, restore, List.map_cons, List.map_nil, Option.getD_some, Option.getD_none, Prod.mk.injEq, Option.some.injEq, implies_true, forall_const, true_or, or_true, ite_true, ite_false, forall_eq, forall_eq_or_imp, Nat.not_lt_zero, decide_true, decide_false, beq_self_eq_true, and_self, Nat.reduceEqDiff, List.getElem?_map, RL.shaped_int, RL.shaped_bool, RL.shaped_none, PyData.eqv, Int.reduceEq, Int.reduceNe, Int.reduceBEq, Int.reduceLT, Int.reduceLE, bne, false_imp_iff, true_imp_iff, Int.cast_ofNat_Int, Bool.not_eq_true, Bool.false_and, Bool.and_false, Bool.true_or, Bool.false_or, Bool.or_true, Bool.or_false, List.any_nil, List.any_cons]
end K74

namespace K74
open PySem PySem.Spec L2 RL
theorem exc_mk {P : Program} {w : World} {K : PySem.W.Frag} {h : Heap} {mg : Str → Option Value} {x : Str} {C : Addr} (X : K.In h) (Gm : h.Ns mainGlobals mg) (a : PySem.W.nsIn K mainGlobals x = some (some (.ref C))) (e : PySem.W.excIn K C [.type "ValueError", .type "Exception", .type "BaseException", .type "object"] "ValueError.__new__" = true)
    (k : PySem.W.keepIn K (.ref C) = true) (b : PySem.W.subIn K (.ref C) (.type "BaseException") = some true) (t : PySem.W.typeIn K (.ref C) = some (.type "type")) : ExcGood ⟨P, w, K, mg⟩ x :=
  ⟨C, _, _, _, _, PySem.F.excBase_ValueError, e, PySem.W.mg_of X Gm a, k, fun M h hk => RL.raises_K b t M h hk⟩
theorem all_mk {P : Program} {w : World} {K : PySem.W.Frag} {h : Heap} {mg : Str → Option Value} {fa : Addr} (X : K.In h) (Gm : h.Ns mainGlobals mg) (hfa : mg "law" = some (.ref fa))
    {q0 : Addr} {od0 an0 : Option Addr} {sl0 : Array (Option Value)} {oc0 kV0 dc0 pm0 cd0 ct0 : Value}
    {q1 : Addr} {od1 an1 : Option Addr} {sl1 : Array (Option Value)} {oc1 kV1 dc1 pm1 cd1 ct1 : Value}
    {q2 : Addr} {od2 an2 : Option Addr} {sl2 : Array (Option Value)} {oc2 kV2 dc2 pm2 cd2 ct2 : Value}
    {q3 : Addr} {od3 an3 : Option Addr} {sl3 : Array (Option Value)} {oc3 kV3 dc3 pm3 cd3 ct3 : Value}
    {q4 : Addr} {od4 an4 : Option Addr} {sl4 : Array (Option Value)} {oc4 kV4 dc4 pm4 cd4 ct4 : Value}
    {q5 : Addr} {od5 an5 : Option Addr} {sl5 : Array (Option Value)} {oc5 kV5 dc5 pm5 cd5 ct5 : Value}
    {q6 : Addr} {od6 an6 : Option Addr} {sl6 : Array (Option Value)} {oc6 kV6 dc6 pm6 cd6 ct6 : Value}
    {q7 : Addr} {od7 an7 : Option Addr} {sl7 : Array (Option Value)} {oc7 kV7 dc7 pm7 cd7 ct7 : Value}
    {q8 : Addr} {od8 an8 : Option Addr} {sl8 : Array (Option Value)} {oc8 kV8 dc8 pm8 cd8 ct8 : Value}
    {q9 : Addr} {od9 an9 : Option Addr} {sl9 : Array (Option Value)} {oc9 kV9 dc9 pm9 cd9 ct9 : Value}
    {q10 : Addr} {od10 an10 : Option Addr} {sl10 : Array (Option Value)} {oc10 kV10 dc10 pm10 cd10 ct10 : Value}
    {q11 : Addr} {od11 an11 : Option Addr} {sl11 : Array (Option Value)} {oc11 kV11 dc11 pm11 cd11 ct11 : Value}
    {q12 : Addr} {od12 an12 : Option Addr} {sl12 : Array (Option Value)} {oc12 kV12 dc12 pm12 cd12 ct12 : Value}
    {q13 : Addr} {od13 an13 : Option Addr} {sl13 : Array (Option Value)} {oc13 kV13 dc13 pm13 cd13 ct13 : Value}
    {q14 : Addr} {od14 an14 : Option Addr} {sl14 : Array (Option Value)} {oc14 kV14 dc14 pm14 cd14 ct14 : Value}
    {q15 : Addr} {od15 an15 : Option Addr} {sl15 : Array (Option Value)} {oc15 kV15 dc15 pm15 cd15 ct15 : Value}
    {q16 : Addr} {od16 an16 : Option Addr} {sl16 : Array (Option Value)} {oc16 kV16 dc16 pm16 cd16 ct16 : Value}
    {q17 : Addr} {od17 an17 : Option Addr} {sl17 : Array (Option Value)} {oc17 kV17 dc17 pm17 cd17 ct17 : Value}
    {q18 : Addr} {od18 an18 : Option Addr} {sl18 : Array (Option Value)} {oc18 kV18 dc18 pm18 cd18 ct18 : Value}
    {tk0 : Tok}
    {tk1 : Tok}
    {tk2 : Tok}
    {xC0 : Addr}
    {xC1 : Addr}
    (a0 : PySem.W.nsIn K mainGlobals "is_integer" = some (some (.ref q0)))
    (l0 : K.lookup q0 = some ⟨oc0, od0, .func (PySem.W.fnOf "is_integer" "is_integer" (defArgs t0) (defBody t0) (defScope t0) .none kV0 dc0 pm0 an0 cd0 ct0), sl0⟩)
    (w0 : PySem.W.codeIn K cd0 "is_integer" = true)
    (k0 : PySem.W.keepIn K (.ref q0) = true)
    (a1 : PySem.W.nsIn K mainGlobals "is_below" = some (some (.ref q1)))
    (l1 : K.lookup q1 = some ⟨oc1, od1, .func (PySem.W.fnOf "is_below" "is_below" (defArgs t1) (defBody t1) (defScope t1) .none kV1 dc1 pm1 an1 cd1 ct1), sl1⟩)
    (w1 : PySem.W.codeIn K cd1 "is_below" = true)
    (k1 : PySem.W.keepIn K (.ref q1) = true)
    (a2 : PySem.W.nsIn K mainGlobals "is_rule" = some (some (.ref q2)))
    (l2 : K.lookup q2 = some ⟨oc2, od2, .func (PySem.W.fnOf "is_rule" "is_rule" (defArgs t2) (defBody t2) (defScope t2) .none kV2 dc2 pm2 an2 cd2 ct2), sl2⟩)
    (w2 : PySem.W.codeIn K cd2 "is_rule" = true)
    (k2 : PySem.W.keepIn K (.ref q2) = true)
    (a3 : PySem.W.nsIn K mainGlobals "is_book" = some (some (.ref q3)))
    (l3 : K.lookup q3 = some ⟨oc3, od3, .func (PySem.W.fnOf "is_book" "is_book" (defArgs t3) (defBody t3) (defScope t3) .none kV3 dc3 pm3 an3 cd3 ct3), sl3⟩)
    (w3 : PySem.W.codeIn K cd3 "is_book" = true)
    (k3 : PySem.W.keepIn K (.ref q3) = true)
    (a4 : PySem.W.nsIn K mainGlobals "need_book" = some (some (.ref q4)))
    (l4 : K.lookup q4 = some ⟨oc4, od4, .func (PySem.W.fnOf "need_book" "need_book" (defArgs t4) (defBody t4) (defScope t4) .none kV4 dc4 pm4 an4 cd4 ct4), sl4⟩)
    (w4 : PySem.W.codeIn K cd4 "need_book" = true)
    (k4 : PySem.W.keepIn K (.ref q4) = true)
    (a5 : PySem.W.nsIn K mainGlobals "is_state" = some (some (.ref q5)))
    (l5 : K.lookup q5 = some ⟨oc5, od5, .func (PySem.W.fnOf "is_state" "is_state" (defArgs t5) (defBody t5) (defScope t5) .none kV5 dc5 pm5 an5 cd5 ct5), sl5⟩)
    (w5 : PySem.W.codeIn K cd5 "is_state" = true)
    (k5 : PySem.W.keepIn K (.ref q5) = true)
    (a6 : PySem.W.nsIn K mainGlobals "firing_rules" = some (some (.ref q6)))
    (l6 : K.lookup q6 = some ⟨oc6, od6, .func (PySem.W.fnOf "firing_rules" "firing_rules" (defArgs t6) (defBody t6) (defScope t6) .none kV6 dc6 pm6 an6 cd6 ct6), sl6⟩)
    (w6 : PySem.W.codeIn K cd6 "firing_rules" = true)
    (k6 : PySem.W.keepIn K (.ref q6) = true)
    (a7 : PySem.W.nsIn K mainGlobals "is_tree_of" = some (some (.ref q7)))
    (l7 : K.lookup q7 = some ⟨oc7, od7, .func (PySem.W.fnOf "is_tree_of" "is_tree_of" (defArgs t7) (defBody t7) (defScope t7) .none kV7 dc7 pm7 an7 cd7 ct7), sl7⟩)
    (w7 : PySem.W.codeIn K cd7 "is_tree_of" = true)
    (k7 : PySem.W.keepIn K (.ref q7) = true)
    (a8 : PySem.W.nsIn K mainGlobals "need_tree" = some (some (.ref q8)))
    (l8 : K.lookup q8 = some ⟨oc8, od8, .func (PySem.W.fnOf "need_tree" "need_tree" (defArgs t8) (defBody t8) (defScope t8) .none kV8 dc8 pm8 an8 cd8 ct8), sl8⟩)
    (w8 : PySem.W.codeIn K cd8 "need_tree" = true)
    (k8 : PySem.W.keepIn K (.ref q8) = true)
    (a9 : PySem.W.nsIn K mainGlobals "count_rests" = some (some (.ref q9)))
    (l9 : K.lookup q9 = some ⟨oc9, od9, .func (PySem.W.fnOf "count_rests" "count_rests" (defArgs t9) (defBody t9) (defScope t9) .none kV9 dc9 pm9 an9 cd9 ct9), sl9⟩)
    (w9 : PySem.W.codeIn K cd9 "count_rests" = true)
    (k9 : PySem.W.keepIn K (.ref q9) = true)
    (a10 : PySem.W.nsIn K mainGlobals "_law_source" = some (some (.ref q10)))
    (l10 : K.lookup q10 = some ⟨oc10, od10, .func (PySem.W.fnOf "_law_source" "_law_source" (defArgs t10) (defBody t10) (defScope t10) .none kV10 dc10 pm10 an10 cd10 ct10), sl10⟩)
    (w10 : PySem.W.codeIn K cd10 "_law_source" = true)
    (k10 : PySem.W.keepIn K (.ref q10) = true)
    (a11 : PySem.W.nsIn K mainGlobals "_law_take" = some (some (.ref q11)))
    (l11 : K.lookup q11 = some ⟨oc11, od11, .func (PySem.W.fnOf "_law_take" "_law_take" (defArgs t11) (defBody t11) (defScope t11) .none kV11 dc11 pm11 an11 cd11 ct11), sl11⟩)
    (w11 : PySem.W.codeIn K cd11 "_law_take" = true)
    (k11 : PySem.W.keepIn K (.ref q11) = true)
    (a12 : PySem.W.nsIn K mainGlobals "_law_any_book" = some (some (.ref q12)))
    (l12 : K.lookup q12 = some ⟨oc12, od12, .func (PySem.W.fnOf "_law_any_book" "_law_any_book" (defArgs t12) (defBody t12) (defScope t12) .none kV12 dc12 pm12 an12 cd12 ct12), sl12⟩)
    (w12 : PySem.W.codeIn K cd12 "_law_any_book" = true)
    (k12 : PySem.W.keepIn K (.ref q12) = true)
    (a13 : PySem.W.nsIn K mainGlobals "_law_tree" = some (some (.ref q13)))
    (l13 : K.lookup q13 = some ⟨oc13, od13, .func (PySem.W.fnOf "_law_tree" "_law_tree" (defArgs t13) (defBody t13) (defScope t13) .none kV13 dc13 pm13 an13 cd13 ct13), sl13⟩)
    (w13 : PySem.W.codeIn K cd13 "_law_tree" = true)
    (k13 : PySem.W.keepIn K (.ref q13) = true)
    (a14 : PySem.W.nsIn K mainGlobals "_law_fillings" = some (some (.ref q14)))
    (l14 : K.lookup q14 = some ⟨oc14, od14, .func (PySem.W.fnOf "_law_fillings" "_law_fillings" (defArgs t14) (defBody t14) (defScope t14) .none kV14 dc14 pm14 an14 cd14 ct14), sl14⟩)
    (w14 : PySem.W.codeIn K cd14 "_law_fillings" = true)
    (k14 : PySem.W.keepIn K (.ref q14) = true)
    (a15 : PySem.W.nsIn K mainGlobals "_law_beside" = some (some (.ref q15)))
    (l15 : K.lookup q15 = some ⟨oc15, od15, .func (PySem.W.fnOf "_law_beside" "_law_beside" (defArgs t15) (defBody t15) (defScope t15) .none kV15 dc15 pm15 an15 cd15 ct15), sl15⟩)
    (w15 : PySem.W.codeIn K cd15 "_law_beside" = true)
    (k15 : PySem.W.keepIn K (.ref q15) = true)
    (a16 : PySem.W.nsIn K mainGlobals "_law_is_integer" = some (some (.ref q16)))
    (l16 : K.lookup q16 = some ⟨oc16, od16, .func (PySem.W.fnOf "_law_is_integer" "_law_is_integer" (defArgs t16) (defBody t16) (defScope t16) .none kV16 dc16 pm16 an16 cd16 ct16), sl16⟩)
    (w16 : PySem.W.codeIn K cd16 "_law_is_integer" = true)
    (k16 : PySem.W.keepIn K (.ref q16) = true)
    (a17 : PySem.W.nsIn K mainGlobals "_law_quiet" = some (some (.ref q17)))
    (l17 : K.lookup q17 = some ⟨oc17, od17, .func (PySem.W.fnOf "_law_quiet" "_law_quiet" (defArgs t17) (defBody t17) (defScope t17) .none kV17 dc17 pm17 an17 cd17 ct17), sl17⟩)
    (w17 : PySem.W.codeIn K cd17 "_law_quiet" = true)
    (k17 : PySem.W.keepIn K (.ref q17) = true)
    (a18 : PySem.W.nsIn K mainGlobals "law" = some (some (.ref q18)))
    (l18 : K.lookup q18 = some ⟨oc18, od18, .func (PySem.W.fnOf "law" "law" (defArgs t18) (defBody t18) (defScope t18) .none kV18 dc18 pm18 an18 cd18 ct18), sl18⟩)
    (w18 : PySem.W.codeIn K cd18 "law" = true)
    (k18 : PySem.W.keepIn K (.ref q18) = true)
    (z0 : PySem.W.nsIn K mainGlobals "len" = some none)
    (z1 : PySem.W.nsIn K mainGlobals "int" = some none)
    (z2 : PySem.W.nsIn K mainGlobals "tuple" = some none)
    (z3 : PySem.W.nsIn K mainGlobals "list" = some none)
    (z4 : PySem.W.nsIn K mainGlobals "all" = some none)
    (z5 : PySem.W.nsIn K mainGlobals "any" = some none)
    (z6 : PySem.W.nsIn K mainGlobals "max" = some none)
    (z7 : PySem.W.nsIn K mainGlobals "min" = some none)
    (z8 : PySem.W.nsIn K mainGlobals "sum" = some none)
    (z9 : PySem.W.nsIn K mainGlobals "abs" = some none)
    (z10 : PySem.W.nsIn K mainGlobals "sorted" = some none)
    (z11 : PySem.W.nsIn K mainGlobals "str" = some none)
    (z12 : PySem.W.nsIn K mainGlobals "isinstance" = some none)
    (z13 : PySem.W.nsIn K mainGlobals "set" = some none)
    (z14 : PySem.W.nsIn K mainGlobals "range" = some none)
    (z15 : PySem.W.nsIn K mainGlobals "enumerate" = some none)
    (z16 : PySem.W.nsIn K mainGlobals "zip" = some none)
    (z17 : PySem.W.nsIn K mainGlobals "bool" = some none)
    (z18 : PySem.W.nsIn K mainGlobals "dict" = some none)
    (z19 : PySem.W.nsIn K mainGlobals "reversed" = some none)
    (z20 : PySem.W.nsIn K mainGlobals "divmod" = some none)
    (v0 : PySem.W.nsIn K mainGlobals "MOST_STATES" = some (some (.int 4 tk0)))
    (v1 : PySem.W.nsIn K mainGlobals "MOST_RULES" = some (some (.int 12 tk1)))
    (v2 : PySem.W.nsIn K mainGlobals "MOST_NODES" = some (some (.int 250 tk2)))
    (xa0 : PySem.W.nsIn K mainGlobals "BadBook" = some (some (.ref xC0)))
    (xe0 : PySem.W.excIn K xC0 [.type "ValueError", .type "Exception", .type "BaseException", .type "object"] "ValueError.__new__" = true)
    (xk0 : PySem.W.keepIn K (.ref xC0) = true)
    (xb0 : PySem.W.subIn K (.ref xC0) (.type "BaseException") = some true)
    (xt0 : PySem.W.typeIn K (.ref xC0) = some (.type "type"))
    (xa1 : PySem.W.nsIn K mainGlobals "BadTree" = some (some (.ref xC1)))
    (xe1 : PySem.W.excIn K xC1 [.type "ValueError", .type "Exception", .type "BaseException", .type "object"] "ValueError.__new__" = true)
    (xk1 : PySem.W.keepIn K (.ref xC1) = true)
    (xb1 : PySem.W.subIn K (.ref xC1) (.type "BaseException") = some true)
    (xt1 : PySem.W.typeIn K (.ref xC1) = some (.type "type"))
    : ∃ fd : FuncData, (∀ (s : Shared) (u : Value), BindsTo s fd ⟨[u], []⟩ [("script", u)]) ∧ ∀ base : Heap, K.In base → base.Ns mainGlobals mg → FnOk P w K mg base (L2.CX P w) (lvl 18) fa fd ["script"] (spLaw K) := by
  have e := hfa.symm.trans (PySem.W.mg_of X Gm a18)
  cases e
  have T : Txt ⟨P, w, K, mg⟩ := {
    blt := fun x hx => by
      simp only [blts, List.mem_cons, List.mem_nil_iff, or_false] at hx
      rcases hx with rfl | rfl | rfl | rfl | rfl | rfl | rfl | rfl | rfl | rfl | rfl | rfl | rfl | rfl | rfl | rfl | rfl | rfl | rfl | rfl | rfl
      · exact PySem.W.mg_none_of X Gm z0
      · exact PySem.W.mg_none_of X Gm z1
      · exact PySem.W.mg_none_of X Gm z2
      · exact PySem.W.mg_none_of X Gm z3
      · exact PySem.W.mg_none_of X Gm z4
      · exact PySem.W.mg_none_of X Gm z5
      · exact PySem.W.mg_none_of X Gm z6
      · exact PySem.W.mg_none_of X Gm z7
      · exact PySem.W.mg_none_of X Gm z8
      · exact PySem.W.mg_none_of X Gm z9
      · exact PySem.W.mg_none_of X Gm z10
      · exact PySem.W.mg_none_of X Gm z11
      · exact PySem.W.mg_none_of X Gm z12
      · exact PySem.W.mg_none_of X Gm z13
      · exact PySem.W.mg_none_of X Gm z14
      · exact PySem.W.mg_none_of X Gm z15
      · exact PySem.W.mg_none_of X Gm z16
      · exact PySem.W.mg_none_of X Gm z17
      · exact PySem.W.mg_none_of X Gm z18
      · exact PySem.W.mg_none_of X Gm z19
      · exact PySem.W.mg_none_of X Gm z20
    glo := fun p hp => by
      simp only [consts, List.mem_cons, List.mem_nil_iff, or_false] at hp
      rcases hp with rfl | rfl | rfl
      · exact ⟨_, PySem.W.mg_of X Gm v0⟩
      · exact ⟨_, PySem.W.mg_of X Gm v1⟩
      · exact ⟨_, PySem.W.mg_of X Gm v2⟩
    exc := fun x hx => by
      simp only [excs, List.mem_cons, List.mem_nil_iff, or_false] at hx
      rcases hx with rfl | rfl
      · exact exc_mk X Gm xa0 xe0 xk0 xb0 xt0
      · exact exc_mk X Gm xa1 xe1 xk1 xb1 xt1
    sub := fun t ht => by
      simp only [subs, List.mem_cons, List.mem_nil_iff, or_false] at ht
    d0 := ⟨_, _, PySem.W.mg_of X Gm a0, fun_mk (st := t0) l0 w0 k0⟩
    d1 := ⟨_, _, PySem.W.mg_of X Gm a1, fun_mk (st := t1) l1 w1 k1⟩
    d2 := ⟨_, _, PySem.W.mg_of X Gm a2, fun_mk (st := t2) l2 w2 k2⟩
    d3 := ⟨_, _, PySem.W.mg_of X Gm a3, fun_mk (st := t3) l3 w3 k3⟩
    d4 := ⟨_, _, PySem.W.mg_of X Gm a4, fun_mk (st := t4) l4 w4 k4⟩
    d5 := ⟨_, _, PySem.W.mg_of X Gm a5, fun_mk (st := t5) l5 w5 k5⟩
    d6 := ⟨_, _, PySem.W.mg_of X Gm a6, fun_mk (st := t6) l6 w6 k6⟩
    d7 := ⟨_, _, PySem.W.mg_of X Gm a7, fun_mk (st := t7) l7 w7 k7⟩
    d8 := ⟨_, _, PySem.W.mg_of X Gm a8, fun_mk (st := t8) l8 w8 k8⟩
    d9 := ⟨_, _, PySem.W.mg_of X Gm a9, fun_mk (st := t9) l9 w9 k9⟩
    d10 := ⟨_, _, PySem.W.mg_of X Gm a10, fun_mk (st := t10) l10 w10 k10⟩
    d11 := ⟨_, _, PySem.W.mg_of X Gm a11, fun_mk (st := t11) l11 w11 k11⟩
    d12 := ⟨_, _, PySem.W.mg_of X Gm a12, fun_mk (st := t12) l12 w12 k12⟩
    d13 := ⟨_, _, PySem.W.mg_of X Gm a13, fun_mk (st := t13) l13 w13 k13⟩
    d14 := ⟨_, _, PySem.W.mg_of X Gm a14, fun_mk (st := t14) l14 w14 k14⟩
    d15 := ⟨_, _, PySem.W.mg_of X Gm a15, fun_mk (st := t15) l15 w15 k15⟩
    d16 := ⟨_, _, PySem.W.mg_of X Gm a16, fun_mk (st := t16) l16 w16 k16⟩
    d17 := ⟨_, _, PySem.W.mg_of X Gm a17, fun_mk (st := t17) l17 w17 k17⟩
    d18 := ⟨_, _, PySem.W.mg_of X Gm a18, fun_mk (st := t18) l18 w18 k18⟩
  }
  have F := fun_mk (st := t18) l18 w18 k18
  exact ⟨_, fun s v => .of_eq rfl, fun base _ _ => RL.FnOk.imp (h18 (base := base) T F) fun vs H Q E s => law_sp (G := ⟨P, w, K, mg⟩) rfl plain s⟩
end K74
open PySem PySem.W PyProof.Rows
set_option maxHeartbeats 0 in
theorem PySem.Challenge.cw_onerest_k74_count_rests_holds : PySem.Challenge.rw_onerest_k74_count_rests.Holds := by
  w_on; o_law; k_head; (case hw => w_witness2)
  k_fill
  refine L2.walk_of (l := PySem.Challenge.rw_onerest_k74_count_rests) (n := 63) (k := 19) (x := "script") (CX := fun w => L2.CX PySem.Challenge.rw_onerest_k74_count_rests.prog w) (sp := fun w => RL.spLaw _) rfl (by decide) rfl ⟨rfl, by decide, by decide⟩ (fun w h Y => PySem.W.kIn_of Y) ?F (fun w H a ns hl hO hS => ⟨a, ns, rfl, hS, hl, fun _ => rfl⟩) (fun w H s e s2 h => RL.cx_none h)
  case F =>
    intro w mg fa h KX G hmg
    refine' K74.all_mk KX G hmg ?a0 ?l0 ?w0 ?k0 ?a1 ?l1 ?w1 ?k1 ?a2 ?l2 ?w2 ?k2 ?a3 ?l3 ?w3 ?k3 ?a4 ?l4 ?w4 ?k4 ?a5 ?l5 ?w5 ?k5 ?a6 ?l6 ?w6 ?k6 ?a7 ?l7 ?w7 ?k7 ?a8 ?l8 ?w8 ?k8 ?a9 ?l9 ?w9 ?k9 ?a10 ?l10 ?w10 ?k10 ?a11 ?l11 ?w11 ?k11 ?a12 ?l12 ?w12 ?k12 ?a13 ?l13 ?w13 ?k13 ?a14 ?l14 ?w14 ?k14 ?a15 ?l15 ?w15 ?k15 ?a16 ?l16 ?w16 ?k16 ?a17 ?l17 ?w17 ?k17 ?a18 ?l18 ?w18 ?k18 ?z0 ?z1 ?z2 ?z3 ?z4 ?z5 ?z6 ?z7 ?z8 ?z9 ?z10 ?z11 ?z12 ?z13 ?z14 ?z15 ?z16 ?z17 ?z18 ?z19 ?z20 ?v0 ?v1 ?v2 ?xa0 ?xe0 ?xk0 ?xb0 ?xt0 ?xa1 ?xe1 ?xk1 ?xb1 ?xt1
    (case a0 => k_is)
    (case l0 => k_is)
    (case w0 => k_is)
    (case k0 => k_is)
    (case a1 => k_is)
    (case l1 => k_is)
    (case w1 => k_is)
    (case k1 => k_is)
    (case a2 => k_is)
    (case l2 => k_is)
    (case w2 => k_is)
    (case k2 => k_is)
    (case a3 => k_is)
    (case l3 => k_is)
    (case w3 => k_is)
    (case k3 => k_is)
    (case a4 => k_is)
    (case l4 => k_is)
    (case w4 => k_is)
    (case k4 => k_is)
    (case a5 => k_is)
    (case l5 => k_is)
    (case w5 => k_is)
    (case k5 => k_is)
    (case a6 => k_is)
    (case l6 => k_is)
    (case w6 => k_is)
    (case k6 => k_is)
    (case a7 => k_is)
    (case l7 => k_is)
    (case w7 => k_is)
    (case k7 => k_is)
    (case a8 => k_is)
    (case l8 => k_is)
    (case w8 => k_is)
    (case k8 => k_is)
    (case a9 => k_is)
    (case l9 => k_is)
    (case w9 => k_is)
    (case k9 => k_is)
    (case a10 => k_is)
    (case l10 => k_is)
    (case w10 => k_is)
    (case k10 => k_is)
    (case a11 => k_is)
    (case l11 => k_is)
    (case w11 => k_is)
    (case k11 => k_is)
    (case a12 => k_is)
    (case l12 => k_is)
    (case w12 => k_is)
    (case k12 => k_is)
    (case a13 => k_is)
    (case l13 => k_is)
    (case w13 => k_is)
    (case k13 => k_is)
    (case a14 => k_is)
    (case l14 => k_is)
    (case w14 => k_is)
    (case k14 => k_is)
    (case a15 => k_is)
    (case l15 => k_is)
    (case w15 => k_is)
    (case k15 => k_is)
    (case a16 => k_is)
    (case l16 => k_is)
    (case w16 => k_is)
    (case k16 => k_is)
    (case a17 => k_is)
    (case l17 => k_is)
    (case w17 => k_is)
    (case k17 => k_is)
    (case a18 => k_is)
    (case l18 => k_is)
    (case w18 => k_is)
    (case k18 => k_is)
    (case z0 => k_is)
    (case z1 => k_is)
    (case z2 => k_is)
    (case z3 => k_is)
    (case z4 => k_is)
    (case z5 => k_is)
    (case z6 => k_is)
    (case z7 => k_is)
    (case z8 => k_is)
    (case z9 => k_is)
    (case z10 => k_is)
    (case z11 => k_is)
    (case z12 => k_is)
    (case z13 => k_is)
    (case z14 => k_is)
    (case z15 => k_is)
    (case z16 => k_is)
    (case z17 => k_is)
    (case z18 => k_is)
    (case z19 => k_is)
    (case z20 => k_is)
    (case v0 => k_is)
    (case v1 => k_is)
    (case v2 => k_is)
    (case xa0 => k_is)
    (case xe0 => k_exc)
    (case xk0 => k_is)
    (case xb0 => k_is)
    (case xt0 => k_is)
    (case xa1 => k_is)
    (case xe1 => k_exc)
    (case xk1 => k_is)
    (case xb1 => k_is)
    (case xt1 => k_is)
