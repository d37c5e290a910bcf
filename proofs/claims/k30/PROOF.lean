import PyProof.Rows.All
import Wide.All
import OpenK.AllK
import Wide.FinOn
import HandS.ForMost
import HandS.Exc
import HandS.ExcOwn
import HandS.WordsExc
import HandS.TryMany
import HandS.Flow
import HandS.Lambda
import HandS.EndTab
import HandS.Small
import HandS.TupAny
import HandS.Deep
import HandS.Wide
import HandS.Conv
import KE.KNestM
import HandS.Style
import KE.DataMinMax
import KE.DatumOrd
import KE.SortData
import HandS.GenOver
import HandS.Text
import PyProof.Rows.RowBridgeK
import KE.DataCmp
import HandS.IsInst
import HandS.AnyAll
import KE.SortKeyHeap
import HandS.Set
import PyProof.TupleOfSeq
import HandS.Sort
import HandS.JoinGen
import PyProof.WalksMore
import PyProof.SumAny
import HandS.SetKeys
import HandS.Iter
import HandS.ListItems
import HandS.SetFor
import HandS.Replace
import PyProof.StrOps2
import HandS.SetBool
import KE.KExcSuper
import HandS.ExcInit
import HandS.Nested
import HandS.ExcIs
import HandS.ExcField
import HandS.Rev
import PyProof.Rows.StrRules
import PyProof.CollectStr
import PyProof.ListRange
import PyProof.StrLawsTight
import KE.KTupSum
import KE.GoesMore
import HandS.StrMore
import PyProof.GenCompT
import HandS.ReplaceLit
import PyProof.Rows.StrStrike
import HandS.Flt
import HandS.Dict
import HandS.DictComp
import HandS.GenList
import KE.KIntText
import PySem.Challenge.RW_indexhall_k30_refusals_apart
set_option Elab.async false
set_option linter.all false
set_option maxRecDepth 100000
/-! A second reading of defs over the hand layer: plain functions on plain data with a small heap of their own; each rule once. -/
namespace L2
open PySem
theorem PE.imp {X : Cx} {e : Expr} {t t' : TE} (p : PE X e t) (i : ∀ σ H Q, t' σ H Q → t σ H Q) : PE X e t' := ⟨fun pins s σ H Q I q => p.run pins s σ H Q I (i σ H Q q)⟩
theorem PT.imp {X : Cx} {e : Expr} {t t' : TT} (p : PT X e t) (i : ∀ σ H Q, t' σ H Q → t σ H Q) : PT X e t' := ⟨fun pins s σ H Q I q => p.run pins s σ H Q I (i σ H Q q)⟩
theorem PW.imp {X : Cx} {e : Expr} {t t' : TT} (p : PW X e t) (i : ∀ σ H Q, t' σ H Q → t σ H Q) : PW X e t' := ⟨fun wh pins s σ H Q I q => p.run wh pins s σ H Q I (i σ H Q q)⟩
theorem PA.imp {X : Cx} {e : List Expr} {t t' : TA} (p : PA X e t) (i : ∀ σ H Q, t' σ H Q → t σ H Q) : PA X e t' := ⟨fun pos pins s σ H Q I q => p.run pos pins s σ H Q I (i σ H Q q)⟩
theorem PS.imp {X : Cx} {e : Stmt} {t t' : TS} (p : PS X e t) (i : ∀ D σ H, t' D σ H → t D σ H) : PS X e t' := ⟨fun pins s σ H D I q => p.run pins s σ H D I (i D σ H q)⟩
theorem PSs.imp {X : Cx} {e : List Stmt} {t t' : TS} (p : PSs X e t) (i : ∀ D σ H, t' D σ H → t D σ H) : PSs X e t' := ⟨fun pins s σ H D I q => p.run pins s σ H D I (i D σ H q)⟩
end L2
namespace Den
open PySem L2

/-- values as plain data: tuples by what is in them; ref n: the n-th object of the small heap; rol: a list that nobody changes -/
inductive W where
  | non | bl (b : Bool) | int (i : Int) | str (s : List Nat) | tup (xs : List W) | rol (xs : List W) | ref (n : Nat)
  deriving Inhabited
/-- objects of the small heap -/
inductive O where
  | lst (xs : List W)
  | dic (kvs : List (W × W))
  | dik (kvs : List (W × W))
  | ins (c : Nat) (fs : List (Str × W))
  deriving Inhabited
/-- what the text's own classes and tables are called -/
structure Gx where
  T : List (Addr × Str)
  ca : Nat → Option Addr
  ci : Nat → Option Addr

/-! ### values and data -/
mutual
def VR (K : PySem.W.Frag) (H : Hp) (ρ : List Addr) : V → W → Prop
  | v, .non => v = .non
  | v, .bl b => v = .bl b
  | v, .int i => v = .int i
  | v, .str s => v = .str ⟨s.toArray⟩
  | v, .tup xs => ∃ a vs, v = .ref a ∧ SqT K H a vs ∧ VRs K H ρ vs xs
  | v, .rol xs => ∃ a vs, v = .ref a ∧ ((Rd H a (.lst vs) ∧ a ∉ ρ) ∨ ∀ H' : Hp, SqL K H' a vs) ∧ VRs K H ρ vs xs
  | v, .ref n => ∃ a, v = .ref a ∧ ρ[n]? = some a
def VRs (K : PySem.W.Frag) (H : Hp) (ρ : List Addr) : List V → List W → Prop
  | vs, [] => vs = []
  | vs, x :: xs => ∃ v r, vs = v :: r ∧ VR K H ρ v x ∧ VRs K H ρ r xs
end
def KRs (K : PySem.W.Frag) (H : Hp) (ρ : List Addr) : List (Key × V) → List (W × W) → Prop
  | ps, [] => ps = []
  | ps, (k, x) :: xs => ∃ q v r, ps = (q, v) :: r ∧ VR K H ρ (kV q) k ∧ VR K H ρ v x ∧ KRs K H ρ r xs
def FRs (K : PySem.W.Frag) (H : Hp) (ρ : List Addr) : List (Str × V) → List (Str × W) → Prop
  | ps, [] => ps = []
  | ps, (k, x) :: xs => ∃ v r, ps = (k, v) :: r ∧ VR K H ρ v x ∧ FRs K H ρ r xs
/-- what object stands at a -/
def OR (K : PySem.W.Frag) (G : Gx) (H : Hp) (ρ : List Addr) (a : Addr) : O → Prop
  | .lst xs => ∃ vs, H a = some (.lst vs) ∧ VRs K H ρ vs xs
  | .dic kvs => ∃ ps, H a = some (.dK ps) ∧ KRs K H ρ ps kvs
  | .dik kvs => ∃ o ps, H a = some (.frz o (.dK ps)) ∧ KRs K H ρ ps kvs
  | .ins c fs => ∃ C dx ps, G.ci c = some C ∧ H a = some (.ins C dx ps) ∧ FRs K H ρ ps fs
/-- what may be in the small heap -/
def isM : HO → Bool
  | .lst _ => true
  | .dK _ => true
  | .frz _ (.dK _) => true
  | .ins _ _ _ => true
  | _ => false
def isTbl : HO → Bool
  | .tbl _ => true
  | _ => false
structure HR (K : PySem.W.Frag) (G : Gx) (H : Hp) (ρ : List Addr) (h : List O) : Prop where
  len : ρ.length = h.length
  nd : ρ.Nodup
  ob : ∀ (n : Nat) (a : Addr) (o : O), ρ[n]? = some a → h[n]? = some o → OR K G H ρ a o
  tb : LamX.Tabs G.T H
/-- the slots -/
abbrev Env := List (Option W)
structure SR (K : PySem.W.Frag) (H : Hp) (ρ : List Addr) (σ : L2.St) (e : Env) : Prop where
  len : σ.length = e.length
  at_ : ∀ (i : Nat) (w : W), e[i]? = some (some w) → ∃ v, σ[i]? = some (some v) ∧ VR K H ρ v w
/-- all that is not ours stays; what is new was not there -/
structure Ext (H : Hp) (ρ : List Addr) (H' : Hp) (ρ' : List Addr) : Prop where
  fr : ∀ a o, H a = some o → isTbl o = false → a ∉ ρ → H' a = some o
  pre : ρ <+: ρ'
  new : ∀ a, a ∈ ρ' → a ∉ ρ → H a = none ∨ ∃ o, H a = some o ∧ isTbl o = true
  mu : ∀ a, a ∈ ρ → ∃ o, H a = some o ∧ isM o = true
  lk : ∀ a o u, H a = some (.frz o u) → H' a = some (.frz o u)

theorem OR.mut {K : PySem.W.Frag} {G : Gx} {H : Hp} {ρ : List Addr} {a : Addr} {o : O} (x : OR K G H ρ a o) : ∃ u, H a = some u ∧ isM u = true := by
  cases o with
  | lst xs => obtain ⟨vs, e, _⟩ := x; exact ⟨_, e, rfl⟩
  | dic xs => obtain ⟨vs, e, _⟩ := x; exact ⟨_, e, rfl⟩
  | dik xs => obtain ⟨o, vs, e, _⟩ := x; exact ⟨_, e, rfl⟩
  | ins c fs => obtain ⟨C, dx, ps, _, e, _⟩ := x; exact ⟨_, e, rfl⟩
section
variable {K : PySem.W.Frag} {G : Gx} {H H' H1 H2 : Hp} {ρ ρ' ρ1 ρ2 : List Addr} {h : List O}
theorem HR.mu (r : HR K G H ρ h) : ∀ a, a ∈ ρ → ∃ o, H a = some o ∧ isM o = true := fun a ha => by
  obtain ⟨n, hn, e⟩ := List.getElem_of_mem ha
  have hn2 : n < h.length := by rw [← r.len]; exact hn
  exact (r.ob n a h[n] (by rw [List.getElem?_eq_getElem hn, e]) (List.getElem?_eq_getElem hn2)).mut
theorem Ext.refl (r : HR K G H ρ h) : Ext H ρ H ρ := ⟨fun _ _ e _ _ => e, List.prefix_rfl, fun _ a b => absurd a b, r.mu, fun _ _ _ e => e⟩
theorem Ext.trans (a : Ext H ρ H1 ρ1) (b : Ext H1 ρ1 H2 ρ2) : Ext H ρ H2 ρ2 where
  fr := fun x o e t n => by
    refine b.fr x o (a.fr x o e t n) t fun hx => ?_
    rcases a.new x hx n with z | ⟨u, z, q⟩
    · rw [e] at z; cases z
    · rw [e] at z; cases z; rw [t] at q; cases q
  pre := a.pre.trans b.pre
  new := fun x hx n => by
    by_cases h1 : x ∈ ρ1
    · exact a.new x h1 n
    · cases q : H x with
      | none => exact .inl rfl
      | some o =>
        cases t : isTbl o with
        | true => exact .inr ⟨o, rfl, t⟩
        | false =>
          have z := a.fr x o q t n
          rcases b.new x hx h1 with z2 | ⟨u, z2, q2⟩
          · rw [z] at z2; cases z2
          · rw [z] at z2; cases z2; rw [t] at q2; cases q2
  mu := a.mu
  lk := fun x o u e => b.lk x o u (a.lk x o u e)
theorem pre_get {α : Type} {l l' : List α} (h : l <+: l') {n : Nat} {a : α} (e : l[n]? = some a) : l'[n]? = some a := by
  obtain ⟨t, rfl⟩ := h
  obtain ⟨hn, e2⟩ := List.getElem?_eq_some_iff.mp e
  rw [List.getElem?_append_left hn]
  exact e
theorem Ext.tup (x : Ext H ρ H' ρ') {a : Addr} {vs : List V} (h : SqT K H a vs) : SqT K H' a vs := by
  have key : ∀ o, H a = some o → isM o = false → isTbl o = false → H' a = some o := fun o e m t =>
    x.fr a o e t fun ha => by
      obtain ⟨u, e2, m2⟩ := x.mu a ha
      rw [e] at e2; cases e2; rw [m] at m2; cases m2
  rcases h with (h | ⟨o, h⟩) | h
  · exact .inl (.inl (key _ h rfl rfl))
  · exact .inl (.inr ⟨o, key _ h rfl rfl⟩)
  · exact .inr h
theorem Ext.rol (x : Ext H ρ H' ρ') {a : Addr} {vs : List V} (h : (Rd H a (.lst vs) ∧ a ∉ ρ) ∨ ∀ H' : Hp, SqL K H' a vs) : (Rd H' a (.lst vs) ∧ a ∉ ρ') ∨ ∀ H' : Hp, SqL K H' a vs := by
  have key : ∀ o, H a = some o → isTbl o = false → a ∉ ρ → H' a = some o ∧ a ∉ ρ' := fun o e t n => ⟨x.fr a o e t n, fun ha => by
    rcases x.new a ha n with z | ⟨u, z, q⟩
    · rw [e] at z; cases z
    · rw [e] at z; cases z; rw [t] at q; cases q⟩
  rcases h with ⟨h | ⟨o, h⟩, n⟩ | h
  · obtain ⟨a1, a2⟩ := key _ h rfl n
    exact .inl ⟨.inl a1, a2⟩
  · obtain ⟨a1, a2⟩ := key _ h rfl n
    exact .inl ⟨.inr ⟨o, a1⟩, a2⟩
  · exact .inr h
mutual
theorem VR.mono (x : Ext H ρ H' ρ') : ∀ {v : V} {w : W}, VR K H ρ v w → VR K H' ρ' v w
  | v, .non, h => h
  | v, .bl _, h => h
  | v, .int _, h => h
  | v, .str _, h => h
  | v, .tup xs, h => by
    unfold VR at h ⊢
    obtain ⟨a, vs, e, q, r⟩ := h
    exact ⟨a, vs, e, x.tup q, VRs.mono x r⟩
  | v, .rol xs, h => by
    unfold VR at h ⊢
    obtain ⟨a, vs, e, q, r⟩ := h
    exact ⟨a, vs, e, x.rol q, VRs.mono x r⟩
  | v, .ref n, h => by
    unfold VR at h ⊢
    obtain ⟨a, e, q⟩ := h
    exact ⟨a, e, pre_get x.pre q⟩
theorem VRs.mono (x : Ext H ρ H' ρ') : ∀ {vs : List V} {ws : List W}, VRs K H ρ vs ws → VRs K H' ρ' vs ws
  | vs, [], h => h
  | vs, w :: ws, h => by
    unfold VRs at h ⊢
    obtain ⟨v, r, e, q, z⟩ := h
    exact ⟨v, r, e, VR.mono x q, VRs.mono x z⟩
end
theorem KRs.mono (x : Ext H ρ H' ρ') : ∀ {ps : List (Key × V)} {ws : List (W × W)}, KRs K H ρ ps ws → KRs K H' ρ' ps ws
  | vs, [], h => h
  | vs, (k, w) :: ws, h => by
    unfold KRs at h ⊢
    obtain ⟨q, v, r, e, a, b, c⟩ := h
    exact ⟨q, v, r, e, a.mono x, b.mono x, KRs.mono x c⟩
theorem FRs.mono (x : Ext H ρ H' ρ') : ∀ {ps : List (Str × V)} {ws : List (Str × W)}, FRs K H ρ ps ws → FRs K H' ρ' ps ws
  | vs, [], h => h
  | vs, (k, w) :: ws, h => by
    unfold FRs at h ⊢
    obtain ⟨v, r, e, b, c⟩ := h
    exact ⟨v, r, e, b.mono x, FRs.mono x c⟩
theorem SR.mono {σ : L2.St} {e : Env} (x : Ext H ρ H' ρ') (s : SR K H ρ σ e) : SR K H' ρ' σ e := ⟨s.len, fun i w h => by
  obtain ⟨v, a, b⟩ := s.at_ i w h
  exact ⟨v, a, b.mono x⟩⟩
theorem SR.set {σ : L2.St} {e : Env} {v : V} {w : W} (s : SR K H ρ σ e) (i : Nat) (r : VR K H ρ v w) : SR K H ρ (σ.set i (some v)) (e.set i (some w)) := by
  refine ⟨by rw [List.length_set, List.length_set]; exact s.len, fun j x hx => ?_⟩
  by_cases hj : i = j
  · subst hj
    by_cases hl : i < e.length
    · rw [List.getElem?_set_self hl] at hx
      cases hx
      exact ⟨v, List.getElem?_set_self (by rw [s.len]; exact hl), r⟩
    · rw [List.getElem?_eq_none (by simpa using hl)] at hx; cases hx
  · rw [List.getElem?_set_ne hj] at hx
    rw [List.getElem?_set_ne hj]
    exact s.at_ j x hx
theorem VRs.length : ∀ {vs : List V} {ws : List W}, VRs K H ρ vs ws → vs.length = ws.length
  | vs, [], h => by unfold VRs at h; rw [h]; rfl
  | vs, w :: ws, h => by
    unfold VRs at h
    obtain ⟨v, r, e, _, z⟩ := h
    rw [e, List.length_cons, List.length_cons, VRs.length z]
theorem VRs.get : ∀ {vs : List V} {ws : List W} {i : Nat} {w : W}, VRs K H ρ vs ws → ws[i]? = some w → ∃ v, vs[i]? = some v ∧ VR K H ρ v w
  | vs, [], i, w, _, e => by simp at e
  | vs, x :: ws, 0, w, h, e => by
    unfold VRs at h
    obtain ⟨v, r, rfl, q, _⟩ := h
    simp at e
    subst e
    exact ⟨v, rfl, q⟩
  | vs, x :: ws, i + 1, w, h, e => by
    unfold VRs at h
    obtain ⟨v, r, rfl, _, z⟩ := h
    obtain ⟨u, a, b⟩ := VRs.get (i := i) z (by simpa using e)
    exact ⟨u, by simpa using a, b⟩
theorem VRs.set {v : V} {w : W} (q : VR K H ρ v w) : ∀ {vs : List V} {ws : List W} (i : Nat), VRs K H ρ vs ws → VRs K H ρ (vs.set i v) (ws.set i w)
  | vs, [], i, h => by unfold VRs at h ⊢; rw [h]; rfl
  | vs, x :: ws, 0, h => by
    unfold VRs at h
    obtain ⟨u, r, rfl, _, z⟩ := h
    show VRs K H ρ (v :: r) (w :: ws)
    unfold VRs
    exact ⟨v, r, rfl, q, z⟩
  | vs, x :: ws, i + 1, h => by
    unfold VRs at h
    obtain ⟨u, r, rfl, q', z⟩ := h
    show VRs K H ρ (u :: r.set i v) (x :: ws.set i w)
    unfold VRs
    exact ⟨u, _, rfl, q', VRs.set q i z⟩
theorem VRs.append : ∀ {vs us : List V} {ws xs : List W}, VRs K H ρ vs ws → VRs K H ρ us xs → VRs K H ρ (vs ++ us) (ws ++ xs)
  | vs, us, [], xs, h, h2 => by unfold VRs at h; rw [h]; exact h2
  | vs, us, x :: ws, xs, h, h2 => by
    unfold VRs at h
    obtain ⟨u, r, rfl, q', z⟩ := h
    show VRs K H ρ (u :: (r ++ us)) (x :: (ws ++ xs))
    unfold VRs
    exact ⟨u, _, rfl, q', VRs.append z h2⟩
theorem VRs.one {v : V} {w : W} (h : VR K H ρ v w) : VRs K H ρ [v] [w] := by
  unfold VRs
  exact ⟨v, [], rfl, h, by unfold VRs; rfl⟩
theorem VRs.nil : VRs K H ρ [] [] := by unfold VRs; rfl
theorem VRs.cons {v : V} {w : W} {vs : List V} {ws : List W} (h : VR K H ρ v w) (r : VRs K H ρ vs ws) : VRs K H ρ (v :: vs) (w :: ws) := by
  unfold VRs
  exact ⟨v, vs, rfl, h, r⟩
theorem VRs.take : ∀ {vs : List V} {ws : List W} (n : Nat), VRs K H ρ vs ws → VRs K H ρ (vs.take n) (ws.take n)
  | vs, ws, 0, h => by rw [List.take_zero, List.take_zero]; exact .nil
  | vs, [], n + 1, h => by unfold VRs at h; rw [h]; exact .nil
  | vs, x :: ws, n + 1, h => by
    unfold VRs at h
    obtain ⟨u, r, rfl, q', z⟩ := h
    exact .cons q' (VRs.take n z)
theorem VRs.drop : ∀ {vs : List V} {ws : List W} (n : Nat), VRs K H ρ vs ws → VRs K H ρ (vs.drop n) (ws.drop n)
  | vs, ws, 0, h => h
  | vs, [], n + 1, h => by unfold VRs at h; rw [h]; exact .nil
  | vs, x :: ws, n + 1, h => by
    unfold VRs at h
    obtain ⟨u, r, rfl, q', z⟩ := h
    exact VRs.drop n z
theorem OR.mono {a : Addr} {o : O} (x : Ext H ρ H' ρ') (s : H' a = H a) (h : OR K G H ρ a o) : OR K G H' ρ' a o := by
  cases o with
  | lst xs =>
    obtain ⟨vs, e, r⟩ := h
    exact ⟨vs, s.trans e, r.mono x⟩
  | dic xs =>
    obtain ⟨vs, e, r⟩ := h
    exact ⟨vs, s.trans e, r.mono x⟩
  | dik xs =>
    obtain ⟨o, vs, e, r⟩ := h
    exact ⟨o, vs, s.trans e, r.mono x⟩
  | ins c fs =>
    obtain ⟨C, dx, ps, c, e, r⟩ := h
    exact ⟨C, dx, ps, c, s.trans e, r.mono x⟩
theorem tabs_upd {T : List (Addr × Str)} {a : Addr} {o : HO} (h : LamX.Tabs T H) (n : H a = none ∨ ∃ u, H a = some u ∧ isM u = true) : LamX.Tabs T (upd H a o) := fun p hp => by
  obtain ⟨ps, e1, e2, e3⟩ := h p hp
  have ne : ∀ b u, H b = some u → isM u = false → b ≠ a := fun b u e m z => by
    subst z
    rcases n with n | ⟨u2, n, m2⟩
    · rw [e] at n; cases n
    · rw [e] at n; cases n; rw [m] at m2; cases m2
  refine ⟨ps, by rw [upd_ne (ne _ _ e1 rfl)]; exact e1, e2, fun pos cv hc => ?_⟩
  obtain ⟨c, e, q⟩ := e3 pos cv hc
  exact ⟨c, e, by rw [upd_ne (ne _ _ q rfl)]; exact q⟩
/-- a new object that is not ours (a tuple, an iterator ..) -/
theorem HR.other {p : Addr} {o : HO} (r : HR K G H ρ h) (hp : H p = none) : HR K G (upd H p o) ρ h ∧ Ext H ρ (upd H p o) ρ := by
  have x : Ext H ρ (upd H p o) ρ := ⟨fun a u e _ _ => by rw [upd_ne (ne_of_none e hp)]; exact e, List.prefix_rfl, fun _ a b => absurd a b, r.mu, fun a o u e => by rw [upd_ne (ne_of_none e hp)]; exact e⟩
  refine ⟨⟨r.len, r.nd, fun n a u e1 e2 => (r.ob n a u e1 e2).mono x ?_, tabs_upd r.tb (.inl hp)⟩, x⟩
  obtain ⟨w, hw, _⟩ := (r.ob n a u e1 e2).mut
  exact upd_ne (ne_of_none hw hp)
theorem app_get {α : Type} {l : List α} {x y : α} {n : Nat} (h : (l ++ [x])[n]? = some y) : l[n]? = some y ∨ (n = l.length ∧ y = x) := by
  by_cases hn : n < l.length
  · rw [List.getElem?_append_left hn] at h; exact .inl h
  · by_cases h2 : n = l.length
    · subst h2; simp at h; exact .inr ⟨rfl, h.symm⟩
    · rw [List.getElem?_eq_none (by simp; omega)] at h; cases h
/-- a new object of ours -/
theorem HR.new {p : Addr} {o : HO} {u : O} (r : HR K G H ρ h) (hp : H p = none) (hm : isM o = true) (hu : Ext H ρ (upd H p o) (ρ ++ [p]) → OR K G (upd H p o) (ρ ++ [p]) p u) :
    HR K G (upd H p o) (ρ ++ [p]) (h ++ [u]) ∧ Ext H ρ (upd H p o) (ρ ++ [p]) := by
  have np : p ∉ ρ := fun z => by
    obtain ⟨w, hw, _⟩ := r.mu p z
    rw [hp] at hw; cases hw
  have x : Ext H ρ (upd H p o) (ρ ++ [p]) := ⟨fun a u e _ _ => by rw [upd_ne (ne_of_none e hp)]; exact e, List.prefix_append _ _, fun a ha n => by
    rcases List.mem_append.mp ha with z | z
    · exact absurd z n
    · have e : a = p := by simpa using z
      rw [e]; exact .inl hp, r.mu, fun a o u e => by rw [upd_ne (ne_of_none e hp)]; exact e⟩
  refine ⟨⟨by simp [r.len], ?_, fun n a w e1 e2 => ?_, tabs_upd r.tb (.inl hp)⟩, x⟩
  · rw [List.nodup_append]
    refine ⟨r.nd, by simp, fun a ha b hb => ?_⟩
    have e : b = p := by simpa using hb
    subst e
    exact fun z => np (z ▸ ha)
  · rcases app_get e1 with z1 | ⟨z1, z2⟩
    · have hn : n < ρ.length := (List.getElem?_eq_some_iff.mp z1).1
      rw [List.getElem?_append_left (by rw [← r.len]; exact hn)] at e2
      have q := r.ob n a w z1 e2
      obtain ⟨w', hw, _⟩ := q.mut
      exact q.mono x (upd_ne (ne_of_none hw hp))
    · rcases app_get e2 with y1 | ⟨y1, y2⟩
      · have hn : n < h.length := (List.getElem?_eq_some_iff.mp y1).1
        rw [← r.len] at hn
        omega
      · rw [z2, y2]; exact hu x
/-- not a locked dict -/
def NoDik (h : List O) (n : Nat) : Prop := ∀ kvs, h[n]? ≠ some (.dik kvs)
theorem HR.nofrz {n : Nat} {a : Addr} (r : HR K G H ρ h) (e1 : ρ[n]? = some a) (nk : NoDik h n) (o' : Obj) (u' : HO) : H a ≠ some (.frz o' u') := fun e => by
  have hn : n < h.length := by rw [← r.len]; exact (List.getElem?_eq_some_iff.mp e1).1
  have q := r.ob n a h[n] e1 (List.getElem?_eq_getElem hn)
  cases hh : h[n] with
  | lst xs => rw [hh] at q; obtain ⟨vs, z, _⟩ := q; rw [e] at z; cases z
  | dic xs => rw [hh] at q; obtain ⟨vs, z, _⟩ := q; rw [e] at z; cases z
  | dik xs => exact nk xs (by rw [List.getElem?_eq_getElem hn, hh])
  | ins c fs => rw [hh] at q; obtain ⟨C, dx, ps, _, z, _⟩ := q; rw [e] at z; cases z
/-- an object of ours is changed -/
theorem HR.write {n : Nat} {a : Addr} {o : HO} {u : O} (r : HR K G H ρ h) (e1 : ρ[n]? = some a) (nk : NoDik h n) (hm : isM o = true) (hu : Ext H ρ (upd H a o) ρ → OR K G (upd H a o) ρ a u) :
    HR K G (upd H a o) ρ (h.set n u) ∧ Ext H ρ (upd H a o) ρ := by
  have ha : a ∈ ρ := List.mem_of_getElem? e1
  have x : Ext H ρ (upd H a o) ρ := ⟨fun b u e _ n => by rw [upd_ne (fun z => n (by rw [z]; exact ha))]; exact e, List.prefix_rfl, fun _ a b => absurd a b, r.mu, fun b o' u' e => by
    rw [upd_ne (fun z => r.nofrz e1 nk o' u' (by rw [← z]; exact e))]; exact e⟩
  refine ⟨⟨by rw [List.length_set]; exact r.len, r.nd, fun m b w f1 f2 => ?_, tabs_upd r.tb (.inr (r.mu a ha))⟩, x⟩
  by_cases hmn : n = m
  · subst hmn
    rw [e1] at f1
    cases f1
    have hn : n < h.length := by rw [← r.len]; exact (List.getElem?_eq_some_iff.mp e1).1
    rw [List.getElem?_set_self hn] at f2
    cases f2
    exact hu x
  · rw [List.getElem?_set_ne hmn] at f2
    have nb : b ≠ a := fun z => by
      rw [z] at f1
      obtain ⟨h1, q1⟩ := List.getElem?_eq_some_iff.mp e1
      obtain ⟨h2, q2⟩ := List.getElem?_eq_some_iff.mp f1
      exact hmn ((List.getElem_inj r.nd).mp (q1.trans q2.symm))
    exact (r.ob m b w f1 f2).mono x (upd_ne nb)
end

/-! ### what comes out -/
inductive Out (α : Type) where
  | ok (a : α) (h : List O)
  | exc (c : Nat) (p : Option W) (h : List O)
  | bad
def Out.bnd {α β : Type} (o : Out α) (f : α → List O → Out β) : Out β :=
  match o with
  | .ok a h => f a h
  | .exc c p h => .exc c p h
  | .bad => .bad
@[simp] theorem Out.bnd_ok {α β : Type} (a : α) (h : List O) (f : α → List O → Out β) : (Out.ok a h).bnd f = f a h := rfl
abbrev M (α : Type) := Env → List O → Out α
/-- an exception: its class by name, its field 'place' -/
def ER (K : PySem.W.Frag) (G : Gx) (H : Hp) (ρ : List Addr) (cls : Value) (d : Option Addr) (c : Nat) (p : Option W) : Prop :=
  ∃ C, G.ca c = some C ∧ cls = .ref C ∧ match p with
    | none => d = none
    | some w => ∃ dd v, d = some dd ∧ H dd = some (.xd [("place", v)]) ∧ VR K H ρ v w
def Post (K : PySem.W.Frag) (G : Gx) (E : XK) {α β : Type} (Rel : Hp → List Addr → β → α → Prop) (Q : β → Hp → Prop) (H : Hp) (ρ : List Addr) : Out α → Prop
  | .ok w h' => ∀ ρ' H' v, Ext H ρ H' ρ' → HR K G H' ρ' h' → Rel H' ρ' v w → Q v H'
  | .exc c p h' => ∀ ρ' H' cls d, Ext H ρ H' ρ' → HR K G H' ρ' h' → ER K G H' ρ' cls d c p → E cls d H'
  | .bad => False
section
variable {K : PySem.W.Frag} {G : Gx} {H H' H1 H2 : Hp} {ρ ρ' ρ1 ρ2 : List Addr} {h : List O} {E : XK}
theorem Post.ext {α β : Type} {Rel : Hp → List Addr → β → α → Prop} {Q : β → Hp → Prop} {o : Out α} (x : Ext H ρ H1 ρ1) (p : Post K G E Rel Q H ρ o) : Post K G E Rel Q H1 ρ1 o := by
  cases o with
  | ok w h' => exact fun ρ' H' v x' r q => p ρ' H' v (x.trans x') r q
  | exc c q h' => exact fun ρ' H' cls d x' r q => p ρ' H' cls d (x.trans x') r q
  | bad => exact p
theorem Post.bnd {α β γ δ : Type} {Rel : Hp → List Addr → β → α → Prop} {Rel2 : Hp → List Addr → δ → γ → Prop} {Q : δ → Hp → Prop} {o : Out α} {f : α → List O → Out γ} (p : Post K G E Rel2 Q H ρ (o.bnd f)) :
    Post K G E Rel (fun v H1 => ∃ ρ1 h1 w, Ext H ρ H1 ρ1 ∧ HR K G H1 ρ1 h1 ∧ Rel H1 ρ1 v w ∧ Post K G E Rel2 Q H1 ρ1 (f w h1)) H ρ o := by
  cases o with
  | ok w h' => exact fun ρ' H' v x r q => ⟨ρ', h', w, x, r, q, Post.ext x p⟩
  | exc c q h' => exact p
  | bad => exact p
theorem Post.imp {α β : Type} {Rel : Hp → List Addr → β → α → Prop} {Q Q' : β → Hp → Prop} {o : Out α} (p : Post K G E Rel Q H ρ o) (i : ∀ v H', Q v H' → Q' v H') : Post K G E Rel Q' H ρ o := by
  cases o with
  | ok w h' => exact fun ρ' H' v x r q => i _ _ (p ρ' H' v x r q)
  | exc c q h' => exact p
  | bad => exact p
end
abbrev VRel (K : PySem.W.Frag) : Hp → List Addr → V → W → Prop := fun H ρ v w => VR K H ρ v w
abbrev VsRel (K : PySem.W.Frag) : Hp → List Addr → List V → List W → Prop := fun H ρ v w => VRs K H ρ v w
abbrev BRel : Hp → List Addr → Bool → Bool → Prop := fun _ _ a b => a = b
/-- an expression's reading by its plain function -/
def rd (K : PySem.W.Frag) (G : Gx) (Wx : WX) {α β : Type} (Rel : Hp → List Addr → β → α → Prop) (m : M α) : L2.St → Hp → (β → Hp → Prop) → Prop := fun σ H Q =>
  ∃ ρ e h, HR K G H ρ h ∧ SR K H ρ σ e ∧ Post K G (fun cls d H' => Wx cls d σ H') Rel Q H ρ (m e h)
/-- e is read by m -/
def SE (G : Gx) (X : Cx) (e : Expr) (m : M W) : Prop := ∀ Wx, Takes X Wx → PE X e (rd X.K G Wx (VRel X.K) m)
def ST (G : Gx) (X : Cx) (e : Expr) (m : M Bool) : Prop := ∀ Wx, Takes X Wx → PT X e (rd X.K G Wx BRel m)
def SW (G : Gx) (X : Cx) (e : Expr) (m : M Bool) : Prop := ∀ Wx, Takes X Wx → PW X e (rd X.K G Wx BRel m)
def SA (G : Gx) (X : Cx) (es : List Expr) (m : M (List W)) : Prop := ∀ Wx, Takes X Wx → PA X es (rd X.K G Wx (VsRel X.K) m)
/-- go on behind a part -/
theorem rd.bnd {K : PySem.W.Frag} {G : Gx} {Wx : WX} {α β γ δ : Type} {Rel : Hp → List Addr → β → α → Prop} {Rel2 : Hp → List Addr → δ → γ → Prop} {m : M α} {f : Env → α → List O → Out γ} {σ : L2.St} {H : Hp} {Q : δ → Hp → Prop}
    {Q' : β → Hp → Prop} (p : rd K G Wx Rel2 (fun e h => (m e h).bnd (f e)) σ H Q)
    (k : ∀ H0 ρ0 e, SR K H0 ρ0 σ e → ∀ v H1 ρ1 h1 w, Ext H0 ρ0 H1 ρ1 → HR K G H1 ρ1 h1 → Rel H1 ρ1 v w → Post K G (fun cls d H' => Wx cls d σ H') Rel2 Q H1 ρ1 (f e w h1) → Q' v H1) :
    rd K G Wx Rel m σ H Q' := by
  obtain ⟨ρ, e, h, hr, sr, p⟩ := p
  refine ⟨ρ, e, h, hr, sr, (Post.bnd (Rel := Rel) p).imp fun v H1 q => ?_⟩
  obtain ⟨ρ1, h1, w, x, r1, q1, p1⟩ := q
  exact k H ρ e sr v H1 ρ1 h1 w x r1 q1 p1
end Den
set_option maxRecDepth 100000
/-! Expressions: names, constants, operators, comparisons, tests, displays, subscripts, slices, calls. -/
namespace Den
open PySem L2
/-- sizes that we let pass -/
abbrev lim : Nat := 1000000
theorem lim_size {n : Nat} (h : n ≤ lim) : n ≤ sizeLine := by rw [PySem.sizeLine_eq]; exact Nat.le_trans h (by decide)

/-! ### names, constants -/
def mVar (i : Nat) : M W := fun e h => match e[i]? with
  | some (some w) => .ok w h
  | _ => .bad
def mC (w : W) : M W := fun _ h => .ok w h
section
variable {G : Gx} {X : Cx}
theorem se_var (i : Nat) {x : Str} {pos : Pos} (hN : X.N[i]? = some x := by rfl) (hv : Vis X.env.scope x := by first | exact Or.inl rfl | exact Or.inr (Or.inl rfl) | exact Or.inr (Or.inr rfl)) (hd : (x == ("__debug__" : Str)) = false := by decide)
    (hcd : (x == ("__classdict__" : Str)) = false := by decide) : SE G X (.Name x pos) (mVar i) := fun Wx tk => (pe_var hN hv hd hcd).imp fun σ H Q p => by
  obtain ⟨ρ, e, h, hr, sr, p⟩ := p
  unfold mVar at p
  split at p
  · rename_i w hw
    obtain ⟨v, hv, r⟩ := sr.at_ _ _ hw
    exact ⟨v, hv, p ρ H v (Ext.refl hr) hr r⟩
  · exact p.elim
theorem rd_c {K : PySem.W.Frag} {Wx : WX} {v : V} {w : W} {σ : L2.St} {H : Hp} {Q : VK} (hw : ∀ H ρ, VR K H ρ v w) (p : rd K G Wx (VRel K) (mC w) σ H Q) : Q v H := by
  obtain ⟨ρ, e, h, hr, sr, p⟩ := p
  exact p ρ H v (Ext.refl hr) hr (hw _ _)
theorem se_int {i : Int} {j : Nat} {pos : Pos} : SE G X (.Constant (.int i) j pos) (mC (.int i)) := fun Wx tk => pe_int.imp fun σ H Q p => rd_c (v := .int i) (fun _ _ => by unfold VR; rfl) p
theorem se_bl {b : Bool} {j : Nat} {pos : Pos} : SE G X (.Constant (.bool b) j pos) (mC (.bl b)) := fun Wx tk => pe_bl.imp fun σ H Q p => rd_c (v := .bl b) (fun _ _ => by unfold VR; rfl) p
theorem se_str {x : Str} {l : List Nat} {j : Nat} {pos : Pos} (hx : x = ⟨l.toArray⟩ := by decide +kernel) : SE G X (.Constant (.str x) j pos) (mC (.str l)) := fun Wx tk => pe_str.imp fun σ H Q p => rd_c (v := .str x) (fun _ _ => by unfold VR; rw [hx]) p
/-- a module's constant -/
theorem se_glob {x : Str} {v : V} {u : Value} {w : W} {pos : Pos} (hg : Gl X x) (hm : X.mg x = some u) (r : RelV v u) (hw : ∀ H ρ, VR X.K H ρ v w) (hd : (x == ("__debug__" : Str)) = false := by decide) : SE G X (.Name x pos) (mC w) :=
  fun Wx tk => (pe_glob hg hm r hd).imp fun σ H Q p => rd_c hw p
end

/-! ### two operands -/
def mOp (op : W → W → List O → Out W) (a b : M W) : M W := fun e h => (a e h).bnd fun x h => (b e h).bnd fun y h => op x y h
def mUn (op : W → List O → Out W) (a : M W) : M W := fun e h => (a e h).bnd fun x h => op x h
/-- r serves op -/
def Serves2 (K : PySem.W.Frag) (G : Gx) (op : W → W → List O → Out W) (r : R2) : Prop := ∀ (E : XK) (H : Hp) (ρ : List Addr) (h : List O) (x y : V) (wx wy : W) (Q : VK),
  HR K G H ρ h → VR K H ρ x wx → VR K H ρ y wy → Post K G E (VRel K) Q H ρ (op wx wy h) → r x y H Q
def Serves1 (K : PySem.W.Frag) (G : Gx) (op : W → List O → Out W) (r : V → Hp → VK → Prop) : Prop := ∀ (E : XK) (H : Hp) (ρ : List Addr) (h : List O) (x : V) (wx : W) (Q : VK),
  HR K G H ρ h → VR K H ρ x wx → Post K G E (VRel K) Q H ρ (op wx h) → r x H Q
def OpS (G : Gx) (X : Cx) (f : Value → Value → Sem Value) (op : W → W → List O → Out W) : Prop := ∃ r, OpR X f r ∧ Serves2 X.K G op r
def UnS (G : Gx) (X : Cx) (f : Value → Sem Value) (op : W → List O → Out W) : Prop := ∃ r, UnR X f r ∧ Serves1 X.K G op r
section
variable {G : Gx} {X : Cx} {a b c : Expr} {ma mb mc : M W} {op : W → W → List O → Out W} {pos : Pos}
/-- the reading of two parts and an operation -/
theorem rd_op {K : PySem.W.Frag} {Wx : WX} {r : R2} (s : Serves2 K G op r) {σ : L2.St} {H : Hp} {Q : VK} (p : rd K G Wx (VRel K) (mOp op ma mb) σ H Q) : tOp r (rd K G Wx (VRel K) ma) (rd K G Wx (VRel K) mb) σ H Q := by
  refine rd.bnd (Rel := VRel K) p fun H0 ρ0 e sr x H1 ρ1 h1 wx x1 r1 vx p1 => ?_
  have sr1 := sr.mono x1
  refine ⟨ρ1, e, h1, r1, sr1, (Post.bnd (Rel := VRel K) p1).imp fun y H2 q => ?_⟩
  obtain ⟨ρ2, h2, wy, x2, r2, vy, p2⟩ := q
  exact s _ H2 ρ2 h2 x y wx wy Q r2 (vx.mono x2) vy p2
theorem se_op {o : Operator} (s : OpS G X (binaryOp o) op) (ha : SE G X a ma) (hb : SE G X b mb) : SE G X (.BinOp a o b pos) (mOp op ma mb) := fun Wx tk => by
  obtain ⟨r, ho, s⟩ := s
  exact (pe_op ho (ha Wx tk) (hb Wx tk)).imp fun σ H Q p => rd_op s p
theorem se_cmp {o : CmpOp} (s : OpS G X (compareOp o) op) (ha : SE G X a ma) (hb : SE G X b mb) (hm : behindInMarks o b = false := by first | exact nomark _ (by decide) (by decide) | rfl | (with_unfolding_all rfl)) :
    SE G X (.Compare a [o] [b] pos) (mOp op ma mb) := fun Wx tk => by
  obtain ⟨r, ho, s⟩ := s
  exact (pe_cmpR ho (ha Wx tk) (hb Wx tk) hm).imp fun σ H Q p => rd_op s p
theorem se_un {o : UnaryOp} {op : W → List O → Out W} (s : UnS G X (unaryOp o) op) (ha : SE G X a ma) : SE G X (.UnaryOp o a pos) (mUn op ma) := fun Wx tk => by
  obtain ⟨r, ho, s⟩ := s
  refine (pe_un ho (ha Wx tk)).imp fun σ H Q p => ?_
  refine rd.bnd (Rel := VRel X.K) p fun H0 ρ0 e sr x H1 ρ1 h1 wx x1 r1 vx p1 => ?_
  exact s _ H1 ρ1 h1 x wx Q r1 vx p1
end
/-- a bool as a test's answer -/
def asB : W → List O → Out Bool
  | .bl b, h => .ok b h
  | _, _ => .bad
def mB (m : M W) : M Bool := fun e h => (m e h).bnd asB
section
variable {G : Gx} {X : Cx} {a b c : Expr} {ma mb mc : M W} {op op' : W → W → List O → Out W} {pos : Pos}
theorem asB_post {K : PySem.W.Frag} {E : XK} {H : Hp} {ρ : List Addr} {h : List O} {v : V} {w : W} {Q : Bool → Hp → Prop} (hr : HR K G H ρ h) (r : VR K H ρ v w) (p : Post K G E BRel Q H ρ (asB w h)) : ∃ k, v = .bl k ∧ Q k H := by
  cases w with
  | bl b =>
    unfold VR at r
    exact ⟨b, r, p ρ H b (Ext.refl hr) hr rfl⟩
  | non => exact p.elim
  | int i => exact p.elim
  | str i => exact p.elim
  | tup i => exact p.elim
  | rol i => exact p.elim
  | ref i => exact p.elim
theorem st_cmp {o : CmpOp} (s : OpS G X (compareOp o) op) (ha : SE G X a ma) (hb : SE G X b mb) (hm : behindInMarks o b = false := by first | exact nomark _ (by decide) (by decide) | rfl | (with_unfolding_all rfl)) :
    ST G X (.Compare a [o] [b] pos) (mB (mOp op ma mb)) := fun Wx tk => by
  obtain ⟨r, ho, s⟩ := s
  refine (pt_cmpR ho (ha Wx tk) (hb Wx tk) hm).imp fun σ H Q p => ?_
  refine rd_op (G := G) (Wx := Wx) (K := X.K) (Q := fun x H' => ∃ k, x = .bl k ∧ Q k H') s ?_
  refine rd.bnd (Rel := VRel X.K) p fun H0 ρ0 e sr x H1 ρ1 h1 wx x1 r1 vx p1 => ?_
  exact asB_post r1 vx p1
/-- a op b op' c -/
def mChain (op op' : W → W → List O → Out W) (a b c : M W) : M W := fun e h => (a e h).bnd fun x h => (b e h).bnd fun y h => (op x y h).bnd fun z h => (asB z h).bnd fun k h => if k = true then (c e h).bnd fun w h => op' y w h else .ok (.bl false) h
theorem rd_chain {K : PySem.W.Frag} {Wx : WX} {r r' : R2} (s : Serves2 K G op r) (s' : Serves2 K G op' r') {σ : L2.St} {H : Hp} {Q : VK} (p : rd K G Wx (VRel K) (mChain op op' ma mb mc) σ H Q) :
    tChain r r' (rd K G Wx (VRel K) ma) (rd K G Wx (VRel K) mb) (rd K G Wx (VRel K) mc) σ H Q := by
  refine rd.bnd (Rel := VRel K) p fun H0 ρ0 e sr x H1 ρ1 h1 wx x1 r1 vx p1 => ?_
  have sr1 := sr.mono x1
  refine ⟨ρ1, e, h1, r1, sr1, (Post.bnd (Rel := VRel K) p1).imp fun y H2 q => ?_⟩
  obtain ⟨ρ2, h2, wy, x2, r2, vy, p2⟩ := q
  refine s (fun cls d H' => Wx cls d σ H') H2 ρ2 h2 x y wx wy _ r2 (vx.mono x2) vy ((Post.bnd (Rel := VRel K) p2).imp fun z H3 q => ?_)
  obtain ⟨ρ3, h3, wz, x3, r3, vz, p3⟩ := q
  obtain ⟨k, ek, q3⟩ := asB_post (Q := fun k H3 => if k = true then rd K G Wx (VRel K) mc σ H3 (fun w' H4 => r' y w' H4 Q) else Q (.bl false) H3) r3 vz ((Post.bnd (Rel := BRel) p3).imp fun k H4 q => by
    obtain ⟨ρ4, h4, k', x4, r4, ek, p4⟩ := q
    cases ek
    cases k with
    | false => exact iteF (p4 ρ4 H4 (.bl false) (Ext.refl r4) r4 (by unfold VR; rfl))
    | true =>
      refine iteT ⟨ρ4, e, h4, r4, ((sr1.mono x2).mono x3).mono x4, (Post.bnd (Rel := VRel K) p4).imp fun w' H5 q => ?_⟩
      obtain ⟨ρ5, h5, ww, x5, r5, vw, p5⟩ := q
      exact s' _ H5 ρ5 h5 y w' wy ww Q r5 (((vy.mono x3).mono x4).mono x5) vw p5)
  exact ⟨k, ek, q3⟩
theorem st_chain {o o' : CmpOp} (s : OpS G X (compareOp o) op) (s' : OpS G X (compareOp o') op') (ha : SE G X a ma) (hb : SE G X b mb) (hc : SE G X c mc) (hm : lastMarks [o, o'] [b, c] = false := by with_unfolding_all rfl) :
    ST G X (.Compare a [o, o'] [b, c] pos) (mB (mChain op op' ma mb mc)) := fun Wx tk => by
  obtain ⟨r, ho, s⟩ := s
  obtain ⟨r', ho', s'⟩ := s'
  refine (pt_chain ho ho' (ha Wx tk) (hb Wx tk) (hc Wx tk) hm).imp fun σ H Q p => ?_
  refine rd_chain (G := G) (Wx := Wx) (K := X.K) (Q := fun x H' => ∃ k, x = .bl k ∧ Q k H') s s' ?_
  refine rd.bnd (Rel := VRel X.K) p fun H0 ρ0 e sr x H1 ρ1 h1 wx x1 r1 vx p1 => ?_
  exact asB_post r1 vx p1

/-! ### truth, and, or, not -/
def truW : W → List O → Out Bool
  | .non, h => .ok false h
  | .bl b, h => .ok b h
  | .int i, h => .ok (i != 0) h
  | .str s, h => if s.length ≤ lim then .ok (!s.isEmpty) h else .bad
  | .tup xs, h => .ok (!xs.isEmpty) h
  | .rol xs, h => .ok (!xs.isEmpty) h
  | .ref n, h => match h[n]? with
    | some (.lst xs) => .ok (!xs.isEmpty) h
    | some (.dic xs) => .ok (!xs.isEmpty) h
    | _ => .bad
theorem VRs.isEmpty {K : PySem.W.Frag} {H : Hp} {ρ : List Addr} {vs : List V} {ws : List W} (h : VRs K H ρ vs ws) : vs.isEmpty = ws.isEmpty := by
  have e := h.length
  cases vs <;> cases ws <;> first | rfl | (simp at e)
theorem KRs.length {K : PySem.W.Frag} {H : Hp} {ρ : List Addr} : ∀ {vs : List (Key × V)} {ws : List (W × W)}, KRs K H ρ vs ws → vs.length = ws.length
  | vs, [], h => by unfold KRs at h; rw [h]; rfl
  | vs, (k, w) :: ws, h => by
    unfold KRs at h
    obtain ⟨q, v, r, e, _, _, z⟩ := h
    rw [e, List.length_cons, List.length_cons, KRs.length z]
theorem KRs.isEmpty {K : PySem.W.Frag} {H : Hp} {ρ : List Addr} {vs : List (Key × V)} {ws : List (W × W)} (h : KRs K H ρ vs ws) : vs.isEmpty = ws.isEmpty := by
  have e := h.length
  cases vs <;> cases ws <;> first | rfl | (simp at e)
theorem HR.look {K : PySem.W.Frag} {H : Hp} {ρ : List Addr} {h : List O} {n : Nat} {a : Addr} {o : O} (r : HR K G H ρ h) (e : ρ[n]? = some a) (q : h[n]? = some o) : OR K G H ρ a o := r.ob n a o e q
theorem tru_post {K : PySem.W.Frag} {E : XK} {H : Hp} {ρ : List Addr} {h : List O} {v : V} {w : W} {Q : Bool → Hp → Prop} (hr : HR K G H ρ h) (r : VR K H ρ v w) (p : Post K G E BRel Q H ρ (truW w h)) : ∃ k, TruV K v H k ∧ Q k H := by
  cases w with
  | non => unfold VR at r; rw [r]; exact ⟨false, rfl, p ρ H _ (Ext.refl hr) hr rfl⟩
  | bl b => unfold VR at r; rw [r]; exact ⟨b, rfl, p ρ H _ (Ext.refl hr) hr rfl⟩
  | int i => unfold VR at r; rw [r]; exact ⟨_, rfl, p ρ H _ (Ext.refl hr) hr rfl⟩
  | str s =>
    unfold VR at r
    rw [r]
    have p : Post K G E BRel Q H ρ (if s.length ≤ lim then .ok (!s.isEmpty) h else .bad) := p
    by_cases hl : s.length ≤ lim
    · rw [if_pos hl] at p
      refine ⟨_, ⟨?_, rfl⟩, p ρ H _ (Ext.refl hr) hr ?_⟩
      · exact lim_size (by show s.toArray.size ≤ lim; simpa using hl)
      · show (((s.toArray.size : Nat) : Int) != 0) = _
        cases s with
        | nil => rfl
        | cons x l =>
          have e : (((x :: l).toArray.size : Nat) : Int) ≠ 0 := by simp; omega
          simp [bne, e]
          omega
    · rw [if_neg hl] at p
      exact p.elim
  | tup xs =>
    unfold VR at r
    obtain ⟨a, vs, rfl, hs, q⟩ := r
    exact ⟨_, .inr (.inl ⟨vs, hs, rfl⟩), p ρ H _ (Ext.refl hr) hr (by rw [q.isEmpty])⟩
  | rol xs =>
    unfold VR at r
    obtain ⟨a, vs, rfl, hs, q⟩ := r
    refine ⟨_, .inl ⟨vs, ?_, rfl⟩, p ρ H _ (Ext.refl hr) hr (by rw [q.isEmpty])⟩
    rcases hs with hs | hs
    · exact .inl hs.1
    · exact hs H
  | ref n =>
    unfold VR at r
    obtain ⟨a, rfl, ha⟩ := r
    simp only [truW] at p
    cases hx : h[n]? with
    | none => rw [hx] at p; exact p.elim
    | some o =>
      rw [hx] at p
      have q := hr.look ha hx
      cases o with
      | lst xs =>
        obtain ⟨vs, e, q⟩ := q
        exact ⟨_, .inl ⟨vs, .inl (.inl e), rfl⟩, p ρ H _ (Ext.refl hr) hr (by rw [q.isEmpty])⟩
      | dic xs =>
        obtain ⟨vs, e, q⟩ := q
        exact ⟨_, .inr (.inr ⟨vs, e, rfl⟩), p ρ H _ (Ext.refl hr) hr (by rw [q.isEmpty])⟩
      | dik xs => exact p.elim
      | ins c fs => exact p.elim
def mTru (m : M W) : M Bool := fun e h => (m e h).bnd truW
theorem st_tru (ha : SE G X a ma) (he : ∀ whole, isTrue a X.env whole = (do let v ← whole; standAt a.pos; holding [v] (truthy v)) := by intro _; rfl) : ST G X a (mTru ma) := fun Wx tk =>
  (pt_truth (ha Wx tk) he).imp fun σ H Q p => rd.bnd (Rel := VRel X.K) p fun H0 ρ0 e sr x H1 ρ1 h1 wx x1 r1 vx p1 => tru_post r1 vx p1
variable {ta tb : M Bool} {rest : List Expr}
def mAnd (t u : M Bool) : M Bool := fun e h => (t e h).bnd fun c h => if c = true then u e h else .ok false h
def mOr (t u : M Bool) : M Bool := fun e h => (t e h).bnd fun c h => if c = true then .ok true h else u e h
def mNot (t : M Bool) : M Bool := fun e h => (t e h).bnd fun c h => .ok (!c) h
theorem sw_and1 (ha : ST G X a ta) : SW G X (.BoolOp .And [a] pos) ta := fun Wx tk => pw_and1 (ha Wx tk)
theorem sw_or1 (ha : ST G X a ta) : SW G X (.BoolOp .Or [a] pos) ta := fun Wx tk => pw_or1 (ha Wx tk)
theorem sw_and (ha : ST G X a ta) (hb : SW G X (.BoolOp .And (b :: rest) pos) tb) : SW G X (.BoolOp .And (a :: b :: rest) pos) (mAnd ta tb) := fun Wx tk =>
  (pw_and (ha Wx tk) (hb Wx tk)).imp fun σ H Q p => rd.bnd (Rel := BRel) p fun H0 ρ0 e sr x H1 ρ1 h1 wx x1 r1 vx p1 => by
    cases vx
    cases x with
    | true => exact iteT ⟨ρ1, e, h1, r1, sr.mono x1, p1⟩
    | false => exact iteF (p1 ρ1 H1 false (Ext.refl r1) r1 rfl)
theorem sw_or (ha : ST G X a ta) (hb : SW G X (.BoolOp .Or (b :: rest) pos) tb) : SW G X (.BoolOp .Or (a :: b :: rest) pos) (mOr ta tb) := fun Wx tk =>
  (pw_or (ha Wx tk) (hb Wx tk)).imp fun σ H Q p => rd.bnd (Rel := BRel) p fun H0 ρ0 e sr x H1 ρ1 h1 wx x1 r1 vx p1 => by
    cases vx
    cases x with
    | true => exact iteT (p1 ρ1 H1 true (Ext.refl r1) r1 rfl)
    | false => exact iteF ⟨ρ1, e, h1, r1, sr.mono x1, p1⟩
theorem st_w (h : SW G X a ta) : ST G X a ta := fun Wx tk => (h Wx tk).pt
theorem st_not (ha : ST G X a ta) : ST G X (.UnaryOp .Not a pos) (mNot ta) := fun Wx tk =>
  (pt_not (ha Wx tk)).imp fun σ H Q p => rd.bnd (Rel := BRel) p fun H0 ρ0 e sr x H1 ρ1 h1 wx x1 r1 vx p1 => by
    cases vx
    exact p1 ρ1 H1 _ (Ext.refl r1) r1 rfl
/-- .. as values -/
def mAndV (a b : M W) : M W := fun e h => (a e h).bnd fun x h => (truW x h).bnd fun k h => if k = true then b e h else .ok x h
def mOrV (a b : M W) : M W := fun e h => (a e h).bnd fun x h => (truW x h).bnd fun k h => if k = true then .ok x h else b e h
def mNotV (a : M W) : M W := fun e h => (a e h).bnd fun x h => (truW x h).bnd fun k h => .ok (.bl (!k)) h
theorem se_one {o : BoolOp} (ha : SE G X a ma) : SE G X (.BoolOp o [a] pos) ma := fun Wx tk => pe_one (ha Wx tk)
theorem se_and (ha : SE G X a ma) (hb : SE G X (.BoolOp .And (b :: rest) pos) mb) : SE G X (.BoolOp .And (a :: b :: rest) pos) (mAndV ma mb) := fun Wx tk =>
  (pe_andT (ha Wx tk) (hb Wx tk)).imp fun σ H Q p => rd.bnd (Rel := VRel X.K) p fun H0 ρ0 e sr x H1 ρ1 h1 wx x1 r1 vx p1 => by
    refine tru_post (Q := fun k H1 => if k = true then rd X.K G Wx (VRel X.K) mb σ H1 Q else Q x H1) r1 vx ((Post.bnd (Rel := BRel) p1).imp fun k H2 q => ?_)
    obtain ⟨ρ2, h2, k', x2, r2, ek, p2⟩ := q
    cases ek
    cases k with
    | true => exact iteT ⟨ρ2, e, h2, r2, (sr.mono x1).mono x2, p2⟩
    | false => exact iteF (p2 ρ2 H2 x (Ext.refl r2) r2 (vx.mono x2))
def mIf (t : M Bool) (a b : M W) : M W := fun e h => (t e h).bnd fun c h => if c = true then a e h else b e h
theorem se_ife {tc : M Bool} (hc : ST G X c tc) (ha : SE G X a ma) (hb : SE G X b mb) : SE G X (.IfExp c a b pos) (mIf tc ma mb) := fun Wx tk =>
  (pe_ifExp (hc Wx tk) (ha Wx tk) (hb Wx tk)).imp fun σ H Q p => rd.bnd (Rel := BRel) p fun H0 ρ0 e sr x H1 ρ1 h1 wx x1 r1 vx p1 => by
    cases vx
    cases x with
    | true => exact iteT ⟨ρ1, e, h1, r1, sr.mono x1, p1⟩
    | false => exact iteF ⟨ρ1, e, h1, r1, sr.mono x1, p1⟩

/-! ### argument lists, displays -/
def mNil : M (List W) := fun _ h => .ok [] h
def mCons (a : M W) (r : M (List W)) : M (List W) := fun e h => (a e h).bnd fun x h => (r e h).bnd fun xs h => .ok (x :: xs) h
theorem sa_nil : SA G X [] mNil := fun Wx tk => pa_nil.imp fun σ H Q p => by
  obtain ⟨ρ, e, h, hr, sr, p⟩ := p
  exact p ρ H [] (Ext.refl hr) hr .nil
theorem sa_cons {es : List Expr} {mr : M (List W)} (ha : SE G X a ma) (hr : SA G X es mr) (hs : starEach (a :: es) X.env = (false, eval a X.env) :: starEach es X.env := by rfl) : SA G X (a :: es) (mCons ma mr) := fun Wx tk =>
  (pa_cons (ha Wx tk) (hr Wx tk) hs).imp fun σ H Q p => rd.bnd (Rel := VRel X.K) p fun H0 ρ0 e sr x H1 ρ1 h1 wx x1 r1 vx p1 => by
    refine ⟨ρ1, e, h1, r1, sr.mono x1, (Post.bnd (Rel := VsRel X.K) p1).imp fun ys H2 q => ?_⟩
    obtain ⟨ρ2, h2, wys, x2, r2, vys, p2⟩ := q
    exact p2 ρ2 H2 _ (Ext.refl r2) r2 (.cons (vx.mono x2) vys)
def mTup (m : M (List W)) : M W := fun e h => (m e h).bnd fun xs h => if xs.length ≤ lim then .ok (.tup xs) h else .bad
def mLst (m : M (List W)) : M W := fun e h => (m e h).bnd fun xs h => if xs.length ≤ lim then .ok (.ref h.length) (h ++ [.lst xs]) else .bad
section
variable {K : PySem.W.Frag} {H : Hp} {ρ : List Addr} {h : List O} {E : XK} {vs : List V} {ws : List W} {Q : VK}
theorem HR.last (hr : HR K G H ρ h) {p : Addr} : (ρ ++ [p])[h.length]? = some p := by rw [← hr.len]; simp
/-- a new tuple -/
theorem new_tup (hr : HR K G H ρ h) (r : VRs K H ρ vs ws) (p : Post K G E (VRel K) Q H ρ (.ok (.tup ws) h)) : ∀ t, H t = none → Q (.ref t) (upd H t (.tup vs)) := fun t ht => by
  obtain ⟨r1, x1⟩ := hr.other (o := .tup vs) ht
  refine p ρ _ _ x1 r1 ?_
  show VR K _ ρ _ (.tup ws)
  unfold VR
  exact ⟨t, vs, rfl, .inl (.inl upd_same), r.mono x1⟩
/-- a new list -/
theorem new_lst (hr : HR K G H ρ h) (r : VRs K H ρ vs ws) (p : Post K G E (VRel K) Q H ρ (.ok (.ref h.length) (h ++ [.lst ws]))) : ∀ t, H t = none → Q (.ref t) (upd H t (.lst vs)) := fun t ht => by
  obtain ⟨r1, x1⟩ := hr.new (o := .lst vs) (u := .lst ws) ht rfl fun x => ⟨vs, upd_same, r.mono x⟩
  refine p _ _ _ x1 r1 ?_
  show VR K _ _ _ (.ref h.length)
  unfold VR
  exact ⟨t, rfl, hr.last⟩
end
theorem se_tup {es : List Expr} {mr : M (List W)} {x1 : Nat} (h : SA G X es mr) : SE G X (.Tuple es x1 pos) (mTup mr) := fun Wx tk =>
  (pe_tup (h Wx tk)).imp fun σ H Q p => rd.bnd (Rel := VsRel X.K) p fun H0 ρ0 e sr x H1 ρ1 h1 wx x1 r1 vx p1 => by
    split at p1
    · rename_i hl
      exact ⟨by rw [vx.length]; exact lim_size hl, new_tup r1 vx p1⟩
    · exact p1.elim
theorem se_lst {es : List Expr} {mr : M (List W)} (h : SA G X es mr) : SE G X (.List es pos) (mLst mr) := fun Wx tk =>
  (pe_lst (h Wx tk)).imp fun σ H Q p => rd.bnd (Rel := VsRel X.K) p fun H0 ρ0 e sr x H1 ρ1 h1 wx x1 r1 vx p1 => by
    split at p1
    · rename_i hl
      exact ⟨by rw [vx.length]; exact lim_size hl, new_lst r1 vx p1⟩
    · exact p1.elim
end
end Den
set_option maxRecDepth 100000
/-! Operators, comparisons, subscripts, slices. -/
namespace Den
open PySem L2 PyProof.Rows
def lstAt (h : List O) (n : Nat) : Option (List W) := match h[n]? with
  | some (.lst xs) => some xs
  | _ => none
def dicAt (h : List O) (n : Nat) : Option (List (W × W)) := match h[n]? with
  | some (.dic xs) => some xs
  | _ => none
def insAt (h : List O) (n : Nat) : Option (Nat × List (Str × W)) := match h[n]? with
  | some (.ins c fs) => some (c, fs)
  | _ => none
theorem lstAt_some {h : List O} {n : Nat} {xs : List W} (e : lstAt h n = some xs) : h[n]? = some (.lst xs) := by
  unfold lstAt at e
  split at e
  · rename_i ys hy
    cases e
    exact hy
  · cases e
theorem lstAt_nk {h : List O} {n : Nat} {xs : List W} (e : lstAt h n = some xs) : NoDik h n := fun kvs z => by rw [lstAt_some e] at z; cases z
theorem dicAt_some {h : List O} {n : Nat} {xs : List (W × W)} (e : dicAt h n = some xs) : h[n]? = some (.dic xs) := by
  unfold dicAt at e
  split at e
  · rename_i ys hy
    cases e
    exact hy
  · cases e
theorem dicAt_nk {h : List O} {n : Nat} {xs : List (W × W)} (e : dicAt h n = some xs) : NoDik h n := fun kvs z => by rw [dicAt_some e] at z; cases z
theorem insAt_some {h : List O} {n : Nat} {c : Nat} {xs : List (Str × W)} (e : insAt h n = some (c, xs)) : h[n]? = some (.ins c xs) := by
  unfold insAt at e
  split at e
  · rename_i ys zs hy
    cases e
    exact hy
  · cases e
/-- a list's items -/
def sqL (w : W) (h : List O) : Option (List W) := match w with
  | .rol xs => some xs
  | .ref n => lstAt h n
  | _ => none
def sqT (w : W) : Option (List W) := match w with
  | .tup xs => some xs
  | _ => none
def sqA (w : W) (h : List O) : Option (List W) := match w with
  | .tup xs => some xs
  | .rol xs => some xs
  | .ref n => lstAt h n
  | _ => none
section
variable {K : PySem.W.Frag} {G : Gx} {H : Hp} {ρ : List Addr} {h : List O} {v : V} {w : W} {xs : List W}
theorem sqL_ok (hr : HR K G H ρ h) (r : VR K H ρ v w) (e : sqL w h = some xs) : ∃ a vs, v = .ref a ∧ SqL K H a vs ∧ VRs K H ρ vs xs := by
  cases w with
  | rol ys =>
    cases e
    unfold VR at r
    obtain ⟨a, vs, e, q, z⟩ := r
    refine ⟨a, vs, e, ?_, z⟩
    rcases q with q | q
    · exact .inl q.1
    · exact q H
  | ref n =>
    unfold VR at r
    obtain ⟨a, e2, ha⟩ := r
    obtain ⟨vs, q, z⟩ := hr.look ha (lstAt_some e)
    exact ⟨a, vs, e2, .inl (.inl q), z⟩
  | _ => cases e
theorem sqT_ok (r : VR K H ρ v w) (e : sqT w = some xs) : ∃ a vs, v = .ref a ∧ SqT K H a vs ∧ VRs K H ρ vs xs := by
  cases w with
  | tup ys =>
    cases e
    unfold VR at r
    exact r
  | _ => cases e
theorem sqA_ok (hr : HR K G H ρ h) (r : VR K H ρ v w) (e : sqA w h = some xs) : ∃ a vs, v = .ref a ∧ (SqL K H a vs ∨ SqT K H a vs) ∧ VRs K H ρ vs xs := by
  cases w with
  | tup ys =>
    cases e
    unfold VR at r
    obtain ⟨a, vs, e, q, z⟩ := r
    exact ⟨a, vs, e, .inr q, z⟩
  | rol ys =>
    obtain ⟨a, vs, e, q, z⟩ := sqL_ok hr r (w := .rol ys) e
    exact ⟨a, vs, e, .inl q, z⟩
  | ref n =>
    obtain ⟨a, vs, e, q, z⟩ := sqL_ok hr r (w := .ref n) e
    exact ⟨a, vs, e, .inl q, z⟩
  | _ => cases e
theorem VR.int {i : Int} (r : VR K H ρ v (.int i)) : v = .int i := by unfold VR at r; exact r
theorem VR.bl {i : Bool} (r : VR K H ρ v (.bl i)) : v = .bl i := by unfold VR at r; exact r
theorem VR.non (r : VR K H ρ v .non) : v = .non := by unfold VR at r; exact r
theorem VR.str {l : List Nat} (r : VR K H ρ v (.str l)) : v = .str ⟨l.toArray⟩ := by unfold VR at r; exact r
theorem VR.ref {n : Nat} (r : VR K H ρ v (.ref n)) : ∃ a, v = .ref a ∧ ρ[n]? = some a := by unfold VR at r; exact r
theorem vr_int {i : Int} : VR K H ρ (.int i) (.int i) := by unfold VR; rfl
theorem vr_bl {i : Bool} : VR K H ρ (.bl i) (.bl i) := by unfold VR; rfl
theorem vr_non : VR K H ρ .non .non := by unfold VR; rfl
theorem vr_str {l : List Nat} : VR K H ρ (.str ⟨l.toArray⟩) (.str l) := by unfold VR; rfl
theorem vr_str' {l : List Nat} {x : Str} (e : x = ⟨l.toArray⟩) : VR K H ρ (.str x) (.str l) := by unfold VR; rw [e]
/-- the plain end -/
theorem Post.here {E : XK} {α β : Type} {Rel : Hp → List Addr → β → α → Prop} {Q : β → Hp → Prop} {b : β} {a : α} (hr : HR K G H ρ h) (p : Post K G E Rel Q H ρ (.ok a h)) (r : Rel H ρ b a) : Q b H := p ρ H b (Ext.refl hr) hr r
end
theorem Str_length (l : List Nat) : (Str.length ⟨l.toArray⟩) = l.length := by show l.toArray.size = l.length; simp
theorem Str_app (a b : List Nat) : (⟨a.toArray⟩ ++ ⟨b.toArray⟩ : Str) = ⟨(a ++ b).toArray⟩ := by
  show (⟨a.toArray ++ b.toArray⟩ : Str) = _
  simp
theorem len_le {l : List Nat} (h : l.length ≤ lim) : Str.length ⟨l.toArray⟩ ≤ sizeLine := by rw [Str_length]; exact lim_size h

/-! ### + -/
def oAdd (x y : W) (h : List O) : Out W := match x, y with
  | .int i, .int j => .ok (.int (i + j)) h
  | .int i, .bl b => .ok (.int (i + if b then 1 else 0)) h
  | .str a, .str b => if a.length + b.length ≤ lim then .ok (.str (a ++ b)) h else .bad
  | .tup a, .tup b => if a.length + b.length ≤ lim then .ok (.tup (a ++ b)) h else .bad
  | .ref n, .ref m => match lstAt h n, lstAt h m with
    | some a, some b => if a.length + b.length ≤ lim then .ok (.ref h.length) (h ++ [.lst (a ++ b)]) else .bad
    | _, _ => .bad
  | _, _ => .bad
section
variable {G : Gx} {X : Cx}
theorem vr_tup {K : PySem.W.Frag} {H : Hp} {ρ : List Addr} {a : Addr} {vs : List V} {ws : List W} (h : SqT K H a vs) (r : VRs K H ρ vs ws) : VR K H ρ (.ref a) (.tup ws) := by unfold VR; exact ⟨a, vs, rfl, h, r⟩
theorem ops_add : OpS G X (binaryOp .Add) oAdd := ⟨_, OpR.or op_add (OpR.or op_add_str (OpR.or op_catA (OpR.or op_cat op_add_ib))), fun E H ρ h x y wx wy Q hr rx ry p => by
  unfold oAdd at p
  split at p
  · exact .inl ⟨_, _, rx.int, ry.int, p.here hr vr_int⟩
  · exact .inr (.inr (.inr (.inr ⟨_, _, rx.int, ry.bl, p.here hr vr_int⟩)))
  · rename_i a b
    split at p
    · rename_i hl
      exact .inr (.inl ⟨_, _, rx.str, ry.str, by rw [Str_length, Str_length]; exact lim_size hl, p.here hr (vr_str' (Str_app a b))⟩)
    · exact False.elim p
  · rename_i a b
    split at p
    · rename_i hl
      unfold VR at rx ry
      obtain ⟨a1, v1, rfl, q1, z1⟩ := rx
      obtain ⟨a2, v2, rfl, q2, z2⟩ := ry
      refine .inr (.inr (.inl ⟨a1, a2, v1, v2, rfl, rfl, q1, q2, by rw [z1.length, z2.length]; exact lim_size hl, fun e => ?_, fun e e2 => ?_, fun e e2 => ?_⟩))
      · subst e
        cases a with
        | nil => exact p.here hr (vr_tup q2 z2)
        | cons y l => have := z1.length; simp at this
      · subst e2
        cases b with
        | nil => exact p.here hr (vr_tup q1 (by rw [List.append_nil]; exact z1))
        | cons y l => have := z2.length; simp at this
      · exact new_tup hr (z1.append z2) p
    · exact False.elim p
  · rename_i n m
    split at p
    · rename_i a b ha hb
      split at p
      · rename_i hl
        obtain ⟨a1, rfl, e1⟩ := rx.ref
        obtain ⟨a2, rfl, e2⟩ := ry.ref
        obtain ⟨v1, q1, z1⟩ := hr.look e1 (lstAt_some ha)
        obtain ⟨v2, q2, z2⟩ := hr.look e2 (lstAt_some hb)
        exact .inr (.inr (.inr (.inl ⟨a1, a2, v1, v2, rfl, rfl, q1, q2, by rw [z1.length, z2.length]; exact lim_size hl, new_lst hr (z1.append z2) p⟩)))
      · exact False.elim p
    · exact False.elim p
  · exact False.elim p⟩

/-! ### -, *, //, %, ** of ints; a list times an int -/
def oSub (x y : W) (h : List O) : Out W := match x, y with
  | .int i, .int j => .ok (.int (i - j)) h
  | _, _ => .bad
theorem ops_sub : OpS G X (binaryOp .Sub) oSub := ⟨_, op_sub, fun E H ρ h x y wx wy Q hr rx ry p => by
  unfold oSub at p
  split at p
  · exact ⟨_, _, rx.int, ry.int, p.here hr vr_int⟩
  · exact False.elim p⟩
def mulOk (i j : Int) : Bool := decide (i.natAbs.log2 + j.natAbs.log2 < 100000000)
theorem mulOk_ok {i j : Int} (h : mulOk i j = true) : IntMulOk i j := by
  have b : ∀ x : Int, Builtin.Int.intBits x ≤ x.natAbs.log2 + 1 := fun x => by
    unfold Builtin.Int.intBits
    split <;> omega
  have h1 := b i
  have h2 := b j
  have h3 : i.natAbs.log2 + j.natAbs.log2 < 100000000 := of_decide_eq_true h
  have e : bitsLine = 134217728 := by decide
  unfold IntMulOk
  intro z
  rw [Bool.and_eq_true] at z
  have z2 := z.2
  unfold Builtin.Int.intTooBig at z2
  have z3 := of_decide_eq_true z2
  rw [e] at z3
  omega
theorem op_mulX : OpR X (binaryOp .Mult) (rI (fun i j => mulOk i j = true) fun i j => .int (i * j)) := opI fun _ _ _ _ _ _ _ hc q => PyProof.Rows.mul_int q (mulOk_ok hc)
def oMul (x y : W) (h : List O) : Out W := match x, y with
  | .int i, .int j => if mulOk i j = true then .ok (.int (i * j)) h else .bad
  | .ref n, .int k => match lstAt h n with
    | some a => if -(2 ^ 63) ≤ k ∧ k < 2 ^ 63 ∧ a.length * k.toNat ≤ lim then .ok (.ref h.length) (h ++ [.lst (List.replicate k.toNat a).flatten]) else .bad
    | _ => .bad
  | _, _ => .bad
theorem VRs.rep {K : PySem.W.Frag} {H : Hp} {ρ : List Addr} {vs : List V} {ws : List W} (r : VRs K H ρ vs ws) : ∀ n : Nat, VRs K H ρ (List.replicate n vs).flatten (List.replicate n ws).flatten
  | 0 => .nil
  | n + 1 => by
    rw [List.replicate_succ, List.replicate_succ, List.flatten_cons, List.flatten_cons]
    exact r.append (VRs.rep r n)
theorem ops_mul : OpS G X (binaryOp .Mult) oMul := ⟨_, OpR.or op_mulX op_rep, fun E H ρ h x y wx wy Q hr rx ry p => by
  unfold oMul at p
  split at p
  · split at p
    · rename_i hc
      exact .inl ⟨_, _, rx.int, ry.int, hc, p.here hr vr_int⟩
    · exact False.elim p
  · split at p
    · rename_i a ha
      split at p
      · rename_i hl
        obtain ⟨a1, rfl, e1⟩ := rx.ref
        obtain ⟨v1, q1, z1⟩ := hr.look e1 (lstAt_some ha)
        exact .inr ⟨a1, _, v1, rfl, ry.int, q1, hl.1, hl.2.1, by rw [z1.length]; exact lim_size hl.2.2, new_lst hr (z1.rep _) p⟩
      · exact False.elim p
    · exact False.elim p
  · exact False.elim p⟩
def oFdiv (x y : W) (h : List O) : Out W := match x, y with
  | .int i, .int j => if 0 < j ∧ j.natAbs.log2 < 9000 then .ok (.int (i / j)) h else .bad
  | _, _ => .bad
theorem ops_fdiv : OpS G X (binaryOp .FloorDiv) oFdiv := ⟨_, op_fdivW, fun E H ρ h x y wx wy Q hr rx ry p => by
  unfold oFdiv at p
  split at p
  · split at p
    · rename_i hc
      exact ⟨_, _, rx.int, ry.int, hc, p.here hr vr_int⟩
    · exact False.elim p
  · exact False.elim p⟩
def oMod (x y : W) (h : List O) : Out W := match x, y with
  | .int i, .int j => if 0 < j then .ok (.int (i % j)) h else .bad
  | _, _ => .bad
theorem ops_mod : OpS G X (binaryOp .Mod) oMod := ⟨_, op_mod, fun E H ρ h x y wx wy Q hr rx ry p => by
  unfold oMod at p
  split at p
  · split at p
    · rename_i hc
      exact ⟨_, _, rx.int, ry.int, hc, p.here hr vr_int⟩
    · exact False.elim p
  · exact False.elim p⟩
def oPow (x y : W) (h : List O) : Out W := match x, y with
  | .int i, .int j => if 0 ≤ j ∧ j ≤ 1000 ∧ i.natAbs < 1000 then .ok (.int (i ^ j.toNat)) h else .bad
  | _, _ => .bad
theorem ops_pow : OpS G X (binaryOp .Pow) oPow := ⟨_, op_pow, fun E H ρ h x y wx wy Q hr rx ry p => by
  unfold oPow at p
  split at p
  · split at p
    · rename_i hc
      exact ⟨_, _, rx.int, ry.int, ⟨hc.1, by have := hc.2.1; omega, by have := hc.2.2; have e : (1000 : Nat) < 2 ^ 64 := (by decide); omega⟩, p.here hr vr_int⟩
    · exact False.elim p
  · exact False.elim p⟩
def oNeg (x : W) (h : List O) : Out W := match x with
  | .int i => .ok (.int (-i)) h
  | _ => .bad
theorem uns_neg : UnS G X (unaryOp .USub) oNeg := ⟨_, un_neg, fun E H ρ h x wx Q hr rx p => by
  unfold oNeg at p
  split at p
  · exact ⟨_, rx.int, p.here hr vr_int⟩
  · exact False.elim p⟩

/-! ### == and != -/
/-- what a value is as data, n deep -/
def strFit (s : List Nat) : Bool := s.all fun c => decide (c < 1114112)
def mapO {α β : Type} (f : α → Option β) : List α → Option (List β)
  | [] => some []
  | x :: xs => match f x with
    | some y => match mapO f xs with
      | some ys => some (y :: ys)
      | none => none
    | none => none
def dat (h : List O) : Nat → W → Option PyData
  | 0, _ => none
  | n + 1, .non => some .none
  | n + 1, .bl b => some (.bool b)
  | n + 1, .int i => some (.int i)
  | n + 1, .str s => if strFit s = true then some (.str ⟨s.toArray⟩) else none
  | n + 1, .tup xs => (mapO (dat h n) xs).map .tuple
  | n + 1, .rol xs => (mapO (dat h n) xs).map .list
  | n + 1, .ref k => (lstAt h k).bind fun xs => (mapO (dat h n) xs).map .list
theorem mapO_dp {K : PySem.W.Frag} {H : Hp} {ρ : List Addr} {f : W → Option PyData} (hf : ∀ v w d, VR K H ρ v w → f w = some d → Dp K H v d) : ∀ {ws : List W} {vs : List V} {ds : List PyData}, VRs K H ρ vs ws → mapO f ws = some ds → DpAll K H vs ds
  | [], vs, ds, r, e => by
    unfold VRs at r
    cases e
    rw [r]
    exact .nil
  | w :: ws, vs, ds, r, e => by
    unfold VRs at r
    obtain ⟨v, l, rfl, q, z⟩ := r
    unfold mapO at e
    split at e
    · rename_i d hd
      split at e
      · rename_i ds' hds
        cases e
        exact .cons (hf v w d q hd) (mapO_dp hf z hds)
      · cases e
    · cases e
theorem dat_dp {K : PySem.W.Frag} {H : Hp} {ρ : List Addr} {h : List O} (hr : HR K G H ρ h) : ∀ (n : Nat) (v : V) (w : W) (d : PyData), VR K H ρ v w → dat h n w = some d → Dp K H v d
  | 0, v, w, d, r, e => by cases e
  | n + 1, v, .non, d, r, e => by cases e; rw [r.non]; exact .non
  | n + 1, v, .bl b, d, r, e => by cases e; rw [r.bl]; exact .bl b
  | n + 1, v, .int i, d, r, e => by cases e; rw [r.int]; exact .int i
  | n + 1, v, .str s, d, r, e => by
    unfold dat at e
    split at e
    · cases e; rw [r.str]; exact .str _
    · cases e
  | n + 1, v, .tup xs, d, r, e => by
    unfold dat at e
    obtain ⟨a, vs, rfl, q, z⟩ := sqT_ok (xs := xs) r rfl
    cases hm : mapO (dat h n) xs with
    | none => rw [hm] at e; cases e
    | some ds =>
      rw [hm] at e
      cases e
      exact .tup q (mapO_dp (fun v w d => dat_dp hr n v w d) z hm)
  | n + 1, v, .rol xs, d, r, e => by
    unfold dat at e
    obtain ⟨a, vs, rfl, q, z⟩ := sqL_ok (xs := xs) hr r rfl
    cases hm : mapO (dat h n) xs with
    | none => rw [hm] at e; cases e
    | some ds =>
      rw [hm] at e
      cases e
      exact .lst q (mapO_dp (fun v w d => dat_dp hr n v w d) z hm)
  | n + 1, v, .ref k, d, r, e => by
    unfold dat at e
    cases hl : lstAt h k with
    | none => rw [hl] at e; cases e
    | some xs =>
      rw [hl] at e
      obtain ⟨a, vs, rfl, q, z⟩ := sqL_ok (w := .ref k) (xs := xs) hr r hl
      cases hm : mapO (dat h n) xs with
      | none => simp only [Option.bind, hm] at e; cases e
      | some ds =>
        simp only [Option.bind, hm] at e
        cases e
        exact .lst q (mapO_dp (fun v w d => dat_dp hr n v w d) z hm)
theorem mapO_lay {f : W → Option PyData} (hf : ∀ w d, f w = some d → d.canLay0 = true) : ∀ {ws : List W} {ds : List PyData}, mapO f ws = some ds → PyData.canLayAll0 ds = true
  | [], ds, e => by cases e; rfl
  | w :: ws, ds, e => by
    unfold mapO at e
    split at e
    · rename_i d hd
      split at e
      · rename_i ds' hds
        cases e
        unfold PyData.canLayAll0
        rw [hf w d hd, mapO_lay hf hds]
        rfl
      · cases e
    · cases e
theorem mapO_depth {f : W → Option PyData} {n : Nat} (hf : ∀ w d, f w = some d → d.depth ≤ n) : ∀ {ws : List W} {ds : List PyData}, mapO f ws = some ds → PyData.depthAll ds ≤ n
  | [], ds, e => by cases e; exact Nat.zero_le _
  | w :: ws, ds, e => by
    unfold mapO at e
    split at e
    · rename_i d hd
      split at e
      · rename_i ds' hds
        cases e
        unfold PyData.depthAll
        exact Nat.max_le.mpr ⟨hf w d hd, mapO_depth hf hds⟩
      · cases e
    · cases e
theorem strOk_fit {s : List Nat} (h : strFit s = true) : PyData.strOk ⟨s.toArray⟩ = true := by
  unfold PyData.strOk
  unfold strFit at h
  simpa using h
theorem dat_lay {h : List O} : ∀ (n : Nat) (w : W) (d : PyData), dat h n w = some d → d.canLay0 = true ∧ d.depth ≤ n
  | 0, w, d, e => by cases e
  | n + 1, .non, d, e => by cases e; exact ⟨rfl, by unfold PyData.depth; omega⟩
  | n + 1, .bl b, d, e => by cases e; exact ⟨rfl, by unfold PyData.depth; omega⟩
  | n + 1, .int i, d, e => by cases e; exact ⟨rfl, by unfold PyData.depth; omega⟩
  | n + 1, .str s, d, e => by
    unfold dat at e
    split at e
    · rename_i hs
      cases e; exact ⟨by unfold PyData.canLay0; exact strOk_fit hs, by unfold PyData.depth; omega⟩
    · cases e
  | n + 1, .tup xs, d, e => by
    unfold dat at e
    cases hm : mapO (dat h n) xs with
    | none => rw [hm] at e; cases e
    | some ds =>
      rw [hm] at e
      cases e
      have h1 := mapO_lay (fun w d e => (dat_lay n w d e).1) hm
      have h2 := mapO_depth (fun w d e => (dat_lay n w d e).2) hm
      exact ⟨by unfold PyData.canLay0; exact h1, by unfold PyData.depth; omega⟩
  | n + 1, .rol xs, d, e => by
    unfold dat at e
    cases hm : mapO (dat h n) xs with
    | none => rw [hm] at e; cases e
    | some ds =>
      rw [hm] at e
      cases e
      have h1 := mapO_lay (fun w d e => (dat_lay n w d e).1) hm
      have h2 := mapO_depth (fun w d e => (dat_lay n w d e).2) hm
      exact ⟨by unfold PyData.canLay0; exact h1, by unfold PyData.depth; omega⟩
  | n + 1, .ref k, d, e => by
    unfold dat at e
    cases hl : lstAt h k with
    | none => rw [hl] at e; cases e
    | some xs =>
      rw [hl] at e
      cases hm : mapO (dat h n) xs with
      | none => simp only [Option.bind, hm] at e; cases e
      | some ds =>
        simp only [Option.bind, hm] at e
        cases e
        have h1 := mapO_lay (fun w d e => (dat_lay n w d e).1) hm
        have h2 := mapO_depth (fun w d e => (dat_lay n w d e).2) hm
        exact ⟨by unfold PyData.canLay0; exact h1, by unfold PyData.depth; omega⟩
theorem dat_shaped {h : List O} {w : W} {d : PyData} (e : dat h 8 w = some d) : SeqAt.shaped d = true := by
  obtain ⟨h1, h2⟩ := dat_lay 8 w d e
  unfold SeqAt.shaped
  rw [h1, Bool.true_and]
  exact decide_eq_true (Nat.le_trans h2 (by decide))
/-- == of two values: none where we can't tell -/
def eqW (h : List O) (x y : W) : Option Bool := match x, y with
  | .int i, .int j => some (i == j)
  | .str a, .str b => some (a == b)
  | .bl a, .bl b => some (a == b)
  | .non, .non => some true
  | .non, .int _ => some false
  | .int _, .non => some false
  | .non, .str _ => some false
  | .str _, .non => some false
  | x, y => match dat h 8 x, dat h 8 y with
    | some d, some e => some (PyData.eqv d e)
    | _, _ => none
def oEq (x y : W) (h : List O) : Out W := match eqW h x y with
  | some b => .ok (.bl b) h
  | none => .bad
def oNe (x y : W) (h : List O) : Out W := match eqW h x y with
  | some b => .ok (.bl !b) h
  | none => .bad
theorem str_eq_dec (a b : List Nat) : decide (V.str ⟨a.toArray⟩ = V.str ⟨b.toArray⟩) = (a == b) := by
  by_cases e : a = b
  · subst e; simp
  · rw [decide_eq_false, beq_eq_false_iff_ne.mpr e]
    intro z
    apply e
    have z1 : (⟨a.toArray⟩ : Str) = ⟨b.toArray⟩ := V.str.inj z
    have z2 : a.toArray = b.toArray := congrArg Str.cps z1
    simpa using congrArg Array.toList z2
theorem eqW_ok {K : PySem.W.Frag} {H : Hp} {ρ : List Addr} {h : List O} {x y : V} {wx wy : W} {b : Bool} (hr : HR K G H ρ h) (rx : VR K H ρ x wx) (ry : VR K H ρ y wy) (e : eqW h wx wy = some b) :
    (scal x y = true ∧ decide (x = y) = b) ∨ ∃ d d', Dp K H x d ∧ Dp K H y d' ∧ SeqAt.shaped d = true ∧ SeqAt.shaped d' = true ∧ PyData.eqv d d' = b := by
  unfold eqW at e
  split at e
  · cases e; rw [rx.int, ry.int]; refine .inl ⟨rfl, ?_⟩
    simp [Bool.beq_eq_decide_eq]
  · cases e; rw [rx.str, ry.str]; exact .inl ⟨rfl, str_eq_dec _ _⟩
  · cases e; rw [rx.bl, ry.bl]; refine .inl ⟨rfl, ?_⟩
    simp [Bool.beq_eq_decide_eq]
  · cases e; rw [rx.non, ry.non]; exact .inl ⟨rfl, decide_eq_true rfl⟩
  · cases e; rw [rx.non, ry.int]; exact .inl ⟨rfl, decide_eq_false (by intro z; cases z)⟩
  · cases e; rw [rx.int, ry.non]; exact .inl ⟨rfl, decide_eq_false (by intro z; cases z)⟩
  · cases e; rw [rx.non, ry.str]; exact .inl ⟨rfl, decide_eq_false (by intro z; cases z)⟩
  · cases e; rw [rx.str, ry.non]; exact .inl ⟨rfl, decide_eq_false (by intro z; cases z)⟩
  · split at e
    · rename_i d d' hd hd'
      cases e
      exact .inr ⟨d, d', dat_dp hr 8 _ _ _ rx hd, dat_dp hr 8 _ _ _ ry hd', dat_shaped hd, dat_shaped hd', rfl⟩
    · cases e
theorem ops_eq (hu : X.A.units + 64 < cLine) : OpS G X (compareOp .Eq) oEq := ⟨_, OpR.or op_eq (op_eqD hu), fun E H ρ h x y wx wy Q hr rx ry p => by
  unfold oEq at p
  split at p
  · rename_i b hb
    have q : Q (.bl b) H := p.here hr vr_bl
    rcases eqW_ok hr rx ry hb with ⟨h1, h2⟩ | ⟨d, d', h1, h2, h3, h4, h5⟩
    · exact .inl ⟨h1, by rw [h2]; exact q⟩
    · exact .inr ⟨d, d', h1, h2, h3, h4, by rw [h5]; exact q⟩
  · exact False.elim p⟩
theorem ops_ne (hu : X.A.units + 64 < cLine) : OpS G X (compareOp .NotEq) oNe := ⟨_, OpR.or op_ne (op_neD hu), fun E H ρ h x y wx wy Q hr rx ry p => by
  unfold oNe at p
  split at p
  · rename_i b hb
    have q : Q (.bl !b) H := p.here hr vr_bl
    rcases eqW_ok hr rx ry hb with ⟨h1, h2⟩ | ⟨d, d', h1, h2, h3, h4, h5⟩
    · exact .inl ⟨h1, by rw [h2]; exact q⟩
    · exact .inr ⟨d, d', h1, h2, h3, h4, by rw [h5]; exact q⟩
  · exact False.elim p⟩

/-! ### the order of ints and of texts -/
def oLt (x y : W) (h : List O) : Out W := match x, y with
  | .int i, .int j => .ok (.bl (decide (i < j))) h
  | .str a, .str b => .ok (.bl (decide (a < b))) h
  | _, _ => .bad
def oLe (x y : W) (h : List O) : Out W := match x, y with
  | .int i, .int j => .ok (.bl (decide (i ≤ j))) h
  | .str a, .str b => .ok (.bl (!decide (b < a))) h
  | _, _ => .bad
def oGt (x y : W) (h : List O) : Out W := match x, y with
  | .int i, .int j => .ok (.bl (decide (j < i))) h
  | .str a, .str b => .ok (.bl (decide (b < a))) h
  | _, _ => .bad
def oGe (x y : W) (h : List O) : Out W := match x, y with
  | .int i, .int j => .ok (.bl (decide (j ≤ i))) h
  | .str a, .str b => .ok (.bl (!decide (a < b))) h
  | _, _ => .bad
theorem ops_lt : OpS G X (compareOp .Lt) oLt := ⟨_, OpR.or op_lt op_lt_str, fun E H ρ h x y wx wy Q hr rx ry p => by
  unfold oLt at p
  split at p
  · exact .inl ⟨_, _, rx.int, ry.int, p.here hr vr_bl⟩
  · exact .inr ⟨_, _, rx.str, ry.str, p.here hr vr_bl⟩
  · exact False.elim p⟩
theorem ops_le : OpS G X (compareOp .LtE) oLe := ⟨_, OpR.or op_le op_le_str, fun E H ρ h x y wx wy Q hr rx ry p => by
  unfold oLe at p
  split at p
  · exact .inl ⟨_, _, rx.int, ry.int, p.here hr vr_bl⟩
  · exact .inr ⟨_, _, rx.str, ry.str, p.here hr vr_bl⟩
  · exact False.elim p⟩
theorem ops_gt : OpS G X (compareOp .Gt) oGt := ⟨_, OpR.or op_gt op_gt_str, fun E H ρ h x y wx wy Q hr rx ry p => by
  unfold oGt at p
  split at p
  · exact .inl ⟨_, _, rx.int, ry.int, p.here hr vr_bl⟩
  · exact .inr ⟨_, _, rx.str, ry.str, p.here hr vr_bl⟩
  · exact False.elim p⟩
theorem ops_ge : OpS G X (compareOp .GtE) oGe := ⟨_, OpR.or op_ge op_ge_str, fun E H ρ h x y wx wy Q hr rx ry p => by
  unfold oGe at p
  split at p
  · exact .inl ⟨_, _, rx.int, ry.int, p.here hr vr_bl⟩
  · exact .inr ⟨_, _, rx.str, ry.str, p.here hr vr_bl⟩
  · exact False.elim p⟩
end
end Den
set_option maxRecDepth 100000
/-! Subscripts, slices, stores, built-ins, methods, calls of defs. -/
namespace Den
open PySem L2 PyProof.Rows
section
variable {K : PySem.W.Frag} {G : Gx} {H : Hp} {ρ : List Addr} {h : List O}
theorem VRs.atI {vs : List V} {ws : List W} {i : Int} {w : W} (r : VRs K H ρ vs ws) (e : L2.atI ws i = some w) : ∃ v, L2.atI vs i = some v ∧ VR K H ρ v w := by
  unfold L2.atI at e ⊢
  rw [r.length]
  cases hx : ixN ws.length i with
  | none => rw [hx] at e; cases e
  | some j =>
    rw [hx] at e
    exact r.get e
end
def oIx (x y : W) (h : List O) : Out W := match y with
  | .int i => match x with
    | .str s => if s.length ≤ lim then match L2.atI s i with
      | some c => .ok (.str [c]) h
      | none => .bad else .bad
    | x => match sqA x h with
      | some xs => match L2.atI xs i with
        | some w => .ok w h
        | none => .bad
      | none => .bad
  | _ => .bad
def cutW {α : Type} (xs : List α) (lo hi : Option Int) : List α := (xs.drop (HT.sIx xs.length 0 lo)).take (HT.sIx xs.length xs.length hi - HT.sIx xs.length 0 lo)
def oSl (x : W) (lo hi : Option Int) (h : List O) : Out W := match x with
  | .str s => if s.length ≤ lim then .ok (.str (cutW s lo hi)) h else .bad
  | .tup xs => .ok (.tup (cutW xs lo hi)) h
  | x => match sqL x h with
    | some xs => .ok (.ref h.length) (h ++ [.lst (cutW xs lo hi)])
    | none => .bad
def mPart (m : M W) : M (Option Int) := fun e h => (m e h).bnd fun w h => match w with
  | .int i => .ok (some i) h
  | _ => .bad
def mNoPart : M (Option Int) := fun _ h => .ok none h
def mSl (m : M W) (lo hi : M (Option Int)) : M W := fun e h => (m e h).bnd fun x h => (lo e h).bnd fun l h => (hi e h).bnd fun u h => oSl x l u h
abbrev ORel : Hp → List Addr → Option Int → Option Int → Prop := fun _ _ a b => a = b
def SO (G : Gx) (X : Cx) (o : Option Expr) (m : M (Option Int)) : Prop := ∀ Wx, Takes X Wx → PO X o (rd X.K G Wx ORel m)
theorem _root_.L2.PO.imp {X : Cx} {e : Option Expr} {t t' : TO} (p : PO X e t) (i : ∀ σ H Q, t' σ H Q → t σ H Q) : PO X e t' := ⟨fun pins s σ H Q I q => p.run pins s σ H Q I (i σ H Q q)⟩
section
variable {G : Gx} {X : Cx} {a b c e : Expr} {ma mb mc m : M W} {pos p2 : Pos}
theorem ix_serves : Serves2 X.K G oIx (rIx X.K) := fun E H ρ h x y wx wy Q hr rx ry p => by
  unfold oIx at p
  split at p
  · rename_i i
    split at p
    · rename_i s
      split at p
      · rename_i hl
        split at p
        · rename_i cc hc
          exact .inr (.inr ⟨_, i, cc, rx.str, ry.int, len_le hl, by simpa using hc, p.here hr (vr_str' (l := [cc]) rfl)⟩)
        · exact False.elim p
      · exact False.elim p
    · split at p
      · rename_i xs hx
        split at p
        · rename_i w hw
          obtain ⟨a, vs, rfl, q, z⟩ := sqA_ok hr rx hx
          obtain ⟨v, hv, rv⟩ := z.atI hw
          rcases q with q | q
          · exact .inl ⟨a, vs, i, v, rfl, ry.int, q, hv, p.here hr rv⟩
          · exact .inr (.inl ⟨a, vs, i, v, rfl, ry.int, q, hv, p.here hr rv⟩)
        · exact False.elim p
      · exact False.elim p
  · exact False.elim p
theorem se_ix (ha : SE G X a ma) (hb : SE G X b mb) (hs : PlainIx b := by exact fun _ _ => rfl) : SE G X (.Subscript a b pos) (mOp oIx ma mb) := fun Wx tk =>
  (pe_ix ix_seq (ha Wx tk) (hb Wx tk) hs).imp fun σ H Q p => rd_op ix_serves p
theorem so_none : SO G X none mNoPart := fun Wx tk => po_none.imp fun σ H Q p => by
  obtain ⟨ρ, e, h, hr, sr, p⟩ := p
  exact p.here hr rfl
theorem so_some (ha : SE G X a ma) : SO G X (some a) (mPart ma) := fun Wx tk => (po_some (ha Wx tk)).imp fun σ H Q p => rd.bnd (Rel := VRel X.K) p fun H0 ρ0 e sr x H1 ρ1 h1 wx x1 r1 vx p1 => by
  split at p1
  · rename_i i
    exact ⟨i, vx.int, p1.here r1 rfl⟩
  · exact False.elim p1
theorem VRs.cut {K : PySem.W.Frag} {H : Hp} {ρ : List Addr} {vs : List V} {ws : List W} (r : VRs K H ρ vs ws) (lo hi : Option Int) : VRs K H ρ (cutV vs lo hi) (cutW ws lo hi) := by
  unfold cutV cutW
  rw [r.length]
  exact (r.drop _).take _
theorem cutS_cut (s : List Nat) (lo hi : Option Int) : cutS ⟨s.toArray⟩ lo hi = ⟨(cutW s lo hi).toArray⟩ := by
  unfold cutS cutW
  rw [Str_length]
def rSlAll (K : PySem.W.Frag) : V → Option Int → Option Int → Hp → VK → Prop := fun x lo hi H Q => rSlS x lo hi H Q ∨ (rSlA K x lo hi H Q ∨ rSlL K x lo hi H Q)
theorem sl_all : SlR X (rSlAll X.K) := SlR.or sl_str (SlR.or sl_tupA sl_list)
theorem sl_serves (E : XK) {H : Hp} {ρ : List Addr} {h : List O} {x : V} {wx : W} {lo hi : Option Int} {Q : VK} (hr : HR X.K G H ρ h) (rx : VR X.K H ρ x wx) (p : Post X.K G E (VRel X.K) Q H ρ (oSl wx lo hi h)) : rSlAll X.K x lo hi H Q := by
  unfold oSl at p
  split at p
  · rename_i s
    split at p
    · rename_i hl
      exact .inl ⟨_, rx.str, len_le hl, p.here hr (vr_str' (cutS_cut s lo hi))⟩
    · exact False.elim p
  · rename_i xs
    unfold VR at rx
    obtain ⟨a, vs, rfl, q, z⟩ := rx
    refine .inr (.inl ⟨a, vs, rfl, q, fun e => p.here hr (vr_tup q ?_), fun _ => new_tup hr (z.cut lo hi) p⟩)
    have e2 : cutV vs lo hi = vs := by
      unfold cutV
      rw [e.1, e.2]
      simp
    have := z.cut lo hi
    rw [e2] at this
    exact this
  · split at p
    · rename_i xs hx
      obtain ⟨a, vs, rfl, q, z⟩ := sqL_ok hr rx hx
      exact .inr (.inr ⟨a, vs, rfl, q, new_lst hr (z.cut lo hi) p⟩)
    · exact False.elim p
theorem se_sl {lo hi : Option Expr} {ml mh : M (Option Int)} (ha : SE G X a ma) (hl : SO G X lo ml) (hh : SO G X hi mh) : SE G X (.Subscript a (.Slice lo hi none p2) pos) (mSl ma ml mh) := fun Wx tk =>
  (pe_slice sl_all (ha Wx tk) (hl Wx tk) (hh Wx tk)).imp fun σ H Q p => rd.bnd (Rel := VRel X.K) p fun H0 ρ0 e sr x H1 ρ1 h1 wx x1 r1 vx p1 => by
    refine ⟨ρ1, e, h1, r1, sr.mono x1, (Post.bnd (Rel := ORel) p1).imp fun l H2 q => ?_⟩
    obtain ⟨ρ2, h2, wl, x2, r2, el, p2⟩ := q
    cases el
    refine ⟨ρ2, e, h2, r2, (sr.mono x1).mono x2, (Post.bnd (Rel := ORel) p2).imp fun u H3 q => ?_⟩
    obtain ⟨ρ3, h3, wu, x3, r3, eu, p3⟩ := q
    cases eu
    exact sl_serves _ r3 ((vx.mono x2).mono x3) p3

/-! ### calls of what is built in -/
def mCB (op : List W → List O → Out W) (m : M (List W)) : M W := fun e h => (m e h).bnd fun ws h => op ws h
def ServesC (K : PySem.W.Frag) (G : Gx) (op : List W → List O → Out W) (r : List V → Hp → VK → Prop) : Prop := ∀ (E : XK) (H : Hp) (ρ : List Addr) (h : List O) (vs : List V) (ws : List W) (Q : VK),
  HR K G H ρ h → VRs K H ρ vs ws → Post K G E (VRel K) Q H ρ (op ws h) → r vs H Q
def CaS (G : Gx) (X : Cx) (f : Value) (op : List W → List O → Out W) : Prop := ∃ r, CallR X f r ∧ ServesC X.K G op r
theorem se_callB {id : String} {x : Str} {es : List Expr} {op : List W → List O → Out W} {mr : M (List W)} {p : Pos} (s : CaS G X (.builtin id) op) (hg : Gl X x) (hm : X.mg x = none) (hv : bootBuiltins x = some (.builtin id)) (ha : SA G X (e :: es) mr)
    (hn : x ≠ "__name__" := by decide) (hdb : (x == ("__debug__" : Str)) = false := by decide)
    (he : starEach (e :: es) X.env = (false, eval e X.env) :: starEach es X.env := by rfl) (hpl : (backTo pos (starEach es X.env)).any (·.1) = false := by rfl) : SE G X (.Call (.Name x p) (e :: es) [] pos) (mCB op mr) := fun Wx tk => by
  obtain ⟨r, hc, s⟩ := s
  exact (pe_callB hc hg hm hv (ha Wx tk) hn hdb he hpl).imp fun σ H Q p => rd.bnd (Rel := VsRel X.K) p fun H0 ρ0 e sr x H1 ρ1 h1 wx x1 r1 vx p1 => s _ _ _ _ _ _ _ r1 vx p1
theorem se_callTy {T : String} {x : Str} {es : List Expr} {op : List W → List O → Out W} {mr : M (List W)} {p : Pos} (s : CaS G X (.type T) op) (hg : Gl X x) (hm : X.mg x = none) (hv : bootBuiltins x = some (.type T)) (ha : SA G X (e :: es) mr)
    (hn : x ≠ "__name__" := by decide) (hdb : (x == ("__debug__" : Str)) = false := by decide)
    (he : starEach (e :: es) X.env = (false, eval e X.env) :: starEach es X.env := by rfl) (hpl : (backTo pos (starEach es X.env)).any (·.1) = false := by rfl) : SE G X (.Call (.Name x p) (e :: es) [] pos) (mCB op mr) := fun Wx tk => by
  obtain ⟨r, hc, s⟩ := s
  exact (pe_callTy hc hg hm hv (ha Wx tk) hn hdb he hpl).imp fun σ H Q p => rd.bnd (Rel := VsRel X.K) p fun H0 ρ0 e sr x H1 ρ1 h1 wx x1 r1 vx p1 => s _ _ _ _ _ _ _ r1 vx p1
theorem VRs.inv1 {K : PySem.W.Frag} {H : Hp} {ρ : List Addr} {vs : List V} {w : W} (r : VRs K H ρ vs [w]) : ∃ v, vs = [v] ∧ VR K H ρ v w := by
  unfold VRs at r
  obtain ⟨v, l, rfl, q, z⟩ := r
  unfold VRs at z
  exact ⟨v, by rw [z], q⟩
theorem VRs.inv2 {K : PySem.W.Frag} {H : Hp} {ρ : List Addr} {vs : List V} {w w' : W} (r : VRs K H ρ vs [w, w']) : ∃ v v', vs = [v, v'] ∧ VR K H ρ v w ∧ VR K H ρ v' w' := by
  unfold VRs at r
  obtain ⟨v, l, rfl, q, z⟩ := r
  obtain ⟨v', rfl, q'⟩ := VRs.inv1 z
  exact ⟨v, v', rfl, q, q'⟩
theorem VRs.inv0 {K : PySem.W.Frag} {H : Hp} {ρ : List Addr} {vs : List V} (r : VRs K H ρ vs []) : vs = [] := by unfold VRs at r; exact r
def oLen (ws : List W) (h : List O) : Out W := match ws with
  | [.str s] => if s.length ≤ lim then .ok (.int s.length) h else .bad
  | [.ref n] => match h[n]? with
    | some (.lst xs) => .ok (.int xs.length) h
    | some (.dic xs) => .ok (.int xs.length) h
    | _ => .bad
  | [.tup xs] => .ok (.int xs.length) h
  | [.rol xs] => .ok (.int xs.length) h
  | _ => .bad
theorem cas_len : CaS G X (.builtin "len") oLen := ⟨_, CallR.or call_len_str (CallR.or call_len_seq call_lenD), fun E H ρ h vs ws Q hr r p => by
  unfold oLen at p
  split at p
  · rename_i s
    split at p
    · rename_i hl
      obtain ⟨v, rfl, q⟩ := r.inv1
      exact .inl ⟨_, by rw [q.str], len_le hl, by rw [Str_length]; exact p.here hr vr_int⟩
    · exact False.elim p
  · rename_i n
    obtain ⟨v, rfl, q⟩ := r.inv1
    obtain ⟨a, rfl, ea⟩ := q.ref
    split at p
    · rename_i xs hx
      obtain ⟨vs, e, z⟩ := hr.look ea hx
      exact .inr (.inl ⟨a, vs, rfl, .inl (.inl (.inl e)), by rw [z.length]; exact p.here hr vr_int⟩)
    · rename_i xs hx
      obtain ⟨vs, e, z⟩ := hr.look ea hx
      exact .inr (.inr ⟨a, vs, rfl, e, by rw [KRs.length z]; exact p.here hr vr_int⟩)
    · exact False.elim p
  · rename_i xs
    obtain ⟨v, rfl, q⟩ := r.inv1
    obtain ⟨a, vs, rfl, q, z⟩ := sqA_ok (xs := xs) hr q rfl
    exact .inr (.inl ⟨a, vs, rfl, q, by rw [z.length]; exact p.here hr vr_int⟩)
  · rename_i xs
    obtain ⟨v, rfl, q⟩ := r.inv1
    obtain ⟨a, vs, rfl, q, z⟩ := sqA_ok (xs := xs) hr q rfl
    exact .inr (.inl ⟨a, vs, rfl, q, by rw [z.length]; exact p.here hr vr_int⟩)
  · exact False.elim p⟩
def oAbs (ws : List W) (h : List O) : Out W := match ws with
  | [.int i] => .ok (.int (if i < 0 then -i else i)) h
  | _ => .bad
theorem cas_abs : CaS G X (.builtin "abs") oAbs := ⟨_, call_abs, fun E H ρ h vs ws Q hr r p => by
  unfold oAbs at p
  split at p
  · obtain ⟨v, rfl, q⟩ := r.inv1
    exact ⟨_, by rw [q.int], p.here hr vr_int⟩
  · exact False.elim p⟩
def oInt (ws : List W) (h : List O) : Out W := match ws with
  | [.int i] => .ok (.int i) h
  | [.bl b] => .ok (.int (if b then 1 else 0)) h
  | _ => .bad
theorem cas_int : CaS G X (.type "int") oInt := ⟨_, call_int1, fun E H ρ h vs ws Q hr r p => by
  unfold oInt at p
  split at p
  · obtain ⟨v, rfl, q⟩ := r.inv1
    exact .inl ⟨_, by rw [q.int], p.here hr vr_int⟩
  · obtain ⟨v, rfl, q⟩ := r.inv1
    exact .inr ⟨_, by rw [q.bl], p.here hr vr_int⟩
  · exact False.elim p⟩
/-- ints of a row -/
def intsOf : List W → Option (List Int)
  | [] => some []
  | .int i :: r => (intsOf r).map fun l => i :: l
  | _ :: _ => none
theorem intsOf_ok {K : PySem.W.Frag} {H : Hp} {ρ : List Addr} : ∀ {ws : List W} {vs : List V} {l : List Int}, VRs K H ρ vs ws → intsOf ws = some l → vs = l.map V.int
  | [], vs, l, r, e => by cases e; exact r.inv0
  | .int i :: r, vs, l, q, e => by
    unfold intsOf at e
    unfold VRs at q
    obtain ⟨v, t, rfl, q1, z⟩ := q
    cases hi : intsOf r with
    | none => rw [hi] at e; cases e
    | some l' =>
      rw [hi] at e
      cases e
      rw [q1.int, intsOf_ok z hi, List.map_cons]
  | .non :: r, vs, l, q, e => by cases e
  | .bl _ :: r, vs, l, q, e => by cases e
  | .str _ :: r, vs, l, q, e => by cases e
  | .tup _ :: r, vs, l, q, e => by cases e
  | .rol _ :: r, vs, l, q, e => by cases e
  | .ref _ :: r, vs, l, q, e => by cases e
def maxI : List Int → Int
  | [] => 0
  | [x] => x
  | x :: y :: r => let m := maxI (y :: r); if m > x then m else x
def minI : List Int → Int
  | [] => 0
  | [x] => x
  | x :: y :: r => let m := minI (y :: r); if m < x then m else x
def oMax (ws : List W) (h : List O) : Out W := match ws with
  | [.int i, .int j] => .ok (.int (if j > i then j else i)) h
  | [x] => match sqL x h with
    | some xs => match intsOf xs with
      | some l => if 0 < l.length then .ok (.int (maxI l)) h else .bad
      | none => .bad
    | none => .bad
  | _ => .bad
/-- the texts of a row -/
def strsOf : List W → Option (List (List Nat))
  | [] => some []
  | .str s :: r => (strsOf r).map fun l => s :: l
  | _ :: _ => none
abbrev mkS (l : List Nat) : Str := ⟨l.toArray⟩
theorem strsOf_ok {K : PySem.W.Frag} {H : Hp} {ρ : List Addr} : ∀ {ws : List W} {vs : List V} {l : List (List Nat)}, VRs K H ρ vs ws → strsOf ws = some l → vs = (l.map mkS).map V.str
  | [], vs, l, r, e => by cases e; exact r.inv0
  | .str i :: r, vs, l, q, e => by
    unfold strsOf at e
    unfold VRs at q
    obtain ⟨v, t, rfl, q1, z⟩ := q
    cases hi : strsOf r with
    | none => rw [hi] at e; cases e
    | some l' =>
      rw [hi] at e
      cases e
      rw [q1.str, strsOf_ok z hi, List.map_cons, List.map_cons]
  | .non :: r, vs, l, q, e => by cases e
  | .bl _ :: r, vs, l, q, e => by cases e
  | .int _ :: r, vs, l, q, e => by cases e
  | .tup _ :: r, vs, l, q, e => by cases e
  | .rol _ :: r, vs, l, q, e => by cases e
  | .ref _ :: r, vs, l, q, e => by cases e
def oTuple (ws : List W) (h : List O) : Out W := match ws with
  | [.tup xs] => .ok (.tup xs) h
  | [x] => match sqL x h with
    | some xs => .ok (.tup xs) h
    | none => .bad
  | _ => .bad
theorem cas_tuple : CaS G X (.type "tuple") oTuple := ⟨_, call_tuple_of, fun E H ρ h vs ws Q hr r p => by
  unfold oTuple at p
  split at p
  · obtain ⟨v, rfl, q⟩ := r.inv1
    unfold VR at q
    obtain ⟨a, vs, rfl, q, z⟩ := q
    exact ⟨a, vs, rfl, .inr ⟨q, p.here hr (vr_tup q z)⟩⟩
  · obtain ⟨v, rfl, q⟩ := r.inv1
    split at p
    · rename_i xs hx
      obtain ⟨a, vs, rfl, q, z⟩ := sqL_ok hr q hx
      exact ⟨a, vs, rfl, .inl ⟨q, new_tup hr z p⟩⟩
    · exact False.elim p
  · exact False.elim p⟩
/-! ### methods of what is built in -/
def tyW (T : String) (w : W) (h : List O) : Bool := match w with
  | .str _ => T == "str"
  | .rol _ => T == "list"
  | .ref n => match h[n]? with
    | some (.lst _) => T == "list"
    | some (.dic _) => T == "dict"
    | _ => false
  | _ => false
theorem tyW_ok {K : PySem.W.Frag} {H : Hp} {ρ : List Addr} {h : List O} {T : String} {v : V} {w : W} (hr : HR K G H ρ h) (r : VR K H ρ v w) (e : tyW T w h = true) : tyV K T v H := by
  cases w with
  | str s => rw [r.str]; exact eq_of_beq e
  | rol xs =>
    obtain ⟨a, vs, rfl, q, z⟩ := sqL_ok (xs := xs) hr r rfl
    exact .inl ⟨eq_of_beq e, vs, q⟩
  | ref n =>
    obtain ⟨a, rfl, ea⟩ := r.ref
    unfold tyW at e
    dsimp only at e
    split at e
    · rename_i xs hx
      obtain ⟨vs, q, z⟩ := hr.look ea hx
      exact .inl ⟨eq_of_beq e, vs, .inl (.inl q)⟩
    · rename_i xs hx
      obtain ⟨vs, q, z⟩ := hr.look ea hx
      exact .inr (.inr (.inl ⟨eq_of_beq e, .inl ⟨vs, q⟩⟩))
    · cases e
  | _ => cases e
def mMeth (T : String) (op : W → List W → List O → Out W) (o : M W) (m : M (List W)) : M W := fun e h => (o e h).bnd fun x h => if tyW T x h = true then (m e h).bnd fun ws h => op x ws h else .bad
def ServesM (K : PySem.W.Frag) (G : Gx) (op : W → List W → List O → Out W) (r : V → List V → Hp → VK → Prop) : Prop := ∀ (E : XK) (H : Hp) (ρ : List Addr) (h : List O) (x : V) (wx : W) (vs : List V) (ws : List W) (Q : VK),
  HR K G H ρ h → VR K H ρ x wx → VRs K H ρ vs ws → Post K G E (VRel K) Q H ρ (op wx ws h) → r x vs H Q
def MeS (G : Gx) (X : Cx) (id : String) (op : W → List W → List O → Out W) : Prop := ∃ r, MtR X id r ∧ ServesM X.K G op r
theorem se_meth {T : String} {id : String} {name : Str} {o e : Expr} {es : List Expr} {op : W → List W → List O → Out W} {mo : M W} {mr : M (List W)} {apos cpos : Pos} (pa : PlainAttrs T) (slot : Slot T name id) (hty : typeOf (.builtin id) = pure (.type "method_descriptor")) (s : MeS G X id op)
    (ho : SE G X o mo) (ha : SA G X (e :: es) mr) (hbase : attributeBase o name X.env (eval o X.env) = eval o X.env := by rfl)
    (hfew : ((backTo cpos (starEach (e :: es) X.env)).all (fun x => !x.1) && (backToKw cpos (keywordEach [] X.env)).all (fun x => x.1.isSome)
      && decide ((e :: es).length + ([] : List Keyword).length + (if ([] : List Keyword).isEmpty then 0 else 1) < 30)) = true := by rfl)
    (hline : (apos.endLine == cpos.line) = true := by rfl) (hs : starEach (e :: es) X.env = (false, eval e X.env) :: starEach es X.env := by rfl) (hplain : (backTo cpos (starEach es X.env)).any (·.1) = false := by rfl) :
    SE G X (.Call (.Attribute o name apos) (e :: es) [] cpos) (mMeth T op mo mr) := fun Wx tk => by
  obtain ⟨r, hm, s⟩ := s
  refine (pe_bm pa slot hty hm (ho Wx tk) (ha Wx tk) hbase hfew hline hs hplain).imp fun σ H Q p => rd.bnd (Rel := VRel X.K) p fun H0 ρ0 e sr x H1 ρ1 h1 wx x1 r1 vx p1 => ?_
  split at p1
  · rename_i hty
    refine ⟨tyW_ok r1 vx hty, ρ1, e, h1, r1, sr.mono x1, (Post.bnd (Rel := VsRel X.K) p1).imp fun ys H2 q => ?_⟩
    obtain ⟨ρ2, h2, wys, x2, r2, vys, p2⟩ := q
    exact s _ _ _ _ _ _ _ _ _ r2 (vx.mono x2) vys p2
  · exact False.elim p1
section
variable {K : PySem.W.Frag} {H : Hp} {ρ : List Addr} {h : List O} {E : XK} {vs : List V} {ws : List W} {Q : VK} {n : Nat} {a : Addr}
/-- a list is changed -/
theorem put_lst {w : W} {v : V} (hr : HR K G H ρ h) (ea : ρ[n]? = some a) (nk : NoDik h n) (r : VRs K H ρ vs ws) (rv : ∀ H', VR K H' ρ v w) (p : Post K G E (VRel K) Q H ρ (.ok w (h.set n (.lst ws)))) : Q v (upd H a (.lst vs)) := by
  obtain ⟨r1, x1⟩ := hr.write (o := .lst vs) (u := .lst ws) ea nk rfl fun x => ⟨vs, upd_same, r.mono x⟩
  exact p _ _ _ x1 r1 (rv _)
end
def oAppend (x : W) (ws : List W) (h : List O) : Out W := match x, ws with
  | .ref n, [y] => match lstAt h n with
    | some xs => if xs.length < lim then .ok .non (h.set n (.lst (xs ++ [y]))) else .bad
    | none => .bad
  | _, _ => .bad
theorem mes_append : MeS G X "list.append" oAppend := ⟨_, mt_append, fun E H ρ h x wx vs ws Q hr rx r p => by
  unfold oAppend at p
  split at p
  · split at p
    · rename_i xs hx
      split at p
      · rename_i hl
        obtain ⟨a, rfl, ea⟩ := rx.ref
        obtain ⟨y, rfl, ry⟩ := r.inv1
        obtain ⟨vs, q, z⟩ := hr.look ea (lstAt_some hx)
        exact ⟨a, vs, y, rfl, rfl, q, by rw [z.length]; exact Nat.lt_of_lt_of_le hl (lim_size (Nat.le_refl _)), put_lst hr ea (lstAt_nk (by assumption)) (z.append (.one ry)) (fun _ => vr_non) p⟩
      · exact False.elim p
    · exact False.elim p
  · exact False.elim p⟩
end
end Den
set_option maxRecDepth 100000
/-! Statements, loops, comprehensions, calls of defs. -/
namespace Den
open PySem L2 PyProof.Rows
inductive SOut where
  | nx (e : Env) (h : List O)
  | rt (w : W) (h : List O)
  | bk (e : Env) (h : List O)
  | ct (e : Env) (h : List O)
  | exc (c : Nat) (p : Option W) (e : Env) (h : List O)
  | bad
abbrev Sm := Env → List O → SOut
def Out.stm {α : Type} (o : Out α) (e : Env) (f : α → List O → SOut) : SOut := match o with
  | .ok a h => f a h
  | .exc c p h => .exc c p e h
  | .bad => .bad
@[simp] theorem Out.stm_ok {α : Type} (a : α) (h : List O) (e : Env) (f : α → List O → SOut) : (Out.ok a h).stm e f = f a h := rfl
def PostS (K : PySem.W.Frag) (G : Gx) (Wx : WX) (D : Ends) (H : Hp) (ρ : List Addr) : SOut → Prop
  | .nx e h => ∀ ρ' H' σ', Ext H ρ H' ρ' → HR K G H' ρ' h → SR K H' ρ' σ' e → D.nx σ' H'
  | .bk e h => ∀ ρ' H' σ', Ext H ρ H' ρ' → HR K G H' ρ' h → SR K H' ρ' σ' e → D.bk σ' H'
  | .ct e h => ∀ ρ' H' σ', Ext H ρ H' ρ' → HR K G H' ρ' h → SR K H' ρ' σ' e → D.ct σ' H'
  | .rt w h => ∀ ρ' H' v, Ext H ρ H' ρ' → HR K G H' ρ' h → VR K H' ρ' v w → D.rt v H'
  | .exc c p e h => ∀ ρ' H' σ' cls d, Ext H ρ H' ρ' → HR K G H' ρ' h → SR K H' ρ' σ' e → ER K G H' ρ' cls d c p → Wx cls d σ' H'
  | .bad => False
def rdS (K : PySem.W.Frag) (G : Gx) (Wx : WX) (m : Sm) : TS := fun D σ H => ∃ ρ e h, HR K G H ρ h ∧ SR K H ρ σ e ∧ PostS K G Wx D H ρ (m e h)
def SS (G : Gx) (X : Cx) (s : Stmt) (m : Sm) : Prop := ∀ Wx, Takes X Wx → PS X s (rdS X.K G Wx m)
def SSs (G : Gx) (X : Cx) (s : List Stmt) (m : Sm) : Prop := ∀ Wx, Takes X Wx → PSs X s (rdS X.K G Wx m)
section
variable {K : PySem.W.Frag} {G : Gx} {Wx : WX} {D : Ends} {H H1 : Hp} {ρ ρ1 : List Addr} {h : List O} {σ : L2.St} {e : Env}
theorem PostS.ext {o : SOut} (x : Ext H ρ H1 ρ1) (p : PostS K G Wx D H ρ o) : PostS K G Wx D H1 ρ1 o := by
  cases o with
  | nx e h => exact fun ρ' H' v x' r q => p ρ' H' v (x.trans x') r q
  | rt e h => exact fun ρ' H' v x' r q => p ρ' H' v (x.trans x') r q
  | bk e h => exact fun ρ' H' v x' r q => p ρ' H' v (x.trans x') r q
  | ct e h => exact fun ρ' H' v x' r q => p ρ' H' v (x.trans x') r q
  | exc c q e h' => exact fun ρ' H' σ' cls d x' r s q => p ρ' H' σ' cls d (x.trans x') r s q
  | bad => exact p
theorem PostS.stm {α β : Type} {Rel : Hp → List Addr → β → α → Prop} {o : Out α} {f : α → List O → SOut} (sr : SR K H ρ σ e) (p : PostS K G Wx D H ρ (o.stm e f)) :
    Post K G (fun cls d H' => Wx cls d σ H') Rel (fun v H1 => ∃ ρ1 h1 w, Ext H ρ H1 ρ1 ∧ HR K G H1 ρ1 h1 ∧ Rel H1 ρ1 v w ∧ PostS K G Wx D H1 ρ1 (f w h1)) H ρ o := by
  cases o with
  | ok w h' => exact fun ρ' H' v x r q => ⟨ρ', h', w, x, r, q, PostS.ext x p⟩
  | exc c q h' => exact fun ρ' H' cls d x r q => p ρ' H' σ cls d x r (sr.mono x) q
  | bad => exact p
/-- go on behind an expression -/
theorem rdS.stm {α β : Type} {Rel : Hp → List Addr → β → α → Prop} {m : M α} {f : Env → α → List O → SOut} {Q' : β → Hp → Prop} (p : rdS K G Wx (fun e h => (m e h).stm e (f e)) D σ H)
    (k : ∀ H0 ρ0 e, SR K H0 ρ0 σ e → ∀ v H1 ρ1 h1 w, Ext H0 ρ0 H1 ρ1 → HR K G H1 ρ1 h1 → Rel H1 ρ1 v w → PostS K G Wx D H1 ρ1 (f e w h1) → Q' v H1) : rd K G Wx Rel m σ H Q' := by
  obtain ⟨ρ, e, h, hr, sr, p⟩ := p
  refine ⟨ρ, e, h, hr, sr, (PostS.stm (Rel := Rel) sr p).imp fun v H1 q => ?_⟩
  obtain ⟨ρ1, h1, w, x, r1, q1, p1⟩ := q
  exact k H ρ e sr v H1 ρ1 h1 w x r1 q1 p1
end

/-! ### blocks -/
def mSkip : Sm := fun e h => .nx e h
def mSeq (a b : Sm) : Sm := fun e h => match a e h with
  | .nx e h => b e h
  | .rt w h => .rt w h
  | .bk e h => .bk e h
  | .ct e h => .ct e h
  | .exc c p e h => .exc c p e h
  | .bad => .bad
section
variable {G : Gx} {X : Cx} {s : Stmt} {sts : List Stmt} {a b c : Sm} {e : Expr} {m : M W} {pos : Pos}
theorem sss_nil : SSs G X [] mSkip := fun Wx tk => pss_nil.imp fun D σ H p => by
  obtain ⟨ρ, e, h, hr, sr, p⟩ := p
  exact p ρ H σ (Ext.refl hr) hr sr
theorem sss_one (h : SS G X s a) : SSs G X [s] a := fun Wx tk => pss_one (h Wx tk)
theorem sss_cons (h1 : SS G X s a) (h2 : SSs G X sts b) : SSs G X (s :: sts) (mSeq a b) := fun Wx tk => (pss_cons (h1 Wx tk) (h2 Wx tk)).imp fun D σ H p => by
  obtain ⟨ρ, e, h, hr, sr, p⟩ := p
  refine ⟨ρ, e, h, hr, sr, ?_⟩
  unfold mSeq at p
  cases hm : a e h with
  | nx e1 h1 => rw [hm] at p; exact fun ρ' H' σ' x r q => ⟨ρ', e1, h1, r, q, p.ext x⟩
  | rt w h1 => rw [hm] at p; exact p
  | bk e1 h1 => rw [hm] at p; exact p
  | ct e1 h1 => rw [hm] at p; exact p
  | exc c q e1 h1 => rw [hm] at p; exact p
  | bad => rw [hm] at p; exact p
def mBrk : Sm := fun e h => .bk e h
def mCnt : Sm := fun e h => .ct e h
def mDrop (m : M W) : Sm := fun e h => (m e h).stm e fun _ h => .nx e h
theorem ss_expr (he : SE G X e m) (hs : swapsWith e none pos.line X.env = pure false := by rfl) : SS G X (.Expr e pos) (mDrop m) := fun Wx tk => (ps_expr (he Wx tk) hs).imp fun D σ H p =>
  rdS.stm (Rel := VRel X.K) p fun H0 ρ0 e sr v H1 ρ1 h1 w x r q p1 => p1 ρ1 H1 σ (Ext.refl r) r (sr.mono x)
def mRet (m : M W) : Sm := fun e h => (m e h).stm e fun w h => .rt w h
theorem ss_ret (he : SE G X e m) : SS G X (.Return (some e) pos) (mRet m) := fun Wx tk => (ps_ret (he Wx tk)).imp fun D σ H p =>
  rdS.stm (Rel := VRel X.K) p fun H0 ρ0 e sr v H1 ρ1 h1 w x r q p1 => p1 ρ1 H1 v (Ext.refl r) r q
def mIfS (t : M Bool) (a b : Sm) : Sm := fun e h => (t e h).stm e fun c h => if c = true then a e h else b e h
theorem ss_if {ce : Expr} {A B : List Stmt} {t : M Bool} (hc : ST G X ce t) (ha : SSs G X A a) (hb : SSs G X B b) : SS G X (.If ce A B pos) (mIfS t a b) := fun Wx tk =>
  (ps_if (hc Wx tk) (ha Wx tk) (hb Wx tk)).imp fun D σ H p => rdS.stm (Rel := BRel) p fun H0 ρ0 e sr v H1 ρ1 h1 w x r q p1 => by
    cases q
    cases v with
    | true => exact iteT ⟨ρ1, e, h1, r, sr.mono x, p1⟩
    | false => exact iteF ⟨ρ1, e, h1, r, sr.mono x, p1⟩
/-- name = value -/
def mSet (i : Nat) (m : M W) : Sm := fun e h => (m e h).stm e fun w h => .nx (e.set i (some w)) h
theorem asg_name {i : Nat} {Wx : WX} {D : Ends} {σ : L2.St} {H : Hp} (p : rdS X.K G Wx (mSet i m) D σ H) : tAsg (rd X.K G Wx (VRel X.K) m) (gName i) D σ H :=
  rdS.stm (Rel := VRel X.K) p fun H0 ρ0 e sr v H1 ρ1 h1 w x r q p1 => p1 ρ1 H1 _ (Ext.refl r) r ((sr.mono x).set i q)
theorem ss_set {i : Nat} {x : Str} {pos' : Pos} (hN : X.N.Nodup) (hi : X.N[i]? = some x) (hx : Loc X.env.scope x) (he : SE G X e m) (hs : swapsWith e (some (.Name x pos')) pos.line X.env = pure false := by rfl)
    (hf : X.fn x = true ∨ X.env.scope.names.lookup x = some .local := by first | exact .inl rfl | exact .inr rfl | assumption) : SS G X (.Assign [.Name x pos'] e pos) (mSet i m) := fun Wx tk =>
  (ps_set hN hi hx (he Wx tk) hs hf).imp fun D σ H p => asg_name p
def mTs (is : List Nat) (m : M (List W)) : Sm := fun e h => (m e h).stm e fun ws h => if is.length = ws.length then .nx ((is.zip ws).foldl (fun e p => e.set p.1 (some p.2)) e) h else .bad
theorem ss_par {i j : Nat} {x y : Str} {a b : Expr} {mr : M (List W)} {px py pt : Pos} {kt k2 pt2} (hc : X.calm = true) (hN : X.N.Nodup) (hi : X.N[i]? = some x) (hj : X.N[j]? = some y) (hij : i ≠ j)
    (hx : X.env.scope.names.lookup x = some .local) (hy : X.env.scope.names.lookup y = some .local) (ha : SA G X [a, b] mr)
    (hw : swappedStores [.Tuple [.Name x px, .Name y py] kt pt] (.Tuple [a, b] k2 pt2) X.env = pure (some [x, y]))
    (hs : swapsWithSole [.Tuple [.Name x px, .Name y py] kt pt] (.Tuple [a, b] k2 pt2) pos.line X.env = pure false := by rfl) :
    SS G X (.Assign [.Tuple [.Name x px, .Name y py] kt pt] (.Tuple [a, b] k2 pt2) pos) (mTs [i, j] mr) := fun Wx tk =>
  (ps_par hc hN hi hj hij hx hy (ha Wx tk) hw hs).imp fun D σ H p => rdS.stm (Rel := VsRel X.K) p fun H0 ρ0 e sr v H1 ρ1 h1 w x r q p1 => by
    split at p1
    · rename_i hl
      match w, hl, q, p1 with
      | [w1, w2], hl, q, p1 =>
        obtain ⟨v1, v2, rfl, q1, q2⟩ := q.inv2
        exact ⟨v1, v2, rfl, p1 ρ1 H1 _ (Ext.refl r) r (((sr.mono x).set i q1).set j q2)⟩
    · exact False.elim p1

/-! ### targets: names, tuples of names -/
abbrev Tg := W → Env → Option Env
/-- what a target sets: slots among vs alone -/
def TgOk (K : PySem.W.Frag) (G : Gx) (vs : List Nat) (g : TG) (t : Tg) : Prop := ∀ (H : Hp) (ρ : List Addr) (h : List O) (σ : L2.St) (e e1 : Env) (v : V) (w : W) (Q : L2.St → Hp → Prop),
  HR K G H ρ h → SR K H ρ σ e → VR K H ρ v w → t w e = some e1 → (∀ σ1, SR K H ρ σ1 e1 → wipe σ1 vs = wipe σ vs → Q σ1 H) → g v σ H Q
def tgN (i : Nat) : Tg := fun w e => some (e.set i (some w))
def tgTs : List Nat → List W → Env → Option Env
  | [], [], e => some e
  | i :: is, w :: ws, e => tgTs is ws (e.set i (some w))
  | _, _, _ => none
def tgT (is : List Nat) : Tg := fun w e => match w with
  | .tup ws => tgTs is ws e
  | _ => none
theorem wipe_get {σ : L2.St} {j : Nat} : ∀ {vs : List Nat}, j ∉ vs → (wipe σ vs)[j]? = σ[j]?
  | [], _ => rfl
  | v :: vs, h => by
    have h1 : v ≠ j := fun z => h (by rw [z]; exact List.mem_cons_self)
    have h2 : j ∉ vs := fun z => h (List.mem_cons_of_mem _ z)
    unfold wipe
    rw [List.getElem?_set_ne h1]
    exact wipe_get h2
theorem wipe_in {σ : L2.St} {j : Nat} : ∀ {vs : List Nat}, j ∈ vs → (wipe σ vs)[j]? = if j < σ.length then some none else none
  | v :: vs, h => by
    unfold wipe
    by_cases hv : v = j
    · subst hv
      by_cases hl : v < σ.length
      · rw [if_pos hl, List.getElem?_set_self (by rw [wipe_length]; exact hl)]
      · rw [if_neg hl, List.getElem?_eq_none (by rw [List.length_set, wipe_length]; omega)]
    · rw [List.getElem?_set_ne hv]
      exact wipe_in (by rcases List.mem_cons.mp h with z | z; exact absurd z.symm hv; exact z)
theorem wipe_set {σ : L2.St} {i : Nat} {x : Option V} {vs : List Nat} (h : i ∈ vs) : wipe (σ.set i x) vs = wipe σ vs := by
  apply List.ext_getElem?
  intro j
  by_cases hj : j ∈ vs
  · rw [wipe_in hj, wipe_in hj, List.length_set]
  · rw [wipe_get hj, wipe_get hj]
    exact List.getElem?_set_ne (fun z : i = j => hj (by rw [← z]; exact h))
theorem tgk_name {K : PySem.W.Frag} {vs : List Nat} {i : Nat} (hi : i ∈ vs := by decide) : TgOk K G vs (gName i) (tgN i) := fun H ρ h σ e e1 v w Q hr sr rv ht k => by
  cases ht
  exact k _ (sr.set i rv) (wipe_set hi)
theorem tgk_tup {K : PySem.W.Frag} {vs : List Nat} : ∀ {is : List Nat}, (∀ i ∈ is, i ∈ vs) → ∀ {H : Hp} {ρ : List Addr} {h : List O} {σ : L2.St} {e e1 : Env} {xs : List V} {ws : List W} {Q : L2.St → Hp → Prop},
    HR K G H ρ h → SR K H ρ σ e → VRs K H ρ xs ws → tgTs is ws e = some e1 → (∀ σ1, SR K H ρ σ1 e1 → wipe σ1 vs = wipe σ vs → Q σ1 H) → (is.foldr (fun i g => gCons (gName i) g) gNil) xs σ H Q
  | [], hi, H, ρ, h, σ, e, e1, xs, ws, Q, hr, sr, rv, ht, k => by
    cases ws with
    | nil => cases ht; exact ⟨rv.inv0, k _ sr rfl⟩
    | cons w ws => cases ht
  | i :: is, hi, H, ρ, h, σ, e, e1, xs, ws, Q, hr, sr, rv, ht, k => by
    cases ws with
    | nil => cases ht
    | cons w ws =>
      unfold VRs at rv
      obtain ⟨v, r, rfl, q, z⟩ := rv
      refine ⟨v, r, rfl, ?_⟩
      exact tgk_tup (fun j hj => hi j (List.mem_cons_of_mem _ hj)) hr (sr.set i q) z ht fun σ1 s1 e1 => k σ1 s1 (e1.trans (wipe_set (hi i List.mem_cons_self)))
theorem tgk_tups {K : PySem.W.Frag} {vs is : List Nat} {n : Nat} (hn : is.length = n := by rfl) (hi : ∀ i ∈ is, i ∈ vs := by decide) : TgOk K G vs (gTup K n (is.foldr (fun i g => gCons (gName i) g) gNil)) (tgT is) := fun H ρ h σ e e1 v w Q hr sr rv ht k => by
  unfold tgT at ht
  split at ht
  · rename_i ws
    unfold VR at rv
    obtain ⟨a, vs', rfl, q, z⟩ := rv
    have hl : ∀ (is : List Nat) (ws : List W) (e : Env), tgTs is ws e = some e1 → is.length = ws.length := by
      intro is
      induction is with
      | nil => intro ws e h; cases ws with
        | nil => rfl
        | cons w ws => cases h
      | cons i is ih => intro ws e h; cases ws with
        | nil => cases h
        | cons w ws => rw [List.length_cons, List.length_cons, ih ws _ h]
    exact ⟨a, vs', rfl, q, by rw [z.length, ← hl _ _ _ ht, hn], tgk_tup hi hr sr z ht k⟩
  · cases ht
/-- target = value -/
def mAsg (t : Tg) (m : M W) : Sm := fun e h => (m e h).stm e fun w h => match t w e with
  | some e => .nx e h
  | none => .bad
theorem ss_asg {tg : Expr} {g : TG} {t : Tg} {vs : List Nat} (he : SE G X e m) (hg : PG X tg g) (ht : TgOk X.K G vs g t) (hs : swapsWithSole [tg] e pos.line X.env = pure false := by rfl) (hw : swappedStores [tg] e X.env = pure none := by rfl)
    (h1 : (assignEach [tg] X.env).map (·.2) = [assign tg X.env] := by rfl) : SS G X (.Assign [tg] e pos) (mAsg t m) := fun Wx tk =>
  (ps_asg (he Wx tk) hg hs hw h1).imp fun D σ H p => rdS.stm (Rel := VRel X.K) p fun H0 ρ0 e sr v H1 ρ1 h1 w x r q p1 => by
    split at p1
    · rename_i e1 he1
      exact ht H1 ρ1 h1 σ e e1 v w _ r (sr.mono x) q he1 fun σ1 s1 _ => p1 ρ1 H1 σ1 (Ext.refl r) r s1
    · exact False.elim p1

/-! ### op= -/
def oIadd (x y : W) (h : List O) : Out W := match x, y with
  | .int i, .int j => .ok (.int (i + j)) h
  | .str a, .str b => if a.length + b.length ≤ lim then .ok (.str (a ++ b)) h else .bad
  | _, _ => .bad
theorem _root_.L2.PIp.or {op : Operator} {r r' : TIp} (a : PIp X op r) (b : PIp X op r') : PIp X op (fun x y H Q => r x y H Q ∨ r' x y H Q) := fun pins s σ H x y v u Q I rx ry h => by
  rcases h with h | h
  · exact a pins s σ H x y v u Q I rx ry h
  · exact b pins s σ H x y v u Q I rx ry h
theorem pip_of {op : Operator} {r : R2} (h : OpR X (inplaceOp op) r) : PIp X op r := fun pins s σ H x y v u Q I rx ry q => h pins s σ H x y v u Q I rx ry q
def IpS (G : Gx) (X : Cx) (op : Operator) (f : W → W → List O → Out W) : Prop := ∃ r, PIp X op r ∧ Serves2 X.K G f r
theorem ips_add : IpS G X .Add oIadd := ⟨_, L2.PIp.or (pip_of iop_add) (pip_of iop_add_str), fun E H ρ h x y wx wy Q hr rx ry p => by
  unfold oIadd at p
  split at p
  · exact .inl ⟨_, _, rx.int, ry.int, p.here hr vr_int⟩
  · split at p
    · rename_i hl
      exact .inr ⟨_, _, rx.str, ry.str, by rw [Str_length, Str_length]; exact lim_size hl, p.here hr (vr_str' (Str_app _ _))⟩
    · exact False.elim p
  · exact False.elim p⟩
def mAug (i : Nat) (f : W → W → List O → Out W) (m : M W) : Sm := fun e h => match e[i]? with
  | some (some x) => (m e h).stm e fun y h => (f x y h).stm e fun z h => .nx (e.set i (some z)) h
  | _ => .bad
theorem ss_aug {i : Nat} {x : Str} {op : Operator} {f : W → W → List O → Out W} {pos' : Pos} (hN : X.N.Nodup) (hi : X.N[i]? = some x) (hx : Loc X.env.scope x) (s : IpS G X op f) (he : SE G X e m)
    (hf : X.fn x = true ∨ X.env.scope.names.lookup x = some .local := by first | exact .inl rfl | exact .inr rfl | assumption) : SS G X (.AugAssign (.Name x pos') op e pos) (mAug i f m) := fun Wx tk => by
  obtain ⟨r, ho, s⟩ := s
  refine (ps_aug hN hi hx (he Wx tk) ho hf).imp fun D σ H p => ?_
  obtain ⟨ρ, e, h, hr, sr, p⟩ := p
  unfold mAug at p
  split at p
  · rename_i w hw
    obtain ⟨v, hv, rv⟩ := sr.at_ _ _ hw
    refine ⟨v, hv, ρ, e, h, hr, sr, (PostS.stm (Rel := VRel X.K) sr p).imp fun y H1 q => ?_⟩
    obtain ⟨ρ1, h1, wy, x1, r1, vy, p1⟩ := q
    refine s (fun cls d H' => Wx cls d σ H') H1 ρ1 h1 v y w wy _ r1 (rv.mono x1) vy ((PostS.stm (Rel := VRel X.K) (sr.mono x1) p1).imp fun z H2 q => ?_)
    obtain ⟨ρ2, h2, wz, x2, r2, vz, p2⟩ := q
    exact p2 ρ2 H2 _ (Ext.refl r2) r2 (((sr.mono x1).mono x2).set i vz)
  · exact False.elim p

/-! ### o[i] = v, o[i] op= v of lists -/
def oSet (o i v : W) (h : List O) : Out Unit := match o, i with
  | .ref n, .int k => match lstAt h n with
    | some xs => match ixN xs.length k with
      | some j => .ok () (h.set n (.lst (xs.set j v)))
      | none => .bad
    | none => .bad
  | _, _ => .bad
abbrev URel : Hp → List Addr → Unit → Unit → Prop := fun _ _ _ _ => True
def ServesS (K : PySem.W.Frag) (G : Gx) (op : W → W → W → List O → Out Unit) (r : TSet) : Prop := ∀ (E : XK) (H : Hp) (ρ : List Addr) (h : List O) (o i v : V) (wo wi wv : W) (Q : Hp → Prop),
  HR K G H ρ h → VR K H ρ o wo → VR K H ρ i wi → VR K H ρ v wv → Post K G E URel (fun _ H' => Q H') H ρ (op wo wi wv h) → r o i v H Q
def SetS (G : Gx) (X : Cx) (op : W → W → W → List O → Out Unit) : Prop := ∃ r, PSet X r ∧ ServesS X.K G op r
theorem sets_list : SetS G X oSet := ⟨_, set_list, fun E H ρ h o i v wo wi wv Q hr ro ri rv p => by
  unfold oSet at p
  split at p
  · split at p
    · rename_i xs hx
      split at p
      · rename_i j hj
        obtain ⟨a, rfl, ea⟩ := ro.ref
        obtain ⟨vs, q, z⟩ := hr.look ea (lstAt_some hx)
        refine ⟨a, vs, _, j, rfl, ri.int, q, by rw [z.length]; exact hj, ?_⟩
        obtain ⟨r1, x1⟩ := hr.write (o := .lst (vs.set j v)) (u := .lst (xs.set j wv)) ea (lstAt_nk hx) rfl fun x => ⟨_, upd_same, (VRs.set rv j z).mono x⟩
        exact p ρ _ () x1 r1 trivial
      · exact False.elim p
    · exact False.elim p
  · exact False.elim p⟩
/-- ov[iv] = value: the value first -/
def mSetI (f : W → W → W → List O → Out Unit) (mo mi m : M W) : Sm := fun e h => (m e h).stm e fun v h => (mo e h).stm e fun o h => (mi e h).stm e fun i h => (f o i v h).stm e fun _ h => .nx e h
theorem ss_seti {oe ie : Expr} {mo mi : M W} {f : W → W → W → List O → Out Unit} {tpos : Pos} (s : SetS G X f) (ho : SE G X oe mo) (hi : SE G X ie mi) (he : SE G X e m)
    (ha : ∀ v, assign (.Subscript oe ie tpos) X.env v = (do
      let ov ← holding [v] (eval oe X.env)
      let iv ← holding [v, ov] (eval ie X.env)
      standAt tpos
      holding [v, ov, iv] (setItem ov iv v)
      release [v, ov, iv] []) := by intro _; rfl)
    (hs : swapsWithSole [.Subscript oe ie tpos] e pos.line X.env = pure false := by rfl) (hw : swappedStores [.Subscript oe ie tpos] e X.env = pure none := by rfl)
    (h1 : (assignEach [.Subscript oe ie tpos] X.env).map (·.2) = [assign (.Subscript oe ie tpos) X.env] := by rfl) : SS G X (.Assign [.Subscript oe ie tpos] e pos) (mSetI f mo mi m) := fun Wx tk => by
  obtain ⟨r, hp, s⟩ := s
  refine (ps_asg (he Wx tk) (pg_sub (ho Wx tk) (hi Wx tk) hp ha) hs hw h1).imp fun D σ H p => rdS.stm (Rel := VRel X.K) p fun H0 ρ0 e sr v H1 ρ1 h1 w x r q p1 => ?_
  have sr1 := sr.mono x
  refine ⟨ρ1, e, h1, r, sr1, (PostS.stm (Rel := VRel X.K) sr1 p1).imp fun o H2 q2 => ?_⟩
  obtain ⟨ρ2, h2, wo, x2, r2, vo, p2⟩ := q2
  have sr2 := sr1.mono x2
  refine ⟨ρ2, e, h2, r2, sr2, (PostS.stm (Rel := VRel X.K) sr2 p2).imp fun i H3 q3 => ?_⟩
  obtain ⟨ρ3, h3, wi, x3, r3, vi, p3⟩ := q3
  have sr3 := sr2.mono x3
  refine s (fun cls d H' => Wx cls d σ H') H3 ρ3 h3 o i v wo wi w _ r3 (vo.mono x3) vi ((q.mono x2).mono x3) ((PostS.stm (Rel := URel) sr3 p3).imp fun _ H4 q4 => ?_)
  obtain ⟨ρ4, h4, _, x4, r4, _, p4⟩ := q4
  exact p4 ρ4 H4 σ (Ext.refl r4) r4 (sr3.mono x4)
def mAugI (g : W → W → List O → Out W) (f : W → W → List O → Out W) (s : W → W → W → List O → Out Unit) (mo mi m : M W) : Sm := fun e h => (mo e h).stm e fun o h => (mi e h).stm e fun i h => (g o i h).stm e fun x h =>
  (m e h).stm e fun y h => (f x y h).stm e fun z h => (s o i z h).stm e fun _ h => .nx e h
end
end Den
set_option maxRecDepth 100000
/-! Loops, comprehensions, calls of defs, defs. -/
namespace Den
open PySem L2 PyProof.Rows
section
variable {G : Gx} {X : Cx}
def oGetL (x y : W) (h : List O) : Out W := match y with
  | .int i => match sqL x h with
    | some xs => match L2.atI xs i with
      | some w => .ok w h
      | none => .bad
    | none => .bad
  | _ => .bad
/-! ### while -/
def whileGo (c : M Bool) (body : Sm) : Nat → Env → List O → SOut
  | 0, _, _ => .bad
  | n + 1, e, h => (c e h).stm e fun b h1 => if b = true then match body e h1 with
      | .nx e2 h2 => whileGo c body n e2 h2
      | .ct e2 h2 => whileGo c body n e2 h2
      | .bk e2 h2 => .nx e2 h2
      | .rt w h2 => .rt w h2
      | .exc cc p e2 h2 => .exc cc p e2 h2
      | .bad => .bad
    else .nx e h1
def mWhile (n : Nat) (c : M Bool) (body : Sm) : Sm := fun e h => whileGo c body n e h
theorem ss_while {n : Nat} {ce : Expr} {B : List Stmt} {c : M Bool} {body : Sm} {pos : Pos} (hp : PassesOwn (model X.prog X.w) X.A X.env X.xe) (hc : ST G X ce c) (hb : SSs G X B body) : SS G X (.While ce B [] pos) (mWhile n c body) := fun Wx tk =>
  (ps_while hp (hc Wx tk) (hb Wx tk)).imp fun D σ H p => by
    refine ⟨fun m σ H => rdS X.K G Wx (fun e h => whileGo c body m e h) D σ H, ⟨n, p⟩, fun m σ H p => ?_⟩
    cases m with
    | zero =>
      obtain ⟨ρ, e, h, hr, sr, p⟩ := p
      exact False.elim p
    | succ m =>
      refine rdS.stm (m := c) (f := fun e b h1 => if b = true then match body e h1 with
        | .nx e2 h2 => whileGo c body m e2 h2
        | .ct e2 h2 => whileGo c body m e2 h2
        | .bk e2 h2 => .nx e2 h2
        | .rt w h2 => .rt w h2
        | .exc cc p e2 h2 => .exc cc p e2 h2
        | .bad => .bad
      else .nx e h1) (Rel := BRel) p fun H0 ρ0 e sr b H1 ρ1 h1 w x r q p1 => ?_
      cases q
      have sr1 := sr.mono x
      cases b with
      | false => exact iteF (p1 ρ1 H1 σ (Ext.refl r) r sr1)
      | true =>
        refine iteT ⟨fun σ' H' => rdS X.K G Wx (fun e h => whileGo c body m e h) D σ' H', fun σ' H' p => ⟨m, Nat.lt_succ_self m, p⟩, ρ1, e, h1, r, sr1, ?_⟩
        rw [if_pos rfl] at p1
        cases hm : body e h1 with
        | nx e2 h2 => rw [hm] at p1; exact fun ρ' H' σ' x' r' s' => ⟨ρ', e2, h2, r', s', p1.ext x'⟩
        | ct e2 h2 => rw [hm] at p1; exact fun ρ' H' σ' x' r' s' => ⟨ρ', e2, h2, r', s', p1.ext x'⟩
        | bk e2 h2 => rw [hm] at p1; exact p1
        | rt w h2 => rw [hm] at p1; exact p1
        | exc cc q e2 h2 => rw [hm] at p1; exact p1
        | bad => rw [hm] at p1; exact p1

/-! ### what is walked -/
abbrev Src := Nat → List O → Option (Option W)
def JRel (K : PySem.W.Frag) (G : Gx) (H0 : Hp) (ρ0 : List Addr) (J : It) (src : Src) : Prop := ∀ (i : Nat) (H : Hp) (ρ : List Addr) (h : List O), Ext H0 ρ0 H ρ → HR K G H ρ h →
  (src i h = some none → J.stop i H) ∧ ∀ w, src i h = some (some w) → J.go i H ∧ ∀ x H', J.yld i H x H' → Ext H ρ H' ρ ∧ HR K G H' ρ h ∧ VR K H' ρ x w
def SI (G : Gx) (X : Cx) (tg iter : Expr) (m : M Src) : Prop := ∀ Wx, Takes X Wx → PI X tg iter (rd X.K G Wx (JRel X.K G) m)
theorem _root_.L2.PI.imp {X : Cx} {tg e : Expr} {t t' : TI} (p : PI X tg e t) (i : ∀ σ H R, t' σ H R → t σ H R) : PI X tg e t' := ⟨fun pins s σ H Q I q => p.run pins s σ H Q I (i σ H Q q)⟩
theorem _root_.L2.PI.or {X : Cx} {tg e : Expr} {t t' : TI} (p : PI X tg e t) (p' : PI X tg e t') : PI X tg e (fun σ H R => t σ H R ∨ t' σ H R) := ⟨fun pins s σ H Q I q => by
  rcases q with q | q
  · exact p.run pins s σ H Q I q
  · exact p'.run pins s σ H Q I q⟩
def srcL (xs : List W) : Src := fun i _ => some xs[i]?
def srcR (n : Nat) : Src := fun i h => (lstAt h n).map fun xs => xs[i]?
def srcS (s : List Nat) : Src := fun i _ => some (s[i]?.map fun c => .str [c])
def srcN (lo : Int) (n : Nat) : Src := fun i _ => if i < n then some (some (.int (lo + i))) else some none
def toSrc (w : W) (h : List O) : Out Src := match w with
  | .str s => .ok (srcS s) h
  | .tup xs => .ok (srcL xs) h
  | .rol xs => .ok (srcL xs) h
  | .ref n => match lstAt h n with
    | some _ => .ok (srcR n) h
    | none => .bad
  | _ => .bad
def mIter (m : M W) : M Src := fun e h => (m e h).bnd toSrc
section
variable {K : PySem.W.Frag} {H : Hp} {ρ : List Addr} {h : List O}
theorem jrel_lst {a : Addr} {n : Nat} (ea : ρ[n]? = some a) : JRel K G H ρ (Itl K a) (srcR n) := fun i H' ρ' h' x r => by
  have ea' : ρ'[n]? = some a := pre_get x.pre ea
  refine ⟨fun e => ?_, fun w e => ?_⟩
  · unfold srcR at e
    cases hl : lstAt h' n with
    | none => rw [hl] at e; cases e
    | some xs =>
      rw [hl] at e
      obtain ⟨vs, q, z⟩ := r.look ea' (lstAt_some hl)
      have e2 : xs[i]? = none := Option.some.inj e
      exact ⟨vs, .inl (.inl q), by rw [z.length]; exact List.getElem?_eq_none_iff.mp e2⟩
  · unfold srcR at e
    cases hl : lstAt h' n with
    | none => rw [hl] at e; cases e
    | some xs =>
      rw [hl] at e
      obtain ⟨vs, q, z⟩ := r.look ea' (lstAt_some hl)
      have e2 : xs[i]? = some w := Option.some.inj e
      obtain ⟨v, hv, rv⟩ := z.get e2
      have sq : SqL K H' a vs := .inl (.inl q)
      refine ⟨⟨vs, v, sq, hv⟩, fun y H'' hy => ?_⟩
      obtain ⟨rfl, hy⟩ := hy
      have e3 : v = y := Option.some.inj (hv.symm.trans (hy vs sq))
      rw [← e3]
      exact ⟨Ext.refl r, r, rv⟩
theorem jrel_rol {a : Addr} {vs : List V} {xs : List W} (hs : (Rd H a (.lst vs) ∧ a ∉ ρ) ∨ ∀ H' : Hp, SqL K H' a vs) (z : VRs K H ρ vs xs) : JRel K G H ρ (Itl K a) (srcL xs) := fun i H' ρ' h' x r => by
  have sq : SqL K H' a vs := by
    rcases x.rol hs with q | q
    · exact .inl q.1
    · exact q H'
  refine ⟨fun e => ⟨vs, sq, by rw [z.length]; exact List.getElem?_eq_none_iff.mp (Option.some.inj e)⟩, fun w e => ?_⟩
  obtain ⟨v, hv, rv⟩ := z.get (Option.some.inj e)
  refine ⟨⟨vs, v, sq, hv⟩, fun y H'' hy => ?_⟩
  obtain ⟨rfl, hy⟩ := hy
  have e3 : v = y := Option.some.inj (hv.symm.trans (hy vs sq))
  rw [← e3]
  exact ⟨Ext.refl r, r, rv.mono x⟩
theorem jrel_tup {a : Addr} {vs : List V} {xs : List W} (hs : SqT K H a vs) (z : VRs K H ρ vs xs) : JRel K G H ρ (Itt K a) (srcL xs) := fun i H' ρ' h' x r => by
  have sq : SqT K H' a vs := x.tup hs
  refine ⟨fun e => ⟨vs, sq, by rw [z.length]; exact List.getElem?_eq_none_iff.mp (Option.some.inj e)⟩, fun w e => ?_⟩
  obtain ⟨v, hv, rv⟩ := z.get (Option.some.inj e)
  refine ⟨⟨vs, v, sq, hv⟩, fun y H'' hy => ?_⟩
  obtain ⟨rfl, hy⟩ := hy
  have e3 : v = y := Option.some.inj (hv.symm.trans (hy vs sq))
  rw [← e3]
  exact ⟨Ext.refl r, r, rv.mono x⟩
end
end
end Den
set_option maxRecDepth 100000
/-! What a for walks; for; comprehensions; calls of defs; defs. -/
namespace Den
open PySem L2 PyProof.Rows
section
variable {G : Gx} {X : Cx} {e : Expr} {m : M W} {pos : Pos}
theorem jrel_str {K : PySem.W.Frag} {H : Hp} {ρ : List Addr} {s : List Nat} : JRel K G H ρ (Its ⟨s.toArray⟩) (srcS s) := fun i H' ρ' h' x r => by
  have hsz : (⟨s.toArray⟩ : Str).cps.size = s.length := by simp
  refine ⟨fun e => ?_, fun w e => ?_⟩
  · have e2 : s[i]? = none := by
      have := Option.some.inj e
      cases hx : s[i]? with
      | none => rfl
      | some c => rw [hx] at this; cases this
    show (⟨s.toArray⟩ : Str).cps.size ≤ i
    rw [hsz]
    exact List.getElem?_eq_none_iff.mp e2
  · have e1 := Option.some.inj e
    cases hx : s[i]? with
    | none => rw [hx] at e1; cases e1
    | some c =>
      rw [hx] at e1
      have e2 : W.str [c] = w := Option.some.inj e1
      refine ⟨?_, fun y H'' hy => ?_⟩
      · show i < (⟨s.toArray⟩ : Str).cps.size
        rw [hsz]
        exact (List.getElem?_eq_some_iff.mp hx).1
      · obtain ⟨rfl, c', hc, rfl⟩ := hy
        have e3 : c' = c := by
          have : s[i]? = some c' := by simpa using hc
          rw [hx] at this
          exact (Option.some.inj this).symm
        subst e3
        rw [← e2]
        exact ⟨Ext.refl r, r, vr_str' (l := [c']) rfl⟩
/-- over a list, a tuple, a text -/
theorem si_seq {tg : Expr} (he : SE G X e m) : SI G X tg e (mIter m) := fun Wx tk =>
  ((pi_list (he Wx tk)).or ((pi_tup (he Wx tk)).or (pi_str (he Wx tk)))).imp fun σ H R p => by
    obtain ⟨ρ, e, h, hr, sr, p⟩ := p
    unfold mIter at p
    cases hm : m e h with
    | bad => rw [hm] at p; exact False.elim p
    | exc c q h' => rw [hm] at p; exact .inl ⟨ρ, e, h, hr, sr, by rw [hm]; exact p⟩
    | ok w h' =>
      rw [hm, Out.bnd_ok] at p
      cases w with
      | str s => exact .inr (.inr ⟨ρ, e, h, hr, sr, by rw [hm]; exact fun ρ' H' v x r q => ⟨_, q.str, p ρ' H' _ x r jrel_str⟩⟩)
      | tup xs =>
        refine .inr (.inl ⟨ρ, e, h, hr, sr, ?_⟩)
        rw [hm]
        intro ρ' H' v x r q
        have q : VR X.K H' ρ' v (.tup xs) := q
        unfold VR at q
        obtain ⟨a, vs, rfl, q, z⟩ := q
        exact ⟨a, rfl, ⟨vs, q⟩, p ρ' H' _ x r (jrel_tup q z)⟩
      | rol xs =>
        refine .inl ⟨ρ, e, h, hr, sr, ?_⟩
        rw [hm]
        intro ρ' H' v x r q
        have q : VR X.K H' ρ' v (.rol xs) := q
        unfold VR at q
        obtain ⟨a, vs, rfl, q, z⟩ := q
        exact ⟨a, rfl, ⟨vs, by
          rcases q with q | q
          · exact .inl q.1
          · exact q H'⟩, p ρ' H' _ x r (jrel_rol q z)⟩
      | ref n =>
        unfold toSrc at p
        dsimp only at p
        cases hl : lstAt h' n with
        | none => rw [hl] at p; exact False.elim p
        | some xs =>
          rw [hl] at p
          refine .inl ⟨ρ, e, h, hr, sr, ?_⟩
          rw [hm]
          intro ρ' H' v x r q
          have q : VR X.K H' ρ' v (.ref n) := q
          obtain ⟨a, rfl, ea⟩ := q.ref
          obtain ⟨vs, q, z⟩ := r.look ea (lstAt_some hl)
          exact ⟨a, rfl, ⟨vs, .inl (.inl q)⟩, p ρ' H' _ x r (jrel_lst ea)⟩
      | non => exact False.elim p
      | bl b => exact False.elim p
      | int i => exact False.elim p
/-- range -/
def mRng1 (m : M (List W)) : M Src := fun e h => (m e h).bnd fun ws h => match ws with
  | [.int j] => if -(2 ^ 62) ≤ j ∧ j < 2 ^ 62 then .ok (srcN 0 j.toNat) h else .bad
  | _ => .bad
def mRng2 (m : M (List W)) : M Src := fun e h => (m e h).bnd fun ws h => match ws with
  | [.int i, .int j] => if -(2 ^ 62) ≤ i ∧ i < 2 ^ 62 ∧ -(2 ^ 62) ≤ j ∧ j < 2 ^ 62 then .ok (srcN i (j - i).toNat) h else .bad
  | _ => .bad
theorem jrel_rng {K : PySem.W.Frag} {H : Hp} {ρ : List Addr} {lo : Int} {n : Nat} : JRel K G H ρ (Itr lo n) (srcN lo n) := fun i H' ρ' h' x r => by
  refine ⟨fun e => ?_, fun w e => ?_⟩
  · unfold srcN at e
    split at e
    · cases e
    · show n ≤ i
      omega
  · unfold srcN at e
    split at e
    · rename_i hi
      cases e
      refine ⟨hi, fun y H'' hy => ?_⟩
      obtain ⟨rfl, rfl⟩ := hy
      exact ⟨Ext.refl r, r, vr_int⟩
    · cases e
theorem si_rng1 {tg a : Expr} {mr : M (List W)} {p : Pos} (ha : SA G X [a] mr) (hg : Gl X "range") (hm : X.mg "range" = none)
    (hs : starEach [a] X.env = [(false, eval a X.env)] := by rfl) : SI G X tg (.Call (.Name "range" p) [a] [] pos) (mRng1 mr) := fun Wx tk =>
  (pi_range1 hg hm (ha Wx tk) (hs := hs)).imp fun σ H R p => rd.bnd (Rel := VsRel X.K) p fun H0 ρ0 e sr v H1 ρ1 h1 w x r q p1 => by
    split at p1
    · split at p1
      · rename_i j hj
        obtain ⟨v, rfl, q'⟩ := VRs.inv1 q
        exact ⟨_, by rw [q'.int], hj.1, hj.2, p1 ρ1 H1 _ (Ext.refl r) r jrel_rng⟩
      · exact False.elim p1
    · exact False.elim p1
/-! ### for -/
def forGo (src : Src) (t : Tg) (body : Sm) : Nat → Nat → Env → List O → SOut
  | 0, _, _, _ => .bad
  | n + 1, i, e, h => match src i h with
    | some (some w) => match t w e with
      | some e1 => match body e1 h with
        | .nx e2 h2 => forGo src t body n (i + 1) e2 h2
        | .ct e2 h2 => forGo src t body n (i + 1) e2 h2
        | .bk e2 h2 => .nx e2 h2
        | .rt w h2 => .rt w h2
        | .exc cc p e2 h2 => .exc cc p e2 h2
        | .bad => .bad
      | none => .bad
    | some none => .nx e h
    | none => .bad
def mFor (n : Nat) (it : M Src) (t : Tg) (body : Sm) : Sm := fun e h => (it e h).stm e fun src h => forGo src t body n 0 e h
theorem ss_for {n : Nat} {tg iter : Expr} {B : List Stmt} {it : M Src} {t : Tg} {g : TG} {vs : List Nat} {body : Sm} (hp : PassesOwn (model X.prog X.w) X.A X.env X.xe) (hi : SI G X tg iter it) (hg : PG X tg g) (ht : TgOk X.K G vs g t) (hb : SSs G X B body) (hc : X.calm = true := by rfl) (hs : ∀ x, foldedSetIterable iter X.env x = pure x := by intro _; rfl) :
    SS G X (.For tg iter B [] pos) (mFor n it t body) := fun Wx tk => by
  refine (ps_for hp hc (hi Wx tk) hg (hb Wx tk) (hs := hs)).imp fun D σ H p => ?_
  refine rdS.stm (Rel := JRel X.K G) p fun H0 ρ0 e sr J H1 ρ1 h1 src x r q p1 => ?_
  refine ⟨fun i m σ H => ∃ ρ e h, Ext H1 ρ1 H ρ ∧ HR X.K G H ρ h ∧ SR X.K H ρ σ e ∧ PostS X.K G Wx D H ρ (forGo src t body m i e h), ⟨n, ρ1, e, h1, Ext.refl r, r, sr.mono x, p1⟩, fun i m σ H p => ?_⟩
  obtain ⟨ρ, e, h, x1, hr, sr, p⟩ := p
  obtain ⟨j1, j2⟩ := q i H ρ h x1 hr
  cases m with
  | zero => exact False.elim p
  | succ m =>
    unfold forGo at p
    cases hs : src i h with
    | none => rw [hs] at p; exact False.elim p
    | some o =>
      rw [hs] at p
      cases o with
      | none => exact .inl ⟨j1 hs, p ρ H σ (Ext.refl hr) hr sr⟩
      | some w =>
        obtain ⟨k1, k2⟩ := j2 w hs
        refine .inr ⟨k1, fun σ' H' => ∃ ρ e h, Ext H1 ρ1 H' ρ ∧ HR X.K G H' ρ h ∧ SR X.K H' ρ σ' e ∧ PostS X.K G Wx D H' ρ (forGo src t body m (i + 1) e h), fun σ' H' p => ⟨m, Nat.lt_succ_self m, p⟩, fun y H' hy => ?_⟩
        obtain ⟨x2, r2, vy⟩ := k2 y H' hy
        dsimp only at p
        cases hte : t w e with
        | none => rw [hte] at p; exact False.elim p
        | some e1 =>
          rw [hte] at p
          refine ht H' ρ h σ e e1 y w _ r2 (sr.mono x2) vy hte fun σ2 s2 _ => ⟨ρ, e1, h, r2, s2, ?_⟩
          dsimp only at p
          have p := p.ext x2
          cases hm : body e1 h with
          | nx e2 h2 => rw [hm] at p; exact fun ρ' H' σ' x' r' s' => ⟨ρ', e2, h2, (x1.trans x2).trans x', r', s', p.ext x'⟩
          | ct e2 h2 => rw [hm] at p; exact fun ρ' H' σ' x' r' s' => ⟨ρ', e2, h2, (x1.trans x2).trans x', r', s', p.ext x'⟩
          | bk e2 h2 => rw [hm] at p; exact p
          | rt w h2 => rw [hm] at p; exact p
          | exc cc q e2 h2 => rw [hm] at p; exact p
          | bad => rw [hm] at p; exact p

/-! ### comprehensions -/
def wipeE : Env → List Nat → Env
  | e, [] => e
  | e, v :: vs => (wipeE e vs).set v none
theorem SR.wipe {K : PySem.W.Frag} {H : Hp} {ρ : List Addr} {σ : L2.St} {e : Env} (s : SR K H ρ σ e) : ∀ vs : List Nat, SR K H ρ (L2.wipe σ vs) (wipeE e vs)
  | [] => s
  | v :: vs => by
    have ih := SR.wipe s vs
    refine ⟨by unfold L2.wipe wipeE; rw [List.length_set, List.length_set]; exact ih.len, fun i w hi => ?_⟩
    unfold wipeE at hi
    by_cases hv : v = i
    · subst hv
      by_cases hl : v < (wipeE e vs).length
      · rw [List.getElem?_set_self hl] at hi; cases hi
      · rw [List.getElem?_eq_none (by simpa using hl)] at hi; cases hi
    · rw [List.getElem?_set_ne hv] at hi
      unfold L2.wipe
      rw [List.getElem?_set_ne hv]
      exact ih.at_ i w hi
def compGo (src : Src) (t : Tg) (cond : M Bool) (elt : M W) (D : Nat) (e0 : Env) : Nat → Nat → List O → Out W
  | 0, _, _ => .bad
  | n + 1, i, h => match src i h with
    | some (some w) => match t w e0 with
      | some e1 => match cond e1 h with
        | .ok b h2 => if b = true then match elt e1 h2 with
            | .ok y h3 => match lstAt h3 D with
              | some acc => if acc.length < lim then compGo src t cond elt D e0 n (i + 1) (h3.set D (.lst (acc ++ [y]))) else .bad
              | none => .bad
            | _ => .bad
          else compGo src t cond elt D e0 n (i + 1) h2
        | _ => .bad
      | none => .bad
    | some none => .ok (.ref D) h
    | none => .bad
def mComp (n : Nat) (own : List Nat) (it : M Src) (t : Tg) (cond : M Bool) (elt : M W) : M W := fun e h => (it e h).bnd fun src h => compGo src t cond elt h.length (wipeE e own) n 0 (h ++ [.lst []])
def mYes : M Bool := fun _ h => .ok true h
abbrev noW : WX := fun _ _ _ _ => False
/-- a block's part is read without a raise -/
theorem rd_pure {K : PySem.W.Frag} {α β : Type} {Rel : Hp → List Addr → β → α → Prop} {m : M α} {σ : L2.St} {H : Hp} {ρ : List Addr} {h : List O} {e : Env} {Q : β → Hp → Prop} {a : α} {h' : List O} (hr : HR K G H ρ h) (sr : SR K H ρ σ e) (hm : m e h = .ok a h')
    (k : ∀ ρ' H' v, Ext H ρ H' ρ' → HR K G H' ρ' h' → Rel H' ρ' v a → Q v H') : rd K G noW Rel m σ H Q := ⟨ρ, e, h, hr, sr, by rw [hm]; exact k⟩
theorem lc_post {K : PySem.W.Frag} {Wx : WX} {n : Nat} {own : List Nat} {it : M Src} {t : Tg} {g : TG} {cond : M Bool} {elt : M W} (ht : TgOk K G own g t) {σ : L2.St} {H : Hp} {Q : VK} (p : rd K G Wx (VRel K) (mComp n own it t cond elt) σ H Q) :
    tLc (rd K G Wx (JRel K G) it) g (rd K G noW BRel cond) (rd K G noW (VRel K) elt) own σ H Q := by
  refine rd.bnd (Rel := JRel K G) p fun H0 ρ0 e sr J H1 ρ1 h1 src x r q p1 => ?_
  intro D hD
  obtain ⟨r2, x2⟩ := r.new (o := .lst []) (u := .lst []) hD rfl fun _ => ⟨[], upd_same, .nil⟩
  have eD : (ρ1 ++ [D])[h1.length]? = some D := r.last
  have sr2 := (sr.mono x).mono x2
  refine ⟨fun i m H => ∃ ρ h, Ext (upd H1 D (.lst [])) (ρ1 ++ [D]) H ρ ∧ HR K G H ρ h ∧ Post K G (fun cls d H' => Wx cls d σ H') (VRel K) Q H ρ (compGo src t cond elt h1.length (wipeE e own) m i h), ⟨n, ρ1 ++ [D], h1 ++ [.lst []], Ext.refl r2, r2, p1.ext x2⟩, fun i m H p => ?_⟩
  obtain ⟨ρ, h, x1, hr, p⟩ := p
  obtain ⟨j1, j2⟩ := q i H ρ h (x2.trans x1) hr
  have srw := (sr2.mono x1).wipe own
  cases m with
  | zero => exact False.elim p
  | succ m =>
    unfold compGo at p
    cases hs : src i h with
    | none => rw [hs] at p; exact False.elim p
    | some o =>
      rw [hs] at p
      cases o with
      | none => exact .inl ⟨j1 hs, p ρ H _ (Ext.refl hr) hr (by show VR K H ρ (.ref D) (.ref h1.length); unfold VR; exact ⟨D, rfl, pre_get x1.pre eD⟩)⟩
      | some w =>
        obtain ⟨k1, k2⟩ := j2 w hs
        refine .inr ⟨k1, fun H' => ∃ ρ h, Ext (upd H1 D (.lst [])) (ρ1 ++ [D]) H' ρ ∧ HR K G H' ρ h ∧ Post K G (fun cls d H' => Wx cls d σ H') (VRel K) Q H' ρ (compGo src t cond elt h1.length (wipeE e own) m (i + 1) h), fun H' p => ⟨m, Nat.lt_succ_self m, p⟩, fun y H' hy => ?_⟩
        obtain ⟨x3, r3, vy⟩ := k2 y H' hy
        dsimp only at p
        cases hte : t w (wipeE e own) with
        | none => rw [hte] at p; exact False.elim p
        | some e1 =>
          rw [hte] at p
          refine ht H' ρ h _ _ e1 y w _ r3 (srw.mono x3) vy hte fun σ2 s2 hw => ⟨?_, ?_⟩
          · rw [hw]
            apply List.ext_getElem?
            intro j
            by_cases hj : j ∈ own
            · rw [wipe_in hj, wipe_in hj, L2.wipe_length]
            · rw [wipe_get hj]
          · dsimp only at p
            have p := p.ext x3
            cases hc : cond e1 h with
            | bad => rw [hc] at p; exact False.elim p
            | exc c q h' => rw [hc] at p; exact False.elim p
            | ok b h2 =>
              rw [hc] at p
              refine rd_pure r3 s2 hc fun ρ4 H4 b' x4 r4 eb => ?_
              cases eb
              cases b with
              | false => exact iteF ⟨ρ4, h2, (x1.trans x3).trans x4, r4, p.ext x4⟩
              | true =>
                dsimp only at p
                rw [if_pos rfl] at p
                refine iteT ?_
                cases he : elt e1 h2 with
                | bad => rw [he] at p; exact False.elim p
                | exc c q h' => rw [he] at p; exact False.elim p
                | ok y h3 =>
                  rw [he] at p
                  refine rd_pure r4 (s2.mono x4) he fun ρ5 H5 v x5 r5 rv => ?_
                  dsimp only at p
                  cases hl : lstAt h3 h1.length with
                  | none => rw [hl] at p; exact False.elim p
                  | some acc =>
                    rw [hl] at p
                    dsimp only at p
                    split at p
                    · rename_i hz
                      have xx := ((x1.trans x3).trans x4).trans x5
                      have eD5 : ρ5[h1.length]? = some D := pre_get xx.pre eD
                      obtain ⟨vs, q, z⟩ := r5.look eD5 (lstAt_some hl)
                      refine ⟨vs, q, by rw [z.length]; exact Nat.lt_of_lt_of_le hz (lim_size (Nat.le_refl _)), ?_⟩
                      obtain ⟨r6, x6⟩ := r5.write (o := .lst (vs ++ [v])) (u := .lst (acc ++ [y])) eD5 (lstAt_nk hl) rfl fun x => ⟨_, upd_same, (z.append (.one rv)).mono x⟩
                      exact ⟨ρ5, _, xx.trans x6, r6, ((p.ext x4).ext x5).ext x6⟩
                    · exact False.elim p
end
end Den
set_option maxRecDepth 100000
/-! Comprehensions as expressions; calls of defs, defs, raise, a def handed a lambda that tells. -/
namespace Den
open PySem L2 PyProof.Rows
section
variable {G : Gx} {X : Cx} {e : Expr} {m : M W} {pos : Pos}
/-- a clause's tests -/
def STs (G : Gx) (X : Cx) (ifs : List Expr) (m : M Bool) : Prop := ∀ Wx, Takes X Wx → PTs X ifs (rd X.K G Wx BRel m)
theorem _root_.L2.PTs.imp {X : Cx} {e : List Expr} {t t' : TT} (p : PTs X e t) (i : ∀ σ H Q, t' σ H Q → t σ H Q) : PTs X e t' := ⟨fun pins s σ H Q I q => p.run pins s σ H Q I (i σ H Q q)⟩
theorem sts_nil : STs G X [] mYes := fun Wx tk => pts_nil.imp fun σ H Q p => by
  obtain ⟨ρ, e, h, hr, sr, p⟩ := p
  exact p.here hr rfl
theorem se_lc {n : Nat} {elt tg iter : Expr} {ifs : List Expr} {scope : Scope} {own : List (Str × Nat)} {it : M Src} {t : Tg} {g : TG} {cond : M Bool} {melt : M W} (hN : X.N.Nodup) (hi : SI G X tg iter it) (ok : BlkOk X.N X.env.scope scope own)
    (hg : ∀ (s : Shared) (H : Hp) (C : Addr) (cl : List (Str × Addr)) (fp : List Addr), PG (X.blk s H scope (compEnvC scope cl C X.env) fp) tg g) (ht : TgOk X.K G (own.map (·.2)) g t)
    (hc : ∀ (s : Shared) (H : Hp) (C : Addr) (cl : List (Str × Addr)) (fp : List Addr), STs G (X.blk s H scope (compEnvC scope cl C X.env) fp) ifs cond)
    (he : ∀ (s : Shared) (H : Hp) (C : Addr) (cl : List (Str × Addr)) (fp : List Addr), SE G (X.blk s H scope (compEnvC scope cl C X.env) fp) elt melt)
    (hcalm : X.calm = true := by rfl) (hs : ∀ x, foldedSetIterable iter X.env x = pure x := by intro _; rfl) : SE G X (.ListComp elt [⟨tg, iter, ifs, 0⟩] scope pos) (mComp n (own.map (·.2)) it t cond melt) := fun Wx tk =>
  (pe_lc hcalm hN (hi Wx tk) ok hg (fun s H C cl fp => hc s H C cl fp noW L2.takes0) (fun s H C cl fp => he s H C cl fp noW L2.takes0) hs).imp fun σ H Q p => lc_post ht p
/-! ### values without objects -/
mutual
def pureW : W → Bool
  | .ref _ => false
  | .rol _ => false
  | .tup xs => pureWs xs
  | _ => true
def pureWs : List W → Bool
  | [] => true
  | x :: xs => pureW x && pureWs xs
end
mutual
theorem VR.any {K : PySem.W.Frag} {H : Hp} {ρ ρ' : List Addr} : ∀ {v : V} {w : W}, pureW w = true → VR K H ρ v w → VR K H ρ' v w
  | v, .non, _, h => h
  | v, .bl _, _, h => h
  | v, .int _, _, h => h
  | v, .str _, _, h => h
  | v, .tup xs, p, h => by
    unfold VR at h ⊢
    obtain ⟨a, vs, e, q, r⟩ := h
    exact ⟨a, vs, e, q, VRs.any (by unfold pureW at p; exact p) r⟩
  | v, .rol xs, p, h => by unfold pureW at p; cases p
  | v, .ref n, p, h => by unfold pureW at p; cases p
theorem VRs.any {K : PySem.W.Frag} {H : Hp} {ρ ρ' : List Addr} : ∀ {vs : List V} {ws : List W}, pureWs ws = true → VRs K H ρ vs ws → VRs K H ρ' vs ws
  | vs, [], _, h => h
  | vs, w :: ws, p, h => by
    unfold pureWs at p
    rw [Bool.and_eq_true] at p
    unfold VRs at h ⊢
    obtain ⟨v, r, e, q, z⟩ := h
    exact ⟨v, r, e, VR.any p.1 q, VRs.any p.2 z⟩
end

/-! ### defs -/
def spOf (K : PySem.W.Frag) (G : Gx) (ar : Nat) (den : List W → List O → Out W) : Sp := fun vs H Q E => vs.length = ar ∧ ∃ ρ h ws, HR K G H ρ h ∧ VRs K H ρ vs ws ∧ Post K G E (VRel K) Q H ρ (den ws h)
/-- the def x does as den says -/
structure FnD (P : Program) (w : World) (K : PySem.W.Frag) (mg : Str → Option Value) (base : Heap) (G : Gx) (k : Nat) (x : Str) (ar : Nat) (den : List W → List O → Out W) : Prop where
  ex : ∃ f fd ps, FnOk P w K mg base (L2.CX P w) k f fd ps (spOf K G ar den) ∧ mg x = some (.ref f) ∧ PySem.W.keepIn K (.ref f) = true ∧ Binds K fd ps []
theorem FnD.mono {P : Program} {w : World} {K : PySem.W.Frag} {mg : Str → Option Value} {base : Heap} {k j ar : Nat} {x : Str} {den : List W → List O → Out W} (F : FnD P w K mg base G k x ar den) (h : k ≤ j) : FnD P w K mg base G j x ar den := by
  obtain ⟨f, fd, ps, F, a, b, c⟩ := F.ex
  exact ⟨f, fd, ps, F.mono h, a, b, c⟩
theorem se_call {k j ar : Nat} {x : Str} {den : List W → List O → Out W} {es : List Expr} {mr : M (List W)} {p : Pos} (F : FnD X.prog X.w X.K X.mg X.base G k x ar den) (hr : Room j X.A) (hk : k ≤ j) (hg : Gl X x) (ha : SA G X (e :: es) mr)
    (hdb : (x == ("__debug__" : Str)) = false := by decide) (he : starEach (e :: es) X.env = (false, eval e X.env) :: starEach es X.env := by rfl) (hpl : (backTo pos (starEach es X.env)).any (·.1) = false := by rfl)
    (hl : (e :: es).length = ar := by rfl) : SE G X (.Call (.Name x p) (e :: es) [] pos) (mCB (fun ws h => if ws.length = ar then den ws h else .bad) mr) := fun Wx tk => by
  obtain ⟨f, fd, ps, F, hm, hkp, hb⟩ := F.ex
  refine (pe_callS F (hr.mono hk) hg hm hkp hb (fun σ => passAt tk σ) (ha Wx tk) hdb he hpl).imp fun σ H Q p => rd.bnd (Rel := VsRel X.K) p fun H0 ρ0 e sr v H1 ρ1 h1 w x r q p1 => ?_
  dsimp only at p1
  split at p1
  · rename_i hw
    exact ⟨(VRs.length q).trans hw, ρ1, h1, w, r, q, p1⟩
  · exact False.elim p1
/-- the same where neither arguments nor the answer are objects: on a heap of its own -/
def pureRun (den : List W → List O → Out W) (ar : Nat) (ws : List W) (h : List O) : Out W :=
  if ws.length = ar ∧ pureWs ws = true then match den ws [] with
    | .ok w _ => if pureW w = true then .ok w h else .bad
    | .exc c none _ => .exc c none h
    | _ => .bad
  else .bad
theorem HR.sub {K : PySem.W.Frag} {H H' : Hp} {ρ ρ' : List Addr} {h h' : List O} (hr : HR K G H ρ h) (x : Ext H [] H' ρ') (r : HR K G H' ρ' h') : HR K G H' ρ h ∧ Ext H ρ H' ρ := by
  have x2 : Ext H ρ H' ρ := ⟨fun a o e t _ => x.fr a o e t (by simp), List.prefix_rfl, fun _ a b => absurd a b, hr.mu, x.lk⟩
  refine ⟨⟨hr.len, hr.nd, fun n a o e1 e2 => (hr.ob n a o e1 e2).mono x2 ?_, r.tb⟩, x2⟩
  obtain ⟨u, hu, hm⟩ := (hr.ob n a o e1 e2).mut
  rw [hu]
  exact x.fr a u hu (by cases u <;> first | rfl | cases hm) (by simp)
theorem HR.none {K : PySem.W.Frag} {H : Hp} {ρ : List Addr} {h : List O} (hr : HR K G H ρ h) : HR K G H [] [] := ⟨rfl, by simp, fun n a o e => by simp at e, hr.tb⟩
theorem se_callP {k j ar : Nat} {x : Str} {den : List W → List O → Out W} {es : List Expr} {mr : M (List W)} {p : Pos} (F : FnD X.prog X.w X.K X.mg X.base G k x ar den) (hr : Room j X.A) (hk : k ≤ j) (hg : Gl X x) (ha : SA G X (e :: es) mr)
    (hdb : (x == ("__debug__" : Str)) = false := by decide) (he : starEach (e :: es) X.env = (false, eval e X.env) :: starEach es X.env := by rfl) (hpl : (backTo pos (starEach es X.env)).any (·.1) = false := by rfl) :
    SE G X (.Call (.Name x p) (e :: es) [] pos) (mCB (pureRun den ar) mr) := fun Wx tk => by
  obtain ⟨f, fd, ps, F, hm, hkp, hb⟩ := F.ex
  refine (pe_callS F (hr.mono hk) hg hm hkp hb (fun σ => passAt tk σ) (ha Wx tk) hdb he hpl).imp fun σ H Q p => rd.bnd (Rel := VsRel X.K) p fun H0 ρ0 e sr v H1 ρ1 h1 w x r q p1 => ?_
  unfold pureRun at p1
  split at p1
  · rename_i hw
    refine ⟨(VRs.length q).trans hw.1, [], [], w, r.none, VRs.any hw.2 q, ?_⟩
    cases hd : den w [] with
    | bad => rw [hd] at p1; exact False.elim p1
    | ok z h' =>
      rw [hd] at p1
      dsimp only at p1
      split at p1
      · rename_i hz
        intro ρ' H' v' x' r' q'
        obtain ⟨r2, x2⟩ := r.sub x' r'
        exact p1 ρ1 H' v' x2 r2 (VR.any hz q')
      · exact False.elim p1
    | exc c pl h' =>
      rw [hd] at p1
      cases pl with
      | some z => exact False.elim p1
      | none =>
        intro ρ' H' cls d x' r' q'
        obtain ⟨r2, x2⟩ := r.sub x' r'
        exact p1 ρ1 H' cls d x2 r2 q'
  · exact False.elim p1
/-- a def's body -/
def startE (n : Nat) (ws : List W) : Env := ws.map some ++ List.replicate (n - ws.length) none
def mFun (n : Nat) (m : Sm) (ws : List W) (h : List O) : Out W := match m (startE n ws) h with
  | .nx _ h' => .ok .non h'
  | .rt w h' => .ok w h'
  | .exc c p _ h' => .exc c p h'
  | _ => .bad
theorem sr_start {K : PySem.W.Frag} {H : Hp} {ρ : List Addr} {N : List Str} {vs : List V} {ws : List W} (r : VRs K H ρ vs ws) : SR K H ρ (L2.start N vs) (startE N.length ws) := by
  refine ⟨by unfold L2.start startE; simp [r.length], fun i w h => ?_⟩
  unfold startE at h
  by_cases hi : i < ws.length
  · rw [List.getElem?_append_left (by simpa using hi), List.getElem?_map] at h
    cases hw : ws[i]? with
    | none => rw [hw] at h; cases h
    | some w' =>
      rw [hw] at h
      have e : w' = w := Option.some.inj (Option.some.inj h)
      subst e
      obtain ⟨v, hv, rv⟩ := r.get hw
      refine ⟨v, ?_, rv⟩
      unfold L2.start
      rw [List.getElem?_append_left (by rw [List.length_map, r.length]; exact hi), List.getElem?_map, hv]
      rfl
  · rw [List.getElem?_append_right (by simpa using hi)] at h
    have h2 := List.mem_of_getElem? h
    have := (List.mem_replicate.mp h2).2
    cases this
theorem fn_den {P : Program} {w : World} {K : PySem.W.Frag} {mg : Str → Option Value} {base : Heap} {x qual : Str} {st : Stmt} {f : Addr} {fd : FuncData} {N ps : List Str} {k : Nat} {m : Sm} (F : Fun K x qual st f fd) (S : FnScope N ps (defScope st)) (hm : mg x = some (.ref f)) (hb : Binds K fd ps [])
    (body : ∀ (cdv : Value) (A : Around) (outer : List PySem.Env) (s : Shared) (H : Hp) (E : XK), Room k (A.deeper (envOfC qual (defScope st) s.heap.objs.size f cdv)) → SSs G (cxOf (L2.CX P w) P w K mg base N qual (defScope st) f cdv A outer s H E) (defBody st) m) :
    FnD P w K mg base G (k + 1) x ps.length (mFun N.length m) := ⟨f, fd, ps, F.okX S (fun vs H Q E h => h.1) (fun cdv A outer s H vs Q E hr h => by
  obtain ⟨hl, ρ, h, ws, h1, h2, p⟩ := h
  refine ⟨_, body cdv A outer s H E hr (fun cls d _ H => E cls d H) (takes_of rfl rfl rfl rfl), ρ, _, h, h1, sr_start h2, ?_⟩
  unfold mFun at p
  cases hm : m (startE N.length ws) h with
  | nx e h' => rw [hm] at p; exact fun ρ' H' σ' x r s => p ρ' H' .non x r vr_non
  | rt w h' => rw [hm] at p; exact p
  | exc c q e h' => rw [hm] at p; exact fun ρ' H' σ' cls d x r s => p ρ' H' cls d x r
  | bk e h' => rw [hm] at p; exact False.elim p
  | ct e h' => rw [hm] at p; exact False.elim p
  | bad => rw [hm] at p; exact False.elim p), hm, F.kp, hb⟩

/-! ### raise of an own class without __init__ -/
structure ExD (K : PySem.W.Frag) (mg : Str → Option Value) (G : Gx) (x : Str) (c : Nat) (C : Addr) : Prop where
  ca : G.ca c = some C
  ex : PySem.W.excIn K C [.type "ValueError", .type "Exception", .type "BaseException", .type "object"] "ValueError.__new__" = true
  mg : mg x = some (.ref C)
  kp : PySem.W.keepIn K (.ref C) = true
  sb : PySem.W.subIn K (.ref C) (.type "BaseException") = some true
  ty : PySem.W.typeIn K (.ref C) = some (.type "type")
def mRaise (c : Nat) : Sm := fun e h => .exc c none e h
theorem ss_raise {x msg : Str} {c : Nat} {C : Addr} {j : Nat} {p1 p2 p3 : Pos} (T : ExD X.K X.mg G x c C) (hg : Gl X x) (hc : X.calm = true := by rfl) (hdb : (x == ("__debug__" : Str)) = false := by decide) :
    SS G X (.Raise (some (.Call (.Name x p1) [.Constant (.str msg) j p2] [] p3)) none pos) (mRaise c) := fun Wx tk =>
  (ps_raise hc tk (pmk_own PySem.F.excBase_ValueError T.ex T.mg T.kp (raises_own T.sb T.ty) hg hdb)).imp fun D σ H p => by
    obtain ⟨ρ, e, h, hr, sr, p⟩ := p
    exact p ρ H σ (.ref C) none (Ext.refl hr) hr sr ⟨C, T.ca, rfl, rfl⟩
end
end Den
set_option maxRecDepth 100000
/-! x(lambda: e), x a def that calls what it got and tells what was raised; a law's end. -/
namespace Den
open PySem L2 PyProof.Rows LamX
/-- the clauses of such a def -/
inductive Tells (sg : Scope) (mg : Str → Option Value) : List ExceptHandler → List (Value × Str) → Prop
  | nil : Tells sg mg [] []
  | cons {x ret : Str} {c : Value} {np p1 p2 p3 : Pos} {j : Nat} {hds : List ExceptHandler} {l : List (Value × Str)} (hg : sg.names.lookup x = some .globalImplicit) (hd : (x == ("__debug__" : Str)) = false) (hm : mg x = some c) (r : Tells sg mg hds l) :
      Tells sg mg (.ExceptHandler (some (.Name x np)) none [.Return (some (.Constant (.str ret) j p1)) p2] p3 :: hds) ((c, ret) :: l)
section
variable {G : Gx} {X : Cx}
end

/-! ### the law's def, its code object known -/
theorem law_den {G : Gx} {P : Program} {w : World} {K : PySem.W.Frag} {mg : Str → Option Value} {base : Heap} {x : Str} {st : Stmt} {f c : Addr} {N ps : List Str} {k : Nat} {m : Sm} {oc : Value} {od an : Option Addr} {osl : Array (Option Value)} {kV doc pm ct : Value}
    (lk : K.lookup f = some ⟨oc, od, .func (PySem.W.fnOf x x (defArgs st) (defBody st) (defScope st) .none kV doc pm an (.ref c) ct), osl⟩) (hcd : PySem.W.codeIn K (.ref c) x = true) (S : FnScope N ps (defScope st))
    (body : ∀ (A : Around) (outer : List PySem.Env) (s : Shared) (H : Hp) (E : XK), Room k (A.deeper (envOfC x (defScope st) s.heap.objs.size f (.ref c))) → SSs G (cxOf (L2.CX P w) P w K mg base N x (defScope st) f (.ref c) A outer s H E) (defBody st) m) :
    FnOk P w K mg base (L2.CX P w) (k + 1) f (PySem.W.fnOf x x (defArgs st) (defBody st) (defScope st) .none kV doc pm an (.ref c) ct) ps (spOf K G ps.length (mFun N.length m)) :=
  fn_of lk hcd S (fun vs H Q E h => h.1) fun A outer s H vs Q E hr h => by
    obtain ⟨hl, ρ, h, ws, h1, h2, p⟩ := h
    refine ⟨_, body A outer s H E hr (fun cls d _ H => E cls d H) (takes_of rfl rfl rfl rfl), ρ, _, h, h1, sr_start h2, ?_⟩
    unfold mFun at p
    cases hm : m (startE N.length ws) h with
    | nx e h' => rw [hm] at p; exact fun ρ' H' σ' x r s => p ρ' H' .non x r vr_non
    | rt w h' => rw [hm] at p; exact p
    | exc c q e h' => rw [hm] at p; exact fun ρ' H' σ' cls d x r s => p ρ' H' cls d x r
    | bk e h' => rw [hm] at p; exact False.elim p
    | ct e h' => rw [hm] at p; exact False.elim p
    | bad => rw [hm] at p; exact False.elim p
/-- the script is handed in -/
def scriptW (ns : List Int) : W := .rol (ns.map W.int)
theorem ints_vrs {K : PySem.W.Frag} {H : Hp} {ρ : List Addr} : ∀ ns : List Int, VRs K H ρ (ns.map V.int) (ns.map W.int)
  | [] => .nil
  | n :: ns => .cons vr_int (ints_vrs ns)
theorem law_sp {G : Gx} {K : PySem.W.Frag} {H : Hp} {a : Addr} {ns : List Int} {den : List W → List O → Out W} (hT : LamX.Tabs G.T H) (hs : SqL K H a (ns.map V.int)) {h' : List O} (hd : den [scriptW ns] [] = .ok (.bl true) h') :
    spOf K G 1 den [.ref a] H (fun v _ => v = .bl true) fun _ _ _ => False := by
  refine ⟨rfl, [], [], [scriptW ns], ⟨rfl, by simp, fun n a o e => by simp at e, hT⟩, .one ?_, ?_⟩
  · unfold scriptW VR
    refine ⟨a, _, rfl, ?_, ints_vrs ns⟩
    rcases hs with hs | hs
    · exact .inl ⟨hs, by simp⟩
    · exact .inr fun H' => .inr hs
  · rw [hd]
    exact fun ρ' H' v x r q => VR.bl q
end Den
set_option maxRecDepth 100000
/-! More operations: tuples of names, min over texts, index, in. -/
namespace Den
open PySem L2 PyProof.Rows
/-- whether an error of the class at S is what «except S'» names -/
theorem exm_mk {K : PySem.W.Frag} {S S' : Addr} {b : Bool} (h1 : PySem.W.subIn K (.ref S') (.type "BaseException") = some true) (h2 : PySem.W.isClsIn K S' = true) (h3 : PySem.W.typeIn K (.ref S') = some (.type "type")) (h4 : PySem.W.subIn K (.ref S) (.ref S') = some b) :
    PySem.W.exmOne K (.ref S) (.ref S') = some b := by
  have e1 : (PySem.W.subIn K (.ref S') (.type "BaseException") == some true) = true := by rw [h1] <;> rfl
  have e2 : ((PySem.W.clsIn K S').isSome && PySem.W.typeIn K (.ref S') == some (.type "type")) = true := by
    have h2' : (PySem.W.clsIn K S').isSome = true := h2
    rw [h2', h3] <;> rfl
  show (if (PySem.W.subIn K (.ref S') (.type "BaseException") == some true) = true then (if ((PySem.W.clsIn K S').isSome && PySem.W.typeIn K (.ref S') == some (.type "type")) = true then PySem.W.subIn K (.ref S) (.ref S') else none) else none) = some b
  rw [if_pos e1, if_pos e2]
  exact h4
theorem room65 {k : Nat} {A : Around} (r : Room k A) : A.units + 65 < cLine := by have := r.un; omega
section
variable {G : Gx} {X : Cx}
theorem VRs.inv3 {K : PySem.W.Frag} {H : Hp} {ρ : List Addr} {vs : List V} {w w' w'' : W} (r : VRs K H ρ vs [w, w', w'']) : ∃ v v' v'', vs = [v, v', v''] ∧ VR K H ρ v w ∧ VR K H ρ v' w' ∧ VR K H ρ v'' w'' := by
  unfold VRs at r
  obtain ⟨v, l, rfl, q, z⟩ := r
  obtain ⟨v', v'', rfl, q', q''⟩ := VRs.inv2 z
  exact ⟨v, v', v'', rfl, q, q', q''⟩
theorem ss_par3 {i j l : Nat} {x y z : Str} {a b c : Expr} {mr : M (List W)} {px py pz pt pos : Pos} {kt k2 pt2} (hc : X.calm = true) (hN : X.N.Nodup) (hi : X.N[i]? = some x) (hj : X.N[j]? = some y) (hl : X.N[l]? = some z) (hij : i ≠ j) (hil : i ≠ l) (hjl : j ≠ l)
    (hx : X.env.scope.names.lookup x = some .local) (hy : X.env.scope.names.lookup y = some .local) (hz : X.env.scope.names.lookup z = some .local) (ha : SA G X [a, b, c] mr)
    (hw : swappedStores [.Tuple [.Name x px, .Name y py, .Name z pz] kt pt] (.Tuple [a, b, c] k2 pt2) X.env = pure (some [x, y, z]))
    (hs : swapsWithSole [.Tuple [.Name x px, .Name y py, .Name z pz] kt pt] (.Tuple [a, b, c] k2 pt2) pos.line X.env = pure false := by rfl) :
    SS G X (.Assign [.Tuple [.Name x px, .Name y py, .Name z pz] kt pt] (.Tuple [a, b, c] k2 pt2) pos) (mTs [i, j, l] mr) := fun Wx tk =>
  (ps_par3 hc hN hi hj hl hij hil hjl hx hy hz (ha Wx tk) hw hs).imp fun D σ H p => rdS.stm (Rel := VsRel X.K) p fun H0 ρ0 e sr v H1 ρ1 h1 w x r q p1 => by
    split at p1
    · rename_i hl
      match w, hl, q, p1 with
      | [w1, w2, w3], hl, q, p1 =>
        obtain ⟨v1, v2, v3, rfl, q1, q2, q3⟩ := VRs.inv3 q
        exact ⟨v1, v2, v3, rfl, p1 ρ1 H1 _ (Ext.refl r) r ((((sr.mono x).set i q1).set j q2).set l q3)⟩
    · exact False.elim p1
theorem tgTs_fold : ∀ (is : List Nat) (ws : List W) (e : Den.Env), is.length = ws.length → tgTs is ws e = some ((is.zip ws).foldl (fun e p => e.set p.1 (some p.2)) e)
  | [], [], e, _ => rfl
  | i :: is, w :: ws, e, h => by
    show tgTs is ws (e.set i (some w)) = _
    rw [tgTs_fold is ws _ (by simpa using h)]
    rfl
  | [], _ :: _, _, h => by cases h
  | _ :: _, [], _, h => by cases h
theorem ss_asgT {is : List Nat} {tg e : Expr} {g : TG} {vs : List Nat} {mr : M (List W)} {pos : Pos} (he : SE G X e (mTup mr)) (hg : PG X tg g) (ht : TgOk X.K G vs g (tgT is)) (hl : is.length ≤ lim)
    (hs : swapsWithSole [tg] e pos.line X.env = pure false := by rfl) (hw : swappedStores [tg] e X.env = pure none := by rfl)
    (h1 : (assignEach [tg] X.env).map (·.2) = [assign tg X.env] := by rfl) : SS G X (.Assign [tg] e pos) (mTs is mr) := fun Wx tk =>
  (ss_asg he hg ht hs hw h1 Wx tk).imp fun D σ H p => by
    obtain ⟨ρ, e, h, hr, sr, p⟩ := p
    refine ⟨ρ, e, h, hr, sr, ?_⟩
    unfold mTs at p
    unfold mAsg mTup
    cases hm : mr e h with
    | bad => rw [hm] at p; exact False.elim p
    | exc c q h' => rw [hm] at p; exact p
    | ok ws h' =>
      rw [hm] at p
      simp only [Out.bnd_ok, Out.stm_ok] at p ⊢
      split at p
      · rename_i hw
        rw [if_pos (by rw [← hw]; exact hl), Out.stm_ok]
        show PostS X.K G Wx D H ρ (match tgTs is ws e with | some e => .nx e h' | none => .bad)
        rw [tgTs_fold is ws e hw]
        exact p
      · exact False.elim p

/-! ### min -/
def minS : List (List Nat) → List Nat
  | [] => []
  | x :: r => r.foldl (fun a y => if y < a then y else a) x
def oMin (ws : List W) (h : List O) : Out W := match ws with
  | [.int i, .int j] => .ok (.int (if j < i then j else i)) h
  | [x] => match sqL x h with
    | some xs => match intsOf xs with
      | some l => if 0 < l.length then .ok (.int (minI l)) h else .bad
      | none => match strsOf xs with
        | some l => if 0 < l.length then .ok (.str (minS l)) h else .bad
        | none => .bad
    | none => .bad
  | _ => .bad
/-! ### index, in -/
def idxOf {α : Type} [BEq α] (x : α) : List α → Option Nat
  | [] => none
  | y :: r => if y == x then some 0 else (idxOf x r).map (· + 1)
theorem idxOf_ok {α : Type} [BEq α] {x : α} : ∀ {l : List α} {j : Nat}, idxOf x l = some j → (∃ y, l[j]? = some y ∧ (y == x) = true) ∧ ∀ m y, m < j → l[m]? = some y → (y == x) = false
  | [], j, e => by cases e
  | y :: r, j, e => by
    unfold idxOf at e
    split at e
    · rename_i h
      cases e
      exact ⟨⟨y, rfl, h⟩, fun m z hm => by omega⟩
    · rename_i h
      cases hi : idxOf x r with
      | none => rw [hi] at e; cases e
      | some k =>
        rw [hi] at e
        cases e
        obtain ⟨⟨z, h1, h2⟩, h3⟩ := idxOf_ok hi
        refine ⟨⟨z, by simpa using h1, h2⟩, fun m w hm hw => ?_⟩
        cases m with
        | zero =>
          simp at hw
          subst hw
          simpa using h
        | succ m => exact h3 m w (Nat.lt_of_succ_lt_succ hm) (by simpa using hw)
theorem flat_strs (l : List (List Nat)) : ((l.map mkS).map V.str).all flatV = true := by
  rw [List.all_eq_true]
  intro v hv
  obtain ⟨s, _, rfl⟩ := List.mem_map.mp hv
  rfl
theorem flat_ints (l : List Int) : (l.map V.int).all flatV = true := by
  rw [List.all_eq_true]
  intro v hv
  obtain ⟨s, _, rfl⟩ := List.mem_map.mp hv
  rfl
end
end Den
set_option maxRecDepth 100000
/-! The plain functions, calculated: what each part gives, rules for loops. -/
namespace Den
open PySem L2
theorem nrfl {α : Sort u} {a b : α} (h : a = b) : a = b := h
section
variable {α : Type}
theorem cons_app {a : α} {as bs : List α} : (a :: as) ++ bs = a :: (as ++ bs) := nrfl rfl
theorem nil_app {as : List α} : [] ++ as = as := nrfl rfl
theorem len_cons {a : α} {as : List α} : (a :: as).length = as.length + 1 := nrfl rfl
theorem len_nil : ([] : List α).length = 0 := nrfl rfl
theorem set_z {a b : α} {as : List α} : (a :: as).set 0 b = b :: as := nrfl rfl
theorem set_s {a b : α} {as : List α} {n : Nat} : (a :: as).set (n + 1) b = a :: as.set n b := nrfl rfl
theorem zip_cc {β : Type} {a : α} {b : β} {as : List α} {bs : List β} : (a :: as).zip (b :: bs) = (a, b) :: as.zip bs := nrfl rfl
theorem zip_nn {β : Type} : ([] : List α).zip ([] : List β) = [] := nrfl rfl
theorem foldl_c {β : Type} {f : β → α → β} {b : β} {a : α} {as : List α} : (a :: as).foldl f b = as.foldl f (f b a) := nrfl rfl
theorem foldl_n {β : Type} {f : β → α → β} {b : β} : ([] : List α).foldl f b = b := nrfl rfl
theorem ite_t {a b : α} : (if true = true then a else b) = a := nrfl rfl
theorem ite_T {a b : α} {d : Decidable True} : @ite α True d a b = a := if_pos trivial
theorem ite_F {a b : α} {d : Decidable False} : @ite α False d a b = b := if_neg id
theorem ite_f {a b : α} : (if false = true then a else b) = b := nrfl rfl
end
section
variable {α β : Type} {a b c : M W} {t u : M Bool} {op op' : W → W → List O → Out W} {e : Env} {h : List O} {i j k : Int} {w : W}
theorem mVar_z {r : Env} : mVar 0 (some w :: r) h = .ok w h := nrfl rfl
theorem mVar_s {n : Nat} {x : Option W} {r : Env} : mVar (n + 1) (x :: r) h = mVar n r h := by simp [mVar]
theorem ok_bnd {x : α} {f : α → List O → Out β} : (Out.ok x h).bnd f = f x h := nrfl rfl
theorem ok_stm {x : α} {f : α → List O → SOut} : (Out.ok x h).stm e f = f x h := nrfl rfl
theorem exc_bnd {n : Nat} {p : Option W} {f : α → List O → Out β} : (Out.exc n p h).bnd f = .exc n p h := nrfl rfl
theorem exc_stm {n : Nat} {p : Option W} {f : α → List O → SOut} : (Out.exc n p h).stm e f = .exc n p e h := nrfl rfl
theorem ap_C : mC w e h = .ok w h := nrfl rfl
theorem ap_Op : mOp op a b e h = (a e h).bnd fun x h => (b e h).bnd fun y h => op x y h := nrfl rfl
theorem ap_Un {op : W → List O → Out W} : mUn op a e h = (a e h).bnd fun x h => op x h := nrfl rfl
theorem ap_B : mB a e h = (a e h).bnd asB := nrfl rfl
theorem ap_Chain : mChain op op' a b c e h = (a e h).bnd fun x h => (b e h).bnd fun y h => (op x y h).bnd fun z h => (asB z h).bnd fun k h => if k = true then (c e h).bnd fun w h => op' y w h else .ok (.bl false) h := nrfl rfl
theorem ap_asB {x : Bool} : asB (.bl x) h = .ok x h := nrfl rfl
theorem ap_Tru : mTru a e h = (a e h).bnd truW := nrfl rfl
theorem ap_And : mAnd t u e h = (t e h).bnd fun c h => if c = true then u e h else .ok false h := nrfl rfl
theorem ap_Or : mOr t u e h = (t e h).bnd fun c h => if c = true then .ok true h else u e h := nrfl rfl
theorem ap_Not : mNot t e h = (t e h).bnd fun c h => .ok (!c) h := nrfl rfl
theorem ap_AndV : mAndV a b e h = (a e h).bnd fun x h => (truW x h).bnd fun k h => if k = true then b e h else .ok x h := nrfl rfl
theorem ap_OrV : mOrV a b e h = (a e h).bnd fun x h => (truW x h).bnd fun k h => if k = true then .ok x h else b e h := nrfl rfl
theorem ap_NotV : mNotV a e h = (a e h).bnd fun x h => (truW x h).bnd fun k h => .ok (.bl (!k)) h := nrfl rfl
theorem ap_If : mIf t a b e h = (t e h).bnd fun c h => if c = true then a e h else b e h := nrfl rfl
theorem ap_Nil : mNil e h = .ok [] h := nrfl rfl
theorem ap_Cons {r : M (List W)} : mCons a r e h = (a e h).bnd fun x h => (r e h).bnd fun xs h => .ok (x :: xs) h := nrfl rfl
theorem ap_Tup {m : M (List W)} : mTup m e h = (m e h).bnd fun xs h => if xs.length ≤ 1000000 then .ok (.tup xs) h else .bad := nrfl rfl
theorem ap_Lst {m : M (List W)} : mLst m e h = (m e h).bnd fun xs h => if xs.length ≤ 1000000 then .ok (.ref h.length) (h ++ [.lst xs]) else .bad := nrfl rfl
theorem ap_CB {f : List W → List O → Out W} {m : M (List W)} : mCB f m e h = (m e h).bnd fun ws h => f ws h := nrfl rfl
theorem ap_Meth {T : String} {f : W → List W → List O → Out W} {m : M (List W)} : mMeth T f a m e h = (a e h).bnd fun x h => if tyW T x h = true then (m e h).bnd fun ws h => f x ws h else .bad := nrfl rfl
theorem ap_Part : mPart a e h = (a e h).bnd fun w h => match w with
  | .int i => .ok (some i) h
  | _ => .bad := nrfl rfl
theorem ap_NoPart : mNoPart e h = .ok none h := nrfl rfl
theorem ap_Sl {lo hi : M (Option Int)} : mSl a lo hi e h = (a e h).bnd fun x h => (lo e h).bnd fun l h => (hi e h).bnd fun u h => oSl x l u h := nrfl rfl
theorem ap_Yes : mYes e h = .ok true h := nrfl rfl
/-! operations -/
theorem add_ii : oAdd (.int i) (.int j) h = .ok (.int (i + j)) h := nrfl rfl
theorem add_ss {s r : List Nat} (hl : s.length + r.length ≤ 1000000) : oAdd (.str s) (.str r) h = .ok (.str (s ++ r)) h := by unfold oAdd; exact if_pos hl
theorem sub_ii : oSub (.int i) (.int j) h = .ok (.int (i - j)) h := nrfl rfl
theorem neg_i : oNeg (.int i) h = .ok (.int (-i)) h := nrfl rfl
set_option exponentiation.threshold 100 in
theorem mulOk_of (h1 : i.natAbs < 2 ^ 50000000) (h2 : j.natAbs < 2 ^ 49999999) : mulOk i j = true := by
  unfold mulOk
  have l1 : i.natAbs.log2 < 50000000 := by
    by_cases z : i.natAbs = 0
    · rw [z]; decide
    · exact (Nat.log2_lt z).2 h1
  have l2 : j.natAbs.log2 < 49999999 := by
    by_cases z : j.natAbs = 0
    · rw [z]; decide
    · exact (Nat.log2_lt z).2 h2
  exact decide_eq_true (by omega)
theorem small_pow {n m : Nat} (h : n < 2 ^ 64) (hm : 64 ≤ m) : n < 2 ^ m := Nat.lt_of_lt_of_le h (Nat.pow_le_pow_right (by decide) hm)
theorem mul_ii (h1 : -18446744073709551616 < i ∧ i < 18446744073709551616) (h2 : -18446744073709551616 < j ∧ j < 18446744073709551616) : oMul (.int i) (.int j) h = .ok (.int (i * j)) h := by
  unfold oMul
  exact if_pos (mulOk_of (small_pow (by omega) (by decide)) (small_pow (by omega) (by decide)))
theorem fdiv_ii (h1 : 0 < j) (h2 : j < 18446744073709551616) : oFdiv (.int i) (.int j) h = .ok (.int (i / j)) h := by
  unfold oFdiv
  refine if_pos ⟨h1, ?_⟩
  have z : j.natAbs ≠ 0 := by omega
  exact (Nat.log2_lt z).2 (small_pow (by omega) (by decide))
theorem mod_ii (h1 : 0 < j) : oMod (.int i) (.int j) h = .ok (.int (i % j)) h := by unfold oMod; exact if_pos h1
theorem beq_dec {α : Type} [DecidableEq α] (x y : α) : (x == y) = decide (x = y) := by
  by_cases e : x = y <;> simp [e]
theorem eq_ii : oEq (.int i) (.int j) h = .ok (.bl (decide (i = j))) h := by show Out.ok (W.bl (i == j)) h = _; rw [beq_dec]
theorem ne_ii : oNe (.int i) (.int j) h = .ok (.bl (decide (i ≠ j))) h := by show Out.ok (W.bl (!(i == j))) h = _; rw [beq_dec, decide_not]
theorem eq_ss {s r : List Nat} : oEq (.str s) (.str r) h = .ok (.bl (decide (s = r))) h := by show Out.ok (W.bl (s == r)) h = _; by_cases e : s = r <;> simp [e]
theorem ne_ss {s r : List Nat} : oNe (.str s) (.str r) h = .ok (.bl (decide (s ≠ r))) h := by show Out.ok (W.bl (!(s == r))) h = _; by_cases e : s = r <;> simp [e]
theorem lt_ii : oLt (.int i) (.int j) h = .ok (.bl (decide (i < j))) h := nrfl rfl
theorem le_ii : oLe (.int i) (.int j) h = .ok (.bl (decide (i ≤ j))) h := nrfl rfl
theorem gt_ii : oGt (.int i) (.int j) h = .ok (.bl (decide (j < i))) h := nrfl rfl
theorem ge_ii : oGe (.int i) (.int j) h = .ok (.bl (decide (j ≤ i))) h := nrfl rfl
theorem lt_ss {s r : List Nat} : oLt (.str s) (.str r) h = .ok (.bl (decide (s < r))) h := nrfl rfl
theorem gt_ss {s r : List Nat} : oGt (.str s) (.str r) h = .ok (.bl (decide (r < s))) h := nrfl rfl
theorem le_ss {s r : List Nat} : oLe (.str s) (.str r) h = .ok (.bl (decide (¬ r < s))) h := by show Out.ok (W.bl (!decide (r < s))) h = _; rw [decide_not]
theorem ge_ss {s r : List Nat} : oGe (.str s) (.str r) h = .ok (.bl (decide (¬ s < r))) h := by show Out.ok (W.bl (!decide (s < r))) h = _; rw [decide_not]
theorem len_s {s : List Nat} (hl : s.length ≤ 1000000) : oLen [.str s] h = .ok (.int s.length) h := by unfold oLen; exact if_pos hl
theorem len_t {xs : List W} : oLen [.tup xs] h = .ok (.int xs.length) h := nrfl rfl
def withL {α : Type} (o : Option (List W)) (f : List W → Out α) : Out α := match o with
  | some xs => f xs
  | none => .bad
theorem withL_s {α : Type} {xs : List W} {f : List W → Out α} : withL (some xs) f = f xs := nrfl rfl
theorem len_r {n : Nat} {xs : List W} (hn : lstAt h n = some xs) : oLen [.ref n] h = .ok (.int xs.length) h := by unfold oLen; dsimp only; rw [lstAt_some hn]
theorem abs_i : oAbs [.int i] h = .ok (.int (if i < 0 then -i else i)) h := nrfl rfl
theorem int_i : oInt [.int i] h = .ok (.int i) h := nrfl rfl
theorem int_b {x : Bool} : oInt [.bl x] h = .ok (.int (if x then 1 else 0)) h := nrfl rfl
theorem max_ii : oMax [.int i, .int j] h = .ok (.int (if j > i then j else i)) h := nrfl rfl
theorem min_ii : oMin [.int i, .int j] h = .ok (.int (if j < i then j else i)) h := nrfl rfl
theorem atI_nat {α : Type} {xs : List α} {i : Int} (h0 : 0 ≤ i) (h1 : i < xs.length) : L2.atI xs i = some (xs[i.toNat]'(by omega)) := by
  unfold L2.atI L2.ixN
  rw [if_pos h0, if_pos h1]
  show xs[i.toNat]? = _
  exact List.getElem?_eq_getElem (by omega)
theorem atI_neg {α : Type} {xs : List α} {i : Int} (h0 : i < 0) (h1 : -(xs.length : Int) ≤ i) : L2.atI xs i = some (xs[(i + xs.length).toNat]'(by omega)) := by
  unfold L2.atI L2.ixN
  rw [if_neg (by omega), if_pos h1]
  show xs[(i + xs.length).toNat]? = _
  exact List.getElem?_eq_getElem (by omega)
theorem ix_s {s : List Nat} (h0 : 0 ≤ i) (h1 : i < s.length) (hl : s.length ≤ 1000000) : oIx (.str s) (.int i) h = .ok (.str [s.getD i.toNat 0]) h := by
  unfold oIx
  dsimp only
  rw [if_pos hl, atI_nat h0 h1]
  rw [List.getD_eq_getElem?_getD, List.getElem?_eq_getElem (by omega)]
  rfl
def ixL (xs : List W) (i : Int) (h : List O) : Out W := match L2.atI xs i with
  | some w => .ok w h
  | none => .bad
theorem ixL_ok {xs : List W} (h0 : 0 ≤ i) (h1 : i < xs.length) : ixL xs i h = .ok (xs.getD i.toNat .non) h := by
  unfold ixL
  rw [atI_nat h0 h1, List.getD_eq_getElem?_getD, List.getElem?_eq_getElem (by omega)]
  rfl
theorem ixL_0 {x : W} {r : List W} : ixL (x :: r) 0 h = .ok x h := by rw [ixL_ok (by omega) (by simp)]; rfl
theorem ixL_1 {x y : W} {r : List W} : ixL (x :: y :: r) 1 h = .ok y h := by rw [ixL_ok (by omega) (by simp; omega)]; rfl
theorem ixL_2 {x y z : W} {r : List W} : ixL (x :: y :: z :: r) 2 h = .ok z h := by rw [ixL_ok (by omega) (by simp; omega)]; rfl
theorem ixL_3 {x y z u : W} {r : List W} : ixL (x :: y :: z :: u :: r) 3 h = .ok u h := by rw [ixL_ok (by omega) (by simp; omega)]; rfl
theorem ix_r {n : Nat} : oIx (.ref n) (.int i) h = withL (lstAt h n) fun xs => ixL xs i h := by
  unfold oIx withL
  dsimp only [sqA]
  all_goals (cases lstAt h n <;> rfl)
theorem getL_r {n : Nat} : oGetL (.ref n) (.int i) h = withL (lstAt h n) fun xs => ixL xs i h := by
  unfold oGetL withL
  dsimp only [sqL]
  all_goals (cases lstAt h n <;> rfl)
theorem ix_tL {xs : List W} : oIx (.tup xs) (.int i) h = ixL xs i h := nrfl rfl
def setL (n : Nat) (xs : List W) (i : Int) (w : W) (h : List O) : Out Unit := match L2.ixN xs.length i with
  | some j => .ok () (h.set n (.lst (xs.set j w)))
  | none => .bad
theorem setL_ok {n : Nat} {xs : List W} (h0 : 0 ≤ i) (h1 : i < xs.length) : setL n xs i w h = .ok () (h.set n (.lst (xs.set i.toNat w))) := by
  unfold setL L2.ixN
  rw [if_pos h0, if_pos h1]
theorem setL_0 {n : Nat} {x : W} {r : List W} : setL n (x :: r) 0 w h = .ok () (h.set n (.lst (w :: r))) := by rw [setL_ok (by omega) (by simp)]; rfl
theorem setL_1 {n : Nat} {x y : W} {r : List W} : setL n (x :: y :: r) 1 w h = .ok () (h.set n (.lst (x :: w :: r))) := by rw [setL_ok (by omega) (by simp; omega)]; rfl
theorem setL_2 {n : Nat} {x y z : W} {r : List W} : setL n (x :: y :: z :: r) 2 w h = .ok () (h.set n (.lst (x :: y :: w :: r))) := by rw [setL_ok (by omega) (by simp; omega)]; rfl
theorem set_r {n : Nat} : oSet (.ref n) (.int i) w h = withL (lstAt h n) fun xs => setL n xs i w h := by
  unfold oSet withL
  dsimp only
  all_goals (cases lstAt h n <;> rfl)
theorem app_r {n : Nat} : oAppend (.ref n) [w] h = withL (lstAt h n) fun xs => if xs.length < 1000000 then .ok .non (h.set n (.lst (xs ++ [w]))) else .bad := by
  unfold oAppend withL
  dsimp only
  all_goals (cases lstAt h n <;> rfl)
theorem lst_z {xs : List W} {r : List O} : lstAt (.lst xs :: r) 0 = some xs := nrfl rfl
theorem lst_s {o : O} {r : List O} {n : Nat} : lstAt (o :: r) (n + 1) = lstAt r n := by unfold lstAt; rw [List.getElem?_cons_succ]
theorem lst_last {xs : List W} : lstAt (h ++ [.lst xs]) h.length = some xs := by unfold lstAt; rw [List.getElem?_append_right (Nat.le_refl _), Nat.sub_self]; rfl
theorem lst_set {n : Nat} {xs : List W} (hl : n < h.length) : lstAt (h.set n (.lst xs)) n = some xs := by unfold lstAt; rw [List.getElem?_set_self hl]
theorem lst_ne {n m : Nat} {o : O} (hl : n ≠ m) : lstAt (h.set n o) m = lstAt h m := by unfold lstAt; rw [List.getElem?_set_ne hl]
theorem lst_lt {n : Nat} {xs : List W} (e : lstAt h n = some xs) : n < h.length := by
  rcases Nat.lt_or_ge n h.length with x | x
  · exact x
  · have e2 := lstAt_some e
    rw [List.getElem?_eq_none x] at e2; cases e2
theorem iadd_ii : oIadd (.int i) (.int j) h = .ok (.int (i + j)) h := nrfl rfl
theorem tuple_r {n : Nat} : oTuple [.ref n] h = withL (lstAt h n) fun xs => .ok (.tup xs) h := by
  unfold oTuple withL
  dsimp only [sqL]
  all_goals (cases lstAt h n <;> rfl)
theorem mul_ri {n : Nat} {k : Int} (h1 : -4611686018427387904 ≤ k) (h2 : k < 4611686018427387904) : oMul (.ref n) (.int k) h = withL (lstAt h n) fun a => if a.length * k.toNat ≤ 1000000 then .ok (.ref h.length) (h ++ [.lst (List.replicate k.toNat a).flatten]) else .bad := by
  unfold oMul withL
  dsimp only
  cases lstAt h n with
  | none => rfl
  | some a =>
    dsimp only
    by_cases hl : a.length * k.toNat ≤ 1000000
    · rw [if_pos hl, if_pos ⟨by omega, by omega, hl⟩]
    · rw [if_neg hl, if_neg (fun x => hl x.2.2)]
theorem sl_s {s : List Nat} {lo hi : Option Int} (hl : s.length ≤ 1000000) : oSl (.str s) lo hi h = .ok (.str (cutW s lo hi)) h := by unfold oSl; exact if_pos hl
theorem cut_from {α : Type} {xs : List α} {i : Int} (h0 : 0 ≤ i) : cutW xs (some i) none = xs.drop i.toNat := by
  unfold cutW HT.sIx
  dsimp only
  rw [if_neg (by omega)]
  by_cases hl : i.toNat ≤ xs.length
  · rw [Nat.min_eq_left hl, List.take_of_length_le (by simp)]
  · rw [Nat.min_eq_right (by omega), Nat.sub_self, List.take_zero, List.drop_eq_nil_of_le (by omega)]
theorem cut_to {α : Type} {xs : List α} {i : Int} (h0 : 0 ≤ i) : cutW xs none (some i) = xs.take i.toNat := by
  unfold cutW HT.sIx
  dsimp only
  rw [if_neg (by omega)]
  rw [List.drop_zero, Nat.sub_zero]
  by_cases hl : i.toNat ≤ xs.length
  · rw [Nat.min_eq_left hl]
  · rw [Nat.min_eq_right (by omega), List.take_of_length_le (Nat.le_refl _), List.take_of_length_le (by omega)]
theorem cut_mid {α : Type} {xs : List α} {i j : Int} (h0 : 0 ≤ i) (h1 : i ≤ j) (h2 : j ≤ xs.length) : cutW xs (some i) (some j) = (xs.drop i.toNat).take (j - i).toNat := by
  unfold cutW HT.sIx
  dsimp only
  rw [if_neg (by omega), if_neg (by omega), Nat.min_eq_left (by omega), Nat.min_eq_left (by omega)]
  congr 1
  omega
end
/-! ### statements -/
def SOut.seq (o : SOut) (b : Sm) : SOut := match o with
  | .nx e h => b e h
  | .rt w h => .rt w h
  | .bk e h => .bk e h
  | .ct e h => .ct e h
  | .exc c p e h => .exc c p e h
  | .bad => .bad
section
variable {s b : Sm} {e : Env} {h : List O} {m : M W} {t : M Bool} {ml : M (List W)} {w : W}
theorem ap_Seq : mSeq s b e h = (s e h).seq b := nrfl rfl
theorem nx_seq : (SOut.nx e h).seq b = b e h := nrfl rfl
theorem rt_seq : (SOut.rt w h).seq b = .rt w h := nrfl rfl
theorem ct_seq : (SOut.ct e h).seq b = .ct e h := nrfl rfl
theorem bk_seq : (SOut.bk e h).seq b = .bk e h := nrfl rfl
theorem exc_seq {c : Nat} {p : Option W} : (SOut.exc c p e h).seq b = .exc c p e h := nrfl rfl
theorem ap_Raise {c : Nat} : mRaise c e h = .exc c none e h := nrfl rfl
theorem ap_Skip : mSkip e h = .nx e h := nrfl rfl
theorem ap_Brk : mBrk e h = .bk e h := nrfl rfl
theorem ap_Cnt : mCnt e h = .ct e h := nrfl rfl
theorem ap_Drop : mDrop m e h = (m e h).stm e fun _ h => .nx e h := nrfl rfl
theorem ap_Ret : mRet m e h = (m e h).stm e fun w h => .rt w h := nrfl rfl
theorem ap_IfS : mIfS t s b e h = (t e h).stm e fun c h => if c = true then s e h else b e h := nrfl rfl
theorem ap_Set {i : Nat} : mSet i m e h = (m e h).stm e fun w h => .nx (e.set i (some w)) h := nrfl rfl
theorem ap_Ts {is : List Nat} : mTs is ml e h = (ml e h).stm e fun ws h => if is.length = ws.length then .nx ((is.zip ws).foldl (fun e p => e.set p.1 (some p.2)) e) h else .bad := nrfl rfl
theorem ap_AsgT {is : List Nat} : mAsg (tgT is) m e h = (m e h).stm e fun w h => match tgT is w e with
  | some e => .nx e h
  | none => .bad := nrfl rfl
theorem tgT_t {is : List Nat} {ws : List W} : tgT is (.tup ws) e = tgTs is ws e := nrfl rfl
theorem tgTs_n : tgTs [] [] e = some e := nrfl rfl
theorem tgTs_c {i : Nat} {is : List Nat} {ws : List W} : tgTs (i :: is) (w :: ws) e = tgTs is ws (e.set i (some w)) := nrfl rfl
theorem ap_Aug {i : Nat} {f : W → W → List O → Out W} : mAug i f m e h = (mVar i e h).stm e fun x _ => (m e h).stm e fun y h => (f x y h).stm e fun z h => .nx (e.set i (some z)) h := by
  unfold mAug mVar
  rcases hx : e[i]? with _ | (_ | x) <;> rfl
theorem ap_SetI {f : W → W → W → List O → Out Unit} {mo mi : M W} : mSetI f mo mi m e h = (m e h).stm e fun v h => (mo e h).stm e fun o h => (mi e h).stm e fun i h => (f o i v h).stm e fun _ h => .nx e h := nrfl rfl
theorem ap_AugI {g f : W → W → List O → Out W} {st : W → W → W → List O → Out Unit} {mo mi : M W} : mAugI g f st mo mi m e h = (mo e h).stm e fun o h => (mi e h).stm e fun i h => (g o i h).stm e fun x h =>
  (m e h).stm e fun y h => (f x y h).stm e fun z h => (st o i z h).stm e fun _ h => .nx e h := nrfl rfl
end
/-! ### reading on: what is asked of the rest -/
def Ev {α : Type} (o : Out α) (Q : α → List O → Prop) : Prop := match o with
  | .ok a h => Q a h
  | _ => False
def Sv (o : SOut) (Q : SOut → Prop) : Prop := Q o
section
variable {α β : Type} {o : Out α} {f : α → List O → Out β} {g : α → List O → SOut} {Q : β → List O → Prop} {R : SOut → Prop} {e : Env} {h : List O} {s : SOut} {b : Sm}
theorem ev_ok {x : α} {Q : α → List O → Prop} (q : Q x h) : Ev (.ok x h) Q := q
theorem ev_okE {x : α} {Q : α → List O → Prop} : Ev (.ok x h) Q = Q x h := nrfl rfl
theorem sv_stm (p : Ev o fun a h => Sv (g a h) R) : Sv (o.stm e g) R := by
  cases o with
  | ok a h => exact p
  | exc c q h => exact p.elim
  | bad => exact p.elim
theorem ev_imp {Q Q' : α → List O → Prop} (p : Ev o Q) (i : ∀ a h, Q a h → Q' a h) : Ev o Q' := by
  cases o with
  | ok a h => exact i a h p
  | exc c q h => exact p.elim
  | bad => exact p.elim
theorem sv_cut {R' : SOut → Prop} (p : Sv s R') (i : ∀ o, R' o → Sv (o.seq b) R) : Sv (s.seq b) R := i _ p
theorem sv_imp {R R' : SOut → Prop} (p : Sv s R) (i : ∀ o, R o → R' o) : Sv s R' := i _ p
theorem ev_eq {x : α} {Q : α → List O → Prop} (hE : o = .ok x h) (q : Q x h) : Ev o Q := by rw [hE]; exact q
theorem ev_get {Q : α → List O → Prop} (p : Ev o Q) : ∃ a h, o = .ok a h ∧ Q a h := by
  cases o with
  | ok a h => exact ⟨a, h, rfl, p⟩
  | exc c q h => exact p.elim
  | bad => exact p.elim
end
section
variable {body : Sm} {e : Env} {h : List O} {R : SOut → Prop} {n : Nat} {src : Src} {t : Tg}
/-- what a round of a loop hands on -/
def rnd (I : Env → List O → Prop) (R : SOut → Prop) : SOut → Prop
  | .nx e h => I e h
  | .ct e h => I e h
  | .bk e h => R (.nx e h)
  | .rt w h => R (.rt w h)
  | .exc c p e h => R (.exc c p e h)
  | .bad => False
theorem forGo_sv (N : Nat) (I : Nat → Env → List O → Prop) (step : ∀ i e h, i < N → I i e h → ∃ w e1, src i h = some (some w) ∧ t w e = some e1 ∧ Sv (body e1 h) (rnd (I (i + 1)) R))
    (stop : ∀ e h, I N e h → src N h = some none ∧ R (.nx e h)) : ∀ (k i : Nat) (e : Env) (h : List O), N - i < k → i ≤ N → I i e h → Sv (forGo src t body k i e h) R
  | 0, i, e, h, hk, _, _ => by omega
  | k + 1, i, e, h, hk, hi, p => by
    by_cases hN : i = N
    · subst hN
      obtain ⟨h1, h2⟩ := stop e h p
      show R _
      unfold forGo
      rw [h1]
      exact h2
    · obtain ⟨w, e1, h1, h2, h3⟩ := step i e h (by omega) p
      have ih := forGo_sv N I step stop k (i + 1)
      show R _
      unfold forGo
      rw [h1]
      dsimp only
      rw [h2]
      dsimp only
      change rnd (I (i + 1)) R (body e1 h) at h3
      cases hb : body e1 h with
      | nx e2 h2 => rw [hb] at h3; exact ih e2 h2 (by omega) (by omega) h3
      | ct e2 h2 => rw [hb] at h3; exact ih e2 h2 (by omega) (by omega) h3
      | bk e2 h2 => rw [hb] at h3; exact h3
      | rt w h2 => rw [hb] at h3; exact h3
      | exc c p e2 h2 => rw [hb] at h3; exact h3
      | bad => rw [hb] at h3; exact h3.elim
theorem mFor_ap {it : M Src} : mFor n it t body e h = (it e h).stm e fun src h => forGo src t body n 0 e h := nrfl rfl
theorem ap_Rng1 {ml : M (List W)} : mRng1 ml e h = (ml e h).bnd fun ws h => match ws with
  | [.int j] => if -(2 ^ 62) ≤ j ∧ j < 2 ^ 62 then .ok (srcN 0 j.toNat) h else .bad
  | _ => .bad := nrfl rfl
theorem ap_Rng2 {ml : M (List W)} : mRng2 ml e h = (ml e h).bnd fun ws h => match ws with
  | [.int i, .int j] => if -(2 ^ 62) ≤ i ∧ i < 2 ^ 62 ∧ -(2 ^ 62) ≤ j ∧ j < 2 ^ 62 then .ok (srcN i (j - i).toNat) h else .bad
  | _ => .bad := nrfl rfl
theorem ap_Iter {m : M W} : mIter m e h = (m e h).bnd toSrc := nrfl rfl
theorem src_t {xs : List W} : toSrc (.tup xs) h = .ok (srcL xs) h := nrfl rfl
theorem src_s {xs : List Nat} : toSrc (.str xs) h = .ok (srcS xs) h := nrfl rfl
theorem src_r {m : Nat} {xs : List W} (hm : lstAt h m = some xs) : toSrc (.ref m) h = .ok (srcR m) h := by
  unfold toSrc
  dsimp only
  rw [hm]
theorem src_rL {m : Nat} : toSrc (.ref m) h = withL (lstAt h m) fun _ => .ok (srcR m) h := by
  unfold toSrc withL
  dsimp only
  all_goals (cases lstAt h m <;> rfl)
theorem rng1_ok {j : Int} (h1 : -4611686018427387904 ≤ j) (h2 : j < 4611686018427387904) : (if -(2 ^ 62) ≤ j ∧ j < 2 ^ 62 then Out.ok (srcN 0 j.toNat) h else .bad) = .ok (srcN 0 j.toNat) h := if_pos ⟨by omega, by omega⟩
theorem rng2_ok {i j : Int} (h0 : -4611686018427387904 ≤ i ∧ i < 4611686018427387904) (h1 : -4611686018427387904 ≤ j) (h2 : j < 4611686018427387904) : (if -(2 ^ 62) ≤ i ∧ i < 2 ^ 62 ∧ -(2 ^ 62) ≤ j ∧ j < 2 ^ 62 then Out.ok (srcN i (j - i).toNat) h else .bad) = .ok (srcN i (j - i).toNat) h := if_pos ⟨by omega, by omega, by omega, by omega⟩
theorem forGo_rng (N : Nat) (lo : Int) (v : Nat) (I : Nat → Env → List O → Prop) (hn : N < n) (h0 : I 0 e h) (step : ∀ i e h, i < N → I i e h → Sv (body (e.set v (some (.int (lo + i)))) h) (rnd (I (i + 1)) R))
    (stop : ∀ e h, I N e h → R (.nx e h)) : Sv (forGo (srcN lo N) (tgN v) body n 0 e h) R :=
  forGo_sv N I (fun i e h hi p => ⟨_, _, by unfold srcN; exact if_pos hi, rfl, step i e h hi p⟩) (fun e h p => ⟨by unfold srcN; exact if_neg (by omega), stop e h p⟩) n 0 e h (by omega) (by omega) h0
/-- over a list on the heap that stays -/
theorem forGo_ref (m : Nat) (xs : List W) (v : Nat) (I : Nat → Env → List O → Prop) (hn : xs.length < n) (h0 : I 0 e h) (keep : ∀ i e h, I i e h → lstAt h m = some xs) (step : ∀ i e h (hi : i < xs.length), I i e h → Sv (body (e.set v (some xs[i])) h) (rnd (I (i + 1)) R))
    (stop : ∀ e h, I xs.length e h → R (.nx e h)) : Sv (forGo (srcR m) (tgN v) body n 0 e h) R :=
  forGo_sv xs.length I (fun i e h hi p => ⟨_, _, by unfold srcR; rw [keep i e h p]; show some xs[i]? = _; rw [List.getElem?_eq_getElem hi], rfl, step i e h hi p⟩)
    (fun e h p => ⟨by unfold srcR; rw [keep _ e h p]; show some xs[xs.length]? = _; rw [List.getElem?_eq_none (by omega)], stop e h p⟩) n 0 e h (by omega) (by omega) h0
theorem while_sv {c : M Bool} (I : Nat → Env → List O → Prop) (step : ∀ m e h, I m e h → Ev (c e h) fun b h1 => if b = true then Sv (body e h1) (rnd (fun e2 h2 => ∃ m2, m2 < m ∧ I m2 e2 h2) R) else R (.nx e h1)) :
    ∀ (k m : Nat) (e : Env) (h : List O), m < k → I m e h → Sv (whileGo c body k e h) R
  | 0, m, e, h, hk, _ => by omega
  | k + 1, m, e, h, hk, p => by
    obtain ⟨b, h1, hc, p1⟩ := ev_get (step m e h p)
    show R _
    unfold whileGo
    rw [hc]
    show R (if b = true then _ else _)
    cases b with
    | false => exact p1
    | true =>
      rw [if_pos rfl] at p1 ⊢
      change rnd _ R (body e h1) at p1
      cases hb : body e h1 with
      | nx e2 h2 => rw [hb] at p1; obtain ⟨m2, hm, q⟩ := p1; exact while_sv I step k m2 e2 h2 (by omega) q
      | ct e2 h2 => rw [hb] at p1; obtain ⟨m2, hm, q⟩ := p1; exact while_sv I step k m2 e2 h2 (by omega) q
      | bk e2 h2 => rw [hb] at p1; exact p1
      | rt w h2 => rw [hb] at p1; exact p1
      | exc c p e2 h2 => rw [hb] at p1; exact p1
      | bad => rw [hb] at p1; exact p1.elim
theorem mWhile_sv {c : M Bool} (m : Nat) (I : Nat → Env → List O → Prop) (hm : m < n) (h0 : I m e h) (step : ∀ m e h, I m e h → Ev (c e h) fun b h1 => if b = true then Sv (body e h1) (rnd (fun e2 h2 => ∃ m2, m2 < m ∧ I m2 e2 h2) R) else R (.nx e h1)) :
    Sv (mWhile n c body e h) R := while_sv I step n m e h hm h0
end
/-! ### lists made in place -/
section
variable {e e0 : Env} {h : List O} {n D : Nat} {src : Src} {t : Tg} {cond : M Bool} {elt : M W} {Q : W → List O → Prop} {own : List Nat} {it : M Src}
theorem ap_Comp : mComp n own it t cond elt e h = (it e h).bnd fun src h => compGo src t cond elt h.length (wipeE e own) n 0 (h ++ [.lst []]) := nrfl rfl
theorem compGo_ev (N : Nat) (hN : N ≤ 1000000) (I : Nat → List W → List O → Prop)
    (step : ∀ i acc h, i < N → acc.length ≤ i → h[D]? = some (.lst acc) → I i acc h → ∃ w e1, src i h = some (some w) ∧ t w e0 = some e1 ∧
      Ev (cond e1 h) fun b h2 => if b = true then Ev (elt e1 h2) fun y h3 => h3[D]? = some (.lst acc) ∧ I (i + 1) (acc ++ [y]) (h3.set D (.lst (acc ++ [y]))) else h2[D]? = some (.lst acc) ∧ I (i + 1) acc h2)
    (stop : ∀ acc h, h[D]? = some (.lst acc) → I N acc h → src N h = some none ∧ Q (.ref D) h) :
    ∀ (k i : Nat) (acc : List W) (h : List O), N - i < k → i ≤ N → acc.length ≤ i → h[D]? = some (.lst acc) → I i acc h → Ev (compGo src t cond elt D e0 k i h) Q
  | 0, i, acc, h, hk, _, _, _, _ => by omega
  | k + 1, i, acc, h, hk, hi, ha, hD, p => by
    by_cases hN' : i = N
    · subst hN'
      obtain ⟨h1, h2⟩ := stop acc h hD p
      unfold compGo
      rw [h1]
      exact h2
    · obtain ⟨w, e1, h1, h2, h3⟩ := step i acc h (by omega) ha hD p
      obtain ⟨b, hc, hb, h3⟩ := ev_get h3
      unfold compGo
      rw [h1]
      dsimp only
      rw [h2]
      dsimp only
      rw [hb]
      dsimp only
      cases b with
      | false =>
        rw [if_neg (by decide)] at h3 ⊢
        exact compGo_ev N hN I step stop k (i + 1) acc hc (by omega) (by omega) (by omega) h3.1 h3.2
      | true =>
        rw [if_pos rfl] at h3 ⊢
        obtain ⟨y, hy, e2, h4, h5⟩ := ev_get h3
        rw [e2]
        dsimp only [lstAt]
        rw [h4]
        dsimp only
        rw [if_pos (by show acc.length < 1000000; omega)]
        have hl : D < hy.length := by
          rcases Nat.lt_or_ge D hy.length with x | x
          · exact x
          · rw [List.getElem?_eq_none x] at h4; cases h4
        exact compGo_ev N hN I step stop k (i + 1) (acc ++ [y]) _ (by omega) (by omega) (by simp; omega) (by rw [List.getElem?_set_self hl]) h5
/-- h' is h and some more -/
def Gr (h h' : List O) : Prop := ∃ j, h' = h ++ j
theorem Gr.refl : Gr h h := ⟨[], by simp⟩
theorem Gr.trans {h1 h2 h3 : List O} (a : Gr h1 h2) (b : Gr h2 h3) : Gr h1 h3 := by
  obtain ⟨j, rfl⟩ := a
  obtain ⟨k, rfl⟩ := b
  exact ⟨j ++ k, by simp⟩
theorem Gr.app {h1 h2 : List O} : Gr h1 (h1 ++ h2) := ⟨_, rfl⟩
theorem Gr.get {h1 h2 : List O} {n : Nat} {o : O} (g : Gr h1 h2) (e : h1[n]? = some o) : h2[n]? = some o := by
  obtain ⟨j, rfl⟩ := g
  have hl : n < h1.length := by
    rcases Nat.lt_or_ge n h1.length with x | x
    · exact x
    · rw [List.getElem?_eq_none x] at e; cases e
  rw [List.getElem?_append_left hl]
  exact e
theorem Gr.lst {h1 h2 : List O} {n : Nat} {xs : List W} (g : Gr h1 h2) (e : lstAt h1 n = some xs) : lstAt h2 n = some xs := by
  unfold lstAt
  rw [g.get (lstAt_some e)]
theorem Gr.lastL {h1 h2 : List O} {xs : List W} (g : Gr (h1 ++ [.lst xs]) h2) : lstAt h2 h1.length = some xs := g.lst lst_last
theorem Gr.last {h1 h2 : List O} {o : O} (g : Gr (h1 ++ [o]) h2) : h2[h1.length]? = some o := g.get (by simp)
theorem Gr.left {h1 h2 h3 : List O} (g : Gr (h1 ++ h2) h3) : Gr h1 h3 := Gr.app.trans g
/-- a part that leaves the heap as it is, but for new things -/
def Pu {α : Type} (h0 : List O) (o : List O → Out α) (w : α) : Prop := ∀ h, Gr h0 h → Ev (o h) fun x h' => x = w ∧ Gr h h'
/-- the list of what the wanted ones give -/
def picks (N : Nat) (c : Nat → Bool) (f : Nat → W) : List W := ((List.range N).filter c).map f
theorem picks_succ {N : Nat} {c : Nat → Bool} {f : Nat → W} : picks (N + 1) c f = if c N = true then picks N c f ++ [f N] else picks N c f := by
  unfold picks
  rw [List.range_succ, List.filter_append]
  by_cases hc : c N = true
  · rw [if_pos hc]; simp [hc]
  · rw [if_neg hc]; simp [hc]
theorem comp_pure (N : Nat) (hN : N ≤ 1000000) (hn : N < n) (c : Nat → Bool) (f : Nat → W) (v : Nat → W) (e1 : Nat → Env) (hs : ∀ i, i < N → ∀ h', Gr h h' → src i h' = some (some (v i))) (hs2 : ∀ h', Gr h h' → src N h' = some none) (ht : ∀ i, i < N → t (v i) e0 = some (e1 i))
    (hc : ∀ i, i < N → Pu h (cond (e1 i)) (c i)) (he : ∀ i, i < N → c i = true → Pu h (elt (e1 i)) (f i))
    (q : ∀ h', Gr (h ++ [.lst (picks N c f)]) h' → Q (.ref h.length) h') : Ev (compGo src t cond elt h.length e0 n 0 (h ++ [.lst []])) Q := by
  refine compGo_ev N hN (fun i acc h' => acc = picks i c f ∧ Gr (h ++ [.lst acc]) h') (fun i acc h' hi ha hD p => ?_) (fun acc h' hD p => ?_) n 0 [] _ (by omega) (by omega) (by simp) (by simp) ⟨rfl, Gr.refl⟩
  · obtain ⟨pa, pg⟩ := p
    refine ⟨_, _, hs i hi h' pg.left, ht i hi, ev_imp (hc i hi h' pg.left) fun b h2 ⟨hb, g2⟩ => ?_⟩
    subst hb
    by_cases hci : c i = true
    · rw [if_pos hci]
      refine ev_imp (he i hi hci h2 (pg.left.trans g2)) fun y h3 ⟨hy, g3⟩ => ?_
      subst hy
      have g : Gr (h ++ [.lst acc]) h3 := pg.trans (g2.trans g3)
      refine ⟨g.last, by rw [picks_succ, if_pos hci, pa], ?_⟩
      obtain ⟨j, rfl⟩ := g
      refine ⟨j, ?_⟩
      rw [List.append_assoc, List.set_append_right _ _ (Nat.le_refl _), Nat.sub_self]
      simp
    · rw [if_neg hci]
      have g : Gr (h ++ [.lst acc]) h2 := pg.trans g2
      exact ⟨g.last, by rw [picks_succ, if_neg hci, pa], g⟩
  · obtain ⟨pa, pg⟩ := p
    subst pa
    exact ⟨hs2 h' pg.left, q h' pg⟩
theorem comp_rng (N : Nat) (lo : Int) (v : Nat) (hN : N ≤ 1000000) (hn : N < n) (c : Nat → Bool) (f : Nat → W)
    (hc : ∀ i, i < N → Pu h (cond (e0.set v (some (.int (lo + i))))) (c i)) (he : ∀ i, i < N → c i = true → Pu h (elt (e0.set v (some (.int (lo + i))))) (f i))
    (q : ∀ h', Gr (h ++ [.lst (picks N c f)]) h' → Q (.ref h.length) h') : Ev (compGo (srcN lo N) (tgN v) cond elt h.length e0 n 0 (h ++ [.lst []])) Q :=
  comp_pure N hN hn c f (fun i => .int (lo + i)) (fun i => e0.set v (some (.int (lo + i)))) (fun i hi h' _ => by unfold srcN; exact if_pos hi) (fun h' _ => by unfold srcN; exact if_neg (by omega)) (fun i hi => rfl) hc he q
theorem wipe_n : wipeE e [] = e := nrfl rfl
theorem wipe_c {v : Nat} {vs : List Nat} : wipeE e (v :: vs) = (wipeE e vs).set v none := nrfl rfl
end
/-! ### calls -/
theorem fun_ev {n : Nat} {m : Sm} {ws : List W} {h : List O} {Q : W → List O → Prop} (p : Sv (m (startE n ws) h) fun o => match o with
  | .nx _ h' => Q .non h'
  | .rt w h' => Q w h'
  | _ => False) : Ev (mFun n m ws h) Q := by
  unfold mFun
  change (match m (startE n ws) h with | .nx _ h' => Q .non h' | .rt w h' => Q w h' | _ => False) at p
  cases hm : m (startE n ws) h with
  | nx e h' => rw [hm] at p; exact p
  | rt w h' => rw [hm] at p; exact p
  | bk e h' => rw [hm] at p; exact p.elim
  | ct e h' => rw [hm] at p; exact p.elim
  | exc c q e h' => rw [hm] at p; exact p.elim
  | bad => rw [hm] at p; exact p.elim

/-! ### equality -/
section
variable {h : List O}
theorem dat_ints {k : Nat} : ∀ l : List Int, mapO (dat h (k + 1)) (l.map W.int) = some (l.map PyData.int)
  | [] => rfl
  | i :: l => by
    rw [List.map_cons]
    unfold mapO
    rw [dat_ints l]
    rfl
theorem eqvAll_ints : ∀ l l' : List Int, PyData.eqvAll (l.map PyData.int) (l'.map PyData.int) = decide (l = l')
  | [], [] => rfl
  | [], _ :: _ => by simp [PyData.eqvAll]
  | _ :: _, [] => by simp [PyData.eqvAll]
  | i :: l, j :: l' => by
    rw [List.map_cons, List.map_cons]
    unfold PyData.eqvAll
    rw [eqvAll_ints l l']
    by_cases h1 : i = j <;> by_cases h2 : l = l' <;> simp [PyData.eqv, h1, h2]
theorem eqW_ll {n m : Nat} {xs ys : List W} {ds es : List PyData} (hn : lstAt h n = some xs) (hm : lstAt h m = some ys) (hx : mapO (dat h 7) xs = some ds) (hy : mapO (dat h 7) ys = some es) : eqW h (.ref n) (.ref m) = some (PyData.eqvAll ds es) := by
  have e1 : dat h 8 (.ref n) = some (.list ds) := by unfold dat; rw [hn]; show (mapO (dat h 7) xs).map _ = _; rw [hx]; rfl
  have e2 : dat h 8 (.ref m) = some (.list es) := by unfold dat; rw [hm]; show (mapO (dat h 7) ys).map _ = _; rw [hy]; rfl
  unfold eqW
  dsimp only
  rw [e1, e2]
  dsimp only
  rw [show PyData.eqv (.list ds) (.list es) = PyData.eqvAll ds es by unfold PyData.eqv; rfl]
theorem eqW_ints {n m : Nat} {l l' : List Int} (hn : lstAt h n = some (l.map .int)) (hm : lstAt h m = some (l'.map .int)) : eqW h (.ref n) (.ref m) = some (decide (l = l')) := by
  rw [eqW_ll hn hm (dat_ints l) (dat_ints l'), eqvAll_ints]
theorem eq_ints {n m : Nat} {l l' : List Int} (hn : lstAt h n = some (l.map .int)) (hm : lstAt h m = some (l'.map .int)) : oEq (.ref n) (.ref m) h = .ok (.bl (decide (l = l'))) h := by unfold oEq; rw [eqW_ints hn hm]
theorem sl_rol {xs : List W} {lo hi : Option Int} : oSl (.rol xs) lo hi h = .ok (.ref h.length) (h ++ [.lst (cutW xs lo hi)]) := nrfl rfl
theorem sl_t {xs : List W} {lo hi : Option Int} : oSl (.tup xs) lo hi h = .ok (.tup (cutW xs lo hi)) h := nrfl rfl
theorem sl_r {n : Nat} {lo hi : Option Int} : oSl (.ref n) lo hi h = withL (lstAt h n) fun xs => .ok (.ref h.length) (h ++ [.lst (cutW xs lo hi)]) := by
  unfold oSl withL
  dsimp only [sqL]
  all_goals (cases lstAt h n <;> rfl)
end
/-! the order of texts -/
theorem sing_lt {a b : Nat} : ([a] < [b]) = (a < b) := by
  apply propext
  constructor
  · intro h
    rcases List.cons_lt_cons_iff.1 h with h | h
    · exact h
    · exact absurd h.2 (List.lt_irrefl _)
  · intro h
    exact List.cons_lt_cons_iff.2 (.inl h)
theorem sing_eq {a b : Nat} : ([a] = [b]) = (a = b) := by simp
theorem ty_r {n : Nat} {h : List O} : tyW "list" (.ref n) h = (lstAt h n).isSome := by
  unfold tyW lstAt
  cases hx : h[n]? with
  | none => simp [hx]
  | some o => cases o <;> simp [hx]
theorem ty_s {s : List Nat} {h : List O} : tyW "str" (.str s) h = true := nrfl rfl
theorem isS {α : Type} {x : α} : (some x).isSome = true := nrfl rfl
/-! lists of numbers -/
section
variable {h : List O} {i : Int} {n : Nat}
def nI (r : Nat) : W := .int r
theorem nI_def {r : Nat} : nI r = .int r := nrfl rfl
theorem ixL_n {rs : List Nat} (h0 : 0 ≤ i) (h1 : i < rs.length) : ixL (rs.map nI) i h = .ok (.int (rs.getD i.toNat 0)) h := by
  rw [ixL_ok h0 (by rw [List.length_map]; exact h1), List.getD_eq_getElem?_getD, List.getElem?_map, List.getElem?_eq_getElem (by omega), List.getD_eq_getElem?_getD, List.getElem?_eq_getElem (by omega)]
  rfl
theorem ixL_i {rs : List Int} (h0 : 0 ≤ i) (h1 : i < rs.length) : ixL (rs.map .int) i h = .ok (.int (rs.getD i.toNat 0)) h := by
  rw [ixL_ok h0 (by rw [List.length_map]; exact h1), List.getD_eq_getElem?_getD, List.getElem?_map, List.getElem?_eq_getElem (by omega), List.getD_eq_getElem?_getD, List.getElem?_eq_getElem (by omega)]
  rfl
theorem ixL_st {rs : List (List Nat)} (h0 : 0 ≤ i) (h1 : i < rs.length) : ixL (rs.map .str) i h = .ok (.str (rs.getD i.toNat [])) h := by
  rw [ixL_ok h0 (by rw [List.length_map]; exact h1), List.getD_eq_getElem?_getD, List.getElem?_map, List.getElem?_eq_getElem (by omega), List.getD_eq_getElem?_getD, List.getElem?_eq_getElem (by omega)]
  rfl
theorem setL_n {rs : List Nat} {v : Nat} (h0 : 0 ≤ i) (h1 : i < rs.length) : setL n (rs.map nI) i (.int v) h = .ok () (h.set n (.lst ((rs.set i.toNat v).map nI))) := by
  rw [setL_ok h0 (by rw [List.length_map]; exact h1), List.map_set, nI_def]
theorem setL_i {rs : List Int} {v : Int} (h0 : 0 ≤ i) (h1 : i < rs.length) : setL n (rs.map .int) i (.int v) h = .ok () (h.set n (.lst ((rs.set i.toNat v).map .int))) := by
  rw [setL_ok h0 (by rw [List.length_map]; exact h1), List.map_set]
end
end Den
set_option maxRecDepth 100000
/-! The dice. -/
namespace Den
open PySem L2
def bodyDice : Sm := mSeq (mIfS (mB (mChain oLt oLt (mOp oSub (mC (.int 0)) (mC (.int 10))) (mVar 0) (mC (.int 10)))) (mRet (mLst (mCons (mCB oAbs (mCons (mVar 0) (mNil))) (mCons (mC (.int 0)) (mCons (mC (.int 2)) (mNil)))))) (mSkip)) (mRet (mLst (mCons (mVar 0) (mCons (mOp oAdd (mC (.int 1)) (mOp oMod (mCB oInt (mCons (mVar 0) (mNil))) (mC (.int 1009)))) (mCons (mCB oInt (mCons (mOp oGe (mVar 0) (mOp oPow (mC (.int 10)) (mC (.int 18)))) (mNil))) (mNil))))))
def bodyRoll : Sm := mSeq (mIfS (mOr (mB (mOp oEq (mOp oIx (mVar 0) (mC (.int 2))) (mC (.int 2)))) (mAnd (mB (mOp oEq (mOp oIx (mVar 0) (mC (.int 2))) (mC (.int 1)))) (mB (mOp oGt (mOp oIx (mVar 0) (mC (.int 0))) (mC (.int 0)))))) (mSeq (mSet 2 (mOp oMod (mCB oInt (mCons (mOp oIx (mVar 0) (mC (.int 0))) (mNil))) (mVar 1))) (mSeq (mSetI oSet (mVar 0) (mC (.int 0)) (mOp oFdiv (mOp oIx (mVar 0) (mC (.int 0))) (mVar 1))) (mRet (mVar 2)))) (mSkip)) (mSeq (mSetI oSet (mVar 0) (mC (.int 2)) (mC (.int 0))) (mSeq (mSetI oSet (mVar 0) (mC (.int 0)) (mOp oMod (mCB oInt (mCons (mOp oAdd (mOp oAdd (mOp oMul (mOp oIx (mVar 0) (mC (.int 0))) (mC (.int 48271))) (mOp oMul (mOp oIx (mVar 0) (mC (.int 1))) (mC (.int 69621)))) (mC (.int 11))) (mNil))) (mC (.int 2147483647)))) (mSeq (mSetI oSet (mVar 0) (mC (.int 1)) (mOp oAdd (mOp oIx (mVar 0) (mC (.int 1))) (mC (.int 1)))) (mRet (mOp oMod (mCB oInt (mCons (mOp oAdd (mOp oFdiv (mOp oIx (mVar 0) (mC (.int 0))) (mC (.int 7))) (mOp oIx (mVar 0) (mC (.int 0)))) (mNil))) (mVar 1))))))
/-- a line for the size of a script's number -/
@[irreducible] def AB : Nat := 2 ^ 1048577

theorem AB_ge : 2147483648 ≤ AB := by
  unfold AB
  exact Nat.le_trans (by decide : 2147483648 ≤ 2 ^ 31) (Nat.pow_le_pow_right (by decide) (by decide))
theorem AB_lt : AB < 2 ^ 50000000 := by
  unfold AB
  exact Nat.pow_lt_pow_right (by decide) (by decide)
theorem bits_AB {z : Int} (h : Builtin.Int.intBits z ≤ 1048576) : z.natAbs < AB := by
  unfold Builtin.Int.intBits at h
  unfold AB
  split at h
  · rename_i e
    have e2 : z = 0 := by simpa using e
    rw [e2]
    exact Nat.pow_pos (by decide)
  · rename_i e
    have h1 : z.natAbs.log2 < 1048577 := by omega
    have e2 : z.natAbs ≠ 0 := fun x => e (by simpa using Int.natAbs_eq_zero.1 x)
    exact (Nat.log2_lt e2).1 h1
/-- three numbers of a die that has been rolled N times -/
structure DG (N : Nat) (a b : Int) : Prop where
  a : a.natAbs < AB
  b0 : 0 ≤ b
  b1 : b ≤ 2000 + N
theorem mul_AB {i j : Int} {h : List O} (h1 : i.natAbs < AB) (h2 : -4611686018427387904 < j ∧ j < 4611686018427387904) : oMul (.int i) (.int j) h = .ok (.int (i * j)) h := by
  unfold oMul
  exact if_pos (mulOk_of (Nat.lt_trans h1 AB_lt) (small_pow (by omega) (by decide)))
theorem dice_ev {z : Int} {h : List O} (hz : z.natAbs < AB) : ∃ a b c : Int, DG 0 a b ∧ mFun 1 bodyDice [.int z] h = .ok (.ref h.length) (h ++ [.lst [.int a, .int b, .int c]]) := by
  have hAB := AB_ge
  have e2 : oPow (.int 10) (.int 18) h = .ok (.int (10 ^ 18)) h := by unfold oPow; exact if_pos (by decide)
  by_cases e1 : -10 < z
  · by_cases e3 : z < 10
    · refine ⟨if z < 0 then -z else z, 0, 2, ⟨by split <;> omega, by omega, by omega⟩, ?_⟩
      unfold mFun bodyDice startE
      simp [e1, e2, e3, ap_asB, ok_bnd, ok_stm, ap_Ret, ap_Lst, ap_Cons, ap_Nil, ap_CB, mVar_z, ap_C, abs_i, rt_seq, ap_Seq, ap_IfS, ap_B, ap_Chain, ap_Op, lt_ii, sub_ii, ap_Skip, nx_seq, add_ii, mod_ii, int_i, ge_ii, int_b]
    · refine ⟨z, 1 + z % 1009, if 10 ^ 18 ≤ z then 1 else 0, ⟨hz, by omega, by omega⟩, ?_⟩
      unfold mFun bodyDice startE
      simp [e1, e2, e3, ap_asB, ok_bnd, ok_stm, ap_Ret, ap_Lst, ap_Cons, ap_Nil, ap_CB, mVar_z, ap_C, abs_i, rt_seq, ap_Seq, ap_IfS, ap_B, ap_Chain, ap_Op, lt_ii, sub_ii, ap_Skip, nx_seq, add_ii, mod_ii, int_i, ge_ii, int_b]
  · refine ⟨z, 1 + z % 1009, if 10 ^ 18 ≤ z then 1 else 0, ⟨hz, by omega, by omega⟩, ?_⟩
    unfold mFun bodyDice startE
    simp [e1, e2, ap_asB, ok_bnd, ok_stm, ap_Ret, ap_Lst, ap_Cons, ap_Nil, ap_CB, mVar_z, ap_C, abs_i, rt_seq, ap_Seq, ap_IfS, ap_B, ap_Chain, ap_Op, lt_ii, sub_ii, ap_Skip, nx_seq, add_ii, mod_ii, int_i, ge_ii, int_b]
theorem div_le_AB {a m : Int} (ha : a.natAbs < AB) (hm : 0 < m) : (a / m).natAbs < AB := by
  have h1 : (a / m).natAbs ≤ a.natAbs := Int.natAbs_ediv_le_natAbs a m
  omega
theorem roll_ev {h : List O} {p N : Nat} {a b c many : Int} (hp : lstAt h p = some [.int a, .int b, .int c]) (g : DG N a b) (hm : 0 < many) (hM : many < 4611686018427387904) (hN : N < 1000000000000) :
    ∃ r a' b' c' : Int, mFun 3 bodyRoll [.ref p, .int many] h = .ok (.int r) (h.set p (.lst [.int a', .int b', .int c'])) ∧ 0 ≤ r ∧ r < many ∧ DG (N + 1) a' b' := by
  have hAB := AB_ge
  have hl := lst_lt hp
  have ha := g.a
  have hb0 := g.b0
  have hb1 := g.b1
  have hr : ∀ x : Int, 0 ≤ x % many ∧ x % many < many := fun x => ⟨Int.emod_nonneg _ (by omega), Int.emod_lt_of_pos _ hm⟩
  by_cases hc : c = 2 ∨ (c = 1 ∧ 0 < a)
  · refine ⟨a % many, a / many, b, c, ?_, (hr a).1, (hr a).2, ⟨div_le_AB ha hm, hb0, by omega⟩⟩
    unfold mFun bodyRoll startE
    by_cases h2 : c = 2
    · subst h2
      simp (disch := first | omega | (simp only [List.length_append, List.length_cons, List.length_nil, List.length_set, List.length_drop, List.length_take, List.length_map]; omega)) only [mVar_z, Nat.reduceAdd, Nat.zero_add, Int.zero_add, Int.reduceAdd, Int.reduceSub, Int.reduceNeg, ap_Lst, ap_Tup, nil_app, cons_app, List.length_append, lst_last, mVar_s, ok_bnd, ok_stm, exc_bnd, ev_okE, exc_stm, ap_C, ap_Op, ap_Un, ap_B, ap_Chain, ap_asB, ap_And, ap_Or, ap_Not, ap_AndV, ap_OrV, ap_NotV, ap_If, ap_Nil, ap_Cons, ap_CB, ap_Meth, ap_Part, ap_NoPart, ap_Sl, ap_Yes, add_ii, add_ss, sub_ii, neg_i, mul_ii, fdiv_ii, mod_ii, eq_ii, ne_ii, eq_ss, ne_ss, lt_ii, le_ii, gt_ii, ge_ii, lt_ss, gt_ss, le_ss, ge_ss, len_s, len_t, abs_i, int_i, int_b, max_ii, min_ii, ix_s, ixL_0, ixL_1, ixL_2, ixL_3, ixL_n, ixL_i, ixL_st, setL_n, setL_i, List.length_map, List.length_set, ix_r, getL_r, ix_tL, withL_s, setL_0, setL_1, setL_2, set_r, app_r, lst_z, lst_s, iadd_ii, tuple_r, mul_ri, sl_s, sl_rol, sl_t, sl_r, cut_from, cut_to, ap_Seq, nx_seq, rt_seq, ct_seq, bk_seq, exc_seq, ap_Raise, ap_Skip, ap_Brk, ap_Cnt, ap_Drop, ap_Ret, ap_IfS, ap_Set, ap_Ts, ap_AsgT, tgT_t, tgTs_n, tgTs_c, ap_Aug, ap_SetI, ap_AugI, mFor_ap, ap_Rng1, ap_Rng2, rng1_ok, rng2_ok, ap_Iter, src_t, src_s, src_rL, ap_Comp, wipe_n, wipe_c, len_cons, len_nil, zip_cc, zip_nn, foldl_c, foldl_n, set_z, set_s, ite_t, ite_f, ite_T, ite_F, sing_lt, sing_eq, ty_r, ty_s, isS, cut_mid, decide_eq_true_eq, if_pos, if_neg]
      simp (disch := omega) [hp, lst_set hl, ok_bnd, ok_stm, ap_Ret, ap_Cons, ap_Nil, ap_CB, mVar_z, mVar_s, ap_C, rt_seq, ap_Seq, ap_IfS, ap_B, ap_Or, ap_asB, ap_Op, eq_ii, ap_Skip, nx_seq, mod_ii, fdiv_ii, int_i, ap_Set, ap_SetI, set_r, ix_r, withL_s, ixL_0, ixL_2, setL_0, ap_And, gt_ii]
    · have h1 : c = 1 := by omega
      have h3 : 0 < a := by omega
      subst h1
      simp (disch := first | omega | (simp only [List.length_append, List.length_cons, List.length_nil, List.length_set, List.length_drop, List.length_take, List.length_map]; omega)) only [mVar_z, Nat.reduceAdd, Nat.zero_add, Int.zero_add, Int.reduceAdd, Int.reduceSub, Int.reduceNeg, ap_Lst, ap_Tup, nil_app, cons_app, List.length_append, lst_last, mVar_s, ok_bnd, ok_stm, exc_bnd, ev_okE, exc_stm, ap_C, ap_Op, ap_Un, ap_B, ap_Chain, ap_asB, ap_And, ap_Or, ap_Not, ap_AndV, ap_OrV, ap_NotV, ap_If, ap_Nil, ap_Cons, ap_CB, ap_Meth, ap_Part, ap_NoPart, ap_Sl, ap_Yes, add_ii, add_ss, sub_ii, neg_i, mul_ii, fdiv_ii, mod_ii, eq_ii, ne_ii, eq_ss, ne_ss, lt_ii, le_ii, gt_ii, ge_ii, lt_ss, gt_ss, le_ss, ge_ss, len_s, len_t, abs_i, int_i, int_b, max_ii, min_ii, ix_s, ixL_0, ixL_1, ixL_2, ixL_3, ixL_n, ixL_i, ixL_st, setL_n, setL_i, List.length_map, List.length_set, ix_r, getL_r, ix_tL, withL_s, setL_0, setL_1, setL_2, set_r, app_r, lst_z, lst_s, iadd_ii, tuple_r, mul_ri, sl_s, sl_rol, sl_t, sl_r, cut_from, cut_to, ap_Seq, nx_seq, rt_seq, ct_seq, bk_seq, exc_seq, ap_Raise, ap_Skip, ap_Brk, ap_Cnt, ap_Drop, ap_Ret, ap_IfS, ap_Set, ap_Ts, ap_AsgT, tgT_t, tgTs_n, tgTs_c, ap_Aug, ap_SetI, ap_AugI, mFor_ap, ap_Rng1, ap_Rng2, rng1_ok, rng2_ok, ap_Iter, src_t, src_s, src_rL, ap_Comp, wipe_n, wipe_c, len_cons, len_nil, zip_cc, zip_nn, foldl_c, foldl_n, set_z, set_s, ite_t, ite_f, ite_T, ite_F, sing_lt, sing_eq, ty_r, ty_s, isS, cut_mid, decide_eq_true_eq, if_pos, if_neg]
      simp (disch := omega) [hp, h3, lst_set hl, ok_bnd, ok_stm, ap_Ret, ap_Cons, ap_Nil, ap_CB, mVar_z, mVar_s, ap_C, rt_seq, ap_Seq, ap_IfS, ap_B, ap_Or, ap_asB, ap_Op, eq_ii, ap_Skip, nx_seq, mod_ii, fdiv_ii, int_i, ap_Set, ap_SetI, set_r, ix_r, withL_s, ixL_0, ixL_2, setL_0, ap_And, gt_ii]
  · have hx : (a * 48271 + b * 69621 + 11) % 2147483647 < 2147483647 := Int.emod_lt_of_pos _ (by omega)
    have hx0 : 0 ≤ (a * 48271 + b * 69621 + 11) % 2147483647 := Int.emod_nonneg _ (by omega)
    have hbb : b.natAbs < AB ∨ AB ≤ b.natAbs := by omega
    have m1 : ∀ h, oMul (.int a) (.int 48271) h = .ok (.int (a * 48271)) h := fun h => mul_AB ha (by omega)
    have m2 : ∀ h, oMul (.int b) (.int 69621) h = .ok (.int (b * 69621)) h := fun h => mul_ii (by omega) (by omega)
    generalize hz : (a * 48271 + b * 69621 + 11) % 2147483647 = z at hx hx0
    refine ⟨(z / 7 + z) % many, z, b + 1, 0, ?_, (hr _).1, (hr _).2, ⟨by omega, by omega, by omega⟩⟩
    unfold mFun bodyRoll startE
    have hc2 : ¬ c = 2 := fun x => hc (.inl x)
    have hc3 : c = 1 → ¬ 0 < a := fun x y => hc (.inr ⟨x, y⟩)
    by_cases h1 : c = 1
    · have h3 := hc3 h1
      simp (disch := first | omega | (simp only [List.length_append, List.length_cons, List.length_nil, List.length_set, List.length_drop, List.length_take, List.length_map]; omega)) only [mVar_z, Nat.reduceAdd, Nat.zero_add, Int.zero_add, Int.reduceAdd, Int.reduceSub, Int.reduceNeg, ap_Lst, ap_Tup, nil_app, cons_app, List.length_append, lst_last, mVar_s, ok_bnd, ok_stm, exc_bnd, ev_okE, exc_stm, ap_C, ap_Op, ap_Un, ap_B, ap_Chain, ap_asB, ap_And, ap_Or, ap_Not, ap_AndV, ap_OrV, ap_NotV, ap_If, ap_Nil, ap_Cons, ap_CB, ap_Meth, ap_Part, ap_NoPart, ap_Sl, ap_Yes, add_ii, add_ss, sub_ii, neg_i, mul_ii, fdiv_ii, mod_ii, eq_ii, ne_ii, eq_ss, ne_ss, lt_ii, le_ii, gt_ii, ge_ii, lt_ss, gt_ss, le_ss, ge_ss, len_s, len_t, abs_i, int_i, int_b, max_ii, min_ii, ix_s, ixL_0, ixL_1, ixL_2, ixL_3, ixL_n, ixL_i, ixL_st, setL_n, setL_i, List.length_map, List.length_set, ix_r, getL_r, ix_tL, withL_s, setL_0, setL_1, setL_2, set_r, app_r, lst_z, lst_s, iadd_ii, tuple_r, mul_ri, sl_s, sl_rol, sl_t, sl_r, cut_from, cut_to, ap_Seq, nx_seq, rt_seq, ct_seq, bk_seq, exc_seq, ap_Raise, ap_Skip, ap_Brk, ap_Cnt, ap_Drop, ap_Ret, ap_IfS, ap_Set, ap_Ts, ap_AsgT, tgT_t, tgTs_n, tgTs_c, ap_Aug, ap_SetI, ap_AugI, mFor_ap, ap_Rng1, ap_Rng2, rng1_ok, rng2_ok, ap_Iter, src_t, src_s, src_rL, ap_Comp, wipe_n, wipe_c, len_cons, len_nil, zip_cc, zip_nn, foldl_c, foldl_n, set_z, set_s, ite_t, ite_f, ite_T, ite_F, sing_lt, sing_eq, ty_r, ty_s, isS, cut_mid, decide_eq_true_eq, if_pos, if_neg]
      simp (disch := omega) [hp, h1, h3, hz, m1, m2, hc2, lst_set hl, ok_bnd, ok_stm, ap_Ret, ap_Cons, ap_Nil, ap_CB, mVar_z, mVar_s, ap_C, rt_seq, ap_Seq, ap_IfS, ap_B, ap_Or, ap_asB, ap_Op, eq_ii, ap_Skip, nx_seq, mod_ii, fdiv_ii, int_i, ap_Set, ap_SetI, set_r, ix_r, withL_s, ixL_0, ixL_1, ixL_2, setL_0, setL_1, setL_2, ap_And, gt_ii, add_ii]
    · simp (disch := first | omega | (simp only [List.length_append, List.length_cons, List.length_nil, List.length_set, List.length_drop, List.length_take, List.length_map]; omega)) only [mVar_z, Nat.reduceAdd, Nat.zero_add, Int.zero_add, Int.reduceAdd, Int.reduceSub, Int.reduceNeg, ap_Lst, ap_Tup, nil_app, cons_app, List.length_append, lst_last, mVar_s, ok_bnd, ok_stm, exc_bnd, ev_okE, exc_stm, ap_C, ap_Op, ap_Un, ap_B, ap_Chain, ap_asB, ap_And, ap_Or, ap_Not, ap_AndV, ap_OrV, ap_NotV, ap_If, ap_Nil, ap_Cons, ap_CB, ap_Meth, ap_Part, ap_NoPart, ap_Sl, ap_Yes, add_ii, add_ss, sub_ii, neg_i, mul_ii, fdiv_ii, mod_ii, eq_ii, ne_ii, eq_ss, ne_ss, lt_ii, le_ii, gt_ii, ge_ii, lt_ss, gt_ss, le_ss, ge_ss, len_s, len_t, abs_i, int_i, int_b, max_ii, min_ii, ix_s, ixL_0, ixL_1, ixL_2, ixL_3, ixL_n, ixL_i, ixL_st, setL_n, setL_i, List.length_map, List.length_set, ix_r, getL_r, ix_tL, withL_s, setL_0, setL_1, setL_2, set_r, app_r, lst_z, lst_s, iadd_ii, tuple_r, mul_ri, sl_s, sl_rol, sl_t, sl_r, cut_from, cut_to, ap_Seq, nx_seq, rt_seq, ct_seq, bk_seq, exc_seq, ap_Raise, ap_Skip, ap_Brk, ap_Cnt, ap_Drop, ap_Ret, ap_IfS, ap_Set, ap_Ts, ap_AsgT, tgT_t, tgTs_n, tgTs_c, ap_Aug, ap_SetI, ap_AugI, mFor_ap, ap_Rng1, ap_Rng2, rng1_ok, rng2_ok, ap_Iter, src_t, src_s, src_rL, ap_Comp, wipe_n, wipe_c, len_cons, len_nil, zip_cc, zip_nn, foldl_c, foldl_n, set_z, set_s, ite_t, ite_f, ite_T, ite_F, sing_lt, sing_eq, ty_r, ty_s, isS, cut_mid, decide_eq_true_eq, if_pos, if_neg]
      simp (disch := omega) [hp, h1, hz, m1, m2, hc2, lst_set hl, ok_bnd, ok_stm, ap_Ret, ap_Cons, ap_Nil, ap_CB, mVar_z, mVar_s, ap_C, rt_seq, ap_Seq, ap_IfS, ap_B, ap_Or, ap_asB, ap_Op, eq_ii, ap_Skip, nx_seq, mod_ii, fdiv_ii, int_i, ap_Set, ap_SetI, set_r, ix_r, withL_s, ixL_0, ixL_1, ixL_2, setL_0, setL_1, setL_2, ap_And, gt_ii, add_ii]

/-! ### many dice -/
def DH (N : Nat) (h : List O) (ps : List Nat) : Prop := ∀ q ∈ ps, ∃ a b c : Int, lstAt h q = some [.int a, .int b, .int c] ∧ DG N a b
/-- h' is h, but for the dice and for new things -/
def Fr (ps : List Nat) (h h' : List O) : Prop := h.length ≤ h'.length ∧ ∀ q, q < h.length → q ∉ ps → h'[q]? = h[q]?
section
variable {N N2 : Nat} {h h1 h2 h3 : List O} {ps : List Nat}
theorem DG.mono {a b : Int} (g : DG N a b) (hm : N ≤ N2) : DG N2 a b := ⟨g.a, g.b0, by have := g.b1; omega⟩
theorem DH.mono (d : DH N h ps) (hm : N ≤ N2) : DH N2 h ps := fun q hq => by
  obtain ⟨a, b, c, e, g⟩ := d q hq
  exact ⟨a, b, c, e, g.mono hm⟩
theorem DH.gr (d : DH N h1 ps) (g : Gr h1 h2) : DH N h2 ps := fun q hq => by
  obtain ⟨a, b, c, e, g2⟩ := d q hq
  exact ⟨a, b, c, g.lst e, g2⟩
theorem DH.lt (d : DH N h ps) {q : Nat} (hq : q ∈ ps) : q < h.length := by
  obtain ⟨a, b, c, e, _⟩ := d q hq
  exact lst_lt e
theorem DH.set (d : DH N h ps) {n : Nat} {o : O} (hn : n ∉ ps) : DH N (h.set n o) ps := fun q hq => by
  obtain ⟨a, b, c, e, g2⟩ := d q hq
  exact ⟨a, b, c, by rw [lst_ne (fun x => hn (by rw [x]; exact hq))]; exact e, g2⟩
theorem Fr.refl : Fr ps h h := ⟨Nat.le_refl _, fun _ _ _ => rfl⟩
theorem Fr.trans (a : Fr ps h1 h2) (b : Fr ps h2 h3) : Fr ps h1 h3 := ⟨Nat.le_trans a.1 b.1, fun q hq hn => by rw [b.2 q (Nat.lt_of_lt_of_le hq a.1) hn, a.2 q hq hn]⟩
theorem Fr.of (g : Gr h1 h2) : Fr ps h1 h2 := by
  obtain ⟨j, rfl⟩ := g
  exact ⟨by simp, fun q hq _ => List.getElem?_append_left hq⟩
theorem Fr.lst (f : Fr ps h1 h2) {n : Nat} {xs : List W} (hn : n ∉ ps) (e : lstAt h1 n = some xs) : lstAt h2 n = some xs := by
  have hl := lst_lt e
  unfold lstAt
  rw [f.2 n hl hn, lstAt_some e]
theorem Fr.set (f : Fr ps h1 h2) {n : Nat} {o : O} (hn : h1.length ≤ n) : Fr ps h1 (h2.set n o) := ⟨by rw [List.length_set]; exact f.1, fun q hq hm => by rw [List.getElem?_set_ne (by omega)]; exact f.2 q hq hm⟩
theorem roll_Ev {p : Nat} {many : Int} (d : DH N h ps) (hp : p ∈ ps) (hm : 0 < many) (hM : many < 4611686018427387904) (hN : N < 1000000000000) :
    Ev (mFun 3 bodyRoll [.ref p, .int many] h) fun w h' => ∃ r : Int, w = .int r ∧ 0 ≤ r ∧ r < many ∧ DH (N + 1) h' ps ∧ Fr ps h h' := by
  obtain ⟨a, b, c, e, g⟩ := d p hp
  obtain ⟨r, a', b', c', e1, h0, h1, g1⟩ := roll_ev e g hm hM hN
  refine ev_eq e1 ⟨r, rfl, h0, h1, fun q hq => ?_, by simp, fun q hq hn => List.getElem?_set_ne fun x => hn (by rw [← x]; exact hp)⟩
  by_cases hqp : p = q
  · subst hqp
    exact ⟨a', b', c', lst_set (lst_lt e), g1⟩
  · obtain ⟨a2, b2, c2, e2, g2⟩ := d q hq
    exact ⟨a2, b2, c2, by rw [lst_ne hqp]; exact e2, g2.mono (by omega)⟩
end
def bodyRounds : Sm := mSeq (mSet 2 (mSl (mVar 0) (mNoPart) (mPart (mVar 1)))) (mSeq (mIfS (mB (mOp oEq (mVar 2) (mLst (mNil)))) (mSet 2 (mLst (mCons (mC (.int 0)) (mNil)))) (mSkip)) (mRet (mComp 100000 [3] (mIter (mVar 2)) (tgN 3) (mYes) (mCB (fun ws h => if ws.length = 1 then mFun 1 bodyDice ws h else .bad) (mCons (mVar 3) (mNil))))))
theorem mapInt_rol {ns : List Int} {lo hi : Option Int} : cutW (ns.map W.int) lo hi = (cutW ns lo hi).map W.int := by
  unfold cutW
  rw [List.length_map, List.map_take, List.map_drop]
/-- the dice of a law -/
theorem rounds_Ev {ns : List Int} {most : Int} (h0 : 0 ≤ most) (hl : ns.length ≤ 63) (hb : ∀ z ∈ ns, z.natAbs < AB) : Ev (mFun 4 bodyRounds [scriptW ns, .int most] []) fun w h => ∃ p ps, w = .ref p ∧ p ∉ ps ∧ ps ≠ [] ∧ ps.length ≤ 63 ∧ lstAt h p = some (ps.map W.ref) ∧ DH 0 h ps := by
  refine fun_ev ?_
  unfold bodyRounds scriptW
  simp only [startE, List.map_cons, List.map_nil, List.length_cons, List.length_nil, List.cons_append, List.nil_append, Nat.zero_add, Nat.reduceAdd, Nat.reduceSub, List.replicate_succ, List.replicate_zero]
  have main : ∀ (h : List O) (e : Env) (p : Nat) (zs : List Int), lstAt h p = some (zs.map W.int) → zs ≠ [] → zs.length ≤ 63 → (∀ z ∈ zs, z.natAbs < AB) → 
      Ev (compGo (srcR p) (tgN 3) mYes (mCB (fun ws h => if ws.length = 1 then mFun 1 bodyDice ws h else .bad) (mCons (mVar 3) mNil)) h.length [some (scriptW ns), some (.int most), some (.ref p), none] 100000 0 (h ++ [.lst []]))
       fun w h => ∃ p ps, w = .ref p ∧ p ∉ ps ∧ ps ≠ [] ∧ ps.length ≤ 63 ∧ lstAt h p = some (ps.map W.ref) ∧ DH 0 h ps := by
    intro h e p zs hp hz hzl hzb
    have hpl := lst_lt hp
    refine compGo_ev zs.length (by omega) (fun i acc h' => ∃ ps : List Nat, ps.length = i ∧ acc = ps.map W.ref ∧ (∀ q ∈ ps, h.length < q) ∧ Gr h (h'.take h.length) ∧ h.length < h'.length ∧ DH 0 h' ps) (fun i acc h' hi ha hD pp => ?_) (fun acc h' hD pp => ?_) 100000 0 [] _ (by omega) (by omega) (by simp) (by simp) ⟨[], rfl, rfl, by simp, ⟨[], by simp⟩, by simp, fun q hq => by cases hq⟩
    · obtain ⟨ps, hl1, rfl, hq, hg, hh, hd⟩ := pp
      have hp' : lstAt h' p = some (zs.map W.int) := by
        have e2 := lstAt_some (hg.lst hp)
        rw [List.getElem?_take_of_lt hpl] at e2
        unfold lstAt
        rw [e2]
      refine ⟨.int zs[i], _, by unfold srcR; rw [hp']; simp [hi], rfl, ?_⟩
      refine ev_ok ?_
      rw [if_pos rfl]
      simp (disch := first | omega | (simp only [List.length_append, List.length_cons, List.length_nil, List.length_set, List.length_drop, List.length_take, List.length_map]; omega)) only [mVar_z, Nat.reduceAdd, Nat.zero_add, Int.zero_add, Int.reduceAdd, Int.reduceSub, Int.reduceNeg, ap_Lst, ap_Tup, nil_app, cons_app, List.length_append, lst_last, mVar_s, ok_bnd, ok_stm, exc_bnd, ev_okE, exc_stm, ap_C, ap_Op, ap_Un, ap_B, ap_Chain, ap_asB, ap_And, ap_Or, ap_Not, ap_AndV, ap_OrV, ap_NotV, ap_If, ap_Nil, ap_Cons, ap_CB, ap_Meth, ap_Part, ap_NoPart, ap_Sl, ap_Yes, add_ii, add_ss, sub_ii, neg_i, mul_ii, fdiv_ii, mod_ii, eq_ii, ne_ii, eq_ss, ne_ss, lt_ii, le_ii, gt_ii, ge_ii, lt_ss, gt_ss, le_ss, ge_ss, len_s, len_t, abs_i, int_i, int_b, max_ii, min_ii, ix_s, ixL_0, ixL_1, ixL_2, ixL_3, ixL_n, ixL_i, ixL_st, setL_n, setL_i, List.length_map, List.length_set, ix_r, getL_r, ix_tL, withL_s, setL_0, setL_1, setL_2, set_r, app_r, lst_z, lst_s, iadd_ii, tuple_r, mul_ri, sl_s, sl_rol, sl_t, sl_r, cut_from, cut_to, ap_Seq, nx_seq, rt_seq, ct_seq, bk_seq, exc_seq, ap_Raise, ap_Skip, ap_Brk, ap_Cnt, ap_Drop, ap_Ret, ap_IfS, ap_Set, ap_Ts, ap_AsgT, tgT_t, tgTs_n, tgTs_c, ap_Aug, ap_SetI, ap_AugI, mFor_ap, ap_Rng1, ap_Rng2, rng1_ok, rng2_ok, ap_Iter, src_t, src_s, src_rL, ap_Comp, wipe_n, wipe_c, len_cons, len_nil, zip_cc, zip_nn, foldl_c, foldl_n, set_z, set_s, ite_t, ite_f, ite_T, ite_F, sing_lt, sing_eq, ty_r, ty_s, isS, cut_mid, decide_eq_true_eq, if_pos, if_neg]
      obtain ⟨a, b, c, g, e1⟩ := dice_ev (z := zs[i]) (h := h') (hzb _ (List.getElem_mem hi))
      refine ev_eq e1 ⟨by rw [List.getElem?_append_left hh]; exact hD, ps ++ [h'.length], by simp [hl1], by simp, fun q hq2 => ?_, ?_, by simp; omega, ?_⟩
      · rcases List.mem_append.1 hq2 with x | x
        · exact hq q x
        · have := List.mem_singleton.1 x
          omega
      · rw [List.take_set_of_le (Nat.le_refl _), List.take_append_of_le_length (by omega)]
        exact hg
      · refine DH.set (fun q hq2 => ?_) (fun x => ?_)
        · rcases List.mem_append.1 hq2 with x | x
          · exact hd.gr Gr.app q x
          · have := List.mem_singleton.1 x
            subst this
            exact ⟨a, b, c, lst_last, g⟩
        · rcases List.mem_append.1 x with x | x
          · have := hq _ x
            omega
          · have := List.mem_singleton.1 x
            omega
    · obtain ⟨ps, hl1, rfl, hq, hg, hh, hd⟩ := pp
      have hp' : lstAt h' p = some (zs.map W.int) := by
        have e2 := lstAt_some (hg.lst hp)
        rw [List.getElem?_take_of_lt hpl] at e2
        unfold lstAt
        rw [e2]
      refine ⟨by unfold srcR; rw [hp']; simp, _, ps, rfl, fun x => by have := hq _ x; omega, fun x => ?_, by omega, by unfold lstAt; rw [hD], hd⟩
      rw [x] at hl1
      exact hz (List.eq_nil_of_length_eq_zero hl1.symm)
  simp (disch := first | omega | (simp only [List.length_append, List.length_cons, List.length_nil, List.length_set, List.length_drop, List.length_take, List.length_map]; omega)) only [mVar_z, Nat.reduceAdd, Nat.zero_add, Int.zero_add, Int.reduceAdd, Int.reduceSub, Int.reduceNeg, ap_Lst, ap_Tup, nil_app, cons_app, List.length_append, lst_last, mVar_s, ok_bnd, ok_stm, exc_bnd, ev_okE, exc_stm, ap_C, ap_Op, ap_Un, ap_B, ap_Chain, ap_asB, ap_And, ap_Or, ap_Not, ap_AndV, ap_OrV, ap_NotV, ap_If, ap_Nil, ap_Cons, ap_CB, ap_Meth, ap_Part, ap_NoPart, ap_Sl, ap_Yes, add_ii, add_ss, sub_ii, neg_i, mul_ii, fdiv_ii, mod_ii, eq_ii, ne_ii, eq_ss, ne_ss, lt_ii, le_ii, gt_ii, ge_ii, lt_ss, gt_ss, le_ss, ge_ss, len_s, len_t, abs_i, int_i, int_b, max_ii, min_ii, ix_s, ixL_0, ixL_1, ixL_2, ixL_3, ixL_n, ixL_i, ixL_st, setL_n, setL_i, List.length_map, List.length_set, ix_r, getL_r, ix_tL, withL_s, setL_0, setL_1, setL_2, set_r, app_r, lst_z, lst_s, iadd_ii, tuple_r, mul_ri, sl_s, sl_rol, sl_t, sl_r, cut_from, cut_to, ap_Seq, nx_seq, rt_seq, ct_seq, bk_seq, exc_seq, ap_Raise, ap_Skip, ap_Brk, ap_Cnt, ap_Drop, ap_Ret, ap_IfS, ap_Set, ap_Ts, ap_AsgT, tgT_t, tgTs_n, tgTs_c, ap_Aug, ap_SetI, ap_AugI, mFor_ap, ap_Rng1, ap_Rng2, rng1_ok, rng2_ok, ap_Iter, src_t, src_s, src_rL, ap_Comp, wipe_n, wipe_c, len_cons, len_nil, zip_cc, zip_nn, foldl_c, foldl_n, set_z, set_s, ite_t, ite_f, ite_T, ite_F, sing_lt, sing_eq, ty_r, ty_s, isS, cut_mid, decide_eq_true_eq, if_pos, if_neg]
  have e1 := cut_to (xs := ns) h0
  have e2 := mapInt_rol (ns := ns) (lo := none) (hi := some most)
  rw [cut_to h0, e1] at e2
  rw [e2]
  have e3 := eq_ints (n := 0) (m := 1) (l := ns.take most.toNat) (l' := []) (h := [O.lst ((ns.take most.toNat).map W.int), O.lst []]) rfl rfl
  rw [e3]
  by_cases hz : ns.take most.toNat = []
  · rw [decide_eq_true hz]
    simp (disch := first | omega | (simp only [List.length_append, List.length_cons, List.length_nil, List.length_set, List.length_drop, List.length_take, List.length_map]; omega)) only [mVar_z, Nat.reduceAdd, Nat.zero_add, Int.zero_add, Int.reduceAdd, Int.reduceSub, Int.reduceNeg, ap_Lst, ap_Tup, nil_app, cons_app, List.length_append, lst_last, mVar_s, ok_bnd, ok_stm, exc_bnd, ev_okE, exc_stm, ap_C, ap_Op, ap_Un, ap_B, ap_Chain, ap_asB, ap_And, ap_Or, ap_Not, ap_AndV, ap_OrV, ap_NotV, ap_If, ap_Nil, ap_Cons, ap_CB, ap_Meth, ap_Part, ap_NoPart, ap_Sl, ap_Yes, add_ii, add_ss, sub_ii, neg_i, mul_ii, fdiv_ii, mod_ii, eq_ii, ne_ii, eq_ss, ne_ss, lt_ii, le_ii, gt_ii, ge_ii, lt_ss, gt_ss, le_ss, ge_ss, len_s, len_t, abs_i, int_i, int_b, max_ii, min_ii, ix_s, ixL_0, ixL_1, ixL_2, ixL_3, ixL_n, ixL_i, ixL_st, setL_n, setL_i, List.length_map, List.length_set, ix_r, getL_r, ix_tL, withL_s, setL_0, setL_1, setL_2, set_r, app_r, lst_z, lst_s, iadd_ii, tuple_r, mul_ri, sl_s, sl_rol, sl_t, sl_r, cut_from, cut_to, ap_Seq, nx_seq, rt_seq, ct_seq, bk_seq, exc_seq, ap_Raise, ap_Skip, ap_Brk, ap_Cnt, ap_Drop, ap_Ret, ap_IfS, ap_Set, ap_Ts, ap_AsgT, tgT_t, tgTs_n, tgTs_c, ap_Aug, ap_SetI, ap_AugI, mFor_ap, ap_Rng1, ap_Rng2, rng1_ok, rng2_ok, ap_Iter, src_t, src_s, src_rL, ap_Comp, wipe_n, wipe_c, len_cons, len_nil, zip_cc, zip_nn, foldl_c, foldl_n, set_z, set_s, ite_t, ite_f, ite_T, ite_F, sing_lt, sing_eq, ty_r, ty_s, isS, cut_mid, decide_eq_true_eq, if_pos, if_neg]
    have m1 := main [O.lst ((ns.take most.toNat).map W.int), O.lst [], O.lst [W.int 0]] [] 2 [0] rfl (by simp) (by simp) (by simp; exact Nat.lt_of_lt_of_le (by decide) AB_ge)
    unfold scriptW at m1
    simp only [cons_app, nil_app, len_cons, len_nil, Nat.reduceAdd] at m1
    refine sv_stm ?_
    refine ev_imp m1 fun w h p => ?_
    exact p
  · rw [decide_eq_false hz]
    simp (disch := first | omega | (simp only [List.length_append, List.length_cons, List.length_nil, List.length_set, List.length_drop, List.length_take, List.length_map]; omega)) only [mVar_z, Nat.reduceAdd, Nat.zero_add, Int.zero_add, Int.reduceAdd, Int.reduceSub, Int.reduceNeg, ap_Lst, ap_Tup, nil_app, cons_app, List.length_append, lst_last, mVar_s, ok_bnd, ok_stm, exc_bnd, ev_okE, exc_stm, ap_C, ap_Op, ap_Un, ap_B, ap_Chain, ap_asB, ap_And, ap_Or, ap_Not, ap_AndV, ap_OrV, ap_NotV, ap_If, ap_Nil, ap_Cons, ap_CB, ap_Meth, ap_Part, ap_NoPart, ap_Sl, ap_Yes, add_ii, add_ss, sub_ii, neg_i, mul_ii, fdiv_ii, mod_ii, eq_ii, ne_ii, eq_ss, ne_ss, lt_ii, le_ii, gt_ii, ge_ii, lt_ss, gt_ss, le_ss, ge_ss, len_s, len_t, abs_i, int_i, int_b, max_ii, min_ii, ix_s, ixL_0, ixL_1, ixL_2, ixL_3, ixL_n, ixL_i, ixL_st, setL_n, setL_i, List.length_map, List.length_set, ix_r, getL_r, ix_tL, withL_s, setL_0, setL_1, setL_2, set_r, app_r, lst_z, lst_s, iadd_ii, tuple_r, mul_ri, sl_s, sl_rol, sl_t, sl_r, cut_from, cut_to, ap_Seq, nx_seq, rt_seq, ct_seq, bk_seq, exc_seq, ap_Raise, ap_Skip, ap_Brk, ap_Cnt, ap_Drop, ap_Ret, ap_IfS, ap_Set, ap_Ts, ap_AsgT, tgT_t, tgTs_n, tgTs_c, ap_Aug, ap_SetI, ap_AugI, mFor_ap, ap_Rng1, ap_Rng2, rng1_ok, rng2_ok, ap_Iter, src_t, src_s, src_rL, ap_Comp, wipe_n, wipe_c, len_cons, len_nil, zip_cc, zip_nn, foldl_c, foldl_n, set_z, set_s, ite_t, ite_f, ite_T, ite_F, sing_lt, sing_eq, ty_r, ty_s, isS, cut_mid, decide_eq_true_eq, if_pos, if_neg]
    have m1 := main [O.lst ((ns.take most.toNat).map W.int), O.lst []] [] 0 (ns.take most.toNat) rfl hz (by simp; omega) (fun z hz => hb z (List.mem_of_mem_take hz))
    unfold scriptW at m1
    simp only [cons_app, nil_app, len_cons, len_nil, Nat.reduceAdd] at m1
    refine sv_stm ?_
    refine ev_imp m1 fun w h p => ?_
    exact p

/-! ### lists of numbers and of texts -/
theorem strsOf_map : ∀ l : List (List Nat), strsOf (l.map .str) = some l
  | [] => rfl
  | i :: l => by rw [List.map_cons]; unfold strsOf; rw [strsOf_map l]; rfl
theorem sv_nx {e : Env} {h : List O} {R : SOut → Prop} : Sv (.nx e h) R = R (.nx e h) := nrfl rfl
theorem sv_rt {w : W} {h : List O} {R : SOut → Prop} : Sv (.rt w h) R = R (.rt w h) := nrfl rfl
theorem sv_ct {e : Env} {h : List O} {R : SOut → Prop} : Sv (.ct e h) R = R (.ct e h) := nrfl rfl
theorem rnd_nx {e : Env} {h : List O} {I : Env → List O → Prop} {R : SOut → Prop} : rnd I R (.nx e h) = I e h := nrfl rfl
theorem rnd_ct {e : Env} {h : List O} {I : Env → List O → Prop} {R : SOut → Prop} : rnd I R (.ct e h) = I e h := nrfl rfl
end Den
set_option maxRecDepth 100000
/-! The heap never gets smaller. -/
namespace Den
open PySem
open Sem (wp)
theorem runs_hsz {M : Model} {Γ : Ctx} {p : Pos} {t : Sem PySem.Fin} {fs : List Frame} {s s' : Shared} {e : End} (h : Runs M Γ p t fs s e s') : s.heap.objs.size ≤ s'.heap.objs.size := by
  induction h <;> (try simp only [Shared.setGen, Heap.size_update, Heap.size_push] at *) <;> omega
theorem returns_hsz {M : Model} {Γ : Ctx} {p : Pos} {s s' : Shared} {r : Result} (h : Returns M Γ p s r s') : s.heap.objs.size ≤ s'.heap.objs.size := runs_hsz h
theorem wakes_hsz {M : Model} {Γ : Ctx} {p : Pos} {g : Nat} {r : Resume} {s s' : Shared} {res : GenResult} (h : Wakes M Γ p g r s res s') : s.heap.objs.size ≤ s'.heap.objs.size := by
  unfold Wakes at h
  split at h
  · exact h.elim
  · split at h
    · obtain ⟨e₁, s₁, hr, _, _, rfl⟩ := h
      exact (show s.heap.objs.size ≤ s₁.heap.objs.size from runs_hsz (s := s.setGen g .running) hr)
    · rw [h.2]; exact Nat.le_refl _
    · rw [h.2]; exact Nat.le_refl _
  · obtain ⟨e₁, s₁, hr, _, _, rfl⟩ := h
    exact (show s.heap.objs.size ≤ s₁.heap.objs.size from runs_hsz (s := s.setGen g .running) hr)
  · rw [h.2]; exact Nat.le_refl _
  · rw [h.2]; exact Nat.le_refl _
theorem wp_hsz {α : Type} (M : Model) (Γ : Ctx) (n : Nat) (t : Sem α) : ∀ (Q : α → Pos → Shared → Prop) (E : Value → Pos → Shared → Prop) (p : Pos) (s : Shared), n ≤ s.heap.objs.size → wp M Γ t Q E p s →
    wp M Γ t (fun a p' s' => n ≤ s'.heap.objs.size ∧ Q a p' s') (fun e p' s' => n ≤ s'.heap.objs.size ∧ E e p' s') p s := by
  induction t with
  | pure a => intro Q E p s hn h; exact ⟨hn, h⟩
  | raise e => intro Q E p s hn h; exact ⟨hn, h⟩
  | unsupported _ => intro Q E p s _ h; exact h
  | finish _ => intro Q E p s _ h; exact h
  | rule _ k ih => intro Q E p s hn h; exact ih () Q E p s hn h
  | «at» p' k ih => intro Q E p s hn h; exact ih () Q E p' s hn h
  | load a _ k ih => intro Q E p s hn h; obtain ⟨o, ho, h⟩ := h; exact ⟨o, ho, ih o Q E p s hn h⟩
  | update a _ f k ih => intro Q E p s hn h; exact ⟨h.1, ih () Q E p _ (by simpa using hn) h.2⟩
  | loadIfAlive a k ih => intro Q E p s hn h; exact ih _ Q E p s hn h
  | point _ k ih => intro Q E p s hn h; exact ih () Q E p s hn h
  | register _ _ => intro Q E p s _ h; exact h
  | alloc o k ih => intro Q E p s hn h; exact ih _ Q E p _ (by simp only [Heap.size_push]; omega) h
  | fresh k ih => intro Q E p s hn h; exact ih _ Q E p _ hn h
  | ask k ih => intro Q E p s hn h; exact ih _ Q E p s hn h
  | choose src m k ih => intro Q E p s hn h; exact ⟨h.1, ih _ Q E p _ hn h.2⟩
  | os q _ k ih => intro Q E p s hn h; exact ih _ Q E p _ hn h
  | call c hd _ _ k ih => intro Q E p s hn h; obtain ⟨r, s', hr, h⟩ := h; exact ⟨r, s', hr, ih r Q E p s' (Nat.le_trans hn (returns_hsz hr)) h⟩
  | handled own k ih => intro Q E p s hn h; exact ih _ Q E p s hn h
  | genState g k ih => intro Q E p s hn h; obtain ⟨st, hs, h⟩ := h; exact ⟨st, hs, ih _ Q E p s hn h⟩
  | newGen c k ih => intro Q E p s hn h; exact ih _ Q E p _ hn h
  | resume g r _ k ih => intro Q E p s hn h; obtain ⟨res, s', hw, h⟩ := h; exact ⟨res, s', hw, ih res Q E p s' (Nat.le_trans hn (wakes_hsz hw)) h⟩
  | yield _ _ _ _ => intro Q E p s _ h; exact h
  | stack k ih => intro Q E p s hn h; exact ih _ Q E p s hn h
  | fork _ _ => intro Q E p s _ h; exact h
  | thread k ih => intro Q E p s hn h; exact ih _ Q E p s hn h
  | await _ _ _ _ _ => intro Q E p s _ h; exact h
theorem wpAny_hsz {α : Type} {M : Model} {A : Around} {s : Shared} {t : Sem α} {Q : α → Shared → Prop} {E : Value → Shared → Prop}
    (h : wpAny M A t (fun a s' => s.heap.objs.size ≤ s'.heap.objs.size → Q a s') (fun e s' => s.heap.objs.size ≤ s'.heap.objs.size → E e s') s) : wpAny M A t Q E s :=
  wpAny_mono (fun Γ p hΓ => wp_hsz M Γ _ t _ _ p s (Nat.le_refl _) (h Γ p hΓ) : wpAny M A t (fun a s' => s.heap.objs.size ≤ s'.heap.objs.size ∧ (s.heap.objs.size ≤ s'.heap.objs.size → Q a s')) (fun e s' => s.heap.objs.size ≤ s'.heap.objs.size ∧ (s.heap.objs.size ≤ s'.heap.objs.size → E e s')) s)
    (fun _ _ x => x.2 x.1) fun _ _ x => x.2 x.1
end Den
set_option maxRecDepth 100000
/-! Small expressions read in a frame of their own: keys of a sort, elements of a generator. -/
namespace Den
open PySem L2 PyProof.Rows
abbrev Kp (h h' : Heap) : Prop := ∀ b o, h.get? b = some o → h'.get? b = some o
/-- e, read in env on any heap that keeps h0, gives a value with R; all that was stays -/
def Px (P : Program) (w : World) (env : PySem.Env) (h0 : Heap) (e : Expr) (R : Value → Heap → Prop) : Prop :=
  ∀ (A : Around) (E : Value → Shared → Prop) (s : Shared), Kp h0 s.heap → wpAny (model P w) A (eval e env) (fun y s' => R y s'.heap ∧ Keeps s s') E s
section
variable {P : Program} {w : World} {env : PySem.Env} {h0 : Heap} {R R' : Value → Heap → Prop} {e a b : Expr} {x : Str} {pos p : Pos}
theorem keeps_tok (s : Shared) (k : Nat) : Keeps s { s with toks := k } := ⟨s.heap, k, rfl, fun _ _ e => e⟩
theorem keeps_rfl (s : Shared) : Keeps s s := keeps_tok s s.toks
theorem kpH {s s' : Shared} (k : Keeps s s') : Kp s.heap s'.heap := by
  obtain ⟨h, tk, rfl, kp⟩ := k
  exact kp
theorem kpT {s s' s'' : Shared} (k : Keeps s s') (k' : Keeps s' s'') : Keeps s s'' := by
  obtain ⟨h, tk, rfl, kp⟩ := k
  obtain ⟨h', tk', rfl, kp'⟩ := k'
  exact ⟨h', tk', rfl, fun b o e => kp' b o (kp b o e)⟩
theorem px_imp (p : Px P w env h0 e R) (i : ∀ y h, Kp h0 h → R y h → R' y h) : Px P w env h0 e R' := fun A E s k =>
  wpAny_mono (p A E s k) (fun y s' q => ⟨i y _ (fun b o e => kpH q.2 b o (k b o e)) q.1, q.2⟩) fun _ _ e => e
theorem px_local {m : Str → Option Value} {v : Value} (hk : env.scope.kind = .function) (hl : env.kindOf x = some .local) (hn : h0.Ns env.locals m) (hv : m x = some v) (hd : (x == ("__debug__" : Str)) = false := by decide) : Px P w env h0 (.Name x pos) fun y _ => y = v := fun A E s k =>
  wpAny_Name (wpAny_loadName_local hk hl (hn.keeps k) hv ⟨rfl, keeps_rfl s⟩) hd
theorem px_free {c : Addr} {v : Value} (hk : env.scope.kind = .function) (hl : env.kindOf x = some .free) (hc : env.cells.lookup x = some c) (hv : h0.IsCell c (some v)) (hd : (x == ("__debug__" : Str)) = false := by decide) (hn : (x == ("__classdict__" : Str)) = false := by decide) : Px P w env h0 (.Name x pos) fun y _ => y = v := fun A E s k =>
  wpAny_Name (wpAny_loadName_free hk hl hc (by obtain ⟨o, h1, h2⟩ := hv; exact ⟨o, k _ _ h1, h2⟩) ⟨rfl, keeps_rfl s⟩ hn) hd
theorem px_str {i : Str} {k : Nat} : Px P w env h0 (.Constant (.str i) k pos) fun y _ => ∃ t, y = .str i t := fun A E s _ =>
  Calls.Constant_str ⟨⟨_, rfl⟩, keeps_tok _ _⟩
end
section
variable {P : Program} {w : World} {env : PySem.Env} {h0 : Heap} {a b : Expr} {pos : Pos}
end
end Den
set_option maxRecDepth 100000
/-! Sorted lists of any plain data. -/
namespace Den
open PySem L2 PyProof.Rows
/-- zipped, sorted by the second, the first of each -/
def sortBy {α : Type} (xs : List α) (ds : List PyData) : List α := ((xs.zip ds).mergeSort (PySem.W.dataLe false Prod.snd)).map Prod.fst
theorem sortBy_length {α : Type} {xs : List α} {ds : List PyData} (h : xs.length = ds.length) : (sortBy xs ds).length = xs.length := by
  unfold sortBy
  rw [List.length_map, List.length_mergeSort, List.length_zip, h]
  exact Nat.min_self _
/-- all of one kind, none is None -/
def kindOk (ds : List PyData) : Bool := ds.all fun d => (ds.all fun e => PySem.W.alike d e) && decide (d.depth ≤ 16) && (match d with
  | .tuple [] => false
  | .none => false
  | _ => true)
section
variable {X : Cx}
theorem kindOk_alike {ds : List PyData} (h : kindOk ds = true) : PySem.W.AllAlike ds := fun d hd e he => by
  unfold kindOk at h
  have h1 := (List.all_eq_true.1 h) d hd
  simp only [Bool.and_eq_true] at h1
  exact (List.all_eq_true.1 h1.1.1) e he
theorem kindOk_depth {ds : List PyData} (h : kindOk ds = true) : ∀ d ∈ ds, d.depth ≤ 16 := fun d hd => by
  unfold kindOk at h
  have h1 := (List.all_eq_true.1 h) d hd
  simp only [Bool.and_eq_true, decide_eq_true_eq] at h1
  exact h1.1.2
theorem kindOk_sortable {ds : List PyData} (h : kindOk ds = true) : PySem.W.Sortable ds := by
  have hk := h
  unfold kindOk at h
  by_cases ht : ∃ d ∈ ds, ∃ xs, d = .tuple xs
  · obtain ⟨d, hd, xs, rfl⟩ := ht
    refine .inl fun e he => ?_
    have ha := kindOk_alike hk _ hd _ he
    have h1 := (List.all_eq_true.1 h) e he
    cases e with
    | tuple ys =>
      cases ys with
      | nil => simp at h1
      | cons y r => exact ⟨y, r, rfl⟩
    | none => simp [PySem.W.alike] at ha
    | bool b => simp [PySem.W.alike] at ha
    | int i => simp [PySem.W.alike] at ha
    | str s => simp [PySem.W.alike] at ha
    | list l => simp [PySem.W.alike] at ha
    | dict l => simp [PySem.W.alike] at ha
  · refine .inr fun d hd => ⟨fun e => ?_, fun xs e => ht ⟨d, hd, xs, e⟩⟩
    have h1 := (List.all_eq_true.1 h) d hd
    subst e
    simp at h1
theorem dpAll_len {K : PySem.W.Frag} {H : Hp} : ∀ {xs : List V} {ds : List PyData}, DpAll K H xs ds → xs.length = ds.length
  | _, _, .nil => rfl
  | _, _, .cons _ r => by rw [List.length_cons, List.length_cons, dpAll_len r]
theorem each_zip {its : List Value} : ∀ {xs : List V} {ds : List PyData}, Vals xs its → xs.length = ds.length → PySem.W.EachIs (fun v (b : V × PyData) => RelV b.1 v) its (xs.zip ds) := by
  induction its with
  | nil =>
    intro xs ds r h
    cases r
    exact .nil
  | cons u us ih =>
    intro xs ds r h
    cases r with
    | cons r1 r2 =>
      cases ds with
      | nil => simp at h
      | cons d ds => exact .cons r1 (ih r2 (by simpa using h))
theorem each_reads {h : Heap} {its : List Value} : ∀ {xs : List V} {ds : List PyData} {as : List Addr}, xs.length = ds.length → ReadsAll h its ds as → PySem.W.EachIs (fun v (b : V × PyData) => ∃ as, Reads h v b.2 as) its (xs.zip ds) := by
  induction its with
  | nil =>
    intro xs ds as hl r
    cases r
    rw [List.zip_nil_right]
    exact .nil
  | cons u us ih =>
    intro xs ds as hl r
    cases r with
    | cons r1 r2 =>
      cases xs with
      | nil => simp at hl
      | cons x xs => exact .cons ⟨_, r1⟩ (ih (by simpa using hl) r2)
theorem vals_each : ∀ {out : List Value} {bs : List (V × PyData)}, PySem.W.EachIs (fun v (b : V × PyData) => RelV b.1 v) out bs → Vals (bs.map Prod.fst) out
  | _, _, .nil => .nil
  | _, _, .cons r h => .cons r (vals_each h)
theorem zip_snd {xs : List V} {ds : List PyData} (h : xs.length = ds.length) : (xs.zip ds).map Prod.snd = ds := by
  rw [List.map_snd_zip (by omega)]
end
section
variable {K : PySem.W.Frag} {H : Hp} {ρ : List Addr}
theorem vrs_pairs : ∀ l : List (V × W), (∀ p ∈ l, VR K H ρ p.1 p.2) → VRs K H ρ (l.map Prod.fst) (l.map Prod.snd)
  | [], _ => .nil
  | p :: l, h => .cons (h p List.mem_cons_self) (vrs_pairs l fun q hq => h q (List.mem_cons_of_mem _ hq))
theorem vrs_zip : ∀ {vs : List V} {ws : List W}, VRs K H ρ vs ws → ∀ p ∈ vs.zip ws, VR K H ρ p.1 p.2
  | [], ws, _, p, hp => by simp at hp
  | v :: vs, [], r, p, hp => by simp at hp
  | v :: vs, w :: ws, r, p, hp => by
    unfold VRs at r
    obtain ⟨v', vs', e, q, z⟩ := r
    cases e
    rcases List.mem_cons.1 hp with rfl | hp
    · exact q
    · exact vrs_zip z p hp
theorem zip3 {α β γ : Type} : ∀ (xs : List α) (ys : List β) (ds : List γ), xs.length = ys.length → ((xs.zip ys).zip ds).map (fun t => (t.1.1, t.2)) = xs.zip ds ∧ ((xs.zip ys).zip ds).map (fun t => (t.1.2, t.2)) = ys.zip ds
  | [], [], ds, _ => ⟨rfl, rfl⟩
  | x :: xs, y :: ys, [], _ => ⟨rfl, rfl⟩
  | x :: xs, y :: ys, d :: ds, h => by
    obtain ⟨a, b⟩ := zip3 xs ys ds (by simpa using h)
    exact ⟨by simp [a], by simp [b]⟩
  | [], _ :: _, _, h => by simp at h
  | _ :: _, [], _, h => by simp at h
theorem sortBy_map {α β : Type} (f : α → β) (l : List (α × PyData)) : ((l.map fun t => (f t.1, t.2)).mergeSort (PySem.W.dataLe false Prod.snd)) = (l.mergeSort (PySem.W.dataLe false Prod.snd)).map fun t => (f t.1, t.2) := by
  symm
  apply List.map_mergeSort
  intro a _ b _
  rfl
theorem vrs_sortBy {vs : List V} {ws : List W} {ds : List PyData} (r : VRs K H ρ vs ws) : VRs K H ρ (sortBy vs ds) (sortBy ws ds) := by
  obtain ⟨a, b⟩ := zip3 vs ws ds r.length
  unfold sortBy
  rw [← a, ← b, sortBy_map Prod.fst, sortBy_map Prod.snd, List.map_map, List.map_map]
  have e1 : (Prod.fst ∘ fun t : (V × W) × PyData => (t.1.1, t.2)) = Prod.fst ∘ (fun t : (V × W) × PyData => t.1) := rfl
  have e2 : (Prod.fst ∘ fun t : (V × W) × PyData => (t.1.2, t.2)) = Prod.snd ∘ (fun t : (V × W) × PyData => t.1) := rfl
  rw [e1, e2, ← List.map_map, ← List.map_map]
  refine vrs_pairs _ fun p hp => ?_
  obtain ⟨t, ht, rfl⟩ := List.mem_map.1 hp
  have ht2 := (List.mergeSort_perm _ _).mem_iff.1 ht
  exact vrs_zip r _ (List.of_mem_zip ht2).1
end
end Den
set_option maxRecDepth 100000
/-! in, not in. -/
namespace Den
open PySem L2 PyProof.Rows
theorem inV_ints (i : Int) (l : List Int) : inV (.int i) (l.map V.int) = decide (i ∈ l) := by
  unfold inV
  induction l with
  | nil => rfl
  | cons j l ih =>
    rw [List.map_cons, List.any_cons, ih]
    by_cases h : j = i
    · subst h; simp [eqV]
    · have h2 : ¬ i = j := fun e => h e.symm
      simp [eqV, h, h2]
theorem inV_strs (s : List Nat) (l : List (List Nat)) : inV (.str (mkS s)) ((l.map mkS).map V.str) = decide (s ∈ l) := by
  unfold inV
  induction l with
  | nil => rfl
  | cons j l ih =>
    rw [List.map_cons, List.map_cons, List.any_cons, ih]
    by_cases h : j = s
    · subst h; simp [eqV]
    · have h2 : ¬ s = j := fun e => h e.symm
      have h3 : mkS j ≠ mkS s := fun e => h (by have := congrArg (fun z : Str => z.cps.toList) e; simpa using this)
      simp [eqV, h2, h3]
/-- x in y, where it is known -/
def inW (x y : W) (h : List O) : Option Bool := match x, y with
  | .str [c], .str s => some (decide (c ∈ s))
  | .int i, .tup xs => (intsOf xs).map fun l => decide (i ∈ l)
  | .str s, .tup xs => (strsOf xs).map fun l => decide (s ∈ l)
  | x, y => match dat h 8 x, dat h 8 y with
    | some d, some (.list ds) => some (ds.any fun z => PyData.eqv z d)
    | _, _ => none
def oIn (x y : W) (h : List O) : Out W := match inW x y h with
  | some b => .ok (.bl b) h
  | none => .bad
def oNotIn (x y : W) (h : List O) : Out W := match inW x y h with
  | some b => .ok (.bl !b) h
  | none => .bad
theorem inW_ok {K : PySem.W.Frag} {G : Gx} {H : Hp} {ρ : List Addr} {h : List O} {x y : V} {wx wy : W} {b : Bool} (hr : HR K G H ρ h) (rx : VR K H ρ x wx) (ry : VR K H ρ y wy) (e : inW wx wy h = some b) :
    (∃ (c : Nat) (z : Str), x = .str ⟨#[c]⟩ ∧ y = .str z ∧ decide (c ∈ z.cps.toList) = b) ∨ (∃ p xs, y = .ref p ∧ (SqL K H p xs ∨ SqT K H p xs) ∧ flatV x = true ∧ xs.all flatV = true ∧ inV x xs = b) ∨
      ∃ d ds, Dp K H x d ∧ Dp K H y (.list ds) ∧ SeqAt.shaped d = true ∧ SeqAt.shaped (.list ds) = true ∧ (ds.any fun z => PyData.eqv z d) = b := by
  unfold inW at e
  split at e
  · cases e
    exact .inl ⟨_, _, rx.str, ry.str, rfl⟩
  · rename_i i xs
    cases hl : intsOf xs with
    | none => rw [hl] at e; cases e
    | some l =>
      rw [hl] at e
      cases e
      obtain ⟨a, vs, rfl, q, z⟩ := sqT_ok ry (show sqT (.tup xs) = some xs from rfl)
      rw [intsOf_ok z hl] at q
      exact .inr (.inl ⟨a, _, rfl, .inr q, by rw [rx.int]; rfl, flat_ints l, by rw [rx.int]; exact inV_ints i l⟩)
  · rename_i s xs
    cases hl : strsOf xs with
    | none => rw [hl] at e; cases e
    | some l =>
      rw [hl] at e
      cases e
      obtain ⟨a, vs, rfl, q, z⟩ := sqT_ok ry (show sqT (.tup xs) = some xs from rfl)
      rw [strsOf_ok z hl] at q
      exact .inr (.inl ⟨a, _, rfl, .inr q, by rw [rx.str]; rfl, flat_strs l, by rw [rx.str]; exact inV_strs s l⟩)
  · split at e
    · rename_i d ds hd hds
      cases e
      exact .inr (.inr ⟨d, ds, dat_dp hr 8 _ _ _ rx hd, dat_dp hr 8 _ _ _ ry hds, dat_shaped hd, dat_shaped hds, rfl⟩)
    · cases e
theorem ops_in {G : Gx} {X : Cx} (hu : X.A.units + 65 < cLine) : OpS G X (compareOp .In) oIn := ⟨_, OpR.or op_in_sign (OpR.or op_in_seq (op_inD hu)), fun E H ρ h x y wx wy Q hr rx ry p => by
  unfold oIn at p
  split at p
  · rename_i b hb
    have q : Q (.bl b) H := p.here hr vr_bl
    rcases inW_ok hr rx ry hb with ⟨c, z, h1, h2, h3⟩ | ⟨p, xs, h1, h2, h3, h4, h5⟩ | ⟨d, ds, h1, h2, h3, h4, h5⟩
    · exact .inl ⟨c, z, h1, h2, by rw [h3]; exact q⟩
    · exact .inr (.inl ⟨p, xs, h1, h2, h3, h4, by rw [h5]; exact q⟩)
    · exact .inr (.inr ⟨d, ds, h1, h2, h3, h4, by rw [h5]; exact q⟩)
  · exact False.elim p⟩
theorem ops_notin {G : Gx} {X : Cx} (hu : X.A.units + 65 < cLine) : OpS G X (compareOp .NotIn) oNotIn := ⟨_, OpR.or op_notIn_sign (OpR.or op_notIn_seq (op_notInD hu)), fun E H ρ h x y wx wy Q hr rx ry p => by
  unfold oNotIn at p
  split at p
  · rename_i b hb
    have q : Q (.bl !b) H := p.here hr vr_bl
    rcases inW_ok hr rx ry hb with ⟨c, z, h1, h2, h3⟩ | ⟨p, xs, h1, h2, h3, h4, h5⟩ | ⟨d, ds, h1, h2, h3, h4, h5⟩
    · exact .inl ⟨c, z, h1, h2, by rw [h3]; exact q⟩
    · exact .inr (.inl ⟨p, xs, h1, h2, h3, h4, by rw [h5]; exact q⟩)
    · exact .inr (.inr ⟨d, ds, h1, h2, h3, h4, by rw [h5]; exact q⟩)
  · exact False.elim p⟩
end Den
set_option maxRecDepth 100000
/-! min, max of lists of any plain data. -/
namespace Den
open PySem L2 PyProof.Rows
mutual
/-- plain data as a value -/
def ofDat : PyData → W
  | .none => .non
  | .bool b => .bl b
  | .int i => .int i
  | .str s => .str s.cps.toList
  | .tuple ds => .tup (ofDats ds)
  | _ => .non
def ofDats : List PyData → List W
  | [] => []
  | d :: ds => ofDat d :: ofDats ds
end
section
variable {X : Cx}
end
end Den
set_option maxRecDepth 100000
/-! The order of any plain data: <, <=, >, >=. -/
namespace Den
open PySem L2 PyProof.Rows
section
variable {X : Cx}
end
section
variable {X : Cx} {G : Gx}
end
end Den
set_option maxRecDepth 100000
/-! Expressions of plain data in frames of their own, by the same plain functions: keys of a sort, elements of a generator. -/
namespace Den
open PySem L2 PyProof.Rows
/-! ### a model value as plain data -/
mutual
def WV (h : Heap) : Value → W → Prop
  | v, .non => v = .none
  | v, .bl b => v = .bool b
  | v, .int i => ∃ t, v = .int i t
  | v, .str s => ∃ t, v = .str (mkS s) t
  | v, .tup xs => ∃ a vs, v = .ref a ∧ IsTup h a vs.toArray ∧ vs.length ≤ sizeLine ∧ WVs h vs xs
  | v, .rol xs => ∃ a vs, v = .ref a ∧ h.IsList a vs.toArray ∧ vs.length ≤ sizeLine ∧ WVs h vs xs
  | v, .ref n => False
def WVs (h : Heap) : List Value → List W → Prop
  | vs, [] => vs = []
  | vs, x :: xs => ∃ v r, vs = v :: r ∧ WV h v x ∧ WVs h r xs
end
mutual
theorem WV.mono {h h' : Heap} (k : Kp h h') : ∀ {v : Value} {w : W}, WV h v w → WV h' v w
  | v, .non, x => x
  | v, .bl _, x => x
  | v, .int _, x => x
  | v, .str _, x => x
  | v, .tup xs, x => by
    unfold WV at x ⊢
    obtain ⟨a, vs, e, ⟨o, p, q⟩, z, r⟩ := x
    exact ⟨a, vs, e, ⟨o, k _ _ p, q⟩, z, WVs.mono k r⟩
  | v, .rol xs, x => by
    unfold WV at x ⊢
    obtain ⟨a, vs, e, ⟨o, p, q⟩, z, r⟩ := x
    exact ⟨a, vs, e, ⟨o, k _ _ p, q⟩, z, WVs.mono k r⟩
  | v, .ref n, x => x
theorem WVs.mono {h h' : Heap} (k : Kp h h') : ∀ {v : List Value} {w : List W}, WVs h v w → WVs h' v w
  | v, [], x => x
  | v, w :: ws, x => by
    unfold WVs at x ⊢
    obtain ⟨u, r, e, p, q⟩ := x
    exact ⟨u, r, e, WV.mono k p, WVs.mono k q⟩
end
theorem WVs.length {h : Heap} : ∀ {vs : List Value} {ws : List W}, WVs h vs ws → vs.length = ws.length
  | vs, [], h => by unfold WVs at h; rw [h]; rfl
  | vs, w :: ws, h => by
    unfold WVs at h
    obtain ⟨v, r, e, _, z⟩ := h
    rw [e, List.length_cons, List.length_cons, WVs.length z]
theorem WVs.get {h : Heap} : ∀ {vs : List Value} {ws : List W} {i : Nat} {w : W}, WVs h vs ws → ws[i]? = some w → ∃ v, vs[i]? = some v ∧ WV h v w
  | vs, [], i, w, _, e => by simp at e
  | vs, x :: ws, 0, w, h, e => by
    unfold WVs at h
    obtain ⟨v, r, rfl, q, _⟩ := h
    simp at e
    subst e
    exact ⟨v, rfl, q⟩
  | vs, x :: ws, i + 1, w, h, e => by
    unfold WVs at h
    obtain ⟨v, r, rfl, _, z⟩ := h
    obtain ⟨u, a, b⟩ := WVs.get (i := i) z (by simpa using e)
    exact ⟨u, by simpa using a, b⟩
section
variable {h : Heap} {v : Value}
theorem WV.int {i : Int} (x : WV h v (.int i)) : ∃ t, v = .int i t := by unfold WV at x; exact x
theorem WV.str {i : List Nat} (x : WV h v (.str i)) : ∃ t, v = .str (mkS i) t := by unfold WV at x; exact x
theorem WV.bl {i : Bool} (x : WV h v (.bl i)) : v = .bool i := by unfold WV at x; exact x
theorem WV.non (x : WV h v .non) : v = .none := by unfold WV at x; exact x
theorem WV.tup {xs : List W} (x : WV h v (.tup xs)) : ∃ a vs, v = .ref a ∧ IsTup h a vs.toArray ∧ vs.length ≤ sizeLine ∧ WVs h vs xs := by unfold WV at x; exact x
theorem WV.rol {xs : List W} (x : WV h v (.rol xs)) : ∃ a vs, v = .ref a ∧ h.IsList a vs.toArray ∧ vs.length ≤ sizeLine ∧ WVs h vs xs := by unfold WV at x; exact x
theorem wv_int {i : Int} {t : Tok} : WV h (.int i t) (.int i) := by unfold WV; exact ⟨_, rfl⟩
theorem wv_bl {i : Bool} : WV h (.bool i) (.bl i) := by unfold WV; rfl
theorem wv_non : WV h .none .non := by unfold WV; rfl
theorem wv_str {i : List Nat} {t : Tok} : WV h (.str (mkS i) t) (.str i) := by unfold WV; exact ⟨_, rfl⟩
theorem wv_str' {x : Str} {i : List Nat} {t : Tok} (e : x = mkS i) : WV h (.str x t) (.str i) := by rw [e]; exact wv_str
end
/-! ### a frame's names -/
structure PxOk (K : PySem.W.Frag) (mg : Str → Option Value) (N : List Str) (env : PySem.Env) (h0 : Heap) (ev : Env) : Prop where
  kin : K.In h0
  kind : env.scope.kind = .function
  glob : h0.Ns env.globals mg
  blt : ∃ mb, h0.Ns env.builtins mb ∧ ∀ x : Str, x ≠ "__name__" → mb x = bootBuiltins x
  at_ : ∀ (i : Nat) (x : Str) (w : W), N[i]? = some x → ev[i]? = some (some w) → Vis env.scope x → ∃ v, WV h0 v w ∧ ((env.kindOf x = some .local ∧ ∃ m, h0.Ns env.locals m ∧ m x = some v) ∨ (env.kindOf x = some .free ∧ ∃ c, env.cells.lookup x = some c ∧ h0.IsCell c (some v)))
theorem PxOk.keeps {K : PySem.W.Frag} {mg : Str → Option Value} {N : List Str} {env : PySem.Env} {h0 h : Heap} {ev : Env} (o : PxOk K mg N env h0 ev) (k : Kp h0 h) : PxOk K mg N env h ev := by
  refine ⟨o.kin.keeps k, o.kind, o.glob.keeps k, ?_, fun i x w a b c => ?_⟩
  · obtain ⟨mb, h1, h2⟩ := o.blt
    exact ⟨mb, h1.keeps k, h2⟩
  · obtain ⟨v, hv, q⟩ := o.at_ i x w a b c
    refine ⟨v, hv.mono k, ?_⟩
    rcases q with ⟨q, m, h1, h2⟩ | ⟨q, c, h1, ob, h2, h3⟩
    · exact .inl ⟨q, m, h1.keeps k, h2⟩
    · exact .inr ⟨q, c, h1, ob, k _ _ h2, h3⟩
/-- e gives what m says, on no heap of objects -/
def SPx (K : PySem.W.Frag) (mg : Str → Option Value) (N : List Str) (sc : Scope) (e : Expr) (m : M W) : Prop :=
  ∀ (P : Program) (w : World) (env : PySem.Env) (h0 : Heap) (ev : Env) (x : W), env.scope = sc → PxOk K mg N env h0 ev → m ev [] = .ok x [] → Px P w env h0 e fun y h => WV h y x
def GlP (sc : Scope) (x : Str) : Prop := sc.names.lookup x = some .globalImplicit
/-- an operator by values -/
def PxOp (f : Value → Value → Sem Value) (op : W → W → List O → Out W) : Prop := ∀ (P : Program) (w : World) (A : Around) (E : Value → Shared → Prop) (s : Shared) (v u : Value) (x y z : W), WV s.heap v x → WV s.heap u y → op x y [] = .ok z [] →
  wpAny (model P w) A (f v u) (fun r s' => WV s'.heap r z ∧ Keeps s s') E s
section
variable {K : PySem.W.Frag} {mg : Str → Option Value} {N : List Str} {sc : Scope} {e a b : Expr} {ma mb : M W} {pos p : Pos}
theorem bnd_inv {α β : Type} {o : Out α} {f : α → List O → Out β} {y : β} {h : List O} (e : o.bnd f = .ok y h) : ∃ x h', o = .ok x h' ∧ f x h' = .ok y h := by
  cases o with
  | ok x h' => exact ⟨x, h', rfl, e⟩
  | exc c p h' => cases e
  | bad => cases e
/-- the plain functions here leave the (bare) heap as it is -/
def Bare (m : M W) : Prop := ∀ ev x h, m ev [] = .ok x h → h = []
theorem spx_var (i : Nat) {x : Str} (hN : N[i]? = some x := by rfl) (hv : Vis sc x := by first | exact Or.inl rfl | exact Or.inr (Or.inl rfl) | exact Or.inr (Or.inr rfl)) (hd : (x == ("__debug__" : Str)) = false := by decide)
    (hcd : (x == ("__classdict__" : Str)) = false := by decide) : SPx K mg N sc (.Name x pos) (mVar i) := fun P w env h0 ev y hs ok hm => by
  unfold mVar at hm
  split at hm
  · rename_i w' hw
    cases hm
    obtain ⟨v, hv', q⟩ := ok.at_ i x _ hN hw (by rw [hs]; exact hv)
    rcases q with ⟨q, m, h1, h2⟩ | ⟨q, c, h1, h2⟩
    · exact px_imp (px_local (pos := pos) ok.kind q h1 h2 hd) fun y h k e => by rw [e]; exact hv'.mono k
    · exact px_imp (px_free (pos := pos) ok.kind q h1 h2 hd hcd) fun y h k e => by rw [e]; exact hv'.mono k
  · cases hm
theorem spx_str {x : Str} {l : List Nat} {k : Nat} (hx : x = mkS l := by decide +kernel) : SPx K mg N sc (.Constant (.str x) k pos) (mC (.str l)) := fun P w env h0 ev y hs ok hm => by
  cases hm
  exact px_imp px_str fun y h k e => by rw [hx] at e; unfold WV; exact e
theorem spx_glob {x : Str} {u : Value} {z : W} (hg : GlP sc x) (hm : mg x = some u) (hw : ∀ h, WV h u z) (hd : (x == ("__debug__" : Str)) = false := by decide) : SPx K mg N sc (.Name x pos) (mC z) := fun P w env h0 ev y hs ok hm' => by
  cases hm'
  exact fun A E s k => Calls.Name_function_global ok.kind (by show env.scope.names.lookup x = _; rw [hs]; exact hg) (Calls.loadGlobal_global (ok.glob.keeps k) hm ⟨hw _, keeps_rfl s⟩) hd
theorem spx_op {o : Operator} {op : W → W → List O → Out W} (s : PxOp (binaryOp o) op) (ha : SPx K mg N sc a ma) (hb : SPx K mg N sc b mb) (b1 : Bare ma) (b2 : Bare mb) : SPx K mg N sc (.BinOp a o b pos) (mOp op ma mb) := fun P w env h0 ev y hs ok hm A E st k => by
  obtain ⟨x1, h1, e1, hm⟩ := bnd_inv hm
  obtain ⟨x2, h2, e2, hm⟩ := bnd_inv hm
  have z1 := b1 _ _ _ e1
  subst z1
  have z2 := b2 _ _ _ e2
  subst z2
  refine wpAny_BinOp (wpAny_mono (ha P w env h0 ev x1 hs ok e1 A E st k) (fun v s1 q1 => wpAny_mono (hb P w env h0 ev x2 hs ok e2 A E s1 fun b o z => kpH q1.2 b o (k b o z)) (fun u s2 q2 => ?_) fun _ _ e => e) fun _ _ e => e)
  exact wpAny_mono (s P w A E s2 v u x1 x2 y (q1.1.mono (kpH q2.2)) q2.1 hm) (fun r s3 q3 => ⟨q3.1, kpT q1.2 (kpT q2.2 q3.2)⟩) fun _ _ e => e
theorem spx_cmp {o : CmpOp} {op : W → W → List O → Out W} (s : PxOp (compareOp o) op) (ha : SPx K mg N sc a ma) (hb : SPx K mg N sc b mb) (b1 : Bare ma) (b2 : Bare mb) (hmk : behindInMarks o b = false := by first | exact nomark _ (by decide) (by decide) | rfl | (with_unfolding_all rfl)) :
    SPx K mg N sc (.Compare a [o] [b] pos) (mOp op ma mb) := fun P w env h0 ev y hs ok hm A E st k => by
  obtain ⟨x1, h1, e1, hm⟩ := bnd_inv hm
  obtain ⟨x2, h2, e2, hm⟩ := bnd_inv hm
  have z1 := b1 _ _ _ e1
  subst z1
  have z2 := b2 _ _ _ e2
  subst z2
  refine wpAny_Compare1 (wpAny_mono (ha P w env h0 ev x1 hs ok e1 A E st k) (fun v s1 q1 => wpAny_mono (hb P w env h0 ev x2 hs ok e2 A E s1 fun b o z => kpH q1.2 b o (k b o z)) (fun u s2 q2 => ?_) fun _ _ e => e) fun _ _ e => e) hmk
  exact wpAny_mono (s P w A E s2 v u x1 x2 y (q1.1.mono (kpH q2.2)) q2.1 hm) (fun r s3 q3 => ⟨q3.1, kpT q1.2 (kpT q2.2 q3.2)⟩) fun _ _ e => e
end
end Den
set_option maxRecDepth 100000
set_option maxHeartbeats 2000000
/-! sorted of anything that can be gathered, with or without a key: over the heap alone. -/
namespace Den
open PySem L2 PyProof.Rows PySem.W
/-- gathering v: all stays, the items are as R says -/
def Coll (P : Program) (w : World) (A : Around) (s : Shared) (v : Value) (R : List Value → Prop) : Prop :=
  ∀ (Q : List Value → Shared → Prop) (E : Value → Shared → Prop), (∀ s' vs, Kp s.heap s'.heap → AllBare s'.gens → s'.os = s.os → R vs → Q vs s') → wpAny (model P w) A (collect v) Q E s
section
variable {P : Program} {w : World} {A : Around} {E : Value → Shared → Prop} {s : Shared} {β : Type} {Rel : Value → β → Prop} {enc : β → PyData} {Ok : List β → Prop} {v : Value} {Q : Value → Shared → Prop}
/-- the frame of sorted -/
theorem sorted_from {kw : List (Str × Value)} (ha1 : argsOk "sorted" ⟨[v], kw⟩) (ha2 : ∀ x, argsOk "list.sort" ⟨[.ref x], kw⟩) (hc : Coll P w A.in1 s v (fun vs => ∃ bs, Ok bs ∧ EachIs Rel vs bs)) (hL : ∀ bs, Ok bs → bs.length ≤ sizeLine)
    (body : ∀ (s1 : Shared) (vs : List Value) (bs : List β), Kp s.heap s1.heap → s.heap.objs.size ≤ s1.heap.objs.size → AllBare s1.gens → s1.os = s.os → Ok bs → EachIs Rel vs bs → ∀ E' : Value → Shared → Prop,
      wpAny (model P w) A.in1.in1 (Builtin.«list.sort» ⟨[.ref s1.heap.objs.size], kw⟩) (fun f s' => f = .done (.ret .none) ∧ Q (.ref s1.heap.objs.size) s') E' { s1 with heap := s1.heap.push (seqObj "list" vs.toArray 0) }) :
    wpAny (model P w) A (call (.builtin "sorted") [v] kw) Q E s := by
  refine call_function_entry_kw kind_sorted plain_sorted entry_sorted ha1 ?_
  unfold Builtin.«sorted»
  refine wpAny_bind (m := checkCount "sorted" 1 1 _) (wpAny_pure ?_)
  refine wpAny_bind (wpAny_hsz (hc _ _ fun s1 vs k g o r hsz => ?_))
  obtain ⟨bs, ok, e⟩ := r
  have hz : vs.length ≤ sizeLine := by rw [e.length]; exact hL bs ok
  refine wpAny_bind (wpAny_newList ?_ hz)
  show wpAny _ _ _ _ _ { s1 with heap := s1.heap.push (seqObj "list" vs.toArray 0) }
  refine wpAny_bind (wpAny_holding (wpAny_call_entry_kw slot_list_sort ⟨_, Heap.get?_push_size _ rfl, rfl⟩ entry_list_sort ?body (ha2 _)))
  case body =>
    show wpAny (model P w) A.in1.in1 (Builtin.«list.sort» ⟨[.ref s1.heap.objs.size], kw⟩) _ _ _
    refine wpAny_mono (body s1 vs bs k hsz g o ok e _) (fun f s' hf => ?_) fun _ _ e => e
    obtain ⟨rfl, hq⟩ := hf
    exact ⟨_, rfl, wpAny_pure ⟨_, rfl, hq⟩⟩
theorem sorted_coll (hc : Coll P w A.in1 s v (fun vs => ∃ bs, Ok bs ∧ EachIs Rel vs bs)) (ha1 : argsOk "sorted" ⟨[v], []⟩)
    (ha : ∀ bs, Ok bs → AllAlike (bs.map enc) ∧ Sortable (bs.map enc) ∧ bs.length ≤ sizeLine ∧ ∀ b ∈ bs, A.units + 2 + (enc b).depth < cLine)
    (hr : ∀ h v b, Kp s.heap h → Rel v b → ∃ as, Reads h v (enc b) as)
    (h : ∀ s' out c a bs, Ok bs → Kp s.heap s'.heap → AllBare s'.gens → s'.os = s.os → s.heap.objs.size ≤ a → s'.heap.get? a = some (seqObj "list" out.toArray c) → EachIs Rel out (bs.mergeSort (dataLe false enc)) → Q (.ref a) s') :
    wpAny (model P w) A (call (.builtin "sorted") [v]) Q E s := by
  have hLL : ∀ bs, Ok bs → bs.length ≤ sizeLine := fun bs ok => by
    obtain ⟨_, _, x, _⟩ := ha bs ok
    exact x
  refine sorted_from (Ok := Ok) (Rel := Rel) (kw := []) ha1 (fun _ => args_list_sort _) hc hLL fun s1 vs bs k hsz g o ok e E' => ?_
  obtain ⟨hal, hk, hL, hu⟩ := ha bs ok
  have ho : ({ s1 with heap := s1.heap.push (seqObj "list" vs.toArray 0) } : Shared).heap.get? s1.heap.objs.size = some (seqObj "list" vs.toArray 0) := Heap.get?_push_size _ rfl
  have hz : vs.length ≤ sizeLine := by rw [e.length]; exact hL
  have kS : ∀ b o, s1.heap.get? b = some o → (sortingHeap (s1.heap.push (seqObj "list" vs.toArray 0)) s1.heap.objs.size vs).get? b = some o := fun b o q =>
    sortingHeap_old (Nat.ne_of_lt (Heap.lt_size q)) (Heap.get?_push_of_some _ q)
  have er : EachIs (fun v b => ∃ as, Reads (sortingHeap (s1.heap.push (seqObj "list" vs.toArray 0)) s1.heap.objs.size vs) v (enc b) as) vs bs :=
    e.mono fun v b q => hr _ v b (fun b o z => kS b o (k b o z)) q
  have em := each_map (R := fun v d => ∃ as, Reads (sortingHeap (s1.heap.push (seqObj "list" vs.toArray 0)) s1.heap.objs.size vs) v d as) enc er
  have hu2 : ∀ d, d ∈ bs.map enc → A.in1.in1.units + d.depth < cLine := bound_map (A := A.in1.in1) hu
  have S := SortsAt.data (prog := P) (w := w) (A := A.in1.in1) (s := { s1 with heap := sortingHeap (s1.heap.push (seqObj "list" vs.toArray 0)) s1.heap.objs.size vs }) em hal hk hu2
  refine list_sort_vals (s := { s1 with heap := s1.heap.push (seqObj "list" vs.toArray 0) }) ho S hz ⟨rfl, ?_⟩
  obtain ⟨c, hc2⟩ := sortedHeap_at (vs := vs) (out := (sortVals (dataKind (sortingHeap (s1.heap.push (seqObj "list" vs.toArray 0)) s1.heap.objs.size vs) (bs.map enc)) false vs vs).toArray) ho
  refine h _ _ c s1.heap.objs.size bs ok (fun b o q => ?_) g o hsz hc2 (sortVals_data false e er hal)
  have hlt := Heap.lt_size (k b o q)
  show (sortedHeap _ _ _ _).get? b = some o
  rw [sortedHeap_old (Nat.ne_of_lt hlt) (by rw [size_push']; exact Nat.lt_succ_of_lt hlt)]
  exact Heap.get?_push_of_some _ (k b o q)
end
/-! ### what can be gathered -/
section
variable {P : Program} {w : World} {A : Around} {s : Shared}
theorem coll_list {l : Addr} {vs : List Value} (hl : s.heap.IsList l vs.toArray) (hz : vs.length ≤ sizeLine) (hb : AllBare s.gens) : Coll P w A s (.ref l) (fun us => us = vs) := fun Q E h => by
  refine collect_list hl (h _ vs (fun b o e => ?_) hb rfl rfl) hz
  exact (Heap.get?_update_other _ _ (Nat.ne_of_gt (Heap.lt_size e))).trans (Heap.get?_push_of_some _ e)
theorem coll_tup {l : Addr} {vs : List Value} (hl : IsTup s.heap l vs.toArray) (hz : vs.length ≤ sizeLine) (hb : AllBare s.gens) : Coll P w A s (.ref l) (fun us => us = vs) := fun Q E h => by
  obtain ⟨o, ho, hc, n, hd⟩ := hl
  refine PySem.wpAny_collect_seq (items := vs.toArray) l (.inr rfl) ho hc hd (fun h' k => ?_) (by simpa using hz)
  exact h _ _ k hb rfl (by simp)
theorem coll_rng {r : Addr} {lo hi : Int} (hh : A.handled = none) (hr : ∃ t u v, s.heap.get? r = some { cls := .type "range", data := .fields #[.int lo t, .int hi u, .int 1 v] }) (h1 : -(2 ^ 62) ≤ lo) (h0 : lo < 2 ^ 62) (h2 : -(2 ^ 62) ≤ hi) (h4 : hi < 2 ^ 62) (h3 : (hi - lo).toNat ≤ 16777216) (hb : AllBare s.gens) :
    Coll P w A s (.ref r) (fun us => us.length = (hi - lo).toNat ∧ ∀ (i : Nat) (v : Value), us[i]? = some v → ∃ t, v = .int (lo + i) t) := fun Q E h => by
  obtain ⟨t, u, v, hr⟩ := hr
  refine L2.collect_range (n := (hi - lo).toNat) hh (a := lo) (b := hi) (c := 1) (t := t) (u := u) (v := v) hr ?_ ?_ (by omega) fun h' tk acc k hi => ?_
  · exact PySem.small_one h1 h0 h2 h4
  · exact PyProof.Rows.rangeSize_nat lo hi
  · refine h _ _ k hb rfl ⟨by rw [Array.length_toList]; exact hi.1, fun i v hv => ?_⟩
    obtain ⟨t, e⟩ := hi.2 i v (by simpa using hv)
    exact ⟨t, by rw [e, Int.mul_one]⟩
end
end Den
set_option maxRecDepth 100000
set_option maxHeartbeats 1000000
/-! .. their operators, subscripts, slices, len, isinstance. -/
namespace Den
open PySem L2 PyProof.Rows
def oInS (x y : W) (h : List O) : Out W := match x, y with
  | .str [c], .str s => .ok (.bl (decide (c ∈ s))) h
  | _, _ => .bad
def oNinS (x y : W) (h : List O) : Out W := match x, y with
  | .str [c], .str s => .ok (.bl (!decide (c ∈ s))) h
  | _, _ => .bad
def oAddS (x y : W) (h : List O) : Out W := match x, y with
  | .int i, .int j => .ok (.int (i + j)) h
  | .str a, .str b => if a.length + b.length ≤ lim then .ok (.str (a ++ b)) h else .bad
  | _, _ => .bad
theorem pxo_in : PxOp (compareOp .In) oInS := fun P w A E s v u x y z a b e => by
  unfold oInS at e
  split at e
  · rename_i c l
    cases e
    obtain ⟨t, rfl⟩ := a.str
    obtain ⟨t', rfl⟩ := b.str
    refine PyProof.Rows.in_str ⟨?_, keeps_rfl s⟩
    have e2 := PySem.StrLaws.found_one (mkS l) c
    rw [show (mkS [c]) = (⟨#[c]⟩ : Str) from rfl, e2]
    simpa using (wv_bl : WV s.heap (.bool _) (.bl _))
  · cases e
theorem pxo_nin : PxOp (compareOp .NotIn) oNinS := fun P w A E s v u x y z a b e => by
  unfold oNinS at e
  split at e
  · rename_i c l
    cases e
    obtain ⟨t, rfl⟩ := a.str
    obtain ⟨t', rfl⟩ := b.str
    refine PyProof.Rows.notIn_str ⟨?_, keeps_rfl s⟩
    have e2 := PySem.StrLaws.found_one (mkS l) c
    rw [show (mkS [c]) = (⟨#[c]⟩ : Str) from rfl, e2]
    simpa using (wv_bl : WV s.heap (.bool _) (.bl _))
  · cases e
theorem pxo_add : PxOp (binaryOp .Add) oAddS := fun P w A E s v u x y z a b e => by
  unfold oAddS at e
  split at e
  · cases e
    obtain ⟨t, rfl⟩ := a.int
    obtain ⟨t', rfl⟩ := b.int
    exact add_int ⟨wv_int, keeps_tok _ _⟩
  · rename_i p q
    split at e
    · rename_i hl
      cases e
      obtain ⟨t, rfl⟩ := a.str
      obtain ⟨t', rfl⟩ := b.str
      exact PyProof.Rows.add_str (fun t' tk => ⟨wv_str' (Str_app p q), keeps_tok _ _⟩) (by rw [Str_length, Str_length]; exact lim_size hl)
    · cases e
  · cases e
/-! ### all in one: the reading, the bare heap -/
def OpBare (op : W → W → List O → Out W) : Prop := ∀ x y z h, op x y [] = .ok z h → h = []
structure SP (K : PySem.W.Frag) (mg : Str → Option Value) (N : List Str) (sc : Scope) (e : Expr) (m : M W) : Prop where
  px : SPx K mg N sc e m
  br : Bare m
section
variable {K : PySem.W.Frag} {mg : Str → Option Value} {N : List Str} {sc : Scope} {e a b : Expr} {ma mb : M W} {pos p p2 : Pos}
theorem bare_op {op : W → W → List O → Out W} (ho : OpBare op) (a : Bare ma) (b : Bare mb) : Bare (mOp op ma mb) := fun ev x h e => by
  obtain ⟨x1, h1, e1, e⟩ := bnd_inv e
  have z1 := a _ _ _ e1
  subst z1
  obtain ⟨x2, h2, e2, e⟩ := bnd_inv e
  have z2 := b _ _ _ e2
  subst z2
  exact ho _ _ _ _ e
theorem ob_in : OpBare oInS := fun x y z h e => by unfold oInS at e; split at e <;> cases e <;> rfl
theorem ob_nin : OpBare oNinS := fun x y z h e => by unfold oNinS at e; split at e <;> cases e <;> rfl
theorem ob_add : OpBare oAddS := fun x y z h e => by
  unfold oAddS at e
  split at e
  · cases e; rfl
  · split at e <;> cases e <;> rfl
  · cases e
theorem sp_var (i : Nat) {x : Str} (hN : N[i]? = some x := by rfl) (hv : Vis sc x := by first | exact Or.inl rfl | exact Or.inr (Or.inl rfl) | exact Or.inr (Or.inr rfl)) (hd : (x == ("__debug__" : Str)) = false := by decide)
    (hcd : (x == ("__classdict__" : Str)) = false := by decide) : SP K mg N sc (.Name x pos) (mVar i) := ⟨spx_var i hN hv hd hcd, fun ev x h e => by
  unfold mVar at e
  split at e <;> cases e <;> rfl⟩
theorem sp_str {x : Str} {l : List Nat} {k : Nat} (hx : x = mkS l := by decide +kernel) : SP K mg N sc (.Constant (.str x) k pos) (mC (.str l)) := ⟨spx_str hx, fun ev x h e => by cases e; rfl⟩
theorem sp_glob {x : Str} {u : Value} {z : W} (hg : GlP sc x) (hm : mg x = some u) (hw : ∀ h, WV h u z) (hd : (x == ("__debug__" : Str)) = false := by decide) : SP K mg N sc (.Name x pos) (mC z) := ⟨spx_glob hg hm hw hd, fun ev x h e => by cases e; rfl⟩
theorem sp_op {o : Operator} {op : W → W → List O → Out W} (s : PxOp (binaryOp o) op) (ho : OpBare op) (ha : SP K mg N sc a ma) (hb : SP K mg N sc b mb) : SP K mg N sc (.BinOp a o b pos) (mOp op ma mb) := ⟨spx_op s ha.px hb.px ha.br hb.br, bare_op ho ha.br hb.br⟩
theorem sp_cmp {o : CmpOp} {op : W → W → List O → Out W} (s : PxOp (compareOp o) op) (ho : OpBare op) (ha : SP K mg N sc a ma) (hb : SP K mg N sc b mb) (hmk : behindInMarks o b = false := by first | exact nomark _ (by decide) (by decide) | rfl | (with_unfolding_all rfl)) :
    SP K mg N sc (.Compare a [o] [b] pos) (mOp op ma mb) := ⟨spx_cmp s ha.px hb.px ha.br hb.br hmk, bare_op ho ha.br hb.br⟩
/-! ### len -/
/-! ### isinstance -/
def tyNm (x : W) (h : List O) : String := match x with
  | .non => "NoneType"
  | .bl _ => "bool"
  | .int _ => "int"
  | .str _ => "str"
  | .tup _ => "tuple"
  | .rol _ => "list"
  | .ref n => match h[n]? with
    | some (.lst _) => "list"
    | some (.dic _) => "dict"
    | _ => "?"
/-! ### x[lo:hi] of a text -/
end
end Den
set_option maxRecDepth 100000
set_option maxHeartbeats 1000000
/-! sorted(.., key=lambda x: e). -/
namespace Den
open PySem L2 PyProof.Rows PySem.W
/-! ### values frozen: lists by what is in them -/
def frz (h : List O) : Nat → W → Option W
  | 0, _ => none
  | n + 1, .ref k => (lstAt h k).bind fun xs => (mapO (frz h n) xs).map .rol
  | n + 1, .rol xs => (mapO (frz h n) xs).map .rol
  | n + 1, .tup xs => (mapO (frz h n) xs).map .tup
  | n + 1, .non => some .non
  | n + 1, .bl b => some (.bl b)
  | n + 1, .int i => some (.int i)
  | n + 1, .str s => some (.str s)
section
variable {X : Cx} {G : Gx} {pins : List (Addr × Obj)} {σ : L2.St} {H : Hp} {s : Shared} {ρ : List Addr} {h : List O}
theorem mapO_wvs {f : W → Option W} (hf : ∀ v u w w', VR X.K H ρ v w → RelV v u → f w = some w' → WV s.heap u w') : ∀ {ws : List W} {vs : List V} {us : List Value} {ws' : List W}, VRs X.K H ρ vs ws → Vals vs us → mapO f ws = some ws' → WVs s.heap us ws'
  | [], vs, us, ws', r, q, e => by
    unfold VRs at r
    cases e
    subst r
    cases q
    unfold WVs
    rfl
  | w :: ws, vs, us, ws', r, q, e => by
    unfold VRs at r
    obtain ⟨v, l, rfl, r1, r2⟩ := r
    cases q with
    | cons q1 q2 =>
      unfold mapO at e
      split at e
      · rename_i d hd
        split at e
        · rename_i ds hds
          cases e
          unfold WVs
          exact ⟨_, _, rfl, hf _ _ _ _ r1 q1 hd, mapO_wvs hf r2 q2 hds⟩
        · cases e
      · cases e
theorem seqs_len {vs : List V} {us : List Value} (r : Vals vs us) (h : vs.length ≤ sizeLine) : us.length ≤ sizeLine := by rw [← r.length]; exact h
theorem frz_wv (I : Inv X pins σ H s) (hr : HR X.K G H ρ h) : ∀ (n : Nat) (v : V) (u : Value) (w w' : W), VR X.K H ρ v w → RelV v u → frz h n w = some w' → WV s.heap u w'
  | 0, v, u, w, w', r, q, e => by cases e
  | n + 1, v, u, .non, w', r, q, e => by cases e; rw [r.non] at q; cases q; exact wv_non
  | n + 1, v, u, .bl b, w', r, q, e => by cases e; rw [r.bl] at q; cases q; exact wv_bl
  | n + 1, v, u, .int b, w', r, q, e => by cases e; rw [r.int] at q; obtain ⟨t, rfl⟩ := q; exact wv_int
  | n + 1, v, u, .str b, w', r, q, e => by cases e; rw [r.str] at q; obtain ⟨t, rfl⟩ := q; exact wv_str
  | n + 1, v, u, .tup xs, w', r, q, e => by
    unfold frz at e
    obtain ⟨a, vs, rfl, sq, z⟩ := sqT_ok (xs := xs) r rfl
    cases q
    obtain ⟨its, rv, pl, hz⟩ := I.tuple sq
    cases hm : mapO (frz h n) xs with
    | none => rw [hm] at e; cases e
    | some ds =>
      rw [hm] at e
      cases e
      unfold WV
      exact ⟨a, its, rfl, pl, seqs_len rv hz, mapO_wvs (fun v u w w' => frz_wv I hr n v u w w') z rv hm⟩
  | n + 1, v, u, .rol xs, w', r, q, e => by
    unfold frz at e
    obtain ⟨a, vs, rfl, sq, z⟩ := sqL_ok (xs := xs) hr r rfl
    cases q
    obtain ⟨its, rv, pl, hz⟩ := I.list sq
    cases hm : mapO (frz h n) xs with
    | none => rw [hm] at e; cases e
    | some ds =>
      rw [hm] at e
      cases e
      unfold WV
      exact ⟨a, its, rfl, pl.isList, seqs_len rv hz, mapO_wvs (fun v u w w' => frz_wv I hr n v u w w') z rv hm⟩
  | n + 1, v, u, .ref k, w', r, q, e => by
    unfold frz at e
    cases hl : lstAt h k with
    | none => rw [hl] at e; cases e
    | some xs =>
      rw [hl] at e
      obtain ⟨a, vs, rfl, sq, z⟩ := sqL_ok (w := .ref k) (xs := xs) hr r hl
      cases q
      obtain ⟨its, rv, pl, hz⟩ := I.list sq
      cases hm : mapO (frz h n) xs with
      | none => simp only [Option.bind, hm] at e; cases e
      | some ds =>
        simp only [Option.bind, hm] at e
        cases e
        unfold WV
        exact ⟨a, its, rfl, pl.isList, seqs_len rv hz, mapO_wvs (fun v u w w' => frz_wv I hr n v u w w') z rv hm⟩
end
def frzE (h : List O) (e : Env) : Env := e.map fun o => o.bind (frz h 6)
/-! ### plain data without lists -/
/-! ### a lambda of one parameter -/
structure LamP (sc scope : Scope) (x : Str) : Prop where
  kind : scope.kind = .function
  co : scope.isCoroutine = false
  gen : scope.isGenerator = false
  cell : ∀ y ∈ scope.names, y.2 ≠ .cell
  loc : scope.names.lookup x = some .local
  own : ∀ y, scope.names.lookup y = some .local → y = x
  free : ∀ y ∈ scope.names, y.2 = .free → sc.names.lookup y.1 = some .cell ∨ sc.names.lookup y.1 = some .free
end Den
set_option maxRecDepth 100000
set_option maxHeartbeats 2000000
/-! What can be gathered, sorted with and without a key. -/
namespace Den
open PySem L2 PyProof.Rows PySem.W LamX
/-! ### what can be gathered in order -/
def rgVs (lo hi : Int) : List V := (List.range (hi - lo).toNat).map fun i : Nat => V.int (lo + i)
def ColV (K : PySem.W.Frag) (H : Hp) (v : V) (xs : List V) : Prop :=
  ∃ a, v = .ref a ∧ (SqL K H a xs ∨ SqT K H a xs ∨ ∃ lo hi, H a = some (.rng lo hi) ∧ -(2 ^ 62) ≤ lo ∧ lo < 2 ^ 62 ∧ -(2 ^ 62) ≤ hi ∧ hi < 2 ^ 62 ∧ (hi - lo).toNat ≤ 16777216 ∧ xs = rgVs lo hi)
abbrev ColRel (K : PySem.W.Frag) : Hp → List Addr → V → List W → Prop := fun H ρ v ws => ∃ xs, ColV K H v xs ∧ VRs K H ρ xs ws ∧ ws.length ≤ 16777216
section
variable {X : Cx} {pins : List (Addr × Obj)} {σ : L2.St} {H : Hp} {s : Shared}
theorem small24 : (16777216 : Nat) ≤ sizeLine := by rw [PySem.sizeLine_eq]; decide
theorem vals_rgVs {lo : Int} : ∀ {us : List Value} {n : Nat} {k : Nat}, us.length = n → (∀ (i : Nat) (v : Value), us[i]? = some v → ∃ t, v = .int (lo + ((k + i : Nat) : Int)) t) → Vals ((List.range' k n).map fun i : Nat => V.int (lo + i)) us
  | [], n, k, h, _ => by subst h; exact .nil
  | u :: us, n, k, h, q => by
    subst h
    rw [List.length_cons, List.range'_succ, List.map_cons]
    refine .cons ?_ (vals_rgVs (k := k + 1) rfl fun i v hv => ?_)
    · obtain ⟨t, e⟩ := q 0 u rfl
      exact ⟨t, by rw [e]; rfl⟩
    · obtain ⟨t, e⟩ := q (i + 1) v (by simpa using hv)
      exact ⟨t, by rw [e]; congr 1; omega⟩
theorem colv_coll (I : Inv X pins σ H s) {v : V} {u : Value} {xs : List V} (r : RelV v u) (c : ColV X.K H v xs) {A : Around} (hh : A.handled = none) : Coll X.prog X.w A s u (fun us => Vals xs us) := by
  obtain ⟨a, rfl, c⟩ := c
  cases r
  rcases c with c | c | ⟨lo, hi, c, h1, h2, h3, h4, h5, rfl⟩
  · obtain ⟨its, rv, pl, hz⟩ := I.list c
    exact fun Q E h => coll_list pl.isList (seqs_len rv hz) I.bare Q E fun s' vs k g o e => h s' vs k g o (by rw [e]; exact rv)
  · obtain ⟨its, rv, pl, hz⟩ := I.tuple c
    exact fun Q E h => coll_tup pl (seqs_len rv hz) I.bare Q E fun s' vs k g o e => h s' vs k g o (by rw [e]; exact rv)
  · have hr := I.hok a _ c
    exact fun Q E h => coll_rng hh hr h1 h2 h3 h4 h5 I.bare Q E fun s' vs k g o e => h s' vs k g o (by
      have := vals_rgVs (lo := lo) (k := 0) e.1 fun i v hv => by
        obtain ⟨t, e⟩ := e.2 i v hv
        exact ⟨t, by rw [e, Nat.zero_add]⟩
      rw [← List.range_eq_range'] at this
      exact this)
theorem ColV.ext {K : PySem.W.Frag} {H H' : Hp} {v : V} {xs : List V} (c : ColV K H v xs) (e : ExtN H H') : ColV K H' v xs := by
  obtain ⟨a, rfl, c⟩ := c
  refine ⟨a, rfl, ?_⟩
  have key : ∀ b o, H b = some o → isTbl o = false → H' b = some o := fun b o q t => e b o q (by intro ps z; subst z; cases t)
  rcases c with (⟨c | ⟨o, c⟩⟩ | c) | (⟨c | ⟨o, c⟩⟩ | c) | ⟨lo, hi, c, q⟩
  · exact .inl (.inl (.inl (key _ _ c rfl)))
  · exact .inl (.inl (.inr ⟨o, key _ _ c rfl⟩))
  · exact .inl (.inr c)
  · exact .inr (.inl (.inl (.inl (key _ _ c rfl))))
  · exact .inr (.inl (.inl (.inr ⟨o, key _ _ c rfl⟩)))
  · exact .inr (.inl (.inr c))
  · exact .inr (.inr ⟨lo, hi, key _ _ c rfl, q⟩)
end
/-- e gives a thing whose items m tells -/
def SItems (G : Gx) (X : Cx) (e : Expr) (m : M (List W)) : Prop := ∀ Wx, Takes X Wx → PE X e (rd X.K G Wx (ColRel X.K) m)
def mItems (m : M W) : M (List W) := fun e h => (m e h).bnd fun w h => match sqA w h with
  | some xs => if xs.length ≤ 16777216 then .ok xs h else .bad
  | none => .bad
def rgW (lo hi : Int) : List W := (List.range (hi - lo).toNat).map fun i : Nat => W.int (lo + i)
def rgOkB (lo hi : Int) : Bool := decide (-(2 ^ 62) ≤ lo) && decide (lo < 2 ^ 62) && decide (-(2 ^ 62) ≤ hi) && decide (hi < 2 ^ 62) && decide ((hi - lo).toNat ≤ 16777216)
section
variable {G : Gx} {X : Cx} {e : Expr} {m : M W} {pos p : Pos}
theorem sit_seq (he : SE G X e m) : SItems G X e (mItems m) := fun Wx tk => (he Wx tk).imp fun σ H Q p => rd.bnd (Rel := VRel X.K) p fun H0 ρ0 e sr x H1 ρ1 h1 wx x1 r1 vx p1 => by
  split at p1
  · rename_i xs hx
    split at p1
    · rename_i hl
      obtain ⟨a, vs, rfl, q, z⟩ := sqA_ok r1 vx hx
      refine p1 ρ1 H1 _ (Ext.refl r1) r1 ⟨vs, ⟨a, rfl, ?_⟩, z, hl⟩
      rcases q with q | q
      · exact .inl q
      · exact .inr (.inl q)
    · exact p1.elim
  · exact p1.elim
theorem rgOkB_ok {lo hi : Int} (h : rgOkB lo hi = true) : -(2 ^ 62) ≤ lo ∧ lo < 2 ^ 62 ∧ -(2 ^ 62) ≤ hi ∧ hi < 2 ^ 62 ∧ (hi - lo).toNat ≤ 16777216 := by
  unfold rgOkB at h
  simp only [Bool.and_eq_true, decide_eq_true_eq] at h
  obtain ⟨⟨⟨⟨a, b⟩, c⟩, d⟩, e⟩ := h
  exact ⟨a, b, c, d, e⟩
theorem rg_vrs {K : PySem.W.Frag} {H : Hp} {ρ : List Addr} {lo : Int} : ∀ l : List Nat, VRs K H ρ (l.map fun i : Nat => V.int (lo + i)) (l.map fun i : Nat => W.int (lo + i))
  | [] => .nil
  | n :: ns => .cons vr_int (rg_vrs ns)
end
/-! ### sorted -/
section
variable {X : Cx} {pins : List (Addr × Obj)} {σ : L2.St} {H : Hp} {s : Shared}
/-- behind a call that laid a new list at a -/
theorem inv_newList {s' : Shared} {a : Addr} {xs : List V} {out : List Value} {c : Nat} (I : Inv X pins σ H s) (k : Kp s.heap s'.heap) (g : AllBare s'.gens) (o : s'.os = s.os) (ha : s.heap.objs.size ≤ a) (e : s'.heap.get? a = some (seqObj "list" out.toArray c)) (r : Vals xs out) (hz : xs.length ≤ sizeLine) :
    Inv X pins σ (upd H a (.lst xs)) s' := by
  have new : ObjOk X.prog X.w (upd H a (.lst xs)) s'.heap a (.lst xs) := ⟨hz, out, c, r, e⟩
  exact I.call' (ch := []) o (Un.laid k ha (I.hok.fresh ha)) (I.hok.laid k ha new) g fun b hb => absurd hb (by simp)
theorem each_and {α β : Type} {R S : α → β → Prop} : ∀ {as : List α} {bs : List β}, EachIs R as bs → EachIs S as bs → EachIs (fun a b => R a b ∧ S a b) as bs
  | _, _, .nil, _ => .nil
  | _, _, .cons r h, q => by
    cases q with
    | cons s t => exact .cons ⟨r, s⟩ (each_and h t)
end
section
variable {G : Gx} {X : Cx} {e : Expr} {m : M W} {mit : M (List W)} {pos p : Pos}
def mSorted (mit : M (List W)) : M W := fun e h => (mit e h).bnd fun xs h => match mapO (dat h 7) xs with
  | some ds => if kindOk ds = true then .ok (.ref h.length) (h ++ [.lst (sortBy xs ds)]) else .bad
  | none => .bad
theorem mapO_len {α β : Type} {f : α → Option β} : ∀ {xs : List α} {ds : List β}, mapO f xs = some ds → xs.length = ds.length
  | [], ds, e => by cases e; rfl
  | x :: xs, ds, e => by
    unfold mapO at e
    split at e
    · split at e
      · rename_i ys hy
        cases e
        rw [List.length_cons, List.length_cons, mapO_len hy]
      · cases e
    · cases e
theorem se_sortedI (hi : SItems G X e mit) (hc : X.calm = true) (hu : X.A.units + 64 < cLine) (hg : Gl X "sorted") (hm : X.mg "sorted" = none) (hv : bootBuiltins "sorted" = some (.builtin "sorted") := by decide +kernel)
    (he : starEach [e] X.env = (false, eval e X.env) :: starEach [] X.env := by rfl) : SE G X (.Call (.Name "sorted" p) [e] [] pos) (mSorted mit) := fun Wx tk => by
  refine ⟨fun pins s σ H Q I h => ?_⟩
  refine wpAny_Call_Name_kw (ld_blt I hg hm hv ?_ (by decide) (by decide))
  refine PyProof.Rows.callWith_builtin1 ?_ he (by rfl)
  rw [he]
  have h2 := rd.bnd (Rel := ColRel X.K) (Q' := fun v H1 => ∃ ρ1 h1 ws, ColRel X.K H1 ρ1 v ws ∧ HR X.K G H1 ρ1 h1 ∧ Post X.K G (fun cls d H' => Wx cls d σ H') (VRel X.K) Q H1 ρ1 (match mapO (dat h1 7) ws with
    | some ds => if kindOk ds = true then .ok (.ref h1.length) (h1 ++ [.lst (sortBy ws ds)]) else .bad
    | none => .bad)) h fun H0 ρ0 e sr v H1 ρ1 h1 w x r q p1 => ⟨ρ1, h1, w, q, r, p1⟩
  refine Calls.spliced_cons (thn ((hi Wx tk).run pins s σ H _ I h2) fun u s1 ⟨v, H1, I1, rv, ρ1, h1, ws, ⟨xs, cv, vx, hlen⟩, r1, p1⟩ => Calls.spliced_nil ?_)
  split at p1
  · rename_i ds hd
    split at p1
    · rename_i hk
      have hdp := mapO_dp (fun v w d r e => dat_dp r1 7 v w d r e) vx hd
      have hlx := dpAll_len hdp
      refine sorted_coll (β := V × PyData) (Rel := fun u b => RelV b.1 u ∧ ∃ as, Reads s1.heap u b.2 as) (enc := Prod.snd) (Ok := fun bs => bs = xs.zip ds) (fun Q' E' hq => ?_) (args_sorted1 _) (fun bs ok => ?_) (fun hh v b k q => ?_) fun s' out c a bs ok k g o ha e1 er => ?_
      · refine colv_coll I1 rv cv (A := X.A.in1) (I1.ok.hd hc) Q' E' fun s' vs k g o r => hq s' vs k g o ⟨_, rfl, ?_⟩
        obtain ⟨as, rd⟩ := Dp.readsAll I1 ds xs vs hdp r
        have e1 := each_zip r hlx
        have e2 := each_reads hlx rd
        have := each_and e1 e2
        exact this
      · subst ok
        rw [zip_snd hlx]
        refine ⟨kindOk_alike hk, kindOk_sortable hk, by rw [List.length_zip]; exact Nat.le_trans (Nat.min_le_left _ _) (by rw [vx.length]; exact Nat.le_trans hlen small24), fun b hb => ?_⟩
        have := kindOk_depth hk b.2 (by rw [← zip_snd hlx]; exact List.mem_map_of_mem hb)
        omega
      · obtain ⟨as, q⟩ := q.2
        exact ⟨as, PyProof.Rows.Reads.keeps k q⟩
      · subst ok
        have e3 : Vals (sortBy xs ds) out := vals_each (er.mono fun _ _ q => q.1)
        refine ⟨.ref a, _, inv_newList I1 k g o ha e1 e3 (by rw [sortBy_length hlx, vx.length]; exact Nat.le_trans hlen small24), rfl, ?_⟩
        exact new_lst r1 (vrs_sortBy vx) p1 a (I1.hok.fresh ha)
    · exact p1.elim
  · exact p1.elim
end
end Den
set_option maxRecDepth 100000
set_option maxHeartbeats 2000000
/-! sorted(.., key=lambda x: e) as a rule. -/
namespace Den
open PySem L2 PyProof.Rows PySem.W LamX
theorem mapO_each {α β : Type} {f : α → Option β} : ∀ {xs : List α} {ds : List β}, mapO f xs = some ds → ∀ (i : Nat) (x : α), xs[i]? = some x → ∃ d, ds[i]? = some d ∧ f x = some d
  | [], ds, e, i, x, h => by simp at h
  | y :: xs, ds, e, i, x, h => by
    unfold mapO at e
    split at e
    · rename_i d hd
      split at e
      · rename_i ys hy
        cases e
        cases i with
        | zero =>
          have : y = x := by simpa using h
          subst this
          exact ⟨d, rfl, hd⟩
        | succ i =>
          obtain ⟨d', h1, h2⟩ := mapO_each hy i x (by simpa using h)
          exact ⟨d', by simpa using h1, h2⟩
      · cases e
    · cases e
section
variable {X : Cx} {G : Gx} {pins : List (Addr × Obj)} {σ : L2.St} {H : Hp} {s : Shared} {ρ : List Addr} {h : List O}
end
section
variable {G : Gx} {X : Cx} {e : Expr} {mit : M (List W)} {pos p kpos lpos : Pos}
end
end Den
set_option maxRecDepth 100000
set_option maxHeartbeats 2000000
/-! any, all, sum of a generator expression. -/
namespace Den
open PySem L2 PyProof.Rows PySem.W LamX
/-- u can be walked: n turns, Pf tells the items -/
structure Wk (P : Program) (w : World) (s1 : Shared) (u : Value) (n : Nat) (Pf : Nat → Value → Prop) : Prop where
  run : ∀ (A : Around) (Q : Value → Shared → Prop) (E : Value → Shared → Prop), A.handled = none →
    (∀ (o : Obj) (fp : List Addr) (St : Nat → Heap → Prop), (∀ A' : Around, A'.handled = none → Walks P w A' s1.heap.objs.size (s1.heap.objs.size :: fp) [s1.heap.objs.size] n Pf St) → St 0 (s1.heap.push o) →
      (∀ b ∈ fp, ∃ ob, s1.heap.get? b = some ob ∧ ∀ fs, ob.data ≠ .fields fs) → Q (.ref s1.heap.objs.size) { s1 with heap := s1.heap.push o }) → wpAny (model P w) A (pyIter u) Q E s1
section
variable {P : Program} {w : World} {s1 : Shared}
theorem wk_list {l : Addr} {vs : List Value} (hl : s1.heap.IsList l vs.toArray) : Wk P w s1 (.ref l) vs.length (fun i v => vs[i]? = some v) := ⟨fun A Q E hA h => by
  obtain ⟨ob, hob, hc, hx, m, hd⟩ := (show ∃ ob, s1.heap.get? l = some ob ∧ ob.cls = .type "list" ∧ True ∧ ∃ m, ob.data = .seq vs.toArray m from by
    obtain ⟨ob, hob, hc, m, hd⟩ := hl
    exact ⟨ob, hob, hc, trivial, m, hd⟩)
  have hne : l ≠ s1.heap.objs.size := Nat.ne_of_lt (Heap.lt_size hob)
  refine wpAny_pyIter_list hl (h _ [l] (fun i h => h.IsListIter s1.heap.objs.size l i ∧ h.IsList l vs.toArray) (fun A' hA' => ?_) ⟨⟨_, Heap.get?_push_size _ rfl, rfl, rfl⟩, ?_⟩ fun b hb => ?_)
  · have W := Walks.list (prog := P) (w := w) (A := A') hA' s1.heap.objs.size l hne vs.toArray
    have e : (fun (i : Nat) (v : Value) => vs.toArray[i]? = some v) = fun i v => vs[i]? = some v := by funext i v; simp
    rw [List.size_toArray, e] at W
    exact W
  · obtain ⟨o2, h2, r⟩ := hl
    exact ⟨o2, Heap.get?_push_of_some _ h2, r⟩
  · have : b = l := by simpa using hb
    rw [this]
    exact ⟨ob, hob, fun fs z => by rw [hd] at z; cases z⟩⟩
theorem wk_tup {l : Addr} {vs : List Value} (hl : IsTup s1.heap l vs.toArray) : Wk P w s1 (.ref l) vs.length (fun i v => vs[i]? = some v) := ⟨fun A Q E hA h => by
  obtain ⟨ob, hob, hc, m, hd⟩ := id hl
  have hne : l ≠ s1.heap.objs.size := Nat.ne_of_lt (Heap.lt_size hob)
  refine wpAny_pyIter_tuple (items := vs.toArray) hl (h _ [l] (fun i h => h.IsTupleIter s1.heap.objs.size l i ∧ h.IsTuple l vs.toArray) (fun A' hA' => ?_) ⟨⟨_, Heap.get?_push_size _ rfl, rfl, rfl⟩, ?_⟩ fun b hb => ?_)
  · have W := Walks.tuple (prog := P) (w := w) (A := A') hA' s1.heap.objs.size l hne vs.toArray
    have e : (fun (i : Nat) (v : Value) => vs.toArray[i]? = some v) = fun i v => vs[i]? = some v := by funext i v; simp
    rw [List.size_toArray, e] at W
    exact W
  · exact ⟨ob, Heap.get?_push_of_some _ hob, hc, m, hd⟩
  · have : b = l := by simpa using hb
    rw [this]
    exact ⟨ob, hob, fun fs z => by rw [hd] at z; cases z⟩⟩
theorem wk_rng {r : Addr} {lo hi : Int} (hr : ∃ t u v, s1.heap.get? r = some { cls := .type "range", data := .fields #[.int lo t, .int hi u, .int 1 v] }) (h1 : -(2 ^ 62) ≤ lo) (h0 : lo < 2 ^ 62) (h2 : -(2 ^ 62) ≤ hi) (h4 : hi < 2 ^ 62) :
    Wk P w s1 (.ref r) (hi - lo).toNat (fun i v => ∃ t, v = .int (lo + i) t) := ⟨fun A Q E hA h => by
  obtain ⟨t, u, v, hr⟩ := hr
  refine wpAny_pyIter_range (a := lo) (b := hi) (c := 1) (t := t) (u := u) (v := v) hr (PySem.small_one h1 h0 h2 h4) (h _ [] (fun i h => IsRangeIter h s1.heap.objs.size (lo + (i : Nat) * 1) (((hi - lo).toNat : Int) - (i : Nat)) 1) (fun A' hA' => ?_) ?_ fun b hb => by cases hb)
  · have W := Walks.range (prog := P) (w := w) (A := A') hA' s1.heap.objs.size lo 1 (hi - lo).toNat
    have e : (fun (i : Nat) (v : Value) => ∃ t, v = .int (lo + i * 1) t) = fun i v => ∃ t, v = .int (lo + i) t := by funext i v; rw [Int.mul_one]
    rw [e] at W
    exact W
  · refine (Heap.get?_push_size _ rfl).trans ?_
    rw [PyProof.Rows.rangeSize_nat]
    simp⟩
theorem wk_str {x : Str} {t : Tok} : Wk P w s1 (.str x t) x.cps.size (SignAt x) := ⟨fun A Q E hA h => wpAny_pyIter_str fun o St W st => h o [] St W st fun b hb => by cases hb⟩
end
/-! ### generators of plain elements -/
/-- the generator's own scope -/
structure GenP (sc scope : Scope) (x : Str) : Prop where
  kind : scope.kind = .function
  co : scope.isCoroutine = false
  cell : ∀ y ∈ scope.names, y.2 ≠ .cell
  dot : scope.names.lookup (".0" : Str) = some NameKind.local
  loc : scope.names.lookup x = some .local
  own : ∀ y, scope.names.lookup y = some .local → y = x ∨ y = ".0"
  free : ∀ y ∈ scope.names, y.2 = .free → sc.names.lookup y.1 = some .cell ∨ sc.names.lookup y.1 = some .free
def genPB (sc scope : Scope) (x : Str) : Bool :=
  decide (scope.kind = .function) && !scope.isCoroutine && decide (scope.names.lookup (".0" : Str) = some .local) && decide (scope.names.lookup x = some .local) &&
    scope.names.all fun y => !decide (y.2 = .cell) && (!decide (y.2 = .local) || decide (y.1 = x) || decide (y.1 = ".0")) && (!decide (y.2 = .free) || decide (sc.names.lookup y.1 = some .cell) || decide (sc.names.lookup y.1 = some .free))
theorem genP_by {sc scope : Scope} {x : Str} (h : genPB sc scope x = true) : GenP sc scope x := by
  unfold genPB at h
  simp only [Bool.and_eq_true, Bool.or_eq_true, Bool.not_eq_true', decide_eq_true_eq, decide_eq_false_iff_not, List.all_eq_true] at h
  obtain ⟨⟨⟨⟨h1, h2⟩, h3⟩, h4⟩, h5⟩ := h
  refine ⟨h1, h2, fun y hy => (h5 y hy).1.1, h3, h4, fun y hy => ?_, fun y hy e => ?_⟩
  · have hm := PySem.mem_of_lookup hy
    rcases (h5 _ hm).1.2 with (z | z) | z
    · exact absurd rfl z
    · exact .inl z
    · exact .inr z
  · rcases (h5 y hy).2 with (z | z) | z
    · exact absurd e z
    · exact .inl z
    · exact .inr z
/-- a scalar -/
def ScV (v : Value) : W → Prop
  | .bl b => v = .bool b
  | .int i => ∃ t, v = .int i t
  | _ => False
def isSc : W → Bool
  | .bl _ => true
  | .int _ => true
  | _ => false
theorem scv_of {h : Heap} {v : Value} {w : W} (e : isSc w = true) (x : WV h v w) : ScV v w := by
  cases w with
  | bl b => exact x.bl
  | int i => exact x.int
  | _ => cases e
/-- the elements -/
def eltOf (h : List O) (e : Env) (slot : Nat) (melt : M W) (w : W) : Option W := match frz h 6 w with
  | some fw => match melt ((frzE h e).set slot (some fw)) [] with
    | .ok z _ => if isSc z = true then some z else none
    | _ => none
  | none => none
/-- what is walked: its items -/
def GcV (K : PySem.W.Frag) (H : Hp) (v : V) (xs : List V) : Prop := ColV K H v xs ∨ ∃ z : List Nat, v = .str (mkS z) ∧ xs = z.map fun c => V.str (mkS [c])
theorem GcV.ext {K : PySem.W.Frag} {H H' : Hp} {v : V} {xs : List V} (c : GcV K H v xs) (e : ExtN H H') : GcV K H' v xs := c.imp (fun c => c.ext e) id
section
variable {X : Cx} {pins : List (Addr × Obj)} {σ : L2.St} {H : Hp} {s : Shared}
theorem gcv_wk (I : Inv X pins σ H s) {v : V} {u : Value} {xs : List V} (r : RelV v u) (c : GcV X.K H v xs) : ∃ Pf : Nat → Value → Prop, Wk X.prog X.w s u xs.length Pf ∧ ∀ i y, Pf i y → ∃ x, xs[i]? = some x ∧ RelV x y := by
  rcases c with ⟨a, rfl, c⟩ | ⟨z, rfl, rfl⟩
  · cases r
    rcases c with c | c | ⟨lo, hi, c, h1, h2, h3, h4, h5, rfl⟩
    · obtain ⟨its, rv, pl, hz⟩ := I.list c
      refine ⟨_, by rw [rv.length]; exact wk_list pl.isList, fun i y hy => ?_⟩
      have hl : i < xs.length := by rw [rv.length]; exact (List.getElem?_eq_some_iff.mp hy).1
      obtain ⟨u, e1, e2⟩ := rv.get (List.getElem?_eq_getElem hl)
      rw [hy] at e1
      cases e1
      exact ⟨_, List.getElem?_eq_getElem hl, e2⟩
    · obtain ⟨its, rv, pl, hz⟩ := I.tuple c
      refine ⟨_, by rw [rv.length]; exact wk_tup pl, fun i y hy => ?_⟩
      have hl : i < xs.length := by rw [rv.length]; exact (List.getElem?_eq_some_iff.mp hy).1
      obtain ⟨u, e1, e2⟩ := rv.get (List.getElem?_eq_getElem hl)
      rw [hy] at e1
      cases e1
      exact ⟨_, List.getElem?_eq_getElem hl, e2⟩
    · have hr := I.hok a _ c
      have W := wk_rng (P := X.prog) (w := X.w) (s1 := s) hr h1 h2 h3 h4
      have hlen : (rgVs lo hi).length = (hi - lo).toNat := by unfold rgVs; simp
      refine ⟨fun i v => i < (hi - lo).toNat ∧ ∃ t, v = .int (lo + i) t, ?_, fun i y ⟨hi', t, e⟩ => ⟨.int (lo + i), by unfold rgVs; rw [List.getElem?_map, List.getElem?_range hi']; rfl, t, e⟩⟩
      rw [hlen]
      refine ⟨fun A Q E hA h => W.run A Q E hA fun o fp St Wl st hfp => h o fp St (fun A' hA' => ?_) st hfp⟩
      have W1 := Wl A' hA'
      exact ⟨W1.sub, W1.frame, fun i s Q E hi st q => W1.item i s Q E hi st fun v h' tk p => q v h' tk ⟨hi, p⟩, W1.done, W1.self⟩
  · obtain ⟨t, rfl⟩ := r
    have hlen : (z.map fun c => V.str (mkS [c])).length = (mkS z).cps.size := by simp
    refine ⟨_, by rw [hlen]; exact wk_str, fun i y hy => ?_⟩
    obtain ⟨c, u, h1, h2⟩ := hy
    have h1 : z[i]? = some c := by simpa using h1
    exact ⟨.str (mkS [c]), by rw [List.getElem?_map, h1]; rfl, u, by rw [h2]⟩
end
/-- a generator at g whose elements zs are, in the state s5; H1: what was held before -/
def GReady (X : Cx) (pins : List (Addr × Obj)) (σ : L2.St) (T : List (Addr × Str)) (H1 : Hp) (zs : List W) (g : Addr) (s5 : Shared) : Prop :=
  ∃ (fp wr : List Addr) (Gs : Array GenState → Array GenState → Prop) (F : Nat → Value → Prop) (St : Nat → Shared → Prop),
    WalksS X.prog X.w X.A.in1 g fp wr Gs zs.length F St ∧ St 0 s5 ∧ (∀ b ∈ fp, b < s5.heap.objs.size) ∧ (∀ j v, F j v → ∃ z, zs[j]? = some z ∧ ScV v z) ∧
    ∀ s', Moved wr Gs s5 s' → ∃ H2, ExtN H1 H2 ∧ Tabs T H2 ∧ Inv X pins σ H2 s'
section
variable {X : Cx} {pins : List (Addr × Obj)} {σ : L2.St} {H1 : Hp} {s1 : Shared} {G : Gx}
/-- behind the making of the generator's code object: it was in the table, or it is new -/
theorem tab_fin {T : List (Addr × Str)} {P : Addr} {q : Str} {ps ps' : Array Value} (I1 : Inv X pins σ H1 s1) (hT : Tabs T H1) (hu : ∀ p ∈ T, p.1 = P → p.2 = q) (hP : H1 P = some (.tbl ps)) (ht : TriplesOk ps.toList)
    (ha : ∀ (pos : Pos) (cv : Value), codeAmong pos ps.toList = some cv → ∃ c, cv = .ref c ∧ H1 c = some (CodeO c q)) {h3 : Heap}
    (hps : ps' = ps ∨ ∃ (pos : Pos) (c' : Addr), ps' = ps ++ #[rawInt pos.line, rawInt pos.col, .ref c'] ∧ s1.heap.objs.size < c' ∧ c' < h3.objs.size ∧ h3.CodeRec (.ref c') q)
    {s' : Shared} (k : ∀ b o, b ≠ P → s1.heap.get? b = some o → s'.heap.get? b = some o) (hm : s'.heap.get? P = some { cls := .none, data := .fields ps' }) (k3 : ∀ b o, b < h3.objs.size → s1.heap.objs.size < b → h3.get? b = some o → s'.heap.get? b = some o) (hb : AllBare s'.gens) (ho : s'.os = s1.os) :
    ∃ H2, ExtN H1 H2 ∧ Tabs T H2 ∧ Inv X pins σ H2 s' := by
  rcases hps with e | ⟨pos, c', e, hgt, hlt, c2, oc, vs, t, e2, hoc, hd, hv⟩
  · refine ⟨H1, ExtN.refl H1, hT, ?_⟩
    have kp : Kp s1.heap s'.heap := fun b o z => by
      by_cases hbP : b = P
      · have h1 := I1.hok P _ hP
        have h1 : s1.heap.get? P = some { cls := .none, data := .fields ps } := h1
        rw [hbP, h1] at z
        cases z
        rw [hbP, hm, e]
      · exact k b o hbP z
    exact I1.call' (ch := []) ho (Un.kept kp) (I1.hok.kept kp) hb fun b z => absurd z (by simp)
  · cases e2
    have hge := Nat.le_of_lt hgt
    have nC : H1 c' = none := I1.hok.fresh hge
    have hPl : P < s1.heap.objs.size := I1.hok.lt hP
    have hcP : c' ≠ P := Nat.ne_of_gt (Nat.lt_of_lt_of_le hPl hge)
    have hoc' := k3 c' oc hlt hgt hoc
    have I2 := inv_table (h' := s'.heap) (t' := s'.toks) (c := c') (q := q) (more := #[rawInt pos.line, rawInt pos.col, .ref c']) I1 hP k (by rw [← e]; exact hm) hge ⟨oc, vs, t, hoc', hd, hv⟩
    have hE : ExtN H1 (upd (upd H1 P (.tbl (ps ++ #[rawInt pos.line, rawInt pos.col, .ref c']))) c' (CodeO c' q)) := fun b o e n => by
      rw [upd_ne (ne_of_none e nC), upd_ne (fun z => n ps (Option.some.inj (e.symm.trans (by rw [z]; exact hP))))]
      exact e
    have eL : (ps ++ #[rawInt pos.line, rawInt pos.col, .ref c']).toList = ps.toList ++ [rawInt pos.line, rawInt pos.col, .ref c'] := by simp
    refine ⟨_, hE, fun p hp => ?_, I2.call' (ch := []) ho (Un.kept fun _ _ z => z) (I2.hok.kept fun _ _ z => z) hb fun b z => absurd z (by simp)⟩
    by_cases hb2 : p.1 = P
    · rw [hu p hp hb2, hb2]
      refine ⟨_, by rw [upd_ne (ne_of_none hP nC), upd_same], by rw [eL]; exact PySem.TriplesOk_snoc _ _ _ _ ht, fun p' cv hcv => ?_⟩
      rw [eL] at hcv
      rcases among_app _ ht hcv with z | z
      · obtain ⟨c0, e1, e2⟩ := ha p' cv z
        exact ⟨c0, e1, hE _ _ e2 codeO_ne⟩
      · exact ⟨c', z, upd_same⟩
    · obtain ⟨ps', a1, a2, a3⟩ := hT p hp
      refine ⟨ps', by rw [upd_ne (ne_of_none a1 nC), upd_ne hb2]; exact a1, a2, fun p' cv hcv => ?_⟩
      obtain ⟨c0, e1, e2⟩ := a3 p' cv hcv
      exact ⟨c0, e1, hE _ _ e2 codeO_ne⟩
end
section
variable {X : Cx} {pins : List (Addr × Obj)} {σ : L2.St} {H : Hp} {s : Shared} {G : Gx}
/-- the frozen frame of the generator -/
theorem gen_pxok {scope : Scope} {x : Str} {slot : Nat} {ev : Env} {fw : W} {v : Value} {env : PySem.Env} {h₁ : Heap} {m : Str → Option Value} {ρ : List Addr} {h : List O} (I : Inv X pins σ H s) (hr : HR X.K G H ρ h) (sr : SR X.K H ρ σ ev) (L : GenP X.env.scope scope x) (hN : X.N.Nodup) (hi : X.N[slot]? = some x) (hd : (".0" : Str) ∉ X.N) (hv : WV h₁ v fw)
    (e1 : env.scope = scope) (e2 : env.cells = cloFrom X.env.cells scope.names []) (e3 : env.globals = mainGlobals) (e4 : env.builtins = builtinsNs) (k : ∀ b o, H b = none → s.heap.get? b = some o → h₁.get? b = some o) (hwm : ∀ u w, WV s.heap u w → WV h₁ u w) (hn : h₁.Ns env.locals m) (hm : m x = some v) :
    PxOk X.K X.mg X.N env h₁ ((frzE h ev).set slot (some fw)) := by
  have kb : ∀ b o, X.base.get? b = some o → h₁.get? b = some o := fun b o e => k b o (I.bs b o e).2 (I.bs b o e).1
  refine ⟨I.ok.mod.kin.keeps kb, by rw [e1]; exact L.kind, by rw [e3]; exact I.mod.glob.keeps kb, ?_, fun i y w hy hw hvis => ?_⟩
  · obtain ⟨mb, h1, h2⟩ := I.mod.blt
    exact ⟨mb, by rw [e4]; exact h1.keeps kb, h2⟩
  · rw [e1] at hvis
    have hki : ∀ y, env.kindOf y = scope.names.lookup y := fun y => by show env.scope.names.lookup y = _; rw [e1]
    by_cases his : slot = i
    · subst his
      rw [hi] at hy
      cases hy
      have hw2 : w = fw := by
        by_cases hl : slot < (frzE h ev).length
        · rw [List.getElem?_set_self hl] at hw
          exact (Option.some.inj (Option.some.inj hw)).symm
        · rw [List.getElem?_eq_none (by simpa using hl)] at hw; cases hw
      subst hw2
      exact ⟨v, hv, .inl ⟨by rw [hki]; exact L.loc, _, hn, hm⟩⟩
    · rw [List.getElem?_set_ne his] at hw
      have hyx : y ≠ x := fun z => by
        subst z
        obtain ⟨h1, q1⟩ := List.getElem?_eq_some_iff.mp hi
        obtain ⟨h2, q2⟩ := List.getElem?_eq_some_iff.mp hy
        exact his ((List.getElem_inj hN).mp (q1.trans q2.symm))
      have hyd : y ≠ (".0" : Str) := fun z => hd (by rw [← z]; exact List.mem_of_getElem? hy)
      have hf : scope.names.lookup y = some .free := by
        rcases hvis with z | z | z
        · rcases L.own y z with z | z
          · exact absurd z hyx
          · exact absurd z hyd
        · exact absurd rfl (L.cell _ (PySem.mem_of_lookup z))
        · exact z
      unfold frzE at hw
      rw [List.getElem?_map] at hw
      cases he : ev[i]? with
      | none => rw [he] at hw; cases hw
      | some ow =>
        rw [he] at hw
        cases ow with
        | none => simp at hw
        | some w0 =>
          have hw : frz h 6 w0 = some w := by simpa using hw
          obtain ⟨v0, hv0, r0⟩ := sr.at_ i w0 he
          have hX : Vis X.env.scope y := (L.free _ (PySem.mem_of_lookup hf) rfl).elim (fun z => .inr (.inl z)) fun z => .inr (.inr z)
          obtain ⟨m, hm, hl⟩ := I.loc
          obtain ⟨u, ru, q⟩ := hl i y v0 hy hv0 hX
          have hwv := frz_wv I hr 6 v0 u w0 w r0 ru hw
          refine ⟨u, hwm u w hwv, .inr ⟨by rw [hki]; exact hf, ?_⟩⟩
          rcases q with ⟨z, _⟩ | ⟨_, c, hc, hcell⟩
          · have z : X.env.scope.names.lookup y = some .local := z
            rcases L.free _ (PySem.mem_of_lookup hf) rfl with z2 | z2 <;> rw [show X.env.scope.names.lookup y = _ from z2] at z <;> cases z
          · obtain ⟨c2, h2⟩ := mem_lookup (cloFrom_has (cells := X.env.cells) (acc := []) (PySem.mem_of_lookup hf))
            have e5 : c2 = c := by
              rcases cloFrom_mem (PySem.mem_of_lookup h2) with hm | ⟨h3, h4⟩
              · cases hm
              · rw [h4, hc] <;> rfl
            subst e5
            obtain ⟨oc, q1, q2⟩ := hcell
            exact ⟨c2, by rw [e2]; exact h2, oc, k _ _ (I.freeC y c2 hc) q1, q2⟩
mutual
theorem WV.tab {P : Addr} {h h' : Heap} (k : ∀ b o, b ≠ P → h.get? b = some o → h'.get? b = some o) (hP : ∀ o, h.get? P = some o → ∃ fs, o.data = .fields fs) : ∀ {v : Value} {w : W}, WV h v w → WV h' v w
  | v, .non, x => x
  | v, .bl _, x => x
  | v, .int _, x => x
  | v, .str _, x => x
  | v, .tup xs, x => by
    unfold WV at x ⊢
    obtain ⟨a, vs, e, ⟨o, p, c, n, q⟩, z, r⟩ := x
    have hne : a ≠ P := fun z => by
      subst z
      obtain ⟨fs, h1⟩ := hP o p
      rw [h1] at q; cases q
    exact ⟨a, vs, e, ⟨o, k _ _ hne p, c, n, q⟩, z, WVs.tab k hP r⟩
  | v, .rol xs, x => by
    unfold WV at x ⊢
    obtain ⟨a, vs, e, ⟨o, p, c, n, q⟩, z, r⟩ := x
    have hne : a ≠ P := fun z => by
      subst z
      obtain ⟨fs, h1⟩ := hP o p
      rw [h1] at q; cases q
    exact ⟨a, vs, e, ⟨o, k _ _ hne p, c, n, q⟩, z, WVs.tab k hP r⟩
  | v, .ref n, x => x
theorem WVs.tab {P : Addr} {h h' : Heap} (k : ∀ b o, b ≠ P → h.get? b = some o → h'.get? b = some o) (hP : ∀ o, h.get? P = some o → ∃ fs, o.data = .fields fs) : ∀ {v : List Value} {w : List W}, WVs h v w → WVs h' v w
  | v, [], x => x
  | v, w :: ws, x => by
    unfold WVs at x ⊢
    obtain ⟨u, r, e, p, q⟩ := x
    exact ⟨u, r, e, WV.tab k hP p, WVs.tab k hP q⟩
end
theorem gen_px {c P : Addr} {elt iter : Expr} {x : Str} {px gpos : Pos} {scope : Scope} {slot k : Nat} {te : TE} {melt : M W} {Q' : Value → Shared → Prop} {R : List W → Hp → Prop}
    (hr : Room k X.A) (TB : TabB X.base X.mg c P) (hcode : X.env.code = .ref c) (hmT : (P, X.env.qual ++ "<genexpr>") ∈ G.T) (huT : ∀ p ∈ G.T, p.1 = P → p.2 = X.env.qual ++ "<genexpr>") (L : GenP X.env.scope scope x) (hN : X.N.Nodup) (hx : X.N[slot]? = some x) (hd : (".0" : Str) ∉ X.N)
    (hi : PE X iter te) (hel : SP X.K X.mg X.N scope elt melt) (hs : ∀ v, genFold iter X.env v = pure v) (I : Inv X pins σ H s)
    (h : te σ H fun v H1 => ∃ ρ1 h1 ev ws zs xs, GcV X.K H1 v xs ∧ VRs X.K H1 ρ1 xs ws ∧ HR X.K G H1 ρ1 h1 ∧ SR X.K H1 ρ1 σ ev ∧ mapO (eltOf h1 ev slot melt) ws = some zs ∧ R zs H1)
    (hQ : ∀ zs H1 g s5, R zs H1 → GReady X pins σ G.T H1 zs g s5 → Q' (.ref g) s5) :
    wpAny (model X.prog X.w) X.A (eval (.GeneratorExp elt [⟨.Name x px, iter, [], 0⟩] scope gpos) X.env) Q' X.xe s := by
  have hfree : ∀ y ∈ scope.names, y.2 = .free → ∃ c, X.env.cells.lookup y.1 = some c := fun y hy e => by
    rcases L.free y hy e with z | z
    · exact I.ok.has _ (.inl z)
    · exact I.ok.has _ (.inr z)
  refine wpAny_GeneratorExp_walksQ hr.hd L.co (closure_ok hfree) L.cell L.dot L.loc L.kind (by have := hr.dp; omega) ?_ hs
  refine thn (hi.run pins s σ H _ I h) fun xv s1 ⟨v, H1, I1, r1, ρ1, h1, ev, ws, zs, xs, gc, vx, hr1, sr1, hzs, q1⟩ => ?_
  obtain ⟨Pf, wk, hPf⟩ := gcv_wk I1 r1 gc
  have hlx : xs.length = ws.length := vx.length
  have hlz : ws.length = zs.length := mapO_len hzs
  refine wk.run _ _ _ hr.hd fun o fp St W hst hfp => ?_
  obtain ⟨ps, hP, ht, ha⟩ := hr1.tb _ hmT
  have hPs : s1.heap.get? P = some { cls := .none, data := .fields ps } := I1.hok P _ hP
  have hPlt : P < s1.heap.objs.size := Heap.lt_size hPs
  have hP2 : (s1.heap.push o).get? P = some { cls := .none, data := .fields ps } := Heap.get?_push_of_some _ hPs
  have cd : PySem.W.CodeHd (s1.heap.push o) c P := TB.code.keeps fun b u e => Heap.get?_push_of_some _ (I1.bk b u e)
  have lim2 : (s1.heap.push o).NoLimit := I1.nolimit.push o
  have hfpP : ∀ b ∈ fp, b ≠ P := fun b hb z => by
    obtain ⟨ob, h1, h2⟩ := hfp b hb
    rw [z, hPs] at h1
    cases h1
    exact h2 _ rfl
  have hfpl : ∀ b ∈ fp, b < s1.heap.objs.size := fun b hb => by
    obtain ⟨ob, h1, h2⟩ := hfp b hb
    exact Heap.lt_size h1
  have cont : ∀ (code : Value) (h3 : Heap) (tk : Nat) (ps' : Array Value), Heap.ExtBut P (s1.heap.push o) h3 → (s1.heap.push o).objs.size ≤ h3.objs.size → h3.get? P = some { cls := .none, data := .fields ps' } →
      (ps' = ps ∨ ∃ (pos : Pos) (c' : Addr), ps' = ps ++ #[rawInt pos.line, rawInt pos.col, .ref c'] ∧ s1.heap.objs.size < c' ∧ c' < h3.objs.size ∧ h3.CodeRec (.ref c') (X.env.qual ++ "<genexpr>")) →
      wpAny (model X.prog X.w) X.A (builtinsFor X.env.globals X.env.builtins) (fun bi s₄ =>
        ∃ Ia fp wr n₀ Pf St₀ pz F, Value.ref s1.heap.objs.size = .ref Ia ∧ (∀ A' : Around, A'.handled = none → Walks X.prog X.w A' Ia fp wr n₀ Pf St₀) ∧ St₀ 0 s₄.heap ∧ (∀ b ∈ fp, b < s₄.heap.objs.size) ∧ s₄.heap.NoLimit ∧ cStatics ∉ wr ∧
          (∀ href : Heap, (∀ b o, s₄.heap.get? b = some o → href.get? b = some o) →
            QuietGen X.prog X.w (genEnv scope (cloFrom X.env.cells scope.names []) s₄.heap.objs.size code bi X.env) x [] elt (List.range s₄.heap.objs.size) wr Pf pz F href) ∧
          (∀ a h₅ tk gs, gs.bare = true → s₄.heap.objs.size < a → h₅.objs.size = a + 1 → (∀ b o, s₄.heap.get? b = some o → h₅.get? b = some o) →
            WalksS X.prog X.w X.A.in4 a (a :: s₄.heap.objs.size :: List.range s₄.heap.objs.size) (s₄.heap.objs.size :: wr) (GenOnlyQ s₄.gens.size) (passing pz n₀ 0).length
              (fun j y => ∃ i, (passing pz n₀ 0)[j]? = some i ∧ F i y) (GenAt X.prog X.w X.A.in4 a s₄.gens.size s₄.heap.objs.size (List.range s₄.heap.objs.size) wr pz n₀ F) →
            GenAt X.prog X.w X.A.in4 a s₄.gens.size s₄.heap.objs.size (List.range s₄.heap.objs.size) wr pz n₀ F 0 { s₄ with gens := s₄.gens.push gs, toks := tk, heap := h₅ } →
            Q' (.ref a) { s₄ with gens := s₄.gens.push gs, toks := tk, heap := h₅ })) X.xe { s1 with heap := h3, toks := tk } := by
    intro code h3 tk ps' hx3 hsz hP3 hps
    obtain ⟨bm, ob, e1, e2, e3, e4, e5, e6, e7, e8⟩ := TB.bm
    have hcP : cStatics ≠ P := fun e => by
      obtain ⟨_, hns, _⟩ := I1.nolimit
      obtain ⟨o', es, ep, ho, hd, _⟩ := hns
      rw [e, hPs] at ho
      cases ho
      cases hd
    have hcl : cStatics < s1.heap.objs.size := let ⟨_, hns, _⟩ := I1.nolimit; hns.lt
    have sz2 : (s1.heap.push o).objs.size = s1.heap.objs.size + 1 := Heap.size_push ..
    have keep3 : ∀ b u, b ≠ P → s1.heap.get? b = some u → h3.get? b = some u := fun b u hb e => hx3 b u hb (Heap.get?_push_of_some _ e)
    refine wpAny_builtinsFor (m := X.mg) (by rw [I1.ok.glob]; exact ((I1.mod.glob.keeps I1.bk).push o).extBut hx3 TB.gP) e1 e2 (keep3 _ _ e4 (I1.bk _ _ e5)) e6 e7 e8 ?_
    refine ⟨s1.heap.objs.size, s1.heap.objs.size :: fp, [s1.heap.objs.size], xs.length, Pf, St, (fun _ => true), (fun i y => ∃ z, zs[i]? = some z ∧ ScV y z), rfl, W, ?_, ?_, lim2.extBut hx3 hcP, ?_, ?_, ?_⟩
    · refine (W X.A hr.hd).frame _ _ _ hst fun b hb u e => hx3 b u (fun z => ?_) e
      rcases List.mem_cons.mp hb with z2 | z2
      · exact Nat.ne_of_lt hPlt (z.symm.trans z2)
      · exact hfpP b z2 z
    · intro b hb
      rcases List.mem_cons.mp hb with z | z
      · rw [z]
        show s1.heap.objs.size < h3.objs.size
        omega
      · have := hfpl b z
        show b < h3.objs.size
        exact Nat.lt_of_lt_of_le this (by omega)
    · intro z
      rcases List.mem_cons.mp z with z | z
      · exact Nat.ne_of_lt hcl z
      · cases z
    · intro href hhref
      refine ⟨fun A' E' i v s₂ m₂ hA hPv hn hm hk => ?_, fun A' E' i v s₂ m₂ hA hPv hp hn hm hk => ?_⟩
      · simp only [List.forIn_nil]
        exact wpAny_pure ⟨rfl, keeps_rfl _⟩
      · obtain ⟨xi, hxi, rxi⟩ := hPf i v hPv
        have hil : i < ws.length := by rw [← hlx]; exact (List.getElem?_eq_some_iff.mp hxi).1
        obtain ⟨v2, hv2, rv2⟩ := vx.get (List.getElem?_eq_getElem hil)
        rw [hxi] at hv2
        cases hv2
        obtain ⟨z, hz1, hz2⟩ := mapO_each hzs i _ (List.getElem?_eq_getElem hil)
        unfold eltOf at hz2
        split at hz2
        · rename_i fw hfw
          split at hz2
          · rename_i z' hh hz3
            split at hz2
            · rename_i hsc
              have ezz : z' = z := Option.some.inj hz2
              subst ezz
              have hbz := hel.br _ _ _ hz3
              subst hbz
              -- what the element's frame sees
              have kS2 : ∀ b u, b ≠ P → s1.heap.get? b = some u → s₂.heap.get? b = some u := fun b u hb e => by
                have hb3 := keep3 b u hb e
                have hlt3 : b < h3.objs.size := Heap.lt_size hb3
                refine hk b (List.mem_range.mpr hlt3) (fun z => ?_) u (hhref b u hb3)
                have z : b = s1.heap.objs.size := by simpa using z
                exact Nat.ne_of_lt (Heap.lt_size e) z
              have hwm : ∀ u w, WV s1.heap u w → WV s₂.heap u w := fun u w q => WV.tab kS2 (fun o2 e => by
                rw [hPs] at e
                cases e
                exact ⟨_, rfl⟩) q
              have hwv := frz_wv I1 hr1 6 _ _ _ _ rv2 rxi hfw
              have ok := gen_pxok (env := genEnv scope (cloFrom X.env.cells scope.names []) h3.objs.size code builtinsNs X.env) (m := m₂) I1 hr1 sr1 L hN hx hd (hwm _ _ hwv) rfl rfl I1.ok.glob rfl (fun b o2 hb e => kS2 b o2 (fun z => by rw [z, hP] at hb; cases hb) e) hwm hn hm
              exact wpAny_mono (hel.px X.prog X.w _ s₂.heap _ _ rfl ok hz3 A' E' s₂ (fun b o z => z)) (fun y s3 r => ⟨⟨z', hz1, scv_of hsc r.1⟩, r.2⟩) fun _ _ e => e
            · cases hz2
          · cases hz2
        · cases hz2
    · intro g h5 tk5 gs hgb hag hsz5 hk5 W5 hat
      simp only [GxR.passing_true, List.length_range] at W5
      have hn5 : xs.length = zs.length := by omega
      rw [hn5] at W5 hat
      refine hQ zs H1 g _ q1 ⟨_, _, _, _, _, W5.in4_1, hat, ?_, ?_, fun s' hm => ?_⟩
      · intro b hb
        show b < h5.objs.size
        have e5 : h5.objs.size = g + 1 := hsz5
        have h8 : h3.objs.size < g := hag
        rw [e5]
        rcases List.mem_cons.mp hb with z | z
        · rw [z]
          exact Nat.lt_succ_self g
        · rcases List.mem_cons.mp z with z | z
          · rw [z]
            exact Nat.lt_succ_of_lt h8
          · have z2 := List.mem_range.mp z
            have h7 : b < h3.objs.size := z2
            exact Nat.lt_succ_of_lt (Nat.lt_trans h7 h8)
      · intro j y hy
        obtain ⟨i, hij, z, hz, e⟩ := hy
        obtain ⟨hj, ej⟩ := List.getElem?_eq_some_iff.mp hij
        simp only [GxR.passing_true, List.getElem_range] at ej
        subst ej
        exact ⟨z, hz, e⟩
      · have nwr : ∀ b u, s1.heap.get? b = some u → b ∉ h3.objs.size :: [s1.heap.objs.size] := fun b u e hb => by
          have hl := Heap.lt_size e
          rcases List.mem_cons.mp hb with z | z
          · rw [z] at hl
            have h9 : (h3.objs.size : Nat) < s1.heap.objs.size := hl
            omega
          · rcases List.mem_cons.mp z with z | z
            · rw [z] at hl
              exact Nat.lt_irrefl _ hl
            · cases z
        refine tab_fin (h3 := h3) (s' := s') I1 hr1.tb huT hP ht ha hps (fun b u hb e => hm.heap b u (nwr b u e) (hk5 b u (keep3 b u hb e))) (hm.heap P _ (nwr P _ hPs) (hk5 P _ hP3)) (fun b o2 hl hg e => hm.heap b o2 (fun z => ?_) (hk5 b o2 e)) (AllBare.movedS (I1.bare.push hgb) hm) hm.os
        rcases List.mem_cons.mp z with z | z
        · rw [z] at hl
          exact Nat.lt_irrefl _ hl
        · rcases List.mem_cons.mp z with z | z
          · rw [z] at hg
            exact Nat.lt_irrefl _ hg
          · cases z
  refine ⟨lim2, ?_⟩
  have sz2 : (s1.heap.push o).objs.size = s1.heap.objs.size + 1 := Heap.size_push ..
  cases hf : codeAmong gpos ps.toList with
  | none =>
    refine wpAny_genexprCodeX hcode (cd.code hP2 ht) (cd.tab hP2) hf fun c' h' tk hx hge hlt hco' hrec htab' _ => ?_
    have hgt : s1.heap.objs.size < c' := Nat.lt_of_lt_of_le (by show s1.heap.objs.size < (s1.heap.push o).objs.size; omega) hge
    exact cont _ h' tk _ hx (Nat.le_trans hge (Nat.le_of_lt hlt)) htab'.2 (.inr ⟨gpos, c', rfl, hgt, hlt, hrec⟩)
  | some cv =>
    refine wpAny_genexprCode_hit hcode (cd.code hP2 ht) hf ?_
    exact cont cv (s1.heap.push o) s1.toks ps (Heap.ExtBut.refl _ _) (Nat.le_refl _) hP2 (.inl rfl)
end
/-! ### any, all, sum -/
abbrev GcRel (K : PySem.W.Frag) : Hp → List Addr → V → List W → Prop := fun H ρ v ws => ∃ xs, GcV K H v xs ∧ VRs K H ρ xs ws
def SGen (G : Gx) (X : Cx) (e : Expr) (m : M (List W)) : Prop := ∀ Wx, Takes X Wx → PE X e (rd X.K G Wx (GcRel X.K) m)
/-- the items of a value that may be a text -/
def mGItems (m : M W) : M (List W) := fun e h => (m e h).bnd fun w h => match w with
  | .str s => .ok (s.map fun c => .str [c]) h
  | w => match sqA w h with
    | some xs => .ok xs h
    | none => .bad
def bools : List W → Option (List Bool)
  | [] => some []
  | .bl b :: r => (bools r).map (b :: ·)
  | _ :: _ => none
def mGenB (any : Bool) (slot : Nat) (mit : M (List W)) (melt : M W) : M W := fun e h => (mit e h).bnd fun ws h => match mapO (eltOf h e slot melt) ws with
  | some zs => match bools zs with
    | some bs => .ok (.bl (if any = true then bs.any id else bs.all id)) h
    | none => .bad
  | none => .bad
section
variable {G : Gx} {X : Cx} {e : Expr} {m : M W} {mit : M (List W)} {pos p : Pos}
theorem sg_seq (he : SE G X e m) : SGen G X e (mGItems m) := fun Wx tk => (he Wx tk).imp fun σ H Q p => rd.bnd (Rel := VRel X.K) p fun H0 ρ0 e sr x H1 ρ1 h1 wx x1 r1 vx p1 => by
  split at p1
  · rename_i s
    rw [vx.str]
    refine p1 ρ1 H1 _ (Ext.refl r1) r1 ⟨_, .inr ⟨s, rfl, rfl⟩, ?_⟩
    clear p1 vx
    induction s with
    | nil => exact .nil
    | cons c s ih => exact .cons vr_str ih
  · split at p1
    · rename_i xs hx
      obtain ⟨a, vs, rfl, q, z⟩ := sqA_ok r1 vx hx
      refine p1 ρ1 H1 _ (Ext.refl r1) r1 ⟨vs, .inl ⟨a, rfl, ?_⟩, z⟩
      rcases q with q | q
      · exact .inl q
      · exact .inr (.inl q)
    · exact p1.elim
theorem bools_get : ∀ {zs : List W} {bs : List Bool}, bools zs = some bs → zs.length = bs.length ∧ ∀ (i : Nat) (b : W), zs[i]? = some b → ∃ c, bs[i]? = some c ∧ b = W.bl c
  | [], bs, e => by cases e; exact ⟨rfl, fun i b h => by simp at h⟩
  | .bl b :: r, bs, e => by
    unfold bools at e
    cases hr : bools r with
    | none => rw [hr] at e; cases e
    | some cs =>
      rw [hr] at e
      cases e
      obtain ⟨h1, h2⟩ := bools_get hr
      refine ⟨by simp [h1], fun i b' h => ?_⟩
      cases i with
      | zero =>
        have : W.bl b = b' := by simpa using h
        exact ⟨b, rfl, this.symm⟩
      | succ i =>
        obtain ⟨c, q1, q2⟩ := h2 i b' (by simpa using h)
        exact ⟨c, by simpa using q1, q2⟩
  | .non :: r, bs, e => by cases e
  | .int _ :: r, bs, e => by cases e
  | .str _ :: r, bs, e => by cases e
  | .tup _ :: r, bs, e => by cases e
  | .rol _ :: r, bs, e => by cases e
  | .ref _ :: r, bs, e => by cases e
theorem range_any (bs : List Bool) : (List.range bs.length).any (fun i => bs.getD i false) = bs.any id := by
  rw [Bool.eq_iff_iff, List.any_eq_true, List.any_eq_true]
  constructor
  · rintro ⟨i, hi, h⟩
    have hi := List.mem_range.mp hi
    rw [List.getD_eq_getElem?_getD, List.getElem?_eq_getElem hi] at h
    exact ⟨bs[i], List.getElem_mem hi, h⟩
  · rintro ⟨b, hb, h⟩
    obtain ⟨i, hi, e⟩ := List.getElem_of_mem hb
    refine ⟨i, List.mem_range.mpr hi, ?_⟩
    rw [List.getD_eq_getElem?_getD, List.getElem?_eq_getElem hi, e]
    exact h
theorem range_all (bs : List Bool) : (List.range bs.length).all (fun i => bs.getD i false) = bs.all id := by
  rw [Bool.eq_iff_iff, List.all_eq_true, List.all_eq_true]
  constructor
  · intro h b hb
    obtain ⟨i, hi, e⟩ := List.getElem_of_mem hb
    have := h i (List.mem_range.mpr hi)
    rw [List.getD_eq_getElem?_getD, List.getElem?_eq_getElem hi, e] at this
    exact this
  · intro h i hi
    have hi := List.mem_range.mp hi
    rw [List.getD_eq_getElem?_getD, List.getElem?_eq_getElem hi]
    exact h _ (List.getElem_mem hi)
theorem se_genB {any : Bool} {nm : Str} {c P : Addr} {elt iter : Expr} {x : Str} {px gpos : Pos} {scope : Scope} {slot k : Nat} {melt : M W} (hn : (any = true ∧ nm = "any") ∨ (any = false ∧ nm = "all"))
    (hi : SGen G X iter mit) (hr : Room k X.A) (hg : Gl X nm) (hm : X.mg nm = none) (hN : X.N.Nodup) (hx : X.N[slot]? = some x) (hd : (".0" : Str) ∉ X.N) (TB : TabB X.base X.mg c P) (hcode : X.env.code = .ref c) (hmT : (P, X.env.qual ++ "<genexpr>") ∈ G.T) (huT : ∀ p ∈ G.T, p.1 = P → p.2 = X.env.qual ++ "<genexpr>")
    (L : GenP X.env.scope scope x) (hel : SP X.K X.mg X.N scope elt melt) (hs : ∀ v, genFold iter X.env v = pure v := by intro _; rfl)
    (he : starEach [.GeneratorExp elt [⟨.Name x px, iter, [], 0⟩] scope gpos] X.env = (false, eval (.GeneratorExp elt [⟨.Name x px, iter, [], 0⟩] scope gpos) X.env) :: starEach [] X.env := by rfl) :
    SE G X (.Call (.Name nm p) [.GeneratorExp elt [⟨.Name x px, iter, [], 0⟩] scope gpos] [] pos) (mGenB any slot mit melt) := fun Wx tk => by
  refine ⟨fun pins s σ H Q I h => ?_⟩
  have hv : bootBuiltins nm = some (.builtin (if any = true then "any" else "all")) := by
    rcases hn with ⟨rfl, rfl⟩ | ⟨rfl, rfl⟩
    · exact boot_any
    · decide +kernel
  have hnn : nm ≠ "__name__" := by rcases hn with ⟨_, rfl⟩ | ⟨_, rfl⟩ <;> decide
  have hnd : (nm == ("__debug__" : Str)) = false := by rcases hn with ⟨_, rfl⟩ | ⟨_, rfl⟩ <;> decide
  refine wpAny_Call_Name_kw (ld_blt I hg hm hv ?_ hnn hnd)
  refine PyProof.Rows.callWith_builtin1 ?_ he (by rfl)
  rw [he]
  have h2 := rd.bnd (Rel := GcRel X.K) (Q' := fun v H1 => ∃ ρ1 h1 ev ws zs xs, GcV X.K H1 v xs ∧ VRs X.K H1 ρ1 xs ws ∧ HR X.K G H1 ρ1 h1 ∧ SR X.K H1 ρ1 σ ev ∧ mapO (eltOf h1 ev slot melt) ws = some zs ∧
      ∃ bs, bools zs = some bs ∧ ∀ H2, ExtN H1 H2 → Tabs G.T H2 → Q (.bl (if any = true then bs.any id else bs.all id)) H2) h fun H0 ρ0 e sr v H1 ρ1 h1 w x r q p1 => by
    obtain ⟨xs, gc, vx⟩ := q
    split at p1
    · rename_i zs hz
      split at p1
      · rename_i bs hb
        refine ⟨ρ1, h1, e, w, zs, xs, gc, vx, r, sr.mono x, hz, bs, hb, fun H2 eN T2 => ?_⟩
        have x12 : Ext H1 ρ1 H2 ρ1 := ⟨fun b o e t _ => eN b o e (by intro ps z; subst z; cases t), List.prefix_rfl, fun _ a b => absurd a b, r.mu, fun b o u e => eN b _ e (by intro ps z; cases z)⟩
        have r2 : HR X.K G H2 ρ1 h1 := ⟨r.len, r.nd, fun n a o e1 e2 => (r.ob n a o e1 e2).mono x12 (by
          obtain ⟨u, hu, hm⟩ := (r.ob n a o e1 e2).mut
          rw [hu]
          exact eN a u hu (by intro ps z; subst z; cases hm)), T2⟩
        exact p1 ρ1 H2 _ x12 r2 vr_bl
      · exact p1.elim
    · exact p1.elim
  show wpAny _ _ (spliced ((false, eval (.GeneratorExp elt [⟨.Name x px, iter, [], 0⟩] scope gpos) X.env) :: backTo pos (starEach [] X.env))) _ _ s
  refine Calls.spliced_cons (gen_px (G := G) (R := fun zs H1 => ∃ bs, bools zs = some bs ∧ ∀ H2, ExtN H1 H2 → Tabs G.T H2 → Q (.bl (if any = true then bs.any id else bs.all id)) H2) hr TB hcode hmT huT L hN hx hd (hi Wx tk) hel hs I h2 fun zs H1 g s5 hR hG => ?_)
  obtain ⟨fp, wr, Gs, F, St, W, hst, _, hF, hI⟩ := hG
  obtain ⟨bs, hb, hq⟩ := hR
  obtain ⟨hlen, hget⟩ := bools_get hb
  have htr : TruthOf X.prog X.w X.A.in1 F (fun i => bs.getD i false) := fun i y sj Qj Ej hy hQj => by
    obtain ⟨z, hz, sc⟩ := hF i y hy
    obtain ⟨c, hc, rfl⟩ := hget i z hz
    have e : y = .bool c := sc
    rw [e]
    refine wpAny_truthy_bool ?_
    have hQj : Qj (bs.getD i false) sj := hQj
    rw [List.getD_eq_getElem?_getD, hc] at hQj
    exact hQj
  refine Calls.spliced_nil ?_
  rcases hn with ⟨rfl, rfl⟩ | ⟨rfl, rfl⟩
  · refine call_any_walkS (W.self 0 _ _ _ hst ⟨g, fp, wr, Gs, _, F, St, _, rfl, W, hst, htr, fun s' hmv => ?_⟩)
    obtain ⟨H2, eN, T2, J⟩ := hI s' hmv
    refine ⟨.bl _, H2, J, rfl, ?_⟩
    rw [hlen, range_any]
    exact hq H2 eN T2
  · refine call_all_walkS (W.self 0 _ _ _ hst ⟨g, fp, wr, Gs, _, F, St, _, rfl, W, hst, htr, fun s' hmv => ?_⟩)
    obtain ⟨H2, eN, T2, J⟩ := hI s' hmv
    refine ⟨.bl _, H2, J, rfl, ?_⟩
    rw [hlen, range_all]
    exact hq H2 eN T2
end
end Den
set_option maxRecDepth 100000
set_option maxHeartbeats 1000000
/-! Dicts with int and text keys. -/
namespace Den
open PySem L2 PyProof.Rows
def wKey : W → Option Key
  | .int i => some (.inl i)
  | .str s => some (.inr (mkS s))
  | _ => none
def keyB : W → W → Bool
  | .int i, .int j => i == j
  | .str a, .str b => a == b
  | _, _ => false
def valW : List (W × W) → W → Option W
  | [], _ => none
  | (k', v) :: r, k => if keyB k' k = true then some v else valW r k
def putGo : List (W × W) → W → W → List (W × W)
  | [], _, _ => []
  | (k', x) :: r, k, v => (if keyB k' k = true then (k', v) else (k', x)) :: putGo r k v
def putW (kvs : List (W × W)) (k v : W) : List (W × W) := if (valW kvs k).isSome = true then putGo kvs k v else kvs ++ [(k, v)]
def dropW : List (W × W) → W → List (W × W)
  | [], _ => []
  | (k', x) :: r, k => if keyB k' k = true then dropW r k else (k', x) :: dropW r k
/-- a dict's pairs, locked or not -/
def dicR (h : List O) (n : Nat) : Option (List (W × W)) := match h[n]? with
  | some (.dic x) => some x
  | some (.dik x) => some x
  | _ => none
section
variable {K : PySem.W.Frag} {G : Gx} {H : Hp} {ρ : List Addr} {h : List O} {v : V} {k w : W} {q : Key} {kvs : List (W × W)} {ps : List (Key × V)}
theorem key_vr (r : VR K H ρ (kV q) k) : wKey k = some q := by
  cases k with
  | int i =>
    have e := r.int
    cases q with
    | inl j => cases e; rfl
    | inr x => cases e
  | str s =>
    have e := r.str
    cases q with
    | inl j => cases e
    | inr x => cases e; rfl
  | non => have e := r.non; cases q <;> cases e
  | bl b => have e := r.bl; cases q <;> cases e
  | tup xs => obtain ⟨a, vs, e, _⟩ := sqT_ok (xs := xs) r rfl; cases q <;> cases e
  | rol xs => unfold VR at r; obtain ⟨a, vs, e, _⟩ := r; cases q <;> cases e
  | ref n => obtain ⟨a, e, _⟩ := r.ref; cases q <;> cases e
theorem vr_key (e : wKey k = some q) (r : VR K H ρ v k) : v = kV q := by
  cases k with
  | int i => cases e; exact r.int
  | str s => cases e; exact r.str
  | _ => cases e
theorem keyB_iff {k' : W} {q' : Key} (e : wKey k = some q) (e' : wKey k' = some q') : keyB k' k = decide (q' = q) := by
  cases k with
  | int i =>
    cases e
    cases k' with
    | int j => cases e'; show (j == i) = _; by_cases z : j = i <;> simp [z]
    | str t => cases e'; rfl
    | _ => cases e'
  | str s =>
    cases e
    cases k' with
    | int j => cases e'; rfl
    | str t =>
      cases e'
      show (t == s) = _
      by_cases z : t = s
      · subst z; simp
      · have : ¬ (Sum.inr (mkS t) : Key) = Sum.inr (mkS s) := fun y => z (by have := congrArg (fun z : Str => z.cps.toList) (Sum.inr.inj y); simpa using this)
        rw [decide_eq_false this, beq_eq_false_iff_ne.mpr z]
    | _ => cases e'
  | _ => cases e
theorem val_some : ∀ {ps : List (Key × V)} {kvs : List (W × W)}, KRs K H ρ ps kvs → wKey k = some q → valW kvs k = some w → ∃ v, valV ps q = some v ∧ VR K H ρ v w
  | ps, [], r, e, z => by cases z
  | ps, (k', x) :: kvs, r, e, z => by
    unfold KRs at r
    obtain ⟨q', v, r', rfl, h1, h2, h3⟩ := r
    have hk := keyB_iff e (key_vr h1)
    unfold valW at z
    by_cases hq : q' = q
    · rw [hk, decide_eq_true hq, if_pos rfl] at z
      cases z
      exact ⟨v, valV_pos hq, h2⟩
    · rw [hk, decide_eq_false hq, if_neg (by decide)] at z
      rw [valV_neg hq]
      exact val_some h3 e z
theorem val_none : ∀ {ps : List (Key × V)} {kvs : List (W × W)}, KRs K H ρ ps kvs → wKey k = some q → valW kvs k = none → valV ps q = none
  | ps, [], r, e, z => by unfold KRs at r; rw [r]; rfl
  | ps, (k', x) :: kvs, r, e, z => by
    unfold KRs at r
    obtain ⟨q', v, r', rfl, h1, h2, h3⟩ := r
    have hk := keyB_iff e (key_vr h1)
    unfold valW at z
    by_cases hq : q' = q
    · rw [hk, decide_eq_true hq, if_pos rfl] at z
      cases z
    · rw [hk, decide_eq_false hq, if_neg (by decide)] at z
      rw [valV_neg hq]
      exact val_none h3 e z
theorem val_is (r : KRs K H ρ ps kvs) (e : wKey k = some q) : (valV ps q).isSome = (valW kvs k).isSome := by
  cases z : valW kvs k with
  | none => rw [val_none r e z] <;> rfl
  | some w =>
    obtain ⟨v, h1, _⟩ := val_some r e z
    rw [h1]
    rfl
theorem putGo_kr {x : V} {xw : W} (rx : VR K H ρ x xw) (e : wKey k = some q) : ∀ {ps : List (Key × V)} {kvs : List (W × W)}, KRs K H ρ ps kvs → KRs K H ρ (ps.map fun kv => if kv.1 = q then (kv.1, x) else kv) (putGo kvs k xw)
  | ps, [], r => by unfold KRs at r; rw [r]; unfold putGo KRs; rfl
  | ps, (k', y) :: kvs, r => by
    unfold KRs at r
    obtain ⟨q', v, r', rfl, h1, h2, h3⟩ := r
    have hk := keyB_iff e (key_vr h1)
    rw [List.map_cons]
    unfold putGo
    by_cases hq : q' = q
    · rw [hk, decide_eq_true hq, if_pos (show (q', v).1 = q from hq), if_pos rfl]
      unfold KRs
      exact ⟨q', x, _, rfl, h1, rx, putGo_kr rx e h3⟩
    · rw [hk, decide_eq_false hq, if_neg (show ¬ (q', v).1 = q from hq), if_neg Bool.false_ne_true]
      unfold KRs
      exact ⟨q', v, _, rfl, h1, h2, putGo_kr rx e h3⟩
theorem KRs.snoc {x : V} {xw : W} {kk : W} (rk : VR K H ρ (kV q) kk) (rx : VR K H ρ x xw) : ∀ {ps : List (Key × V)} {kvs : List (W × W)}, KRs K H ρ ps kvs → KRs K H ρ (ps ++ [(q, x)]) (kvs ++ [(kk, xw)])
  | ps, [], r => by
    unfold KRs at r
    rw [r]
    show KRs K H ρ [(q, x)] [(kk, xw)]
    unfold KRs
    exact ⟨q, x, [], rfl, rk, rx, by unfold KRs; rfl⟩
  | ps, (k', y) :: kvs, r => by
    unfold KRs at r
    obtain ⟨q', v, r', rfl, h1, h2, h3⟩ := r
    show KRs K H ρ ((q', v) :: (r' ++ [(q, x)])) ((k', y) :: (kvs ++ [(kk, xw)]))
    unfold KRs
    exact ⟨q', v, _, rfl, h1, h2, KRs.snoc rk rx h3⟩
theorem put_kr {x : V} {xw : W} (r : KRs K H ρ ps kvs) (e : wKey k = some q) (rk : VR K H ρ (kV q) k) (rx : VR K H ρ x xw) : KRs K H ρ (putK ps q x) (putW kvs k xw) := by
  unfold putK putW
  rw [valV_any, val_is r e]
  split
  · exact putGo_kr rx e r
  · exact KRs.snoc rk rx r
theorem drop_kr (e : wKey k = some q) : ∀ {ps : List (Key × V)} {kvs : List (W × W)}, KRs K H ρ ps kvs → KRs K H ρ (dropK ps q) (dropW kvs k)
  | ps, [], r => by unfold KRs at r; rw [r]; unfold dropK dropW KRs; rfl
  | ps, (k', y) :: kvs, r => by
    unfold KRs at r
    obtain ⟨q', v, r', rfl, h1, h2, h3⟩ := r
    have hk := keyB_iff e (key_vr h1)
    have ih := drop_kr e h3
    unfold dropK at ih ⊢
    unfold dropW
    by_cases hq : q' = q
    · rw [hk, decide_eq_true hq, if_pos rfl, List.filter_cons_of_neg (by simp [hq])]
      exact ih
    · rw [hk, decide_eq_false hq, if_neg (by decide), List.filter_cons_of_pos (by simp [hq])]
      unfold KRs
      exact ⟨q', v, _, rfl, h1, h2, ih⟩
theorem dicR_ok {n : Nat} {a : Addr} (hr : HR K G H ρ h) (ea : ρ[n]? = some a) (e : dicR h n = some kvs) : ∃ ps, Rd H a (.dK ps) ∧ KRs K H ρ ps kvs := by
  unfold dicR at e
  split at e
  · rename_i x hx
    cases e
    obtain ⟨ps, q, z⟩ := hr.look ea hx
    exact ⟨ps, .inl q, z⟩
  · rename_i x hx
    cases e
    obtain ⟨o, ps, q, z⟩ := hr.look ea hx
    exact ⟨ps, .inr ⟨o, q⟩, z⟩
  · cases e
/-- reading at a key -/
theorem dget_some {n : Nat} {a : Addr} (hr : HR K G H ρ h) (ea : ρ[n]? = some a) (e : dicR h n = some kvs) (rk : VR K H ρ v k) (ek : wKey k = some q) (ew : valW kvs k = some w) : ∃ x, DGet H a v (some x) ∧ VR K H ρ x w := by
  obtain ⟨ps, rd, kr⟩ := dicR_ok hr ea e
  obtain ⟨x, h1, h2⟩ := val_some kr ek ew
  exact ⟨x, .inl ⟨ps, q, rd, vr_key ek rk, h1.symm⟩, h2⟩
theorem dget_none {n : Nat} {a : Addr} (hr : HR K G H ρ h) (ea : ρ[n]? = some a) (e : dicR h n = some kvs) (rk : VR K H ρ v k) (ek : wKey k = some q) (ew : valW kvs k = none) : DGet H a v none := by
  obtain ⟨ps, rd, kr⟩ := dicR_ok hr ea e
  exact .inl ⟨ps, q, rd, vr_key ek rk, (val_none kr ek ew).symm⟩
end
/-! ### {} -/
def mDict0 : M W := fun _ h => .ok (.ref h.length) (h ++ [.dic []])
section
variable {G : Gx} {X : Cx} {pos : Pos}
theorem KRs.nil {K : PySem.W.Frag} {H : Hp} {ρ : List Addr} : KRs K H ρ [] [] := by unfold KRs; rfl
theorem se_dict0 : SE G X (.Dict [] [] pos) mDict0 := fun Wx tk => pe_dnewK.imp fun σ H Q p => fun t ht => by
  obtain ⟨ρ, e, h, hr, sr, p⟩ := p
  obtain ⟨r1, x1⟩ := hr.new (o := .dK []) (u := .dic []) ht rfl fun x => ⟨[], upd_same, .nil⟩
  refine p _ _ _ x1 r1 ?_
  show VR X.K _ _ _ (.ref h.length)
  unfold VR
  exact ⟨t, rfl, hr.last⟩
/-! ### d[k] -/
def oDget (x y : W) (h : List O) : Out W := match x with
  | .ref n => match dicR h n with
    | some kvs => match wKey y with
      | some _ => match valW kvs y with
        | some w => .ok w h
        | none => .bad
      | none => .bad
    | none => .bad
  | _ => .bad
def rDget : R2 := fun x y H Q => ∃ a v, x = .ref a ∧ DGet H a y (some v) ∧ Q v H
theorem ix_dict (hu : X.A.units + 1 < cLine) : IxR X rDget := by
  intro value slice pins s σ H x y v u Q I rx ry h hs
  obtain ⟨a, w, rfl, g, q⟩ := h
  cases rx
  exact tail_any (dict_typeIs I g) PySem.F.slot_dict_getitem.lookup (d_getItem hu I g ry fun w' s' I' rw' => ⟨w, H, I', rw', q⟩) hs
theorem dget_serves {K : PySem.W.Frag} : Serves2 K G oDget rDget := fun E H ρ h x y wx wy Q hr rx ry p => by
  unfold oDget at p
  split at p
  · rename_i n
    obtain ⟨a, rfl, ea⟩ := rx.ref
    split at p
    · rename_i kvs hk
      split at p
      · rename_i q hq
        split at p
        · rename_i w hw
          obtain ⟨v, g, rv⟩ := dget_some hr ea hk ry hq hw
          exact ⟨a, v, rfl, g, p.here hr rv⟩
        · exact p.elim
      · exact p.elim
    · exact p.elim
  · exact p.elim
/-- x[i]: dicts too -/
def oIxD (x y : W) (h : List O) : Out W := match x with
  | .ref n => match dicR h n with
    | some _ => oDget x y h
    | none => oIx x y h
  | _ => oIx x y h
theorem se_ixD {a b : Expr} {ma mb : M W} (hu : X.A.units + 1 < cLine) (ha : SE G X a ma) (hb : SE G X b mb) (hs : PlainIx b := by exact fun _ _ => rfl) : SE G X (.Subscript a b pos) (mOp oIxD ma mb) := fun Wx tk =>
  (pe_ix (IxR.or ix_seq (ix_dict hu)) (ha Wx tk) (hb Wx tk) hs).imp fun σ H Q p => rd_op (fun E H ρ h x y wx wy Q hr rx ry p => by
    unfold oIxD at p
    split at p
    · split at p
      · exact .inr (dget_serves E H ρ h x y _ wy Q hr rx ry p)
      · exact .inl (ix_serves E H ρ h x y _ wy Q hr rx ry p)
    · exact .inl (ix_serves E H ρ h x y _ wy Q hr rx ry p)) p
/-! ### k in d -/
def oNotInD (x y : W) (h : List O) : Out W := match y with
  | .ref n => match dicR h n with
    | some kvs => match wKey x with
      | some _ => .ok (.bl (!(valW kvs x).isSome)) h
      | none => .bad
    | none => oNotIn x y h
  | _ => oNotIn x y h
theorem op_dnin (hu : X.A.units + 1 < cLine) : OpR X (compareOp .NotIn) (fun y x H Q => ∃ a o, x = .ref a ∧ DGet H a y o ∧ Q (.bl (!o.isSome)) H) := by
  intro pins s σ H x y v u Q I rx ry h
  obtain ⟨a, o, rfl, g, q⟩ := h
  cases ry
  exact d_notIn hu I g rx fun s' I' => ⟨.bl _, H, I', rfl, q⟩
theorem ops_notinD (hu : X.A.units + 65 < cLine) : OpS G X (compareOp .NotIn) oNotInD := by
  obtain ⟨r, ho, s⟩ := ops_notin (G := G) hu
  refine ⟨_, OpR.or ho (op_dnin (by omega)), fun E H ρ h x y wx wy Q hr rx ry p => ?_⟩
  unfold oNotInD at p
  split at p
  · rename_i n
    split at p
    · rename_i kvs hk
      obtain ⟨a, rfl, ea⟩ := ry.ref
      split at p
      · rename_i q hq
        refine .inr ?_
        cases hw : valW kvs wx with
        | none => exact ⟨a, none, rfl, dget_none hr ea hk rx hq hw, by rw [hw] at p; exact p.here hr vr_bl⟩
        | some w =>
          obtain ⟨v, g, rv⟩ := dget_some hr ea hk rx hq hw
          exact ⟨a, some v, rfl, g, by rw [hw] at p; exact p.here hr vr_bl⟩
      · exact p.elim
    · exact .inl (s E H ρ h x y wx _ Q hr rx ry p)
  · exact .inl (s E H ρ h x y wx _ Q hr rx ry p)
/-! ### d[k] = v -/
def oSetD (o i v : W) (h : List O) : Out Unit := match o with
  | .ref n => match dicAt h n with
    | some kvs => match wKey i with
      | some _ => if kvs.length < lim then .ok () (h.set n (.dic (putW kvs i v))) else .bad
      | none => .bad
    | none => oSet o i v h
  | _ => oSet o i v h
theorem set_dict (hu : X.A.units + 1 < cLine) : PSet X (fun o i v H Q => ∃ a H', o = .ref a ∧ DPut H a i v H' ∧ Q H') := by
  intro pins s σ H o i v ov iv u Q I ro ri rv h
  obtain ⟨a, H', rfl, g, q⟩ := h
  cases ro
  exact d_setItem hu I g ri rv fun s' I' => ⟨H', I', q⟩
theorem _root_.L2.PSet.or {t t' : TSet} (p : PSet X t) (p' : PSet X t') : PSet X (fun o i v H Q => t o i v H Q ∨ t' o i v H Q) := by
  intro pins s σ H o i v ov iv u Q I ro ri rv h
  rcases h with h | h
  · exact p pins s σ H o i v ov iv u Q I ro ri rv h
  · exact p' pins s σ H o i v ov iv u Q I ro ri rv h
theorem _root_.L2.PGet.or {t t' : V → V → Hp → VK → Prop} (p : PGet X t) (p' : PGet X t') : PGet X (fun o i H Q => t o i H Q ∨ t' o i H Q) := by
  intro pins s σ H o i ov iv Q I ro ri h
  rcases h with h | h
  · exact p pins s σ H o i ov iv Q I ro ri h
  · exact p' pins s σ H o i ov iv Q I ro ri h
theorem put_post {K : PySem.W.Frag} {E : XK} {H : Hp} {ρ : List Addr} {h : List O} {n : Nat} {a : Addr} {kvs : List (W × W)} {q : Key} {y x : V} {wy wx : W} {Q : Hp → Prop} (hr : HR K G H ρ h) (ea : ρ[n]? = some a) (hd : dicAt h n = some kvs) (ry : VR K H ρ y wy) (rx : VR K H ρ x wx) (hq : wKey wy = some q)
    (hl : kvs.length < lim) (p : Post K G E URel (fun _ H' => Q H') H ρ (.ok () (h.set n (.dic (putW kvs wy wx))))) : ∃ H', DPut H a y x H' ∧ Q H' := by
  obtain ⟨ps, e, kr⟩ := hr.look ea (dicAt_some hd)
  have ey := vr_key hq ry
  have hlp : ps.length = kvs.length := KRs.length kr
  refine ⟨_, .inl ⟨ps, q, e, ey, by rw [hlp]; exact Nat.lt_of_lt_of_le hl (lim_size (Nat.le_refl lim)), rfl⟩, ?_⟩
  obtain ⟨r1, x1⟩ := hr.write (n := n) (a := a) (o := .dK (putK ps q x)) (u := .dic (putW kvs wy wx)) ea (dicAt_nk hd) rfl fun x2 => ⟨_, upd_same, put_kr (kr.mono x2) hq (by rw [← ey]; exact ry.mono x2) (rx.mono x2)⟩
  exact p ρ _ () x1 r1 trivial
theorem sets_dict (hu : X.A.units + 1 < cLine) : SetS G X oSetD := by
  obtain ⟨r, ho, s⟩ := sets_list (G := G) (X := X)
  refine ⟨_, L2.PSet.or ho (set_dict hu), fun E H ρ h o i v wo wi wv Q hr ro ri rv p => ?_⟩
  unfold oSetD at p
  split at p
  · rename_i n
    split at p
    · rename_i kvs hk
      obtain ⟨a, rfl, ea⟩ := ro.ref
      split at p
      · rename_i q hq
        split at p
        · rename_i hl
          obtain ⟨H', g, q2⟩ := put_post hr ea hk ri rv hq hl p
          exact .inr ⟨a, H', rfl, g, q2⟩
        · exact p.elim
      · exact p.elim
    · exact .inl (s E H ρ h o i v _ wi wv Q hr ro ri rv p)
  · exact .inl (s E H ρ h o i v _ wi wv Q hr ro ri rv p)
end
end Den
set_option maxRecDepth 100000
/-! A dict that is walked: locked as long. -/
namespace Den
open PySem L2 PyProof.Rows
section
variable {K : PySem.W.Frag} {H H' : Hp} {ρ ρ' : List Addr}
mutual
theorem VR.via (t : ∀ a vs, SqT K H a vs → SqT K H' a vs) (l : ∀ a vs, ((Rd H a (.lst vs) ∧ a ∉ ρ) ∨ ∀ H' : Hp, SqL K H' a vs) → (Rd H' a (.lst vs) ∧ a ∉ ρ) ∨ ∀ H' : Hp, SqL K H' a vs) : ∀ {v : V} {w : W}, VR K H ρ v w → VR K H' ρ v w
  | v, .non, h => h
  | v, .bl _, h => h
  | v, .int _, h => h
  | v, .str _, h => h
  | v, .tup xs, h => by
    unfold VR at h ⊢
    obtain ⟨a, vs, e, q, r⟩ := h
    exact ⟨a, vs, e, t _ _ q, VRs.via t l r⟩
  | v, .rol xs, h => by
    unfold VR at h ⊢
    obtain ⟨a, vs, e, q, r⟩ := h
    exact ⟨a, vs, e, l _ _ q, VRs.via t l r⟩
  | v, .ref n, h => by
    unfold VR at h ⊢
    exact h
theorem VRs.via (t : ∀ a vs, SqT K H a vs → SqT K H' a vs) (l : ∀ a vs, ((Rd H a (.lst vs) ∧ a ∉ ρ) ∨ ∀ H' : Hp, SqL K H' a vs) → (Rd H' a (.lst vs) ∧ a ∉ ρ) ∨ ∀ H' : Hp, SqL K H' a vs) : ∀ {vs : List V} {ws : List W}, VRs K H ρ vs ws → VRs K H' ρ vs ws
  | vs, [], h => h
  | vs, w :: ws, h => by
    unfold VRs at h ⊢
    obtain ⟨v, r, e, q, z⟩ := h
    exact ⟨v, r, e, VR.via t l q, VRs.via t l z⟩
end
theorem KRs.via (f : ∀ v w, VR K H ρ v w → VR K H' ρ v w) : ∀ {ps : List (Key × V)} {ws : List (W × W)}, KRs K H ρ ps ws → KRs K H' ρ ps ws
  | vs, [], h => h
  | vs, (k, w) :: ws, h => by
    unfold KRs at h ⊢
    obtain ⟨q, v, r, e, a, b, c⟩ := h
    exact ⟨q, v, r, e, f _ _ a, f _ _ b, KRs.via f c⟩
theorem FRs.via (f : ∀ v w, VR K H ρ v w → VR K H' ρ v w) : ∀ {ps : List (Str × V)} {ws : List (Str × W)}, FRs K H ρ ps ws → FRs K H' ρ ps ws
  | vs, [], h => h
  | vs, (k, w) :: ws, h => by
    unfold FRs at h ⊢
    obtain ⟨v, r, e, b, c⟩ := h
    exact ⟨v, r, e, f _ _ b, FRs.via f c⟩
end
section
variable {G : Gx} {X : Cx} {K : PySem.W.Frag} {H H' : Hp} {ρ ρ' : List Addr} {h h' : List O} {n : Nat} {a : Addr} {kvs : List (W × W)} {ps : List (Key × V)} {od : Obj}
/-! ### what a locked dict gives -/
theorem KRs.get : ∀ {ps : List (Key × V)} {kvs : List (W × W)} {i : Nat} {k w : W}, KRs K H ρ ps kvs → kvs[i]? = some (k, w) → ∃ q v, ps[i]? = some (q, v) ∧ VR K H ρ (kV q) k ∧ VR K H ρ v w
  | ps, [], i, k, w, _, e => by simp at e
  | ps, (k', w') :: kvs, 0, k, w, h, e => by
    unfold KRs at h
    obtain ⟨q, v, r, rfl, a, b, _⟩ := h
    simp at e
    obtain ⟨rfl, rfl⟩ := e
    exact ⟨q, v, rfl, a, b⟩
  | ps, (k', w') :: kvs, i + 1, k, w, h, e => by
    unfold KRs at h
    obtain ⟨q, v, r, rfl, _, _, c⟩ := h
    obtain ⟨q', v', x, y, z⟩ := KRs.get (i := i) c (by simpa using e)
    exact ⟨q', v', by simpa using x, y, z⟩
end
end Den
set_option maxRecDepth 100000
/-! isinstance of what our values are; is None; what a dict's methods give. -/
namespace Den
open PySem L2 PyProof.Rows
section
variable {G : Gx} {X : Cx} {e a b : Expr} {m ma mb : M W} {pos p p2 : Pos}
theorem tyx {K : PySem.W.Frag} {H : Hp} {ρ : List Addr} {h : List O} {v : V} {w : W} {T : String} {b : Bool} (hr : HR K G H ρ h) (r : VR K H ρ v w) (ne : tyNm w h ≠ "?") (e : kitB (tyNm w h) T = some b) : ∃ t, TyX K H v t ∧ PySem.W.kitOne K t (.type T) = some b := by
  cases w with
  | non => rw [r.non]; exact ⟨_, .base .non, e⟩
  | bl y => rw [r.bl]; exact ⟨_, .base (.bl y), e⟩
  | int y => rw [r.int]; exact ⟨_, .base (.int y), e⟩
  | str y => rw [r.str]; exact ⟨_, .base (.str _), e⟩
  | tup xs =>
    unfold VR at r
    obtain ⟨a, vs, rfl, q, _⟩ := r
    rcases q with (q | ⟨o, q⟩) | ⟨o, its, n, q1, q2, _⟩
    · exact ⟨_, .base (.tup q), e⟩
    · exact ⟨_, .fTuple q, e⟩
    · exact ⟨_, .kTuple q1 q2, e⟩
  | rol xs =>
    obtain ⟨a, vs, rfl, q, z⟩ := sqL_ok (xs := xs) hr r rfl
    rcases q with (q | ⟨o, q⟩) | ⟨o, its, n, q1, q2, _⟩
    · exact ⟨_, .base (.lst q), e⟩
    · exact ⟨_, .base (.frz q), e⟩
    · exact ⟨_, .kList q1 q2, e⟩
  | ref n =>
    obtain ⟨a, rfl, ea⟩ := r.ref
    unfold tyNm at e ne
    dsimp only at e ne
    split at e
    · rename_i xs hx
      obtain ⟨vs, q, z⟩ := hr.look ea hx
      exact ⟨_, .base (.lst q), e⟩
    · rename_i xs hx
      obtain ⟨vs, q, z⟩ := hr.look ea hx
      exact ⟨_, .base (.dK q), e⟩
    · rename_i x1 x2
      cases hx : h[n]? with
      | none => rw [hx] at ne; exact absurd rfl ne
      | some o =>
        rw [hx] at ne
        cases o with
        | lst xs => exact absurd hx (x1 xs)
        | dic xs => exact absurd hx (x2 xs)
        | dik xs => exact absurd rfl ne
        | ins c fs => exact absurd rfl ne
/-- isinstance -/
def mIsiV (T : String) (m : M W) : M W := fun e h => (m e h).bnd fun x h => if tyNm x h = "?" then .bad else match kitB (tyNm x h) T with
  | some b => .ok (.bl b) h
  | none => .bad
theorem se_isi {T : Str} {Tn : String} (ha : SE G X a ma) (hg : Gl X "isinstance") (hm0 : X.mg "isinstance" = none) (hgT : Gl X T) (hmT : X.mg T = none) (hbT : bootBuiltins T = some (.type Tn) := by decide +kernel) (hnT : T ≠ "__name__" := by decide) (hdT : (T == ("__debug__" : Str)) = false := by decide)
    (hv : bootBuiltins "isinstance" = some (.builtin "isinstance") := by decide +kernel)
    (he : starEach [a, .Name T p2] X.env = (false, eval a X.env) :: starEach [.Name T p2] X.env := by rfl) (he2 : starEach [.Name T p2] X.env = (false, eval (.Name T p2) X.env) :: starEach [] X.env := by rfl) (hpl : (backTo pos (starEach [.Name T p2] X.env)).any (·.1) = false := by rfl) :
    SE G X (.Call (.Name "isinstance" p) [a, .Name T p2] [] pos) (mIsiV Tn ma) := fun Wx tk =>
  (pe_callB call_isi hg hm0 hv (pa_cons (ha Wx tk) (pa_cons (pe_bltn (v := .ty Tn) hgT hmT hbT rfl hnT hdT) pa_nil he2) he) (he := he) (hpl := hpl)).imp fun σ H Q p => rd.bnd (Rel := VRel X.K) p fun H0 ρ0 e sr x H1 ρ1 h1 wx x1 r1 vx p1 => by
    split at p1
    · exact p1.elim
    · rename_i hne
      split at p1
      · rename_i b hb
        obtain ⟨t, h1, h2⟩ := tyx r1 vx hne hb
        exact ⟨x, .ty Tn, t, _, b, rfl, .ty Tn, h1, h2, p1.here r1 vr_bl⟩
      · exact p1.elim
/-! ### d.get(k, x), d.get(k) -/
theorem isD_of {K : PySem.W.Frag} {H : Hp} {ρ : List Addr} {h : List O} {n : Nat} {a : Addr} {kvs : List (W × W)} (hr : HR K G H ρ h) (ea : ρ[n]? = some a) (e : dicR h n = some kvs) : IsD H a := by
  obtain ⟨ps, q, _⟩ := dicR_ok hr ea e
  exact .inl ⟨ps, q⟩
end
end Den
set_option maxRecDepth 100000
/-! list of a range; a def whose code object is known. -/
namespace Den
open PySem L2 PyProof.Rows
section
variable {G : Gx} {X : Cx} {e a b : Expr} {m ma mb : M W} {pos p p2 : Pos}
theorem units1 {A : Around} (h : A.units + 64 < cLine) : A.units + 1 < cLine := by omega
theorem rgV_vrs {K : PySem.W.Frag} {H : Hp} {ρ : List Addr} {lo hi : Int} : VRs K H ρ (rgV lo hi) (rgW lo hi) := by
  unfold rgV rgW
  exact rg_vrs _
def mListR1 (mb : M W) : M W := fun e h => (mb e h).bnd fun y h => match y with
  | .int j => if rgOkB 0 j = true then .ok (.ref h.length) (h ++ [.lst (rgW 0 j)]) else .bad
  | _ => .bad
theorem se_listR1 {p1 : Pos} {pi : Pos} (hc : X.calm = true) (hg : Gl X "list") (hm : X.mg "list" = none) (hgr : Gl X "range") (hmr : X.mg "range" = none) (hb : SE G X b mb)
    (nr : starEach [b] X.env = (false, eval b X.env) :: starEach [] X.env := by rfl)
    (na : starEach [.Call (.Name "range" p1) [b] [] pi] X.env = (false, eval (.Call (.Name "range" p1) [b] [] pi) X.env) :: starEach [] X.env := by rfl) :
    SE G X (.Call (.Name "list" p) [.Call (.Name "range" p1) [b] [] pi] [] pos) (mListR1 mb) := fun Wx tk =>
  (pe_listRg hc hg hm (prg_1 hgr hmr (hb Wx tk) nr) na).imp fun σ H Q p => rd.bnd (Rel := VRel X.K) p fun H0 ρ0 e sr y H2 ρ2 h2 wy x2 r2 vy p2 => by
      split at p2
      · rename_i j
        split at p2
        · rename_i ok
          have vy : VR X.K _ _ y (.int j) := vy
          obtain ⟨o1, o2, o3, o4, o5⟩ := rgOkB_ok ok
          exact ⟨j, vy.int, ⟨o1, o2, o3, o4, o5⟩, new_lst r2 rgV_vrs p2⟩
        · exact p2.elim
      · exact p2.elim
end
/-- a def whose code object is known -/
theorem fn_denC {G : Gx} {P : Program} {w : World} {K : PySem.W.Frag} {mg : Str → Option Value} {base : Heap} {x : Str} {st : Stmt} {f c : Addr} {N ps : List Str} {k : Nat} {m : Sm} {oc : Value} {od an : Option Addr} {osl : Array (Option Value)} {kV doc pm ct : Value}
    (lk : K.lookup f = some ⟨oc, od, .func (PySem.W.fnOf x x (defArgs st) (defBody st) (defScope st) .none kV doc pm an (.ref c) ct), osl⟩) (hcd : PySem.W.codeIn K (.ref c) x = true) (kp : PySem.W.keepIn K (.ref f) = true) (S : FnScope N ps (defScope st)) (hm : mg x = some (.ref f))
    (hb : Binds K (PySem.W.fnOf x x (defArgs st) (defBody st) (defScope st) .none kV doc pm an (.ref c) ct) ps [])
    (body : ∀ (A : Around) (outer : List PySem.Env) (s : Shared) (H : Hp) (E : XK), Room k (A.deeper (envOfC x (defScope st) s.heap.objs.size f (.ref c))) → SSs G (cxOf (L2.CX P w) P w K mg base N x (defScope st) f (.ref c) A outer s H E) (defBody st) m) :
    FnD P w K mg base G (k + 1) x ps.length (mFun N.length m) := ⟨f, _, ps, law_den lk hcd S body, hm, kp, hb⟩
end Den
set_option maxRecDepth 100000
/-! Calculation rules of the later parts; rising rows. -/
namespace Den
open PySem L2
section
variable {h : List O} {e e0 : Env} {n : Nat}
end
/-! ### rising rows -/
def Rsg (l : List Int) : Prop := l.Pairwise (· < ·)
abbrev T (l : List Int) : W := .tup (l.map .int)
theorem Rsg.drop {l : List Int} (r : Rsg l) (a : Nat) : Rsg (l.drop a) := List.Pairwise.sublist (List.drop_sublist a l) r
theorem Rsg.tail {x : Int} {l : List Int} (r : Rsg (x :: l)) : Rsg l := (List.pairwise_cons.1 r).2
theorem Rsg.head {x : Int} {l : List Int} (r : Rsg (x :: l)) : ∀ z ∈ l, x < z := (List.pairwise_cons.1 r).1
theorem Rsg.ext : ∀ {l l' : List Int}, Rsg l → Rsg l' → (∀ z, z ∈ l ↔ z ∈ l') → l = l'
  | [], [], _, _, _ => rfl
  | [], y :: l', _, _, h => absurd ((h y).2 List.mem_cons_self) (by simp)
  | x :: l, [], _, _, h => absurd ((h x).1 List.mem_cons_self) (by simp)
  | x :: l, y :: l', r, r', h => by
    have hx := (h x).1 List.mem_cons_self
    have hy := (h y).2 List.mem_cons_self
    have e : x = y := by
      rcases List.mem_cons.1 hx with e | e
      · exact e
      · rcases List.mem_cons.1 hy with e' | e'
        · exact e'.symm
        · have := r.head y e'
          have := r'.head x e
          omega
    subst e
    rw [Rsg.ext r.tail r'.tail fun z => ⟨fun hz => ?_, fun hz => ?_⟩]
    · have := r.head z hz
      rcases List.mem_cons.1 ((h z).1 (List.mem_cons_of_mem _ hz)) with e | e
      · omega
      · exact e
    · have := r'.head z hz
      rcases List.mem_cons.1 ((h z).2 (List.mem_cons_of_mem _ hz)) with e | e
      · omega
      · exact e
theorem Rsg.filter {l : List Int} (r : Rsg l) (c : Int → Bool) : Rsg (l.filter c) := List.Pairwise.sublist List.filter_sublist r
theorem Rsg.snoc {l : List Int} {x : Int} (r : Rsg l) (h : ∀ z ∈ l, z < x) : Rsg (l ++ [x]) := by
  unfold Rsg
  rw [List.pairwise_append]
  exact ⟨r, List.pairwise_singleton _ _, fun a ha b hb => by rw [List.mem_singleton.1 hb]; exact h a ha⟩
/-! ### sorting, lists with a last one, pairs -/
section
variable {h : List O} {e e0 : Env} {n : Nat}
end
section
variable {h : List O} {e e0 : Env} {n : Nat} {body : Sm} {R : SOut → Prop} {m : M W}
/-! dicts -/
/-! sorted, keys -/
theorem mapO_map {α β γ : Type} {f : β → Option γ} {g : α → β} {k : α → γ} : ∀ {l : List α}, (∀ x ∈ l, f (g x) = some (k x)) → mapO f (l.map g) = some (l.map k)
  | [], _ => rfl
  | x :: l, H => by
    rw [List.map_cons]
    unfold mapO
    rw [H x List.mem_cons_self, mapO_map fun y hy => H y (List.mem_cons_of_mem _ hy)]
    rfl
theorem bools_map (bs : List Bool) : bools (bs.map .bl) = some bs := by
  induction bs with
  | nil => rfl
  | cons b bs ih => rw [List.map_cons]; unfold bools; rw [ih]; rfl
theorem genB_ev {any : Bool} {slot : Nat} {mit : M (List W)} {melt : M W} {α : Type} {l : List α} {g : α → W} {f : α → Bool} (h1 : mit e h = .ok (l.map g) h) (h2 : ∀ x ∈ l, eltOf h e slot melt (g x) = some (.bl (f x))) : mGenB any slot mit melt e h = .ok (.bl (if any = true then (l.map f).any id else (l.map f).all id)) h := by
  unfold mGenB
  rw [h1]
  dsimp only [Out.bnd]
  rw [mapO_map (k := fun x => W.bl (f x)) h2]
  dsimp only
  have : l.map (fun x => W.bl (f x)) = (l.map f).map .bl := by rw [List.map_map]; rfl
  rw [this, bools_map]
theorem elt_of {slot : Nat} {melt : M W} {w fw : W} {b : Bool} {h' : List O} (h1 : frz h 6 w = some fw) (h2 : melt ((frzE h e).set slot (some fw)) [] = .ok (.bl b) h') : eltOf h e slot melt w = some (.bl b) := by
  unfold eltOf
  rw [h1]
  dsimp only
  rw [h2]
  rfl
theorem ap_TruB {m : M W} {b : Bool} (h1 : m e h = .ok (.bl b) h) : mTru m e h = .ok b h := by
  rw [ap_Tru, h1]
  rfl
end
end Den
set_option maxRecDepth 100000
set_option maxHeartbeats 2000000
/-! sorted of a dict's pairs; counting in lists. -/
namespace Den
open PySem L2 PyProof.Rows PySem.W
section
variable {P : Program} {w : World} {A : Around} {E : Value → Shared → Prop} {s : Shared} {β : Type} {Rel : Shared → Value → β → Prop} {enc : β → PyData} {Ok : List β → Shared → Prop} {v : Value} {Q : Value → Shared → Prop}
end
section
variable {K : PySem.W.Frag} {G : Gx} {H H2 : Hp} {ρ : List Addr} {h : List O}
end
section
variable {X : Cx} {pins : List (Addr × Obj)} {σ : L2.St} {H : Hp} {s : Shared}
end
end Den
set_option maxRecDepth 100000
/-! How often in a list, a text over and over, where in a text. -/
namespace Den
open PySem L2 PyProof.Rows
section
variable {G : Gx} {X : Cx}
/-! ### s * n -/
theorem rep_fold (a : List Nat) : ∀ (n : Nat) (b : List Nat), (List.replicate n a.toArray).foldl (· ++ ·) b.toArray = (b ++ (List.replicate n a).flatten).toArray
  | 0, b => by simp
  | n + 1, b => by
    rw [List.replicate_succ, List.foldl_cons, List.replicate_succ, List.flatten_cons]
    have := rep_fold a n (b ++ a)
    rw [← List.append_assoc, ← this]
    simp
theorem op_smul : OpR X (binaryOp .Mult) (fun x y H Q => ∃ (a : List Nat) (n : Int), x = .str (mkS a) ∧ y = .int n ∧ 2 ≤ n ∧ n ≤ 1000000 ∧ 0 < a.length ∧ a.length * n.toNat ≤ lim ∧ Q (.str (mkS (List.replicate n.toNat a).flatten)) H) := by
  intro pins s σ H x y v u Q I rx ry h
  obtain ⟨a, n, rfl, rfl, h1, h2, h3, h4, q⟩ := h
  obtain ⟨t, rfl⟩ := rx
  obtain ⟨t', rfl⟩ := ry
  have hlen : (mkS a).length = a.length := Str_length a
  have h1' : ¬ n < 1 := by omega
  have hne : (n == 1 || (mkS a).length == 0) = false := by
    rw [hlen, Bool.or_eq_false_iff]
    exact ⟨beq_eq_false_iff_ne.mpr (by omega), beq_eq_false_iff_ne.mpr (by omega)⟩
  refine P.mul_str (by rw [decide_eq_false (by omega), decide_eq_false (by omega)]; rfl) (fun _ _ => ?_) (fun _ _ => ?_) ?_
  · rw [hlen]
    have e1 : (a.length : Int) ≤ 1000000 := by
      have : a.length * 1 ≤ a.length * n.toNat := Nat.mul_le_mul_left _ (by omega)
      have h4 : a.length * n.toNat ≤ 1000000 := h4
      omega
    have e2 : (1000000 : Int) ≤ (2 ^ 63 - 1) / n := by
      rw [Int.le_ediv_iff_mul_le (by omega)]
      omega
    omega
  · rw [hlen]
    exact decide_eq_false (by have := lim_size h4; omega)
  · rw [if_neg h1', if_neg (by rw [hne]; simp)]
    have e : (⟨(List.replicate n.toNat (mkS a).cps).foldl (· ++ ·) #[]⟩ : Str) = mkS (List.replicate n.toNat a).flatten := by
      have := rep_fold a n.toNat []
      rw [List.nil_append] at this
      show (⟨_⟩ : Str) = ⟨_⟩
      exact congrArg Str.mk this
    rw [e]
    refine ⟨?_, ?_⟩
    · rw [Str_length, List.length_flatten, List.map_replicate, List.sum_replicate_nat]
      exact lim_size (by rw [Nat.mul_comm]; exact h4)
    · exact ⟨.str (mkS (List.replicate n.toNat a).flatten), H, I.tok _, ⟨_, rfl⟩, q⟩
/-! ### where a text stands in a text -/
end
end Den
set_option maxRecDepth 100000
/-! Constants of the module. -/
namespace Den
open PySem L2 PyProof.Rows
theorem se_gstr {G : Gx} {X : Cx} {x : Str} {l : List Nat} {pos : Pos} (hg : Gl X x) (hm : ∃ t, X.mg x = some (.str (mkS l) t)) (hd : (x == ("__debug__" : Str)) = false := by decide) : SE G X (.Name x pos) (mC (.str l)) := by
  obtain ⟨t, hm⟩ := hm
  exact se_glob (v := .str (mkS l)) hg hm ⟨t, rfl⟩ (fun H ρ => vr_str) hd
theorem se_gint {G : Gx} {X : Cx} {x : Str} {i : Int} {pos : Pos} (hg : Gl X x) (hm : ∃ t, X.mg x = some (.int i t)) (hd : (x == ("__debug__" : Str)) = false := by decide) : SE G X (.Name x pos) (mC (.int i)) := by
  obtain ⟨t, hm⟩ := hm
  exact se_glob (v := .int i) hg hm ⟨t, rfl⟩ (fun H ρ => vr_int) hd
theorem sp_gstr {K : PySem.W.Frag} {mg : Str → Option Value} {N : List Str} {sc : Scope} {x : Str} {l : List Nat} {pos : Pos} (hg : GlP sc x) (hm : ∃ t, mg x = some (.str (mkS l) t)) (hd : (x == ("__debug__" : Str)) = false := by decide) : SP K mg N sc (.Name x pos) (mC (.str l)) := by
  obtain ⟨t, hm⟩ := hm
  exact sp_glob hg hm (fun h => wv_str) hd
end Den
set_option maxRecDepth 100000
set_option maxHeartbeats 2000000
/-! Sets of ints and texts: a set comprehension behind sorted and len. -/
namespace Den
open PySem PySem.Spec L2 PyProof.Rows
/-- what a member is -/
def mK (e : Int × Value) : Key := match e.2 with
  | .int k _ => .inl k
  | .str x _ => .inr x
  | _ => .inl 0
def MOk (w : World) (e : Int × Value) : Prop := ∃ k, keyIs k e.2 = true ∧ e.1 = keyH w k
/-- the set at a: its members are L's, each once -/
def SetM (w : World) (h : Heap) (a : Addr) (L : List Key) : Prop :=
  ∃ o es ep t, h.get? a = some o ∧ o.ExactSet ∧ o.data = .set es ep t ∧ (∀ e ∈ es.toList, MOk w e) ∧ (es.toList.map mK).Perm L ∧ L.Nodup ∧
    es.size < scanBound ∧ t.fits es.size = true ∧ Ris t.place.toList ∧ (w.params.followText "set-order" = true ∨ t.led = true)
section
variable {P : Program} {w : World} {h h' : Heap} {a : Addr} {L : List Key}
theorem SetM.at (R : SetM w h a L) (k : ∀ o, h.get? a = some o → h'.get? a = some o) : SetM w h' a L := by
  obtain ⟨o, es, ep, t, ho, r⟩ := R
  exact ⟨o, es, ep, t, k o ho, r⟩
end
section
variable {P : Program} {w : World} {A : Around} {E : Value → Shared → Prop} {s : Shared} {a : Addr} {L : List Key}
end
/-! ### a new set -/
/-! ### as tracked things -/
section
variable {X : Cx}
end
end Den
set_option maxRecDepth 100000
set_option maxHeartbeats 2000000
/-! Set comprehensions of ints and texts. -/
namespace Den
open PySem PySem.Spec L2 PyProof.Rows
section
variable {X : Cx}
end
end Den
set_option maxRecDepth 100000
set_option maxHeartbeats 2000000
/-! Set comprehensions, read by a plain function. -/
namespace Den
open PySem PySem.Spec L2 PyProof.Rows
section
variable {K : PySem.W.Frag} {G : Gx} {H H1 : Hp} {ρ ρ1 : List Addr} {h : List O} {D : Addr} {f : Heap → Prop} {u : HO}
theorem ne_ext {a : Addr} {o : HO} (hD : H D = some (.ext f)) (e : H a = some o) (n : ∀ f, o ≠ .ext f) : a ≠ D := fun z => by
  subst z
  rw [hD] at e
  exact n f (Option.some.inj e).symm
theorem sqT_ext (hD : H D = some (.ext f)) {a : Addr} {vs : List V} (h : SqT K H a vs) : SqT K (upd H D u) a vs := by
  rcases h with (h | ⟨o, h⟩) | h
  · exact .inl (.inl (by rw [upd_ne (ne_ext hD h (fun f z => nomatch z))]; exact h))
  · exact .inl (.inr ⟨o, by rw [upd_ne (ne_ext hD h (fun f z => nomatch z))]; exact h⟩)
  · exact .inr h
mutual
theorem VR.updE (hD : H D = some (.ext f)) : ∀ {v : V} {w : W}, VR K H ρ v w → VR K (upd H D u) ρ v w
  | v, .non, h => h
  | v, .bl _, h => h
  | v, .int _, h => h
  | v, .str _, h => h
  | v, .tup xs, h => by
    unfold VR at h ⊢
    obtain ⟨a, vs, e, q, r⟩ := h
    exact ⟨a, vs, e, sqT_ext hD q, VRs.updE hD r⟩
  | v, .rol xs, h => by
    unfold VR at h ⊢
    obtain ⟨a, vs, e, q, r⟩ := h
    refine ⟨a, vs, e, ?_, VRs.updE hD r⟩
    rcases q with ⟨q | ⟨o, q⟩, n⟩ | q
    · exact .inl ⟨.inl (by rw [upd_ne (ne_ext hD q (fun f z => nomatch z))]; exact q), n⟩
    · exact .inl ⟨.inr ⟨o, by rw [upd_ne (ne_ext hD q (fun f z => nomatch z))]; exact q⟩, n⟩
    · exact .inr q
  | v, .ref n, h => by
    unfold VR at h ⊢
    exact h
theorem VRs.updE (hD : H D = some (.ext f)) : ∀ {vs : List V} {ws : List W}, VRs K H ρ vs ws → VRs K (upd H D u) ρ vs ws
  | vs, [], h => h
  | vs, w :: ws, h => by
    unfold VRs at h ⊢
    obtain ⟨v, r, e, q, z⟩ := h
    exact ⟨v, r, e, VR.updE hD q, VRs.updE hD z⟩
end
theorem KRs.updE (hD : H D = some (.ext f)) : ∀ {ps : List (Key × V)} {ws : List (W × W)}, KRs K H ρ ps ws → KRs K (upd H D u) ρ ps ws
  | vs, [], h => h
  | vs, (k, w) :: ws, h => by
    unfold KRs at h ⊢
    obtain ⟨q, v, r, e, a, b, c⟩ := h
    exact ⟨q, v, r, e, a.updE hD, b.updE hD, KRs.updE hD c⟩
theorem FRs.updE (hD : H D = some (.ext f)) : ∀ {ps : List (Str × V)} {ws : List (Str × W)}, FRs K H ρ ps ws → FRs K (upd H D u) ρ ps ws
  | vs, [], h => h
  | vs, (k, w) :: ws, h => by
    unfold FRs at h ⊢
    obtain ⟨v, r, e, b, c⟩ := h
    exact ⟨v, r, e, b.updE hD, FRs.updE hD c⟩
theorem SR.updE {σ : L2.St} {e : Env} (hD : H D = some (.ext f)) (s : SR K H ρ σ e) : SR K (upd H D u) ρ σ e := ⟨s.len, fun i w h => by
  obtain ⟨v, a, b⟩ := s.at_ i w h
  exact ⟨v, a, b.updE hD⟩⟩
theorem HR.updE (hD : H D = some (.ext f)) (hq : ∀ q, HO.ext f ≠ LamX.CodeO D q) (r : HR K G H ρ h) : HR K G (upd H D u) ρ h := by
  refine ⟨r.len, r.nd, fun n a o e1 e2 => ?_, fun p hp => ?_⟩
  · have q := r.ob n a o e1 e2
    cases o with
    | lst xs => obtain ⟨vs, e, q⟩ := q; exact ⟨vs, by rw [upd_ne (ne_ext hD e (fun f z => nomatch z))]; exact e, q.updE hD⟩
    | dic xs => obtain ⟨vs, e, q⟩ := q; exact ⟨vs, by rw [upd_ne (ne_ext hD e (fun f z => nomatch z))]; exact e, q.updE hD⟩
    | dik xs => obtain ⟨o, vs, e, q⟩ := q; exact ⟨o, vs, by rw [upd_ne (ne_ext hD e (fun f z => nomatch z))]; exact e, q.updE hD⟩
    | ins c fs => obtain ⟨C, dx, ps, c, e, q⟩ := q; exact ⟨C, dx, ps, c, by rw [upd_ne (ne_ext hD e (fun f z => nomatch z))]; exact e, q.updE hD⟩
  · obtain ⟨ps, e1, e2, e3⟩ := r.tb p hp
    refine ⟨ps, by rw [upd_ne (ne_ext hD e1 (fun f z => nomatch z))]; exact e1, e2, fun pos cv hc => ?_⟩
    obtain ⟨c, e, q⟩ := e3 pos cv hc
    refine ⟨c, e, ?_⟩
    rw [upd_ne fun z => by
      subst z
      rw [hD] at q
      exact hq _ (Option.some.inj q)]
    exact q
theorem Ext.updE (hD : H D = some (.ext f)) (n1 : H1 D = none) (x : Ext H1 ρ1 H ρ) : Ext H1 ρ1 (upd H D u) ρ :=
  ⟨fun a o e t n => by rw [upd_ne (ne_of_none e n1)]; exact x.fr a o e t n, x.pre, x.new, x.mu, fun a o u' e => by rw [upd_ne (ne_of_none e n1)]; exact x.lk a o u' e⟩
end
/-! ### the plain reading -/
end Den
set_option maxRecDepth 100000
set_option maxHeartbeats 2000000
/-! sorted and len of a set comprehension. -/
namespace Den
open PySem PySem.Spec L2 PyProof.Rows PySem.W LamX
theorem keyIs_rel {k : Key} {v : Value} (h : keyIs k v = true) : RelV (kV k) v := by
  rcases keyIs_shape h with ⟨i, t, rfl, rfl⟩ | ⟨x, t, rfl, rfl⟩ <;> exact ⟨t, rfl⟩
section
variable {P : Program} {w : World} {A : Around} {s : Shared} {a : Addr} {L : List Key}
end
section
variable {G : Gx} {X : Cx} {e : Expr} {ms : M (List Key)} {pos p : Pos}
end
end Den
set_option maxRecDepth 100000
set_option maxHeartbeats 2000000
/-! An own exception's __init__ that says super().__init__(a text) and keeps one field. -/
namespace Den
open PySem PySem.Spec PySem.Calls L2 PyProof.Rows PySem.W NdefX
section
variable {X : Cx} {pins : List (Addr × Obj)} {σ : L2.St} {H : Hp} {s : Shared} {A : Around} {E : Value → Shared → Prop}
/-- the bound __init__ of the built-in class, called -/
theorem call_mw {u a C : Addr} {us : List Value} {Q : Value → Shared → Prop} (T : OexC X.K C) (I : Inv X pins σ H s) (hu : s.heap.get? u = some (kxs_mw "ValueError.__init__" a)) (e : H a = some (exo a C none)) (hl : us.length ≤ sizeLine)
    (h : ∀ s', Inv X pins σ H s' → Q .none s') : wpAny (model X.prog X.w) A (call (.ref u) us) Q E s := by
  obtain ⟨nm, q, N, bs, bm, sn, sub, ab, col, dd, k0, k1, k2, k3, k5, hC, hbm⟩ := T.cls
  obtain ⟨t1, ho⟩ := exo_at I.hok e
  have hC' := I.kIn _ _ hC
  have fin : ∀ h', (∀ b o, b ≠ a → s.heap.get? b = some o → h'.get? b = some o) → h'.get? a = some (excRec (.ref C) s.heap.objs.size none .none .none (.bool false)) → h'.get? s.heap.objs.size = some (excTup us) → Q .none { s with heap := h' } := fun h' k hx _ => by
    have J := I.write (t' := s.toks) (x := a) (e := a) (o := exo a C none) (by rw [e]; exact True.intro) (.inl rfl) k ⟨_, hx⟩ (exo_ok hx)
    have eu : upd H a (exo a C none) = H := by
      funext b
      by_cases hb : b = a
      · rw [hb, upd_same, e]
      · rw [upd_ne hb]
    rw [eu] at J
    exact h _ J
  obtain ⟨hp, g, d, t, os⟩ := s
  refine wpAny_call (codeAny_of_tree ?_)
  show wpAny _ A.in1 (callAny (.ref u) ⟨us, []⟩) _ _ _
  simp only [callAny]
  refine wpAny_bind (wpAny_load hu ?_)
  simp only [kxs_mw, show (Value.type "method-wrapper" == Value.type "method" || Value.type "method-wrapper" == Value.type "builtin_function_or_method" || Value.type "method-wrapper" == Value.type "method-wrapper") = true by decide, if_true]
  refine KFB.if_so (by decide) ?_
  refine wpAny_bind (check_bound_init F.excBase_ValueError.toExcCallFacts hC' ho rfl ?_)
  refine wpAny_bind (wpAny_pure (wpAny_pure ?_))
  refine ⟨plainId_quiet F.excBase_ValueError.init.plain _, codeAny_builtin F.excBase_ValueError.initEntry ?_⟩
  exact exc_init_tree (cls := .ref C) (t0 := t1) (dv := none) (c2 := .none) (c3 := .none) (b4 := .bool false) ho hl fin
end
/-- what the text says of such a def -/
structure ESup (P : Program) (K : PySem.W.Frag) (F : NF) (f D : Addr) (slf fld msg : Str) : Prop where
  fn : ∃ oc od dV kV doc pm an ct osl, K.lookup f = some ⟨oc, od, .func (PySem.W.fnX F.name F.qual F.params F.body F.scope F.cl dV kV doc pm an (.ref F.c) ct), osl⟩
  cd : PySem.W.codeIn K (.ref F.c) F.qual = true
  fst : ∃ ar, (F.params.posonlyargs ++ F.params.args).head? = some ar ∧ ar.arg = slf
  code : ∃ ccl cdd vs ccs file tf, K.lookup F.c = some ⟨ccl, cdd, .fields vs, ccs⟩ ∧ vs[2]? = some (.str file tf) ∧ ((P.main.file : Str) == file) = true
  cell : ∃ cc cl cld csl, F.cl = [(("__class__" : Str), cc)] ∧ K.lookup cc = some ⟨cl, cld, .cell (some (.ref D)), csl⟩
  cls : ∃ cdD, PySem.W.clsIn K D = some cdD
  sub : PySem.W.mroIn K D (.ref D) = some true
  own : OexC K D
  sup : PySem.W.ks_superIn K D D "__init__" = some (some (.builtin "ValueError.__init__"))
  ve : PySem.W.subIn K (.ref D) (.type "ValueError") = some true
  opq : PySem.W.nsIn K cStatics "thirdparty.any" = some none
  no : PySem.W.findIn K (.ref D) fld = some none
  ks : F.scope.names.lookup ("super" : Str) = some .globalImplicit
  kc : F.scope.names.lookup ("__class__" : Str) = some .free
  ka : F.scope.names.lookup slf = some .local
  kind : F.scope.kind = .function
  top : (P.main.scope.names.lookup ("super" : Str)).isSome = false
section
variable {CX : CXT} {P : Program} {w : World} {K : PySem.W.Frag} {mg : Str → Option Value} {base : Heap} {N : List Str} {F : NF} {f D : Addr} {A : Around} {outer : List PySem.Env} {s0 s : Shared} {H0 H : Hp} {E : XK} {slf fld msg : Str} {σ : L2.St} {a : Addr}
theorem super_stmt {p0 p1 p2 p3 p4 p5 : Pos} {j : Nat} {pl : Sem Bool} {Q : Flow → Shared → Prop} {E' : Value → Shared → Prop} (S : ESup P K F f D slf fld msg) (hmg : mg "super" = none) (I : Inv (ncx CX P w K mg base N F f A outer s0 H0 E) [] σ H s)
    (hN : N[0]? = some slf) (hs : σ[0]? = some (some (.ref a))) (ha : H a = some (exo a D none))
    (he : eval (.Call (.Attribute (.Call (.Name "super" p0) [] [] p1) "__init__" p2) [.Constant (.str msg) j p3] [] p4) (envF F f s0.heap.objs.size) = (do
      let ov ← attributeBase (.Call (.Name "super" p0) [] [] p1) "__init__" (envF F f s0.heap.objs.size) (eval (.Call (.Name "super" p0) [] [] p1) (envF F f s0.heap.objs.size))
      standAt p2.atName
      let (g, first) ← holding [ov] (getMethod ov "__init__" pl)
      callWith p4 g first (backTo p4 (starEach [.Constant (.str msg) j p3] (envF F f s0.heap.objs.size))) []))
    (q : ∀ s', Inv (ncx CX P w K mg base N F f A outer s0 H0 E) [] σ H s' → Q .next s') :
    PySem.wpAt (model P w) (A.deeper (envF F f s0.heap.objs.size)) (.func F.body (envF F f s0.heap.objs.size)) (exec (.Expr (.Call (.Attribute (.Call (.Name "super" p0) [] [] p1) "__init__" p2) [.Constant (.str msg) j p3] [] p4) p5) (envF F f s0.heap.objs.size)) Q E' s := by
  obtain ⟨oc, od, dV, kV, doc, pm, an, ct, osl, lk⟩ := S.fn
  obtain ⟨ar, hp, har⟩ := S.fst
  obtain ⟨ccl, cdd, vs, ccs, file, tf, lc, hvs, hfile⟩ := S.code
  obtain ⟨cc, cl, cld, csl, hcl, lcell⟩ := S.cell
  obtain ⟨cdD, hcd⟩ := S.cls
  have KX : K.In s.heap := I.kIn
  obtain ⟨t1, ho⟩ := exo_at I.hok ha
  refine ks_wpAt_Expr_any (ks_wpAt_MethodCall (pl := pl) ?_ he) I.quiet rfl
  refine ks_wpAt_super_base (env := envF F f s0.heap.objs.size) S.ks S.kc (by decide) rfl (KX _ _ lk) rfl hp rfl (KX _ _ lc) rfl hvs hfile S.top ?_
  obtain ⟨mb, hb1, hb2⟩ := I.mod.blt
  refine ks_loadName_global S.kind S.ks (Calls.loadGlobal_builtin (env := envF F f s0.heap.objs.size) (mg := mg) (I.mod.glob.keeps I.bk) hmg (hb1.keeps I.bk) ((hb2 "super" (by decide)).trans (show bootBuiltins "super" = some (.type "super") by decide +kernel)) ⟨rfl, ?_⟩)
  refine wpAny_loadName_free S.kind S.kc (by show F.cl.lookup _ = _; rw [hcl]; rfl) ⟨_, KX _ _ lcell, rfl⟩ ?_
  obtain ⟨m, hns, hloc⟩ := I.loc
  obtain ⟨u, ru, hu⟩ := hloc 0 slf (.ref a) hN hs (.inl S.ka)
  obtain rfl : u = Value.ref a := ru
  have hu2 : m slf = some (.ref a) := by
    rcases hu with ⟨_, z⟩ | ⟨z, _⟩
    · exact z
    · exfalso
      have z : F.scope.names.lookup slf = some .cell ∨ F.scope.names.lookup slf = some .free := z
      rw [S.ka] at z
      rcases z with z | z <;> cases z
  refine wpAny_loadName_local S.kind (by rw [har]; exact S.ka) hns (by rw [har]; exact hu2) ?_
  obtain ⟨oD, hD1, hD2⟩ : ∃ oD, s.heap.get? D = some oD ∧ oD.data = .cls cdD := by
    unfold PySem.W.clsIn at hcd
    split at hcd
    · rename_i c d cd' sl hoo
      cases hcd
      exact ⟨_, KX _ _ hoo, rfl⟩
    · cases hcd
  obtain ⟨hp0, g, d, t, os⟩ := s
  refine ks_wpAny_isType_cls hD1 hD2 ⟨rfl, ?_⟩
  refine ks_wpAny_call_super hD1 hD2 ho rfl (fun c z => by cases z) (looks_mroIn KX S.sub) (fun h' e k => ?_)
  have IA : PySem.W.InstAt h' a _ D none := ⟨k _ _ ho, rfl, rfl, trivial⟩
  have KX' : K.In h' := KX.keeps k
  have I2 : Inv (ncx CX P w K mg base N F f A outer s0 H0 E) [] σ H ⟨h', g, d, t, os⟩ := I.kept k
  have hm := S.sup
  unfold ks_superIn at hm
  rw [hcd] at hm
  refine kxs_getMethod kxs_ValueError e (looks_opaque KX' S.opq) (l₀ := cdD.mro) (fun A Q E s k q => wpAny_bind ((looks_clsIn KX' hcd) A _ E s k (wpAny_pure q))) rfl KX' hm (IA.type.andThen (looks_subIn KX' S.ve)) (ks_ne KX' IA hcd) (by decide) ?_
  have I3 : Inv (ncx CX P w K mg base N F f A outer s0 H0 E) [] σ H ⟨h'.push (kxs_mw "ValueError.__init__" a), g, d, t + 1, os⟩ := I2.kept fun b o z => Heap.get?_push_of_some _ z
  refine kxs_callWith (i := "ValueError.__init__") (x := a) rfl (evalArgs_plain (PyProof.Rows.args_cons (Calls.Constant_str (PyProof.Rows.args_nil ⟨Heap.get?_push_size _ rfl, ?_⟩)) rfl))
  exact call_mw S.own (I3.tok _) (Heap.get?_push_size _ rfl) ha (by rw [sizeLine_eq]; simp) fun s' J => q s' J
end
end Den
set_option maxRecDepth 100000
set_option maxHeartbeats 2000000
/-! The whole __init__ of such an exception as a promise. -/
namespace Den
open PySem PySem.Spec PySem.Calls L2 PyProof.Rows PySem.W NdefX
/-- __init__(self, v): the field fld holds v -/
def spInit (D : Addr) (fld : Str) : Sp := fun vs H Q _ => ∃ (a : Addr) (v : V), vs = [.ref a, v] ∧ H a = some (exo a D none) ∧ ∀ dx, H dx = none → dx ≠ a → Q .non (upd (upd H dx (exd dx [(fld, v)])) a (exo a D (some dx)))
section
variable {CX : CXT} {P : Program} {w : World} {K : PySem.W.Frag} {mg : Str → Option Value} {base : Heap} {F : NF} {f D : Addr} {slf pn fld msg : Str} {k j : Nat}
theorem einit_ok {oc dV kV doc pm ct : Value} {od an : Option Addr} {osl : Array (Option Value)} {p0 p1 p2 p3 p4 p5 p6 p7 p8 p9 : Pos} {pl : Sem Bool} (S : ESup P K F f D slf fld msg)
    (lk : K.lookup f = some ⟨oc, od, .func (PySem.W.fnX F.name F.qual F.params F.body F.scope F.cl dV kV doc pm an (.ref F.c) ct), osl⟩)
    (hF : F.body = [.Expr (.Call (.Attribute (.Call (.Name "super" p0) [] [] p1) "__init__" p2) [.Constant (.str msg) j p3] [] p4) p5, .Assign [.Attribute (.Name slf p6) fld p7] (.Name pn p8) p9])
    (NS : NScope [slf, pn, "__class__"] [slf, pn] ["__class__"] F.scope) (hmg : mg "super" = none)
    (hd1 : (slf == ("__debug__" : Str)) = false) (hd2 : (slf == ("__classdict__" : Str)) = false) (hd3 : (pn == ("__debug__" : Str)) = false) (hd4 : (pn == ("__classdict__" : Str)) = false)
    (he : ∀ L, eval (.Call (.Attribute (.Call (.Name "super" p0) [] [] p1) "__init__" p2) [.Constant (.str msg) j p3] [] p4) (envF F f L) = (do
      let ov ← attributeBase (.Call (.Name "super" p0) [] [] p1) "__init__" (envF F f L) (eval (.Call (.Name "super" p0) [] [] p1) (envF F f L))
      standAt p2.atName
      let (g, first) ← holding [ov] (getMethod ov "__init__" pl)
      callWith p4 g first (backTo p4 (starEach [.Constant (.str msg) j p3] (envF F f L))) [])) :
    FnOk P w K mg base CX (k + 1) f (PySem.W.fnX F.name F.qual F.params F.body F.scope F.cl dV kV doc pm an (.ref F.c) ct) [slf, pn] (spInit D fld) := by
  refine ⟨fun vs H Q E ⟨a, v, e, _⟩ => by rw [e]; rfl, fun A outer s H args us vs Q E hr e0 hb r hsp => ?_⟩
  obtain ⟨a, v, rfl, ha, q⟩ := hsp
  obtain ⟨cc, cl, cld, csl, hcl, lcell⟩ := S.cell
  have KX : K.In s.heap := e0.mod.kin.keeps fun b o e => (e0.bs b o e).1
  have lim : s.heap.NoLimit := e0.mod.nolimit.keeps fun b o e => (e0.bs b o e).1
  refine codeAny_call_function hr.depth (KX _ _ lk) rfl NS.co NS.gen rfl (PySem.W.codeRec_of KX S.cd) (hb _ _ _ _ ?_)
  refine wpAny_newFunctionEnv NS.nocell (fun ⟨n, _⟩ hy => NS.par n (List.of_mem_zip hy).1) (fun h₁ hns hsb => ⟨lim.fresh _ hsb, ?_⟩) NS.kind
  show codeAny _ _ (.func F.body (envF F f s.heap.objs.size)) _ _
  have kp : ∀ b o, s.heap.get? b = some o → h₁.get? b = some o := fun b o e => hsb.extBut b o (Nat.ne_of_lt (Heap.lt_size e)) (Heap.get?_push_of_some _ e)
  have hcell : H cc = none := (e0.bs cc _ (e0.mod.kin _ _ lcell)).2
  have C : CellsAt F.cl ["__class__"] [none] s.heap H := by
    rw [hcl]
    have one : ∀ y c, ([(("__class__" : Str), cc)] : List (Str × Addr)).lookup y = some c → y = "__class__" ∧ c = cc := fun y c e => by
      have := PySem.mem_of_lookup e
      simp at this
      exact this
    refine ⟨rfl, fun y c e => ?_, fun x y c e1 e2 => (one x c e1).1.trans (one y c e2).1.symm, fun i y e => ?_⟩
    · rw [(one y c e).2]
      exact ⟨hcell, _, ⟨_, KX _ _ lcell, rfl⟩⟩
    · cases i with
      | zero =>
        cases (Option.some.inj (show some (("__class__" : Str)) = some y from e))
        refine ⟨cc, rfl, fun v z => ?_⟩
        have z : some (none : Option V) = some (some v) := z
        cases Option.some.inj z
      | succ i => cases e
  have I : Inv (ncx CX P w K mg base [slf, pn, "__class__"] F f A outer s H E) [] (startF [slf, pn, "__class__"] [.ref a, v] [none]) H { s with heap := h₁, toks := s.toks + ([slf, pn].zip us).length } := inv_startN NS hr.hd e0 rfl r C hns kp
  refine ks_codeAny_funcAt ?_
  rw [hF]
  refine ks_wpAt_execs_cons ?_
  rw [← hF]
  refine super_stmt S hmg I rfl rfl ha (he _) fun s' J => ?_
  refine wpAt_of_wpAny ?_
  have st2 := pss_one (ps_ost (X := ncx CX P w K mg base [slf, pn, "__class__"] F f A outer s H E) (p' := p7) (f := fld) (pos := p9) (pe_var (i := 0) (pos := p6) (x := slf) rfl (.inl S.ka) hd1 hd2) (pe_var (i := 1) (pos := p8) (x := pn) rfl (.inl (NS.par pn (by simp))) hd3 hd4))
  refine wpAny_mono (st2.run [] s' _ H { nx := fun _ H' => Q .non H', rt := fun _ _ => False } J ?_) (fun fl s'' hs => ?_) fun e s' hs => hs
  · exact ⟨v, rfl, .ref a, rfl, a, D, rfl, S.own, S.no, .inl ⟨ha, fun dx n ne => q dx n ne⟩⟩
  · cases fl with
    | next =>
      obtain ⟨σ', H', J, q⟩ := hs
      exact ⟨.non, H', J.os, J.bare, J.base, J.hok, rfl, q⟩
    | ret u =>
      obtain ⟨v, σ', H', J, rv, q⟩ := hs
      exact False.elim q
    | brk =>
      obtain ⟨_, _, _, q⟩ := hs
      exact False.elim q
    | cont =>
      obtain ⟨_, _, _, q⟩ := hs
      exact False.elim q
end
end Den
set_option maxRecDepth 100000
set_option maxHeartbeats 2000000
/-! raise of an own class whose __init__ keeps a field. -/
namespace Den
open PySem PySem.Spec L2 PyProof.Rows NdefX
/-- what is known of the class -/
structure ExF (P : Program) (w : World) (K : PySem.W.Frag) (mg : Str → Option Value) (base : Heap) (G : Gx) (k : Nat) (x : Str) (c : Nat) (C : Addr) : Prop where
  ca : G.ca c = some C
  own : OexC K C
  gl : mg x = some (.ref C)
  ini : ∃ fI fd ps, PySem.W.findIn K (.ref C) "__init__" = some (some (.ref fI)) ∧ PySem.W.typeIn K (.ref fI) = some (.type "function") ∧ FnOk P w K mg base (L2.CX P w) k fI fd ps (spInit C "place") ∧ Binds K fd ps []
def mRaiseF (c : Nat) (ma : M (List W)) : Sm := fun e h => (ma e h).stm e fun ws h => match ws with
  | [w] => .exc c (some w) e h
  | _ => .bad
section
variable {G : Gx} {X : Cx}
theorem upd_back {H : Hp} {a dx : Addr} {o1 o2 o3 o4 : HO} (ha : H a = none) (ne : dx ≠ a) : upd (del (upd (upd (upd H a o1) dx o2) a o3) a) dx o4 = upd H dx o4 := by
  funext b
  by_cases h1 : b = dx
  · rw [h1, upd_same, upd_same]
  · rw [upd_ne h1, upd_ne h1]
    by_cases h2 : b = a
    · rw [h2, del_same, ha]
    · rw [del_ne h2, upd_ne h2, upd_ne h1, upd_ne h2]
theorem ss_raiseF {x : Str} {c k : Nat} {C : Addr} {e : Expr} {ma : M (List W)} {p1 p3 pos : Pos} (T : ExF X.prog X.w X.K X.mg X.base G k x c C) (hr : Room (k + 1) X.A) (hg : Gl X x) (ha : SA G X [e] ma) (hc : X.calm = true := by rfl) (hdb : (x == ("__debug__" : Str)) = false := by decide)
    (he : starEach [e] X.env = (false, eval e X.env) :: starEach [] X.env := by rfl) : SS G X (.Raise (some (.Call (.Name x p1) [e] [] p3)) none pos) (mRaiseF c ma) := fun Wx tk => by
  obtain ⟨fI, fd, ps, iC, tI, F1, hb⟩ := T.ini
  refine (L2.ps_raise hc tk (pmk_oex (ds := []) (dvs := []) (p := p1) (pos := p3) T.own iC tI F1 hr hb .nil passL hg T.gl (ha Wx tk) hdb he rfl)).imp fun D σ H p => ?_
  refine rdS.stm (Rel := VsRel X.K) p fun H0 ρ0 e sr vs H1 ρ1 h1 ws x1 r q p1 => ?_
  match ws, q, p1 with
  | [], _, p1 => exact p1.elim
  | _ :: _ :: _, _, p1 => exact p1.elim
  | [w], q, p1 =>
    obtain ⟨v, rfl, rv⟩ := VRs.inv1 q
    refine ⟨by simp, fun a hn => ⟨a, v, rfl, upd_same, fun dx hd ne => ⟨rfl, dx, [("place", v)], upd_same, by rw [upd_ne ne]; exact upd_same, ?_, ?_⟩⟩⟩
    · rw [upd_ne ne] at hd; exact hd
    · rw [upd_ne ne] at hd
      rw [upd_back hn ne]
      obtain ⟨r2, x2⟩ := r.other (o := .xd [("place", v)]) hd
      exact p1 ρ1 _ σ (.ref C) (some dx) x2 r2 ((sr.mono x1).mono x2) ⟨C, T.ca, rfl, dx, v, rfl, upd_same, rv.mono x2⟩
end
end Den
set_option maxRecDepth 100000
set_option maxHeartbeats 2000000
/-! isinstance of a caught error that has fields. -/
namespace Den
open PySem PySem.Spec PySem.Calls L2 PyProof.Rows PySem.W
section
variable {prog : Program} {w : World} {A : Around} {E : Value → Shared → Prop} {s : Shared} {K : Frag} {x D : Addr} {ox od : Obj}
theorem cls_exc {Q : Option Value → Shared → Prop} (C : ExcC K D) (X : K.In s.heap) (I : PySem.W.InstAt s.heap x ox D (some od)) (h : Q (some (.ref D)) { s with toks := s.toks + 1 }) : wpAny (model prog w) A (getAttr? (.ref x) "__class__") Q E s := by
  have hf : findObj K D (some od) "__class__" = some (.bind (.builtin "getset_descriptor.__get__") (.builtin "object.__class__")) := findObj_data (by obtain ⟨cd, hc, _⟩ := any_some C.hd; rw [hc]; rfl) C.ha C.hn C.ht
  obtain ⟨hp, g, d, t, os⟩ := s
  have L0 := I.type (M := model prog w)
  have L1 := looks_findIn (M := model prog w) X C.hg
  have L2 := looks_findIn (M := model prog w) X C.hk
  have L3 := looks_find (M := model prog w) X I hf
  have sub : Looks (model prog w) hp (isInstance (.ref x) (.type "BaseException")) true := L0.andThen (looks_subIn X C.hs)
  have hx0 : (false && onTheHeap (Value.builtin "BaseException.__getattribute__")) = false := rfl
  have hx1 : (onTheHeap (Value.ref D) && Value.builtin "BaseException.__getattribute__" == Value.builtin "object.__getattribute__") = false := by
    rw [show (Value.builtin "BaseException.__getattribute__" == Value.builtin "object.__getattribute__") = false by decide +kernel]
    rfl
  unfold getAttr? getAttrBy? getAttrBy
  refine wpAny_bind (wpAny_mkText (wpAny_bind (wpAny_attempt (wpAny_holding (wpAny_bind (L0.at (wpAny_bind (L1.at ?_))))))))
  show wpAny _ _ (if (onTheHeap (Value.ref D) && Value.builtin "BaseException.__getattribute__" == Value.builtin "object.__getattribute__") = true then _ else _) _ _ _
  rw [hx1, if_neg Bool.false_ne_true]
  unfold getAttrByItsOwn hookBefore
  refine wpAny_bind ?_
  rw [if_pos (show onTheHeap (Value.ref D) = true from rfl)]
  refine L2.at (wpAny_bind (wpAny_attempt (wpAny_holding ?_)))
  unfold callGetattribute
  rw [hx0, if_neg Bool.false_ne_true]
  unfold boundAndCalled
  rw [PySem.F.excAttr_ValueError.ga.bind (.ref x)]
  refine wpAny_bind (wpAny_pure ?_)
  show wpAny _ _ (call (.builtin "BaseException.__getattribute__") [.ref x, .str "__class__" t]) _ _ _
  refine wpAny_call (codeAny_call_builtin PySem.F.excAttr_ValueError.ga.plain PySem.F.entry_bexc_ga ?_)
  refine @check_slot (model prog w) _ _ ⟨hp, g, d, t + 1, os⟩ "BaseException.__getattribute__" "BaseException" "__getattribute__" (.ref x) [.str "__class__" t] [] _ (by decide +kernel) (by decide +kernel) sub (PySem.F.args_bexc_ga (.ref x) (.str "__class__" t)) ?_
  unfold Builtin.«object.__getattribute__»
  refine wpAny_bind (wpAny_of_eq (a := ((Value.ref x : Value), [Value.str "__class__" t])) (by first | rfl | (simp only [slotArgs]; rfl)) ?_)
  refine wpAny_bind (wpAny_pure (wpAny_bind (L0.at (wpAny_bind (L3.at ?_)))))
  show wpAny _ _ (holding [Value.builtin "object.__class__"] (call (.builtin "getset_descriptor.__get__") [.builtin "object.__class__", .ref x, .ref D]) >>= ret) _ _ _
  refine wpAny_bind (wpAny_holding (wpAny_call (class_get (s := ⟨hp, g, d, t + 1, os⟩) (ox := ox) (od := some od) X I C.hm ?_)))
  refine wpAny_pure ?_
  show wpAny _ _ (handedOut (.ref D)) _ _ _
  rw [handedOut_of (v := .ref D) rfl]
  first
    | exact wpAny_pure (wpAny_pure h)
    | exact wpAny_pure h
    | exact wpAny_pure (wpAny_bind (wpAny_pure (wpAny_pure h)))
theorem kit_exc (C : ExcC K D) : KitX K (.ref x) (.ref D) (fun h => PySem.W.InstAt h x ox D (some od)) where
  ty := fun _ _ _ I => I.type
  it := fun _ _ X _ => by
    obtain ⟨cdD, hcD, _⟩ := any_some C.hd
    unfold clsIn at hcD
    split at hcD
    · rename_i c' d' cd' sl' ho
      exact fun A' Q' E' s' k q => by
        unfold isType loadHead
        exact wpAny_bind (wpAny_loadPart (k _ _ (X _ _ ho)) (wpAny_pure q))
    · cases hcD
  ne := fun h tp dd its n sl X htp => by
    obtain ⟨cdD, hcD, _⟩ := any_some C.hd
    refine Bool.eq_false_iff.mpr fun q => ?_
    have e : D = tp := Value.ref.inj (beq_iff_eq.mp q)
    subst e
    unfold clsIn at hcD
    split at hcD
    · rename_i c' d' cd' sl' ho
      have z := (X _ _ ho).symm.trans htp
      cases z
    · cases hcD
  ca := fun X I k => cls_exc C X I k
end
/-- isinstance(e, c), e the exception that the suite holds, with fields -/
def rIsF (K : PySem.W.Frag) (D a : Addr) (d : Option Addr) : List V → Hp → VK → Prop := fun xs H Q => ∃ (c : V) (cv : Value) (b : Bool) (dd : Addr) (fs : List (Str × V)), xs = [.ref a, c] ∧ (∀ u, RelV c u → u = cv) ∧ PySem.W.kitOne K (.ref D) cv = some b ∧ d = some dd ∧ H dd = some (.xd fs) ∧ Q (.bl b) H
theorem call_isF {X : Cx} {a D : Addr} {d : Option Addr} {oe : Obj} {pn : List (Addr × Obj)} (C : ExcC X.K D) (hz : Zc (.ref D) d oe) (hf : ∃ vs, oe.data = .fields vs) : CallR (X.suite a ((a, oe) :: pn)) (.builtin "isinstance") (rIsF X.K D a d) := by
  intro pins s σ H xs us Q I r h
  obtain ⟨c, cv, b, dd, fs, rfl, hcv, e, rfl, hdd, q⟩ := h
  cases r with
  | cons rx rr =>
    cases rr with
    | cons rt rr =>
      cases rr
      cases rx
      have ec := hcv _ rt
      subst ec
      obtain ⟨hget, _⟩ := I.pin (a, oe) (List.mem_append.mpr (.inl List.mem_cons_self))
      obtain ⟨vs, hv⟩ := hf
      have hx : ObjOk X.prog X.w H s.heap dd (.xd fs) := I.hok dd _ hdd
      obtain ⟨mA, hns, _⟩ := hx
      obtain ⟨od, ho, _⟩ := lookIn_ns hns
      have J : PySem.W.InstAt s.heap a oe D (some od) := ⟨hget, hz.1, by unfold PySem.W.notCls; rw [hv], by rw [hz.2]; exact ho⟩
      exact PySem.W.kia_one (kit_exc C) I.kIn J e (fun z => nomatch z) fun tk => ⟨.bl b, H, I.kept (t' := tk) fun _ _ z => z, rfl, q⟩
end Den
/-! All of the layer. -/
set_option maxRecDepth 100000
set_option maxHeartbeats 2000000
/-! enumerate of a list. -/
namespace Den
open PySem L2 PyProof.Rows
section
variable {G : Gx} {X : Cx} {K : PySem.W.Frag} {H : Hp} {ρ : List Addr}
end
end Den
set_option maxRecDepth 100000
set_option maxHeartbeats 2000000
/-! range with a step. -/
namespace Den
open PySem L2 PyProof.Rows
section
variable {G : Gx} {X : Cx} {K : PySem.W.Frag} {H : Hp} {ρ : List Addr}
end
end Den
set_option maxRecDepth 100000
set_option maxHeartbeats 2000000
/-! reversed of a text. -/
namespace Den
open PySem PySem.Spec L2 PyProof.Rows
/-- a reversed text under way, the next place i -/
structure RsAt (h : Heap) (a : Addr) (x : Str) (t : Tok) (i : Int) : Prop where
  ex : ∃ o : Obj, h.get? a = some o ∧ o.cls = .type "reversed" ∧ o.data = .fields #[.str x t, rawInt i]
theorem RsAt.at {h h' : Heap} {a : Addr} {x : Str} {t : Tok} {i : Int} (r : RsAt h a x t i) (e : ∀ o, h.get? a = some o → h'.get? a = some o) : RsAt h' a x t i :=
  match r.ex with
  | ⟨o, ho, z⟩ => ⟨o, e o ho, z⟩
section
variable {prog : Program} {w : World} {A : Around} {E : Value → Shared → Prop} {s : Shared} {x : Str} {t : Tok}
theorem RsAt.ty {a : Addr} {i : Int} (r : RsAt s.heap a x t i) : s.TypeIs (.ref a) "reversed" :=
  match r.ex with
  | ⟨o, ho, c, _⟩ => ⟨o, ho, c⟩
end
/-! ### what is walked -/
end Den
set_option maxRecDepth 100000
set_option maxHeartbeats 2000000
/-! list of a text, how often a sign stands in a text, list.extend. -/
namespace Den
open PySem PySem.Spec L2 PyProof.Rows
section
variable {prog : Program} {w : World} {A : Around} {E : Value → Shared → Prop} {s : Shared} {x : Str} {t : Tok}
end
section
variable {X : Cx} {G : Gx}
/-! ### how often -/
/-! ### list.extend -/
end
end Den
set_option maxRecDepth 100000
set_option maxHeartbeats 2000000
/-! Orders of plain data, calculated. -/
namespace Den
open PySem L2
/-! ### texts in lists -/
/-! ### new lists, told by what they hold -/
theorem Gr.len {h h' : List O} (g : Gr h h') : h.length ≤ h'.length := by
  obtain ⟨j, rfl⟩ := g
  rw [List.length_append]; omega
end Den
set_option maxRecDepth 100000
set_option maxHeartbeats 2000000
/-! x(lambda: e), x a def that tells the place of an own error; defs that call themselves; where among truth values. -/
namespace Den
open PySem PySem.Spec PySem.Calls L2 PyProof.Rows LamX
section
variable {X : Cx}
/-- a wish that need only hold where the frame is whole -/
theorem takes_len {W : WX} (t : Takes X W) : Takes X (fun cls d σ H => σ.length = X.N.length → W cls d σ H) := fun u s' ⟨a, B, sI, pins, σ, H, cls, d, e, I, nb, up, sky, na, os, ag, w⟩ =>
  t u s' ⟨a, B, sI, pins, σ, H, cls, d, e, I, nb, up, sky, na, os, ag, w I.len⟩
end
section
variable {G : Gx} {X : Cx}
/-! ### defs that call themselves -/
def mNever : Sm := fun _ _ => .bad
theorem sss_bad {s : List Stmt} : SSs G X s mNever := fun Wx tk => ⟨fun pins s' σ H D I h => by
  obtain ⟨ρ, e, h0, hr, sr, p⟩ := h
  exact p.elim⟩
/-! ### where among truth values -/
theorem bools_ok {K : PySem.W.Frag} {H : Hp} {ρ : List Addr} : ∀ {ws : List W} {vs : List V} {l : List Bool}, VRs K H ρ vs ws → bools ws = some l → vs = l.map V.bl
  | [], vs, l, r, e => by cases e; exact r.inv0
  | .bl b :: ws, vs, l, r, e => by
    unfold bools at e
    unfold VRs at r
    obtain ⟨v, t, rfl, q1, z⟩ := r
    cases hw : bools ws with
    | none => rw [hw] at e; cases e
    | some m =>
      rw [hw] at e
      cases e
      rw [q1.bl, bools_ok z hw]
      rfl
  | .non :: ws, vs, l, r, e => by cases e
  | .int _ :: ws, vs, l, r, e => by cases e
  | .str _ :: ws, vs, l, r, e => by cases e
  | .tup _ :: ws, vs, l, r, e => by cases e
  | .rol _ :: ws, vs, l, r, e => by cases e
  | .ref _ :: ws, vs, l, r, e => by cases e
def oIndexB (x : W) (ws : List W) (h : List O) : Out W := match ws with
  | [.bl b] => match sqL x h with
    | some xs => match bools xs with
      | some l => match idxOf b l with
        | some j => .ok (.int j) h
        | none => .bad
      | none => .bad
    | none => .bad
  | _ => .bad
theorem flat_bls (l : List Bool) : (l.map V.bl).all flatV = true := by
  rw [List.all_eq_true]
  intro v hv
  obtain ⟨b, _, rfl⟩ := List.mem_map.1 hv
  rfl
theorem eqV_bl (a b : Bool) : eqV (V.bl a) (V.bl b) = (a == b) := by cases a <;> cases b <;> rfl
theorem mes_indexB : MeS G X "list.index" oIndexB := ⟨_, mt_index, fun E H ρ h x wx vs ws Q hr rx r p => by
  unfold oIndexB at p
  split at p
  · rename_i b
    split at p
    · rename_i xs hx
      split at p
      · rename_i l hl
        split at p
        · rename_i j hj
          obtain ⟨y, rfl, ry⟩ := r.inv1
          obtain ⟨a, vs, rfl, q, z⟩ := sqL_ok hr rx hx
          obtain ⟨⟨t, h1, h2⟩, h3⟩ := idxOf_ok hj
          rw [bools_ok z hl] at q
          refine ⟨a, _, _, j, V.bl t, rfl, by rw [ry.bl], q, rfl, flat_bls l, by rw [List.getElem?_map, h1]; rfl, by rw [eqV_bl]; exact h2, fun m z' hm hz => ?_, p.here hr vr_int⟩
          rw [List.getElem?_map] at hz
          cases hm2 : l[m]? with
          | none => rw [hm2] at hz; cases hz
          | some u =>
            rw [hm2] at hz
            cases hz
            show eqV (V.bl u) (V.bl b) = false
            rw [eqV_bl]
            exact h3 m u hm hm2
        · exact False.elim p
      · exact False.elim p
    · exact False.elim p
  · exact False.elim p⟩
end
end Den
set_option maxRecDepth 100000
set_option maxHeartbeats 2000000
/-! An own error with a field: what the text says, gathered. -/
namespace Den
open PySem PySem.Spec PySem.Calls L2 PyProof.Rows PySem.W NdefX
def clsBody (s : Stmt) : List Stmt := match s with
  | .ClassDef _ _ _ b _ _ _ _ _ _ _ => b
  | _ => []
/-- what a def that tells the place of such an error asks of the class at CB and of the one above it -/
structure PlaceOk (K : PySem.W.Frag) (mg : Str → Option Value) (xc ci fld : Str) (CB CI : Addr) : Prop where
  mB : mg xc = some (.ref CB)
  mI : mg ci = some (.ref CI)
  hC : ExcC K CB
  hX : XfC K CB
  hno : PySem.W.findIn K (.ref CB) fld = some none
  hm : PySem.W.exmOne K (.ref CB) (.ref CB) = some true
  k1 : PySem.W.kitOne K (.ref CB) (.ref CI) = some true
  k2 : PySem.W.kitOne K (.ref CB) (.type "ValueError") = some true
theorem ap_RaiseF {c : Nat} {ma : M (List W)} {e : Env} {h : List O} : mRaiseF c ma e h = (ma e h).stm e fun ws h => match ws with
  | [w] => .exc c (some w) e h
  | _ => .bad := nrfl rfl
end Den
set_option maxRecDepth 100000
set_option maxHeartbeats 2000000
/-! a text times any small int. -/
namespace Den
open PySem L2 PyProof.Rows
section
variable {G : Gx} {X : Cx}
theorem op_smulN : OpR X (binaryOp .Mult) (fun x y H Q => ∃ (a : List Nat) (n : Int), x = .str (mkS a) ∧ y = .int n ∧ -1000000 ≤ n ∧ n ≤ 1000000 ∧ 0 < a.length ∧ a.length * n.toNat ≤ lim ∧ Q (.str (mkS (List.replicate n.toNat a).flatten)) H) := by
  intro pins s σ H x y v u Q I rx ry h
  obtain ⟨a, n, rfl, rfl, h1, h2, h3, h4, q⟩ := h
  by_cases hn : 2 ≤ n
  · exact op_smul pins s σ H _ _ v u Q I rx ry ⟨a, n, rfl, rfl, hn, h2, h3, h4, q⟩
  obtain ⟨t, rfl⟩ := rx
  obtain ⟨t', rfl⟩ := ry
  have hlen : (mkS a).length = a.length := Str_length a
  refine P.mul_str (by rw [decide_eq_false (by omega), decide_eq_false (by omega)]; rfl) (fun g1 g2 => ?_) (fun g1 g2 => ?_) ?_
  · exfalso
    have : n = 1 := by omega
    subst this
    simp at g2
  · exfalso
    have : n = 1 := by omega
    subst this
    simp at g2
  · by_cases h0 : n < 1
    · rw [if_pos h0]
      have e : n.toNat = 0 := by omega
      rw [e] at q
      exact ⟨by decide, .str (mkS []), H, I.tok _, ⟨_, rfl⟩, q⟩
    · have e1 : n = 1 := by omega
      subst e1
      rw [if_neg h0, if_pos (by simp)]
      refine ⟨.str (mkS a), H, I, ⟨_, rfl⟩, ?_⟩
      have e : (List.replicate (1 : Int).toNat a).flatten = a := by simp
      rw [e] at q
      exact q
def oMulN (x y : W) (h : List O) : Out W := match x, y with
  | .str a, .int n => if -1000000 ≤ n ∧ n ≤ 1000000 ∧ 0 < a.length ∧ a.length * n.toNat ≤ lim then .ok (.str (List.replicate n.toNat a).flatten) h else .bad
  | _, _ => .bad
theorem ops_smulN : OpS G X (binaryOp .Mult) oMulN := ⟨_, op_smulN, fun E H ρ h x y wx wy Q hr rx ry p => by
  unfold oMulN at p
  split at p
  · split at p
    · rename_i hc
      exact ⟨_, _, rx.str, ry.int, hc.1, hc.2.1, hc.2.2.1, hc.2.2.2, p.here hr vr_str⟩
    · exact p.elim
  · exact p.elim⟩
end
end Den
set_option maxRecDepth 100000
/-! More calculation. -/
namespace Den
open PySem L2
theorem cut_over {α : Type} {xs : List α} {i j : Nat} (h : i ≤ xs.length) (hij : i ≤ j) : cutW xs (some (i : Int)) (some (j : Int)) = (xs.drop i).take (j - i) := by
  unfold cutW
  rw [HT.sIx_nat, HT.sIx_nat, Nat.min_eq_left h]
  by_cases q : j ≤ xs.length
  · rw [Nat.min_eq_left q]
  · rw [Nat.min_eq_right (by omega), List.take_of_length_le (by rw [List.length_drop]; omega), List.take_of_length_le (by rw [List.length_drop]; omega)]
theorem cut_overZ {α : Type} {xs : List α} {i j : Int} (h0 : 0 ≤ i) (h : i ≤ xs.length) (hij : i ≤ j) : cutW xs (some i) (some j) = (xs.drop i.toNat).take (j - i).toNat := by
  obtain ⟨a, rfl⟩ : ∃ a : Nat, i = a := ⟨i.toNat, by omega⟩
  obtain ⟨b, rfl⟩ : ∃ b : Nat, j = b := ⟨j.toNat, by omega⟩
  rw [cut_over (by omega) (by omega), Int.toNat_natCast]
  congr 1
  omega
theorem mVar_set {e : Env} {i : Nat} {w : W} {h : List O} (hi : i < e.length) : mVar i (e.set i (some w)) h = .ok w h := by
  unfold mVar
  rw [List.getElem?_set_self hi]
theorem frzE_len {h : List O} {e : Env} : (frzE h e).length = e.length := by unfold frzE; rw [List.length_map]
theorem ap_GIs {m : M W} {e : Env} {h : List O} {s : List Nat} (h1 : m e h = .ok (.str s) h) : mGItems m e h = .ok (s.map fun c => .str [c]) h := by
  unfold mGItems
  rw [h1]
  rfl
theorem ninS_eq {c : Nat} {s : List Nat} {h : List O} : oNinS (.str [c]) (.str s) h = .ok (.bl (!decide (c ∈ s))) h := nrfl rfl
end Den
set_option maxRecDepth 100000
set_option maxHeartbeats 2000000
/-! sum of a row of numbers. -/
namespace Den
open PySem PySem.Spec PySem.Calls L2 PyProof.Rows PyProof.V
section
variable {G : Gx} {X : Cx}
end
end Den
set_option maxRecDepth 100000
set_option maxHeartbeats 2000000
/-! A dict made on the way and walked: locked from then on. -/
namespace Den
open PySem L2 PyProof.Rows
section
variable {G : Gx} {X : Cx} {e : Expr} {m : M W}
end
end Den
set_option maxRecDepth 100000
set_option maxHeartbeats 4000000
/-! enumerate of a list or of a tuple. -/
namespace Den
open PySem PySem.Spec PySem.Calls L2 PyProof.Rows
open PySem.AutoSeq1 (wpAny_loadPart')
section
variable {G : Gx} {X : Cx} {K : PySem.W.Frag} {H : Hp} {ρ : List Addr}
end
end Den
set_option maxRecDepth 100000
set_option maxHeartbeats 2000000
/-! Methods of texts: split, find, rfind, endswith; list.pop(0). -/
namespace Den
open PySem PySem.Spec L2 PyProof.Rows
section
variable {G : Gx} {X : Cx}
def cps (s : Str) : List Nat := s.cps.toList
theorem mkS_cps (s : Str) : mkS (cps s) = s := by
  cases s with
  | mk a => show (⟨a.toList.toArray⟩ : Str) = _; simp
def splitP (a b : List Nat) : List (List Nat) := (Txt.split (mkS a) (mkS b)).map cps
theorem vrs_txts {K : PySem.W.Frag} {H : Hp} {ρ : List Addr} : ∀ ys : List Str, VRs K H ρ (ys.map V.str) ((ys.map cps).map .str)
  | [] => .nil
  | y :: ys => by
    rw [List.map_cons, List.map_cons, List.map_cons]
    refine .cons ?_ (vrs_txts ys)
    show VR K H ρ (V.str y) (.str (cps y))
    unfold VR
    show V.str y = V.str ⟨(cps y).toArray⟩
    rw [show (⟨(cps y).toArray⟩ : Str) = y from mkS_cps y]
def oSSplit (x : W) (ws : List W) (h : List O) : Out W := match x, ws with
  | .str a, [.str b] => if b ≠ [] ∧ a.length + 2 ≤ lim then .ok (.ref h.length) (h ++ [.lst ((splitP a b).map .str)]) else .bad
  | _, _ => .bad
theorem mes_ssplit : MeS G X "str.split" oSSplit := ⟨_, mt_split, fun E H ρ h x wx vs ws Q hr rx r p => by
  unfold oSSplit at p
  split at p
  · rename_i a b
    split at p
    · rename_i hc
      obtain ⟨v, rfl, q⟩ := VRs.inv1 r
      refine ⟨mkS a, mkS b, rx.str, by rw [q.str], ?_, by rw [Str_length]; exact lim_size hc.2, ?_⟩
      · have := List.length_pos_iff.2 hc.1
        rw [Str_length]
        simp
        exact hc.1
      · exact new_lst hr (vrs_txts _) p
    · exact p.elim
  · exact p.elim⟩
def oSFind3 (x : W) (ws : List W) (h : List O) : Out W := match x, ws with
  | .str a, [.str b, .int i] => .ok (.int (Txt.find3 (mkS a) (mkS b) i)) h
  | _, _ => .bad
theorem mes_sfind3 : MeS G X "str.find" oSFind3 := ⟨_, mt_find3, fun E H ρ h x wx vs ws Q hr rx r p => by
  unfold oSFind3 at p
  split at p
  · rename_i a b i
    obtain ⟨v, v', rfl, q, q'⟩ := VRs.inv2 r
    exact ⟨mkS a, mkS b, i, rx.str, by rw [q.str, q'.int], p.here hr vr_int⟩
  · exact p.elim⟩
end
end Den
set_option maxRecDepth 100000
set_option maxHeartbeats 2000000
/-! any, all of a generator over a tuple of pairs. -/
namespace Den
open PySem L2 PyProof.Rows PySem.W LamX
section
variable {P : Program} {w : World} {A : Around} {E : Value → Shared → Prop} {s : Shared}
end
structure WkU (P : Program) (w : World) (s1 : Shared) (u : Value) (n : Nat) (Pt : Nat → Array Value → Prop) : Prop where
  run : ∀ (A : Around) (Q : Value → Shared → Prop) (E : Value → Shared → Prop), A.handled = none →
    (∀ (o : Obj) (fp : List Addr) (St : Nat → Heap → Prop) (Mid : Nat → Addr → Heap → Prop), (∀ A' : Around, A'.handled = none → WalksU P w A' s1.heap.objs.size (s1.heap.objs.size :: fp) [s1.heap.objs.size] n Pt St Mid) → St 0 (s1.heap.push o) →
      (∀ b ∈ fp, ∃ ob, s1.heap.get? b = some ob ∧ ∀ fs, ob.data ≠ .fields fs) → Q (.ref s1.heap.objs.size) { s1 with heap := s1.heap.push o }) → wpAny (model P w) A (pyIter u) Q E s1
theorem WV.pairs {h : Heap} {u : Value} {a b : W} (x : WV h u (.tup [a, b])) : ∃ T va vb, u = .ref T ∧ IsTup h T #[va, vb] ∧ WV h va a ∧ WV h vb b := by
  unfold WV at x
  obtain ⟨T, vs, e, q, _, r⟩ := x
  unfold WVs at r
  obtain ⟨va, r1, rfl, ra, r⟩ := r
  unfold WVs at r
  obtain ⟨vb, r2, rfl, rb, r⟩ := r
  unfold WVs at r
  subst r
  exact ⟨T, va, vb, e, q, ra, rb⟩
section
variable {X : Cx} {pins : List (Addr × Obj)} {σ : L2.St} {H : Hp} {s : Shared}
end
/-- the generator's own scope, two names -/
structure GenP2 (sc scope : Scope) (x y : Str) : Prop where
  kind : scope.kind = .function
  co : scope.isCoroutine = false
  cell : ∀ y ∈ scope.names, y.2 ≠ .cell
  dot : scope.names.lookup (".0" : Str) = some NameKind.local
  loc : scope.names.lookup x = some .local
  loc2 : scope.names.lookup y = some .local
  ne : x ≠ y
  own : ∀ z, scope.names.lookup z = some .local → z = x ∨ z = y ∨ z = ".0"
  free : ∀ y ∈ scope.names, y.2 = .free → sc.names.lookup y.1 = some .cell ∨ sc.names.lookup y.1 = some .free
section
variable {X : Cx} {pins : List (Addr × Obj)} {σ : L2.St} {H : Hp} {s : Shared} {G : Gx}
end
/-! ### any, all -/
section
variable {G : Gx} {X : Cx} {e : Expr} {m : M W} {mit : M (List W)} {pos p : Pos}
end
end Den
set_option maxRecDepth 100000
set_option maxHeartbeats 2000000
/-! e.replace(sign, ''): behind a local's store a token is out. -/
namespace Den
open PySem PySem.Spec L2 PyProof.Rows
/-- behind t a token is out -/
def Draws {α : Type} (t : Sem α) : Prop := ∀ (M : Model) (Γ : PySem.Ctx) (Q : α → Pos → Shared → Prop) (E : Value → Pos → Shared → Prop) (p : Pos) (s : Shared), Sem.wp M Γ t Q E p s → Sem.wp M Γ t (fun a p' s' => 1 ≤ s'.toks ∧ Q a p' s') E p s
theorem Draws.any {α : Type} {t : Sem α} (h : Draws t) {M : Model} {A : Around} {Q : α → Shared → Prop} {E : Value → Shared → Prop} {s : Shared} (q : wpAny M A t Q E s) : wpAny M A t (fun a s' => 1 ≤ s'.toks ∧ Q a s') E s :=
  fun Γ p hΓ => h M Γ _ _ p s (q Γ p hΓ)
section
variable {X : Cx} {e a b : Expr} {te ta tb : TE} {pos : Pos} {rest : List Stmt} {u t : TS}
end
/-! ### by plain functions -/
section
variable {G : Gx} {X : Cx} {s : Stmt} {sts : List Stmt} {e a b o : Expr} {m ma mb : M W} {ta tb : M Bool} {A B : Sm} {pos p apos c0 c1 : Pos} {op : W → W → List O → Out W}
end
end Den
set_option maxRecDepth 100000
set_option maxHeartbeats 2000000
/-! Calculation: sets of texts, least of tuples of numbers, their order. -/
namespace Den
open PySem L2
/-! ### sets of texts -/
def kS (s : List Nat) : Key := .inr (mkS s)
/-- rising texts -/
def RsS (l : List (List Nat)) : Prop := l.Pairwise (· < ·)
theorem RsS.ext : ∀ {l l' : List (List Nat)}, RsS l → RsS l' → (∀ z, z ∈ l ↔ z ∈ l') → l = l'
  | [], [], _, _, _ => rfl
  | [], y :: l', _, _, h => absurd ((h y).2 List.mem_cons_self) (by simp)
  | x :: l, [], _, _, h => absurd ((h x).1 List.mem_cons_self) (by simp)
  | x :: l, y :: l', r, r', h => by
    have a := List.pairwise_cons.1 r
    have b := List.pairwise_cons.1 r'
    have e : x = y := by
      rcases List.mem_cons.1 ((h x).1 List.mem_cons_self) with e | e
      · exact e
      · rcases List.mem_cons.1 ((h y).2 List.mem_cons_self) with e' | e'
        · exact e'.symm
        · exact absurd (List.lt_trans (b.1 x e) (a.1 y e')) (List.lt_irrefl _)
    subst e
    rw [RsS.ext a.2 b.2 fun z => ⟨fun hz => ?_, fun hz => ?_⟩]
    · rcases List.mem_cons.1 ((h z).1 (List.mem_cons_of_mem _ hz)) with e | e
      · exact absurd (a.1 z hz) (by rw [e]; exact List.lt_irrefl _)
      · exact e
    · rcases List.mem_cons.1 ((h z).2 (List.mem_cons_of_mem _ hz)) with e | e
      · exact absurd (b.1 z hz) (by rw [e]; exact List.lt_irrefl _)
      · exact e
/-! ### the least of rows of numbers -/
end Den
set_option maxRecDepth 100000
set_option maxHeartbeats 2000000
/-! Calculation: tables with texts as keys and numbers in them; enumerate. -/
namespace Den
open PySem L2
/-! ### lists of texts against the bare list -/
end Den
set_option maxRecDepth 100000
set_option maxHeartbeats 1000000
/-! Own classes: fields read and set, methods, making one; d.setdefault(k, x). -/
namespace Den
open PySem L2 PyProof.Rows
def putFW (f : Str) (w : W) : List (Str × W) → List (Str × W)
  | [] => [(f, w)]
  | (g, x) :: r => if g = f then (g, w) :: r else (g, x) :: putFW f w r
section
variable {K : PySem.W.Frag} {G : Gx} {H : Hp} {ρ : List Addr} {h : List O} {v : V} {w : W} {f : Str}
theorem FRs.look : ∀ {ps : List (Str × V)} {fs : List (Str × W)}, FRs K H ρ ps fs → fs.lookup f = some w → ∃ v, ps.lookup f = some v ∧ VR K H ρ v w
  | ps, [], r, e => by cases e
  | ps, (g, x) :: fs, r, e => by
    unfold FRs at r
    obtain ⟨v, r', rfl, h1, h2⟩ := r
    rw [List.lookup_cons] at e ⊢
    cases hq : (f == g) with
    | true => rw [hq] at e; cases e; exact ⟨v, rfl, h1⟩
    | false => rw [hq] at e; exact FRs.look h2 e
theorem FRs.look0 : ∀ {ps : List (Str × V)} {fs : List (Str × W)}, FRs K H ρ ps fs → fs.lookup f = none → ps.lookup f = none
  | ps, [], r, e => by unfold FRs at r; rw [r]; rfl
  | ps, (g, x) :: fs, r, e => by
    unfold FRs at r
    obtain ⟨v, r', rfl, h1, h2⟩ := r
    rw [List.lookup_cons] at e ⊢
    cases hq : (f == g) with
    | true => rw [hq] at e; cases e
    | false => rw [hq] at e; exact FRs.look0 h2 e
theorem FRs.length : ∀ {ps : List (Str × V)} {fs : List (Str × W)}, FRs K H ρ ps fs → ps.length = fs.length
  | ps, [], r => by unfold FRs at r; rw [r]; rfl
  | ps, (g, x) :: fs, r => by
    unfold FRs at r
    obtain ⟨v, r', rfl, h1, h2⟩ := r
    rw [List.length_cons, List.length_cons, FRs.length h2]
theorem FRs.put (rv : VR K H ρ v w) : ∀ {ps : List (Str × V)} {fs : List (Str × W)}, FRs K H ρ ps fs → FRs K H ρ (putF f v ps) (putFW f w fs)
  | ps, [], r => by
    unfold FRs at r
    rw [r]
    unfold putFW putF FRs
    exact ⟨v, [], rfl, rv, by unfold FRs; rfl⟩
  | ps, (g, x) :: fs, r => by
    unfold FRs at r
    obtain ⟨v', r', rfl, h1, h2⟩ := r
    unfold putFW putF
    by_cases hg : g = f
    · rw [if_pos hg, if_pos hg]
      unfold FRs
      exact ⟨v, r', rfl, rv, h2⟩
    · rw [if_neg hg, if_neg hg]
      unfold FRs
      exact ⟨v', _, rfl, h1, FRs.put rv h2⟩
theorem FRs.nil : FRs K H ρ [] [] := by unfold FRs; rfl
end
/-- the classes cs have no attribute f of their own -/
def FdD (K : PySem.W.Frag) (G : Gx) (cs : List Nat) (f : Str) : Prop := ∀ c ∈ cs, ∀ C, G.ci c = some C → Cls K C ∧ NoAttr K C f
theorem FdD.nil {K : PySem.W.Frag} {G : Gx} {f : Str} : FdD K G [] f := fun c h => by cases h
theorem FdD.cons {K : PySem.W.Frag} {G : Gx} {f : Str} {c : Nat} {C : Addr} {cs : List Nat} (ca : G.ci c = some C) (cl : Cls K C) (n : NoAttr K C f) (r : FdD K G cs f) : FdD K G (c :: cs) f := fun c' h C' hC => by
  rcases List.mem_cons.1 h with e | e
  · subst e
    rw [ca] at hC
    cases hC
    exact ⟨cl, n⟩
  · exact r c' e C' hC
theorem insAt_nk {h : List O} {n c : Nat} {fs : List (Str × W)} (e : insAt h n = some (c, fs)) : NoDik h n := fun kvs z => by rw [insAt_some e] at z; cases z
/-- o.f -/
def mFld (cs : List Nat) (f : Str) (m : M W) : M W := fun e h => (m e h).bnd fun x h => match x with
  | .ref n => match insAt h n with
    | some (c, fs) => if c ∈ cs then match fs.lookup f with
        | some w => .ok w h
        | none => .bad
      else .bad
    | none => .bad
  | _ => .bad
/-- o.f = v -/
def mSetF (cs : List Nat) (f : Str) (mo mv : M W) : Sm := fun e h => (mv e h).stm e fun y h => (mo e h).stm e fun x h => match x with
  | .ref n => match insAt h n with
    | some (c, fs) => if c ∈ cs ∧ fs.length < 1000 then .nx e (h.set n (.ins c (putFW f y fs))) else .bad
    | none => .bad
  | _ => .bad
section
variable {G : Gx} {X : Cx} {o e value : Expr} {mo mv m : M W} {pos pos' tpos apos cpos p : Pos} {f : Str} {cs : List Nat}
theorem set_post {K : PySem.W.Frag} {H : Hp} {ρ : List Addr} {h : List O} {n c : Nat} {a C dx : Addr} {ps : List (Str × V)} {fs : List (Str × W)} {v : V} {w : W} (hr : HR K G H ρ h) (ea : ρ[n]? = some a) (hi : insAt h n = some (c, fs)) (hC : G.ci c = some C) (hk : FRs K H ρ ps fs) (rv : VR K H ρ v w) :
    HR K G (upd H a (.ins C dx (putF f v ps))) ρ (h.set n (.ins c (putFW f w fs))) ∧ Ext H ρ (upd H a (.ins C dx (putF f v ps))) ρ :=
  hr.write ea (insAt_nk hi) rfl fun x => ⟨C, dx, _, hC, upd_same, (FRs.put rv hk).mono x⟩
theorem se_fld (hd : FdD X.K G cs f) (ho : SE G X o mo) (hb : attributeBase o f X.env (eval o X.env) = eval o X.env := by rfl) : SE G X (.Attribute o f pos) (mFld cs f mo) := fun Wx tk =>
  (pe_fld (ho Wx tk) hb).imp fun σ H Q p => rd.bnd (Rel := VRel X.K) p fun H0 ρ0 e sr v H1 ρ1 h1 w x1 r1 vd p1 => by
    split at p1
    · rename_i n
      obtain ⟨a, rfl, ea⟩ := vd.ref
      split at p1
      · rename_i c fs hi
        split at p1
        · rename_i hc
          split at p1
          · rename_i w hw
            obtain ⟨C, dx, ps, hC, q, hk⟩ := r1.look ea (insAt_some hi)
            obtain ⟨v, hv, rv⟩ := FRs.look hk hw
            obtain ⟨c1, c2⟩ := hd c hc C hC
            exact ⟨a, C, dx, ps, v, rfl, q, c1, c2, hv, p1.here r1 rv⟩
          · exact p1.elim
        · exact p1.elim
      · exact p1.elim
    · exact p1.elim
theorem ss_setf (hd : FdD X.K G cs f) (ho : SE G X o mo) (hv : SE G X value mv) (hs : swapsWith value (some (.Attribute o f pos')) pos.line X.env = pure false := by rfl) : SS G X (.Assign [.Attribute o f pos'] value pos) (mSetF cs f mo mv) := fun Wx tk =>
  (ps_fld (ho Wx tk) (hv Wx tk) hs).imp fun D σ H p => rdS.stm (Rel := VRel X.K) p fun H0 ρ0 e sr y H1 ρ1 h1 wy x1 r1 vy p1 => by
    have sr1 := sr.mono x1
    refine ⟨ρ1, e, h1, r1, sr1, (PostS.stm (Rel := VRel X.K) sr1 p1).imp fun x H2 q2 => ?_⟩
    obtain ⟨ρ2, h2, wx, x2, r2, vx, p2⟩ := q2
    have sr2 := sr1.mono x2
    split at p2
    · rename_i n
      obtain ⟨a, rfl, ea⟩ := vx.ref
      split at p2
      · rename_i c fs hi
        split at p2
        · rename_i hc
          obtain ⟨C, dx, ps, hC, q, hk⟩ := r2.look ea (insAt_some hi)
          obtain ⟨c1, c2⟩ := hd c hc.1 C hC
          obtain ⟨r3, x3⟩ := set_post (f := f) (dx := dx) r2 ea hi hC hk (vy.mono x2)
          exact ⟨a, C, dx, ps, rfl, q, c1, c2, by rw [hk.length]; exact hc.2, p2 ρ2 _ σ x3 r3 (sr2.mono x3)⟩
        · exact p2.elim
      · exact p2.elim
    · exact p2.elim
/-! ### d.setdefault(k, x) -/
/-! ### methods -/
/-- the method m of the class C does as den says -/
structure FnM (P : Program) (w : World) (K : PySem.W.Frag) (mg : Str → Option Value) (base : Heap) (G : Gx) (k : Nat) (c : Nat) (m : Str) (ar : Nat) (den : List W → List O → Out W) : Prop where
  ex : ∃ f fd ps C, FnOk P w K mg base (L2.CX P w) k f fd ps (spOf K G ar den) ∧ G.ci c = some C ∧ Cls K C ∧ Meth K C m f ∧ Binds K fd ps []
theorem FnM.mono {P : Program} {w : World} {K : PySem.W.Frag} {mg : Str → Option Value} {base : Heap} {k j ar c : Nat} {m : Str} {den : List W → List O → Out W} (F : FnM P w K mg base G k c m ar den) (h : k ≤ j) : FnM P w K mg base G j c m ar den := by
  obtain ⟨f, fd, ps, C, F, a, b, c, d⟩ := F.ex
  exact ⟨f, fd, ps, C, F.mono h, a, b, c, d⟩
def mMt (c : Nat) (m : Str) (ar : Nat) (den : List W → List O → Out W) (mo : M W) (mr : M (List W)) : M W := fun e h => (mo e h).bnd fun x h => match x with
  | .ref n => match insAt h n with
    | some (c', fs) => if c' = c ∧ fs.lookup m = none then (mr e h).bnd fun ws h => if ws.length + 1 = ar then den (.ref n :: ws) h else .bad else .bad
    | none => .bad
  | _ => .bad
def tMethS (C : Addr) (m : Str) (sp : Sp) (E : L2.St → XK) (ta : TE) (t : TA) : TE := fun σ H Q => ta σ H fun x H1 => ∃ a dx fs, x = .ref a ∧ H1 a = some (.ins C dx fs) ∧ fs.lookup m = none ∧ t σ H1 fun vs H2 => sp (x :: vs) H2 Q (E σ)
section
variable {CX : CXT} {k : Nat} {g C : Addr} {fd : FuncData} {ps : List Str} {sp : Sp} {E : L2.St → XK} {m : Str} {es : List Expr} {ta : TE} {t : TA} {pl : Sem Bool}
theorem pe_methS' (he : PE X o ta) (c : Cls X.K C) (hm : Meth X.K C m g) (F : FnOk X.prog X.w X.K X.mg X.base CX k g fd ps sp) (hr : Room k X.A) (hb : Binds X.K fd ps []) (hx : ∀ σ, PassesAt CX X σ (E σ)) (ha : PA X (e :: es) t)
    (hst : starEach (e :: es) X.env = (false, eval e X.env) :: starEach es X.env := by rfl) (hpl : (backTo pos (starEach es X.env)).any (·.1) = false := by rfl)
    (ht : eval (.Call (.Attribute o m apos) (e :: es) [] pos) X.env = (do
      let ov ← eval o X.env
      standAt apos.atName
      let (f, first) ← holding [ov] (getMethod ov m pl)
      callWith pos f first (backTo pos (starEach (e :: es) X.env)) (backToKw pos (keywordEach [] X.env))) := by rfl) :
    PE X (.Call (.Attribute o m apos) (e :: es) [] pos) (tMethS C m sp E ta t) := by
  refine ⟨fun pins s σ H Q I h => ?_⟩
  refine PySem.W.methodCall_KW (pl := pl) (thn (he.run pins s σ H _ I h) fun u s1 ⟨x, H1, I1, rx, a, dx, fs, ex, ea, l, q⟩ => ?_) ht
  subst ex
  obtain rfl : u = Value.ref a := rx
  refine getmeth_ok I1 ea c hm l ?_
  refine PySem.W.callWith_K (first := [.ref a]) (h₀ := X.base) I.ok.mod.kin hm.kp (thn (ha.run pos pins s1 σ H1 _ I1 q) fun us s2 ⟨vs, H2, I2, r, q2⟩ => ⟨I2.kIn, ?_⟩) hst hpl
  exact run_fnS (us := .ref a :: us) (vs := .ref a :: vs) F hr hb (hx σ) I2 (.cons rfl r) q2
theorem pe_methS0 (he : PE X o ta) (c : Cls X.K C) (hm : Meth X.K C m g) (F : FnOk X.prog X.w X.K X.mg X.base CX k g fd ps sp) (hr : Room k X.A) (hb : Binds X.K fd ps []) (hx : ∀ σ, PassesAt CX X σ (E σ))
    (ht : eval (.Call (.Attribute o m apos) [] [] pos) X.env = (do
      let ov ← eval o X.env
      standAt apos.atName
      let (f, first) ← holding [ov] (getMethod ov m pl)
      callWith pos f first (backTo pos (starEach [] X.env)) (backToKw pos (keywordEach [] X.env))) := by rfl) :
    PE X (.Call (.Attribute o m apos) [] [] pos) (tMethS C m sp E ta tNil) := by
  refine ⟨fun pins s σ H Q I h => ?_⟩
  refine PySem.W.methodCall_KW (pl := pl) (thn (he.run pins s σ H _ I h) fun u s1 ⟨x, H1, I1, rx, a, dx, fs, ex, ea, l, q⟩ => ?_) ht
  subst ex
  obtain rfl : u = Value.ref a := rx
  refine getmeth_ok I1 ea c hm l ?_
  exact PySem.W.callWith_K0 (first := [.ref a]) I1.kIn hm.kp (run_fnS (us := [.ref a]) (vs := [.ref a]) F hr hb (hx σ) I1 (.cons rfl .nil) q)
end
theorem mt_post {K : PySem.W.Frag} {Wx : WX} {c ar : Nat} {C : Addr} {m : Str} {den : List W → List O → Out W} {mo : M W} {mr : M (List W)} {σ : L2.St} {H : Hp} {Q : VK} (hC : G.ci c = some C) (p : rd K G Wx (VRel K) (mMt c m ar den mo mr) σ H Q) :
    tMethS C m (spOf K G ar den) (WE Wx) (rd K G Wx (VRel K) mo) (rd K G Wx (VsRel K) mr) σ H Q :=
  rd.bnd (Rel := VRel K) p fun H0 ρ0 e sr x H1 ρ1 h1 w x1 r1 vd p1 => by
    split at p1
    · rename_i n
      obtain ⟨a, rfl, ea⟩ := vd.ref
      split at p1
      · rename_i c' fs hi
        split at p1
        · rename_i hc
          obtain ⟨rfl, hl⟩ := hc
          obtain ⟨C', dx, ps, hC', q, hk⟩ := r1.look ea (insAt_some hi)
          rw [hC] at hC'
          cases hC'
          refine ⟨a, dx, ps, rfl, q, FRs.look0 hk hl, ρ1, e, h1, r1, sr.mono x1, (Post.bnd (Rel := VsRel K) p1).imp fun vs H2 q2 => ?_⟩
          obtain ⟨ρ2, h2, ws, x2, r2, vs2, p2⟩ := q2
          split at p2
          · rename_i hw
            exact ⟨by rw [List.length_cons, VRs.length vs2]; exact hw, ρ2, h2, _, r2, .cons (vd.mono x2) vs2, p2⟩
          · exact p2.elim
        · exact p1.elim
      · exact p1.elim
    · exact p1.elim
theorem se_mt {k j ar c : Nat} {m : Str} {den : List W → List O → Out W} {mo : M W} {es : List Expr} {mr : M (List W)} {pl : Sem Bool} (F : FnM X.prog X.w X.K X.mg X.base G k c m ar den) (hr : Room j X.A) (hk : k ≤ j) (ho : SE G X o mo) (ha : SA G X (e :: es) mr)
    (hst : starEach (e :: es) X.env = (false, eval e X.env) :: starEach es X.env := by rfl) (hpl : (backTo pos (starEach es X.env)).any (·.1) = false := by rfl)
    (ht : eval (.Call (.Attribute o m apos) (e :: es) [] pos) X.env = (do
      let ov ← eval o X.env
      standAt apos.atName
      let (f, first) ← holding [ov] (getMethod ov m pl)
      callWith pos f first (backTo pos (starEach (e :: es) X.env)) (backToKw pos (keywordEach [] X.env))) := by rfl) :
    SE G X (.Call (.Attribute o m apos) (e :: es) [] pos) (mMt c m ar den mo mr) := fun Wx tk => by
  obtain ⟨f, fd, ps, C, F, hC, hcl, hm, hb⟩ := F.ex
  exact (pe_methS' (pl := pl) (ho Wx tk) hcl hm F (hr.mono hk) hb (fun σ => passAt tk σ) (ha Wx tk) hst hpl ht).imp fun σ H Q p => mt_post hC p
theorem se_mt0 {k j ar c : Nat} {m : Str} {den : List W → List O → Out W} {mo : M W} {pl : Sem Bool} (F : FnM X.prog X.w X.K X.mg X.base G k c m ar den) (hr : Room j X.A) (hk : k ≤ j) (ho : SE G X o mo)
    (ht : eval (.Call (.Attribute o m apos) [] [] pos) X.env = (do
      let ov ← eval o X.env
      standAt apos.atName
      let (f, first) ← holding [ov] (getMethod ov m pl)
      callWith pos f first (backTo pos (starEach [] X.env)) (backToKw pos (keywordEach [] X.env))) := by rfl) :
    SE G X (.Call (.Attribute o m apos) [] [] pos) (mMt c m ar den mo mNil) := fun Wx tk => by
  obtain ⟨f, fd, ps, C, F, hC, hcl, hm, hb⟩ := F.ex
  refine (pe_methS0 (pl := pl) (ho Wx tk) hcl hm F (hr.mono hk) hb (fun σ => passAt tk σ) ht).imp fun σ H Q p => ?_
  obtain ⟨ρ, e, h, hr, sr, q⟩ := mt_post hC p
  refine ⟨ρ, e, h, hr, sr, q.imp fun x H1 z => ?_⟩
  obtain ⟨a, dx, fs, h1, h2, h3, ρ1, e1, h1', r1, s1, q1⟩ := z
  exact ⟨a, dx, fs, h1, h2, h3, q1.here r1 .nil⟩
/-! ### C(..) -/
structure FnI (P : Program) (w : World) (K : PySem.W.Frag) (mg : Str → Option Value) (base : Heap) (G : Gx) (k : Nat) (c : Nat) (x : Str) (ar : Nat) (den : List W → List O → Out W) : Prop where
  ex : ∃ f fd ps C, FnOk P w K mg base (L2.CX P w) k f fd ps (spOf K G ar den) ∧ G.ci c = some C ∧ mg x = some (.ref C) ∧ Mk K C f ∧ Binds K fd ps []
def mMake (c ar : Nat) (den : List W → List O → Out W) (mr : M (List W)) : M W := fun e h => (mr e h).bnd fun ws h => if ws.length + 1 = ar then (den (.ref h.length :: ws) (h ++ [.ins c []])).bnd fun w h' => match w with
    | .non => .ok (.ref h.length) h'
    | _ => .bad
  else .bad
def tMakeS (C : Addr) (sp : Sp) (E : L2.St → XK) (t : TA) : TE := fun σ H Q => t σ H fun vs H1 => ∀ x dx, H1 x = none → H1 dx = none → dx ≠ x → sp (.ref x :: vs) (upd (upd H1 dx (.own x)) x (.ins C dx [])) (fun v H2 => v = .non ∧ Q (.ref x) H2) (E σ)
section
variable {CX : CXT} {k : Nat} {g C : Addr} {fd : FuncData} {ps : List Str} {sp : Sp} {E : L2.St → XK} {x : Str} {es : List Expr} {t : TA}
theorem run_makeS {pins : List (Addr × Obj)} {σ : L2.St} {H : Hp} {s : Shared} {Q : VK} {us : List Value} {vs : List V} (M : Mk X.K C g) (F : FnOk X.prog X.w X.K X.mg X.base CX k g fd ps sp) (hr : Room (k + 1) X.A) (hb : Binds X.K fd ps [])
    (hx : PassesAt CX X σ (E σ)) (I : Inv X pins σ H s) (r : Vals vs us)
    (h : ∀ x dx, H x = none → H dx = none → dx ≠ x → sp (.ref x :: vs) (upd (upd H dx (.own x)) x (.ins C dx [])) (fun v H2 => v = .non ∧ Q (.ref x) H2) (E σ)) :
    wpAny (model X.prog X.w) X.A (call (.ref C) us) (EP X pins σ Q) X.xe s := by
  have hq := h (s.heap.objs.size + 1) s.heap.objs.size (I.hok.fresh (Nat.le_succ _)) (I.hok.fresh (Nat.le_refl _)) (Nat.ne_of_lt (Nat.lt_succ_self _))
  have I2 := Inv.made (C := C) I
  have r2 : Vals (V.ref (s.heap.objs.size + 1) :: vs) (Value.ref (s.heap.objs.size + 1) :: us) := .cons rfl r
  have hl : (Value.ref (s.heap.objs.size + 1) :: us).length = ps.length := by
    have e := r2.length
    rw [F.len _ _ _ _ hq] at e
    exact e.symm
  have b := hb _ (Value.ref (s.heap.objs.size + 1) :: us) I2.kIn (by rw [List.append_nil]; exact hl)
  rw [List.append_nil] at b
  refine wpAny_call (make_map (f := g) I.kIn M.makes M.init (beq_iff_eq.mp M.fn) (codeAny_mono (F.run _ X.stack _ _ ⟨Value.ref (s.heap.objs.size + 1) :: us, []⟩ (Value.ref (s.heap.objs.size + 1) :: us) _ _ (E σ) (hr.make C us [])
    (I2.env0.make C us []) b r2 hq) fun r s' hq' => ?_))
  cases r with
  | error e => exact hx pins _ _ e s' I2 hq'
  | ok fl =>
    cases fl with
    | ret u =>
      obtain ⟨v, H', I3, rv, ev, q3⟩ := I2.after hq'
      subst ev
      exact ⟨rv, ⟨V.ref (s.heap.objs.size + 1), H', I3, rfl, q3⟩⟩
    | next => exact False.elim hq'
    | brk => exact False.elim hq'
    | cont => exact False.elim hq'
theorem pe_makeS (M : Mk X.K C g) (F : FnOk X.prog X.w X.K X.mg X.base CX k g fd ps sp) (hr : Room (k + 1) X.A) (hg : Gl X x) (hm : X.mg x = some (.ref C)) (hb : Binds X.K fd ps []) (hx : ∀ σ, PassesAt CX X σ (E σ))
    (ha : PA X (e :: es) t) (hdb : (x == ("__debug__" : Str)) = false := by decide) (he : starEach (e :: es) X.env = (false, eval e X.env) :: starEach es X.env := by rfl) (hpl : (backTo pos (starEach es X.env)).any (·.1) = false := by rfl) :
    PE X (.Call (.Name x p) (e :: es) [] pos) (tMakeS C sp E t) := by
  refine ⟨fun pins s σ H Q I h => ?_⟩
  refine wpAny_Call_Name_kw (ld_glob I hg hm ?_ hdb)
  refine PySem.W.callWith_K (h₀ := X.base) I.ok.mod.kin M.kp (thn (ha.run pos pins s σ H _ I h) fun us s1 ⟨vs, H1, I1, r, q⟩ => ⟨I1.kIn, ?_⟩) he hpl
  exact run_makeS M F hr hb (hx σ) I1 r q
theorem pe_makeS0 (M : Mk X.K C g) (F : FnOk X.prog X.w X.K X.mg X.base CX k g fd ps sp) (hr : Room (k + 1) X.A) (hg : Gl X x) (hm : X.mg x = some (.ref C)) (hb : Binds X.K fd ps []) (hx : ∀ σ, PassesAt CX X σ (E σ))
    (hdb : (x == ("__debug__" : Str)) = false := by decide) : PE X (.Call (.Name x p) [] [] pos) (tMakeS C sp E tNil) := by
  refine ⟨fun pins s σ H Q I h => ?_⟩
  refine wpAny_Call_Name_kw (ld_glob I hg hm ?_ hdb)
  exact PySem.W.callWith_K0 I.kIn M.kp (run_makeS (us := []) M F hr hb (hx σ) I .nil h)
end
theorem make_post {K : PySem.W.Frag} {Wx : WX} {c ar : Nat} {C : Addr} {den : List W → List O → Out W} {mr : M (List W)} {σ : L2.St} {H : Hp} {Q : VK} (hC : G.ci c = some C) (p : rd K G Wx (VRel K) (mMake c ar den mr) σ H Q) :
    tMakeS C (spOf K G ar den) (WE Wx) (rd K G Wx (VsRel K) mr) σ H Q :=
  rd.bnd (Rel := VsRel K) p fun H0 ρ0 e sr vs H1 ρ1 h1 ws x1 r1 vs1 p1 => fun x dx hx hdx hne => by
    split at p1
    · rename_i hw
      obtain ⟨r2, x2⟩ := r1.other (o := .own x) hdx
      obtain ⟨r3, x3⟩ := r2.new (p := x) (o := .ins C dx []) (u := .ins c []) (by rw [upd_ne (Ne.symm hne)]; exact hx) rfl fun x' => ⟨C, dx, [], hC, upd_same, .nil⟩
      have x4 := x2.trans x3
      have vx : VR K (upd (upd H1 dx (.own x)) x (.ins C dx [])) (ρ1 ++ [x]) (.ref x) (.ref h1.length) := by
        unfold VR
        exact ⟨x, rfl, r1.last⟩
      refine ⟨by rw [List.length_cons, VRs.length vs1]; exact hw, _, _, _, r3, .cons vx (VRs.mono x4 vs1), (Post.bnd (Rel := VRel K) (p1.ext x4)).imp fun v H2 q => ?_⟩
      obtain ⟨ρ5, h5, w5, x5, r5, v5, p5⟩ := q
      split at p5
      · exact ⟨VR.non v5, p5.here r5 (vx.mono x5)⟩
      · exact p5.elim
    · exact p1.elim
theorem se_make {k j ar c : Nat} {x : Str} {den : List W → List O → Out W} {es : List Expr} {mr : M (List W)} (F : FnI X.prog X.w X.K X.mg X.base G k c x ar den) (hr : Room j X.A) (hk : k + 1 ≤ j) (hg : Gl X x) (ha : SA G X (e :: es) mr)
    (hdb : (x == ("__debug__" : Str)) = false := by decide) (he : starEach (e :: es) X.env = (false, eval e X.env) :: starEach es X.env := by rfl) (hpl : (backTo pos (starEach es X.env)).any (·.1) = false := by rfl) :
    SE G X (.Call (.Name x p) (e :: es) [] pos) (mMake c ar den mr) := fun Wx tk => by
  obtain ⟨f, fd, ps, C, F, hC, hm, hM, hb⟩ := F.ex
  exact (pe_makeS hM F (hr.mono hk) hg hm hb (fun σ => passAt tk σ) (ha Wx tk) hdb he hpl).imp fun σ H Q p => make_post hC p
theorem se_make0 {k j ar c : Nat} {x : Str} {den : List W → List O → Out W} (F : FnI X.prog X.w X.K X.mg X.base G k c x ar den) (hr : Room j X.A) (hk : k + 1 ≤ j) (hg : Gl X x) (hdb : (x == ("__debug__" : Str)) = false := by decide) :
    SE G X (.Call (.Name x p) [] [] pos) (mMake c ar den mNil) := fun Wx tk => by
  obtain ⟨f, fd, ps, C, F, hC, hm, hM, hb⟩ := F.ex
  refine (pe_makeS0 hM F (hr.mono hk) hg hm hb (fun σ => passAt tk σ) hdb).imp fun σ H Q p => ?_
  obtain ⟨ρ, e, h, hr, sr, q⟩ := make_post hC p
  exact q.here hr .nil
end
/-- a def's promise from its body -/
theorem den_ok {G : Gx} {P : Program} {w : World} {K : PySem.W.Frag} {mg : Str → Option Value} {base : Heap} {x qual : Str} {st : Stmt} {f : Addr} {fd : FuncData} {N ps : List Str} {k : Nat} {m : Sm} (F : Fun K x qual st f fd) (S : FnScope N ps (defScope st))
    (body : ∀ (cdv : Value) (A : Around) (outer : List PySem.Env) (s : Shared) (H : Hp) (E : XK), Room k (A.deeper (envOfC qual (defScope st) s.heap.objs.size f cdv)) → SSs G (cxOf (L2.CX P w) P w K mg base N qual (defScope st) f cdv A outer s H E) (defBody st) m) :
    FnOk P w K mg base (L2.CX P w) (k + 1) f fd ps (spOf K G ps.length (mFun N.length m)) := F.okX S (fun vs H Q E h => h.1) (fun cdv A outer s H vs Q E hr h => by
  obtain ⟨hl, ρ, h, ws, h1, h2, p⟩ := h
  refine ⟨_, body cdv A outer s H E hr (fun cls d _ H => E cls d H) (takes_of rfl rfl rfl rfl), ρ, _, h, h1, sr_start h2, ?_⟩
  unfold mFun at p
  cases hm : m (startE N.length ws) h with
  | nx e h' => rw [hm] at p; exact fun ρ' H' σ' x r s => p ρ' H' .non x r vr_non
  | rt w h' => rw [hm] at p; exact p
  | exc c q e h' => rw [hm] at p; exact fun ρ' H' σ' cls d x r s => p ρ' H' cls d x r
  | bk e h' => rw [hm] at p; exact False.elim p
  | ct e h' => rw [hm] at p; exact False.elim p
  | bad => rw [hm] at p; exact False.elim p)
end Den
set_option maxRecDepth 100000
set_option maxHeartbeats 2000000
/-! sorted of a dict: its keys. -/
namespace Den
open PySem L2 PyProof.Rows PySem.W
theorem krs_keys {K : PySem.W.Frag} {H : Hp} {ρ : List Addr} : ∀ {ps : List (Key × V)} {kvs : List (W × W)}, KRs K H ρ ps kvs → VRs K H ρ (ps.map fun kv => kV kv.1) (kvs.map (·.1))
  | ps, [], r => by unfold KRs at r; rw [r]; exact .nil
  | ps, (k, x) :: kvs, r => by
    unfold KRs at r
    obtain ⟨q, v, r', rfl, h1, h2, h3⟩ := r
    exact .cons h1 (krs_keys h3)
def mSortedD (m : M W) : M W := fun e h => (m e h).bnd fun d h => match d with
  | .ref n => match dicAt h n with
    | some kvs => match mapO (dat h 7) (kvs.map (·.1)) with
      | some ds => if kindOk ds = true ∧ kvs.length ≤ lim then .ok (.ref h.length) (h ++ [.lst (sortBy (kvs.map (·.1)) ds)]) else .bad
      | none => .bad
    | none => .bad
  | _ => .bad
theorem se_sortedD {G : Gx} {X : Cx} {e : Expr} {m : M W} {p pos : Pos} (hi : SE G X e m) (hc : X.calm = true) (hu : X.A.units + 64 < cLine) (hg : Gl X "sorted") (hm : X.mg "sorted" = none) (hv : bootBuiltins "sorted" = some (.builtin "sorted") := by decide +kernel)
    (he : starEach [e] X.env = (false, eval e X.env) :: starEach [] X.env := by rfl) : SE G X (.Call (.Name "sorted" p) [e] [] pos) (mSortedD m) := fun Wx tk => by
  refine ⟨fun pins s σ H Q I h => ?_⟩
  refine wpAny_Call_Name_kw (ld_blt I hg hm hv ?_ (by decide) (by decide))
  refine PyProof.Rows.callWith_builtin1 ?_ he (by rfl)
  rw [he]
  have h2 := rd.bnd (Rel := VRel X.K) (Q' := fun v H1 => ∃ ρ1 h1 w, VR X.K H1 ρ1 v w ∧ HR X.K G H1 ρ1 h1 ∧ Post X.K G (fun cls d H' => Wx cls d σ H') (VRel X.K) Q H1 ρ1 (match w with
    | .ref n => match dicAt h1 n with
      | some kvs => match mapO (dat h1 7) (kvs.map (·.1)) with
        | some ds => if kindOk ds = true ∧ kvs.length ≤ lim then .ok (.ref h1.length) (h1 ++ [.lst (sortBy (kvs.map (·.1)) ds)]) else .bad
        | none => .bad
      | none => .bad
    | _ => .bad)) h fun H0 ρ0 e sr v H1 ρ1 h1 w x r q p1 => ⟨ρ1, h1, w, q, r, p1⟩
  refine Calls.spliced_cons (thn ((hi Wx tk).run pins s σ H _ I h2) fun u s1 ⟨v, H1, I1, rv, ρ1, h1, w, vx, r1, p1⟩ => Calls.spliced_nil ?_)
  split at p1
  · rename_i n
    split at p1
    · rename_i kvw hkv
      split at p1
      · rename_i ds hd
        split at p1
        · rename_i hko
          have vx : VR X.K H1 ρ1 v (.ref n) := vx
          obtain ⟨d, rfl, ea⟩ := vx.ref
          obtain rfl : u = Value.ref d := rv
          obtain ⟨kvs, eH, kr⟩ := r1.look ea (dicAt_some hkv)
          obtain ⟨hz, lo, vs, kv, hdo⟩ := I1.hok d _ eH
          obtain ⟨ep, hat⟩ := hdo.dictAt
          have lk : kvs.length = vs.length := Paired.length kv
          have lkw : kvs.length = kvw.length := KRs.length kr
          have vk := krs_keys kr
          have hdp := mapO_dp (fun v w d r e => dat_dp r1 7 v w d r e) vk hd
          have hlx := dpAll_len hdp
          refine sorted_coll (β := V × PyData) (Rel := fun u b => RelV b.1 u ∧ ∃ as, Reads s1.heap u b.2 as) (enc := Prod.snd) (Ok := fun bs => bs = (kvs.map fun kv => kV kv.1).zip ds) (fun Q' E' hq => ?_) (args_sorted1 _) (fun bs ok => ?_) (fun hh v b k q => ?_) fun s' out c a bs ok k g o ha e1 er => ?_
          · refine kdu_collect (PySem.W.kdl_dict (knd := mixKind X.prog X.w) (kvs := vs) (ep := ep) lo) (I1.ok.hd hc) hat (by omega) fun h' tk acc hk hacc => ?_
            have rv : Vals (kvs.map fun kv => kV kv.1) acc.toList := by
              have el : acc.toList.length = acc.size := by simp
              refine vals_of_at (by rw [List.length_map, el, hacc.1, lk]) fun j x w h1 h2 => ?_
              obtain ⟨k, y, hky, hi⟩ := hacc.2 j w (by rw [← Array.getElem?_toList]; exact h2)
              have e1 : (kvs.map (·.1))[j]? = some k := by
                rw [KV.keys kv, List.getElem?_map, hky] <;> rfl
              have e2 : (kvs.map fun kv => kV kv.1)[j]? = some (kV k) := by
                have e3 : (kvs.map fun kv => kV kv.1) = (kvs.map (·.1)).map kV := by rw [List.map_map] <;> rfl
                rw [e3, List.getElem?_map, e1] <;> rfl
              rw [e2] at h1
              cases h1
              exact keyIs_rel hi
            obtain ⟨as, rd⟩ := Dp.readsAll I1 ds _ _ hdp rv
            exact hq _ _ (fun b o q => hk b o q) I1.bare rfl ⟨_, rfl, each_and (each_zip rv hlx) (each_reads hlx rd)⟩
          · subst ok
            rw [zip_snd hlx]
            refine ⟨kindOk_alike hko.1, kindOk_sortable hko.1, by rw [List.length_zip]; exact Nat.le_trans (Nat.min_le_left _ _) (by rw [vk.length, List.length_map]; exact lim_size hko.2), fun b hb => ?_⟩
            have := kindOk_depth hko.1 b.2 (by rw [← zip_snd hlx]; exact List.mem_map_of_mem hb)
            omega
          · obtain ⟨as, q⟩ := q.2
            exact ⟨as, PyProof.Rows.Reads.keeps k q⟩
          · subst ok
            have e3 : Vals (sortBy (kvs.map fun kv => kV kv.1) ds) out := vals_each (er.mono fun _ _ q => q.1)
            refine ⟨.ref a, _, inv_newList I1 k g o ha e1 e3 (by rw [sortBy_length hlx, vk.length, List.length_map]; exact lim_size hko.2), rfl, ?_⟩
            exact new_lst r1 (vrs_sortBy vk) p1 a (I1.hok.fresh ha)
        · exact p1.elim
      · exact p1.elim
    · exact p1.elim
  · exact p1.elim
end Den
set_option maxRecDepth 100000
/-! Calculation rules for own classes. -/
namespace Den
open PySem L2 PyProof.Rows
section
variable {e : Env} {h h1 h2 : List O} {m mo mv : M W} {n c d : Nat} {f : Str} {cs : List Nat} {fs : List (Str × W)} {w x y z : W}
theorem fld_ev (hm : m e h = .ok (.ref n) h1) (hi : insAt h1 n = some (c, fs)) (hc : c ∈ cs) (hl : fs.lookup f = some w) : mFld cs f m e h = .ok w h1 := by
  unfold mFld
  rw [hm]
  show (match insAt h1 n with | some (c, fs) => _ | none => _) = _
  rw [hi]
  dsimp only
  rw [if_pos hc, hl]
theorem setf_ev (hv : mv e h = .ok y h1) (hm : mo e h1 = .ok (.ref n) h2) (hi : insAt h2 n = some (c, fs)) (hc : c ∈ cs) (hl : fs.length < 1000) : mSetF cs f mo mv e h = .nx e (h2.set n (.ins c (putFW f y fs))) := by
  unfold mSetF
  rw [hv]
  show ((mo e h1).stm e _) = _
  rw [hm]
  show (match insAt h2 n with | some (c, fs) => _ | none => _) = _
  rw [hi]
  dsimp only
  rw [if_pos ⟨hc, hl⟩]
theorem mt_ev {ar : Nat} {den : List W → List O → Out W} {mr : M (List W)} {ws : List W} (hm : mo e h = .ok (.ref n) h1) (hi : insAt h1 n = some (c, fs)) (hl : fs.lookup f = none) (hr : mr e h1 = .ok ws h2) (hw : ws.length + 1 = ar) : mMt c f ar den mo mr e h = den (.ref n :: ws) h2 := by
  unfold mMt
  rw [hm]
  show (match insAt h1 n with | some (c, fs) => _ | none => _) = _
  rw [hi]
  dsimp only
  rw [if_pos ⟨rfl, hl⟩, hr]
  show (if _ then _ else _) = _
  rw [if_pos hw]
theorem make_ev {ar : Nat} {den : List W → List O → Out W} {mr : M (List W)} {ws : List W} (hr : mr e h = .ok ws h1) (hw : ws.length + 1 = ar) (hd : den (.ref h1.length :: ws) (h1 ++ [.ins c []]) = .ok .non h2) : mMake c ar den mr e h = .ok (.ref h1.length) h2 := by
  unfold mMake
  rw [hr]
  show (if _ then _ else _) = _
  rw [if_pos hw, hd]
  rfl
theorem sortedD_ev {md : M W} {kvs : List (W × W)} {ds : List PyData} (hm : md e h = .ok (.ref n) h1) (hd : dicAt h1 n = some kvs) (hk : mapO (dat h1 7) (kvs.map (·.1)) = some ds) (ho : kindOk ds = true) (hl : kvs.length ≤ lim) : mSortedD md e h = .ok (.ref h1.length) (h1 ++ [.lst (sortBy (kvs.map (·.1)) ds)]) := by
  unfold mSortedD
  rw [hm]
  show (match dicAt h1 n with | some kvs => _ | none => _) = _
  rw [hd]
  dsimp only
  rw [hk]
  dsimp only
  rw [if_pos ⟨ho, hl⟩]
theorem ins_last {fs : List (Str × W)} {r : List O} : insAt (h ++ (.ins c fs :: r)) h.length = some (c, fs) := by
  unfold insAt
  rw [List.getElem?_append_right (Nat.le_refl _), Nat.sub_self]
  rfl
theorem ins_old {o : List O} (hi : insAt h n = some (c, fs)) : insAt (h ++ o) n = some (c, fs) := by
  have := insAt_some hi
  unfold insAt
  rw [List.getElem?_append_left (List.getElem?_eq_some_iff.mp this).1, this]
theorem gr_of_fr (F : Fr [] h h1) : Gr h h1 := by
  refine ⟨h1.drop h.length, ?_⟩
  refine List.ext_getElem? fun i => ?_
  by_cases hi : i < h.length
  · rw [List.getElem?_append_left hi]
    exact F.2 i hi (by simp)
  · rw [List.getElem?_append_right (by omega), List.getElem?_drop]
    congr 1
    omega
end
end Den
set_option maxRecDepth 100000
/-! tuple(reversed(a list)). -/
namespace Den
open PySem L2 PyProof.Rows
end Den
set_option maxRecDepth 100000
/-! min of three whole numbers. -/
namespace Den
open PySem L2 PyProof.Rows
end Den
set_option maxRecDepth 100000
set_option maxHeartbeats 4000000
/-! enumerate of a text. -/
namespace Den
open PySem PySem.Spec PySem.Calls L2 PyProof.Rows
section
variable {G : Gx} {X : Cx} {K : PySem.W.Frag} {H : Hp} {ρ : List Addr}
end
end Den
set_option maxRecDepth 100000
set_option maxHeartbeats 2000000
/-! Dicts: == {}, pop, a walk over what an expression gives. -/
namespace Den
open PySem L2 PyProof.Rows
section
variable {G : Gx} {X : Cx}
theorem op_eqD (hu : X.A.units < cLine) : OpR X (compareOp .Eq) (fun x y H Q => ∃ a b ks, x = .ref a ∧ y = .ref b ∧ Rd H a (.dK ks) ∧ Rd H b (.dK []) ∧ Q (.bl ks.isEmpty) H) := by
  intro pins s σ H x y v u Q I rx ry h
  obtain ⟨a, b, ks, rfl, rfl, ea, eb, q⟩ := h
  obtain rfl : v = Value.ref a := rx
  obtain rfl : u = Value.ref b := ry
  obtain ⟨_, ya, va, ra, da⟩ := dk_rd I.hok ea
  obtain ⟨_, yb, vb, rb, db⟩ := dk_rd I.hok eb
  have e1 : va.length = ks.length := ra.length.symm
  have e2 : vb.length = 0 := rb.length.symm
  exact PySem.W.keq_eq (knd := mixKind X.prog X.w) (r := true) ya yb da db hu (fun hl => by
    have : va = [] := List.eq_nil_of_length_eq_zero (by omega)
    rw [this]
    exact .nil) (fin_bl I q (by rw [e1, e2]; cases ks <;> simp))
/-! ### d.pop(k), d.pop(k, x) -/
def mDPop1 (md mk : M W) : M W := fun e h => (md e h).bnd fun d h => match d with
  | .ref n => match dicR h n with
    | some _ => (mk e h).bnd fun k h => match dicAt h n with
      | some kvs => match wKey k with
        | some _ => match valW kvs k with
          | some v => .ok v (h.set n (.dic (dropW kvs k)))
          | none => .bad
        | none => .bad
      | none => .bad
    | none => .bad
  | _ => .bad
theorem se_dpop1 {o k : Expr} {md mk : M W} {apos cpos : Pos} (ho : SE G X o md) (hk : SE G X k mk) (m1 : M1 X o "pop" apos k cpos := by exact ⟨by rfl, by rfl, by rfl, by rfl⟩) : SE G X (.Call (.Attribute o "pop" apos) [k] [] cpos) (mDPop1 md mk) := fun Wx tk =>
  (pe_dpop1 (ho Wx tk) (hk Wx tk) m1).imp fun σ H Q p => rd.bnd (Rel := VRel X.K) p fun H0 ρ0 e sr v H1 ρ1 h1 w x1 r1 vd p1 => by
    split at p1
    · rename_i n
      split at p1
      · rename_i kvs0 hk0
        have vd : VR X.K H1 ρ1 v (.ref n) := vd
        obtain ⟨a, rfl, ea⟩ := vd.ref
        refine ⟨a, rfl, isD_of r1 ea hk0, ρ1, e, h1, r1, sr.mono x1, (Post.bnd (Rel := VRel X.K) p1).imp fun y H2 q => ?_⟩
        obtain ⟨ρ2, h2, wk, x2, r2, vk, p2⟩ := q
        have ea2 : ρ2[n]? = some a := pre_get x2.pre ea
        split at p2
        · rename_i kvs hd
          split at p2
          · rename_i q hq
            obtain ⟨ps, ed, kr⟩ := r2.look ea2 (dicAt_some hd)
            have ey := vr_key hq vk
            split at p2
            · rename_i w' hw
              obtain ⟨v', hv, rv⟩ := val_some kr hq hw
              refine ⟨ps, q, v', ed, ey, hv, ?_⟩
              obtain ⟨r4, x4⟩ := r2.write (n := n) (a := a) (o := .dK (dropK ps q)) (u := .dic (dropW kvs wk)) ea2 (dicAt_nk hd) rfl fun x2 => ⟨_, upd_same, drop_kr hq (kr.mono x2)⟩
              exact p2 ρ2 _ _ x4 r4 (rv.mono x4)
            · exact p2.elim
          · exact p2.elim
        · exact p2.elim
      · exact p1.elim
    · exact p1.elim
end
end Den
set_option maxRecDepth 100000
set_option maxHeartbeats 2000000
/-! Calculation: tables by their keys and what stands under each; what stays of a heap; where a word stands in a row. -/
namespace Den
open PySem L2
/-- a kind of keys -/
class KeyT (α : Type) where
  key : α → W
  sum : α → Key
  is : ∀ a, wKey (key a) = some (sum a)
  b : ∀ a c, keyB (key a) (key c) = true ↔ a = c
instance : KeyT Int := ⟨.int, .inl, fun _ => rfl, fun a c => by show (a == c) = true ↔ _; simp⟩
instance : KeyT (List Nat) := ⟨.str, fun s => .inr (mkS s), fun _ => rfl, fun a c => by show (a == c) = true ↔ _; simp⟩
section
variable {α : Type} [DecidableEq α] [KeyT α]
/-! what an operation on a table gives -/
variable {e : Env} {h h1 h2 h3 : List O} {md mk mx : M W} {p : Nat} {ks : List α} {f : α → W} {z : α} {x : W}
end
/-! ### what stays -/
def FrP (P : Nat → Prop) (h h' : List O) : Prop := h.length ≤ h'.length ∧ ∀ a, a < h.length → ¬ P a → h'[a]? = h[a]?
section
variable {P Q : Nat → Prop} {h h1 h2 : List O} {a : Nat}
theorem FrP.refl : FrP P h h := ⟨Nat.le_refl _, fun _ _ _ => rfl⟩
theorem FrP.trans (f : FrP P h h1) (g : FrP Q h1 h2) (c : ∀ x, x < h.length → Q x → P x) : FrP P h h2 := ⟨Nat.le_trans f.1 g.1, fun x hx hn => by
  rw [g.2 x (Nat.lt_of_lt_of_le hx f.1) fun q => hn (c x hx q)]
  exact f.2 x hx hn⟩
theorem FrP.mono (f : FrP P h h1) (c : ∀ x, x < h.length → P x → Q x) : FrP Q h h1 := ⟨f.1, fun x hx hn => f.2 x hx fun p => hn (c x hx p)⟩
theorem FrP.of (g : Gr h h1) : FrP P h h1 := by
  obtain ⟨j, rfl⟩ := g
  exact ⟨by simp, fun x hx _ => List.getElem?_append_left hx⟩
theorem FrP.set {o : O} (f : FrP P h h1) (hp : a < h.length → P a) : FrP P h (h1.set a o) := ⟨by rw [List.length_set]; exact f.1, fun x hx hn => by
  have hne : a ≠ x := fun e => by
    subst e
    exact hn (hp hx)
  rw [List.getElem?_set_ne hne]
  exact f.2 x hx hn⟩
theorem FrP.gr (f : FrP P h h1) (c : ∀ x, x < h.length → ¬ P x) : Gr h h1 := gr_of_fr ⟨f.1, fun x hx _ => f.2 x hx (c x hx)⟩
theorem FrP.fr {ps : List Nat} (f : FrP P h h1) (c : ∀ x, x < h.length → P x → x ∈ ps) : Fr ps h h1 := ⟨f.1, fun x hx hn => f.2 x hx fun p => hn (c x hx p)⟩
end
/-! ### where a word stands -/
end Den
set_option maxRecDepth 100000
/-! A table made by two clauses: {k: v for .. in .. for .. in ..}. -/
namespace L2
open PySem PySem.Spec PyProof.Rows
section
variable {prog : Program} {w : World} {A : Around} {R : Result → Shared → Prop} {s : Shared} {kx vx ta ia tb ib : Expr} {ca cb : List Expr} {scope : Scope} {pos : Pos} {it : Value} {D : Addr} {env : Env}
end
section
variable {X : Cx}
end
end L2
set_option maxRecDepth 100000
set_option maxHeartbeats 2000000
/-! Lists and tables made by two clauses. -/
namespace Den
open PySem L2 PyProof.Rows
end Den
set_option maxRecDepth 100000
set_option maxHeartbeats 2000000
/-! Comprehensions of two clauses as expressions and as a local's value; many tables locked at once; a table not equal to an empty one. -/
namespace Den
open PySem L2 PyProof.Rows
section
variable {G : Gx} {X : Cx}
/-! ### many tables locked -/
end
/-! ### not an empty table -/
section
variable {X : Cx} {G : Gx}
theorem op_neD (hu : X.A.units < cLine) : OpR X (compareOp .NotEq) (fun x y H Q => ∃ a b ks, x = .ref a ∧ y = .ref b ∧ Rd H a (.dK ks) ∧ Rd H b (.dK []) ∧ Q (.bl !ks.isEmpty) H) := by
  intro pins s σ H x y v u Q I rx ry h
  obtain ⟨a, b, ks, rfl, rfl, ea, eb, q⟩ := h
  obtain rfl : v = Value.ref a := rx
  obtain rfl : u = Value.ref b := ry
  obtain ⟨_, ya, va, ra, da⟩ := dk_rd I.hok ea
  obtain ⟨_, yb, vb, rb, db⟩ := dk_rd I.hok eb
  have e1 : va.length = ks.length := ra.length.symm
  have e2 : vb.length = 0 := rb.length.symm
  exact PySem.W.keq_ne (knd := mixKind X.prog X.w) (r := true) ya yb da db hu (fun hl => by
    have : va = [] := List.eq_nil_of_length_eq_zero (by omega)
    rw [this]
    exact .nil) (fin_bl I q (by rw [e1, e2]; cases ks <;> simp))
end
end Den
set_option maxRecDepth 100000
set_option maxHeartbeats 1000000
/-! Calculation rules: two clauses, many locks, a table that is not empty. -/
namespace Den
open PySem L2
section
variable {h : List O} {e e0 : Env} {n : Nat}
/-! ### many locks -/
end
end Den
set_option maxRecDepth 100000
set_option maxHeartbeats 1000000
/-! A list of anything compared with a bare one: by their lengths. -/
namespace Den
open PySem L2 PyProof.Rows
section
variable {G : Gx} {X : Cx}
end
end Den
set_option maxRecDepth 100000
set_option maxHeartbeats 2000000
/-! any, all, sum of a generator whose element is any expression (it may call defs, make objects): the generator's turns. -/
namespace L2
open PySem PySem.Spec PyProof.Rows GenW
/-- the expression; its two codes -/
abbrev gE (elt tg iter : Expr) (scope : Scope) (pos : Pos) : Expr := .GeneratorExp elt [⟨tg, iter, [], 0⟩] scope pos
abbrev gLoop (elt tg iter : Expr) (scope : Scope) (pos : Pos) (it : Addr) (cenv : Env) : Code := .compLoop (gE elt tg iter scope pos) 0 (.ref it) .none cenv
abbrev gStart (elt tg iter : Expr) (scope : Scope) (pos : Pos) (it : Addr) (cenv : Env) : Code := .compStart (gE elt tg iter scope pos) 0 (.ref it) .none cenv
section
variable {elt tg iter : Expr} {scope : Scope} {pos : Pos} {it : Addr} {cenv : Env} {A : Around}
theorem over_gLoop : A.over (gLoop elt tg iter scope pos it cenv) [] = A.deeper cenv := by
  first
    | rfl
    | (obtain ⟨hd, d, fr, gs, u⟩ := A; simp [Around.over, Around.deeper, marksOver, frameCount, unitsOf, envsOf, guardsOf, pushEnvs, pushGuards, Code.envs, Code.env?, Code.isFrame, Code.guards, Code.isGuard, Code.weight, Code.frames, Code.isCreation, Code.isCaller, Code.cUnits])
theorem turn_gen (it acc : Value) (env : Env) : compTurn (gE elt tg iter scope pos) 0 it acc env = (do
      standAt iter.pos
      match ← pyNext it with
      | none => pure (.done .next)
      | some v =>
        letOwnedTupleGo tg it v
        assign tg env v
        (do let v ← eval elt env; standAt elt.pos; let _ ← yieldOut env v)
        again (.compLoop (gE elt tg iter scope pos) 0 it acc env)) := by rfl
variable {P : Program} {w : World} {R : GenEnd} {Y : Protocol}
theorem seg_turns (hco : cenv.scope.isCoroutine = false) (J : Nat → Shared → Prop)
    (turn : ∀ n s, J n s → wpAny (model P w) (A.over (gLoop elt tg iter scope pos it cenv) []) (pyNext (.ref it)) (fun r s1 => match r with
      | none => R n s (.ok .next) s1
      | some v => wpAny (model P w) (A.over (gLoop elt tg iter scope pos it cenv) []) (letOwnedTupleGo tg (.ref it) v) (fun _ s2 => wpAny (model P w) (A.over (gLoop elt tg iter scope pos it cenv) []) (assign tg cenv v) (fun _ s3 =>
          wpAny (model P w) (A.over (gLoop elt tg iter scope pos it cenv) []) (eval elt cenv) (fun y s4 => ∃ m, n = m + 1 ∧ ∀ kap : Resume → Shared → Prop, (∀ s'', J m s'' → kap (.send .none) s'') → Y m s y s4 kap) (fun _ _ => False) s3) (fun _ _ => False) s2) (fun _ _ => False) s1) (fun _ _ => False) s) :
    ∀ n s, J n s → Seg (model P w) A R Y n s (gLoop elt tg iter scope pos it cenv) ((model P w).den (gLoop elt tg iter scope pos it cenv)) [] s := by
  intro n
  induction n with
  | zero =>
    intro s hJ
    show Seg _ A _ _ _ s _ ((compTurn (gE elt tg iter scope pos) 0 (.ref it) .none cenv).onRaise (leaving cenv)) [] s
    rw [turn_gen, Sem.onRaise_eq_wrap]
    refine seg_bind_wrap (wpAny_standAt ?_)
    refine seg_bind_wrap (wpAny_mono (turn 0 s hJ) (fun r s1 h1 => ?_) fun _ _ z => z.elim)
    cases r with
    | none => exact seg_end (.ok .next) h1
    | some v =>
      refine seg_bind_wrap (wpAny_mono h1 (fun _ s2 h2 => ?_) fun _ _ z => z.elim)
      refine seg_bind_wrap (wpAny_mono h2 (fun _ s3 h3 => ?_) fun _ _ z => z.elim)
      rw [Sem.bind_eq_wrap', Sem.bind_eq_wrap', Sem.wrap_wrap, Sem.wrap_wrap]
      refine seg_wrap (wpAny_mono h3 (fun y s4 h4 => ?_) fun _ _ z => z.elim)
      obtain ⟨m, e, _⟩ := h4
      exact absurd e (by omega)
  | succ n ih =>
    intro s hJ
    show Seg _ A _ _ _ s _ ((compTurn (gE elt tg iter scope pos) 0 (.ref it) .none cenv).onRaise (leaving cenv)) [] s
    rw [turn_gen, Sem.onRaise_eq_wrap]
    refine seg_bind_wrap (wpAny_standAt ?_)
    refine seg_bind_wrap (wpAny_mono (turn (n + 1) s hJ) (fun r s1 h1 => ?_) fun _ _ z => z.elim)
    cases r with
    | none => exact seg_end (.ok .next) h1
    | some v =>
      refine seg_bind_wrap (wpAny_mono h1 (fun _ s2 h2 => ?_) fun _ _ z => z.elim)
      refine seg_bind_wrap (wpAny_mono h2 (fun _ s3 h3 => ?_) fun _ _ z => z.elim)
      have hy : ∀ v, yieldOut cenv v = yieldValue v := fun v => by simp only [yieldOut, hco, Bool.false_eq_true, if_false]
      simp only [hy]
      rw [Sem.bind_eq_wrap', Sem.bind_eq_wrap', Sem.wrap_wrap, Sem.wrap_wrap]
      refine seg_wrap (wpAny_mono h3 (fun y s4 h4 => ?_) fun _ _ z => z.elim)
      obtain ⟨m, e, hk⟩ := h4
      obtain rfl : n = m := by omega
      exact seg_at (seg_yield rfl rfl rfl (hk _ fun s'' hJ' => seg_again rfl (ih s'' hJ')))
theorem seg_begin (hco : cenv.scope.isCoroutine = false) {n : Nat} {s : Shared} (hself : ∀ (A : Around) (Q : Value → Shared → Prop) (E : Value → Shared → Prop), Q (.ref it) s → wpAny (model P w) A (pyIter (.ref it)) Q E s)
    (loop : Seg (model P w) A R Y n s (gLoop elt tg iter scope pos it cenv) ((model P w).den (gLoop elt tg iter scope pos it cenv)) [] s) :
    Seg (model P w) A R Y n s (gStart elt tg iter scope pos it cenv) ((model P w).den (gStart elt tg iter scope pos it cenv)) [] s := by
  show Seg _ A _ _ _ s _ ((compStart (gE elt tg iter scope pos) 0 (.ref it) .none cenv).onRaise (leaving cenv)) [] s
  unfold compStart
  rw [Sem.onRaise_eq_wrap]
  show Seg _ A _ _ _ s _ ((ask >>= _).wrap _ _ _ _) [] s
  refine seg_bind_wrap (wpAny_askSetting ?_)
  split
  · exact seg_again rfl loop
  · first
      | exact seg_bind_wrap (wpAny_rule (seg_bind_wrap (wpAny_standAt (seg_bind_wrap (hself _ _ _ (seg_again rfl loop))))))
      | (refine seg_bind_wrap (wpAny_rule ?_); show Seg _ A _ _ _ s _ ((standAt iter.pos >>= _).wrap _ _ _ _) [] s; exact seg_bind_wrap (wpAny_standAt (seg_bind_wrap (hself _ _ _ (seg_again rfl loop)))))
end
end L2
set_option maxRecDepth 100000
set_option maxHeartbeats 2000000
/-! The context that a generator's element runs in. -/
namespace L2
open PySem PySem.Spec PyProof.Rows GenW
structure GenOk (N : List Str) (sc scope : Scope) (own : List (Str × Nat)) : Prop where
  kind : scope.kind = .function
  co : scope.isCoroutine = false
  cell : ∀ y ∈ scope.names, y.2 ≠ .cell
  dot : scope.names.lookup (".0" : Str) = some NameKind.local
  nd : (".0" : Str) ∉ N
  own : ∀ y, scope.names.lookup y = some .local → y = ".0" ∨ ∃ p ∈ own, p.1 = y ∧ N[p.2]? = some y
  free : ∀ y ∈ scope.names, y.2 = .free → sc.names.lookup y.1 = some .cell ∨ sc.names.lookup y.1 = some .free
def genOkB (N : List Str) (sc scope : Scope) (own : List (Str × Nat)) : Bool :=
  decide (scope.kind = .function) && !scope.isCoroutine && decide (scope.names.lookup (".0" : Str) = some .local) && decide ((".0" : Str) ∉ N) &&
    scope.names.all fun y => !decide (y.2 = .cell) && (!decide (y.2 = .local) || decide (y.1 = ".0") || own.any fun p => decide (p.1 = y.1) && decide (N[p.2]? = some y.1)) && (!decide (y.2 = .free) || decide (sc.names.lookup y.1 = some .cell) || decide (sc.names.lookup y.1 = some .free))
theorem genOk_by {N : List Str} {sc scope : Scope} {own : List (Str × Nat)} (h : genOkB N sc scope own = true) : GenOk N sc scope own := by
  unfold genOkB at h
  simp only [Bool.and_eq_true, Bool.or_eq_true, Bool.not_eq_true', decide_eq_true_eq, decide_eq_false_iff_not, List.all_eq_true, List.any_eq_true] at h
  obtain ⟨⟨⟨⟨h1, h2⟩, h3⟩, h4⟩, h5⟩ := h
  refine ⟨h1, h2, fun y hy => (h5 y hy).1.1, h3, h4, fun y hy => ?_, fun y hy e => ?_⟩
  · have hm := PySem.mem_of_lookup hy
    rcases (h5 _ hm).1.2 with (z | z) | z
    · exact absurd rfl z
    · exact .inl z
    · obtain ⟨p, hp, e1, e2⟩ := z
      exact .inr ⟨p, hp, e1, e2⟩
  · rcases (h5 y hy).2 with (z | z) | z
    · exact absurd e z
    · exact .inl z
    · exact .inr z
abbrev genX (X : Cx) (s : Shared) (H : Hp) (ce : Env) (fp : List Addr) (A : Around) : Cx := { X with A := A, s_0 := s, H_0 := H, env := ce, outer := X.stack, stack := ce :: X.stack, ex := fp, fn := fun _ => false, pn := [], xe := fun _ _ => False }
abbrev gxEnv (X : Cx) (scope : Scope) (C : Addr) (code : Value) : Env := genEnv scope (cloFrom X.env.cells scope.names []) C code builtinsNs X.env
section
variable {X : Cx} {pins : List (Addr × Obj)} {σ : St} {H : Hp} {s s5 : Shared}
theorem gen_start {scope : Scope} {own : List (Str × Nat)} {fp : List Addr} {code : Value} {A : Around} {m : Str → Option Value} (I : Inv X pins σ H s) (ok : GenOk X.N X.env.scope scope own) (hN : X.N.Nodup) (hfp : ∀ b ∈ fp, FpOk X pins H b ∧ b < s.heap.objs.size)
    (hd : A.handled = none) (hf : A.frames = some (gxEnv X scope s.heap.objs.size code :: X.stack)) (ho : s5.os = s.os) (hb : AllBare s5.gens) (kp : ∀ b o, s.heap.get? b = some o → s5.heap.get? b = some o) (hn : s5.heap.Ns s.heap.objs.size m) :
    Inv (genX X s H (gxEnv X scope s.heap.objs.size code) fp A) [] (wipe σ (own.map (·.2))) H s5 := by
  have hfree : ∀ y ∈ scope.names, y.2 = .free → ∃ c, X.env.cells.lookup y.1 = some c := fun y hy e => by
    rcases ok.free y hy e with k | k
    · exact I.ok.has _ (.inl k)
    · exact I.ok.has _ (.inr k)
  generalize hcenv : gxEnv X scope s.heap.objs.size code = ce at hf ⊢
  have hL : ce.locals = s.heap.objs.size := by rw [← hcenv]; rfl
  have hcl : ce.cells = cloFrom X.env.cells scope.names [] := by rw [← hcenv]; rfl
  have hsc : ce.scope = scope := by rw [← hcenv]; rfl
  have cm : ∀ {y c}, ce.cells.lookup y = some c → X.env.cells.lookup y = some c ∧ c < s.heap.objs.size := fun {y c} e => by
    rw [hcl] at e
    rcases cloFrom_mem (PySem.mem_of_lookup e) with hm | ⟨h1, rfl⟩
    · cases hm
    · obtain ⟨c, hc⟩ := hfree _ h1 rfl
      rw [hc]
      obtain ⟨w, z⟩ := I.cell _ _ hc
      exact ⟨rfl, z.lt⟩
  have look : ∀ {y}, scope.names.lookup y = some .free → ∃ c, ce.cells.lookup y = some c ∧ X.env.cells.lookup y = some c := fun {y} hl => by
    obtain ⟨c', e'⟩ := mem_lookup (cloFrom_has (cells := X.env.cells) (acc := []) (PySem.mem_of_lookup hl))
    rw [← hcl] at e'
    exact ⟨c', e', (cm e').1⟩
  have okB : (genX X s H ce fp A).Ok := by
    refine ⟨I.ok.mod, by show ce.scope.kind = _; rw [hsc]; exact ok.kind, by show ce.globals = _; rw [← hcenv]; exact I.ok.glob, by show ce.builtins = _; rw [← hcenv]; rfl, by show s.heap.objs.size ≤ ce.locals; rw [hL]; exact Nat.le_refl _,
      fun y z c e1 e2 => ?_, fun y hy => ?_, fun y c z e => absurd (show false = true from z) (by decide), fun _ => hd, hf, .inr ⟨rfl, ?_⟩, fun b hb => ⟨?_, fun y c e z => ?_⟩, I.bs, Nat.le_trans I.ok.bsz I.sz, fun b o e hb => ?_, fun b hb z => ?_, I.stack, I.stkFree⟩
    · exact I.ok.inj y z c (cm (show ce.cells.lookup y = some c from e1)).1 (cm (show ce.cells.lookup z = some c from e2)).1
    · show ∃ c, ce.cells.lookup y = some c
      have hki : ce.kindOf y = scope.names.lookup y := by show ce.scope.names.lookup y = _; rw [hsc]
      have hy : ce.kindOf y = some .cell ∨ ce.kindOf y = some .free := hy
      rw [hki] at hy
      rcases hy with hy | hy
      · exact absurd rfl (ok.cell _ (PySem.mem_of_lookup hy))
      · obtain ⟨c, h1, _⟩ := look hy
        exact ⟨c, h1⟩
    · show ce.frame = some ce.locals
      rw [← hcenv]; rfl
    · show b ≠ ce.locals
      rw [hL]; exact Nat.ne_of_lt (hfp b hb).2
    · exact (hfp b hb).1.2.2.2.2.1 y c (cm (show ce.cells.lookup y = some c from e)).1 z
    · rcases (hfp b hb).1.2.2.2.1 with z | z
      · exact I.ok.noex b o e z
      · exact absurd (Nat.lt_of_lt_of_le (Heap.lt_size e) (Nat.le_trans I.ok.bsz z)) (Nat.lt_irrefl _)
    · rcases List.mem_cons.mp (I.stkSub b z) with z | z
      · exact (hfp b hb).1.2.1 z
      · exact (hfp b hb).1.2.2.1 z
  refine ⟨okB, ho, hb, Un.kept kp, ⟨m, ?_, fun i y av e1 e2 e3 => ?_⟩, fun y c e => ?_, ?_, fun y c e => ?_, fun p hp => ?_, I.hok.kept kp, by rw [wipe_length]; exact I.len⟩
  · show s5.heap.Ns ce.locals m
    rw [hL]
    exact hn
  · obtain ⟨e2, hne⟩ := wipe_some e2
    have e3 : Vis ce.scope y := e3
    rw [hsc] at e3
    have hyd : y ≠ (".0" : Str) := fun z => ok.nd (by rw [← z]; exact List.mem_of_getElem? e1)
    have hfr : scope.names.lookup y = some .free := by
      rcases e3 with z | z | z
      · rcases ok.own y z with z | ⟨p, hp, h1, h2⟩
        · exact absurd z hyd
        · refine absurd (show i ∈ own.map (·.2) from ?_) hne
          obtain ⟨l1, q1⟩ := List.getElem?_eq_some_iff.mp e1
          obtain ⟨l2, q2⟩ := List.getElem?_eq_some_iff.mp h2
          have : i = p.2 := (List.getElem_inj hN).mp (q1.trans q2.symm)
          rw [this]; exact List.mem_map.mpr ⟨p, hp, rfl⟩
      · exact absurd rfl (ok.cell _ (PySem.mem_of_lookup z))
      · exact z
    obtain ⟨c, hc1, hc2⟩ := look hfr
    have hX : Vis X.env.scope y := (ok.free _ (PySem.mem_of_lookup hfr) rfl).elim (fun z => .inr (.inl z)) fun z => .inr (.inr z)
    obtain ⟨m0, _, hl⟩ := I.loc
    obtain ⟨u, ru, q⟩ := hl i y av e1 e2 hX
    refine ⟨u, ru, .inr ⟨.inr (by show ce.scope.names.lookup y = _; rw [hsc]; exact hfr), c, hc1, ?_⟩⟩
    rcases q with ⟨z, _⟩ | ⟨_, c2, h1, oc, h2, h3⟩
    · have z : X.env.scope.names.lookup y = some .local := z
      rcases ok.free _ (PySem.mem_of_lookup hfr) rfl with z2 | z2 <;> rw [show X.env.scope.names.lookup y = _ from z2] at z <;> cases z
    · rw [hc2] at h1
      obtain rfl := Option.some.inj h1
      exact ⟨oc, kp _ _ h2, h3⟩
  · have e : ce.cells.lookup y = some c := e
    obtain ⟨v, oc, h2, h3⟩ := I.cell y c (cm e).1
    exact ⟨v, oc, kp _ _ h2, h3⟩
  · show H ce.locals = none
    rw [hL]
    exact I.hok.fresh (Nat.le_refl _)
  · exact I.freeC y c (cm (show ce.cells.lookup y = some c from e)).1
  · exact absurd (show p ∈ ([] : List (Addr × Obj)) ++ [] from hp) (by simp)
/-- back from the generator -/
theorem gen_end {ce : Env} {fp : List Addr} {A : Around} {pins' : List (Addr × Obj)} {σ' : St} {H' : Hp} {s' s'' : Shared} (I : Inv X pins σ H s) (hfp : ∀ b ∈ fp, FpOk X pins H b) (J : Inv (genX X s H ce fp A) pins' σ' H' s') (kp : ∀ b o, s'.heap.get? b = some o → s''.heap.get? b = some o) (ho : s''.os = s'.os) (hb : AllBare s''.gens) :
    Inv X pins σ H' s'' := by
  refine I.call' (ch := fp) (ho.trans J.os) (Un.trans J.base (Un.kept kp)) (J.hok.kept kp) hb fun b hb => ?_
  obtain ⟨_, h1, h2, h3, h4, h5⟩ := hfp b hb
  exact ⟨h3, h1, h4, h5⟩
/-- the gens, the tokens are others -/
theorem Inv.wake {Y : Cx} {s'' : Shared} (I : Inv Y pins σ H s) (kp : ∀ b o, s.heap.get? b = some o → s''.heap.get? b = some o) (ho : s''.os = s.os) (hb : AllBare s''.gens) : Inv Y pins σ H s'' :=
  I.call' (ch := []) ho (Un.kept kp) (I.hok.kept kp) hb fun b z => absurd z (by simp)
/-- one turn of the generator -/
theorem gen_turn {Y : Cx} {fp ss : List Addr} {it : Addr} {tn : Nat → Heap → Prop} {J : It} {tg elt : Expr} {g : TG} {te : TE} {i : Nat} {va : List Nat} {Nx : V → Hp → Prop}
    (hc : Y.calm = true) (hga : PG Y tg g) (hel : PE Y elt te) (hxe : Y.xe = fun _ _ => False)
    (T : Turn Y.prog Y.w Y.K tg J fp it tn) (I : Inv Y [] (wipe σ va) H s) (hpn : Y.pn = []) (st : tn i s.heap) (go : J.go i H) (nf : ∀ b ∈ fp, FpOk Y [] H b) (ns : ∀ b ∈ ss, FpOk Y [] H b ∧ b ∉ fp ∧ ∃ o, s.heap.get? b = some o ∧ ∀ v, o.data ≠ .cell v)
    (step : ∀ x H', J.yld i H x H' → g x (wipe σ va) H' fun τ H2 => wipe τ va = wipe σ va ∧ te τ H2 Nx) :
    wpAny (model Y.prog Y.w) Y.A (pyNext (.ref it)) (fun r s1 => ∃ v, r = some v ∧ wpAny (model Y.prog Y.w) Y.A (letOwnedTupleGo tg (.ref it) v) (fun _ s2 => wpAny (model Y.prog Y.w) Y.A (assign tg Y.env v) (fun _ s3 =>
        wpAny (model Y.prog Y.w) Y.A (eval elt Y.env) (fun u s4 => ∃ y H3, RelV y u ∧ Nx y H3 ∧ Inv Y [] (wipe σ va) H3 s4 ∧ tn (i + 1) s4.heap ∧ (∀ b ∈ fp, H3 b = none) ∧ ∀ b ∈ ss, H3 b = none ∧ s4.heap.get? b = s.heap.get? b) (fun _ _ => False) s3) (fun _ _ => False) s2) (fun _ _ => False) s1) (fun _ _ => False) s := by
  have fs : ∀ b ∈ ss, FpOk Y [] H b := fun b hb => (ns b hb).1
  have P1 : Inv Y ([] ++ pinsAt ss s.heap) (wipe σ va) H s := I.pinned fs fun b hb => (ns b hb).2.2
  have nfp : ∀ {H' : Hp}, (∀ b ∈ fp, H' b = none) → ∀ b ∈ fp, FpOk Y ([] ++ pinsAt ss s.heap) H' b := fun hn b hb => by
    obtain ⟨_, h1, h2, h3, h4, h5⟩ := nf b hb
    refine ⟨hn b hb, h1, h2, h3, h4, fun p hp z => ?_⟩
    rw [hpn] at hp
    have hp : p ∈ pinsAt ss s.heap := by simpa using hp
    have := (of_pinsAt hp).1
    rw [z] at this
    exact (ns b this).2.1 hb
  refine thn (T.item Y rfl rfl rfl hc i _ s (wipe σ va) H (fun _ _ => False) P1 (nfp fun b hb => (nf b hb).1) st go) fun r s1 ⟨v, hr, k1⟩ => ?_
  refine ⟨v, hr, thn k1 fun _ s2 ⟨x, H2, I2, r2, y2, st2, n2⟩ => ?_⟩
  have P2 := I2.pinned (nfp n2) (T.obj _ _ st2)
  have hg := hga.run _ s2 (wipe σ va) H2 x v _ P2 r2 (step x H2 y2)
  rw [hxe] at hg
  refine thn hg fun _ s3 ⟨τ, H3, I3, hw3, q3⟩ => ?_
  have he := hel.run _ s3 τ H3 _ I3 q3
  rw [hxe] at he
  refine thn he fun u s4 ⟨y, H4, I4, r4, q4⟩ => ?_
  have pin : ∀ b o, (b, o) ∈ ([] ++ pinsAt ss s.heap) ++ pinsAt fp s2.heap → s4.heap.get? b = some o ∧ H4 b = none := fun b o hb => by
    have z := I4.pin (b, o) (List.mem_append_right _ hb)
    exact ⟨z.1, z.2.1⟩
  have I5 : Inv Y [] τ H4 s4 := I4.pins_of fun p hp => absurd hp (by simp)
  refine ⟨y, H4, r4, q4, I5.weak (by rw [← hw3, wipe_length]) (fun j z e => by rw [← hw3] at e; exact (wipe_some e).1), T.keep _ _ _ st2 fun b hb o e => (pin b o (List.mem_append_right _ (mem_pinsAt hb e))).1, fun b hb => ?_, fun b hb => ?_⟩
  · obtain ⟨o, e, _⟩ := T.obj _ _ st2 b hb
    exact (pin b o (List.mem_append_right _ (mem_pinsAt hb e))).2
  · obtain ⟨o, e, _⟩ := (ns b hb).2.2
    have := pin b o (List.mem_append_left _ (List.mem_append_right _ (mem_pinsAt hb e)))
    exact ⟨this.2, by rw [this.1, e]⟩
end
end L2
set_option maxRecDepth 100000
set_option maxHeartbeats 2000000
/-! all, any, sum draining a generator that wakes by a protocol. -/
namespace L2
open PySem PySem.Spec PyProof.Rows GenW
/-- the end of the run: the walk's end; no raise -/
def GEnd (Fn : Shared → Prop) : GenEnd := fun n s₀ r s1 => ((r = .ok (.ret .none) ∨ r = .ok .next) ∧ (AllBare s1.gens ∧ Fn s1)) ∨ ∃ e, r = .error e ∧ (fun (_ : Value) (_ : Shared) => False) e s1
/-- what may happen between two turns: objects ss may change -/
structure Nap (s s'' : Shared) : Prop where
  heap : s''.heap = s.heap
  os : s''.os = s.os
  bare : AllBare s''.gens
/-- a truth value is handed out; at st the drainer leaves -/
def YBool (a : Addr) (g : Nat) (st : Bool) (Kst : Shared → Prop) : Protocol := fun n s₀ v s1 kap =>
  AllBare s1.gens ∧ s1.heap.NoLimit ∧ s1.heap.IsGen a g ∧ ∃ b, v = .bool b ∧ if b = st then Kst s1 else ∀ s'', Nap s1 s'' → kap (.send .none) s''
section
variable {P : Program} {w : World} {A : Around} {R : Result → Shared → Prop} {a : Addr} {g : Nat} {Kst Fn : Shared → Prop}
theorem all_drain (hh : A.handled = none) (hd : A.depth < recursionLimit)
    (hst : ∀ s1 s', Kst s1 → s'.heap = s1.heap → s'.os = s1.os → AllBare s'.gens → R (.ok (.ret (.bool false))) s')
    (hfn : ∀ s1 s', Fn s1 → (∀ b o, s1.heap.get? b = some o → s'.heap.get? b = some o) → s'.os = s1.os → AllBare s'.gens → R (.ok (.ret (.bool true))) s') :
    ∀ (n : Nat) (s : Shared), s.heap.IsGen a g → s.heap.NoLimit →
      (∃ gs, s.gens[g]? = some gs ∧ gs.Goes (model P w) A.in1.in1 (GEnd Fn) (YBool a g false Kst) n (.send .none) (s.setGen g .running)) →
      codeAny (model P w) A (.builtin "all.loop" ⟨[.ref a], []⟩) R s := by
  intro n
  induction n with
  | zero =>
    intro s hg hl ⟨gs, hgs, hgo⟩
    refine codeAny_builtin F.entry_all_loop ?_
    rw [Around.under_plainId F.plain_all_loop _]
    show wpAny _ A.in1 (pyNext (.ref a) >>= _) _ _ s
    refine wpAny_bind (next_genG (A := A.in1) hh hl hd hg hgs hgo (fun v s₁ gs' hbare hv => ?_) (fun s₁ hp h' hk => ?_) fun e s₁ he => he.elim)
    · obtain ⟨hb1, hl1, hg1, b, rfl, q⟩ := hv
      refine wpAny_bind (wpAny_holding (wpAny_truthy_bool ?_))
      refine wpAny_bind (wpAny_letGo ?_)
      cases b with
      | true => exact absurd (q _ ⟨rfl, rfl, hb1⟩) (fun z => z)
      | false =>
        simp only [Bool.false_eq_true, if_false]
        refine wpAny_bind (wpAny_rule (wpAny_pure ?_))
        exact hst _ _ q rfl rfl (allBare_setGen hb1 hbare)
    · refine wpAny_bind (wpAny_rule (wpAny_pure ?_))
      exact hfn _ _ hp.2 hk rfl (allBare_setGen hp.1 rfl)
  | succ n ih =>
    intro s hg hl ⟨gs, hgs, hgo⟩
    have hgl : g < s.gens.size := (Array.getElem?_eq_some_iff.mp hgs).1
    refine codeAny_builtin F.entry_all_loop ?_
    rw [Around.under_plainId F.plain_all_loop _]
    show wpAny _ A.in1 (pyNext (.ref a) >>= _) _ _ s
    refine wpAny_bind (wpAny_gsz (n := g + 1) hgl (next_genG (A := A.in1) hh hl hd hg hgs hgo (fun v s₁ gs' hbare hv hsz => ?_) (fun s₁ hp h' hk _ => ?_) fun e s₁ he => he.elim))
    · obtain ⟨hb1, hl1, hg1, b, rfl, q⟩ := hv
      refine wpAny_bind (wpAny_holding (wpAny_truthy_bool ?_))
      refine wpAny_bind (wpAny_letGo ?_)
      have hsz1 : g < s₁.gens.size := by
        have e : (s₁.setGen g gs').gens.size = s₁.gens.size := setGen_size _ _ _
        have hsz' : g + 1 ≤ (s₁.setGen g gs').gens.size := hsz
        omega
      cases b with
      | true =>
        simp only [if_true]
        refine wpAny_pure ⟨plainId_quiet F.plain_all_loop _, ih (s₁.setGen g gs') hg1 hl1 ⟨gs', setGen_at hsz1, ?_⟩⟩
        exact q _ ⟨rfl, rfl, allBare_setGen (s := s₁.setGen g gs') (allBare_setGen hb1 hbare) rfl⟩
      | false =>
        simp only [Bool.false_eq_true, if_false]
        refine wpAny_bind (wpAny_rule (wpAny_pure ?_))
        exact hst _ _ q rfl rfl (allBare_setGen hb1 hbare)
    · refine wpAny_bind (wpAny_rule (wpAny_pure ?_))
      exact hfn _ _ hp.2 hk rfl (allBare_setGen hp.1 rfl)
theorem any_drain (hh : A.handled = none) (hd : A.depth < recursionLimit)
    (hst : ∀ s1 s', Kst s1 → s'.heap = s1.heap → s'.os = s1.os → AllBare s'.gens → R (.ok (.ret (.bool true))) s')
    (hfn : ∀ s1 s', Fn s1 → (∀ b o, s1.heap.get? b = some o → s'.heap.get? b = some o) → s'.os = s1.os → AllBare s'.gens → R (.ok (.ret (.bool false))) s') :
    ∀ (n : Nat) (s : Shared), s.heap.IsGen a g → s.heap.NoLimit →
      (∃ gs, s.gens[g]? = some gs ∧ gs.Goes (model P w) A.in1.in1 (GEnd Fn) (YBool a g true Kst) n (.send .none) (s.setGen g .running)) →
      codeAny (model P w) A (.builtin "any.loop" ⟨[.ref a], []⟩) R s := by
  intro n
  induction n with
  | zero =>
    intro s hg hl ⟨gs, hgs, hgo⟩
    refine codeAny_builtin F.entry_any_loop ?_
    rw [Around.under_plainId F.plain_any_loop _]
    show wpAny _ A.in1 (pyNext (.ref a) >>= _) _ _ s
    refine wpAny_bind (next_genG (A := A.in1) hh hl hd hg hgs hgo (fun v s₁ gs' hbare hv => ?_) (fun s₁ hp h' hk => ?_) fun e s₁ he => he.elim)
    · obtain ⟨hb1, hl1, hg1, b, rfl, q⟩ := hv
      refine wpAny_bind (wpAny_holding (wpAny_truthy_bool ?_))
      refine wpAny_bind (wpAny_letGo ?_)
      cases b with
      | false => exact absurd (q _ ⟨rfl, rfl, hb1⟩) (fun z => z)
      | true =>
        simp only [if_true]
        refine wpAny_bind (wpAny_rule (wpAny_pure ?_))
        exact hst _ _ q rfl rfl (allBare_setGen hb1 hbare)
    · refine wpAny_bind (wpAny_rule (wpAny_pure ?_))
      exact hfn _ _ hp.2 hk rfl (allBare_setGen hp.1 rfl)
  | succ n ih =>
    intro s hg hl ⟨gs, hgs, hgo⟩
    have hgl : g < s.gens.size := (Array.getElem?_eq_some_iff.mp hgs).1
    refine codeAny_builtin F.entry_any_loop ?_
    rw [Around.under_plainId F.plain_any_loop _]
    show wpAny _ A.in1 (pyNext (.ref a) >>= _) _ _ s
    refine wpAny_bind (wpAny_gsz (n := g + 1) hgl (next_genG (A := A.in1) hh hl hd hg hgs hgo (fun v s₁ gs' hbare hv hsz => ?_) (fun s₁ hp h' hk _ => ?_) fun e s₁ he => he.elim))
    · obtain ⟨hb1, hl1, hg1, b, rfl, q⟩ := hv
      refine wpAny_bind (wpAny_holding (wpAny_truthy_bool ?_))
      refine wpAny_bind (wpAny_letGo ?_)
      have hsz1 : g < s₁.gens.size := by
        have e : (s₁.setGen g gs').gens.size = s₁.gens.size := setGen_size _ _ _
        have hsz' : g + 1 ≤ (s₁.setGen g gs').gens.size := hsz
        omega
      cases b with
      | false =>
        simp only [Bool.false_eq_true, if_false]
        refine wpAny_pure ⟨plainId_quiet F.plain_any_loop _, ih (s₁.setGen g gs') hg1 hl1 ⟨gs', setGen_at hsz1, ?_⟩⟩
        exact q _ ⟨rfl, rfl, allBare_setGen (s := s₁.setGen g gs') (allBare_setGen hb1 hbare) rfl⟩
      | true =>
        simp only [if_true]
        refine wpAny_bind (wpAny_rule (wpAny_pure ?_))
        exact hst _ _ q rfl rfl (allBare_setGen hb1 hbare)
    · refine wpAny_bind (wpAny_rule (wpAny_pure ?_))
      exact hfn _ _ hp.2 hk rfl (allBare_setGen hp.1 rfl)
end
/-! ### sum -/
/-- the drainer's own list, at the sum n -/
abbrev sumAt (n : Int) (t : Tok) (c : Nat) : Obj := { cls := .type "list", dict := none, data := .seq #[.int n t] c, slots := #[] }
structure NapS (S : Addr) (n : Int) (s s'' : Shared) : Prop where
  keep : ∀ b o, b ≠ S → s.heap.get? b = some o → s''.heap.get? b = some o
  sum : ∃ t c, s''.heap.get? S = some (sumAt n t c)
  os : s''.os = s.os
  bare : AllBare s''.gens
section
variable {P : Program} {w : World} {A : Around} {R : Result → Shared → Prop} {a S : Addr} {g : Nat} {Fn : Shared → Prop}
end
end L2
set_option maxRecDepth 100000
set_option maxHeartbeats 2000000
/-! A generator whose element is any expression: its making; what its turns owe. -/
namespace Den
open PySem L2 PyProof.Rows PySem.W LamX GenW
section
variable {X : Cx} {pins : List (Addr × Obj)} {σ : L2.St} {H1 H : Hp} {s1 s : Shared} {G : Gx}
/-- behind the making of the generator's code object -/
theorem tab_fin2 {T : List (Addr × Str)} {P : Addr} {q : Str} {ps ps' : Array Value} (I1 : Inv X pins σ H1 s1) (hT : Tabs T H1) (hu : ∀ p ∈ T, p.1 = P → p.2 = q) (hP : H1 P = some (.tbl ps)) (ht : TriplesOk ps.toList)
    (ha : ∀ (pos : Pos) (cv : Value), codeAmong pos ps.toList = some cv → ∃ c, cv = .ref c ∧ H1 c = some (CodeO c q)) {h3 : Heap} {tk : Nat}
    (hps : ps' = ps ∨ ∃ (pos : Pos) (c' : Addr), ps' = ps ++ #[rawInt pos.line, rawInt pos.col, .ref c'] ∧ s1.heap.objs.size ≤ c' ∧ h3.CodeRec (.ref c') q)
    (k : ∀ b o, b ≠ P → s1.heap.get? b = some o → h3.get? b = some o) (hm : h3.get? P = some { cls := .none, data := .fields ps' }) :
    ∃ H2, ExtN H1 H2 ∧ Tabs T H2 ∧ Inv X pins σ H2 { s1 with heap := h3, toks := tk } ∧ ∀ b, H1 b = none → b < s1.heap.objs.size → H2 b = none := by
  rcases hps with e | ⟨pos, c', e, hge, c2, oc, vs, t, e2, hoc, hd, hv⟩
  · refine ⟨H1, ExtN.refl H1, hT, ?_, fun _ z _ => z⟩
    have kp : Kp s1.heap h3 := fun b o z => by
      by_cases hbP : b = P
      · have h1 : s1.heap.get? P = some { cls := .none, data := .fields ps } := I1.hok P _ hP
        rw [hbP, h1] at z
        cases z
        rw [hbP, hm, e]
      · exact k b o hbP z
    exact I1.call' (ch := []) rfl (Un.kept kp) (I1.hok.kept kp) I1.bare fun b z => absurd z (by simp)
  · cases e2
    have nC : H1 c' = none := I1.hok.fresh hge
    have hPl : P < s1.heap.objs.size := I1.hok.lt hP
    have hcP : c' ≠ P := Nat.ne_of_gt (Nat.lt_of_lt_of_le hPl hge)
    have I2 := inv_table (h' := h3) (t' := tk) (c := c') (q := q) (more := #[rawInt pos.line, rawInt pos.col, .ref c']) I1 hP k (by rw [← e]; exact hm) hge ⟨oc, vs, t, hoc, hd, hv⟩
    have hE : ExtN H1 (upd (upd H1 P (.tbl (ps ++ #[rawInt pos.line, rawInt pos.col, .ref c']))) c' (CodeO c' q)) := fun b o e n => by
      rw [upd_ne (ne_of_none e nC), upd_ne (fun z => n ps (Option.some.inj (e.symm.trans (by rw [z]; exact hP))))]
      exact e
    have eL : (ps ++ #[rawInt pos.line, rawInt pos.col, .ref c']).toList = ps.toList ++ [rawInt pos.line, rawInt pos.col, .ref c'] := by simp
    refine ⟨_, hE, fun p hp => ?_, I2, fun b z hl => ?_⟩
    · by_cases hb2 : p.1 = P
      · rw [hu p hp hb2, hb2]
        refine ⟨_, by rw [upd_ne (ne_of_none hP nC), upd_same], by rw [eL]; exact PySem.TriplesOk_snoc _ _ _ _ ht, fun p' cv hcv => ?_⟩
        rw [eL] at hcv
        rcases among_app _ ht hcv with z | z
        · obtain ⟨c0, e1, e2⟩ := ha p' cv z
          exact ⟨c0, e1, hE _ _ e2 codeO_ne⟩
        · exact ⟨c', z, upd_same⟩
      · obtain ⟨ps', a1, a2, a3⟩ := hT p hp
        refine ⟨ps', by rw [upd_ne (ne_of_none a1 nC), upd_ne hb2]; exact a1, a2, fun p' cv hcv => ?_⟩
        obtain ⟨c0, e1, e2⟩ := a3 p' cv hcv
        exact ⟨c0, e1, hE _ _ e2 codeO_ne⟩
    · rw [upd_ne (Nat.ne_of_lt (Nat.lt_of_lt_of_le hl hge)), upd_ne (fun y => by rw [y, hP] at z; cases z)]
      exact z
/-- the generator is made -/
structure Made (G : Gx) (X : Cx) (pins : List (Addr × Obj)) (σ : L2.St) (elt tg iter : Expr) (scope : Scope) (gpos : Pos) (J : It) (H1 H3 : Hp) (s3 s5 : Shared) (it a : Addr) (fp : List Addr) (tn : Nat → Heap → Prop) (code : Value) (g : Nat) (m : Str → Option Value) : Prop where
  ext : ExtN H1 H3
  tabs : Tabs G.T H3
  inv : Inv X pins σ H3 s3
  turn : Turn X.prog X.w X.K tg J fp it tn
  fp : ∀ b ∈ fp, FpOk X pins H3 b ∧ b < s3.heap.objs.size
  at0 : tn 0 s5.heap
  os : s5.os = s3.os
  bare : AllBare s5.gens
  keep : ∀ b o, s3.heap.get? b = some o → s5.heap.get? b = some o
  ns : s5.heap.Ns s3.heap.objs.size m
  gen : s5.heap.IsGen a g
  old : s3.heap.objs.size < a
  top : a < s5.heap.objs.size
  fresh : s5.gens[g]? = some (.fresh (gStart elt tg iter scope gpos it (gxEnv X scope s3.heap.objs.size code)))
theorem gen_make {c P : Addr} {elt tg iter : Expr} {gpos : Pos} {scope : Scope} {own : List (Str × Nat)} {wi : TI} {Q' : Value → Shared → Prop} {R : It → Hp → Prop}
    (hdp : X.A.depth < recursionLimit) (TB : TabB X.base X.mg c P) (hcode : X.env.code = .ref c) (hmT : (P, X.env.qual ++ "<genexpr>") ∈ G.T) (huT : ∀ p ∈ G.T, p.1 = P → p.2 = X.env.qual ++ "<genexpr>") (L : GenOk X.N X.env.scope scope own)
    (hia : PI X tg iter wi) (hs : ∀ v, genFold iter X.env v = pure v) (I : Inv X pins σ H s) (h : wi σ H R) (hT : ∀ J H1, R J H1 → Tabs G.T H1)
    (hQ : ∀ J H1 H3 s3 s5 it a fp tn code g m, R J H1 → Made G X pins σ elt tg iter scope gpos J H1 H3 s3 s5 it a fp tn code g m → Q' (.ref a) s5) :
    wpAny (model X.prog X.w) X.A (eval (gE elt tg iter scope gpos) X.env) Q' X.xe s := by
  have hfree : ∀ y ∈ scope.names, y.2 = .free → ∃ c, X.env.cells.lookup y.1 = some c := fun y hy e => by
    rcases L.free y hy e with z | z
    · exact I.ok.has _ (.inl z)
    · exact I.ok.has _ (.inr z)
  refine wpAny_GeneratorExp_make L.co (closure_ok hfree) L.cell L.dot L.kind hdp ?_ hs
  refine thn (hia.run pins s σ H _ I h) fun xv s1 h1 => thn h1 fun itv s2 h2 => ?_
  obtain ⟨it, fp, tn, J, H2, e, I2, T, st2, f2, q⟩ := h2
  subst e
  refine ⟨I2.nolimit, ?_⟩
  obtain ⟨ps, hP, ht, ha⟩ := hT J H2 q _ hmT
  have hPs : s2.heap.get? P = some { cls := .none, data := .fields ps } := I2.hok P _ hP
  have cd : PySem.W.CodeHd s2.heap c P := TB.code.keeps I2.bk
  have flt : ∀ b ∈ fp, b < s2.heap.objs.size := fun b hb => by
    obtain ⟨o, z, _⟩ := T.obj _ _ st2 b hb
    exact Heap.lt_size z
  have cont : ∀ (code : Value) (h3 : Heap) (tk : Nat) (ps' : Array Value), s2.heap.objs.size ≤ h3.objs.size →
      (ps' = ps ∨ ∃ (pos : Pos) (c' : Addr), ps' = ps ++ #[rawInt pos.line, rawInt pos.col, .ref c'] ∧ s2.heap.objs.size ≤ c' ∧ h3.CodeRec (.ref c') (X.env.qual ++ "<genexpr>")) →
      (∀ b o, b ≠ P → s2.heap.get? b = some o → h3.get? b = some o) → h3.get? P = some { cls := .none, data := .fields ps' } →
      wpAny (model X.prog X.w) X.A (builtinsFor X.env.globals X.env.builtins) (fun bi s₄ =>
        ∀ h', h'.Ns s₄.heap.objs.size (fun y => if y = ".0" then some (.ref it) else none) → Heap.SameBut s₄.heap.objs.size (s₄.heap.push { cls := .type "frame", data := .dict #[] }) h' →
          Q' (.ref h'.objs.size) { s₄ with
            gens := s₄.gens.push (.fresh (.compStart (gE elt tg iter scope gpos) 0 (.ref it) .none (genEnv scope (cloFrom X.env.cells scope.names []) s₄.heap.objs.size code bi X.env))),
            toks := s₄.toks + 1 + 1 + 1,
            heap := h'.push { cls := .type "generator", data := .fields #[.int s₄.gens.size 0, .str "<genexpr>" (s₄.toks + 1), .str (X.env.qual ++ "<genexpr>") (s₄.toks + 1 + 1)] } }) X.xe { s2 with heap := h3, toks := tk } := by
    intro code h3 tk ps' hsz hps k hm
    obtain ⟨H3, x3, T3, I3, n3⟩ := tab_fin2 (tk := tk) I2 (hT J H2 q) huT hP ht ha hps k hm
    obtain ⟨bm, ob, e1, e2, e3, e4, e5, e6, e7, e8⟩ := TB.bm
    refine wpAny_builtinsFor (m := X.mg) (by rw [I3.ok.glob]; exact I3.mod.glob.keeps I3.bk) e1 e2 (I3.bk _ _ e5) e6 e7 e8 ?_
    intro h' hn' hs'
    generalize hs3 : ({ s2 with heap := h3, toks := tk } : Shared) = s3 at *
    have hp3 : s3.heap = h3 := by rw [← hs3]
    have keep' : ∀ b o, s3.heap.get? b = some o → h'.get? b = some o := fun b o e => hs'.extBut b o (Nat.ne_of_lt (Heap.lt_size e)) (Heap.get?_push_of_some _ e)
    have hsz' : h'.objs.size = s3.heap.objs.size + 1 := by rw [hs'.1, Heap.size_push]
    have k5 : ∀ b o, s3.heap.get? b = some o → (h'.push { cls := .type "generator", data := .fields #[.int s3.gens.size 0, .str "<genexpr>" (s3.toks + 1), .str (X.env.qual ++ "<genexpr>") (s3.toks + 1 + 1)] }).get? b = some o := fun b o e => Heap.get?_push_of_some _ (keep' b o e)
    have fne : ∀ b ∈ fp, b ≠ P := fun b hb z => by
      have := (f2 b hb).1
      rw [z, hP] at this
      cases this
    refine hQ J H2 H3 s3 _ it h'.objs.size fp tn code s3.gens.size _ q ⟨x3, T3, I3, T, fun b hb => ⟨⟨n3 b (f2 b hb).1 (flt b hb), (f2 b hb).2⟩, Nat.lt_of_lt_of_le (flt b hb) (by rw [hp3]; exact hsz)⟩, ?_, rfl, AllBare.push I3.bare rfl, k5, hn'.push _, ⟨_, _, _, Heap.get?_push_size _ rfl, rfl, rfl, rfl⟩, by omega, by show _ < (h'.push _).objs.size; rw [Heap.size_push]; exact Nat.lt_succ_self _, Array.getElem?_push_size ..⟩
    exact T.keep _ _ _ st2 fun b hb o e => k5 b o (by rw [hp3]; exact k b o (fne b hb) e)
  cases hf : codeAmong gpos ps.toList with
  | none =>
    refine wpAny_genexprCodeX hcode (cd.code hPs ht) (cd.tab hPs) hf fun c' h' tk hx hge hlt hco' hrec htab' _ => ?_
    exact cont _ h' tk _ (Nat.le_trans hge (Nat.le_of_lt hlt)) (.inr ⟨gpos, c', rfl, hge, hrec⟩) (fun b o hb e => hx b o hb e) htab'.2
  | some cv =>
    refine wpAny_genexprCode_hit hcode (cd.code hPs ht) hf ?_
    exact cont cv s2.heap s2.toks ps (Nat.le_refl _) (.inl rfl) (fun _ _ _ e => e) hPs
end
end Den
set_option maxRecDepth 100000
set_option maxHeartbeats 2000000
/-! all, any, sum of a generator whose element is any expression: the rules. -/
namespace Den
open PySem L2 PyProof.Rows PySem.W LamX GenW
/-- the element's parts hold in every context of the generator -/
def GenParts (X : Cx) (k : Nat) (scope : Scope) (f : Cx → Prop) : Prop := ∀ (s : Shared) (H : Hp) (C : Addr) (code : Value) (fp : List Addr) (A : Around), Room k A → f (genX X s H (gxEnv X scope C code) fp A)
def FinG (Y : Cx) (σ : L2.St) (Q : Hp → Prop) : Shared → Prop := fun s => ∃ H, Inv Y [] σ H s ∧ Q H
/-- the walk, its turns: what an element's value v owes is in N -/
def GenWalk (J : It) (g : TG) (te : TE) (va : List Nat) (σ : L2.St) (H3 : Hp) (End : Hp → Prop) (Nx : (Hp → Prop) → V → Hp → Prop) : Prop :=
  ∃ W : Nat → Nat → Hp → Prop, (∃ m, W 0 m H3) ∧ ∀ i m H, W i m H → (J.stop i H ∧ End H) ∨ (J.go i H ∧ 0 < m ∧ ∀ x H', J.yld i H x H' → g x (wipe σ va) H' fun τ H2 => wipe τ va = wipe σ va ∧ te τ H2 (Nx fun H4 => ∃ m', m' < m ∧ W (i + 1) m' H4))
/-- any (st true), all (st false) -/
def tGenB (T : List (Addr × Str)) (st : Bool) (wi : TI) (g : TG) (te : TE) (va : List Nat) : TE := fun σ H Q => wi σ H fun J H1 => Tabs T H1 ∧ ∀ H3, ExtN H1 H3 → Tabs T H3 →
  GenWalk J g te va σ H3 (fun H => Q (.bl !st) H) fun N y H4 => ∃ b, y = .bl b ∧ if b = st then Q (.bl st) H4 else N H4
section
variable {X : Cx} {pins : List (Addr × Obj)} {σ : L2.St} {G : Gx} {elt tg iter : Expr} {gpos : Pos} {scope : Scope} {own : List (Str × Nat)} {J : It} {H1 H3 : Hp} {s3 s5 : Shared} {it a : Addr} {fp : List Addr} {tn : Nat → Heap → Prop} {code : Value} {gn k : Nat} {m : Str → Option Value} {g : TG} {te : TE}
theorem deeper_frames {A : Around} {ce : PySem.Env} {l : List PySem.Env} (h : A.frames = some l) : (A.deeper ce).frames = some (ce :: l) := by
  show A.frames.map (ce :: ·) = _
  rw [h]; rfl
/-- an object that sleeps while the generator runs -/
theorem nap_ok {Y : Cx} {σ : L2.St} {H : Hp} {s : Shared} (I : Inv Y [] σ H s) (hpn : Y.pn = []) {b : Addr} {o : Obj} (hn : H b = none) (e : s.heap.get? b = some o) (hd : ∀ v, o.data ≠ .cell v) (h0 : Y.s_0.heap.objs.size ≤ b) (hL : b ≠ Y.env.locals) : FpOk Y [] H b := by
  refine ⟨hn, hL, fun hb => ?_, .inr h0, fun x c ec z => ?_, fun p hp => ?_⟩
  · obtain ⟨_, o, ho, _⟩ := I.ok.funs.mem hb
    exact absurd (Nat.lt_of_lt_of_le (Heap.lt_size ho) h0) (Nat.lt_irrefl _)
  · obtain ⟨v, oc, q1, q2⟩ := I.cell x c ec
    rw [z, e] at q1
    cases q1
    exact hd _ q2
  · rw [hpn] at hp
    exact absurd hp (by simp)
theorem own_fp {Y : Cx} {σ : L2.St} {H : Hp} {s : Shared} (I : Inv Y [] σ H s) (hpn : Y.pn = []) {fp : List Addr} (hex : Y.ex = fp) (nz : ∀ b ∈ fp, H b = none) : ∀ b ∈ fp, FpOk Y [] H b := fun b hb => by
  subst hex
  obtain ⟨z1, z2⟩ := I.ok.exf b hb
  exact ⟨nz b hb, z1, I.ok.exfs b hb, .inl hb, fun x c e => z2 x c e, fun p hp => by rw [hpn] at hp; exact absurd hp (by simp)⟩
theorem gen_obj {h : Heap} {a : Addr} {g : Nat} (hg : h.IsGen a g) : ∃ o, h.get? a = some o ∧ ∀ v, o.data ≠ .cell v := by
  obtain ⟨o, nm, qn, ho, hc, hd, hsl⟩ := hg
  exact ⟨o, ho, fun v z => by rw [hd] at z; cases z⟩
theorem gen_same {h h' : Heap} {a : Addr} {g : Nat} (hg : h.IsGen a g) (e : h'.get? a = h.get? a) : h'.IsGen a g := by
  obtain ⟨o, nm, qn, ho, r⟩ := hg
  exact ⟨o, nm, qn, by rw [e]; exact ho, r⟩
/-- a generator that hands out truth values, from its beginning -/
theorem seg_bool {st : Bool} {Q : V → Hp → Prop} {A0 : Around} {s : Shared} {m0 : Nat} {W : Nat → Nat → Hp → Prop} (hc : X.calm = true) (hN : X.N.Nodup) (L : GenOk X.N X.env.scope scope own) (M : Made G X pins σ elt tg iter scope gpos J H1 H3 s3 s5 it a fp tn code gn m) (hr : Room k (A0.deeper (gxEnv X scope s3.heap.objs.size code)))
    (hf : A0.frames = some X.stack) (hga : GenParts X k scope fun Y => PG Y tg g) (hel : GenParts X k scope fun Y => PE Y elt te) (hs : s.heap = s5.heap) (ho : s.os = s5.os) (hb : AllBare s.gens) (w0 : W 0 m0 H3)
    (turn : ∀ i m H, W i m H → (J.stop i H ∧ Q (.bl !st) H) ∨ (J.go i H ∧ 0 < m ∧ ∀ x H', J.yld i H x H' → g x (wipe σ (own.map (·.2))) H' fun τ H2 => wipe τ (own.map (·.2)) = wipe σ (own.map (·.2)) ∧ te τ H2 fun y H4 => ∃ b, y = .bl b ∧ if b = st then Q (.bl st) H4 else ∃ m', m' < m ∧ W (i + 1) m' H4)) :
    Seg (model X.prog X.w) A0 (GEnd (FinG (genX X s3 H3 (gxEnv X scope s3.heap.objs.size code) fp (A0.deeper (gxEnv X scope s3.heap.objs.size code))) (wipe σ (own.map (·.2))) (Q (.bl !st))))
      (YBool a gn st (FinG (genX X s3 H3 (gxEnv X scope s3.heap.objs.size code) fp (A0.deeper (gxEnv X scope s3.heap.objs.size code))) (wipe σ (own.map (·.2))) (Q (.bl st)))) m0 s
      (gStart elt tg iter scope gpos it (gxEnv X scope s3.heap.objs.size code)) ((model X.prog X.w).den (gStart elt tg iter scope gpos it (gxEnv X scope s3.heap.objs.size code))) [] s := by
  have hg5 := M.gen
  have hfp := M.fp
  have T := M.turn
  have I5 := gen_start (s5 := s) (code := code) (A := A0.deeper (gxEnv X scope s3.heap.objs.size code)) M.inv L hN hfp hr.hd (deeper_frames hf) (ho.trans M.os) hb (fun b o e => by rw [hs]; exact M.keep b o e) (m := m) (by rw [hs]; exact M.ns)
  have pga := hga s3 H3 s3.heap.objs.size code fp _ hr
  have pel := hel s3 H3 s3.heap.objs.size code fp _ hr
  have hcL : (gxEnv X scope s3.heap.objs.size code).locals = s3.heap.objs.size := rfl
  have hco : (gxEnv X scope s3.heap.objs.size code).scope.isCoroutine = false := L.co
  generalize hce : gxEnv X scope s3.heap.objs.size code = ce at *
  generalize hY : genX X s3 H3 ce fp (A0.deeper ce) = Y at *
  have hYp : Y.prog = X.prog := by rw [← hY]
  have hYw : Y.w = X.w := by rw [← hY]
  have hYK : Y.K = X.K := by rw [← hY]
  have hYc : Y.calm = true := by rw [← hY]; exact hc
  have hYn : Y.pn = [] := by rw [← hY]
  have hYe : Y.ex = fp := by rw [← hY]
  have hYx : Y.xe = fun _ _ => False := by rw [← hY]
  have hY0 : Y.s_0 = s3 := by rw [← hY]
  have hYv : Y.env = ce := by rw [← hY]
  have hYA : Y.A = A0.deeper ce := by rw [← hY]
  have T : Turn Y.prog Y.w Y.K tg J fp it tn := by rw [hYp, hYw, hYK]; exact T
  have nfa : a ∉ fp := fun z => absurd (Nat.lt_trans M.old (hfp a z).2) (Nat.lt_irrefl _)
  refine seg_begin hco (fun A Q E q => T.self A 0 s Q E (by rw [hs]; exact M.at0) q |> fun z => by rw [hYp, hYw] at z; exact z) ?_
  refine seg_turns hco (fun n t => ∃ i m H', m ≤ n ∧ W i m H' ∧ Inv Y [] (wipe σ (own.map (·.2))) H' t ∧ tn i t.heap ∧ (∀ b ∈ fp, H' b = none) ∧ H' a = none ∧ t.heap.IsGen a gn) (fun n t hJ => ?_) m0 s ?_
  · obtain ⟨i, m, H', hmn, w, I, stn, nz, na, hg⟩ := hJ
    rw [over_gLoop, ← hYA]
    obtain ⟨oa, ea, da⟩ := gen_obj hg
    have fa := nap_ok I hYn na ea da (by rw [hY0]; exact Nat.le_of_lt M.old) (by rw [hYv, hcL]; exact Nat.ne_of_gt M.old)
    rcases turn i m H' w with ⟨stop, q⟩ | ⟨go, hm, step⟩
    · have z := T.done Y rfl rfl rfl hYc i [] t (wipe σ (own.map (·.2))) H' (fun _ _ => False) I (own_fp I hYn hYe nz) stn stop
      rw [hYp, hYw] at z
      refine thn z fun r t1 ⟨hr1, I1⟩ => ?_
      subst hr1
      exact .inl ⟨.inr rfl, I1.bare, H', I1, q⟩
    · have z := gen_turn (Y := Y) (ss := [a]) hYc pga pel hYx T I hYn stn go (own_fp I hYn hYe nz) (fun b hb => by
        have : b = a := by simpa using hb
        rw [this]
        exact ⟨fa, nfa, oa, ea, da⟩) step
      rw [hYp, hYw, hYv] at z
      refine thn z fun r t1 ⟨v, hr1, k1⟩ => ?_
      subst hr1
      refine thn k1 fun _ t2 k2 => thn k2 fun _ t3 k3 => thn k3 fun u t4 k4 => ?_
      obtain ⟨y, H4, ry, ⟨b, ey, qb⟩, I4, st4, n4, ns4⟩ := k4
      subst ey
      obtain ⟨na4, ea4⟩ := ns4 a List.mem_cons_self
      have hg4 := gen_same hg ea4
      refine ⟨n - 1, by omega, fun kap hk => ⟨I4.bare, I4.nolimit, hg4, b, ry, ?_⟩⟩
      by_cases hbs : b = st
      · rw [if_pos hbs] at qb ⊢
        exact ⟨H4, I4, qb⟩
      · rw [if_neg hbs] at qb ⊢
        obtain ⟨m', hm', w'⟩ := qb
        intro s'' np
        refine hk s'' ⟨i + 1, m', H4, by omega, w', L2.Inv.wake I4 (fun b o e => by rw [np.heap]; exact e) np.os np.bare, by rw [np.heap]; exact st4, n4, na4, by rw [np.heap]; exact hg4⟩
  · exact ⟨0, m0, H3, Nat.le_refl _, w0, I5, by rw [hs]; exact M.at0, fun b hb => (hfp b hb).1.1, M.inv.hok.fresh (Nat.le_of_lt M.old), by rw [hs]; exact hg5⟩
variable {p pos : Pos} {nm : Str} {c P : Addr} {wi : TI}
theorem pe_genBX {st : Bool} (hn : (st = true ∧ nm = "any") ∨ (st = false ∧ nm = "all")) (hc : X.calm = true) (hN : X.N.Nodup) (hr : Room (k + 3) X.A) (hg : Gl X nm) (hm : X.mg nm = none) (TB : TabB X.base X.mg c P) (hcode : X.env.code = .ref c) (hmT : (P, X.env.qual ++ "<genexpr>") ∈ G.T) (huT : ∀ p ∈ G.T, p.1 = P → p.2 = X.env.qual ++ "<genexpr>")
    (L : GenOk X.N X.env.scope scope own) (hia : PI X tg iter wi) (hga : GenParts X k scope fun Y => PG Y tg g) (hel : GenParts X k scope fun Y => PE Y elt te) (hs : ∀ v, genFold iter X.env v = pure v := by intro _; rfl)
    (he : starEach [gE elt tg iter scope gpos] X.env = (false, eval (gE elt tg iter scope gpos) X.env) :: starEach [] X.env := by rfl) :
    PE X (.Call (.Name nm p) [gE elt tg iter scope gpos] [] pos) (tGenB G.T st wi g te (own.map (·.2))) := by
  refine ⟨fun pins s σ H Q I h => ?_⟩
  have hv : bootBuiltins nm = some (.builtin (if st = true then "any" else "all")) := by
    rcases hn with ⟨rfl, rfl⟩ | ⟨rfl, rfl⟩
    · exact boot_any
    · decide +kernel
  have hnn : nm ≠ "__name__" := by rcases hn with ⟨_, rfl⟩ | ⟨_, rfl⟩ <;> decide
  have hnd : (nm == ("__debug__" : Str)) = false := by rcases hn with ⟨_, rfl⟩ | ⟨_, rfl⟩ <;> decide
  refine wpAny_Call_Name_kw (ld_blt I hg hm hv ?_ hnn hnd)
  refine PyProof.Rows.callWith_builtin1 ?_ he (by rfl)
  rw [he]
  show wpAny _ _ (spliced ((false, eval (gE elt tg iter scope gpos) X.env) :: backTo pos (starEach [] X.env))) _ _ s
  refine Calls.spliced_cons (gen_make (G := G) hr.depth TB hcode hmT huT L hia hs I h (fun J H1 q => q.1) fun J H1 H3 s3 s5 it a fp tn code gn m q M => ?_)
  refine Calls.spliced_nil ?_
  obtain ⟨W, ⟨m0, w0⟩, turn⟩ := q.2 H3 M.ext M.tabs
  have hl5 : s5.heap.NoLimit := M.inv.nolimit.keeps M.keep
  have hf : X.A.in1.in1.frames = some X.stack := I.ok.frames
  have hr2 : Room k (X.A.in1.in1.deeper (gxEnv X scope s3.heap.objs.size code)) := Room.deeper (Room.in1 (Room.in1 hr)) _
  have hseg : ∀ s : Shared, s.heap = s5.heap → s.os = s5.os → AllBare s.gens → _ := fun s h1 h2 h3 => seg_bool (st := st) (s := s) (A0 := X.A.in1.in1) hc hN L M hr2 hf hga hel h1 h2 h3 w0 turn
  have fpk : ∀ b ∈ fp, FpOk X pins H3 b := fun b hb => (M.fp b hb).1
  have fin : ∀ (b : Bool) (s1 s' : Shared), FinG (genX X s3 H3 (gxEnv X scope s3.heap.objs.size code) fp (X.A.in1.in1.deeper (gxEnv X scope s3.heap.objs.size code))) (wipe σ (own.map (·.2))) (Q (.bl b)) s1 → (∀ b o, s1.heap.get? b = some o → s'.heap.get? b = some o) → s'.os = s1.os → AllBare s'.gens → EP X pins σ Q (.bool b) s' := fun b s1 s' ⟨H', J', q'⟩ kp ho hb =>
    ⟨.bl b, H', gen_end M.inv fpk J' kp ho hb, rfl, q'⟩
  have bb : AllBare (s5.setGen gn .running).gens := allBare_setGen M.bare rfl
  rcases hn with ⟨rfl, rfl⟩ | ⟨rfl, rfl⟩
  · refine call_function_tree F.kind_any F.plain_any F.entry_any (F.args_any1 _) ?_
    unfold Builtin.«any»
    refine wpAny_bind (m := oneArg "any" _) (wpAny_pure ?_)
    refine wpAny_bind (wpAny_pyIter_gen M.gen ?_)
    refine wpAny_pure ⟨plainId_quiet F.plain_any_loop _, ?_⟩
    refine any_drain hr.hd hr.depth (fun s1 s' hk h1 h2 h3 => ?_) (fun s1 s' hk h1 h2 h3 => ?_) m0 s5 M.gen hl5 ⟨_, M.fresh, rfl, hseg _ rfl rfl bb⟩
    · exact fin true s1 s' hk (fun b o e => by rw [h1]; exact e) h2 h3
    · exact fin false s1 s' hk h1 h2 h3
  · refine call_function_tree F.kind_all F.plain_all F.entry_all (F.args_all1 _) ?_
    unfold Builtin.«all»
    refine wpAny_bind (m := oneArg "all" _) (wpAny_pure ?_)
    refine wpAny_bind (wpAny_pyIter_gen M.gen ?_)
    refine wpAny_pure ⟨plainId_quiet F.plain_all_loop _, ?_⟩
    refine all_drain hr.hd hr.depth (fun s1 s' hk h1 h2 h3 => ?_) (fun s1 s' hk h1 h2 h3 => ?_) m0 s5 M.gen hl5 ⟨_, M.fresh, rfl, hseg _ rfl rfl bb⟩
    · exact fin false s1 s' hk (fun b o e => by rw [h1]; exact e) h2 h3
    · exact fin true s1 s' hk h1 h2 h3
end
end Den
set_option maxRecDepth 100000
set_option maxHeartbeats 2000000
/-! sum of a generator whose element is any expression. -/
namespace Den
open PySem L2 PyProof.Rows PySem.W LamX GenW
section
variable {X : Cx} {pins : List (Addr × Obj)} {σ : L2.St} {G : Gx} {elt tg iter : Expr} {gpos : Pos} {scope : Scope} {own : List (Str × Nat)} {J : It} {H1 H3 : Hp} {s3 s5 : Shared} {it a : Addr} {fp : List Addr} {tn : Nat → Heap → Prop} {code : Value} {gn k : Nat} {m : Str → Option Value} {g : TG} {te : TE}
variable {p pos : Pos} {c P : Addr} {wi : TI}
end
end Den
set_option maxRecDepth 100000
set_option maxHeartbeats 2000000
/-! any, all, sum of a generator whose element is any expression, in the plain reading. -/
namespace Den
open PySem L2 PyProof.Rows PySem.W LamX GenW
def genGoB (st : Bool) (src : Src) (t : Tg) (elt : M W) (e0 : Env) : Nat → Nat → List O → Out W
  | 0, _, _ => .bad
  | n + 1, i, h => match src i h with
    | some (some w) => match t w e0 with
      | some e1 => match elt e1 h with
        | .ok (.bl b) h2 => if b = st then .ok (.bl st) h2 else genGoB st src t elt e0 n (i + 1) h2
        | _ => .bad
      | none => .bad
    | some none => .ok (.bl !st) h
    | none => .bad
/-- any (st true), all (st false) -/
def mGenX (st : Bool) (n : Nat) (own : List Nat) (it : M Src) (t : Tg) (elt : M W) : M W := fun e h => (it e h).bnd fun src h => genGoB st src t elt (wipeE e own) n 0 h
section
variable {G : Gx}
theorem HR.tabbed {K : PySem.W.Frag} {H1 H3 : Hp} {ρ1 : List Addr} {h1 : List O} (r : HR K G H1 ρ1 h1) (eN : ExtN H1 H3) (T3 : Tabs G.T H3) : Ext H1 ρ1 H3 ρ1 ∧ HR K G H3 ρ1 h1 := by
  have x12 : Ext H1 ρ1 H3 ρ1 := ⟨fun b o e t _ => eN b o e (by intro ps z; subst z; cases t), List.prefix_rfl, fun _ a b => absurd a b, r.mu, fun b o u e => eN b _ e (by intro ps z; cases z)⟩
  exact ⟨x12, ⟨r.len, r.nd, fun n a o e1 e2 => (r.ob n a o e1 e2).mono x12 (by
    obtain ⟨u, hu, hm⟩ := (r.ob n a o e1 e2).mut
    rw [hu]
    exact eN a u hu (by intro ps z; subst z; cases hm)), T3⟩⟩
theorem wipe_wipe {σ σ2 : L2.St} {own : List Nat} (hw : wipe σ2 own = wipe (wipe σ own) own) : wipe σ2 own = wipe σ own := by
  rw [hw]
  apply List.ext_getElem?
  intro j
  by_cases hj : j ∈ own
  · rw [wipe_in hj, wipe_in hj, L2.wipe_length]
  · rw [wipe_get hj]
theorem genB_post {K : PySem.W.Frag} {Wx : WX} {st : Bool} {n : Nat} {own : List Nat} {it : M Src} {t : Tg} {g : TG} {elt : M W} (ht : TgOk K G own g t) {σ : L2.St} {H : Hp} {Q : VK} (p : rd K G Wx (VRel K) (mGenX st n own it t elt) σ H Q) :
    tGenB G.T st (rd K G Wx (JRel K G) it) g (rd K G noW (VRel K) elt) own σ H Q := by
  refine rd.bnd (Rel := JRel K G) p fun H0 ρ0 e sr J H1 ρ1 h1 src x r q p1 => ⟨r.tb, fun H3 eN T3 => ?_⟩
  obtain ⟨x13, r3⟩ := r.tabbed eN T3
  refine ⟨fun i m H => ∃ ρ h, Ext H3 ρ1 H ρ ∧ HR K G H ρ h ∧ Post K G (fun cls d H' => Wx cls d σ H') (VRel K) Q H ρ (genGoB st src t elt (wipeE e own) m i h), ⟨n, ρ1, h1, Ext.refl r3, r3, p1.ext x13⟩, fun i m H p => ?_⟩
  obtain ⟨ρ, h, x1, hr, p⟩ := p
  obtain ⟨j1, j2⟩ := q i H ρ h (x13.trans x1) hr
  have srw := (((sr.mono x).mono x13).mono x1).wipe own
  cases m with
  | zero => exact False.elim p
  | succ m =>
    unfold genGoB at p
    cases hs : src i h with
    | none => rw [hs] at p; exact False.elim p
    | some o =>
      rw [hs] at p
      cases o with
      | none => exact .inl ⟨j1 hs, p ρ H _ (Ext.refl hr) hr vr_bl⟩
      | some w =>
        obtain ⟨k1, k2⟩ := j2 w hs
        refine .inr ⟨k1, Nat.succ_pos m, fun y H' hy => ?_⟩
        obtain ⟨x3, r4, vy⟩ := k2 y H' hy
        dsimp only at p
        cases hte : t w (wipeE e own) with
        | none => rw [hte] at p; exact False.elim p
        | some e1 =>
          rw [hte] at p
          refine ht H' ρ h _ _ e1 y w _ r4 (srw.mono x3) vy hte fun σ2 s2 hw => ⟨wipe_wipe hw, ?_⟩
          dsimp only at p
          have p := p.ext x3
          cases he : elt e1 h with
          | bad => rw [he] at p; exact False.elim p
          | exc c q h' => rw [he] at p; exact False.elim p
          | ok v h2 =>
            rw [he] at p
            refine rd_pure r4 s2 he fun ρ5 H5 u x5 r5 rv => ?_
            cases v with
            | bl b =>
              refine ⟨b, rv.bl, ?_⟩
              dsimp only at p
              by_cases hb : b = st
              · rw [if_pos hb] at p ⊢
                exact p ρ5 H5 _ x5 r5 vr_bl
              · rw [if_neg hb] at p ⊢
                exact ⟨m, Nat.lt_succ_self m, ρ5, h2, (x1.trans x3).trans x5, r5, p.ext x5⟩
            | _ => exact False.elim p
variable {X : Cx} {elt tg iter : Expr} {gpos p pos : Pos} {scope : Scope} {own : List (Str × Nat)} {k n : Nat} {g : TG} {nm : Str} {c P : Addr} {it : M Src} {t : Tg} {melt : M W}
theorem se_genX {st : Bool} (hn : (st = true ∧ nm = "any") ∨ (st = false ∧ nm = "all")) (hN : X.N.Nodup) (hr : Room (k + 3) X.A) (hi : SI G X tg iter it) (hg : Gl X nm) (hm : X.mg nm = none) (TB : TabB X.base X.mg c P) (hcode : X.env.code = .ref c) (hmT : (P, X.env.qual ++ "<genexpr>") ∈ G.T) (huT : ∀ p ∈ G.T, p.1 = P → p.2 = X.env.qual ++ "<genexpr>")
    (L : GenOk X.N X.env.scope scope own) (hga : GenParts X k scope fun Y => PG Y tg g) (ht : TgOk X.K G (own.map (·.2)) g t) (hel : GenParts X k scope fun Y => SE G Y elt melt) (hc : X.calm = true := by rfl) (hs : ∀ v, genFold iter X.env v = pure v := by intro _; rfl)
    (he : starEach [gE elt tg iter scope gpos] X.env = (false, eval (gE elt tg iter scope gpos) X.env) :: starEach [] X.env := by rfl) :
    SE G X (.Call (.Name nm p) [gE elt tg iter scope gpos] [] pos) (mGenX st n (own.map (·.2)) it t melt) := fun Wx tk =>
  (pe_genBX hn hc hN hr hg hm TB hcode hmT huT L (hi Wx tk) hga (fun s H C code fp A hr => hel s H C code fp A hr noW L2.takes0) hs he).imp fun σ H Q p => genB_post ht p
end
end Den
set_option maxRecDepth 100000
set_option maxHeartbeats 2000000
/-! str of a small number, int of a text of one or two figures; a try that tells an own error's place. -/
namespace Den
open PySem PySem.Spec PySem.Calls L2 PyProof.Rows LamX
def decI (n : Nat) : List Nat := if n < 10 then [48 + n] else [48 + n / 10, 48 + n % 10]
def figs : List Nat → Option Nat
  | [a] => if 48 ≤ a ∧ a < 58 then some (a - 48) else none
  | [a, b] => if (48 ≤ a ∧ a < 58) ∧ (48 ≤ b ∧ b < 58) then some ((a - 48) * 10 + (b - 48)) else none
  | _ => none
theorem fig_one : ∀ a : Fin 10, PySem.intText? (mkS [48 + a.val]) = some (Int.ofNat a.val) := by decide +kernel
theorem fig_two : ∀ a b : Fin 10, PySem.intText? (mkS [48 + a.val, 48 + b.val]) = some (Int.ofNat (a.val * 10 + b.val)) := by decide +kernel
theorem figs_ok {l : List Nat} {n : Nat} (h : figs l = some n) : PySem.intText? (mkS l) = some (Int.ofNat n) ∧ l.length ≤ 2 := by
  unfold figs at h
  split at h
  · rename_i a
    split at h
    · rename_i ha
      cases h
      have := fig_one ⟨a - 48, by omega⟩
      have e : 48 + (a - 48) = a := by omega
      simp only [e] at this
      exact ⟨this, by simp⟩
    · cases h
  · rename_i a b
    split at h
    · rename_i ha
      cases h
      have := fig_two ⟨a - 48, by omega⟩ ⟨b - 48, by omega⟩
      have e : 48 + (a - 48) = a := by omega
      have e2 : 48 + (b - 48) = b := by omega
      simp only [e, e2] at this
      exact ⟨this, by simp⟩
    · cases h
  · cases h
section
variable {X : Cx} {G : Gx}
theorem cr_intS : CallR X (.type "int") (fun xs H Q => ∃ (l : List Nat) (n : Nat), xs = [.str (mkS l)] ∧ figs l = some n ∧ Q (.int (Int.ofNat n)) H) := by
  intro pins s σ H xs us Q I r h
  obtain ⟨l, n, rfl, hn, q⟩ := h
  obtain ⟨u, rfl, rx⟩ := r.one
  obtain ⟨t, rfl⟩ := rx
  obtain ⟨h1, h2⟩ := figs_ok hn
  exact PySem.W.KIN.call_text h1 (by rw [Str_length]; omega) ⟨.int (Int.ofNat n), H, I.tok _, ⟨_, rfl⟩, q⟩
def oIntS (ws : List W) (h : List O) : Out W := match ws with
  | [.str l] => match figs l with
    | some n => .ok (.int (Int.ofNat n)) h
    | none => .bad
  | _ => .bad
theorem cas_intS : CaS G X (.type "int") oIntS := ⟨_, cr_intS, fun E H ρ h vs ws Q hr r p => by
  unfold oIntS at p
  split at p
  · split at p
    · rename_i n hn
      obtain ⟨v, rfl, q⟩ := VRs.inv1 r
      exact ⟨_, n, by rw [q.str], hn, p.here hr vr_int⟩
    · exact p.elim
  · exact p.elim⟩
/-! ### a try that tells the place -/
end
end Den
set_option maxRecDepth 100000
set_option maxHeartbeats 2000000
/-! Lambdas laid in a list, called by a def that got one of them. -/
namespace Den
open PySem PySem.Spec PySem.Calls L2 PyProof.Rows LamX
/-- the object at f is a lambda's -/
def LamO (f : Addr) (q : Str) (params : Arguments) (body : Expr) (scope : Scope) (cl : List (Str × Addr)) (c' : Addr) : HO := .ext fun h => ∃ pm ctv : Value, h.get? f = some (PySem.W.kla_obj "<lambda>" q params body scope cl pm c' ctv)
section
variable {X : Cx} {pins : List (Addr × Obj)} {σ : L2.St} {H : Hp} {s : Shared}
theorem inv_lam {q : Str} {params : Arguments} {body : Expr} {scope : Scope} {cl : List (Str × Addr)} {c' : Addr} {t' : Nat} {pm ctv : Value} (I : Inv X pins σ H s) :
    Inv X pins σ (upd H s.heap.objs.size (LamO s.heap.objs.size q params body scope cl c')) { s with heap := s.heap.push (PySem.W.kla_obj "<lambda>" q params body scope cl pm c' ctv), toks := t' } := by
  refine I.laid (a := s.heap.objs.size) (fun b u e => Heap.get?_push_of_some _ e) (Nat.le_refl _) ?_
  have e : (s.heap.push (PySem.W.kla_obj "<lambda>" q params body scope cl pm c' ctv)).get? s.heap.objs.size = some (PySem.W.kla_obj "<lambda>" q params body scope cl pm c' ctv) := Heap.get?_push_size _ rfl
  exact ⟨⟨pm, ctv, e⟩, ⟨_, e⟩, fun h1 h2 ⟨p, t, z⟩ st => ⟨p, t, st _ z⟩⟩
theorem lamO_at {P : Program} {w : World} {h : Heap} {f : Addr} {q : Str} {params : Arguments} {body : Expr} {scope : Scope} {cl : List (Str × Addr)} {c' : Addr} (hok : HOk P w H h) (e : H f = some (LamO f q params body scope cl c')) : ∃ pm ctv : Value, h.get? f = some (PySem.W.kla_obj "<lambda>" q params body scope cl pm c' ctv) := by
  obtain ⟨z, _, _⟩ := hok f _ e
  exact z
/-- the lambda is made, its object known from now on -/
theorem lam_make3 {T : List (Addr × Str)} {c P : Addr} {params : Arguments} {body : Expr} {scope : Scope} {pos : Pos} {E : Value → Shared → Prop} {Q : Value → Shared → Prop} (I : Inv X pins σ H s) (TB : TabB X.base X.mg c P) (hcode : X.env.code = .ref c)
    (hm : (P, X.env.qual ++ "<lambda>") ∈ T) (hu : ∀ p ∈ T, p.1 = P → p.2 = X.env.qual ++ "<lambda>") (hT : Tabs T H) (hdef : defaultsOf params X.env = ([], [])) (hfree : ∀ y ∈ scope.names, y.2 = .free → ∃ c, X.env.cells.lookup y.1 = some c)
    (h : ∀ (f c' : Addr) (H1 : Hp) (s' : Shared), Inv X pins σ H1 s' → ExtN H H1 → Tabs T H1 → H f = none →
      H1 f = some (LamO f (X.env.qual ++ "<lambda>") params body scope (cloFrom X.env.cells scope.names []) c') → H1 c' = some (CodeO c' (X.env.qual ++ "<lambda>")) → Q (.ref f) s') :
    wpAny (model X.prog X.w) X.A (eval (.Lambda params body scope pos) X.env) Q E s := by
  obtain ⟨ps, hP, ht, ha⟩ := hT _ hm
  refine PySem.W.kla_eval hdef ?_
  have bP : s.heap.BuiltinsAt X.mg P := TB.bm.keeps I.bk
  have hP' : s.heap.get? P = some { cls := .none, data := .fields ps } := I.hok P _ hP
  cases hc : codeAmong pos ps.toList with
  | none =>
    refine PySem.W.kla_makeFunction (mg := X.mg) (c := c) (P := P) (ps := ps) (closure_ok hfree) I.ok.glob (I.mod.glob.keeps I.bk) hcode (TB.code.keeps I.bk) hP' ht hc TB.gP bP fun c' ctv h' tk hx hge hlt hrec htb => ?_
    obtain ⟨c2, oc, vs, t, e2, hoc, hd, hv⟩ := hrec
    cases e2
    have nC : H c' = none := I.hok.fresh hge
    have I1 := inv_table (t' := tk) (more := #[rawInt pos.line, rawInt pos.col, .ref c']) (h' := h') I hP (fun b o hb e => hx b o hb e) htb hge ⟨oc, vs, t, hoc, hd, hv⟩
    have hE : ExtN H (upd (upd H P (.tbl (ps ++ #[rawInt pos.line, rawInt pos.col, .ref c']))) c' (CodeO c' (X.env.qual ++ "<lambda>"))) := fun b o e n => by
      rw [upd_ne (ne_of_none e nC), upd_ne (fun z => n ps (Option.some.inj (e.symm.trans (by rw [z]; exact hP))))]
      exact e
    have eL : (ps ++ #[rawInt pos.line, rawInt pos.col, .ref c']).toList = ps.toList ++ [rawInt pos.line, rawInt pos.col, .ref c'] := by simp
    have T1 : Tabs T (upd (upd H P (.tbl (ps ++ #[rawInt pos.line, rawInt pos.col, .ref c']))) c' (CodeO c' (X.env.qual ++ "<lambda>"))) := fun p hp => by
      by_cases hb : p.1 = P
      · rw [hu p hp hb, hb]
        refine ⟨_, by rw [upd_ne (ne_of_none hP nC), upd_same], by rw [eL]; exact PySem.TriplesOk_snoc _ _ _ _ ht, fun p' cv hcv => ?_⟩
        rw [eL] at hcv
        rcases among_app _ ht hcv with z | z
        · obtain ⟨c0, e1, e2⟩ := ha p' cv z
          exact ⟨c0, e1, hE _ _ e2 codeO_ne⟩
        · exact ⟨c', z, upd_same⟩
      · obtain ⟨ps', a1, a2, a3⟩ := hT p hp
        refine ⟨ps', by rw [upd_ne (ne_of_none a1 nC), upd_ne hb]; exact a1, a2, fun p' cv hcv => ?_⟩
        obtain ⟨c0, e1, e2⟩ := a3 p' cv hcv
        exact ⟨c0, e1, hE _ _ e2 codeO_ne⟩
    have nF := I1.hok.fresh (Nat.le_refl _)
    have I2 := inv_lam (q := X.env.qual ++ "<lambda>") (params := params) (body := body) (scope := scope) (cl := cloFrom X.env.cells scope.names []) (c' := c') (t' := tk) (pm := (X.mg "__name__").getD .none) (ctv := ctv) I1
    refine h h'.objs.size c' _ _ I2 (fun b o e n => ?_) (T1.ext fun b o e => ?_) (I.hok.fresh (Nat.le_trans hge (Nat.le_of_lt hlt))) upd_same ?_
    · have e1 := hE b o e n
      exact (upd_ne (ne_of_none e1 nF)).trans e1
    · exact (upd_ne (ne_of_none e nF)).trans e
    · exact (upd_ne (Nat.ne_of_lt hlt)).trans upd_same
  | some cv =>
    obtain ⟨c', e, hco⟩ := ha pos cv hc
    subst e
    refine PySem.W.kla_makeFunctionHit (mg := X.mg) (c := c) (P := P) (ps := ps) (closure_ok hfree) I.ok.glob (I.mod.glob.keeps I.bk) hcode (TB.code.keeps I.bk) hP' ht hc bP fun ctv h' tk hx hsz => ?_
    have I1 : Inv X pins σ H { s with heap := h', toks := tk } := I.kept fun b o e => hx b o e
    have nF := I1.hok.fresh (Nat.le_refl _)
    have I2 := inv_lam (q := X.env.qual ++ "<lambda>") (params := params) (body := body) (scope := scope) (cl := cloFrom X.env.cells scope.names []) (c' := c') (t' := tk) (pm := (X.mg "__name__").getD .none) (ctv := ctv) I1
    refine h h'.objs.size c' _ _ I2 (fun b o e n => (upd_ne (ne_of_none e nF)).trans e) (hT.ext fun b o e => (upd_ne (ne_of_none e nF)).trans e) (I.hok.fresh hsz) upd_same ((upd_ne (ne_of_none hco nF)).trans hco)
/-- a lambda as a value -/
def tLamV (T : List (Addr × Str)) (q : Str) (params : Arguments) (body : Expr) (scope : Scope) (cl : List (Str × Addr)) : TE := fun σ H Q => Tabs T H ∧ ∀ (f c' : Addr) (H1 : Hp), ExtN H H1 → Tabs T H1 → H f = none → H1 f = some (LamO f q params body scope cl c') → H1 c' = some (CodeO c' q) → Q (.ref f) H1
theorem pe_lamV {T : List (Addr × Str)} {c P : Addr} {params : Arguments} {body : Expr} {scope : Scope} {pos : Pos} (TB : TabB X.base X.mg c P) (hcode : X.env.code = .ref c) (hm : (P, X.env.qual ++ "<lambda>") ∈ T) (hu : ∀ p ∈ T, p.1 = P → p.2 = X.env.qual ++ "<lambda>")
    (hdef : defaultsOf params X.env = ([], [])) (L : LamS X.env.scope scope) : PE X (.Lambda params body scope pos) (tLamV T (X.env.qual ++ "<lambda>") params body scope (cloFrom X.env.cells scope.names [])) := by
  refine ⟨fun pins s σ H Q I h => ?_⟩
  obtain ⟨hT, h⟩ := h
  exact lam_make3 I TB hcode hm hu hT hdef (L.has I.ok) fun f c' H1 s' I1 eN T1 hf hL hc => ⟨.ref f, H1, I1, rfl, h f c' H1 eN T1 hf hL hc⟩
/-- x(), in the def that got the lambda -/
theorem pe_actV {CXg : CXT} {Eg : XK} {Ng : List Str} {qg : Str} {sg : Scope} {g f c' : Addr} {cdg : Value} {params : Arguments} {body : Expr} {scope : Scope} {k i : Nat} {a : Str} {pn : List (Addr × Obj)} {xe : Value → Shared → Prop} {W : WX} {E : XK} {tb : TE} {p1 p2 : Pos}
    (I : Inv X pins σ H s) (L : LamS X.env.scope scope)
    (hbind : ∀ (q : Str) (cl : List (Str × Addr)) (pm cv ctv : Value), bindArgs (PySem.W.kla_fn "<lambda>" q params body scope cl pm cv ctv) ⟨[], []⟩ = pure [])
    (tk : Takes ((cxOf CXg X.prog X.w X.K X.mg X.base Ng qg sg g cdg X.A X.stack s H Eg).tr pn xe) W) (hW : ∀ cls d σ' H', E cls d H' → W cls d σ' H') (hr : Room (k + 1) (X.A.deeper (envOfC qg sg s.heap.objs.size g cdg)))
    (hbody : ∀ (A : Around) (outer : List PySem.Env) (s : Shared) (H : Hp), Room k (A.deeper (lamEnv X scope s.heap.objs.size f c')) → PE (lamCx X A outer s H E scope f c') body tb)
    (hN : Ng[i]? = some a) (hv : Vis sg a) (hd : (a == ("__debug__" : Str)) = false := by decide) (hcd : (a == ("__classdict__" : Str)) = false := by decide) :
    PE ((cxOf CXg X.prog X.w X.K X.mg X.base Ng qg sg g cdg X.A X.stack s H Eg).tr pn xe) (.Call (.Name a p1) [] [] p2)
      (fun σZ HZ Q => σZ[i]? = some (some (.ref f)) ∧ HZ c' = some (CodeO c' (X.env.qual ++ "<lambda>")) ∧ HZ f = some (LamO f (X.env.qual ++ "<lambda>") params body scope (cloFrom X.env.cells scope.names []) c') ∧ tb σ HZ Q) := by
  refine ⟨fun pinsZ sZ σZ HZ Q IZ h => ?_⟩
  obtain ⟨hs, hc, hL, ht⟩ := h
  refine wpAny_Call_Name_kw (thn ((pe_var (pos := p1) (i := i) hN hv hd hcd).run pinsZ sZ σZ HZ (fun v H1 => v = .ref f ∧ H1 = HZ) IZ ⟨.ref f, hs, rfl, rfl⟩) fun u s1 ⟨v, H1, I1, r1, q1⟩ => ?_)
  obtain ⟨ev, eH⟩ := q1
  subst ev
  rw [eH] at I1
  obtain rfl : u = Value.ref f := r1
  obtain ⟨pm, ctv, of1⟩ := lamO_at I1.hok hL
  refine PySem.W.callWith_F0 ⟨_, _, _, _, of1⟩ ?_
  have un : Un (frs X.stack) [] H HZ s.heap s1.heap := I1.base
  obtain ⟨⟨oc, vs, t, hoc, hdc, hvc⟩, _, _⟩ := I1.hok c' _ hc
  have rc : codeAny (model X.prog X.w) (X.A.deeper (envOfC qg sg s.heap.objs.size g cdg)) (.call (.ref f) ⟨[], []⟩) (CR (L2.CX X.prog X.w) (envOfC qg sg s.heap.objs.size g cdg :: X.stack) X.prog X.w HZ s1 Q E) s1 := by
    refine PySem.W.kla_callFunE hr.depth of1 rfl L.co L.gen rfl ⟨c', oc, vs, t, rfl, hoc, hdc, hvc⟩ ?_
    rw [hbind]
    refine wpAny_pure (wpAny_newFunctionEnv (fun y hy => (L.own y hy).2) (fun y hy => absurd hy (by simp)) (fun h₁ hns hsb => ⟨I1.nolimit.fresh _ hsb, ?_⟩) L.kind)
    show codeAny _ _ (.expr body (lamEnv X scope s1.heap.objs.size f c')) _ _
    have kp : ∀ b o, s1.heap.get? b = some o → h₁.get? b = some o := fun b o e => hsb.extBut b o (Nat.ne_of_lt (Heap.lt_size e)) (Heap.get?_push_of_some _ e)
    have J : Inv (lamCx X (X.A.deeper (envOfC qg sg s.heap.objs.size g cdg)) (envOfC qg sg s.heap.objs.size g cdg :: X.stack) s1 HZ E scope f c') [] σ HZ { s1 with heap := h₁, toks := s1.toks + ([] : List (Str × Value)).length } :=
      lam_start2 I L I1.env0 hr.hd un hns kp
    refine PySem.W.kla_codeExpr (wpAny_mono ((hbody _ _ s1 HZ (hr.deeper _)).run [] _ _ HZ Q J ht) (fun v s' hq => ?_) fun e s' hq => hq)
    obtain ⟨w', H', J', rv, q⟩ := hq
    exact ⟨w', H', J'.os, J'.bare, J'.base, J'.hok, rv, q⟩
  have hx : Passes (L2.CX X.prog X.w) ((cxOf CXg X.prog X.w X.K X.mg X.base Ng qg sg g cdg X.A X.stack s H Eg).tr pn xe) E := passes_call tk hW
  refine wpAny_call (codeAny_mono rc fun r s' hq => ?_)
  cases r with
  | error e => exact hx pinsZ σZ HZ s1 e s' I1 hq
  | ok fl =>
    cases fl with
    | ret u => exact I1.after hq
    | next => exact False.elim hq
    | brk => exact False.elim hq
    | cont => exact False.elim hq
/-- a lambda of the list: its words, and how its body is read -/
structure LamD where
  params : Arguments
  body : Expr
  scope : Scope
structure LamD.Ok (X : Cx) (k : Nat) (L : LamD) (t : XK → TE) : Prop where
  sc : LamS X.env.scope L.scope
  bind : ∀ (q : Str) (cl : List (Str × Addr)) (pm cv ctv : Value), bindArgs (PySem.W.kla_fn "<lambda>" q L.params L.body L.scope cl pm cv ctv) ⟨[], []⟩ = pure []
  body : ∀ (A : Around) (outer : List PySem.Env) (s : Shared) (H : Hp) (E : XK) (f c' : Addr), Room k (A.deeper (lamEnv X L.scope s.heap.objs.size f c')) → PE (lamCx X A outer s H E L.scope f c') L.body (t E)
/-- the object at f is the lambda L of this frame -/
def LamAt (X : Cx) (L : LamD) (H : Hp) (f c' : Addr) : Prop := H f = some (LamO f (X.env.qual ++ "<lambda>") L.params L.body L.scope (cloFrom X.env.cells L.scope.names []) c') ∧ H c' = some (CodeO c' (X.env.qual ++ "<lambda>"))
/-- x(e), e one of the lambdas -/
theorem pe_lamcallV {n : Nat} {TT : (XK → Hp → VK → Prop) → Hp → VK → Prop} {x a : Str} {g : Addr} {k : Nat} {pg : Arguments} {bg : List Stmt} {sg : Scope} {dV kV doc pm cdv ct oc : Value} {an od : Option Addr} {osl : Array (Option Value)} {Ng : List Str}
    {ea : Expr} {ta : TE} {p pos : Pos} (Ls : Nat → LamD) (ts : Nat → XK → TE) (hL : ∀ i, i < n → (Ls i).Ok X k (ts i)) (hg : Gl X x) (hm : X.mg x = some (.ref g)) (hk : PySem.W.keepIn X.K (.ref g) = true)
    (lk : X.K.lookup g = some ⟨oc, od, .func (PySem.W.fnOf x x pg bg sg dV kV doc pm an cdv ct), osl⟩) (hcg : PySem.W.codeIn X.K cdv x = true) (hb : L2.Binds X.K (PySem.W.fnOf x x pg bg sg dV kV doc pm an cdv ct) [a] []) (Sg : FnScope Ng [a] sg) (hNg : Ng[0]? = some a) (hva : Vis sg a)
    (hG : GivesTo X Ng x sg g cdv bg a (X.env.qual ++ "<lambda>") TT) (hr : Room (k + 2) X.A) (ha : PE X ea ta) (hs : starEach [ea] X.env = (false, eval ea X.env) :: starEach [] X.env)
    (hdb : (x == ("__debug__" : Str)) = false := by decide) (hd : (a == ("__debug__" : Str)) = false := by decide) (hcd : (a == ("__classdict__" : Str)) = false := by decide) :
    PE X (.Call (.Name x p) [ea] [] pos) (fun σ H Q => ta σ H fun v H1 => ∃ i f c', i < n ∧ v = .ref f ∧ LamAt X (Ls i) H1 f c' ∧ TT (fun E H' Q' => H' f = some (LamO f (X.env.qual ++ "<lambda>") (Ls i).params (Ls i).body (Ls i).scope (cloFrom X.env.cells (Ls i).scope.names []) c') ∧ ts i E σ H' Q') H1 Q) := by
  refine ⟨fun pins s σ H Q I h => ?_⟩
  refine wpAny_Call_Name_kw (ld_glob I hg hm ?_ hdb)
  refine PySem.W.callWith_K (h₀ := X.base) I.ok.mod.kin hk ?_ hs (by rfl)
  rw [hs]
  show wpAny _ _ (spliced ((false, eval ea X.env) :: backTo pos (starEach [] X.env))) _ _ s
  refine Calls.spliced_cons (thn (ha.run pins s σ H _ I h) fun u s' ⟨v, H1, I1, r1, q1⟩ => ?_)
  obtain ⟨i, f, c', hi, rfl, ⟨hf, hco⟩, hTT⟩ := q1
  obtain rfl : u = Value.ref f := r1
  obtain ⟨L, hbind, hbody⟩ := hL i hi
  refine Calls.spliced_nil ⟨I1.kIn, ?_⟩
  have rc : codeAny (model X.prog X.w) X.A (.call (.ref g) ⟨[.ref f], []⟩) (CR C8.CX0 X.stack X.prog X.w H1 s' Q C8.E0) s' := by
    refine run_ofS (N := Ng) (ps := [a]) (us := [.ref f]) (vs := [.ref f]) lk hcg Sg hr I1.env0 (hb s' [.ref f] I1.kIn rfl) (.cons rfl .nil) rfl fun hr' => ?_
    obtain ⟨t', ht', hq'⟩ := hG f c' s' H1 Q (fun E H' Q' => H' f = some (LamO f (X.env.qual ++ "<lambda>") (Ls i).params (Ls i).body (Ls i).scope (cloFrom X.env.cells (Ls i).scope.names []) c') ∧ ts i E σ H' Q') (fun W pn xe E p1 p2 tk hW => pe_actV (i := 0) I1 L hbind tk hW hr' (fun A outer s H hr2 => hbody A outer s H E f c' hr2) hNg hva hd hcd) hco hTT
    exact ⟨t', ht'.nox, hq'⟩
  refine wpAny_call (codeAny_mono rc fun r s2 hq => ?_)
  cases r with
  | error e => exact (show False from hq).elim
  | ok fl =>
    cases fl with
    | ret u => exact I1.after hq
    | next => exact False.elim hq
    | brk => exact False.elim hq
    | cont => exact False.elim hq
end
end Den
set_option maxRecDepth 100000
set_option maxHeartbeats 2000000
/-! A def that tells under which classes the error stands that was raised. -/
namespace Den
open PySem PySem.Spec PySem.Calls L2 PyProof.Rows LamX
/-- the error's own dict is known, or it has none -/
def DOk (d : Option Addr) (H : Hp) : Prop := d = none ∨ ∃ dd fs, d = some dd ∧ H dd = some (.xd fs)
def rIsA (K : PySem.W.Frag) (D a : Addr) (d : Option Addr) : List V → Hp → VK → Prop := fun xs H Q => ∃ (c : V) (cv : Value) (b : Bool), xs = [.ref a, c] ∧ (∀ u, RelV c u → u = cv) ∧ PySem.W.kitOne K (.ref D) cv = some b ∧ DOk d H ∧ Q (.bl b) H
theorem call_isA {X : Cx} {a D : Addr} {d : Option Addr} {oe : Obj} {pn : List (Addr × Obj)} (C : ExcC X.K D) (hz : Zc (.ref D) d oe) (hf : ∃ vs, oe.data = .fields vs) : CallR (X.suite a ((a, oe) :: pn)) (.builtin "isinstance") (rIsA X.K D a d) := by
  intro pins s σ H xs us Q I r h
  obtain ⟨c, cv, b, rfl, hcv, e, hd, q⟩ := h
  rcases hd with rfl | ⟨dd, fs, rfl, hdd⟩
  · exact call_isE C hz hf pins s σ H _ us Q I r ⟨c, cv, b, rfl, hcv, e, q⟩
  · exact call_isF C hz hf pins s σ H _ us Q I r ⟨c, cv, b, dd, fs, rfl, hcv, e, rfl, hdd, q⟩
theorem DOk.upd {d : Option Addr} {H : Hp} {p : Addr} {o : HO} (k : DOk d H) (hp : H p = none) : DOk d (upd H p o) := by
  rcases k with k | ⟨dd, fs, e, h⟩
  · exact .inl k
  · exact .inr ⟨dd, fs, e, by rw [upd_ne (ne_of_none h hp)]; exact h⟩
/-- the names asked: a global one, or a built-in one -/
structure IsN (K : PySem.W.Frag) (mg : Str → Option Value) (sg : Scope) (x : Str) (c : V) (cv : Value) : Prop where
  g : sg.names.lookup x = some .globalImplicit
  m : (mg x = some cv ∧ RelV c cv) ∨ (mg x = none ∧ bootBuiltins x = some cv ∧ RelV c cv ∧ x ≠ "__name__")
  d : (x == ("__debug__" : Str)) = false
  u : ∀ u, RelV c u → u = cv
section
variable {X : Cx}
theorem pe_isN {Y : Cx} {sg : Scope} {x : Str} {c : V} {cv : Value} {p : Pos} (N : IsN Y.K Y.mg sg x c cv) (hs : Y.env.scope = sg) : PE Y (.Name x p) (tC c) := by
  have hg : Gl Y x := by show Y.env.scope.names.lookup _ = _; rw [hs]; exact N.g
  rcases N.m with ⟨h1, h2⟩ | ⟨h1, h2, h3, h4⟩
  · exact pe_glob hg h1 h2 N.d
  · exact pe_bltn hg h1 h2 h3 h4 N.d
/-- the flags that the error's class gives -/
def FlagsAt (K : PySem.W.Frag) (CS : Addr) (cvs1 cvs2 : List Value) (Q : VK) : XK := fun cls d H => ∃ (C : Addr) (bs1 bs2 : List Bool), cls = .ref C ∧ ExcC K C ∧ PySem.W.exmOne K cls (.ref CS) = some true ∧ DOk d H ∧ cvs1.map (fun cv => PySem.W.kitOne K (.ref C) cv) = bs1.map some ∧ cvs2.map (fun cv => PySem.W.kitOne K (.ref C) cv) = bs2.map some ∧
  ∀ a1 a2 a3, H a1 = none → upd H a1 (.lst (bs1.map V.bl)) a2 = none → upd (upd H a1 (.lst (bs1.map V.bl))) a2 (.lst (bs2.map V.bl)) a3 = none → Q (.ref a3) (upd (upd (upd H a1 (.lst (bs1.map V.bl))) a2 (.lst (bs2.map V.bl))) a3 (.lst (bs1.map V.bl ++ bs2.map V.bl)))
def TFlags (K : PySem.W.Frag) (CS : Addr) (cvs1 cvs2 : List Value) : (XK → Hp → VK → Prop) → Hp → VK → Prop := fun tl H Q => tl (FlagsAt K CS cvs1 cvs2 Q) H fun _ H' => ([] : List V).length ≤ sizeLine ∧ ∀ p, H' p = none → Q (.ref p) (upd H' p (.lst []))
theorem flags_gives {Ng : List Str} {x a n y q xc x1 x2 x3 x4 x5 x6 x7 : Str} {sg : Scope} {g CS : Addr} {cdg : Value} {c1 c2 c3 c4 c5 c6 c7 : V} {v1 v2 v3 v4 v5 v6 v7 : Value} {p1 p2 p3 p4 p5 p6 p7 p8 p9 p10 p11 r1 r2 r3 : Pos}
    {f1 f2 f3 f4 f5 f6 f7 e1 e2 e3 e4 e5 e6 e7 n1 n2 n3 n4 n5 n6 n7 l1 l2 l3 l4 l5 l6 l7 py : Pos}
    (hN : Ng.Nodup) (hn : Ng[1]? = some n) (hln : sg.names.lookup n = some .local) (hy : Ng[2]? = some y) (hly : sg.names.lookup y = some .local) (h0 : ∀ f : Addr, (L2.start Ng [V.ref f])[0]? = some (some (V.ref f))) (hlen : Ng.length = 3)
    (gxc : sg.names.lookup xc = some .globalImplicit) (dxc : (xc == ("__debug__" : Str)) = false) (mxc : X.mg xc = some (.ref CS))
    (gis : sg.names.lookup ("isinstance" : Str) = some .globalImplicit) (mis : X.mg "isinstance" = none)
    (N1 : IsN X.K X.mg sg x1 c1 v1) (N2 : IsN X.K X.mg sg x2 c2 v2) (N3 : IsN X.K X.mg sg x3 c3 v3) (N4 : IsN X.K X.mg sg x4 c4 v4) (N5 : IsN X.K X.mg sg x5 c5 v5) (N6 : IsN X.K X.mg sg x6 c6 v6) (N7 : IsN X.K X.mg sg x7 c7 v7)
    (dn1 : (n == ("__debug__" : Str)) = false) (dn2 : (n == ("__classdict__" : Str)) = false) (dy1 : (y == ("__debug__" : Str)) = false) (dy2 : (y == ("__classdict__" : Str)) = false)
    (hs : ∀ (s : Shared) (H : Hp) (pn : List (Addr × Obj)) (xe : Value → Shared → Prop), swapsWith (.Call (.Name a p1) [] [] p2) none p3.line ((cxOf C8.CX0 X.prog X.w X.K X.mg X.base Ng x sg g cdg X.A X.stack s H C8.E0).tr pn xe).env = pure false)
    (hs2 : ∀ (s : Shared) (H : Hp) (a0 : Addr) (oe : Obj) (pn : List (Addr × Obj)), swapsWith (.List [.Call (.Name "isinstance" f1) [.Name n e1, .Name x1 n1] [] l1, .Call (.Name "isinstance" f2) [.Name n e2, .Name x2 n2] [] l2, .Call (.Name "isinstance" f3) [.Name n e3, .Name x3 n3] [] l3, .Call (.Name "isinstance" f4) [.Name n e4, .Name x4 n4] [] l4] p7) (some (.Name y py)) p5.line ((cxOf C8.CX0 X.prog X.w X.K X.mg X.base Ng x sg g cdg X.A X.stack s H C8.E0).nox.suite a0 ((a0, oe) :: pn)).env = pure false) :
    GivesTo X Ng x sg g cdg [.Try [.Expr (.Call (.Name a p1) [] [] p2) p3] [.ExceptHandler (some (.Name xc p4)) (some n) [
      .Assign [.Name y py] (.List [.Call (.Name "isinstance" f1) [.Name n e1, .Name x1 n1] [] l1, .Call (.Name "isinstance" f2) [.Name n e2, .Name x2 n2] [] l2, .Call (.Name "isinstance" f3) [.Name n e3, .Name x3 n3] [] l3, .Call (.Name "isinstance" f4) [.Name n e4, .Name x4 n4] [] l4] p7) p5,
      .Return (some (.BinOp (.Name y p9) .Add (.List [.Call (.Name "isinstance" f5) [.Name n e5, .Name x5 n5] [] l5, .Call (.Name "isinstance" f6) [.Name n e6, .Name x6 n6] [] l6, .Call (.Name "isinstance" f7) [.Name n e7, .Name x7 n7] [] l7] p10) p11)) p8] p6] [] [] r2, .Return (some (.List [] r1)) r3] a q (TFlags X.K CS [v1, v2, v3, v4] [v5, v6, v7]) := by
  intro f c' s H Q tl act hc h
  let Y := (cxOf C8.CX0 X.prog X.w X.K X.mg X.base Ng x sg g cdg X.A X.stack s H C8.E0).nox
  let ts : Addr → Value → Option Addr → TS := fun a0 cls d D σ H1 => ∃ (C : Addr) (bs1 bs2 : List Bool), cls = .ref C ∧ ExcC X.K C ∧ DOk d H1 ∧ [v1, v2, v3, v4].map (fun cv => PySem.W.kitOne X.K (.ref C) cv) = bs1.map some ∧ [v5, v6, v7].map (fun cv => PySem.W.kitOne X.K (.ref C) cv) = bs2.map some ∧ σ.length = 3 ∧ σ[1]? = some (some (.ref a0)) ∧
    ∀ a1 a2 a3, H1 a1 = none → upd H1 a1 (.lst (bs1.map V.bl)) a2 = none → upd (upd H1 a1 (.lst (bs1.map V.bl))) a2 (.lst (bs2.map V.bl)) a3 = none → D.rt (.ref a3) (upd (upd (upd H1 a1 (.lst (bs1.map V.bl))) a2 (.lst (bs2.map V.bl))) a3 (.lst (bs1.map V.bl ++ bs2.map V.bl)))
  have suite : ∀ (a0 : Addr) (oe : Obj) (cls : Value) (d : Option Addr) (pn : List (Addr × Obj)), Zc cls d oe → (∃ vs, oe.data = .fields vs) →
      PSs (Y.suite a0 ((a0, oe) :: pn)) [.Assign [.Name y py] (.List [.Call (.Name "isinstance" f1) [.Name n e1, .Name x1 n1] [] l1, .Call (.Name "isinstance" f2) [.Name n e2, .Name x2 n2] [] l2, .Call (.Name "isinstance" f3) [.Name n e3, .Name x3 n3] [] l3, .Call (.Name "isinstance" f4) [.Name n e4, .Name x4 n4] [] l4] p7) p5,
      .Return (some (.BinOp (.Name y p9) .Add (.List [.Call (.Name "isinstance" f5) [.Name n e5, .Name x5 n5] [] l5, .Call (.Name "isinstance" f6) [.Name n e6, .Name x6 n6] [] l6, .Call (.Name "isinstance" f7) [.Name n e7, .Name x7 n7] [] l7] p10) p11)) p8] (ts a0 cls d) := by
    intro a0 oe cls d pn hz hf
    refine ⟨fun pins s' σ' H' D I h' => ?_⟩
    obtain ⟨C, bs1, bs2, rfl, hC, hd, k1, k2, hl, hsl, hq⟩ := h'
    have en : ∀ p, PE (Y.suite a0 ((a0, oe) :: pn)) (.Name n p) (tVar 1) := fun p => pe_var (i := 1) hn (.inl hln) dn1 dn2
    have isP : ∀ {xx : Str} {cc : V} {vv : Value} (f e nn l : Pos), IsN X.K X.mg sg xx cc vv → PE (Y.suite a0 ((a0, oe) :: pn)) (.Call (.Name "isinstance" f) [.Name n e, .Name xx nn] [] l) (tCB (rIsA X.K C a0 d) (tCons (tVar 1) (tCons (tC cc) tNil))) := fun f e nn l N =>
      pe_callB (X := Y.suite a0 ((a0, oe) :: pn)) (p := f) (pos := l) (x := "isinstance") (call_isA (X := Y) (a := a0) (D := C) (d := d) (oe := oe) (pn := pn) hC hz hf) gis mis (by decide +kernel) (pa_cons (en e) (pa_cons (pe_isN (Y := Y.suite a0 ((a0, oe) :: pn)) (sg := sg) N rfl) pa_nil rfl) rfl)
    obtain ⟨b1, b2, b3, b4, rfl, q1, q2, q3, q4⟩ : ∃ b1 b2 b3 b4, bs1 = [b1, b2, b3, b4] ∧ PySem.W.kitOne X.K (.ref C) v1 = some b1 ∧ PySem.W.kitOne X.K (.ref C) v2 = some b2 ∧ PySem.W.kitOne X.K (.ref C) v3 = some b3 ∧ PySem.W.kitOne X.K (.ref C) v4 = some b4 := by
      match bs1, k1 with
      | [b1, b2, b3, b4], k1 => simp only [List.map_cons, List.map_nil, List.cons.injEq, and_true] at k1; exact ⟨b1, b2, b3, b4, rfl, k1⟩
      | [], k1 | [_], k1 | [_, _], k1 | [_, _, _], k1 | _ :: _ :: _ :: _ :: _ :: _, k1 => simp at k1
    obtain ⟨b5, b6, b7, rfl, q5, q6, q7⟩ : ∃ b5 b6 b7, bs2 = [b5, b6, b7] ∧ PySem.W.kitOne X.K (.ref C) v5 = some b5 ∧ PySem.W.kitOne X.K (.ref C) v6 = some b6 ∧ PySem.W.kitOne X.K (.ref C) v7 = some b7 := by
      match bs2, k2 with
      | [b1, b2, b3], k2 => simp only [List.map_cons, List.map_nil, List.cons.injEq, and_true] at k2; exact ⟨b1, b2, b3, rfl, k2⟩
      | [], k2 | [_], k2 | [_, _], k2 | _ :: _ :: _ :: _ :: _, k2 => simp at k2
    have S1 := ps_set (X := Y.suite a0 ((a0, oe) :: pn)) (i := 2) (pos' := py) (pos := p5) hN hy (.inl hly) (pe_lst (pos := p7) (pa_cons (isP f1 e1 n1 l1 N1) (pa_cons (isP f2 e2 n2 l2 N2) (pa_cons (isP f3 e3 n3 l3 N3) (pa_cons (isP f4 e4 n4 l4 N4) pa_nil rfl) rfl) rfl) rfl)) (hs2 s H a0 oe pn) (.inr hly)
    have S2 := ps_ret (X := Y.suite a0 ((a0, oe) :: pn)) (pos := p8) (pe_op (pos := p11) op_cat (pe_var (i := 2) (pos := p9) hy (.inl hly) dy1 dy2) (pe_lst (pos := p10) (pa_cons (isP f5 e5 n5 l5 N5) (pa_cons (isP f6 e6 n6 l6 N6) (pa_cons (isP f7 e7 n7 l7 N7) pa_nil rfl) rfl) rfl)))
    refine (pss_cons S1 (pss_one S2)).run pins s' σ' H' D I ?_
    have sz4 : 4 ≤ sizeLine := by rw [PySem.sizeLine_eq]; decide
    have sz3 : 3 ≤ sizeLine := by rw [PySem.sizeLine_eq]; decide
    have sz7 : 4 + 3 ≤ sizeLine := by rw [PySem.sizeLine_eq]; decide
    have hsl2 : ∀ a1, (σ'.set 2 (some (V.ref a1)))[1]? = some (some (.ref a0)) := fun a1 => by rw [List.getElem?_set_ne (by omega)]; exact hsl
    refine ⟨.ref a0, hsl, c1, v1, b1, rfl, N1.u, q1, hd, .ref a0, hsl, c2, v2, b2, rfl, N2.u, q2, hd, .ref a0, hsl, c3, v3, b3, rfl, N3.u, q3, hd, .ref a0, hsl, c4, v4, b4, rfl, N4.u, q4, hd, sz4, fun a1 ha1 => ?_⟩
    refine ⟨.ref a1, by rw [List.getElem?_set_self (by omega)], ?_⟩
    have hd1 := hd.upd (o := .lst [.bl b1, .bl b2, .bl b3, .bl b4]) ha1
    refine ⟨.ref a0, hsl2 a1, c5, v5, b5, rfl, N5.u, q5, hd1, .ref a0, hsl2 a1, c6, v6, b6, rfl, N6.u, q6, hd1, .ref a0, hsl2 a1, c7, v7, b7, rfl, N7.u, q7, hd1, sz3, fun a2 ha2 => ?_⟩
    have n12 : a1 ≠ a2 := fun z => by rw [z, upd_same] at ha2; cases ha2
    exact ⟨a1, a2, [.bl b1, .bl b2, .bl b3, .bl b4], [.bl b5, .bl b6, .bl b7], rfl, rfl, (upd_ne n12).trans upd_same, upd_same, sz7, fun a3 ha3 => hq a1 a2 a3 ha1 ha2 ha3⟩
  refine ⟨_, pss_cons (ps_try_as (X := Y) (i := 1) (n := n) (c := .ref CS) (ts := ts)
      (tb := fun W D σ H => ∃ Ech : XK, (∀ cls d σ' H', σ'.length = Ng.length → Ech cls d H' → W cls d σ' H') ∧ σ[0]? = some (some (.ref f)) ∧ H c' = some (CodeO c' q) ∧ tl Ech H fun _ H1 => D.nx σ H1)
      rfl rfl hN hn hln ⟨gxc, dxc, .inl mxc⟩ LamX.takes0 (fun W pn xe tk _ => ?_) suite) (pss_one (ps_ret (pe_lst pa_nil))), ?_⟩
  · refine ⟨fun pins s' σ H' D I h' => ?_⟩
    obtain ⟨Ech, hW, h1, h2, h3⟩ := h'
    have hp := act _ pn xe Ech p1 p2 (takes_len tk) fun cls d σ' H' he hl => hW cls d σ' H' hl he
    exact (pss_one (ps_expr (pos := p3) hp (hs s H pn xe))).run pins s' σ H' D I ⟨h1, h2, h3⟩
  · refine ⟨FlagsAt X.K CS [v1, v2, v3, v4] [v5, v6, v7] Q, fun cls d σ' H' hl he => ?_, h0 f, hc, h⟩
    · obtain ⟨C, bs1, bs2, rfl, hC, hm, hd, k1, k2, hq⟩ := he
      exact ⟨true, hm, fun _ a0 _ => ⟨C, bs1, bs2, rfl, hC, hd, k1, k2, by rw [List.length_set]; omega, by rw [List.getElem?_set_self (by omega)], hq⟩, fun hb => by cases hb⟩
end
end Den
set_option maxRecDepth 100000
set_option maxHeartbeats 2000000
/-! xs = [lambda: .., ..]; for k in range(len(xs)): if told(xs[k]) != e: return False. -/
namespace Den
open PySem PySem.Spec PySem.Calls L2 PyProof.Rows LamX
/-! ### the reading -/
def mFlags (fl : Nat → Option (List Bool × List Bool)) (m : M W) : M W := fun e h => match m e h with
  | .ok _ h' => .ok (.ref h'.length) (h' ++ [.lst []])
  | .exc c _ h' => match fl c with
    | some b => .ok (.ref (h'.length + 2)) (((h' ++ [.lst (b.1.map .bl)]) ++ [.lst (b.2.map .bl)]) ++ [.lst (b.1.map .bl ++ b.2.map .bl)])
    | none => .bad
  | .bad => .bad
def mSel (k : Nat) (fl : Nat → Option (List Bool × List Bool)) (ms : List (M W)) : M W := fun e h => match e[k]? with
  | some (some (.int i)) => if 0 ≤ i then match ms[i.toNat]? with
    | some m => mFlags fl m e h
    | none => .bad
    else .bad
  | _ => .bad
def lamB (k : Nat) (fl : Nat → Option (List Bool × List Bool)) (ms : List (M W)) (mE : M W) : Sm := mIfS (mB (mOp oNe (mSel k fl ms) mE)) (mRet (mC (.bl false))) mSkip
def mLams (iw k : Nat) (fl : Nat → Option (List Bool × List Bool)) (ms : List (M W)) (mE : M W) : Sm := fun e h => if iw < e.length then forGo (srcN 0 ms.length) (tgN k) (lamB k fl ms mE) 100000 0 (e.set iw none) h else .bad
/-- what the flags are -/
def FlOk (K : PySem.W.Frag) (G : Gx) (CS : Addr) (cvs1 cvs2 : List Value) (fl : Nat → Option (List Bool × List Bool)) : Prop := ∀ c b, fl c = some b → ∀ C, G.ca c = some C → ExcC K C ∧ PySem.W.exmOne K (.ref C) (.ref CS) = some true ∧ cvs1.map (fun cv => PySem.W.kitOne K (.ref C) cv) = b.1.map some ∧ cvs2.map (fun cv => PySem.W.kitOne K (.ref C) cv) = b.2.map some
section
variable {G : Gx} {K : PySem.W.Frag} {H H' : Hp} {ρ : List Addr} {h : List O} {σ : L2.St} {e : Env}
theorem vrs_bls : ∀ bs : List Bool, VRs K H ρ (bs.map V.bl) (bs.map W.bl)
  | [] => .nil
  | b :: bs => .cons VR.bl' (vrs_bls bs)
where VR.bl' {b : Bool} : VR K H ρ (.bl b) (.bl b) := by unfold VR; rfl
theorem SR.none_at (s : SR K H ρ σ e) (i : Nat) (v : V) : SR K H ρ (σ.set i (some v)) (e.set i none) := ⟨by rw [List.length_set, List.length_set]; exact s.len, fun j w hj => by
  by_cases hij : i = j
  · subst hij
    by_cases hl : i < e.length
    · rw [List.getElem?_set_self hl] at hj; cases hj
    · rw [List.getElem?_eq_none (by rw [List.length_set]; omega)] at hj; cases hj
  · rw [List.getElem?_set_ne hij] at hj
    obtain ⟨v, h1, h2⟩ := s.at_ j w hj
    exact ⟨v, by rw [List.getElem?_set_ne hij]; exact h1, h2⟩⟩
/-- what is not ours is not in the small heap -/
theorem HR.notin (hr : HR K G H ρ h) {a : Addr} {o : HO} (e : H a = some o) (hm : isM o = false) : a ∉ ρ := fun ha => by
  obtain ⟨u, h1, h2⟩ := hr.mu a ha
  rw [e] at h1
  cases h1
  rw [hm] at h2
  cases h2
theorem HR.notin0 (hr : HR K G H ρ h) {a : Addr} (e : H a = Option.none) : a ∉ ρ := fun ha => by
  obtain ⟨u, h1, h2⟩ := hr.mu a ha
  rw [e] at h1
  cases h1
end
section
variable {G : Gx} {X : Cx}
/-- a lambda with its place -/
structure LamQ where
  d : LamD
  pos : Pos
def LamQ.e (L : LamQ) : Expr := .Lambda L.d.params L.d.body L.d.scope L.pos
def tLams (T : List (Addr × Str)) (X : Cx) (Ls : List LamQ) : TA := fun _ H Q => Tabs T H ∧ ∀ (fs : List (Addr × Addr)) (H1 : Hp), ExtN H H1 → Tabs T H1 → fs.length = Ls.length → (∀ (i : Nat) (L : LamQ) (p : Addr × Addr), Ls[i]? = some L → fs[i]? = some p → LamAt X L.d H1 p.1 p.2) → Q (fs.map fun p => V.ref p.1) H1
theorem LamAt.ext {L : LamD} {H H1 : Hp} {f c' : Addr} (l : LamAt X L H f c') (x : ExtN H H1) : LamAt X L H1 f c' := ⟨x _ _ l.1 (fun ps z => by unfold LamO at z; cases z), x _ _ l.2 (fun ps z => codeO_ne ps z)⟩
theorem pa_lams {T : List (Addr × Str)} {c P : Addr} (TB : TabB X.base X.mg c P) (hcode : X.env.code = .ref c) (hm : (P, X.env.qual ++ "<lambda>") ∈ T) (hu : ∀ p ∈ T, p.1 = P → p.2 = X.env.qual ++ "<lambda>") :
    ∀ (Ls : List LamQ), (∀ L ∈ Ls, defaultsOf L.d.params X.env = ([], []) ∧ LamS X.env.scope L.d.scope) → PA X (Ls.map LamQ.e) (tLams T X Ls)
  | [], _ => by
    refine ⟨fun pos pins s σ H Q I h => ?_⟩
    exact pa_nil.run pos pins s σ H Q I (h.2 [] H (ExtN.refl H) h.1 rfl (fun i L p e => by cases e))
  | L :: Ls, hL => by
    have h1 := hL L List.mem_cons_self
    refine ⟨fun pos pins s σ H Q I h => ?_⟩
    refine (pa_cons (pe_lamV (pos := L.pos) TB hcode hm hu h1.1 h1.2) (pa_lams TB hcode hm hu Ls fun M hM => hL M (List.mem_cons_of_mem _ hM)) rfl).run pos pins s σ H Q I ?_
    refine ⟨h.1, fun f c' H1 x1 T1 hf hl hc => ⟨T1, fun fs H2 x2 T2 hlen hat => ?_⟩⟩
    refine h.2 ((f, c') :: fs) H2 (x1.trans x2) T2 (by rw [List.length_cons, List.length_cons, hlen]) fun i M p hi hp => ?_
    cases i with
    | zero =>
      cases hi
      cases hp
      exact LamAt.ext ⟨hl, hc⟩ x2
    | succ i => exact hat i M p hi hp
/-- where the list stands, and the lambdas -/
structure LFacts (X : Cx) (Ls : List LamQ) (iw : Nat) (q : Addr) (fs : List (Addr × Addr)) (σ : L2.St) (H : Hp) : Prop where
  sl : σ[iw]? = some (some (.ref q))
  l : H q = some (.lst (fs.map fun p => V.ref p.1))
  len : fs.length = Ls.length
  at_ : ∀ (i : Nat) (L : LamQ) (p : Addr × Addr), Ls[i]? = some L → fs[i]? = some p → LamAt X L.d H p.1 p.2
theorem LFacts.ext {Ls : List LamQ} {iw : Nat} {q : Addr} {fs : List (Addr × Addr)} {σ σ' : L2.St} {H H' : Hp} {ρ ρ' : List Addr} {h : List O} (F : LFacts X Ls iw q fs σ H) (x : Ext H ρ H' ρ') (hr : HR X.K G H ρ h) (hq : q ∉ ρ) (hs : σ'[iw]? = σ[iw]?) : LFacts X Ls iw q fs σ' H' := by
  have k : ∀ {a : Addr} {φ : Heap → Prop}, H a = some (.ext φ) → H' a = some (.ext φ) := fun {a φ} e => x.fr a _ e rfl (hr.notin e rfl)
  exact ⟨hs.trans F.sl, x.fr q _ F.l rfl hq, F.len, fun i L p h1 h2 => ⟨k (F.at_ i L p h1 h2).1, k (F.at_ i L p h1 h2).2⟩⟩
theorem flags_post {CS : Addr} {cvs1 cvs2 : List Value} {fl : Nat → Option (List Bool × List Bool)} (hfl : FlOk X.K G CS cvs1 cvs2 fl) {E : XK} {H : Hp} {ρ : List Addr} {Q : VK} {m : M W} {e : Env} {h : List O}
    (p : Post X.K G E (VRel X.K) Q H ρ (mFlags fl m e h)) : Post X.K G (fun cls d H => FlagsAt X.K CS cvs1 cvs2 Q cls d H) (VRel X.K) (fun _ H' => ([] : List V).length ≤ sizeLine ∧ ∀ p, H' p = none → Q (.ref p) (upd H' p (.lst []))) H ρ (m e h) := by
  unfold mFlags at p
  cases hm : m e h with
  | bad => rw [hm] at p; exact p.elim
  | ok w h' =>
    rw [hm] at p
    intro ρ' H' v x r _
    exact ⟨Nat.zero_le _, new_lst (E := E) r VRs.nil (fun ρ2 H2 v2 x2 r2 q2 => p ρ2 H2 v2 (x.trans x2) r2 q2)⟩
  | exc c pl h' =>
    rw [hm] at p
    dsimp only at p
    cases hb : fl c with
    | none => rw [hb] at p; exact p.elim
    | some b =>
      rw [hb] at p
      intro ρ' H' cls d x r q
      obtain ⟨C, hC, rfl, hd⟩ := q
      obtain ⟨k1, k2, k3, k4⟩ := hfl c b hb C hC
      refine ⟨C, b.1, b.2, rfl, k1, k2, ?_, k3, k4, fun a1 a2 a3 h1 h2 h3 => ?_⟩
      · cases pl with
        | none => exact .inl hd
        | some w =>
          obtain ⟨dq, v, e1, e2, _⟩ := hd
          exact .inr ⟨dq, _, e1, e2⟩
      · obtain ⟨r1, x1⟩ := r.new (o := .lst (b.1.map V.bl)) (u := .lst (b.1.map .bl)) h1 rfl fun _ => ⟨_, upd_same, vrs_bls _⟩
        obtain ⟨r2, x2⟩ := r1.new (o := .lst (b.2.map V.bl)) (u := .lst (b.2.map .bl)) h2 rfl fun _ => ⟨_, upd_same, vrs_bls _⟩
        obtain ⟨r3, x3⟩ := r2.new (o := .lst (b.1.map V.bl ++ b.2.map V.bl)) (u := .lst (b.1.map .bl ++ b.2.map .bl)) h3 rfl fun _ => ⟨_, upd_same, (vrs_bls _).append (vrs_bls _)⟩
        refine p _ _ _ (x.trans (x1.trans (x2.trans x3))) r3 ?_
        show VR _ _ _ _ (.ref (h'.length + 2))
        unfold VR
        refine ⟨a3, rfl, ?_⟩
        have := r2.len
        have hl : (ρ' ++ [a1] ++ [a2]).length = h'.length + 2 := by rw [this]; simp
        rw [← hl]
        simp
/-- told(xs[k]) -/
theorem sel_post {CS : Addr} {cvs1 cvs2 : List Value} {fl : Nat → Option (List Bool × List Bool)} {Ls : List LamQ} {ms : List (M W)} {iw ik : Nat} {q : Addr} {fs : List (Addr × Addr)} {σ : L2.St} {H : Hp} {Q : VK} {Wx : WX} (L0 : LamQ) (hfl : FlOk X.K G CS cvs1 cvs2 fl) (hlen : ms.length = Ls.length)
    (F : LFacts X Ls iw q fs σ H) (p : rd X.K G Wx (VRel X.K) (mSel ik fl ms) σ H Q) :
    tOp (rIx X.K) (tVar iw) (tVar ik) σ H fun v H1 => ∃ i f c', i < Ls.length ∧ v = .ref f ∧ LamAt X (Ls.getD i L0).d H1 f c' ∧ TFlags X.K CS cvs1 cvs2 (fun E H' Q' => H' f = some (LamO f (X.env.qual ++ "<lambda>") (Ls.getD i L0).d.params (Ls.getD i L0).d.body (Ls.getD i L0).d.scope (cloFrom X.env.cells (Ls.getD i L0).d.scope.names []) c') ∧ rd X.K G (fun cls d _ H => E cls d H) (VRel X.K) (ms.getD i (fun _ _ => .bad)) σ H' Q') H1 Q := by
  obtain ⟨ρ, e, h, hr, sr, p⟩ := p
  unfold mSel at p
  split at p
  · rename_i i hi
    obtain ⟨v, hv, rv⟩ := sr.at_ _ _ hi
    have ev : v = .int i := rv.int
    subst ev
    split at p
    · rename_i h0
      cases hm : ms[i.toNat]? with
      | none => rw [hm] at p; exact p.elim
      | some m =>
        rw [hm] at p
        have hil : i.toNat < ms.length := (List.getElem?_eq_some_iff.mp hm).1
        have hiL : i.toNat < Ls.length := by omega
        have hif : i.toNat < fs.length := by rw [F.len]; exact hiL
        have eL : Ls[i.toNat]? = some (Ls.getD i.toNat L0) := by rw [List.getD_eq_getElem?_getD, List.getElem?_eq_getElem hiL]; rfl
        have em : ms.getD i.toNat (fun _ _ => .bad) = m := by rw [List.getD_eq_getElem?_getD, hm]; rfl
        have hat := F.at_ i.toNat _ fs[i.toNat] eL (List.getElem?_eq_getElem hif)
        refine ⟨.ref q, F.sl, .int i, hv, .inl ⟨q, _, i, .ref fs[i.toNat].1, rfl, rfl, .inl (.inl F.l), ?_, ?_⟩⟩
        · rw [atI_nat h0 (by rw [List.length_map]; omega), List.getElem_map]
        · refine ⟨i.toNat, fs[i.toNat].1, fs[i.toNat].2, hiL, rfl, hat, ?_⟩
          refine ⟨hat.1, ρ, e, h, hr, sr, ?_⟩
          rw [em]
          exact flags_post hfl p
    · exact p.elim
  · exact p.elim
/-- a wish of the test, told by its parts -/
theorem lamT_post {CS : Addr} {cvs1 cvs2 : List Value} {fl : Nat → Option (List Bool × List Bool)} {Ls : List LamQ} {ms : List (M W)} {mE : M W} {iw ik : Nat} {q : Addr} {fs : List (Addr × Addr)} {r : R2} {σ : L2.St} {H : Hp} {Q : Bool → Hp → Prop} {Wx : WX} {tE : TE} (L0 : LamQ) (hfl : FlOk X.K G CS cvs1 cvs2 fl) (hlen : ms.length = Ls.length)
    (F : LFacts X Ls iw q fs σ H) (sv : Serves2 X.K G oNe r) (hE : ∀ σ H Q, rd X.K G Wx (VRel X.K) mE σ H Q → tE σ H Q) (p : rd X.K G Wx BRel (mB (mOp oNe (mSel ik fl ms) mE)) σ H Q) :
    tTest (tOp r (fun σ H Q => tOp (rIx X.K) (tVar iw) (tVar ik) σ H fun v H1 => ∃ i f c', i < Ls.length ∧ v = .ref f ∧ LamAt X (Ls.getD i L0).d H1 f c' ∧ TFlags X.K CS cvs1 cvs2 (fun E H' Q' => H' f = some (LamO f (X.env.qual ++ "<lambda>") (Ls.getD i L0).d.params (Ls.getD i L0).d.body (Ls.getD i L0).d.scope (cloFrom X.env.cells (Ls.getD i L0).d.scope.names []) c') ∧ rd X.K G (fun cls d _ H => E cls d H) (VRel X.K) (ms.getD i (fun _ _ => .bad)) σ H' Q') H1 Q) tE) σ H Q := by
  have p2 : tOp r (rd X.K G Wx (VRel X.K) (mSel ik fl ms)) (rd X.K G Wx (VRel X.K) mE) σ H (fun x H' => ∃ k, x = .bl k ∧ Q k H') := by
    refine rd_op (G := G) (Wx := Wx) (K := X.K) (Q := fun x H' => ∃ k, x = .bl k ∧ Q k H') sv ?_
    refine rd.bnd (Rel := VRel X.K) p fun H0 ρ0 e sr x H1 ρ1 h1 wx x1 r1 vx p1 => ?_
    exact asB_post r1 vx p1
  obtain ⟨ρ, e, h, hr, sr, p3⟩ := p2
  refine sel_post L0 hfl hlen F ⟨ρ, e, h, hr, sr, p3.imp fun v H1 q1 => hE _ _ _ q1⟩
section
variable {fl : Nat → Option (List Bool × List Bool)} {ms : List (M W)} {mE : M W} {iw ik : Nat} {yw yk x a : Str} {Ls : List LamQ} {CS g c P : Addr} {cvs1 cvs2 : List Value} {eE : Expr} {es : List Expr} {rest : List Stmt} {mr : Sm}
    {k : Nat} {pg : Arguments} {bg : List Stmt} {sg : Scope} {dV kV doc pm cdv ct oc : Value} {an od : Option Addr} {osl : Array (Option Value)} {Ng : List Str} {jb : Nat}
    {p1 p2 p3 p4 p5 p6 p7 p8 p9 p10 p11 p12 p13 p14 p15 p16 p17 p18 p19 : Pos}
theorem sss_lams (L0 : LamQ) (hes : es = Ls.map LamQ.e) (hfl : FlOk X.K G CS cvs1 cvs2 fl) (hlen : ms.length = Ls.length) (hL0 : Ls.length ≤ 1000)
    (hN : X.N.Nodup) (hw : X.N[iw]? = some yw) (hlw : X.env.scope.names.lookup yw = some .local) (hk : X.N[ik]? = some yk) (hlk : Loc X.env.scope yk) (hwk : iw ≠ ik) (hfk : X.fn yk = true ∨ X.env.scope.names.lookup yk = some .local)
    (dw1 : (yw == ("__debug__" : Str)) = false) (dw2 : (yw == ("__classdict__" : Str)) = false) (dk1 : (yk == ("__debug__" : Str)) = false) (dk2 : (yk == ("__classdict__" : Str)) = false)
    (hL : ∀ L ∈ Ls, defaultsOf L.d.params X.env = ([], []) ∧ LamS X.env.scope L.d.scope)
    (hB : ∀ i, i < Ls.length → (Ls.getD i L0).d.Ok X k (fun E => rd X.K G (fun cls d _ H => E cls d H) (VRel X.K) (ms.getD i (fun _ _ => .bad))))
    (TB : TabB X.base X.mg c P) (hcode : X.env.code = .ref c) (hm : (P, X.env.qual ++ "<lambda>") ∈ G.T) (hu : ∀ p ∈ G.T, p.1 = P → p.2 = X.env.qual ++ "<lambda>")
    (hg : Gl X x) (hmx : X.mg x = some (.ref g)) (hkp : PySem.W.keepIn X.K (.ref g) = true)
    (lk : X.K.lookup g = some ⟨oc, od, .func (PySem.W.fnOf x x pg bg sg dV kV doc pm an cdv ct), osl⟩) (hcg : PySem.W.codeIn X.K cdv x = true) (hb : L2.Binds X.K (PySem.W.fnOf x x pg bg sg dV kV doc pm an cdv ct) [a] []) (Sg : FnScope Ng [a] sg) (hNg : Ng[0]? = some a) (hva : Vis sg a)
    (hG : GivesTo X Ng x sg g cdv bg a (X.env.qual ++ "<lambda>") (TFlags X.K CS cvs1 cvs2)) (hr : Room (k + 2) X.A)
    (hE : SE G X eE mE) (hne : OpS G X (compareOp .NotEq) oNe) (hmk : behindInMarks .NotEq eE = false) (hp : PassesOwn (model X.prog X.w) X.A X.env X.xe) (hc : X.calm = true)
    (gl : Gl X "len") (ml : X.mg "len" = none) (gr : Gl X "range") (mr0 : X.mg "range" = none) (hrest : SSs G X rest mr)
    (hs1 : swapsWith (.List es p1) (some (.Name yw p2)) p3.line X.env = pure false)
    (hs2 : ∀ z, foldedSetIterable (.Call (.Name "range" p4) [.Call (.Name "len" p5) [.Name yw p6] [] p7] [] p8) X.env z = pure z)
    (hs3 : starEach [.Subscript (.Name yw p9) (.Name yk p10) p11] X.env = (false, eval (.Subscript (.Name yw p9) (.Name yk p10) p11) X.env) :: starEach [] X.env)
    (hdb : (x == ("__debug__" : Str)) = false := by decide) (hd : (a == ("__debug__" : Str)) = false := by decide) (hcd : (a == ("__classdict__" : Str)) = false := by decide) :
    SSs G X (.Assign [.Name yw p2] (.List es p1) p3 :: .For (.Name yk p12) (.Call (.Name "range" p4) [.Call (.Name "len" p5) [.Name yw p6] [] p7] [] p8) [.If (.Compare (.Call (.Name x p13) [.Subscript (.Name yw p9) (.Name yk p10) p11] [] p14) [.NotEq] [eE] p15) [.Return (some (.Constant (.bool false) jb p16)) p17] [] p18] [] p19 :: rest) (mSeq (mLams iw ik fl ms mE) mr) := by
  intro Wx tk
  subst hes
  obtain ⟨r, ho, sv⟩ := hne
  have vw : Vis X.env.scope yw := .inl hlw
  have vk : Vis X.env.scope yk := by
    rcases hlk with h | h
    · exact .inl h
    · exact .inr (.inl h)
  have S1 := ps_set (X := X) (i := iw) (pos' := p2) (pos := p3) hN hw (.inl hlw) (pe_lst (pos := p1) (pa_lams TB hcode hm hu Ls hL)) hs1 (.inr hlw)
  have eSub := pe_ix (pos := p11) ix_seq (pe_var (X := X) (i := iw) (pos := p9) hw vw dw1 dw2) (pe_var (X := X) (i := ik) (pos := p10) hk vk dk1 dk2) (fun _ _ => rfl)
  have eT := pe_lamcallV (X := X) (n := Ls.length) (p := p13) (pos := p14) (fun i => (Ls.getD i L0).d) (fun i E => rd X.K G (fun cls d _ H => E cls d H) (VRel X.K) (ms.getD i (fun _ _ => .bad))) hB hg hmx hkp lk hcg hb Sg hNg hva hG hr eSub hs3 hdb hd hcd
  have eIf := ps_if (pos := p18) (pt_cmpR (pos := p15) ho eT (hE Wx tk) hmk) (pss_one (ps_ret (pos := p17) (pe_bl (X := X) (b := false) (j := jb) (pos := p16)))) pss_nil
  have eLen := pe_callB (X := X) (p := p5) (pos := p7) (x := "len") call_len_seq gl ml (by decide +kernel) (pa_cons (pe_var (X := X) (i := iw) (pos := p6) hw vw dw1 dw2) pa_nil rfl)
  have S2 := ps_for (X := X) (pos := p19) hp hc (pi_range1 (tg := .Name yk p12) (p := p4) (pos := p8) gr mr0 (pa_cons eLen pa_nil rfl) rfl) (pg_name (pos := p12) hN hk hlk hfk) (pss_one eIf) hs2
  refine (pss_cons S1 (pss_cons S2 (hrest Wx tk))).imp fun D σ H p => ?_
  obtain ⟨ρ, e, h, hr0, sr, p⟩ := p
  refine ⟨hr0.tb, fun fs H1 eN T1 hlf hat => ⟨?_, fun q hq => ?_⟩⟩
  · rw [PySem.sizeLine_eq, List.length_map, hlf]
    exact Nat.le_trans hL0 (by decide)
  have x1 : Ext H ρ H1 ρ := ⟨fun b o e t _ => eN b o e (by intro ps z; subst z; cases t), List.prefix_rfl, fun _ a b => absurd a b, hr0.mu, fun b o u e => eN b _ e (by intro ps z; cases z)⟩
  have r1 : HR X.K G H1 ρ h := ⟨hr0.len, hr0.nd, fun n a o e1 e2 => (hr0.ob n a o e1 e2).mono x1 (by
    obtain ⟨u, hu, hm⟩ := (hr0.ob n a o e1 e2).mut
    rw [hu]
    exact eN a u hu (by intro ps z; subst z; cases hm)), T1⟩
  obtain ⟨r2, x2⟩ := r1.other (o := .lst (fs.map fun p => V.ref p.1)) hq
  have s2 := ((sr.mono x1).mono x2).none_at iw (.ref q)
  have hq1 := r1.notin0 hq
  have p0 : PostS X.K G Wx { D with nx := rdS X.K G Wx mr D } H ρ (mLams iw ik fl ms mE e h) := by
    have p : PostS X.K G Wx D H ρ (match mLams iw ik fl ms mE e h with
      | .nx e h => mr e h
      | .rt w h => .rt w h
      | .bk e h => .bk e h
      | .ct e h => .ct e h
      | .exc c p e h => .exc c p e h
      | .bad => .bad) := p
    cases hm : mLams iw ik fl ms mE e h with
    | nx e' h' => rw [hm] at p; exact fun ρ' H' σ' x' r' s' => ⟨ρ', e', h', r', s', p.ext x'⟩
    | rt w h' => rw [hm] at p; exact p
    | bk e' h' => rw [hm] at p; exact p
    | ct e' h' => rw [hm] at p; exact p
    | exc c q e' h' => rw [hm] at p; exact p
    | bad => rw [hm] at p; exact p
  unfold mLams at p0
  by_cases hie : iw < e.length
  · rw [if_pos hie] at p0
    have hiw : iw < σ.length := by rw [sr.len]; exact hie
    have F : LFacts X Ls iw q fs (σ.set iw (some (.ref q))) (upd H1 q (.lst (fs.map fun p => V.ref p.1))) := ⟨List.getElem?_set_self hiw, upd_same, hlf, fun i L p h1 h2 => by
      have l := hat i L p h1 h2
      exact ⟨(upd_ne (ne_of_none l.1 hq)).trans l.1, (upd_ne (ne_of_none l.2 hq)).trans l.2⟩⟩
    have p := p0.ext (x1.trans x2)
    clear p0
    dsimp only [gName, tSeq]
    generalize hH2 : upd H1 q (.lst (fs.map fun p => V.ref p.1)) = H2 at *
    generalize hσ2 : σ.set iw (some (.ref q)) = σ2 at *
    generalize he2 : e.set iw none = e2 at *
    have hn : (fs.map fun p => V.ref p.1).length = ms.length := by rw [List.length_map, hlf, hlen]
    have h62 : (ms.length : Int) < 2 ^ 62 := by
      have : (ms.length : Int) ≤ 1000 := by omega
      exact Int.lt_of_le_of_lt this (by decide)
    refine ⟨.ref q, F.sl, q, _, rfl, .inl (.inl (.inl F.l)), (ms.length : Nat), by rw [hn], Int.le_trans (by decide) (Int.natCast_nonneg _), h62, ?_⟩
    rw [Int.toNat_natCast]
    refine ⟨fun i m σ' H' => ∃ ρ' e' h', Ext H2 ρ H' ρ' ∧ HR X.K G H' ρ' h' ∧ SR X.K H' ρ' σ' e' ∧ σ'[iw]? = some (some (.ref q)) ∧ PostS X.K G Wx { D with nx := rdS X.K G Wx mr D } H' ρ' (forGo (srcN 0 ms.length) (tgN ik) (lamB ik fl ms mE) m i e' h'), ⟨100000, ρ, e2, h, Ext.refl r2, r2, s2, F.sl, p⟩, fun i m σ' H' p => ?_⟩
    obtain ⟨ρ', e', h', x3, r3, s3, hs3', p⟩ := p
    cases m with
    | zero => exact False.elim p
    | succ m =>
      unfold forGo at p
      by_cases hi : i < ms.length
      · have es : srcN 0 ms.length i h' = some (some (.int (0 + (i : Nat)))) := if_pos hi
        rw [es] at p
        refine .inr ⟨hi, fun σ4 H4 => ∃ ρ4 e4 h4, Ext H2 ρ H4 ρ4 ∧ HR X.K G H4 ρ4 h4 ∧ SR X.K H4 ρ4 σ4 e4 ∧ σ4[iw]? = some (some (.ref q)) ∧ PostS X.K G Wx { D with nx := rdS X.K G Wx mr D } H4 ρ4 (forGo (srcN 0 ms.length) (tgN ik) (lamB ik fl ms mE) m (i + 1) e4 h4), fun σ4 H4 p4 => ⟨m, Nat.lt_succ_self m, p4⟩, fun y H4 hy => ?_⟩
        obtain ⟨rfl, rfl⟩ := hy
        dsimp only [tgN] at p
        have s4 := s3.set ik (w := .int (0 + (i : Nat))) (v := .int (0 + (i : Nat))) (by unfold VR; rfl)
        have hs4 : (σ'.set ik (some (V.int (0 + (i : Nat)))))[iw]? = some (some (.ref q)) := by rw [List.getElem?_set_ne (Ne.symm hwk)]; exact hs3'
        show tIfS _ _ _ _ (σ'.set ik (some (V.int (0 + (i : Nat))))) _
        generalize σ'.set ik (some (V.int (0 + (i : Nat)))) = σ5 at *
        generalize e'.set ik (some (W.int (0 + (i : Nat)))) = e5 at *
        have F5 : LFacts X Ls iw q fs σ5 _ := F.ext x3 r2 hq1 (hs4.trans F.sl.symm)
        refine lamT_post L0 hfl hlen F5 sv (fun σ H Q p => p) ⟨ρ', e5, h', r3, s4, ?_⟩
        have ub : lamB ik fl ms mE e5 h' = (mB (mOp oNe (mSel ik fl ms) mE) e5 h').stm e5 fun b h => if b = true then mRet (mC (.bl false)) e5 h else .nx e5 h := rfl
        rw [ub] at p
        cases hc0 : mB (mOp oNe (mSel ik fl ms) mE) e5 h' with
        | bad => rw [hc0] at p; exact p.elim
        | exc c pl h6 =>
          rw [hc0] at p
          exact fun ρ6 H6 cls d x6 r6 q6 => p ρ6 H6 σ5 cls d x6 r6 (s4.mono x6) q6
        | ok b h6 =>
          rw [hc0] at p
          intro ρ6 H6 v6 x6 r6 e6
          cases e6
          cases b with
          | true =>
            refine iteT ?_
            have p : PostS X.K G Wx { D with nx := rdS X.K G Wx mr D } _ ρ' (.rt (.bl false) h6) := p
            exact p ρ6 H6 (.bl false) x6 r6 (by unfold VR; rfl)
          | false =>
            refine iteF ?_
            have p : PostS X.K G Wx { D with nx := rdS X.K G Wx mr D } _ ρ' (forGo (srcN 0 ms.length) (tgN ik) (lamB ik fl ms mE) m (i + 1) e5 h6) := p
            exact ⟨ρ6, e5, h6, x3.trans x6, r6, s4.mono x6, hs4, p.ext x6⟩
      · have es : srcN 0 ms.length i h' = some none := if_neg hi
        rw [es] at p
        exact .inl ⟨Nat.le_of_not_lt hi, p ρ' H' σ' (Ext.refl r3) r3 s3⟩
  · rw [if_neg hie] at p0
    exact p0.elim
end
end
end Den
set_option maxRecDepth 100000
set_option maxHeartbeats 2000000
/-! The same, told so that a printed text can use it. -/
namespace Den
open PySem PySem.Spec PySem.Calls L2 PyProof.Rows LamX
def lamsOf : List Expr → List LamQ
  | .Lambda p b s pos :: r => ⟨⟨p, b, s⟩, pos⟩ :: lamsOf r
  | _ => []
def scope0 : Scope := { kind := .function, names := [], isGenerator := false, isCoroutine := false, more := [] }
def lam0 : LamQ := ⟨⟨{ posonlyargs := [], args := [], vararg := none, kwonlyargs := [], kw_defaults := [], kwarg := none, defaults := [] }, .Constant .none 0 ⟨0, 0, 0, 0⟩, scope0⟩, ⟨0, 0, 0, 0⟩⟩
/-- the lambdas, each with its reading -/
inductive LamsOk (X : Cx) (G : Gx) (k : Nat) : List LamQ → List (M W) → Prop
  | nil : LamsOk X G k [] []
  | cons {L : LamQ} {m : M W} {Ls : List LamQ} {ms : List (M W)} (hd : defaultsOf L.d.params X.env = ([], [])) (sc : LamS X.env.scope L.d.scope)
      (bind : ∀ (q : Str) (cl : List (Str × Addr)) (pm cv ctv : Value), bindArgs (PySem.W.kla_fn "<lambda>" q L.d.params L.d.body L.d.scope cl pm cv ctv) ⟨[], []⟩ = pure [])
      (body : ∀ (A : Around) (outer : List PySem.Env) (s : Shared) (H : Hp) (E : XK) (f c' : Addr), Room k (A.deeper (lamEnv X L.d.scope s.heap.objs.size f c')) → SE G (lamCx X A outer s H E L.d.scope f c') L.d.body m)
      (r : LamsOk X G k Ls ms) : LamsOk X G k (L :: Ls) (m :: ms)
section
variable {X : Cx} {G : Gx} {k : Nat}
theorem LamsOk.len {Ls : List LamQ} {ms : List (M W)} (h : LamsOk X G k Ls ms) : ms.length = Ls.length := by
  induction h with
  | nil => rfl
  | cons _ _ _ _ _ ih => rw [List.length_cons, List.length_cons, ih]
theorem LamsOk.lam {Ls : List LamQ} {ms : List (M W)} (h : LamsOk X G k Ls ms) : ∀ L ∈ Ls, defaultsOf L.d.params X.env = ([], []) ∧ LamS X.env.scope L.d.scope := by
  induction h with
  | nil => intro L h; cases h
  | cons hd sc _ _ _ ih =>
    intro L h
    rcases List.mem_cons.1 h with rfl | h
    · exact ⟨hd, sc⟩
    · exact ih L h
theorem LamsOk.ok {L0 : LamQ} {Ls : List LamQ} {ms : List (M W)} (h : LamsOk X G k Ls ms) : ∀ i, i < Ls.length → (Ls.getD i L0).d.Ok X k (fun E => rd X.K G (fun cls d _ H => E cls d H) (VRel X.K) (ms.getD i (fun _ _ => .bad))) := by
  induction h with
  | nil => intro i h; cases h
  | cons hd sc bind body _ ih =>
    intro i hi
    cases i with
    | zero => exact ⟨sc, bind, fun A outer s H E f c' hr => body A outer s H E f c' hr _ (takes_of rfl rfl rfl rfl)⟩
    | succ i => exact ih i (Nat.lt_of_succ_lt_succ hi)
structure FlX (K : PySem.W.Frag) (CS C : Addr) (cvs1 cvs2 : List Value) (b : List Bool × List Bool) : Prop where
  exc : ExcC K C
  m : PySem.W.exmOne K (.ref C) (.ref CS) = some true
  k1 : cvs1.map (fun cv => PySem.W.kitOne K (.ref C) cv) = b.1.map some
  k2 : cvs2.map (fun cv => PySem.W.kitOne K (.ref C) cv) = b.2.map some
theorem look_mem {α : Type} {c : Nat} {b : α} : ∀ {T : List (Nat × α)}, T.lookup c = some b → (c, b) ∈ T
  | [], h => by cases h
  | (d, x) :: T, h => by
    rw [List.lookup_cons] at h
    by_cases e : c = d
    · subst e
      simp at h
      rw [h]
      exact List.mem_cons_self
    · have : (c == d) = false := by simpa using e
      rw [this] at h
      exact List.mem_cons_of_mem _ (look_mem h)
def flOf (T : List (Nat × (List Bool × List Bool))) (c : Nat) : Option (List Bool × List Bool) := T.lookup c
theorem flok_of {K : PySem.W.Frag} {CS : Addr} {cvs1 cvs2 : List Value} {T : List (Nat × (List Bool × List Bool))} (h : ∀ p ∈ T, ∃ C, G.ca p.1 = some C ∧ FlX K CS C cvs1 cvs2 p.2) : FlOk K G CS cvs1 cvs2 (flOf T) := fun c b hb C hC => by
  have hl : T.lookup c = some b := hb
  have hm : (c, b) ∈ T := look_mem hl
  obtain ⟨C', e, F⟩ := h (c, b) hm
  have e : G.ca c = some C' := e
  rw [hC] at e
  cases e
  exact ⟨F.exc, F.m, F.k1, F.k2⟩
theorem sss_lamsF {fl : Nat → Option (List Bool × List Bool)} {ms : List (M W)} {mE : M W} (iw ik : Nat) {yw yk x a : Str} {CS g c P : Addr} {cvs1 cvs2 : List Value} {eE : Expr} {es : List Expr} {rest : List Stmt} {mr : Sm} {st : Stmt} {fd : FuncData} {Ng : List Str} {j jb : Nat}
    {p1 p2 p3 p4 p5 p6 p7 p8 p9 p10 p11 p12 p13 p14 p15 p16 p17 p18 p19 : Pos}
    (hfl : FlOk X.K G CS cvs1 cvs2 fl) (hes : es = (lamsOf es).map LamQ.e) (hLs : LamsOk X G k (lamsOf es) ms) (hL0 : (lamsOf es).length ≤ 1000)
    (hN : X.N.Nodup) (hw : X.N[iw]? = some yw) (hlw : X.env.scope.names.lookup yw = some .local) (hk : X.N[ik]? = some yk) (hlk : Loc X.env.scope yk) (hwk : iw ≠ ik) (hfk : X.fn yk = true ∨ X.env.scope.names.lookup yk = some .local)
    (F : Fun X.K x x st g fd) (hb : L2.Binds X.K fd [a] []) (hm : X.mg x = some (.ref g)) (Sg : FnScope Ng [a] (defScope st)) (hNg : Ng[0]? = some a) (hva : Vis (defScope st) a)
    (hG : ∀ cdv, GivesTo X Ng x (defScope st) g cdv (defBody st) a (X.env.qual ++ "<lambda>") (TFlags X.K CS cvs1 cvs2))
    (hg : Gl X x) (TB : TabB X.base X.mg c P) (hcode : X.env.code = .ref c) (hmT : (P, X.env.qual ++ "<lambda>") ∈ G.T) (hu : ∀ p ∈ G.T, p.1 = P → p.2 = X.env.qual ++ "<lambda>") (hr : Room j X.A) (hkj : k + 2 ≤ j)
    (hE : SE G X eE mE) (hne : OpS G X (compareOp .NotEq) oNe) (hp : PassesOwn (model X.prog X.w) X.A X.env X.xe) (hc : X.calm = true)
    (gl : Gl X "len") (ml : X.mg "len" = none) (gr : Gl X "range") (mr0 : X.mg "range" = none) (hrest : SSs G X rest mr)
    (hs1 : swapsWith (.List es p1) (some (.Name yw p2)) p3.line X.env = pure false)
    (hs2 : ∀ z, foldedSetIterable (.Call (.Name "range" p4) [.Call (.Name "len" p5) [.Name yw p6] [] p7] [] p8) X.env z = pure z)
    (hs3 : starEach [.Subscript (.Name yw p9) (.Name yk p10) p11] X.env = (false, eval (.Subscript (.Name yw p9) (.Name yk p10) p11) X.env) :: starEach [] X.env)
    (hmk : behindInMarks .NotEq eE = false := by first | exact nomark _ (by decide) (by decide) | rfl | (with_unfolding_all rfl))
    (dw1 : (yw == ("__debug__" : Str)) = false := by decide) (dw2 : (yw == ("__classdict__" : Str)) = false := by decide) (dk1 : (yk == ("__debug__" : Str)) = false := by decide) (dk2 : (yk == ("__classdict__" : Str)) = false := by decide)
    (hdb : (x == ("__debug__" : Str)) = false := by decide) (hd : (a == ("__debug__" : Str)) = false := by decide) (hcd : (a == ("__classdict__" : Str)) = false := by decide) :
    SSs G X (.Assign [.Name yw p2] (.List es p1) p3 :: .For (.Name yk p12) (.Call (.Name "range" p4) [.Call (.Name "len" p5) [.Name yw p6] [] p7] [] p8) [.If (.Compare (.Call (.Name x p13) [.Subscript (.Name yw p9) (.Name yk p10) p11] [] p14) [.NotEq] [eE] p15) [.Return (some (.Constant (.bool false) jb p16)) p17] [] p18] [] p19 :: rest) (mSeq (mLams iw ik fl ms mE) mr) := by
  obtain ⟨oc, od, kV, doc, pm, an, cdv, ct, osl, rfl, lk, hcd'⟩ := F.ex
  exact sss_lams lam0 hes hfl hLs.len hL0 hN hw hlw hk hlk hwk hfk dw1 dw2 dk1 dk2 hLs.lam hLs.ok TB hcode hmT hu hg hm F.kp lk hcd' hb Sg hNg hva (hG cdv) (hr.mono hkj) hE hne hmk hp hc gl ml gr mr0 hrest hs1 hs2 hs3 hdb hd hcd
end
end Den
set_option maxRecDepth 100000
set_option maxHeartbeats 2000000
/-! str of a number below a thousand. -/
namespace Den
open PySem PySem.Spec PySem.Calls L2 PyProof.Rows LamX
def decJ (n : Nat) : List Nat := if n < 10 then [48 + n] else if n < 100 then [48 + n / 10, 48 + n % 10] else [48 + n / 100, 48 + n / 10 % 10, 48 + n % 10]
theorem decJ_shown : ∀ n : Fin 1000, Str.ofString (toString (Int.ofNat n.val)) = mkS (decJ n.val) := by decide +kernel
section
variable {X : Cx} {G : Gx}
theorem cr_strJ : CallR X (.type "str") (fun xs H Q => ∃ n : Nat, xs = [.int (Int.ofNat n)] ∧ n < 1000 ∧ Q (.str (mkS (decJ n))) H) := by
  intro pins s σ H xs us Q I r h
  obtain ⟨n, rfl, hn, q⟩ := h
  obtain ⟨u, rfl, rx⟩ := r.one
  obtain ⟨t, rfl⟩ := rx
  refine P.str_of_int (a := Int.ofNat n) ?_ ⟨.str (mkS (decJ n)), H, I.tok _, ⟨_, by rw [← decJ_shown ⟨n, hn⟩]⟩, q⟩
  have h1 : (Int.ofNat n).natAbs = n := rfl
  rw [h1]
  exact Nat.lt_of_le_of_lt (Nat.log2_le_self n) (by omega)
def oStrJ (ws : List W) (h : List O) : Out W := match ws with
  | [.int i] => if 0 ≤ i ∧ i < 1000 then .ok (.str (decJ i.toNat)) h else .bad
  | _ => .bad
theorem cas_strJ : CaS G X (.type "str") oStrJ := ⟨_, cr_strJ, fun E H ρ h vs ws Q hr r p => by
  unfold oStrJ at p
  split at p
  · split at p
    · rename_i i hi
      obtain ⟨v, rfl, q⟩ := VRs.inv1 r
      refine ⟨i.toNat, ?_, by omega, p.here hr vr_str⟩
      have e : Int.ofNat i.toNat = i := Int.toNat_of_nonneg hi.1
      rw [e, q.int]
    · exact p.elim
  · exact p.elim⟩
end
end Den
set_option maxRecDepth 100000
set_option maxHeartbeats 2000000
/-! A call on a heap of its own, where the error may carry a plain place. -/
namespace Den
open PySem L2 PyProof.Rows
def pureRunX (den : List W → List O → Out W) (ar : Nat) (ws : List W) (h : List O) : Out W :=
  if ws.length = ar ∧ pureWs ws = true then match den ws [] with
    | .ok w _ => if pureW w = true then .ok w h else .bad
    | .exc c none _ => .exc c none h
    | .exc c (some w) _ => if pureW w = true then .exc c (some w) h else .bad
    | _ => .bad
  else .bad
section
variable {X : Cx} {G : Gx} {e : Expr}
theorem se_callPX {k j ar : Nat} {x : Str} {den : List W → List O → Out W} {es : List Expr} {mr : M (List W)} {p : Pos} (F : FnD X.prog X.w X.K X.mg X.base G k x ar den) (hr : Room j X.A) (hk : k ≤ j) (hg : Gl X x) (ha : SA G X (e :: es) mr)
    (hdb : (x == ("__debug__" : Str)) = false := by decide) (he : starEach (e :: es) X.env = (false, eval e X.env) :: starEach es X.env := by rfl) (hpl : (backTo pos (starEach es X.env)).any (·.1) = false := by rfl) :
    SE G X (.Call (.Name x p) (e :: es) [] pos) (mCB (pureRunX den ar) mr) := fun Wx tk => by
  obtain ⟨f, fd, ps, F, hm, hkp, hb⟩ := F.ex
  refine (pe_callS F (hr.mono hk) hg hm hkp hb (fun σ => passAt tk σ) (ha Wx tk) hdb he hpl).imp fun σ H Q p => rd.bnd (Rel := VsRel X.K) p fun H0 ρ0 e sr v H1 ρ1 h1 w x r q p1 => ?_
  unfold pureRunX at p1
  split at p1
  · rename_i hw
    refine ⟨(VRs.length q).trans hw.1, [], [], w, r.none, VRs.any hw.2 q, ?_⟩
    cases hd : den w [] with
    | bad => rw [hd] at p1; exact False.elim p1
    | ok z h' =>
      rw [hd] at p1
      dsimp only at p1
      split at p1
      · rename_i hz
        intro ρ' H' v' x' r' q'
        obtain ⟨r2, x2⟩ := r.sub x' r'
        exact p1 ρ1 H' v' x2 r2 (VR.any hz q')
      · exact False.elim p1
    | exc c pl h' =>
      rw [hd] at p1
      cases pl with
      | some z =>
        dsimp only at p1
        split at p1
        · rename_i hz
          intro ρ' H' cls d x' r' q'
          obtain ⟨r2, x2⟩ := r.sub x' r'
          obtain ⟨C, hC, e1, dq, v, e2, e3, rv⟩ := q'
          exact p1 ρ1 H' cls d x2 r2 ⟨C, hC, e1, dq, v, e2, e3, VR.any hz rv⟩
        · exact False.elim p1
      | none =>
        intro ρ' H' cls d x' r' q'
        obtain ⟨r2, x2⟩ := r.sub x' r'
        exact p1 ρ1 H' cls d x2 r2 q'
  · exact False.elim p1
end
end Den
set_option maxRecDepth 100000
set_option maxHeartbeats 4000000
/-! The plain functions of the text, and that the text does as they say. Printed by gen.py. -/
namespace Law_indexhall_k30_refusals_apart
open PySem L2 Den PyProof.Rows
def top (i : Nat) : Stmt := PySem.Challenge.pw_indexhall_k30_refusals_apart.main.body.getD i (.Pass ⟨0, 0, 0, 0⟩)
abbrev s_is_text : Stmt := top 13
abbrev s_check_text : Stmt := top 14
abbrev s_both : Stmt := top 16
abbrev s_either : Stmt := top 17
abbrev s_less : Stmt := top 18
abbrev s_decoded : Stmt := top 19
abbrev s_read : Stmt := top 21
abbrev s_cut : Stmt := top 22
abbrev s_is_plain : Stmt := top 23
abbrev s_named : Stmt := top 24
abbrev s_some : Stmt := top 25
abbrev s_every : Stmt := top 26
abbrev s_single : Stmt := top 27
abbrev s_answered : Stmt := top 28
abbrev s_by_phrase : Stmt := top 29
abbrev s_stands : Stmt := top 30
abbrev s_by_near : Stmt := top 31
abbrev s_plain : Stmt := top 32
abbrev s_walk : Stmt := top 39
abbrev s_law_dice : Stmt := top 41
abbrev s_law_roll : Stmt := top 42
abbrev s_law_rounds : Stmt := top 43
abbrev s_law_told : Stmt := top 44
abbrev s_law : Stmt := top 45
abbrev s_Index_init : Stmt := inClass (top 34) 0
abbrev s_Index_remove : Stmt := inClass (top 34) 3
abbrev s_Index_numbers : Stmt := inClass (top 34) 7
abbrev s_Index_text : Stmt := inClass (top 34) 8
abbrev s_Index_holds : Stmt := inClass (top 34) 10
abbrev s_Index_places : Stmt := inClass (top 34) 11
abbrev s_Index_all_words : Stmt := inClass (top 34) 12
abbrev s_Hall_init : Stmt := inClass (top 36) 0
abbrev s_Hall_every_text : Stmt := inClass (top 36) 1
abbrev s_Hall_state : Stmt := inClass (top 36) 2
abbrev s_Hall_note : Stmt := inClass (top 36) 4
abbrev s_Hall_take : Stmt := inClass (top 36) 7
abbrev s_Hall_find : Stmt := inClass (top 36) 13
abbrev s_Tree_init : Stmt := inClass (top 38) 0
abbrev s_Tree_node : Stmt := inClass (top 38) 2
abbrev s_Tree_within : Stmt := inClass (top 38) 7
theorem sc_law_told : FnScope ["what", "e", "some_v"] ["what"] (defScope s_law_told) := ⟨rfl, rfl, rfl, by decide +kernel, rfl, by decide +kernel, by decide +kernel⟩
theorem sc_is_text : FnScope ["thing"] ["thing"] (defScope s_is_text) := ⟨rfl, rfl, rfl, by decide +kernel, rfl, by decide +kernel, by decide +kernel⟩
theorem sc_check_text : FnScope ["thing"] ["thing"] (defScope s_check_text) := ⟨rfl, rfl, rfl, by decide +kernel, rfl, by decide +kernel, by decide +kernel⟩
theorem sc_both : FnScope ["one", "other", "found", "a", "b"] ["one", "other"] (defScope s_both) := ⟨rfl, rfl, rfl, by decide +kernel, rfl, by decide +kernel, by decide +kernel⟩
theorem sc_either : FnScope ["one", "other", "found", "a", "b"] ["one", "other"] (defScope s_either) := ⟨rfl, rfl, rfl, by decide +kernel, rfl, by decide +kernel, by decide +kernel⟩
theorem sc_less : FnScope ["one", "other", "found", "b", "number"] ["one", "other"] (defScope s_less) := ⟨rfl, rfl, rfl, by decide +kernel, rfl, by decide +kernel, by decide +kernel⟩
theorem n0_decoded : (".0" : Str) ∉ (["code", "found", "last", "k", "start", "wide", "digits", "gap", "sign"] : List Str) := by decide +kernel
theorem sc_decoded : FnScope ["code", "found", "last", "k", "start", "wide", "digits", "gap", "sign"] ["code"] (defScope s_decoded) := ⟨rfl, rfl, rfl, by decide +kernel, rfl, by decide +kernel, by decide +kernel⟩
theorem n0_is_plain : (".0" : Str) ∉ (["word", "sign"] : List Str) := by decide +kernel
theorem sc_is_plain : FnScope ["word", "sign"] ["word"] (defScope s_is_plain) := ⟨rfl, rfl, rfl, by decide +kernel, rfl, by decide +kernel, by decide +kernel⟩
theorem n0_named : (".0" : Str) ∉ (["text", "place", "sign"] : List Str) := by decide +kernel
theorem sc_named : FnScope ["text", "place", "sign"] ["text", "place"] (defScope s_named) := ⟨rfl, rfl, rfl, by decide +kernel, rfl, by decide +kernel, by decide +kernel⟩
theorem sc_cut : FnScope ["text", "found", "k", "deep", "start", "end", "row", "word"] ["text"] (defScope s_cut) := ⟨rfl, rfl, rfl, by decide +kernel, rfl, by decide +kernel, by decide +kernel⟩
theorem sc_single : FnScope ["signs", "k", "end", "kind", "what", "place", "ask"] ["signs", "k", "end"] (defScope s_single) := ⟨rfl, rfl, rfl, by decide +kernel, rfl, by decide +kernel, by decide +kernel⟩
theorem sc_every : FnScope ["signs", "k", "end", "ask", "other"] ["signs", "k", "end"] (defScope s_every) := ⟨rfl, rfl, rfl, by decide +kernel, rfl, by decide +kernel, by decide +kernel⟩
theorem sc_some : FnScope ["signs", "k", "end", "ask", "other"] ["signs", "k", "end"] (defScope s_some) := ⟨rfl, rfl, rfl, by decide +kernel, rfl, by decide +kernel, by decide +kernel⟩
theorem sc_read : FnScope ["text", "signs", "ask", "k"] ["text"] (defScope s_read) := ⟨rfl, rfl, rfl, by decide +kernel, rfl, by decide +kernel, by decide +kernel⟩
theorem sc_answered : FnScope ["ask", "index", "kind", "one", "other", "found", "word"] ["ask", "index"] (defScope s_answered) := ⟨rfl, rfl, rfl, by decide +kernel, rfl, by decide +kernel, by decide +kernel⟩
theorem sc_by_phrase : FnScope ["row", "index", "found", "word", "number"] ["row", "index"] (defScope s_by_phrase) := ⟨rfl, rfl, rfl, by decide +kernel, rfl, by decide +kernel, by decide +kernel⟩
theorem sc_stands : FnScope ["row", "index", "number", "places", "k", "place"] ["row", "index", "number"] (defScope s_stands) := ⟨rfl, rfl, rfl, by decide +kernel, rfl, by decide +kernel, by decide +kernel⟩
theorem sc_by_near : FnScope ["ask", "index", "kind", "far", "one", "other", "found", "number", "rows", "place", "k"] ["ask", "index"] (defScope s_by_near) := ⟨rfl, rfl, rfl, by decide +kernel, rfl, by decide +kernel, by decide +kernel⟩
theorem sc_plain : FnScope ["ask", "inner", "other"] ["ask"] (defScope s_plain) := ⟨rfl, rfl, rfl, by decide +kernel, rfl, by decide +kernel, by decide +kernel⟩
theorem sc_walk : FnScope ["node", "sign", "word", "above", "most", "text", "found", "row", "k", "other"] ["node", "sign", "word", "above", "most", "text", "found"] (defScope s_walk) := ⟨rfl, rfl, rfl, by decide +kernel, rfl, by decide +kernel, by decide +kernel⟩
theorem sc_law_dice : FnScope ["cell"] ["cell"] (defScope s_law_dice) := ⟨rfl, rfl, rfl, by decide +kernel, rfl, by decide +kernel, by decide +kernel⟩
theorem sc_law_roll : FnScope ["dice", "many", "found"] ["dice", "many"] (defScope s_law_roll) := ⟨rfl, rfl, rfl, by decide +kernel, rfl, by decide +kernel, by decide +kernel⟩
theorem sc_law_rounds : FnScope ["script", "most", "cells", "cell"] ["script", "most"] (defScope s_law_rounds) := ⟨rfl, rfl, rfl, by decide +kernel, rfl, by decide +kernel, by decide +kernel⟩
theorem sc_Index_remove : FnScope ["self", "number"] ["self", "number"] (defScope s_Index_remove) := ⟨rfl, rfl, rfl, by decide +kernel, rfl, by decide +kernel, by decide +kernel⟩
theorem sc_Tree_init : FnScope ["self"] ["self"] (defScope s_Tree_init) := ⟨rfl, rfl, rfl, by decide +kernel, rfl, by decide +kernel, by decide +kernel⟩
theorem sc_Tree_within : FnScope ["self", "word", "most", "found", "row", "sign"] ["self", "word", "most"] (defScope s_Tree_within) := ⟨rfl, rfl, rfl, by decide +kernel, rfl, by decide +kernel, by decide +kernel⟩
theorem sc_Index_numbers : FnScope ["self"] ["self"] (defScope s_Index_numbers) := ⟨rfl, rfl, rfl, by decide +kernel, rfl, by decide +kernel, by decide +kernel⟩
theorem sc_Hall_state : FnScope ["self"] ["self"] (defScope s_Hall_state) := ⟨rfl, rfl, rfl, by decide +kernel, rfl, by decide +kernel, by decide +kernel⟩
theorem sc_Hall_note : FnScope ["self", "before"] ["self", "before"] (defScope s_Hall_note) := ⟨rfl, rfl, rfl, by decide +kernel, rfl, by decide +kernel, by decide +kernel⟩
theorem sc_Hall_take : FnScope ["self", "number", "before"] ["self", "number"] (defScope s_Hall_take) := ⟨rfl, rfl, rfl, by decide +kernel, rfl, by decide +kernel, by decide +kernel⟩
theorem sc_Index_init : FnScope ["self", "most"] ["self", "most"] (defScope s_Index_init) := ⟨rfl, rfl, rfl, by decide +kernel, rfl, by decide +kernel, by decide +kernel⟩
theorem sc_Hall_init : FnScope ["self", "most"] ["self", "most"] (defScope s_Hall_init) := ⟨rfl, rfl, rfl, by decide +kernel, rfl, by decide +kernel, by decide +kernel⟩
theorem sc_law : FnScope ["script", "dice", "many", "hall", "index", "whats", "k", "j"] ["script"] (defScope s_law) := ⟨rfl, rfl, rfl, by decide +kernel, rfl, by decide +kernel, by decide +kernel⟩
theorem sc_Index_text : FnScope ["self", "number", "part"] ["self", "number"] (defScope s_Index_text) := ⟨rfl, rfl, rfl, by decide +kernel, rfl, by decide +kernel, by decide +kernel⟩
theorem sc_Index_holds : FnScope ["self", "word", "found", "part", "number"] ["self", "word"] (defScope s_Index_holds) := ⟨rfl, rfl, rfl, by decide +kernel, rfl, by decide +kernel, by decide +kernel⟩
theorem sc_Index_places : FnScope ["self", "word", "number", "part"] ["self", "word", "number"] (defScope s_Index_places) := ⟨rfl, rfl, rfl, by decide +kernel, rfl, by decide +kernel, by decide +kernel⟩
theorem sc_Index_all_words : FnScope ["self", "found", "part", "word"] ["self"] (defScope s_Index_all_words) := ⟨rfl, rfl, rfl, by decide +kernel, rfl, by decide +kernel, by decide +kernel⟩
theorem sc_Hall_every_text : FnScope ["self", "number"] ["self"] (defScope s_Hall_every_text) := ⟨rfl, rfl, rfl, by decide +kernel, rfl, by decide +kernel, by decide +kernel⟩
theorem sc_Hall_find : FnScope ["self", "text"] ["self", "text"] (defScope s_Hall_find) := ⟨rfl, rfl, rfl, by decide +kernel, rfl, by decide +kernel, by decide +kernel⟩
theorem sc_Tree_node : FnScope ["self", "text", "here", "sign"] ["self", "text"] (defScope s_Tree_node) := ⟨rfl, rfl, rfl, by decide +kernel, rfl, by decide +kernel, by decide +kernel⟩
/-! ### the plain functions -/
def flT_law_told : List (Nat × (List Bool × List Bool)) := [(1, ([true, false, false, false], [false, false, true])), (3, ([false, true, false, false], [false, false, true])), (4, ([false, false, true, false], [false, false, true])), (2, ([false, false, false, true], [false, false, true])), (5, ([false, false, false, false], [true, false, true])), (6, ([false, false, false, false], [false, true, true]))]
def body_is_text : Sm := mRet (mAndV (mIsiV "str" (mVar 0)) (mOp oLe (mCB oLen (mCons (mVar 0) (mNil))) (mC (.int 2000))))
def den_is_text : List W → List O → Out W := mFun 1 body_is_text
def body_check_text : Sm := mIfS (mNot (mTru (mCB (pureRun den_is_text 1) (mCons (mVar 0) (mNil))))) (mRaise 1) (mSkip)
def den_check_text : List W → List O → Out W := mFun 1 body_check_text
def body_both : Sm := mNever
def den_both : List W → List O → Out W := mFun 5 body_both
def body_either : Sm := mNever
def den_either : List W → List O → Out W := mFun 5 body_either
def body_less : Sm := mNever
def den_less : List W → List O → Out W := mFun 5 body_less
def body_decoded : Sm := mSeq (mTs [1, 2, 3] (mCons (mLst (mNil)) (mCons (mUn oNeg (mC (.int 1))) (mCons (mC (.int 0)) (mNil))))) (mSeq (mWhile 100000 (mB (mOp oLt (mVar 3) (mCB oLen (mCons (mVar 0) (mNil))))) (mSeq (mTs [4, 5] (mCons (mVar 3) (mCons (mC (.int 0)) (mNil)))) (mSeq (mWhile 100000 (mAnd (mB (mOp oLt (mVar 3) (mCB oLen (mCons (mVar 0) (mNil))))) (mB (mOp oEq (mOp oIx (mVar 0) (mVar 3)) (mC (.str [48]))))) (mTs [5, 3] (mCons (mOp oAdd (mVar 5) (mC (.int 1))) (mCons (mOp oAdd (mVar 3) (mC (.int 1))) (mNil))))) (mSeq (mSet 6 (mSl (mVar 0) (mPart (mVar 3)) (mPart (mOp oAdd (mOp oAdd (mVar 3) (mVar 5)) (mC (.int 1)))))) (mSeq (mIfS (mTru (mGenB true 8 (mGItems (mSl (mVar 0) (mPart (mVar 4)) (mPart (mOp oAdd (mOp oAdd (mVar 3) (mVar 5)) (mC (.int 1)))))) (mOp oNinS (mVar 8) (mC (.str [48, 49]))))) (mRaiseF 3 (mCons (mOp oAdd (mVar 4) (mMeth "list" oIndexB (mComp 100000 [8] (mIter (mSl (mVar 0) (mPart (mVar 4)) (mPart (mOp oAdd (mOp oAdd (mVar 3) (mVar 5)) (mC (.int 1)))))) (tgN 8) (mYes) (mOp oIn (mVar 8) (mC (.str [48, 49])))) (mCons (mC (.bl false)) (mNil)))) (mNil))) (mSkip)) (mSeq (mIfS (mB (mOp oLt (mCB oLen (mCons (mVar 6) (mNil))) (mOp oAdd (mVar 5) (mC (.int 1))))) (mRaiseF 3 (mCons (mVar 4) (mNil))) (mSkip)) (mSeq (mSet 7 (mC (.int 0))) (mSeq (mFor 100000 (mIter (mVar 6)) (tgN 8) (mSet 7 (mOp oAdd (mOp oMul (mC (.int 2)) (mVar 7)) (mCB oInt (mCons (mOp oEq (mVar 8) (mC (.str [49]))) (mNil)))))) (mSeq (mAug 2 oIadd (mVar 7)) (mSeq (mDrop (mMeth "list" oAppend (mVar 1) (mCons (mVar 2) (mNil)))) (mAug 3 oIadd (mOp oAdd (mVar 5) (mC (.int 1)))))))))))))) (mRet (mCB oTuple (mCons (mVar 1) (mNil)))))
def den_decoded : List W → List O → Out W := mFun 9 body_decoded
def body_is_plain : Sm := mRet (mAndV (mOp oNe (mVar 0) (mC (.str []))) (mAndV (mGenB false 1 (mGItems (mVar 0)) (mOp oInS (mVar 1) (mOp oAddS (mC (.str [97, 98, 99, 100, 101, 102, 103, 104, 105, 106, 107, 108, 109, 110, 111, 112, 113, 114, 115, 116, 117, 118, 119, 120, 121, 122])) (mC (.str [48, 49, 50, 51, 52, 53, 54, 55, 56, 57]))))) (mOp oNotIn (mVar 0) (mTup (mCons (mC (.str [97, 110, 100])) (mCons (mC (.str [111, 114])) (mCons (mC (.str [110, 111, 116])) (mCons (mC (.str [110, 101, 97, 114])) (mNil)))))))))
def den_is_plain : List W → List O → Out W := mFun 2 body_is_plain
def body_named : Sm := mSeq (mIfS (mB (mOp oIn (mVar 0) (mTup (mCons (mC (.str [97, 110, 100])) (mCons (mC (.str [111, 114])) (mCons (mC (.str [110, 111, 116])) (mNil))))))) (mRet (mTup (mCons (mVar 0) (mCons (mC (.str [])) (mCons (mVar 1) (mNil)))))) (mSkip)) (mSeq (mIfS (mAnd (mB (mOp oEq (mSl (mVar 0) (mNoPart) (mPart (mC (.int 5)))) (mC (.str [110, 101, 97, 114, 47])))) (mAnd (mB (mOp oIn (mCB oLen (mCons (mVar 0) (mNil))) (mTup (mCons (mC (.int 6)) (mCons (mC (.int 7)) (mNil)))))) (mAnd (mTru (mGenB false 2 (mGItems (mSl (mVar 0) (mPart (mC (.int 5))) (mNoPart))) (mOp oInS (mVar 2) (mC (.str [48, 49, 50, 51, 52, 53, 54, 55, 56, 57]))))) (mB (mOp oNe (mOp oIx (mVar 0) (mC (.int 5))) (mC (.str [48]))))))) (mRet (mTup (mCons (mC (.str [110, 101, 97, 114])) (mCons (mCB oIntS (mCons (mSl (mVar 0) (mPart (mC (.int 5))) (mNoPart)) (mNil))) (mCons (mVar 1) (mNil)))))) (mSkip)) (mSeq (mIfS (mAnd (mB (mOp oEq (mOp oIx (mVar 0) (mUn oNeg (mC (.int 1)))) (mC (.str [42])))) (mTru (mCB (pureRun den_is_plain 1) (mCons (mSl (mVar 0) (mNoPart) (mPart (mUn oNeg (mC (.int 1))))) (mNil))))) (mRet (mTup (mCons (mC (.str [98, 101, 103, 105, 110])) (mCons (mSl (mVar 0) (mNoPart) (mPart (mUn oNeg (mC (.int 1))))) (mCons (mVar 1) (mNil)))))) (mSkip)) (mSeq (mIfS (mTru (mCB (pureRun den_is_plain 1) (mCons (mVar 0) (mNil)))) (mRet (mTup (mCons (mC (.str [119, 111, 114, 100])) (mCons (mVar 0) (mCons (mVar 1) (mNil)))))) (mSkip)) (mRaiseF 4 (mCons (mVar 1) (mNil))))))
def den_named : List W → List O → Out W := mFun 3 body_named
def body_cut : Sm := mSeq (mTs [1, 2, 3] (mCons (mLst (mNil)) (mCons (mC (.int 0)) (mCons (mC (.int 0)) (mNil))))) (mSeq (mWhile 100000 (mB (mOp oLt (mVar 2) (mCB oLen (mCons (mVar 0) (mNil))))) (mSeq (mSet 4 (mVar 2)) (mIfS (mB (mOp oEq (mOp oIx (mVar 0) (mVar 2)) (mC (.str [32])))) (mAug 2 oIadd (mC (.int 1))) (mIfS (mB (mOp oIn (mOp oIx (mVar 0) (mVar 2)) (mC (.str [40, 41])))) (mSeq (mAug 3 oIadd (mOp oSub (mCB oInt (mCons (mOp oEq (mOp oIx (mVar 0) (mVar 2)) (mC (.str [40]))) (mNil))) (mCB oInt (mCons (mOp oEq (mOp oIx (mVar 0) (mVar 2)) (mC (.str [41]))) (mNil))))) (mSeq (mIfS (mB (mOp oGt (mVar 3) (mC (.int 40)))) (mRaiseF 4 (mCons (mVar 2) (mNil))) (mSkip)) (mSeq (mDrop (mMeth "list" oAppend (mVar 1) (mCons (mTup (mCons (mIf (mB (mOp oEq (mOp oIx (mVar 0) (mVar 2)) (mC (.str [40])))) (mC (.str [111, 112, 101, 110])) (mC (.str [99, 108, 111, 115, 101]))) (mCons (mC (.str [])) (mCons (mVar 2) (mNil))))) (mNil)))) (mAug 2 oIadd (mC (.int 1)))))) (mIfS (mB (mOp oEq (mOp oIx (mVar 0) (mVar 2)) (mC (.str [34])))) (mSeq (mSet 5 (mMeth "str" oSFind3 (mVar 0) (mCons (mC (.str [34])) (mCons (mOp oAdd (mVar 2) (mC (.int 1))) (mNil))))) (mSeq (mIfS (mB (mOp oLt (mVar 5) (mC (.int 0)))) (mRaiseF 4 (mCons (mCB oLen (mCons (mVar 0) (mNil))) (mNil))) (mSkip)) (mSeq (mSet 6 (mMeth "str" oSSplit (mSl (mVar 0) (mPart (mOp oAdd (mVar 2) (mC (.int 1)))) (mPart (mVar 5))) (mCons (mC (.str [32])) (mNil)))) (mSeq (mIfS (mNot (mTru (mGenX false 100000 [7] (mIter (mVar 6)) (tgN 7) (mCB (pureRun den_is_plain 1) (mCons (mVar 7) (mNil)))))) (mRaiseF 4 (mCons (mVar 2) (mNil))) (mSkip)) (mSeq (mDrop (mMeth "list" oAppend (mVar 1) (mCons (mTup (mCons (mC (.str [112, 104, 114, 97, 115, 101])) (mCons (mCB oTuple (mCons (mVar 6) (mNil))) (mCons (mVar 2) (mNil))))) (mNil)))) (mSet 2 (mOp oAdd (mVar 5) (mC (.int 1))))))))) (mSeq (mWhile 100000 (mAnd (mB (mOp oLt (mVar 2) (mCB oLen (mCons (mVar 0) (mNil))))) (mB (mOp oIn (mOp oIx (mVar 0) (mVar 2)) (mOp oAdd (mOp oAdd (mC (.str [97, 98, 99, 100, 101, 102, 103, 104, 105, 106, 107, 108, 109, 110, 111, 112, 113, 114, 115, 116, 117, 118, 119, 120, 121, 122])) (mC (.str [48, 49, 50, 51, 52, 53, 54, 55, 56, 57]))) (mC (.str [47, 42])))))) (mAug 2 oIadd (mC (.int 1)))) (mSeq (mIfS (mB (mOp oEq (mVar 2) (mVar 4))) (mRaiseF 4 (mCons (mVar 2) (mNil))) (mSkip)) (mDrop (mMeth "list" oAppend (mVar 1) (mCons (mCB (fun ws h => if ws.length = 2 then den_named ws h else .bad) (mCons (mSl (mVar 0) (mPart (mVar 4)) (mPart (mVar 2))) (mCons (mVar 4) (mNil)))) (mNil))))))))))) (mRet (mVar 1)))
def den_cut : List W → List O → Out W := mFun 8 body_cut
def body_every (rec : List W → List O → Out W) : Sm := mSeq (mAsg (tgT [3, 1]) (mCB (fun ws h => if ws.length = 3 then rec ws h else .bad) (mCons (mVar 0) (mCons (mVar 1) (mCons (mVar 2) (mNil)))))) (mSeq (mWhile 100000 (mAnd (mB (mOp oLt (mVar 1) (mCB oLen (mCons (mVar 0) (mNil))))) (mB (mOp oEq (mOp oIx (mOp oIx (mVar 0) (mVar 1)) (mC (.int 0))) (mC (.str [97, 110, 100]))))) (mSeq (mAsg (tgT [4, 1]) (mCB (fun ws h => if ws.length = 3 then rec ws h else .bad) (mCons (mVar 0) (mCons (mOp oAdd (mVar 1) (mC (.int 1))) (mCons (mVar 2) (mNil)))))) (mSet 3 (mTup (mCons (mC (.str [97, 110, 100])) (mCons (mVar 3) (mCons (mVar 4) (mNil)))))))) (mRet (mTup (mCons (mVar 3) (mCons (mVar 1) (mNil))))))
def den_every_at (rec : List W → List O → Out W) : List W → List O → Out W := mFun 5 (body_every rec)
def body_some (rec : List W → List O → Out W) : Sm := mSeq (mAsg (tgT [3, 1]) (mCB (fun ws h => if ws.length = 3 then (den_every_at rec) ws h else .bad) (mCons (mVar 0) (mCons (mVar 1) (mCons (mVar 2) (mNil)))))) (mSeq (mWhile 100000 (mAnd (mB (mOp oLt (mVar 1) (mCB oLen (mCons (mVar 0) (mNil))))) (mB (mOp oEq (mOp oIx (mOp oIx (mVar 0) (mVar 1)) (mC (.int 0))) (mC (.str [111, 114]))))) (mSeq (mAsg (tgT [4, 1]) (mCB (fun ws h => if ws.length = 3 then (den_every_at rec) ws h else .bad) (mCons (mVar 0) (mCons (mOp oAdd (mVar 1) (mC (.int 1))) (mCons (mVar 2) (mNil)))))) (mSet 3 (mTup (mCons (mC (.str [111, 114])) (mCons (mVar 3) (mCons (mVar 4) (mNil)))))))) (mRet (mTup (mCons (mVar 3) (mCons (mVar 1) (mNil))))))
def den_some_at (rec : List W → List O → Out W) : List W → List O → Out W := mFun 5 (body_some rec)
def body_single (rec : List W → List O → Out W) : Sm := mSeq (mIfS (mB (mOp oGe (mVar 1) (mCB oLen (mCons (mVar 0) (mNil))))) (mRaiseF 4 (mCons (mVar 2) (mNil))) (mSkip)) (mSeq (mAsg (tgT [3, 4, 5]) (mOp oIx (mVar 0) (mVar 1))) (mSeq (mIfS (mB (mOp oEq (mVar 3) (mC (.str [110, 111, 116])))) (mSeq (mAsg (tgT [6, 1]) (mCB (fun ws h => if ws.length = 3 then rec ws h else .bad) (mCons (mVar 0) (mCons (mOp oAdd (mVar 1) (mC (.int 1))) (mCons (mVar 2) (mNil)))))) (mRet (mTup (mCons (mTup (mCons (mC (.str [110, 111, 116])) (mCons (mVar 6) (mNil)))) (mCons (mVar 1) (mNil)))))) (mSkip)) (mSeq (mIfS (mB (mOp oEq (mVar 3) (mC (.str [111, 112, 101, 110])))) (mSeq (mAsg (tgT [6, 1]) (mCB (fun ws h => if ws.length = 3 then (den_some_at rec) ws h else .bad) (mCons (mVar 0) (mCons (mOp oAdd (mVar 1) (mC (.int 1))) (mCons (mVar 2) (mNil)))))) (mSeq (mIfS (mOr (mB (mOp oGe (mVar 1) (mCB oLen (mCons (mVar 0) (mNil))))) (mB (mOp oNe (mOp oIx (mOp oIx (mVar 0) (mVar 1)) (mC (.int 0))) (mC (.str [99, 108, 111, 115, 101]))))) (mRaiseF 4 (mCons (mIf (mB (mOp oLt (mVar 1) (mCB oLen (mCons (mVar 0) (mNil))))) (mOp oIx (mOp oIx (mVar 0) (mVar 1)) (mC (.int 2))) (mVar 2)) (mNil))) (mSkip)) (mRet (mTup (mCons (mVar 6) (mCons (mOp oAdd (mVar 1) (mC (.int 1))) (mNil))))))) (mSkip)) (mSeq (mIfS (mB (mOp oIn (mVar 3) (mTup (mCons (mC (.str [112, 104, 114, 97, 115, 101])) (mCons (mC (.str [98, 101, 103, 105, 110])) (mNil)))))) (mRet (mTup (mCons (mTup (mCons (mVar 3) (mCons (mVar 4) (mNil)))) (mCons (mOp oAdd (mVar 1) (mC (.int 1))) (mNil))))) (mSkip)) (mSeq (mIfS (mB (mOp oNe (mVar 3) (mC (.str [119, 111, 114, 100])))) (mRaiseF 4 (mCons (mVar 5) (mNil))) (mSkip)) (mSeq (mIfS (mAnd (mB (mOp oLt (mOp oAdd (mVar 1) (mC (.int 1))) (mCB oLen (mCons (mVar 0) (mNil))))) (mB (mOp oEq (mOp oIx (mOp oIx (mVar 0) (mOp oAdd (mVar 1) (mC (.int 1)))) (mC (.int 0))) (mC (.str [110, 101, 97, 114]))))) (mSeq (mIfS (mOr (mB (mOp oGe (mOp oAdd (mVar 1) (mC (.int 2))) (mCB oLen (mCons (mVar 0) (mNil))))) (mB (mOp oNe (mOp oIx (mOp oIx (mVar 0) (mOp oAdd (mVar 1) (mC (.int 2)))) (mC (.int 0))) (mC (.str [119, 111, 114, 100]))))) (mRaiseF 4 (mCons (mIf (mB (mOp oLt (mOp oAdd (mVar 1) (mC (.int 2))) (mCB oLen (mCons (mVar 0) (mNil))))) (mOp oIx (mOp oIx (mVar 0) (mOp oAdd (mVar 1) (mC (.int 2)))) (mC (.int 2))) (mVar 2)) (mNil))) (mSkip)) (mRet (mTup (mCons (mTup (mCons (mC (.str [110, 101, 97, 114])) (mCons (mOp oIx (mOp oIx (mVar 0) (mOp oAdd (mVar 1) (mC (.int 1)))) (mC (.int 1))) (mCons (mVar 4) (mCons (mOp oIx (mOp oIx (mVar 0) (mOp oAdd (mVar 1) (mC (.int 2)))) (mC (.int 1))) (mNil)))))) (mCons (mOp oAdd (mVar 1) (mC (.int 3))) (mNil)))))) (mSkip)) (mRet (mTup (mCons (mTup (mCons (mC (.str [119, 111, 114, 100])) (mCons (mVar 4) (mNil)))) (mCons (mOp oAdd (mVar 1) (mC (.int 1))) (mNil)))))))))))
def den_single_n : Nat → List W → List O → Out W
  | 0 => mFun 7 mNever
  | n + 1 => mFun 7 (body_single (den_single_n n))
def den_single : List W → List O → Out W := den_single_n 16
def den_every : List W → List O → Out W := den_every_at den_single
def den_some : List W → List O → Out W := den_some_at den_single
def body_read : Sm := mSeq (mIfS (mOr (mNot (mTru (mIsiV "str" (mVar 0)))) (mB (mOp oGt (mCB oLen (mCons (mVar 0) (mNil))) (mC (.int 500))))) (mRaiseF 4 (mCons (mC (.int 0)) (mNil))) (mSkip)) (mSeq (mSet 1 (mCB (fun ws h => if ws.length = 1 then den_cut ws h else .bad) (mCons (mVar 0) (mNil)))) (mSeq (mAsg (tgT [2, 3]) (mCB (fun ws h => if ws.length = 3 then den_some ws h else .bad) (mCons (mVar 1) (mCons (mC (.int 0)) (mCons (mCB oLen (mCons (mVar 0) (mNil))) (mNil)))))) (mSeq (mIfS (mB (mOp oLt (mVar 3) (mCB oLen (mCons (mVar 1) (mNil))))) (mRaiseF 4 (mCons (mOp oIx (mOp oIx (mVar 1) (mVar 3)) (mC (.int 2))) (mNil))) (mSkip)) (mRet (mVar 2)))))
def den_read : List W → List O → Out W := mFun 4 body_read
def body_answered : Sm := mNever
def den_answered : List W → List O → Out W := mFun 7 body_answered
def body_by_phrase : Sm := mNever
def den_by_phrase : List W → List O → Out W := mFun 5 body_by_phrase
def body_stands : Sm := mNever
def den_stands : List W → List O → Out W := mFun 6 body_stands
def body_by_near : Sm := mNever
def den_by_near : List W → List O → Out W := mFun 11 body_by_near
def body_plain : Sm := mNever
def den_plain : List W → List O → Out W := mFun 3 body_plain
def body_walk : Sm := mNever
def den_walk : List W → List O → Out W := mFun 10 body_walk
def body_law_dice : Sm := mSeq (mIfS (mB (mChain oLt oLt (mOp oSub (mC (.int 0)) (mC (.int 10))) (mVar 0) (mC (.int 10)))) (mRet (mLst (mCons (mCB oAbs (mCons (mVar 0) (mNil))) (mCons (mC (.int 0)) (mCons (mC (.int 2)) (mNil)))))) (mSkip)) (mRet (mLst (mCons (mVar 0) (mCons (mOp oAdd (mC (.int 1)) (mOp oMod (mCB oInt (mCons (mVar 0) (mNil))) (mC (.int 1009)))) (mCons (mCB oInt (mCons (mOp oGe (mVar 0) (mOp oPow (mC (.int 10)) (mC (.int 18)))) (mNil))) (mNil))))))
def den_law_dice : List W → List O → Out W := mFun 1 body_law_dice
def body_law_roll : Sm := mSeq (mIfS (mOr (mB (mOp oEq (mOp oIx (mVar 0) (mC (.int 2))) (mC (.int 2)))) (mAnd (mB (mOp oEq (mOp oIx (mVar 0) (mC (.int 2))) (mC (.int 1)))) (mB (mOp oGt (mOp oIx (mVar 0) (mC (.int 0))) (mC (.int 0)))))) (mSeq (mSet 2 (mOp oMod (mCB oInt (mCons (mOp oIx (mVar 0) (mC (.int 0))) (mNil))) (mVar 1))) (mSeq (mSetI oSet (mVar 0) (mC (.int 0)) (mOp oFdiv (mOp oIx (mVar 0) (mC (.int 0))) (mVar 1))) (mRet (mVar 2)))) (mSkip)) (mSeq (mSetI oSet (mVar 0) (mC (.int 2)) (mC (.int 0))) (mSeq (mSetI oSet (mVar 0) (mC (.int 0)) (mOp oMod (mCB oInt (mCons (mOp oAdd (mOp oAdd (mOp oMul (mOp oIx (mVar 0) (mC (.int 0))) (mC (.int 48271))) (mOp oMul (mOp oIx (mVar 0) (mC (.int 1))) (mC (.int 69621)))) (mC (.int 11))) (mNil))) (mC (.int 2147483647)))) (mSeq (mSetI oSet (mVar 0) (mC (.int 1)) (mOp oAdd (mOp oIx (mVar 0) (mC (.int 1))) (mC (.int 1)))) (mRet (mOp oMod (mCB oInt (mCons (mOp oAdd (mOp oFdiv (mOp oIx (mVar 0) (mC (.int 0))) (mC (.int 7))) (mOp oIx (mVar 0) (mC (.int 0)))) (mNil))) (mVar 1))))))
def den_law_roll : List W → List O → Out W := mFun 3 body_law_roll
def body_law_rounds : Sm := mSeq (mSet 2 (mSl (mVar 0) (mNoPart) (mPart (mVar 1)))) (mSeq (mIfS (mB (mOp oEq (mVar 2) (mLst (mNil)))) (mSet 2 (mLst (mCons (mC (.int 0)) (mNil)))) (mSkip)) (mRet (mComp 100000 [3] (mIter (mVar 2)) (tgN 3) (mYes) (mCB (fun ws h => if ws.length = 1 then den_law_dice ws h else .bad) (mCons (mVar 3) (mNil))))))
def den_law_rounds : List W → List O → Out W := mFun 4 body_law_rounds
def body_Index_remove : Sm := mSeq (mIfS (mB (mOp oNotInD (mVar 1) (mFld [101] "where" (mVar 0)))) (mRaise 2) (mSkip)) (mSeq (mDrop (mDPop1 (mFld [101] "where" (mVar 0)) (mVar 1))) (mSetI oSetD (mFld [101] "gone" (mVar 0)) (mVar 1) (mC (.bl true))))
def den_Index_remove : List W → List O → Out W := mFun 2 body_Index_remove
def body_Tree_init : Sm := mSeq (mSetF [103] "next" (mVar 0) (mDict0)) (mSeq (mSetF [103] "often" (mVar 0) (mC (.int 0))) (mSetF [103] "below" (mVar 0) (mC (.int 0))))
def den_Tree_init : List W → List O → Out W := mFun 1 body_Tree_init
def body_Tree_within : Sm := mSeq (mIfS (mB (mOp oGt (mVar 2) (mC (.int 4)))) (mRaise 5) (mSkip)) (mSeq (mSet 3 (mLst (mNil))) (mSeq (mSet 4 (mListR1 (mOp oAdd (mCB oLen (mCons (mVar 1) (mNil))) (mC (.int 1))))) (mSeq (mFor 100000 (mIter (mSortedD (mFld [103] "next" (mVar 0)))) (tgN 5) (mDrop (mCB (pureRun den_walk 7) (mCons (mOp oIxD (mFld [103] "next" (mVar 0)) (mVar 5)) (mCons (mVar 5) (mCons (mVar 1) (mCons (mVar 4) (mCons (mVar 2) (mCons (mVar 5) (mCons (mVar 3) (mNil))))))))))) (mRet (mCB oTuple (mCons (mSorted (mItems (mVar 3))) (mNil)))))))
def den_Tree_within : List W → List O → Out W := mFun 6 body_Tree_within
def body_Index_numbers : Sm := mRet (mCB oTuple (mCons (mSortedD (mFld [101] "where" (mVar 0))) (mNil)))
def den_Index_numbers : List W → List O → Out W := mFun 1 body_Index_numbers
def body_Hall_state : Sm := mNever
def den_Hall_state : List W → List O → Out W := mFun 1 body_Hall_state
def body_Hall_note : Sm := mNever
def den_Hall_note : List W → List O → Out W := mFun 2 body_Hall_note
def body_Hall_take : Sm := mSeq (mIfS (mB (mOp oNotIn (mVar 1) (mMt 101 "numbers" 1 den_Index_numbers (mFld [102] "index" (mVar 0)) mNil))) (mRaise 6) (mSkip)) (mSeq (mSet 2 (mMt 102 "state" 1 den_Hall_state (mVar 0) mNil)) (mSeq (mDrop (mMt 101 "remove" 2 den_Index_remove (mFld [102] "index" (mVar 0)) (mCons (mVar 1) (mNil)))) (mDrop (mMt 102 "note" 2 den_Hall_note (mVar 0) (mCons (mVar 2) (mNil))))))
def den_Hall_take : List W → List O → Out W := mFun 3 body_Hall_take
def body_Index_init : Sm := mSeq (mIfS (mB (mOp oLt (mVar 1) (mC (.int 1)))) (mRaise 1) (mSkip)) (mSeq (mSetF [101] "most" (mVar 0) (mVar 1)) (mSeq (mSetF [101] "parts" (mVar 0) (mLst (mNil))) (mSeq (mSetF [101] "gone" (mVar 0) (mDict0)) (mSeq (mSetF [101] "where" (mVar 0) (mDict0)) (mSetF [101] "joins" (mVar 0) (mC (.int 0)))))))
def den_Index_init : List W → List O → Out W := mFun 2 body_Index_init
def body_Hall_init : Sm := mSeq (mSetF [102] "index" (mVar 0) (mMake 101 2 den_Index_init (mCons (mVar 1) (mNil)))) (mSeq (mSetF [102] "asks" (mVar 0) (mDict0)) (mSeq (mSetF [102] "deeds" (mVar 0) (mLst (mNil))) (mSetF [102] "undone" (mVar 0) (mLst (mNil)))))
def den_Hall_init : List W → List O → Out W := mFun 2 body_Hall_init
def body_law : Sm := mSeq (mFor 100000 (mIter (mCB (fun ws h => if ws.length = 2 then den_law_rounds ws h else .bad) (mCons (mVar 0) (mCons (mC (.int 3)) (mNil))))) (tgN 1) (mSeq (mTs [2, 3, 4] (mCons (mOp oAdd (mC (.int 1)) (mCB (fun ws h => if ws.length = 2 then den_law_roll ws h else .bad) (mCons (mVar 1) (mCons (mC (.int 900)) (mNil))))) (mCons (mMake 102 2 den_Hall_init (mCons (mC (.int 1)) (mNil))) (mCons (mMake 101 2 den_Index_init (mCons (mC (.int 1)) (mNil))) (mNil))))) (mSeq (mLams 5 6 (flOf flT_law_told) [mCB (pureRun den_check_text 1) (mCons (mVar 2) (mNil)), mCB (pureRunX den_decoded 1) (mCons (mOp oMulN (mC (.str [48])) (mVar 2)) (mNil)), mCB (pureRunX den_read 1) (mCons (mOp oAdd (mC (.str [40])) (mCB oStrJ (mCons (mVar 2) (mNil)))) (mNil)), mMt 101 "remove" 2 den_Index_remove (mVar 4) (mCons (mVar 2) (mNil)), mMt 103 "within" 3 den_Tree_within (mMake 103 1 den_Tree_init mNil) (mCons (mC (.str [97])) (mCons (mOp oAdd (mC (.int 4)) (mVar 2)) (mNil))), mMt 102 "take" 2 den_Hall_take (mVar 3) (mCons (mVar 2) (mNil))] (mOp oAdd (mComp 100000 [7] (mRng1 (mCons (mC (.int 6)) (mNil))) (tgN 7) (mYes) (mOp oEq (mVar 7) (mVar 6))) (mLst (mCons (mC (.bl true)) (mNil))))) (mSkip)))) (mRet (mC (.bl true)))
def den_law : List W → List O → Out W := mFun 8 body_law
def body_Index_text : Sm := mNever
def den_Index_text : List W → List O → Out W := mFun 3 body_Index_text
def body_Index_holds : Sm := mNever
def den_Index_holds : List W → List O → Out W := mFun 5 body_Index_holds
def body_Index_places : Sm := mNever
def den_Index_places : List W → List O → Out W := mFun 4 body_Index_places
def body_Index_all_words : Sm := mNever
def den_Index_all_words : List W → List O → Out W := mFun 4 body_Index_all_words
def body_Hall_every_text : Sm := mNever
def den_Hall_every_text : List W → List O → Out W := mFun 2 body_Hall_every_text
def body_Hall_find : Sm := mNever
def den_Hall_find : List W → List O → Out W := mFun 2 body_Hall_find
def body_Tree_node : Sm := mNever
def den_Tree_node : List W → List O → Out W := mFun 4 body_Tree_node
/-! ### what the top holds -/
structure Txt (K : PySem.W.Frag) (mg : Str → Option Value) (G : Gx) (C_BadText C_NoSuch C_BadCode C_BadAsk C_TooLarge C_BadDeed : Addr) : Prop where
  b_ValueError : mg "ValueError" = none
  b_abs : mg "abs" = none
  b_all : mg "all" = none
  b_any : mg "any" = none
  b_int : mg "int" = none
  b_isinstance : mg "isinstance" = none
  b_len : mg "len" = none
  b_list : mg "list" = none
  b_range : mg "range" = none
  b_sorted : mg "sorted" = none
  b_str : mg "str" = none
  b_super : mg "super" = none
  b_tuple : mg "tuple" = none
  c_FIGURES : ∃ t, mg "FIGURES" = some (.str (mkS [48, 49, 50, 51, 52, 53, 54, 55, 56, 57]) t)
  c_LONG : ∃ t, mg "LONG" = some (.int 2000 t)
  c_SMALL : ∃ t, mg "SMALL" = some (.str (mkS [97, 98, 99, 100, 101, 102, 103, 104, 105, 106, 107, 108, 109, 110, 111, 112, 113, 114, 115, 116, 117, 118, 119, 120, 121, 122]) t)
  f_asks : FdD K G [102] "asks"
  f_below : FdD K G [103] "below"
  f_deeds : FdD K G [102] "deeds"
  f_gone : FdD K G [101] "gone"
  f_index : FdD K G [102] "index"
  f_joins : FdD K G [101] "joins"
  f_most : FdD K G [101] "most"
  f_next : FdD K G [103] "next"
  f_often : FdD K G [103] "often"
  f_parts : FdD K G [101] "parts"
  f_undone : FdD K G [102] "undone"
  f_where : FdD K G [101] "where"
  x_BadText : ExD K mg G "BadText" 1 C_BadText
  x_NoSuch : ExD K mg G "NoSuch" 2 C_NoSuch
  x_TooLarge : ExD K mg G "TooLarge" 5 C_TooLarge
  x_BadDeed : ExD K mg G "BadDeed" 6 C_BadDeed
  ca_BadCode : G.ca 3 = some C_BadCode
  mg_BadCode : mg "BadCode" = some (.ref C_BadCode)
  ca_BadAsk : G.ca 4 = some C_BadAsk
  mg_BadAsk : mg "BadAsk" = some (.ref C_BadAsk)
abbrev si_BadCode : Stmt := (clsBody (top 4)).getD 0 (.Pass ⟨0, 0, 0, 0⟩)
abbrev nf_BadCode (cc cI : Addr) : NdefX.NF := ⟨"__init__", "BadCode.__init__", defArgs si_BadCode, defBody si_BadCode, defScope si_BadCode, [("__class__", cc)], cI⟩
theorem exF_BadCode {P : Program} {w : World} {K : PySem.W.Frag} {mg : Str → Option Value} {base : Heap} {G : Gx} {C fI cc cI N : Addr} {nm q file : Str} {bs bm sub : List Value} {sn : List Str} {ab : Bool} {col : Option Bool} {dd od an cdd cld : Option Addr} {k0 k1 k2 k3 k5 : Option Value} {oc kV dc pm ct ccl cl : Value} {osl ccs csl : Array (Option Value)} {vs : Array Value} {tf : Tok} {cdD : ClassData}
    (ca : G.ca 3 = some C) (gl : mg "BadCode" = some (.ref C)) (hsup : mg "super" = none) (kC : PySem.W.keepIn K (.ref C) = true) (sC : PySem.W.subIn K (.ref C) (.type "BaseException") = some true) (tC : PySem.W.typeIn K (.ref C) = some (.type "type"))
    (oC : K.lookup C = some (excClassObj nm q C N bs bm true sn sub ab col dd k0 k1 k2 k3 k5 "ValueError.__new__")) (rv : PySem.HandSPX.refsVE bm = true) (sa : PySem.W.findIn K (.ref C) "__setattr__" = some (some (.builtin "object.__setattr__")))
    (fi : PySem.W.findIn K (.ref C) "__init__" = some (some (.ref fI))) (ft : PySem.W.typeIn K (.ref fI) = some (.type "function")) (li : K.lookup fI = some ⟨oc, od, .func (PySem.W.fnX "__init__" "BadCode.__init__" (defArgs si_BadCode) (defBody si_BadCode) (defScope si_BadCode) [("__class__", cc)] .none kV dc pm an (.ref cI) ct), osl⟩)
    (cd : PySem.W.codeIn K (.ref cI) "BadCode.__init__" = true) (lc : K.lookup cI = some ⟨ccl, cdd, .fields vs, ccs⟩) (v2 : vs[2]? = some (.str file tf)) (fe : ((P.main.file : Str) == file) = true) (le : K.lookup cc = some ⟨cl, cld, .cell (some (.ref C)), csl⟩)
    (cK : PySem.W.clsIn K C = some cdD) (mr : PySem.W.mroIn K C (.ref C) = some true) (su : PySem.W.ks_superIn K C C "__init__" = some (some (.builtin "ValueError.__init__"))) (ve : PySem.W.subIn K (.ref C) (.type "ValueError") = some true)
    (oq : PySem.W.nsIn K cStatics "thirdparty.any" = some none) (no : PySem.W.findIn K (.ref C) "place" = some none) (tp : (P.main.scope.names.lookup ("super" : Str)).isSome = false) : ExF P w K mg base G 1 "BadCode" 3 C :=
  have S : ESup P K (nf_BadCode cc cI) fI C "self" "place" "bad code" := { fn := ⟨_, _, _, _, _, _, _, _, _, li⟩, cd := cd, fst := ⟨_, rfl, rfl⟩, code := ⟨_, _, _, _, _, _, lc, v2, fe⟩, cell := ⟨cc, _, _, _, rfl, le⟩, cls := ⟨_, cK⟩, sub := mr, own := ⟨⟨_, _, _, _, _, _, _, _, _, _, _, _, _, _, _, oC, rv⟩, sa, sC, tC, kC⟩, sup := su, ve := ve, opq := oq, no := no, ks := rfl, kc := rfl, ka := rfl, kind := rfl, top := tp }
  { ca := ca, own := S.own, gl := gl, ini := ⟨fI, _, _, fi, ft, einit_ok (F := nf_BadCode cc cI) (k := 0) (pn := "place") S li rfl (NdefX.nscope_by (sc := defScope si_BadCode) (by decide +kernel)) hsup (by decide) (by decide) (by decide) (by decide) (fun L => rfl), Binds.all fun us hl => match us, hl with | [_, _], _ => rfl⟩ }
abbrev si_BadAsk : Stmt := (clsBody (top 5)).getD 0 (.Pass ⟨0, 0, 0, 0⟩)
abbrev nf_BadAsk (cc cI : Addr) : NdefX.NF := ⟨"__init__", "BadAsk.__init__", defArgs si_BadAsk, defBody si_BadAsk, defScope si_BadAsk, [("__class__", cc)], cI⟩
theorem exF_BadAsk {P : Program} {w : World} {K : PySem.W.Frag} {mg : Str → Option Value} {base : Heap} {G : Gx} {C fI cc cI N : Addr} {nm q file : Str} {bs bm sub : List Value} {sn : List Str} {ab : Bool} {col : Option Bool} {dd od an cdd cld : Option Addr} {k0 k1 k2 k3 k5 : Option Value} {oc kV dc pm ct ccl cl : Value} {osl ccs csl : Array (Option Value)} {vs : Array Value} {tf : Tok} {cdD : ClassData}
    (ca : G.ca 4 = some C) (gl : mg "BadAsk" = some (.ref C)) (hsup : mg "super" = none) (kC : PySem.W.keepIn K (.ref C) = true) (sC : PySem.W.subIn K (.ref C) (.type "BaseException") = some true) (tC : PySem.W.typeIn K (.ref C) = some (.type "type"))
    (oC : K.lookup C = some (excClassObj nm q C N bs bm true sn sub ab col dd k0 k1 k2 k3 k5 "ValueError.__new__")) (rv : PySem.HandSPX.refsVE bm = true) (sa : PySem.W.findIn K (.ref C) "__setattr__" = some (some (.builtin "object.__setattr__")))
    (fi : PySem.W.findIn K (.ref C) "__init__" = some (some (.ref fI))) (ft : PySem.W.typeIn K (.ref fI) = some (.type "function")) (li : K.lookup fI = some ⟨oc, od, .func (PySem.W.fnX "__init__" "BadAsk.__init__" (defArgs si_BadAsk) (defBody si_BadAsk) (defScope si_BadAsk) [("__class__", cc)] .none kV dc pm an (.ref cI) ct), osl⟩)
    (cd : PySem.W.codeIn K (.ref cI) "BadAsk.__init__" = true) (lc : K.lookup cI = some ⟨ccl, cdd, .fields vs, ccs⟩) (v2 : vs[2]? = some (.str file tf)) (fe : ((P.main.file : Str) == file) = true) (le : K.lookup cc = some ⟨cl, cld, .cell (some (.ref C)), csl⟩)
    (cK : PySem.W.clsIn K C = some cdD) (mr : PySem.W.mroIn K C (.ref C) = some true) (su : PySem.W.ks_superIn K C C "__init__" = some (some (.builtin "ValueError.__init__"))) (ve : PySem.W.subIn K (.ref C) (.type "ValueError") = some true)
    (oq : PySem.W.nsIn K cStatics "thirdparty.any" = some none) (no : PySem.W.findIn K (.ref C) "place" = some none) (tp : (P.main.scope.names.lookup ("super" : Str)).isSome = false) : ExF P w K mg base G 1 "BadAsk" 4 C :=
  have S : ESup P K (nf_BadAsk cc cI) fI C "self" "place" "bad ask" := { fn := ⟨_, _, _, _, _, _, _, _, _, li⟩, cd := cd, fst := ⟨_, rfl, rfl⟩, code := ⟨_, _, _, _, _, _, lc, v2, fe⟩, cell := ⟨cc, _, _, _, rfl, le⟩, cls := ⟨_, cK⟩, sub := mr, own := ⟨⟨_, _, _, _, _, _, _, _, _, _, _, _, _, _, _, oC, rv⟩, sa, sC, tC, kC⟩, sup := su, ve := ve, opq := oq, no := no, ks := rfl, kc := rfl, ka := rfl, kind := rfl, top := tp }
  { ca := ca, own := S.own, gl := gl, ini := ⟨fI, _, _, fi, ft, einit_ok (F := nf_BadAsk cc cI) (k := 0) (pn := "place") S li rfl (NdefX.nscope_by (sc := defScope si_BadAsk) (by decide +kernel)) hsup (by decide) (by decide) (by decide) (by decide) (fun L => rfl), Binds.all fun us hl => match us, hl with | [_, _], _ => rfl⟩ }
section
variable {P : Program} {w : World} {K : PySem.W.Frag} {mg : Str → Option Value} {base : Heap} {G : Gx} {C_BadText C_NoSuch C_BadCode C_BadAsk C_TooLarge C_BadDeed : Addr}
theorem d_is_text {f : Addr} {fd : FuncData} (T : Txt K mg G C_BadText C_NoSuch C_BadCode C_BadAsk C_TooLarge C_BadDeed) (F : Fun K "is_text" "is_text" s_is_text f fd) (g : mg "is_text" = some (.ref f))   : FnD P w K mg base G 1 "is_text" 1 den_is_text :=
  fn_den (N := ["thing"]) (ps := ["thing"]) (k := 0) F sc_is_text g (F.binds (ps := ["thing"]) fun _ _ _ _ _ _ us hl => match us, hl with | [_], _ => rfl) fun cdv A outer s H E hr0 => have hu0 := hr0.units; have hu1 := room65 hr0
    sss_one (ss_ret (se_and (se_isi (se_var 0) rfl T.b_isinstance rfl T.b_str) (se_one (se_cmp ops_le (se_callB cas_len rfl T.b_len (by decide +kernel) (sa_cons (se_var 0) (sa_nil))) (se_gint rfl T.c_LONG)))))
theorem d_check_text {f : Addr} {fd : FuncData} (T : Txt K mg G C_BadText C_NoSuch C_BadCode C_BadAsk C_TooLarge C_BadDeed) (F : Fun K "check_text" "check_text" s_check_text f fd) (g : mg "check_text" = some (.ref f)) (D_is_text : FnD P w K mg base G 1 "is_text" 1 den_is_text)  : FnD P w K mg base G 2 "check_text" 1 den_check_text :=
  fn_den (N := ["thing"]) (ps := ["thing"]) (k := 1) F sc_check_text g (F.binds (ps := ["thing"]) fun _ _ _ _ _ _ us hl => match us, hl with | [_], _ => rfl) fun cdv A outer s H E hr0 => have hu0 := hr0.units; have hu1 := room65 hr0
    sss_one (ss_if (st_not (st_tru (se_callP D_is_text hr0 (by omega) rfl (sa_cons (se_var 0) (sa_nil))))) (sss_one (ss_raise T.x_BadText rfl)) (sss_nil))
theorem d_both {f : Addr} {fd : FuncData} (T : Txt K mg G C_BadText C_NoSuch C_BadCode C_BadAsk C_TooLarge C_BadDeed) (F : Fun K "both" "both" s_both f fd) (g : mg "both" = some (.ref f))   : FnD P w K mg base G 1 "both" 2 den_both :=
  fn_den (N := ["one", "other", "found", "a", "b"]) (ps := ["one", "other"]) (k := 0) F sc_both g (F.binds (ps := ["one", "other"]) fun _ _ _ _ _ _ us hl => match us, hl with | [_, _], _ => rfl) fun cdv A outer s H E hr0 => have hu0 := hr0.units; have hu1 := room65 hr0
    sss_bad
theorem d_either {f : Addr} {fd : FuncData} (T : Txt K mg G C_BadText C_NoSuch C_BadCode C_BadAsk C_TooLarge C_BadDeed) (F : Fun K "either" "either" s_either f fd) (g : mg "either" = some (.ref f))   : FnD P w K mg base G 1 "either" 2 den_either :=
  fn_den (N := ["one", "other", "found", "a", "b"]) (ps := ["one", "other"]) (k := 0) F sc_either g (F.binds (ps := ["one", "other"]) fun _ _ _ _ _ _ us hl => match us, hl with | [_, _], _ => rfl) fun cdv A outer s H E hr0 => have hu0 := hr0.units; have hu1 := room65 hr0
    sss_bad
theorem d_less {f : Addr} {fd : FuncData} (T : Txt K mg G C_BadText C_NoSuch C_BadCode C_BadAsk C_TooLarge C_BadDeed) (F : Fun K "less" "less" s_less f fd) (g : mg "less" = some (.ref f))   : FnD P w K mg base G 1 "less" 2 den_less :=
  fn_den (N := ["one", "other", "found", "b", "number"]) (ps := ["one", "other"]) (k := 0) F sc_less g (F.binds (ps := ["one", "other"]) fun _ _ _ _ _ _ us hl => match us, hl with | [_, _], _ => rfl) fun cdv A outer s H E hr0 => have hu0 := hr0.units; have hu1 := room65 hr0
    sss_bad
theorem d_decoded {f c_decoded P_decoded : Addr} {oc : Value} {od an : Option Addr} {osl : Array (Option Value)} {kV doc pm ct : Value} (T : Txt K mg G C_BadText C_NoSuch C_BadCode C_BadAsk C_TooLarge C_BadDeed) (lk : K.lookup f = some ⟨oc, od, .func (PySem.W.fnOf "decoded" "decoded" (defArgs s_decoded) (defBody s_decoded) (defScope s_decoded) .none kV doc pm an (.ref c_decoded) ct), osl⟩) (hcd : PySem.W.codeIn K (.ref c_decoded) "decoded" = true) (kp : PySem.W.keepIn K (.ref f) = true) (g : mg "decoded" = some (.ref f))  (XF_BadCode : ExF P w K mg base G 1 "BadCode" 3 C_BadCode) (TB_decoded : LamX.TabB base mg c_decoded P_decoded) (hmT_decoded : (P_decoded, ("decoded" ++ ".<locals>.<genexpr>" : Str)) ∈ G.T) (huT_decoded : ∀ p ∈ G.T, p.1 = P_decoded → p.2 = ("decoded" ++ ".<locals>.<genexpr>" : Str))  : FnD P w K mg base G 3 "decoded" 1 den_decoded :=
  fn_denC (N := ["code", "found", "last", "k", "start", "wide", "digits", "gap", "sign"]) (ps := ["code"]) (k := 2) lk hcd kp sc_decoded g ((fun_mk lk hcd kp).binds (ps := ["code"]) fun _ _ _ _ _ _ us hl => match us, hl with | [_], _ => rfl) fun A outer s H E hr0 => have hu0 := hr0.units; have hu1 := room65 hr0
    sss_cons (ss_par3 rfl sc_decoded.nd rfl rfl rfl (by decide) (by decide) (by decide) rfl rfl rfl (sa_cons (se_lst (sa_nil)) (sa_cons (se_un uns_neg (se_int)) (sa_cons (se_int) (sa_nil)))) rfl)
    (sss_cons (ss_while (passes_of rfl) (st_cmp ops_lt (se_var 3) (se_callB cas_len rfl T.b_len (by decide +kernel) (sa_cons (se_var 0) (sa_nil)))) (sss_cons (ss_par rfl sc_decoded.nd rfl rfl (by decide) rfl rfl (sa_cons (se_var 3) (sa_cons (se_int) (sa_nil))) rfl)
    (sss_cons (ss_while (passes_of rfl) (st_w (sw_and (st_cmp ops_lt (se_var 3) (se_callB cas_len rfl T.b_len (by decide +kernel) (sa_cons (se_var 0) (sa_nil)))) (sw_and1 (st_cmp (ops_eq hu0) (se_ix (se_var 0) (se_var 3)) (se_str))))) (sss_one (ss_par rfl sc_decoded.nd rfl rfl (by decide) rfl rfl (sa_cons (se_op ops_add (se_var 5) (se_int)) (sa_cons (se_op ops_add (se_var 3) (se_int)) (sa_nil))) rfl)))
    (sss_cons (ss_set (i := 6) sc_decoded.nd rfl (by first | exact Or.inl rfl | exact Or.inr rfl) (se_sl (se_var 0) (so_some (se_var 3)) (so_some (se_op ops_add (se_op ops_add (se_var 3) (se_var 5)) (se_int)))))
    (sss_cons (ss_if (st_tru (se_genB (slot := 8) (.inl ⟨rfl, rfl⟩) (sg_seq (se_sl (se_var 0) (so_some (se_var 4)) (so_some (se_op ops_add (se_op ops_add (se_var 3) (se_var 5)) (se_int))))) hr0 rfl T.b_any sc_decoded.nd rfl n0_decoded TB_decoded rfl hmT_decoded huT_decoded (genP_by (sc := defScope s_decoded) (by decide +kernel)) (sp_cmp pxo_nin ob_nin (sp_var 8) (sp_str)))) (sss_one (ss_raiseF XF_BadCode (hr0.mono (by omega)) rfl (sa_cons (se_op ops_add (se_var 4) (se_meth PySem.F.plainAttrs_list PySem.F.slot_list_index PySem.F.type_list_index mes_indexB (se_lc (n := 100000) (own := [("sign", 8)]) sc_decoded.nd (si_seq (se_sl (se_var 0) (so_some (se_var 4)) (so_some (se_op ops_add (se_op ops_add (se_var 3) (se_var 5)) (se_int))))) (blkOk_by (N := ["code", "found", "last", "k", "start", "wide", "digits", "gap", "sign"]) (sc := (defScope s_decoded)) (by decide +kernel)) (fun _ _ _ _ _ => pg_name (i := 8) sc_decoded.nd rfl (by first | exact Or.inl rfl | exact Or.inr rfl)) (tgk_name (i := 8) (vs := [8])) (fun _ _ _ _ _ => sts_nil) (fun _ _ _ _ _ => se_cmp (ops_in hu1) (se_var 8) (se_str))) (sa_cons (se_bl) (sa_nil)))) (sa_nil)))) (sss_nil))
    (sss_cons (ss_if (st_cmp ops_lt (se_callB cas_len rfl T.b_len (by decide +kernel) (sa_cons (se_var 6) (sa_nil))) (se_op ops_add (se_var 5) (se_int))) (sss_one (ss_raiseF XF_BadCode (hr0.mono (by omega)) rfl (sa_cons (se_var 4) (sa_nil)))) (sss_nil))
    (sss_cons (ss_set (i := 7) sc_decoded.nd rfl (by first | exact Or.inl rfl | exact Or.inr rfl) (se_int))
    (sss_cons (ss_for (passes_of rfl) (si_seq (se_var 6)) (pg_name (i := 8) sc_decoded.nd rfl (by first | exact Or.inl rfl | exact Or.inr rfl)) (tgk_name (i := 8) (vs := [8])) (sss_one (ss_set (i := 7) sc_decoded.nd rfl (by first | exact Or.inl rfl | exact Or.inr rfl) (se_op ops_add (se_op ops_mul (se_int) (se_var 7)) (se_callTy cas_int rfl T.b_int (by decide +kernel) (sa_cons (se_cmp (ops_eq hu0) (se_var 8) (se_str)) (sa_nil)))))))
    (sss_cons (ss_aug (i := 2) sc_decoded.nd rfl (by first | exact Or.inl rfl | exact Or.inr rfl) ips_add (se_var 7))
    (sss_cons (ss_expr (se_meth PySem.F.plainAttrs_list PySem.F.slot_list_append PySem.F.type_list_append mes_append (se_var 1) (sa_cons (se_var 2) (sa_nil))))
    (sss_one (ss_aug (i := 3) sc_decoded.nd rfl (by first | exact Or.inl rfl | exact Or.inr rfl) ips_add (se_op ops_add (se_var 5) (se_int))))))))))))))
    (sss_one (ss_ret (se_callTy cas_tuple rfl T.b_tuple (by decide +kernel) (sa_cons (se_var 1) (sa_nil))))))
theorem d_is_plain {f c_is_plain P_is_plain : Addr} {oc : Value} {od an : Option Addr} {osl : Array (Option Value)} {kV doc pm ct : Value} (T : Txt K mg G C_BadText C_NoSuch C_BadCode C_BadAsk C_TooLarge C_BadDeed) (lk : K.lookup f = some ⟨oc, od, .func (PySem.W.fnOf "is_plain" "is_plain" (defArgs s_is_plain) (defBody s_is_plain) (defScope s_is_plain) .none kV doc pm an (.ref c_is_plain) ct), osl⟩) (hcd : PySem.W.codeIn K (.ref c_is_plain) "is_plain" = true) (kp : PySem.W.keepIn K (.ref f) = true) (g : mg "is_plain" = some (.ref f))  (TB_is_plain : LamX.TabB base mg c_is_plain P_is_plain) (hmT_is_plain : (P_is_plain, ("is_plain" ++ ".<locals>.<genexpr>" : Str)) ∈ G.T) (huT_is_plain : ∀ p ∈ G.T, p.1 = P_is_plain → p.2 = ("is_plain" ++ ".<locals>.<genexpr>" : Str))  : FnD P w K mg base G 1 "is_plain" 1 den_is_plain :=
  fn_denC (N := ["word", "sign"]) (ps := ["word"]) (k := 0) lk hcd kp sc_is_plain g ((fun_mk lk hcd kp).binds (ps := ["word"]) fun _ _ _ _ _ _ us hl => match us, hl with | [_], _ => rfl) fun A outer s H E hr0 => have hu0 := hr0.units; have hu1 := room65 hr0
    sss_one (ss_ret (se_and (se_cmp (ops_ne hu0) (se_var 0) (se_str)) (se_and (se_genB (slot := 1) (.inr ⟨rfl, rfl⟩) (sg_seq (se_var 0)) hr0 rfl T.b_all sc_is_plain.nd rfl n0_is_plain TB_is_plain rfl hmT_is_plain huT_is_plain (genP_by (sc := defScope s_is_plain) (by decide +kernel)) (sp_cmp pxo_in ob_in (sp_var 1) (sp_op pxo_add ob_add (sp_gstr rfl T.c_SMALL) (sp_gstr rfl T.c_FIGURES)))) (se_one (se_cmp (ops_notin hu1) (se_var 0) (se_tup (sa_cons (se_str) (sa_cons (se_str) (sa_cons (se_str) (sa_cons (se_str) (sa_nil)))))))))))
theorem d_named {f c_named P_named : Addr} {oc : Value} {od an : Option Addr} {osl : Array (Option Value)} {kV doc pm ct : Value} (T : Txt K mg G C_BadText C_NoSuch C_BadCode C_BadAsk C_TooLarge C_BadDeed) (lk : K.lookup f = some ⟨oc, od, .func (PySem.W.fnOf "named" "named" (defArgs s_named) (defBody s_named) (defScope s_named) .none kV doc pm an (.ref c_named) ct), osl⟩) (hcd : PySem.W.codeIn K (.ref c_named) "named" = true) (kp : PySem.W.keepIn K (.ref f) = true) (g : mg "named" = some (.ref f))  (XF_BadAsk : ExF P w K mg base G 1 "BadAsk" 4 C_BadAsk) (TB_named : LamX.TabB base mg c_named P_named) (hmT_named : (P_named, ("named" ++ ".<locals>.<genexpr>" : Str)) ∈ G.T) (huT_named : ∀ p ∈ G.T, p.1 = P_named → p.2 = ("named" ++ ".<locals>.<genexpr>" : Str)) (D_is_plain : FnD P w K mg base G 1 "is_plain" 1 den_is_plain) : FnD P w K mg base G 3 "named" 2 den_named :=
  fn_denC (N := ["text", "place", "sign"]) (ps := ["text", "place"]) (k := 2) lk hcd kp sc_named g ((fun_mk lk hcd kp).binds (ps := ["text", "place"]) fun _ _ _ _ _ _ us hl => match us, hl with | [_, _], _ => rfl) fun A outer s H E hr0 => have hu0 := hr0.units; have hu1 := room65 hr0
    sss_cons (ss_if (st_cmp (ops_in hu1) (se_var 0) (se_tup (sa_cons (se_str) (sa_cons (se_str) (sa_cons (se_str) (sa_nil)))))) (sss_one (ss_ret (se_tup (sa_cons (se_var 0) (sa_cons (se_str) (sa_cons (se_var 1) (sa_nil))))))) (sss_nil))
    (sss_cons (ss_if (st_w (sw_and (st_cmp (ops_eq hu0) (se_sl (se_var 0) (so_none) (so_some (se_int))) (se_str)) (sw_and (st_cmp (ops_in hu1) (se_callB cas_len rfl T.b_len (by decide +kernel) (sa_cons (se_var 0) (sa_nil))) (se_tup (sa_cons (se_int) (sa_cons (se_int) (sa_nil))))) (sw_and (st_tru (se_genB (slot := 2) (.inr ⟨rfl, rfl⟩) (sg_seq (se_sl (se_var 0) (so_some (se_int)) (so_none))) hr0 rfl T.b_all sc_named.nd rfl n0_named TB_named rfl hmT_named huT_named (genP_by (sc := defScope s_named) (by decide +kernel)) (sp_cmp pxo_in ob_in (sp_var 2) (sp_gstr rfl T.c_FIGURES)))) (sw_and1 (st_cmp (ops_ne hu0) (se_ix (se_var 0) (se_int)) (se_str))))))) (sss_one (ss_ret (se_tup (sa_cons (se_str) (sa_cons (se_callTy cas_intS rfl T.b_int (by decide +kernel) (sa_cons (se_sl (se_var 0) (so_some (se_int)) (so_none)) (sa_nil))) (sa_cons (se_var 1) (sa_nil))))))) (sss_nil))
    (sss_cons (ss_if (st_w (sw_and (st_cmp (ops_eq hu0) (se_ix (se_var 0) (se_un uns_neg (se_int))) (se_str)) (sw_and1 (st_tru (se_callP D_is_plain hr0 (by omega) rfl (sa_cons (se_sl (se_var 0) (so_none) (so_some (se_un uns_neg (se_int)))) (sa_nil))))))) (sss_one (ss_ret (se_tup (sa_cons (se_str) (sa_cons (se_sl (se_var 0) (so_none) (so_some (se_un uns_neg (se_int)))) (sa_cons (se_var 1) (sa_nil))))))) (sss_nil))
    (sss_cons (ss_if (st_tru (se_callP D_is_plain hr0 (by omega) rfl (sa_cons (se_var 0) (sa_nil)))) (sss_one (ss_ret (se_tup (sa_cons (se_str) (sa_cons (se_var 0) (sa_cons (se_var 1) (sa_nil))))))) (sss_nil))
    (sss_one (ss_raiseF XF_BadAsk (hr0.mono (by omega)) rfl (sa_cons (se_var 1) (sa_nil)))))))
theorem d_cut {f c_cut P_cut : Addr} {oc : Value} {od an : Option Addr} {osl : Array (Option Value)} {kV doc pm ct : Value} (T : Txt K mg G C_BadText C_NoSuch C_BadCode C_BadAsk C_TooLarge C_BadDeed) (lk : K.lookup f = some ⟨oc, od, .func (PySem.W.fnOf "cut" "cut" (defArgs s_cut) (defBody s_cut) (defScope s_cut) .none kV doc pm an (.ref c_cut) ct), osl⟩) (hcd : PySem.W.codeIn K (.ref c_cut) "cut" = true) (kp : PySem.W.keepIn K (.ref f) = true) (g : mg "cut" = some (.ref f))  (XF_BadAsk : ExF P w K mg base G 1 "BadAsk" 4 C_BadAsk) (TB_cut : LamX.TabB base mg c_cut P_cut) (hmT_cut : (P_cut, ("cut" ++ ".<locals>.<genexpr>" : Str)) ∈ G.T) (huT_cut : ∀ p ∈ G.T, p.1 = P_cut → p.2 = ("cut" ++ ".<locals>.<genexpr>" : Str)) (D_is_plain : FnD P w K mg base G 1 "is_plain" 1 den_is_plain) (D_named : FnD P w K mg base G 3 "named" 2 den_named) : FnD P w K mg base G 7 "cut" 1 den_cut :=
  fn_denC (N := ["text", "found", "k", "deep", "start", "end", "row", "word"]) (ps := ["text"]) (k := 6) lk hcd kp sc_cut g ((fun_mk lk hcd kp).binds (ps := ["text"]) fun _ _ _ _ _ _ us hl => match us, hl with | [_], _ => rfl) fun A outer s H E hr0 => have hu0 := hr0.units; have hu1 := room65 hr0
    sss_cons (ss_par3 rfl sc_cut.nd rfl rfl rfl (by decide) (by decide) (by decide) rfl rfl rfl (sa_cons (se_lst (sa_nil)) (sa_cons (se_int) (sa_cons (se_int) (sa_nil)))) rfl)
    (sss_cons (ss_while (passes_of rfl) (st_cmp ops_lt (se_var 2) (se_callB cas_len rfl T.b_len (by decide +kernel) (sa_cons (se_var 0) (sa_nil)))) (sss_cons (ss_set (i := 4) sc_cut.nd rfl (by first | exact Or.inl rfl | exact Or.inr rfl) (se_var 2))
    (sss_one (ss_if (st_cmp (ops_eq hu0) (se_ix (se_var 0) (se_var 2)) (se_str)) (sss_one (ss_aug (i := 2) sc_cut.nd rfl (by first | exact Or.inl rfl | exact Or.inr rfl) ips_add (se_int))) (sss_one (ss_if (st_cmp (ops_in hu1) (se_ix (se_var 0) (se_var 2)) (se_str)) (sss_cons (ss_aug (i := 3) sc_cut.nd rfl (by first | exact Or.inl rfl | exact Or.inr rfl) ips_add (se_op ops_sub (se_callTy cas_int rfl T.b_int (by decide +kernel) (sa_cons (se_cmp (ops_eq hu0) (se_ix (se_var 0) (se_var 2)) (se_str)) (sa_nil))) (se_callTy cas_int rfl T.b_int (by decide +kernel) (sa_cons (se_cmp (ops_eq hu0) (se_ix (se_var 0) (se_var 2)) (se_str)) (sa_nil)))))
    (sss_cons (ss_if (st_cmp ops_gt (se_var 3) (se_int)) (sss_one (ss_raiseF XF_BadAsk (hr0.mono (by omega)) rfl (sa_cons (se_var 2) (sa_nil)))) (sss_nil))
    (sss_cons (ss_expr (se_meth PySem.F.plainAttrs_list PySem.F.slot_list_append PySem.F.type_list_append mes_append (se_var 1) (sa_cons (se_tup (sa_cons (se_ife (st_cmp (ops_eq hu0) (se_ix (se_var 0) (se_var 2)) (se_str)) (se_str) (se_str)) (sa_cons (se_str) (sa_cons (se_var 2) (sa_nil))))) (sa_nil))))
    (sss_one (ss_aug (i := 2) sc_cut.nd rfl (by first | exact Or.inl rfl | exact Or.inr rfl) ips_add (se_int)))))) (sss_one (ss_if (st_cmp (ops_eq hu0) (se_ix (se_var 0) (se_var 2)) (se_str)) (sss_cons (ss_set (i := 5) sc_cut.nd rfl (by first | exact Or.inl rfl | exact Or.inr rfl) (se_meth PySem.F.plainAttrs_str PySem.F.slot_str_find PySem.F.type_str_find mes_sfind3 (se_var 0) (sa_cons (se_str) (sa_cons (se_op ops_add (se_var 2) (se_int)) (sa_nil)))))
    (sss_cons (ss_if (st_cmp ops_lt (se_var 5) (se_int)) (sss_one (ss_raiseF XF_BadAsk (hr0.mono (by omega)) rfl (sa_cons (se_callB cas_len rfl T.b_len (by decide +kernel) (sa_cons (se_var 0) (sa_nil))) (sa_nil)))) (sss_nil))
    (sss_cons (ss_set (i := 6) sc_cut.nd rfl (by first | exact Or.inl rfl | exact Or.inr rfl) (se_meth PySem.F.plainAttrs_str PySem.F.slot_str_split PySem.F.type_str_split mes_ssplit (se_sl (se_var 0) (so_some (se_op ops_add (se_var 2) (se_int))) (so_some (se_var 5))) (sa_cons (se_str) (sa_nil))))
    (sss_cons (ss_if (st_not (st_tru (se_genX (n := 100000) (own := [("word", 7)]) (.inr ⟨rfl, rfl⟩) sc_cut.nd hr0 (si_seq (se_var 6)) rfl T.b_all TB_cut rfl hmT_cut huT_cut (genOk_by (N := ["text", "found", "k", "deep", "start", "end", "row", "word"]) (sc := (defScope s_cut)) (by decide +kernel)) (fun _ _ _ _ _ _ _ => pg_name (i := 7) sc_cut.nd rfl (by first | exact Or.inl rfl | exact Or.inr rfl)) (tgk_name (i := 7) (vs := [7])) (fun _ _ _ _ _ _ hr0 => have hu0 := hr0.units; have hu1 := room65 hr0; se_callP D_is_plain hr0 (by omega) rfl (sa_cons (se_var 7) (sa_nil)))))) (sss_one (ss_raiseF XF_BadAsk (hr0.mono (by omega)) rfl (sa_cons (se_var 2) (sa_nil)))) (sss_nil))
    (sss_cons (ss_expr (se_meth PySem.F.plainAttrs_list PySem.F.slot_list_append PySem.F.type_list_append mes_append (se_var 1) (sa_cons (se_tup (sa_cons (se_str) (sa_cons (se_callTy cas_tuple rfl T.b_tuple (by decide +kernel) (sa_cons (se_var 6) (sa_nil))) (sa_cons (se_var 2) (sa_nil))))) (sa_nil))))
    (sss_one (ss_set (i := 2) sc_cut.nd rfl (by first | exact Or.inl rfl | exact Or.inr rfl) (se_op ops_add (se_var 5) (se_int))))))))) (sss_cons (ss_while (passes_of rfl) (st_w (sw_and (st_cmp ops_lt (se_var 2) (se_callB cas_len rfl T.b_len (by decide +kernel) (sa_cons (se_var 0) (sa_nil)))) (sw_and1 (st_cmp (ops_in hu1) (se_ix (se_var 0) (se_var 2)) (se_op ops_add (se_op ops_add (se_gstr rfl T.c_SMALL) (se_gstr rfl T.c_FIGURES)) (se_str)))))) (sss_one (ss_aug (i := 2) sc_cut.nd rfl (by first | exact Or.inl rfl | exact Or.inr rfl) ips_add (se_int))))
    (sss_cons (ss_if (st_cmp (ops_eq hu0) (se_var 2) (se_var 4)) (sss_one (ss_raiseF XF_BadAsk (hr0.mono (by omega)) rfl (sa_cons (se_var 2) (sa_nil)))) (sss_nil))
    (sss_one (ss_expr (se_meth PySem.F.plainAttrs_list PySem.F.slot_list_append PySem.F.type_list_append mes_append (se_var 1) (sa_cons (se_call D_named hr0 (by omega) rfl (sa_cons (se_sl (se_var 0) (so_some (se_var 4)) (so_some (se_var 2))) (sa_cons (se_var 4) (sa_nil)))) (sa_nil)))))))))))))))
    (sss_one (ss_ret (se_var 1))))
theorem d_every_at {f : Addr} {fd : FuncData} (T : Txt K mg G C_BadText C_NoSuch C_BadCode C_BadAsk C_TooLarge C_BadDeed) (F : Fun K "every" "every" s_every f fd) (g : mg "every" = some (.ref f)) {rec : List W → List O → Out W} {kk : Nat} (hkk : 3 ≤ kk) (DR : FnD P w K mg base G kk "single" 3 rec)    : FnD P w K mg base G (kk + 1) "every" 3 (den_every_at rec) :=
  fn_den (N := ["signs", "k", "end", "ask", "other"]) (ps := ["signs", "k", "end"]) (k := kk + 0) F sc_every g (F.binds (ps := ["signs", "k", "end"]) fun _ _ _ _ _ _ us hl => match us, hl with | [_, _, _], _ => rfl) fun cdv A outer s H E hr0 => have hu0 := hr0.units; have hu1 := room65 hr0
    sss_cons (ss_asg (se_call DR hr0 (by omega) rfl (sa_cons (se_var 0) (sa_cons (se_var 1) (sa_cons (se_var 2) (sa_nil))))) (pg_tup rfl (pgs_cons (pg_name (i := 3) sc_every.nd rfl (by first | exact Or.inl rfl | exact Or.inr rfl)) (pgs_cons (pg_name (i := 1) sc_every.nd rfl (by first | exact Or.inl rfl | exact Or.inr rfl)) (pgs_nil)))) (tgk_tups (is := [3, 1]) (vs := [3, 1])))
    (sss_cons (ss_while (passes_of rfl) (st_w (sw_and (st_cmp ops_lt (se_var 1) (se_callB cas_len rfl T.b_len (by decide +kernel) (sa_cons (se_var 0) (sa_nil)))) (sw_and1 (st_cmp (ops_eq hu0) (se_ix (se_ix (se_var 0) (se_var 1)) (se_int)) (se_str))))) (sss_cons (ss_asg (se_call DR hr0 (by omega) rfl (sa_cons (se_var 0) (sa_cons (se_op ops_add (se_var 1) (se_int)) (sa_cons (se_var 2) (sa_nil))))) (pg_tup rfl (pgs_cons (pg_name (i := 4) sc_every.nd rfl (by first | exact Or.inl rfl | exact Or.inr rfl)) (pgs_cons (pg_name (i := 1) sc_every.nd rfl (by first | exact Or.inl rfl | exact Or.inr rfl)) (pgs_nil)))) (tgk_tups (is := [4, 1]) (vs := [4, 1])))
    (sss_one (ss_set (i := 3) sc_every.nd rfl (by first | exact Or.inl rfl | exact Or.inr rfl) (se_tup (sa_cons (se_str) (sa_cons (se_var 3) (sa_cons (se_var 4) (sa_nil)))))))))
    (sss_one (ss_ret (se_tup (sa_cons (se_var 3) (sa_cons (se_var 1) (sa_nil)))))))
theorem d_some_at {f : Addr} {fd : FuncData} (T : Txt K mg G C_BadText C_NoSuch C_BadCode C_BadAsk C_TooLarge C_BadDeed) (F : Fun K "some" "some" s_some f fd) (g : mg "some" = some (.ref f)) {rec : List W → List O → Out W} {kk : Nat} (hkk : 3 ≤ kk) (DR : FnD P w K mg base G kk "single" 3 rec) (D_every_at : FnD P w K mg base G (kk + 1) "every" 3 (den_every_at rec))   : FnD P w K mg base G (kk + 2) "some" 3 (den_some_at rec) :=
  fn_den (N := ["signs", "k", "end", "ask", "other"]) (ps := ["signs", "k", "end"]) (k := kk + 1) F sc_some g (F.binds (ps := ["signs", "k", "end"]) fun _ _ _ _ _ _ us hl => match us, hl with | [_, _, _], _ => rfl) fun cdv A outer s H E hr0 => have hu0 := hr0.units; have hu1 := room65 hr0
    sss_cons (ss_asg (se_call D_every_at hr0 (by omega) rfl (sa_cons (se_var 0) (sa_cons (se_var 1) (sa_cons (se_var 2) (sa_nil))))) (pg_tup rfl (pgs_cons (pg_name (i := 3) sc_some.nd rfl (by first | exact Or.inl rfl | exact Or.inr rfl)) (pgs_cons (pg_name (i := 1) sc_some.nd rfl (by first | exact Or.inl rfl | exact Or.inr rfl)) (pgs_nil)))) (tgk_tups (is := [3, 1]) (vs := [3, 1])))
    (sss_cons (ss_while (passes_of rfl) (st_w (sw_and (st_cmp ops_lt (se_var 1) (se_callB cas_len rfl T.b_len (by decide +kernel) (sa_cons (se_var 0) (sa_nil)))) (sw_and1 (st_cmp (ops_eq hu0) (se_ix (se_ix (se_var 0) (se_var 1)) (se_int)) (se_str))))) (sss_cons (ss_asg (se_call D_every_at hr0 (by omega) rfl (sa_cons (se_var 0) (sa_cons (se_op ops_add (se_var 1) (se_int)) (sa_cons (se_var 2) (sa_nil))))) (pg_tup rfl (pgs_cons (pg_name (i := 4) sc_some.nd rfl (by first | exact Or.inl rfl | exact Or.inr rfl)) (pgs_cons (pg_name (i := 1) sc_some.nd rfl (by first | exact Or.inl rfl | exact Or.inr rfl)) (pgs_nil)))) (tgk_tups (is := [4, 1]) (vs := [4, 1])))
    (sss_one (ss_set (i := 3) sc_some.nd rfl (by first | exact Or.inl rfl | exact Or.inr rfl) (se_tup (sa_cons (se_str) (sa_cons (se_var 3) (sa_cons (se_var 4) (sa_nil)))))))))
    (sss_one (ss_ret (se_tup (sa_cons (se_var 3) (sa_cons (se_var 1) (sa_nil)))))))
theorem d_single_n {f : Addr} {fd : FuncData} (T : Txt K mg G C_BadText C_NoSuch C_BadCode C_BadAsk C_TooLarge C_BadDeed) (F : Fun K "single" "single" s_single f fd) (g : mg "single" = some (.ref f)) {f_every : Addr} {fd_every : FuncData} (F_every : Fun K "every" "every" s_every f_every fd_every) (g_every : mg "every" = some (.ref f_every)) {f_some : Addr} {fd_some : FuncData} (F_some : Fun K "some" "some" s_some f_some fd_some) (g_some : mg "some" = some (.ref f_some))   (XF_BadAsk : ExF P w K mg base G 1 "BadAsk" 4 C_BadAsk) (n : Nat) : FnD P w K mg base G (3 + 3 * n) "single" 3 (den_single_n n) := by
  induction n with
  | zero => exact fn_den (N := ["signs", "k", "end", "kind", "what", "place", "ask"]) (ps := ["signs", "k", "end"]) (k := 2) F sc_single g (F.binds (ps := ["signs", "k", "end"]) fun _ _ _ _ _ _ us hl => match us, hl with | [_, _, _], _ => rfl) fun cdv A outer s H E hr0 => sss_bad
  | succ n DR =>
    rw [show 3 + 3 * (n + 1) = (3 + 3 * n + 2) + 1 from by omega]
    have D_every_at := d_every_at (kk := 3 + 3 * n) T F_every g_every (by omega) DR  
    have D_some_at := d_some_at (kk := 3 + 3 * n) T F_some g_some (by omega) DR D_every_at 
    exact fn_den (N := ["signs", "k", "end", "kind", "what", "place", "ask"]) (ps := ["signs", "k", "end"]) (k := 3 + 3 * n + 2) F sc_single g (F.binds (ps := ["signs", "k", "end"]) fun _ _ _ _ _ _ us hl => match us, hl with | [_, _, _], _ => rfl) fun cdv A outer s H E hr0 => have hu0 := hr0.units; have hu1 := room65 hr0
      sss_cons (ss_if (st_cmp ops_ge (se_var 1) (se_callB cas_len rfl T.b_len (by decide +kernel) (sa_cons (se_var 0) (sa_nil)))) (sss_one (ss_raiseF XF_BadAsk (hr0.mono (by omega)) rfl (sa_cons (se_var 2) (sa_nil)))) (sss_nil)) (sss_cons (ss_asg (se_ix (se_var 0) (se_var 1)) (pg_tup rfl (pgs_cons (pg_name (i := 3) sc_single.nd rfl (by first | exact Or.inl rfl | exact Or.inr rfl)) (pgs_cons (pg_name (i := 4) sc_single.nd rfl (by first | exact Or.inl rfl | exact Or.inr rfl)) (pgs_cons (pg_name (i := 5) sc_single.nd rfl (by first | exact Or.inl rfl | exact Or.inr rfl)) (pgs_nil))))) (tgk_tups (is := [3, 4, 5]) (vs := [3, 4, 5]))) (sss_cons (ss_if (st_cmp (ops_eq hu0) (se_var 3) (se_str)) (sss_cons (ss_asg (se_call DR hr0 (by omega) rfl (sa_cons (se_var 0) (sa_cons (se_op ops_add (se_var 1) (se_int)) (sa_cons (se_var 2) (sa_nil))))) (pg_tup rfl (pgs_cons (pg_name (i := 6) sc_single.nd rfl (by first | exact Or.inl rfl | exact Or.inr rfl)) (pgs_cons (pg_name (i := 1) sc_single.nd rfl (by first | exact Or.inl rfl | exact Or.inr rfl)) (pgs_nil)))) (tgk_tups (is := [6, 1]) (vs := [6, 1]))) (sss_one (ss_ret (se_tup (sa_cons (se_tup (sa_cons (se_str) (sa_cons (se_var 6) (sa_nil)))) (sa_cons (se_var 1) (sa_nil))))))) (sss_nil)) (sss_cons (ss_if (st_cmp (ops_eq hu0) (se_var 3) (se_str)) (sss_cons (ss_asg (se_call D_some_at hr0 (by omega) rfl (sa_cons (se_var 0) (sa_cons (se_op ops_add (se_var 1) (se_int)) (sa_cons (se_var 2) (sa_nil))))) (pg_tup rfl (pgs_cons (pg_name (i := 6) sc_single.nd rfl (by first | exact Or.inl rfl | exact Or.inr rfl)) (pgs_cons (pg_name (i := 1) sc_single.nd rfl (by first | exact Or.inl rfl | exact Or.inr rfl)) (pgs_nil)))) (tgk_tups (is := [6, 1]) (vs := [6, 1]))) (sss_cons (ss_if (st_w (sw_or (st_cmp ops_ge (se_var 1) (se_callB cas_len rfl T.b_len (by decide +kernel) (sa_cons (se_var 0) (sa_nil)))) (sw_or1 (st_cmp (ops_ne hu0) (se_ix (se_ix (se_var 0) (se_var 1)) (se_int)) (se_str))))) (sss_one (ss_raiseF XF_BadAsk (hr0.mono (by omega)) rfl (sa_cons (se_ife (st_cmp ops_lt (se_var 1) (se_callB cas_len rfl T.b_len (by decide +kernel) (sa_cons (se_var 0) (sa_nil)))) (se_ix (se_ix (se_var 0) (se_var 1)) (se_int)) (se_var 2)) (sa_nil)))) (sss_nil)) (sss_one (ss_ret (se_tup (sa_cons (se_var 6) (sa_cons (se_op ops_add (se_var 1) (se_int)) (sa_nil)))))))) (sss_nil)) (sss_cons (ss_if (st_cmp (ops_in hu1) (se_var 3) (se_tup (sa_cons (se_str) (sa_cons (se_str) (sa_nil))))) (sss_one (ss_ret (se_tup (sa_cons (se_tup (sa_cons (se_var 3) (sa_cons (se_var 4) (sa_nil)))) (sa_cons (se_op ops_add (se_var 1) (se_int)) (sa_nil)))))) (sss_nil)) (sss_cons (ss_if (st_cmp (ops_ne hu0) (se_var 3) (se_str)) (sss_one (ss_raiseF XF_BadAsk (hr0.mono (by omega)) rfl (sa_cons (se_var 5) (sa_nil)))) (sss_nil)) (sss_cons (ss_if (st_w (sw_and (st_cmp ops_lt (se_op ops_add (se_var 1) (se_int)) (se_callB cas_len rfl T.b_len (by decide +kernel) (sa_cons (se_var 0) (sa_nil)))) (sw_and1 (st_cmp (ops_eq hu0) (se_ix (se_ix (se_var 0) (se_op ops_add (se_var 1) (se_int))) (se_int)) (se_str))))) (sss_cons (ss_if (st_w (sw_or (st_cmp ops_ge (se_op ops_add (se_var 1) (se_int)) (se_callB cas_len rfl T.b_len (by decide +kernel) (sa_cons (se_var 0) (sa_nil)))) (sw_or1 (st_cmp (ops_ne hu0) (se_ix (se_ix (se_var 0) (se_op ops_add (se_var 1) (se_int))) (se_int)) (se_str))))) (sss_one (ss_raiseF XF_BadAsk (hr0.mono (by omega)) rfl (sa_cons (se_ife (st_cmp ops_lt (se_op ops_add (se_var 1) (se_int)) (se_callB cas_len rfl T.b_len (by decide +kernel) (sa_cons (se_var 0) (sa_nil)))) (se_ix (se_ix (se_var 0) (se_op ops_add (se_var 1) (se_int))) (se_int)) (se_var 2)) (sa_nil)))) (sss_nil)) (sss_one (ss_ret (se_tup (sa_cons (se_tup (sa_cons (se_str) (sa_cons (se_ix (se_ix (se_var 0) (se_op ops_add (se_var 1) (se_int))) (se_int)) (sa_cons (se_var 4) (sa_cons (se_ix (se_ix (se_var 0) (se_op ops_add (se_var 1) (se_int))) (se_int)) (sa_nil)))))) (sa_cons (se_op ops_add (se_var 1) (se_int)) (sa_nil))))))) (sss_nil)) (sss_one (ss_ret (se_tup (sa_cons (se_tup (sa_cons (se_str) (sa_cons (se_var 4) (sa_nil)))) (sa_cons (se_op ops_add (se_var 1) (se_int)) (sa_nil))))))))))))
theorem d_single {f : Addr} {fd : FuncData} (T : Txt K mg G C_BadText C_NoSuch C_BadCode C_BadAsk C_TooLarge C_BadDeed) (F : Fun K "single" "single" s_single f fd) (g : mg "single" = some (.ref f)) {f_every : Addr} {fd_every : FuncData} (F_every : Fun K "every" "every" s_every f_every fd_every) (g_every : mg "every" = some (.ref f_every)) {f_some : Addr} {fd_some : FuncData} (F_some : Fun K "some" "some" s_some f_some fd_some) (g_some : mg "some" = some (.ref f_some))   (XF_BadAsk : ExF P w K mg base G 1 "BadAsk" 4 C_BadAsk) : FnD P w K mg base G 51 "single" 3 den_single := d_single_n T F g F_every g_every F_some g_some  XF_BadAsk 16
theorem d_read {f : Addr} {fd : FuncData} (T : Txt K mg G C_BadText C_NoSuch C_BadCode C_BadAsk C_TooLarge C_BadDeed) (F : Fun K "read" "read" s_read f fd) (g : mg "read" = some (.ref f)) (D_cut : FnD P w K mg base G 7 "cut" 1 den_cut) (D_some : FnD P w K mg base G 53 "some" 3 den_some)  (XF_BadAsk : ExF P w K mg base G 1 "BadAsk" 4 C_BadAsk) : FnD P w K mg base G 54 "read" 1 den_read :=
  fn_den (N := ["text", "signs", "ask", "k"]) (ps := ["text"]) (k := 53) F sc_read g (F.binds (ps := ["text"]) fun _ _ _ _ _ _ us hl => match us, hl with | [_], _ => rfl) fun cdv A outer s H E hr0 => have hu0 := hr0.units; have hu1 := room65 hr0
    sss_cons (ss_if (st_w (sw_or (st_not (st_tru (se_isi (se_var 0) rfl T.b_isinstance rfl T.b_str))) (sw_or1 (st_cmp ops_gt (se_callB cas_len rfl T.b_len (by decide +kernel) (sa_cons (se_var 0) (sa_nil))) (se_int))))) (sss_one (ss_raiseF XF_BadAsk (hr0.mono (by omega)) rfl (sa_cons (se_int) (sa_nil)))) (sss_nil))
    (sss_cons (ss_set (i := 1) sc_read.nd rfl (by first | exact Or.inl rfl | exact Or.inr rfl) (se_call D_cut hr0 (by omega) rfl (sa_cons (se_var 0) (sa_nil))))
    (sss_cons (ss_asg (se_call D_some hr0 (by omega) rfl (sa_cons (se_var 1) (sa_cons (se_int) (sa_cons (se_callB cas_len rfl T.b_len (by decide +kernel) (sa_cons (se_var 0) (sa_nil))) (sa_nil))))) (pg_tup rfl (pgs_cons (pg_name (i := 2) sc_read.nd rfl (by first | exact Or.inl rfl | exact Or.inr rfl)) (pgs_cons (pg_name (i := 3) sc_read.nd rfl (by first | exact Or.inl rfl | exact Or.inr rfl)) (pgs_nil)))) (tgk_tups (is := [2, 3]) (vs := [2, 3])))
    (sss_cons (ss_if (st_cmp ops_lt (se_var 3) (se_callB cas_len rfl T.b_len (by decide +kernel) (sa_cons (se_var 1) (sa_nil)))) (sss_one (ss_raiseF XF_BadAsk (hr0.mono (by omega)) rfl (sa_cons (se_ix (se_ix (se_var 1) (se_var 3)) (se_int)) (sa_nil)))) (sss_nil))
    (sss_one (ss_ret (se_var 2))))))
theorem d_answered {f : Addr} {fd : FuncData} (T : Txt K mg G C_BadText C_NoSuch C_BadCode C_BadAsk C_TooLarge C_BadDeed) (F : Fun K "answered" "answered" s_answered f fd) (g : mg "answered" = some (.ref f))   : FnD P w K mg base G 1 "answered" 2 den_answered :=
  fn_den (N := ["ask", "index", "kind", "one", "other", "found", "word"]) (ps := ["ask", "index"]) (k := 0) F sc_answered g (F.binds (ps := ["ask", "index"]) fun _ _ _ _ _ _ us hl => match us, hl with | [_, _], _ => rfl) fun cdv A outer s H E hr0 => have hu0 := hr0.units; have hu1 := room65 hr0
    sss_bad
theorem d_by_phrase {f : Addr} {fd : FuncData} (T : Txt K mg G C_BadText C_NoSuch C_BadCode C_BadAsk C_TooLarge C_BadDeed) (F : Fun K "by_phrase" "by_phrase" s_by_phrase f fd) (g : mg "by_phrase" = some (.ref f))   : FnD P w K mg base G 1 "by_phrase" 2 den_by_phrase :=
  fn_den (N := ["row", "index", "found", "word", "number"]) (ps := ["row", "index"]) (k := 0) F sc_by_phrase g (F.binds (ps := ["row", "index"]) fun _ _ _ _ _ _ us hl => match us, hl with | [_, _], _ => rfl) fun cdv A outer s H E hr0 => have hu0 := hr0.units; have hu1 := room65 hr0
    sss_bad
theorem d_stands {f : Addr} {fd : FuncData} (T : Txt K mg G C_BadText C_NoSuch C_BadCode C_BadAsk C_TooLarge C_BadDeed) (F : Fun K "stands" "stands" s_stands f fd) (g : mg "stands" = some (.ref f))   : FnD P w K mg base G 1 "stands" 3 den_stands :=
  fn_den (N := ["row", "index", "number", "places", "k", "place"]) (ps := ["row", "index", "number"]) (k := 0) F sc_stands g (F.binds (ps := ["row", "index", "number"]) fun _ _ _ _ _ _ us hl => match us, hl with | [_, _, _], _ => rfl) fun cdv A outer s H E hr0 => have hu0 := hr0.units; have hu1 := room65 hr0
    sss_bad
theorem d_by_near {f : Addr} {fd : FuncData} (T : Txt K mg G C_BadText C_NoSuch C_BadCode C_BadAsk C_TooLarge C_BadDeed) (F : Fun K "by_near" "by_near" s_by_near f fd) (g : mg "by_near" = some (.ref f))   : FnD P w K mg base G 1 "by_near" 2 den_by_near :=
  fn_den (N := ["ask", "index", "kind", "far", "one", "other", "found", "number", "rows", "place", "k"]) (ps := ["ask", "index"]) (k := 0) F sc_by_near g (F.binds (ps := ["ask", "index"]) fun _ _ _ _ _ _ us hl => match us, hl with | [_, _], _ => rfl) fun cdv A outer s H E hr0 => have hu0 := hr0.units; have hu1 := room65 hr0
    sss_bad
theorem d_plain {f : Addr} {fd : FuncData} (T : Txt K mg G C_BadText C_NoSuch C_BadCode C_BadAsk C_TooLarge C_BadDeed) (F : Fun K "plain" "plain" s_plain f fd) (g : mg "plain" = some (.ref f))   : FnD P w K mg base G 1 "plain" 1 den_plain :=
  fn_den (N := ["ask", "inner", "other"]) (ps := ["ask"]) (k := 0) F sc_plain g (F.binds (ps := ["ask"]) fun _ _ _ _ _ _ us hl => match us, hl with | [_], _ => rfl) fun cdv A outer s H E hr0 => have hu0 := hr0.units; have hu1 := room65 hr0
    sss_bad
theorem d_walk {f : Addr} {fd : FuncData} (T : Txt K mg G C_BadText C_NoSuch C_BadCode C_BadAsk C_TooLarge C_BadDeed) (F : Fun K "walk" "walk" s_walk f fd) (g : mg "walk" = some (.ref f))   : FnD P w K mg base G 1 "walk" 7 den_walk :=
  fn_den (N := ["node", "sign", "word", "above", "most", "text", "found", "row", "k", "other"]) (ps := ["node", "sign", "word", "above", "most", "text", "found"]) (k := 0) F sc_walk g (F.binds (ps := ["node", "sign", "word", "above", "most", "text", "found"]) fun _ _ _ _ _ _ us hl => match us, hl with | [_, _, _, _, _, _, _], _ => rfl) fun cdv A outer s H E hr0 => have hu0 := hr0.units; have hu1 := room65 hr0
    sss_bad
theorem d_law_dice {f : Addr} {fd : FuncData} (T : Txt K mg G C_BadText C_NoSuch C_BadCode C_BadAsk C_TooLarge C_BadDeed) (F : Fun K "_law_dice" "_law_dice" s_law_dice f fd) (g : mg "_law_dice" = some (.ref f))   : FnD P w K mg base G 1 "_law_dice" 1 den_law_dice :=
  fn_den (N := ["cell"]) (ps := ["cell"]) (k := 0) F sc_law_dice g (F.binds (ps := ["cell"]) fun _ _ _ _ _ _ us hl => match us, hl with | [_], _ => rfl) fun cdv A outer s H E hr0 => have hu0 := hr0.units; have hu1 := room65 hr0
    sss_cons (ss_if (st_chain ops_lt ops_lt (se_op ops_sub (se_int) (se_int)) (se_var 0) (se_int)) (sss_one (ss_ret (se_lst (sa_cons (se_callB cas_abs rfl T.b_abs (by decide +kernel) (sa_cons (se_var 0) (sa_nil))) (sa_cons (se_int) (sa_cons (se_int) (sa_nil))))))) (sss_nil))
    (sss_one (ss_ret (se_lst (sa_cons (se_var 0) (sa_cons (se_op ops_add (se_int) (se_op ops_mod (se_callTy cas_int rfl T.b_int (by decide +kernel) (sa_cons (se_var 0) (sa_nil))) (se_int))) (sa_cons (se_callTy cas_int rfl T.b_int (by decide +kernel) (sa_cons (se_cmp ops_ge (se_var 0) (se_op ops_pow (se_int) (se_int))) (sa_nil))) (sa_nil)))))))
theorem d_law_roll {f : Addr} {fd : FuncData} (T : Txt K mg G C_BadText C_NoSuch C_BadCode C_BadAsk C_TooLarge C_BadDeed) (F : Fun K "_law_roll" "_law_roll" s_law_roll f fd) (g : mg "_law_roll" = some (.ref f))   : FnD P w K mg base G 1 "_law_roll" 2 den_law_roll :=
  fn_den (N := ["dice", "many", "found"]) (ps := ["dice", "many"]) (k := 0) F sc_law_roll g (F.binds (ps := ["dice", "many"]) fun _ _ _ _ _ _ us hl => match us, hl with | [_, _], _ => rfl) fun cdv A outer s H E hr0 => have hu0 := hr0.units; have hu1 := room65 hr0
    sss_cons (ss_if (st_w (sw_or (st_cmp (ops_eq hu0) (se_ix (se_var 0) (se_int)) (se_int)) (sw_or1 (st_w (sw_and (st_cmp (ops_eq hu0) (se_ix (se_var 0) (se_int)) (se_int)) (sw_and1 (st_cmp ops_gt (se_ix (se_var 0) (se_int)) (se_int)))))))) (sss_cons (ss_set (i := 2) sc_law_roll.nd rfl (by first | exact Or.inl rfl | exact Or.inr rfl) (se_op ops_mod (se_callTy cas_int rfl T.b_int (by decide +kernel) (sa_cons (se_ix (se_var 0) (se_int)) (sa_nil))) (se_var 1)))
    (sss_cons (ss_seti sets_list (se_var 0) (se_int) (se_op ops_fdiv (se_ix (se_var 0) (se_int)) (se_var 1)))
    (sss_one (ss_ret (se_var 2))))) (sss_nil))
    (sss_cons (ss_seti sets_list (se_var 0) (se_int) (se_int))
    (sss_cons (ss_seti sets_list (se_var 0) (se_int) (se_op ops_mod (se_callTy cas_int rfl T.b_int (by decide +kernel) (sa_cons (se_op ops_add (se_op ops_add (se_op ops_mul (se_ix (se_var 0) (se_int)) (se_int)) (se_op ops_mul (se_ix (se_var 0) (se_int)) (se_int))) (se_int)) (sa_nil))) (se_int)))
    (sss_cons (ss_seti sets_list (se_var 0) (se_int) (se_op ops_add (se_ix (se_var 0) (se_int)) (se_int)))
    (sss_one (ss_ret (se_op ops_mod (se_callTy cas_int rfl T.b_int (by decide +kernel) (sa_cons (se_op ops_add (se_op ops_fdiv (se_ix (se_var 0) (se_int)) (se_int)) (se_ix (se_var 0) (se_int))) (sa_nil))) (se_var 1)))))))
theorem d_law_rounds {f : Addr} {fd : FuncData} (T : Txt K mg G C_BadText C_NoSuch C_BadCode C_BadAsk C_TooLarge C_BadDeed) (F : Fun K "_law_rounds" "_law_rounds" s_law_rounds f fd) (g : mg "_law_rounds" = some (.ref f)) (D_law_dice : FnD P w K mg base G 1 "_law_dice" 1 den_law_dice)  : FnD P w K mg base G 2 "_law_rounds" 2 den_law_rounds :=
  fn_den (N := ["script", "most", "cells", "cell"]) (ps := ["script", "most"]) (k := 1) F sc_law_rounds g (F.binds (ps := ["script", "most"]) fun _ _ _ _ _ _ us hl => match us, hl with | [_, _], _ => rfl) fun cdv A outer s H E hr0 => have hu0 := hr0.units; have hu1 := room65 hr0
    sss_cons (ss_set (i := 2) sc_law_rounds.nd rfl (by first | exact Or.inl rfl | exact Or.inr rfl) (se_sl (se_var 0) (so_none) (so_some (se_var 1))))
    (sss_cons (ss_if (st_cmp (ops_eq hu0) (se_var 2) (se_lst (sa_nil))) (sss_one (ss_set (i := 2) sc_law_rounds.nd rfl (by first | exact Or.inl rfl | exact Or.inr rfl) (se_lst (sa_cons (se_int) (sa_nil))))) (sss_nil))
    (sss_one (ss_ret (se_lc (n := 100000) (own := [("cell", 3)]) sc_law_rounds.nd (si_seq (se_var 2)) (blkOk_by (N := ["script", "most", "cells", "cell"]) (sc := (defScope s_law_rounds)) (by decide +kernel)) (fun _ _ _ _ _ => pg_name (i := 3) sc_law_rounds.nd rfl (by first | exact Or.inl rfl | exact Or.inr rfl)) (tgk_name (i := 3) (vs := [3])) (fun _ _ _ _ _ => sts_nil) (fun _ _ _ _ _ => se_call D_law_dice hr0 (by omega) rfl (sa_cons (se_var 3) (sa_nil)))))))
theorem d_Index_remove {f CC : Addr} {fd : FuncData} (T : Txt K mg G C_BadText C_NoSuch C_BadCode C_BadAsk C_TooLarge C_BadDeed) (F : Fun K "remove" "Index.remove" s_Index_remove f fd) (hC : G.ci 101 = some CC) (cl : Cls K CC) (mt : Meth K CC "remove" f)   : FnM P w K mg base G 1 101 "remove" 2 den_Index_remove :=
  ⟨f, fd, ["self", "number"], CC, den_ok (N := ["self", "number"]) (ps := ["self", "number"]) (k := 0) F sc_Index_remove (fun cdv A outer s H E hr0 => have hu0 := hr0.units; have hu1 := room65 hr0
    sss_cons (ss_if (st_cmp (ops_notinD hu1) (se_var 1) (se_fld T.f_where (se_var 0))) (sss_one (ss_raise T.x_NoSuch rfl)) (sss_nil))
    (sss_cons (ss_expr (se_dpop1 (se_fld T.f_where (se_var 0)) (se_var 1)))
    (sss_one (ss_seti (sets_dict (units1 hu0)) (se_fld T.f_gone (se_var 0)) (se_var 1) (se_bl))))), hC, cl, mt, F.binds (ps := ["self", "number"]) fun _ _ _ _ _ _ us hl => match us, hl with | [_, _], _ => rfl⟩
theorem d_Tree_init {f CC : Addr} {fd : FuncData} (T : Txt K mg G C_BadText C_NoSuch C_BadCode C_BadAsk C_TooLarge C_BadDeed) (F : Fun K "__init__" "Tree.__init__" s_Tree_init f fd) (hC : G.ci 103 = some CC) (hm : mg "Tree" = some (.ref CC)) (hM : Mk K CC f)   : FnI P w K mg base G 1 103 "Tree" 1 den_Tree_init :=
  ⟨f, fd, ["self"], CC, den_ok (N := ["self"]) (ps := ["self"]) (k := 0) F sc_Tree_init (fun cdv A outer s H E hr0 => have hu0 := hr0.units; have hu1 := room65 hr0
    sss_cons (ss_setf T.f_next (se_var 0) (se_dict0))
    (sss_cons (ss_setf T.f_often (se_var 0) (se_int))
    (sss_one (ss_setf T.f_below (se_var 0) (se_int))))), hC, hm, hM, F.binds (ps := ["self"]) fun _ _ _ _ _ _ us hl => match us, hl with | [_], _ => rfl⟩
theorem d_Tree_within {f CC : Addr} {fd : FuncData} (T : Txt K mg G C_BadText C_NoSuch C_BadCode C_BadAsk C_TooLarge C_BadDeed) (F : Fun K "within" "Tree.within" s_Tree_within f fd) (hC : G.ci 103 = some CC) (cl : Cls K CC) (mt : Meth K CC "within" f) (D_walk : FnD P w K mg base G 1 "walk" 7 den_walk)  : FnM P w K mg base G 2 103 "within" 3 den_Tree_within :=
  ⟨f, fd, ["self", "word", "most"], CC, den_ok (N := ["self", "word", "most", "found", "row", "sign"]) (ps := ["self", "word", "most"]) (k := 1) F sc_Tree_within (fun cdv A outer s H E hr0 => have hu0 := hr0.units; have hu1 := room65 hr0
    sss_cons (ss_if (st_cmp ops_gt (se_var 2) (se_int)) (sss_one (ss_raise T.x_TooLarge rfl)) (sss_nil))
    (sss_cons (ss_set (i := 3) sc_Tree_within.nd rfl (by first | exact Or.inl rfl | exact Or.inr rfl) (se_lst (sa_nil)))
    (sss_cons (ss_set (i := 4) sc_Tree_within.nd rfl (by first | exact Or.inl rfl | exact Or.inr rfl) (se_listR1 rfl rfl T.b_list rfl T.b_range (se_op ops_add (se_callB cas_len rfl T.b_len (by decide +kernel) (sa_cons (se_var 1) (sa_nil))) (se_int))))
    (sss_cons (ss_for (passes_of rfl) (si_seq (se_sortedD (se_fld T.f_next (se_var 0)) rfl hu0 rfl T.b_sorted)) (pg_name (i := 5) sc_Tree_within.nd rfl (by first | exact Or.inl rfl | exact Or.inr rfl)) (tgk_name (i := 5) (vs := [5])) (sss_one (ss_expr (se_callP D_walk hr0 (by omega) rfl (sa_cons (se_ixD (units1 hu0) (se_fld T.f_next (se_var 0)) (se_var 5)) (sa_cons (se_var 5) (sa_cons (se_var 1) (sa_cons (se_var 4) (sa_cons (se_var 2) (sa_cons (se_var 5) (sa_cons (se_var 3) (sa_nil))))))))))))
    (sss_one (ss_ret (se_callTy cas_tuple rfl T.b_tuple (by decide +kernel) (sa_cons (se_sortedI (sit_seq (se_var 3)) rfl hu0 rfl T.b_sorted) (sa_nil))))))))), hC, cl, mt, F.binds (ps := ["self", "word", "most"]) fun _ _ _ _ _ _ us hl => match us, hl with | [_, _, _], _ => rfl⟩
theorem d_Index_numbers {f CC : Addr} {fd : FuncData} (T : Txt K mg G C_BadText C_NoSuch C_BadCode C_BadAsk C_TooLarge C_BadDeed) (F : Fun K "numbers" "Index.numbers" s_Index_numbers f fd) (hC : G.ci 101 = some CC) (cl : Cls K CC) (mt : Meth K CC "numbers" f)   : FnM P w K mg base G 1 101 "numbers" 1 den_Index_numbers :=
  ⟨f, fd, ["self"], CC, den_ok (N := ["self"]) (ps := ["self"]) (k := 0) F sc_Index_numbers (fun cdv A outer s H E hr0 => have hu0 := hr0.units; have hu1 := room65 hr0
    sss_one (ss_ret (se_callTy cas_tuple rfl T.b_tuple (by decide +kernel) (sa_cons (se_sortedD (se_fld T.f_where (se_var 0)) rfl hu0 rfl T.b_sorted) (sa_nil))))), hC, cl, mt, F.binds (ps := ["self"]) fun _ _ _ _ _ _ us hl => match us, hl with | [_], _ => rfl⟩
theorem d_Hall_state {f CC : Addr} {fd : FuncData} (T : Txt K mg G C_BadText C_NoSuch C_BadCode C_BadAsk C_TooLarge C_BadDeed) (F : Fun K "state" "Hall.state" s_Hall_state f fd) (hC : G.ci 102 = some CC) (cl : Cls K CC) (mt : Meth K CC "state" f)   : FnM P w K mg base G 1 102 "state" 1 den_Hall_state :=
  ⟨f, fd, ["self"], CC, den_ok (N := ["self"]) (ps := ["self"]) (k := 0) F sc_Hall_state (fun cdv A outer s H E hr0 => have hu0 := hr0.units; have hu1 := room65 hr0
    sss_bad), hC, cl, mt, F.binds (ps := ["self"]) fun _ _ _ _ _ _ us hl => match us, hl with | [_], _ => rfl⟩
theorem d_Hall_note {f CC : Addr} {fd : FuncData} (T : Txt K mg G C_BadText C_NoSuch C_BadCode C_BadAsk C_TooLarge C_BadDeed) (F : Fun K "note" "Hall.note" s_Hall_note f fd) (hC : G.ci 102 = some CC) (cl : Cls K CC) (mt : Meth K CC "note" f)   : FnM P w K mg base G 1 102 "note" 2 den_Hall_note :=
  ⟨f, fd, ["self", "before"], CC, den_ok (N := ["self", "before"]) (ps := ["self", "before"]) (k := 0) F sc_Hall_note (fun cdv A outer s H E hr0 => have hu0 := hr0.units; have hu1 := room65 hr0
    sss_bad), hC, cl, mt, F.binds (ps := ["self", "before"]) fun _ _ _ _ _ _ us hl => match us, hl with | [_, _], _ => rfl⟩
theorem d_Hall_take {f CC : Addr} {fd : FuncData} (T : Txt K mg G C_BadText C_NoSuch C_BadCode C_BadAsk C_TooLarge C_BadDeed) (F : Fun K "take" "Hall.take" s_Hall_take f fd) (hC : G.ci 102 = some CC) (cl : Cls K CC) (mt : Meth K CC "take" f) (D_Index_numbers : FnM P w K mg base G 1 101 "numbers" 1 den_Index_numbers) (D_Hall_state : FnM P w K mg base G 1 102 "state" 1 den_Hall_state) (D_Index_remove : FnM P w K mg base G 1 101 "remove" 2 den_Index_remove) (D_Hall_note : FnM P w K mg base G 1 102 "note" 2 den_Hall_note)  : FnM P w K mg base G 2 102 "take" 2 den_Hall_take :=
  ⟨f, fd, ["self", "number"], CC, den_ok (N := ["self", "number", "before"]) (ps := ["self", "number"]) (k := 1) F sc_Hall_take (fun cdv A outer s H E hr0 => have hu0 := hr0.units; have hu1 := room65 hr0
    sss_cons (ss_if (st_cmp (ops_notin hu1) (se_var 1) (se_mt0 D_Index_numbers hr0 (by omega) (se_fld T.f_index (se_var 0)))) (sss_one (ss_raise T.x_BadDeed rfl)) (sss_nil))
    (sss_cons (ss_set (i := 2) sc_Hall_take.nd rfl (by first | exact Or.inl rfl | exact Or.inr rfl) (se_mt0 D_Hall_state hr0 (by omega) (se_var 0)))
    (sss_cons (ss_expr (se_mt D_Index_remove hr0 (by omega) (se_fld T.f_index (se_var 0)) (sa_cons (se_var 1) (sa_nil))))
    (sss_one (ss_expr (se_mt D_Hall_note hr0 (by omega) (se_var 0) (sa_cons (se_var 2) (sa_nil)))))))), hC, cl, mt, F.binds (ps := ["self", "number"]) fun _ _ _ _ _ _ us hl => match us, hl with | [_, _], _ => rfl⟩
theorem d_Index_init {f CC : Addr} {fd : FuncData} (T : Txt K mg G C_BadText C_NoSuch C_BadCode C_BadAsk C_TooLarge C_BadDeed) (F : Fun K "__init__" "Index.__init__" s_Index_init f fd) (hC : G.ci 101 = some CC) (hm : mg "Index" = some (.ref CC)) (hM : Mk K CC f)   : FnI P w K mg base G 1 101 "Index" 2 den_Index_init :=
  ⟨f, fd, ["self", "most"], CC, den_ok (N := ["self", "most"]) (ps := ["self", "most"]) (k := 0) F sc_Index_init (fun cdv A outer s H E hr0 => have hu0 := hr0.units; have hu1 := room65 hr0
    sss_cons (ss_if (st_cmp ops_lt (se_var 1) (se_int)) (sss_one (ss_raise T.x_BadText rfl)) (sss_nil))
    (sss_cons (ss_setf T.f_most (se_var 0) (se_var 1))
    (sss_cons (ss_setf T.f_parts (se_var 0) (se_lst (sa_nil)))
    (sss_cons (ss_setf T.f_gone (se_var 0) (se_dict0))
    (sss_cons (ss_setf T.f_where (se_var 0) (se_dict0))
    (sss_one (ss_setf T.f_joins (se_var 0) (se_int)))))))), hC, hm, hM, F.binds (ps := ["self", "most"]) fun _ _ _ _ _ _ us hl => match us, hl with | [_, _], _ => rfl⟩
theorem d_Hall_init {f CC : Addr} {fd : FuncData} (T : Txt K mg G C_BadText C_NoSuch C_BadCode C_BadAsk C_TooLarge C_BadDeed) (F : Fun K "__init__" "Hall.__init__" s_Hall_init f fd) (hC : G.ci 102 = some CC) (hm : mg "Hall" = some (.ref CC)) (hM : Mk K CC f) (D_Index_init : FnI P w K mg base G 1 101 "Index" 2 den_Index_init)  : FnI P w K mg base G 3 102 "Hall" 2 den_Hall_init :=
  ⟨f, fd, ["self", "most"], CC, den_ok (N := ["self", "most"]) (ps := ["self", "most"]) (k := 2) F sc_Hall_init (fun cdv A outer s H E hr0 => have hu0 := hr0.units; have hu1 := room65 hr0
    sss_cons (ss_setf T.f_index (se_var 0) (se_make D_Index_init hr0 (by omega) rfl (sa_cons (se_var 1) (sa_nil))))
    (sss_cons (ss_setf T.f_asks (se_var 0) (se_dict0))
    (sss_cons (ss_setf T.f_deeds (se_var 0) (se_lst (sa_nil)))
    (sss_one (ss_setf T.f_undone (se_var 0) (se_lst (sa_nil))))))), hC, hm, hM, F.binds (ps := ["self", "most"]) fun _ _ _ _ _ _ us hl => match us, hl with | [_, _], _ => rfl⟩
theorem d_law {f c_law P_law : Addr} {oc : Value} {od an : Option Addr} {osl : Array (Option Value)} {kV doc pm ct : Value} (T : Txt K mg G C_BadText C_NoSuch C_BadCode C_BadAsk C_TooLarge C_BadDeed) (lk : K.lookup f = some ⟨oc, od, .func (PySem.W.fnOf "law" "law" (defArgs s_law) (defBody s_law) (defScope s_law) .none kV doc pm an (.ref c_law) ct), osl⟩) (hcd : PySem.W.codeIn K (.ref c_law) "law" = true) (D_law_rounds : FnD P w K mg base G 2 "_law_rounds" 2 den_law_rounds) (D_check_text : FnD P w K mg base G 2 "check_text" 1 den_check_text) (D_decoded : FnD P w K mg base G 3 "decoded" 1 den_decoded) (D_read : FnD P w K mg base G 54 "read" 1 den_read) (D_Index_remove : FnM P w K mg base G 1 101 "remove" 2 den_Index_remove) (D_Tree_init : FnI P w K mg base G 1 103 "Tree" 1 den_Tree_init) (D_Tree_within : FnM P w K mg base G 2 103 "within" 3 den_Tree_within) (D_Hall_take : FnM P w K mg base G 2 102 "take" 2 den_Hall_take) (D_law_roll : FnD P w K mg base G 1 "_law_roll" 2 den_law_roll) (D_Hall_init : FnI P w K mg base G 3 102 "Hall" 2 den_Hall_init) (D_Index_init : FnI P w K mg base G 1 101 "Index" 2 den_Index_init) {a_law_told : Addr} {fd_law_told : FuncData} (F_law_told : Fun K "_law_told" "_law_told" s_law_told a_law_told fd_law_told) (B_law_told : L2.Binds K fd_law_told ["what"] []) (g_law_told : mg "_law_told" = some (.ref a_law_told)) (X_ : ∀ c C, G.ca c = some C → ∀ c' C', G.ca c' = some C' → PySem.W.exmOne K (.ref C) (.ref C') = some (decide (c' = c))) {C_IndexFault : Addr} (MIF_ : mg "IndexFault" = some (.ref C_IndexFault)) (FL_law_told : FlOk K G C_IndexFault [.ref C_BadText, .ref C_BadCode, .ref C_BadAsk, .ref C_NoSuch] [.ref C_TooLarge, .ref C_BadDeed, .type "ValueError"] (flOf flT_law_told)) (TB_law : LamX.TabB base mg c_law P_law) (hmT_law : (P_law, ("law" ++ ".<locals>.<lambda>" : Str)) ∈ G.T) (huT_law : ∀ p ∈ G.T, p.1 = P_law → p.2 = ("law" ++ ".<locals>.<lambda>" : Str)) :
    FnOk P w K mg base (L2.CX P w) 58 f (PySem.W.fnOf "law" "law" (defArgs s_law) (defBody s_law) (defScope s_law) .none kV doc pm an (.ref c_law) ct) ["script"] (spOf K G 1 den_law) :=
  law_den (N := ["script", "dice", "many", "hall", "index", "whats", "k", "j"]) (ps := ["script"]) (k := 57) lk hcd sc_law fun A outer s H E hr0 => have hu0 := hr0.units; have hu1 := room65 hr0
    sss_cons (ss_for (passes_of rfl) (si_seq (se_call D_law_rounds hr0 (by omega) rfl (sa_cons (se_var 0) (sa_cons (se_int) (sa_nil))))) (pg_name (i := 1) sc_law.nd rfl (by first | exact Or.inl rfl | exact Or.inr rfl)) (tgk_name (i := 1) (vs := [1])) (sss_cons (ss_asgT (is := [2, 3, 4]) (se_tup (sa_cons (se_op ops_add (se_int) (se_call D_law_roll hr0 (by omega) rfl (sa_cons (se_var 1) (sa_cons (se_int) (sa_nil))))) (sa_cons (se_make D_Hall_init hr0 (by omega) rfl (sa_cons (se_int) (sa_nil))) (sa_cons (se_make D_Index_init hr0 (by omega) rfl (sa_cons (se_int) (sa_nil))) (sa_nil))))) (pg_tup rfl (pgs_cons (pg_name (i := 2) sc_law.nd rfl (by first | exact Or.inl rfl | exact Or.inr rfl)) (pgs_cons (pg_name (i := 3) sc_law.nd rfl (by first | exact Or.inl rfl | exact Or.inr rfl)) (pgs_cons (pg_name (i := 4) sc_law.nd rfl (by first | exact Or.inl rfl | exact Or.inr rfl)) (pgs_nil))))) (tgk_tups (is := [2, 3, 4]) (vs := [2, 3, 4])) (by decide))
    (sss_lamsF (k := 55) (x := "_law_told") (a := "what") (Ng := ["what", "e", "some_v"]) 5 6 FL_law_told rfl (.cons rfl (LamX.lamS_by (sc := defScope s_law) (by decide +kernel)) (fun _ _ _ _ _ => rfl) (fun A outer s H E f c' hr0 => have hu0 := hr0.units; se_callP D_check_text hr0 (by omega) rfl (sa_cons (se_var 2) (sa_nil))) (.cons rfl (LamX.lamS_by (sc := defScope s_law) (by decide +kernel)) (fun _ _ _ _ _ => rfl) (fun A outer s H E f c' hr0 => have hu0 := hr0.units; se_callPX D_decoded hr0 (by omega) rfl (sa_cons (se_op ops_smulN (se_str) (se_var 2)) (sa_nil))) (.cons rfl (LamX.lamS_by (sc := defScope s_law) (by decide +kernel)) (fun _ _ _ _ _ => rfl) (fun A outer s H E f c' hr0 => have hu0 := hr0.units; se_callPX D_read hr0 (by omega) rfl (sa_cons (se_op ops_add (se_str) (se_callTy cas_strJ rfl T.b_str (by decide +kernel) (sa_cons (se_var 2) (sa_nil)))) (sa_nil))) (.cons rfl (LamX.lamS_by (sc := defScope s_law) (by decide +kernel)) (fun _ _ _ _ _ => rfl) (fun A outer s H E f c' hr0 => have hu0 := hr0.units; se_mt D_Index_remove hr0 (by omega) (se_var 4) (sa_cons (se_var 2) (sa_nil))) (.cons rfl (LamX.lamS_by (sc := defScope s_law) (by decide +kernel)) (fun _ _ _ _ _ => rfl) (fun A outer s H E f c' hr0 => have hu0 := hr0.units; se_mt D_Tree_within hr0 (by omega) (se_make0 D_Tree_init hr0 (by omega) rfl) (sa_cons (se_str) (sa_cons (se_op ops_add (se_int) (se_var 2)) (sa_nil)))) (.cons rfl (LamX.lamS_by (sc := defScope s_law) (by decide +kernel)) (fun _ _ _ _ _ => rfl) (fun A outer s H E f c' hr0 => have hu0 := hr0.units; se_mt D_Hall_take hr0 (by omega) (se_var 3) (sa_cons (se_var 2) (sa_nil))) .nil)))))) (by decide) sc_law.nd rfl rfl rfl (by first | exact Or.inl rfl | exact Or.inr rfl) (by decide) (by first | exact .inl rfl | exact .inr rfl) F_law_told B_law_told g_law_told sc_law_told rfl (by exact Or.inl rfl) (fun cdv => flags_gives (xc := "IndexFault") (n := "e") (y := "some_v") (x1 := "BadText") (c1 := .ref C_BadText) (v1 := .ref C_BadText) (x2 := "BadCode") (c2 := .ref C_BadCode) (v2 := .ref C_BadCode) (x3 := "BadAsk") (c3 := .ref C_BadAsk) (v3 := .ref C_BadAsk) (x4 := "NoSuch") (c4 := .ref C_NoSuch) (v4 := .ref C_NoSuch) (x5 := "TooLarge") (c5 := .ref C_TooLarge) (v5 := .ref C_TooLarge) (x6 := "BadDeed") (c6 := .ref C_BadDeed) (v6 := .ref C_BadDeed) (x7 := "ValueError") (c7 := .ty "ValueError") (v7 := .type "ValueError") sc_law_told.nd rfl rfl rfl rfl (fun _ => rfl) rfl rfl (by decide) MIF_ rfl T.b_isinstance (⟨rfl, .inl ⟨T.x_BadText.mg, rfl⟩, by decide, fun _ r => r⟩) (⟨rfl, .inl ⟨T.mg_BadCode, rfl⟩, by decide, fun _ r => r⟩) (⟨rfl, .inl ⟨T.mg_BadAsk, rfl⟩, by decide, fun _ r => r⟩) (⟨rfl, .inl ⟨T.x_NoSuch.mg, rfl⟩, by decide, fun _ r => r⟩) (⟨rfl, .inl ⟨T.x_TooLarge.mg, rfl⟩, by decide, fun _ r => r⟩) (⟨rfl, .inl ⟨T.x_BadDeed.mg, rfl⟩, by decide, fun _ r => r⟩) (⟨rfl, .inr ⟨T.b_ValueError, by decide +kernel, rfl, by decide⟩, by decide, fun _ r => r⟩) (by decide) (by decide) (by decide) (by decide) (fun _ _ _ _ => rfl) (fun _ _ _ _ _ => rfl)) rfl TB_law rfl hmT_law huT_law hr0 (by decide) (se_op ops_add (se_lc (n := 100000) (own := [("j", 7)]) sc_law.nd (si_rng1 (sa_cons (se_int) (sa_nil)) rfl T.b_range) (blkOk_by (N := ["script", "dice", "many", "hall", "index", "whats", "k", "j"]) (sc := (defScope s_law)) (by decide +kernel)) (fun _ _ _ _ _ => pg_name (i := 7) sc_law.nd rfl (by first | exact Or.inl rfl | exact Or.inr rfl)) (tgk_name (i := 7) (vs := [7])) (fun _ _ _ _ _ => sts_nil) (fun _ _ _ _ _ => se_cmp (ops_eq hu0) (se_var 7) (se_var 6))) (se_lst (sa_cons (se_bl) (sa_nil)))) (ops_ne hu0) (passes_of rfl) rfl rfl T.b_len rfl T.b_range (sss_nil) rfl (fun _ => rfl) rfl)))
    (sss_one (ss_ret (se_bl)))
theorem d_Index_text {f CC : Addr} {fd : FuncData} (T : Txt K mg G C_BadText C_NoSuch C_BadCode C_BadAsk C_TooLarge C_BadDeed) (F : Fun K "text" "Index.text" s_Index_text f fd) (hC : G.ci 101 = some CC) (cl : Cls K CC) (mt : Meth K CC "text" f)   : FnM P w K mg base G 1 101 "text" 2 den_Index_text :=
  ⟨f, fd, ["self", "number"], CC, den_ok (N := ["self", "number", "part"]) (ps := ["self", "number"]) (k := 0) F sc_Index_text (fun cdv A outer s H E hr0 => have hu0 := hr0.units; have hu1 := room65 hr0
    sss_bad), hC, cl, mt, F.binds (ps := ["self", "number"]) fun _ _ _ _ _ _ us hl => match us, hl with | [_, _], _ => rfl⟩
theorem d_Index_holds {f CC : Addr} {fd : FuncData} (T : Txt K mg G C_BadText C_NoSuch C_BadCode C_BadAsk C_TooLarge C_BadDeed) (F : Fun K "holds" "Index.holds" s_Index_holds f fd) (hC : G.ci 101 = some CC) (cl : Cls K CC) (mt : Meth K CC "holds" f)   : FnM P w K mg base G 1 101 "holds" 2 den_Index_holds :=
  ⟨f, fd, ["self", "word"], CC, den_ok (N := ["self", "word", "found", "part", "number"]) (ps := ["self", "word"]) (k := 0) F sc_Index_holds (fun cdv A outer s H E hr0 => have hu0 := hr0.units; have hu1 := room65 hr0
    sss_bad), hC, cl, mt, F.binds (ps := ["self", "word"]) fun _ _ _ _ _ _ us hl => match us, hl with | [_, _], _ => rfl⟩
theorem d_Index_places {f CC : Addr} {fd : FuncData} (T : Txt K mg G C_BadText C_NoSuch C_BadCode C_BadAsk C_TooLarge C_BadDeed) (F : Fun K "places" "Index.places" s_Index_places f fd) (hC : G.ci 101 = some CC) (cl : Cls K CC) (mt : Meth K CC "places" f)   : FnM P w K mg base G 1 101 "places" 3 den_Index_places :=
  ⟨f, fd, ["self", "word", "number"], CC, den_ok (N := ["self", "word", "number", "part"]) (ps := ["self", "word", "number"]) (k := 0) F sc_Index_places (fun cdv A outer s H E hr0 => have hu0 := hr0.units; have hu1 := room65 hr0
    sss_bad), hC, cl, mt, F.binds (ps := ["self", "word", "number"]) fun _ _ _ _ _ _ us hl => match us, hl with | [_, _, _], _ => rfl⟩
theorem d_Index_all_words {f CC : Addr} {fd : FuncData} (T : Txt K mg G C_BadText C_NoSuch C_BadCode C_BadAsk C_TooLarge C_BadDeed) (F : Fun K "all_words" "Index.all_words" s_Index_all_words f fd) (hC : G.ci 101 = some CC) (cl : Cls K CC) (mt : Meth K CC "all_words" f)   : FnM P w K mg base G 1 101 "all_words" 1 den_Index_all_words :=
  ⟨f, fd, ["self"], CC, den_ok (N := ["self", "found", "part", "word"]) (ps := ["self"]) (k := 0) F sc_Index_all_words (fun cdv A outer s H E hr0 => have hu0 := hr0.units; have hu1 := room65 hr0
    sss_bad), hC, cl, mt, F.binds (ps := ["self"]) fun _ _ _ _ _ _ us hl => match us, hl with | [_], _ => rfl⟩
theorem d_Hall_every_text {f CC : Addr} {fd : FuncData} (T : Txt K mg G C_BadText C_NoSuch C_BadCode C_BadAsk C_TooLarge C_BadDeed) (F : Fun K "every_text" "Hall.every_text" s_Hall_every_text f fd) (hC : G.ci 102 = some CC) (cl : Cls K CC) (mt : Meth K CC "every_text" f)   : FnM P w K mg base G 1 102 "every_text" 1 den_Hall_every_text :=
  ⟨f, fd, ["self"], CC, den_ok (N := ["self", "number"]) (ps := ["self"]) (k := 0) F sc_Hall_every_text (fun cdv A outer s H E hr0 => have hu0 := hr0.units; have hu1 := room65 hr0
    sss_bad), hC, cl, mt, F.binds (ps := ["self"]) fun _ _ _ _ _ _ us hl => match us, hl with | [_], _ => rfl⟩
theorem d_Hall_find {f CC : Addr} {fd : FuncData} (T : Txt K mg G C_BadText C_NoSuch C_BadCode C_BadAsk C_TooLarge C_BadDeed) (F : Fun K "find" "Hall.find" s_Hall_find f fd) (hC : G.ci 102 = some CC) (cl : Cls K CC) (mt : Meth K CC "find" f)   : FnM P w K mg base G 1 102 "find" 2 den_Hall_find :=
  ⟨f, fd, ["self", "text"], CC, den_ok (N := ["self", "text"]) (ps := ["self", "text"]) (k := 0) F sc_Hall_find (fun cdv A outer s H E hr0 => have hu0 := hr0.units; have hu1 := room65 hr0
    sss_bad), hC, cl, mt, F.binds (ps := ["self", "text"]) fun _ _ _ _ _ _ us hl => match us, hl with | [_, _], _ => rfl⟩
theorem d_Tree_node {f CC : Addr} {fd : FuncData} (T : Txt K mg G C_BadText C_NoSuch C_BadCode C_BadAsk C_TooLarge C_BadDeed) (F : Fun K "node" "Tree.node" s_Tree_node f fd) (hC : G.ci 103 = some CC) (cl : Cls K CC) (mt : Meth K CC "node" f)   : FnM P w K mg base G 1 103 "node" 2 den_Tree_node :=
  ⟨f, fd, ["self", "text"], CC, den_ok (N := ["self", "text", "here", "sign"]) (ps := ["self", "text"]) (k := 0) F sc_Tree_node (fun cdv A outer s H E hr0 => have hu0 := hr0.units; have hu1 := room65 hr0
    sss_bad), hC, cl, mt, F.binds (ps := ["self", "text"]) fun _ _ _ _ _ _ us hl => match us, hl with | [_, _], _ => rfl⟩
end
end Law_indexhall_k30_refusals_apart
set_option maxRecDepth 100000
namespace Law_indexhall_k30_refusals_apart.R
open PySem L2 Den
/-! ### the parts of an ask's text; the reader as a relation -/
structure Tk where
  kd : List Nat
  wh : W
  pl : Nat
def tkW (t : Tk) : W := .tup [.str t.kd, t.wh, .int t.pl]
inductive Res
  | ok (a : W) (k : Nat)
  | er (p : Nat)
def rOut : Res → List O → Out W
  | .ok a k, h => .ok (.tup [a, .int k]) h
  | .er p, h => .exc 4 (some (.int p)) h
abbrev AND : List Nat := [97, 110, 100]
abbrev OR : List Nat := [111, 114]
abbrev NOT : List Nat := [110, 111, 116]
abbrev OPN : List Nat := [111, 112, 101, 110]
abbrev CLS : List Nat := [99, 108, 111, 115, 101]
abbrev PHR : List Nat := [112, 104, 114, 97, 115, 101]
abbrev BEG : List Nat := [98, 101, 103, 105, 110]
abbrev WRD : List Nat := [119, 111, 114, 100]
abbrev NEA : List Nat := [110, 101, 97, 114]
inductive Ch (f : Nat → Res → Prop) (kw : List Nat) (ts : List Tk) : Nat → W → Nat → Res → Prop
  | stop {a : W} {k : Nat} : (∀ t, ts[k]? = some t → t.kd ≠ kw) → Ch f kw ts 0 a k (.ok a k)
  | step {a o : W} {k k2 c : Nat} {t : Tk} {r : Res} : ts[k]? = some t → t.kd = kw → f (k + 1) (.ok o k2) → Ch f kw ts c (.tup [.str kw, a, o]) k2 r → Ch f kw ts (c + 1) a k r
  | err {a : W} {k p : Nat} {t : Tk} : ts[k]? = some t → t.kd = kw → f (k + 1) (.er p) → Ch f kw ts 0 a k (.er p)
/-- one, then a chain -/
def Row (f : Nat → Res → Prop) (kw : List Nat) (ts : List Tk) (k : Nat) (r : Res) : Prop := (∃ a k1 c, f k (.ok a k1) ∧ Ch f kw ts c a k1 r ∧ c < 1000) ∨ ∃ p, f k (.er p) ∧ r = .er p
section
variable {ts : List Tk} {p : Nat} {h : List O}
theorem tk_at {k : Nat} {t : Tk} (hl : lstAt h p = some (ts.map tkW)) (hk : ts[k]? = some t) : oIx (.ref p) (.int (k : Nat)) h = .ok (tkW t) h := by
  obtain ⟨hlt, e⟩ := List.getElem?_eq_some_iff.mp hk
  rw [ix_r, hl, withL_s, ixL_ok (by omega) (by rw [List.length_map]; omega), List.getD_eq_getElem?_getD, Int.toNat_natCast, List.getElem?_map, hk]
  rfl
theorem tk_w {k : Nat} {t : Tk} (hl : lstAt h p = some (ts.map tkW)) (hk : ts[k]? = some t) : (withL (lstAt h p) fun xs => ixL xs (k : Nat) h) = .ok (tkW t) h := by
  rw [← ix_r]; exact tk_at hl hk
theorem tk_kd {t : Tk} : oIx (tkW t) (.int 0) h = .ok (.str t.kd) h := rfl
theorem tk_wh {t : Tk} : oIx (tkW t) (.int 1) h = .ok t.wh h := rfl
/-- the test of a chain -/
def chC (kw : List Nat) : M Bool := mAnd (mB (mOp oLt (mVar 1) (mCB oLen (mCons (mVar 0) (mNil))))) (mB (mOp oEq (mOp oIx (mOp oIx (mVar 0) (mVar 1)) (mC (.int 0))) (mC (.str kw))))
theorem ch_yes {kw : List Nat} {k : Nat} {t : Tk} {r : List (Option W)} (hl : lstAt h p = some (ts.map tkW)) (hk : ts[k]? = some t) (hkd : t.kd = kw) : chC kw (some (.ref p) :: some (.int (k : Nat)) :: r) h = .ok true h := by
  have hlt := (List.getElem?_eq_some_iff.mp hk).1
  unfold chC
  simp (disch := first | omega | (simp only [List.length_append, List.length_cons, List.length_nil, List.length_set, List.length_drop, List.length_take, List.length_map]; omega)) only [len_r hl, tk_w hl hk, tk_kd, hkd, mVar_z, Nat.reduceAdd, Nat.zero_add, Int.zero_add, Int.reduceAdd, Int.reduceSub, Int.reduceNeg, ap_Lst, ap_Tup, nil_app, cons_app, List.length_append, lst_last, mVar_s, ok_bnd, ok_stm, exc_bnd, ev_okE, exc_stm, ap_C, ap_Op, ap_Un, ap_B, ap_Chain, ap_asB, ap_And, ap_Or, ap_Not, ap_AndV, ap_OrV, ap_NotV, ap_If, ap_Nil, ap_Cons, ap_CB, ap_Meth, ap_Part, ap_NoPart, ap_Sl, ap_Yes, add_ii, add_ss, sub_ii, neg_i, mul_ii, fdiv_ii, mod_ii, eq_ii, ne_ii, eq_ss, ne_ss, lt_ii, le_ii, gt_ii, ge_ii, lt_ss, gt_ss, le_ss, ge_ss, len_s, len_t, abs_i, int_i, int_b, max_ii, min_ii, ix_s, ixL_0, ixL_1, ixL_2, ixL_3, ixL_n, ixL_i, ixL_st, setL_n, setL_i, List.length_map, List.length_set, ix_r, getL_r, ix_tL, withL_s, setL_0, setL_1, setL_2, set_r, app_r, lst_z, lst_s, iadd_ii, tuple_r, mul_ri, sl_s, sl_rol, sl_t, sl_r, cut_from, cut_to, ap_Seq, nx_seq, rt_seq, ct_seq, bk_seq, exc_seq, ap_Raise, ap_Skip, ap_Brk, ap_Cnt, ap_Drop, ap_Ret, ap_IfS, ap_Set, ap_Ts, ap_AsgT, tgT_t, tgTs_n, tgTs_c, ap_Aug, ap_SetI, ap_AugI, mFor_ap, ap_Rng1, ap_Rng2, rng1_ok, rng2_ok, ap_Iter, src_t, src_s, src_rL, ap_Comp, wipe_n, wipe_c, len_cons, len_nil, zip_cc, zip_nn, foldl_c, foldl_n, set_z, set_s, ite_t, ite_f, ite_T, ite_F, sing_lt, sing_eq, ty_r, ty_s, isS, cut_mid, decide_eq_true_eq, if_pos, if_neg]
  rfl
theorem ch_no {kw : List Nat} {k : Nat} {r : List (Option W)} (hl : lstAt h p = some (ts.map tkW)) (hk : ∀ t, ts[k]? = some t → t.kd ≠ kw) : chC kw (some (.ref p) :: some (.int (k : Nat)) :: r) h = .ok false h := by
  unfold chC
  by_cases hlt : k < ts.length
  · have e := List.getElem?_eq_getElem hlt
    have hn := hk _ e
    simp (disch := first | omega | (simp only [List.length_append, List.length_cons, List.length_nil, List.length_set, List.length_drop, List.length_take, List.length_map]; omega)) only [len_r hl, tk_w hl e, tk_kd, hn, mVar_z, Nat.reduceAdd, Nat.zero_add, Int.zero_add, Int.reduceAdd, Int.reduceSub, Int.reduceNeg, ap_Lst, ap_Tup, nil_app, cons_app, List.length_append, lst_last, mVar_s, ok_bnd, ok_stm, exc_bnd, ev_okE, exc_stm, ap_C, ap_Op, ap_Un, ap_B, ap_Chain, ap_asB, ap_And, ap_Or, ap_Not, ap_AndV, ap_OrV, ap_NotV, ap_If, ap_Nil, ap_Cons, ap_CB, ap_Meth, ap_Part, ap_NoPart, ap_Sl, ap_Yes, add_ii, add_ss, sub_ii, neg_i, mul_ii, fdiv_ii, mod_ii, eq_ii, ne_ii, eq_ss, ne_ss, lt_ii, le_ii, gt_ii, ge_ii, lt_ss, gt_ss, le_ss, ge_ss, len_s, len_t, abs_i, int_i, int_b, max_ii, min_ii, ix_s, ixL_0, ixL_1, ixL_2, ixL_3, ixL_n, ixL_i, ixL_st, setL_n, setL_i, List.length_map, List.length_set, ix_r, getL_r, ix_tL, withL_s, setL_0, setL_1, setL_2, set_r, app_r, lst_z, lst_s, iadd_ii, tuple_r, mul_ri, sl_s, sl_rol, sl_t, sl_r, cut_from, cut_to, ap_Seq, nx_seq, rt_seq, ct_seq, bk_seq, exc_seq, ap_Raise, ap_Skip, ap_Brk, ap_Cnt, ap_Drop, ap_Ret, ap_IfS, ap_Set, ap_Ts, ap_AsgT, tgT_t, tgTs_n, tgTs_c, ap_Aug, ap_SetI, ap_AugI, mFor_ap, ap_Rng1, ap_Rng2, rng1_ok, rng2_ok, ap_Iter, src_t, src_s, src_rL, ap_Comp, wipe_n, wipe_c, len_cons, len_nil, zip_cc, zip_nn, foldl_c, foldl_n, set_z, set_s, ite_t, ite_f, ite_T, ite_F, sing_lt, sing_eq, ty_r, ty_s, isS, cut_mid, decide_eq_true_eq, if_pos, if_neg]
    rfl
  · simp (disch := first | omega | (simp only [List.length_append, List.length_cons, List.length_nil, List.length_set, List.length_drop, List.length_take, List.length_map]; omega)) only [len_r hl, mVar_z, Nat.reduceAdd, Nat.zero_add, Int.zero_add, Int.reduceAdd, Int.reduceSub, Int.reduceNeg, ap_Lst, ap_Tup, nil_app, cons_app, List.length_append, lst_last, mVar_s, ok_bnd, ok_stm, exc_bnd, ev_okE, exc_stm, ap_C, ap_Op, ap_Un, ap_B, ap_Chain, ap_asB, ap_And, ap_Or, ap_Not, ap_AndV, ap_OrV, ap_NotV, ap_If, ap_Nil, ap_Cons, ap_CB, ap_Meth, ap_Part, ap_NoPart, ap_Sl, ap_Yes, add_ii, add_ss, sub_ii, neg_i, mul_ii, fdiv_ii, mod_ii, eq_ii, ne_ii, eq_ss, ne_ss, lt_ii, le_ii, gt_ii, ge_ii, lt_ss, gt_ss, le_ss, ge_ss, len_s, len_t, abs_i, int_i, int_b, max_ii, min_ii, ix_s, ixL_0, ixL_1, ixL_2, ixL_3, ixL_n, ixL_i, ixL_st, setL_n, setL_i, List.length_map, List.length_set, ix_r, getL_r, ix_tL, withL_s, setL_0, setL_1, setL_2, set_r, app_r, lst_z, lst_s, iadd_ii, tuple_r, mul_ri, sl_s, sl_rol, sl_t, sl_r, cut_from, cut_to, ap_Seq, nx_seq, rt_seq, ct_seq, bk_seq, exc_seq, ap_Raise, ap_Skip, ap_Brk, ap_Cnt, ap_Drop, ap_Ret, ap_IfS, ap_Set, ap_Ts, ap_AsgT, tgT_t, tgTs_n, tgTs_c, ap_Aug, ap_SetI, ap_AugI, mFor_ap, ap_Rng1, ap_Rng2, rng1_ok, rng2_ok, ap_Iter, src_t, src_s, src_rL, ap_Comp, wipe_n, wipe_c, len_cons, len_nil, zip_cc, zip_nn, foldl_c, foldl_n, set_z, set_s, ite_t, ite_f, ite_T, ite_F, sing_lt, sing_eq, ty_r, ty_s, isS, cut_mid, decide_eq_true_eq, if_pos, if_neg]
variable {f : Nat → Res → Prop} {rec : List W → List O → Out W} {en : Int} {kw : List Nat}
def chB (kw : List Nat) (rec : List W → List O → Out W) : Sm := mSeq (mAsg (tgT [4, 1]) (mCB (fun ws h => if ws.length = 3 then rec ws h else .bad) (mCons (mVar 0) (mCons (mOp oAdd (mVar 1) (mC (.int 1))) (mCons (mVar 2) (mNil)))))) (mSet 3 (mTup (mCons (mC (.str kw)) (mCons (mVar 3) (mCons (mVar 4) (mNil))))))
theorem ch_go (hl : lstAt h p = some (ts.map tkW)) (hf : ∀ k r, f k r → rec [.ref p, .int (k : Nat), .int en] h = rOut r h) {c : Nat} {a : W} {k : Nat} {r : Res} (hc : Ch f kw ts c a k r) : ∀ (fuel : Nat) (o4 : Option W), c < fuel →
    (∀ a' k', r = .ok a' k' → ∃ o, whileGo (chC kw) (chB kw rec) fuel [some (.ref p), some (.int k), some (.int en), some a, o4] h = .nx [some (.ref p), some (.int k'), some (.int en), some a', o] h) ∧
    ∀ q, r = .er q → ∃ e, whileGo (chC kw) (chB kw rec) fuel [some (.ref p), some (.int k), some (.int en), some a, o4] h = .exc 4 (some (.int q)) e h := by
  induction hc with
  | stop hk =>
    intro fuel o4 hlt
    obtain ⟨n, rfl⟩ : ∃ n, fuel = n + 1 := ⟨fuel - 1, by omega⟩
    refine ⟨fun a' k' e => ?_, fun q e => by cases e⟩
    cases e
    refine ⟨o4, ?_⟩
    unfold whileGo
    rw [ch_no hl hk]
    rfl
  | @step a o k k2 c t r hk hkd hfo hch ih =>
    intro fuel o4 hlt
    obtain ⟨n, rfl⟩ : ∃ n, fuel = n + 1 := ⟨fuel - 1, by omega⟩
    have e1 := hf _ _ hfo
    have eb : chB kw rec [some (.ref p), some (.int k), some (.int en), some a, o4] h = .nx [some (.ref p), some (.int k2), some (.int en), some (.tup [.str kw, a, o]), some o] h := by
      unfold chB
      rw [Int.natCast_add, Int.natCast_one] at e1
      simp (disch := first | omega | (simp only [List.length_append, List.length_cons, List.length_nil, List.length_set, List.length_drop, List.length_take, List.length_map]; omega)) only [e1, rOut, mVar_z, Nat.reduceAdd, Nat.zero_add, Int.zero_add, Int.reduceAdd, Int.reduceSub, Int.reduceNeg, ap_Lst, ap_Tup, nil_app, cons_app, List.length_append, lst_last, mVar_s, ok_bnd, ok_stm, exc_bnd, ev_okE, exc_stm, ap_C, ap_Op, ap_Un, ap_B, ap_Chain, ap_asB, ap_And, ap_Or, ap_Not, ap_AndV, ap_OrV, ap_NotV, ap_If, ap_Nil, ap_Cons, ap_CB, ap_Meth, ap_Part, ap_NoPart, ap_Sl, ap_Yes, add_ii, add_ss, sub_ii, neg_i, mul_ii, fdiv_ii, mod_ii, eq_ii, ne_ii, eq_ss, ne_ss, lt_ii, le_ii, gt_ii, ge_ii, lt_ss, gt_ss, le_ss, ge_ss, len_s, len_t, abs_i, int_i, int_b, max_ii, min_ii, ix_s, ixL_0, ixL_1, ixL_2, ixL_3, ixL_n, ixL_i, ixL_st, setL_n, setL_i, List.length_map, List.length_set, ix_r, getL_r, ix_tL, withL_s, setL_0, setL_1, setL_2, set_r, app_r, lst_z, lst_s, iadd_ii, tuple_r, mul_ri, sl_s, sl_rol, sl_t, sl_r, cut_from, cut_to, ap_Seq, nx_seq, rt_seq, ct_seq, bk_seq, exc_seq, ap_Raise, ap_Skip, ap_Brk, ap_Cnt, ap_Drop, ap_Ret, ap_IfS, ap_Set, ap_Ts, ap_AsgT, tgT_t, tgTs_n, tgTs_c, ap_Aug, ap_SetI, ap_AugI, mFor_ap, ap_Rng1, ap_Rng2, rng1_ok, rng2_ok, ap_Iter, src_t, src_s, src_rL, ap_Comp, wipe_n, wipe_c, len_cons, len_nil, zip_cc, zip_nn, foldl_c, foldl_n, set_z, set_s, ite_t, ite_f, ite_T, ite_F, sing_lt, sing_eq, ty_r, ty_s, isS, cut_mid, decide_eq_true_eq, if_pos, if_neg]
    obtain ⟨i1, i2⟩ := ih n (some o) (by omega)
    unfold whileGo
    rw [ch_yes hl hk hkd, ok_stm, if_pos rfl, eb]
    exact ⟨i1, i2⟩
  | @err a k q t hk hkd hfo =>
    intro fuel o4 hlt
    obtain ⟨n, rfl⟩ : ∃ n, fuel = n + 1 := ⟨fuel - 1, by omega⟩
    have e1 := hf _ _ hfo
    refine ⟨fun a' k' e => (by cases e), fun q' e => ?_⟩
    cases e
    have eb : ∃ e', chB kw rec [some (.ref p), some (.int k), some (.int en), some a, o4] h = .exc 4 (some (.int q)) e' h := by
      unfold chB
      rw [Int.natCast_add, Int.natCast_one] at e1
      simp (disch := first | omega | (simp only [List.length_append, List.length_cons, List.length_nil, List.length_set, List.length_drop, List.length_take, List.length_map]; omega)) only [e1, rOut, mVar_z, Nat.reduceAdd, Nat.zero_add, Int.zero_add, Int.reduceAdd, Int.reduceSub, Int.reduceNeg, ap_Lst, ap_Tup, nil_app, cons_app, List.length_append, lst_last, mVar_s, ok_bnd, ok_stm, exc_bnd, ev_okE, exc_stm, ap_C, ap_Op, ap_Un, ap_B, ap_Chain, ap_asB, ap_And, ap_Or, ap_Not, ap_AndV, ap_OrV, ap_NotV, ap_If, ap_Nil, ap_Cons, ap_CB, ap_Meth, ap_Part, ap_NoPart, ap_Sl, ap_Yes, add_ii, add_ss, sub_ii, neg_i, mul_ii, fdiv_ii, mod_ii, eq_ii, ne_ii, eq_ss, ne_ss, lt_ii, le_ii, gt_ii, ge_ii, lt_ss, gt_ss, le_ss, ge_ss, len_s, len_t, abs_i, int_i, int_b, max_ii, min_ii, ix_s, ixL_0, ixL_1, ixL_2, ixL_3, ixL_n, ixL_i, ixL_st, setL_n, setL_i, List.length_map, List.length_set, ix_r, getL_r, ix_tL, withL_s, setL_0, setL_1, setL_2, set_r, app_r, lst_z, lst_s, iadd_ii, tuple_r, mul_ri, sl_s, sl_rol, sl_t, sl_r, cut_from, cut_to, ap_Seq, nx_seq, rt_seq, ct_seq, bk_seq, exc_seq, ap_Raise, ap_Skip, ap_Brk, ap_Cnt, ap_Drop, ap_Ret, ap_IfS, ap_Set, ap_Ts, ap_AsgT, tgT_t, tgTs_n, tgTs_c, ap_Aug, ap_SetI, ap_AugI, mFor_ap, ap_Rng1, ap_Rng2, rng1_ok, rng2_ok, ap_Iter, src_t, src_s, src_rL, ap_Comp, wipe_n, wipe_c, len_cons, len_nil, zip_cc, zip_nn, foldl_c, foldl_n, set_z, set_s, ite_t, ite_f, ite_T, ite_F, sing_lt, sing_eq, ty_r, ty_s, isS, cut_mid, decide_eq_true_eq, if_pos, if_neg]
      exact ⟨_, rfl⟩
    obtain ⟨e', eb⟩ := eb
    refine ⟨e', ?_⟩
    unfold whileGo
    rw [ch_yes hl hk hkd, ok_stm, if_pos rfl, eb]
def rowB (kw : List Nat) (rec : List W → List O → Out W) : Sm := mSeq (mAsg (tgT [3, 1]) (mCB (fun ws h => if ws.length = 3 then rec ws h else .bad) (mCons (mVar 0) (mCons (mVar 1) (mCons (mVar 2) (mNil)))))) (mSeq (mWhile 100000 (chC kw) (chB kw rec)) (mRet (mTup (mCons (mVar 3) (mCons (mVar 1) (mNil))))))
theorem row_den (hl : lstAt h p = some (ts.map tkW)) (hf : ∀ k r, f k r → rec [.ref p, .int (k : Nat), .int en] h = rOut r h) {k : Nat} {r : Res} (hr : Row f kw ts k r) : mFun 5 (rowB kw rec) [.ref p, .int (k : Nat), .int en] h = rOut r h := by
  unfold mFun rowB
  simp only [startE, List.map_cons, List.map_nil, List.length_cons, List.length_nil, List.cons_append, List.nil_append, Nat.zero_add, Nat.reduceAdd, Nat.reduceSub, List.replicate_succ, List.replicate_zero]
  rcases hr with ⟨a, k1, c, h0, hc, hlt⟩ | ⟨q, h0, rfl⟩
  · have e1 := hf _ _ h0
    obtain ⟨i1, i2⟩ := ch_go hl hf hc 100000 none (by omega)
    cases r with
    | ok a' k' =>
      obtain ⟨o, e2⟩ := i1 a' k' rfl
      simp (disch := first | omega | (simp only [List.length_append, List.length_cons, List.length_nil, List.length_set, List.length_drop, List.length_take, List.length_map]; omega)) only [e1, rOut, mWhile, e2, mVar_z, Nat.reduceAdd, Nat.zero_add, Int.zero_add, Int.reduceAdd, Int.reduceSub, Int.reduceNeg, ap_Lst, ap_Tup, nil_app, cons_app, List.length_append, lst_last, mVar_s, ok_bnd, ok_stm, exc_bnd, ev_okE, exc_stm, ap_C, ap_Op, ap_Un, ap_B, ap_Chain, ap_asB, ap_And, ap_Or, ap_Not, ap_AndV, ap_OrV, ap_NotV, ap_If, ap_Nil, ap_Cons, ap_CB, ap_Meth, ap_Part, ap_NoPart, ap_Sl, ap_Yes, add_ii, add_ss, sub_ii, neg_i, mul_ii, fdiv_ii, mod_ii, eq_ii, ne_ii, eq_ss, ne_ss, lt_ii, le_ii, gt_ii, ge_ii, lt_ss, gt_ss, le_ss, ge_ss, len_s, len_t, abs_i, int_i, int_b, max_ii, min_ii, ix_s, ixL_0, ixL_1, ixL_2, ixL_3, ixL_n, ixL_i, ixL_st, setL_n, setL_i, List.length_map, List.length_set, ix_r, getL_r, ix_tL, withL_s, setL_0, setL_1, setL_2, set_r, app_r, lst_z, lst_s, iadd_ii, tuple_r, mul_ri, sl_s, sl_rol, sl_t, sl_r, cut_from, cut_to, ap_Seq, nx_seq, rt_seq, ct_seq, bk_seq, exc_seq, ap_Raise, ap_Skip, ap_Brk, ap_Cnt, ap_Drop, ap_Ret, ap_IfS, ap_Set, ap_Ts, ap_AsgT, tgT_t, tgTs_n, tgTs_c, ap_Aug, ap_SetI, ap_AugI, mFor_ap, ap_Rng1, ap_Rng2, rng1_ok, rng2_ok, ap_Iter, src_t, src_s, src_rL, ap_Comp, wipe_n, wipe_c, len_cons, len_nil, zip_cc, zip_nn, foldl_c, foldl_n, set_z, set_s, ite_t, ite_f, ite_T, ite_F, sing_lt, sing_eq, ty_r, ty_s, isS, cut_mid, decide_eq_true_eq, if_pos, if_neg]
    | er q =>
      obtain ⟨o, e2⟩ := i2 q rfl
      simp (disch := first | omega | (simp only [List.length_append, List.length_cons, List.length_nil, List.length_set, List.length_drop, List.length_take, List.length_map]; omega)) only [e1, rOut, mWhile, e2, mVar_z, Nat.reduceAdd, Nat.zero_add, Int.zero_add, Int.reduceAdd, Int.reduceSub, Int.reduceNeg, ap_Lst, ap_Tup, nil_app, cons_app, List.length_append, lst_last, mVar_s, ok_bnd, ok_stm, exc_bnd, ev_okE, exc_stm, ap_C, ap_Op, ap_Un, ap_B, ap_Chain, ap_asB, ap_And, ap_Or, ap_Not, ap_AndV, ap_OrV, ap_NotV, ap_If, ap_Nil, ap_Cons, ap_CB, ap_Meth, ap_Part, ap_NoPart, ap_Sl, ap_Yes, add_ii, add_ss, sub_ii, neg_i, mul_ii, fdiv_ii, mod_ii, eq_ii, ne_ii, eq_ss, ne_ss, lt_ii, le_ii, gt_ii, ge_ii, lt_ss, gt_ss, le_ss, ge_ss, len_s, len_t, abs_i, int_i, int_b, max_ii, min_ii, ix_s, ixL_0, ixL_1, ixL_2, ixL_3, ixL_n, ixL_i, ixL_st, setL_n, setL_i, List.length_map, List.length_set, ix_r, getL_r, ix_tL, withL_s, setL_0, setL_1, setL_2, set_r, app_r, lst_z, lst_s, iadd_ii, tuple_r, mul_ri, sl_s, sl_rol, sl_t, sl_r, cut_from, cut_to, ap_Seq, nx_seq, rt_seq, ct_seq, bk_seq, exc_seq, ap_Raise, ap_Skip, ap_Brk, ap_Cnt, ap_Drop, ap_Ret, ap_IfS, ap_Set, ap_Ts, ap_AsgT, tgT_t, tgTs_n, tgTs_c, ap_Aug, ap_SetI, ap_AugI, mFor_ap, ap_Rng1, ap_Rng2, rng1_ok, rng2_ok, ap_Iter, src_t, src_s, src_rL, ap_Comp, wipe_n, wipe_c, len_cons, len_nil, zip_cc, zip_nn, foldl_c, foldl_n, set_z, set_s, ite_t, ite_f, ite_T, ite_F, sing_lt, sing_eq, ty_r, ty_s, isS, cut_mid, decide_eq_true_eq, if_pos, if_neg]
  · have e1 := hf _ _ h0
    simp (disch := first | omega | (simp only [List.length_append, List.length_cons, List.length_nil, List.length_set, List.length_drop, List.length_take, List.length_map]; omega)) only [e1, rOut, mVar_z, Nat.reduceAdd, Nat.zero_add, Int.zero_add, Int.reduceAdd, Int.reduceSub, Int.reduceNeg, ap_Lst, ap_Tup, nil_app, cons_app, List.length_append, lst_last, mVar_s, ok_bnd, ok_stm, exc_bnd, ev_okE, exc_stm, ap_C, ap_Op, ap_Un, ap_B, ap_Chain, ap_asB, ap_And, ap_Or, ap_Not, ap_AndV, ap_OrV, ap_NotV, ap_If, ap_Nil, ap_Cons, ap_CB, ap_Meth, ap_Part, ap_NoPart, ap_Sl, ap_Yes, add_ii, add_ss, sub_ii, neg_i, mul_ii, fdiv_ii, mod_ii, eq_ii, ne_ii, eq_ss, ne_ss, lt_ii, le_ii, gt_ii, ge_ii, lt_ss, gt_ss, le_ss, ge_ss, len_s, len_t, abs_i, int_i, int_b, max_ii, min_ii, ix_s, ixL_0, ixL_1, ixL_2, ixL_3, ixL_n, ixL_i, ixL_st, setL_n, setL_i, List.length_map, List.length_set, ix_r, getL_r, ix_tL, withL_s, setL_0, setL_1, setL_2, set_r, app_r, lst_z, lst_s, iadd_ii, tuple_r, mul_ri, sl_s, sl_rol, sl_t, sl_r, cut_from, cut_to, ap_Seq, nx_seq, rt_seq, ct_seq, bk_seq, exc_seq, ap_Raise, ap_Skip, ap_Brk, ap_Cnt, ap_Drop, ap_Ret, ap_IfS, ap_Set, ap_Ts, ap_AsgT, tgT_t, tgTs_n, tgTs_c, ap_Aug, ap_SetI, ap_AugI, mFor_ap, ap_Rng1, ap_Rng2, rng1_ok, rng2_ok, ap_Iter, src_t, src_s, src_rL, ap_Comp, wipe_n, wipe_c, len_cons, len_nil, zip_cc, zip_nn, foldl_c, foldl_n, set_z, set_s, ite_t, ite_f, ite_T, ite_F, sing_lt, sing_eq, ty_r, ty_s, isS, cut_mid, decide_eq_true_eq, if_pos, if_neg]
end
theorem every_is {rec : List W → List O → Out W} : den_every_at rec = mFun 5 (rowB AND rec) := rfl
theorem some_is {rec : List W → List O → Out W} : den_some_at rec = mFun 5 (rowB OR (den_every_at rec)) := rfl
end Law_indexhall_k30_refusals_apart.R
set_option maxRecDepth 100000
namespace Law_indexhall_k30_refusals_apart.R
open PySem L2 Den
inductive One (f fo : Nat → Res → Prop) (ts : List Tk) (en : Nat) : Nat → Res → Prop
  | none {k : Nat} : ts.length ≤ k → One f fo ts en k (.er en)
  | no {k k' : Nat} {t : Tk} {a : W} : ts[k]? = some t → t.kd = NOT → f (k + 1) (.ok a k') → One f fo ts en k (.ok (.tup [.str NOT, a]) k')
  | noE {k q : Nat} {t : Tk} : ts[k]? = some t → t.kd = NOT → f (k + 1) (.er q) → One f fo ts en k (.er q)
  | op {k k' : Nat} {t t' : Tk} {a : W} : ts[k]? = some t → t.kd = OPN → fo (k + 1) (.ok a k') → ts[k']? = some t' → t'.kd = CLS → One f fo ts en k (.ok a (k' + 1))
  | opE {k k' : Nat} {t : Tk} {a : W} : ts[k]? = some t → t.kd = OPN → fo (k + 1) (.ok a k') → ts.length ≤ k' → One f fo ts en k (.er en)
  | opX {k q : Nat} {t : Tk} : ts[k]? = some t → t.kd = OPN → fo (k + 1) (.er q) → One f fo ts en k (.er q)
  | ph {k : Nat} {t : Tk} : ts[k]? = some t → (t.kd = PHR ∨ t.kd = BEG) → One f fo ts en k (.ok (.tup [.str t.kd, t.wh]) (k + 1))
  | bad {k : Nat} {t : Tk} : ts[k]? = some t → (t.kd = AND ∨ t.kd = OR ∨ t.kd = CLS) → One f fo ts en k (.er t.pl)
  | wd {k : Nat} {t : Tk} : ts[k]? = some t → t.kd = WRD → (∀ t1, ts[k + 1]? = some t1 → t1.kd ≠ NEA) → One f fo ts en k (.ok (.tup [.str WRD, t.wh]) (k + 1))
  | nr {k : Nat} {t t1 t2 : Tk} : ts[k]? = some t → t.kd = WRD → ts[k + 1]? = some t1 → t1.kd = NEA → ts[k + 2]? = some t2 → t2.kd = WRD → One f fo ts en k (.ok (.tup [.str NEA, t1.wh, t.wh, t2.wh]) (k + 3))
section
variable {ts : List Tk} {p en k : Nat} {h : List O} {f fo : Nat → Res → Prop} {rec : List W → List O → Out W}
theorem tk_w1 {k : Nat} {t : Tk} (hl : lstAt h p = some (ts.map tkW)) (hk : ts[k + 1]? = some t) : (withL (lstAt h p) fun xs => ixL xs ((k : Nat) + 1) h) = .ok (tkW t) h := by
  have := tk_w hl hk
  rw [Int.natCast_add, Int.natCast_one] at this
  exact this
theorem tk_w2 {k : Nat} {t : Tk} (hl : lstAt h p = some (ts.map tkW)) (hk : ts[k + 2]? = some t) : (withL (lstAt h p) fun xs => ixL xs ((k : Nat) + 2) h) = .ok (tkW t) h := by
  have := tk_w hl hk
  rw [Int.natCast_add] at this
  exact this
theorem tgt3 {t : Tk} {e : Den.Env} : tgT [3, 4, 5] (tkW t) e = tgTs [3, 4, 5] [.str t.kd, t.wh, .int t.pl] e := rfl
theorem pb_1 {h : List O} : oIn (.str PHR) (.tup [.str PHR, .str BEG]) h = .ok (.bl true) h := nrfl rfl
theorem pb_2 {h : List O} : oIn (.str BEG) (.tup [.str PHR, .str BEG]) h = .ok (.bl true) h := nrfl rfl
theorem pb_3 {h : List O} : oIn (.str AND) (.tup [.str PHR, .str BEG]) h = .ok (.bl false) h := nrfl rfl
theorem pb_4 {h : List O} : oIn (.str OR) (.tup [.str PHR, .str BEG]) h = .ok (.bl false) h := nrfl rfl
theorem pb_5 {h : List O} : oIn (.str CLS) (.tup [.str PHR, .str BEG]) h = .ok (.bl false) h := nrfl rfl
theorem pb_6 {h : List O} : oIn (.str WRD) (.tup [.str PHR, .str BEG]) h = .ok (.bl false) h := nrfl rfl
theorem kn_OPN : (OPN = NOT) = False := by decide
theorem kn_PHR : (PHR = NOT) = False := by decide
theorem kn_BEG : (BEG = NOT) = False := by decide
theorem kn_AND : (AND = NOT) = False := by decide
theorem kn_OR : (OR = NOT) = False := by decide
theorem kn_CLS : (CLS = NOT) = False := by decide
theorem kn_WRD : (WRD = NOT) = False := by decide
theorem ko_PHR : (PHR = OPN) = False := by decide
theorem ko_BEG : (BEG = OPN) = False := by decide
theorem ko_AND : (AND = OPN) = False := by decide
theorem ko_OR : (OR = OPN) = False := by decide
theorem ko_CLS : (CLS = OPN) = False := by decide
theorem ko_WRD : (WRD = OPN) = False := by decide
theorem kw_AND : (AND = WRD) = False := by decide
theorem kw_OR : (OR = WRD) = False := by decide
theorem kw_CLS : (CLS = WRD) = False := by decide
theorem kne_1 : (CLS ≠ CLS) = False := by decide
theorem kne_2 : (WRD ≠ WRD) = False := by decide
theorem kne_3 : (AND ≠ WRD) = True := by decide
theorem kne_4 : (OR ≠ WRD) = True := by decide
theorem kne_5 : (CLS ≠ WRD) = True := by decide
theorem kne_6 : (NEA = NEA) = True := by decide
theorem cast1 {n : Nat} : ((n + 1 : Nat) : Int) = n + 1 := rfl
theorem cast3 {n : Nat} : ((n + 3 : Nat) : Int) = n + 3 := rfl
theorem one_den (hl : lstAt h p = some (ts.map tkW)) (hf : ∀ k r, f k r → rec [.ref p, .int (k : Nat), .int (en : Nat)] h = rOut r h) (hfo : ∀ k r, fo k r → den_some_at rec [.ref p, .int (k : Nat), .int (en : Nat)] h = rOut r h)
    {r : Res} (ho : One f fo ts en k r) : mFun 7 (body_single rec) [.ref p, .int (k : Nat), .int (en : Nat)] h = rOut r h := by
  unfold mFun body_single
  simp only [startE, List.map_cons, List.map_nil, List.length_cons, List.length_nil, List.cons_append, List.nil_append, Nat.zero_add, Nat.reduceAdd, Nat.reduceSub, List.replicate_succ, List.replicate_zero]
  have lt_of : ∀ {j : Nat} {t : Tk}, ts[j]? = some t → j < ts.length := fun e => (List.getElem?_eq_some_iff.mp e).1
  have hf1 : ∀ {k : Nat} {r : Res}, f (k + 1) r → rec [.ref p, .int ((k : Nat) + 1), .int (en : Nat)] h = rOut r h := fun {k r} z => by
    have := hf _ _ z
    rw [Int.natCast_add, Int.natCast_one] at this
    exact this
  have hfo1 : ∀ {k : Nat} {r : Res}, fo (k + 1) r → den_some_at rec [.ref p, .int ((k : Nat) + 1), .int (en : Nat)] h = rOut r h := fun {k r} z => by
    have := hfo _ _ z
    rw [Int.natCast_add, Int.natCast_one] at this
    exact this
  cases ho with
  | none hk =>
    simp (disch := first | omega | (simp only [List.length_append, List.length_cons, List.length_nil, List.length_set, List.length_drop, List.length_take, List.length_map]; omega)) only [len_r hl, ap_RaiseF, rOut, kne_1, kne_2, kne_3, kne_4, kne_5, kne_6, cast1, cast3, kn_OPN, kn_PHR, kn_BEG, kn_AND, kn_OR, kn_CLS, kn_WRD, ko_PHR, ko_BEG, ko_AND, ko_OR, ko_CLS, ko_WRD, kw_AND, kw_OR, kw_CLS, mVar_z, Nat.reduceAdd, Nat.zero_add, Int.zero_add, Int.reduceAdd, Int.reduceSub, Int.reduceNeg, ap_Lst, ap_Tup, nil_app, cons_app, List.length_append, lst_last, mVar_s, ok_bnd, ok_stm, exc_bnd, ev_okE, exc_stm, ap_C, ap_Op, ap_Un, ap_B, ap_Chain, ap_asB, ap_And, ap_Or, ap_Not, ap_AndV, ap_OrV, ap_NotV, ap_If, ap_Nil, ap_Cons, ap_CB, ap_Meth, ap_Part, ap_NoPart, ap_Sl, ap_Yes, add_ii, add_ss, sub_ii, neg_i, mul_ii, fdiv_ii, mod_ii, eq_ii, ne_ii, eq_ss, ne_ss, lt_ii, le_ii, gt_ii, ge_ii, lt_ss, gt_ss, le_ss, ge_ss, len_s, len_t, abs_i, int_i, int_b, max_ii, min_ii, ix_s, ixL_0, ixL_1, ixL_2, ixL_3, ixL_n, ixL_i, ixL_st, setL_n, setL_i, List.length_map, List.length_set, ix_r, getL_r, ix_tL, withL_s, setL_0, setL_1, setL_2, set_r, app_r, lst_z, lst_s, iadd_ii, tuple_r, mul_ri, sl_s, sl_rol, sl_t, sl_r, cut_from, cut_to, ap_Seq, nx_seq, rt_seq, ct_seq, bk_seq, exc_seq, ap_Raise, ap_Skip, ap_Brk, ap_Cnt, ap_Drop, ap_Ret, ap_IfS, ap_Set, ap_Ts, ap_AsgT, tgT_t, tgTs_n, tgTs_c, ap_Aug, ap_SetI, ap_AugI, mFor_ap, ap_Rng1, ap_Rng2, rng1_ok, rng2_ok, ap_Iter, src_t, src_s, src_rL, ap_Comp, wipe_n, wipe_c, len_cons, len_nil, zip_cc, zip_nn, foldl_c, foldl_n, set_z, set_s, ite_t, ite_f, ite_T, ite_F, sing_lt, sing_eq, ty_r, ty_s, isS, cut_mid, decide_eq_true_eq, if_pos, if_neg]
  | @no k' t a hk hkd hfk =>
    have hlt := lt_of hk
    have e1 := hf1 hfk
    simp (disch := first | omega | (simp only [List.length_append, List.length_cons, List.length_nil, List.length_set, List.length_drop, List.length_take, List.length_map]; omega)) only [len_r hl, tk_w hl hk, tgt3, hkd, e1, rOut, kne_1, kne_2, kne_3, kne_4, kne_5, kne_6, cast1, cast3, kn_OPN, kn_PHR, kn_BEG, kn_AND, kn_OR, kn_CLS, kn_WRD, ko_PHR, ko_BEG, ko_AND, ko_OR, ko_CLS, ko_WRD, kw_AND, kw_OR, kw_CLS, mVar_z, Nat.reduceAdd, Nat.zero_add, Int.zero_add, Int.reduceAdd, Int.reduceSub, Int.reduceNeg, ap_Lst, ap_Tup, nil_app, cons_app, List.length_append, lst_last, mVar_s, ok_bnd, ok_stm, exc_bnd, ev_okE, exc_stm, ap_C, ap_Op, ap_Un, ap_B, ap_Chain, ap_asB, ap_And, ap_Or, ap_Not, ap_AndV, ap_OrV, ap_NotV, ap_If, ap_Nil, ap_Cons, ap_CB, ap_Meth, ap_Part, ap_NoPart, ap_Sl, ap_Yes, add_ii, add_ss, sub_ii, neg_i, mul_ii, fdiv_ii, mod_ii, eq_ii, ne_ii, eq_ss, ne_ss, lt_ii, le_ii, gt_ii, ge_ii, lt_ss, gt_ss, le_ss, ge_ss, len_s, len_t, abs_i, int_i, int_b, max_ii, min_ii, ix_s, ixL_0, ixL_1, ixL_2, ixL_3, ixL_n, ixL_i, ixL_st, setL_n, setL_i, List.length_map, List.length_set, ix_r, getL_r, ix_tL, withL_s, setL_0, setL_1, setL_2, set_r, app_r, lst_z, lst_s, iadd_ii, tuple_r, mul_ri, sl_s, sl_rol, sl_t, sl_r, cut_from, cut_to, ap_Seq, nx_seq, rt_seq, ct_seq, bk_seq, exc_seq, ap_Raise, ap_Skip, ap_Brk, ap_Cnt, ap_Drop, ap_Ret, ap_IfS, ap_Set, ap_Ts, ap_AsgT, tgT_t, tgTs_n, tgTs_c, ap_Aug, ap_SetI, ap_AugI, mFor_ap, ap_Rng1, ap_Rng2, rng1_ok, rng2_ok, ap_Iter, src_t, src_s, src_rL, ap_Comp, wipe_n, wipe_c, len_cons, len_nil, zip_cc, zip_nn, foldl_c, foldl_n, set_z, set_s, ite_t, ite_f, ite_T, ite_F, sing_lt, sing_eq, ty_r, ty_s, isS, cut_mid, decide_eq_true_eq, if_pos, if_neg]
  | @noE q t hk hkd hfk =>
    have hlt := lt_of hk
    have e1 := hf1 hfk
    simp (disch := first | omega | (simp only [List.length_append, List.length_cons, List.length_nil, List.length_set, List.length_drop, List.length_take, List.length_map]; omega)) only [len_r hl, tk_w hl hk, tgt3, hkd, e1, rOut, kne_1, kne_2, kne_3, kne_4, kne_5, kne_6, cast1, cast3, kn_OPN, kn_PHR, kn_BEG, kn_AND, kn_OR, kn_CLS, kn_WRD, ko_PHR, ko_BEG, ko_AND, ko_OR, ko_CLS, ko_WRD, kw_AND, kw_OR, kw_CLS, mVar_z, Nat.reduceAdd, Nat.zero_add, Int.zero_add, Int.reduceAdd, Int.reduceSub, Int.reduceNeg, ap_Lst, ap_Tup, nil_app, cons_app, List.length_append, lst_last, mVar_s, ok_bnd, ok_stm, exc_bnd, ev_okE, exc_stm, ap_C, ap_Op, ap_Un, ap_B, ap_Chain, ap_asB, ap_And, ap_Or, ap_Not, ap_AndV, ap_OrV, ap_NotV, ap_If, ap_Nil, ap_Cons, ap_CB, ap_Meth, ap_Part, ap_NoPart, ap_Sl, ap_Yes, add_ii, add_ss, sub_ii, neg_i, mul_ii, fdiv_ii, mod_ii, eq_ii, ne_ii, eq_ss, ne_ss, lt_ii, le_ii, gt_ii, ge_ii, lt_ss, gt_ss, le_ss, ge_ss, len_s, len_t, abs_i, int_i, int_b, max_ii, min_ii, ix_s, ixL_0, ixL_1, ixL_2, ixL_3, ixL_n, ixL_i, ixL_st, setL_n, setL_i, List.length_map, List.length_set, ix_r, getL_r, ix_tL, withL_s, setL_0, setL_1, setL_2, set_r, app_r, lst_z, lst_s, iadd_ii, tuple_r, mul_ri, sl_s, sl_rol, sl_t, sl_r, cut_from, cut_to, ap_Seq, nx_seq, rt_seq, ct_seq, bk_seq, exc_seq, ap_Raise, ap_Skip, ap_Brk, ap_Cnt, ap_Drop, ap_Ret, ap_IfS, ap_Set, ap_Ts, ap_AsgT, tgT_t, tgTs_n, tgTs_c, ap_Aug, ap_SetI, ap_AugI, mFor_ap, ap_Rng1, ap_Rng2, rng1_ok, rng2_ok, ap_Iter, src_t, src_s, src_rL, ap_Comp, wipe_n, wipe_c, len_cons, len_nil, zip_cc, zip_nn, foldl_c, foldl_n, set_z, set_s, ite_t, ite_f, ite_T, ite_F, sing_lt, sing_eq, ty_r, ty_s, isS, cut_mid, decide_eq_true_eq, if_pos, if_neg]
  | @op k' t t' a hk hkd hfk hk' hkd' =>
    have hlt := lt_of hk
    have hlt' := lt_of hk'
    have e1 := hfo1 hfk
    simp (disch := first | omega | (simp only [List.length_append, List.length_cons, List.length_nil, List.length_set, List.length_drop, List.length_take, List.length_map]; omega)) only [len_r hl, tk_w hl hk, tgt3, hkd, e1, rOut, kne_1, kne_2, kne_3, kne_4, kne_5, kne_6, cast1, cast3, kn_OPN, kn_PHR, kn_BEG, kn_AND, kn_OR, kn_CLS, kn_WRD, ko_PHR, ko_BEG, ko_AND, ko_OR, ko_CLS, ko_WRD, kw_AND, kw_OR, kw_CLS, tk_w hl hk', tk_kd, hkd', mVar_z, Nat.reduceAdd, Nat.zero_add, Int.zero_add, Int.reduceAdd, Int.reduceSub, Int.reduceNeg, ap_Lst, ap_Tup, nil_app, cons_app, List.length_append, lst_last, mVar_s, ok_bnd, ok_stm, exc_bnd, ev_okE, exc_stm, ap_C, ap_Op, ap_Un, ap_B, ap_Chain, ap_asB, ap_And, ap_Or, ap_Not, ap_AndV, ap_OrV, ap_NotV, ap_If, ap_Nil, ap_Cons, ap_CB, ap_Meth, ap_Part, ap_NoPart, ap_Sl, ap_Yes, add_ii, add_ss, sub_ii, neg_i, mul_ii, fdiv_ii, mod_ii, eq_ii, ne_ii, eq_ss, ne_ss, lt_ii, le_ii, gt_ii, ge_ii, lt_ss, gt_ss, le_ss, ge_ss, len_s, len_t, abs_i, int_i, int_b, max_ii, min_ii, ix_s, ixL_0, ixL_1, ixL_2, ixL_3, ixL_n, ixL_i, ixL_st, setL_n, setL_i, List.length_map, List.length_set, ix_r, getL_r, ix_tL, withL_s, setL_0, setL_1, setL_2, set_r, app_r, lst_z, lst_s, iadd_ii, tuple_r, mul_ri, sl_s, sl_rol, sl_t, sl_r, cut_from, cut_to, ap_Seq, nx_seq, rt_seq, ct_seq, bk_seq, exc_seq, ap_Raise, ap_Skip, ap_Brk, ap_Cnt, ap_Drop, ap_Ret, ap_IfS, ap_Set, ap_Ts, ap_AsgT, tgT_t, tgTs_n, tgTs_c, ap_Aug, ap_SetI, ap_AugI, mFor_ap, ap_Rng1, ap_Rng2, rng1_ok, rng2_ok, ap_Iter, src_t, src_s, src_rL, ap_Comp, wipe_n, wipe_c, len_cons, len_nil, zip_cc, zip_nn, foldl_c, foldl_n, set_z, set_s, ite_t, ite_f, ite_T, ite_F, sing_lt, sing_eq, ty_r, ty_s, isS, cut_mid, decide_eq_true_eq, if_pos, if_neg]
  | @opE k' t a hk hkd hfk hk' =>
    have hlt := lt_of hk
    have e1 := hfo1 hfk
    simp (disch := first | omega | (simp only [List.length_append, List.length_cons, List.length_nil, List.length_set, List.length_drop, List.length_take, List.length_map]; omega)) only [len_r hl, tk_w hl hk, tgt3, hkd, e1, rOut, kne_1, kne_2, kne_3, kne_4, kne_5, kne_6, cast1, cast3, kn_OPN, kn_PHR, kn_BEG, kn_AND, kn_OR, kn_CLS, kn_WRD, ko_PHR, ko_BEG, ko_AND, ko_OR, ko_CLS, ko_WRD, kw_AND, kw_OR, kw_CLS, ap_RaiseF, mVar_z, Nat.reduceAdd, Nat.zero_add, Int.zero_add, Int.reduceAdd, Int.reduceSub, Int.reduceNeg, ap_Lst, ap_Tup, nil_app, cons_app, List.length_append, lst_last, mVar_s, ok_bnd, ok_stm, exc_bnd, ev_okE, exc_stm, ap_C, ap_Op, ap_Un, ap_B, ap_Chain, ap_asB, ap_And, ap_Or, ap_Not, ap_AndV, ap_OrV, ap_NotV, ap_If, ap_Nil, ap_Cons, ap_CB, ap_Meth, ap_Part, ap_NoPart, ap_Sl, ap_Yes, add_ii, add_ss, sub_ii, neg_i, mul_ii, fdiv_ii, mod_ii, eq_ii, ne_ii, eq_ss, ne_ss, lt_ii, le_ii, gt_ii, ge_ii, lt_ss, gt_ss, le_ss, ge_ss, len_s, len_t, abs_i, int_i, int_b, max_ii, min_ii, ix_s, ixL_0, ixL_1, ixL_2, ixL_3, ixL_n, ixL_i, ixL_st, setL_n, setL_i, List.length_map, List.length_set, ix_r, getL_r, ix_tL, withL_s, setL_0, setL_1, setL_2, set_r, app_r, lst_z, lst_s, iadd_ii, tuple_r, mul_ri, sl_s, sl_rol, sl_t, sl_r, cut_from, cut_to, ap_Seq, nx_seq, rt_seq, ct_seq, bk_seq, exc_seq, ap_Raise, ap_Skip, ap_Brk, ap_Cnt, ap_Drop, ap_Ret, ap_IfS, ap_Set, ap_Ts, ap_AsgT, tgT_t, tgTs_n, tgTs_c, ap_Aug, ap_SetI, ap_AugI, mFor_ap, ap_Rng1, ap_Rng2, rng1_ok, rng2_ok, ap_Iter, src_t, src_s, src_rL, ap_Comp, wipe_n, wipe_c, len_cons, len_nil, zip_cc, zip_nn, foldl_c, foldl_n, set_z, set_s, ite_t, ite_f, ite_T, ite_F, sing_lt, sing_eq, ty_r, ty_s, isS, cut_mid, decide_eq_true_eq, if_pos, if_neg]
  | @opX q t hk hkd hfk =>
    have hlt := lt_of hk
    have e1 := hfo1 hfk
    simp (disch := first | omega | (simp only [List.length_append, List.length_cons, List.length_nil, List.length_set, List.length_drop, List.length_take, List.length_map]; omega)) only [len_r hl, tk_w hl hk, tgt3, hkd, e1, rOut, kne_1, kne_2, kne_3, kne_4, kne_5, kne_6, cast1, cast3, kn_OPN, kn_PHR, kn_BEG, kn_AND, kn_OR, kn_CLS, kn_WRD, ko_PHR, ko_BEG, ko_AND, ko_OR, ko_CLS, ko_WRD, kw_AND, kw_OR, kw_CLS, mVar_z, Nat.reduceAdd, Nat.zero_add, Int.zero_add, Int.reduceAdd, Int.reduceSub, Int.reduceNeg, ap_Lst, ap_Tup, nil_app, cons_app, List.length_append, lst_last, mVar_s, ok_bnd, ok_stm, exc_bnd, ev_okE, exc_stm, ap_C, ap_Op, ap_Un, ap_B, ap_Chain, ap_asB, ap_And, ap_Or, ap_Not, ap_AndV, ap_OrV, ap_NotV, ap_If, ap_Nil, ap_Cons, ap_CB, ap_Meth, ap_Part, ap_NoPart, ap_Sl, ap_Yes, add_ii, add_ss, sub_ii, neg_i, mul_ii, fdiv_ii, mod_ii, eq_ii, ne_ii, eq_ss, ne_ss, lt_ii, le_ii, gt_ii, ge_ii, lt_ss, gt_ss, le_ss, ge_ss, len_s, len_t, abs_i, int_i, int_b, max_ii, min_ii, ix_s, ixL_0, ixL_1, ixL_2, ixL_3, ixL_n, ixL_i, ixL_st, setL_n, setL_i, List.length_map, List.length_set, ix_r, getL_r, ix_tL, withL_s, setL_0, setL_1, setL_2, set_r, app_r, lst_z, lst_s, iadd_ii, tuple_r, mul_ri, sl_s, sl_rol, sl_t, sl_r, cut_from, cut_to, ap_Seq, nx_seq, rt_seq, ct_seq, bk_seq, exc_seq, ap_Raise, ap_Skip, ap_Brk, ap_Cnt, ap_Drop, ap_Ret, ap_IfS, ap_Set, ap_Ts, ap_AsgT, tgT_t, tgTs_n, tgTs_c, ap_Aug, ap_SetI, ap_AugI, mFor_ap, ap_Rng1, ap_Rng2, rng1_ok, rng2_ok, ap_Iter, src_t, src_s, src_rL, ap_Comp, wipe_n, wipe_c, len_cons, len_nil, zip_cc, zip_nn, foldl_c, foldl_n, set_z, set_s, ite_t, ite_f, ite_T, ite_F, sing_lt, sing_eq, ty_r, ty_s, isS, cut_mid, decide_eq_true_eq, if_pos, if_neg]
  | @ph t hk hkd =>
    have hlt := lt_of hk
    rcases hkd with hkd | hkd
    · simp (disch := first | omega | (simp only [List.length_append, List.length_cons, List.length_nil, List.length_set, List.length_drop, List.length_take, List.length_map]; omega)) only [len_r hl, tk_w hl hk, tgt3, hkd, rOut, kne_1, kne_2, kne_3, kne_4, kne_5, kne_6, cast1, cast3, kn_OPN, kn_PHR, kn_BEG, kn_AND, kn_OR, kn_CLS, kn_WRD, ko_PHR, ko_BEG, ko_AND, ko_OR, ko_CLS, ko_WRD, kw_AND, kw_OR, kw_CLS, pb_1, pb_2, pb_3, pb_4, pb_5, pb_6, mVar_z, Nat.reduceAdd, Nat.zero_add, Int.zero_add, Int.reduceAdd, Int.reduceSub, Int.reduceNeg, ap_Lst, ap_Tup, nil_app, cons_app, List.length_append, lst_last, mVar_s, ok_bnd, ok_stm, exc_bnd, ev_okE, exc_stm, ap_C, ap_Op, ap_Un, ap_B, ap_Chain, ap_asB, ap_And, ap_Or, ap_Not, ap_AndV, ap_OrV, ap_NotV, ap_If, ap_Nil, ap_Cons, ap_CB, ap_Meth, ap_Part, ap_NoPart, ap_Sl, ap_Yes, add_ii, add_ss, sub_ii, neg_i, mul_ii, fdiv_ii, mod_ii, eq_ii, ne_ii, eq_ss, ne_ss, lt_ii, le_ii, gt_ii, ge_ii, lt_ss, gt_ss, le_ss, ge_ss, len_s, len_t, abs_i, int_i, int_b, max_ii, min_ii, ix_s, ixL_0, ixL_1, ixL_2, ixL_3, ixL_n, ixL_i, ixL_st, setL_n, setL_i, List.length_map, List.length_set, ix_r, getL_r, ix_tL, withL_s, setL_0, setL_1, setL_2, set_r, app_r, lst_z, lst_s, iadd_ii, tuple_r, mul_ri, sl_s, sl_rol, sl_t, sl_r, cut_from, cut_to, ap_Seq, nx_seq, rt_seq, ct_seq, bk_seq, exc_seq, ap_Raise, ap_Skip, ap_Brk, ap_Cnt, ap_Drop, ap_Ret, ap_IfS, ap_Set, ap_Ts, ap_AsgT, tgT_t, tgTs_n, tgTs_c, ap_Aug, ap_SetI, ap_AugI, mFor_ap, ap_Rng1, ap_Rng2, rng1_ok, rng2_ok, ap_Iter, src_t, src_s, src_rL, ap_Comp, wipe_n, wipe_c, len_cons, len_nil, zip_cc, zip_nn, foldl_c, foldl_n, set_z, set_s, ite_t, ite_f, ite_T, ite_F, sing_lt, sing_eq, ty_r, ty_s, isS, cut_mid, decide_eq_true_eq, if_pos, if_neg]
    · simp (disch := first | omega | (simp only [List.length_append, List.length_cons, List.length_nil, List.length_set, List.length_drop, List.length_take, List.length_map]; omega)) only [len_r hl, tk_w hl hk, tgt3, hkd, rOut, kne_1, kne_2, kne_3, kne_4, kne_5, kne_6, cast1, cast3, kn_OPN, kn_PHR, kn_BEG, kn_AND, kn_OR, kn_CLS, kn_WRD, ko_PHR, ko_BEG, ko_AND, ko_OR, ko_CLS, ko_WRD, kw_AND, kw_OR, kw_CLS, pb_1, pb_2, pb_3, pb_4, pb_5, pb_6, mVar_z, Nat.reduceAdd, Nat.zero_add, Int.zero_add, Int.reduceAdd, Int.reduceSub, Int.reduceNeg, ap_Lst, ap_Tup, nil_app, cons_app, List.length_append, lst_last, mVar_s, ok_bnd, ok_stm, exc_bnd, ev_okE, exc_stm, ap_C, ap_Op, ap_Un, ap_B, ap_Chain, ap_asB, ap_And, ap_Or, ap_Not, ap_AndV, ap_OrV, ap_NotV, ap_If, ap_Nil, ap_Cons, ap_CB, ap_Meth, ap_Part, ap_NoPart, ap_Sl, ap_Yes, add_ii, add_ss, sub_ii, neg_i, mul_ii, fdiv_ii, mod_ii, eq_ii, ne_ii, eq_ss, ne_ss, lt_ii, le_ii, gt_ii, ge_ii, lt_ss, gt_ss, le_ss, ge_ss, len_s, len_t, abs_i, int_i, int_b, max_ii, min_ii, ix_s, ixL_0, ixL_1, ixL_2, ixL_3, ixL_n, ixL_i, ixL_st, setL_n, setL_i, List.length_map, List.length_set, ix_r, getL_r, ix_tL, withL_s, setL_0, setL_1, setL_2, set_r, app_r, lst_z, lst_s, iadd_ii, tuple_r, mul_ri, sl_s, sl_rol, sl_t, sl_r, cut_from, cut_to, ap_Seq, nx_seq, rt_seq, ct_seq, bk_seq, exc_seq, ap_Raise, ap_Skip, ap_Brk, ap_Cnt, ap_Drop, ap_Ret, ap_IfS, ap_Set, ap_Ts, ap_AsgT, tgT_t, tgTs_n, tgTs_c, ap_Aug, ap_SetI, ap_AugI, mFor_ap, ap_Rng1, ap_Rng2, rng1_ok, rng2_ok, ap_Iter, src_t, src_s, src_rL, ap_Comp, wipe_n, wipe_c, len_cons, len_nil, zip_cc, zip_nn, foldl_c, foldl_n, set_z, set_s, ite_t, ite_f, ite_T, ite_F, sing_lt, sing_eq, ty_r, ty_s, isS, cut_mid, decide_eq_true_eq, if_pos, if_neg]
  | @bad t hk hkd =>
    have hlt := lt_of hk
    rcases hkd with hkd | hkd | hkd
    · simp (disch := first | omega | (simp only [List.length_append, List.length_cons, List.length_nil, List.length_set, List.length_drop, List.length_take, List.length_map]; omega)) only [len_r hl, tk_w hl hk, tgt3, hkd, rOut, kne_1, kne_2, kne_3, kne_4, kne_5, kne_6, cast1, cast3, kn_OPN, kn_PHR, kn_BEG, kn_AND, kn_OR, kn_CLS, kn_WRD, ko_PHR, ko_BEG, ko_AND, ko_OR, ko_CLS, ko_WRD, kw_AND, kw_OR, kw_CLS, pb_1, pb_2, pb_3, pb_4, pb_5, pb_6, ap_RaiseF, mVar_z, Nat.reduceAdd, Nat.zero_add, Int.zero_add, Int.reduceAdd, Int.reduceSub, Int.reduceNeg, ap_Lst, ap_Tup, nil_app, cons_app, List.length_append, lst_last, mVar_s, ok_bnd, ok_stm, exc_bnd, ev_okE, exc_stm, ap_C, ap_Op, ap_Un, ap_B, ap_Chain, ap_asB, ap_And, ap_Or, ap_Not, ap_AndV, ap_OrV, ap_NotV, ap_If, ap_Nil, ap_Cons, ap_CB, ap_Meth, ap_Part, ap_NoPart, ap_Sl, ap_Yes, add_ii, add_ss, sub_ii, neg_i, mul_ii, fdiv_ii, mod_ii, eq_ii, ne_ii, eq_ss, ne_ss, lt_ii, le_ii, gt_ii, ge_ii, lt_ss, gt_ss, le_ss, ge_ss, len_s, len_t, abs_i, int_i, int_b, max_ii, min_ii, ix_s, ixL_0, ixL_1, ixL_2, ixL_3, ixL_n, ixL_i, ixL_st, setL_n, setL_i, List.length_map, List.length_set, ix_r, getL_r, ix_tL, withL_s, setL_0, setL_1, setL_2, set_r, app_r, lst_z, lst_s, iadd_ii, tuple_r, mul_ri, sl_s, sl_rol, sl_t, sl_r, cut_from, cut_to, ap_Seq, nx_seq, rt_seq, ct_seq, bk_seq, exc_seq, ap_Raise, ap_Skip, ap_Brk, ap_Cnt, ap_Drop, ap_Ret, ap_IfS, ap_Set, ap_Ts, ap_AsgT, tgT_t, tgTs_n, tgTs_c, ap_Aug, ap_SetI, ap_AugI, mFor_ap, ap_Rng1, ap_Rng2, rng1_ok, rng2_ok, ap_Iter, src_t, src_s, src_rL, ap_Comp, wipe_n, wipe_c, len_cons, len_nil, zip_cc, zip_nn, foldl_c, foldl_n, set_z, set_s, ite_t, ite_f, ite_T, ite_F, sing_lt, sing_eq, ty_r, ty_s, isS, cut_mid, decide_eq_true_eq, if_pos, if_neg]
    · simp (disch := first | omega | (simp only [List.length_append, List.length_cons, List.length_nil, List.length_set, List.length_drop, List.length_take, List.length_map]; omega)) only [len_r hl, tk_w hl hk, tgt3, hkd, rOut, kne_1, kne_2, kne_3, kne_4, kne_5, kne_6, cast1, cast3, kn_OPN, kn_PHR, kn_BEG, kn_AND, kn_OR, kn_CLS, kn_WRD, ko_PHR, ko_BEG, ko_AND, ko_OR, ko_CLS, ko_WRD, kw_AND, kw_OR, kw_CLS, pb_1, pb_2, pb_3, pb_4, pb_5, pb_6, ap_RaiseF, mVar_z, Nat.reduceAdd, Nat.zero_add, Int.zero_add, Int.reduceAdd, Int.reduceSub, Int.reduceNeg, ap_Lst, ap_Tup, nil_app, cons_app, List.length_append, lst_last, mVar_s, ok_bnd, ok_stm, exc_bnd, ev_okE, exc_stm, ap_C, ap_Op, ap_Un, ap_B, ap_Chain, ap_asB, ap_And, ap_Or, ap_Not, ap_AndV, ap_OrV, ap_NotV, ap_If, ap_Nil, ap_Cons, ap_CB, ap_Meth, ap_Part, ap_NoPart, ap_Sl, ap_Yes, add_ii, add_ss, sub_ii, neg_i, mul_ii, fdiv_ii, mod_ii, eq_ii, ne_ii, eq_ss, ne_ss, lt_ii, le_ii, gt_ii, ge_ii, lt_ss, gt_ss, le_ss, ge_ss, len_s, len_t, abs_i, int_i, int_b, max_ii, min_ii, ix_s, ixL_0, ixL_1, ixL_2, ixL_3, ixL_n, ixL_i, ixL_st, setL_n, setL_i, List.length_map, List.length_set, ix_r, getL_r, ix_tL, withL_s, setL_0, setL_1, setL_2, set_r, app_r, lst_z, lst_s, iadd_ii, tuple_r, mul_ri, sl_s, sl_rol, sl_t, sl_r, cut_from, cut_to, ap_Seq, nx_seq, rt_seq, ct_seq, bk_seq, exc_seq, ap_Raise, ap_Skip, ap_Brk, ap_Cnt, ap_Drop, ap_Ret, ap_IfS, ap_Set, ap_Ts, ap_AsgT, tgT_t, tgTs_n, tgTs_c, ap_Aug, ap_SetI, ap_AugI, mFor_ap, ap_Rng1, ap_Rng2, rng1_ok, rng2_ok, ap_Iter, src_t, src_s, src_rL, ap_Comp, wipe_n, wipe_c, len_cons, len_nil, zip_cc, zip_nn, foldl_c, foldl_n, set_z, set_s, ite_t, ite_f, ite_T, ite_F, sing_lt, sing_eq, ty_r, ty_s, isS, cut_mid, decide_eq_true_eq, if_pos, if_neg]
    · simp (disch := first | omega | (simp only [List.length_append, List.length_cons, List.length_nil, List.length_set, List.length_drop, List.length_take, List.length_map]; omega)) only [len_r hl, tk_w hl hk, tgt3, hkd, rOut, kne_1, kne_2, kne_3, kne_4, kne_5, kne_6, cast1, cast3, kn_OPN, kn_PHR, kn_BEG, kn_AND, kn_OR, kn_CLS, kn_WRD, ko_PHR, ko_BEG, ko_AND, ko_OR, ko_CLS, ko_WRD, kw_AND, kw_OR, kw_CLS, pb_1, pb_2, pb_3, pb_4, pb_5, pb_6, ap_RaiseF, mVar_z, Nat.reduceAdd, Nat.zero_add, Int.zero_add, Int.reduceAdd, Int.reduceSub, Int.reduceNeg, ap_Lst, ap_Tup, nil_app, cons_app, List.length_append, lst_last, mVar_s, ok_bnd, ok_stm, exc_bnd, ev_okE, exc_stm, ap_C, ap_Op, ap_Un, ap_B, ap_Chain, ap_asB, ap_And, ap_Or, ap_Not, ap_AndV, ap_OrV, ap_NotV, ap_If, ap_Nil, ap_Cons, ap_CB, ap_Meth, ap_Part, ap_NoPart, ap_Sl, ap_Yes, add_ii, add_ss, sub_ii, neg_i, mul_ii, fdiv_ii, mod_ii, eq_ii, ne_ii, eq_ss, ne_ss, lt_ii, le_ii, gt_ii, ge_ii, lt_ss, gt_ss, le_ss, ge_ss, len_s, len_t, abs_i, int_i, int_b, max_ii, min_ii, ix_s, ixL_0, ixL_1, ixL_2, ixL_3, ixL_n, ixL_i, ixL_st, setL_n, setL_i, List.length_map, List.length_set, ix_r, getL_r, ix_tL, withL_s, setL_0, setL_1, setL_2, set_r, app_r, lst_z, lst_s, iadd_ii, tuple_r, mul_ri, sl_s, sl_rol, sl_t, sl_r, cut_from, cut_to, ap_Seq, nx_seq, rt_seq, ct_seq, bk_seq, exc_seq, ap_Raise, ap_Skip, ap_Brk, ap_Cnt, ap_Drop, ap_Ret, ap_IfS, ap_Set, ap_Ts, ap_AsgT, tgT_t, tgTs_n, tgTs_c, ap_Aug, ap_SetI, ap_AugI, mFor_ap, ap_Rng1, ap_Rng2, rng1_ok, rng2_ok, ap_Iter, src_t, src_s, src_rL, ap_Comp, wipe_n, wipe_c, len_cons, len_nil, zip_cc, zip_nn, foldl_c, foldl_n, set_z, set_s, ite_t, ite_f, ite_T, ite_F, sing_lt, sing_eq, ty_r, ty_s, isS, cut_mid, decide_eq_true_eq, if_pos, if_neg]
  | @wd t hk hkd hn =>
    have hlt := lt_of hk
    by_cases h1 : k + 1 < ts.length
    · have e := List.getElem?_eq_getElem h1
      have hnn := hn _ e
      simp (disch := first | omega | (simp only [List.length_append, List.length_cons, List.length_nil, List.length_set, List.length_drop, List.length_take, List.length_map]; omega)) only [len_r hl, tk_w hl hk, tgt3, hkd, rOut, kne_1, kne_2, kne_3, kne_4, kne_5, kne_6, cast1, cast3, kn_OPN, kn_PHR, kn_BEG, kn_AND, kn_OR, kn_CLS, kn_WRD, ko_PHR, ko_BEG, ko_AND, ko_OR, ko_CLS, ko_WRD, kw_AND, kw_OR, kw_CLS, pb_1, pb_2, pb_3, pb_4, pb_5, pb_6, tk_w1 hl e, tk_kd, hnn, mVar_z, Nat.reduceAdd, Nat.zero_add, Int.zero_add, Int.reduceAdd, Int.reduceSub, Int.reduceNeg, ap_Lst, ap_Tup, nil_app, cons_app, List.length_append, lst_last, mVar_s, ok_bnd, ok_stm, exc_bnd, ev_okE, exc_stm, ap_C, ap_Op, ap_Un, ap_B, ap_Chain, ap_asB, ap_And, ap_Or, ap_Not, ap_AndV, ap_OrV, ap_NotV, ap_If, ap_Nil, ap_Cons, ap_CB, ap_Meth, ap_Part, ap_NoPart, ap_Sl, ap_Yes, add_ii, add_ss, sub_ii, neg_i, mul_ii, fdiv_ii, mod_ii, eq_ii, ne_ii, eq_ss, ne_ss, lt_ii, le_ii, gt_ii, ge_ii, lt_ss, gt_ss, le_ss, ge_ss, len_s, len_t, abs_i, int_i, int_b, max_ii, min_ii, ix_s, ixL_0, ixL_1, ixL_2, ixL_3, ixL_n, ixL_i, ixL_st, setL_n, setL_i, List.length_map, List.length_set, ix_r, getL_r, ix_tL, withL_s, setL_0, setL_1, setL_2, set_r, app_r, lst_z, lst_s, iadd_ii, tuple_r, mul_ri, sl_s, sl_rol, sl_t, sl_r, cut_from, cut_to, ap_Seq, nx_seq, rt_seq, ct_seq, bk_seq, exc_seq, ap_Raise, ap_Skip, ap_Brk, ap_Cnt, ap_Drop, ap_Ret, ap_IfS, ap_Set, ap_Ts, ap_AsgT, tgT_t, tgTs_n, tgTs_c, ap_Aug, ap_SetI, ap_AugI, mFor_ap, ap_Rng1, ap_Rng2, rng1_ok, rng2_ok, ap_Iter, src_t, src_s, src_rL, ap_Comp, wipe_n, wipe_c, len_cons, len_nil, zip_cc, zip_nn, foldl_c, foldl_n, set_z, set_s, ite_t, ite_f, ite_T, ite_F, sing_lt, sing_eq, ty_r, ty_s, isS, cut_mid, decide_eq_true_eq, if_pos, if_neg]
    · simp (disch := first | omega | (simp only [List.length_append, List.length_cons, List.length_nil, List.length_set, List.length_drop, List.length_take, List.length_map]; omega)) only [len_r hl, tk_w hl hk, tgt3, hkd, rOut, kne_1, kne_2, kne_3, kne_4, kne_5, kne_6, cast1, cast3, kn_OPN, kn_PHR, kn_BEG, kn_AND, kn_OR, kn_CLS, kn_WRD, ko_PHR, ko_BEG, ko_AND, ko_OR, ko_CLS, ko_WRD, kw_AND, kw_OR, kw_CLS, pb_1, pb_2, pb_3, pb_4, pb_5, pb_6, mVar_z, Nat.reduceAdd, Nat.zero_add, Int.zero_add, Int.reduceAdd, Int.reduceSub, Int.reduceNeg, ap_Lst, ap_Tup, nil_app, cons_app, List.length_append, lst_last, mVar_s, ok_bnd, ok_stm, exc_bnd, ev_okE, exc_stm, ap_C, ap_Op, ap_Un, ap_B, ap_Chain, ap_asB, ap_And, ap_Or, ap_Not, ap_AndV, ap_OrV, ap_NotV, ap_If, ap_Nil, ap_Cons, ap_CB, ap_Meth, ap_Part, ap_NoPart, ap_Sl, ap_Yes, add_ii, add_ss, sub_ii, neg_i, mul_ii, fdiv_ii, mod_ii, eq_ii, ne_ii, eq_ss, ne_ss, lt_ii, le_ii, gt_ii, ge_ii, lt_ss, gt_ss, le_ss, ge_ss, len_s, len_t, abs_i, int_i, int_b, max_ii, min_ii, ix_s, ixL_0, ixL_1, ixL_2, ixL_3, ixL_n, ixL_i, ixL_st, setL_n, setL_i, List.length_map, List.length_set, ix_r, getL_r, ix_tL, withL_s, setL_0, setL_1, setL_2, set_r, app_r, lst_z, lst_s, iadd_ii, tuple_r, mul_ri, sl_s, sl_rol, sl_t, sl_r, cut_from, cut_to, ap_Seq, nx_seq, rt_seq, ct_seq, bk_seq, exc_seq, ap_Raise, ap_Skip, ap_Brk, ap_Cnt, ap_Drop, ap_Ret, ap_IfS, ap_Set, ap_Ts, ap_AsgT, tgT_t, tgTs_n, tgTs_c, ap_Aug, ap_SetI, ap_AugI, mFor_ap, ap_Rng1, ap_Rng2, rng1_ok, rng2_ok, ap_Iter, src_t, src_s, src_rL, ap_Comp, wipe_n, wipe_c, len_cons, len_nil, zip_cc, zip_nn, foldl_c, foldl_n, set_z, set_s, ite_t, ite_f, ite_T, ite_F, sing_lt, sing_eq, ty_r, ty_s, isS, cut_mid, decide_eq_true_eq, if_pos, if_neg]
  | @nr t t1 t2 hk hkd hk1 hkd1 hk2 hkd2 =>
    have hlt := lt_of hk
    have hlt1 := lt_of hk1
    have hlt2 := lt_of hk2
    simp (disch := first | omega | (simp only [List.length_append, List.length_cons, List.length_nil, List.length_set, List.length_drop, List.length_take, List.length_map]; omega)) only [len_r hl, tk_w hl hk, tgt3, hkd, rOut, kne_1, kne_2, kne_3, kne_4, kne_5, kne_6, cast1, cast3, kn_OPN, kn_PHR, kn_BEG, kn_AND, kn_OR, kn_CLS, kn_WRD, ko_PHR, ko_BEG, ko_AND, ko_OR, ko_CLS, ko_WRD, kw_AND, kw_OR, kw_CLS, pb_1, pb_2, pb_3, pb_4, pb_5, pb_6, tk_w1 hl hk1, tk_kd, hkd1, tk_w2 hl hk2, hkd2, tk_wh, mVar_z, Nat.reduceAdd, Nat.zero_add, Int.zero_add, Int.reduceAdd, Int.reduceSub, Int.reduceNeg, ap_Lst, ap_Tup, nil_app, cons_app, List.length_append, lst_last, mVar_s, ok_bnd, ok_stm, exc_bnd, ev_okE, exc_stm, ap_C, ap_Op, ap_Un, ap_B, ap_Chain, ap_asB, ap_And, ap_Or, ap_Not, ap_AndV, ap_OrV, ap_NotV, ap_If, ap_Nil, ap_Cons, ap_CB, ap_Meth, ap_Part, ap_NoPart, ap_Sl, ap_Yes, add_ii, add_ss, sub_ii, neg_i, mul_ii, fdiv_ii, mod_ii, eq_ii, ne_ii, eq_ss, ne_ss, lt_ii, le_ii, gt_ii, ge_ii, lt_ss, gt_ss, le_ss, ge_ss, len_s, len_t, abs_i, int_i, int_b, max_ii, min_ii, ix_s, ixL_0, ixL_1, ixL_2, ixL_3, ixL_n, ixL_i, ixL_st, setL_n, setL_i, List.length_map, List.length_set, ix_r, getL_r, ix_tL, withL_s, setL_0, setL_1, setL_2, set_r, app_r, lst_z, lst_s, iadd_ii, tuple_r, mul_ri, sl_s, sl_rol, sl_t, sl_r, cut_from, cut_to, ap_Seq, nx_seq, rt_seq, ct_seq, bk_seq, exc_seq, ap_Raise, ap_Skip, ap_Brk, ap_Cnt, ap_Drop, ap_Ret, ap_IfS, ap_Set, ap_Ts, ap_AsgT, tgT_t, tgTs_n, tgTs_c, ap_Aug, ap_SetI, ap_AugI, mFor_ap, ap_Rng1, ap_Rng2, rng1_ok, rng2_ok, ap_Iter, src_t, src_s, src_rL, ap_Comp, wipe_n, wipe_c, len_cons, len_nil, zip_cc, zip_nn, foldl_c, foldl_n, set_z, set_s, ite_t, ite_f, ite_T, ite_F, sing_lt, sing_eq, ty_r, ty_s, isS, cut_mid, decide_eq_true_eq, if_pos, if_neg]
    rw [show ((k : Int) + 1 + 1 + 1) = k + 3 by omega]
def PS (ts : List Tk) (en : Nat) : Nat → Nat → Res → Prop
  | 0 => fun _ _ => False
  | n + 1 => One (PS ts en n) (Row (Row (PS ts en n) AND ts) OR ts) ts en
abbrev PE1 (ts : List Tk) (en n : Nat) : Nat → Res → Prop := Row (PS ts en n) AND ts
abbrev PO1 (ts : List Tk) (en n : Nat) : Nat → Res → Prop := Row (PE1 ts en n) OR ts
theorem ps_den (hl : lstAt h p = some (ts.map tkW)) : ∀ (n k : Nat) (r : Res), PS ts en n k r → den_single_n n [.ref p, .int (k : Nat), .int (en : Nat)] h = rOut r h
  | 0, k, r, z => z.elim
  | n + 1, k, r, z => by
    have ih := ps_den hl n
    exact one_den hl ih (fun k r q => by rw [some_is]; exact row_den hl (fun k r q => by rw [every_is]; exact row_den hl ih q) q) z
theorem some_den (hl : lstAt h p = some (ts.map tkW)) {k : Nat} {r : Res} (q : PO1 ts en 16 k r) : den_some [.ref p, .int (k : Nat), .int (en : Nat)] h = rOut r h := by
  unfold den_some den_single
  rw [some_is]
  exact row_den hl (fun k r q => by rw [every_is]; exact row_den hl (ps_den hl 16) q) q
end
end Law_indexhall_k30_refusals_apart.R
set_option maxRecDepth 100000
namespace Law_indexhall_k30_refusals_apart.R
open PySem L2 Den
/-! ### asks -/
inductive A
  | wd (w : List Nat)
  | bg (w : List Nat)
  | ph (ws : List (List Nat))
  | nr (n : Nat) (w o : List Nat)
  | nt (a : A)
  | an (a b : A)
  | or (a b : A)
def toW : A → W
  | .wd w => .tup [.str WRD, .str w]
  | .bg w => .tup [.str BEG, .str w]
  | .ph ws => .tup [.str PHR, .tup (ws.map .str)]
  | .nr n w o => .tup [.str NEA, .int n, .str w, .str o]
  | .nt a => .tup [.str NOT, toW a]
  | .an a b => .tup [.str AND, toW a, toW b]
  | .or a b => .tup [.str OR, toW a, toW b]
def isO : A → Bool
  | .or _ _ => true
  | _ => false
def isAO : A → Bool
  | .or _ _ => true
  | .an _ _ => true
  | _ => false
abbrev KW := List Nat × W
def brk (c : Bool) (l : List KW) : List KW := if c = true then (OPN, .str []) :: l ++ [(CLS, .str [])] else l
def kt : A → List KW
  | .wd w => [(WRD, .str w)]
  | .bg w => [(BEG, .str w)]
  | .ph ws => [(PHR, .tup (ws.map .str))]
  | .nr n w o => [(WRD, .str w), (NEA, .int n), (WRD, .str o)]
  | .nt a => (NOT, .str []) :: brk (isAO a) (kt a)
  | .an a b => brk (isO a) (kt a) ++ (AND, .str []) :: brk (isAO b) (kt b)
  | .or a b => kt a ++ (OR, .str []) :: brk (isO b) (kt b)
def sz : A → Nat
  | .nt a => sz a + 1
  | .an a b => sz a + sz b + 1
  | .or a b => sz a + sz b + 1
  | _ => 1
def dep : A → Nat
  | .nt a => dep a + 2
  | .an a b => max (dep a) (dep b) + 1
  | .or a b => max (dep a) (dep b) + 1
  | _ => 1
/-- the parts from k on -/
def At (ts : List Tk) (k : Nat) (l : List KW) : Prop := ∀ i x, l[i]? = some x → ∃ t, ts[k + i]? = some t ∧ t.kd = x.1 ∧ t.wh = x.2
section
variable {ts : List Tk} {en k n : Nat}
theorem At.left {l1 l2 : List KW} (h : At ts k (l1 ++ l2)) : At ts k l1 := fun i x e => h i x (by rw [List.getElem?_append_left (List.getElem?_eq_some_iff.mp e).1]; exact e)
theorem At.right {l1 l2 : List KW} (h : At ts k (l1 ++ l2)) : At ts (k + l1.length) l2 := fun i x e => by
  obtain ⟨t, h1, h2⟩ := h (l1.length + i) x (by rw [List.getElem?_append_right (by omega)]; rw [show l1.length + i - l1.length = i by omega]; exact e)
  exact ⟨t, by rw [← h1]; congr 1; omega, h2⟩
theorem At.head {x : KW} {l : List KW} (h : At ts k (x :: l)) : ∃ t, ts[k]? = some t ∧ t.kd = x.1 ∧ t.wh = x.2 := h 0 x rfl
theorem At.tail {x : KW} {l : List KW} (h : At ts k (x :: l)) : At ts (k + 1) l := by
  have := At.right (l1 := [x]) h
  exact this
/-- the next is none of these -/
def Nx (ts : List Tk) (k : Nat) (L : List (List Nat)) : Prop := ∀ t, ts[k]? = some t → t.kd ∉ L
theorem nx_of {t : Tk} {L : List (List Nat)} (e : ts[k]? = some t) (h : t.kd ∉ L) : Nx ts k L := fun t' e' => by rw [e] at e'; cases e'; exact h
theorem Nx.mono {L L' : List (List Nat)} (h : Nx ts k L) (s : ∀ x ∈ L', x ∈ L) : Nx ts k L' := fun t e m => h t e (s _ m)
def P1 (ts : List Tk) (en n : Nat) (a : A) : Prop := isAO a = false → ∀ k, At ts k (kt a) → Nx ts (k + (kt a).length) [NEA] → PS ts en n k (.ok (toW a) (k + (kt a).length))
def P2 (ts : List Tk) (en n : Nat) (a : A) : Prop := isO a = false → ∀ k r c, At ts k (kt a) → Nx ts (k + (kt a).length) [NEA] → Ch (PS ts en n) AND ts c (toW a) (k + (kt a).length) r → ∃ a0 k1 c', PS ts en n k (.ok a0 k1) ∧ Ch (PS ts en n) AND ts c' a0 k1 r ∧ c' ≤ c + sz a
def P3 (ts : List Tk) (en n : Nat) (a : A) : Prop := ∀ k r c, At ts k (kt a) → Nx ts (k + (kt a).length) [NEA, AND] → Ch (PE1 ts en n) OR ts c (toW a) (k + (kt a).length) r → ∃ a0 k1 c', PE1 ts en n k (.ok a0 k1) ∧ Ch (PE1 ts en n) OR ts c' a0 k1 r ∧ c' ≤ c + sz a
/-- bracketed -/
theorem p_br {a : A} (hs : sz a < 500) (h3 : P3 ts en n a) (h : At ts k ((OPN, .str []) :: kt a ++ [(CLS, .str [])])) : PS ts en (n + 1) k (.ok (toW a) (k + ((OPN, W.str []) :: kt a ++ [(CLS, W.str [])]).length)) := by
  obtain ⟨t, e, hk, _⟩ := At.head h
  have h' : At ts (k + 1) (kt a ++ [(CLS, .str [])]) := At.tail h
  obtain ⟨t2, e2, hk2, _⟩ := At.head (At.right h')
  have hk2 : t2.kd = CLS := hk2
  obtain ⟨a0, k1, c', q1, q2, q3⟩ := h3 (k + 1) (.ok (toW a) (k + 1 + (kt a).length)) 0 (At.left h') (nx_of e2 (by rw [hk2]; decide)) (.stop fun t' e' => by rw [e2] at e'; cases e'; rw [hk2]; decide)
  have := One.op (f := PS ts en n) (fo := PO1 ts en n) (en := en) e hk (.inl ⟨a0, k1, c', q1, q2, by omega⟩) e2 hk2
  have el : k + ((OPN, W.str []) :: kt a ++ [(CLS, W.str [])]).length = k + 1 + (kt a).length + 1 := by simp; omega
  rw [el]
  exact this
/-- single or bracketed -/
theorem p_sb {a : A} (hs : sz a < 500) (h1 : P1 ts en (n + 1) a) (h3 : P3 ts en n a) {b : Bool} (hb : b = false → isAO a = false) (h : At ts k (brk b (kt a))) (nx : Nx ts (k + (brk b (kt a)).length) [NEA]) : PS ts en (n + 1) k (.ok (toW a) (k + (brk b (kt a)).length)) := by
  cases b with
  | false => exact h1 (hb rfl) k h nx
  | true => exact p_br hs h3 h
theorem p_all : ∀ (a : A) (n : Nat), dep a ≤ n → sz a < 500 → P1 ts en n a ∧ P2 ts en n a ∧ P3 ts en n a := by
  intro a
  have fin2 : ∀ {a : A} {n : Nat}, isAO a = false → P1 ts en n a → P2 ts en n a := fun {a n} ha h1 _ k r c hat nx hc => ⟨_, _, c, h1 ha k hat nx, hc, by omega⟩
  have fin3 : ∀ {a : A} {n : Nat}, sz a < 500 → isO a = false → P2 ts en n a → P3 ts en n a := fun {a n} hs ha h2 k r c hat nx hc => by
    obtain ⟨a0, k1, c', q1, q2, q3⟩ := h2 ha k (.ok (toW a) (k + (kt a).length)) 0 hat (nx.mono (by simp)) (.stop fun t e he => nx t e (by rw [he]; simp))
    exact ⟨_, _, c, .inl ⟨a0, k1, c', q1, q2, by omega⟩, hc, by omega⟩
  induction a with
  | wd w =>
    intro n hn hs
    obtain ⟨n, rfl⟩ : ∃ m, n = m + 1 := ⟨n - 1, by unfold dep at hn; omega⟩
    have h1 : P1 ts en (n + 1) (.wd w) := fun _ k hat nx => by
      obtain ⟨t, e, hk, hw⟩ := At.head hat
      have := One.wd (f := PS ts en n) (fo := PO1 ts en n) (en := en) e hk fun t1 e1 z => nx t1 e1 (by rw [z]; simp)
      rw [hw] at this
      exact this
    exact ⟨h1, fin2 rfl h1, fin3 hs rfl (fin2 rfl h1)⟩
  | bg w =>
    intro n hn hs
    obtain ⟨n, rfl⟩ : ∃ m, n = m + 1 := ⟨n - 1, by unfold dep at hn; omega⟩
    have h1 : P1 ts en (n + 1) (.bg w) := fun _ k hat nx => by
      obtain ⟨t, e, hk, hw⟩ := At.head hat
      have := One.ph (f := PS ts en n) (fo := PO1 ts en n) (en := en) e (.inr hk)
      rw [hw, hk] at this
      exact this
    exact ⟨h1, fin2 rfl h1, fin3 hs rfl (fin2 rfl h1)⟩
  | ph ws =>
    intro n hn hs
    obtain ⟨n, rfl⟩ : ∃ m, n = m + 1 := ⟨n - 1, by unfold dep at hn; omega⟩
    have h1 : P1 ts en (n + 1) (.ph ws) := fun _ k hat nx => by
      obtain ⟨t, e, hk, hw⟩ := At.head hat
      have := One.ph (f := PS ts en n) (fo := PO1 ts en n) (en := en) e (.inl hk)
      rw [hw, hk] at this
      exact this
    exact ⟨h1, fin2 rfl h1, fin3 hs rfl (fin2 rfl h1)⟩
  | nr m w o =>
    intro n hn hs
    obtain ⟨n, rfl⟩ : ∃ m, n = m + 1 := ⟨n - 1, by unfold dep at hn; omega⟩
    have h1 : P1 ts en (n + 1) (.nr m w o) := fun _ k hat nx => by
      obtain ⟨t, e, hk, hw⟩ := At.head hat
      obtain ⟨t1, e1, hk1, hw1⟩ := At.head (At.tail hat)
      obtain ⟨t2, e2, hk2, hw2⟩ := At.head (At.tail (At.tail hat))
      have := One.nr (f := PS ts en n) (fo := PO1 ts en n) (en := en) e hk e1 hk1 e2 hk2
      rw [hw, hw1, hw2] at this
      exact this
    exact ⟨h1, fin2 rfl h1, fin3 hs rfl (fin2 rfl h1)⟩
  | nt a ih =>
    intro n hn hs
    unfold dep at hn
    unfold sz at hs
    obtain ⟨n, rfl⟩ : ∃ m, n = m + 2 := ⟨n - 2, by omega⟩
    have h1 : P1 ts en (n + 2) (.nt a) := fun _ k hat nx => by
      obtain ⟨t, e, hk, hw⟩ := At.head hat
      have hat2 : At ts (k + 1) (brk (isAO a) (kt a)) := At.tail hat
      have el : k + (kt (.nt a)).length = k + 1 + (brk (isAO a) (kt a)).length := by
        show k + ((NOT, W.str []) :: brk (isAO a) (kt a)).length = _
        simp; omega
      rw [el] at nx ⊢
      have q := p_sb (n := n) (by omega) (ih (n + 1) (by omega) (by omega)).1 (ih n (by omega) (by omega)).2.2 (fun z => z) hat2 nx
      exact One.no (f := PS ts en (n + 1)) (fo := PO1 ts en (n + 1)) (en := en) e hk q
    exact ⟨h1, fin2 rfl h1, fin3 (by unfold sz; omega) rfl (fin2 rfl h1)⟩
  | an a b iha ihb =>
    intro n hn hs
    unfold dep at hn
    have hsz : sz (.an a b) = sz a + sz b + 1 := rfl
    have hda : dep a ≤ n - 1 := by omega
    have hdb : dep b ≤ n - 1 := by omega
    obtain ⟨n, rfl⟩ : ∃ m, n = m + 1 := ⟨n - 1, by omega⟩
    have h2 : P2 ts en (n + 1) (.an a b) := fun _ k r c hat nx hc => by
      have hat : At ts k (brk (isO a) (kt a) ++ (AND, .str []) :: brk (isAO b) (kt b)) := hat
      have el : k + (kt (.an a b)).length = k + (brk (isO a) (kt a)).length + 1 + (brk (isAO b) (kt b)).length := by
        show k + (brk (isO a) (kt a) ++ (AND, W.str []) :: brk (isAO b) (kt b)).length = _
        simp; omega
      rw [el] at nx hc
      have hr := At.right hat
      obtain ⟨t, e, hk, _⟩ := At.head hr
      have qb := p_sb (n := n) (by omega) (ihb (n + 1) (by omega) (by omega)).1 (ihb n hdb (by omega)).2.2 (fun z => z) (At.tail hr) nx
      have hc2 : Ch (PS ts en (n + 1)) AND ts (c + 1) (toW a) (k + (brk (isO a) (kt a)).length) r := .step e hk qb hc
      have nxa : Nx ts (k + (brk (isO a) (kt a)).length) [NEA] := nx_of e (by rw [hk]; decide)
      cases ho : isO a with
      | true =>
        rw [ho] at hc2 hat
        have q := p_br (n := n) (by omega) (iha n hda (by omega)).2.2 (At.left hat)
        exact ⟨_, _, c + 1, q, hc2, by omega⟩
      | false =>
        rw [ho] at hc2 hat nxa
        obtain ⟨a0, k1, c', q1, q2, q3⟩ := (iha (n + 1) (by omega) (by omega)).2.1 ho k r (c + 1) (At.left hat) nxa hc2
        exact ⟨a0, k1, c', q1, q2, by omega⟩
    exact ⟨fun z => (by cases z), h2, fin3 hs rfl h2⟩
  | or a b iha ihb =>
    intro n hn hs
    unfold dep at hn
    have hsz : sz (.or a b) = sz a + sz b + 1 := rfl
    obtain ⟨n, rfl⟩ : ∃ m, n = m + 1 := ⟨n - 1, by omega⟩
    refine ⟨fun z => (by cases z), fun z => (by cases z), fun k r c hat nx hc => ?_⟩
    have hat : At ts k (kt a ++ (OR, .str []) :: brk (isO b) (kt b)) := hat
    have el : k + (kt (.or a b)).length = k + (kt a).length + 1 + (brk (isO b) (kt b)).length := by
      show k + (kt a ++ (OR, W.str []) :: brk (isO b) (kt b)).length = _
      simp; omega
    rw [el] at nx hc
    have hr := At.right hat
    obtain ⟨t, e, hk, _⟩ := At.head hr
    have qb : PE1 ts en (n + 1) (k + (kt a).length + 1) (.ok (toW b) (k + (kt a).length + 1 + (brk (isO b) (kt b)).length)) := by
      have hb := At.tail hr
      have stp : Ch (PS ts en (n + 1)) AND ts 0 (toW b) (k + (kt a).length + 1 + (brk (isO b) (kt b)).length) (.ok (toW b) (k + (kt a).length + 1 + (brk (isO b) (kt b)).length)) := .stop fun t e he => nx t e (by rw [he]; simp)
      cases ho : isO b with
      | true =>
        rw [ho] at hb stp
        exact .inl ⟨_, _, 0, p_br (n := n) (by omega) (ihb n (by omega) (by omega)).2.2 hb, stp, by omega⟩
      | false =>
        rw [ho] at hb nx stp
        obtain ⟨a0, k1, c', q1, q2, q3⟩ := (ihb (n + 1) (by omega) (by omega)).2.1 ho _ _ 0 hb (nx.mono (by simp)) stp
        exact .inl ⟨a0, k1, c', q1, q2, by omega⟩
    have hc2 : Ch (PE1 ts en (n + 1)) OR ts (c + 1) (toW a) (k + (kt a).length) r := .step e hk qb hc
    obtain ⟨a0, k1, c', q1, q2, q3⟩ := (iha (n + 1) (by omega) (by omega)).2.2 k r (c + 1) (At.left hat) (nx_of e (by rw [hk]; decide)) hc2
    exact ⟨a0, k1, c', q1, q2, by omega⟩
/-- an ask, then the end or what is none of an ask's -/
theorem p_ok {a : A} (hn : dep a ≤ n) (hs : sz a < 500) (h : At ts k (kt a)) (nx : Nx ts (k + (kt a).length) [NEA, AND, OR]) : PO1 ts en n k (.ok (toW a) (k + (kt a).length)) := by
  obtain ⟨a0, k1, c', q1, q2, q3⟩ := (p_all a n hn hs).2.2 k (.ok (toW a) (k + (kt a).length)) 0 h (nx.mono (by simp)) (.stop fun t e he => nx t e (by rw [he]; simp))
  exact .inl ⟨a0, k1, c', q1, q2, by omega⟩
end
end Law_indexhall_k30_refusals_apart.R
set_option maxRecDepth 100000
namespace Law_indexhall_k30_refusals_apart.R
open PySem L2 Den
/-! ### where a sign stands first -/
theorem occ_first (s sub : Str) (hi : Nat) : ∀ (n k free j : Nat), free ≤ k → k ≤ j → j < k + n → (j + sub.length ≤ hi ∧ Builtin.Str.subAt s sub j = true) → (∀ i, k ≤ i → i < j → ¬ (i + sub.length ≤ hi ∧ Builtin.Str.subAt s sub i = true)) →
    (forIn (List.range' k n) ((#[] : Array Nat), free) (StrLaws.occBody s sub hi 1)).run.fst = #[j]
  | 0, k, free, j, _, h1, h2, _, _ => by omega
  | n + 1, k, free, j, hf, h1, h2, hj, hn => by
    have full : ∀ (l : List Nat) (f : Nat), (forIn l ((#[j] : Array Nat), f) (StrLaws.occBody s sub hi 1)).run.fst = #[j] := by
      intro l
      induction l with
      | nil => intro f; rfl
      | cons a l ih =>
        intro f
        rw [List.forIn_cons]
        unfold StrLaws.occBody
        rw [if_neg (fun h => by have := h.1.1.1; simp at this)]
        exact ih f
    rw [List.range'_succ, List.forIn_cons]
    by_cases e : k = j
    · subst e
      unfold StrLaws.occBody
      rw [if_pos ⟨⟨⟨by simp, hf⟩, hj.1⟩, hj.2⟩]
      exact full _ _
    · have hk := hn k (Nat.le_refl _) (by omega)
      unfold StrLaws.occBody
      rw [if_neg (fun h => hk ⟨h.1.2, h.2⟩)]
      exact occ_first s sub hi n (k + 1) free j (by omega) (by omega) (by omega) hj fun i h1 h2 => hn i (by omega) h2
theorem find3_at {t : List Nat} {c lo j : Nat} {h : List O} (hj : t[j]? = some c) (hlo : lo ≤ j) (hn : ∀ i, lo ≤ i → i < j → t[i]? ≠ some c) : oSFind3 (.str t) [.str [c], .int (lo : Nat)] h = .ok (.int (j : Nat)) h := by
  have hl : j < t.length := (List.getElem?_eq_some_iff.mp hj).1
  have sub : ∀ i, (i + (mkS [c]).length ≤ (mkS t).length ∧ Builtin.Str.subAt (mkS t) (mkS [c]) i = true) ↔ t[i]? = some c := fun i => by
    have := StrLaws.subAt_one (mkS t) c i
    simpa using this
  have len : (mkS t).length = t.length := Str_length ..
  have fi : fromIndex (mkS t).length (lo : Nat) = lo := by
    unfold fromIndex
    rw [if_neg (by omega), Int.max_eq_right (by omega)]
    rfl
  have key : Builtin.Str.occurrences (mkS t) (mkS [c]) lo (mkS t).length 1 = [j] := by
    rw [StrLaws.occ_eq, occ_first (mkS t) (mkS [c]) (mkS t).length _ lo lo j (Nat.le_refl _) hlo (by rw [len]; omega) ((sub j).2 hj) fun i h1 h2 h3 => hn i h1 h2 ((sub i).1 h3)]
  unfold oSFind3 Txt.find3
  dsimp only
  rw [fi, key]
def cutC : M Bool := (mB (mOp oLt (mVar 2) (mCB oLen (mCons (mVar 0) (mNil)))))
def cutSP : Sm := (mAug 2 oIadd (mC (.int 1)))
def cutBR : Sm := (mSeq (mAug 3 oIadd (mOp oSub (mCB oInt (mCons (mOp oEq (mOp oIx (mVar 0) (mVar 2)) (mC (.str [40]))) (mNil))) (mCB oInt (mCons (mOp oEq (mOp oIx (mVar 0) (mVar 2)) (mC (.str [41]))) (mNil))))) (mSeq (mIfS (mB (mOp oGt (mVar 3) (mC (.int 40)))) (mRaiseF 4 (mCons (mVar 2) (mNil))) (mSkip)) (mSeq (mDrop (mMeth "list" oAppend (mVar 1) (mCons (mTup (mCons (mIf (mB (mOp oEq (mOp oIx (mVar 0) (mVar 2)) (mC (.str [40])))) (mC (.str [111, 112, 101, 110])) (mC (.str [99, 108, 111, 115, 101]))) (mCons (mC (.str [])) (mCons (mVar 2) (mNil))))) (mNil)))) (mAug 2 oIadd (mC (.int 1))))))
def cutQU : Sm := (mSeq (mSet 5 (mMeth "str" oSFind3 (mVar 0) (mCons (mC (.str [34])) (mCons (mOp oAdd (mVar 2) (mC (.int 1))) (mNil))))) (mSeq (mIfS (mB (mOp oLt (mVar 5) (mC (.int 0)))) (mRaiseF 4 (mCons (mCB oLen (mCons (mVar 0) (mNil))) (mNil))) (mSkip)) (mSeq (mSet 6 (mMeth "str" oSSplit (mSl (mVar 0) (mPart (mOp oAdd (mVar 2) (mC (.int 1)))) (mPart (mVar 5))) (mCons (mC (.str [32])) (mNil)))) (mSeq (mIfS (mNot (mTru (mGenX false 100000 [7] (mIter (mVar 6)) (tgN 7) (mCB (pureRun den_is_plain 1) (mCons (mVar 7) (mNil)))))) (mRaiseF 4 (mCons (mVar 2) (mNil))) (mSkip)) (mSeq (mDrop (mMeth "list" oAppend (mVar 1) (mCons (mTup (mCons (mC (.str [112, 104, 114, 97, 115, 101])) (mCons (mCB oTuple (mCons (mVar 6) (mNil))) (mCons (mVar 2) (mNil))))) (mNil)))) (mSet 2 (mOp oAdd (mVar 5) (mC (.int 1)))))))))
def wC : M Bool := (mAnd (mB (mOp oLt (mVar 2) (mCB oLen (mCons (mVar 0) (mNil))))) (mB (mOp oIn (mOp oIx (mVar 0) (mVar 2)) (mOp oAdd (mOp oAdd (mC (.str [97, 98, 99, 100, 101, 102, 103, 104, 105, 106, 107, 108, 109, 110, 111, 112, 113, 114, 115, 116, 117, 118, 119, 120, 121, 122])) (mC (.str [48, 49, 50, 51, 52, 53, 54, 55, 56, 57]))) (mC (.str [47, 42]))))))
def wB : Sm := (mAug 2 oIadd (mC (.int 1)))
def cutWT : Sm := (mSeq (mIfS (mB (mOp oEq (mVar 2) (mVar 4))) (mRaiseF 4 (mCons (mVar 2) (mNil))) (mSkip)) (mDrop (mMeth "list" oAppend (mVar 1) (mCons (mCB (fun ws h => if ws.length = 2 then den_named ws h else .bad) (mCons (mSl (mVar 0) (mPart (mVar 4)) (mPart (mVar 2))) (mCons (mVar 4) (mNil)))) (mNil)))))
def cutWL : Sm := mSeq (mWhile 100000 wC wB) cutWT
def cutB : Sm := mSeq (mSet 4 (mVar 2)) (mIfS (mB (mOp oEq (mOp oIx (mVar 0) (mVar 2)) (mC (.str [32])))) cutSP (mIfS (mB (mOp oIn (mOp oIx (mVar 0) (mVar 2)) (mC (.str [40, 41])))) cutBR (mIfS (mB (mOp oEq (mOp oIx (mVar 0) (mVar 2)) (mC (.str [34])))) cutQU cutWL)))
theorem cut_is : body_cut = mSeq (mTs [1, 2, 3] (mCons (mLst (mNil)) (mCons (mC (.int 0)) (mCons (mC (.int 0)) (mNil))))) (mSeq (mWhile 100000 cutC cutB) (mRet (mVar 1))) := rfl
end Law_indexhall_k30_refusals_apart.R
set_option maxRecDepth 100000
namespace Law_indexhall_k30_refusals_apart.R
open PySem L2 Den
abbrev WCH : List Nat := [97, 98, 99, 100, 101, 102, 103, 104, 105, 106, 107, 108, 109, 110, 111, 112, 113, 114, 115, 116, 117, 118, 119, 120, 121, 122, 48, 49, 50, 51, 52, 53, 54, 55, 56, 57, 47, 42]
theorem in_cs {c : Nat} {s : List Nat} {h : List O} : oIn (.str [c]) (.str s) h = .ok (.bl (decide (c ∈ s))) h := nrfl rfl
theorem sing_e {a b : Nat} : ([a] = [b]) = (a = b) := by simp
section
variable {t : List Nat} {q k : Nat} {d : Int} {h : List O} {e4 e5 e6 e7 : Option W}
theorem gd {c : Nat} (hk : t[k]? = some c) : t.getD k 0 = c := by rw [List.getD_eq_getElem?_getD, hk]; rfl
theorem cut_sp (ht : t.length ≤ 500) (hk : t[k]? = some 32) :
    cutB [some (.str t), some (.ref q), some (.int k), some (.int d), e4, e5, e6, e7] h = .nx [some (.str t), some (.ref q), some (.int ((k + 1 : Nat))), some (.int d), some (.int k), e5, e6, e7] h := by
  have hl := (List.getElem?_eq_some_iff.mp hk).1
  have hg := gd hk
  unfold cutB cutSP
  simp (disch := first | omega | (simp only [List.length_append, List.length_cons, List.length_nil, List.length_set, List.length_drop, List.length_take, List.length_map]; omega)) only [hg, sing_e, cast1, sv_nx, sv_rt, sv_ct, rnd_nx, rnd_ct, Int.toNat_natCast, ne_eq, eq_self, not_true_eq_false, not_false_eq_true, mVar_z, Nat.reduceAdd, Nat.zero_add, Int.zero_add, Int.reduceAdd, Int.reduceSub, Int.reduceNeg, ap_Lst, ap_Tup, nil_app, cons_app, List.length_append, lst_last, mVar_s, ok_bnd, ok_stm, exc_bnd, ev_okE, exc_stm, ap_C, ap_Op, ap_Un, ap_B, ap_Chain, ap_asB, ap_And, ap_Or, ap_Not, ap_AndV, ap_OrV, ap_NotV, ap_If, ap_Nil, ap_Cons, ap_CB, ap_Meth, ap_Part, ap_NoPart, ap_Sl, ap_Yes, add_ii, add_ss, sub_ii, neg_i, mul_ii, fdiv_ii, mod_ii, eq_ii, ne_ii, eq_ss, ne_ss, lt_ii, le_ii, gt_ii, ge_ii, lt_ss, gt_ss, le_ss, ge_ss, len_s, len_t, abs_i, int_i, int_b, max_ii, min_ii, ix_s, ixL_0, ixL_1, ixL_2, ixL_3, ixL_n, ixL_i, ixL_st, setL_n, setL_i, List.length_map, List.length_set, ix_r, getL_r, ix_tL, withL_s, setL_0, setL_1, setL_2, set_r, app_r, lst_z, lst_s, iadd_ii, tuple_r, mul_ri, sl_s, sl_rol, sl_t, sl_r, cut_from, cut_to, ap_Seq, nx_seq, rt_seq, ct_seq, bk_seq, exc_seq, ap_Raise, ap_Skip, ap_Brk, ap_Cnt, ap_Drop, ap_Ret, ap_IfS, ap_Set, ap_Ts, ap_AsgT, tgT_t, tgTs_n, tgTs_c, ap_Aug, ap_SetI, ap_AugI, mFor_ap, ap_Rng1, ap_Rng2, rng1_ok, rng2_ok, ap_Iter, src_t, src_s, src_rL, ap_Comp, wipe_n, wipe_c, len_cons, len_nil, zip_cc, zip_nn, foldl_c, foldl_n, set_z, set_s, ite_t, ite_f, ite_T, ite_F, sing_lt, sing_eq, ty_r, ty_s, isS, cut_mid, decide_eq_true_eq, if_pos, if_neg]
theorem cut_op {acc : List Tk} (ht : t.length ≤ 500) (hk : t[k]? = some 40) (ha : acc.length ≤ 1000) (hq : lstAt h q = some (acc.map tkW)) (hd : d < 40) :
    cutB [some (.str t), some (.ref q), some (.int k), some (.int d), e4, e5, e6, e7] h = .nx [some (.str t), some (.ref q), some (.int ((k + 1 : Nat))), some (.int (d + 1)), some (.int k), e5, e6, e7] (h.set q (.lst ((acc ++ [Tk.mk OPN (.str []) k]).map tkW))) := by
  have hl := (List.getElem?_eq_some_iff.mp hk).1
  have hg := gd hk
  have n1 : (40 = 32) = False := by decide
  have n2 : (40 ∈ ([40, 41] : List Nat)) = True := by decide
  have n3 : (40 = 41) = False := by decide
  unfold cutB cutBR
  simp (disch := first | omega | (simp only [List.length_append, List.length_cons, List.length_nil, List.length_set, List.length_drop, List.length_take, List.length_map]; omega)) only [hg, sing_e, cast1, in_cs, n1, n2, n3, hq, sv_nx, sv_rt, sv_ct, rnd_nx, rnd_ct, Int.toNat_natCast, ne_eq, eq_self, not_true_eq_false, not_false_eq_true, mVar_z, Nat.reduceAdd, Nat.zero_add, Int.zero_add, Int.reduceAdd, Int.reduceSub, Int.reduceNeg, ap_Lst, ap_Tup, nil_app, cons_app, List.length_append, lst_last, mVar_s, ok_bnd, ok_stm, exc_bnd, ev_okE, exc_stm, ap_C, ap_Op, ap_Un, ap_B, ap_Chain, ap_asB, ap_And, ap_Or, ap_Not, ap_AndV, ap_OrV, ap_NotV, ap_If, ap_Nil, ap_Cons, ap_CB, ap_Meth, ap_Part, ap_NoPart, ap_Sl, ap_Yes, add_ii, add_ss, sub_ii, neg_i, mul_ii, fdiv_ii, mod_ii, eq_ii, ne_ii, eq_ss, ne_ss, lt_ii, le_ii, gt_ii, ge_ii, lt_ss, gt_ss, le_ss, ge_ss, len_s, len_t, abs_i, int_i, int_b, max_ii, min_ii, ix_s, ixL_0, ixL_1, ixL_2, ixL_3, ixL_n, ixL_i, ixL_st, setL_n, setL_i, List.length_map, List.length_set, ix_r, getL_r, ix_tL, withL_s, setL_0, setL_1, setL_2, set_r, app_r, lst_z, lst_s, iadd_ii, tuple_r, mul_ri, sl_s, sl_rol, sl_t, sl_r, cut_from, cut_to, ap_Seq, nx_seq, rt_seq, ct_seq, bk_seq, exc_seq, ap_Raise, ap_Skip, ap_Brk, ap_Cnt, ap_Drop, ap_Ret, ap_IfS, ap_Set, ap_Ts, ap_AsgT, tgT_t, tgTs_n, tgTs_c, ap_Aug, ap_SetI, ap_AugI, mFor_ap, ap_Rng1, ap_Rng2, rng1_ok, rng2_ok, ap_Iter, src_t, src_s, src_rL, ap_Comp, wipe_n, wipe_c, len_cons, len_nil, zip_cc, zip_nn, foldl_c, foldl_n, set_z, set_s, ite_t, ite_f, ite_T, ite_F, sing_lt, sing_eq, ty_r, ty_s, isS, cut_mid, decide_eq_true_eq, if_pos, if_neg]
  simp [tkW]
theorem cut_cl {acc : List Tk} (ht : t.length ≤ 500) (hk : t[k]? = some 41) (ha : acc.length ≤ 1000) (hq : lstAt h q = some (acc.map tkW)) (hd : d ≤ 40) :
    cutB [some (.str t), some (.ref q), some (.int k), some (.int d), e4, e5, e6, e7] h = .nx [some (.str t), some (.ref q), some (.int ((k + 1 : Nat))), some (.int (d - 1)), some (.int k), e5, e6, e7] (h.set q (.lst ((acc ++ [Tk.mk CLS (.str []) k]).map tkW))) := by
  have hl := (List.getElem?_eq_some_iff.mp hk).1
  have hg := gd hk
  have n1 : (41 = 32) = False := by decide
  have n2 : (41 ∈ ([40, 41] : List Nat)) = True := by decide
  have n3 : (41 = 40) = False := by decide
  unfold cutB cutBR
  simp (disch := first | omega | (simp only [List.length_append, List.length_cons, List.length_nil, List.length_set, List.length_drop, List.length_take, List.length_map]; omega)) only [hg, sing_e, cast1, in_cs, n1, n2, n3, hq, sv_nx, sv_rt, sv_ct, rnd_nx, rnd_ct, Int.toNat_natCast, ne_eq, eq_self, not_true_eq_false, not_false_eq_true, mVar_z, Nat.reduceAdd, Nat.zero_add, Int.zero_add, Int.reduceAdd, Int.reduceSub, Int.reduceNeg, ap_Lst, ap_Tup, nil_app, cons_app, List.length_append, lst_last, mVar_s, ok_bnd, ok_stm, exc_bnd, ev_okE, exc_stm, ap_C, ap_Op, ap_Un, ap_B, ap_Chain, ap_asB, ap_And, ap_Or, ap_Not, ap_AndV, ap_OrV, ap_NotV, ap_If, ap_Nil, ap_Cons, ap_CB, ap_Meth, ap_Part, ap_NoPart, ap_Sl, ap_Yes, add_ii, add_ss, sub_ii, neg_i, mul_ii, fdiv_ii, mod_ii, eq_ii, ne_ii, eq_ss, ne_ss, lt_ii, le_ii, gt_ii, ge_ii, lt_ss, gt_ss, le_ss, ge_ss, len_s, len_t, abs_i, int_i, int_b, max_ii, min_ii, ix_s, ixL_0, ixL_1, ixL_2, ixL_3, ixL_n, ixL_i, ixL_st, setL_n, setL_i, List.length_map, List.length_set, ix_r, getL_r, ix_tL, withL_s, setL_0, setL_1, setL_2, set_r, app_r, lst_z, lst_s, iadd_ii, tuple_r, mul_ri, sl_s, sl_rol, sl_t, sl_r, cut_from, cut_to, ap_Seq, nx_seq, rt_seq, ct_seq, bk_seq, exc_seq, ap_Raise, ap_Skip, ap_Brk, ap_Cnt, ap_Drop, ap_Ret, ap_IfS, ap_Set, ap_Ts, ap_AsgT, tgT_t, tgTs_n, tgTs_c, ap_Aug, ap_SetI, ap_AugI, mFor_ap, ap_Rng1, ap_Rng2, rng1_ok, rng2_ok, ap_Iter, src_t, src_s, src_rL, ap_Comp, wipe_n, wipe_c, len_cons, len_nil, zip_cc, zip_nn, foldl_c, foldl_n, set_z, set_s, ite_t, ite_f, ite_T, ite_F, sing_lt, sing_eq, ty_r, ty_s, isS, cut_mid, decide_eq_true_eq, if_pos, if_neg]
  simp [tkW]
  omega
theorem genB_all {st : Bool} {src : Src} {tg : Tg} {elt : M W} {e0 : Den.Env} (N : Nat) (hs : ∀ i, i < N → ∃ w e1, src i h = some (some w) ∧ tg w e0 = some e1 ∧ elt e1 h = .ok (.bl !st) h) (hN : src N h = some none) :
    ∀ n i, N - i < n → i ≤ N → genGoB st src tg elt e0 n i h = .ok (.bl !st) h
  | 0, i, hn, _ => by omega
  | n + 1, i, hn, hi => by
    unfold genGoB
    by_cases e : i = N
    · subst e
      rw [hN]
    · obtain ⟨w, e1, h1, h2, h3⟩ := hs i (by omega)
      rw [h1]
      dsimp only
      rw [h2]
      dsimp only
      rw [h3]
      dsimp only
      rw [if_neg (by cases st <;> decide)]
      exact genB_all N hs hN n (i + 1) (by omega) (by omega)
theorem all_plain {m n : Nat} {ws : List (List Nat)} {e : Den.Env} (he : e[6]? = some (some (.ref m))) (hlen : 7 < e.length) (hm : lstAt h m = some (ws.map .str)) (hn : ws.length < n) (hw : ∀ w ∈ ws, ∀ h, pureRun den_is_plain 1 [.str w] h = .ok (.bl true) h) :
    mGenX false n [7] (mIter (mVar 6)) (tgN 7) (mCB (pureRun den_is_plain 1) (mCons (mVar 7) (mNil))) e h = .ok (.bl true) h := by
  have e6 : mVar 6 e h = .ok (.ref m) h := by unfold mVar; rw [he]
  unfold mGenX
  rw [ap_Iter, e6]
  dsimp only [Out.bnd]
  rw [src_r hm]
  dsimp only
  refine genB_all (st := false) (ws.map W.str).length (fun i hi => ?_) ?_ n 0 (by rw [List.length_map]; omega) (by omega)
  · have hi2 : i < ws.length := by rw [List.length_map] at hi; exact hi
    refine ⟨.str ws[i], _, ?_, rfl, ?_⟩
    · unfold srcR
      rw [hm]
      simp [hi2]
    · rw [ap_CB, ap_Cons]
      have : mVar 7 ((wipeE e [7]).set 7 (some (W.str ws[i]))) h = .ok (.str ws[i]) h := by
        unfold mVar
        rw [List.getElem?_set_self (by simpa [wipeE] using hlen)]
      rw [this]
      dsimp only [Out.bnd]
      rw [ap_Nil]
      dsimp only [Out.bnd]
      exact hw _ (List.getElem_mem hi2) h
  · unfold srcR
    rw [hm]
    simp
theorem lst_ap {h : List O} {q : Nat} {xs : List W} {r : List O} (hq : lstAt h q = some xs) : lstAt (h ++ r) q = some xs := by
  have e := lstAt_some hq
  unfold lstAt
  rw [List.getElem?_append_left (List.getElem?_eq_some_iff.mp e).1, e]
theorem lst_st {h : List O} {q : Nat} {xs ys : List W} (hq : lstAt h q = some xs) : lstAt (h.set q (.lst ys)) q = some ys := by
  have e := lstAt_some hq
  unfold lstAt
  rw [List.getElem?_set_self (List.getElem?_eq_some_iff.mp e).1]
theorem tru_of {m : M W} {e : Den.Env} {h h' : List O} {b : Bool} (hm : m e h = .ok (.bl b) h') : mTru m e h = .ok b h' := by
  unfold mTru
  rw [hm]
  rfl
theorem cut_qu {acc : List Tk} {j : Nat} {inner : List Nat} {ws : List (List Nat)} (ht : t.length ≤ 500) (hk : t[k]? = some 34) (hj : t[j]? = some 34) (hkj : k < j) (hn : ∀ i, k + 1 ≤ i → i < j → t[i]? ≠ some 34) (hin : (t.drop (k + 1)).take (j - (k + 1)) = inner)
    (hsp : splitP inner [32] = ws) (hw : ∀ w ∈ ws, ∀ h, pureRun den_is_plain 1 [.str w] h = .ok (.bl true) h) (hil : inner.length ≤ 500) (hwl : ws.length < 1000) (ha : acc.length ≤ 1000) (hq : lstAt h q = some (acc.map tkW)) :
    cutB [some (.str t), some (.ref q), some (.int k), some (.int d), e4, e5, e6, e7] h = .nx [some (.str t), some (.ref q), some (.int ((j + 1 : Nat))), some (.int d), some (.int k), some (.int j), some (.ref h.length), e7] ((h ++ [O.lst (ws.map W.str)]).set q (O.lst ((acc ++ [Tk.mk PHR (.tup (ws.map .str)) k]).map tkW))) := by
  have hl := (List.getElem?_eq_some_iff.mp hk).1
  have hlj := (List.getElem?_eq_some_iff.mp hj).1
  have hg := gd hk
  have n1 : (34 = 32) = False := by decide
  have n2 : (34 ∈ ([40, 41] : List Nat)) = False := by decide
  have ef : oSFind3 (.str t) [.str [34], .int ((k : Int) + 1)] h = .ok (.int (j : Nat)) h := find3_at (lo := k + 1) hj (by omega) hn
  have ein : List.take ((j : Int) - ((k : Int) + 1)).toNat (List.drop ((k : Int) + 1).toNat t) = inner := by
    rw [show ((k : Int) + 1).toNat = k + 1 by omega, show ((j : Int) - ((k : Int) + 1)).toNat = j - (k + 1) by omega]
    exact hin
  have es : oSSplit (.str inner) [.str [32]] h = .ok (.ref h.length) (h ++ [O.lst (ws.map W.str)]) := by
    unfold oSSplit
    dsimp only
    rw [if_pos ⟨by decide, by show inner.length + 2 ≤ 1000000; omega⟩, hsp]
  have hq2 : lstAt (h ++ [O.lst (ws.map W.str)]) q = some (acc.map tkW) := lst_ap hq
  have hr2 : lstAt (h ++ [O.lst (ws.map W.str)]) h.length = some (ws.map .str) := lst_last
  unfold cutB cutQU
  simp (disch := first | omega | (simp only [List.length_append, List.length_cons, List.length_nil, List.length_set, List.length_drop, List.length_take, List.length_map]; omega)) only [hg, sing_e, cast1, in_cs, n1, n2, ef, ein, es, sv_nx, sv_rt, sv_ct, rnd_nx, rnd_ct, Int.toNat_natCast, ne_eq, eq_self, not_true_eq_false, not_false_eq_true, mVar_z, Nat.reduceAdd, Nat.zero_add, Int.zero_add, Int.reduceAdd, Int.reduceSub, Int.reduceNeg, ap_Lst, ap_Tup, nil_app, cons_app, List.length_append, lst_last, mVar_s, ok_bnd, ok_stm, exc_bnd, ev_okE, exc_stm, ap_C, ap_Op, ap_Un, ap_B, ap_Chain, ap_asB, ap_And, ap_Or, ap_Not, ap_AndV, ap_OrV, ap_NotV, ap_If, ap_Nil, ap_Cons, ap_CB, ap_Meth, ap_Part, ap_NoPart, ap_Sl, ap_Yes, add_ii, add_ss, sub_ii, neg_i, mul_ii, fdiv_ii, mod_ii, eq_ii, ne_ii, eq_ss, ne_ss, lt_ii, le_ii, gt_ii, ge_ii, lt_ss, gt_ss, le_ss, ge_ss, len_s, len_t, abs_i, int_i, int_b, max_ii, min_ii, ix_s, ixL_0, ixL_1, ixL_2, ixL_3, ixL_n, ixL_i, ixL_st, setL_n, setL_i, List.length_map, List.length_set, ix_r, getL_r, ix_tL, withL_s, setL_0, setL_1, setL_2, set_r, app_r, lst_z, lst_s, iadd_ii, tuple_r, mul_ri, sl_s, sl_rol, sl_t, sl_r, cut_from, cut_to, ap_Seq, nx_seq, rt_seq, ct_seq, bk_seq, exc_seq, ap_Raise, ap_Skip, ap_Brk, ap_Cnt, ap_Drop, ap_Ret, ap_IfS, ap_Set, ap_Ts, ap_AsgT, tgT_t, tgTs_n, tgTs_c, ap_Aug, ap_SetI, ap_AugI, mFor_ap, ap_Rng1, ap_Rng2, rng1_ok, rng2_ok, ap_Iter, src_t, src_s, src_rL, ap_Comp, wipe_n, wipe_c, len_cons, len_nil, zip_cc, zip_nn, foldl_c, foldl_n, set_z, set_s, ite_t, ite_f, ite_T, ite_F, sing_lt, sing_eq, ty_r, ty_s, isS, cut_mid, decide_eq_true_eq, if_pos, if_neg]
  rw [tru_of (all_plain (m := h.length) rfl (by simp) hr2 (by omega) hw), ok_bnd, ok_stm, if_neg (by decide)]
  simp (disch := first | omega | (simp only [List.length_append, List.length_cons, List.length_nil, List.length_set, List.length_drop, List.length_take, List.length_map]; omega)) only [cast1, hq2, hr2, sv_nx, sv_rt, sv_ct, rnd_nx, rnd_ct, Int.toNat_natCast, ne_eq, eq_self, not_true_eq_false, not_false_eq_true, mVar_z, Nat.reduceAdd, Nat.zero_add, Int.zero_add, Int.reduceAdd, Int.reduceSub, Int.reduceNeg, ap_Lst, ap_Tup, nil_app, cons_app, List.length_append, lst_last, mVar_s, ok_bnd, ok_stm, exc_bnd, ev_okE, exc_stm, ap_C, ap_Op, ap_Un, ap_B, ap_Chain, ap_asB, ap_And, ap_Or, ap_Not, ap_AndV, ap_OrV, ap_NotV, ap_If, ap_Nil, ap_Cons, ap_CB, ap_Meth, ap_Part, ap_NoPart, ap_Sl, ap_Yes, add_ii, add_ss, sub_ii, neg_i, mul_ii, fdiv_ii, mod_ii, eq_ii, ne_ii, eq_ss, ne_ss, lt_ii, le_ii, gt_ii, ge_ii, lt_ss, gt_ss, le_ss, ge_ss, len_s, len_t, abs_i, int_i, int_b, max_ii, min_ii, ix_s, ixL_0, ixL_1, ixL_2, ixL_3, ixL_n, ixL_i, ixL_st, setL_n, setL_i, List.length_map, List.length_set, ix_r, getL_r, ix_tL, withL_s, setL_0, setL_1, setL_2, set_r, app_r, lst_z, lst_s, iadd_ii, tuple_r, mul_ri, sl_s, sl_rol, sl_t, sl_r, cut_from, cut_to, ap_Seq, nx_seq, rt_seq, ct_seq, bk_seq, exc_seq, ap_Raise, ap_Skip, ap_Brk, ap_Cnt, ap_Drop, ap_Ret, ap_IfS, ap_Set, ap_Ts, ap_AsgT, tgT_t, tgTs_n, tgTs_c, ap_Aug, ap_SetI, ap_AugI, mFor_ap, ap_Rng1, ap_Rng2, rng1_ok, rng2_ok, ap_Iter, src_t, src_s, src_rL, ap_Comp, wipe_n, wipe_c, len_cons, len_nil, zip_cc, zip_nn, foldl_c, foldl_n, set_z, set_s, ite_t, ite_f, ite_T, ite_F, sing_lt, sing_eq, ty_r, ty_s, isS, cut_mid, decide_eq_true_eq, if_pos, if_neg]
  simp [tkW]
theorem w_go {u : List Nat} : ∀ {k fuel : Nat}, t.length ≤ 500 → (∀ i c, u[i]? = some c → t[k + i]? = some c) → (∀ c ∈ u, c ∈ WCH) → (∀ c, t[k + u.length]? = some c → c ∉ WCH) → u.length < fuel →
    whileGo wC wB fuel [some (.str t), some (.ref q), some (.int k), some (.int d), e4, e5, e6, e7] h = .nx [some (.str t), some (.ref q), some (.int ((k + u.length : Nat))), some (.int d), e4, e5, e6, e7] h := by
  induction u with
  | nil =>
    intro k fuel ht hu hc hx hf
    obtain ⟨n, rfl⟩ : ∃ n, fuel = n + 1 := ⟨fuel - 1, by omega⟩
    unfold whileGo
    have e : wC [some (.str t), some (.ref q), some (.int k), some (.int d), e4, e5, e6, e7] h = .ok false h := by
      unfold wC
      by_cases hl : k < t.length
      · have ek := List.getElem?_eq_getElem hl
        have hg := gd ek
        have hn := hx t[k] (by show t[k + 0]? = _; rw [Nat.add_zero]; exact ek)
        have hn2 : (t[k] ∈ WCH) = False := by simpa using hn
        simp (disch := first | omega | (simp only [List.length_append, List.length_cons, List.length_nil, List.length_set, List.length_drop, List.length_take, List.length_map]; omega)) only [hg, in_cs, hn2, sv_nx, sv_rt, sv_ct, rnd_nx, rnd_ct, Int.toNat_natCast, ne_eq, eq_self, not_true_eq_false, not_false_eq_true, mVar_z, Nat.reduceAdd, Nat.zero_add, Int.zero_add, Int.reduceAdd, Int.reduceSub, Int.reduceNeg, ap_Lst, ap_Tup, nil_app, cons_app, List.length_append, lst_last, mVar_s, ok_bnd, ok_stm, exc_bnd, ev_okE, exc_stm, ap_C, ap_Op, ap_Un, ap_B, ap_Chain, ap_asB, ap_And, ap_Or, ap_Not, ap_AndV, ap_OrV, ap_NotV, ap_If, ap_Nil, ap_Cons, ap_CB, ap_Meth, ap_Part, ap_NoPart, ap_Sl, ap_Yes, add_ii, add_ss, sub_ii, neg_i, mul_ii, fdiv_ii, mod_ii, eq_ii, ne_ii, eq_ss, ne_ss, lt_ii, le_ii, gt_ii, ge_ii, lt_ss, gt_ss, le_ss, ge_ss, len_s, len_t, abs_i, int_i, int_b, max_ii, min_ii, ix_s, ixL_0, ixL_1, ixL_2, ixL_3, ixL_n, ixL_i, ixL_st, setL_n, setL_i, List.length_map, List.length_set, ix_r, getL_r, ix_tL, withL_s, setL_0, setL_1, setL_2, set_r, app_r, lst_z, lst_s, iadd_ii, tuple_r, mul_ri, sl_s, sl_rol, sl_t, sl_r, cut_from, cut_to, ap_Seq, nx_seq, rt_seq, ct_seq, bk_seq, exc_seq, ap_Raise, ap_Skip, ap_Brk, ap_Cnt, ap_Drop, ap_Ret, ap_IfS, ap_Set, ap_Ts, ap_AsgT, tgT_t, tgTs_n, tgTs_c, ap_Aug, ap_SetI, ap_AugI, mFor_ap, ap_Rng1, ap_Rng2, rng1_ok, rng2_ok, ap_Iter, src_t, src_s, src_rL, ap_Comp, wipe_n, wipe_c, len_cons, len_nil, zip_cc, zip_nn, foldl_c, foldl_n, set_z, set_s, ite_t, ite_f, ite_T, ite_F, sing_lt, sing_eq, ty_r, ty_s, isS, cut_mid, decide_eq_true_eq, if_pos, if_neg]
        rfl
      · simp (disch := first | omega | (simp only [List.length_append, List.length_cons, List.length_nil, List.length_set, List.length_drop, List.length_take, List.length_map]; omega)) only [sv_nx, sv_rt, sv_ct, rnd_nx, rnd_ct, Int.toNat_natCast, ne_eq, eq_self, not_true_eq_false, not_false_eq_true, mVar_z, Nat.reduceAdd, Nat.zero_add, Int.zero_add, Int.reduceAdd, Int.reduceSub, Int.reduceNeg, ap_Lst, ap_Tup, nil_app, cons_app, List.length_append, lst_last, mVar_s, ok_bnd, ok_stm, exc_bnd, ev_okE, exc_stm, ap_C, ap_Op, ap_Un, ap_B, ap_Chain, ap_asB, ap_And, ap_Or, ap_Not, ap_AndV, ap_OrV, ap_NotV, ap_If, ap_Nil, ap_Cons, ap_CB, ap_Meth, ap_Part, ap_NoPart, ap_Sl, ap_Yes, add_ii, add_ss, sub_ii, neg_i, mul_ii, fdiv_ii, mod_ii, eq_ii, ne_ii, eq_ss, ne_ss, lt_ii, le_ii, gt_ii, ge_ii, lt_ss, gt_ss, le_ss, ge_ss, len_s, len_t, abs_i, int_i, int_b, max_ii, min_ii, ix_s, ixL_0, ixL_1, ixL_2, ixL_3, ixL_n, ixL_i, ixL_st, setL_n, setL_i, List.length_map, List.length_set, ix_r, getL_r, ix_tL, withL_s, setL_0, setL_1, setL_2, set_r, app_r, lst_z, lst_s, iadd_ii, tuple_r, mul_ri, sl_s, sl_rol, sl_t, sl_r, cut_from, cut_to, ap_Seq, nx_seq, rt_seq, ct_seq, bk_seq, exc_seq, ap_Raise, ap_Skip, ap_Brk, ap_Cnt, ap_Drop, ap_Ret, ap_IfS, ap_Set, ap_Ts, ap_AsgT, tgT_t, tgTs_n, tgTs_c, ap_Aug, ap_SetI, ap_AugI, mFor_ap, ap_Rng1, ap_Rng2, rng1_ok, rng2_ok, ap_Iter, src_t, src_s, src_rL, ap_Comp, wipe_n, wipe_c, len_cons, len_nil, zip_cc, zip_nn, foldl_c, foldl_n, set_z, set_s, ite_t, ite_f, ite_T, ite_F, sing_lt, sing_eq, ty_r, ty_s, isS, cut_mid, decide_eq_true_eq, if_pos, if_neg]
    rw [e]
    rfl
  | cons c u ih =>
    intro k fuel ht hu hc hx hf
    obtain ⟨n, rfl⟩ : ∃ n, fuel = n + 1 := ⟨fuel - 1, by omega⟩
    unfold whileGo
    have hk : t[k]? = some c := hu 0 c rfl
    have hl := (List.getElem?_eq_some_iff.mp hk).1
    have hg := gd hk
    have hn2 : (c ∈ WCH) = True := by simpa using hc c List.mem_cons_self
    have e : wC [some (.str t), some (.ref q), some (.int k), some (.int d), e4, e5, e6, e7] h = .ok true h := by
      unfold wC
      simp (disch := first | omega | (simp only [List.length_append, List.length_cons, List.length_nil, List.length_set, List.length_drop, List.length_take, List.length_map]; omega)) only [hg, in_cs, hn2, sv_nx, sv_rt, sv_ct, rnd_nx, rnd_ct, Int.toNat_natCast, ne_eq, eq_self, not_true_eq_false, not_false_eq_true, mVar_z, Nat.reduceAdd, Nat.zero_add, Int.zero_add, Int.reduceAdd, Int.reduceSub, Int.reduceNeg, ap_Lst, ap_Tup, nil_app, cons_app, List.length_append, lst_last, mVar_s, ok_bnd, ok_stm, exc_bnd, ev_okE, exc_stm, ap_C, ap_Op, ap_Un, ap_B, ap_Chain, ap_asB, ap_And, ap_Or, ap_Not, ap_AndV, ap_OrV, ap_NotV, ap_If, ap_Nil, ap_Cons, ap_CB, ap_Meth, ap_Part, ap_NoPart, ap_Sl, ap_Yes, add_ii, add_ss, sub_ii, neg_i, mul_ii, fdiv_ii, mod_ii, eq_ii, ne_ii, eq_ss, ne_ss, lt_ii, le_ii, gt_ii, ge_ii, lt_ss, gt_ss, le_ss, ge_ss, len_s, len_t, abs_i, int_i, int_b, max_ii, min_ii, ix_s, ixL_0, ixL_1, ixL_2, ixL_3, ixL_n, ixL_i, ixL_st, setL_n, setL_i, List.length_map, List.length_set, ix_r, getL_r, ix_tL, withL_s, setL_0, setL_1, setL_2, set_r, app_r, lst_z, lst_s, iadd_ii, tuple_r, mul_ri, sl_s, sl_rol, sl_t, sl_r, cut_from, cut_to, ap_Seq, nx_seq, rt_seq, ct_seq, bk_seq, exc_seq, ap_Raise, ap_Skip, ap_Brk, ap_Cnt, ap_Drop, ap_Ret, ap_IfS, ap_Set, ap_Ts, ap_AsgT, tgT_t, tgTs_n, tgTs_c, ap_Aug, ap_SetI, ap_AugI, mFor_ap, ap_Rng1, ap_Rng2, rng1_ok, rng2_ok, ap_Iter, src_t, src_s, src_rL, ap_Comp, wipe_n, wipe_c, len_cons, len_nil, zip_cc, zip_nn, foldl_c, foldl_n, set_z, set_s, ite_t, ite_f, ite_T, ite_F, sing_lt, sing_eq, ty_r, ty_s, isS, cut_mid, decide_eq_true_eq, if_pos, if_neg]
      rfl
    have e2 : wB [some (.str t), some (.ref q), some (.int k), some (.int d), e4, e5, e6, e7] h = .nx [some (.str t), some (.ref q), some (.int ((k + 1 : Nat))), some (.int d), e4, e5, e6, e7] h := by
      unfold wB
      simp (disch := first | omega | (simp only [List.length_append, List.length_cons, List.length_nil, List.length_set, List.length_drop, List.length_take, List.length_map]; omega)) only [cast1, sv_nx, sv_rt, sv_ct, rnd_nx, rnd_ct, Int.toNat_natCast, ne_eq, eq_self, not_true_eq_false, not_false_eq_true, mVar_z, Nat.reduceAdd, Nat.zero_add, Int.zero_add, Int.reduceAdd, Int.reduceSub, Int.reduceNeg, ap_Lst, ap_Tup, nil_app, cons_app, List.length_append, lst_last, mVar_s, ok_bnd, ok_stm, exc_bnd, ev_okE, exc_stm, ap_C, ap_Op, ap_Un, ap_B, ap_Chain, ap_asB, ap_And, ap_Or, ap_Not, ap_AndV, ap_OrV, ap_NotV, ap_If, ap_Nil, ap_Cons, ap_CB, ap_Meth, ap_Part, ap_NoPart, ap_Sl, ap_Yes, add_ii, add_ss, sub_ii, neg_i, mul_ii, fdiv_ii, mod_ii, eq_ii, ne_ii, eq_ss, ne_ss, lt_ii, le_ii, gt_ii, ge_ii, lt_ss, gt_ss, le_ss, ge_ss, len_s, len_t, abs_i, int_i, int_b, max_ii, min_ii, ix_s, ixL_0, ixL_1, ixL_2, ixL_3, ixL_n, ixL_i, ixL_st, setL_n, setL_i, List.length_map, List.length_set, ix_r, getL_r, ix_tL, withL_s, setL_0, setL_1, setL_2, set_r, app_r, lst_z, lst_s, iadd_ii, tuple_r, mul_ri, sl_s, sl_rol, sl_t, sl_r, cut_from, cut_to, ap_Seq, nx_seq, rt_seq, ct_seq, bk_seq, exc_seq, ap_Raise, ap_Skip, ap_Brk, ap_Cnt, ap_Drop, ap_Ret, ap_IfS, ap_Set, ap_Ts, ap_AsgT, tgT_t, tgTs_n, tgTs_c, ap_Aug, ap_SetI, ap_AugI, mFor_ap, ap_Rng1, ap_Rng2, rng1_ok, rng2_ok, ap_Iter, src_t, src_s, src_rL, ap_Comp, wipe_n, wipe_c, len_cons, len_nil, zip_cc, zip_nn, foldl_c, foldl_n, set_z, set_s, ite_t, ite_f, ite_T, ite_F, sing_lt, sing_eq, ty_r, ty_s, isS, cut_mid, decide_eq_true_eq, if_pos, if_neg]
    rw [e, ok_stm, if_pos rfl, e2]
    have hlen : k + (c :: u).length = k + 1 + u.length := by simp; omega
    rw [hlen]
    exact ih ht (fun i x hi => by have := hu (i + 1) x hi; rw [← this]; congr 1; omega) (fun x hx => hc x (List.mem_cons_of_mem _ hx)) (fun x hx2 => hx x (by rw [hlen]; exact hx2)) (by simp at hf; omega)
theorem cut_wl {acc : List Tk} {u kd : List Nat} {wh : W} (ht : t.length ≤ 500) (h0 : u ≠ []) (hu : ∀ i c, u[i]? = some c → t[k + i]? = some c) (hc : ∀ c ∈ u, c ∈ WCH) (hx : ∀ c, t[k + u.length]? = some c → c ∉ WCH)
    (hnm : ∀ (pl : Nat) (h : List O), den_named [.str u, .int pl] h = .ok (.tup [.str kd, wh, .int pl]) h) (ha : acc.length ≤ 1000) (hq : lstAt h q = some (acc.map tkW)) :
    cutB [some (.str t), some (.ref q), some (.int k), some (.int d), e4, e5, e6, e7] h = .nx [some (.str t), some (.ref q), some (.int ((k + u.length : Nat))), some (.int d), some (.int k), e5, e6, e7] (h.set q (O.lst ((acc ++ [Tk.mk kd wh k]).map tkW))) := by
  obtain ⟨c, r, rfl⟩ : ∃ c r, u = c :: r := by
    cases u with
    | nil => exact absurd rfl h0
    | cons c r => exact ⟨c, r, rfl⟩
  have hk : t[k]? = some c := hu 0 c rfl
  have hl := (List.getElem?_eq_some_iff.mp hk).1
  have hg := gd hk
  have hcw := hc c List.mem_cons_self
  have n1 : (c = 32) = False := by simp only [eq_iff_iff, iff_false]; rintro rfl; revert hcw; decide
  have n2 : (c ∈ ([40, 41] : List Nat)) = False := by
    simp only [eq_iff_iff, iff_false]
    intro hm
    rcases List.mem_cons.1 hm with rfl | hm
    · revert hcw; decide
    · have : c = 41 := by simpa using hm
      subst this
      revert hcw; decide
  have n3 : (c = 34) = False := by simp only [eq_iff_iff, iff_false]; rintro rfl; revert hcw; decide
  have hlen : k + (c :: r).length ≤ t.length := by
    have hlast := hu r.length ((c :: r)[r.length]'(by simp)) (List.getElem?_eq_getElem _)
    have := (List.getElem?_eq_some_iff.mp hlast).1
    simp; omega
  have hwl := w_go (t := t) (q := q) (d := d) (h := h) (e4 := some (.int (k : Nat))) (e5 := e5) (e6 := e6) (e7 := e7) (k := k) (fuel := 100000) ht hu hc hx (by omega)
  have ein : List.take (((k + (c :: r).length : Nat) : Int) - (k : Int)).toNat (List.drop k t) = c :: r := by
    rw [show (((k + (c :: r).length : Nat) : Int) - (k : Int)).toNat = (c :: r).length by omega]
    apply List.ext_getElem?
    intro i
    by_cases hi : i < (c :: r).length
    · rw [List.getElem?_take_of_lt hi, List.getElem?_drop, hu i _ (List.getElem?_eq_getElem hi), List.getElem?_eq_getElem hi]
    · rw [List.getElem?_eq_none (by simp at hi ⊢; omega), List.getElem?_eq_none (by omega)]
  have nm := hnm k h
  have n4 : (((k + (c :: r).length : Nat) : Int) = (k : Int)) = False := by
    simp only [eq_iff_iff, iff_false]
    have : (c :: r).length = r.length + 1 := rfl
    omega
  generalize hK : k + (c :: r).length = K at *
  unfold cutB cutWL mWhile
  simp (disch := first | omega | (simp only [List.length_append, List.length_cons, List.length_nil, List.length_set, List.length_drop, List.length_take, List.length_map]; omega)) only [hg, sing_e, in_cs, n1, n2, n3, hwl, sv_nx, sv_rt, sv_ct, rnd_nx, rnd_ct, Int.toNat_natCast, ne_eq, eq_self, not_true_eq_false, not_false_eq_true, mVar_z, Nat.reduceAdd, Nat.zero_add, Int.zero_add, Int.reduceAdd, Int.reduceSub, Int.reduceNeg, ap_Lst, ap_Tup, nil_app, cons_app, List.length_append, lst_last, mVar_s, ok_bnd, ok_stm, exc_bnd, ev_okE, exc_stm, ap_C, ap_Op, ap_Un, ap_B, ap_Chain, ap_asB, ap_And, ap_Or, ap_Not, ap_AndV, ap_OrV, ap_NotV, ap_If, ap_Nil, ap_Cons, ap_CB, ap_Meth, ap_Part, ap_NoPart, ap_Sl, ap_Yes, add_ii, add_ss, sub_ii, neg_i, mul_ii, fdiv_ii, mod_ii, eq_ii, ne_ii, eq_ss, ne_ss, lt_ii, le_ii, gt_ii, ge_ii, lt_ss, gt_ss, le_ss, ge_ss, len_s, len_t, abs_i, int_i, int_b, max_ii, min_ii, ix_s, ixL_0, ixL_1, ixL_2, ixL_3, ixL_n, ixL_i, ixL_st, setL_n, setL_i, List.length_map, List.length_set, ix_r, getL_r, ix_tL, withL_s, setL_0, setL_1, setL_2, set_r, app_r, lst_z, lst_s, iadd_ii, tuple_r, mul_ri, sl_s, sl_rol, sl_t, sl_r, cut_from, cut_to, ap_Seq, nx_seq, rt_seq, ct_seq, bk_seq, exc_seq, ap_Raise, ap_Skip, ap_Brk, ap_Cnt, ap_Drop, ap_Ret, ap_IfS, ap_Set, ap_Ts, ap_AsgT, tgT_t, tgTs_n, tgTs_c, ap_Aug, ap_SetI, ap_AugI, mFor_ap, ap_Rng1, ap_Rng2, rng1_ok, rng2_ok, ap_Iter, src_t, src_s, src_rL, ap_Comp, wipe_n, wipe_c, len_cons, len_nil, zip_cc, zip_nn, foldl_c, foldl_n, set_z, set_s, ite_t, ite_f, ite_T, ite_F, sing_lt, sing_eq, ty_r, ty_s, isS, cut_mid, decide_eq_true_eq, if_pos, if_neg]
  unfold cutWT
  simp (disch := first | omega | (simp only [List.length_append, List.length_cons, List.length_nil, List.length_set, List.length_drop, List.length_take, List.length_map]; omega)) only [n4, ein, nm, hq, sv_nx, sv_rt, sv_ct, rnd_nx, rnd_ct, Int.toNat_natCast, ne_eq, eq_self, not_true_eq_false, not_false_eq_true, mVar_z, Nat.reduceAdd, Nat.zero_add, Int.zero_add, Int.reduceAdd, Int.reduceSub, Int.reduceNeg, ap_Lst, ap_Tup, nil_app, cons_app, List.length_append, lst_last, mVar_s, ok_bnd, ok_stm, exc_bnd, ev_okE, exc_stm, ap_C, ap_Op, ap_Un, ap_B, ap_Chain, ap_asB, ap_And, ap_Or, ap_Not, ap_AndV, ap_OrV, ap_NotV, ap_If, ap_Nil, ap_Cons, ap_CB, ap_Meth, ap_Part, ap_NoPart, ap_Sl, ap_Yes, add_ii, add_ss, sub_ii, neg_i, mul_ii, fdiv_ii, mod_ii, eq_ii, ne_ii, eq_ss, ne_ss, lt_ii, le_ii, gt_ii, ge_ii, lt_ss, gt_ss, le_ss, ge_ss, len_s, len_t, abs_i, int_i, int_b, max_ii, min_ii, ix_s, ixL_0, ixL_1, ixL_2, ixL_3, ixL_n, ixL_i, ixL_st, setL_n, setL_i, List.length_map, List.length_set, ix_r, getL_r, ix_tL, withL_s, setL_0, setL_1, setL_2, set_r, app_r, lst_z, lst_s, iadd_ii, tuple_r, mul_ri, sl_s, sl_rol, sl_t, sl_r, cut_from, cut_to, ap_Seq, nx_seq, rt_seq, ct_seq, bk_seq, exc_seq, ap_Raise, ap_Skip, ap_Brk, ap_Cnt, ap_Drop, ap_Ret, ap_IfS, ap_Set, ap_Ts, ap_AsgT, tgT_t, tgTs_n, tgTs_c, ap_Aug, ap_SetI, ap_AugI, mFor_ap, ap_Rng1, ap_Rng2, rng1_ok, rng2_ok, ap_Iter, src_t, src_s, src_rL, ap_Comp, wipe_n, wipe_c, len_cons, len_nil, zip_cc, zip_nn, foldl_c, foldl_n, set_z, set_s, ite_t, ite_f, ite_T, ite_F, sing_lt, sing_eq, ty_r, ty_s, isS, cut_mid, decide_eq_true_eq, if_pos, if_neg]
  simp [tkW]
end
end Law_indexhall_k30_refusals_apart.R
set_option maxRecDepth 100000
namespace Law_indexhall_k30_refusals_apart.R
open PySem L2 Den
/-! ### the pieces of a text -/
inductive Pc
  | sp
  | op
  | cl
  | ph (ws : List (List Nat))
  | wl (u kd : List Nat) (wh : W)
def inn : List (List Nat) → List Nat
  | [] => []
  | [w] => w
  | w :: r => w ++ 32 :: inn r
def ptx : Pc → List Nat
  | .sp => [32]
  | .op => [40]
  | .cl => [41]
  | .ph ws => 34 :: inn ws ++ [34]
  | .wl u _ _ => u
def ptk (k : Nat) : Pc → List Tk
  | .sp => []
  | .op => [⟨OPN, .str [], k⟩]
  | .cl => [⟨CLS, .str [], k⟩]
  | .ph ws => [⟨PHR, .tup (ws.map .str), k⟩]
  | .wl _ kd wh => [⟨kd, wh, k⟩]
def flat : List Pc → List Nat
  | [] => []
  | x :: r => ptx x ++ flat r
def tks : Nat → List Pc → List Tk
  | _, [] => []
  | k, x :: r => ptk k x ++ tks (k + (ptx x).length) r
def dl : Pc → Int
  | .op => 1
  | .cl => -1
  | _ => 0
def dls : List Pc → Int
  | [] => 0
  | x :: r => dl x + dls r
def NoW (l : List Nat) : Prop := ∀ c, l[0]? = some c → c ∉ WCH
def pok (d : Int) (after : List Nat) : Pc → Prop
  | .sp => True
  | .op => d < 40
  | .cl => d ≤ 40
  | .ph ws => 34 ∉ inn ws ∧ splitP (inn ws) [32] = ws ∧ (∀ w ∈ ws, ∀ h, pureRun den_is_plain 1 [.str w] h = .ok (.bl true) h) ∧ ws.length < 1000
  | .wl u kd wh => u ≠ [] ∧ (∀ c ∈ u, c ∈ WCH) ∧ (∀ (pl : Nat) (h : List O), den_named [.str u, .int pl] h = .ok (.tup [.str kd, wh, .int pl]) h) ∧ NoW after
def Good : List Pc → List Nat → Int → Prop
  | [], _, _ => True
  | x :: r, rest, d => pok d (flat r ++ rest) x ∧ Good r rest (d + dl x)
theorem flat_app : ∀ (a b : List Pc), flat (a ++ b) = flat a ++ flat b
  | [], b => rfl
  | x :: a, b => by
    show ptx x ++ flat (a ++ b) = (ptx x ++ flat a) ++ flat b
    rw [flat_app a b, List.append_assoc]
theorem dls_app : ∀ (a b : List Pc), dls (a ++ b) = dls a + dls b
  | [], b => by simp [dls]
  | x :: a, b => by
    show dl x + dls (a ++ b) = dl x + dls a + dls b
    rw [dls_app a b, Int.add_assoc]
theorem good_app : ∀ {a b : List Pc} {rest : List Nat} {d : Int}, Good a (flat b ++ rest) d → Good b rest (d + dls a) → Good (a ++ b) rest d
  | [], b, rest, d, _, h2 => by
    have e : d + dls [] = d := by show d + 0 = d; omega
    rw [e] at h2
    exact h2
  | x :: a, b, rest, d, h1, h2 => by
    refine ⟨?_, good_app (a := a) h1.2 (by
      have e : d + dls (x :: a) = d + dl x + dls a := by show d + (dl x + dls a) = _; omega
      rw [e] at h2
      exact h2)⟩
    show pok d (flat (a ++ b) ++ rest) x
    rw [flat_app, List.append_assoc]
    exact h1.1
section
variable {t : List Nat} {q : Nat}
theorem at_mid {pre r : List Nat} {c : Nat} (e : t = pre ++ c :: r) : t[pre.length]? = some c := by rw [e, List.getElem?_append_right (Nat.le_refl _), Nat.sub_self]; rfl
theorem cutC_t {k : Nat} {d : Int} {h : List O} {e4 e5 e6 e7 : Option W} (ht : t.length ≤ 500) (hl : k < t.length) : cutC [some (.str t), some (.ref q), some (.int k), some (.int d), e4, e5, e6, e7] h = .ok true h := by
  unfold cutC
  have n : ((k : Int) < (t.length : Int)) = True := by simp only [eq_iff_iff, iff_true]; omega
  simp (disch := first | omega | (simp only [List.length_append, List.length_cons, List.length_nil, List.length_set, List.length_drop, List.length_take, List.length_map]; omega)) only [n, sv_nx, sv_rt, sv_ct, rnd_nx, rnd_ct, Int.toNat_natCast, ne_eq, eq_self, not_true_eq_false, not_false_eq_true, mVar_z, Nat.reduceAdd, Nat.zero_add, Int.zero_add, Int.reduceAdd, Int.reduceSub, Int.reduceNeg, ap_Lst, ap_Tup, nil_app, cons_app, List.length_append, lst_last, mVar_s, ok_bnd, ok_stm, exc_bnd, ev_okE, exc_stm, ap_C, ap_Op, ap_Un, ap_B, ap_Chain, ap_asB, ap_And, ap_Or, ap_Not, ap_AndV, ap_OrV, ap_NotV, ap_If, ap_Nil, ap_Cons, ap_CB, ap_Meth, ap_Part, ap_NoPart, ap_Sl, ap_Yes, add_ii, add_ss, sub_ii, neg_i, mul_ii, fdiv_ii, mod_ii, eq_ii, ne_ii, eq_ss, ne_ss, lt_ii, le_ii, gt_ii, ge_ii, lt_ss, gt_ss, le_ss, ge_ss, len_s, len_t, abs_i, int_i, int_b, max_ii, min_ii, ix_s, ixL_0, ixL_1, ixL_2, ixL_3, ixL_n, ixL_i, ixL_st, setL_n, setL_i, List.length_map, List.length_set, ix_r, getL_r, ix_tL, withL_s, setL_0, setL_1, setL_2, set_r, app_r, lst_z, lst_s, iadd_ii, tuple_r, mul_ri, sl_s, sl_rol, sl_t, sl_r, cut_from, cut_to, ap_Seq, nx_seq, rt_seq, ct_seq, bk_seq, exc_seq, ap_Raise, ap_Skip, ap_Brk, ap_Cnt, ap_Drop, ap_Ret, ap_IfS, ap_Set, ap_Ts, ap_AsgT, tgT_t, tgTs_n, tgTs_c, ap_Aug, ap_SetI, ap_AugI, mFor_ap, ap_Rng1, ap_Rng2, rng1_ok, rng2_ok, ap_Iter, src_t, src_s, src_rL, ap_Comp, wipe_n, wipe_c, len_cons, len_nil, zip_cc, zip_nn, foldl_c, foldl_n, set_z, set_s, ite_t, ite_f, ite_T, ite_F, sing_lt, sing_eq, ty_r, ty_s, isS, cut_mid, decide_eq_true_eq, if_pos, if_neg]
  rfl
theorem cutC_f {k : Nat} {d : Int} {h : List O} {e4 e5 e6 e7 : Option W} (ht : t.length ≤ 500) (hl : t.length ≤ k) : cutC [some (.str t), some (.ref q), some (.int k), some (.int d), e4, e5, e6, e7] h = .ok false h := by
  unfold cutC
  have n : ((k : Int) < (t.length : Int)) = False := by simp only [eq_iff_iff, iff_false]; omega
  simp (disch := first | omega | (simp only [List.length_append, List.length_cons, List.length_nil, List.length_set, List.length_drop, List.length_take, List.length_map]; omega)) only [n, sv_nx, sv_rt, sv_ct, rnd_nx, rnd_ct, Int.toNat_natCast, ne_eq, eq_self, not_true_eq_false, not_false_eq_true, mVar_z, Nat.reduceAdd, Nat.zero_add, Int.zero_add, Int.reduceAdd, Int.reduceSub, Int.reduceNeg, ap_Lst, ap_Tup, nil_app, cons_app, List.length_append, lst_last, mVar_s, ok_bnd, ok_stm, exc_bnd, ev_okE, exc_stm, ap_C, ap_Op, ap_Un, ap_B, ap_Chain, ap_asB, ap_And, ap_Or, ap_Not, ap_AndV, ap_OrV, ap_NotV, ap_If, ap_Nil, ap_Cons, ap_CB, ap_Meth, ap_Part, ap_NoPart, ap_Sl, ap_Yes, add_ii, add_ss, sub_ii, neg_i, mul_ii, fdiv_ii, mod_ii, eq_ii, ne_ii, eq_ss, ne_ss, lt_ii, le_ii, gt_ii, ge_ii, lt_ss, gt_ss, le_ss, ge_ss, len_s, len_t, abs_i, int_i, int_b, max_ii, min_ii, ix_s, ixL_0, ixL_1, ixL_2, ixL_3, ixL_n, ixL_i, ixL_st, setL_n, setL_i, List.length_map, List.length_set, ix_r, getL_r, ix_tL, withL_s, setL_0, setL_1, setL_2, set_r, app_r, lst_z, lst_s, iadd_ii, tuple_r, mul_ri, sl_s, sl_rol, sl_t, sl_r, cut_from, cut_to, ap_Seq, nx_seq, rt_seq, ct_seq, bk_seq, exc_seq, ap_Raise, ap_Skip, ap_Brk, ap_Cnt, ap_Drop, ap_Ret, ap_IfS, ap_Set, ap_Ts, ap_AsgT, tgT_t, tgTs_n, tgTs_c, ap_Aug, ap_SetI, ap_AugI, mFor_ap, ap_Rng1, ap_Rng2, rng1_ok, rng2_ok, ap_Iter, src_t, src_s, src_rL, ap_Comp, wipe_n, wipe_c, len_cons, len_nil, zip_cc, zip_nn, foldl_c, foldl_n, set_z, set_s, ite_t, ite_f, ite_T, ite_F, sing_lt, sing_eq, ty_r, ty_s, isS, cut_mid, decide_eq_true_eq, if_pos, if_neg]
  rfl
theorem ptx_pos {x : Pc} {d : Int} {after : List Nat} (h : pok d after x) : 0 < (ptx x).length := by
  cases x with
  | wl u kd wh => exact List.length_pos_iff.2 h.1
  | _ => simp [ptx]
/-- one piece -/
theorem cut_one {x : Pc} {pre after : List Nat} {acc : List Tk} {d : Int} {h : List O} {e4 e5 e6 e7 : Option W} (e : t = pre ++ ptx x ++ after) (ht : t.length ≤ 500) (hx : pok d after x) (ha : acc.length ≤ 1000) (hq : lstAt h q = some (acc.map tkW)) :
    ∃ e4' e5' e6' e7' h', cutB [some (.str t), some (.ref q), some (.int pre.length), some (.int d), e4, e5, e6, e7] h = .nx [some (.str t), some (.ref q), some (.int ((pre ++ ptx x).length : Nat)), some (.int (d + dl x)), e4', e5', e6', e7'] h' ∧ lstAt h' q = some ((acc ++ ptk pre.length x).map tkW) := by
  have lx : (pre ++ ptx x).length = pre.length + (ptx x).length := List.length_append
  rw [lx]
  cases x with
  | sp =>
    have e : t = pre ++ 32 :: after := by rw [e]; simp [ptx]
    have := cut_sp (q := q) (d := d) (h := h) (e4 := e4) (e5 := e5) (e6 := e6) (e7 := e7) ht (at_mid e)
    refine ⟨some (.int (pre.length : Nat)), e5, e6, e7, h, ?_, by simpa [ptk] using hq⟩
    rw [show d + dl .sp = d by show d + 0 = d; omega]
    exact this
  | op =>
    have e : t = pre ++ 40 :: after := by rw [e]; simp [ptx]
    have := cut_op (q := q) (d := d) (h := h) (e4 := e4) (e5 := e5) (e6 := e6) (e7 := e7) ht (at_mid e) ha hq hx
    exact ⟨_, _, _, _, _, this, lst_st hq⟩
  | cl =>
    have e : t = pre ++ 41 :: after := by rw [e]; simp [ptx]
    have := cut_cl (q := q) (d := d) (h := h) (e4 := e4) (e5 := e5) (e6 := e6) (e7 := e7) ht (at_mid e) ha hq hx
    exact ⟨_, _, _, _, _, this, lst_st hq⟩
  | ph ws =>
    obtain ⟨h1, h2, h3, h4⟩ := hx
    have e1 : t = pre ++ 34 :: (inn ws ++ 34 :: after) := by rw [e]; simp [ptx]
    have e2 : t = (pre ++ 34 :: inn ws) ++ 34 :: after := by rw [e]; simp [ptx]
    have hj : t[pre.length + 1 + (inn ws).length]? = some 34 := by
      have := at_mid e2
      rw [show (pre ++ 34 :: inn ws).length = pre.length + 1 + (inn ws).length by simp; omega] at this
      exact this
    have hil : (inn ws).length ≤ 500 := by
      have := congrArg List.length e1
      simp at this; omega
    have dr : t.drop (pre.length + 1) = inn ws ++ 34 :: after := by
      rw [e1, show pre ++ 34 :: (inn ws ++ 34 :: after) = (pre ++ [34]) ++ (inn ws ++ 34 :: after) by simp, show pre.length + 1 = (pre ++ [34]).length by simp, List.drop_left]
    have := cut_qu (q := q) (d := d) (h := h) (e4 := e4) (e5 := e5) (e6 := e6) (e7 := e7) (inner := inn ws) (j := pre.length + 1 + (inn ws).length) ht (at_mid e1) hj (by omega) (fun i hi1 hi2 he => ?_) ?_ h2 h3 hil h4 ha hq
    · refine ⟨some (.int (pre.length : Nat)), some (.int ((pre.length + 1 + (inn ws).length : Nat))), some (.ref h.length), e7, (h ++ [O.lst (ws.map W.str)]).set q (O.lst ((acc ++ [Tk.mk PHR (.tup (ws.map .str)) pre.length]).map tkW)), ?_, lst_st (lst_ap hq)⟩
      rw [show d + dl (.ph ws) = d by show d + 0 = d; omega, show pre.length + (ptx (.ph ws)).length = pre.length + 1 + (inn ws).length + 1 by simp [ptx]; omega]
      exact this
    · have : t[i]? = (inn ws)[i - (pre.length + 1)]? := by
        have e3 : t[i]? = (t.drop (pre.length + 1))[i - (pre.length + 1)]? := by rw [List.getElem?_drop]; congr 1; omega
        rw [e3, dr, List.getElem?_append_left (by omega)]
      rw [this] at he
      exact h1 (List.mem_of_getElem? he)
    · rw [dr, show pre.length + 1 + (inn ws).length - (pre.length + 1) = (inn ws).length by omega, List.take_left]
  | wl u kd wh =>
    obtain ⟨h1, h2, h3, h4⟩ := hx
    have e : t = pre ++ (u ++ after) := by rw [e]; simp [ptx]
    have at_ : ∀ i, t[pre.length + i]? = (u ++ after)[i]? := fun i => by
      rw [e, List.getElem?_append_right (by omega)]
      congr 1; omega
    have := cut_wl (q := q) (d := d) (h := h) (e4 := e4) (e5 := e5) (e6 := e6) (e7 := e7) (k := pre.length) (u := u) ht h1 (fun i c hi => by
      rw [at_, List.getElem?_append_left (List.getElem?_eq_some_iff.mp hi).1]; exact hi) h2 (fun c hc => h4 c (by
      rw [at_, List.getElem?_append_right (Nat.le_refl _), Nat.sub_self] at hc; exact hc)) h3 ha hq
    refine ⟨some (.int (pre.length : Nat)), e5, e6, e7, _, ?_, lst_st hq⟩
    rw [show d + dl (.wl u kd wh) = d by show d + 0 = d; omega]
    exact this
/-- all pieces -/
theorem cut_run (ht : t.length ≤ 500) : ∀ (ps : List Pc) (pre rest : List Nat) (acc : List Tk) (d : Int) (h : List O) (e4 e5 e6 e7 : Option W) (fuel : Nat), t = pre ++ flat ps ++ rest → Good ps rest d → acc.length + ps.length ≤ 1000 → lstAt h q = some (acc.map tkW) → ps.length ≤ fuel →
    ∃ e4' e5' e6' e7' d' h', whileGo cutC cutB fuel [some (.str t), some (.ref q), some (.int pre.length), some (.int d), e4, e5, e6, e7] h = whileGo cutC cutB (fuel - ps.length) [some (.str t), some (.ref q), some (.int ((pre ++ flat ps).length : Nat)), some (.int d'), e4', e5', e6', e7'] h' ∧ lstAt h' q = some ((acc ++ tks pre.length ps).map tkW)
  | [], pre, rest, acc, d, h, e4, e5, e6, e7, fuel, e, hg, ha, hq, hf => ⟨e4, e5, e6, e7, d, h, by simp [flat], by simpa [tks] using hq⟩
  | x :: ps, pre, rest, acc, d, h, e4, e5, e6, e7, fuel, e, hg, ha, hq, hf => by
    have e1 : t = pre ++ ptx x ++ (flat ps ++ rest) := by rw [e]; simp [flat]
    have ha2 : acc.length + (ps.length + 1) ≤ 1000 := ha
    have hf2 : ps.length + 1 ≤ fuel := hf
    obtain ⟨n, rfl⟩ : ∃ n, fuel = n + 1 := ⟨fuel - 1, by omega⟩
    obtain ⟨f4, f5, f6, f7, h1, b1, q1⟩ := cut_one (q := q) (d := d) (h := h) (e4 := e4) (e5 := e5) (e6 := e6) (e7 := e7) (acc := acc) e1 ht hg.1 (by omega) hq
    have pl : (ptk pre.length x).length ≤ 1 := by cases x <;> simp [ptk]
    have hl : pre.length < t.length := by
      have := ptx_pos hg.1
      rw [e1]; simp; omega
    obtain ⟨g4, g5, g6, g7, d', h', r1, r2⟩ := cut_run ht ps (pre ++ ptx x) rest (acc ++ ptk pre.length x) (d + dl x) h1 f4 f5 f6 f7 n (by rw [e1]; simp) hg.2 (by rw [List.length_append]; omega) q1 (by omega)
    refine ⟨g4, g5, g6, g7, d', h', ?_, ?_⟩
    · rw [show n + 1 - (x :: ps).length = n - ps.length by simp, show (pre ++ flat (x :: ps)) = pre ++ ptx x ++ flat ps by simp [flat], ← r1]
      conv => lhs; unfold whileGo
      rw [cutC_t ht hl, ok_stm, if_pos rfl, b1]
    · rw [r2]
      show _ = some ((acc ++ (ptk pre.length x ++ tks (pre.length + (ptx x).length) ps)).map tkW)
      rw [List.length_append, List.append_assoc]
end
end Law_indexhall_k30_refusals_apart.R
set_option maxRecDepth 100000
namespace Law_indexhall_k30_refusals_apart.R
open PySem L2 Den
theorem nT : ((!true) = true) = False := by decide
section
variable {t : List Nat}
theorem cut_ok {ps : List Pc} {h : List O} (e : t = flat ps) (ht : t.length ≤ 500) (hg : Good ps [] 0) (hp : ps.length ≤ 1000) : ∃ h', den_cut [.str t] h = .ok (.ref h.length) h' ∧ lstAt h' h.length = some ((tks 0 ps).map tkW) := by
  have hq : lstAt (h ++ [O.lst []]) h.length = some ((([] : List Tk)).map tkW) := lst_last
  obtain ⟨e4, e5, e6, e7, d', h', r1, r2⟩ := cut_run (q := h.length) ht ps [] [] [] 0 (h ++ [O.lst []]) none none none none 100000 (by simpa using e) hg (by simpa using hp) hq (by omega)
  have r1' : mWhile 100000 cutC cutB [some (.str t), some (.ref h.length), some (.int 0), some (.int 0), none, none, none, none] (h ++ [O.lst []]) = whileGo cutC cutB (100000 - ps.length) [some (.str t), some (.ref h.length), some (.int (([] ++ flat ps).length : Nat)), some (.int d'), e4, e5, e6, e7] h' := r1
  have fin : whileGo cutC cutB (100000 - ps.length) [some (.str t), some (.ref h.length), some (.int (([] ++ flat ps).length : Nat)), some (.int d'), e4, e5, e6, e7] h' = .nx [some (.str t), some (.ref h.length), some (.int (([] ++ flat ps).length : Nat)), some (.int d'), e4, e5, e6, e7] h' := by
    obtain ⟨n, hn⟩ : ∃ n, 100000 - ps.length = n + 1 := ⟨100000 - ps.length - 1, by omega⟩
    rw [hn]
    unfold whileGo
    rw [cutC_f ht (by rw [List.nil_append, e]; exact Nat.le_refl _)]
    rfl
  refine ⟨h', ?_, by simpa using r2⟩
  unfold den_cut mFun
  rw [cut_is]
  simp only [startE, List.map_cons, List.map_nil, List.length_cons, List.length_nil, List.cons_append, List.nil_append, Nat.zero_add, Nat.reduceAdd, Nat.reduceSub, List.replicate_succ, List.replicate_zero]
  simp only [List.nil_append] at r1' fin
  simp (disch := first | omega | (simp only [List.length_append, List.length_cons, List.length_nil, List.length_set, List.length_drop, List.length_take, List.length_map]; omega)) only [r1', fin, sv_nx, sv_rt, sv_ct, rnd_nx, rnd_ct, Int.toNat_natCast, ne_eq, eq_self, not_true_eq_false, not_false_eq_true, mVar_z, Nat.reduceAdd, Nat.zero_add, Int.zero_add, Int.reduceAdd, Int.reduceSub, Int.reduceNeg, ap_Lst, ap_Tup, nil_app, cons_app, List.length_append, lst_last, mVar_s, ok_bnd, ok_stm, exc_bnd, ev_okE, exc_stm, ap_C, ap_Op, ap_Un, ap_B, ap_Chain, ap_asB, ap_And, ap_Or, ap_Not, ap_AndV, ap_OrV, ap_NotV, ap_If, ap_Nil, ap_Cons, ap_CB, ap_Meth, ap_Part, ap_NoPart, ap_Sl, ap_Yes, add_ii, add_ss, sub_ii, neg_i, mul_ii, fdiv_ii, mod_ii, eq_ii, ne_ii, eq_ss, ne_ss, lt_ii, le_ii, gt_ii, ge_ii, lt_ss, gt_ss, le_ss, ge_ss, len_s, len_t, abs_i, int_i, int_b, max_ii, min_ii, ix_s, ixL_0, ixL_1, ixL_2, ixL_3, ixL_n, ixL_i, ixL_st, setL_n, setL_i, List.length_map, List.length_set, ix_r, getL_r, ix_tL, withL_s, setL_0, setL_1, setL_2, set_r, app_r, lst_z, lst_s, iadd_ii, tuple_r, mul_ri, sl_s, sl_rol, sl_t, sl_r, cut_from, cut_to, ap_Seq, nx_seq, rt_seq, ct_seq, bk_seq, exc_seq, ap_Raise, ap_Skip, ap_Brk, ap_Cnt, ap_Drop, ap_Ret, ap_IfS, ap_Set, ap_Ts, ap_AsgT, tgT_t, tgTs_n, tgTs_c, ap_Aug, ap_SetI, ap_AugI, mFor_ap, ap_Rng1, ap_Rng2, rng1_ok, rng2_ok, ap_Iter, src_t, src_s, src_rL, ap_Comp, wipe_n, wipe_c, len_cons, len_nil, zip_cc, zip_nn, foldl_c, foldl_n, set_z, set_s, ite_t, ite_f, ite_T, ite_F, sing_lt, sing_eq, ty_r, ty_s, isS, cut_mid, decide_eq_true_eq, if_pos, if_neg]
/-! ### read -/
theorem read_er {ps : List Pc} {h : List O} {q : Nat} (e : t = flat ps) (ht : t.length ≤ 500) (hg : Good ps [] 0) (hp : ps.length ≤ 1000) (hr : PO1 (tks 0 ps) t.length 16 0 (.er q)) : ∃ h', den_read [.str t] h = .exc 4 (some (.int (q : Nat))) h' := by
  obtain ⟨h', e1, e2⟩ := cut_ok (h := h) e ht hg hp
  have e3 : den_some [.ref h.length, .int 0, .int (t.length : Nat)] h' = .exc 4 (some (.int (q : Nat))) h' := some_den e2 hr
  refine ⟨h', ?_⟩
  unfold den_read mFun body_read
  simp only [startE, List.map_cons, List.map_nil, List.length_cons, List.length_nil, List.cons_append, List.nil_append, Nat.zero_add, Nat.reduceAdd, Nat.reduceSub, List.replicate_succ, List.replicate_zero]
  have i1 : mIsiV "str" (mVar 0) [some (W.str t), none, none, none] h = .ok (.bl true) h := rfl
  have n1 : ((500 : Int) < (t.length : Int)) = False := by simp only [eq_iff_iff, iff_false]; omega
  simp (disch := first | omega | (simp only [List.length_append, List.length_cons, List.length_nil, List.length_set, List.length_drop, List.length_take, List.length_map]; omega)) only [tru_of i1, n1, nT, e1, e3, len_r e2, sv_nx, sv_rt, sv_ct, rnd_nx, rnd_ct, Int.toNat_natCast, ne_eq, eq_self, not_true_eq_false, not_false_eq_true, mVar_z, Nat.reduceAdd, Nat.zero_add, Int.zero_add, Int.reduceAdd, Int.reduceSub, Int.reduceNeg, ap_Lst, ap_Tup, nil_app, cons_app, List.length_append, lst_last, mVar_s, ok_bnd, ok_stm, exc_bnd, ev_okE, exc_stm, ap_C, ap_Op, ap_Un, ap_B, ap_Chain, ap_asB, ap_And, ap_Or, ap_Not, ap_AndV, ap_OrV, ap_NotV, ap_If, ap_Nil, ap_Cons, ap_CB, ap_Meth, ap_Part, ap_NoPart, ap_Sl, ap_Yes, add_ii, add_ss, sub_ii, neg_i, mul_ii, fdiv_ii, mod_ii, eq_ii, ne_ii, eq_ss, ne_ss, lt_ii, le_ii, gt_ii, ge_ii, lt_ss, gt_ss, le_ss, ge_ss, len_s, len_t, abs_i, int_i, int_b, max_ii, min_ii, ix_s, ixL_0, ixL_1, ixL_2, ixL_3, ixL_n, ixL_i, ixL_st, setL_n, setL_i, List.length_map, List.length_set, ix_r, getL_r, ix_tL, withL_s, setL_0, setL_1, setL_2, set_r, app_r, lst_z, lst_s, iadd_ii, tuple_r, mul_ri, sl_s, sl_rol, sl_t, sl_r, cut_from, cut_to, ap_Seq, nx_seq, rt_seq, ct_seq, bk_seq, exc_seq, ap_Raise, ap_Skip, ap_Brk, ap_Cnt, ap_Drop, ap_Ret, ap_IfS, ap_Set, ap_Ts, ap_AsgT, tgT_t, tgTs_n, tgTs_c, ap_Aug, ap_SetI, ap_AugI, mFor_ap, ap_Rng1, ap_Rng2, rng1_ok, rng2_ok, ap_Iter, src_t, src_s, src_rL, ap_Comp, wipe_n, wipe_c, len_cons, len_nil, zip_cc, zip_nn, foldl_c, foldl_n, set_z, set_s, ite_t, ite_f, ite_T, ite_F, sing_lt, sing_eq, ty_r, ty_s, isS, cut_mid, decide_eq_true_eq, if_pos, if_neg]
end
end Law_indexhall_k30_refusals_apart.R
set_option maxRecDepth 100000
namespace Law_indexhall_k30_refusals_apart.R
open PySem L2 Den
/-! ### an ask's pieces -/
def NW (n : Nat) : List Nat := NEA ++ 47 :: decI n
def bp (c : Bool) (l : List Pc) : List Pc := if c = true then Pc.op :: l ++ [Pc.cl] else l
def tp : A → List Pc
  | .wd w => [.wl w WRD (.str w)]
  | .bg w => [.wl (w ++ [42]) BEG (.str w)]
  | .ph ws => [.ph ws]
  | .nr n w o => [.wl w WRD (.str w), .sp, .wl (NW n) NEA (.int n), .sp, .wl o WRD (.str o)]
  | .nt a => .wl NOT NOT (.str []) :: .sp :: bp (isAO a) (tp a)
  | .an a b => bp (isO a) (tp a) ++ (.sp :: .wl AND AND (.str []) :: .sp :: bp (isAO b) (tp b))
  | .or a b => tp a ++ (.sp :: .wl OR OR (.str []) :: .sp :: bp (isO b) (tp b))
def pk : Pc → List KW
  | .sp => []
  | .op => [(OPN, .str [])]
  | .cl => [(CLS, .str [])]
  | .ph ws => [(PHR, .tup (ws.map .str))]
  | .wl _ kd wh => [(kd, wh)]
def kof : List Pc → List KW
  | [] => []
  | x :: r => pk x ++ kof r
theorem kof_app : ∀ (a b : List Pc), kof (a ++ b) = kof a ++ kof b
  | [], b => rfl
  | x :: a, b => by
    show pk x ++ kof (a ++ b) = (pk x ++ kof a) ++ kof b
    rw [kof_app a b, List.append_assoc]
theorem kof_bp {c : Bool} {l : List Pc} : kof (bp c l) = brk c (kof l) := by
  cases c with
  | false => rfl
  | true =>
    show pk .op ++ kof (l ++ [.cl]) = _
    rw [kof_app]
    rfl
theorem kof_tp : ∀ a : A, kof (tp a) = kt a
  | .wd w => rfl
  | .bg w => rfl
  | .ph ws => rfl
  | .nr n w o => rfl
  | .nt a => by
    show (NOT, W.str []) :: kof (bp (isAO a) (tp a)) = _
    rw [kof_bp, kof_tp a]
    rfl
  | .an a b => by
    show kof (bp (isO a) (tp a) ++ (.sp :: .wl AND AND (.str []) :: .sp :: bp (isAO b) (tp b))) = _
    rw [kof_app, kof_bp, kof_tp a]
    show _ ++ ((AND, W.str []) :: kof (bp (isAO b) (tp b))) = _
    rw [kof_bp, kof_tp b]
    rfl
  | .or a b => by
    show kof (tp a ++ (.sp :: .wl OR OR (.str []) :: .sp :: bp (isO b) (tp b))) = _
    rw [kof_app, kof_tp a]
    show _ ++ ((OR, W.str []) :: kof (bp (isO b) (tp b))) = _
    rw [kof_bp, kof_tp b]
    rfl
theorem tks_kw : ∀ (k : Nat) (ps : List Pc), (tks k ps).map (fun t => (t.kd, t.wh)) = kof ps
  | k, [] => rfl
  | k, x :: r => by
    show (ptk k x ++ tks (k + (ptx x).length) r).map _ = pk x ++ kof r
    rw [List.map_append, tks_kw]
    congr 1
    cases x <;> rfl
theorem tks_len {k : Nat} {ps : List Pc} : (tks k ps).length = (kof ps).length := by rw [← tks_kw k ps, List.length_map]
theorem at_tks {k : Nat} {ps : List Pc} : At (tks k ps) 0 (kof ps) := fun i x e => by
  rw [← tks_kw k ps, List.getElem?_map] at e
  cases h : (tks k ps)[i]? with
  | none => rw [h] at e; cases e
  | some t =>
    rw [h] at e
    cases e
    exact ⟨t, by rw [Nat.zero_add]; exact h, rfl, rfl⟩
theorem dls_tp : ∀ a : A, dls (tp a) = 0
  | .wd w => rfl
  | .bg w => rfl
  | .ph ws => rfl
  | .nr n w o => rfl
  | .nt a => by
    have hb : ∀ c, dls (bp c (tp a)) = 0 := fun c => by
      cases c with
      | false => exact dls_tp a
      | true => show 1 + dls (tp a ++ [.cl]) = 0; rw [dls_app, dls_tp a]; rfl
    show 0 + (0 + dls (bp (isAO a) (tp a))) = 0
    rw [hb]; rfl
  | .an a b => by
    have hb : ∀ c, dls (bp c (tp a)) = 0 := fun c => by
      cases c with
      | false => exact dls_tp a
      | true => show 1 + dls (tp a ++ [.cl]) = 0; rw [dls_app, dls_tp a]; rfl
    have hb2 : ∀ c, dls (bp c (tp b)) = 0 := fun c => by
      cases c with
      | false => exact dls_tp b
      | true => show 1 + dls (tp b ++ [.cl]) = 0; rw [dls_app, dls_tp b]; rfl
    show dls (bp (isO a) (tp a) ++ (.sp :: .wl AND AND (.str []) :: .sp :: bp (isAO b) (tp b))) = 0
    rw [dls_app, hb]
    show 0 + (0 + (0 + (0 + dls (bp (isAO b) (tp b))))) = 0
    rw [hb2]; rfl
  | .or a b => by
    have hb2 : ∀ c, dls (bp c (tp b)) = 0 := fun c => by
      cases c with
      | false => exact dls_tp b
      | true => show 1 + dls (tp b ++ [.cl]) = 0; rw [dls_app, dls_tp b]; rfl
    show dls (tp a ++ (.sp :: .wl OR OR (.str []) :: .sp :: bp (isO b) (tp b))) = 0
    rw [dls_app, dls_tp a]
    show 0 + (0 + (0 + (0 + dls (bp (isO b) (tp b))))) = 0
    rw [hb2]; rfl
theorem dls_bp {c : Bool} {a : A} : dls (bp c (tp a)) = 0 := by
  cases c with
  | false => exact dls_tp a
  | true => show 1 + dls (tp a ++ [.cl]) = 0; rw [dls_app, dls_tp a]; rfl
/-! ### asks whose words are in order -/
def nmd (u kd : List Nat) (wh : W) : Prop := u ≠ [] ∧ (∀ c ∈ u, c ∈ WCH) ∧ ∀ (pl : Nat) (h : List O), den_named [.str u, .int pl] h = .ok (.tup [.str kd, wh, .int pl]) h
def Ok : A → Prop
  | .wd w => nmd w WRD (.str w)
  | .bg w => nmd (w ++ [42]) BEG (.str w)
  | .ph ws => 34 ∉ inn ws ∧ splitP (inn ws) [32] = ws ∧ (∀ w ∈ ws, ∀ h, pureRun den_is_plain 1 [.str w] h = .ok (.bl true) h) ∧ ws.length < 1000
  | .nr n w o => nmd w WRD (.str w) ∧ nmd (NW n) NEA (.int n) ∧ nmd o WRD (.str o)
  | .nt a => Ok a
  | .an a b => Ok a ∧ Ok b
  | .or a b => Ok a ∧ Ok b
theorem nm_not : nmd NOT NOT (.str []) := ⟨by decide, by decide, fun pl h => by kernel_rfl⟩
theorem nm_and : nmd AND AND (.str []) := ⟨by decide, by decide, fun pl h => by kernel_rfl⟩
theorem nm_or : nmd OR OR (.str []) := ⟨by decide, by decide, fun pl h => by kernel_rfl⟩
theorem pok_wl {u kd : List Nat} {wh : W} {d : Int} {after : List Nat} (h : nmd u kd wh) (ha : NoW after) : pok d after (.wl u kd wh) := ⟨h.1, h.2.1, h.2.2, ha⟩
theorem now_sp {r : List Nat} : NoW (32 :: r) := fun c h => by
  have : 32 = c := by simpa using h
  subst this; decide
theorem now_cl {r : List Nat} : NoW (41 :: r) := fun c h => by
  have : 41 = c := by simpa using h
  subst this; decide
theorem now_nil : NoW [] := fun c h => by cases h
theorem good_bp {a : A} {c : Bool} {rest : List Nat} {d : Int} (hd : d + 1 ≤ 40) (hr : NoW rest) (ih : ∀ rest d', d' ≤ d + 1 → NoW rest → Good (tp a) rest d') : Good (bp c (tp a)) rest d := by
  cases c with
  | false => exact ih rest d (by omega) hr
  | true =>
    refine ⟨by show d < 40; omega, ?_⟩
    show Good (tp a ++ [.cl]) rest (d + 1)
    refine good_app (ih _ _ (by omega) now_cl) ?_
    rw [dls_tp a]
    exact ⟨by show d + 1 + 0 ≤ 40; omega, trivial⟩
theorem good_tp : ∀ (a : A) (rest : List Nat) (d : Int), Ok a → d + dep a ≤ 40 → NoW rest → Good (tp a) rest d
  | .wd w, rest, d, ho, hd, hr => ⟨pok_wl ho hr, trivial⟩
  | .bg w, rest, d, ho, hd, hr => ⟨pok_wl ho hr, trivial⟩
  | .ph ws, rest, d, ho, hd, hr => ⟨ho, trivial⟩
  | .nr n w o, rest, d, ho, hd, hr => ⟨pok_wl ho.1 now_sp, trivial, pok_wl ho.2.1 now_sp, trivial, pok_wl ho.2.2 hr, trivial⟩
  | .nt a, rest, d, ho, hd, hr => by
    have hd : d + ((dep a + 2 : Nat) : Int) ≤ 40 := hd
    refine ⟨pok_wl nm_not now_sp, trivial, ?_⟩
    show Good (bp (isAO a) (tp a)) rest (d + 0 + 0)
    exact good_bp (by omega) hr fun rest d' h1 h2 => good_tp a rest d' ho (by omega) h2
  | .an a b, rest, d, ho, hd, hr => by
    have hd : d + ((max (dep a) (dep b) + 1 : Nat) : Int) ≤ 40 := hd
    refine good_app (good_bp (by omega) now_sp fun rest d' h1 h2 => good_tp a rest d' ho.1 (by omega) h2) ?_
    rw [dls_bp]
    refine ⟨trivial, pok_wl nm_and now_sp, trivial, ?_⟩
    show Good (bp (isAO b) (tp b)) rest (d + 0 + 0 + 0 + 0)
    exact good_bp (by omega) hr fun rest d' h1 h2 => good_tp b rest d' ho.2 (by omega) h2
  | .or a b, rest, d, ho, hd, hr => by
    have hd : d + ((max (dep a) (dep b) + 1 : Nat) : Int) ≤ 40 := hd
    refine good_app (good_tp a _ d ho.1 (by omega) now_sp) ?_
    rw [dls_tp]
    refine ⟨trivial, pok_wl nm_or now_sp, trivial, ?_⟩
    show Good (bp (isO b) (tp b)) rest (d + 0 + 0 + 0 + 0)
    exact good_bp (by omega) hr fun rest d' h1 h2 => good_tp b rest d' ho.2 (by omega) h2
theorem good_len : ∀ {ps : List Pc} {rest : List Nat} {d : Int}, Good ps rest d → ps.length ≤ (flat ps).length
  | [], _, _, _ => Nat.le_refl _
  | x :: r, rest, d, h => by
    have h1 := ptx_pos h.1
    have h2 := good_len h.2
    show r.length + 1 ≤ (ptx x ++ flat r).length
    rw [List.length_append]; omega
/-! ### what is read -/
section
variable {ts : List Tk} {en n k : Nat}
theorem po_er {q : Nat} (h : PS ts en n k (.er q)) : PO1 ts en n k (.er q) := .inr ⟨q, .inr ⟨q, h, rfl⟩, rfl⟩
theorem nx_end {L : List (List Nat)} (h : ts.length ≤ k) : Nx ts k L := fun t e => by rw [List.getElem?_eq_none h] at e; cases e
end
section
variable {a : A}
structure Fine (a : A) : Prop where
  ok : Ok a
  dep : dep a ≤ 10
  sz : sz a < 100
  len : (flat (tp a)).length ≤ 400
end
end Law_indexhall_k30_refusals_apart.R
set_option maxRecDepth 100000
set_option maxHeartbeats 2000000
namespace Law_indexhall_k30_refusals_apart
open PySem L2 Den
/-! ### noughts alone are no code -/
theorem okS_mem (c : Nat) : decide (c ∈ [48, 49]) = decide (c = 48 ∨ c = 49) := by simp
theorem noughts_sv (n : Nat) (h1 : 1 ≤ n) (hl : n ≤ 1000) (h0 : List O) : Sv (body_decoded (startE 9 [.str (List.replicate n 48)]) h0) (fun o => ∃ e h, o = .exc 3 (some (.int 0)) e h) := by
  generalize hs : List.replicate n 48 = s
  have hlen : s.length = n := by rw [← hs, List.length_replicate]
  have hall : ∀ c ∈ s, c = 48 := fun c hc => by rw [← hs] at hc; exact List.eq_of_mem_replicate hc
  have hget : ∀ i, i < n → s[i]? = some 48 := fun i hi => by
    rw [← hs, List.getElem?_replicate, if_pos hi]
  unfold body_decoded
  simp only [startE, List.map_cons, List.map_nil, List.length_cons, List.length_nil, List.cons_append, List.nil_append, Nat.zero_add, Nat.reduceAdd, Nat.reduceSub, List.replicate_succ, List.replicate_zero]
  simp (disch := first | omega | (simp only [List.length_append, List.length_cons, List.length_nil, List.length_set, List.length_drop, List.length_take, List.length_map]; omega)) only [sv_nx, sv_rt, sv_ct, rnd_nx, rnd_ct, Int.toNat_natCast, ne_eq, eq_self, not_true_eq_false, not_false_eq_true, mVar_z, Nat.reduceAdd, Nat.zero_add, Int.zero_add, Int.reduceAdd, Int.reduceSub, Int.reduceNeg, ap_Lst, ap_Tup, nil_app, cons_app, List.length_append, lst_last, mVar_s, ok_bnd, ok_stm, exc_bnd, ev_okE, exc_stm, ap_C, ap_Op, ap_Un, ap_B, ap_Chain, ap_asB, ap_And, ap_Or, ap_Not, ap_AndV, ap_OrV, ap_NotV, ap_If, ap_Nil, ap_Cons, ap_CB, ap_Meth, ap_Part, ap_NoPart, ap_Sl, ap_Yes, add_ii, add_ss, sub_ii, neg_i, mul_ii, fdiv_ii, mod_ii, eq_ii, ne_ii, eq_ss, ne_ss, lt_ii, le_ii, gt_ii, ge_ii, lt_ss, gt_ss, le_ss, ge_ss, len_s, len_t, abs_i, int_i, int_b, max_ii, min_ii, ix_s, ixL_0, ixL_1, ixL_2, ixL_3, ixL_n, ixL_i, ixL_st, setL_n, setL_i, List.length_map, List.length_set, ix_r, getL_r, ix_tL, withL_s, setL_0, setL_1, setL_2, set_r, app_r, lst_z, lst_s, iadd_ii, tuple_r, mul_ri, sl_s, sl_rol, sl_t, sl_r, cut_from, cut_to, ap_Seq, nx_seq, rt_seq, ct_seq, bk_seq, exc_seq, ap_Raise, ap_Skip, ap_Brk, ap_Cnt, ap_Drop, ap_Ret, ap_IfS, ap_Set, ap_Ts, ap_AsgT, tgT_t, tgTs_n, tgTs_c, ap_Aug, ap_SetI, ap_AugI, mFor_ap, ap_Rng1, ap_Rng2, rng1_ok, rng2_ok, ap_Iter, src_t, src_s, src_rL, ap_Comp, wipe_n, wipe_c, len_cons, len_nil, zip_cc, zip_nn, foldl_c, foldl_n, set_z, set_s, ite_t, ite_f, ite_T, ite_F, sing_lt, sing_eq, ty_r, ty_s, isS, cut_mid, decide_eq_true_eq, if_pos, if_neg]
  refine sv_cut (R' := fun o => ∃ e h, o = .exc 3 (some (.int 0)) e h) ?_ ?_
  · refine mWhile_sv 1 (fun m e h => e = [some (.str s), some (.ref h0.length), some (.int (-1)), some (.int 0), none, none, none, none, none] ∧ h = h0 ++ [.lst []]) (by omega) ⟨rfl, rfl⟩ ?_
    rintro m e h ⟨rfl, rfl⟩
    have e1 : decide ((0 : Int) < (s.length : Int)) = true := decide_eq_true (by omega)
    generalize h0 ++ [O.lst []] = H at *
    simp (disch := first | omega | (simp only [List.length_append, List.length_cons, List.length_nil, List.length_set, List.length_drop, List.length_take, List.length_map]; omega)) only [e1, sv_nx, sv_rt, sv_ct, rnd_nx, rnd_ct, Int.toNat_natCast, ne_eq, eq_self, not_true_eq_false, not_false_eq_true, mVar_z, Nat.reduceAdd, Nat.zero_add, Int.zero_add, Int.reduceAdd, Int.reduceSub, Int.reduceNeg, ap_Lst, ap_Tup, nil_app, cons_app, List.length_append, lst_last, mVar_s, ok_bnd, ok_stm, exc_bnd, ev_okE, exc_stm, ap_C, ap_Op, ap_Un, ap_B, ap_Chain, ap_asB, ap_And, ap_Or, ap_Not, ap_AndV, ap_OrV, ap_NotV, ap_If, ap_Nil, ap_Cons, ap_CB, ap_Meth, ap_Part, ap_NoPart, ap_Sl, ap_Yes, add_ii, add_ss, sub_ii, neg_i, mul_ii, fdiv_ii, mod_ii, eq_ii, ne_ii, eq_ss, ne_ss, lt_ii, le_ii, gt_ii, ge_ii, lt_ss, gt_ss, le_ss, ge_ss, len_s, len_t, abs_i, int_i, int_b, max_ii, min_ii, ix_s, ixL_0, ixL_1, ixL_2, ixL_3, ixL_n, ixL_i, ixL_st, setL_n, setL_i, List.length_map, List.length_set, ix_r, getL_r, ix_tL, withL_s, setL_0, setL_1, setL_2, set_r, app_r, lst_z, lst_s, iadd_ii, tuple_r, mul_ri, sl_s, sl_rol, sl_t, sl_r, cut_from, cut_to, ap_Seq, nx_seq, rt_seq, ct_seq, bk_seq, exc_seq, ap_Raise, ap_Skip, ap_Brk, ap_Cnt, ap_Drop, ap_Ret, ap_IfS, ap_Set, ap_Ts, ap_AsgT, tgT_t, tgTs_n, tgTs_c, ap_Aug, ap_SetI, ap_AugI, mFor_ap, ap_Rng1, ap_Rng2, rng1_ok, rng2_ok, ap_Iter, src_t, src_s, src_rL, ap_Comp, wipe_n, wipe_c, len_cons, len_nil, zip_cc, zip_nn, foldl_c, foldl_n, set_z, set_s, ite_t, ite_f, ite_T, ite_F, sing_lt, sing_eq, ty_r, ty_s, isS, cut_mid, decide_eq_true_eq, if_pos, if_neg]
    refine sv_cut (R' := fun o => o = SOut.nx [some (.str s), some (.ref h0.length), some (.int (-1)), some (.int (n : Nat)), some (.int 0), some (.int (n : Nat)), none, none, none] H) ?_ ?_
    · refine mWhile_sv n (fun m e h => ∃ j : Nat, j ≤ n ∧ m = n - j ∧ e = [some (.str s), some (.ref h0.length), some (.int (-1)), some (.int (j : Nat)), some (.int 0), some (.int (j : Nat)), none, none, none] ∧ h = H) (by omega) ⟨0, by omega, by omega, rfl, rfl⟩ ?_
      rintro m' e' h' ⟨j, hj, hm', rfl, rfl⟩
      by_cases hjz : j < n
      · have c1 : decide (((j : Nat) : Int) < (s.length : Int)) = true := decide_eq_true (by omega)
        have c2 : ∀ h, oIx (.str s) (.int ((j : Nat) : Int)) h = .ok (.str [48]) h := fun h => by
          rw [ix_s (by omega) (by omega) (by omega), Int.toNat_natCast, List.getD_eq_getElem?_getD, hget j hjz]; rfl
        have c4 : ((j : Nat) : Int) + 1 = ((j + 1 : Nat) : Int) := by omega
        simp (disch := first | omega | (simp only [List.length_append, List.length_cons, List.length_nil, List.length_set, List.length_drop, List.length_take, List.length_map]; omega)) only [c1, c2, c4, decide_true, sv_nx, sv_rt, sv_ct, rnd_nx, rnd_ct, Int.toNat_natCast, ne_eq, eq_self, not_true_eq_false, not_false_eq_true, mVar_z, Nat.reduceAdd, Nat.zero_add, Int.zero_add, Int.reduceAdd, Int.reduceSub, Int.reduceNeg, ap_Lst, ap_Tup, nil_app, cons_app, List.length_append, lst_last, mVar_s, ok_bnd, ok_stm, exc_bnd, ev_okE, exc_stm, ap_C, ap_Op, ap_Un, ap_B, ap_Chain, ap_asB, ap_And, ap_Or, ap_Not, ap_AndV, ap_OrV, ap_NotV, ap_If, ap_Nil, ap_Cons, ap_CB, ap_Meth, ap_Part, ap_NoPart, ap_Sl, ap_Yes, add_ii, add_ss, sub_ii, neg_i, mul_ii, fdiv_ii, mod_ii, eq_ii, ne_ii, eq_ss, ne_ss, lt_ii, le_ii, gt_ii, ge_ii, lt_ss, gt_ss, le_ss, ge_ss, len_s, len_t, abs_i, int_i, int_b, max_ii, min_ii, ix_s, ixL_0, ixL_1, ixL_2, ixL_3, ixL_n, ixL_i, ixL_st, setL_n, setL_i, List.length_map, List.length_set, ix_r, getL_r, ix_tL, withL_s, setL_0, setL_1, setL_2, set_r, app_r, lst_z, lst_s, iadd_ii, tuple_r, mul_ri, sl_s, sl_rol, sl_t, sl_r, cut_from, cut_to, ap_Seq, nx_seq, rt_seq, ct_seq, bk_seq, exc_seq, ap_Raise, ap_Skip, ap_Brk, ap_Cnt, ap_Drop, ap_Ret, ap_IfS, ap_Set, ap_Ts, ap_AsgT, tgT_t, tgTs_n, tgTs_c, ap_Aug, ap_SetI, ap_AugI, mFor_ap, ap_Rng1, ap_Rng2, rng1_ok, rng2_ok, ap_Iter, src_t, src_s, src_rL, ap_Comp, wipe_n, wipe_c, len_cons, len_nil, zip_cc, zip_nn, foldl_c, foldl_n, set_z, set_s, ite_t, ite_f, ite_T, ite_F, sing_lt, sing_eq, ty_r, ty_s, isS, cut_mid, decide_eq_true_eq, if_pos, if_neg]
        exact ⟨n - (j + 1), by omega, j + 1, by omega, rfl, rfl, trivial⟩
      · have ej : j = n := by omega
        subst ej
        have c1 : decide (((j : Nat) : Int) < (s.length : Int)) = false := decide_eq_false (by omega)
        simp (disch := first | omega | (simp only [List.length_append, List.length_cons, List.length_nil, List.length_set, List.length_drop, List.length_take, List.length_map]; omega)) only [c1, sv_nx, sv_rt, sv_ct, rnd_nx, rnd_ct, Int.toNat_natCast, ne_eq, eq_self, not_true_eq_false, not_false_eq_true, mVar_z, Nat.reduceAdd, Nat.zero_add, Int.zero_add, Int.reduceAdd, Int.reduceSub, Int.reduceNeg, ap_Lst, ap_Tup, nil_app, cons_app, List.length_append, lst_last, mVar_s, ok_bnd, ok_stm, exc_bnd, ev_okE, exc_stm, ap_C, ap_Op, ap_Un, ap_B, ap_Chain, ap_asB, ap_And, ap_Or, ap_Not, ap_AndV, ap_OrV, ap_NotV, ap_If, ap_Nil, ap_Cons, ap_CB, ap_Meth, ap_Part, ap_NoPart, ap_Sl, ap_Yes, add_ii, add_ss, sub_ii, neg_i, mul_ii, fdiv_ii, mod_ii, eq_ii, ne_ii, eq_ss, ne_ss, lt_ii, le_ii, gt_ii, ge_ii, lt_ss, gt_ss, le_ss, ge_ss, len_s, len_t, abs_i, int_i, int_b, max_ii, min_ii, ix_s, ixL_0, ixL_1, ixL_2, ixL_3, ixL_n, ixL_i, ixL_st, setL_n, setL_i, List.length_map, List.length_set, ix_r, getL_r, ix_tL, withL_s, setL_0, setL_1, setL_2, set_r, app_r, lst_z, lst_s, iadd_ii, tuple_r, mul_ri, sl_s, sl_rol, sl_t, sl_r, cut_from, cut_to, ap_Seq, nx_seq, rt_seq, ct_seq, bk_seq, exc_seq, ap_Raise, ap_Skip, ap_Brk, ap_Cnt, ap_Drop, ap_Ret, ap_IfS, ap_Set, ap_Ts, ap_AsgT, tgT_t, tgTs_n, tgTs_c, ap_Aug, ap_SetI, ap_AugI, mFor_ap, ap_Rng1, ap_Rng2, rng1_ok, rng2_ok, ap_Iter, src_t, src_s, src_rL, ap_Comp, wipe_n, wipe_c, len_cons, len_nil, zip_cc, zip_nn, foldl_c, foldl_n, set_z, set_s, ite_t, ite_f, ite_T, ite_F, sing_lt, sing_eq, ty_r, ty_s, isS, cut_mid, decide_eq_true_eq, if_pos, if_neg]
    · rintro o rfl
      have sl1 : ∀ h, oSl (.str s) (some ((n : Nat) : Int)) (some (((n : Nat) : Int) + (n : Nat) + 1)) h = .ok (.str []) h := fun h => by
        rw [sl_s (by omega), cut_overZ (by omega) (by omega) (by omega), Int.toNat_natCast, List.drop_of_length_le (by omega), List.take_nil]
      have sl2 : ∀ h, oSl (.str s) (some (0 : Int)) (some (((n : Nat) : Int) + (n : Nat) + 1)) h = .ok (.str s) h := fun h => by
        rw [sl_s (by omega), cut_overZ (by omega) (by omega) (by omega)]
        show Out.ok (W.str ((s.drop 0).take _)) h = _
        rw [List.drop_zero, List.take_of_length_le (by omega)]
      have hany : mGenB true 8 (mGItems (mSl (mVar 0) (mPart (mVar 4)) (mPart (mOp oAdd (mOp oAdd (mVar 3) (mVar 5)) (mC (.int 1)))))) (mOp oNinS (mVar 8) (mC (.str [48, 49]))) [some (.str s), some (.ref h0.length), some (.int (-1)), some (.int (n : Nat)), some (.int 0), some (.int (n : Nat)), some (.str []), none, none] H = .ok (.bl false) H := by
        have g1 := genB_ev (any := true) (slot := 8) (l := s) (g := fun c => W.str [c]) (f := fun c => !decide (c = 48 ∨ c = 49)) (e := [some (.str s), some (.ref h0.length), some (.int (-1)), some (.int (n : Nat)), some (.int 0), some (.int (n : Nat)), some (.str []), none, none]) (h := H) (mit := mGItems (mSl (mVar 0) (mPart (mVar 4)) (mPart (mOp oAdd (mOp oAdd (mVar 3) (mVar 5)) (mC (.int 1)))))) (melt := mOp oNinS (mVar 8) (mC (.str [48, 49]))) (ap_GIs (by simp (disch := first | omega | (simp only [List.length_append, List.length_cons, List.length_nil, List.length_set, List.length_drop, List.length_take, List.length_map]; omega)) only [sl2, sv_nx, sv_rt, sv_ct, rnd_nx, rnd_ct, Int.toNat_natCast, ne_eq, eq_self, not_true_eq_false, not_false_eq_true, mVar_z, Nat.reduceAdd, Nat.zero_add, Int.zero_add, Int.reduceAdd, Int.reduceSub, Int.reduceNeg, ap_Lst, ap_Tup, nil_app, cons_app, List.length_append, lst_last, mVar_s, ok_bnd, ok_stm, exc_bnd, ev_okE, exc_stm, ap_C, ap_Op, ap_Un, ap_B, ap_Chain, ap_asB, ap_And, ap_Or, ap_Not, ap_AndV, ap_OrV, ap_NotV, ap_If, ap_Nil, ap_Cons, ap_CB, ap_Meth, ap_Part, ap_NoPart, ap_Sl, ap_Yes, add_ii, add_ss, sub_ii, neg_i, mul_ii, fdiv_ii, mod_ii, eq_ii, ne_ii, eq_ss, ne_ss, lt_ii, le_ii, gt_ii, ge_ii, lt_ss, gt_ss, le_ss, ge_ss, len_s, len_t, abs_i, int_i, int_b, max_ii, min_ii, ix_s, ixL_0, ixL_1, ixL_2, ixL_3, ixL_n, ixL_i, ixL_st, setL_n, setL_i, List.length_map, List.length_set, ix_r, getL_r, ix_tL, withL_s, setL_0, setL_1, setL_2, set_r, app_r, lst_z, lst_s, iadd_ii, tuple_r, mul_ri, sl_s, sl_rol, sl_t, sl_r, cut_from, cut_to, ap_Seq, nx_seq, rt_seq, ct_seq, bk_seq, exc_seq, ap_Raise, ap_Skip, ap_Brk, ap_Cnt, ap_Drop, ap_Ret, ap_IfS, ap_Set, ap_Ts, ap_AsgT, tgT_t, tgTs_n, tgTs_c, ap_Aug, ap_SetI, ap_AugI, mFor_ap, ap_Rng1, ap_Rng2, rng1_ok, rng2_ok, ap_Iter, src_t, src_s, src_rL, ap_Comp, wipe_n, wipe_c, len_cons, len_nil, zip_cc, zip_nn, foldl_c, foldl_n, set_z, set_s, ite_t, ite_f, ite_T, ite_F, sing_lt, sing_eq, ty_r, ty_s, isS, cut_mid, decide_eq_true_eq, if_pos, if_neg])) (fun c hc => elt_of (fw := .str [c]) (h' := []) rfl (by
          have hv : mVar 8 ((frzE H [some (.str s), some (.ref h0.length), some (.int (-1)), some (.int (n : Nat)), some (.int 0), some (.int (n : Nat)), some (.str []), none, none]).set 8 (some (.str [c]))) [] = .ok (.str [c]) [] := mVar_set (by rw [frzE_len]; exact Nat.lt_succ_self 8)
          generalize (frzE H [some (.str s), some (.ref h0.length), some (.int (-1)), some (.int (n : Nat)), some (.int 0), some (.int (n : Nat)), some (.str []), none, none]).set 8 (some (.str [c])) = ee at hv
          rw [ap_Op, hv, ok_bnd, ap_C, ok_bnd, ninS_eq, okS_mem]))
        rw [g1, if_pos rfl]
        congr 2
        rw [List.any_map, List.any_eq_false]
        intro c hc
        rw [hall c hc]
        decide
      have hany2 := ap_TruB hany
      have c1 : decide ((0 : Int) < (n : Nat) + 1) = true := decide_eq_true (by omega)
      have l0 : (([] : List Nat).length : Int) = 0 := rfl
      simp (disch := first | omega | (simp only [List.length_append, List.length_cons, List.length_nil, List.length_set, List.length_drop, List.length_take, List.length_map]; omega)) only [sl1, hany2, Bool.not_true, ap_RaiseF, l0, c1, sv_nx, sv_rt, sv_ct, rnd_nx, rnd_ct, Int.toNat_natCast, ne_eq, eq_self, not_true_eq_false, not_false_eq_true, mVar_z, Nat.reduceAdd, Nat.zero_add, Int.zero_add, Int.reduceAdd, Int.reduceSub, Int.reduceNeg, ap_Lst, ap_Tup, nil_app, cons_app, List.length_append, lst_last, mVar_s, ok_bnd, ok_stm, exc_bnd, ev_okE, exc_stm, ap_C, ap_Op, ap_Un, ap_B, ap_Chain, ap_asB, ap_And, ap_Or, ap_Not, ap_AndV, ap_OrV, ap_NotV, ap_If, ap_Nil, ap_Cons, ap_CB, ap_Meth, ap_Part, ap_NoPart, ap_Sl, ap_Yes, add_ii, add_ss, sub_ii, neg_i, mul_ii, fdiv_ii, mod_ii, eq_ii, ne_ii, eq_ss, ne_ss, lt_ii, le_ii, gt_ii, ge_ii, lt_ss, gt_ss, le_ss, ge_ss, len_s, len_t, abs_i, int_i, int_b, max_ii, min_ii, ix_s, ixL_0, ixL_1, ixL_2, ixL_3, ixL_n, ixL_i, ixL_st, setL_n, setL_i, List.length_map, List.length_set, ix_r, getL_r, ix_tL, withL_s, setL_0, setL_1, setL_2, set_r, app_r, lst_z, lst_s, iadd_ii, tuple_r, mul_ri, sl_s, sl_rol, sl_t, sl_r, cut_from, cut_to, ap_Seq, nx_seq, rt_seq, ct_seq, bk_seq, exc_seq, ap_Raise, ap_Skip, ap_Brk, ap_Cnt, ap_Drop, ap_Ret, ap_IfS, ap_Set, ap_Ts, ap_AsgT, tgT_t, tgTs_n, tgTs_c, ap_Aug, ap_SetI, ap_AugI, mFor_ap, ap_Rng1, ap_Rng2, rng1_ok, rng2_ok, ap_Iter, src_t, src_s, src_rL, ap_Comp, wipe_n, wipe_c, len_cons, len_nil, zip_cc, zip_nn, foldl_c, foldl_n, set_z, set_s, ite_t, ite_f, ite_T, ite_F, sing_lt, sing_eq, ty_r, ty_s, isS, cut_mid, decide_eq_true_eq, if_pos, if_neg]
      exact ⟨_, _, rfl⟩
  · rintro o ⟨e, h, rfl⟩
    exact ⟨e, h, rfl⟩
theorem decoded_x (n : Nat) (h1 : 1 ≤ n) (hl : n ≤ 1000) (h : List O) : pureRunX den_decoded 1 [.str (List.replicate n 48)] h = .exc 3 (some (.int 0)) h := by
  obtain ⟨e, h', eo⟩ := noughts_sv n h1 hl []
  have : den_decoded [.str (List.replicate n 48)] [] = .exc 3 (some (.int 0)) h' := by
    unfold den_decoded mFun
    rw [eo]
  unfold pureRunX
  rw [if_pos ⟨rfl, rfl⟩, this]
  rfl
end Law_indexhall_k30_refusals_apart
set_option maxRecDepth 100000
set_option maxHeartbeats 2000000
namespace Law_indexhall_k30_refusals_apart
open PySem L2 Den
open R (nmd WRD)
abbrev SFA : List Nat := [97, 98, 99, 100, 101, 102, 103, 104, 105, 106, 107, 108, 109, 110, 111, 112, 113, 114, 115, 116, 117, 118, 119, 120, 121, 122, 48, 49, 50, 51, 52, 53, 54, 55, 56, 57]
theorem in_tsx {s : List Nat} {l : List (List Nat)} {h : List O} : oIn (.str s) (.tup (l.map .str)) h = .ok (.bl (decide (s ∈ l))) h := by
  have key : inW (.str s) (.tup (l.map .str)) h = some (decide (s ∈ l)) := by
    have e : (strsOf (l.map W.str)).map (fun l => decide (s ∈ l)) = some (decide (s ∈ l)) := by rw [strsOf_map]; rfl
    unfold inW
    cases s with
    | nil => exact e
    | cons a r =>
      cases r with
      | nil => exact e
      | cons b r => exact e
  unfold oIn
  rw [key]
theorem notin_tsx {s : List Nat} {l : List (List Nat)} {h : List O} : oNotIn (.str s) (.tup (l.map .str)) h = .ok (.bl (decide (s ∉ l))) h := by
  have key : inW (.str s) (.tup (l.map .str)) h = some (decide (s ∈ l)) := by
    have e : (strsOf (l.map W.str)).map (fun l => decide (s ∈ l)) = some (decide (s ∈ l)) := by rw [strsOf_map]; rfl
    unfold inW
    cases s with
    | nil => exact e
    | cons a r =>
      cases r with
      | nil => exact e
      | cons b r => exact e
  unfold oNotIn
  rw [key]
  simp
section
variable {w : List Nat}
/-- figures alone -/
structure Dig (w : List Nat) : Prop where
  ne : w ≠ []
  d : ∀ c ∈ w, 48 ≤ c ∧ c < 58
  len : w.length ≤ 5
theorem Dig.not (D : Dig w) {x : Nat} {r : List Nat} (hx : 58 ≤ x) : w ≠ x :: r := fun e => by
  have := D.d x (by rw [e]; exact List.mem_cons_self)
  omega
theorem dig_plain (D : Dig w) (h : List O) : pureRun den_is_plain 1 [.str w] h = .ok (.bl true) h := by
  have g1 : ∀ h, mGenB false 1 (mGItems (mVar 0)) (mOp oInS (mVar 1) (mOp oAddS (mC (.str [97, 98, 99, 100, 101, 102, 103, 104, 105, 106, 107, 108, 109, 110, 111, 112, 113, 114, 115, 116, 117, 118, 119, 120, 121, 122])) (mC (.str [48, 49, 50, 51, 52, 53, 54, 55, 56, 57])))) [some (.str w), none] h = .ok (.bl true) h := fun h => by
    refine (genB_ev (any := false) (l := w) (g := fun c => W.str [c]) (f := fun c => decide (c ∈ SFA)) (ap_GIs rfl) fun c hc => elt_of (fw := .str [c]) (h' := []) rfl ?_).trans ?_
    · rfl
    · rw [if_neg (by decide)]
      congr 2
      rw [List.all_map, List.all_eq_true]
      intro c hc
      have := D.d c hc
      show decide (c ∈ SFA) = true
      rw [decide_eq_true_eq]
      have : c = 48 ∨ c = 49 ∨ c = 50 ∨ c = 51 ∨ c = 52 ∨ c = 53 ∨ c = 54 ∨ c = 55 ∨ c = 56 ∨ c = 57 := by omega
      rcases this with rfl | rfl | rfl | rfl | rfl | rfl | rfl | rfl | rfl | rfl <;> decide
  have n1 : (w ≠ []) = True := by simp [D.ne]
  have n2 : ∀ h, oNotIn (.str w) (.tup [.str [97, 110, 100], .str [111, 114], .str [110, 111, 116], .str [110, 101, 97, 114]]) h = .ok (.bl true) h := fun h => by
    refine (notin_tsx (l := [[97, 110, 100], [111, 114], [110, 111, 116], [110, 101, 97, 114]])).trans ?_
    rw [decide_eq_true]
    simp only [List.mem_cons, List.not_mem_nil, or_false, not_or]
    exact ⟨D.not (by omega), D.not (by omega), D.not (by omega), D.not (by omega)⟩
  have e : den_is_plain [.str w] [] = .ok (.bl true) [] := by
    unfold den_is_plain mFun body_is_plain
    simp only [startE, List.map_cons, List.map_nil, List.length_cons, List.length_nil, List.cons_append, List.nil_append, Nat.zero_add, Nat.reduceAdd, Nat.reduceSub, List.replicate_succ, List.replicate_zero]
    simp (disch := first | omega | (simp only [List.length_append, List.length_cons, List.length_nil, List.length_set, List.length_drop, List.length_take, List.length_map]; omega)) only [g1, n1, n2, sv_nx, sv_rt, sv_ct, rnd_nx, rnd_ct, Int.toNat_natCast, ne_eq, eq_self, not_true_eq_false, not_false_eq_true, mVar_z, Nat.reduceAdd, Nat.zero_add, Int.zero_add, Int.reduceAdd, Int.reduceSub, Int.reduceNeg, ap_Lst, ap_Tup, nil_app, cons_app, List.length_append, lst_last, mVar_s, ok_bnd, ok_stm, exc_bnd, ev_okE, exc_stm, ap_C, ap_Op, ap_Un, ap_B, ap_Chain, ap_asB, ap_And, ap_Or, ap_Not, ap_AndV, ap_OrV, ap_NotV, ap_If, ap_Nil, ap_Cons, ap_CB, ap_Meth, ap_Part, ap_NoPart, ap_Sl, ap_Yes, add_ii, add_ss, sub_ii, neg_i, mul_ii, fdiv_ii, mod_ii, eq_ii, ne_ii, eq_ss, ne_ss, lt_ii, le_ii, gt_ii, ge_ii, lt_ss, gt_ss, le_ss, ge_ss, len_s, len_t, abs_i, int_i, int_b, max_ii, min_ii, ix_s, ixL_0, ixL_1, ixL_2, ixL_3, ixL_n, ixL_i, ixL_st, setL_n, setL_i, List.length_map, List.length_set, ix_r, getL_r, ix_tL, withL_s, setL_0, setL_1, setL_2, set_r, app_r, lst_z, lst_s, iadd_ii, tuple_r, mul_ri, sl_s, sl_rol, sl_t, sl_r, cut_from, cut_to, ap_Seq, nx_seq, rt_seq, ct_seq, bk_seq, exc_seq, ap_Raise, ap_Skip, ap_Brk, ap_Cnt, ap_Drop, ap_Ret, ap_IfS, ap_Set, ap_Ts, ap_AsgT, tgT_t, tgTs_n, tgTs_c, ap_Aug, ap_SetI, ap_AugI, mFor_ap, ap_Rng1, ap_Rng2, rng1_ok, rng2_ok, ap_Iter, src_t, src_s, src_rL, ap_Comp, wipe_n, wipe_c, len_cons, len_nil, zip_cc, zip_nn, foldl_c, foldl_n, set_z, set_s, ite_t, ite_f, ite_T, ite_F, sing_lt, sing_eq, ty_r, ty_s, isS, cut_mid, decide_eq_true_eq, if_pos, if_neg]
    all_goals rfl
  unfold pureRun
  rw [if_pos ⟨rfl, rfl⟩, e]
  rfl
theorem dig_nmd (D : Dig w) : nmd w WRD (.str w) := by
  refine ⟨D.ne, fun c hc => ?_, fun pl h => ?_⟩
  · have := D.d c hc
    have : c = 48 ∨ c = 49 ∨ c = 50 ∨ c = 51 ∨ c = 52 ∨ c = 53 ∨ c = 54 ∨ c = 55 ∨ c = 56 ∨ c = 57 := by omega
    rcases this with rfl | rfl | rfl | rfl | rfl | rfl | rfl | rfl | rfl | rfl <;> decide
  · have n1 : ∀ h, oIn (.str w) (.tup [.str [97, 110, 100], .str [111, 114], .str [110, 111, 116]]) h = .ok (.bl false) h := fun h => by
      refine (in_tsx (l := [[97, 110, 100], [111, 114], [110, 111, 116]])).trans ?_
      rw [decide_eq_false]
      simp only [List.mem_cons, List.not_mem_nil, or_false, not_or]
      exact ⟨D.not (by omega), D.not (by omega), D.not (by omega)⟩
    have hlen := D.len
    have hne := D.ne
    have sl1 : ∀ h, oSl (.str w) none (some 5) h = .ok (.str w) h := fun h => by
      rw [sl_s (by omega), cut_to (by omega), List.take_of_length_le (by omega)]
    have n2 : (w = [110, 101, 97, 114, 47]) = False := by simp only [eq_iff_iff, iff_false]; exact D.not (by omega)
    have hl : 0 < w.length := List.length_pos_iff.2 hne
    have hlast : ∃ c, 48 ≤ c ∧ c < 58 ∧ ∀ h, oIx (.str w) (.int (-1)) h = .ok (.str [c]) h := by
      have hm : w.getLast hne ∈ w := List.getLast_mem hne
      refine ⟨w.getLast hne, (D.d _ hm).1, (D.d _ hm).2, fun h => ?_⟩
      have hat : L2.atI w (-1) = some (w.getLast hne) := by
        rw [atI_neg (by omega) (by omega)]
        congr 1
        rw [List.getLast_eq_getElem]
        congr 1
        omega
      unfold oIx
      simp only [hat]
      all_goals (first | rfl | (rw [if_pos (by show w.length ≤ 1000000; omega)]))
    obtain ⟨c, c0, c1, hc⟩ := hlast
    have n3 : (c = 42) = False := by simp only [eq_iff_iff, iff_false]; omega
    have hp := R.tru_of (e := [some (W.str w), some (.int (pl : Nat)), none]) (h := h) (show mCB (pureRun den_is_plain 1) (mCons (mVar 0) (mNil)) [some (W.str w), some (.int (pl : Nat)), none] h = .ok (.bl true) h by
      rw [ap_CB, ap_Cons, show mVar 0 [some (W.str w), some (.int (pl : Nat)), none] h = .ok (.str w) h from rfl, ok_bnd, ap_Nil, ok_bnd, ok_bnd, dig_plain D])
    unfold den_named mFun body_named
    simp only [startE, List.map_cons, List.map_nil, List.length_cons, List.length_nil, List.cons_append, List.nil_append, Nat.zero_add, Nat.reduceAdd, Nat.reduceSub, List.replicate_succ, List.replicate_zero]
    simp (disch := first | omega | (simp only [List.length_append, List.length_cons, List.length_nil, List.length_set, List.length_drop, List.length_take, List.length_map]; omega)) only [n1, sl1, n2, hc, n3, hp, List.cons.injEq, and_true, sv_nx, sv_rt, sv_ct, rnd_nx, rnd_ct, Int.toNat_natCast, ne_eq, eq_self, not_true_eq_false, not_false_eq_true, mVar_z, Nat.reduceAdd, Nat.zero_add, Int.zero_add, Int.reduceAdd, Int.reduceSub, Int.reduceNeg, ap_Lst, ap_Tup, nil_app, cons_app, List.length_append, lst_last, mVar_s, ok_bnd, ok_stm, exc_bnd, ev_okE, exc_stm, ap_C, ap_Op, ap_Un, ap_B, ap_Chain, ap_asB, ap_And, ap_Or, ap_Not, ap_AndV, ap_OrV, ap_NotV, ap_If, ap_Nil, ap_Cons, ap_CB, ap_Meth, ap_Part, ap_NoPart, ap_Sl, ap_Yes, add_ii, add_ss, sub_ii, neg_i, mul_ii, fdiv_ii, mod_ii, eq_ii, ne_ii, eq_ss, ne_ss, lt_ii, le_ii, gt_ii, ge_ii, lt_ss, gt_ss, le_ss, ge_ss, len_s, len_t, abs_i, int_i, int_b, max_ii, min_ii, ix_s, ixL_0, ixL_1, ixL_2, ixL_3, ixL_n, ixL_i, ixL_st, setL_n, setL_i, List.length_map, List.length_set, ix_r, getL_r, ix_tL, withL_s, setL_0, setL_1, setL_2, set_r, app_r, lst_z, lst_s, iadd_ii, tuple_r, mul_ri, sl_s, sl_rol, sl_t, sl_r, cut_from, cut_to, ap_Seq, nx_seq, rt_seq, ct_seq, bk_seq, exc_seq, ap_Raise, ap_Skip, ap_Brk, ap_Cnt, ap_Drop, ap_Ret, ap_IfS, ap_Set, ap_Ts, ap_AsgT, tgT_t, tgTs_n, tgTs_c, ap_Aug, ap_SetI, ap_AugI, mFor_ap, ap_Rng1, ap_Rng2, rng1_ok, rng2_ok, ap_Iter, src_t, src_s, src_rL, ap_Comp, wipe_n, wipe_c, len_cons, len_nil, zip_cc, zip_nn, foldl_c, foldl_n, set_z, set_s, ite_t, ite_f, ite_T, ite_F, sing_lt, sing_eq, ty_r, ty_s, isS, cut_mid, decide_eq_true_eq, if_pos, if_neg]
end
end Law_indexhall_k30_refusals_apart
set_option maxRecDepth 100000
set_option maxHeartbeats 2000000
namespace Law_indexhall_k30_refusals_apart
open PySem L2 Den
open R (nmd WRD A toW kt flat tp Good tks kof Pc At PS PO1 OPN Fine)
/-! ### a number behind a bracket is no ask -/
theorem dig_decJ {m : Nat} (h : m < 1000) : Dig (decJ m) := by
  unfold decJ
  split
  · exact ⟨by simp, fun c hc => by simp at hc; omega, by simp⟩
  · split
    · exact ⟨by simp, fun c hc => by simp at hc; omega, by simp⟩
    · exact ⟨by simp, fun c hc => by simp at hc; omega, by simp⟩
theorem read_x {w : List Nat} (D : Dig w) (h : List O) : pureRunX den_read 1 [.str (40 :: w)] h = .exc 4 (some (.int ((w.length + 1 : Nat)))) h := by
  let a : A := .wd w
  have hlen := D.len
  have F : Fine a := ⟨dig_nmd D, by show 1 ≤ 10; decide, by show 1 < 100; decide, by show (w ++ []).length ≤ 400; simp; omega⟩
  let ps : List Pc := .op :: tp a
  have hfl : flat ps = 40 :: w := by show 40 :: (w ++ []) = _; simp
  have hg : Good ps [] 0 := ⟨by show (0 : Int) < 40; decide, R.good_tp a _ _ F.ok (by have := F.dep; show (0 : Int) + 1 + _ ≤ 40; omega) R.now_nil⟩
  have hk : kof ps = (OPN, .str []) :: kt a := by
    show _ :: kof (tp a) = _
    rw [R.kof_tp]
  have hat := R.at_tks (k := 0) (ps := ps)
  rw [hk] at hat
  have hl : (tks 0 ps).length = (kt a).length + 1 := by rw [R.tks_len, hk]; simp
  obtain ⟨t, e, hkd, _⟩ := At.head hat
  have q := R.p_ok (n := 15) (en := (flat ps).length) (by have := F.dep; omega) (by have := F.sz; omega) (At.tail hat) (R.nx_end (by omega))
  have q2 : PS (tks 0 ps) (flat ps).length 16 0 _ := R.One.opE (en := (flat ps).length) e hkd q (by omega)
  have hl2 : (flat ps).length = w.length + 1 := by rw [hfl]; rfl
  obtain ⟨h', er⟩ := R.read_er (h := []) (t := flat ps) rfl (by omega) hg (by have := R.good_len hg; omega) (R.po_er q2)
  rw [hfl] at er
  unfold pureRunX
  rw [if_pos ⟨rfl, rfl⟩, er]
  rfl
/-! ### objects made -/
section
variable {h : List O} {e : Den.Env}
theorem set_st {E : Den.Env} {c : Nat} {cs : List Nat} {f : Str} {mv : M W} {w : W} {o r : List O} {fs : List (Str × W)} (e0 : ∀ h', mVar 0 E h' = .ok (.ref h.length) h') (hf : fs.length < 6) (hc : c ∈ cs) (hv : mv E (h ++ (.ins c fs :: r)) = .ok w (h ++ (.ins c fs :: (r ++ o)))) : mSetF cs f (mVar 0) mv E (h ++ (.ins c fs :: r)) = .nx E (h ++ (.ins c (putFW f w fs) :: (r ++ o))) := by
  rw [setf_ev (n := h.length) (c := c) (fs := fs) hv (e0 _) ins_last hc (by omega), List.set_append_right _ _ (Nat.le_refl _), Nat.sub_self]
  rfl
def iF (k : Nat) : List (Str × W) := [("most", .int 1), ("parts", .ref (k + 1)), ("gone", .ref (k + 2)), ("where", .ref (k + 3)), ("joins", .int 0)]
def iO (k : Nat) : List O := [.ins 101 (iF k), .lst [], .dic [], .dic []]
def hF (k : Nat) : List (Str × W) := [("index", .ref (k + 1)), ("asks", .ref (k + 5)), ("deeds", .ref (k + 6)), ("undone", .ref (k + 7))]
def hO (k : Nat) : List O := .ins 102 (hF k) :: (iO (k + 1) ++ [.dic [], .lst [], .lst []])
theorem i_put1 {x : W} : putFW "most" x [] = ([("most", x)] : List (Str × W)) := rfl
theorem str_ne {a b : Str} (h : (a == b) = false) : a ≠ b := fun e => by
  subst e
  simp at h
theorem i_put2 {x y : W} : putFW "parts" y [("most", x)] = ([("most", x), ("parts", y)] : List (Str × W)) := by
  unfold putFW
  rw [if_neg (str_ne (by decide +kernel))]
  rfl
theorem i_put3 {x y z : W} : putFW "gone" z [("most", x), ("parts", y)] = ([("most", x), ("parts", y), ("gone", z)] : List (Str × W)) := by
  unfold putFW
  rw [if_neg (str_ne (by decide +kernel))]
  unfold putFW
  rw [if_neg (str_ne (by decide +kernel))]
  rfl
theorem i_put4 {x y z u : W} : putFW "where" u [("most", x), ("parts", y), ("gone", z)] = ([("most", x), ("parts", y), ("gone", z), ("where", u)] : List (Str × W)) := by
  unfold putFW
  rw [if_neg (str_ne (by decide +kernel))]
  unfold putFW
  rw [if_neg (str_ne (by decide +kernel))]
  unfold putFW
  rw [if_neg (str_ne (by decide +kernel))]
  rfl
theorem i_put5 {x y z u v : W} : putFW "joins" v [("most", x), ("parts", y), ("gone", z), ("where", u)] = ([("most", x), ("parts", y), ("gone", z), ("where", u), ("joins", v)] : List (Str × W)) := by
  unfold putFW
  rw [if_neg (str_ne (by decide +kernel))]
  unfold putFW
  rw [if_neg (str_ne (by decide +kernel))]
  unfold putFW
  rw [if_neg (str_ne (by decide +kernel))]
  unfold putFW
  rw [if_neg (str_ne (by decide +kernel))]
  rfl
theorem h_put1 {x : W} : putFW "index" x [] = ([("index", x)] : List (Str × W)) := rfl
theorem h_put2 {x y : W} : putFW "asks" y [("index", x)] = ([("index", x), ("asks", y)] : List (Str × W)) := by
  unfold putFW
  rw [if_neg (str_ne (by decide +kernel))]
  rfl
theorem h_put3 {x y z : W} : putFW "deeds" z [("index", x), ("asks", y)] = ([("index", x), ("asks", y), ("deeds", z)] : List (Str × W)) := by
  unfold putFW
  rw [if_neg (str_ne (by decide +kernel))]
  unfold putFW
  rw [if_neg (str_ne (by decide +kernel))]
  rfl
theorem h_put4 {x y z u : W} : putFW "undone" u [("index", x), ("asks", y), ("deeds", z)] = ([("index", x), ("asks", y), ("deeds", z), ("undone", u)] : List (Str × W)) := by
  unfold putFW
  rw [if_neg (str_ne (by decide +kernel))]
  unfold putFW
  rw [if_neg (str_ne (by decide +kernel))]
  unfold putFW
  rw [if_neg (str_ne (by decide +kernel))]
  rfl
theorem t_put1 {x : W} : putFW "next" x [] = ([("next", x)] : List (Str × W)) := rfl
theorem t_put2 {x y : W} : putFW "often" y [("next", x)] = ([("next", x), ("often", y)] : List (Str × W)) := by
  unfold putFW
  rw [if_neg (str_ne (by decide +kernel))]
  rfl
theorem t_put3 {x y z : W} : putFW "below" z [("next", x), ("often", y)] = ([("next", x), ("often", y), ("below", z)] : List (Str × W)) := by
  unfold putFW
  rw [if_neg (str_ne (by decide +kernel))]
  unfold putFW
  rw [if_neg (str_ne (by decide +kernel))]
  rfl
theorem len_at {c : Nat} {fs : List (Str × W)} {r : List O} : (h ++ (O.ins c fs :: r)).length = h.length + 1 + r.length := by simp; omega
theorem lst_new {E : Den.Env} {g : List O} : mLst mNil E g = .ok (.ref g.length) (g ++ [.lst []]) := rfl
theorem dic_new {E : Den.Env} {g : List O} : mDict0 E g = .ok (.ref g.length) (g ++ [.dic []]) := rfl
theorem init_index : den_Index_init [.ref h.length, .int 1] (h ++ [.ins 101 []]) = .ok .non (h ++ iO h.length) := by
  let E : Den.Env := [some (.ref h.length), some (.int 1)]
  have e0 : ∀ h', mVar 0 E h' = .ok (.ref h.length) h' := fun _ => rfl
  have as : ∀ (c : Nat) (fs : List (Str × W)) (r o : List O), (h ++ (O.ins c fs :: r)) ++ o = h ++ (.ins c fs :: (r ++ o)) := fun c fs r o => by simp
  have s1 := set_st (f := "most") (mv := mVar 1) (w := .int 1) (o := []) (r := []) (fs := []) (cs := [101]) (c := 101) e0 (by simp) (by decide) (by rfl)
  rw [i_put1] at s1
  have s2 := set_st (f := "parts") (mv := mLst mNil) (w := .ref (h.length + 1)) (o := [.lst []]) (r := []) (fs := [("most", .int 1)]) (cs := [101]) (c := 101) e0 (by simp) (by decide) (by rw [lst_new, len_at, as]; rfl)
  rw [i_put2] at s2
  have s3 := set_st (f := "gone") (mv := mDict0) (w := .ref (h.length + 2)) (o := [.dic []]) (r := [.lst []]) (fs := [("most", .int 1), ("parts", .ref (h.length + 1))]) (cs := [101]) (c := 101) e0 (by simp) (by decide) (by rw [dic_new, len_at, as]; rfl)
  rw [i_put3] at s3
  have s4 := set_st (f := "where") (mv := mDict0) (w := .ref (h.length + 3)) (o := [.dic []]) (r := [.lst [], .dic []]) (fs := [("most", .int 1), ("parts", .ref (h.length + 1)), ("gone", .ref (h.length + 2))]) (cs := [101]) (c := 101) e0 (by simp) (by decide) (by rw [dic_new, len_at, as]; rfl)
  rw [i_put4] at s4
  have s5 := set_st (f := "joins") (mv := mC (.int 0)) (w := .int 0) (o := []) (r := [.lst [], .dic [], .dic []]) (fs := [("most", .int 1), ("parts", .ref (h.length + 1)), ("gone", .ref (h.length + 2)), ("where", .ref (h.length + 3))]) (cs := [101]) (c := 101) e0 (by simp) (by decide) (by rfl)
  rw [i_put5] at s5
  have c : mB (mOp oLt (mVar 1) (mC (.int 1))) E (h ++ [.ins 101 []]) = .ok false (h ++ [.ins 101 []]) := rfl
  have key : body_Index_init E (h ++ [.ins 101 []]) = .nx E (h ++ iO h.length) := by
    unfold body_Index_init
    simp only [List.append_nil, List.nil_append, List.cons_append] at s1 s2 s3 s4 s5
    rw [ap_Seq, ap_IfS, c, ok_stm, if_neg (by decide), ap_Skip, nx_seq, ap_Seq, s1, nx_seq, ap_Seq, s2, nx_seq, ap_Seq, s3, nx_seq, ap_Seq, s4, nx_seq, s5]
    rfl
  show (match body_Index_init E (h ++ [.ins 101 []]) with | .nx _ h' => Out.ok W.non h' | .rt w h' => .ok w h' | .exc c p _ h' => .exc c p h' | _ => .bad) = _
  rw [key]
theorem make_index {mm : M (List W)} (em : mm e h = .ok [.int 1] h) : mMake 101 2 den_Index_init mm e h = .ok (.ref h.length) (h ++ iO h.length) := make_ev em rfl init_index
theorem init_hall : den_Hall_init [.ref h.length, .int 1] (h ++ [.ins 102 []]) = .ok .non (h ++ hO h.length) := by
  let E : Den.Env := [some (.ref h.length), some (.int 1)]
  have e0 : ∀ h', mVar 0 E h' = .ok (.ref h.length) h' := fun _ => rfl
  have as : ∀ (c : Nat) (fs : List (Str × W)) (r o : List O), (h ++ (O.ins c fs :: r)) ++ o = h ++ (.ins c fs :: (r ++ o)) := fun c fs r o => by simp
  have mi := make_index (h := h ++ [.ins 102 []]) (e := E) (mm := mCons (mVar 1) (mNil)) rfl
  have hl1 : (h ++ [O.ins 102 []]).length = h.length + 1 := by simp
  rw [hl1] at mi
  have s1 := set_st (f := "index") (mv := mMake 101 2 den_Index_init (mCons (mVar 1) (mNil))) (w := .ref (h.length + 1)) (o := iO (h.length + 1)) (r := []) (fs := []) (cs := [102]) (c := 102) e0 (by simp) (by decide) (by rw [mi, as])
  rw [h_put1] at s1
  have s2 := set_st (f := "asks") (mv := mDict0) (w := .ref (h.length + 5)) (o := [.dic []]) (r := iO (h.length + 1)) (fs := [("index", .ref (h.length + 1))]) (cs := [102]) (c := 102) e0 (by simp) (by decide) (by rw [dic_new, len_at, as]; rfl)
  rw [h_put2] at s2
  have s3 := set_st (f := "deeds") (mv := mLst mNil) (w := .ref (h.length + 6)) (o := [.lst []]) (r := iO (h.length + 1) ++ [.dic []]) (fs := [("index", .ref (h.length + 1)), ("asks", .ref (h.length + 5))]) (cs := [102]) (c := 102) e0 (by simp) (by decide) (by rw [lst_new, len_at, as]; rfl)
  rw [h_put3] at s3
  have s4 := set_st (f := "undone") (mv := mLst mNil) (w := .ref (h.length + 7)) (o := [.lst []]) (r := (iO (h.length + 1) ++ [.dic []]) ++ [.lst []]) (fs := [("index", .ref (h.length + 1)), ("asks", .ref (h.length + 5)), ("deeds", .ref (h.length + 6))]) (cs := [102]) (c := 102) e0 (by simp) (by decide) (by rw [lst_new, len_at, as]; rfl)
  rw [h_put4] at s4
  have key : body_Hall_init E (h ++ [.ins 102 []]) = .nx E (h ++ hO h.length) := by
    unfold body_Hall_init
    rw [List.nil_append] at s1
    rw [ap_Seq, s1, nx_seq, ap_Seq, s2, nx_seq, ap_Seq, s3, nx_seq, s4]
    rfl
  show (match body_Hall_init E (h ++ [.ins 102 []]) with | .nx _ h' => Out.ok W.non h' | .rt w h' => .ok w h' | .exc c p _ h' => .exc c p h' | _ => .bad) = _
  rw [key]
theorem make_hall {mm : M (List W)} (em : mm e h = .ok [.int 1] h) : mMake 102 2 den_Hall_init mm e h = .ok (.ref h.length) (h ++ hO h.length) := make_ev em rfl init_hall
def tF (k : Nat) : List (Str × W) := [("next", .ref (k + 1)), ("often", .int 0), ("below", .int 0)]
theorem init_tree : den_Tree_init [.ref h.length] (h ++ [.ins 103 []]) = .ok .non (h ++ [.ins 103 (tF h.length), .dic []]) := by
  let E : Den.Env := [some (.ref h.length)]
  have e0 : ∀ h', mVar 0 E h' = .ok (.ref h.length) h' := fun _ => rfl
  have as : ∀ (c : Nat) (fs : List (Str × W)) (r o : List O), (h ++ (O.ins c fs :: r)) ++ o = h ++ (.ins c fs :: (r ++ o)) := fun c fs r o => by simp
  have s1 := set_st (f := "next") (mv := mDict0) (w := .ref (h.length + 1)) (o := [.dic []]) (r := []) (fs := []) (cs := [103]) (c := 103) e0 (by simp) (by decide) (by rw [dic_new, len_at, as]; rfl)
  rw [t_put1] at s1
  have s2 := set_st (f := "often") (mv := mC (.int 0)) (w := .int 0) (o := []) (r := [.dic []]) (fs := [("next", .ref (h.length + 1))]) (cs := [103]) (c := 103) e0 (by simp) (by decide) (by rfl)
  rw [t_put2] at s2
  have s3 := set_st (f := "below") (mv := mC (.int 0)) (w := .int 0) (o := []) (r := [.dic []]) (fs := [("next", .ref (h.length + 1)), ("often", .int 0)]) (cs := [103]) (c := 103) e0 (by simp) (by decide) (by rfl)
  rw [t_put3] at s3
  have key : body_Tree_init E (h ++ [.ins 103 []]) = .nx E (h ++ [.ins 103 (tF h.length), .dic []]) := by
    unfold body_Tree_init
    simp only [List.append_nil, List.nil_append] at s1 s2 s3
    rw [ap_Seq, s1, nx_seq, ap_Seq, s2, nx_seq, s3]
    rfl
  show (match body_Tree_init E (h ++ [.ins 103 []]) with | .nx _ h' => Out.ok W.non h' | .rt w h' => .ok w h' | .exc c p _ h' => .exc c p h' | _ => .bad) = _
  rw [key]
theorem make_tree : mMake 103 1 den_Tree_init mNil e h = .ok (.ref h.length) (h ++ [.ins 103 (tF h.length), .dic []]) := make_ev rfl rfl init_tree
end
end Law_indexhall_k30_refusals_apart
set_option maxRecDepth 100000
set_option maxHeartbeats 2000000
namespace Law_indexhall_k30_refusals_apart
open PySem L2 Den
/-! ### the six lambdas -/
def lm0 : M W := mCB (pureRun den_check_text 1) (mCons (mVar 2) (mNil))
def lm1 : M W := mCB (pureRunX den_decoded 1) (mCons (mOp oMulN (mC (.str [48])) (mVar 2)) (mNil))
def lm2 : M W := mCB (pureRunX den_read 1) (mCons (mOp oAdd (mC (.str [40])) (mCB oStrJ (mCons (mVar 2) (mNil)))) (mNil))
def lm3 : M W := mMt 101 "remove" 2 den_Index_remove (mVar 4) (mCons (mVar 2) (mNil))
def lm4 : M W := mMt 103 "within" 3 den_Tree_within (mMake 103 1 den_Tree_init mNil) (mCons (mC (.str [97])) (mCons (mOp oAdd (mC (.int 4)) (mVar 2)) (mNil)))
def lm5 : M W := mMt 102 "take" 2 den_Hall_take (mVar 3) (mCons (mVar 2) (mNil))
def lms : List (M W) := [lm0, lm1, lm2, lm3, lm4, lm5]
def lmE : M W := mOp oAdd (mComp 100000 [7] (mRng1 (mCons (mC (.int 6)) (mNil))) (tgN 7) (mYes) (mOp oEq (mVar 7) (mVar 6))) (mLst (mCons (mC (.bl true)) (mNil)))
/-- a hall and an index that hold nothing -/
structure Obs (h : List O) (nh ni : Nat) : Prop where
  hall : insAt h nh = some (102, hF nh)
  hidx : insAt h (nh + 1) = some (101, iF (nh + 1))
  hwh : dicAt h (nh + 4) = some []
  idx : insAt h ni = some (101, iF ni)
  iwh : dicAt h (ni + 3) = some []
theorem dic_gr {h h' : List O} {n : Nat} {xs : List (W × W)} (g : Gr h h') (e : dicAt h n = some xs) : dicAt h' n = some xs := by
  obtain ⟨o, rfl⟩ := g
  unfold dicAt at e ⊢
  split at e
  · rename_i ys hy
    rw [List.getElem?_append_left (List.getElem?_eq_some_iff.mp hy).1, hy]
    exact e
  · cases e
theorem ins_gr {h h' : List O} {n c : Nat} {fs : List (Str × W)} (g : Gr h h') (e : insAt h n = some (c, fs)) : insAt h' n = some (c, fs) := by
  obtain ⟨o, rfl⟩ := g
  exact ins_old e
theorem Obs.gr {h h' : List O} {nh ni : Nat} (o : Obs h nh ni) (g : Gr h h') : Obs h' nh ni := ⟨ins_gr g o.hall, ins_gr g o.hidx, dic_gr g o.hwh, ins_gr g o.idx, dic_gr g o.iwh⟩
section
variable {h : List O} {s0 x5 x7 x6 : Option W} {q nh ni : Nat} {m : Nat}
def E8 (s0 : Option W) (q m nh ni : Nat) (x5 x6 x7 : Option W) : Den.Env := [s0, some (.ref q), some (.int (m : Nat)), some (.ref nh), some (.ref ni), x5, x6, x7]
theorem l0_x : lm0 (E8 s0 q m nh ni x5 x6 x7) h = .exc 1 none h := by kernel_rfl
theorem flat1 (m : Nat) : (List.replicate m [48]).flatten = List.replicate m 48 := by
  induction m with
  | zero => rfl
  | succ m ih => rw [List.replicate_succ, List.flatten_cons, ih]; rfl
theorem l1_x (h1 : 1 ≤ m) (hm : m ≤ 900) : lm1 (E8 s0 q m nh ni x5 x6 x7) h = .exc 3 (some (.int 0)) h := by
  have e1 : mOp oMulN (mC (.str [48])) (mVar 2) (E8 s0 q m nh ni x5 x6 x7) h = .ok (.str (List.replicate m 48)) h := by
    show (if -1000000 ≤ (m : Int) ∧ (m : Int) ≤ 1000000 ∧ 0 < [48].length ∧ [48].length * (m : Int).toNat ≤ lim then Out.ok (W.str (List.replicate (m : Int).toNat [48]).flatten) h else .bad) = _
    rw [if_pos ⟨by omega, by omega, by decide, by show 1 * (m : Int).toNat ≤ 1000000; omega⟩, Int.toNat_natCast, flat1]
  unfold lm1
  rw [ap_CB, ap_Cons, e1, ok_bnd, ap_Nil, ok_bnd, ok_bnd]
  exact decoded_x m h1 (by omega) h
theorem l2_x (hm : m ≤ 900) : ∃ p, lm2 (E8 s0 q m nh ni x5 x6 x7) h = .exc 4 p h := by
  have e1 : mOp oAdd (mC (.str [40])) (mCB oStrJ (mCons (mVar 2) (mNil))) (E8 s0 q m nh ni x5 x6 x7) h = .ok (.str (40 :: decJ m)) h := by
    have e2 : mCB oStrJ (mCons (mVar 2) (mNil)) (E8 s0 q m nh ni x5 x6 x7) h = .ok (.str (decJ m)) h := by
      show (if 0 ≤ (m : Int) ∧ (m : Int) < 1000 then Out.ok (W.str (decJ (m : Int).toNat)) h else .bad) = _
      rw [if_pos ⟨by omega, by omega⟩, Int.toNat_natCast]
    rw [ap_Op, ap_C, ok_bnd, e2, ok_bnd]
    have hl : (decJ m).length ≤ 3 := by
      unfold decJ
      split
      · simp
      · split <;> simp
    unfold oAdd
    first | rfl | (show (if _ then _ else _) = _; rw [if_pos (by show _ ≤ (1000000 : Nat); simp; omega)]; rfl)
  refine ⟨some (.int (((decJ m).length + 1 : Nat))), ?_⟩
  unfold lm2
  rw [ap_CB, ap_Cons, e1, ok_bnd, ap_Nil, ok_bnd, ok_bnd]
  have hd := dig_decJ (m := m) (by omega)
  exact read_x hd h
theorem iF_where (k : Nat) : (iF k).lookup ("where" : Str) = some (.ref (k + 3)) := rfl
theorem iF_no (k : Nat) {f : Str} (h : f ∉ (["most", "parts", "gone", "where", "joins"] : List Str)) : (iF k).lookup f = none := by
  simp only [List.mem_cons, List.not_mem_nil, or_false, not_or] at h
  unfold iF
  simp only [List.lookup, beq_eq_false_iff_ne.2 h.1, beq_eq_false_iff_ne.2 h.2.1, beq_eq_false_iff_ne.2 h.2.2.1, beq_eq_false_iff_ne.2 h.2.2.2.1, beq_eq_false_iff_ne.2 h.2.2.2.2]
theorem l3_x (o : Obs h nh ni) : lm3 (E8 s0 q m nh ni x5 x6 x7) h = .exc 2 none h := by
  unfold lm3
  rw [mt_ev (ar := 2) (n := ni) (c := 101) (fs := iF ni) (h1 := h) (h2 := h) (ws := [.int (m : Nat)]) rfl o.idx (iF_no ni (by decide +kernel)) rfl rfl]
  let E : Den.Env := [some (.ref ni), some (.int (m : Nat))]
  have f1 : mFld [101] "where" (mVar 0) E h = .ok (.ref (ni + 3)) h := fld_ev (n := ni) (c := 101) (fs := iF ni) rfl o.idx (by simp) (iF_where ni)
  have c1 : mB (mOp oNotInD (mVar 1) (mFld [101] "where" (mVar 0))) E h = .ok true h := by
    have hd : dicR h (ni + 3) = some [] := by
      have := o.iwh
      unfold dicR
      unfold dicAt at this
      split at this
      · rename_i ys hy
        cases this
        rw [hy]
      · cases this
    rw [ap_B, ap_Op]
    show ((mFld [101] "where" (mVar 0) E h).bnd _).bnd asB = _
    rw [f1, ok_bnd]
    show (match dicR h (ni + 3) with | some kvs => _ | none => _ : Out W).bnd asB = _
    rw [hd]
    rfl
  have key : body_Index_remove E h = .exc 2 none E h := by
    unfold body_Index_remove
    rw [ap_Seq, ap_IfS, c1, ok_stm, if_pos rfl, ap_Raise]
    rfl
  show (match body_Index_remove E h with | .nx _ h' => Out.ok W.non h' | .rt w h' => .ok w h' | .exc c p _ h' => .exc c p h' | _ => .bad) = _
  rw [key]
theorem tF_no (k : Nat) : (tF k).lookup ("within" : Str) = none := by
  unfold tF
  simp only [List.lookup, beq_eq_false_iff_ne.2 (show ("within" : Str) ≠ "next" by decide +kernel), beq_eq_false_iff_ne.2 (show ("within" : Str) ≠ "often" by decide +kernel), beq_eq_false_iff_ne.2 (show ("within" : Str) ≠ "below" by decide +kernel)]
theorem l4_x (h1 : 1 ≤ m) : lm4 (E8 s0 q m nh ni x5 x6 x7) h = .exc 5 none (h ++ [.ins 103 (tF h.length), .dic []]) := by
  unfold lm4
  rw [mt_ev (ar := 3) (n := h.length) (c := 103) (fs := tF h.length) (h1 := h ++ [.ins 103 (tF h.length), .dic []]) (h2 := h ++ [.ins 103 (tF h.length), .dic []]) (ws := [.str [97], .int (4 + (m : Nat))]) make_tree ins_last (tF_no _) rfl rfl]
  generalize h ++ [.ins 103 (tF h.length), .dic []] = H
  let E : Den.Env := [some (.ref h.length), some (.str [97]), some (.int (4 + (m : Nat))), none, none, none]
  have c1 : mB (mOp oGt (mVar 2) (mC (.int 4))) E H = .ok true H := by
    rw [ap_B, ap_Op]
    show (Out.ok (W.bl (decide ((4 : Int) < 4 + (m : Nat)))) H).bnd asB = _
    rw [decide_eq_true (by omega)]
    rfl
  have key : body_Tree_within E H = .exc 5 none E H := by
    unfold body_Tree_within
    rw [ap_Seq, ap_IfS, c1, ok_stm, if_pos rfl, ap_Raise]
    rfl
  show (match body_Tree_within E H with | .nx _ h' => Out.ok W.non h' | .rt w h' => .ok w h' | .exc c p _ h' => .exc c p h' | _ => .bad) = _
  rw [key]
theorem hF_no (k : Nat) : (hF k).lookup ("take" : Str) = none := by
  unfold hF
  simp only [List.lookup, beq_eq_false_iff_ne.2 (show ("take" : Str) ≠ "index" by decide +kernel), beq_eq_false_iff_ne.2 (show ("take" : Str) ≠ "asks" by decide +kernel), beq_eq_false_iff_ne.2 (show ("take" : Str) ≠ "deeds" by decide +kernel), beq_eq_false_iff_ne.2 (show ("take" : Str) ≠ "undone" by decide +kernel)]
theorem hF_index (k : Nat) : (hF k).lookup ("index" : Str) = some (.ref (k + 1)) := rfl
theorem l5_x (o : Obs h nh ni) : ∃ h', Gr h h' ∧ lm5 (E8 s0 q m nh ni x5 x6 x7) h = .exc 6 none h' := by
  refine ⟨h ++ [.lst []], Gr.app, ?_⟩
  unfold lm5
  rw [mt_ev (ar := 2) (n := nh) (c := 102) (fs := hF nh) (h1 := h) (h2 := h) (ws := [.int (m : Nat)]) rfl o.hall (hF_no nh) rfl rfl]
  let E : Den.Env := [some (.ref nh), some (.int (m : Nat)), none]
  have f1 : mFld [102] "index" (mVar 0) E h = .ok (.ref (nh + 1)) h := fld_ev (n := nh) (c := 102) (fs := hF nh) rfl o.hall (by simp) (hF_index nh)
  have n1 : mMt 101 "numbers" 1 den_Index_numbers (mFld [102] "index" (mVar 0)) mNil E h = .ok (.tup []) (h ++ [.lst []]) := by
    rw [mt_ev (ar := 1) (n := nh + 1) (c := 101) (fs := iF (nh + 1)) (h1 := h) (h2 := h) (ws := []) f1 o.hidx (iF_no _ (by decide +kernel)) rfl rfl]
    let F : Den.Env := [some (.ref (nh + 1))]
    have g1 : mFld [101] "where" (mVar 0) F h = .ok (.ref (nh + 1 + 3)) h := fld_ev (n := nh + 1) (c := 101) (fs := iF (nh + 1)) rfl o.hidx (by simp) (iF_where _)
    have g2 : mSortedD (mFld [101] "where" (mVar 0)) F h = .ok (.ref h.length) (h ++ [.lst []]) := by
      have e0 : sortBy ((([] : List (W × W))).map (·.1)) [] = [] := by first | rfl | simp [sortBy] | kernel_rfl
      have g2 := sortedD_ev (ds := []) g1 o.hwh rfl rfl (by decide)
      rw [e0] at g2
      exact g2
    have g3 : mCB oTuple (mCons (mSortedD (mFld [101] "where" (mVar 0))) (mNil)) F h = .ok (.tup []) (h ++ [.lst []]) := by
      rw [ap_CB, ap_Cons, g2, ok_bnd, ap_Nil, ok_bnd, ok_bnd]
      have l : lstAt (h ++ [.lst []]) h.length = some [] := lst_last
      unfold oTuple
      dsimp only
      have : sqL (.ref h.length) (h ++ [.lst []]) = some [] := l
      rw [this]
    have key : body_Index_numbers F h = .rt (.tup []) (h ++ [.lst []]) := by
      unfold body_Index_numbers mRet
      rw [g3]
      rfl
    show (match body_Index_numbers F h with | .nx _ h' => Out.ok W.non h' | .rt w h' => .ok w h' | .exc c p _ h' => .exc c p h' | _ => .bad) = _
    rw [key]
  have c1 : mB (mOp oNotIn (mVar 1) (mMt 101 "numbers" 1 den_Index_numbers (mFld [102] "index" (mVar 0)) mNil)) E h = .ok true (h ++ [.lst []]) := by
    rw [ap_B, ap_Op]
    show ((mMt 101 "numbers" 1 den_Index_numbers (mFld [102] "index" (mVar 0)) mNil E h).bnd _).bnd asB = _
    rw [n1, ok_bnd]
    rfl
  have key : body_Hall_take E h = .exc 6 none E (h ++ [.lst []]) := by
    unfold body_Hall_take
    rw [ap_Seq, ap_IfS, c1, ok_stm, if_pos rfl, ap_Raise]
    rfl
  show (match body_Hall_take E h with | .nx _ h' => Out.ok W.non h' | .rt w h' => .ok w h' | .exc c p _ h' => .exc c p h' | _ => .bad) = _
  rw [key]
end
end Law_indexhall_k30_refusals_apart
set_option maxRecDepth 100000
set_option maxHeartbeats 2000000
namespace Law_indexhall_k30_refusals_apart
open PySem L2 Den
def FL : Nat → Option (List Bool × List Bool) := flOf flT_law_told
def want (i : Nat) : List Bool := [decide (0 = i), decide (1 = i), decide (2 = i), decide (3 = i), decide (4 = i), decide (5 = i), true]
section
variable {h : List O} {s0 x5 x7 x6 : Option W} {q nh ni : Nat} {m : Nat}
theorem flags_ok {c : Nat} {b : List Bool × List Bool} {p : Option W} {mm : M W} {e : Den.Env} {h h' : List O} (em : mm e h = .exc c p h') (hb : FL c = some b) (g : Gr h h') : ∃ r h2, mFlags FL mm e h = .ok (.ref r) h2 ∧ Gr h h2 ∧ lstAt h2 r = some ((b.1 ++ b.2).map .bl) := by
  refine ⟨h'.length + 2, ((h' ++ [O.lst (b.1.map .bl)]) ++ [O.lst (b.2.map .bl)]) ++ [O.lst (b.1.map .bl ++ b.2.map .bl)], ?_, ?_, ?_⟩
  · unfold mFlags
    rw [em]
    dsimp only
    rw [hb]
  · exact g.trans (Gr.app.trans (Gr.app.trans Gr.app))
  · have : h'.length + 2 = ((h' ++ [O.lst (b.1.map .bl)]) ++ [O.lst (b.2.map .bl)]).length := by simp
    rw [this, List.map_append]
    exact lst_last
theorem sel_at {i : Nat} {mm : M W} (e : lms[i]? = some mm) : mSel 6 FL lms (E8 s0 q m nh ni x5 (some (.int (i : Nat))) x7) h = mFlags FL mm (E8 s0 q m nh ni x5 (some (.int (i : Nat))) x7) h := by
  show (if 0 ≤ ((i : Nat) : Int) then match lms[((i : Nat) : Int).toNat]? with | some m => mFlags FL m _ h | none => .bad else .bad) = _
  rw [if_pos (by omega), Int.toNat_natCast, e]
theorem sel_ok (o : Obs h nh ni) (h1 : 1 ≤ m) (hm : m ≤ 900) {i : Nat} (hi : i < 6) : ∃ r h2, mSel 6 FL lms (E8 s0 q m nh ni x5 (some (.int (i : Nat))) x7) h = .ok (.ref r) h2 ∧ Gr h h2 ∧ lstAt h2 r = some ((want i).map .bl) := by
  match i, hi with
  | 0, _ => rw [sel_at (mm := lm0) rfl]; exact flags_ok (b := ([true, false, false, false], [false, false, true])) l0_x rfl Gr.refl
  | 1, _ => rw [sel_at (mm := lm1) rfl]; exact flags_ok (b := ([false, true, false, false], [false, false, true])) (l1_x h1 hm) rfl Gr.refl
  | 2, _ =>
    obtain ⟨p, e⟩ := l2_x (h := h) (s0 := s0) (x5 := x5) (x7 := x7) (x6 := some (.int (2 : Nat))) (q := q) (nh := nh) (ni := ni) hm
    rw [sel_at (mm := lm2) rfl]
    exact flags_ok (b := ([false, false, true, false], [false, false, true])) e rfl Gr.refl
  | 3, _ => rw [sel_at (mm := lm3) rfl]; exact flags_ok (b := ([false, false, false, true], [false, false, true])) (l3_x o) rfl Gr.refl
  | 4, _ => rw [sel_at (mm := lm4) rfl]; exact flags_ok (b := ([false, false, false, false], [true, false, true])) (l4_x h1) rfl Gr.app
  | 5, _ =>
    obtain ⟨h', g, e⟩ := l5_x (m := m) (s0 := s0) (x5 := x5) (x7 := x7) (x6 := some (.int (5 : Nat))) (q := q) o
    rw [sel_at (mm := lm5) rfl]
    exact flags_ok (b := ([false, false, false, false], [false, true, true])) e rfl g
theorem want_picks (i : Nat) : picks 6 (fun _ => true) (fun j => W.bl (decide (j = i))) ++ [W.bl true] = (want i).map .bl := rfl
theorem lmE_ok {i : Nat} : ∃ r h2, lmE (E8 s0 q m nh ni x5 (some (.int (i : Nat))) x7) h = .ok (.ref r) h2 ∧ Gr h h2 ∧ lstAt h2 r = some ((want i).map .bl) := by
  have ev : Ev (mComp 100000 [7] (mRng1 (mCons (mC (.int 6)) (mNil))) (tgN 7) (mYes) (mOp oEq (mVar 7) (mVar 6)) (E8 s0 q m nh ni x5 (some (.int (i : Nat))) x7) h) fun w h' => w = .ref h.length ∧ Gr h h' ∧ lstAt h' h.length = some (picks 6 (fun _ => true) (fun j => W.bl (decide (j = i)))) := by
    rw [ap_Comp]
    have er : mRng1 (mCons (mC (.int 6)) (mNil)) (E8 s0 q m nh ni x5 (some (.int (i : Nat))) x7) h = .ok (srcN 0 6) h := rfl
    rw [er, ok_bnd]
    refine comp_rng 6 0 7 (by omega) (by omega) (fun _ => true) (fun j => W.bl (decide (j = i))) (fun j hj h' G => ⟨rfl, Gr.refl⟩) (fun j hj _ h' G => ⟨?_, Gr.refl⟩) (fun h' G => ⟨rfl, Gr.app.trans G, G.lastL⟩)
    show W.bl ((0 + (j : Int)) == ((i : Nat) : Int)) = _
    rw [beq_dec]
    congr 1
    exact decide_eq_decide.2 (by omega)
  obtain ⟨w, h1, e1, rfl, g1, l1⟩ := ev_get ev
  have e2 : ∀ E, mLst (mCons (mC (.bl true)) (mNil)) E h1 = .ok (.ref h1.length) (h1 ++ [.lst [.bl true]]) := fun E => rfl
  refine ⟨(h1 ++ [O.lst [.bl true]]).length, (h1 ++ [O.lst [.bl true]]) ++ [O.lst ((want i).map .bl)], ?_, g1.trans (Gr.app.trans Gr.app), lst_last⟩
  unfold lmE
  rw [ap_Op, e1, ok_bnd, e2, ok_bnd]
  unfold oAdd
  dsimp only
  rw [Gr.lst Gr.app l1, lst_last]
  dsimp only
  rw [if_pos (by show 6 + 1 ≤ (1000000 : Nat); decide), want_picks]
theorem dat_bls {k : Nat} : ∀ l : List Bool, mapO (dat h (k + 1)) (l.map W.bl) = some (l.map PyData.bool)
  | [] => rfl
  | b :: l => by
    rw [List.map_cons]
    unfold mapO
    rw [dat_bls l]
    rfl
theorem ne_lsame {h : List O} {n m : Nat} {xs : List W} {ds : List PyData} (hn : lstAt h n = some xs) (hm : lstAt h m = some xs) (hx : mapO (dat h 7) xs = some ds) : oNe (.ref n) (.ref m) h = .ok (.bl false) h := by
  have hd : dat h 8 (.ref n) = some (.list ds) := by unfold dat; rw [hn]; show (mapO (dat h 7) xs).map PyData.list = _; rw [hx]; rfl
  have h1 := PySem.SeqAt.eqv_refl _ (dat_lay 8 _ _ hd).1
  unfold oNe
  rw [eqW_ll hn hm hx hx]
  have : PyData.eqv (.list ds) (.list ds) = PyData.eqvAll ds ds := by unfold PyData.eqv; rfl
  rw [this] at h1
  rw [h1]
  rfl
/-- one turn -/
theorem turn (o : Obs h nh ni) (h1 : 1 ≤ m) (hm : m ≤ 900) {i : Nat} (hi : i < 6) : ∃ h2, Gr h h2 ∧ lamB 6 FL lms lmE (E8 s0 q m nh ni x5 (some (.int (i : Nat))) x7) h = .nx (E8 s0 q m nh ni x5 (some (.int (i : Nat))) x7) h2 := by
  obtain ⟨r, h2, e2, g2, l2⟩ := sel_ok (s0 := s0) (x5 := x5) (x7 := x7) (q := q) o h1 hm hi
  obtain ⟨r3, h3, e3, g3, l3⟩ := lmE_ok (h := h2) (s0 := s0) (x5 := x5) (x7 := x7) (q := q) (m := m) (nh := nh) (ni := ni) (i := i)
  refine ⟨h3, g2.trans g3, ?_⟩
  have ne := ne_lsame (g3.lst l2) l3 (dat_bls (k := 6) _)
  unfold lamB
  rw [ap_IfS, ap_B, ap_Op, e2, ok_bnd, e3, ok_bnd, ne]
  rfl
theorem lams_Sv (o : Obs h nh ni) (h1 : 1 ≤ m) (hm : m ≤ 900) : Sv (mLams 5 6 FL lms lmE (E8 s0 q m nh ni x5 x6 x7) h) fun out => ∃ y h', Gr h h' ∧ out = .nx (E8 s0 q m nh ni none y x7) h' := by
  unfold mLams
  rw [if_pos (by show 5 < 8; decide)]
  show Sv (forGo (srcN 0 6) (tgN 6) (lamB 6 FL lms lmE) 100000 0 (E8 s0 q m nh ni none x6 x7) h) _
  refine forGo_rng 6 0 6 (fun i e hh => (∃ y, e = E8 s0 q m nh ni none y x7) ∧ Gr h hh) (by decide) ⟨⟨_, rfl⟩, Gr.refl⟩ ?_ ?_
  · rintro i e hh hi ⟨⟨y, rfl⟩, g⟩
    obtain ⟨h2, g2, e2⟩ := turn (s0 := s0) (x5 := none) (x7 := x7) (q := q) (o.gr g) h1 hm hi
    have hs : (E8 s0 q m nh ni none y x7).set 6 (some (.int (0 + (i : Int)))) = E8 s0 q m nh ni none (some (.int (i : Nat))) x7 := by
      rw [Int.zero_add]; rfl
    rw [hs]
    show rnd _ _ (lamB 6 FL lms lmE _ hh)
    rw [e2, rnd_nx]
    exact ⟨⟨_, rfl⟩, g.trans g2⟩
  · rintro e hh ⟨⟨y, rfl⟩, g⟩
    exact ⟨_, hh, g, rfl⟩
end
end Law_indexhall_k30_refusals_apart
set_option maxRecDepth 100000
set_option maxHeartbeats 2000000
namespace Law_indexhall_k30_refusals_apart
open PySem L2 Den
theorem rounds_eq {ws : List W} {h : List O} : den_law_rounds ws h = mFun 4 bodyRounds ws h := rfl
theorem roll_eq {ws : List W} {h : List O} : den_law_roll ws h = mFun 3 bodyRoll ws h := rfl
def rollM (k : Int) : M W := mCB (fun ws h => if ws.length = 2 then den_law_roll ws h else .bad) (mCons (mVar 1) (mCons (mC (.int k)) (mNil)))
def makS : Sm := mTs [2, 3, 4] (mCons (mOp oAdd (mC (.int 1)) (rollM 900)) (mCons (mMake 102 2 den_Hall_init (mCons (mC (.int 1)) (mNil))) (mCons (mMake 101 2 den_Index_init (mCons (mC (.int 1)) (mNil))) (mNil))))
def roundB : Sm := mSeq makS (mSeq (mLams 5 6 FL lms lmE) mSkip)
theorem law_is : body_law = mSeq (mFor 100000 (mIter (mCB (fun ws h => if ws.length = 2 then den_law_rounds ws h else .bad) (mCons (mVar 0) (mCons (mC (.int 3)) (mNil))))) (tgN 1) roundB) (mRet (mC (.bl true))) := rfl
section
variable {N : Nat} {h : List O} {ps : List Nat} {q : Nat}
theorem rollM_ev {e : Den.Env} {q : Nat} {k : Int} (D : DH N h ps) (hq : q ∈ ps) (e1 : mVar 1 e h = .ok (.ref q) h) (k0 : 0 < k) (k1 : k < 1000) (hN : N < 900000) : ∃ r h', rollM k e h = .ok (.int r) h' ∧ 0 ≤ r ∧ r < k ∧ DH (N + 1) h' ps ∧ Fr ps h h' := by
  obtain ⟨w, h1, e2, r, rfl, r0, r1, D1, F1⟩ := ev_get (roll_Ev D hq k0 (by omega) (by omega))
  rw [← roll_eq] at e2
  refine ⟨r, h1, ?_, r0, r1, D1, F1⟩
  unfold rollM
  rw [ap_CB, ap_Cons, e1, ok_bnd, ap_Cons, ap_C, ok_bnd, ap_Nil, ok_bnd, ok_bnd, ok_bnd]
  exact e2
theorem at_app {h r : List O} {k : Nat} {o : O} (e : r[k]? = some o) : (h ++ r)[h.length + k]? = some o := by
  rw [List.getElem?_append_right (by omega), Nat.add_sub_cancel_left]
  exact e
theorem ins_of {h : List O} {n c : Nat} {fs : List (Str × W)} (e : h[n]? = some (.ins c fs)) : insAt h n = some (c, fs) := by unfold insAt; rw [e]
theorem dic_of {h : List O} {n : Nat} {xs : List (W × W)} (e : h[n]? = some (.dic xs)) : dicAt h n = some xs := by unfold dicAt; rw [e]
theorem obs_new (h : List O) : Obs ((h ++ hO h.length) ++ iO (h ++ hO h.length).length) h.length (h ++ hO h.length).length := by
  have g : Gr (h ++ hO h.length) ((h ++ hO h.length) ++ iO (h ++ hO h.length).length) := Gr.app
  exact ⟨ins_gr g (ins_of (at_app (k := 0) rfl)), ins_gr g (ins_of (at_app (k := 1) rfl)), dic_gr g (dic_of (at_app (k := 4) rfl)), ins_of (at_app (k := 0) rfl), dic_of (at_app (k := 3) rfl)⟩
theorem round_Sv {a0 a2 a3 a4 a5 a6 a7 : Option W} (D : DH N h ps) (hq : q ∈ ps) (hN : N < 400000) :
    Sv (roundB [a0, some (.ref q), a2, a3, a4, a5, a6, a7] h) fun o => ∃ b2 b3 b4 b5 b6 b7 h', o = .nx [a0, some (.ref q), b2, b3, b4, b5, b6, b7] h' ∧ Fr ps h h' ∧ DH (N + 1) h' ps := by
  obtain ⟨k, h1, e1, k0, k1, D1, F1⟩ := rollM_ev (e := [a0, some (.ref q), a2, a3, a4, a5, a6, a7]) (k := 900) D hq rfl (by omega) (by omega) (by omega)
  obtain ⟨m, rfl⟩ : ∃ m : Nat, k = m := ⟨k.toNat, by omega⟩
  have em : mOp oAdd (mC (.int 1)) (rollM 900) [a0, some (.ref q), a2, a3, a4, a5, a6, a7] h = .ok (.int ((m + 1 : Nat))) h1 := by
    rw [ap_Op, ap_C, ok_bnd, e1, ok_bnd, add_ii]
    congr 2
    omega
  have e2 := make_hall (h := h1) (e := [a0, some (.ref q), a2, a3, a4, a5, a6, a7]) (mm := mCons (mC (.int 1)) (mNil)) rfl
  have e3 := make_index (h := h1 ++ hO h1.length) (e := [a0, some (.ref q), a2, a3, a4, a5, a6, a7]) (mm := mCons (mC (.int 1)) (mNil)) rfl
  have ts : makS [a0, some (.ref q), a2, a3, a4, a5, a6, a7] h = .nx (E8 a0 q (m + 1) h1.length (h1 ++ hO h1.length).length a5 a6 a7) ((h1 ++ hO h1.length) ++ iO (h1 ++ hO h1.length).length) := by
    unfold makS
    rw [ap_Ts, ap_Cons, em, ok_bnd, ap_Cons, e2, ok_bnd, ap_Cons, e3, ok_bnd, ap_Nil, ok_bnd, ok_bnd, ok_bnd, ok_stm]
    rfl
  unfold roundB
  rw [ap_Seq, ts, nx_seq, ap_Seq]
  refine sv_cut (lams_Sv (obs_new h1) (by omega) (by omega)) ?_
  rintro o ⟨y, h2, g2, rfl⟩
  have g : Gr h1 h2 := (Gr.app.trans Gr.app).trans g2
  exact ⟨_, _, _, _, _, _, h2, rfl, F1.trans (Fr.of g), D1.gr g⟩
theorem main2 (ns : List Int) (hl : ns.length ≤ 63) (hb : ∀ z ∈ ns, Builtin.Int.intBits z ≤ 1048576) : ∃ h', den_law [scriptW ns] [] = .ok (.bl true) h' := by
  suffices hS : Ev (den_law [scriptW ns] []) fun w _ => w = .bl true by
    obtain ⟨w, h', e, rfl⟩ := ev_get hS
    exact ⟨h', e⟩
  refine fun_ev ?_
  rw [law_is]
  simp only [startE, List.map_cons, List.map_nil, List.length_cons, List.length_nil, List.cons_append, List.nil_append, Nat.zero_add, Nat.reduceAdd, Nat.reduceSub, List.replicate_succ, List.replicate_zero]
  obtain ⟨w0, h0, e0, p, ps, rfl, hp, hne, hpl, hpp, D0⟩ := ev_get (rounds_Ev (most := 3) (by omega) hl (fun z hz => bits_AB (hb z hz)))
  rw [← rounds_eq] at e0
  simp (disch := first | omega | (simp only [List.length_append, List.length_cons, List.length_nil, List.length_set, List.length_drop, List.length_take, List.length_map]; omega)) only [e0, hpp, mVar_z, Nat.reduceAdd, Nat.zero_add, Int.zero_add, Int.reduceAdd, Int.reduceSub, Int.reduceNeg, ap_Lst, ap_Tup, nil_app, cons_app, List.length_append, lst_last, mVar_s, ok_bnd, ok_stm, exc_bnd, ev_okE, exc_stm, ap_C, ap_Op, ap_Un, ap_B, ap_Chain, ap_asB, ap_And, ap_Or, ap_Not, ap_AndV, ap_OrV, ap_NotV, ap_If, ap_Nil, ap_Cons, ap_CB, ap_Meth, ap_Part, ap_NoPart, ap_Sl, ap_Yes, add_ii, add_ss, sub_ii, neg_i, mul_ii, fdiv_ii, mod_ii, eq_ii, ne_ii, eq_ss, ne_ss, lt_ii, le_ii, gt_ii, ge_ii, lt_ss, gt_ss, le_ss, ge_ss, len_s, len_t, abs_i, int_i, int_b, max_ii, min_ii, ix_s, ixL_0, ixL_1, ixL_2, ixL_3, ixL_n, ixL_i, ixL_st, setL_n, setL_i, List.length_map, List.length_set, ix_r, getL_r, ix_tL, withL_s, setL_0, setL_1, setL_2, set_r, app_r, lst_z, lst_s, iadd_ii, tuple_r, mul_ri, sl_s, sl_rol, sl_t, sl_r, cut_from, cut_to, ap_Seq, nx_seq, rt_seq, ct_seq, bk_seq, exc_seq, ap_Raise, ap_Skip, ap_Brk, ap_Cnt, ap_Drop, ap_Ret, ap_IfS, ap_Set, ap_Ts, ap_AsgT, tgT_t, tgTs_n, tgTs_c, ap_Aug, ap_SetI, ap_AugI, mFor_ap, ap_Rng1, ap_Rng2, rng1_ok, rng2_ok, ap_Iter, src_t, src_s, src_rL, ap_Comp, wipe_n, wipe_c, len_cons, len_nil, zip_cc, zip_nn, foldl_c, foldl_n, set_z, set_s, ite_t, ite_f, ite_T, ite_F, sing_lt, sing_eq, ty_r, ty_s, isS, cut_mid, decide_eq_true_eq, if_pos, if_neg]
  refine sv_cut (R' := fun o => ∃ e h, o = SOut.nx e h) ?_ ?_
  · refine forGo_ref p (ps.map .ref) 1 (fun i e h => (∃ a1 a2 a3 a4 a5 a6 a7, e = [some (scriptW ns), a1, a2, a3, a4, a5, a6, a7]) ∧ Fr ps h0 h ∧ DH (i * 10) h ps) (by simp; omega) ⟨⟨_, _, _, _, _, _, _, rfl⟩, Fr.refl, by simpa using D0⟩ (fun i e h ⟨_, F, _⟩ => F.lst hp hpp) ?_ (fun e h _ => ⟨e, h, rfl⟩)
    rintro i e h hi ⟨⟨a1, a2, a3, a4, a5, a6, a7, rfl⟩, F, D⟩
    have hil : i < ps.length := by simpa using hi
    have hq : ps[i] ∈ ps := List.getElem_mem hil
    rw [List.getElem_map]
    simp only [set_z, set_s]
    refine sv_imp (round_Sv D hq (by omega)) ?_
    rintro o ⟨b2, b3, b4, b5, b6, b7, h8, rfl, F8, D8⟩
    exact ⟨⟨_, _, _, _, _, _, _, rfl⟩, F.trans F8, D8.mono (by omega)⟩
  · rintro o ⟨e, h, rfl⟩
    simp (disch := first | omega | (simp only [List.length_append, List.length_cons, List.length_nil, List.length_set, List.length_drop, List.length_take, List.length_map]; omega)) only [sv_nx, sv_rt, sv_ct, rnd_nx, rnd_ct, Int.toNat_natCast, ne_eq, eq_self, not_true_eq_false, not_false_eq_true, mVar_z, Nat.reduceAdd, Nat.zero_add, Int.zero_add, Int.reduceAdd, Int.reduceSub, Int.reduceNeg, ap_Lst, ap_Tup, nil_app, cons_app, List.length_append, lst_last, mVar_s, ok_bnd, ok_stm, exc_bnd, ev_okE, exc_stm, ap_C, ap_Op, ap_Un, ap_B, ap_Chain, ap_asB, ap_And, ap_Or, ap_Not, ap_AndV, ap_OrV, ap_NotV, ap_If, ap_Nil, ap_Cons, ap_CB, ap_Meth, ap_Part, ap_NoPart, ap_Sl, ap_Yes, add_ii, add_ss, sub_ii, neg_i, mul_ii, fdiv_ii, mod_ii, eq_ii, ne_ii, eq_ss, ne_ss, lt_ii, le_ii, gt_ii, ge_ii, lt_ss, gt_ss, le_ss, ge_ss, len_s, len_t, abs_i, int_i, int_b, max_ii, min_ii, ix_s, ixL_0, ixL_1, ixL_2, ixL_3, ixL_n, ixL_i, ixL_st, setL_n, setL_i, List.length_map, List.length_set, ix_r, getL_r, ix_tL, withL_s, setL_0, setL_1, setL_2, set_r, app_r, lst_z, lst_s, iadd_ii, tuple_r, mul_ri, sl_s, sl_rol, sl_t, sl_r, cut_from, cut_to, ap_Seq, nx_seq, rt_seq, ct_seq, bk_seq, exc_seq, ap_Raise, ap_Skip, ap_Brk, ap_Cnt, ap_Drop, ap_Ret, ap_IfS, ap_Set, ap_Ts, ap_AsgT, tgT_t, tgTs_n, tgTs_c, ap_Aug, ap_SetI, ap_AugI, mFor_ap, ap_Rng1, ap_Rng2, rng1_ok, rng2_ok, ap_Iter, src_t, src_s, src_rL, ap_Comp, wipe_n, wipe_c, len_cons, len_nil, zip_cc, zip_nn, foldl_c, foldl_n, set_z, set_s, ite_t, ite_f, ite_T, ite_F, sing_lt, sing_eq, ty_r, ty_s, isS, cut_mid, decide_eq_true_eq, if_pos, if_neg]
end
end Law_indexhall_k30_refusals_apart
namespace Law_indexhall_k30_refusals_apart
open PySem L2 Den PyProof.Rows
set_option maxHeartbeats 8000000
theorem main : ∀ ns : List Int, ns.length ≤ 63 → (∀ z ∈ ns, Builtin.Int.intBits z ≤ 1048576) → ∃ h', den_law [scriptW ns] [] = .ok (.bl true) h' := fun ns hl hb => main2 ns hl hb
def gx (C_BadText C_NoSuch C_BadCode C_BadAsk C_TooLarge C_BadDeed C_Index C_Hall C_Tree P_decoded P_is_plain P_named P_cut P_law : Addr) : Gx := { T := [(P_decoded, ("decoded" ++ ".<locals>.<genexpr>" : Str)), (P_is_plain, ("is_plain" ++ ".<locals>.<genexpr>" : Str)), (P_named, ("named" ++ ".<locals>.<genexpr>" : Str)), (P_cut, ("cut" ++ ".<locals>.<genexpr>" : Str)), (P_law, ("law" ++ ".<locals>.<lambda>" : Str))], ca := fun c => if c = 1 then some C_BadText else if c = 2 then some C_NoSuch else if c = 3 then some C_BadCode else if c = 4 then some C_BadAsk else if c = 5 then some C_TooLarge else if c = 6 then some C_BadDeed else none, ci := fun c => if c = 101 then some C_Index else if c = 102 then some C_Hall else if c = 103 then some C_Tree else none }
theorem fin {l : PySem.W.OpenLaw} {w : World} {K : PySem.W.Frag} {h : Heap} {mg : Str → Option Value} {C_BadText C_NoSuch C_BadCode C_BadAsk C_TooLarge C_BadDeed C_Index C_Hall C_Tree C_IndexFault fI_BadCode cc_BadCode cI_BadCode cN_BadCode fI_BadAsk cc_BadAsk cI_BadAsk cN_BadAsk a_is_text a_check_text a_both a_either a_less a_decoded a_is_plain a_named a_cut a_single a_every a_some a_read a_answered a_by_phrase a_stands a_by_near a_plain a_walk a_law_dice a_law_roll a_law_rounds a_Index_remove a_Tree_init a_Tree_within a_Index_numbers a_Hall_state a_Hall_note a_Hall_take a_Index_init a_Hall_init a_Index_text a_Index_holds a_Index_places a_Index_all_words a_Hall_every_text a_Hall_find a_Tree_node a_law_told fa a_law c_decoded c_is_plain c_named c_cut c_law P_decoded P_is_plain P_named P_cut P_law : Addr}
    {od_is_text an_is_text od_check_text an_check_text od_both an_both od_either an_either od_less an_less od_decoded an_decoded od_is_plain an_is_plain od_named an_named od_cut an_cut od_single an_single od_every an_every od_some an_some od_read an_read od_answered an_answered od_by_phrase an_by_phrase od_stands an_stands od_by_near an_by_near od_plain an_plain od_walk an_walk od_law_dice an_law_dice od_law_roll an_law_roll od_law_rounds an_law_rounds od_Index_remove an_Index_remove od_Tree_init an_Tree_init od_Tree_within an_Tree_within od_Index_numbers an_Index_numbers od_Hall_state an_Hall_state od_Hall_note an_Hall_note od_Hall_take an_Hall_take od_Index_init an_Index_init od_Hall_init an_Hall_init od_Index_text an_Index_text od_Index_holds an_Index_holds od_Index_places an_Index_places od_Index_all_words an_Index_all_words od_Hall_every_text an_Hall_every_text od_Hall_find an_Hall_find od_Tree_node an_Tree_node od_law_told an_law_told od_law an_law : Option Addr} {sl_is_text sl_check_text sl_both sl_either sl_less sl_decoded sl_is_plain sl_named sl_cut sl_single sl_every sl_some sl_read sl_answered sl_by_phrase sl_stands sl_by_near sl_plain sl_walk sl_law_dice sl_law_roll sl_law_rounds sl_Index_remove sl_Tree_init sl_Tree_within sl_Index_numbers sl_Hall_state sl_Hall_note sl_Hall_take sl_Index_init sl_Hall_init sl_Index_text sl_Index_holds sl_Index_places sl_Index_all_words sl_Hall_every_text sl_Hall_find sl_Tree_node sl_law_told sl_law : Array (Option Value)} {oc_is_text kV_is_text dc_is_text pm_is_text ct_is_text cd_is_text oc_check_text kV_check_text dc_check_text pm_check_text ct_check_text cd_check_text oc_both kV_both dc_both pm_both ct_both cd_both oc_either kV_either dc_either pm_either ct_either cd_either oc_less kV_less dc_less pm_less ct_less cd_less oc_decoded kV_decoded dc_decoded pm_decoded ct_decoded oc_is_plain kV_is_plain dc_is_plain pm_is_plain ct_is_plain oc_named kV_named dc_named pm_named ct_named oc_cut kV_cut dc_cut pm_cut ct_cut oc_single kV_single dc_single pm_single ct_single cd_single oc_every kV_every dc_every pm_every ct_every cd_every oc_some kV_some dc_some pm_some ct_some cd_some oc_read kV_read dc_read pm_read ct_read cd_read oc_answered kV_answered dc_answered pm_answered ct_answered cd_answered oc_by_phrase kV_by_phrase dc_by_phrase pm_by_phrase ct_by_phrase cd_by_phrase oc_stands kV_stands dc_stands pm_stands ct_stands cd_stands oc_by_near kV_by_near dc_by_near pm_by_near ct_by_near cd_by_near oc_plain kV_plain dc_plain pm_plain ct_plain cd_plain oc_walk kV_walk dc_walk pm_walk ct_walk cd_walk oc_law_dice kV_law_dice dc_law_dice pm_law_dice ct_law_dice cd_law_dice oc_law_roll kV_law_roll dc_law_roll pm_law_roll ct_law_roll cd_law_roll oc_law_rounds kV_law_rounds dc_law_rounds pm_law_rounds ct_law_rounds cd_law_rounds oc_Index_remove kV_Index_remove dc_Index_remove pm_Index_remove ct_Index_remove cd_Index_remove oc_Tree_init kV_Tree_init dc_Tree_init pm_Tree_init ct_Tree_init cd_Tree_init oc_Tree_within kV_Tree_within dc_Tree_within pm_Tree_within ct_Tree_within cd_Tree_within oc_Index_numbers kV_Index_numbers dc_Index_numbers pm_Index_numbers ct_Index_numbers cd_Index_numbers oc_Hall_state kV_Hall_state dc_Hall_state pm_Hall_state ct_Hall_state cd_Hall_state oc_Hall_note kV_Hall_note dc_Hall_note pm_Hall_note ct_Hall_note cd_Hall_note oc_Hall_take kV_Hall_take dc_Hall_take pm_Hall_take ct_Hall_take cd_Hall_take oc_Index_init kV_Index_init dc_Index_init pm_Index_init ct_Index_init cd_Index_init oc_Hall_init kV_Hall_init dc_Hall_init pm_Hall_init ct_Hall_init cd_Hall_init oc_Index_text kV_Index_text dc_Index_text pm_Index_text ct_Index_text cd_Index_text oc_Index_holds kV_Index_holds dc_Index_holds pm_Index_holds ct_Index_holds cd_Index_holds oc_Index_places kV_Index_places dc_Index_places pm_Index_places ct_Index_places cd_Index_places oc_Index_all_words kV_Index_all_words dc_Index_all_words pm_Index_all_words ct_Index_all_words cd_Index_all_words oc_Hall_every_text kV_Hall_every_text dc_Hall_every_text pm_Hall_every_text ct_Hall_every_text cd_Hall_every_text oc_Hall_find kV_Hall_find dc_Hall_find pm_Hall_find ct_Hall_find cd_Hall_find oc_Tree_node kV_Tree_node dc_Tree_node pm_Tree_node ct_Tree_node cd_Tree_node oc_law_told kV_law_told dc_law_told pm_law_told ct_law_told cd_law_told oc_law kV_law dc_law pm_law ct_law : Value}
    {sk_FIGURES sk_SMALL : Str} {tk_FIGURES tk_LONG tk_SMALL : Tok}
    {nm_BadCode q_BadCode fil_BadCode : Str} {bs_BadCode bm_BadCode sub_BadCode : List Value} {sn_BadCode : List Str} {ab_BadCode : Bool} {col_BadCode : Option Bool} {dd_BadCode od_BadCode an_BadCode cdd_BadCode cld_BadCode : Option Addr} {k0_BadCode k1_BadCode k2_BadCode k3_BadCode k5_BadCode : Option Value} {oc_BadCode kV_BadCode dc_BadCode pm_BadCode ct_BadCode ccl_BadCode cl_BadCode : Value} {sl_BadCode ccs_BadCode csl_BadCode : Array (Option Value)} {vs_BadCode : Array Value} {tf_BadCode : Tok} {cdD_BadCode : ClassData}
    {nm_BadAsk q_BadAsk fil_BadAsk : Str} {bs_BadAsk bm_BadAsk sub_BadAsk : List Value} {sn_BadAsk : List Str} {ab_BadAsk : Bool} {col_BadAsk : Option Bool} {dd_BadAsk od_BadAsk an_BadAsk cdd_BadAsk cld_BadAsk : Option Addr} {k0_BadAsk k1_BadAsk k2_BadAsk k3_BadAsk k5_BadAsk : Option Value} {oc_BadAsk kV_BadAsk dc_BadAsk pm_BadAsk ct_BadAsk ccl_BadAsk cl_BadAsk : Value} {sl_BadAsk ccs_BadAsk csl_BadAsk : Array (Option Value)} {vs_BadAsk : Array Value} {tf_BadAsk : Tok} {cdD_BadAsk : ClassData}
    (main : ∀ ns : List Int, ns.length ≤ 63 → (∀ z ∈ ns, Builtin.Int.intBits z ≤ 1048576) → ∃ h', den_law [scriptW ns] [] = .ok (.bl true) h')
    (X : K.In h) (G : h.Ns mainGlobals mg) (hfa : mg "law" = some (.ref fa))
    (m_BadText : PySem.W.nsIn K mainGlobals "BadText" = some (some (.ref C_BadText)))
    (e_BadText : PySem.W.excIn K C_BadText [.type "ValueError", .type "Exception", .type "BaseException", .type "object"] "ValueError.__new__" = true)
    (k_BadText : PySem.W.keepIn K (.ref C_BadText) = true)
    (s_BadText : PySem.W.subIn K (.ref C_BadText) (.type "BaseException") = some true)
    (t_BadText : PySem.W.typeIn K (.ref C_BadText) = some (.type "type"))
    (m_NoSuch : PySem.W.nsIn K mainGlobals "NoSuch" = some (some (.ref C_NoSuch)))
    (e_NoSuch : PySem.W.excIn K C_NoSuch [.type "ValueError", .type "Exception", .type "BaseException", .type "object"] "ValueError.__new__" = true)
    (k_NoSuch : PySem.W.keepIn K (.ref C_NoSuch) = true)
    (s_NoSuch : PySem.W.subIn K (.ref C_NoSuch) (.type "BaseException") = some true)
    (t_NoSuch : PySem.W.typeIn K (.ref C_NoSuch) = some (.type "type"))
    (m_BadCode : PySem.W.nsIn K mainGlobals "BadCode" = some (some (.ref C_BadCode)))
    (k_BadCode : PySem.W.keepIn K (.ref C_BadCode) = true)
    (s_BadCode : PySem.W.subIn K (.ref C_BadCode) (.type "BaseException") = some true)
    (t_BadCode : PySem.W.typeIn K (.ref C_BadCode) = some (.type "type"))
    (m_BadAsk : PySem.W.nsIn K mainGlobals "BadAsk" = some (some (.ref C_BadAsk)))
    (k_BadAsk : PySem.W.keepIn K (.ref C_BadAsk) = true)
    (s_BadAsk : PySem.W.subIn K (.ref C_BadAsk) (.type "BaseException") = some true)
    (t_BadAsk : PySem.W.typeIn K (.ref C_BadAsk) = some (.type "type"))
    (m_TooLarge : PySem.W.nsIn K mainGlobals "TooLarge" = some (some (.ref C_TooLarge)))
    (e_TooLarge : PySem.W.excIn K C_TooLarge [.type "ValueError", .type "Exception", .type "BaseException", .type "object"] "ValueError.__new__" = true)
    (k_TooLarge : PySem.W.keepIn K (.ref C_TooLarge) = true)
    (s_TooLarge : PySem.W.subIn K (.ref C_TooLarge) (.type "BaseException") = some true)
    (t_TooLarge : PySem.W.typeIn K (.ref C_TooLarge) = some (.type "type"))
    (m_BadDeed : PySem.W.nsIn K mainGlobals "BadDeed" = some (some (.ref C_BadDeed)))
    (e_BadDeed : PySem.W.excIn K C_BadDeed [.type "ValueError", .type "Exception", .type "BaseException", .type "object"] "ValueError.__new__" = true)
    (k_BadDeed : PySem.W.keepIn K (.ref C_BadDeed) = true)
    (s_BadDeed : PySem.W.subIn K (.ref C_BadDeed) (.type "BaseException") = some true)
    (t_BadDeed : PySem.W.typeIn K (.ref C_BadDeed) = some (.type "type"))
    (i_BadText : PySem.W.isClsIn K C_BadText = true)
    (i_NoSuch : PySem.W.isClsIn K C_NoSuch = true)
    (i_BadCode : PySem.W.isClsIn K C_BadCode = true)
    (i_BadAsk : PySem.W.isClsIn K C_BadAsk = true)
    (i_TooLarge : PySem.W.isClsIn K C_TooLarge = true)
    (i_BadDeed : PySem.W.isClsIn K C_BadDeed = true)
    (x_BadText_BadText : PySem.W.subIn K (.ref C_BadText) (.ref C_BadText) = some true)
    (x_BadText_NoSuch : PySem.W.subIn K (.ref C_BadText) (.ref C_NoSuch) = some false)
    (x_BadText_BadCode : PySem.W.subIn K (.ref C_BadText) (.ref C_BadCode) = some false)
    (x_BadText_BadAsk : PySem.W.subIn K (.ref C_BadText) (.ref C_BadAsk) = some false)
    (x_BadText_TooLarge : PySem.W.subIn K (.ref C_BadText) (.ref C_TooLarge) = some false)
    (x_BadText_BadDeed : PySem.W.subIn K (.ref C_BadText) (.ref C_BadDeed) = some false)
    (x_NoSuch_BadText : PySem.W.subIn K (.ref C_NoSuch) (.ref C_BadText) = some false)
    (x_NoSuch_NoSuch : PySem.W.subIn K (.ref C_NoSuch) (.ref C_NoSuch) = some true)
    (x_NoSuch_BadCode : PySem.W.subIn K (.ref C_NoSuch) (.ref C_BadCode) = some false)
    (x_NoSuch_BadAsk : PySem.W.subIn K (.ref C_NoSuch) (.ref C_BadAsk) = some false)
    (x_NoSuch_TooLarge : PySem.W.subIn K (.ref C_NoSuch) (.ref C_TooLarge) = some false)
    (x_NoSuch_BadDeed : PySem.W.subIn K (.ref C_NoSuch) (.ref C_BadDeed) = some false)
    (x_BadCode_BadText : PySem.W.subIn K (.ref C_BadCode) (.ref C_BadText) = some false)
    (x_BadCode_NoSuch : PySem.W.subIn K (.ref C_BadCode) (.ref C_NoSuch) = some false)
    (x_BadCode_BadCode : PySem.W.subIn K (.ref C_BadCode) (.ref C_BadCode) = some true)
    (x_BadCode_BadAsk : PySem.W.subIn K (.ref C_BadCode) (.ref C_BadAsk) = some false)
    (x_BadCode_TooLarge : PySem.W.subIn K (.ref C_BadCode) (.ref C_TooLarge) = some false)
    (x_BadCode_BadDeed : PySem.W.subIn K (.ref C_BadCode) (.ref C_BadDeed) = some false)
    (x_BadAsk_BadText : PySem.W.subIn K (.ref C_BadAsk) (.ref C_BadText) = some false)
    (x_BadAsk_NoSuch : PySem.W.subIn K (.ref C_BadAsk) (.ref C_NoSuch) = some false)
    (x_BadAsk_BadCode : PySem.W.subIn K (.ref C_BadAsk) (.ref C_BadCode) = some false)
    (x_BadAsk_BadAsk : PySem.W.subIn K (.ref C_BadAsk) (.ref C_BadAsk) = some true)
    (x_BadAsk_TooLarge : PySem.W.subIn K (.ref C_BadAsk) (.ref C_TooLarge) = some false)
    (x_BadAsk_BadDeed : PySem.W.subIn K (.ref C_BadAsk) (.ref C_BadDeed) = some false)
    (x_TooLarge_BadText : PySem.W.subIn K (.ref C_TooLarge) (.ref C_BadText) = some false)
    (x_TooLarge_NoSuch : PySem.W.subIn K (.ref C_TooLarge) (.ref C_NoSuch) = some false)
    (x_TooLarge_BadCode : PySem.W.subIn K (.ref C_TooLarge) (.ref C_BadCode) = some false)
    (x_TooLarge_BadAsk : PySem.W.subIn K (.ref C_TooLarge) (.ref C_BadAsk) = some false)
    (x_TooLarge_TooLarge : PySem.W.subIn K (.ref C_TooLarge) (.ref C_TooLarge) = some true)
    (x_TooLarge_BadDeed : PySem.W.subIn K (.ref C_TooLarge) (.ref C_BadDeed) = some false)
    (x_BadDeed_BadText : PySem.W.subIn K (.ref C_BadDeed) (.ref C_BadText) = some false)
    (x_BadDeed_NoSuch : PySem.W.subIn K (.ref C_BadDeed) (.ref C_NoSuch) = some false)
    (x_BadDeed_BadCode : PySem.W.subIn K (.ref C_BadDeed) (.ref C_BadCode) = some false)
    (x_BadDeed_BadAsk : PySem.W.subIn K (.ref C_BadDeed) (.ref C_BadAsk) = some false)
    (x_BadDeed_TooLarge : PySem.W.subIn K (.ref C_BadDeed) (.ref C_TooLarge) = some false)
    (x_BadDeed_BadDeed : PySem.W.subIn K (.ref C_BadDeed) (.ref C_BadDeed) = some true)
    (m_IndexFault : PySem.W.nsIn K mainGlobals "IndexFault" = some (some (.ref C_IndexFault)))
    (oC_BadCode : K.lookup C_BadCode = some (excClassObj nm_BadCode q_BadCode C_BadCode cN_BadCode bs_BadCode bm_BadCode true sn_BadCode sub_BadCode ab_BadCode col_BadCode dd_BadCode k0_BadCode k1_BadCode k2_BadCode k3_BadCode k5_BadCode "ValueError.__new__"))
    (rv_BadCode : PySem.HandSPX.refsVE bm_BadCode = true)
    (sa_BadCode : PySem.W.findIn K (.ref C_BadCode) "__setattr__" = some (some (.builtin "object.__setattr__")))
    (fi_BadCode : PySem.W.findIn K (.ref C_BadCode) "__init__" = some (some (.ref fI_BadCode)))
    (ft_BadCode : PySem.W.typeIn K (.ref fI_BadCode) = some (.type "function"))
    (li_BadCode : K.lookup fI_BadCode = some ⟨oc_BadCode, od_BadCode, .func (PySem.W.fnX "__init__" "BadCode.__init__" (defArgs si_BadCode) (defBody si_BadCode) (defScope si_BadCode) [("__class__", cc_BadCode)] .none kV_BadCode dc_BadCode pm_BadCode an_BadCode (.ref cI_BadCode) ct_BadCode), sl_BadCode⟩)
    (cd_BadCode : PySem.W.codeIn K (.ref cI_BadCode) "BadCode.__init__" = true)
    (lc_BadCode : K.lookup cI_BadCode = some ⟨ccl_BadCode, cdd_BadCode, .fields vs_BadCode, ccs_BadCode⟩)
    (v2_BadCode : vs_BadCode[2]? = some (.str fil_BadCode tf_BadCode))
    (fe_BadCode : ((l.prog.main.file : Str) == fil_BadCode) = true)
    (le_BadCode : K.lookup cc_BadCode = some ⟨cl_BadCode, cld_BadCode, .cell (some (.ref C_BadCode)), csl_BadCode⟩)
    (cK_BadCode : PySem.W.clsIn K C_BadCode = some cdD_BadCode)
    (mr_BadCode : PySem.W.mroIn K C_BadCode (.ref C_BadCode) = some true)
    (su_BadCode : PySem.W.ks_superIn K C_BadCode C_BadCode "__init__" = some (some (.builtin "ValueError.__init__")))
    (ve_BadCode : PySem.W.subIn K (.ref C_BadCode) (.type "ValueError") = some true)
    (no_BadCode : PySem.W.findIn K (.ref C_BadCode) "place" = some none)
    (oC_BadAsk : K.lookup C_BadAsk = some (excClassObj nm_BadAsk q_BadAsk C_BadAsk cN_BadAsk bs_BadAsk bm_BadAsk true sn_BadAsk sub_BadAsk ab_BadAsk col_BadAsk dd_BadAsk k0_BadAsk k1_BadAsk k2_BadAsk k3_BadAsk k5_BadAsk "ValueError.__new__"))
    (rv_BadAsk : PySem.HandSPX.refsVE bm_BadAsk = true)
    (sa_BadAsk : PySem.W.findIn K (.ref C_BadAsk) "__setattr__" = some (some (.builtin "object.__setattr__")))
    (fi_BadAsk : PySem.W.findIn K (.ref C_BadAsk) "__init__" = some (some (.ref fI_BadAsk)))
    (ft_BadAsk : PySem.W.typeIn K (.ref fI_BadAsk) = some (.type "function"))
    (li_BadAsk : K.lookup fI_BadAsk = some ⟨oc_BadAsk, od_BadAsk, .func (PySem.W.fnX "__init__" "BadAsk.__init__" (defArgs si_BadAsk) (defBody si_BadAsk) (defScope si_BadAsk) [("__class__", cc_BadAsk)] .none kV_BadAsk dc_BadAsk pm_BadAsk an_BadAsk (.ref cI_BadAsk) ct_BadAsk), sl_BadAsk⟩)
    (cd_BadAsk : PySem.W.codeIn K (.ref cI_BadAsk) "BadAsk.__init__" = true)
    (lc_BadAsk : K.lookup cI_BadAsk = some ⟨ccl_BadAsk, cdd_BadAsk, .fields vs_BadAsk, ccs_BadAsk⟩)
    (v2_BadAsk : vs_BadAsk[2]? = some (.str fil_BadAsk tf_BadAsk))
    (fe_BadAsk : ((l.prog.main.file : Str) == fil_BadAsk) = true)
    (le_BadAsk : K.lookup cc_BadAsk = some ⟨cl_BadAsk, cld_BadAsk, .cell (some (.ref C_BadAsk)), csl_BadAsk⟩)
    (cK_BadAsk : PySem.W.clsIn K C_BadAsk = some cdD_BadAsk)
    (mr_BadAsk : PySem.W.mroIn K C_BadAsk (.ref C_BadAsk) = some true)
    (su_BadAsk : PySem.W.ks_superIn K C_BadAsk C_BadAsk "__init__" = some (some (.builtin "ValueError.__init__")))
    (ve_BadAsk : PySem.W.subIn K (.ref C_BadAsk) (.type "ValueError") = some true)
    (no_BadAsk : PySem.W.findIn K (.ref C_BadAsk) "place" = some none)
    (pg_BadText : PySem.W.findIn K (.ref C_BadText) "__getattribute__" = some (some (.builtin "BaseException.__getattribute__")))
    (pk_BadText : PySem.W.findIn K (.ref C_BadText) "__getattr__" = some none)
    (pd_BadText : PySem.W.hasDictIn K C_BadText = true)
    (pa_BadText : PySem.W.findIn K (.ref C_BadText) "__class__" = some (some (.builtin "object.__class__")))
    (pn_BadText : PySem.W.specialIn K (.builtin "object.__class__") "__get__" = some (some (.builtin "getset_descriptor.__get__")))
    (pt_BadText : PySem.W.takesIn K (.builtin "object.__class__") = some true)
    (pm_BadText : PySem.W.mroIn K C_BadText (.type "object") = some true)
    (k3_BadText : PySem.W.exmOne K (.ref C_BadText) (.ref C_IndexFault) = some true)
    (k4_BadText_BadText : PySem.W.kitOne K (.ref C_BadText) (.ref C_BadText) = some true)
    (k4_BadText_BadCode : PySem.W.kitOne K (.ref C_BadText) (.ref C_BadCode) = some false)
    (k4_BadText_BadAsk : PySem.W.kitOne K (.ref C_BadText) (.ref C_BadAsk) = some false)
    (k4_BadText_NoSuch : PySem.W.kitOne K (.ref C_BadText) (.ref C_NoSuch) = some false)
    (k4_BadText_TooLarge : PySem.W.kitOne K (.ref C_BadText) (.ref C_TooLarge) = some false)
    (k4_BadText_BadDeed : PySem.W.kitOne K (.ref C_BadText) (.ref C_BadDeed) = some false)
    (k4_BadText_ValueError : PySem.W.kitOne K (.ref C_BadText) (.type "ValueError") = some true)
    (pg_BadCode : PySem.W.findIn K (.ref C_BadCode) "__getattribute__" = some (some (.builtin "BaseException.__getattribute__")))
    (pk_BadCode : PySem.W.findIn K (.ref C_BadCode) "__getattr__" = some none)
    (pd_BadCode : PySem.W.hasDictIn K C_BadCode = true)
    (pa_BadCode : PySem.W.findIn K (.ref C_BadCode) "__class__" = some (some (.builtin "object.__class__")))
    (pn_BadCode : PySem.W.specialIn K (.builtin "object.__class__") "__get__" = some (some (.builtin "getset_descriptor.__get__")))
    (pt_BadCode : PySem.W.takesIn K (.builtin "object.__class__") = some true)
    (pm_BadCode : PySem.W.mroIn K C_BadCode (.type "object") = some true)
    (k3_BadCode : PySem.W.exmOne K (.ref C_BadCode) (.ref C_IndexFault) = some true)
    (k4_BadCode_BadText : PySem.W.kitOne K (.ref C_BadCode) (.ref C_BadText) = some false)
    (k4_BadCode_BadCode : PySem.W.kitOne K (.ref C_BadCode) (.ref C_BadCode) = some true)
    (k4_BadCode_BadAsk : PySem.W.kitOne K (.ref C_BadCode) (.ref C_BadAsk) = some false)
    (k4_BadCode_NoSuch : PySem.W.kitOne K (.ref C_BadCode) (.ref C_NoSuch) = some false)
    (k4_BadCode_TooLarge : PySem.W.kitOne K (.ref C_BadCode) (.ref C_TooLarge) = some false)
    (k4_BadCode_BadDeed : PySem.W.kitOne K (.ref C_BadCode) (.ref C_BadDeed) = some false)
    (k4_BadCode_ValueError : PySem.W.kitOne K (.ref C_BadCode) (.type "ValueError") = some true)
    (pg_BadAsk : PySem.W.findIn K (.ref C_BadAsk) "__getattribute__" = some (some (.builtin "BaseException.__getattribute__")))
    (pk_BadAsk : PySem.W.findIn K (.ref C_BadAsk) "__getattr__" = some none)
    (pd_BadAsk : PySem.W.hasDictIn K C_BadAsk = true)
    (pa_BadAsk : PySem.W.findIn K (.ref C_BadAsk) "__class__" = some (some (.builtin "object.__class__")))
    (pn_BadAsk : PySem.W.specialIn K (.builtin "object.__class__") "__get__" = some (some (.builtin "getset_descriptor.__get__")))
    (pt_BadAsk : PySem.W.takesIn K (.builtin "object.__class__") = some true)
    (pm_BadAsk : PySem.W.mroIn K C_BadAsk (.type "object") = some true)
    (k3_BadAsk : PySem.W.exmOne K (.ref C_BadAsk) (.ref C_IndexFault) = some true)
    (k4_BadAsk_BadText : PySem.W.kitOne K (.ref C_BadAsk) (.ref C_BadText) = some false)
    (k4_BadAsk_BadCode : PySem.W.kitOne K (.ref C_BadAsk) (.ref C_BadCode) = some false)
    (k4_BadAsk_BadAsk : PySem.W.kitOne K (.ref C_BadAsk) (.ref C_BadAsk) = some true)
    (k4_BadAsk_NoSuch : PySem.W.kitOne K (.ref C_BadAsk) (.ref C_NoSuch) = some false)
    (k4_BadAsk_TooLarge : PySem.W.kitOne K (.ref C_BadAsk) (.ref C_TooLarge) = some false)
    (k4_BadAsk_BadDeed : PySem.W.kitOne K (.ref C_BadAsk) (.ref C_BadDeed) = some false)
    (k4_BadAsk_ValueError : PySem.W.kitOne K (.ref C_BadAsk) (.type "ValueError") = some true)
    (pg_NoSuch : PySem.W.findIn K (.ref C_NoSuch) "__getattribute__" = some (some (.builtin "BaseException.__getattribute__")))
    (pk_NoSuch : PySem.W.findIn K (.ref C_NoSuch) "__getattr__" = some none)
    (pd_NoSuch : PySem.W.hasDictIn K C_NoSuch = true)
    (pa_NoSuch : PySem.W.findIn K (.ref C_NoSuch) "__class__" = some (some (.builtin "object.__class__")))
    (pn_NoSuch : PySem.W.specialIn K (.builtin "object.__class__") "__get__" = some (some (.builtin "getset_descriptor.__get__")))
    (pt_NoSuch : PySem.W.takesIn K (.builtin "object.__class__") = some true)
    (pm_NoSuch : PySem.W.mroIn K C_NoSuch (.type "object") = some true)
    (k3_NoSuch : PySem.W.exmOne K (.ref C_NoSuch) (.ref C_IndexFault) = some true)
    (k4_NoSuch_BadText : PySem.W.kitOne K (.ref C_NoSuch) (.ref C_BadText) = some false)
    (k4_NoSuch_BadCode : PySem.W.kitOne K (.ref C_NoSuch) (.ref C_BadCode) = some false)
    (k4_NoSuch_BadAsk : PySem.W.kitOne K (.ref C_NoSuch) (.ref C_BadAsk) = some false)
    (k4_NoSuch_NoSuch : PySem.W.kitOne K (.ref C_NoSuch) (.ref C_NoSuch) = some true)
    (k4_NoSuch_TooLarge : PySem.W.kitOne K (.ref C_NoSuch) (.ref C_TooLarge) = some false)
    (k4_NoSuch_BadDeed : PySem.W.kitOne K (.ref C_NoSuch) (.ref C_BadDeed) = some false)
    (k4_NoSuch_ValueError : PySem.W.kitOne K (.ref C_NoSuch) (.type "ValueError") = some true)
    (pg_TooLarge : PySem.W.findIn K (.ref C_TooLarge) "__getattribute__" = some (some (.builtin "BaseException.__getattribute__")))
    (pk_TooLarge : PySem.W.findIn K (.ref C_TooLarge) "__getattr__" = some none)
    (pd_TooLarge : PySem.W.hasDictIn K C_TooLarge = true)
    (pa_TooLarge : PySem.W.findIn K (.ref C_TooLarge) "__class__" = some (some (.builtin "object.__class__")))
    (pn_TooLarge : PySem.W.specialIn K (.builtin "object.__class__") "__get__" = some (some (.builtin "getset_descriptor.__get__")))
    (pt_TooLarge : PySem.W.takesIn K (.builtin "object.__class__") = some true)
    (pm_TooLarge : PySem.W.mroIn K C_TooLarge (.type "object") = some true)
    (k3_TooLarge : PySem.W.exmOne K (.ref C_TooLarge) (.ref C_IndexFault) = some true)
    (k4_TooLarge_BadText : PySem.W.kitOne K (.ref C_TooLarge) (.ref C_BadText) = some false)
    (k4_TooLarge_BadCode : PySem.W.kitOne K (.ref C_TooLarge) (.ref C_BadCode) = some false)
    (k4_TooLarge_BadAsk : PySem.W.kitOne K (.ref C_TooLarge) (.ref C_BadAsk) = some false)
    (k4_TooLarge_NoSuch : PySem.W.kitOne K (.ref C_TooLarge) (.ref C_NoSuch) = some false)
    (k4_TooLarge_TooLarge : PySem.W.kitOne K (.ref C_TooLarge) (.ref C_TooLarge) = some true)
    (k4_TooLarge_BadDeed : PySem.W.kitOne K (.ref C_TooLarge) (.ref C_BadDeed) = some false)
    (k4_TooLarge_ValueError : PySem.W.kitOne K (.ref C_TooLarge) (.type "ValueError") = some true)
    (pg_BadDeed : PySem.W.findIn K (.ref C_BadDeed) "__getattribute__" = some (some (.builtin "BaseException.__getattribute__")))
    (pk_BadDeed : PySem.W.findIn K (.ref C_BadDeed) "__getattr__" = some none)
    (pd_BadDeed : PySem.W.hasDictIn K C_BadDeed = true)
    (pa_BadDeed : PySem.W.findIn K (.ref C_BadDeed) "__class__" = some (some (.builtin "object.__class__")))
    (pn_BadDeed : PySem.W.specialIn K (.builtin "object.__class__") "__get__" = some (some (.builtin "getset_descriptor.__get__")))
    (pt_BadDeed : PySem.W.takesIn K (.builtin "object.__class__") = some true)
    (pm_BadDeed : PySem.W.mroIn K C_BadDeed (.type "object") = some true)
    (k3_BadDeed : PySem.W.exmOne K (.ref C_BadDeed) (.ref C_IndexFault) = some true)
    (k4_BadDeed_BadText : PySem.W.kitOne K (.ref C_BadDeed) (.ref C_BadText) = some false)
    (k4_BadDeed_BadCode : PySem.W.kitOne K (.ref C_BadDeed) (.ref C_BadCode) = some false)
    (k4_BadDeed_BadAsk : PySem.W.kitOne K (.ref C_BadDeed) (.ref C_BadAsk) = some false)
    (k4_BadDeed_NoSuch : PySem.W.kitOne K (.ref C_BadDeed) (.ref C_NoSuch) = some false)
    (k4_BadDeed_TooLarge : PySem.W.kitOne K (.ref C_BadDeed) (.ref C_TooLarge) = some false)
    (k4_BadDeed_BadDeed : PySem.W.kitOne K (.ref C_BadDeed) (.ref C_BadDeed) = some true)
    (k4_BadDeed_ValueError : PySem.W.kitOne K (.ref C_BadDeed) (.type "ValueError") = some true)
    (oq_ : PySem.W.nsIn K cStatics "thirdparty.any" = some none)
    (tp_ : (l.prog.main.scope.names.lookup ("super" : Str)).isSome = false)
    (m_Index : PySem.W.nsIn K mainGlobals "Index" = some (some (.ref C_Index)))
    (pg_Index : PySem.W.plainGet K C_Index Str.empty = true)
    (hd_Index : PySem.W.hasDictIn K C_Index = true)
    (po_Index : PySem.W.plainOver K C_Index = true)
    (sa_Index : PySem.W.findIn K (.ref C_Index) "__setattr__" = some (some (.builtin "object.__setattr__")))
    (mk_Index : PySem.W.makesIn K C_Index = true)
    (kc_Index : PySem.W.keepIn K (.ref C_Index) = true)
    (nf_Index_gone : PySem.W.findIn K (.ref C_Index) "gone" = some none)
    (nf_Index_joins : PySem.W.findIn K (.ref C_Index) "joins" = some none)
    (nf_Index_most : PySem.W.findIn K (.ref C_Index) "most" = some none)
    (nf_Index_parts : PySem.W.findIn K (.ref C_Index) "parts" = some none)
    (nf_Index_where : PySem.W.findIn K (.ref C_Index) "where" = some none)
    (m_Hall : PySem.W.nsIn K mainGlobals "Hall" = some (some (.ref C_Hall)))
    (pg_Hall : PySem.W.plainGet K C_Hall Str.empty = true)
    (hd_Hall : PySem.W.hasDictIn K C_Hall = true)
    (po_Hall : PySem.W.plainOver K C_Hall = true)
    (sa_Hall : PySem.W.findIn K (.ref C_Hall) "__setattr__" = some (some (.builtin "object.__setattr__")))
    (mk_Hall : PySem.W.makesIn K C_Hall = true)
    (kc_Hall : PySem.W.keepIn K (.ref C_Hall) = true)
    (nf_Hall_asks : PySem.W.findIn K (.ref C_Hall) "asks" = some none)
    (nf_Hall_deeds : PySem.W.findIn K (.ref C_Hall) "deeds" = some none)
    (nf_Hall_index : PySem.W.findIn K (.ref C_Hall) "index" = some none)
    (nf_Hall_undone : PySem.W.findIn K (.ref C_Hall) "undone" = some none)
    (m_Tree : PySem.W.nsIn K mainGlobals "Tree" = some (some (.ref C_Tree)))
    (pg_Tree : PySem.W.plainGet K C_Tree Str.empty = true)
    (hd_Tree : PySem.W.hasDictIn K C_Tree = true)
    (po_Tree : PySem.W.plainOver K C_Tree = true)
    (sa_Tree : PySem.W.findIn K (.ref C_Tree) "__setattr__" = some (some (.builtin "object.__setattr__")))
    (mk_Tree : PySem.W.makesIn K C_Tree = true)
    (kc_Tree : PySem.W.keepIn K (.ref C_Tree) = true)
    (nf_Tree_below : PySem.W.findIn K (.ref C_Tree) "below" = some none)
    (nf_Tree_next : PySem.W.findIn K (.ref C_Tree) "next" = some none)
    (nf_Tree_often : PySem.W.findIn K (.ref C_Tree) "often" = some none)
    (n_is_text : PySem.W.nsIn K mainGlobals "is_text" = some (some (.ref a_is_text)))
    (l_is_text : K.lookup a_is_text = some ⟨oc_is_text, od_is_text, .func (PySem.W.fnOf "is_text" "is_text" (defArgs s_is_text) (defBody s_is_text) (defScope s_is_text) .none kV_is_text dc_is_text pm_is_text an_is_text cd_is_text ct_is_text), sl_is_text⟩)
    (cc_is_text : PySem.W.codeIn K cd_is_text "is_text" = true)
    (k_is_text : PySem.W.keepIn K (.ref a_is_text) = true)
    (n_check_text : PySem.W.nsIn K mainGlobals "check_text" = some (some (.ref a_check_text)))
    (l_check_text : K.lookup a_check_text = some ⟨oc_check_text, od_check_text, .func (PySem.W.fnOf "check_text" "check_text" (defArgs s_check_text) (defBody s_check_text) (defScope s_check_text) .none kV_check_text dc_check_text pm_check_text an_check_text cd_check_text ct_check_text), sl_check_text⟩)
    (cc_check_text : PySem.W.codeIn K cd_check_text "check_text" = true)
    (k_check_text : PySem.W.keepIn K (.ref a_check_text) = true)
    (n_both : PySem.W.nsIn K mainGlobals "both" = some (some (.ref a_both)))
    (l_both : K.lookup a_both = some ⟨oc_both, od_both, .func (PySem.W.fnOf "both" "both" (defArgs s_both) (defBody s_both) (defScope s_both) .none kV_both dc_both pm_both an_both cd_both ct_both), sl_both⟩)
    (cc_both : PySem.W.codeIn K cd_both "both" = true)
    (k_both : PySem.W.keepIn K (.ref a_both) = true)
    (n_either : PySem.W.nsIn K mainGlobals "either" = some (some (.ref a_either)))
    (l_either : K.lookup a_either = some ⟨oc_either, od_either, .func (PySem.W.fnOf "either" "either" (defArgs s_either) (defBody s_either) (defScope s_either) .none kV_either dc_either pm_either an_either cd_either ct_either), sl_either⟩)
    (cc_either : PySem.W.codeIn K cd_either "either" = true)
    (k_either : PySem.W.keepIn K (.ref a_either) = true)
    (n_less : PySem.W.nsIn K mainGlobals "less" = some (some (.ref a_less)))
    (l_less : K.lookup a_less = some ⟨oc_less, od_less, .func (PySem.W.fnOf "less" "less" (defArgs s_less) (defBody s_less) (defScope s_less) .none kV_less dc_less pm_less an_less cd_less ct_less), sl_less⟩)
    (cc_less : PySem.W.codeIn K cd_less "less" = true)
    (k_less : PySem.W.keepIn K (.ref a_less) = true)
    (n_decoded : PySem.W.nsIn K mainGlobals "decoded" = some (some (.ref a_decoded)))
    (l_decoded : K.lookup a_decoded = some ⟨oc_decoded, od_decoded, .func (PySem.W.fnOf "decoded" "decoded" (defArgs s_decoded) (defBody s_decoded) (defScope s_decoded) .none kV_decoded dc_decoded pm_decoded an_decoded (.ref c_decoded) ct_decoded), sl_decoded⟩)
    (cc_decoded : PySem.W.codeIn K (.ref c_decoded) "decoded" = true)
    (k_decoded : PySem.W.keepIn K (.ref a_decoded) = true)
    (n_is_plain : PySem.W.nsIn K mainGlobals "is_plain" = some (some (.ref a_is_plain)))
    (l_is_plain : K.lookup a_is_plain = some ⟨oc_is_plain, od_is_plain, .func (PySem.W.fnOf "is_plain" "is_plain" (defArgs s_is_plain) (defBody s_is_plain) (defScope s_is_plain) .none kV_is_plain dc_is_plain pm_is_plain an_is_plain (.ref c_is_plain) ct_is_plain), sl_is_plain⟩)
    (cc_is_plain : PySem.W.codeIn K (.ref c_is_plain) "is_plain" = true)
    (k_is_plain : PySem.W.keepIn K (.ref a_is_plain) = true)
    (n_named : PySem.W.nsIn K mainGlobals "named" = some (some (.ref a_named)))
    (l_named : K.lookup a_named = some ⟨oc_named, od_named, .func (PySem.W.fnOf "named" "named" (defArgs s_named) (defBody s_named) (defScope s_named) .none kV_named dc_named pm_named an_named (.ref c_named) ct_named), sl_named⟩)
    (cc_named : PySem.W.codeIn K (.ref c_named) "named" = true)
    (k_named : PySem.W.keepIn K (.ref a_named) = true)
    (n_cut : PySem.W.nsIn K mainGlobals "cut" = some (some (.ref a_cut)))
    (l_cut : K.lookup a_cut = some ⟨oc_cut, od_cut, .func (PySem.W.fnOf "cut" "cut" (defArgs s_cut) (defBody s_cut) (defScope s_cut) .none kV_cut dc_cut pm_cut an_cut (.ref c_cut) ct_cut), sl_cut⟩)
    (cc_cut : PySem.W.codeIn K (.ref c_cut) "cut" = true)
    (k_cut : PySem.W.keepIn K (.ref a_cut) = true)
    (n_single : PySem.W.nsIn K mainGlobals "single" = some (some (.ref a_single)))
    (l_single : K.lookup a_single = some ⟨oc_single, od_single, .func (PySem.W.fnOf "single" "single" (defArgs s_single) (defBody s_single) (defScope s_single) .none kV_single dc_single pm_single an_single cd_single ct_single), sl_single⟩)
    (cc_single : PySem.W.codeIn K cd_single "single" = true)
    (k_single : PySem.W.keepIn K (.ref a_single) = true)
    (n_every : PySem.W.nsIn K mainGlobals "every" = some (some (.ref a_every)))
    (l_every : K.lookup a_every = some ⟨oc_every, od_every, .func (PySem.W.fnOf "every" "every" (defArgs s_every) (defBody s_every) (defScope s_every) .none kV_every dc_every pm_every an_every cd_every ct_every), sl_every⟩)
    (cc_every : PySem.W.codeIn K cd_every "every" = true)
    (k_every : PySem.W.keepIn K (.ref a_every) = true)
    (n_some : PySem.W.nsIn K mainGlobals "some" = some (some (.ref a_some)))
    (l_some : K.lookup a_some = some ⟨oc_some, od_some, .func (PySem.W.fnOf "some" "some" (defArgs s_some) (defBody s_some) (defScope s_some) .none kV_some dc_some pm_some an_some cd_some ct_some), sl_some⟩)
    (cc_some : PySem.W.codeIn K cd_some "some" = true)
    (k_some : PySem.W.keepIn K (.ref a_some) = true)
    (n_read : PySem.W.nsIn K mainGlobals "read" = some (some (.ref a_read)))
    (l_read : K.lookup a_read = some ⟨oc_read, od_read, .func (PySem.W.fnOf "read" "read" (defArgs s_read) (defBody s_read) (defScope s_read) .none kV_read dc_read pm_read an_read cd_read ct_read), sl_read⟩)
    (cc_read : PySem.W.codeIn K cd_read "read" = true)
    (k_read : PySem.W.keepIn K (.ref a_read) = true)
    (n_answered : PySem.W.nsIn K mainGlobals "answered" = some (some (.ref a_answered)))
    (l_answered : K.lookup a_answered = some ⟨oc_answered, od_answered, .func (PySem.W.fnOf "answered" "answered" (defArgs s_answered) (defBody s_answered) (defScope s_answered) .none kV_answered dc_answered pm_answered an_answered cd_answered ct_answered), sl_answered⟩)
    (cc_answered : PySem.W.codeIn K cd_answered "answered" = true)
    (k_answered : PySem.W.keepIn K (.ref a_answered) = true)
    (n_by_phrase : PySem.W.nsIn K mainGlobals "by_phrase" = some (some (.ref a_by_phrase)))
    (l_by_phrase : K.lookup a_by_phrase = some ⟨oc_by_phrase, od_by_phrase, .func (PySem.W.fnOf "by_phrase" "by_phrase" (defArgs s_by_phrase) (defBody s_by_phrase) (defScope s_by_phrase) .none kV_by_phrase dc_by_phrase pm_by_phrase an_by_phrase cd_by_phrase ct_by_phrase), sl_by_phrase⟩)
    (cc_by_phrase : PySem.W.codeIn K cd_by_phrase "by_phrase" = true)
    (k_by_phrase : PySem.W.keepIn K (.ref a_by_phrase) = true)
    (n_stands : PySem.W.nsIn K mainGlobals "stands" = some (some (.ref a_stands)))
    (l_stands : K.lookup a_stands = some ⟨oc_stands, od_stands, .func (PySem.W.fnOf "stands" "stands" (defArgs s_stands) (defBody s_stands) (defScope s_stands) .none kV_stands dc_stands pm_stands an_stands cd_stands ct_stands), sl_stands⟩)
    (cc_stands : PySem.W.codeIn K cd_stands "stands" = true)
    (k_stands : PySem.W.keepIn K (.ref a_stands) = true)
    (n_by_near : PySem.W.nsIn K mainGlobals "by_near" = some (some (.ref a_by_near)))
    (l_by_near : K.lookup a_by_near = some ⟨oc_by_near, od_by_near, .func (PySem.W.fnOf "by_near" "by_near" (defArgs s_by_near) (defBody s_by_near) (defScope s_by_near) .none kV_by_near dc_by_near pm_by_near an_by_near cd_by_near ct_by_near), sl_by_near⟩)
    (cc_by_near : PySem.W.codeIn K cd_by_near "by_near" = true)
    (k_by_near : PySem.W.keepIn K (.ref a_by_near) = true)
    (n_plain : PySem.W.nsIn K mainGlobals "plain" = some (some (.ref a_plain)))
    (l_plain : K.lookup a_plain = some ⟨oc_plain, od_plain, .func (PySem.W.fnOf "plain" "plain" (defArgs s_plain) (defBody s_plain) (defScope s_plain) .none kV_plain dc_plain pm_plain an_plain cd_plain ct_plain), sl_plain⟩)
    (cc_plain : PySem.W.codeIn K cd_plain "plain" = true)
    (k_plain : PySem.W.keepIn K (.ref a_plain) = true)
    (n_walk : PySem.W.nsIn K mainGlobals "walk" = some (some (.ref a_walk)))
    (l_walk : K.lookup a_walk = some ⟨oc_walk, od_walk, .func (PySem.W.fnOf "walk" "walk" (defArgs s_walk) (defBody s_walk) (defScope s_walk) .none kV_walk dc_walk pm_walk an_walk cd_walk ct_walk), sl_walk⟩)
    (cc_walk : PySem.W.codeIn K cd_walk "walk" = true)
    (k_walk : PySem.W.keepIn K (.ref a_walk) = true)
    (n_law_dice : PySem.W.nsIn K mainGlobals "_law_dice" = some (some (.ref a_law_dice)))
    (l_law_dice : K.lookup a_law_dice = some ⟨oc_law_dice, od_law_dice, .func (PySem.W.fnOf "_law_dice" "_law_dice" (defArgs s_law_dice) (defBody s_law_dice) (defScope s_law_dice) .none kV_law_dice dc_law_dice pm_law_dice an_law_dice cd_law_dice ct_law_dice), sl_law_dice⟩)
    (cc_law_dice : PySem.W.codeIn K cd_law_dice "_law_dice" = true)
    (k_law_dice : PySem.W.keepIn K (.ref a_law_dice) = true)
    (n_law_roll : PySem.W.nsIn K mainGlobals "_law_roll" = some (some (.ref a_law_roll)))
    (l_law_roll : K.lookup a_law_roll = some ⟨oc_law_roll, od_law_roll, .func (PySem.W.fnOf "_law_roll" "_law_roll" (defArgs s_law_roll) (defBody s_law_roll) (defScope s_law_roll) .none kV_law_roll dc_law_roll pm_law_roll an_law_roll cd_law_roll ct_law_roll), sl_law_roll⟩)
    (cc_law_roll : PySem.W.codeIn K cd_law_roll "_law_roll" = true)
    (k_law_roll : PySem.W.keepIn K (.ref a_law_roll) = true)
    (n_law_rounds : PySem.W.nsIn K mainGlobals "_law_rounds" = some (some (.ref a_law_rounds)))
    (l_law_rounds : K.lookup a_law_rounds = some ⟨oc_law_rounds, od_law_rounds, .func (PySem.W.fnOf "_law_rounds" "_law_rounds" (defArgs s_law_rounds) (defBody s_law_rounds) (defScope s_law_rounds) .none kV_law_rounds dc_law_rounds pm_law_rounds an_law_rounds cd_law_rounds ct_law_rounds), sl_law_rounds⟩)
    (cc_law_rounds : PySem.W.codeIn K cd_law_rounds "_law_rounds" = true)
    (k_law_rounds : PySem.W.keepIn K (.ref a_law_rounds) = true)
    (fi_Index_remove : PySem.W.findIn K (.ref C_Index) "remove" = some (some (.ref a_Index_remove)))
    (fn_Index_remove : PySem.W.isFn K (.ref a_Index_remove) = true)
    (l_Index_remove : K.lookup a_Index_remove = some ⟨oc_Index_remove, od_Index_remove, .func (PySem.W.fnOf "remove" "Index.remove" (defArgs s_Index_remove) (defBody s_Index_remove) (defScope s_Index_remove) .none kV_Index_remove dc_Index_remove pm_Index_remove an_Index_remove cd_Index_remove ct_Index_remove), sl_Index_remove⟩)
    (cc_Index_remove : PySem.W.codeIn K cd_Index_remove "Index.remove" = true)
    (k_Index_remove : PySem.W.keepIn K (.ref a_Index_remove) = true)
    (fi_Tree_init : PySem.W.findIn K (.ref C_Tree) "__init__" = some (some (.ref a_Tree_init)))
    (fn_Tree_init : PySem.W.isFn K (.ref a_Tree_init) = true)
    (l_Tree_init : K.lookup a_Tree_init = some ⟨oc_Tree_init, od_Tree_init, .func (PySem.W.fnOf "__init__" "Tree.__init__" (defArgs s_Tree_init) (defBody s_Tree_init) (defScope s_Tree_init) .none kV_Tree_init dc_Tree_init pm_Tree_init an_Tree_init cd_Tree_init ct_Tree_init), sl_Tree_init⟩)
    (cc_Tree_init : PySem.W.codeIn K cd_Tree_init "Tree.__init__" = true)
    (k_Tree_init : PySem.W.keepIn K (.ref a_Tree_init) = true)
    (fi_Tree_within : PySem.W.findIn K (.ref C_Tree) "within" = some (some (.ref a_Tree_within)))
    (fn_Tree_within : PySem.W.isFn K (.ref a_Tree_within) = true)
    (l_Tree_within : K.lookup a_Tree_within = some ⟨oc_Tree_within, od_Tree_within, .func (PySem.W.fnOf "within" "Tree.within" (defArgs s_Tree_within) (defBody s_Tree_within) (defScope s_Tree_within) .none kV_Tree_within dc_Tree_within pm_Tree_within an_Tree_within cd_Tree_within ct_Tree_within), sl_Tree_within⟩)
    (cc_Tree_within : PySem.W.codeIn K cd_Tree_within "Tree.within" = true)
    (k_Tree_within : PySem.W.keepIn K (.ref a_Tree_within) = true)
    (fi_Index_numbers : PySem.W.findIn K (.ref C_Index) "numbers" = some (some (.ref a_Index_numbers)))
    (fn_Index_numbers : PySem.W.isFn K (.ref a_Index_numbers) = true)
    (l_Index_numbers : K.lookup a_Index_numbers = some ⟨oc_Index_numbers, od_Index_numbers, .func (PySem.W.fnOf "numbers" "Index.numbers" (defArgs s_Index_numbers) (defBody s_Index_numbers) (defScope s_Index_numbers) .none kV_Index_numbers dc_Index_numbers pm_Index_numbers an_Index_numbers cd_Index_numbers ct_Index_numbers), sl_Index_numbers⟩)
    (cc_Index_numbers : PySem.W.codeIn K cd_Index_numbers "Index.numbers" = true)
    (k_Index_numbers : PySem.W.keepIn K (.ref a_Index_numbers) = true)
    (fi_Hall_state : PySem.W.findIn K (.ref C_Hall) "state" = some (some (.ref a_Hall_state)))
    (fn_Hall_state : PySem.W.isFn K (.ref a_Hall_state) = true)
    (l_Hall_state : K.lookup a_Hall_state = some ⟨oc_Hall_state, od_Hall_state, .func (PySem.W.fnOf "state" "Hall.state" (defArgs s_Hall_state) (defBody s_Hall_state) (defScope s_Hall_state) .none kV_Hall_state dc_Hall_state pm_Hall_state an_Hall_state cd_Hall_state ct_Hall_state), sl_Hall_state⟩)
    (cc_Hall_state : PySem.W.codeIn K cd_Hall_state "Hall.state" = true)
    (k_Hall_state : PySem.W.keepIn K (.ref a_Hall_state) = true)
    (fi_Hall_note : PySem.W.findIn K (.ref C_Hall) "note" = some (some (.ref a_Hall_note)))
    (fn_Hall_note : PySem.W.isFn K (.ref a_Hall_note) = true)
    (l_Hall_note : K.lookup a_Hall_note = some ⟨oc_Hall_note, od_Hall_note, .func (PySem.W.fnOf "note" "Hall.note" (defArgs s_Hall_note) (defBody s_Hall_note) (defScope s_Hall_note) .none kV_Hall_note dc_Hall_note pm_Hall_note an_Hall_note cd_Hall_note ct_Hall_note), sl_Hall_note⟩)
    (cc_Hall_note : PySem.W.codeIn K cd_Hall_note "Hall.note" = true)
    (k_Hall_note : PySem.W.keepIn K (.ref a_Hall_note) = true)
    (fi_Hall_take : PySem.W.findIn K (.ref C_Hall) "take" = some (some (.ref a_Hall_take)))
    (fn_Hall_take : PySem.W.isFn K (.ref a_Hall_take) = true)
    (l_Hall_take : K.lookup a_Hall_take = some ⟨oc_Hall_take, od_Hall_take, .func (PySem.W.fnOf "take" "Hall.take" (defArgs s_Hall_take) (defBody s_Hall_take) (defScope s_Hall_take) .none kV_Hall_take dc_Hall_take pm_Hall_take an_Hall_take cd_Hall_take ct_Hall_take), sl_Hall_take⟩)
    (cc_Hall_take : PySem.W.codeIn K cd_Hall_take "Hall.take" = true)
    (k_Hall_take : PySem.W.keepIn K (.ref a_Hall_take) = true)
    (fi_Index_init : PySem.W.findIn K (.ref C_Index) "__init__" = some (some (.ref a_Index_init)))
    (fn_Index_init : PySem.W.isFn K (.ref a_Index_init) = true)
    (l_Index_init : K.lookup a_Index_init = some ⟨oc_Index_init, od_Index_init, .func (PySem.W.fnOf "__init__" "Index.__init__" (defArgs s_Index_init) (defBody s_Index_init) (defScope s_Index_init) .none kV_Index_init dc_Index_init pm_Index_init an_Index_init cd_Index_init ct_Index_init), sl_Index_init⟩)
    (cc_Index_init : PySem.W.codeIn K cd_Index_init "Index.__init__" = true)
    (k_Index_init : PySem.W.keepIn K (.ref a_Index_init) = true)
    (fi_Hall_init : PySem.W.findIn K (.ref C_Hall) "__init__" = some (some (.ref a_Hall_init)))
    (fn_Hall_init : PySem.W.isFn K (.ref a_Hall_init) = true)
    (l_Hall_init : K.lookup a_Hall_init = some ⟨oc_Hall_init, od_Hall_init, .func (PySem.W.fnOf "__init__" "Hall.__init__" (defArgs s_Hall_init) (defBody s_Hall_init) (defScope s_Hall_init) .none kV_Hall_init dc_Hall_init pm_Hall_init an_Hall_init cd_Hall_init ct_Hall_init), sl_Hall_init⟩)
    (cc_Hall_init : PySem.W.codeIn K cd_Hall_init "Hall.__init__" = true)
    (k_Hall_init : PySem.W.keepIn K (.ref a_Hall_init) = true)
    (fi_Index_text : PySem.W.findIn K (.ref C_Index) "text" = some (some (.ref a_Index_text)))
    (fn_Index_text : PySem.W.isFn K (.ref a_Index_text) = true)
    (l_Index_text : K.lookup a_Index_text = some ⟨oc_Index_text, od_Index_text, .func (PySem.W.fnOf "text" "Index.text" (defArgs s_Index_text) (defBody s_Index_text) (defScope s_Index_text) .none kV_Index_text dc_Index_text pm_Index_text an_Index_text cd_Index_text ct_Index_text), sl_Index_text⟩)
    (cc_Index_text : PySem.W.codeIn K cd_Index_text "Index.text" = true)
    (k_Index_text : PySem.W.keepIn K (.ref a_Index_text) = true)
    (fi_Index_holds : PySem.W.findIn K (.ref C_Index) "holds" = some (some (.ref a_Index_holds)))
    (fn_Index_holds : PySem.W.isFn K (.ref a_Index_holds) = true)
    (l_Index_holds : K.lookup a_Index_holds = some ⟨oc_Index_holds, od_Index_holds, .func (PySem.W.fnOf "holds" "Index.holds" (defArgs s_Index_holds) (defBody s_Index_holds) (defScope s_Index_holds) .none kV_Index_holds dc_Index_holds pm_Index_holds an_Index_holds cd_Index_holds ct_Index_holds), sl_Index_holds⟩)
    (cc_Index_holds : PySem.W.codeIn K cd_Index_holds "Index.holds" = true)
    (k_Index_holds : PySem.W.keepIn K (.ref a_Index_holds) = true)
    (fi_Index_places : PySem.W.findIn K (.ref C_Index) "places" = some (some (.ref a_Index_places)))
    (fn_Index_places : PySem.W.isFn K (.ref a_Index_places) = true)
    (l_Index_places : K.lookup a_Index_places = some ⟨oc_Index_places, od_Index_places, .func (PySem.W.fnOf "places" "Index.places" (defArgs s_Index_places) (defBody s_Index_places) (defScope s_Index_places) .none kV_Index_places dc_Index_places pm_Index_places an_Index_places cd_Index_places ct_Index_places), sl_Index_places⟩)
    (cc_Index_places : PySem.W.codeIn K cd_Index_places "Index.places" = true)
    (k_Index_places : PySem.W.keepIn K (.ref a_Index_places) = true)
    (fi_Index_all_words : PySem.W.findIn K (.ref C_Index) "all_words" = some (some (.ref a_Index_all_words)))
    (fn_Index_all_words : PySem.W.isFn K (.ref a_Index_all_words) = true)
    (l_Index_all_words : K.lookup a_Index_all_words = some ⟨oc_Index_all_words, od_Index_all_words, .func (PySem.W.fnOf "all_words" "Index.all_words" (defArgs s_Index_all_words) (defBody s_Index_all_words) (defScope s_Index_all_words) .none kV_Index_all_words dc_Index_all_words pm_Index_all_words an_Index_all_words cd_Index_all_words ct_Index_all_words), sl_Index_all_words⟩)
    (cc_Index_all_words : PySem.W.codeIn K cd_Index_all_words "Index.all_words" = true)
    (k_Index_all_words : PySem.W.keepIn K (.ref a_Index_all_words) = true)
    (fi_Hall_every_text : PySem.W.findIn K (.ref C_Hall) "every_text" = some (some (.ref a_Hall_every_text)))
    (fn_Hall_every_text : PySem.W.isFn K (.ref a_Hall_every_text) = true)
    (l_Hall_every_text : K.lookup a_Hall_every_text = some ⟨oc_Hall_every_text, od_Hall_every_text, .func (PySem.W.fnOf "every_text" "Hall.every_text" (defArgs s_Hall_every_text) (defBody s_Hall_every_text) (defScope s_Hall_every_text) .none kV_Hall_every_text dc_Hall_every_text pm_Hall_every_text an_Hall_every_text cd_Hall_every_text ct_Hall_every_text), sl_Hall_every_text⟩)
    (cc_Hall_every_text : PySem.W.codeIn K cd_Hall_every_text "Hall.every_text" = true)
    (k_Hall_every_text : PySem.W.keepIn K (.ref a_Hall_every_text) = true)
    (fi_Hall_find : PySem.W.findIn K (.ref C_Hall) "find" = some (some (.ref a_Hall_find)))
    (fn_Hall_find : PySem.W.isFn K (.ref a_Hall_find) = true)
    (l_Hall_find : K.lookup a_Hall_find = some ⟨oc_Hall_find, od_Hall_find, .func (PySem.W.fnOf "find" "Hall.find" (defArgs s_Hall_find) (defBody s_Hall_find) (defScope s_Hall_find) .none kV_Hall_find dc_Hall_find pm_Hall_find an_Hall_find cd_Hall_find ct_Hall_find), sl_Hall_find⟩)
    (cc_Hall_find : PySem.W.codeIn K cd_Hall_find "Hall.find" = true)
    (k_Hall_find : PySem.W.keepIn K (.ref a_Hall_find) = true)
    (fi_Tree_node : PySem.W.findIn K (.ref C_Tree) "node" = some (some (.ref a_Tree_node)))
    (fn_Tree_node : PySem.W.isFn K (.ref a_Tree_node) = true)
    (l_Tree_node : K.lookup a_Tree_node = some ⟨oc_Tree_node, od_Tree_node, .func (PySem.W.fnOf "node" "Tree.node" (defArgs s_Tree_node) (defBody s_Tree_node) (defScope s_Tree_node) .none kV_Tree_node dc_Tree_node pm_Tree_node an_Tree_node cd_Tree_node ct_Tree_node), sl_Tree_node⟩)
    (cc_Tree_node : PySem.W.codeIn K cd_Tree_node "Tree.node" = true)
    (k_Tree_node : PySem.W.keepIn K (.ref a_Tree_node) = true)
    (n_law_told : PySem.W.nsIn K mainGlobals "_law_told" = some (some (.ref a_law_told)))
    (l_law_told : K.lookup a_law_told = some ⟨oc_law_told, od_law_told, .func (PySem.W.fnOf "_law_told" "_law_told" (defArgs s_law_told) (defBody s_law_told) (defScope s_law_told) .none kV_law_told dc_law_told pm_law_told an_law_told cd_law_told ct_law_told), sl_law_told⟩)
    (cc_law_told : PySem.W.codeIn K cd_law_told "_law_told" = true)
    (k_law_told : PySem.W.keepIn K (.ref a_law_told) = true)
    (n_law : PySem.W.nsIn K mainGlobals "law" = some (some (.ref a_law)))
    (l_law : K.lookup a_law = some ⟨oc_law, od_law, .func (PySem.W.fnOf "law" "law" (defArgs s_law) (defBody s_law) (defScope s_law) .none kV_law dc_law pm_law an_law (.ref c_law) ct_law), sl_law⟩)
    (cc_law : PySem.W.codeIn K (.ref c_law) "law" = true)
    (mc_FIGURES : PySem.W.nsIn K mainGlobals "FIGURES" = some (some (.str sk_FIGURES tk_FIGURES)))
    (mv_FIGURES : sk_FIGURES = mkS [48, 49, 50, 51, 52, 53, 54, 55, 56, 57])
    (mc_LONG : PySem.W.nsIn K mainGlobals "LONG" = some (some (.int 2000 tk_LONG)))
    (mc_SMALL : PySem.W.nsIn K mainGlobals "SMALL" = some (some (.str sk_SMALL tk_SMALL)))
    (mv_SMALL : sk_SMALL = mkS [97, 98, 99, 100, 101, 102, 103, 104, 105, 106, 107, 108, 109, 110, 111, 112, 113, 114, 115, 116, 117, 118, 119, 120, 121, 122])
    (b_ValueError : PySem.W.nsIn K mainGlobals "ValueError" = some none)
    (b_abs : PySem.W.nsIn K mainGlobals "abs" = some none)
    (b_all : PySem.W.nsIn K mainGlobals "all" = some none)
    (b_any : PySem.W.nsIn K mainGlobals "any" = some none)
    (b_int : PySem.W.nsIn K mainGlobals "int" = some none)
    (b_isinstance : PySem.W.nsIn K mainGlobals "isinstance" = some none)
    (b_len : PySem.W.nsIn K mainGlobals "len" = some none)
    (b_list : PySem.W.nsIn K mainGlobals "list" = some none)
    (b_range : PySem.W.nsIn K mainGlobals "range" = some none)
    (b_sorted : PySem.W.nsIn K mainGlobals "sorted" = some none)
    (b_str : PySem.W.nsIn K mainGlobals "str" = some none)
    (b_super : PySem.W.nsIn K mainGlobals "super" = some none)
    (b_tuple : PySem.W.nsIn K mainGlobals "tuple" = some none)
    (ht_decoded : h.get? P_decoded = some { cls := .none, data := .fields #[] })
    (hh_decoded : PySem.W.codeHdIn K c_decoded P_decoded = true)
    (hn_decoded : K.lookup P_decoded = none)
    (ht_is_plain : h.get? P_is_plain = some { cls := .none, data := .fields #[] })
    (hh_is_plain : PySem.W.codeHdIn K c_is_plain P_is_plain = true)
    (hn_is_plain : K.lookup P_is_plain = none)
    (ht_named : h.get? P_named = some { cls := .none, data := .fields #[] })
    (hh_named : PySem.W.codeHdIn K c_named P_named = true)
    (hn_named : K.lookup P_named = none)
    (ht_cut : h.get? P_cut = some { cls := .none, data := .fields #[] })
    (hh_cut : PySem.W.codeHdIn K c_cut P_cut = true)
    (hn_cut : K.lookup P_cut = none)
    (ht_law : h.get? P_law = some { cls := .none, data := .fields #[] })
    (hh_law : PySem.W.codeHdIn K c_law P_law = true)
    (hn_law : K.lookup P_law = none)
    (ne_is_plain_decoded : P_is_plain ≠ P_decoded)
    (ne_named_decoded : P_named ≠ P_decoded)
    (ne_named_is_plain : P_named ≠ P_is_plain)
    (ne_cut_decoded : P_cut ≠ P_decoded)
    (ne_cut_is_plain : P_cut ≠ P_is_plain)
    (ne_cut_named : P_cut ≠ P_named)
    (ne_law_decoded : P_law ≠ P_decoded)
    (ne_law_is_plain : P_law ≠ P_is_plain)
    (ne_law_named : P_law ≠ P_named)
    (ne_law_cut : P_law ≠ P_cut)
    : LamX.LawAtS l w K (L2.CX l.prog w) 58 63 "script" mg fa h := by
  have e := hfa.symm.trans (PySem.W.mg_of X G n_law)
  cases e
  have F_is_text := fun_mk (st := s_is_text) l_is_text cc_is_text k_is_text
  have F_check_text := fun_mk (st := s_check_text) l_check_text cc_check_text k_check_text
  have F_both := fun_mk (st := s_both) l_both cc_both k_both
  have F_either := fun_mk (st := s_either) l_either cc_either k_either
  have F_less := fun_mk (st := s_less) l_less cc_less k_less
  have F_single := fun_mk (st := s_single) l_single cc_single k_single
  have F_every := fun_mk (st := s_every) l_every cc_every k_every
  have F_some := fun_mk (st := s_some) l_some cc_some k_some
  have F_read := fun_mk (st := s_read) l_read cc_read k_read
  have F_answered := fun_mk (st := s_answered) l_answered cc_answered k_answered
  have F_by_phrase := fun_mk (st := s_by_phrase) l_by_phrase cc_by_phrase k_by_phrase
  have F_stands := fun_mk (st := s_stands) l_stands cc_stands k_stands
  have F_by_near := fun_mk (st := s_by_near) l_by_near cc_by_near k_by_near
  have F_plain := fun_mk (st := s_plain) l_plain cc_plain k_plain
  have F_walk := fun_mk (st := s_walk) l_walk cc_walk k_walk
  have F_law_dice := fun_mk (st := s_law_dice) l_law_dice cc_law_dice k_law_dice
  have F_law_roll := fun_mk (st := s_law_roll) l_law_roll cc_law_roll k_law_roll
  have F_law_rounds := fun_mk (st := s_law_rounds) l_law_rounds cc_law_rounds k_law_rounds
  have F_Index_remove := fun_mk (st := s_Index_remove) l_Index_remove cc_Index_remove k_Index_remove
  have F_Tree_init := fun_mk (st := s_Tree_init) l_Tree_init cc_Tree_init k_Tree_init
  have F_Tree_within := fun_mk (st := s_Tree_within) l_Tree_within cc_Tree_within k_Tree_within
  have F_Index_numbers := fun_mk (st := s_Index_numbers) l_Index_numbers cc_Index_numbers k_Index_numbers
  have F_Hall_state := fun_mk (st := s_Hall_state) l_Hall_state cc_Hall_state k_Hall_state
  have F_Hall_note := fun_mk (st := s_Hall_note) l_Hall_note cc_Hall_note k_Hall_note
  have F_Hall_take := fun_mk (st := s_Hall_take) l_Hall_take cc_Hall_take k_Hall_take
  have F_Index_init := fun_mk (st := s_Index_init) l_Index_init cc_Index_init k_Index_init
  have F_Hall_init := fun_mk (st := s_Hall_init) l_Hall_init cc_Hall_init k_Hall_init
  have F_Index_text := fun_mk (st := s_Index_text) l_Index_text cc_Index_text k_Index_text
  have F_Index_holds := fun_mk (st := s_Index_holds) l_Index_holds cc_Index_holds k_Index_holds
  have F_Index_places := fun_mk (st := s_Index_places) l_Index_places cc_Index_places k_Index_places
  have F_Index_all_words := fun_mk (st := s_Index_all_words) l_Index_all_words cc_Index_all_words k_Index_all_words
  have F_Hall_every_text := fun_mk (st := s_Hall_every_text) l_Hall_every_text cc_Hall_every_text k_Hall_every_text
  have F_Hall_find := fun_mk (st := s_Hall_find) l_Hall_find cc_Hall_find k_Hall_find
  have F_Tree_node := fun_mk (st := s_Tree_node) l_Tree_node cc_Tree_node k_Tree_node
  have F_law_told := fun_mk (st := s_law_told) l_law_told cc_law_told k_law_told
  have T : Txt K mg (gx C_BadText C_NoSuch C_BadCode C_BadAsk C_TooLarge C_BadDeed C_Index C_Hall C_Tree P_decoded P_is_plain P_named P_cut P_law) C_BadText C_NoSuch C_BadCode C_BadAsk C_TooLarge C_BadDeed := ⟨PySem.W.mg_none_of X G b_ValueError, PySem.W.mg_none_of X G b_abs, PySem.W.mg_none_of X G b_all, PySem.W.mg_none_of X G b_any, PySem.W.mg_none_of X G b_int, PySem.W.mg_none_of X G b_isinstance, PySem.W.mg_none_of X G b_len, PySem.W.mg_none_of X G b_list, PySem.W.mg_none_of X G b_range, PySem.W.mg_none_of X G b_sorted, PySem.W.mg_none_of X G b_str, PySem.W.mg_none_of X G b_super, PySem.W.mg_none_of X G b_tuple, ⟨_, (PySem.W.mg_of X G mc_FIGURES).trans (by rw [mv_FIGURES])⟩, ⟨_, PySem.W.mg_of X G mc_LONG⟩, ⟨_, (PySem.W.mg_of X G mc_SMALL).trans (by rw [mv_SMALL])⟩, (FdD.cons rfl ⟨pg_Hall, hd_Hall, po_Hall, sa_Hall⟩ nf_Hall_asks FdD.nil), (FdD.cons rfl ⟨pg_Tree, hd_Tree, po_Tree, sa_Tree⟩ nf_Tree_below FdD.nil), (FdD.cons rfl ⟨pg_Hall, hd_Hall, po_Hall, sa_Hall⟩ nf_Hall_deeds FdD.nil), (FdD.cons rfl ⟨pg_Index, hd_Index, po_Index, sa_Index⟩ nf_Index_gone FdD.nil), (FdD.cons rfl ⟨pg_Hall, hd_Hall, po_Hall, sa_Hall⟩ nf_Hall_index FdD.nil), (FdD.cons rfl ⟨pg_Index, hd_Index, po_Index, sa_Index⟩ nf_Index_joins FdD.nil), (FdD.cons rfl ⟨pg_Index, hd_Index, po_Index, sa_Index⟩ nf_Index_most FdD.nil), (FdD.cons rfl ⟨pg_Tree, hd_Tree, po_Tree, sa_Tree⟩ nf_Tree_next FdD.nil), (FdD.cons rfl ⟨pg_Tree, hd_Tree, po_Tree, sa_Tree⟩ nf_Tree_often FdD.nil), (FdD.cons rfl ⟨pg_Index, hd_Index, po_Index, sa_Index⟩ nf_Index_parts FdD.nil), (FdD.cons rfl ⟨pg_Hall, hd_Hall, po_Hall, sa_Hall⟩ nf_Hall_undone FdD.nil), (FdD.cons rfl ⟨pg_Index, hd_Index, po_Index, sa_Index⟩ nf_Index_where FdD.nil), ⟨rfl, e_BadText, PySem.W.mg_of X G m_BadText, k_BadText, s_BadText, t_BadText⟩, ⟨rfl, e_NoSuch, PySem.W.mg_of X G m_NoSuch, k_NoSuch, s_NoSuch, t_NoSuch⟩, ⟨rfl, e_TooLarge, PySem.W.mg_of X G m_TooLarge, k_TooLarge, s_TooLarge, t_TooLarge⟩, ⟨rfl, e_BadDeed, PySem.W.mg_of X G m_BadDeed, k_BadDeed, s_BadDeed, t_BadDeed⟩, rfl, PySem.W.mg_of X G m_BadCode, rfl, PySem.W.mg_of X G m_BadAsk⟩
  have X_ : ∀ c C, (gx C_BadText C_NoSuch C_BadCode C_BadAsk C_TooLarge C_BadDeed C_Index C_Hall C_Tree P_decoded P_is_plain P_named P_cut P_law).ca c = some C → ∀ c' C', (gx C_BadText C_NoSuch C_BadCode C_BadAsk C_TooLarge C_BadDeed C_Index C_Hall C_Tree P_decoded P_is_plain P_named P_cut P_law).ca c' = some C' → PySem.W.exmOne K (.ref C) (.ref C') = some (decide (c' = c)) := by
    intro c C h c' C' h'
    unfold gx at h h'
    dsimp only at h h'
    repeat' split at h
    all_goals repeat' split at h'
    all_goals first | (cases h; done) | (cases h'; done) | skip
    all_goals (cases h; cases h'; subst_vars)
    · exact exm_mk s_BadText i_BadText t_BadText x_BadText_BadText
    · exact exm_mk s_NoSuch i_NoSuch t_NoSuch x_BadText_NoSuch
    · exact exm_mk s_BadCode i_BadCode t_BadCode x_BadText_BadCode
    · exact exm_mk s_BadAsk i_BadAsk t_BadAsk x_BadText_BadAsk
    · exact exm_mk s_TooLarge i_TooLarge t_TooLarge x_BadText_TooLarge
    · exact exm_mk s_BadDeed i_BadDeed t_BadDeed x_BadText_BadDeed
    · exact exm_mk s_BadText i_BadText t_BadText x_NoSuch_BadText
    · exact exm_mk s_NoSuch i_NoSuch t_NoSuch x_NoSuch_NoSuch
    · exact exm_mk s_BadCode i_BadCode t_BadCode x_NoSuch_BadCode
    · exact exm_mk s_BadAsk i_BadAsk t_BadAsk x_NoSuch_BadAsk
    · exact exm_mk s_TooLarge i_TooLarge t_TooLarge x_NoSuch_TooLarge
    · exact exm_mk s_BadDeed i_BadDeed t_BadDeed x_NoSuch_BadDeed
    · exact exm_mk s_BadText i_BadText t_BadText x_BadCode_BadText
    · exact exm_mk s_NoSuch i_NoSuch t_NoSuch x_BadCode_NoSuch
    · exact exm_mk s_BadCode i_BadCode t_BadCode x_BadCode_BadCode
    · exact exm_mk s_BadAsk i_BadAsk t_BadAsk x_BadCode_BadAsk
    · exact exm_mk s_TooLarge i_TooLarge t_TooLarge x_BadCode_TooLarge
    · exact exm_mk s_BadDeed i_BadDeed t_BadDeed x_BadCode_BadDeed
    · exact exm_mk s_BadText i_BadText t_BadText x_BadAsk_BadText
    · exact exm_mk s_NoSuch i_NoSuch t_NoSuch x_BadAsk_NoSuch
    · exact exm_mk s_BadCode i_BadCode t_BadCode x_BadAsk_BadCode
    · exact exm_mk s_BadAsk i_BadAsk t_BadAsk x_BadAsk_BadAsk
    · exact exm_mk s_TooLarge i_TooLarge t_TooLarge x_BadAsk_TooLarge
    · exact exm_mk s_BadDeed i_BadDeed t_BadDeed x_BadAsk_BadDeed
    · exact exm_mk s_BadText i_BadText t_BadText x_TooLarge_BadText
    · exact exm_mk s_NoSuch i_NoSuch t_NoSuch x_TooLarge_NoSuch
    · exact exm_mk s_BadCode i_BadCode t_BadCode x_TooLarge_BadCode
    · exact exm_mk s_BadAsk i_BadAsk t_BadAsk x_TooLarge_BadAsk
    · exact exm_mk s_TooLarge i_TooLarge t_TooLarge x_TooLarge_TooLarge
    · exact exm_mk s_BadDeed i_BadDeed t_BadDeed x_TooLarge_BadDeed
    · exact exm_mk s_BadText i_BadText t_BadText x_BadDeed_BadText
    · exact exm_mk s_NoSuch i_NoSuch t_NoSuch x_BadDeed_NoSuch
    · exact exm_mk s_BadCode i_BadCode t_BadCode x_BadDeed_BadCode
    · exact exm_mk s_BadAsk i_BadAsk t_BadAsk x_BadDeed_BadAsk
    · exact exm_mk s_TooLarge i_TooLarge t_TooLarge x_BadDeed_TooLarge
    · exact exm_mk s_BadDeed i_BadDeed t_BadDeed x_BadDeed_BadDeed
  have hm_decoded : (P_decoded, ("decoded" ++ ".<locals>.<genexpr>" : Str)) ∈ (gx C_BadText C_NoSuch C_BadCode C_BadAsk C_TooLarge C_BadDeed C_Index C_Hall C_Tree P_decoded P_is_plain P_named P_cut P_law).T := by unfold gx; simp
  have hu_decoded : ∀ p ∈ (gx C_BadText C_NoSuch C_BadCode C_BadAsk C_TooLarge C_BadDeed C_Index C_Hall C_Tree P_decoded P_is_plain P_named P_cut P_law).T, p.1 = P_decoded → p.2 = ("decoded" ++ ".<locals>.<genexpr>" : Str) := by
    intro p hp he
    unfold gx at hp
    simp only [List.mem_cons, List.not_mem_nil, or_false] at hp
    rcases hp with hp | hp
    · rw [hp]
    rcases hp with hp | hp
    · rw [hp] at he; exact absurd he ne_is_plain_decoded
    rcases hp with hp | hp
    · rw [hp] at he; exact absurd he ne_named_decoded
    rcases hp with hp | hp
    · rw [hp] at he; exact absurd he ne_cut_decoded
    rw [hp] at he; exact absurd he ne_law_decoded
  have hm_is_plain : (P_is_plain, ("is_plain" ++ ".<locals>.<genexpr>" : Str)) ∈ (gx C_BadText C_NoSuch C_BadCode C_BadAsk C_TooLarge C_BadDeed C_Index C_Hall C_Tree P_decoded P_is_plain P_named P_cut P_law).T := by unfold gx; simp
  have hu_is_plain : ∀ p ∈ (gx C_BadText C_NoSuch C_BadCode C_BadAsk C_TooLarge C_BadDeed C_Index C_Hall C_Tree P_decoded P_is_plain P_named P_cut P_law).T, p.1 = P_is_plain → p.2 = ("is_plain" ++ ".<locals>.<genexpr>" : Str) := by
    intro p hp he
    unfold gx at hp
    simp only [List.mem_cons, List.not_mem_nil, or_false] at hp
    rcases hp with hp | hp
    · rw [hp] at he; exact absurd he (Ne.symm ne_is_plain_decoded)
    rcases hp with hp | hp
    · rw [hp]
    rcases hp with hp | hp
    · rw [hp] at he; exact absurd he ne_named_is_plain
    rcases hp with hp | hp
    · rw [hp] at he; exact absurd he ne_cut_is_plain
    rw [hp] at he; exact absurd he ne_law_is_plain
  have hm_named : (P_named, ("named" ++ ".<locals>.<genexpr>" : Str)) ∈ (gx C_BadText C_NoSuch C_BadCode C_BadAsk C_TooLarge C_BadDeed C_Index C_Hall C_Tree P_decoded P_is_plain P_named P_cut P_law).T := by unfold gx; simp
  have hu_named : ∀ p ∈ (gx C_BadText C_NoSuch C_BadCode C_BadAsk C_TooLarge C_BadDeed C_Index C_Hall C_Tree P_decoded P_is_plain P_named P_cut P_law).T, p.1 = P_named → p.2 = ("named" ++ ".<locals>.<genexpr>" : Str) := by
    intro p hp he
    unfold gx at hp
    simp only [List.mem_cons, List.not_mem_nil, or_false] at hp
    rcases hp with hp | hp
    · rw [hp] at he; exact absurd he (Ne.symm ne_named_decoded)
    rcases hp with hp | hp
    · rw [hp] at he; exact absurd he (Ne.symm ne_named_is_plain)
    rcases hp with hp | hp
    · rw [hp]
    rcases hp with hp | hp
    · rw [hp] at he; exact absurd he ne_cut_named
    rw [hp] at he; exact absurd he ne_law_named
  have hm_cut : (P_cut, ("cut" ++ ".<locals>.<genexpr>" : Str)) ∈ (gx C_BadText C_NoSuch C_BadCode C_BadAsk C_TooLarge C_BadDeed C_Index C_Hall C_Tree P_decoded P_is_plain P_named P_cut P_law).T := by unfold gx; simp
  have hu_cut : ∀ p ∈ (gx C_BadText C_NoSuch C_BadCode C_BadAsk C_TooLarge C_BadDeed C_Index C_Hall C_Tree P_decoded P_is_plain P_named P_cut P_law).T, p.1 = P_cut → p.2 = ("cut" ++ ".<locals>.<genexpr>" : Str) := by
    intro p hp he
    unfold gx at hp
    simp only [List.mem_cons, List.not_mem_nil, or_false] at hp
    rcases hp with hp | hp
    · rw [hp] at he; exact absurd he (Ne.symm ne_cut_decoded)
    rcases hp with hp | hp
    · rw [hp] at he; exact absurd he (Ne.symm ne_cut_is_plain)
    rcases hp with hp | hp
    · rw [hp] at he; exact absurd he (Ne.symm ne_cut_named)
    rcases hp with hp | hp
    · rw [hp]
    rw [hp] at he; exact absurd he ne_law_cut
  have hm_law : (P_law, ("law" ++ ".<locals>.<lambda>" : Str)) ∈ (gx C_BadText C_NoSuch C_BadCode C_BadAsk C_TooLarge C_BadDeed C_Index C_Hall C_Tree P_decoded P_is_plain P_named P_cut P_law).T := by unfold gx; simp
  have hu_law : ∀ p ∈ (gx C_BadText C_NoSuch C_BadCode C_BadAsk C_TooLarge C_BadDeed C_Index C_Hall C_Tree P_decoded P_is_plain P_named P_cut P_law).T, p.1 = P_law → p.2 = ("law" ++ ".<locals>.<lambda>" : Str) := by
    intro p hp he
    unfold gx at hp
    simp only [List.mem_cons, List.not_mem_nil, or_false] at hp
    rcases hp with hp | hp
    · rw [hp] at he; exact absurd he (Ne.symm ne_law_decoded)
    rcases hp with hp | hp
    · rw [hp] at he; exact absurd he (Ne.symm ne_law_is_plain)
    rcases hp with hp | hp
    · rw [hp] at he; exact absurd he (Ne.symm ne_law_named)
    rcases hp with hp | hp
    · rw [hp] at he; exact absurd he (Ne.symm ne_law_cut)
    rw [hp]
  refine ⟨PySem.W.fnOf "law" "law" (defArgs s_law) (defBody s_law) (defScope s_law) .none kV_law dc_law pm_law an_law (.ref c_law) ct_law, [(c_decoded, P_decoded), (c_is_plain, P_is_plain), (c_named, P_named), (c_cut, P_cut), (c_law, P_law)], spOf K (gx C_BadText C_NoSuch C_BadCode C_BadAsk C_TooLarge C_BadDeed C_Index C_Hall C_Tree P_decoded P_is_plain P_named P_cut P_law) 1 den_law, ?_, ?_, ?_, fun s v => .of_eq rfl, fun H a ns hl hb hT hs => ?_, fun base Kb Nb TB => ?_⟩
  · intro p hp
    simp only [List.mem_cons, List.not_mem_nil, or_false] at hp
    rcases hp with hp | hp
    · rw [hp]; exact ht_decoded
    rcases hp with hp | hp
    · rw [hp]; exact ht_is_plain
    rcases hp with hp | hp
    · rw [hp]; exact ht_named
    rcases hp with hp | hp
    · rw [hp]; exact ht_cut
    rw [hp]; exact ht_law
  · intro p hp
    simp only [List.mem_cons, List.not_mem_nil, or_false] at hp
    rcases hp with hp | hp
    · rw [hp]; exact hn_decoded
    rcases hp with hp | hp
    · rw [hp]; exact hn_is_plain
    rcases hp with hp | hp
    · rw [hp]; exact hn_named
    rcases hp with hp | hp
    · rw [hp]; exact hn_cut
    rw [hp]; exact hn_law
  · intro p hp
    simp only [List.mem_cons, List.not_mem_nil, or_false] at hp
    rcases hp with hp | hp
    · rw [hp]; exact PySem.W.codeHd_of_K X hh_decoded
    rcases hp with hp | hp
    · rw [hp]; exact PySem.W.codeHd_of_K X hh_is_plain
    rcases hp with hp | hp
    · rw [hp]; exact PySem.W.codeHd_of_K X hh_named
    rcases hp with hp | hp
    · rw [hp]; exact PySem.W.codeHd_of_K X hh_cut
    rw [hp]; exact PySem.W.codeHd_of_K X hh_law
  · obtain ⟨h', hd⟩ := main ns hl hb
    refine law_sp (fun p hp => ?_) hs hd
    unfold gx at hp
    simp only [List.mem_cons, List.not_mem_nil, or_false] at hp
    rcases hp with hp | hp
    · rw [hp]; exact LamX.TabS.nil (hT (c_decoded, P_decoded) (by simp))
    rcases hp with hp | hp
    · rw [hp]; exact LamX.TabS.nil (hT (c_is_plain, P_is_plain) (by simp))
    rcases hp with hp | hp
    · rw [hp]; exact LamX.TabS.nil (hT (c_named, P_named) (by simp))
    rcases hp with hp | hp
    · rw [hp]; exact LamX.TabS.nil (hT (c_cut, P_cut) (by simp))
    rw [hp]; exact LamX.TabS.nil (hT (c_law, P_law) (by simp))
  · have XF_BadCode : ExF l.prog w K mg base (gx C_BadText C_NoSuch C_BadCode C_BadAsk C_TooLarge C_BadDeed C_Index C_Hall C_Tree P_decoded P_is_plain P_named P_cut P_law) 1 "BadCode" 3 C_BadCode := exF_BadCode rfl (PySem.W.mg_of X G m_BadCode) (PySem.W.mg_none_of X G b_super) k_BadCode s_BadCode t_BadCode oC_BadCode rv_BadCode sa_BadCode fi_BadCode ft_BadCode li_BadCode cd_BadCode lc_BadCode v2_BadCode fe_BadCode le_BadCode cK_BadCode mr_BadCode su_BadCode ve_BadCode oq_ no_BadCode tp_
    have XF_BadAsk : ExF l.prog w K mg base (gx C_BadText C_NoSuch C_BadCode C_BadAsk C_TooLarge C_BadDeed C_Index C_Hall C_Tree P_decoded P_is_plain P_named P_cut P_law) 1 "BadAsk" 4 C_BadAsk := exF_BadAsk rfl (PySem.W.mg_of X G m_BadAsk) (PySem.W.mg_none_of X G b_super) k_BadAsk s_BadAsk t_BadAsk oC_BadAsk rv_BadAsk sa_BadAsk fi_BadAsk ft_BadAsk li_BadAsk cd_BadAsk lc_BadAsk v2_BadAsk fe_BadAsk le_BadAsk cK_BadAsk mr_BadAsk su_BadAsk ve_BadAsk oq_ no_BadAsk tp_
    have B_law_told := F_law_told.binds (ps := ["what"]) fun _ _ _ _ _ _ us hl => match us, hl with | [_], _ => rfl
    have FL_law_told : FlOk K (gx C_BadText C_NoSuch C_BadCode C_BadAsk C_TooLarge C_BadDeed C_Index C_Hall C_Tree P_decoded P_is_plain P_named P_cut P_law) C_IndexFault [.ref C_BadText, .ref C_BadCode, .ref C_BadAsk, .ref C_NoSuch] [.ref C_TooLarge, .ref C_BadDeed, .type "ValueError"] (flOf flT_law_told) := by
      refine flok_of fun p hp => ?_
      unfold flT_law_told at hp
      simp only [List.mem_cons, List.not_mem_nil, or_false] at hp
      rcases hp with hp | hp
      · rw [hp]; exact ⟨C_BadText, rfl, ⟨pg_BadText, pk_BadText, s_BadText, pd_BadText, pa_BadText, pn_BadText, pt_BadText, pm_BadText⟩, k3_BadText, by simp only [List.map_cons, List.map_nil, k4_BadText_BadText, k4_BadText_BadCode, k4_BadText_BadAsk, k4_BadText_NoSuch], by simp only [List.map_cons, List.map_nil, k4_BadText_TooLarge, k4_BadText_BadDeed, k4_BadText_ValueError]⟩
      rcases hp with hp | hp
      · rw [hp]; exact ⟨C_BadCode, rfl, ⟨pg_BadCode, pk_BadCode, s_BadCode, pd_BadCode, pa_BadCode, pn_BadCode, pt_BadCode, pm_BadCode⟩, k3_BadCode, by simp only [List.map_cons, List.map_nil, k4_BadCode_BadText, k4_BadCode_BadCode, k4_BadCode_BadAsk, k4_BadCode_NoSuch], by simp only [List.map_cons, List.map_nil, k4_BadCode_TooLarge, k4_BadCode_BadDeed, k4_BadCode_ValueError]⟩
      rcases hp with hp | hp
      · rw [hp]; exact ⟨C_BadAsk, rfl, ⟨pg_BadAsk, pk_BadAsk, s_BadAsk, pd_BadAsk, pa_BadAsk, pn_BadAsk, pt_BadAsk, pm_BadAsk⟩, k3_BadAsk, by simp only [List.map_cons, List.map_nil, k4_BadAsk_BadText, k4_BadAsk_BadCode, k4_BadAsk_BadAsk, k4_BadAsk_NoSuch], by simp only [List.map_cons, List.map_nil, k4_BadAsk_TooLarge, k4_BadAsk_BadDeed, k4_BadAsk_ValueError]⟩
      rcases hp with hp | hp
      · rw [hp]; exact ⟨C_NoSuch, rfl, ⟨pg_NoSuch, pk_NoSuch, s_NoSuch, pd_NoSuch, pa_NoSuch, pn_NoSuch, pt_NoSuch, pm_NoSuch⟩, k3_NoSuch, by simp only [List.map_cons, List.map_nil, k4_NoSuch_BadText, k4_NoSuch_BadCode, k4_NoSuch_BadAsk, k4_NoSuch_NoSuch], by simp only [List.map_cons, List.map_nil, k4_NoSuch_TooLarge, k4_NoSuch_BadDeed, k4_NoSuch_ValueError]⟩
      rcases hp with hp | hp
      · rw [hp]; exact ⟨C_TooLarge, rfl, ⟨pg_TooLarge, pk_TooLarge, s_TooLarge, pd_TooLarge, pa_TooLarge, pn_TooLarge, pt_TooLarge, pm_TooLarge⟩, k3_TooLarge, by simp only [List.map_cons, List.map_nil, k4_TooLarge_BadText, k4_TooLarge_BadCode, k4_TooLarge_BadAsk, k4_TooLarge_NoSuch], by simp only [List.map_cons, List.map_nil, k4_TooLarge_TooLarge, k4_TooLarge_BadDeed, k4_TooLarge_ValueError]⟩
      rw [hp]; exact ⟨C_BadDeed, rfl, ⟨pg_BadDeed, pk_BadDeed, s_BadDeed, pd_BadDeed, pa_BadDeed, pn_BadDeed, pt_BadDeed, pm_BadDeed⟩, k3_BadDeed, by simp only [List.map_cons, List.map_nil, k4_BadDeed_BadText, k4_BadDeed_BadCode, k4_BadDeed_BadAsk, k4_BadDeed_NoSuch], by simp only [List.map_cons, List.map_nil, k4_BadDeed_TooLarge, k4_BadDeed_BadDeed, k4_BadDeed_ValueError]⟩
    have D_is_text : FnD l.prog w K mg base (gx C_BadText C_NoSuch C_BadCode C_BadAsk C_TooLarge C_BadDeed C_Index C_Hall C_Tree P_decoded P_is_plain P_named P_cut P_law) 1 "is_text" 1 den_is_text := d_is_text T F_is_text (PySem.W.mg_of X G n_is_text) 
    have D_check_text : FnD l.prog w K mg base (gx C_BadText C_NoSuch C_BadCode C_BadAsk C_TooLarge C_BadDeed C_Index C_Hall C_Tree P_decoded P_is_plain P_named P_cut P_law) 2 "check_text" 1 den_check_text := d_check_text T F_check_text (PySem.W.mg_of X G n_check_text) D_is_text
    have D_both : FnD l.prog w K mg base (gx C_BadText C_NoSuch C_BadCode C_BadAsk C_TooLarge C_BadDeed C_Index C_Hall C_Tree P_decoded P_is_plain P_named P_cut P_law) 1 "both" 2 den_both := d_both T F_both (PySem.W.mg_of X G n_both) 
    have D_either : FnD l.prog w K mg base (gx C_BadText C_NoSuch C_BadCode C_BadAsk C_TooLarge C_BadDeed C_Index C_Hall C_Tree P_decoded P_is_plain P_named P_cut P_law) 1 "either" 2 den_either := d_either T F_either (PySem.W.mg_of X G n_either) 
    have D_less : FnD l.prog w K mg base (gx C_BadText C_NoSuch C_BadCode C_BadAsk C_TooLarge C_BadDeed C_Index C_Hall C_Tree P_decoded P_is_plain P_named P_cut P_law) 1 "less" 2 den_less := d_less T F_less (PySem.W.mg_of X G n_less) 
    have D_decoded : FnD l.prog w K mg base (gx C_BadText C_NoSuch C_BadCode C_BadAsk C_TooLarge C_BadDeed C_Index C_Hall C_Tree P_decoded P_is_plain P_named P_cut P_law) 3 "decoded" 1 den_decoded := d_decoded T l_decoded cc_decoded k_decoded (PySem.W.mg_of X G n_decoded) XF_BadCode (TB (c_decoded, P_decoded) (by simp)) hm_decoded hu_decoded 
    have D_is_plain : FnD l.prog w K mg base (gx C_BadText C_NoSuch C_BadCode C_BadAsk C_TooLarge C_BadDeed C_Index C_Hall C_Tree P_decoded P_is_plain P_named P_cut P_law) 1 "is_plain" 1 den_is_plain := d_is_plain T l_is_plain cc_is_plain k_is_plain (PySem.W.mg_of X G n_is_plain) (TB (c_is_plain, P_is_plain) (by simp)) hm_is_plain hu_is_plain 
    have D_named : FnD l.prog w K mg base (gx C_BadText C_NoSuch C_BadCode C_BadAsk C_TooLarge C_BadDeed C_Index C_Hall C_Tree P_decoded P_is_plain P_named P_cut P_law) 3 "named" 2 den_named := d_named T l_named cc_named k_named (PySem.W.mg_of X G n_named) XF_BadAsk (TB (c_named, P_named) (by simp)) hm_named hu_named D_is_plain
    have D_cut : FnD l.prog w K mg base (gx C_BadText C_NoSuch C_BadCode C_BadAsk C_TooLarge C_BadDeed C_Index C_Hall C_Tree P_decoded P_is_plain P_named P_cut P_law) 7 "cut" 1 den_cut := d_cut T l_cut cc_cut k_cut (PySem.W.mg_of X G n_cut) XF_BadAsk (TB (c_cut, P_cut) (by simp)) hm_cut hu_cut D_is_plain D_named
    have D_single : FnD l.prog w K mg base (gx C_BadText C_NoSuch C_BadCode C_BadAsk C_TooLarge C_BadDeed C_Index C_Hall C_Tree P_decoded P_is_plain P_named P_cut P_law) 51 "single" 3 den_single := d_single T F_single (PySem.W.mg_of X G n_single) F_every (PySem.W.mg_of X G n_every) F_some (PySem.W.mg_of X G n_some)  XF_BadAsk
    have D_every : FnD l.prog w K mg base (gx C_BadText C_NoSuch C_BadCode C_BadAsk C_TooLarge C_BadDeed C_Index C_Hall C_Tree P_decoded P_is_plain P_named P_cut P_law) 52 "every" 3 den_every := d_every_at (kk := 51) T F_every (PySem.W.mg_of X G n_every) (by decide) D_single  
    have D_some : FnD l.prog w K mg base (gx C_BadText C_NoSuch C_BadCode C_BadAsk C_TooLarge C_BadDeed C_Index C_Hall C_Tree P_decoded P_is_plain P_named P_cut P_law) 53 "some" 3 den_some := d_some_at (kk := 51) T F_some (PySem.W.mg_of X G n_some) (by decide) D_single D_every 
    have D_read : FnD l.prog w K mg base (gx C_BadText C_NoSuch C_BadCode C_BadAsk C_TooLarge C_BadDeed C_Index C_Hall C_Tree P_decoded P_is_plain P_named P_cut P_law) 54 "read" 1 den_read := d_read T F_read (PySem.W.mg_of X G n_read) D_cut D_some XF_BadAsk
    have D_answered : FnD l.prog w K mg base (gx C_BadText C_NoSuch C_BadCode C_BadAsk C_TooLarge C_BadDeed C_Index C_Hall C_Tree P_decoded P_is_plain P_named P_cut P_law) 1 "answered" 2 den_answered := d_answered T F_answered (PySem.W.mg_of X G n_answered) 
    have D_by_phrase : FnD l.prog w K mg base (gx C_BadText C_NoSuch C_BadCode C_BadAsk C_TooLarge C_BadDeed C_Index C_Hall C_Tree P_decoded P_is_plain P_named P_cut P_law) 1 "by_phrase" 2 den_by_phrase := d_by_phrase T F_by_phrase (PySem.W.mg_of X G n_by_phrase) 
    have D_stands : FnD l.prog w K mg base (gx C_BadText C_NoSuch C_BadCode C_BadAsk C_TooLarge C_BadDeed C_Index C_Hall C_Tree P_decoded P_is_plain P_named P_cut P_law) 1 "stands" 3 den_stands := d_stands T F_stands (PySem.W.mg_of X G n_stands) 
    have D_by_near : FnD l.prog w K mg base (gx C_BadText C_NoSuch C_BadCode C_BadAsk C_TooLarge C_BadDeed C_Index C_Hall C_Tree P_decoded P_is_plain P_named P_cut P_law) 1 "by_near" 2 den_by_near := d_by_near T F_by_near (PySem.W.mg_of X G n_by_near) 
    have D_plain : FnD l.prog w K mg base (gx C_BadText C_NoSuch C_BadCode C_BadAsk C_TooLarge C_BadDeed C_Index C_Hall C_Tree P_decoded P_is_plain P_named P_cut P_law) 1 "plain" 1 den_plain := d_plain T F_plain (PySem.W.mg_of X G n_plain) 
    have D_walk : FnD l.prog w K mg base (gx C_BadText C_NoSuch C_BadCode C_BadAsk C_TooLarge C_BadDeed C_Index C_Hall C_Tree P_decoded P_is_plain P_named P_cut P_law) 1 "walk" 7 den_walk := d_walk T F_walk (PySem.W.mg_of X G n_walk) 
    have D_law_dice : FnD l.prog w K mg base (gx C_BadText C_NoSuch C_BadCode C_BadAsk C_TooLarge C_BadDeed C_Index C_Hall C_Tree P_decoded P_is_plain P_named P_cut P_law) 1 "_law_dice" 1 den_law_dice := d_law_dice T F_law_dice (PySem.W.mg_of X G n_law_dice) 
    have D_law_roll : FnD l.prog w K mg base (gx C_BadText C_NoSuch C_BadCode C_BadAsk C_TooLarge C_BadDeed C_Index C_Hall C_Tree P_decoded P_is_plain P_named P_cut P_law) 1 "_law_roll" 2 den_law_roll := d_law_roll T F_law_roll (PySem.W.mg_of X G n_law_roll) 
    have D_law_rounds : FnD l.prog w K mg base (gx C_BadText C_NoSuch C_BadCode C_BadAsk C_TooLarge C_BadDeed C_Index C_Hall C_Tree P_decoded P_is_plain P_named P_cut P_law) 2 "_law_rounds" 2 den_law_rounds := d_law_rounds T F_law_rounds (PySem.W.mg_of X G n_law_rounds) D_law_dice
    have D_Index_remove : FnM l.prog w K mg base (gx C_BadText C_NoSuch C_BadCode C_BadAsk C_TooLarge C_BadDeed C_Index C_Hall C_Tree P_decoded P_is_plain P_named P_cut P_law) 1 101 "remove" 2 den_Index_remove := d_Index_remove T F_Index_remove rfl ⟨pg_Index, hd_Index, po_Index, sa_Index⟩ ⟨fi_Index_remove, fn_Index_remove, k_Index_remove⟩ 
    have D_Tree_init : FnI l.prog w K mg base (gx C_BadText C_NoSuch C_BadCode C_BadAsk C_TooLarge C_BadDeed C_Index C_Hall C_Tree P_decoded P_is_plain P_named P_cut P_law) 1 103 "Tree" 1 den_Tree_init := d_Tree_init T F_Tree_init rfl (PySem.W.mg_of X G m_Tree) ⟨mk_Tree, fi_Tree_init, fn_Tree_init, kc_Tree⟩ 
    have D_Tree_within : FnM l.prog w K mg base (gx C_BadText C_NoSuch C_BadCode C_BadAsk C_TooLarge C_BadDeed C_Index C_Hall C_Tree P_decoded P_is_plain P_named P_cut P_law) 2 103 "within" 3 den_Tree_within := d_Tree_within T F_Tree_within rfl ⟨pg_Tree, hd_Tree, po_Tree, sa_Tree⟩ ⟨fi_Tree_within, fn_Tree_within, k_Tree_within⟩ D_walk
    have D_Index_numbers : FnM l.prog w K mg base (gx C_BadText C_NoSuch C_BadCode C_BadAsk C_TooLarge C_BadDeed C_Index C_Hall C_Tree P_decoded P_is_plain P_named P_cut P_law) 1 101 "numbers" 1 den_Index_numbers := d_Index_numbers T F_Index_numbers rfl ⟨pg_Index, hd_Index, po_Index, sa_Index⟩ ⟨fi_Index_numbers, fn_Index_numbers, k_Index_numbers⟩ 
    have D_Hall_state : FnM l.prog w K mg base (gx C_BadText C_NoSuch C_BadCode C_BadAsk C_TooLarge C_BadDeed C_Index C_Hall C_Tree P_decoded P_is_plain P_named P_cut P_law) 1 102 "state" 1 den_Hall_state := d_Hall_state T F_Hall_state rfl ⟨pg_Hall, hd_Hall, po_Hall, sa_Hall⟩ ⟨fi_Hall_state, fn_Hall_state, k_Hall_state⟩ 
    have D_Hall_note : FnM l.prog w K mg base (gx C_BadText C_NoSuch C_BadCode C_BadAsk C_TooLarge C_BadDeed C_Index C_Hall C_Tree P_decoded P_is_plain P_named P_cut P_law) 1 102 "note" 2 den_Hall_note := d_Hall_note T F_Hall_note rfl ⟨pg_Hall, hd_Hall, po_Hall, sa_Hall⟩ ⟨fi_Hall_note, fn_Hall_note, k_Hall_note⟩ 
    have D_Hall_take : FnM l.prog w K mg base (gx C_BadText C_NoSuch C_BadCode C_BadAsk C_TooLarge C_BadDeed C_Index C_Hall C_Tree P_decoded P_is_plain P_named P_cut P_law) 2 102 "take" 2 den_Hall_take := d_Hall_take T F_Hall_take rfl ⟨pg_Hall, hd_Hall, po_Hall, sa_Hall⟩ ⟨fi_Hall_take, fn_Hall_take, k_Hall_take⟩ D_Index_numbers D_Hall_state D_Index_remove D_Hall_note
    have D_Index_init : FnI l.prog w K mg base (gx C_BadText C_NoSuch C_BadCode C_BadAsk C_TooLarge C_BadDeed C_Index C_Hall C_Tree P_decoded P_is_plain P_named P_cut P_law) 1 101 "Index" 2 den_Index_init := d_Index_init T F_Index_init rfl (PySem.W.mg_of X G m_Index) ⟨mk_Index, fi_Index_init, fn_Index_init, kc_Index⟩ 
    have D_Hall_init : FnI l.prog w K mg base (gx C_BadText C_NoSuch C_BadCode C_BadAsk C_TooLarge C_BadDeed C_Index C_Hall C_Tree P_decoded P_is_plain P_named P_cut P_law) 3 102 "Hall" 2 den_Hall_init := d_Hall_init T F_Hall_init rfl (PySem.W.mg_of X G m_Hall) ⟨mk_Hall, fi_Hall_init, fn_Hall_init, kc_Hall⟩ D_Index_init
    have D_Index_text : FnM l.prog w K mg base (gx C_BadText C_NoSuch C_BadCode C_BadAsk C_TooLarge C_BadDeed C_Index C_Hall C_Tree P_decoded P_is_plain P_named P_cut P_law) 1 101 "text" 2 den_Index_text := d_Index_text T F_Index_text rfl ⟨pg_Index, hd_Index, po_Index, sa_Index⟩ ⟨fi_Index_text, fn_Index_text, k_Index_text⟩ 
    have D_Index_holds : FnM l.prog w K mg base (gx C_BadText C_NoSuch C_BadCode C_BadAsk C_TooLarge C_BadDeed C_Index C_Hall C_Tree P_decoded P_is_plain P_named P_cut P_law) 1 101 "holds" 2 den_Index_holds := d_Index_holds T F_Index_holds rfl ⟨pg_Index, hd_Index, po_Index, sa_Index⟩ ⟨fi_Index_holds, fn_Index_holds, k_Index_holds⟩ 
    have D_Index_places : FnM l.prog w K mg base (gx C_BadText C_NoSuch C_BadCode C_BadAsk C_TooLarge C_BadDeed C_Index C_Hall C_Tree P_decoded P_is_plain P_named P_cut P_law) 1 101 "places" 3 den_Index_places := d_Index_places T F_Index_places rfl ⟨pg_Index, hd_Index, po_Index, sa_Index⟩ ⟨fi_Index_places, fn_Index_places, k_Index_places⟩ 
    have D_Index_all_words : FnM l.prog w K mg base (gx C_BadText C_NoSuch C_BadCode C_BadAsk C_TooLarge C_BadDeed C_Index C_Hall C_Tree P_decoded P_is_plain P_named P_cut P_law) 1 101 "all_words" 1 den_Index_all_words := d_Index_all_words T F_Index_all_words rfl ⟨pg_Index, hd_Index, po_Index, sa_Index⟩ ⟨fi_Index_all_words, fn_Index_all_words, k_Index_all_words⟩ 
    have D_Hall_every_text : FnM l.prog w K mg base (gx C_BadText C_NoSuch C_BadCode C_BadAsk C_TooLarge C_BadDeed C_Index C_Hall C_Tree P_decoded P_is_plain P_named P_cut P_law) 1 102 "every_text" 1 den_Hall_every_text := d_Hall_every_text T F_Hall_every_text rfl ⟨pg_Hall, hd_Hall, po_Hall, sa_Hall⟩ ⟨fi_Hall_every_text, fn_Hall_every_text, k_Hall_every_text⟩ 
    have D_Hall_find : FnM l.prog w K mg base (gx C_BadText C_NoSuch C_BadCode C_BadAsk C_TooLarge C_BadDeed C_Index C_Hall C_Tree P_decoded P_is_plain P_named P_cut P_law) 1 102 "find" 2 den_Hall_find := d_Hall_find T F_Hall_find rfl ⟨pg_Hall, hd_Hall, po_Hall, sa_Hall⟩ ⟨fi_Hall_find, fn_Hall_find, k_Hall_find⟩ 
    have D_Tree_node : FnM l.prog w K mg base (gx C_BadText C_NoSuch C_BadCode C_BadAsk C_TooLarge C_BadDeed C_Index C_Hall C_Tree P_decoded P_is_plain P_named P_cut P_law) 1 103 "node" 2 den_Tree_node := d_Tree_node T F_Tree_node rfl ⟨pg_Tree, hd_Tree, po_Tree, sa_Tree⟩ ⟨fi_Tree_node, fn_Tree_node, k_Tree_node⟩ 
    exact d_law T l_law cc_law D_law_rounds D_check_text D_decoded D_read D_Index_remove D_Tree_init D_Tree_within D_Hall_take D_law_roll D_Hall_init D_Index_init F_law_told B_law_told (PySem.W.mg_of X G n_law_told) X_ (PySem.W.mg_of X G m_IndexFault) FL_law_told (TB (c_law, P_law) (by simp)) hm_law hu_law
end Law_indexhall_k30_refusals_apart
open PySem PySem.W PyProof.Rows
set_option maxHeartbeats 0 in
set_option maxRecDepth 100000 in
open_top hd0 for PySem.Challenge.rw_indexhall_k30_refusals_apart
set_option maxRecDepth 100000 in
set_option maxHeartbeats 0 in
theorem PySem.Challenge.cw_indexhall_k30_refusals_apart_holds : PySem.Challenge.rw_indexhall_k30_refusals_apart.Holds :=
by
  w_on; o_law; o_head (PySem.W.kmHook hd0.heap_39 [2, 3, 15, 17, 18, 20, 21, 22, 29, 30, 31, 32, 35, 42, 43, 44, 47, 50, 55, 56, 58, 59, 61, 62, 63, 64, 65, 68, 71, 76, 77, 79, 80, 82, 83, 84, 85, 86, 89, 96, 97, 98, 101, 108, 109, 110, 113, 120, 121, 122, 125, 127, 128, 130, 131, 132, 134, 135, 137, 138, 139, 141, 142, 144, 145, 146, 148, 149, 151, 152, 153, 155, 156, 158, 159, 160, 163, 164, 165, 167, 168, 170, 171, 172, 174, 175, 177, 178, 179, 181, 182, 184, 185, 186, 188, 189, 191, 192, 193, 195, 196, 198, 199, 200, 202, 203, 205, 206, 207, 209, 210, 212, 213, 214, 216, 217, 219, 220, 221, 224, 225, 226, 229, 230, 231, 234, 235, 236, 238, 239, 241, 242, 250, 252, 253, 255, 256, 257, 259, 260, 262, 263, 264, 266, 267, 269, 270, 271, 273, 274, 276, 277, 278, 280, 281, 283, 284, 285, 287, 288, 290, 291, 292, 294, 295, 297, 298, 299, 301, 302, 304, 305, 306, 308, 309, 311, 312, 313, 315, 316, 318, 319, 320, 323, 324, 325, 327, 328, 330, 331, 332, 335, 336, 337, 339, 340, 342, 343, 344, 345, 346, 347, 348, 358, 360, 361, 363, 364, 365, 368, 369, 370, 372, 373, 375, 376, 377, 379, 380, 382, 383, 384, 386, 387, 389, 390, 391, 393, 394, 396, 397, 398, 400, 401, 403, 404, 405, 407, 408, 410, 411, 412, 414, 415, 417, 418, 419, 421, 422, 424, 425, 426, 428, 429, 431, 432, 433, 435, 436, 438, 439, 440, 442, 443, 445, 446, 447, 449, 450, 452, 453, 454, 456, 457, 459, 460, 461, 463, 464, 466, 467, 468, 470, 471, 473, 474, 475, 476, 477, 478, 479, 489, 491, 492, 494, 495, 496, 498, 499, 501, 502, 503, 505, 506, 508, 509, 510, 512, 513, 515, 516, 517, 519, 520, 522, 523, 524, 526, 527, 529, 530, 531, 533, 534, 536, 537, 538, 540, 541, 543, 544, 545, 547, 548, 550, 551, 552, 553, 554, 555, 556, 559, 561, 562, 564, 565, 566, 568, 569, 571, 572, 573, 575, 576, 578, 579, 580, 583, 584, 585, 587, 588, 590, 591, 592, 595, 596] (fun _ => by kernel_rfl) [161, 173, 180, 187, 593]); (case hw => w_witness2)
  k_fill
  refine LamX.walk_ofTs (l := PySem.Challenge.rw_indexhall_k30_refusals_apart) (n := 63) (k := 58) (x := "script") (CX := fun w => L2.CX (PySem.Challenge.rw_indexhall_k30_refusals_apart).prog w) rfl (by decide) rfl ⟨rfl, by decide, by decide⟩ (fun w h Y => PySem.W.km_in_of Y) ?F (fun w H s e s' z => by obtain ⟨_, _, _, _, _, _, _, _, _, _, _, _, z⟩ := z; exact z)
  case F =>
    intro w mg fa h Y KX G hmg
    have hT8 := PySem.W.km_tabs_of Y
    refine' Law_indexhall_k30_refusals_apart.fin (l := PySem.Challenge.rw_indexhall_k30_refusals_apart) Law_indexhall_k30_refusals_apart.main KX G hmg ?m_BadText ?e_BadText ?k_BadText ?s_BadText ?t_BadText ?m_NoSuch ?e_NoSuch ?k_NoSuch ?s_NoSuch ?t_NoSuch ?m_BadCode ?k_BadCode ?s_BadCode ?t_BadCode ?m_BadAsk ?k_BadAsk ?s_BadAsk ?t_BadAsk ?m_TooLarge ?e_TooLarge ?k_TooLarge ?s_TooLarge ?t_TooLarge ?m_BadDeed ?e_BadDeed ?k_BadDeed ?s_BadDeed ?t_BadDeed ?i_BadText ?i_NoSuch ?i_BadCode ?i_BadAsk ?i_TooLarge ?i_BadDeed ?x_BadText_BadText ?x_BadText_NoSuch ?x_BadText_BadCode ?x_BadText_BadAsk ?x_BadText_TooLarge ?x_BadText_BadDeed ?x_NoSuch_BadText ?x_NoSuch_NoSuch ?x_NoSuch_BadCode ?x_NoSuch_BadAsk ?x_NoSuch_TooLarge ?x_NoSuch_BadDeed ?x_BadCode_BadText ?x_BadCode_NoSuch ?x_BadCode_BadCode ?x_BadCode_BadAsk ?x_BadCode_TooLarge ?x_BadCode_BadDeed ?x_BadAsk_BadText ?x_BadAsk_NoSuch ?x_BadAsk_BadCode ?x_BadAsk_BadAsk ?x_BadAsk_TooLarge ?x_BadAsk_BadDeed ?x_TooLarge_BadText ?x_TooLarge_NoSuch ?x_TooLarge_BadCode ?x_TooLarge_BadAsk ?x_TooLarge_TooLarge ?x_TooLarge_BadDeed ?x_BadDeed_BadText ?x_BadDeed_NoSuch ?x_BadDeed_BadCode ?x_BadDeed_BadAsk ?x_BadDeed_TooLarge ?x_BadDeed_BadDeed ?m_IndexFault ?oC_BadCode ?rv_BadCode ?sa_BadCode ?fi_BadCode ?ft_BadCode ?li_BadCode ?cd_BadCode ?lc_BadCode ?v2_BadCode ?fe_BadCode ?le_BadCode ?cK_BadCode ?mr_BadCode ?su_BadCode ?ve_BadCode ?no_BadCode ?oC_BadAsk ?rv_BadAsk ?sa_BadAsk ?fi_BadAsk ?ft_BadAsk ?li_BadAsk ?cd_BadAsk ?lc_BadAsk ?v2_BadAsk ?fe_BadAsk ?le_BadAsk ?cK_BadAsk ?mr_BadAsk ?su_BadAsk ?ve_BadAsk ?no_BadAsk ?pg_BadText ?pk_BadText ?pd_BadText ?pa_BadText ?pn_BadText ?pt_BadText ?pm_BadText ?k3_BadText ?k4_BadText_BadText ?k4_BadText_BadCode ?k4_BadText_BadAsk ?k4_BadText_NoSuch ?k4_BadText_TooLarge ?k4_BadText_BadDeed ?k4_BadText_ValueError ?pg_BadCode ?pk_BadCode ?pd_BadCode ?pa_BadCode ?pn_BadCode ?pt_BadCode ?pm_BadCode ?k3_BadCode ?k4_BadCode_BadText ?k4_BadCode_BadCode ?k4_BadCode_BadAsk ?k4_BadCode_NoSuch ?k4_BadCode_TooLarge ?k4_BadCode_BadDeed ?k4_BadCode_ValueError ?pg_BadAsk ?pk_BadAsk ?pd_BadAsk ?pa_BadAsk ?pn_BadAsk ?pt_BadAsk ?pm_BadAsk ?k3_BadAsk ?k4_BadAsk_BadText ?k4_BadAsk_BadCode ?k4_BadAsk_BadAsk ?k4_BadAsk_NoSuch ?k4_BadAsk_TooLarge ?k4_BadAsk_BadDeed ?k4_BadAsk_ValueError ?pg_NoSuch ?pk_NoSuch ?pd_NoSuch ?pa_NoSuch ?pn_NoSuch ?pt_NoSuch ?pm_NoSuch ?k3_NoSuch ?k4_NoSuch_BadText ?k4_NoSuch_BadCode ?k4_NoSuch_BadAsk ?k4_NoSuch_NoSuch ?k4_NoSuch_TooLarge ?k4_NoSuch_BadDeed ?k4_NoSuch_ValueError ?pg_TooLarge ?pk_TooLarge ?pd_TooLarge ?pa_TooLarge ?pn_TooLarge ?pt_TooLarge ?pm_TooLarge ?k3_TooLarge ?k4_TooLarge_BadText ?k4_TooLarge_BadCode ?k4_TooLarge_BadAsk ?k4_TooLarge_NoSuch ?k4_TooLarge_TooLarge ?k4_TooLarge_BadDeed ?k4_TooLarge_ValueError ?pg_BadDeed ?pk_BadDeed ?pd_BadDeed ?pa_BadDeed ?pn_BadDeed ?pt_BadDeed ?pm_BadDeed ?k3_BadDeed ?k4_BadDeed_BadText ?k4_BadDeed_BadCode ?k4_BadDeed_BadAsk ?k4_BadDeed_NoSuch ?k4_BadDeed_TooLarge ?k4_BadDeed_BadDeed ?k4_BadDeed_ValueError ?oq_ ?tp_ ?m_Index ?pg_Index ?hd_Index ?po_Index ?sa_Index ?mk_Index ?kc_Index ?nf_Index_gone ?nf_Index_joins ?nf_Index_most ?nf_Index_parts ?nf_Index_where ?m_Hall ?pg_Hall ?hd_Hall ?po_Hall ?sa_Hall ?mk_Hall ?kc_Hall ?nf_Hall_asks ?nf_Hall_deeds ?nf_Hall_index ?nf_Hall_undone ?m_Tree ?pg_Tree ?hd_Tree ?po_Tree ?sa_Tree ?mk_Tree ?kc_Tree ?nf_Tree_below ?nf_Tree_next ?nf_Tree_often ?n_is_text ?l_is_text ?cc_is_text ?k_is_text ?n_check_text ?l_check_text ?cc_check_text ?k_check_text ?n_both ?l_both ?cc_both ?k_both ?n_either ?l_either ?cc_either ?k_either ?n_less ?l_less ?cc_less ?k_less ?n_decoded ?l_decoded ?cc_decoded ?k_decoded ?n_is_plain ?l_is_plain ?cc_is_plain ?k_is_plain ?n_named ?l_named ?cc_named ?k_named ?n_cut ?l_cut ?cc_cut ?k_cut ?n_single ?l_single ?cc_single ?k_single ?n_every ?l_every ?cc_every ?k_every ?n_some ?l_some ?cc_some ?k_some ?n_read ?l_read ?cc_read ?k_read ?n_answered ?l_answered ?cc_answered ?k_answered ?n_by_phrase ?l_by_phrase ?cc_by_phrase ?k_by_phrase ?n_stands ?l_stands ?cc_stands ?k_stands ?n_by_near ?l_by_near ?cc_by_near ?k_by_near ?n_plain ?l_plain ?cc_plain ?k_plain ?n_walk ?l_walk ?cc_walk ?k_walk ?n_law_dice ?l_law_dice ?cc_law_dice ?k_law_dice ?n_law_roll ?l_law_roll ?cc_law_roll ?k_law_roll ?n_law_rounds ?l_law_rounds ?cc_law_rounds ?k_law_rounds ?fi_Index_remove ?fn_Index_remove ?l_Index_remove ?cc_Index_remove ?k_Index_remove ?fi_Tree_init ?fn_Tree_init ?l_Tree_init ?cc_Tree_init ?k_Tree_init ?fi_Tree_within ?fn_Tree_within ?l_Tree_within ?cc_Tree_within ?k_Tree_within ?fi_Index_numbers ?fn_Index_numbers ?l_Index_numbers ?cc_Index_numbers ?k_Index_numbers ?fi_Hall_state ?fn_Hall_state ?l_Hall_state ?cc_Hall_state ?k_Hall_state ?fi_Hall_note ?fn_Hall_note ?l_Hall_note ?cc_Hall_note ?k_Hall_note ?fi_Hall_take ?fn_Hall_take ?l_Hall_take ?cc_Hall_take ?k_Hall_take ?fi_Index_init ?fn_Index_init ?l_Index_init ?cc_Index_init ?k_Index_init ?fi_Hall_init ?fn_Hall_init ?l_Hall_init ?cc_Hall_init ?k_Hall_init ?fi_Index_text ?fn_Index_text ?l_Index_text ?cc_Index_text ?k_Index_text ?fi_Index_holds ?fn_Index_holds ?l_Index_holds ?cc_Index_holds ?k_Index_holds ?fi_Index_places ?fn_Index_places ?l_Index_places ?cc_Index_places ?k_Index_places ?fi_Index_all_words ?fn_Index_all_words ?l_Index_all_words ?cc_Index_all_words ?k_Index_all_words ?fi_Hall_every_text ?fn_Hall_every_text ?l_Hall_every_text ?cc_Hall_every_text ?k_Hall_every_text ?fi_Hall_find ?fn_Hall_find ?l_Hall_find ?cc_Hall_find ?k_Hall_find ?fi_Tree_node ?fn_Tree_node ?l_Tree_node ?cc_Tree_node ?k_Tree_node ?n_law_told ?l_law_told ?cc_law_told ?k_law_told ?n_law ?l_law ?cc_law ?mc_FIGURES ?mv_FIGURES ?mc_LONG ?mc_SMALL ?mv_SMALL ?b_ValueError ?b_abs ?b_all ?b_any ?b_int ?b_isinstance ?b_len ?b_list ?b_range ?b_sorted ?b_str ?b_super ?b_tuple ?ht_decoded ?hh_decoded ?hn_decoded ?ht_is_plain ?hh_is_plain ?hn_is_plain ?ht_named ?hh_named ?hn_named ?ht_cut ?hh_cut ?hn_cut ?ht_law ?hh_law ?hn_law ?ne_is_plain_decoded ?ne_named_decoded ?ne_named_is_plain ?ne_cut_decoded ?ne_cut_is_plain ?ne_cut_named ?ne_law_decoded ?ne_law_is_plain ?ne_law_named ?ne_law_cut
    (case m_BadText => k_is)
    (case e_BadText => k_exc)
    (case k_BadText => k_is)
    (case s_BadText => k_is)
    (case t_BadText => k_is)
    (case m_NoSuch => k_is)
    (case e_NoSuch => k_exc)
    (case k_NoSuch => k_is)
    (case s_NoSuch => k_is)
    (case t_NoSuch => k_is)
    (case m_BadCode => k_is)
    (case k_BadCode => k_is)
    (case s_BadCode => k_is)
    (case t_BadCode => k_is)
    (case m_BadAsk => k_is)
    (case k_BadAsk => k_is)
    (case s_BadAsk => k_is)
    (case t_BadAsk => k_is)
    (case m_TooLarge => k_is)
    (case e_TooLarge => k_exc)
    (case k_TooLarge => k_is)
    (case s_TooLarge => k_is)
    (case t_TooLarge => k_is)
    (case m_BadDeed => k_is)
    (case e_BadDeed => k_exc)
    (case k_BadDeed => k_is)
    (case s_BadDeed => k_is)
    (case t_BadDeed => k_is)
    (case i_BadText => k_is)
    (case i_NoSuch => k_is)
    (case i_BadCode => k_is)
    (case i_BadAsk => k_is)
    (case i_TooLarge => k_is)
    (case i_BadDeed => k_is)
    (case x_BadText_BadText => first | rfl | k_is)
    (case x_BadText_NoSuch => first | rfl | k_is)
    (case x_BadText_BadCode => first | rfl | k_is)
    (case x_BadText_BadAsk => first | rfl | k_is)
    (case x_BadText_TooLarge => first | rfl | k_is)
    (case x_BadText_BadDeed => first | rfl | k_is)
    (case x_NoSuch_BadText => first | rfl | k_is)
    (case x_NoSuch_NoSuch => first | rfl | k_is)
    (case x_NoSuch_BadCode => first | rfl | k_is)
    (case x_NoSuch_BadAsk => first | rfl | k_is)
    (case x_NoSuch_TooLarge => first | rfl | k_is)
    (case x_NoSuch_BadDeed => first | rfl | k_is)
    (case x_BadCode_BadText => first | rfl | k_is)
    (case x_BadCode_NoSuch => first | rfl | k_is)
    (case x_BadCode_BadCode => first | rfl | k_is)
    (case x_BadCode_BadAsk => first | rfl | k_is)
    (case x_BadCode_TooLarge => first | rfl | k_is)
    (case x_BadCode_BadDeed => first | rfl | k_is)
    (case x_BadAsk_BadText => first | rfl | k_is)
    (case x_BadAsk_NoSuch => first | rfl | k_is)
    (case x_BadAsk_BadCode => first | rfl | k_is)
    (case x_BadAsk_BadAsk => first | rfl | k_is)
    (case x_BadAsk_TooLarge => first | rfl | k_is)
    (case x_BadAsk_BadDeed => first | rfl | k_is)
    (case x_TooLarge_BadText => first | rfl | k_is)
    (case x_TooLarge_NoSuch => first | rfl | k_is)
    (case x_TooLarge_BadCode => first | rfl | k_is)
    (case x_TooLarge_BadAsk => first | rfl | k_is)
    (case x_TooLarge_TooLarge => first | rfl | k_is)
    (case x_TooLarge_BadDeed => first | rfl | k_is)
    (case x_BadDeed_BadText => first | rfl | k_is)
    (case x_BadDeed_NoSuch => first | rfl | k_is)
    (case x_BadDeed_BadCode => first | rfl | k_is)
    (case x_BadDeed_BadAsk => first | rfl | k_is)
    (case x_BadDeed_TooLarge => first | rfl | k_is)
    (case x_BadDeed_BadDeed => first | rfl | k_is)
    (case m_IndexFault => k_is)
    (case oC_BadCode => k_is)
    (case rv_BadCode => first | rfl | decide +kernel)
    (case sa_BadCode => k_is)
    (case fi_BadCode => k_is)
    (case ft_BadCode => k_is)
    (case li_BadCode => k_is)
    (case cd_BadCode => k_is)
    (case lc_BadCode => k_is)
    (case v2_BadCode => first | rfl | decide +kernel)
    (case fe_BadCode => first | rfl | decide +kernel)
    (case le_BadCode => k_is)
    (case cK_BadCode => k_is)
    (case mr_BadCode => k_is)
    (case su_BadCode => kernel_rfl)
    (case ve_BadCode => k_is)
    (case no_BadCode => k_is)
    (case oC_BadAsk => k_is)
    (case rv_BadAsk => first | rfl | decide +kernel)
    (case sa_BadAsk => k_is)
    (case fi_BadAsk => k_is)
    (case ft_BadAsk => k_is)
    (case li_BadAsk => k_is)
    (case cd_BadAsk => k_is)
    (case lc_BadAsk => k_is)
    (case v2_BadAsk => first | rfl | decide +kernel)
    (case fe_BadAsk => first | rfl | decide +kernel)
    (case le_BadAsk => k_is)
    (case cK_BadAsk => k_is)
    (case mr_BadAsk => k_is)
    (case su_BadAsk => kernel_rfl)
    (case ve_BadAsk => k_is)
    (case no_BadAsk => k_is)
    (case pg_BadText => k_is)
    (case pk_BadText => k_is)
    (case pd_BadText => k_is)
    (case pa_BadText => k_is)
    (case pn_BadText => k_is)
    (case pt_BadText => k_is)
    (case pm_BadText => k_is)
    (case k3_BadText => kernel_rfl)
    (case k4_BadText_BadText => kernel_rfl)
    (case k4_BadText_BadCode => kernel_rfl)
    (case k4_BadText_BadAsk => kernel_rfl)
    (case k4_BadText_NoSuch => kernel_rfl)
    (case k4_BadText_TooLarge => kernel_rfl)
    (case k4_BadText_BadDeed => kernel_rfl)
    (case k4_BadText_ValueError => kernel_rfl)
    (case pg_BadCode => k_is)
    (case pk_BadCode => k_is)
    (case pd_BadCode => k_is)
    (case pa_BadCode => k_is)
    (case pn_BadCode => k_is)
    (case pt_BadCode => k_is)
    (case pm_BadCode => k_is)
    (case k3_BadCode => kernel_rfl)
    (case k4_BadCode_BadText => kernel_rfl)
    (case k4_BadCode_BadCode => kernel_rfl)
    (case k4_BadCode_BadAsk => kernel_rfl)
    (case k4_BadCode_NoSuch => kernel_rfl)
    (case k4_BadCode_TooLarge => kernel_rfl)
    (case k4_BadCode_BadDeed => kernel_rfl)
    (case k4_BadCode_ValueError => kernel_rfl)
    (case pg_BadAsk => k_is)
    (case pk_BadAsk => k_is)
    (case pd_BadAsk => k_is)
    (case pa_BadAsk => k_is)
    (case pn_BadAsk => k_is)
    (case pt_BadAsk => k_is)
    (case pm_BadAsk => k_is)
    (case k3_BadAsk => kernel_rfl)
    (case k4_BadAsk_BadText => kernel_rfl)
    (case k4_BadAsk_BadCode => kernel_rfl)
    (case k4_BadAsk_BadAsk => kernel_rfl)
    (case k4_BadAsk_NoSuch => kernel_rfl)
    (case k4_BadAsk_TooLarge => kernel_rfl)
    (case k4_BadAsk_BadDeed => kernel_rfl)
    (case k4_BadAsk_ValueError => kernel_rfl)
    (case pg_NoSuch => k_is)
    (case pk_NoSuch => k_is)
    (case pd_NoSuch => k_is)
    (case pa_NoSuch => k_is)
    (case pn_NoSuch => k_is)
    (case pt_NoSuch => k_is)
    (case pm_NoSuch => k_is)
    (case k3_NoSuch => kernel_rfl)
    (case k4_NoSuch_BadText => kernel_rfl)
    (case k4_NoSuch_BadCode => kernel_rfl)
    (case k4_NoSuch_BadAsk => kernel_rfl)
    (case k4_NoSuch_NoSuch => kernel_rfl)
    (case k4_NoSuch_TooLarge => kernel_rfl)
    (case k4_NoSuch_BadDeed => kernel_rfl)
    (case k4_NoSuch_ValueError => kernel_rfl)
    (case pg_TooLarge => k_is)
    (case pk_TooLarge => k_is)
    (case pd_TooLarge => k_is)
    (case pa_TooLarge => k_is)
    (case pn_TooLarge => k_is)
    (case pt_TooLarge => k_is)
    (case pm_TooLarge => k_is)
    (case k3_TooLarge => kernel_rfl)
    (case k4_TooLarge_BadText => kernel_rfl)
    (case k4_TooLarge_BadCode => kernel_rfl)
    (case k4_TooLarge_BadAsk => kernel_rfl)
    (case k4_TooLarge_NoSuch => kernel_rfl)
    (case k4_TooLarge_TooLarge => kernel_rfl)
    (case k4_TooLarge_BadDeed => kernel_rfl)
    (case k4_TooLarge_ValueError => kernel_rfl)
    (case pg_BadDeed => k_is)
    (case pk_BadDeed => k_is)
    (case pd_BadDeed => k_is)
    (case pa_BadDeed => k_is)
    (case pn_BadDeed => k_is)
    (case pt_BadDeed => k_is)
    (case pm_BadDeed => k_is)
    (case k3_BadDeed => kernel_rfl)
    (case k4_BadDeed_BadText => kernel_rfl)
    (case k4_BadDeed_BadCode => kernel_rfl)
    (case k4_BadDeed_BadAsk => kernel_rfl)
    (case k4_BadDeed_NoSuch => kernel_rfl)
    (case k4_BadDeed_TooLarge => kernel_rfl)
    (case k4_BadDeed_BadDeed => kernel_rfl)
    (case k4_BadDeed_ValueError => kernel_rfl)
    (case oq_ => k_is)
    (case tp_ => first | rfl | decide +kernel)
    (case m_Index => k_is)
    (case pg_Index => k_is)
    (case hd_Index => k_is)
    (case po_Index => k_is)
    (case sa_Index => k_is)
    (case mk_Index => k_is)
    (case kc_Index => k_is)
    (case nf_Index_gone => k_is)
    (case nf_Index_joins => k_is)
    (case nf_Index_most => k_is)
    (case nf_Index_parts => k_is)
    (case nf_Index_where => k_is)
    (case m_Hall => k_is)
    (case pg_Hall => k_is)
    (case hd_Hall => k_is)
    (case po_Hall => k_is)
    (case sa_Hall => k_is)
    (case mk_Hall => k_is)
    (case kc_Hall => k_is)
    (case nf_Hall_asks => k_is)
    (case nf_Hall_deeds => k_is)
    (case nf_Hall_index => k_is)
    (case nf_Hall_undone => k_is)
    (case m_Tree => k_is)
    (case pg_Tree => k_is)
    (case hd_Tree => k_is)
    (case po_Tree => k_is)
    (case sa_Tree => k_is)
    (case mk_Tree => k_is)
    (case kc_Tree => k_is)
    (case nf_Tree_below => k_is)
    (case nf_Tree_next => k_is)
    (case nf_Tree_often => k_is)
    (case n_is_text => k_is)
    (case l_is_text => k_is)
    (case cc_is_text => k_is)
    (case k_is_text => k_is)
    (case n_check_text => k_is)
    (case l_check_text => k_is)
    (case cc_check_text => k_is)
    (case k_check_text => k_is)
    (case n_both => k_is)
    (case l_both => k_is)
    (case cc_both => k_is)
    (case k_both => k_is)
    (case n_either => k_is)
    (case l_either => k_is)
    (case cc_either => k_is)
    (case k_either => k_is)
    (case n_less => k_is)
    (case l_less => k_is)
    (case cc_less => k_is)
    (case k_less => k_is)
    (case n_decoded => k_is)
    (case l_decoded => k_is)
    (case cc_decoded => k_is)
    (case k_decoded => k_is)
    (case n_is_plain => k_is)
    (case l_is_plain => k_is)
    (case cc_is_plain => k_is)
    (case k_is_plain => k_is)
    (case n_named => k_is)
    (case l_named => k_is)
    (case cc_named => k_is)
    (case k_named => k_is)
    (case n_cut => k_is)
    (case l_cut => k_is)
    (case cc_cut => k_is)
    (case k_cut => k_is)
    (case n_single => k_is)
    (case l_single => k_is)
    (case cc_single => k_is)
    (case k_single => k_is)
    (case n_every => k_is)
    (case l_every => k_is)
    (case cc_every => k_is)
    (case k_every => k_is)
    (case n_some => k_is)
    (case l_some => k_is)
    (case cc_some => k_is)
    (case k_some => k_is)
    (case n_read => k_is)
    (case l_read => k_is)
    (case cc_read => k_is)
    (case k_read => k_is)
    (case n_answered => k_is)
    (case l_answered => k_is)
    (case cc_answered => k_is)
    (case k_answered => k_is)
    (case n_by_phrase => k_is)
    (case l_by_phrase => k_is)
    (case cc_by_phrase => k_is)
    (case k_by_phrase => k_is)
    (case n_stands => k_is)
    (case l_stands => k_is)
    (case cc_stands => k_is)
    (case k_stands => k_is)
    (case n_by_near => k_is)
    (case l_by_near => k_is)
    (case cc_by_near => k_is)
    (case k_by_near => k_is)
    (case n_plain => k_is)
    (case l_plain => k_is)
    (case cc_plain => k_is)
    (case k_plain => k_is)
    (case n_walk => k_is)
    (case l_walk => k_is)
    (case cc_walk => k_is)
    (case k_walk => k_is)
    (case n_law_dice => k_is)
    (case l_law_dice => k_is)
    (case cc_law_dice => k_is)
    (case k_law_dice => k_is)
    (case n_law_roll => k_is)
    (case l_law_roll => k_is)
    (case cc_law_roll => k_is)
    (case k_law_roll => k_is)
    (case n_law_rounds => k_is)
    (case l_law_rounds => k_is)
    (case cc_law_rounds => k_is)
    (case k_law_rounds => k_is)
    (case fi_Index_remove => k_is)
    (case fn_Index_remove => k_is)
    (case l_Index_remove => k_is)
    (case cc_Index_remove => k_is)
    (case k_Index_remove => k_is)
    (case fi_Tree_init => k_is)
    (case fn_Tree_init => k_is)
    (case l_Tree_init => k_is)
    (case cc_Tree_init => k_is)
    (case k_Tree_init => k_is)
    (case fi_Tree_within => k_is)
    (case fn_Tree_within => k_is)
    (case l_Tree_within => k_is)
    (case cc_Tree_within => k_is)
    (case k_Tree_within => k_is)
    (case fi_Index_numbers => k_is)
    (case fn_Index_numbers => k_is)
    (case l_Index_numbers => k_is)
    (case cc_Index_numbers => k_is)
    (case k_Index_numbers => k_is)
    (case fi_Hall_state => k_is)
    (case fn_Hall_state => k_is)
    (case l_Hall_state => k_is)
    (case cc_Hall_state => k_is)
    (case k_Hall_state => k_is)
    (case fi_Hall_note => k_is)
    (case fn_Hall_note => k_is)
    (case l_Hall_note => k_is)
    (case cc_Hall_note => k_is)
    (case k_Hall_note => k_is)
    (case fi_Hall_take => k_is)
    (case fn_Hall_take => k_is)
    (case l_Hall_take => k_is)
    (case cc_Hall_take => k_is)
    (case k_Hall_take => k_is)
    (case fi_Index_init => k_is)
    (case fn_Index_init => k_is)
    (case l_Index_init => k_is)
    (case cc_Index_init => k_is)
    (case k_Index_init => k_is)
    (case fi_Hall_init => k_is)
    (case fn_Hall_init => k_is)
    (case l_Hall_init => k_is)
    (case cc_Hall_init => k_is)
    (case k_Hall_init => k_is)
    (case fi_Index_text => k_is)
    (case fn_Index_text => k_is)
    (case l_Index_text => k_is)
    (case cc_Index_text => k_is)
    (case k_Index_text => k_is)
    (case fi_Index_holds => k_is)
    (case fn_Index_holds => k_is)
    (case l_Index_holds => k_is)
    (case cc_Index_holds => k_is)
    (case k_Index_holds => k_is)
    (case fi_Index_places => k_is)
    (case fn_Index_places => k_is)
    (case l_Index_places => k_is)
    (case cc_Index_places => k_is)
    (case k_Index_places => k_is)
    (case fi_Index_all_words => k_is)
    (case fn_Index_all_words => k_is)
    (case l_Index_all_words => k_is)
    (case cc_Index_all_words => k_is)
    (case k_Index_all_words => k_is)
    (case fi_Hall_every_text => k_is)
    (case fn_Hall_every_text => k_is)
    (case l_Hall_every_text => k_is)
    (case cc_Hall_every_text => k_is)
    (case k_Hall_every_text => k_is)
    (case fi_Hall_find => k_is)
    (case fn_Hall_find => k_is)
    (case l_Hall_find => k_is)
    (case cc_Hall_find => k_is)
    (case k_Hall_find => k_is)
    (case fi_Tree_node => k_is)
    (case fn_Tree_node => k_is)
    (case l_Tree_node => k_is)
    (case cc_Tree_node => k_is)
    (case k_Tree_node => k_is)
    (case n_law_told => k_is)
    (case l_law_told => k_is)
    (case cc_law_told => k_is)
    (case k_law_told => k_is)
    (case n_law => k_is)
    (case l_law => k_is)
    (case cc_law => k_is)
    (case mc_FIGURES => k_is)
    (case mv_FIGURES => decide +kernel)
    (case mc_LONG => k_is)
    (case mc_SMALL => k_is)
    (case mv_SMALL => decide +kernel)
    (case b_ValueError => k_is)
    (case b_abs => k_is)
    (case b_all => k_is)
    (case b_any => k_is)
    (case b_int => k_is)
    (case b_isinstance => k_is)
    (case b_len => k_is)
    (case b_list => k_is)
    (case b_range => k_is)
    (case b_sorted => k_is)
    (case b_str => k_is)
    (case b_super => k_is)
    (case b_tuple => k_is)
    (case ht_decoded => exact hT8 161 (by decide))
    (case hh_decoded => kernel_rfl)
    (case hn_decoded => kernel_rfl)
    (case ht_is_plain => exact hT8 180 (by decide))
    (case hh_is_plain => kernel_rfl)
    (case hn_is_plain => kernel_rfl)
    (case ht_named => exact hT8 187 (by decide))
    (case hh_named => kernel_rfl)
    (case hn_named => kernel_rfl)
    (case ht_cut => exact hT8 173 (by decide))
    (case hh_cut => kernel_rfl)
    (case hn_cut => kernel_rfl)
    (case ht_law => exact hT8 593 (by decide))
    (case hh_law => kernel_rfl)
    (case hn_law => kernel_rfl)
    (case ne_is_plain_decoded => exact (by decide))
    (case ne_named_decoded => exact (by decide))
    (case ne_named_is_plain => exact (by decide))
    (case ne_cut_decoded => exact (by decide))
    (case ne_cut_is_plain => exact (by decide))
    (case ne_cut_named => exact (by decide))
    (case ne_law_decoded => exact (by decide))
    (case ne_law_is_plain => exact (by decide))
    (case ne_law_named => exact (by decide))
    (case ne_law_cut => exact (by decide))
