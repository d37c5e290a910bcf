import PyProof.Rows.All
import Wide.All
import OpenK.AllK
import Wide.FinOn
import HandS.ForMost
import HandS.Exc
import HandS.ExcOwn
import HandS.WordsExc
import HandS.TryMany
import HandS.Flow
import HandS.Lambda
import HandS.EndTab
import HandS.Small
import HandS.TupAny
import HandS.Deep
import HandS.Wide
import HandS.Conv
import KE.KNestM
import HandS.Style
import KE.DataMinMax
import KE.DatumOrd
import KE.SortData
import HandS.GenOver
import HandS.Text
import PyProof.Rows.RowBridgeK
import KE.DataCmp
import HandS.IsInst
import HandS.AnyAll
import KE.SortKeyHeap
import HandS.Set
import PyProof.TupleOfSeq
import HandS.Sort
import HandS.JoinGen
import PyProof.WalksMore
import PyProof.SumAny
import HandS.SetKeys
import HandS.Iter
import HandS.ListItems
import HandS.SetFor
import HandS.Replace
import PyProof.StrOps2
import HandS.SetBool
import KE.KExcSuper
import HandS.ExcInit
import HandS.Nested
import HandS.ExcIs
import HandS.ExcField
import HandS.Rev
import PyProof.Rows.StrRules
import PyProof.CollectStr
import PyProof.ListRange
import PyProof.StrLawsTight
import KE.KTupSum
import PySem.Challenge.RW_indexhall_k05_rows_coded
set_option Elab.async false
set_option linter.all false
set_option maxRecDepth 100000
/-! A second reading of defs over the hand layer: plain functions on plain data with a small heap of their own; each rule once. -/
namespace L2
open PySem
theorem PE.imp {X : Cx} {e : Expr} {t t' : TE} (p : PE X e t) (i : ∀ σ H Q, t' σ H Q → t σ H Q) : PE X e t' := ⟨fun pins s σ H Q I q => p.run pins s σ H Q I (i σ H Q q)⟩
theorem PT.imp {X : Cx} {e : Expr} {t t' : TT} (p : PT X e t) (i : ∀ σ H Q, t' σ H Q → t σ H Q) : PT X e t' := ⟨fun pins s σ H Q I q => p.run pins s σ H Q I (i σ H Q q)⟩
theorem PW.imp {X : Cx} {e : Expr} {t t' : TT} (p : PW X e t) (i : ∀ σ H Q, t' σ H Q → t σ H Q) : PW X e t' := ⟨fun wh pins s σ H Q I q => p.run wh pins s σ H Q I (i σ H Q q)⟩
theorem PA.imp {X : Cx} {e : List Expr} {t t' : TA} (p : PA X e t) (i : ∀ σ H Q, t' σ H Q → t σ H Q) : PA X e t' := ⟨fun pos pins s σ H Q I q => p.run pos pins s σ H Q I (i σ H Q q)⟩
theorem PS.imp {X : Cx} {e : Stmt} {t t' : TS} (p : PS X e t) (i : ∀ D σ H, t' D σ H → t D σ H) : PS X e t' := ⟨fun pins s σ H D I q => p.run pins s σ H D I (i D σ H q)⟩
theorem PSs.imp {X : Cx} {e : List Stmt} {t t' : TS} (p : PSs X e t) (i : ∀ D σ H, t' D σ H → t D σ H) : PSs X e t' := ⟨fun pins s σ H D I q => p.run pins s σ H D I (i D σ H q)⟩
end L2
namespace Den
open PySem L2

/-- values as plain data: tuples by what is in them; ref n: the n-th object of the small heap; rol: a list that nobody changes -/
inductive W where
  | non | bl (b : Bool) | int (i : Int) | str (s : List Nat) | tup (xs : List W) | rol (xs : List W) | ref (n : Nat)
  deriving Inhabited
/-- objects of the small heap -/
inductive O where
  | lst (xs : List W)
  | dic (kvs : List (W × W))
  | dik (kvs : List (W × W))
  | ins (c : Nat) (fs : List (Str × W))
  deriving Inhabited
/-- what the text's own classes and tables are called -/
structure Gx where
  T : List (Addr × Str)
  ca : Nat → Option Addr

/-! ### values and data -/
mutual
def VR (K : PySem.W.Frag) (H : Hp) (ρ : List Addr) : V → W → Prop
  | v, .non => v = .non
  | v, .bl b => v = .bl b
  | v, .int i => v = .int i
  | v, .str s => v = .str ⟨s.toArray⟩
  | v, .tup xs => ∃ a vs, v = .ref a ∧ SqT K H a vs ∧ VRs K H ρ vs xs
  | v, .rol xs => ∃ a vs, v = .ref a ∧ ((Rd H a (.lst vs) ∧ a ∉ ρ) ∨ ∀ H' : Hp, SqL K H' a vs) ∧ VRs K H ρ vs xs
  | v, .ref n => ∃ a, v = .ref a ∧ ρ[n]? = some a
def VRs (K : PySem.W.Frag) (H : Hp) (ρ : List Addr) : List V → List W → Prop
  | vs, [] => vs = []
  | vs, x :: xs => ∃ v r, vs = v :: r ∧ VR K H ρ v x ∧ VRs K H ρ r xs
end
def KRs (K : PySem.W.Frag) (H : Hp) (ρ : List Addr) : List (Key × V) → List (W × W) → Prop
  | ps, [] => ps = []
  | ps, (k, x) :: xs => ∃ q v r, ps = (q, v) :: r ∧ VR K H ρ (kV q) k ∧ VR K H ρ v x ∧ KRs K H ρ r xs
def FRs (K : PySem.W.Frag) (H : Hp) (ρ : List Addr) : List (Str × V) → List (Str × W) → Prop
  | ps, [] => ps = []
  | ps, (k, x) :: xs => ∃ v r, ps = (k, v) :: r ∧ VR K H ρ v x ∧ FRs K H ρ r xs
/-- what object stands at a -/
def OR (K : PySem.W.Frag) (G : Gx) (H : Hp) (ρ : List Addr) (a : Addr) : O → Prop
  | .lst xs => ∃ vs, H a = some (.lst vs) ∧ VRs K H ρ vs xs
  | .dic kvs => ∃ ps, H a = some (.dK ps) ∧ KRs K H ρ ps kvs
  | .dik kvs => ∃ o ps, H a = some (.frz o (.dK ps)) ∧ KRs K H ρ ps kvs
  | .ins c fs => ∃ C dx ps, G.ca c = some C ∧ H a = some (.ins C dx ps) ∧ FRs K H ρ ps fs
/-- what may be in the small heap -/
def isM : HO → Bool
  | .lst _ => true
  | .dK _ => true
  | .frz _ (.dK _) => true
  | .ins _ _ _ => true
  | _ => false
def isTbl : HO → Bool
  | .tbl _ => true
  | _ => false
structure HR (K : PySem.W.Frag) (G : Gx) (H : Hp) (ρ : List Addr) (h : List O) : Prop where
  len : ρ.length = h.length
  nd : ρ.Nodup
  ob : ∀ (n : Nat) (a : Addr) (o : O), ρ[n]? = some a → h[n]? = some o → OR K G H ρ a o
  tb : LamX.Tabs G.T H
/-- the slots -/
abbrev Env := List (Option W)
structure SR (K : PySem.W.Frag) (H : Hp) (ρ : List Addr) (σ : L2.St) (e : Env) : Prop where
  len : σ.length = e.length
  at_ : ∀ (i : Nat) (w : W), e[i]? = some (some w) → ∃ v, σ[i]? = some (some v) ∧ VR K H ρ v w
/-- all that is not ours stays; what is new was not there -/
structure Ext (H : Hp) (ρ : List Addr) (H' : Hp) (ρ' : List Addr) : Prop where
  fr : ∀ a o, H a = some o → isTbl o = false → a ∉ ρ → H' a = some o
  pre : ρ <+: ρ'
  new : ∀ a, a ∈ ρ' → a ∉ ρ → H a = none ∨ ∃ o, H a = some o ∧ isTbl o = true
  mu : ∀ a, a ∈ ρ → ∃ o, H a = some o ∧ isM o = true
  lk : ∀ a o u, H a = some (.frz o u) → H' a = some (.frz o u)

theorem OR.mut {K : PySem.W.Frag} {G : Gx} {H : Hp} {ρ : List Addr} {a : Addr} {o : O} (x : OR K G H ρ a o) : ∃ u, H a = some u ∧ isM u = true := by
  cases o with
  | lst xs => obtain ⟨vs, e, _⟩ := x; exact ⟨_, e, rfl⟩
  | dic xs => obtain ⟨vs, e, _⟩ := x; exact ⟨_, e, rfl⟩
  | dik xs => obtain ⟨o, vs, e, _⟩ := x; exact ⟨_, e, rfl⟩
  | ins c fs => obtain ⟨C, dx, ps, _, e, _⟩ := x; exact ⟨_, e, rfl⟩
section
variable {K : PySem.W.Frag} {G : Gx} {H H' H1 H2 : Hp} {ρ ρ' ρ1 ρ2 : List Addr} {h : List O}
theorem HR.mu (r : HR K G H ρ h) : ∀ a, a ∈ ρ → ∃ o, H a = some o ∧ isM o = true := fun a ha => by
  obtain ⟨n, hn, e⟩ := List.getElem_of_mem ha
  have hn2 : n < h.length := by rw [← r.len]; exact hn
  exact (r.ob n a h[n] (by rw [List.getElem?_eq_getElem hn, e]) (List.getElem?_eq_getElem hn2)).mut
theorem Ext.refl (r : HR K G H ρ h) : Ext H ρ H ρ := ⟨fun _ _ e _ _ => e, List.prefix_rfl, fun _ a b => absurd a b, r.mu, fun _ _ _ e => e⟩
theorem Ext.trans (a : Ext H ρ H1 ρ1) (b : Ext H1 ρ1 H2 ρ2) : Ext H ρ H2 ρ2 where
  fr := fun x o e t n => by
    refine b.fr x o (a.fr x o e t n) t fun hx => ?_
    rcases a.new x hx n with z | ⟨u, z, q⟩
    · rw [e] at z; cases z
    · rw [e] at z; cases z; rw [t] at q; cases q
  pre := a.pre.trans b.pre
  new := fun x hx n => by
    by_cases h1 : x ∈ ρ1
    · exact a.new x h1 n
    · cases q : H x with
      | none => exact .inl rfl
      | some o =>
        cases t : isTbl o with
        | true => exact .inr ⟨o, rfl, t⟩
        | false =>
          have z := a.fr x o q t n
          rcases b.new x hx h1 with z2 | ⟨u, z2, q2⟩
          · rw [z] at z2; cases z2
          · rw [z] at z2; cases z2; rw [t] at q2; cases q2
  mu := a.mu
  lk := fun x o u e => b.lk x o u (a.lk x o u e)
theorem pre_get {α : Type} {l l' : List α} (h : l <+: l') {n : Nat} {a : α} (e : l[n]? = some a) : l'[n]? = some a := by
  obtain ⟨t, rfl⟩ := h
  obtain ⟨hn, e2⟩ := List.getElem?_eq_some_iff.mp e
  rw [List.getElem?_append_left hn]
  exact e
theorem Ext.tup (x : Ext H ρ H' ρ') {a : Addr} {vs : List V} (h : SqT K H a vs) : SqT K H' a vs := by
  have key : ∀ o, H a = some o → isM o = false → isTbl o = false → H' a = some o := fun o e m t =>
    x.fr a o e t fun ha => by
      obtain ⟨u, e2, m2⟩ := x.mu a ha
      rw [e] at e2; cases e2; rw [m] at m2; cases m2
  rcases h with (h | ⟨o, h⟩) | h
  · exact .inl (.inl (key _ h rfl rfl))
  · exact .inl (.inr ⟨o, key _ h rfl rfl⟩)
  · exact .inr h
theorem Ext.rol (x : Ext H ρ H' ρ') {a : Addr} {vs : List V} (h : (Rd H a (.lst vs) ∧ a ∉ ρ) ∨ ∀ H' : Hp, SqL K H' a vs) : (Rd H' a (.lst vs) ∧ a ∉ ρ') ∨ ∀ H' : Hp, SqL K H' a vs := by
  have key : ∀ o, H a = some o → isTbl o = false → a ∉ ρ → H' a = some o ∧ a ∉ ρ' := fun o e t n => ⟨x.fr a o e t n, fun ha => by
    rcases x.new a ha n with z | ⟨u, z, q⟩
    · rw [e] at z; cases z
    · rw [e] at z; cases z; rw [t] at q; cases q⟩
  rcases h with ⟨h | ⟨o, h⟩, n⟩ | h
  · obtain ⟨a1, a2⟩ := key _ h rfl n
    exact .inl ⟨.inl a1, a2⟩
  · obtain ⟨a1, a2⟩ := key _ h rfl n
    exact .inl ⟨.inr ⟨o, a1⟩, a2⟩
  · exact .inr h
mutual
theorem VR.mono (x : Ext H ρ H' ρ') : ∀ {v : V} {w : W}, VR K H ρ v w → VR K H' ρ' v w
  | v, .non, h => h
  | v, .bl _, h => h
  | v, .int _, h => h
  | v, .str _, h => h
  | v, .tup xs, h => by
    unfold VR at h ⊢
    obtain ⟨a, vs, e, q, r⟩ := h
    exact ⟨a, vs, e, x.tup q, VRs.mono x r⟩
  | v, .rol xs, h => by
    unfold VR at h ⊢
    obtain ⟨a, vs, e, q, r⟩ := h
    exact ⟨a, vs, e, x.rol q, VRs.mono x r⟩
  | v, .ref n, h => by
    unfold VR at h ⊢
    obtain ⟨a, e, q⟩ := h
    exact ⟨a, e, pre_get x.pre q⟩
theorem VRs.mono (x : Ext H ρ H' ρ') : ∀ {vs : List V} {ws : List W}, VRs K H ρ vs ws → VRs K H' ρ' vs ws
  | vs, [], h => h
  | vs, w :: ws, h => by
    unfold VRs at h ⊢
    obtain ⟨v, r, e, q, z⟩ := h
    exact ⟨v, r, e, VR.mono x q, VRs.mono x z⟩
end
theorem KRs.mono (x : Ext H ρ H' ρ') : ∀ {ps : List (Key × V)} {ws : List (W × W)}, KRs K H ρ ps ws → KRs K H' ρ' ps ws
  | vs, [], h => h
  | vs, (k, w) :: ws, h => by
    unfold KRs at h ⊢
    obtain ⟨q, v, r, e, a, b, c⟩ := h
    exact ⟨q, v, r, e, a.mono x, b.mono x, KRs.mono x c⟩
theorem FRs.mono (x : Ext H ρ H' ρ') : ∀ {ps : List (Str × V)} {ws : List (Str × W)}, FRs K H ρ ps ws → FRs K H' ρ' ps ws
  | vs, [], h => h
  | vs, (k, w) :: ws, h => by
    unfold FRs at h ⊢
    obtain ⟨v, r, e, b, c⟩ := h
    exact ⟨v, r, e, b.mono x, FRs.mono x c⟩
theorem SR.mono {σ : L2.St} {e : Env} (x : Ext H ρ H' ρ') (s : SR K H ρ σ e) : SR K H' ρ' σ e := ⟨s.len, fun i w h => by
  obtain ⟨v, a, b⟩ := s.at_ i w h
  exact ⟨v, a, b.mono x⟩⟩
theorem SR.set {σ : L2.St} {e : Env} {v : V} {w : W} (s : SR K H ρ σ e) (i : Nat) (r : VR K H ρ v w) : SR K H ρ (σ.set i (some v)) (e.set i (some w)) := by
  refine ⟨by rw [List.length_set, List.length_set]; exact s.len, fun j x hx => ?_⟩
  by_cases hj : i = j
  · subst hj
    by_cases hl : i < e.length
    · rw [List.getElem?_set_self hl] at hx
      cases hx
      exact ⟨v, List.getElem?_set_self (by rw [s.len]; exact hl), r⟩
    · rw [List.getElem?_eq_none (by simpa using hl)] at hx; cases hx
  · rw [List.getElem?_set_ne hj] at hx
    rw [List.getElem?_set_ne hj]
    exact s.at_ j x hx
theorem VRs.length : ∀ {vs : List V} {ws : List W}, VRs K H ρ vs ws → vs.length = ws.length
  | vs, [], h => by unfold VRs at h; rw [h]; rfl
  | vs, w :: ws, h => by
    unfold VRs at h
    obtain ⟨v, r, e, _, z⟩ := h
    rw [e, List.length_cons, List.length_cons, VRs.length z]
theorem VRs.get : ∀ {vs : List V} {ws : List W} {i : Nat} {w : W}, VRs K H ρ vs ws → ws[i]? = some w → ∃ v, vs[i]? = some v ∧ VR K H ρ v w
  | vs, [], i, w, _, e => by simp at e
  | vs, x :: ws, 0, w, h, e => by
    unfold VRs at h
    obtain ⟨v, r, rfl, q, _⟩ := h
    simp at e
    subst e
    exact ⟨v, rfl, q⟩
  | vs, x :: ws, i + 1, w, h, e => by
    unfold VRs at h
    obtain ⟨v, r, rfl, _, z⟩ := h
    obtain ⟨u, a, b⟩ := VRs.get (i := i) z (by simpa using e)
    exact ⟨u, by simpa using a, b⟩
theorem VRs.set {v : V} {w : W} (q : VR K H ρ v w) : ∀ {vs : List V} {ws : List W} (i : Nat), VRs K H ρ vs ws → VRs K H ρ (vs.set i v) (ws.set i w)
  | vs, [], i, h => by unfold VRs at h ⊢; rw [h]; rfl
  | vs, x :: ws, 0, h => by
    unfold VRs at h
    obtain ⟨u, r, rfl, _, z⟩ := h
    show VRs K H ρ (v :: r) (w :: ws)
    unfold VRs
    exact ⟨v, r, rfl, q, z⟩
  | vs, x :: ws, i + 1, h => by
    unfold VRs at h
    obtain ⟨u, r, rfl, q', z⟩ := h
    show VRs K H ρ (u :: r.set i v) (x :: ws.set i w)
    unfold VRs
    exact ⟨u, _, rfl, q', VRs.set q i z⟩
theorem VRs.append : ∀ {vs us : List V} {ws xs : List W}, VRs K H ρ vs ws → VRs K H ρ us xs → VRs K H ρ (vs ++ us) (ws ++ xs)
  | vs, us, [], xs, h, h2 => by unfold VRs at h; rw [h]; exact h2
  | vs, us, x :: ws, xs, h, h2 => by
    unfold VRs at h
    obtain ⟨u, r, rfl, q', z⟩ := h
    show VRs K H ρ (u :: (r ++ us)) (x :: (ws ++ xs))
    unfold VRs
    exact ⟨u, _, rfl, q', VRs.append z h2⟩
theorem VRs.one {v : V} {w : W} (h : VR K H ρ v w) : VRs K H ρ [v] [w] := by
  unfold VRs
  exact ⟨v, [], rfl, h, by unfold VRs; rfl⟩
theorem VRs.nil : VRs K H ρ [] [] := by unfold VRs; rfl
theorem VRs.cons {v : V} {w : W} {vs : List V} {ws : List W} (h : VR K H ρ v w) (r : VRs K H ρ vs ws) : VRs K H ρ (v :: vs) (w :: ws) := by
  unfold VRs
  exact ⟨v, vs, rfl, h, r⟩
theorem VRs.take : ∀ {vs : List V} {ws : List W} (n : Nat), VRs K H ρ vs ws → VRs K H ρ (vs.take n) (ws.take n)
  | vs, ws, 0, h => by rw [List.take_zero, List.take_zero]; exact .nil
  | vs, [], n + 1, h => by unfold VRs at h; rw [h]; exact .nil
  | vs, x :: ws, n + 1, h => by
    unfold VRs at h
    obtain ⟨u, r, rfl, q', z⟩ := h
    exact .cons q' (VRs.take n z)
theorem VRs.drop : ∀ {vs : List V} {ws : List W} (n : Nat), VRs K H ρ vs ws → VRs K H ρ (vs.drop n) (ws.drop n)
  | vs, ws, 0, h => h
  | vs, [], n + 1, h => by unfold VRs at h; rw [h]; exact .nil
  | vs, x :: ws, n + 1, h => by
    unfold VRs at h
    obtain ⟨u, r, rfl, q', z⟩ := h
    exact VRs.drop n z
theorem OR.mono {a : Addr} {o : O} (x : Ext H ρ H' ρ') (s : H' a = H a) (h : OR K G H ρ a o) : OR K G H' ρ' a o := by
  cases o with
  | lst xs =>
    obtain ⟨vs, e, r⟩ := h
    exact ⟨vs, s.trans e, r.mono x⟩
  | dic xs =>
    obtain ⟨vs, e, r⟩ := h
    exact ⟨vs, s.trans e, r.mono x⟩
  | dik xs =>
    obtain ⟨o, vs, e, r⟩ := h
    exact ⟨o, vs, s.trans e, r.mono x⟩
  | ins c fs =>
    obtain ⟨C, dx, ps, c, e, r⟩ := h
    exact ⟨C, dx, ps, c, s.trans e, r.mono x⟩
theorem tabs_upd {T : List (Addr × Str)} {a : Addr} {o : HO} (h : LamX.Tabs T H) (n : H a = none ∨ ∃ u, H a = some u ∧ isM u = true) : LamX.Tabs T (upd H a o) := fun p hp => by
  obtain ⟨ps, e1, e2, e3⟩ := h p hp
  have ne : ∀ b u, H b = some u → isM u = false → b ≠ a := fun b u e m z => by
    subst z
    rcases n with n | ⟨u2, n, m2⟩
    · rw [e] at n; cases n
    · rw [e] at n; cases n; rw [m] at m2; cases m2
  refine ⟨ps, by rw [upd_ne (ne _ _ e1 rfl)]; exact e1, e2, fun pos cv hc => ?_⟩
  obtain ⟨c, e, q⟩ := e3 pos cv hc
  exact ⟨c, e, by rw [upd_ne (ne _ _ q rfl)]; exact q⟩
/-- a new object that is not ours (a tuple, an iterator ..) -/
theorem HR.other {p : Addr} {o : HO} (r : HR K G H ρ h) (hp : H p = none) : HR K G (upd H p o) ρ h ∧ Ext H ρ (upd H p o) ρ := by
  have x : Ext H ρ (upd H p o) ρ := ⟨fun a u e _ _ => by rw [upd_ne (ne_of_none e hp)]; exact e, List.prefix_rfl, fun _ a b => absurd a b, r.mu, fun a o u e => by rw [upd_ne (ne_of_none e hp)]; exact e⟩
  refine ⟨⟨r.len, r.nd, fun n a u e1 e2 => (r.ob n a u e1 e2).mono x ?_, tabs_upd r.tb (.inl hp)⟩, x⟩
  obtain ⟨w, hw, _⟩ := (r.ob n a u e1 e2).mut
  exact upd_ne (ne_of_none hw hp)
theorem app_get {α : Type} {l : List α} {x y : α} {n : Nat} (h : (l ++ [x])[n]? = some y) : l[n]? = some y ∨ (n = l.length ∧ y = x) := by
  by_cases hn : n < l.length
  · rw [List.getElem?_append_left hn] at h; exact .inl h
  · by_cases h2 : n = l.length
    · subst h2; simp at h; exact .inr ⟨rfl, h.symm⟩
    · rw [List.getElem?_eq_none (by simp; omega)] at h; cases h
/-- a new object of ours -/
theorem HR.new {p : Addr} {o : HO} {u : O} (r : HR K G H ρ h) (hp : H p = none) (hm : isM o = true) (hu : Ext H ρ (upd H p o) (ρ ++ [p]) → OR K G (upd H p o) (ρ ++ [p]) p u) :
    HR K G (upd H p o) (ρ ++ [p]) (h ++ [u]) ∧ Ext H ρ (upd H p o) (ρ ++ [p]) := by
  have np : p ∉ ρ := fun z => by
    obtain ⟨w, hw, _⟩ := r.mu p z
    rw [hp] at hw; cases hw
  have x : Ext H ρ (upd H p o) (ρ ++ [p]) := ⟨fun a u e _ _ => by rw [upd_ne (ne_of_none e hp)]; exact e, List.prefix_append _ _, fun a ha n => by
    rcases List.mem_append.mp ha with z | z
    · exact absurd z n
    · have e : a = p := by simpa using z
      rw [e]; exact .inl hp, r.mu, fun a o u e => by rw [upd_ne (ne_of_none e hp)]; exact e⟩
  refine ⟨⟨by simp [r.len], ?_, fun n a w e1 e2 => ?_, tabs_upd r.tb (.inl hp)⟩, x⟩
  · rw [List.nodup_append]
    refine ⟨r.nd, by simp, fun a ha b hb => ?_⟩
    have e : b = p := by simpa using hb
    subst e
    exact fun z => np (z ▸ ha)
  · rcases app_get e1 with z1 | ⟨z1, z2⟩
    · have hn : n < ρ.length := (List.getElem?_eq_some_iff.mp z1).1
      rw [List.getElem?_append_left (by rw [← r.len]; exact hn)] at e2
      have q := r.ob n a w z1 e2
      obtain ⟨w', hw, _⟩ := q.mut
      exact q.mono x (upd_ne (ne_of_none hw hp))
    · rcases app_get e2 with y1 | ⟨y1, y2⟩
      · have hn : n < h.length := (List.getElem?_eq_some_iff.mp y1).1
        rw [← r.len] at hn
        omega
      · rw [z2, y2]; exact hu x
/-- not a locked dict -/
def NoDik (h : List O) (n : Nat) : Prop := ∀ kvs, h[n]? ≠ some (.dik kvs)
theorem HR.nofrz {n : Nat} {a : Addr} (r : HR K G H ρ h) (e1 : ρ[n]? = some a) (nk : NoDik h n) (o' : Obj) (u' : HO) : H a ≠ some (.frz o' u') := fun e => by
  have hn : n < h.length := by rw [← r.len]; exact (List.getElem?_eq_some_iff.mp e1).1
  have q := r.ob n a h[n] e1 (List.getElem?_eq_getElem hn)
  cases hh : h[n] with
  | lst xs => rw [hh] at q; obtain ⟨vs, z, _⟩ := q; rw [e] at z; cases z
  | dic xs => rw [hh] at q; obtain ⟨vs, z, _⟩ := q; rw [e] at z; cases z
  | dik xs => exact nk xs (by rw [List.getElem?_eq_getElem hn, hh])
  | ins c fs => rw [hh] at q; obtain ⟨C, dx, ps, _, z, _⟩ := q; rw [e] at z; cases z
/-- an object of ours is changed -/
theorem HR.write {n : Nat} {a : Addr} {o : HO} {u : O} (r : HR K G H ρ h) (e1 : ρ[n]? = some a) (nk : NoDik h n) (hm : isM o = true) (hu : Ext H ρ (upd H a o) ρ → OR K G (upd H a o) ρ a u) :
    HR K G (upd H a o) ρ (h.set n u) ∧ Ext H ρ (upd H a o) ρ := by
  have ha : a ∈ ρ := List.mem_of_getElem? e1
  have x : Ext H ρ (upd H a o) ρ := ⟨fun b u e _ n => by rw [upd_ne (fun z => n (by rw [z]; exact ha))]; exact e, List.prefix_rfl, fun _ a b => absurd a b, r.mu, fun b o' u' e => by
    rw [upd_ne (fun z => r.nofrz e1 nk o' u' (by rw [← z]; exact e))]; exact e⟩
  refine ⟨⟨by rw [List.length_set]; exact r.len, r.nd, fun m b w f1 f2 => ?_, tabs_upd r.tb (.inr (r.mu a ha))⟩, x⟩
  by_cases hmn : n = m
  · subst hmn
    rw [e1] at f1
    cases f1
    have hn : n < h.length := by rw [← r.len]; exact (List.getElem?_eq_some_iff.mp e1).1
    rw [List.getElem?_set_self hn] at f2
    cases f2
    exact hu x
  · rw [List.getElem?_set_ne hmn] at f2
    have nb : b ≠ a := fun z => by
      rw [z] at f1
      obtain ⟨h1, q1⟩ := List.getElem?_eq_some_iff.mp e1
      obtain ⟨h2, q2⟩ := List.getElem?_eq_some_iff.mp f1
      exact hmn ((List.getElem_inj r.nd).mp (q1.trans q2.symm))
    exact (r.ob m b w f1 f2).mono x (upd_ne nb)
end

/-! ### what comes out -/
inductive Out (α : Type) where
  | ok (a : α) (h : List O)
  | exc (c : Nat) (p : Option W) (h : List O)
  | bad
def Out.bnd {α β : Type} (o : Out α) (f : α → List O → Out β) : Out β :=
  match o with
  | .ok a h => f a h
  | .exc c p h => .exc c p h
  | .bad => .bad
@[simp] theorem Out.bnd_ok {α β : Type} (a : α) (h : List O) (f : α → List O → Out β) : (Out.ok a h).bnd f = f a h := rfl
@[simp] theorem Out.bnd_exc {α β : Type} (c : Nat) (p : Option W) (h : List O) (f : α → List O → Out β) : (Out.exc c p h : Out α).bnd f = .exc c p h := rfl
@[simp] theorem Out.bnd_bad {α β : Type} (f : α → List O → Out β) : (Out.bad : Out α).bnd f = .bad := rfl
abbrev M (α : Type) := Env → List O → Out α
/-- an exception: its class by name, its field 'place' -/
def ER (K : PySem.W.Frag) (G : Gx) (H : Hp) (ρ : List Addr) (cls : Value) (d : Option Addr) (c : Nat) (p : Option W) : Prop :=
  ∃ C, G.ca c = some C ∧ cls = .ref C ∧ match p with
    | none => d = none
    | some w => ∃ dd v, d = some dd ∧ H dd = some (.xd [("place", v)]) ∧ VR K H ρ v w
def Post (K : PySem.W.Frag) (G : Gx) (E : XK) {α β : Type} (Rel : Hp → List Addr → β → α → Prop) (Q : β → Hp → Prop) (H : Hp) (ρ : List Addr) : Out α → Prop
  | .ok w h' => ∀ ρ' H' v, Ext H ρ H' ρ' → HR K G H' ρ' h' → Rel H' ρ' v w → Q v H'
  | .exc c p h' => ∀ ρ' H' cls d, Ext H ρ H' ρ' → HR K G H' ρ' h' → ER K G H' ρ' cls d c p → E cls d H'
  | .bad => False
section
variable {K : PySem.W.Frag} {G : Gx} {H H' H1 H2 : Hp} {ρ ρ' ρ1 ρ2 : List Addr} {h : List O} {E : XK}
theorem Post.ext {α β : Type} {Rel : Hp → List Addr → β → α → Prop} {Q : β → Hp → Prop} {o : Out α} (x : Ext H ρ H1 ρ1) (p : Post K G E Rel Q H ρ o) : Post K G E Rel Q H1 ρ1 o := by
  cases o with
  | ok w h' => exact fun ρ' H' v x' r q => p ρ' H' v (x.trans x') r q
  | exc c q h' => exact fun ρ' H' cls d x' r q => p ρ' H' cls d (x.trans x') r q
  | bad => exact p
theorem Post.bnd {α β γ δ : Type} {Rel : Hp → List Addr → β → α → Prop} {Rel2 : Hp → List Addr → δ → γ → Prop} {Q : δ → Hp → Prop} {o : Out α} {f : α → List O → Out γ} (p : Post K G E Rel2 Q H ρ (o.bnd f)) :
    Post K G E Rel (fun v H1 => ∃ ρ1 h1 w, Ext H ρ H1 ρ1 ∧ HR K G H1 ρ1 h1 ∧ Rel H1 ρ1 v w ∧ Post K G E Rel2 Q H1 ρ1 (f w h1)) H ρ o := by
  cases o with
  | ok w h' => exact fun ρ' H' v x r q => ⟨ρ', h', w, x, r, q, Post.ext x p⟩
  | exc c q h' => exact p
  | bad => exact p
theorem Post.imp {α β : Type} {Rel : Hp → List Addr → β → α → Prop} {Q Q' : β → Hp → Prop} {o : Out α} (p : Post K G E Rel Q H ρ o) (i : ∀ v H', Q v H' → Q' v H') : Post K G E Rel Q' H ρ o := by
  cases o with
  | ok w h' => exact fun ρ' H' v x r q => i _ _ (p ρ' H' v x r q)
  | exc c q h' => exact p
  | bad => exact p
end
abbrev VRel (K : PySem.W.Frag) : Hp → List Addr → V → W → Prop := fun H ρ v w => VR K H ρ v w
abbrev VsRel (K : PySem.W.Frag) : Hp → List Addr → List V → List W → Prop := fun H ρ v w => VRs K H ρ v w
abbrev BRel : Hp → List Addr → Bool → Bool → Prop := fun _ _ a b => a = b
/-- an expression's reading by its plain function -/
def rd (K : PySem.W.Frag) (G : Gx) (Wx : WX) {α β : Type} (Rel : Hp → List Addr → β → α → Prop) (m : M α) : L2.St → Hp → (β → Hp → Prop) → Prop := fun σ H Q =>
  ∃ ρ e h, HR K G H ρ h ∧ SR K H ρ σ e ∧ Post K G (fun cls d H' => Wx cls d σ H') Rel Q H ρ (m e h)
/-- e is read by m -/
def SE (G : Gx) (X : Cx) (e : Expr) (m : M W) : Prop := ∀ Wx, Takes X Wx → PE X e (rd X.K G Wx (VRel X.K) m)
def ST (G : Gx) (X : Cx) (e : Expr) (m : M Bool) : Prop := ∀ Wx, Takes X Wx → PT X e (rd X.K G Wx BRel m)
def SW (G : Gx) (X : Cx) (e : Expr) (m : M Bool) : Prop := ∀ Wx, Takes X Wx → PW X e (rd X.K G Wx BRel m)
def SA (G : Gx) (X : Cx) (es : List Expr) (m : M (List W)) : Prop := ∀ Wx, Takes X Wx → PA X es (rd X.K G Wx (VsRel X.K) m)
/-- go on behind a part -/
theorem rd.bnd {K : PySem.W.Frag} {G : Gx} {Wx : WX} {α β γ δ : Type} {Rel : Hp → List Addr → β → α → Prop} {Rel2 : Hp → List Addr → δ → γ → Prop} {m : M α} {f : Env → α → List O → Out γ} {σ : L2.St} {H : Hp} {Q : δ → Hp → Prop}
    {Q' : β → Hp → Prop} (p : rd K G Wx Rel2 (fun e h => (m e h).bnd (f e)) σ H Q)
    (k : ∀ H0 ρ0 e, SR K H0 ρ0 σ e → ∀ v H1 ρ1 h1 w, Ext H0 ρ0 H1 ρ1 → HR K G H1 ρ1 h1 → Rel H1 ρ1 v w → Post K G (fun cls d H' => Wx cls d σ H') Rel2 Q H1 ρ1 (f e w h1) → Q' v H1) :
    rd K G Wx Rel m σ H Q' := by
  obtain ⟨ρ, e, h, hr, sr, p⟩ := p
  refine ⟨ρ, e, h, hr, sr, (Post.bnd (Rel := Rel) p).imp fun v H1 q => ?_⟩
  obtain ⟨ρ1, h1, w, x, r1, q1, p1⟩ := q
  exact k H ρ e sr v H1 ρ1 h1 w x r1 q1 p1
end Den
set_option maxRecDepth 100000
/-! Expressions: names, constants, operators, comparisons, tests, displays, subscripts, slices, calls. -/
namespace Den
open PySem L2
/-- sizes that we let pass -/
abbrev lim : Nat := 1000000
theorem lim_size {n : Nat} (h : n ≤ lim) : n ≤ sizeLine := by rw [PySem.sizeLine_eq]; exact Nat.le_trans h (by decide)

/-! ### names, constants -/
def mVar (i : Nat) : M W := fun e h => match e[i]? with
  | some (some w) => .ok w h
  | _ => .bad
def mC (w : W) : M W := fun _ h => .ok w h
section
variable {G : Gx} {X : Cx}
theorem se_var (i : Nat) {x : Str} {pos : Pos} (hN : X.N[i]? = some x := by rfl) (hv : Vis X.env.scope x := by first | exact Or.inl rfl | exact Or.inr (Or.inl rfl) | exact Or.inr (Or.inr rfl)) (hd : (x == ("__debug__" : Str)) = false := by decide)
    (hcd : (x == ("__classdict__" : Str)) = false := by decide) : SE G X (.Name x pos) (mVar i) := fun Wx tk => (pe_var hN hv hd hcd).imp fun σ H Q p => by
  obtain ⟨ρ, e, h, hr, sr, p⟩ := p
  unfold mVar at p
  split at p
  · rename_i w hw
    obtain ⟨v, hv, r⟩ := sr.at_ _ _ hw
    exact ⟨v, hv, p ρ H v (Ext.refl hr) hr r⟩
  · exact p.elim
theorem rd_c {K : PySem.W.Frag} {Wx : WX} {v : V} {w : W} {σ : L2.St} {H : Hp} {Q : VK} (hw : ∀ H ρ, VR K H ρ v w) (p : rd K G Wx (VRel K) (mC w) σ H Q) : Q v H := by
  obtain ⟨ρ, e, h, hr, sr, p⟩ := p
  exact p ρ H v (Ext.refl hr) hr (hw _ _)
theorem se_int {i : Int} {j : Nat} {pos : Pos} : SE G X (.Constant (.int i) j pos) (mC (.int i)) := fun Wx tk => pe_int.imp fun σ H Q p => rd_c (v := .int i) (fun _ _ => by unfold VR; rfl) p
theorem se_bl {b : Bool} {j : Nat} {pos : Pos} : SE G X (.Constant (.bool b) j pos) (mC (.bl b)) := fun Wx tk => pe_bl.imp fun σ H Q p => rd_c (v := .bl b) (fun _ _ => by unfold VR; rfl) p
theorem se_non {j : Nat} {pos : Pos} : SE G X (.Constant .none j pos) (mC .non) := fun Wx tk => pe_non.imp fun σ H Q p => rd_c (v := .non) (fun _ _ => by unfold VR; rfl) p
theorem se_str {x : Str} {l : List Nat} {j : Nat} {pos : Pos} (hx : x = ⟨l.toArray⟩ := by decide +kernel) : SE G X (.Constant (.str x) j pos) (mC (.str l)) := fun Wx tk => pe_str.imp fun σ H Q p => rd_c (v := .str x) (fun _ _ => by unfold VR; rw [hx]) p
/-- a module's constant -/
theorem se_glob {x : Str} {v : V} {u : Value} {w : W} {pos : Pos} (hg : Gl X x) (hm : X.mg x = some u) (r : RelV v u) (hw : ∀ H ρ, VR X.K H ρ v w) (hd : (x == ("__debug__" : Str)) = false := by decide) : SE G X (.Name x pos) (mC w) :=
  fun Wx tk => (pe_glob hg hm r hd).imp fun σ H Q p => rd_c hw p
end

/-! ### two operands -/
def mOp (op : W → W → List O → Out W) (a b : M W) : M W := fun e h => (a e h).bnd fun x h => (b e h).bnd fun y h => op x y h
def mUn (op : W → List O → Out W) (a : M W) : M W := fun e h => (a e h).bnd fun x h => op x h
/-- r serves op -/
def Serves2 (K : PySem.W.Frag) (G : Gx) (op : W → W → List O → Out W) (r : R2) : Prop := ∀ (E : XK) (H : Hp) (ρ : List Addr) (h : List O) (x y : V) (wx wy : W) (Q : VK),
  HR K G H ρ h → VR K H ρ x wx → VR K H ρ y wy → Post K G E (VRel K) Q H ρ (op wx wy h) → r x y H Q
def Serves1 (K : PySem.W.Frag) (G : Gx) (op : W → List O → Out W) (r : V → Hp → VK → Prop) : Prop := ∀ (E : XK) (H : Hp) (ρ : List Addr) (h : List O) (x : V) (wx : W) (Q : VK),
  HR K G H ρ h → VR K H ρ x wx → Post K G E (VRel K) Q H ρ (op wx h) → r x H Q
def OpS (G : Gx) (X : Cx) (f : Value → Value → Sem Value) (op : W → W → List O → Out W) : Prop := ∃ r, OpR X f r ∧ Serves2 X.K G op r
def UnS (G : Gx) (X : Cx) (f : Value → Sem Value) (op : W → List O → Out W) : Prop := ∃ r, UnR X f r ∧ Serves1 X.K G op r
section
variable {G : Gx} {X : Cx} {a b c : Expr} {ma mb mc : M W} {op : W → W → List O → Out W} {pos : Pos}
/-- the reading of two parts and an operation -/
theorem rd_op {K : PySem.W.Frag} {Wx : WX} {r : R2} (s : Serves2 K G op r) {σ : L2.St} {H : Hp} {Q : VK} (p : rd K G Wx (VRel K) (mOp op ma mb) σ H Q) : tOp r (rd K G Wx (VRel K) ma) (rd K G Wx (VRel K) mb) σ H Q := by
  refine rd.bnd (Rel := VRel K) p fun H0 ρ0 e sr x H1 ρ1 h1 wx x1 r1 vx p1 => ?_
  have sr1 := sr.mono x1
  refine ⟨ρ1, e, h1, r1, sr1, (Post.bnd (Rel := VRel K) p1).imp fun y H2 q => ?_⟩
  obtain ⟨ρ2, h2, wy, x2, r2, vy, p2⟩ := q
  exact s _ H2 ρ2 h2 x y wx wy Q r2 (vx.mono x2) vy p2
theorem se_op {o : Operator} (s : OpS G X (binaryOp o) op) (ha : SE G X a ma) (hb : SE G X b mb) : SE G X (.BinOp a o b pos) (mOp op ma mb) := fun Wx tk => by
  obtain ⟨r, ho, s⟩ := s
  exact (pe_op ho (ha Wx tk) (hb Wx tk)).imp fun σ H Q p => rd_op s p
theorem se_cmp {o : CmpOp} (s : OpS G X (compareOp o) op) (ha : SE G X a ma) (hb : SE G X b mb) (hm : behindInMarks o b = false := by first | exact nomark _ (by decide) (by decide) | rfl | (with_unfolding_all rfl)) :
    SE G X (.Compare a [o] [b] pos) (mOp op ma mb) := fun Wx tk => by
  obtain ⟨r, ho, s⟩ := s
  exact (pe_cmpR ho (ha Wx tk) (hb Wx tk) hm).imp fun σ H Q p => rd_op s p
theorem se_un {o : UnaryOp} {op : W → List O → Out W} (s : UnS G X (unaryOp o) op) (ha : SE G X a ma) : SE G X (.UnaryOp o a pos) (mUn op ma) := fun Wx tk => by
  obtain ⟨r, ho, s⟩ := s
  refine (pe_un ho (ha Wx tk)).imp fun σ H Q p => ?_
  refine rd.bnd (Rel := VRel X.K) p fun H0 ρ0 e sr x H1 ρ1 h1 wx x1 r1 vx p1 => ?_
  exact s _ H1 ρ1 h1 x wx Q r1 vx p1
end
/-- a bool as a test's answer -/
def asB : W → List O → Out Bool
  | .bl b, h => .ok b h
  | _, _ => .bad
def mB (m : M W) : M Bool := fun e h => (m e h).bnd asB
section
variable {G : Gx} {X : Cx} {a b c : Expr} {ma mb mc : M W} {op op' : W → W → List O → Out W} {pos : Pos}
theorem asB_post {K : PySem.W.Frag} {E : XK} {H : Hp} {ρ : List Addr} {h : List O} {v : V} {w : W} {Q : Bool → Hp → Prop} (hr : HR K G H ρ h) (r : VR K H ρ v w) (p : Post K G E BRel Q H ρ (asB w h)) : ∃ k, v = .bl k ∧ Q k H := by
  cases w with
  | bl b =>
    unfold VR at r
    exact ⟨b, r, p ρ H b (Ext.refl hr) hr rfl⟩
  | non => exact p.elim
  | int i => exact p.elim
  | str i => exact p.elim
  | tup i => exact p.elim
  | rol i => exact p.elim
  | ref i => exact p.elim
theorem st_cmp {o : CmpOp} (s : OpS G X (compareOp o) op) (ha : SE G X a ma) (hb : SE G X b mb) (hm : behindInMarks o b = false := by first | exact nomark _ (by decide) (by decide) | rfl | (with_unfolding_all rfl)) :
    ST G X (.Compare a [o] [b] pos) (mB (mOp op ma mb)) := fun Wx tk => by
  obtain ⟨r, ho, s⟩ := s
  refine (pt_cmpR ho (ha Wx tk) (hb Wx tk) hm).imp fun σ H Q p => ?_
  refine rd_op (G := G) (Wx := Wx) (K := X.K) (Q := fun x H' => ∃ k, x = .bl k ∧ Q k H') s ?_
  refine rd.bnd (Rel := VRel X.K) p fun H0 ρ0 e sr x H1 ρ1 h1 wx x1 r1 vx p1 => ?_
  exact asB_post r1 vx p1
/-- a op b op' c -/
def mChain (op op' : W → W → List O → Out W) (a b c : M W) : M W := fun e h => (a e h).bnd fun x h => (b e h).bnd fun y h => (op x y h).bnd fun z h => (asB z h).bnd fun k h => if k = true then (c e h).bnd fun w h => op' y w h else .ok (.bl false) h
theorem rd_chain {K : PySem.W.Frag} {Wx : WX} {r r' : R2} (s : Serves2 K G op r) (s' : Serves2 K G op' r') {σ : L2.St} {H : Hp} {Q : VK} (p : rd K G Wx (VRel K) (mChain op op' ma mb mc) σ H Q) :
    tChain r r' (rd K G Wx (VRel K) ma) (rd K G Wx (VRel K) mb) (rd K G Wx (VRel K) mc) σ H Q := by
  refine rd.bnd (Rel := VRel K) p fun H0 ρ0 e sr x H1 ρ1 h1 wx x1 r1 vx p1 => ?_
  have sr1 := sr.mono x1
  refine ⟨ρ1, e, h1, r1, sr1, (Post.bnd (Rel := VRel K) p1).imp fun y H2 q => ?_⟩
  obtain ⟨ρ2, h2, wy, x2, r2, vy, p2⟩ := q
  refine s (fun cls d H' => Wx cls d σ H') H2 ρ2 h2 x y wx wy _ r2 (vx.mono x2) vy ((Post.bnd (Rel := VRel K) p2).imp fun z H3 q => ?_)
  obtain ⟨ρ3, h3, wz, x3, r3, vz, p3⟩ := q
  obtain ⟨k, ek, q3⟩ := asB_post (Q := fun k H3 => if k = true then rd K G Wx (VRel K) mc σ H3 (fun w' H4 => r' y w' H4 Q) else Q (.bl false) H3) r3 vz ((Post.bnd (Rel := BRel) p3).imp fun k H4 q => by
    obtain ⟨ρ4, h4, k', x4, r4, ek, p4⟩ := q
    cases ek
    cases k with
    | false => exact iteF (p4 ρ4 H4 (.bl false) (Ext.refl r4) r4 (by unfold VR; rfl))
    | true =>
      refine iteT ⟨ρ4, e, h4, r4, ((sr1.mono x2).mono x3).mono x4, (Post.bnd (Rel := VRel K) p4).imp fun w' H5 q => ?_⟩
      obtain ⟨ρ5, h5, ww, x5, r5, vw, p5⟩ := q
      exact s' _ H5 ρ5 h5 y w' wy ww Q r5 (((vy.mono x3).mono x4).mono x5) vw p5)
  exact ⟨k, ek, q3⟩
theorem se_chain {o o' : CmpOp} (s : OpS G X (compareOp o) op) (s' : OpS G X (compareOp o') op') (ha : SE G X a ma) (hb : SE G X b mb) (hc : SE G X c mc) (hm : lastMarks [o, o'] [b, c] = false := by with_unfolding_all rfl) :
    SE G X (.Compare a [o, o'] [b, c] pos) (mChain op op' ma mb mc) := fun Wx tk => by
  obtain ⟨r, ho, s⟩ := s
  obtain ⟨r', ho', s'⟩ := s'
  exact (pe_chain ho ho' (ha Wx tk) (hb Wx tk) (hc Wx tk) hm).imp fun σ H Q p => rd_chain s s' p
theorem st_chain {o o' : CmpOp} (s : OpS G X (compareOp o) op) (s' : OpS G X (compareOp o') op') (ha : SE G X a ma) (hb : SE G X b mb) (hc : SE G X c mc) (hm : lastMarks [o, o'] [b, c] = false := by with_unfolding_all rfl) :
    ST G X (.Compare a [o, o'] [b, c] pos) (mB (mChain op op' ma mb mc)) := fun Wx tk => by
  obtain ⟨r, ho, s⟩ := s
  obtain ⟨r', ho', s'⟩ := s'
  refine (pt_chain ho ho' (ha Wx tk) (hb Wx tk) (hc Wx tk) hm).imp fun σ H Q p => ?_
  refine rd_chain (G := G) (Wx := Wx) (K := X.K) (Q := fun x H' => ∃ k, x = .bl k ∧ Q k H') s s' ?_
  refine rd.bnd (Rel := VRel X.K) p fun H0 ρ0 e sr x H1 ρ1 h1 wx x1 r1 vx p1 => ?_
  exact asB_post r1 vx p1

/-! ### truth, and, or, not -/
def truW : W → List O → Out Bool
  | .non, h => .ok false h
  | .bl b, h => .ok b h
  | .int i, h => .ok (i != 0) h
  | .str s, h => if s.length ≤ lim then .ok (!s.isEmpty) h else .bad
  | .tup xs, h => .ok (!xs.isEmpty) h
  | .rol xs, h => .ok (!xs.isEmpty) h
  | .ref n, h => match h[n]? with
    | some (.lst xs) => .ok (!xs.isEmpty) h
    | some (.dic xs) => .ok (!xs.isEmpty) h
    | _ => .bad
theorem VRs.isEmpty {K : PySem.W.Frag} {H : Hp} {ρ : List Addr} {vs : List V} {ws : List W} (h : VRs K H ρ vs ws) : vs.isEmpty = ws.isEmpty := by
  have e := h.length
  cases vs <;> cases ws <;> first | rfl | (simp at e)
theorem KRs.length {K : PySem.W.Frag} {H : Hp} {ρ : List Addr} : ∀ {vs : List (Key × V)} {ws : List (W × W)}, KRs K H ρ vs ws → vs.length = ws.length
  | vs, [], h => by unfold KRs at h; rw [h]; rfl
  | vs, (k, w) :: ws, h => by
    unfold KRs at h
    obtain ⟨q, v, r, e, _, _, z⟩ := h
    rw [e, List.length_cons, List.length_cons, KRs.length z]
theorem KRs.isEmpty {K : PySem.W.Frag} {H : Hp} {ρ : List Addr} {vs : List (Key × V)} {ws : List (W × W)} (h : KRs K H ρ vs ws) : vs.isEmpty = ws.isEmpty := by
  have e := h.length
  cases vs <;> cases ws <;> first | rfl | (simp at e)
theorem HR.look {K : PySem.W.Frag} {H : Hp} {ρ : List Addr} {h : List O} {n : Nat} {a : Addr} {o : O} (r : HR K G H ρ h) (e : ρ[n]? = some a) (q : h[n]? = some o) : OR K G H ρ a o := r.ob n a o e q
theorem tru_post {K : PySem.W.Frag} {E : XK} {H : Hp} {ρ : List Addr} {h : List O} {v : V} {w : W} {Q : Bool → Hp → Prop} (hr : HR K G H ρ h) (r : VR K H ρ v w) (p : Post K G E BRel Q H ρ (truW w h)) : ∃ k, TruV K v H k ∧ Q k H := by
  cases w with
  | non => unfold VR at r; rw [r]; exact ⟨false, rfl, p ρ H _ (Ext.refl hr) hr rfl⟩
  | bl b => unfold VR at r; rw [r]; exact ⟨b, rfl, p ρ H _ (Ext.refl hr) hr rfl⟩
  | int i => unfold VR at r; rw [r]; exact ⟨_, rfl, p ρ H _ (Ext.refl hr) hr rfl⟩
  | str s =>
    unfold VR at r
    rw [r]
    have p : Post K G E BRel Q H ρ (if s.length ≤ lim then .ok (!s.isEmpty) h else .bad) := p
    by_cases hl : s.length ≤ lim
    · rw [if_pos hl] at p
      refine ⟨_, ⟨?_, rfl⟩, p ρ H _ (Ext.refl hr) hr ?_⟩
      · exact lim_size (by show s.toArray.size ≤ lim; simpa using hl)
      · show (((s.toArray.size : Nat) : Int) != 0) = _
        cases s with
        | nil => rfl
        | cons x l =>
          have e : (((x :: l).toArray.size : Nat) : Int) ≠ 0 := by simp; omega
          simp [bne, e]
          omega
    · rw [if_neg hl] at p
      exact p.elim
  | tup xs =>
    unfold VR at r
    obtain ⟨a, vs, rfl, hs, q⟩ := r
    exact ⟨_, .inr (.inl ⟨vs, hs, rfl⟩), p ρ H _ (Ext.refl hr) hr (by rw [q.isEmpty])⟩
  | rol xs =>
    unfold VR at r
    obtain ⟨a, vs, rfl, hs, q⟩ := r
    refine ⟨_, .inl ⟨vs, ?_, rfl⟩, p ρ H _ (Ext.refl hr) hr (by rw [q.isEmpty])⟩
    rcases hs with hs | hs
    · exact .inl hs.1
    · exact hs H
  | ref n =>
    unfold VR at r
    obtain ⟨a, rfl, ha⟩ := r
    simp only [truW] at p
    cases hx : h[n]? with
    | none => rw [hx] at p; exact p.elim
    | some o =>
      rw [hx] at p
      have q := hr.look ha hx
      cases o with
      | lst xs =>
        obtain ⟨vs, e, q⟩ := q
        exact ⟨_, .inl ⟨vs, .inl (.inl e), rfl⟩, p ρ H _ (Ext.refl hr) hr (by rw [q.isEmpty])⟩
      | dic xs =>
        obtain ⟨vs, e, q⟩ := q
        exact ⟨_, .inr (.inr ⟨vs, e, rfl⟩), p ρ H _ (Ext.refl hr) hr (by rw [q.isEmpty])⟩
      | dik xs => exact p.elim
      | ins c fs => exact p.elim
def mTru (m : M W) : M Bool := fun e h => (m e h).bnd truW
theorem st_tru (ha : SE G X a ma) (he : ∀ whole, isTrue a X.env whole = (do let v ← whole; standAt a.pos; holding [v] (truthy v)) := by intro _; rfl) : ST G X a (mTru ma) := fun Wx tk =>
  (pt_truth (ha Wx tk) he).imp fun σ H Q p => rd.bnd (Rel := VRel X.K) p fun H0 ρ0 e sr x H1 ρ1 h1 wx x1 r1 vx p1 => tru_post r1 vx p1
variable {ta tb : M Bool} {rest : List Expr}
def mAnd (t u : M Bool) : M Bool := fun e h => (t e h).bnd fun c h => if c = true then u e h else .ok false h
def mOr (t u : M Bool) : M Bool := fun e h => (t e h).bnd fun c h => if c = true then .ok true h else u e h
def mNot (t : M Bool) : M Bool := fun e h => (t e h).bnd fun c h => .ok (!c) h
theorem sw_and1 (ha : ST G X a ta) : SW G X (.BoolOp .And [a] pos) ta := fun Wx tk => pw_and1 (ha Wx tk)
theorem sw_or1 (ha : ST G X a ta) : SW G X (.BoolOp .Or [a] pos) ta := fun Wx tk => pw_or1 (ha Wx tk)
theorem sw_and (ha : ST G X a ta) (hb : SW G X (.BoolOp .And (b :: rest) pos) tb) : SW G X (.BoolOp .And (a :: b :: rest) pos) (mAnd ta tb) := fun Wx tk =>
  (pw_and (ha Wx tk) (hb Wx tk)).imp fun σ H Q p => rd.bnd (Rel := BRel) p fun H0 ρ0 e sr x H1 ρ1 h1 wx x1 r1 vx p1 => by
    cases vx
    cases x with
    | true => exact iteT ⟨ρ1, e, h1, r1, sr.mono x1, p1⟩
    | false => exact iteF (p1 ρ1 H1 false (Ext.refl r1) r1 rfl)
theorem sw_or (ha : ST G X a ta) (hb : SW G X (.BoolOp .Or (b :: rest) pos) tb) : SW G X (.BoolOp .Or (a :: b :: rest) pos) (mOr ta tb) := fun Wx tk =>
  (pw_or (ha Wx tk) (hb Wx tk)).imp fun σ H Q p => rd.bnd (Rel := BRel) p fun H0 ρ0 e sr x H1 ρ1 h1 wx x1 r1 vx p1 => by
    cases vx
    cases x with
    | true => exact iteT (p1 ρ1 H1 true (Ext.refl r1) r1 rfl)
    | false => exact iteF ⟨ρ1, e, h1, r1, sr.mono x1, p1⟩
theorem st_w (h : SW G X a ta) : ST G X a ta := fun Wx tk => (h Wx tk).pt
theorem st_not (ha : ST G X a ta) : ST G X (.UnaryOp .Not a pos) (mNot ta) := fun Wx tk =>
  (pt_not (ha Wx tk)).imp fun σ H Q p => rd.bnd (Rel := BRel) p fun H0 ρ0 e sr x H1 ρ1 h1 wx x1 r1 vx p1 => by
    cases vx
    exact p1 ρ1 H1 _ (Ext.refl r1) r1 rfl
/-- .. as values -/
def mAndV (a b : M W) : M W := fun e h => (a e h).bnd fun x h => (truW x h).bnd fun k h => if k = true then b e h else .ok x h
def mOrV (a b : M W) : M W := fun e h => (a e h).bnd fun x h => (truW x h).bnd fun k h => if k = true then .ok x h else b e h
def mNotV (a : M W) : M W := fun e h => (a e h).bnd fun x h => (truW x h).bnd fun k h => .ok (.bl (!k)) h
theorem se_one {o : BoolOp} (ha : SE G X a ma) : SE G X (.BoolOp o [a] pos) ma := fun Wx tk => pe_one (ha Wx tk)
theorem se_and (ha : SE G X a ma) (hb : SE G X (.BoolOp .And (b :: rest) pos) mb) : SE G X (.BoolOp .And (a :: b :: rest) pos) (mAndV ma mb) := fun Wx tk =>
  (pe_andT (ha Wx tk) (hb Wx tk)).imp fun σ H Q p => rd.bnd (Rel := VRel X.K) p fun H0 ρ0 e sr x H1 ρ1 h1 wx x1 r1 vx p1 => by
    refine tru_post (Q := fun k H1 => if k = true then rd X.K G Wx (VRel X.K) mb σ H1 Q else Q x H1) r1 vx ((Post.bnd (Rel := BRel) p1).imp fun k H2 q => ?_)
    obtain ⟨ρ2, h2, k', x2, r2, ek, p2⟩ := q
    cases ek
    cases k with
    | true => exact iteT ⟨ρ2, e, h2, r2, (sr.mono x1).mono x2, p2⟩
    | false => exact iteF (p2 ρ2 H2 x (Ext.refl r2) r2 (vx.mono x2))
theorem se_or (ha : SE G X a ma) (hb : SE G X (.BoolOp .Or (b :: rest) pos) mb) : SE G X (.BoolOp .Or (a :: b :: rest) pos) (mOrV ma mb) := fun Wx tk =>
  (pe_orT (ha Wx tk) (hb Wx tk)).imp fun σ H Q p => rd.bnd (Rel := VRel X.K) p fun H0 ρ0 e sr x H1 ρ1 h1 wx x1 r1 vx p1 => by
    refine tru_post (Q := fun k H1 => if k = true then Q x H1 else rd X.K G Wx (VRel X.K) mb σ H1 Q) r1 vx ((Post.bnd (Rel := BRel) p1).imp fun k H2 q => ?_)
    obtain ⟨ρ2, h2, k', x2, r2, ek, p2⟩ := q
    cases ek
    cases k with
    | true => exact iteT (p2 ρ2 H2 x (Ext.refl r2) r2 (vx.mono x2))
    | false => exact iteF ⟨ρ2, e, h2, r2, (sr.mono x1).mono x2, p2⟩
theorem se_not (ha : SE G X a ma) : SE G X (.UnaryOp .Not a pos) (mNotV ma) := fun Wx tk =>
  (pe_notT (ha Wx tk)).imp fun σ H Q p => rd.bnd (Rel := VRel X.K) p fun H0 ρ0 e sr x H1 ρ1 h1 wx x1 r1 vx p1 => by
    refine tru_post (Q := fun k H1 => Q (.bl (!k)) H1) r1 vx ((Post.bnd (Rel := BRel) p1).imp fun k H2 q => ?_)
    obtain ⟨ρ2, h2, k', x2, r2, ek, p2⟩ := q
    cases ek
    exact p2 ρ2 H2 _ (Ext.refl r2) r2 (by unfold VR; rfl)
def mIf (t : M Bool) (a b : M W) : M W := fun e h => (t e h).bnd fun c h => if c = true then a e h else b e h
theorem se_ife {tc : M Bool} (hc : ST G X c tc) (ha : SE G X a ma) (hb : SE G X b mb) : SE G X (.IfExp c a b pos) (mIf tc ma mb) := fun Wx tk =>
  (pe_ifExp (hc Wx tk) (ha Wx tk) (hb Wx tk)).imp fun σ H Q p => rd.bnd (Rel := BRel) p fun H0 ρ0 e sr x H1 ρ1 h1 wx x1 r1 vx p1 => by
    cases vx
    cases x with
    | true => exact iteT ⟨ρ1, e, h1, r1, sr.mono x1, p1⟩
    | false => exact iteF ⟨ρ1, e, h1, r1, sr.mono x1, p1⟩

/-! ### argument lists, displays -/
def mNil : M (List W) := fun _ h => .ok [] h
def mCons (a : M W) (r : M (List W)) : M (List W) := fun e h => (a e h).bnd fun x h => (r e h).bnd fun xs h => .ok (x :: xs) h
theorem sa_nil : SA G X [] mNil := fun Wx tk => pa_nil.imp fun σ H Q p => by
  obtain ⟨ρ, e, h, hr, sr, p⟩ := p
  exact p ρ H [] (Ext.refl hr) hr .nil
theorem sa_cons {es : List Expr} {mr : M (List W)} (ha : SE G X a ma) (hr : SA G X es mr) (hs : starEach (a :: es) X.env = (false, eval a X.env) :: starEach es X.env := by rfl) : SA G X (a :: es) (mCons ma mr) := fun Wx tk =>
  (pa_cons (ha Wx tk) (hr Wx tk) hs).imp fun σ H Q p => rd.bnd (Rel := VRel X.K) p fun H0 ρ0 e sr x H1 ρ1 h1 wx x1 r1 vx p1 => by
    refine ⟨ρ1, e, h1, r1, sr.mono x1, (Post.bnd (Rel := VsRel X.K) p1).imp fun ys H2 q => ?_⟩
    obtain ⟨ρ2, h2, wys, x2, r2, vys, p2⟩ := q
    exact p2 ρ2 H2 _ (Ext.refl r2) r2 (.cons (vx.mono x2) vys)
def mTup (m : M (List W)) : M W := fun e h => (m e h).bnd fun xs h => if xs.length ≤ lim then .ok (.tup xs) h else .bad
def mLst (m : M (List W)) : M W := fun e h => (m e h).bnd fun xs h => if xs.length ≤ lim then .ok (.ref h.length) (h ++ [.lst xs]) else .bad
section
variable {K : PySem.W.Frag} {H : Hp} {ρ : List Addr} {h : List O} {E : XK} {vs : List V} {ws : List W} {Q : VK}
theorem HR.last (hr : HR K G H ρ h) {p : Addr} : (ρ ++ [p])[h.length]? = some p := by rw [← hr.len]; simp
/-- a new tuple -/
theorem new_tup (hr : HR K G H ρ h) (r : VRs K H ρ vs ws) (p : Post K G E (VRel K) Q H ρ (.ok (.tup ws) h)) : ∀ t, H t = none → Q (.ref t) (upd H t (.tup vs)) := fun t ht => by
  obtain ⟨r1, x1⟩ := hr.other (o := .tup vs) ht
  refine p ρ _ _ x1 r1 ?_
  show VR K _ ρ _ (.tup ws)
  unfold VR
  exact ⟨t, vs, rfl, .inl (.inl upd_same), r.mono x1⟩
/-- a new list -/
theorem new_lst (hr : HR K G H ρ h) (r : VRs K H ρ vs ws) (p : Post K G E (VRel K) Q H ρ (.ok (.ref h.length) (h ++ [.lst ws]))) : ∀ t, H t = none → Q (.ref t) (upd H t (.lst vs)) := fun t ht => by
  obtain ⟨r1, x1⟩ := hr.new (o := .lst vs) (u := .lst ws) ht rfl fun x => ⟨vs, upd_same, r.mono x⟩
  refine p _ _ _ x1 r1 ?_
  show VR K _ _ _ (.ref h.length)
  unfold VR
  exact ⟨t, rfl, hr.last⟩
end
theorem se_tup {es : List Expr} {mr : M (List W)} {x1 : Nat} (h : SA G X es mr) : SE G X (.Tuple es x1 pos) (mTup mr) := fun Wx tk =>
  (pe_tup (h Wx tk)).imp fun σ H Q p => rd.bnd (Rel := VsRel X.K) p fun H0 ρ0 e sr x H1 ρ1 h1 wx x1 r1 vx p1 => by
    split at p1
    · rename_i hl
      exact ⟨by rw [vx.length]; exact lim_size hl, new_tup r1 vx p1⟩
    · exact p1.elim
theorem se_lst {es : List Expr} {mr : M (List W)} (h : SA G X es mr) : SE G X (.List es pos) (mLst mr) := fun Wx tk =>
  (pe_lst (h Wx tk)).imp fun σ H Q p => rd.bnd (Rel := VsRel X.K) p fun H0 ρ0 e sr x H1 ρ1 h1 wx x1 r1 vx p1 => by
    split at p1
    · rename_i hl
      exact ⟨by rw [vx.length]; exact lim_size hl, new_lst r1 vx p1⟩
    · exact p1.elim
end
end Den
set_option maxRecDepth 100000
/-! Operators, comparisons, subscripts, slices. -/
namespace Den
open PySem L2 PyProof.Rows
def lstAt (h : List O) (n : Nat) : Option (List W) := match h[n]? with
  | some (.lst xs) => some xs
  | _ => none
def dicAt (h : List O) (n : Nat) : Option (List (W × W)) := match h[n]? with
  | some (.dic xs) => some xs
  | _ => none
def insAt (h : List O) (n : Nat) : Option (Nat × List (Str × W)) := match h[n]? with
  | some (.ins c fs) => some (c, fs)
  | _ => none
theorem lstAt_some {h : List O} {n : Nat} {xs : List W} (e : lstAt h n = some xs) : h[n]? = some (.lst xs) := by
  unfold lstAt at e
  split at e
  · rename_i ys hy
    cases e
    exact hy
  · cases e
theorem lstAt_nk {h : List O} {n : Nat} {xs : List W} (e : lstAt h n = some xs) : NoDik h n := fun kvs z => by rw [lstAt_some e] at z; cases z
theorem dicAt_some {h : List O} {n : Nat} {xs : List (W × W)} (e : dicAt h n = some xs) : h[n]? = some (.dic xs) := by
  unfold dicAt at e
  split at e
  · rename_i ys hy
    cases e
    exact hy
  · cases e
theorem dicAt_nk {h : List O} {n : Nat} {xs : List (W × W)} (e : dicAt h n = some xs) : NoDik h n := fun kvs z => by rw [dicAt_some e] at z; cases z
theorem insAt_some {h : List O} {n : Nat} {c : Nat} {xs : List (Str × W)} (e : insAt h n = some (c, xs)) : h[n]? = some (.ins c xs) := by
  unfold insAt at e
  split at e
  · rename_i ys zs hy
    cases e
    exact hy
  · cases e
/-- a list's items -/
def sqL (w : W) (h : List O) : Option (List W) := match w with
  | .rol xs => some xs
  | .ref n => lstAt h n
  | _ => none
def sqT (w : W) : Option (List W) := match w with
  | .tup xs => some xs
  | _ => none
def sqA (w : W) (h : List O) : Option (List W) := match w with
  | .tup xs => some xs
  | .rol xs => some xs
  | .ref n => lstAt h n
  | _ => none
section
variable {K : PySem.W.Frag} {G : Gx} {H : Hp} {ρ : List Addr} {h : List O} {v : V} {w : W} {xs : List W}
theorem sqL_ok (hr : HR K G H ρ h) (r : VR K H ρ v w) (e : sqL w h = some xs) : ∃ a vs, v = .ref a ∧ SqL K H a vs ∧ VRs K H ρ vs xs := by
  cases w with
  | rol ys =>
    cases e
    unfold VR at r
    obtain ⟨a, vs, e, q, z⟩ := r
    refine ⟨a, vs, e, ?_, z⟩
    rcases q with q | q
    · exact .inl q.1
    · exact q H
  | ref n =>
    unfold VR at r
    obtain ⟨a, e2, ha⟩ := r
    obtain ⟨vs, q, z⟩ := hr.look ha (lstAt_some e)
    exact ⟨a, vs, e2, .inl (.inl q), z⟩
  | _ => cases e
theorem sqT_ok (r : VR K H ρ v w) (e : sqT w = some xs) : ∃ a vs, v = .ref a ∧ SqT K H a vs ∧ VRs K H ρ vs xs := by
  cases w with
  | tup ys =>
    cases e
    unfold VR at r
    exact r
  | _ => cases e
theorem sqA_ok (hr : HR K G H ρ h) (r : VR K H ρ v w) (e : sqA w h = some xs) : ∃ a vs, v = .ref a ∧ (SqL K H a vs ∨ SqT K H a vs) ∧ VRs K H ρ vs xs := by
  cases w with
  | tup ys =>
    cases e
    unfold VR at r
    obtain ⟨a, vs, e, q, z⟩ := r
    exact ⟨a, vs, e, .inr q, z⟩
  | rol ys =>
    obtain ⟨a, vs, e, q, z⟩ := sqL_ok hr r (w := .rol ys) e
    exact ⟨a, vs, e, .inl q, z⟩
  | ref n =>
    obtain ⟨a, vs, e, q, z⟩ := sqL_ok hr r (w := .ref n) e
    exact ⟨a, vs, e, .inl q, z⟩
  | _ => cases e
theorem VR.int {i : Int} (r : VR K H ρ v (.int i)) : v = .int i := by unfold VR at r; exact r
theorem VR.bl {i : Bool} (r : VR K H ρ v (.bl i)) : v = .bl i := by unfold VR at r; exact r
theorem VR.non (r : VR K H ρ v .non) : v = .non := by unfold VR at r; exact r
theorem VR.str {l : List Nat} (r : VR K H ρ v (.str l)) : v = .str ⟨l.toArray⟩ := by unfold VR at r; exact r
theorem VR.ref {n : Nat} (r : VR K H ρ v (.ref n)) : ∃ a, v = .ref a ∧ ρ[n]? = some a := by unfold VR at r; exact r
theorem vr_int {i : Int} : VR K H ρ (.int i) (.int i) := by unfold VR; rfl
theorem vr_bl {i : Bool} : VR K H ρ (.bl i) (.bl i) := by unfold VR; rfl
theorem vr_non : VR K H ρ .non .non := by unfold VR; rfl
theorem vr_str {l : List Nat} : VR K H ρ (.str ⟨l.toArray⟩) (.str l) := by unfold VR; rfl
theorem vr_str' {l : List Nat} {x : Str} (e : x = ⟨l.toArray⟩) : VR K H ρ (.str x) (.str l) := by unfold VR; rw [e]
/-- the plain end -/
theorem Post.here {E : XK} {α β : Type} {Rel : Hp → List Addr → β → α → Prop} {Q : β → Hp → Prop} {b : β} {a : α} (hr : HR K G H ρ h) (p : Post K G E Rel Q H ρ (.ok a h)) (r : Rel H ρ b a) : Q b H := p ρ H b (Ext.refl hr) hr r
end
theorem Str_length (l : List Nat) : (Str.length ⟨l.toArray⟩) = l.length := by show l.toArray.size = l.length; simp
theorem Str_app (a b : List Nat) : (⟨a.toArray⟩ ++ ⟨b.toArray⟩ : Str) = ⟨(a ++ b).toArray⟩ := by
  show (⟨a.toArray ++ b.toArray⟩ : Str) = _
  simp
theorem len_le {l : List Nat} (h : l.length ≤ lim) : Str.length ⟨l.toArray⟩ ≤ sizeLine := by rw [Str_length]; exact lim_size h

/-! ### + -/
def oAdd (x y : W) (h : List O) : Out W := match x, y with
  | .int i, .int j => .ok (.int (i + j)) h
  | .int i, .bl b => .ok (.int (i + if b then 1 else 0)) h
  | .str a, .str b => if a.length + b.length ≤ lim then .ok (.str (a ++ b)) h else .bad
  | .tup a, .tup b => if a.length + b.length ≤ lim then .ok (.tup (a ++ b)) h else .bad
  | .ref n, .ref m => match lstAt h n, lstAt h m with
    | some a, some b => if a.length + b.length ≤ lim then .ok (.ref h.length) (h ++ [.lst (a ++ b)]) else .bad
    | _, _ => .bad
  | _, _ => .bad
section
variable {G : Gx} {X : Cx}
theorem vr_tup {K : PySem.W.Frag} {H : Hp} {ρ : List Addr} {a : Addr} {vs : List V} {ws : List W} (h : SqT K H a vs) (r : VRs K H ρ vs ws) : VR K H ρ (.ref a) (.tup ws) := by unfold VR; exact ⟨a, vs, rfl, h, r⟩
theorem ops_add : OpS G X (binaryOp .Add) oAdd := ⟨_, OpR.or op_add (OpR.or op_add_str (OpR.or op_catA (OpR.or op_cat op_add_ib))), fun E H ρ h x y wx wy Q hr rx ry p => by
  unfold oAdd at p
  split at p
  · exact .inl ⟨_, _, rx.int, ry.int, p.here hr vr_int⟩
  · exact .inr (.inr (.inr (.inr ⟨_, _, rx.int, ry.bl, p.here hr vr_int⟩)))
  · rename_i a b
    split at p
    · rename_i hl
      exact .inr (.inl ⟨_, _, rx.str, ry.str, by rw [Str_length, Str_length]; exact lim_size hl, p.here hr (vr_str' (Str_app a b))⟩)
    · exact False.elim p
  · rename_i a b
    split at p
    · rename_i hl
      unfold VR at rx ry
      obtain ⟨a1, v1, rfl, q1, z1⟩ := rx
      obtain ⟨a2, v2, rfl, q2, z2⟩ := ry
      refine .inr (.inr (.inl ⟨a1, a2, v1, v2, rfl, rfl, q1, q2, by rw [z1.length, z2.length]; exact lim_size hl, fun e => ?_, fun e e2 => ?_, fun e e2 => ?_⟩))
      · subst e
        cases a with
        | nil => exact p.here hr (vr_tup q2 z2)
        | cons y l => have := z1.length; simp at this
      · subst e2
        cases b with
        | nil => exact p.here hr (vr_tup q1 (by rw [List.append_nil]; exact z1))
        | cons y l => have := z2.length; simp at this
      · exact new_tup hr (z1.append z2) p
    · exact False.elim p
  · rename_i n m
    split at p
    · rename_i a b ha hb
      split at p
      · rename_i hl
        obtain ⟨a1, rfl, e1⟩ := rx.ref
        obtain ⟨a2, rfl, e2⟩ := ry.ref
        obtain ⟨v1, q1, z1⟩ := hr.look e1 (lstAt_some ha)
        obtain ⟨v2, q2, z2⟩ := hr.look e2 (lstAt_some hb)
        exact .inr (.inr (.inr (.inl ⟨a1, a2, v1, v2, rfl, rfl, q1, q2, by rw [z1.length, z2.length]; exact lim_size hl, new_lst hr (z1.append z2) p⟩)))
      · exact False.elim p
    · exact False.elim p
  · exact False.elim p⟩

/-! ### -, *, //, %, ** of ints; a list times an int -/
def oSub (x y : W) (h : List O) : Out W := match x, y with
  | .int i, .int j => .ok (.int (i - j)) h
  | _, _ => .bad
theorem ops_sub : OpS G X (binaryOp .Sub) oSub := ⟨_, op_sub, fun E H ρ h x y wx wy Q hr rx ry p => by
  unfold oSub at p
  split at p
  · exact ⟨_, _, rx.int, ry.int, p.here hr vr_int⟩
  · exact False.elim p⟩
def mulOk (i j : Int) : Bool := decide (i.natAbs.log2 + j.natAbs.log2 < 100000000)
theorem mulOk_ok {i j : Int} (h : mulOk i j = true) : IntMulOk i j := by
  have b : ∀ x : Int, Builtin.Int.intBits x ≤ x.natAbs.log2 + 1 := fun x => by
    unfold Builtin.Int.intBits
    split <;> omega
  have h1 := b i
  have h2 := b j
  have h3 : i.natAbs.log2 + j.natAbs.log2 < 100000000 := of_decide_eq_true h
  have e : bitsLine = 134217728 := by decide
  unfold IntMulOk
  intro z
  rw [Bool.and_eq_true] at z
  have z2 := z.2
  unfold Builtin.Int.intTooBig at z2
  have z3 := of_decide_eq_true z2
  rw [e] at z3
  omega
theorem op_mulX : OpR X (binaryOp .Mult) (rI (fun i j => mulOk i j = true) fun i j => .int (i * j)) := opI fun _ _ _ _ _ _ _ hc q => PyProof.Rows.mul_int q (mulOk_ok hc)
theorem iop_mulX : OpR X (inplaceOp .Mult) (rI CMul fun i j => .int (i * j)) := iop_mul
def oMul (x y : W) (h : List O) : Out W := match x, y with
  | .int i, .int j => if mulOk i j = true then .ok (.int (i * j)) h else .bad
  | .ref n, .int k => match lstAt h n with
    | some a => if -(2 ^ 63) ≤ k ∧ k < 2 ^ 63 ∧ a.length * k.toNat ≤ lim then .ok (.ref h.length) (h ++ [.lst (List.replicate k.toNat a).flatten]) else .bad
    | _ => .bad
  | _, _ => .bad
theorem VRs.rep {K : PySem.W.Frag} {H : Hp} {ρ : List Addr} {vs : List V} {ws : List W} (r : VRs K H ρ vs ws) : ∀ n : Nat, VRs K H ρ (List.replicate n vs).flatten (List.replicate n ws).flatten
  | 0 => .nil
  | n + 1 => by
    rw [List.replicate_succ, List.replicate_succ, List.flatten_cons, List.flatten_cons]
    exact r.append (VRs.rep r n)
theorem ops_mul : OpS G X (binaryOp .Mult) oMul := ⟨_, OpR.or op_mulX op_rep, fun E H ρ h x y wx wy Q hr rx ry p => by
  unfold oMul at p
  split at p
  · split at p
    · rename_i hc
      exact .inl ⟨_, _, rx.int, ry.int, hc, p.here hr vr_int⟩
    · exact False.elim p
  · split at p
    · rename_i a ha
      split at p
      · rename_i hl
        obtain ⟨a1, rfl, e1⟩ := rx.ref
        obtain ⟨v1, q1, z1⟩ := hr.look e1 (lstAt_some ha)
        exact .inr ⟨a1, _, v1, rfl, ry.int, q1, hl.1, hl.2.1, by rw [z1.length]; exact lim_size hl.2.2, new_lst hr (z1.rep _) p⟩
      · exact False.elim p
    · exact False.elim p
  · exact False.elim p⟩
def oFdiv (x y : W) (h : List O) : Out W := match x, y with
  | .int i, .int j => if 0 < j ∧ j.natAbs.log2 < 9000 then .ok (.int (i / j)) h else .bad
  | _, _ => .bad
theorem ops_fdiv : OpS G X (binaryOp .FloorDiv) oFdiv := ⟨_, op_fdivW, fun E H ρ h x y wx wy Q hr rx ry p => by
  unfold oFdiv at p
  split at p
  · split at p
    · rename_i hc
      exact ⟨_, _, rx.int, ry.int, hc, p.here hr vr_int⟩
    · exact False.elim p
  · exact False.elim p⟩
def oMod (x y : W) (h : List O) : Out W := match x, y with
  | .int i, .int j => if 0 < j then .ok (.int (i % j)) h else .bad
  | _, _ => .bad
theorem ops_mod : OpS G X (binaryOp .Mod) oMod := ⟨_, op_mod, fun E H ρ h x y wx wy Q hr rx ry p => by
  unfold oMod at p
  split at p
  · split at p
    · rename_i hc
      exact ⟨_, _, rx.int, ry.int, hc, p.here hr vr_int⟩
    · exact False.elim p
  · exact False.elim p⟩
def oPow (x y : W) (h : List O) : Out W := match x, y with
  | .int i, .int j => if 0 ≤ j ∧ j ≤ 1000 ∧ i.natAbs < 1000 then .ok (.int (i ^ j.toNat)) h else .bad
  | _, _ => .bad
theorem ops_pow : OpS G X (binaryOp .Pow) oPow := ⟨_, op_pow, fun E H ρ h x y wx wy Q hr rx ry p => by
  unfold oPow at p
  split at p
  · split at p
    · rename_i hc
      exact ⟨_, _, rx.int, ry.int, ⟨hc.1, by have := hc.2.1; omega, by have := hc.2.2; have e : (1000 : Nat) < 2 ^ 64 := (by decide); omega⟩, p.here hr vr_int⟩
    · exact False.elim p
  · exact False.elim p⟩
def oNeg (x : W) (h : List O) : Out W := match x with
  | .int i => .ok (.int (-i)) h
  | _ => .bad
theorem uns_neg : UnS G X (unaryOp .USub) oNeg := ⟨_, un_neg, fun E H ρ h x wx Q hr rx p => by
  unfold oNeg at p
  split at p
  · exact ⟨_, rx.int, p.here hr vr_int⟩
  · exact False.elim p⟩

/-! ### == and != -/
/-- what a value is as data, n deep -/
def strFit (s : List Nat) : Bool := s.all fun c => decide (c < 1114112)
def mapO {α β : Type} (f : α → Option β) : List α → Option (List β)
  | [] => some []
  | x :: xs => match f x with
    | some y => match mapO f xs with
      | some ys => some (y :: ys)
      | none => none
    | none => none
def dat (h : List O) : Nat → W → Option PyData
  | 0, _ => none
  | n + 1, .non => some .none
  | n + 1, .bl b => some (.bool b)
  | n + 1, .int i => some (.int i)
  | n + 1, .str s => if strFit s = true then some (.str ⟨s.toArray⟩) else none
  | n + 1, .tup xs => (mapO (dat h n) xs).map .tuple
  | n + 1, .rol xs => (mapO (dat h n) xs).map .list
  | n + 1, .ref k => (lstAt h k).bind fun xs => (mapO (dat h n) xs).map .list
theorem mapO_dp {K : PySem.W.Frag} {H : Hp} {ρ : List Addr} {f : W → Option PyData} (hf : ∀ v w d, VR K H ρ v w → f w = some d → Dp K H v d) : ∀ {ws : List W} {vs : List V} {ds : List PyData}, VRs K H ρ vs ws → mapO f ws = some ds → DpAll K H vs ds
  | [], vs, ds, r, e => by
    unfold VRs at r
    cases e
    rw [r]
    exact .nil
  | w :: ws, vs, ds, r, e => by
    unfold VRs at r
    obtain ⟨v, l, rfl, q, z⟩ := r
    unfold mapO at e
    split at e
    · rename_i d hd
      split at e
      · rename_i ds' hds
        cases e
        exact .cons (hf v w d q hd) (mapO_dp hf z hds)
      · cases e
    · cases e
theorem dat_dp {K : PySem.W.Frag} {H : Hp} {ρ : List Addr} {h : List O} (hr : HR K G H ρ h) : ∀ (n : Nat) (v : V) (w : W) (d : PyData), VR K H ρ v w → dat h n w = some d → Dp K H v d
  | 0, v, w, d, r, e => by cases e
  | n + 1, v, .non, d, r, e => by cases e; rw [r.non]; exact .non
  | n + 1, v, .bl b, d, r, e => by cases e; rw [r.bl]; exact .bl b
  | n + 1, v, .int i, d, r, e => by cases e; rw [r.int]; exact .int i
  | n + 1, v, .str s, d, r, e => by
    unfold dat at e
    split at e
    · cases e; rw [r.str]; exact .str _
    · cases e
  | n + 1, v, .tup xs, d, r, e => by
    unfold dat at e
    obtain ⟨a, vs, rfl, q, z⟩ := sqT_ok (xs := xs) r rfl
    cases hm : mapO (dat h n) xs with
    | none => rw [hm] at e; cases e
    | some ds =>
      rw [hm] at e
      cases e
      exact .tup q (mapO_dp (fun v w d => dat_dp hr n v w d) z hm)
  | n + 1, v, .rol xs, d, r, e => by
    unfold dat at e
    obtain ⟨a, vs, rfl, q, z⟩ := sqL_ok (xs := xs) hr r rfl
    cases hm : mapO (dat h n) xs with
    | none => rw [hm] at e; cases e
    | some ds =>
      rw [hm] at e
      cases e
      exact .lst q (mapO_dp (fun v w d => dat_dp hr n v w d) z hm)
  | n + 1, v, .ref k, d, r, e => by
    unfold dat at e
    cases hl : lstAt h k with
    | none => rw [hl] at e; cases e
    | some xs =>
      rw [hl] at e
      obtain ⟨a, vs, rfl, q, z⟩ := sqL_ok (w := .ref k) (xs := xs) hr r hl
      cases hm : mapO (dat h n) xs with
      | none => simp only [Option.bind, hm] at e; cases e
      | some ds =>
        simp only [Option.bind, hm] at e
        cases e
        exact .lst q (mapO_dp (fun v w d => dat_dp hr n v w d) z hm)
theorem mapO_lay {f : W → Option PyData} (hf : ∀ w d, f w = some d → d.canLay0 = true) : ∀ {ws : List W} {ds : List PyData}, mapO f ws = some ds → PyData.canLayAll0 ds = true
  | [], ds, e => by cases e; rfl
  | w :: ws, ds, e => by
    unfold mapO at e
    split at e
    · rename_i d hd
      split at e
      · rename_i ds' hds
        cases e
        unfold PyData.canLayAll0
        rw [hf w d hd, mapO_lay hf hds]
        rfl
      · cases e
    · cases e
theorem mapO_depth {f : W → Option PyData} {n : Nat} (hf : ∀ w d, f w = some d → d.depth ≤ n) : ∀ {ws : List W} {ds : List PyData}, mapO f ws = some ds → PyData.depthAll ds ≤ n
  | [], ds, e => by cases e; exact Nat.zero_le _
  | w :: ws, ds, e => by
    unfold mapO at e
    split at e
    · rename_i d hd
      split at e
      · rename_i ds' hds
        cases e
        unfold PyData.depthAll
        exact Nat.max_le.mpr ⟨hf w d hd, mapO_depth hf hds⟩
      · cases e
    · cases e
theorem strOk_fit {s : List Nat} (h : strFit s = true) : PyData.strOk ⟨s.toArray⟩ = true := by
  unfold PyData.strOk
  unfold strFit at h
  simpa using h
theorem dat_lay {h : List O} : ∀ (n : Nat) (w : W) (d : PyData), dat h n w = some d → d.canLay0 = true ∧ d.depth ≤ n
  | 0, w, d, e => by cases e
  | n + 1, .non, d, e => by cases e; exact ⟨rfl, by unfold PyData.depth; omega⟩
  | n + 1, .bl b, d, e => by cases e; exact ⟨rfl, by unfold PyData.depth; omega⟩
  | n + 1, .int i, d, e => by cases e; exact ⟨rfl, by unfold PyData.depth; omega⟩
  | n + 1, .str s, d, e => by
    unfold dat at e
    split at e
    · rename_i hs
      cases e; exact ⟨by unfold PyData.canLay0; exact strOk_fit hs, by unfold PyData.depth; omega⟩
    · cases e
  | n + 1, .tup xs, d, e => by
    unfold dat at e
    cases hm : mapO (dat h n) xs with
    | none => rw [hm] at e; cases e
    | some ds =>
      rw [hm] at e
      cases e
      have h1 := mapO_lay (fun w d e => (dat_lay n w d e).1) hm
      have h2 := mapO_depth (fun w d e => (dat_lay n w d e).2) hm
      exact ⟨by unfold PyData.canLay0; exact h1, by unfold PyData.depth; omega⟩
  | n + 1, .rol xs, d, e => by
    unfold dat at e
    cases hm : mapO (dat h n) xs with
    | none => rw [hm] at e; cases e
    | some ds =>
      rw [hm] at e
      cases e
      have h1 := mapO_lay (fun w d e => (dat_lay n w d e).1) hm
      have h2 := mapO_depth (fun w d e => (dat_lay n w d e).2) hm
      exact ⟨by unfold PyData.canLay0; exact h1, by unfold PyData.depth; omega⟩
  | n + 1, .ref k, d, e => by
    unfold dat at e
    cases hl : lstAt h k with
    | none => rw [hl] at e; cases e
    | some xs =>
      rw [hl] at e
      cases hm : mapO (dat h n) xs with
      | none => simp only [Option.bind, hm] at e; cases e
      | some ds =>
        simp only [Option.bind, hm] at e
        cases e
        have h1 := mapO_lay (fun w d e => (dat_lay n w d e).1) hm
        have h2 := mapO_depth (fun w d e => (dat_lay n w d e).2) hm
        exact ⟨by unfold PyData.canLay0; exact h1, by unfold PyData.depth; omega⟩
theorem dat_shaped {h : List O} {w : W} {d : PyData} (e : dat h 8 w = some d) : SeqAt.shaped d = true := by
  obtain ⟨h1, h2⟩ := dat_lay 8 w d e
  unfold SeqAt.shaped
  rw [h1, Bool.true_and]
  exact decide_eq_true (Nat.le_trans h2 (by decide))
/-- == of two values: none where we can't tell -/
def eqW (h : List O) (x y : W) : Option Bool := match x, y with
  | .int i, .int j => some (i == j)
  | .str a, .str b => some (a == b)
  | .bl a, .bl b => some (a == b)
  | .non, .non => some true
  | .non, .int _ => some false
  | .int _, .non => some false
  | .non, .str _ => some false
  | .str _, .non => some false
  | x, y => match dat h 8 x, dat h 8 y with
    | some d, some e => some (PyData.eqv d e)
    | _, _ => none
def oEq (x y : W) (h : List O) : Out W := match eqW h x y with
  | some b => .ok (.bl b) h
  | none => .bad
def oNe (x y : W) (h : List O) : Out W := match eqW h x y with
  | some b => .ok (.bl !b) h
  | none => .bad
theorem str_eq_dec (a b : List Nat) : decide (V.str ⟨a.toArray⟩ = V.str ⟨b.toArray⟩) = (a == b) := by
  by_cases e : a = b
  · subst e; simp
  · rw [decide_eq_false, beq_eq_false_iff_ne.mpr e]
    intro z
    apply e
    have z1 : (⟨a.toArray⟩ : Str) = ⟨b.toArray⟩ := V.str.inj z
    have z2 : a.toArray = b.toArray := congrArg Str.cps z1
    simpa using congrArg Array.toList z2
theorem eqW_ok {K : PySem.W.Frag} {H : Hp} {ρ : List Addr} {h : List O} {x y : V} {wx wy : W} {b : Bool} (hr : HR K G H ρ h) (rx : VR K H ρ x wx) (ry : VR K H ρ y wy) (e : eqW h wx wy = some b) :
    (scal x y = true ∧ decide (x = y) = b) ∨ ∃ d d', Dp K H x d ∧ Dp K H y d' ∧ SeqAt.shaped d = true ∧ SeqAt.shaped d' = true ∧ PyData.eqv d d' = b := by
  unfold eqW at e
  split at e
  · cases e; rw [rx.int, ry.int]; refine .inl ⟨rfl, ?_⟩
    simp [Bool.beq_eq_decide_eq]
  · cases e; rw [rx.str, ry.str]; exact .inl ⟨rfl, str_eq_dec _ _⟩
  · cases e; rw [rx.bl, ry.bl]; refine .inl ⟨rfl, ?_⟩
    simp [Bool.beq_eq_decide_eq]
  · cases e; rw [rx.non, ry.non]; exact .inl ⟨rfl, decide_eq_true rfl⟩
  · cases e; rw [rx.non, ry.int]; exact .inl ⟨rfl, decide_eq_false (by intro z; cases z)⟩
  · cases e; rw [rx.int, ry.non]; exact .inl ⟨rfl, decide_eq_false (by intro z; cases z)⟩
  · cases e; rw [rx.non, ry.str]; exact .inl ⟨rfl, decide_eq_false (by intro z; cases z)⟩
  · cases e; rw [rx.str, ry.non]; exact .inl ⟨rfl, decide_eq_false (by intro z; cases z)⟩
  · split at e
    · rename_i d d' hd hd'
      cases e
      exact .inr ⟨d, d', dat_dp hr 8 _ _ _ rx hd, dat_dp hr 8 _ _ _ ry hd', dat_shaped hd, dat_shaped hd', rfl⟩
    · cases e
theorem ops_eq (hu : X.A.units + 64 < cLine) : OpS G X (compareOp .Eq) oEq := ⟨_, OpR.or op_eq (op_eqD hu), fun E H ρ h x y wx wy Q hr rx ry p => by
  unfold oEq at p
  split at p
  · rename_i b hb
    have q : Q (.bl b) H := p.here hr vr_bl
    rcases eqW_ok hr rx ry hb with ⟨h1, h2⟩ | ⟨d, d', h1, h2, h3, h4, h5⟩
    · exact .inl ⟨h1, by rw [h2]; exact q⟩
    · exact .inr ⟨d, d', h1, h2, h3, h4, by rw [h5]; exact q⟩
  · exact False.elim p⟩
theorem ops_ne (hu : X.A.units + 64 < cLine) : OpS G X (compareOp .NotEq) oNe := ⟨_, OpR.or op_ne (op_neD hu), fun E H ρ h x y wx wy Q hr rx ry p => by
  unfold oNe at p
  split at p
  · rename_i b hb
    have q : Q (.bl !b) H := p.here hr vr_bl
    rcases eqW_ok hr rx ry hb with ⟨h1, h2⟩ | ⟨d, d', h1, h2, h3, h4, h5⟩
    · exact .inl ⟨h1, by rw [h2]; exact q⟩
    · exact .inr ⟨d, d', h1, h2, h3, h4, by rw [h5]; exact q⟩
  · exact False.elim p⟩

/-! ### the order of ints and of texts -/
def oLt (x y : W) (h : List O) : Out W := match x, y with
  | .int i, .int j => .ok (.bl (decide (i < j))) h
  | .str a, .str b => .ok (.bl (decide (a < b))) h
  | _, _ => .bad
def oLe (x y : W) (h : List O) : Out W := match x, y with
  | .int i, .int j => .ok (.bl (decide (i ≤ j))) h
  | .str a, .str b => .ok (.bl (!decide (b < a))) h
  | _, _ => .bad
def oGt (x y : W) (h : List O) : Out W := match x, y with
  | .int i, .int j => .ok (.bl (decide (j < i))) h
  | .str a, .str b => .ok (.bl (decide (b < a))) h
  | _, _ => .bad
def oGe (x y : W) (h : List O) : Out W := match x, y with
  | .int i, .int j => .ok (.bl (decide (j ≤ i))) h
  | .str a, .str b => .ok (.bl (!decide (a < b))) h
  | _, _ => .bad
theorem ops_lt : OpS G X (compareOp .Lt) oLt := ⟨_, OpR.or op_lt op_lt_str, fun E H ρ h x y wx wy Q hr rx ry p => by
  unfold oLt at p
  split at p
  · exact .inl ⟨_, _, rx.int, ry.int, p.here hr vr_bl⟩
  · exact .inr ⟨_, _, rx.str, ry.str, p.here hr vr_bl⟩
  · exact False.elim p⟩
theorem ops_le : OpS G X (compareOp .LtE) oLe := ⟨_, OpR.or op_le op_le_str, fun E H ρ h x y wx wy Q hr rx ry p => by
  unfold oLe at p
  split at p
  · exact .inl ⟨_, _, rx.int, ry.int, p.here hr vr_bl⟩
  · exact .inr ⟨_, _, rx.str, ry.str, p.here hr vr_bl⟩
  · exact False.elim p⟩
theorem ops_gt : OpS G X (compareOp .Gt) oGt := ⟨_, OpR.or op_gt op_gt_str, fun E H ρ h x y wx wy Q hr rx ry p => by
  unfold oGt at p
  split at p
  · exact .inl ⟨_, _, rx.int, ry.int, p.here hr vr_bl⟩
  · exact .inr ⟨_, _, rx.str, ry.str, p.here hr vr_bl⟩
  · exact False.elim p⟩
theorem ops_ge : OpS G X (compareOp .GtE) oGe := ⟨_, OpR.or op_ge op_ge_str, fun E H ρ h x y wx wy Q hr rx ry p => by
  unfold oGe at p
  split at p
  · exact .inl ⟨_, _, rx.int, ry.int, p.here hr vr_bl⟩
  · exact .inr ⟨_, _, rx.str, ry.str, p.here hr vr_bl⟩
  · exact False.elim p⟩
end
end Den
set_option maxRecDepth 100000
/-! Subscripts, slices, stores, built-ins, methods, calls of defs. -/
namespace Den
open PySem L2 PyProof.Rows
section
variable {K : PySem.W.Frag} {G : Gx} {H : Hp} {ρ : List Addr} {h : List O}
theorem VRs.atI {vs : List V} {ws : List W} {i : Int} {w : W} (r : VRs K H ρ vs ws) (e : L2.atI ws i = some w) : ∃ v, L2.atI vs i = some v ∧ VR K H ρ v w := by
  unfold L2.atI at e ⊢
  rw [r.length]
  cases hx : ixN ws.length i with
  | none => rw [hx] at e; cases e
  | some j =>
    rw [hx] at e
    exact r.get e
end
def oIx (x y : W) (h : List O) : Out W := match y with
  | .int i => match x with
    | .str s => if s.length ≤ lim then match L2.atI s i with
      | some c => .ok (.str [c]) h
      | none => .bad else .bad
    | x => match sqA x h with
      | some xs => match L2.atI xs i with
        | some w => .ok w h
        | none => .bad
      | none => .bad
  | _ => .bad
def cutW {α : Type} (xs : List α) (lo hi : Option Int) : List α := (xs.drop (HT.sIx xs.length 0 lo)).take (HT.sIx xs.length xs.length hi - HT.sIx xs.length 0 lo)
def oSl (x : W) (lo hi : Option Int) (h : List O) : Out W := match x with
  | .str s => if s.length ≤ lim then .ok (.str (cutW s lo hi)) h else .bad
  | .tup xs => .ok (.tup (cutW xs lo hi)) h
  | x => match sqL x h with
    | some xs => .ok (.ref h.length) (h ++ [.lst (cutW xs lo hi)])
    | none => .bad
def mPart (m : M W) : M (Option Int) := fun e h => (m e h).bnd fun w h => match w with
  | .int i => .ok (some i) h
  | _ => .bad
def mNoPart : M (Option Int) := fun _ h => .ok none h
def mSl (m : M W) (lo hi : M (Option Int)) : M W := fun e h => (m e h).bnd fun x h => (lo e h).bnd fun l h => (hi e h).bnd fun u h => oSl x l u h
abbrev ORel : Hp → List Addr → Option Int → Option Int → Prop := fun _ _ a b => a = b
def SO (G : Gx) (X : Cx) (o : Option Expr) (m : M (Option Int)) : Prop := ∀ Wx, Takes X Wx → PO X o (rd X.K G Wx ORel m)
theorem _root_.L2.PO.imp {X : Cx} {e : Option Expr} {t t' : TO} (p : PO X e t) (i : ∀ σ H Q, t' σ H Q → t σ H Q) : PO X e t' := ⟨fun pins s σ H Q I q => p.run pins s σ H Q I (i σ H Q q)⟩
section
variable {G : Gx} {X : Cx} {a b c e : Expr} {ma mb mc m : M W} {pos p2 : Pos}
theorem ix_serves : Serves2 X.K G oIx (rIx X.K) := fun E H ρ h x y wx wy Q hr rx ry p => by
  unfold oIx at p
  split at p
  · rename_i i
    split at p
    · rename_i s
      split at p
      · rename_i hl
        split at p
        · rename_i cc hc
          exact .inr (.inr ⟨_, i, cc, rx.str, ry.int, len_le hl, by simpa using hc, p.here hr (vr_str' (l := [cc]) rfl)⟩)
        · exact False.elim p
      · exact False.elim p
    · split at p
      · rename_i xs hx
        split at p
        · rename_i w hw
          obtain ⟨a, vs, rfl, q, z⟩ := sqA_ok hr rx hx
          obtain ⟨v, hv, rv⟩ := z.atI hw
          rcases q with q | q
          · exact .inl ⟨a, vs, i, v, rfl, ry.int, q, hv, p.here hr rv⟩
          · exact .inr (.inl ⟨a, vs, i, v, rfl, ry.int, q, hv, p.here hr rv⟩)
        · exact False.elim p
      · exact False.elim p
  · exact False.elim p
theorem se_ix (ha : SE G X a ma) (hb : SE G X b mb) (hs : PlainIx b := by exact fun _ _ => rfl) : SE G X (.Subscript a b pos) (mOp oIx ma mb) := fun Wx tk =>
  (pe_ix ix_seq (ha Wx tk) (hb Wx tk) hs).imp fun σ H Q p => rd_op ix_serves p
theorem so_none : SO G X none mNoPart := fun Wx tk => po_none.imp fun σ H Q p => by
  obtain ⟨ρ, e, h, hr, sr, p⟩ := p
  exact p.here hr rfl
theorem so_some (ha : SE G X a ma) : SO G X (some a) (mPart ma) := fun Wx tk => (po_some (ha Wx tk)).imp fun σ H Q p => rd.bnd (Rel := VRel X.K) p fun H0 ρ0 e sr x H1 ρ1 h1 wx x1 r1 vx p1 => by
  split at p1
  · rename_i i
    exact ⟨i, vx.int, p1.here r1 rfl⟩
  · exact False.elim p1
theorem cutV_cut (vs : List V) (lo hi : Option Int) : cutV vs lo hi = cutW vs lo hi := rfl
theorem VRs.cut {K : PySem.W.Frag} {H : Hp} {ρ : List Addr} {vs : List V} {ws : List W} (r : VRs K H ρ vs ws) (lo hi : Option Int) : VRs K H ρ (cutV vs lo hi) (cutW ws lo hi) := by
  unfold cutV cutW
  rw [r.length]
  exact (r.drop _).take _
theorem cutS_cut (s : List Nat) (lo hi : Option Int) : cutS ⟨s.toArray⟩ lo hi = ⟨(cutW s lo hi).toArray⟩ := by
  unfold cutS cutW
  rw [Str_length]
def rSlAll (K : PySem.W.Frag) : V → Option Int → Option Int → Hp → VK → Prop := fun x lo hi H Q => rSlS x lo hi H Q ∨ (rSlA K x lo hi H Q ∨ rSlL K x lo hi H Q)
theorem sl_all : SlR X (rSlAll X.K) := SlR.or sl_str (SlR.or sl_tupA sl_list)
theorem sl_serves (E : XK) {H : Hp} {ρ : List Addr} {h : List O} {x : V} {wx : W} {lo hi : Option Int} {Q : VK} (hr : HR X.K G H ρ h) (rx : VR X.K H ρ x wx) (p : Post X.K G E (VRel X.K) Q H ρ (oSl wx lo hi h)) : rSlAll X.K x lo hi H Q := by
  unfold oSl at p
  split at p
  · rename_i s
    split at p
    · rename_i hl
      exact .inl ⟨_, rx.str, len_le hl, p.here hr (vr_str' (cutS_cut s lo hi))⟩
    · exact False.elim p
  · rename_i xs
    unfold VR at rx
    obtain ⟨a, vs, rfl, q, z⟩ := rx
    refine .inr (.inl ⟨a, vs, rfl, q, fun e => p.here hr (vr_tup q ?_), fun _ => new_tup hr (z.cut lo hi) p⟩)
    have e2 : cutV vs lo hi = vs := by
      unfold cutV
      rw [e.1, e.2]
      simp
    have := z.cut lo hi
    rw [e2] at this
    exact this
  · split at p
    · rename_i xs hx
      obtain ⟨a, vs, rfl, q, z⟩ := sqL_ok hr rx hx
      exact .inr (.inr ⟨a, vs, rfl, q, new_lst hr (z.cut lo hi) p⟩)
    · exact False.elim p
theorem se_sl {lo hi : Option Expr} {ml mh : M (Option Int)} (ha : SE G X a ma) (hl : SO G X lo ml) (hh : SO G X hi mh) : SE G X (.Subscript a (.Slice lo hi none p2) pos) (mSl ma ml mh) := fun Wx tk =>
  (pe_slice sl_all (ha Wx tk) (hl Wx tk) (hh Wx tk)).imp fun σ H Q p => rd.bnd (Rel := VRel X.K) p fun H0 ρ0 e sr x H1 ρ1 h1 wx x1 r1 vx p1 => by
    refine ⟨ρ1, e, h1, r1, sr.mono x1, (Post.bnd (Rel := ORel) p1).imp fun l H2 q => ?_⟩
    obtain ⟨ρ2, h2, wl, x2, r2, el, p2⟩ := q
    cases el
    refine ⟨ρ2, e, h2, r2, (sr.mono x1).mono x2, (Post.bnd (Rel := ORel) p2).imp fun u H3 q => ?_⟩
    obtain ⟨ρ3, h3, wu, x3, r3, eu, p3⟩ := q
    cases eu
    exact sl_serves _ r3 ((vx.mono x2).mono x3) p3

/-! ### calls of what is built in -/
def mCB (op : List W → List O → Out W) (m : M (List W)) : M W := fun e h => (m e h).bnd fun ws h => op ws h
def ServesC (K : PySem.W.Frag) (G : Gx) (op : List W → List O → Out W) (r : List V → Hp → VK → Prop) : Prop := ∀ (E : XK) (H : Hp) (ρ : List Addr) (h : List O) (vs : List V) (ws : List W) (Q : VK),
  HR K G H ρ h → VRs K H ρ vs ws → Post K G E (VRel K) Q H ρ (op ws h) → r vs H Q
def CaS (G : Gx) (X : Cx) (f : Value) (op : List W → List O → Out W) : Prop := ∃ r, CallR X f r ∧ ServesC X.K G op r
theorem se_callB {id : String} {x : Str} {es : List Expr} {op : List W → List O → Out W} {mr : M (List W)} {p : Pos} (s : CaS G X (.builtin id) op) (hg : Gl X x) (hm : X.mg x = none) (hv : bootBuiltins x = some (.builtin id)) (ha : SA G X (e :: es) mr)
    (hn : x ≠ "__name__" := by decide) (hdb : (x == ("__debug__" : Str)) = false := by decide)
    (he : starEach (e :: es) X.env = (false, eval e X.env) :: starEach es X.env := by rfl) (hpl : (backTo pos (starEach es X.env)).any (·.1) = false := by rfl) : SE G X (.Call (.Name x p) (e :: es) [] pos) (mCB op mr) := fun Wx tk => by
  obtain ⟨r, hc, s⟩ := s
  exact (pe_callB hc hg hm hv (ha Wx tk) hn hdb he hpl).imp fun σ H Q p => rd.bnd (Rel := VsRel X.K) p fun H0 ρ0 e sr x H1 ρ1 h1 wx x1 r1 vx p1 => s _ _ _ _ _ _ _ r1 vx p1
theorem se_callTy {T : String} {x : Str} {es : List Expr} {op : List W → List O → Out W} {mr : M (List W)} {p : Pos} (s : CaS G X (.type T) op) (hg : Gl X x) (hm : X.mg x = none) (hv : bootBuiltins x = some (.type T)) (ha : SA G X (e :: es) mr)
    (hn : x ≠ "__name__" := by decide) (hdb : (x == ("__debug__" : Str)) = false := by decide)
    (he : starEach (e :: es) X.env = (false, eval e X.env) :: starEach es X.env := by rfl) (hpl : (backTo pos (starEach es X.env)).any (·.1) = false := by rfl) : SE G X (.Call (.Name x p) (e :: es) [] pos) (mCB op mr) := fun Wx tk => by
  obtain ⟨r, hc, s⟩ := s
  exact (pe_callTy hc hg hm hv (ha Wx tk) hn hdb he hpl).imp fun σ H Q p => rd.bnd (Rel := VsRel X.K) p fun H0 ρ0 e sr x H1 ρ1 h1 wx x1 r1 vx p1 => s _ _ _ _ _ _ _ r1 vx p1
theorem VRs.inv1 {K : PySem.W.Frag} {H : Hp} {ρ : List Addr} {vs : List V} {w : W} (r : VRs K H ρ vs [w]) : ∃ v, vs = [v] ∧ VR K H ρ v w := by
  unfold VRs at r
  obtain ⟨v, l, rfl, q, z⟩ := r
  unfold VRs at z
  exact ⟨v, by rw [z], q⟩
theorem VRs.inv2 {K : PySem.W.Frag} {H : Hp} {ρ : List Addr} {vs : List V} {w w' : W} (r : VRs K H ρ vs [w, w']) : ∃ v v', vs = [v, v'] ∧ VR K H ρ v w ∧ VR K H ρ v' w' := by
  unfold VRs at r
  obtain ⟨v, l, rfl, q, z⟩ := r
  obtain ⟨v', rfl, q'⟩ := VRs.inv1 z
  exact ⟨v, v', rfl, q, q'⟩
theorem VRs.inv0 {K : PySem.W.Frag} {H : Hp} {ρ : List Addr} {vs : List V} (r : VRs K H ρ vs []) : vs = [] := by unfold VRs at r; exact r
def oLen (ws : List W) (h : List O) : Out W := match ws with
  | [.str s] => if s.length ≤ lim then .ok (.int s.length) h else .bad
  | [.ref n] => match h[n]? with
    | some (.lst xs) => .ok (.int xs.length) h
    | some (.dic xs) => .ok (.int xs.length) h
    | _ => .bad
  | [.tup xs] => .ok (.int xs.length) h
  | [.rol xs] => .ok (.int xs.length) h
  | _ => .bad
theorem cas_len : CaS G X (.builtin "len") oLen := ⟨_, CallR.or call_len_str (CallR.or call_len_seq call_lenD), fun E H ρ h vs ws Q hr r p => by
  unfold oLen at p
  split at p
  · rename_i s
    split at p
    · rename_i hl
      obtain ⟨v, rfl, q⟩ := r.inv1
      exact .inl ⟨_, by rw [q.str], len_le hl, by rw [Str_length]; exact p.here hr vr_int⟩
    · exact False.elim p
  · rename_i n
    obtain ⟨v, rfl, q⟩ := r.inv1
    obtain ⟨a, rfl, ea⟩ := q.ref
    split at p
    · rename_i xs hx
      obtain ⟨vs, e, z⟩ := hr.look ea hx
      exact .inr (.inl ⟨a, vs, rfl, .inl (.inl (.inl e)), by rw [z.length]; exact p.here hr vr_int⟩)
    · rename_i xs hx
      obtain ⟨vs, e, z⟩ := hr.look ea hx
      exact .inr (.inr ⟨a, vs, rfl, e, by rw [KRs.length z]; exact p.here hr vr_int⟩)
    · exact False.elim p
  · rename_i xs
    obtain ⟨v, rfl, q⟩ := r.inv1
    obtain ⟨a, vs, rfl, q, z⟩ := sqA_ok (xs := xs) hr q rfl
    exact .inr (.inl ⟨a, vs, rfl, q, by rw [z.length]; exact p.here hr vr_int⟩)
  · rename_i xs
    obtain ⟨v, rfl, q⟩ := r.inv1
    obtain ⟨a, vs, rfl, q, z⟩ := sqA_ok (xs := xs) hr q rfl
    exact .inr (.inl ⟨a, vs, rfl, q, by rw [z.length]; exact p.here hr vr_int⟩)
  · exact False.elim p⟩
def oAbs (ws : List W) (h : List O) : Out W := match ws with
  | [.int i] => .ok (.int (if i < 0 then -i else i)) h
  | _ => .bad
theorem cas_abs : CaS G X (.builtin "abs") oAbs := ⟨_, call_abs, fun E H ρ h vs ws Q hr r p => by
  unfold oAbs at p
  split at p
  · obtain ⟨v, rfl, q⟩ := r.inv1
    exact ⟨_, by rw [q.int], p.here hr vr_int⟩
  · exact False.elim p⟩
def oInt (ws : List W) (h : List O) : Out W := match ws with
  | [.int i] => .ok (.int i) h
  | [.bl b] => .ok (.int (if b then 1 else 0)) h
  | _ => .bad
theorem cas_int : CaS G X (.type "int") oInt := ⟨_, call_int1, fun E H ρ h vs ws Q hr r p => by
  unfold oInt at p
  split at p
  · obtain ⟨v, rfl, q⟩ := r.inv1
    exact .inl ⟨_, by rw [q.int], p.here hr vr_int⟩
  · obtain ⟨v, rfl, q⟩ := r.inv1
    exact .inr ⟨_, by rw [q.bl], p.here hr vr_int⟩
  · exact False.elim p⟩
/-- ints of a row -/
def intsOf : List W → Option (List Int)
  | [] => some []
  | .int i :: r => (intsOf r).map fun l => i :: l
  | _ :: _ => none
theorem intsOf_ok {K : PySem.W.Frag} {H : Hp} {ρ : List Addr} : ∀ {ws : List W} {vs : List V} {l : List Int}, VRs K H ρ vs ws → intsOf ws = some l → vs = l.map V.int
  | [], vs, l, r, e => by cases e; exact r.inv0
  | .int i :: r, vs, l, q, e => by
    unfold intsOf at e
    unfold VRs at q
    obtain ⟨v, t, rfl, q1, z⟩ := q
    cases hi : intsOf r with
    | none => rw [hi] at e; cases e
    | some l' =>
      rw [hi] at e
      cases e
      rw [q1.int, intsOf_ok z hi, List.map_cons]
  | .non :: r, vs, l, q, e => by cases e
  | .bl _ :: r, vs, l, q, e => by cases e
  | .str _ :: r, vs, l, q, e => by cases e
  | .tup _ :: r, vs, l, q, e => by cases e
  | .rol _ :: r, vs, l, q, e => by cases e
  | .ref _ :: r, vs, l, q, e => by cases e
def maxI : List Int → Int
  | [] => 0
  | [x] => x
  | x :: y :: r => let m := maxI (y :: r); if m > x then m else x
def minI : List Int → Int
  | [] => 0
  | [x] => x
  | x :: y :: r => let m := minI (y :: r); if m < x then m else x
theorem maxI_ok : ∀ {l : List Int} {m : Int}, m ∈ l → (∀ y, y ∈ l → y ≤ m) → m = maxI l
  | [], m, h, _ => by cases h
  | [x], m, h, _ => by simpa [maxI] using h
  | x :: y :: r, m, h, hm => by
    have ih : ∀ {m : Int}, m ∈ y :: r → (∀ z, z ∈ y :: r → z ≤ m) → m = maxI (y :: r) := fun a b => maxI_ok a b
    have hin : ∀ (l : List Int), l ≠ [] → maxI l ∈ l ∧ ∀ z ∈ l, z ≤ maxI l := by
      intro l
      induction l with
      | nil => intro h; exact absurd rfl h
      | cons a t ih =>
        intro _
        cases t with
        | nil => exact ⟨by simp [maxI], by simp [maxI]⟩
        | cons b t =>
          obtain ⟨i1, i2⟩ := ih (by simp)
          unfold maxI
          dsimp only
          split
          · exact ⟨List.mem_cons_of_mem _ i1, fun z hz => by
              rcases List.mem_cons.mp hz with e | e
              · omega
              · exact i2 z e⟩
          · exact ⟨List.mem_cons_self, fun z hz => by
              rcases List.mem_cons.mp hz with e | e
              · omega
              · have := i2 z e; omega⟩
    obtain ⟨i1, i2⟩ := hin (x :: y :: r) (by simp)
    have h1 := hm _ i1
    have h2 := i2 _ h
    omega
theorem minI_ok : ∀ {l : List Int} {m : Int}, m ∈ l → (∀ y, y ∈ l → m ≤ y) → m = minI l := by
  intro l m h hm
  have hin : ∀ (l : List Int), l ≠ [] → minI l ∈ l ∧ ∀ z ∈ l, minI l ≤ z := by
    intro l
    induction l with
    | nil => intro h; exact absurd rfl h
    | cons a t ih =>
      intro _
      cases t with
      | nil => exact ⟨by simp [minI], by simp [minI]⟩
      | cons b t =>
        obtain ⟨i1, i2⟩ := ih (by simp)
        unfold minI
        dsimp only
        split
        · exact ⟨List.mem_cons_of_mem _ i1, fun z hz => by
            rcases List.mem_cons.mp hz with e | e
            · omega
            · exact i2 z e⟩
        · exact ⟨List.mem_cons_self, fun z hz => by
            rcases List.mem_cons.mp hz with e | e
            · omega
            · have := i2 z e; omega⟩
  obtain ⟨i1, i2⟩ := hin l (List.ne_nil_of_mem h)
  have h1 := hm _ i1
  have h2 := i2 _ h
  omega
def oMax (ws : List W) (h : List O) : Out W := match ws with
  | [.int i, .int j] => .ok (.int (if j > i then j else i)) h
  | [x] => match sqL x h with
    | some xs => match intsOf xs with
      | some l => if 0 < l.length then .ok (.int (maxI l)) h else .bad
      | none => .bad
    | none => .bad
  | _ => .bad
theorem cas_max (hc : X.calm = true) : CaS G X (.builtin "max") oMax := ⟨_, CallR.or (call_max2 hc) (cr_max hc), fun E H ρ h vs ws Q hr r p => by
  unfold oMax at p
  split at p
  · obtain ⟨v, v', rfl, q, q'⟩ := r.inv2
    exact .inl ⟨_, _, by rw [q.int, q'.int], p.here hr vr_int⟩
  · obtain ⟨v, rfl, q⟩ := r.inv1
    split at p
    · rename_i xs hx
      obtain ⟨a, vs, rfl, q, z⟩ := sqL_ok hr q hx
      split at p
      · rename_i l hl
        split at p
        · rename_i h0
          refine .inr ⟨a, l, rfl, by rw [← intsOf_ok z hl]; exact q, h0, fun m h1 h2 => ?_⟩
          rw [maxI_ok h1 h2]
          exact p.here hr vr_int
        · exact False.elim p
      · exact False.elim p
    · exact False.elim p
  · exact False.elim p⟩
/-- the texts of a row -/
def strsOf : List W → Option (List (List Nat))
  | [] => some []
  | .str s :: r => (strsOf r).map fun l => s :: l
  | _ :: _ => none
abbrev mkS (l : List Nat) : Str := ⟨l.toArray⟩
theorem strsOf_ok {K : PySem.W.Frag} {H : Hp} {ρ : List Addr} : ∀ {ws : List W} {vs : List V} {l : List (List Nat)}, VRs K H ρ vs ws → strsOf ws = some l → vs = (l.map mkS).map V.str
  | [], vs, l, r, e => by cases e; exact r.inv0
  | .str i :: r, vs, l, q, e => by
    unfold strsOf at e
    unfold VRs at q
    obtain ⟨v, t, rfl, q1, z⟩ := q
    cases hi : strsOf r with
    | none => rw [hi] at e; cases e
    | some l' =>
      rw [hi] at e
      cases e
      rw [q1.str, strsOf_ok z hi, List.map_cons, List.map_cons]
  | .non :: r, vs, l, q, e => by cases e
  | .bl _ :: r, vs, l, q, e => by cases e
  | .int _ :: r, vs, l, q, e => by cases e
  | .tup _ :: r, vs, l, q, e => by cases e
  | .rol _ :: r, vs, l, q, e => by cases e
  | .ref _ :: r, vs, l, q, e => by cases e
def oTuple (ws : List W) (h : List O) : Out W := match ws with
  | [.tup xs] => .ok (.tup xs) h
  | [x] => match sqL x h with
    | some xs => .ok (.tup xs) h
    | none => .bad
  | _ => .bad
theorem cas_tuple : CaS G X (.type "tuple") oTuple := ⟨_, call_tuple_of, fun E H ρ h vs ws Q hr r p => by
  unfold oTuple at p
  split at p
  · obtain ⟨v, rfl, q⟩ := r.inv1
    unfold VR at q
    obtain ⟨a, vs, rfl, q, z⟩ := q
    exact ⟨a, vs, rfl, .inr ⟨q, p.here hr (vr_tup q z)⟩⟩
  · obtain ⟨v, rfl, q⟩ := r.inv1
    split at p
    · rename_i xs hx
      obtain ⟨a, vs, rfl, q, z⟩ := sqL_ok hr q hx
      exact ⟨a, vs, rfl, .inl ⟨q, new_tup hr z p⟩⟩
    · exact False.elim p
  · exact False.elim p⟩
def oList (ws : List W) (h : List O) : Out W := match ws with
  | [x] => match sqA x h with
    | some xs => .ok (.ref h.length) (h ++ [.lst xs])
    | none => .bad
  | _ => .bad
theorem cas_list : CaS G X (.type "list") oList := ⟨_, call_list_of, fun E H ρ h vs ws Q hr r p => by
  unfold oList at p
  split at p
  · obtain ⟨v, rfl, q⟩ := r.inv1
    split at p
    · rename_i xs hx
      obtain ⟨a, vs, rfl, q, z⟩ := sqA_ok hr q hx
      exact ⟨a, vs, rfl, q, new_lst hr z p⟩
    · exact False.elim p
  · exact False.elim p⟩

/-! ### methods of what is built in -/
def tyW (T : String) (w : W) (h : List O) : Bool := match w with
  | .str _ => T == "str"
  | .rol _ => T == "list"
  | .ref n => match h[n]? with
    | some (.lst _) => T == "list"
    | some (.dic _) => T == "dict"
    | _ => false
  | _ => false
theorem tyW_ok {K : PySem.W.Frag} {H : Hp} {ρ : List Addr} {h : List O} {T : String} {v : V} {w : W} (hr : HR K G H ρ h) (r : VR K H ρ v w) (e : tyW T w h = true) : tyV K T v H := by
  cases w with
  | str s => rw [r.str]; exact eq_of_beq e
  | rol xs =>
    obtain ⟨a, vs, rfl, q, z⟩ := sqL_ok (xs := xs) hr r rfl
    exact .inl ⟨eq_of_beq e, vs, q⟩
  | ref n =>
    obtain ⟨a, rfl, ea⟩ := r.ref
    unfold tyW at e
    dsimp only at e
    split at e
    · rename_i xs hx
      obtain ⟨vs, q, z⟩ := hr.look ea hx
      exact .inl ⟨eq_of_beq e, vs, .inl (.inl q)⟩
    · rename_i xs hx
      obtain ⟨vs, q, z⟩ := hr.look ea hx
      exact .inr (.inr (.inl ⟨eq_of_beq e, .inl ⟨vs, q⟩⟩))
    · cases e
  | _ => cases e
def mMeth (T : String) (op : W → List W → List O → Out W) (o : M W) (m : M (List W)) : M W := fun e h => (o e h).bnd fun x h => if tyW T x h = true then (m e h).bnd fun ws h => op x ws h else .bad
def ServesM (K : PySem.W.Frag) (G : Gx) (op : W → List W → List O → Out W) (r : V → List V → Hp → VK → Prop) : Prop := ∀ (E : XK) (H : Hp) (ρ : List Addr) (h : List O) (x : V) (wx : W) (vs : List V) (ws : List W) (Q : VK),
  HR K G H ρ h → VR K H ρ x wx → VRs K H ρ vs ws → Post K G E (VRel K) Q H ρ (op wx ws h) → r x vs H Q
def MeS (G : Gx) (X : Cx) (id : String) (op : W → List W → List O → Out W) : Prop := ∃ r, MtR X id r ∧ ServesM X.K G op r
theorem se_meth {T : String} {id : String} {name : Str} {o e : Expr} {es : List Expr} {op : W → List W → List O → Out W} {mo : M W} {mr : M (List W)} {apos cpos : Pos} (pa : PlainAttrs T) (slot : Slot T name id) (hty : typeOf (.builtin id) = pure (.type "method_descriptor")) (s : MeS G X id op)
    (ho : SE G X o mo) (ha : SA G X (e :: es) mr) (hbase : attributeBase o name X.env (eval o X.env) = eval o X.env := by rfl)
    (hfew : ((backTo cpos (starEach (e :: es) X.env)).all (fun x => !x.1) && (backToKw cpos (keywordEach [] X.env)).all (fun x => x.1.isSome)
      && decide ((e :: es).length + ([] : List Keyword).length + (if ([] : List Keyword).isEmpty then 0 else 1) < 30)) = true := by rfl)
    (hline : (apos.endLine == cpos.line) = true := by rfl) (hs : starEach (e :: es) X.env = (false, eval e X.env) :: starEach es X.env := by rfl) (hplain : (backTo cpos (starEach es X.env)).any (·.1) = false := by rfl) :
    SE G X (.Call (.Attribute o name apos) (e :: es) [] cpos) (mMeth T op mo mr) := fun Wx tk => by
  obtain ⟨r, hm, s⟩ := s
  refine (pe_bm pa slot hty hm (ho Wx tk) (ha Wx tk) hbase hfew hline hs hplain).imp fun σ H Q p => rd.bnd (Rel := VRel X.K) p fun H0 ρ0 e sr x H1 ρ1 h1 wx x1 r1 vx p1 => ?_
  split at p1
  · rename_i hty
    refine ⟨tyW_ok r1 vx hty, ρ1, e, h1, r1, sr.mono x1, (Post.bnd (Rel := VsRel X.K) p1).imp fun ys H2 q => ?_⟩
    obtain ⟨ρ2, h2, wys, x2, r2, vys, p2⟩ := q
    exact s _ _ _ _ _ _ _ _ _ r2 (vx.mono x2) vys p2
  · exact False.elim p1
theorem se_meth0 {T : String} {id : String} {name : Str} {o : Expr} {op : W → List W → List O → Out W} {mo : M W} {apos cpos : Pos} (pa : PlainAttrs T) (slot : Slot T name id) (hty : typeOf (.builtin id) = pure (.type "method_descriptor")) (s : MeS G X id op)
    (ho : SE G X o mo) (hbase : attributeBase o name X.env (eval o X.env) = eval o X.env := by rfl) (hline : (apos.endLine == cpos.line) = true := by rfl) :
    SE G X (.Call (.Attribute o name apos) [] [] cpos) (mMeth T op mo mNil) := fun Wx tk => by
  obtain ⟨r, hm, s⟩ := s
  refine (pe_bm0 pa slot hty hm (ho Wx tk) hbase hline).imp fun σ H Q p => rd.bnd (Rel := VRel X.K) p fun H0 ρ0 e sr x H1 ρ1 h1 wx x1 r1 vx p1 => ?_
  split at p1
  · rename_i hty
    exact ⟨tyW_ok r1 vx hty, s _ _ _ _ _ _ _ _ _ r1 vx .nil p1⟩
  · exact False.elim p1
section
variable {K : PySem.W.Frag} {H : Hp} {ρ : List Addr} {h : List O} {E : XK} {vs : List V} {ws : List W} {Q : VK} {n : Nat} {a : Addr}
/-- a list is changed -/
theorem put_lst {w : W} {v : V} (hr : HR K G H ρ h) (ea : ρ[n]? = some a) (nk : NoDik h n) (r : VRs K H ρ vs ws) (rv : ∀ H', VR K H' ρ v w) (p : Post K G E (VRel K) Q H ρ (.ok w (h.set n (.lst ws)))) : Q v (upd H a (.lst vs)) := by
  obtain ⟨r1, x1⟩ := hr.write (o := .lst vs) (u := .lst ws) ea nk rfl fun x => ⟨vs, upd_same, r.mono x⟩
  exact p _ _ _ x1 r1 (rv _)
end
def oAppend (x : W) (ws : List W) (h : List O) : Out W := match x, ws with
  | .ref n, [y] => match lstAt h n with
    | some xs => if xs.length < lim then .ok .non (h.set n (.lst (xs ++ [y]))) else .bad
    | none => .bad
  | _, _ => .bad
theorem mes_append : MeS G X "list.append" oAppend := ⟨_, mt_append, fun E H ρ h x wx vs ws Q hr rx r p => by
  unfold oAppend at p
  split at p
  · split at p
    · rename_i xs hx
      split at p
      · rename_i hl
        obtain ⟨a, rfl, ea⟩ := rx.ref
        obtain ⟨y, rfl, ry⟩ := r.inv1
        obtain ⟨vs, q, z⟩ := hr.look ea (lstAt_some hx)
        exact ⟨a, vs, y, rfl, rfl, q, by rw [z.length]; exact Nat.lt_of_lt_of_le hl (lim_size (Nat.le_refl _)), put_lst hr ea (lstAt_nk (by assumption)) (z.append (.one ry)) (fun _ => vr_non) p⟩
      · exact False.elim p
    · exact False.elim p
  · exact False.elim p⟩
def joinW (s : List Nat) : List (List Nat) → List Nat
  | [] => []
  | [x] => x
  | x :: y :: r => x ++ (s ++ joinW s (y :: r))
theorem join_ok' (s : List Nat) (l : List (List Nat)) : PySem.Str.join (mkS s) (l.map mkS) = mkS (joinW s l) := by
  induction l with
  | nil => rfl
  | cons x r ih =>
    cases r with
    | nil => rfl
    | cons y r =>
      show mkS x ++ mkS s ++ PySem.Str.join (mkS s) ((y :: r).map mkS) = _
      rw [ih]
      show (⟨x.toArray⟩ ++ ⟨s.toArray⟩ ++ ⟨(joinW s (y :: r)).toArray⟩ : Str) = ⟨(x ++ (s ++ joinW s (y :: r))).toArray⟩
      rw [Str_app, Str_app, List.append_assoc]
theorem join_ok (s : List Nat) (l : List (List Nat)) : Txt.join (mkS s) (l.map mkS) = mkS (joinW s l) := by
  unfold Txt.join
  rw [StrLaws.glued_eq_join]
  exact join_ok' s l
def oJoin (x : W) (ws : List W) (h : List O) : Out W := match x, ws with
  | .str s, [y] => match sqA y h with
    | some xs => match strsOf xs with
      | some l => if (l.map List.length).sum + l.length * s.length ≤ lim then .ok (.str (joinW s l)) h else .bad
      | none => .bad
    | none => .bad
  | _, _ => .bad
theorem mes_join : MeS G X "str.join" oJoin := ⟨_, mt_join, fun E H ρ h x wx vs ws Q hr rx r p => by
  unfold oJoin at p
  split at p
  · rename_i s y
    split at p
    · rename_i xs hx
      split at p
      · rename_i l hl
        split at p
        · rename_i hz
          obtain ⟨y, rfl, ry⟩ := r.inv1
          obtain ⟨a, vs, rfl, q, z⟩ := sqA_ok hr ry hx
          rw [strsOf_ok z hl] at q
          refine ⟨_, a, l.map mkS, rx.str, rfl, q, ?_, p.here hr (vr_str' (join_ok s l))⟩
          have e1 : ((l.map mkS).map fun x => x.length) = l.map List.length := by
            rw [List.map_map]
            exact List.map_congr_left fun x _ => Str_length x
          rw [e1, List.length_map, Str_length]
          exact Nat.le_trans hz (by decide)
        · exact False.elim p
      · exact False.elim p
    · exact False.elim p
  · exact False.elim p⟩
end
end Den
set_option maxRecDepth 100000
/-! Statements, loops, comprehensions, calls of defs. -/
namespace Den
open PySem L2 PyProof.Rows
inductive SOut where
  | nx (e : Env) (h : List O)
  | rt (w : W) (h : List O)
  | bk (e : Env) (h : List O)
  | ct (e : Env) (h : List O)
  | exc (c : Nat) (p : Option W) (e : Env) (h : List O)
  | bad
abbrev Sm := Env → List O → SOut
def Out.stm {α : Type} (o : Out α) (e : Env) (f : α → List O → SOut) : SOut := match o with
  | .ok a h => f a h
  | .exc c p h => .exc c p e h
  | .bad => .bad
@[simp] theorem Out.stm_ok {α : Type} (a : α) (h : List O) (e : Env) (f : α → List O → SOut) : (Out.ok a h).stm e f = f a h := rfl
@[simp] theorem Out.stm_exc {α : Type} (c : Nat) (p : Option W) (h : List O) (e : Env) (f : α → List O → SOut) : (Out.exc c p h : Out α).stm e f = .exc c p e h := rfl
@[simp] theorem Out.stm_bad {α : Type} (e : Env) (f : α → List O → SOut) : (Out.bad : Out α).stm e f = .bad := rfl
def PostS (K : PySem.W.Frag) (G : Gx) (Wx : WX) (D : Ends) (H : Hp) (ρ : List Addr) : SOut → Prop
  | .nx e h => ∀ ρ' H' σ', Ext H ρ H' ρ' → HR K G H' ρ' h → SR K H' ρ' σ' e → D.nx σ' H'
  | .bk e h => ∀ ρ' H' σ', Ext H ρ H' ρ' → HR K G H' ρ' h → SR K H' ρ' σ' e → D.bk σ' H'
  | .ct e h => ∀ ρ' H' σ', Ext H ρ H' ρ' → HR K G H' ρ' h → SR K H' ρ' σ' e → D.ct σ' H'
  | .rt w h => ∀ ρ' H' v, Ext H ρ H' ρ' → HR K G H' ρ' h → VR K H' ρ' v w → D.rt v H'
  | .exc c p e h => ∀ ρ' H' σ' cls d, Ext H ρ H' ρ' → HR K G H' ρ' h → SR K H' ρ' σ' e → ER K G H' ρ' cls d c p → Wx cls d σ' H'
  | .bad => False
def rdS (K : PySem.W.Frag) (G : Gx) (Wx : WX) (m : Sm) : TS := fun D σ H => ∃ ρ e h, HR K G H ρ h ∧ SR K H ρ σ e ∧ PostS K G Wx D H ρ (m e h)
def SS (G : Gx) (X : Cx) (s : Stmt) (m : Sm) : Prop := ∀ Wx, Takes X Wx → PS X s (rdS X.K G Wx m)
def SSs (G : Gx) (X : Cx) (s : List Stmt) (m : Sm) : Prop := ∀ Wx, Takes X Wx → PSs X s (rdS X.K G Wx m)
section
variable {K : PySem.W.Frag} {G : Gx} {Wx : WX} {D : Ends} {H H1 : Hp} {ρ ρ1 : List Addr} {h : List O} {σ : L2.St} {e : Env}
theorem PostS.ext {o : SOut} (x : Ext H ρ H1 ρ1) (p : PostS K G Wx D H ρ o) : PostS K G Wx D H1 ρ1 o := by
  cases o with
  | nx e h => exact fun ρ' H' v x' r q => p ρ' H' v (x.trans x') r q
  | rt e h => exact fun ρ' H' v x' r q => p ρ' H' v (x.trans x') r q
  | bk e h => exact fun ρ' H' v x' r q => p ρ' H' v (x.trans x') r q
  | ct e h => exact fun ρ' H' v x' r q => p ρ' H' v (x.trans x') r q
  | exc c q e h' => exact fun ρ' H' σ' cls d x' r s q => p ρ' H' σ' cls d (x.trans x') r s q
  | bad => exact p
theorem PostS.stm {α β : Type} {Rel : Hp → List Addr → β → α → Prop} {o : Out α} {f : α → List O → SOut} (sr : SR K H ρ σ e) (p : PostS K G Wx D H ρ (o.stm e f)) :
    Post K G (fun cls d H' => Wx cls d σ H') Rel (fun v H1 => ∃ ρ1 h1 w, Ext H ρ H1 ρ1 ∧ HR K G H1 ρ1 h1 ∧ Rel H1 ρ1 v w ∧ PostS K G Wx D H1 ρ1 (f w h1)) H ρ o := by
  cases o with
  | ok w h' => exact fun ρ' H' v x r q => ⟨ρ', h', w, x, r, q, PostS.ext x p⟩
  | exc c q h' => exact fun ρ' H' cls d x r q => p ρ' H' σ cls d x r (sr.mono x) q
  | bad => exact p
/-- go on behind an expression -/
theorem rdS.stm {α β : Type} {Rel : Hp → List Addr → β → α → Prop} {m : M α} {f : Env → α → List O → SOut} {Q' : β → Hp → Prop} (p : rdS K G Wx (fun e h => (m e h).stm e (f e)) D σ H)
    (k : ∀ H0 ρ0 e, SR K H0 ρ0 σ e → ∀ v H1 ρ1 h1 w, Ext H0 ρ0 H1 ρ1 → HR K G H1 ρ1 h1 → Rel H1 ρ1 v w → PostS K G Wx D H1 ρ1 (f e w h1) → Q' v H1) : rd K G Wx Rel m σ H Q' := by
  obtain ⟨ρ, e, h, hr, sr, p⟩ := p
  refine ⟨ρ, e, h, hr, sr, (PostS.stm (Rel := Rel) sr p).imp fun v H1 q => ?_⟩
  obtain ⟨ρ1, h1, w, x, r1, q1, p1⟩ := q
  exact k H ρ e sr v H1 ρ1 h1 w x r1 q1 p1
end

/-! ### blocks -/
def mSkip : Sm := fun e h => .nx e h
def mSeq (a b : Sm) : Sm := fun e h => match a e h with
  | .nx e h => b e h
  | .rt w h => .rt w h
  | .bk e h => .bk e h
  | .ct e h => .ct e h
  | .exc c p e h => .exc c p e h
  | .bad => .bad
section
variable {G : Gx} {X : Cx} {s : Stmt} {sts : List Stmt} {a b c : Sm} {e : Expr} {m : M W} {pos : Pos}
theorem sss_nil : SSs G X [] mSkip := fun Wx tk => pss_nil.imp fun D σ H p => by
  obtain ⟨ρ, e, h, hr, sr, p⟩ := p
  exact p ρ H σ (Ext.refl hr) hr sr
theorem sss_one (h : SS G X s a) : SSs G X [s] a := fun Wx tk => pss_one (h Wx tk)
theorem sss_cons (h1 : SS G X s a) (h2 : SSs G X sts b) : SSs G X (s :: sts) (mSeq a b) := fun Wx tk => (pss_cons (h1 Wx tk) (h2 Wx tk)).imp fun D σ H p => by
  obtain ⟨ρ, e, h, hr, sr, p⟩ := p
  refine ⟨ρ, e, h, hr, sr, ?_⟩
  unfold mSeq at p
  cases hm : a e h with
  | nx e1 h1 => rw [hm] at p; exact fun ρ' H' σ' x r q => ⟨ρ', e1, h1, r, q, p.ext x⟩
  | rt w h1 => rw [hm] at p; exact p
  | bk e1 h1 => rw [hm] at p; exact p
  | ct e1 h1 => rw [hm] at p; exact p
  | exc c q e1 h1 => rw [hm] at p; exact p
  | bad => rw [hm] at p; exact p
theorem ss_pass : SS G X (.Pass pos) mSkip := fun Wx tk => ps_pass.imp fun D σ H p => by
  obtain ⟨ρ, e, h, hr, sr, p⟩ := p
  exact p ρ H σ (Ext.refl hr) hr sr
def mBrk : Sm := fun e h => .bk e h
def mCnt : Sm := fun e h => .ct e h
theorem ss_break : SS G X (.Break pos) mBrk := fun Wx tk => ps_break.imp fun D σ H p => by
  obtain ⟨ρ, e, h, hr, sr, p⟩ := p
  exact p ρ H σ (Ext.refl hr) hr sr
theorem ss_continue : SS G X (.Continue pos) mCnt := fun Wx tk => ps_continue.imp fun D σ H p => by
  obtain ⟨ρ, e, h, hr, sr, p⟩ := p
  exact p ρ H σ (Ext.refl hr) hr sr
def mDrop (m : M W) : Sm := fun e h => (m e h).stm e fun _ h => .nx e h
theorem ss_expr (he : SE G X e m) (hs : swapsWith e none pos.line X.env = pure false := by rfl) : SS G X (.Expr e pos) (mDrop m) := fun Wx tk => (ps_expr (he Wx tk) hs).imp fun D σ H p =>
  rdS.stm (Rel := VRel X.K) p fun H0 ρ0 e sr v H1 ρ1 h1 w x r q p1 => p1 ρ1 H1 σ (Ext.refl r) r (sr.mono x)
def mRet (m : M W) : Sm := fun e h => (m e h).stm e fun w h => .rt w h
theorem ss_ret (he : SE G X e m) : SS G X (.Return (some e) pos) (mRet m) := fun Wx tk => (ps_ret (he Wx tk)).imp fun D σ H p =>
  rdS.stm (Rel := VRel X.K) p fun H0 ρ0 e sr v H1 ρ1 h1 w x r q p1 => p1 ρ1 H1 v (Ext.refl r) r q
def mRetN : Sm := fun e h => .rt .non h
theorem ss_retN : SS G X (.Return none pos) mRetN := fun Wx tk => ps_retN.imp fun D σ H p => by
  obtain ⟨ρ, e, h, hr, sr, p⟩ := p
  exact p ρ H .non (Ext.refl hr) hr vr_non
def mIfS (t : M Bool) (a b : Sm) : Sm := fun e h => (t e h).stm e fun c h => if c = true then a e h else b e h
theorem ss_if {ce : Expr} {A B : List Stmt} {t : M Bool} (hc : ST G X ce t) (ha : SSs G X A a) (hb : SSs G X B b) : SS G X (.If ce A B pos) (mIfS t a b) := fun Wx tk =>
  (ps_if (hc Wx tk) (ha Wx tk) (hb Wx tk)).imp fun D σ H p => rdS.stm (Rel := BRel) p fun H0 ρ0 e sr v H1 ρ1 h1 w x r q p1 => by
    cases q
    cases v with
    | true => exact iteT ⟨ρ1, e, h1, r, sr.mono x, p1⟩
    | false => exact iteF ⟨ρ1, e, h1, r, sr.mono x, p1⟩
/-- name = value -/
def mSet (i : Nat) (m : M W) : Sm := fun e h => (m e h).stm e fun w h => .nx (e.set i (some w)) h
theorem asg_name {i : Nat} {Wx : WX} {D : Ends} {σ : L2.St} {H : Hp} (p : rdS X.K G Wx (mSet i m) D σ H) : tAsg (rd X.K G Wx (VRel X.K) m) (gName i) D σ H :=
  rdS.stm (Rel := VRel X.K) p fun H0 ρ0 e sr v H1 ρ1 h1 w x r q p1 => p1 ρ1 H1 _ (Ext.refl r) r ((sr.mono x).set i q)
theorem ss_set {i : Nat} {x : Str} {pos' : Pos} (hN : X.N.Nodup) (hi : X.N[i]? = some x) (hx : Loc X.env.scope x) (he : SE G X e m) (hs : swapsWith e (some (.Name x pos')) pos.line X.env = pure false := by rfl)
    (hf : X.fn x = true ∨ X.env.scope.names.lookup x = some .local := by first | exact .inl rfl | exact .inr rfl | assumption) : SS G X (.Assign [.Name x pos'] e pos) (mSet i m) := fun Wx tk =>
  (ps_set hN hi hx (he Wx tk) hs hf).imp fun D σ H p => asg_name p
/-- targets of names: what they set -/
def mT2 (i j : Nat) (ma mb : M W) : Sm := fun e h => (ma e h).stm e fun x h => (mb e h).stm e fun y h => .nx ((e.set i (some x)).set j (some y)) h
def mTs (is : List Nat) (m : M (List W)) : Sm := fun e h => (m e h).stm e fun ws h => if is.length = ws.length then .nx ((is.zip ws).foldl (fun e p => e.set p.1 (some p.2)) e) h else .bad
theorem ss_par {i j : Nat} {x y : Str} {a b : Expr} {mr : M (List W)} {px py pt : Pos} {kt k2 pt2} (hc : X.calm = true) (hN : X.N.Nodup) (hi : X.N[i]? = some x) (hj : X.N[j]? = some y) (hij : i ≠ j)
    (hx : X.env.scope.names.lookup x = some .local) (hy : X.env.scope.names.lookup y = some .local) (ha : SA G X [a, b] mr)
    (hw : swappedStores [.Tuple [.Name x px, .Name y py] kt pt] (.Tuple [a, b] k2 pt2) X.env = pure (some [x, y]))
    (hs : swapsWithSole [.Tuple [.Name x px, .Name y py] kt pt] (.Tuple [a, b] k2 pt2) pos.line X.env = pure false := by rfl) :
    SS G X (.Assign [.Tuple [.Name x px, .Name y py] kt pt] (.Tuple [a, b] k2 pt2) pos) (mTs [i, j] mr) := fun Wx tk =>
  (ps_par hc hN hi hj hij hx hy (ha Wx tk) hw hs).imp fun D σ H p => rdS.stm (Rel := VsRel X.K) p fun H0 ρ0 e sr v H1 ρ1 h1 w x r q p1 => by
    split at p1
    · rename_i hl
      match w, hl, q, p1 with
      | [w1, w2], hl, q, p1 =>
        obtain ⟨v1, v2, rfl, q1, q2⟩ := q.inv2
        exact ⟨v1, v2, rfl, p1 ρ1 H1 _ (Ext.refl r) r (((sr.mono x).set i q1).set j q2)⟩
    · exact False.elim p1

theorem ss_doc {x : Str} {j : Nat} {pos' : Pos} : SS G X (.Expr (.Constant (.str x) j pos) pos') mSkip := fun Wx tk => ps_doc.imp fun D σ H p => by
  obtain ⟨ρ, e, h, hr, sr, p⟩ := p
  exact p ρ H σ (Ext.refl hr) hr sr

/-! ### targets: names, tuples of names -/
abbrev Tg := W → Env → Option Env
/-- what a target sets: slots among vs alone -/
def TgOk (K : PySem.W.Frag) (G : Gx) (vs : List Nat) (g : TG) (t : Tg) : Prop := ∀ (H : Hp) (ρ : List Addr) (h : List O) (σ : L2.St) (e e1 : Env) (v : V) (w : W) (Q : L2.St → Hp → Prop),
  HR K G H ρ h → SR K H ρ σ e → VR K H ρ v w → t w e = some e1 → (∀ σ1, SR K H ρ σ1 e1 → wipe σ1 vs = wipe σ vs → Q σ1 H) → g v σ H Q
def tgN (i : Nat) : Tg := fun w e => some (e.set i (some w))
def tgTs : List Nat → List W → Env → Option Env
  | [], [], e => some e
  | i :: is, w :: ws, e => tgTs is ws (e.set i (some w))
  | _, _, _ => none
def tgT (is : List Nat) : Tg := fun w e => match w with
  | .tup ws => tgTs is ws e
  | _ => none
theorem wipe_get {σ : L2.St} {j : Nat} : ∀ {vs : List Nat}, j ∉ vs → (wipe σ vs)[j]? = σ[j]?
  | [], _ => rfl
  | v :: vs, h => by
    have h1 : v ≠ j := fun z => h (by rw [z]; exact List.mem_cons_self)
    have h2 : j ∉ vs := fun z => h (List.mem_cons_of_mem _ z)
    unfold wipe
    rw [List.getElem?_set_ne h1]
    exact wipe_get h2
theorem wipe_in {σ : L2.St} {j : Nat} : ∀ {vs : List Nat}, j ∈ vs → (wipe σ vs)[j]? = if j < σ.length then some none else none
  | v :: vs, h => by
    unfold wipe
    by_cases hv : v = j
    · subst hv
      by_cases hl : v < σ.length
      · rw [if_pos hl, List.getElem?_set_self (by rw [wipe_length]; exact hl)]
      · rw [if_neg hl, List.getElem?_eq_none (by rw [List.length_set, wipe_length]; omega)]
    · rw [List.getElem?_set_ne hv]
      exact wipe_in (by rcases List.mem_cons.mp h with z | z; exact absurd z.symm hv; exact z)
theorem wipe_set {σ : L2.St} {i : Nat} {x : Option V} {vs : List Nat} (h : i ∈ vs) : wipe (σ.set i x) vs = wipe σ vs := by
  apply List.ext_getElem?
  intro j
  by_cases hj : j ∈ vs
  · rw [wipe_in hj, wipe_in hj, List.length_set]
  · rw [wipe_get hj, wipe_get hj]
    exact List.getElem?_set_ne (fun z : i = j => hj (by rw [← z]; exact h))
theorem tgk_name {K : PySem.W.Frag} {vs : List Nat} {i : Nat} (hi : i ∈ vs := by decide) : TgOk K G vs (gName i) (tgN i) := fun H ρ h σ e e1 v w Q hr sr rv ht k => by
  cases ht
  exact k _ (sr.set i rv) (wipe_set hi)
theorem tgk_tup {K : PySem.W.Frag} {vs : List Nat} : ∀ {is : List Nat}, (∀ i ∈ is, i ∈ vs) → ∀ {H : Hp} {ρ : List Addr} {h : List O} {σ : L2.St} {e e1 : Env} {xs : List V} {ws : List W} {Q : L2.St → Hp → Prop},
    HR K G H ρ h → SR K H ρ σ e → VRs K H ρ xs ws → tgTs is ws e = some e1 → (∀ σ1, SR K H ρ σ1 e1 → wipe σ1 vs = wipe σ vs → Q σ1 H) → (is.foldr (fun i g => gCons (gName i) g) gNil) xs σ H Q
  | [], hi, H, ρ, h, σ, e, e1, xs, ws, Q, hr, sr, rv, ht, k => by
    cases ws with
    | nil => cases ht; exact ⟨rv.inv0, k _ sr rfl⟩
    | cons w ws => cases ht
  | i :: is, hi, H, ρ, h, σ, e, e1, xs, ws, Q, hr, sr, rv, ht, k => by
    cases ws with
    | nil => cases ht
    | cons w ws =>
      unfold VRs at rv
      obtain ⟨v, r, rfl, q, z⟩ := rv
      refine ⟨v, r, rfl, ?_⟩
      exact tgk_tup (fun j hj => hi j (List.mem_cons_of_mem _ hj)) hr (sr.set i q) z ht fun σ1 s1 e1 => k σ1 s1 (e1.trans (wipe_set (hi i List.mem_cons_self)))
theorem tgk_tups {K : PySem.W.Frag} {vs is : List Nat} {n : Nat} (hn : is.length = n := by rfl) (hi : ∀ i ∈ is, i ∈ vs := by decide) : TgOk K G vs (gTup K n (is.foldr (fun i g => gCons (gName i) g) gNil)) (tgT is) := fun H ρ h σ e e1 v w Q hr sr rv ht k => by
  unfold tgT at ht
  split at ht
  · rename_i ws
    unfold VR at rv
    obtain ⟨a, vs', rfl, q, z⟩ := rv
    have hl : ∀ (is : List Nat) (ws : List W) (e : Env), tgTs is ws e = some e1 → is.length = ws.length := by
      intro is
      induction is with
      | nil => intro ws e h; cases ws with
        | nil => rfl
        | cons w ws => cases h
      | cons i is ih => intro ws e h; cases ws with
        | nil => cases h
        | cons w ws => rw [List.length_cons, List.length_cons, ih ws _ h]
    exact ⟨a, vs', rfl, q, by rw [z.length, ← hl _ _ _ ht, hn], tgk_tup hi hr sr z ht k⟩
  · cases ht
/-- target = value -/
def mAsg (t : Tg) (m : M W) : Sm := fun e h => (m e h).stm e fun w h => match t w e with
  | some e => .nx e h
  | none => .bad
theorem ss_asg {tg : Expr} {g : TG} {t : Tg} {vs : List Nat} (he : SE G X e m) (hg : PG X tg g) (ht : TgOk X.K G vs g t) (hs : swapsWithSole [tg] e pos.line X.env = pure false := by rfl) (hw : swappedStores [tg] e X.env = pure none := by rfl)
    (h1 : (assignEach [tg] X.env).map (·.2) = [assign tg X.env] := by rfl) : SS G X (.Assign [tg] e pos) (mAsg t m) := fun Wx tk =>
  (ps_asg (he Wx tk) hg hs hw h1).imp fun D σ H p => rdS.stm (Rel := VRel X.K) p fun H0 ρ0 e sr v H1 ρ1 h1 w x r q p1 => by
    split at p1
    · rename_i e1 he1
      exact ht H1 ρ1 h1 σ e e1 v w _ r (sr.mono x) q he1 fun σ1 s1 _ => p1 ρ1 H1 σ1 (Ext.refl r) r s1
    · exact False.elim p1

/-! ### op= -/
def oIadd (x y : W) (h : List O) : Out W := match x, y with
  | .int i, .int j => .ok (.int (i + j)) h
  | .str a, .str b => if a.length + b.length ≤ lim then .ok (.str (a ++ b)) h else .bad
  | _, _ => .bad
theorem _root_.L2.PIp.or {op : Operator} {r r' : TIp} (a : PIp X op r) (b : PIp X op r') : PIp X op (fun x y H Q => r x y H Q ∨ r' x y H Q) := fun pins s σ H x y v u Q I rx ry h => by
  rcases h with h | h
  · exact a pins s σ H x y v u Q I rx ry h
  · exact b pins s σ H x y v u Q I rx ry h
theorem pip_of {op : Operator} {r : R2} (h : OpR X (inplaceOp op) r) : PIp X op r := fun pins s σ H x y v u Q I rx ry q => h pins s σ H x y v u Q I rx ry q
def IpS (G : Gx) (X : Cx) (op : Operator) (f : W → W → List O → Out W) : Prop := ∃ r, PIp X op r ∧ Serves2 X.K G f r
theorem ips_add : IpS G X .Add oIadd := ⟨_, L2.PIp.or (pip_of iop_add) (pip_of iop_add_str), fun E H ρ h x y wx wy Q hr rx ry p => by
  unfold oIadd at p
  split at p
  · exact .inl ⟨_, _, rx.int, ry.int, p.here hr vr_int⟩
  · split at p
    · rename_i hl
      exact .inr ⟨_, _, rx.str, ry.str, by rw [Str_length, Str_length]; exact lim_size hl, p.here hr (vr_str' (Str_app _ _))⟩
    · exact False.elim p
  · exact False.elim p⟩
theorem ips_sub : IpS G X .Sub oSub := ⟨_, pip_of iop_sub, fun E H ρ h x y wx wy Q hr rx ry p => by
  unfold oSub at p
  split at p
  · exact ⟨_, _, rx.int, ry.int, p.here hr vr_int⟩
  · exact False.elim p⟩
def oImul (x y : W) (h : List O) : Out W := match x, y with
  | .int i, .int j => if (-(2 ^ 64) < j ∧ j < 2 ^ 64) then .ok (.int (i * j)) h else .bad
  | _, _ => .bad
theorem ips_mul : IpS G X .Mult oImul := ⟨_, pip_of iop_mul, fun E H ρ h x y wx wy Q hr rx ry p => by
  unfold oImul at p
  split at p
  · split at p
    · rename_i hc
      exact ⟨_, _, rx.int, ry.int, .inr hc, p.here hr vr_int⟩
    · exact False.elim p
  · exact False.elim p⟩
def oIfdiv (x y : W) (h : List O) : Out W := match x, y with
  | .int i, .int j => if 0 < j ∧ j < 1073741824 then .ok (.int (i / j)) h else .bad
  | _, _ => .bad
theorem ips_fdiv : IpS G X .FloorDiv oIfdiv := ⟨_, pip_of iop_fdiv, fun E H ρ h x y wx wy Q hr rx ry p => by
  unfold oIfdiv at p
  split at p
  · split at p
    · rename_i hc
      exact ⟨_, _, rx.int, ry.int, hc, p.here hr vr_int⟩
    · exact False.elim p
  · exact False.elim p⟩
def mAug (i : Nat) (f : W → W → List O → Out W) (m : M W) : Sm := fun e h => match e[i]? with
  | some (some x) => (m e h).stm e fun y h => (f x y h).stm e fun z h => .nx (e.set i (some z)) h
  | _ => .bad
theorem ss_aug {i : Nat} {x : Str} {op : Operator} {f : W → W → List O → Out W} {pos' : Pos} (hN : X.N.Nodup) (hi : X.N[i]? = some x) (hx : Loc X.env.scope x) (s : IpS G X op f) (he : SE G X e m)
    (hf : X.fn x = true ∨ X.env.scope.names.lookup x = some .local := by first | exact .inl rfl | exact .inr rfl | assumption) : SS G X (.AugAssign (.Name x pos') op e pos) (mAug i f m) := fun Wx tk => by
  obtain ⟨r, ho, s⟩ := s
  refine (ps_aug hN hi hx (he Wx tk) ho hf).imp fun D σ H p => ?_
  obtain ⟨ρ, e, h, hr, sr, p⟩ := p
  unfold mAug at p
  split at p
  · rename_i w hw
    obtain ⟨v, hv, rv⟩ := sr.at_ _ _ hw
    refine ⟨v, hv, ρ, e, h, hr, sr, (PostS.stm (Rel := VRel X.K) sr p).imp fun y H1 q => ?_⟩
    obtain ⟨ρ1, h1, wy, x1, r1, vy, p1⟩ := q
    refine s (fun cls d H' => Wx cls d σ H') H1 ρ1 h1 v y w wy _ r1 (rv.mono x1) vy ((PostS.stm (Rel := VRel X.K) (sr.mono x1) p1).imp fun z H2 q => ?_)
    obtain ⟨ρ2, h2, wz, x2, r2, vz, p2⟩ := q
    exact p2 ρ2 H2 _ (Ext.refl r2) r2 (((sr.mono x1).mono x2).set i vz)
  · exact False.elim p

/-! ### o[i] = v, o[i] op= v of lists -/
def oSet (o i v : W) (h : List O) : Out Unit := match o, i with
  | .ref n, .int k => match lstAt h n with
    | some xs => match ixN xs.length k with
      | some j => .ok () (h.set n (.lst (xs.set j v)))
      | none => .bad
    | none => .bad
  | _, _ => .bad
abbrev URel : Hp → List Addr → Unit → Unit → Prop := fun _ _ _ _ => True
def ServesS (K : PySem.W.Frag) (G : Gx) (op : W → W → W → List O → Out Unit) (r : TSet) : Prop := ∀ (E : XK) (H : Hp) (ρ : List Addr) (h : List O) (o i v : V) (wo wi wv : W) (Q : Hp → Prop),
  HR K G H ρ h → VR K H ρ o wo → VR K H ρ i wi → VR K H ρ v wv → Post K G E URel (fun _ H' => Q H') H ρ (op wo wi wv h) → r o i v H Q
def SetS (G : Gx) (X : Cx) (op : W → W → W → List O → Out Unit) : Prop := ∃ r, PSet X r ∧ ServesS X.K G op r
theorem sets_list : SetS G X oSet := ⟨_, set_list, fun E H ρ h o i v wo wi wv Q hr ro ri rv p => by
  unfold oSet at p
  split at p
  · split at p
    · rename_i xs hx
      split at p
      · rename_i j hj
        obtain ⟨a, rfl, ea⟩ := ro.ref
        obtain ⟨vs, q, z⟩ := hr.look ea (lstAt_some hx)
        refine ⟨a, vs, _, j, rfl, ri.int, q, by rw [z.length]; exact hj, ?_⟩
        obtain ⟨r1, x1⟩ := hr.write (o := .lst (vs.set j v)) (u := .lst (xs.set j wv)) ea (lstAt_nk hx) rfl fun x => ⟨_, upd_same, (VRs.set rv j z).mono x⟩
        exact p ρ _ () x1 r1 trivial
      · exact False.elim p
    · exact False.elim p
  · exact False.elim p⟩
/-- ov[iv] = value: the value first -/
def mSetI (f : W → W → W → List O → Out Unit) (mo mi m : M W) : Sm := fun e h => (m e h).stm e fun v h => (mo e h).stm e fun o h => (mi e h).stm e fun i h => (f o i v h).stm e fun _ h => .nx e h
theorem ss_seti {oe ie : Expr} {mo mi : M W} {f : W → W → W → List O → Out Unit} {tpos : Pos} (s : SetS G X f) (ho : SE G X oe mo) (hi : SE G X ie mi) (he : SE G X e m)
    (ha : ∀ v, assign (.Subscript oe ie tpos) X.env v = (do
      let ov ← holding [v] (eval oe X.env)
      let iv ← holding [v, ov] (eval ie X.env)
      standAt tpos
      holding [v, ov, iv] (setItem ov iv v)
      release [v, ov, iv] []) := by intro _; rfl)
    (hs : swapsWithSole [.Subscript oe ie tpos] e pos.line X.env = pure false := by rfl) (hw : swappedStores [.Subscript oe ie tpos] e X.env = pure none := by rfl)
    (h1 : (assignEach [.Subscript oe ie tpos] X.env).map (·.2) = [assign (.Subscript oe ie tpos) X.env] := by rfl) : SS G X (.Assign [.Subscript oe ie tpos] e pos) (mSetI f mo mi m) := fun Wx tk => by
  obtain ⟨r, hp, s⟩ := s
  refine (ps_asg (he Wx tk) (pg_sub (ho Wx tk) (hi Wx tk) hp ha) hs hw h1).imp fun D σ H p => rdS.stm (Rel := VRel X.K) p fun H0 ρ0 e sr v H1 ρ1 h1 w x r q p1 => ?_
  have sr1 := sr.mono x
  refine ⟨ρ1, e, h1, r, sr1, (PostS.stm (Rel := VRel X.K) sr1 p1).imp fun o H2 q2 => ?_⟩
  obtain ⟨ρ2, h2, wo, x2, r2, vo, p2⟩ := q2
  have sr2 := sr1.mono x2
  refine ⟨ρ2, e, h2, r2, sr2, (PostS.stm (Rel := VRel X.K) sr2 p2).imp fun i H3 q3 => ?_⟩
  obtain ⟨ρ3, h3, wi, x3, r3, vi, p3⟩ := q3
  have sr3 := sr2.mono x3
  refine s (fun cls d H' => Wx cls d σ H') H3 ρ3 h3 o i v wo wi w _ r3 (vo.mono x3) vi ((q.mono x2).mono x3) ((PostS.stm (Rel := URel) sr3 p3).imp fun _ H4 q4 => ?_)
  obtain ⟨ρ4, h4, _, x4, r4, _, p4⟩ := q4
  exact p4 ρ4 H4 σ (Ext.refl r4) r4 (sr3.mono x4)
/-- o[i], by values -/
def GetS (G : Gx) (X : Cx) (f : W → W → List O → Out W) : Prop := ∃ r, PGet X r ∧ Serves2 X.K G f r
theorem pget_of {r : R2} (h : ∀ (pins : List (Addr × Obj)) (s : Shared) (σ : L2.St) (H : Hp) (x y : V) (v u : Value) (Q : VK), Inv X pins σ H s → RelV x v → RelV y u → r x y H Q → wpAny (model X.prog X.w) X.A (getItem v u) (EP X pins σ Q) X.xe s) : PGet X r :=
  fun pins s σ H o i ov iv Q I ro ri q => h pins s σ H o i ov iv Q I ro ri q
def mAugI (g : W → W → List O → Out W) (f : W → W → List O → Out W) (s : W → W → W → List O → Out Unit) (mo mi m : M W) : Sm := fun e h => (mo e h).stm e fun o h => (mi e h).stm e fun i h => (g o i h).stm e fun x h =>
  (m e h).stm e fun y h => (f x y h).stm e fun z h => (s o i z h).stm e fun _ h => .nx e h
theorem ss_augi {oe ie : Expr} {mo mi : M W} {g f : W → W → List O → Out W} {st : W → W → W → List O → Out Unit} {op : Operator} {tpos : Pos} (hg : GetS G X g) (hf : IpS G X op f) (hs : SetS G X st) (ho : SE G X oe mo) (hi : SE G X ie mi) (he : SE G X e m)
    (ha : ∀ ov iv new, augStore ie ov iv new = (do holding [new, ov, iv] (setItem ov iv new); release [new, ov, iv] []; pure .next) := by intros; rfl) : SS G X (.AugAssign (.Subscript oe ie tpos) op e pos) (mAugI g f st mo mi m) := fun Wx tk => by
  obtain ⟨rg, hg, sg⟩ := hg
  obtain ⟨rf, hf, sf⟩ := hf
  obtain ⟨rs, hs, ss⟩ := hs
  refine (ps_augS (ho Wx tk) (hi Wx tk) hg (he Wx tk) hf hs ha).imp fun D σ H p => rdS.stm (Rel := VRel X.K) p fun H0 ρ0 e sr o H1 ρ1 h1 wo x1 r1 vo p1 => ?_
  have sr1 := sr.mono x1
  refine ⟨ρ1, e, h1, r1, sr1, (PostS.stm (Rel := VRel X.K) sr1 p1).imp fun i H2 q2 => ?_⟩
  obtain ⟨ρ2, h2, wi, x2, r2, vi, p2⟩ := q2
  have sr2 := sr1.mono x2
  refine sg (fun cls d H' => Wx cls d σ H') H2 ρ2 h2 o i wo wi _ r2 (vo.mono x2) vi ((PostS.stm (Rel := VRel X.K) sr2 p2).imp fun xv H3 q3 => ?_)
  obtain ⟨ρ3, h3, wx, x3, r3, vx, p3⟩ := q3
  have sr3 := sr2.mono x3
  refine ⟨ρ3, e, h3, r3, sr3, (PostS.stm (Rel := VRel X.K) sr3 p3).imp fun y H4 q4 => ?_⟩
  obtain ⟨ρ4, h4, wy, x4, r4, vy, p4⟩ := q4
  have sr4 := sr3.mono x4
  refine sf (fun cls d H' => Wx cls d σ H') H4 ρ4 h4 xv y wx wy _ r4 (vx.mono x4) vy ((PostS.stm (Rel := VRel X.K) sr4 p4).imp fun z H5 q5 => ?_)
  obtain ⟨ρ5, h5, wz, x5, r5, vz, p5⟩ := q5
  have sr5 := sr4.mono x5
  refine ss (fun cls d H' => Wx cls d σ H') H5 ρ5 h5 o i z wo wi wz _ r5 ((((vo.mono x2).mono x3).mono x4).mono x5) (((vi.mono x3).mono x4).mono x5) vz ((PostS.stm (Rel := URel) sr5 p5).imp fun _ H6 q6 => ?_)
  obtain ⟨ρ6, h6, _, x6, r6, _, p6⟩ := q6
  exact p6 ρ6 H6 σ (Ext.refl r6) r6 (sr5.mono x6)
end
end Den
set_option maxRecDepth 100000
/-! Loops, comprehensions, calls of defs, defs. -/
namespace Den
open PySem L2 PyProof.Rows
section
variable {G : Gx} {X : Cx}
theorem get_list : PGet X (rIxL X.K) := by
  intro pins s σ H x y v u Q I rx ry h
  obtain ⟨p, xs, i, z, rfl, rfl, hq, he, q⟩ := h
  cases rx
  obtain ⟨t, rfl⟩ := ry
  obtain ⟨its, r, pl, hz⟩ := I.list hq
  obtain ⟨j, h1, h2, h3, h4, h5⟩ := atI_get he
  obtain ⟨w, ew, rw'⟩ := r.get h2
  have hl := r.length
  have hn := line63
  have fin : EP X pins σ Q w s := ⟨z, H, I, rw', q⟩
  by_cases h0 : 0 ≤ i
  · have hj : i.toNat = j := by
      rw [seqIndex_of h0 h5] at h1
      exact Option.some.inj h1
    exact wpAny_getItem_list pl.isList h0 (by omega) (by rw [hj]; simpa using ew) fin
  · have hj : (i + (its.toArray.size : Int)).toNat = j := by
      rw [seqIndex_neg (by omega) h4] at h1
      rw [List.size_toArray, ← hl]
      exact Option.some.inj h1
    exact wpAny_getItem_list_neg pl.isList (by omega) (by rw [List.size_toArray] <;> omega) (by omega) (by rw [hj]; simpa using ew) fin
def oGetL (x y : W) (h : List O) : Out W := match y with
  | .int i => match sqL x h with
    | some xs => match L2.atI xs i with
      | some w => .ok w h
      | none => .bad
    | none => .bad
  | _ => .bad
theorem gets_list : GetS G X oGetL := ⟨_, get_list, fun E H ρ h x y wx wy Q hr rx ry p => by
  unfold oGetL at p
  split at p
  · rename_i i
    split at p
    · rename_i xs hx
      split at p
      · rename_i w hw
        obtain ⟨a, vs, rfl, q, z⟩ := sqL_ok hr rx hx
        obtain ⟨v, hv, rv⟩ := z.atI hw
        exact ⟨a, vs, i, v, rfl, ry.int, q, hv, p.here hr rv⟩
      · exact False.elim p
    · exact False.elim p
  · exact False.elim p⟩

/-! ### while -/
def whileGo (c : M Bool) (body : Sm) : Nat → Env → List O → SOut
  | 0, _, _ => .bad
  | n + 1, e, h => (c e h).stm e fun b h1 => if b = true then match body e h1 with
      | .nx e2 h2 => whileGo c body n e2 h2
      | .ct e2 h2 => whileGo c body n e2 h2
      | .bk e2 h2 => .nx e2 h2
      | .rt w h2 => .rt w h2
      | .exc cc p e2 h2 => .exc cc p e2 h2
      | .bad => .bad
    else .nx e h1
def mWhile (n : Nat) (c : M Bool) (body : Sm) : Sm := fun e h => whileGo c body n e h
theorem ss_while {n : Nat} {ce : Expr} {B : List Stmt} {c : M Bool} {body : Sm} {pos : Pos} (hp : PassesOwn (model X.prog X.w) X.A X.env X.xe) (hc : ST G X ce c) (hb : SSs G X B body) : SS G X (.While ce B [] pos) (mWhile n c body) := fun Wx tk =>
  (ps_while hp (hc Wx tk) (hb Wx tk)).imp fun D σ H p => by
    refine ⟨fun m σ H => rdS X.K G Wx (fun e h => whileGo c body m e h) D σ H, ⟨n, p⟩, fun m σ H p => ?_⟩
    cases m with
    | zero =>
      obtain ⟨ρ, e, h, hr, sr, p⟩ := p
      exact False.elim p
    | succ m =>
      refine rdS.stm (m := c) (f := fun e b h1 => if b = true then match body e h1 with
        | .nx e2 h2 => whileGo c body m e2 h2
        | .ct e2 h2 => whileGo c body m e2 h2
        | .bk e2 h2 => .nx e2 h2
        | .rt w h2 => .rt w h2
        | .exc cc p e2 h2 => .exc cc p e2 h2
        | .bad => .bad
      else .nx e h1) (Rel := BRel) p fun H0 ρ0 e sr b H1 ρ1 h1 w x r q p1 => ?_
      cases q
      have sr1 := sr.mono x
      cases b with
      | false => exact iteF (p1 ρ1 H1 σ (Ext.refl r) r sr1)
      | true =>
        refine iteT ⟨fun σ' H' => rdS X.K G Wx (fun e h => whileGo c body m e h) D σ' H', fun σ' H' p => ⟨m, Nat.lt_succ_self m, p⟩, ρ1, e, h1, r, sr1, ?_⟩
        rw [if_pos rfl] at p1
        cases hm : body e h1 with
        | nx e2 h2 => rw [hm] at p1; exact fun ρ' H' σ' x' r' s' => ⟨ρ', e2, h2, r', s', p1.ext x'⟩
        | ct e2 h2 => rw [hm] at p1; exact fun ρ' H' σ' x' r' s' => ⟨ρ', e2, h2, r', s', p1.ext x'⟩
        | bk e2 h2 => rw [hm] at p1; exact p1
        | rt w h2 => rw [hm] at p1; exact p1
        | exc cc q e2 h2 => rw [hm] at p1; exact p1
        | bad => rw [hm] at p1; exact p1

/-! ### what is walked -/
abbrev Src := Nat → List O → Option (Option W)
def JRel (K : PySem.W.Frag) (G : Gx) (H0 : Hp) (ρ0 : List Addr) (J : It) (src : Src) : Prop := ∀ (i : Nat) (H : Hp) (ρ : List Addr) (h : List O), Ext H0 ρ0 H ρ → HR K G H ρ h →
  (src i h = some none → J.stop i H) ∧ ∀ w, src i h = some (some w) → J.go i H ∧ ∀ x H', J.yld i H x H' → Ext H ρ H' ρ ∧ HR K G H' ρ h ∧ VR K H' ρ x w
def SI (G : Gx) (X : Cx) (tg iter : Expr) (m : M Src) : Prop := ∀ Wx, Takes X Wx → PI X tg iter (rd X.K G Wx (JRel X.K G) m)
theorem _root_.L2.PI.imp {X : Cx} {tg e : Expr} {t t' : TI} (p : PI X tg e t) (i : ∀ σ H R, t' σ H R → t σ H R) : PI X tg e t' := ⟨fun pins s σ H Q I q => p.run pins s σ H Q I (i σ H Q q)⟩
theorem _root_.L2.PI.or {X : Cx} {tg e : Expr} {t t' : TI} (p : PI X tg e t) (p' : PI X tg e t') : PI X tg e (fun σ H R => t σ H R ∨ t' σ H R) := ⟨fun pins s σ H Q I q => by
  rcases q with q | q
  · exact p.run pins s σ H Q I q
  · exact p'.run pins s σ H Q I q⟩
def srcL (xs : List W) : Src := fun i _ => some xs[i]?
def srcR (n : Nat) : Src := fun i h => (lstAt h n).map fun xs => xs[i]?
def srcS (s : List Nat) : Src := fun i _ => some (s[i]?.map fun c => .str [c])
def srcN (lo : Int) (n : Nat) : Src := fun i _ => if i < n then some (some (.int (lo + i))) else some none
def toSrc (w : W) (h : List O) : Out Src := match w with
  | .str s => .ok (srcS s) h
  | .tup xs => .ok (srcL xs) h
  | .rol xs => .ok (srcL xs) h
  | .ref n => match lstAt h n with
    | some _ => .ok (srcR n) h
    | none => .bad
  | _ => .bad
def mIter (m : M W) : M Src := fun e h => (m e h).bnd toSrc
section
variable {K : PySem.W.Frag} {H : Hp} {ρ : List Addr} {h : List O}
theorem jrel_lst {a : Addr} {n : Nat} (ea : ρ[n]? = some a) : JRel K G H ρ (Itl K a) (srcR n) := fun i H' ρ' h' x r => by
  have ea' : ρ'[n]? = some a := pre_get x.pre ea
  refine ⟨fun e => ?_, fun w e => ?_⟩
  · unfold srcR at e
    cases hl : lstAt h' n with
    | none => rw [hl] at e; cases e
    | some xs =>
      rw [hl] at e
      obtain ⟨vs, q, z⟩ := r.look ea' (lstAt_some hl)
      have e2 : xs[i]? = none := Option.some.inj e
      exact ⟨vs, .inl (.inl q), by rw [z.length]; exact List.getElem?_eq_none_iff.mp e2⟩
  · unfold srcR at e
    cases hl : lstAt h' n with
    | none => rw [hl] at e; cases e
    | some xs =>
      rw [hl] at e
      obtain ⟨vs, q, z⟩ := r.look ea' (lstAt_some hl)
      have e2 : xs[i]? = some w := Option.some.inj e
      obtain ⟨v, hv, rv⟩ := z.get e2
      have sq : SqL K H' a vs := .inl (.inl q)
      refine ⟨⟨vs, v, sq, hv⟩, fun y H'' hy => ?_⟩
      obtain ⟨rfl, hy⟩ := hy
      have e3 : v = y := Option.some.inj (hv.symm.trans (hy vs sq))
      rw [← e3]
      exact ⟨Ext.refl r, r, rv⟩
theorem jrel_rol {a : Addr} {vs : List V} {xs : List W} (hs : (Rd H a (.lst vs) ∧ a ∉ ρ) ∨ ∀ H' : Hp, SqL K H' a vs) (z : VRs K H ρ vs xs) : JRel K G H ρ (Itl K a) (srcL xs) := fun i H' ρ' h' x r => by
  have sq : SqL K H' a vs := by
    rcases x.rol hs with q | q
    · exact .inl q.1
    · exact q H'
  refine ⟨fun e => ⟨vs, sq, by rw [z.length]; exact List.getElem?_eq_none_iff.mp (Option.some.inj e)⟩, fun w e => ?_⟩
  obtain ⟨v, hv, rv⟩ := z.get (Option.some.inj e)
  refine ⟨⟨vs, v, sq, hv⟩, fun y H'' hy => ?_⟩
  obtain ⟨rfl, hy⟩ := hy
  have e3 : v = y := Option.some.inj (hv.symm.trans (hy vs sq))
  rw [← e3]
  exact ⟨Ext.refl r, r, rv.mono x⟩
theorem jrel_tup {a : Addr} {vs : List V} {xs : List W} (hs : SqT K H a vs) (z : VRs K H ρ vs xs) : JRel K G H ρ (Itt K a) (srcL xs) := fun i H' ρ' h' x r => by
  have sq : SqT K H' a vs := x.tup hs
  refine ⟨fun e => ⟨vs, sq, by rw [z.length]; exact List.getElem?_eq_none_iff.mp (Option.some.inj e)⟩, fun w e => ?_⟩
  obtain ⟨v, hv, rv⟩ := z.get (Option.some.inj e)
  refine ⟨⟨vs, v, sq, hv⟩, fun y H'' hy => ?_⟩
  obtain ⟨rfl, hy⟩ := hy
  have e3 : v = y := Option.some.inj (hv.symm.trans (hy vs sq))
  rw [← e3]
  exact ⟨Ext.refl r, r, rv.mono x⟩
end
end
end Den
set_option maxRecDepth 100000
/-! What a for walks; for; comprehensions; calls of defs; defs. -/
namespace Den
open PySem L2 PyProof.Rows
section
variable {G : Gx} {X : Cx} {e : Expr} {m : M W} {pos : Pos}
theorem jrel_str {K : PySem.W.Frag} {H : Hp} {ρ : List Addr} {s : List Nat} : JRel K G H ρ (Its ⟨s.toArray⟩) (srcS s) := fun i H' ρ' h' x r => by
  have hsz : (⟨s.toArray⟩ : Str).cps.size = s.length := by simp
  refine ⟨fun e => ?_, fun w e => ?_⟩
  · have e2 : s[i]? = none := by
      have := Option.some.inj e
      cases hx : s[i]? with
      | none => rfl
      | some c => rw [hx] at this; cases this
    show (⟨s.toArray⟩ : Str).cps.size ≤ i
    rw [hsz]
    exact List.getElem?_eq_none_iff.mp e2
  · have e1 := Option.some.inj e
    cases hx : s[i]? with
    | none => rw [hx] at e1; cases e1
    | some c =>
      rw [hx] at e1
      have e2 : W.str [c] = w := Option.some.inj e1
      refine ⟨?_, fun y H'' hy => ?_⟩
      · show i < (⟨s.toArray⟩ : Str).cps.size
        rw [hsz]
        exact (List.getElem?_eq_some_iff.mp hx).1
      · obtain ⟨rfl, c', hc, rfl⟩ := hy
        have e3 : c' = c := by
          have : s[i]? = some c' := by simpa using hc
          rw [hx] at this
          exact (Option.some.inj this).symm
        subst e3
        rw [← e2]
        exact ⟨Ext.refl r, r, vr_str' (l := [c']) rfl⟩
/-- over a list, a tuple, a text -/
theorem si_seq {tg : Expr} (he : SE G X e m) : SI G X tg e (mIter m) := fun Wx tk =>
  ((pi_list (he Wx tk)).or ((pi_tup (he Wx tk)).or (pi_str (he Wx tk)))).imp fun σ H R p => by
    obtain ⟨ρ, e, h, hr, sr, p⟩ := p
    unfold mIter at p
    cases hm : m e h with
    | bad => rw [hm] at p; exact False.elim p
    | exc c q h' => rw [hm] at p; exact .inl ⟨ρ, e, h, hr, sr, by rw [hm]; exact p⟩
    | ok w h' =>
      rw [hm, Out.bnd_ok] at p
      cases w with
      | str s => exact .inr (.inr ⟨ρ, e, h, hr, sr, by rw [hm]; exact fun ρ' H' v x r q => ⟨_, q.str, p ρ' H' _ x r jrel_str⟩⟩)
      | tup xs =>
        refine .inr (.inl ⟨ρ, e, h, hr, sr, ?_⟩)
        rw [hm]
        intro ρ' H' v x r q
        have q : VR X.K H' ρ' v (.tup xs) := q
        unfold VR at q
        obtain ⟨a, vs, rfl, q, z⟩ := q
        exact ⟨a, rfl, ⟨vs, q⟩, p ρ' H' _ x r (jrel_tup q z)⟩
      | rol xs =>
        refine .inl ⟨ρ, e, h, hr, sr, ?_⟩
        rw [hm]
        intro ρ' H' v x r q
        have q : VR X.K H' ρ' v (.rol xs) := q
        unfold VR at q
        obtain ⟨a, vs, rfl, q, z⟩ := q
        exact ⟨a, rfl, ⟨vs, by
          rcases q with q | q
          · exact .inl q.1
          · exact q H'⟩, p ρ' H' _ x r (jrel_rol q z)⟩
      | ref n =>
        unfold toSrc at p
        dsimp only at p
        cases hl : lstAt h' n with
        | none => rw [hl] at p; exact False.elim p
        | some xs =>
          rw [hl] at p
          refine .inl ⟨ρ, e, h, hr, sr, ?_⟩
          rw [hm]
          intro ρ' H' v x r q
          have q : VR X.K H' ρ' v (.ref n) := q
          obtain ⟨a, rfl, ea⟩ := q.ref
          obtain ⟨vs, q, z⟩ := r.look ea (lstAt_some hl)
          exact ⟨a, rfl, ⟨vs, .inl (.inl q)⟩, p ρ' H' _ x r (jrel_lst ea)⟩
      | non => exact False.elim p
      | bl b => exact False.elim p
      | int i => exact False.elim p
/-- range -/
def mRng1 (m : M (List W)) : M Src := fun e h => (m e h).bnd fun ws h => match ws with
  | [.int j] => if -(2 ^ 62) ≤ j ∧ j < 2 ^ 62 then .ok (srcN 0 j.toNat) h else .bad
  | _ => .bad
def mRng2 (m : M (List W)) : M Src := fun e h => (m e h).bnd fun ws h => match ws with
  | [.int i, .int j] => if -(2 ^ 62) ≤ i ∧ i < 2 ^ 62 ∧ -(2 ^ 62) ≤ j ∧ j < 2 ^ 62 then .ok (srcN i (j - i).toNat) h else .bad
  | _ => .bad
theorem jrel_rng {K : PySem.W.Frag} {H : Hp} {ρ : List Addr} {lo : Int} {n : Nat} : JRel K G H ρ (Itr lo n) (srcN lo n) := fun i H' ρ' h' x r => by
  refine ⟨fun e => ?_, fun w e => ?_⟩
  · unfold srcN at e
    split at e
    · cases e
    · show n ≤ i
      omega
  · unfold srcN at e
    split at e
    · rename_i hi
      cases e
      refine ⟨hi, fun y H'' hy => ?_⟩
      obtain ⟨rfl, rfl⟩ := hy
      exact ⟨Ext.refl r, r, vr_int⟩
    · cases e
theorem si_rng1 {tg a : Expr} {mr : M (List W)} {p : Pos} (ha : SA G X [a] mr) (hg : Gl X "range") (hm : X.mg "range" = none)
    (hs : starEach [a] X.env = [(false, eval a X.env)] := by rfl) : SI G X tg (.Call (.Name "range" p) [a] [] pos) (mRng1 mr) := fun Wx tk =>
  (pi_range1 hg hm (ha Wx tk) (hs := hs)).imp fun σ H R p => rd.bnd (Rel := VsRel X.K) p fun H0 ρ0 e sr v H1 ρ1 h1 w x r q p1 => by
    split at p1
    · split at p1
      · rename_i j hj
        obtain ⟨v, rfl, q'⟩ := VRs.inv1 q
        exact ⟨_, by rw [q'.int], hj.1, hj.2, p1 ρ1 H1 _ (Ext.refl r) r jrel_rng⟩
      · exact False.elim p1
    · exact False.elim p1
theorem si_rng2 {tg a b : Expr} {mr : M (List W)} {p : Pos} (ha : SA G X [a, b] mr) (hg : Gl X "range") (hm : X.mg "range" = none)
    (hs : starEach [a, b] X.env = [(false, eval a X.env), (false, eval b X.env)] := by rfl) (hs2 : starEach [b] X.env = [(false, eval b X.env)] := by rfl) : SI G X tg (.Call (.Name "range" p) [a, b] [] pos) (mRng2 mr) := fun Wx tk =>
  (pi_range2 hg hm (ha Wx tk) (hs := hs) (hs2 := hs2)).imp fun σ H R p => rd.bnd (Rel := VsRel X.K) p fun H0 ρ0 e sr v H1 ρ1 h1 w x r q p1 => by
    split at p1
    · split at p1
      · rename_i i j hj
        obtain ⟨v, v', rfl, q1, q'⟩ := VRs.inv2 q
        exact ⟨_, _, by rw [q1.int, q'.int], ⟨hj.1, hj.2.1, hj.2.2.1, hj.2.2.2⟩, p1 ρ1 H1 _ (Ext.refl r) r jrel_rng⟩
      · exact False.elim p1
    · exact False.elim p1

/-! ### for -/
def forGo (src : Src) (t : Tg) (body : Sm) : Nat → Nat → Env → List O → SOut
  | 0, _, _, _ => .bad
  | n + 1, i, e, h => match src i h with
    | some (some w) => match t w e with
      | some e1 => match body e1 h with
        | .nx e2 h2 => forGo src t body n (i + 1) e2 h2
        | .ct e2 h2 => forGo src t body n (i + 1) e2 h2
        | .bk e2 h2 => .nx e2 h2
        | .rt w h2 => .rt w h2
        | .exc cc p e2 h2 => .exc cc p e2 h2
        | .bad => .bad
      | none => .bad
    | some none => .nx e h
    | none => .bad
def mFor (n : Nat) (it : M Src) (t : Tg) (body : Sm) : Sm := fun e h => (it e h).stm e fun src h => forGo src t body n 0 e h
theorem ss_for {n : Nat} {tg iter : Expr} {B : List Stmt} {it : M Src} {t : Tg} {g : TG} {vs : List Nat} {body : Sm} (hp : PassesOwn (model X.prog X.w) X.A X.env X.xe) (hi : SI G X tg iter it) (hg : PG X tg g) (ht : TgOk X.K G vs g t) (hb : SSs G X B body) (hc : X.calm = true := by rfl) (hs : ∀ x, foldedSetIterable iter X.env x = pure x := by intro _; rfl) :
    SS G X (.For tg iter B [] pos) (mFor n it t body) := fun Wx tk => by
  refine (ps_for hp hc (hi Wx tk) hg (hb Wx tk) (hs := hs)).imp fun D σ H p => ?_
  refine rdS.stm (Rel := JRel X.K G) p fun H0 ρ0 e sr J H1 ρ1 h1 src x r q p1 => ?_
  refine ⟨fun i m σ H => ∃ ρ e h, Ext H1 ρ1 H ρ ∧ HR X.K G H ρ h ∧ SR X.K H ρ σ e ∧ PostS X.K G Wx D H ρ (forGo src t body m i e h), ⟨n, ρ1, e, h1, Ext.refl r, r, sr.mono x, p1⟩, fun i m σ H p => ?_⟩
  obtain ⟨ρ, e, h, x1, hr, sr, p⟩ := p
  obtain ⟨j1, j2⟩ := q i H ρ h x1 hr
  cases m with
  | zero => exact False.elim p
  | succ m =>
    unfold forGo at p
    cases hs : src i h with
    | none => rw [hs] at p; exact False.elim p
    | some o =>
      rw [hs] at p
      cases o with
      | none => exact .inl ⟨j1 hs, p ρ H σ (Ext.refl hr) hr sr⟩
      | some w =>
        obtain ⟨k1, k2⟩ := j2 w hs
        refine .inr ⟨k1, fun σ' H' => ∃ ρ e h, Ext H1 ρ1 H' ρ ∧ HR X.K G H' ρ h ∧ SR X.K H' ρ σ' e ∧ PostS X.K G Wx D H' ρ (forGo src t body m (i + 1) e h), fun σ' H' p => ⟨m, Nat.lt_succ_self m, p⟩, fun y H' hy => ?_⟩
        obtain ⟨x2, r2, vy⟩ := k2 y H' hy
        dsimp only at p
        cases hte : t w e with
        | none => rw [hte] at p; exact False.elim p
        | some e1 =>
          rw [hte] at p
          refine ht H' ρ h σ e e1 y w _ r2 (sr.mono x2) vy hte fun σ2 s2 _ => ⟨ρ, e1, h, r2, s2, ?_⟩
          dsimp only at p
          have p := p.ext x2
          cases hm : body e1 h with
          | nx e2 h2 => rw [hm] at p; exact fun ρ' H' σ' x' r' s' => ⟨ρ', e2, h2, (x1.trans x2).trans x', r', s', p.ext x'⟩
          | ct e2 h2 => rw [hm] at p; exact fun ρ' H' σ' x' r' s' => ⟨ρ', e2, h2, (x1.trans x2).trans x', r', s', p.ext x'⟩
          | bk e2 h2 => rw [hm] at p; exact p
          | rt w h2 => rw [hm] at p; exact p
          | exc cc q e2 h2 => rw [hm] at p; exact p
          | bad => rw [hm] at p; exact p

/-! ### comprehensions -/
def wipeE : Env → List Nat → Env
  | e, [] => e
  | e, v :: vs => (wipeE e vs).set v none
theorem SR.wipe {K : PySem.W.Frag} {H : Hp} {ρ : List Addr} {σ : L2.St} {e : Env} (s : SR K H ρ σ e) : ∀ vs : List Nat, SR K H ρ (L2.wipe σ vs) (wipeE e vs)
  | [] => s
  | v :: vs => by
    have ih := SR.wipe s vs
    refine ⟨by unfold L2.wipe wipeE; rw [List.length_set, List.length_set]; exact ih.len, fun i w hi => ?_⟩
    unfold wipeE at hi
    by_cases hv : v = i
    · subst hv
      by_cases hl : v < (wipeE e vs).length
      · rw [List.getElem?_set_self hl] at hi; cases hi
      · rw [List.getElem?_eq_none (by simpa using hl)] at hi; cases hi
    · rw [List.getElem?_set_ne hv] at hi
      unfold L2.wipe
      rw [List.getElem?_set_ne hv]
      exact ih.at_ i w hi
def compGo (src : Src) (t : Tg) (cond : M Bool) (elt : M W) (D : Nat) (e0 : Env) : Nat → Nat → List O → Out W
  | 0, _, _ => .bad
  | n + 1, i, h => match src i h with
    | some (some w) => match t w e0 with
      | some e1 => match cond e1 h with
        | .ok b h2 => if b = true then match elt e1 h2 with
            | .ok y h3 => match lstAt h3 D with
              | some acc => if acc.length < lim then compGo src t cond elt D e0 n (i + 1) (h3.set D (.lst (acc ++ [y]))) else .bad
              | none => .bad
            | _ => .bad
          else compGo src t cond elt D e0 n (i + 1) h2
        | _ => .bad
      | none => .bad
    | some none => .ok (.ref D) h
    | none => .bad
def mComp (n : Nat) (own : List Nat) (it : M Src) (t : Tg) (cond : M Bool) (elt : M W) : M W := fun e h => (it e h).bnd fun src h => compGo src t cond elt h.length (wipeE e own) n 0 (h ++ [.lst []])
def mYes : M Bool := fun _ h => .ok true h
abbrev noW : WX := fun _ _ _ _ => False
/-- a block's part is read without a raise -/
theorem rd_pure {K : PySem.W.Frag} {α β : Type} {Rel : Hp → List Addr → β → α → Prop} {m : M α} {σ : L2.St} {H : Hp} {ρ : List Addr} {h : List O} {e : Env} {Q : β → Hp → Prop} {a : α} {h' : List O} (hr : HR K G H ρ h) (sr : SR K H ρ σ e) (hm : m e h = .ok a h')
    (k : ∀ ρ' H' v, Ext H ρ H' ρ' → HR K G H' ρ' h' → Rel H' ρ' v a → Q v H') : rd K G noW Rel m σ H Q := ⟨ρ, e, h, hr, sr, by rw [hm]; exact k⟩
theorem lc_post {K : PySem.W.Frag} {Wx : WX} {n : Nat} {own : List Nat} {it : M Src} {t : Tg} {g : TG} {cond : M Bool} {elt : M W} (ht : TgOk K G own g t) {σ : L2.St} {H : Hp} {Q : VK} (p : rd K G Wx (VRel K) (mComp n own it t cond elt) σ H Q) :
    tLc (rd K G Wx (JRel K G) it) g (rd K G noW BRel cond) (rd K G noW (VRel K) elt) own σ H Q := by
  refine rd.bnd (Rel := JRel K G) p fun H0 ρ0 e sr J H1 ρ1 h1 src x r q p1 => ?_
  intro D hD
  obtain ⟨r2, x2⟩ := r.new (o := .lst []) (u := .lst []) hD rfl fun _ => ⟨[], upd_same, .nil⟩
  have eD : (ρ1 ++ [D])[h1.length]? = some D := r.last
  have sr2 := (sr.mono x).mono x2
  refine ⟨fun i m H => ∃ ρ h, Ext (upd H1 D (.lst [])) (ρ1 ++ [D]) H ρ ∧ HR K G H ρ h ∧ Post K G (fun cls d H' => Wx cls d σ H') (VRel K) Q H ρ (compGo src t cond elt h1.length (wipeE e own) m i h), ⟨n, ρ1 ++ [D], h1 ++ [.lst []], Ext.refl r2, r2, p1.ext x2⟩, fun i m H p => ?_⟩
  obtain ⟨ρ, h, x1, hr, p⟩ := p
  obtain ⟨j1, j2⟩ := q i H ρ h (x2.trans x1) hr
  have srw := (sr2.mono x1).wipe own
  cases m with
  | zero => exact False.elim p
  | succ m =>
    unfold compGo at p
    cases hs : src i h with
    | none => rw [hs] at p; exact False.elim p
    | some o =>
      rw [hs] at p
      cases o with
      | none => exact .inl ⟨j1 hs, p ρ H _ (Ext.refl hr) hr (by show VR K H ρ (.ref D) (.ref h1.length); unfold VR; exact ⟨D, rfl, pre_get x1.pre eD⟩)⟩
      | some w =>
        obtain ⟨k1, k2⟩ := j2 w hs
        refine .inr ⟨k1, fun H' => ∃ ρ h, Ext (upd H1 D (.lst [])) (ρ1 ++ [D]) H' ρ ∧ HR K G H' ρ h ∧ Post K G (fun cls d H' => Wx cls d σ H') (VRel K) Q H' ρ (compGo src t cond elt h1.length (wipeE e own) m (i + 1) h), fun H' p => ⟨m, Nat.lt_succ_self m, p⟩, fun y H' hy => ?_⟩
        obtain ⟨x3, r3, vy⟩ := k2 y H' hy
        dsimp only at p
        cases hte : t w (wipeE e own) with
        | none => rw [hte] at p; exact False.elim p
        | some e1 =>
          rw [hte] at p
          refine ht H' ρ h _ _ e1 y w _ r3 (srw.mono x3) vy hte fun σ2 s2 hw => ⟨?_, ?_⟩
          · rw [hw]
            apply List.ext_getElem?
            intro j
            by_cases hj : j ∈ own
            · rw [wipe_in hj, wipe_in hj, L2.wipe_length]
            · rw [wipe_get hj]
          · dsimp only at p
            have p := p.ext x3
            cases hc : cond e1 h with
            | bad => rw [hc] at p; exact False.elim p
            | exc c q h' => rw [hc] at p; exact False.elim p
            | ok b h2 =>
              rw [hc] at p
              refine rd_pure r3 s2 hc fun ρ4 H4 b' x4 r4 eb => ?_
              cases eb
              cases b with
              | false => exact iteF ⟨ρ4, h2, (x1.trans x3).trans x4, r4, p.ext x4⟩
              | true =>
                dsimp only at p
                rw [if_pos rfl] at p
                refine iteT ?_
                cases he : elt e1 h2 with
                | bad => rw [he] at p; exact False.elim p
                | exc c q h' => rw [he] at p; exact False.elim p
                | ok y h3 =>
                  rw [he] at p
                  refine rd_pure r4 (s2.mono x4) he fun ρ5 H5 v x5 r5 rv => ?_
                  dsimp only at p
                  cases hl : lstAt h3 h1.length with
                  | none => rw [hl] at p; exact False.elim p
                  | some acc =>
                    rw [hl] at p
                    dsimp only at p
                    split at p
                    · rename_i hz
                      have xx := ((x1.trans x3).trans x4).trans x5
                      have eD5 : ρ5[h1.length]? = some D := pre_get xx.pre eD
                      obtain ⟨vs, q, z⟩ := r5.look eD5 (lstAt_some hl)
                      refine ⟨vs, q, by rw [z.length]; exact Nat.lt_of_lt_of_le hz (lim_size (Nat.le_refl _)), ?_⟩
                      obtain ⟨r6, x6⟩ := r5.write (o := .lst (vs ++ [v])) (u := .lst (acc ++ [y])) eD5 (lstAt_nk hl) rfl fun x => ⟨_, upd_same, (z.append (.one rv)).mono x⟩
                      exact ⟨ρ5, _, xx.trans x6, r6, ((p.ext x4).ext x5).ext x6⟩
                    · exact False.elim p
end
end Den
set_option maxRecDepth 100000
/-! Comprehensions as expressions; calls of defs, defs, raise, a def handed a lambda that tells. -/
namespace Den
open PySem L2 PyProof.Rows
section
variable {G : Gx} {X : Cx} {e : Expr} {m : M W} {pos : Pos}
/-- a clause's tests -/
def STs (G : Gx) (X : Cx) (ifs : List Expr) (m : M Bool) : Prop := ∀ Wx, Takes X Wx → PTs X ifs (rd X.K G Wx BRel m)
theorem _root_.L2.PTs.imp {X : Cx} {e : List Expr} {t t' : TT} (p : PTs X e t) (i : ∀ σ H Q, t' σ H Q → t σ H Q) : PTs X e t' := ⟨fun pins s σ H Q I q => p.run pins s σ H Q I (i σ H Q q)⟩
theorem sts_nil : STs G X [] mYes := fun Wx tk => pts_nil.imp fun σ H Q p => by
  obtain ⟨ρ, e, h, hr, sr, p⟩ := p
  exact p.here hr rfl
theorem sts_one {c : Expr} {m : M Bool} (h : ST G X c m) : STs G X [c] m := fun Wx tk => pts_one (h Wx tk)
theorem se_lc {n : Nat} {elt tg iter : Expr} {ifs : List Expr} {scope : Scope} {own : List (Str × Nat)} {it : M Src} {t : Tg} {g : TG} {cond : M Bool} {melt : M W} (hN : X.N.Nodup) (hi : SI G X tg iter it) (ok : BlkOk X.N X.env.scope scope own)
    (hg : ∀ (s : Shared) (H : Hp) (C : Addr) (cl : List (Str × Addr)) (fp : List Addr), PG (X.blk s H scope (compEnvC scope cl C X.env) fp) tg g) (ht : TgOk X.K G (own.map (·.2)) g t)
    (hc : ∀ (s : Shared) (H : Hp) (C : Addr) (cl : List (Str × Addr)) (fp : List Addr), STs G (X.blk s H scope (compEnvC scope cl C X.env) fp) ifs cond)
    (he : ∀ (s : Shared) (H : Hp) (C : Addr) (cl : List (Str × Addr)) (fp : List Addr), SE G (X.blk s H scope (compEnvC scope cl C X.env) fp) elt melt)
    (hcalm : X.calm = true := by rfl) (hs : ∀ x, foldedSetIterable iter X.env x = pure x := by intro _; rfl) : SE G X (.ListComp elt [⟨tg, iter, ifs, 0⟩] scope pos) (mComp n (own.map (·.2)) it t cond melt) := fun Wx tk =>
  (pe_lc hcalm hN (hi Wx tk) ok hg (fun s H C cl fp => hc s H C cl fp noW L2.takes0) (fun s H C cl fp => he s H C cl fp noW L2.takes0) hs).imp fun σ H Q p => lc_post ht p
theorem ss_setLc {i n : Nat} {y : Str} {py spos : Pos} {elt tg iter : Expr} {ifs : List Expr} {scope : Scope} {own : List (Str × Nat)} {it : M Src} {t : Tg} {g : TG} {cond : M Bool} {melt : M W} (hN : X.N.Nodup) (hy : X.N[i]? = some y) (hyl : X.env.scope.names.lookup y = some .local)
    (hsw : swapsWith (.ListComp elt [⟨tg, iter, ifs, 0⟩] scope pos) (some (.Name y py)) spos.line X.env = pure true) (hi : SI G X tg iter it) (ok : BlkOk X.N X.env.scope scope own)
    (hg : ∀ (s : Shared) (H : Hp) (C : Addr) (cl : List (Str × Addr)) (fp : List Addr), PG (X.blk s H scope (compEnvC scope cl C X.env) fp) tg g) (ht : TgOk X.K G (own.map (·.2)) g t)
    (hc : ∀ (s : Shared) (H : Hp) (C : Addr) (cl : List (Str × Addr)) (fp : List Addr), STs G (X.blk s H scope (compEnvC scope cl C X.env) fp) ifs cond)
    (he : ∀ (s : Shared) (H : Hp) (C : Addr) (cl : List (Str × Addr)) (fp : List Addr), SE G (X.blk s H scope (compEnvC scope cl C X.env) fp) elt melt)
    (hcalm : X.calm = true := by rfl) (hs : ∀ x, foldedSetIterable iter X.env x = pure x := by intro _; rfl) : SS G X (.Assign [.Name y py] (.ListComp elt [⟨tg, iter, ifs, 0⟩] scope pos) spos) (mSet i (mComp n (own.map (·.2)) it t cond melt)) := fun Wx tk =>
  (ps_setLc hcalm hN hy hyl hsw (hi Wx tk) ok hg (fun s H C cl fp => hc s H C cl fp noW L2.takes0) (fun s H C cl fp => he s H C cl fp noW L2.takes0) hs).imp fun D σ H p =>
    lc_post ht (rdS.stm (Rel := VRel X.K) p fun H0 ρ0 e sr v H1 ρ1 h1 w x r q p1 => p1 ρ1 H1 _ (Ext.refl r) r ((sr.mono x).set i q))

/-! ### values without objects -/
mutual
def pureW : W → Bool
  | .ref _ => false
  | .rol _ => false
  | .tup xs => pureWs xs
  | _ => true
def pureWs : List W → Bool
  | [] => true
  | x :: xs => pureW x && pureWs xs
end
mutual
theorem VR.any {K : PySem.W.Frag} {H : Hp} {ρ ρ' : List Addr} : ∀ {v : V} {w : W}, pureW w = true → VR K H ρ v w → VR K H ρ' v w
  | v, .non, _, h => h
  | v, .bl _, _, h => h
  | v, .int _, _, h => h
  | v, .str _, _, h => h
  | v, .tup xs, p, h => by
    unfold VR at h ⊢
    obtain ⟨a, vs, e, q, r⟩ := h
    exact ⟨a, vs, e, q, VRs.any (by unfold pureW at p; exact p) r⟩
  | v, .rol xs, p, h => by unfold pureW at p; cases p
  | v, .ref n, p, h => by unfold pureW at p; cases p
theorem VRs.any {K : PySem.W.Frag} {H : Hp} {ρ ρ' : List Addr} : ∀ {vs : List V} {ws : List W}, pureWs ws = true → VRs K H ρ vs ws → VRs K H ρ' vs ws
  | vs, [], _, h => h
  | vs, w :: ws, p, h => by
    unfold pureWs at p
    rw [Bool.and_eq_true] at p
    unfold VRs at h ⊢
    obtain ⟨v, r, e, q, z⟩ := h
    exact ⟨v, r, e, VR.any p.1 q, VRs.any p.2 z⟩
end

/-! ### defs -/
def spOf (K : PySem.W.Frag) (G : Gx) (ar : Nat) (den : List W → List O → Out W) : Sp := fun vs H Q E => vs.length = ar ∧ ∃ ρ h ws, HR K G H ρ h ∧ VRs K H ρ vs ws ∧ Post K G E (VRel K) Q H ρ (den ws h)
/-- the def x does as den says -/
structure FnD (P : Program) (w : World) (K : PySem.W.Frag) (mg : Str → Option Value) (base : Heap) (G : Gx) (k : Nat) (x : Str) (ar : Nat) (den : List W → List O → Out W) : Prop where
  ex : ∃ f fd ps, FnOk P w K mg base (L2.CX P w) k f fd ps (spOf K G ar den) ∧ mg x = some (.ref f) ∧ PySem.W.keepIn K (.ref f) = true ∧ Binds K fd ps []
theorem FnD.mono {P : Program} {w : World} {K : PySem.W.Frag} {mg : Str → Option Value} {base : Heap} {k j ar : Nat} {x : Str} {den : List W → List O → Out W} (F : FnD P w K mg base G k x ar den) (h : k ≤ j) : FnD P w K mg base G j x ar den := by
  obtain ⟨f, fd, ps, F, a, b, c⟩ := F.ex
  exact ⟨f, fd, ps, F.mono h, a, b, c⟩
theorem se_call {k j ar : Nat} {x : Str} {den : List W → List O → Out W} {es : List Expr} {mr : M (List W)} {p : Pos} (F : FnD X.prog X.w X.K X.mg X.base G k x ar den) (hr : Room j X.A) (hk : k ≤ j) (hg : Gl X x) (ha : SA G X (e :: es) mr)
    (hdb : (x == ("__debug__" : Str)) = false := by decide) (he : starEach (e :: es) X.env = (false, eval e X.env) :: starEach es X.env := by rfl) (hpl : (backTo pos (starEach es X.env)).any (·.1) = false := by rfl)
    (hl : (e :: es).length = ar := by rfl) : SE G X (.Call (.Name x p) (e :: es) [] pos) (mCB (fun ws h => if ws.length = ar then den ws h else .bad) mr) := fun Wx tk => by
  obtain ⟨f, fd, ps, F, hm, hkp, hb⟩ := F.ex
  refine (pe_callS F (hr.mono hk) hg hm hkp hb (fun σ => passAt tk σ) (ha Wx tk) hdb he hpl).imp fun σ H Q p => rd.bnd (Rel := VsRel X.K) p fun H0 ρ0 e sr v H1 ρ1 h1 w x r q p1 => ?_
  dsimp only at p1
  split at p1
  · rename_i hw
    exact ⟨(VRs.length q).trans hw, ρ1, h1, w, r, q, p1⟩
  · exact False.elim p1
/-- the same where neither arguments nor the answer are objects: on a heap of its own -/
def pureRun (den : List W → List O → Out W) (ar : Nat) (ws : List W) (h : List O) : Out W :=
  if ws.length = ar ∧ pureWs ws = true then match den ws [] with
    | .ok w _ => if pureW w = true then .ok w h else .bad
    | .exc c none _ => .exc c none h
    | _ => .bad
  else .bad
theorem HR.sub {K : PySem.W.Frag} {H H' : Hp} {ρ ρ' : List Addr} {h h' : List O} (hr : HR K G H ρ h) (x : Ext H [] H' ρ') (r : HR K G H' ρ' h') : HR K G H' ρ h ∧ Ext H ρ H' ρ := by
  have x2 : Ext H ρ H' ρ := ⟨fun a o e t _ => x.fr a o e t (by simp), List.prefix_rfl, fun _ a b => absurd a b, hr.mu, x.lk⟩
  refine ⟨⟨hr.len, hr.nd, fun n a o e1 e2 => (hr.ob n a o e1 e2).mono x2 ?_, r.tb⟩, x2⟩
  obtain ⟨u, hu, hm⟩ := (hr.ob n a o e1 e2).mut
  rw [hu]
  exact x.fr a u hu (by cases u <;> first | rfl | cases hm) (by simp)
theorem HR.none {K : PySem.W.Frag} {H : Hp} {ρ : List Addr} {h : List O} (hr : HR K G H ρ h) : HR K G H [] [] := ⟨rfl, by simp, fun n a o e => by simp at e, hr.tb⟩
theorem se_callP {k j ar : Nat} {x : Str} {den : List W → List O → Out W} {es : List Expr} {mr : M (List W)} {p : Pos} (F : FnD X.prog X.w X.K X.mg X.base G k x ar den) (hr : Room j X.A) (hk : k ≤ j) (hg : Gl X x) (ha : SA G X (e :: es) mr)
    (hdb : (x == ("__debug__" : Str)) = false := by decide) (he : starEach (e :: es) X.env = (false, eval e X.env) :: starEach es X.env := by rfl) (hpl : (backTo pos (starEach es X.env)).any (·.1) = false := by rfl) :
    SE G X (.Call (.Name x p) (e :: es) [] pos) (mCB (pureRun den ar) mr) := fun Wx tk => by
  obtain ⟨f, fd, ps, F, hm, hkp, hb⟩ := F.ex
  refine (pe_callS F (hr.mono hk) hg hm hkp hb (fun σ => passAt tk σ) (ha Wx tk) hdb he hpl).imp fun σ H Q p => rd.bnd (Rel := VsRel X.K) p fun H0 ρ0 e sr v H1 ρ1 h1 w x r q p1 => ?_
  unfold pureRun at p1
  split at p1
  · rename_i hw
    refine ⟨(VRs.length q).trans hw.1, [], [], w, r.none, VRs.any hw.2 q, ?_⟩
    cases hd : den w [] with
    | bad => rw [hd] at p1; exact False.elim p1
    | ok z h' =>
      rw [hd] at p1
      dsimp only at p1
      split at p1
      · rename_i hz
        intro ρ' H' v' x' r' q'
        obtain ⟨r2, x2⟩ := r.sub x' r'
        exact p1 ρ1 H' v' x2 r2 (VR.any hz q')
      · exact False.elim p1
    | exc c pl h' =>
      rw [hd] at p1
      cases pl with
      | some z => exact False.elim p1
      | none =>
        intro ρ' H' cls d x' r' q'
        obtain ⟨r2, x2⟩ := r.sub x' r'
        exact p1 ρ1 H' cls d x2 r2 q'
  · exact False.elim p1
/-- a def's body -/
def startE (n : Nat) (ws : List W) : Env := ws.map some ++ List.replicate (n - ws.length) none
def mFun (n : Nat) (m : Sm) (ws : List W) (h : List O) : Out W := match m (startE n ws) h with
  | .nx _ h' => .ok .non h'
  | .rt w h' => .ok w h'
  | .exc c p _ h' => .exc c p h'
  | _ => .bad
theorem sr_start {K : PySem.W.Frag} {H : Hp} {ρ : List Addr} {N : List Str} {vs : List V} {ws : List W} (r : VRs K H ρ vs ws) : SR K H ρ (L2.start N vs) (startE N.length ws) := by
  refine ⟨by unfold L2.start startE; simp [r.length], fun i w h => ?_⟩
  unfold startE at h
  by_cases hi : i < ws.length
  · rw [List.getElem?_append_left (by simpa using hi), List.getElem?_map] at h
    cases hw : ws[i]? with
    | none => rw [hw] at h; cases h
    | some w' =>
      rw [hw] at h
      have e : w' = w := Option.some.inj (Option.some.inj h)
      subst e
      obtain ⟨v, hv, rv⟩ := r.get hw
      refine ⟨v, ?_, rv⟩
      unfold L2.start
      rw [List.getElem?_append_left (by rw [List.length_map, r.length]; exact hi), List.getElem?_map, hv]
      rfl
  · rw [List.getElem?_append_right (by simpa using hi)] at h
    have h2 := List.mem_of_getElem? h
    have := (List.mem_replicate.mp h2).2
    cases this
theorem fn_den {P : Program} {w : World} {K : PySem.W.Frag} {mg : Str → Option Value} {base : Heap} {x qual : Str} {st : Stmt} {f : Addr} {fd : FuncData} {N ps : List Str} {k : Nat} {m : Sm} (F : Fun K x qual st f fd) (S : FnScope N ps (defScope st)) (hm : mg x = some (.ref f)) (hb : Binds K fd ps [])
    (body : ∀ (cdv : Value) (A : Around) (outer : List PySem.Env) (s : Shared) (H : Hp) (E : XK), Room k (A.deeper (envOfC qual (defScope st) s.heap.objs.size f cdv)) → SSs G (cxOf (L2.CX P w) P w K mg base N qual (defScope st) f cdv A outer s H E) (defBody st) m) :
    FnD P w K mg base G (k + 1) x ps.length (mFun N.length m) := ⟨f, fd, ps, F.okX S (fun vs H Q E h => h.1) (fun cdv A outer s H vs Q E hr h => by
  obtain ⟨hl, ρ, h, ws, h1, h2, p⟩ := h
  refine ⟨_, body cdv A outer s H E hr (fun cls d _ H => E cls d H) (takes_of rfl rfl rfl rfl), ρ, _, h, h1, sr_start h2, ?_⟩
  unfold mFun at p
  cases hm : m (startE N.length ws) h with
  | nx e h' => rw [hm] at p; exact fun ρ' H' σ' x r s => p ρ' H' .non x r vr_non
  | rt w h' => rw [hm] at p; exact p
  | exc c q e h' => rw [hm] at p; exact fun ρ' H' σ' cls d x r s => p ρ' H' cls d x r
  | bk e h' => rw [hm] at p; exact False.elim p
  | ct e h' => rw [hm] at p; exact False.elim p
  | bad => rw [hm] at p; exact False.elim p), hm, F.kp, hb⟩

/-! ### raise of an own class without __init__ -/
structure ExD (K : PySem.W.Frag) (mg : Str → Option Value) (G : Gx) (x : Str) (c : Nat) (C : Addr) : Prop where
  ca : G.ca c = some C
  ex : PySem.W.excIn K C [.type "ValueError", .type "Exception", .type "BaseException", .type "object"] "ValueError.__new__" = true
  mg : mg x = some (.ref C)
  kp : PySem.W.keepIn K (.ref C) = true
  sb : PySem.W.subIn K (.ref C) (.type "BaseException") = some true
  ty : PySem.W.typeIn K (.ref C) = some (.type "type")
def mRaise (c : Nat) : Sm := fun e h => .exc c none e h
theorem ss_raise {x msg : Str} {c : Nat} {C : Addr} {j : Nat} {p1 p2 p3 : Pos} (T : ExD X.K X.mg G x c C) (hg : Gl X x) (hc : X.calm = true := by rfl) (hdb : (x == ("__debug__" : Str)) = false := by decide) :
    SS G X (.Raise (some (.Call (.Name x p1) [.Constant (.str msg) j p2] [] p3)) none pos) (mRaise c) := fun Wx tk =>
  (ps_raise hc tk (pmk_own PySem.F.excBase_ValueError T.ex T.mg T.kp (raises_own T.sb T.ty) hg hdb)).imp fun D σ H p => by
    obtain ⟨ρ, e, h, hr, sr, p⟩ := p
    exact p ρ H σ (.ref C) none (Ext.refl hr) hr sr ⟨C, T.ca, rfl, rfl⟩
end
end Den
set_option maxRecDepth 100000
/-! x(lambda: e), x a def that calls what it got and tells what was raised; a law's end. -/
namespace Den
open PySem L2 PyProof.Rows LamX
/-- what the clauses wish: the text of the first that fits -/
def wTell (K : PySem.W.Frag) (Q : VK) : List (Value × Str) → XK
  | [] => fun _ _ _ => False
  | (c, ret) :: r => fun cls d H => ∃ b, PySem.W.exmOne K cls c = some b ∧ (b = true → Q (.str ret) H) ∧ (b = false → wTell K Q r cls d H)
def TTell (K : PySem.W.Frag) (l : List (Value × Str)) : (XK → Hp → VK → Prop) → Hp → VK → Prop := fun tl H Q => tl (wTell K Q l) H Q
/-- the clauses of such a def -/
inductive Tells (sg : Scope) (mg : Str → Option Value) : List ExceptHandler → List (Value × Str) → Prop
  | nil : Tells sg mg [] []
  | cons {x ret : Str} {c : Value} {np p1 p2 p3 : Pos} {j : Nat} {hds : List ExceptHandler} {l : List (Value × Str)} (hg : sg.names.lookup x = some .globalImplicit) (hd : (x == ("__debug__" : Str)) = false) (hm : mg x = some c) (r : Tells sg mg hds l) :
      Tells sg mg (.ExceptHandler (some (.Name x np)) none [.Return (some (.Constant (.str ret) j p1)) p2] p3 :: hds) ((c, ret) :: l)
section
variable {G : Gx} {X : Cx}
theorem tells_ok {sg : Scope} {Y : Cx} (hY : Y.env.scope = sg) : ∀ {hds : List ExceptHandler} {l : List (Value × Str)}, Tells sg Y.mg hds l → HdsOk Y hds (l.map fun p => (p.1, fun _ _ _ => tRet (tC (.str p.2))))
  | _, _, .nil => .nil
  | _, _, .cons hg hd hm r => .cons ⟨by show Y.env.scope.names.lookup _ = _; rw [hY]; exact hg, hd, .inl hm⟩ (fun a oe cls d pn _ _ => pss_one (ps_ret pe_str)) (tells_ok hY r)
theorem wTell_many {K : PySem.W.Frag} {D : Ends} {cls : Value} {d : Option Addr} {σ : L2.St} {H : Hp} : ∀ (l : List (Value × Str)), wTell K D.rt l cls d H → wMany K (fun _ _ _ _ => False) D (l.map fun p => (p.1, fun _ _ _ => tRet (tC (.str p.2)))) cls d σ H
  | [], h => h.elim
  | (c, ret) :: l, h => by
    obtain ⟨b, e, h1, h2⟩ := h
    exact ⟨b, e, fun hb a _ => h1 hb, fun hb => wTell_many l (h2 hb)⟩
theorem tell_gives {Ng : List Str} {x a q : Str} {sg : Scope} {g : Addr} {cdg : Value} {p1 p2 p3 p8 : Pos} {h₀ : ExceptHandler} {hds : List ExceptHandler} {l : List (Value × Str)} (ht : Tells sg X.mg (h₀ :: hds) l) (h0 : ∀ f : Addr, (L2.start Ng [V.ref f])[0]? = some (some (V.ref f))) :
    GivesTo X Ng x sg g cdg [.Try [.Return (some (.Call (.Name a p1) [] [] p2)) p3] (h₀ :: hds) [] [] p8] a q (TTell X.K l) := by
  intro f c' s H Q tl act hc h
  refine ⟨_, pss_one (ps_try_many (X := (cxOf C8.CX0 X.prog X.w X.K X.mg X.base Ng x sg g cdg X.A X.stack s H C8.E0).nox)
      (tb := fun W D σ H => ∃ Ech : XK, (∀ cls d σ' H', Ech cls d H' → W cls d σ' H') ∧ σ[0]? = some (some (.ref f)) ∧ H c' = some (CodeO c' q) ∧ tl Ech H D.rt)
      rfl rfl LamX.takes0 (fun W pn xe tk _ => ?_) (tells_ok (sg := sg) rfl ht)), ?_⟩
  · refine ⟨fun pins s' σ H' D I h' => ?_⟩
    obtain ⟨Ech, hW, h1, h2, h3⟩ := h'
    have hp := act W pn xe Ech p1 p2 tk hW
    have hq := pss_one (ps_ret (pos := p3) hp)
    exact hq.run pins s' σ H' D I ⟨h1, h2, h3⟩
  · exact ⟨wTell X.K Q l, fun cls d σ' H' hw => wTell_many (D := { nx := fun _ H' => Q .non H', rt := Q }) l hw, h0 f, hc, h⟩
def tellGo : List (Nat × List Nat) → Nat → Option (List Nat)
  | [], _ => none
  | (c', r) :: l, c => if c' = c then some r else tellGo l c
def mTold (l : List (Nat × List Nat)) (m : M W) : M W := fun e h => match m e h with
  | .ok w h' => .ok w h'
  | .exc c _ h' => match tellGo l c with
    | some r => .ok (.str r) h'
    | none => .bad
  | .bad => .bad
/-- the clauses by number -/
def TellN (K : PySem.W.Frag) (G : Gx) (l : List (Value × Str)) (ln : List (Nat × List Nat)) : Prop := ∀ (c : Nat) (C : Addr) (r : List Nat), G.ca c = some C → tellGo ln c = some r → ∀ (d : Option Addr) (H : Hp) (Q : VK), Q (.str (mkS r)) H → wTell K Q l (.ref C) d H
theorem tellN_nil {K : PySem.W.Frag} : TellN K G [] [] := fun c C r h e => by cases e
theorem tellN_cons {K : PySem.W.Frag} {C' : Addr} {c' : Nat} {r' : List Nat} {ret : Str} {l : List (Value × Str)} {ln : List (Nat × List Nat)} (hr : ret = mkS r') (hx : ∀ c C, G.ca c = some C → PySem.W.exmOne K (.ref C) (.ref C') = some (decide (c' = c))) (h : TellN K G l ln) :
    TellN K G ((.ref C', ret) :: l) ((c', r') :: ln) := fun c C r hC e d H Q q => by
  refine ⟨_, hx c C hC, fun hb => ?_, fun hb => ?_⟩
  · have e2 := of_decide_eq_true hb
    unfold tellGo at e
    rw [if_pos e2] at e
    cases e
    rw [hr]
    exact q
  · have e2 := of_decide_eq_false hb
    unfold tellGo at e
    rw [if_neg e2] at e
    exact h c C r hC e d H Q q
/-- x(lambda: body) -/
theorem se_told {x a : Str} {st : Stmt} {g : Addr} {fd : FuncData} {Ng : List Str} {c P : Addr} {k j : Nat} {params : Arguments} {body : Expr} {scope : Scope} {mb : M W} {l : List (Value × Str)} {ln : List (Nat × List Nat)} {p lpos pos : Pos} {p1 p2 p3 p8 : Pos} {h₀ : ExceptHandler} {hds : List ExceptHandler}
    (F : Fun X.K x x st g fd) (hb : L2.Binds X.K fd [a] []) (hm : X.mg x = some (.ref g)) (Sg : FnScope Ng [a] (defScope st)) (hbody0 : defBody st = [.Try [.Return (some (.Call (.Name a p1) [] [] p2)) p3] (h₀ :: hds) [] [] p8])
    (hNg : Ng[0]? = some a) (hva : Vis (defScope st) a) (h0 : ∀ f : Addr, (L2.start Ng [V.ref f])[0]? = some (some (V.ref f))) (ht : Tells (defScope st) X.mg (h₀ :: hds) l) (hN : TellN X.K G l ln)
    (hg : Gl X x) (TB : TabB X.base X.mg c P) (hcode : X.env.code = .ref c) (hmT : (P, X.env.qual ++ "<lambda>") ∈ G.T) (hu : ∀ p ∈ G.T, p.1 = P → p.2 = X.env.qual ++ "<lambda>") (hr : Room j X.A) (hk : k + 2 ≤ j) (L : LamS X.env.scope scope) (hdef : defaultsOf params X.env = ([], []))
    (hbind : ∀ (q : Str) (cl : List (Str × Addr)) (pm cv ctv : Value), bindArgs (PySem.W.kla_fn "<lambda>" q params body scope cl pm cv ctv) ⟨[], []⟩ = pure [])
    (hbody : ∀ (A : Around) (outer : List PySem.Env) (s : Shared) (H : Hp) (E : XK) (f c' : Addr), Room k (A.deeper (lamEnv X scope s.heap.objs.size f c')) → SE G (lamCx X A outer s H E scope f c') body mb)
    (hdb : (x == ("__debug__" : Str)) = false := by decide) (hd : (a == ("__debug__" : Str)) = false := by decide) (hcd : (a == ("__classdict__" : Str)) = false := by decide) :
    SE G X (.Call (.Name x p) [.Lambda params body scope lpos] [] pos) (mTold ln mb) := fun Wx tk => by
  obtain ⟨oc, od, kV, doc, pm, an, cdv, ct, osl, rfl, lk, hcd'⟩ := F.ex
  refine (pe_lamcall (T := G.T) (k := k) (t := fun E => rd X.K G (fun cls d _ H => E cls d H) (VRel X.K) mb) (TT := TTell X.K l) hg hm F.kp lk hcd' hb Sg hNg hva (by rw [hbody0]; exact tell_gives ht h0) TB hcode hmT hu (hr.mono hk) L hdef hbind
    (fun A outer s H E f c' hr' => hbody A outer s H E f c' hr' _ (takes_of rfl rfl rfl rfl)) hdb hd hcd).imp fun σ H Q p => ?_
  obtain ⟨ρ, e, h, h1, sr, p⟩ := p
  refine ⟨h1.tb, fun H1 eN T1 => ?_⟩
  have x : Ext H ρ H1 ρ := ⟨fun b o e t _ => eN b o e (by intro ps z; subst z; cases t), List.prefix_rfl, fun _ a b => absurd a b, h1.mu, fun b o u e => eN b _ e (by intro ps z; cases z)⟩
  have r1 : HR X.K G H1 ρ h := ⟨h1.len, h1.nd, fun n a o e1 e2 => (h1.ob n a o e1 e2).mono x (by
    obtain ⟨u, hu, hm⟩ := (h1.ob n a o e1 e2).mut
    rw [hu]
    exact eN a u hu (by intro ps z; subst z; cases hm)), T1⟩
  refine ⟨ρ, e, h, r1, sr.mono x, ?_⟩
  have p := p.ext x
  unfold mTold at p
  cases hb : mb e h with
  | bad => rw [hb] at p; exact False.elim p
  | ok w h' => rw [hb] at p; exact p
  | exc c pl h' =>
    rw [hb] at p
    dsimp only at p
    split at p
    · rename_i r hr'
      intro ρ' H' cls d x' r' q'
      obtain ⟨C, hC, rfl, _⟩ := q'
      exact hN c C r hC hr' d H' Q (p ρ' H' _ x' r' vr_str)
    · exact False.elim p
end

/-! ### the law's def, its code object known -/
theorem law_den {G : Gx} {P : Program} {w : World} {K : PySem.W.Frag} {mg : Str → Option Value} {base : Heap} {x : Str} {st : Stmt} {f c : Addr} {N ps : List Str} {k : Nat} {m : Sm} {oc : Value} {od an : Option Addr} {osl : Array (Option Value)} {kV doc pm ct : Value}
    (lk : K.lookup f = some ⟨oc, od, .func (PySem.W.fnOf x x (defArgs st) (defBody st) (defScope st) .none kV doc pm an (.ref c) ct), osl⟩) (hcd : PySem.W.codeIn K (.ref c) x = true) (S : FnScope N ps (defScope st))
    (body : ∀ (A : Around) (outer : List PySem.Env) (s : Shared) (H : Hp) (E : XK), Room k (A.deeper (envOfC x (defScope st) s.heap.objs.size f (.ref c))) → SSs G (cxOf (L2.CX P w) P w K mg base N x (defScope st) f (.ref c) A outer s H E) (defBody st) m) :
    FnOk P w K mg base (L2.CX P w) (k + 1) f (PySem.W.fnOf x x (defArgs st) (defBody st) (defScope st) .none kV doc pm an (.ref c) ct) ps (spOf K G ps.length (mFun N.length m)) :=
  fn_of lk hcd S (fun vs H Q E h => h.1) fun A outer s H vs Q E hr h => by
    obtain ⟨hl, ρ, h, ws, h1, h2, p⟩ := h
    refine ⟨_, body A outer s H E hr (fun cls d _ H => E cls d H) (takes_of rfl rfl rfl rfl), ρ, _, h, h1, sr_start h2, ?_⟩
    unfold mFun at p
    cases hm : m (startE N.length ws) h with
    | nx e h' => rw [hm] at p; exact fun ρ' H' σ' x r s => p ρ' H' .non x r vr_non
    | rt w h' => rw [hm] at p; exact p
    | exc c q e h' => rw [hm] at p; exact fun ρ' H' σ' cls d x r s => p ρ' H' cls d x r
    | bk e h' => rw [hm] at p; exact False.elim p
    | ct e h' => rw [hm] at p; exact False.elim p
    | bad => rw [hm] at p; exact False.elim p
/-- the script is handed in -/
def scriptW (ns : List Int) : W := .rol (ns.map W.int)
theorem ints_vrs {K : PySem.W.Frag} {H : Hp} {ρ : List Addr} : ∀ ns : List Int, VRs K H ρ (ns.map V.int) (ns.map W.int)
  | [] => .nil
  | n :: ns => .cons vr_int (ints_vrs ns)
theorem law_sp {G : Gx} {K : PySem.W.Frag} {H : Hp} {a : Addr} {ns : List Int} {den : List W → List O → Out W} (hT : LamX.Tabs G.T H) (hs : SqL K H a (ns.map V.int)) {h' : List O} (hd : den [scriptW ns] [] = .ok (.bl true) h') :
    spOf K G 1 den [.ref a] H (fun v _ => v = .bl true) fun _ _ _ => False := by
  refine ⟨rfl, [], [], [scriptW ns], ⟨rfl, by simp, fun n a o e => by simp at e, hT⟩, .one ?_, ?_⟩
  · unfold scriptW VR
    refine ⟨a, _, rfl, ?_, ints_vrs ns⟩
    rcases hs with hs | hs
    · exact .inl ⟨hs, by simp⟩
    · exact .inr fun H' => .inr hs
  · rw [hd]
    exact fun ρ' H' v x r q => VR.bl q
end Den
set_option maxRecDepth 100000
/-! More operations: tuples of names, min over texts, index, in. -/
namespace Den
open PySem L2 PyProof.Rows
/-- whether an error of the class at S is what «except S'» names -/
theorem exm_mk {K : PySem.W.Frag} {S S' : Addr} {b : Bool} (h1 : PySem.W.subIn K (.ref S') (.type "BaseException") = some true) (h2 : PySem.W.isClsIn K S' = true) (h3 : PySem.W.typeIn K (.ref S') = some (.type "type")) (h4 : PySem.W.subIn K (.ref S) (.ref S') = some b) :
    PySem.W.exmOne K (.ref S) (.ref S') = some b := by
  have e1 : (PySem.W.subIn K (.ref S') (.type "BaseException") == some true) = true := by rw [h1] <;> rfl
  have e2 : ((PySem.W.clsIn K S').isSome && PySem.W.typeIn K (.ref S') == some (.type "type")) = true := by
    have h2' : (PySem.W.clsIn K S').isSome = true := h2
    rw [h2', h3] <;> rfl
  show (if (PySem.W.subIn K (.ref S') (.type "BaseException") == some true) = true then (if ((PySem.W.clsIn K S').isSome && PySem.W.typeIn K (.ref S') == some (.type "type")) = true then PySem.W.subIn K (.ref S) (.ref S') else none) else none) = some b
  rw [if_pos e1, if_pos e2]
  exact h4
theorem room65 {k : Nat} {A : Around} (r : Room k A) : A.units + 65 < cLine := by have := r.un; omega
section
variable {G : Gx} {X : Cx}
theorem VRs.inv3 {K : PySem.W.Frag} {H : Hp} {ρ : List Addr} {vs : List V} {w w' w'' : W} (r : VRs K H ρ vs [w, w', w'']) : ∃ v v' v'', vs = [v, v', v''] ∧ VR K H ρ v w ∧ VR K H ρ v' w' ∧ VR K H ρ v'' w'' := by
  unfold VRs at r
  obtain ⟨v, l, rfl, q, z⟩ := r
  obtain ⟨v', v'', rfl, q', q''⟩ := VRs.inv2 z
  exact ⟨v, v', v'', rfl, q, q', q''⟩
theorem ss_par3 {i j l : Nat} {x y z : Str} {a b c : Expr} {mr : M (List W)} {px py pz pt pos : Pos} {kt k2 pt2} (hc : X.calm = true) (hN : X.N.Nodup) (hi : X.N[i]? = some x) (hj : X.N[j]? = some y) (hl : X.N[l]? = some z) (hij : i ≠ j) (hil : i ≠ l) (hjl : j ≠ l)
    (hx : X.env.scope.names.lookup x = some .local) (hy : X.env.scope.names.lookup y = some .local) (hz : X.env.scope.names.lookup z = some .local) (ha : SA G X [a, b, c] mr)
    (hw : swappedStores [.Tuple [.Name x px, .Name y py, .Name z pz] kt pt] (.Tuple [a, b, c] k2 pt2) X.env = pure (some [x, y, z]))
    (hs : swapsWithSole [.Tuple [.Name x px, .Name y py, .Name z pz] kt pt] (.Tuple [a, b, c] k2 pt2) pos.line X.env = pure false := by rfl) :
    SS G X (.Assign [.Tuple [.Name x px, .Name y py, .Name z pz] kt pt] (.Tuple [a, b, c] k2 pt2) pos) (mTs [i, j, l] mr) := fun Wx tk =>
  (ps_par3 hc hN hi hj hl hij hil hjl hx hy hz (ha Wx tk) hw hs).imp fun D σ H p => rdS.stm (Rel := VsRel X.K) p fun H0 ρ0 e sr v H1 ρ1 h1 w x r q p1 => by
    split at p1
    · rename_i hl
      match w, hl, q, p1 with
      | [w1, w2, w3], hl, q, p1 =>
        obtain ⟨v1, v2, v3, rfl, q1, q2, q3⟩ := VRs.inv3 q
        exact ⟨v1, v2, v3, rfl, p1 ρ1 H1 _ (Ext.refl r) r ((((sr.mono x).set i q1).set j q2).set l q3)⟩
    · exact False.elim p1
theorem tgTs_fold : ∀ (is : List Nat) (ws : List W) (e : Den.Env), is.length = ws.length → tgTs is ws e = some ((is.zip ws).foldl (fun e p => e.set p.1 (some p.2)) e)
  | [], [], e, _ => rfl
  | i :: is, w :: ws, e, h => by
    show tgTs is ws (e.set i (some w)) = _
    rw [tgTs_fold is ws _ (by simpa using h)]
    rfl
  | [], _ :: _, _, h => by cases h
  | _ :: _, [], _, h => by cases h
theorem ss_asgT {is : List Nat} {tg e : Expr} {g : TG} {vs : List Nat} {mr : M (List W)} {pos : Pos} (he : SE G X e (mTup mr)) (hg : PG X tg g) (ht : TgOk X.K G vs g (tgT is)) (hl : is.length ≤ lim)
    (hs : swapsWithSole [tg] e pos.line X.env = pure false := by rfl) (hw : swappedStores [tg] e X.env = pure none := by rfl)
    (h1 : (assignEach [tg] X.env).map (·.2) = [assign tg X.env] := by rfl) : SS G X (.Assign [tg] e pos) (mTs is mr) := fun Wx tk =>
  (ss_asg he hg ht hs hw h1 Wx tk).imp fun D σ H p => by
    obtain ⟨ρ, e, h, hr, sr, p⟩ := p
    refine ⟨ρ, e, h, hr, sr, ?_⟩
    unfold mTs at p
    unfold mAsg mTup
    cases hm : mr e h with
    | bad => rw [hm] at p; exact False.elim p
    | exc c q h' => rw [hm] at p; exact p
    | ok ws h' =>
      rw [hm] at p
      simp only [Out.bnd_ok, Out.stm_ok] at p ⊢
      split at p
      · rename_i hw
        rw [if_pos (by rw [← hw]; exact hl), Out.stm_ok]
        show PostS X.K G Wx D H ρ (match tgTs is ws e with | some e => .nx e h' | none => .bad)
        rw [tgTs_fold is ws e hw]
        exact p
      · exact False.elim p

/-! ### min -/
def minS : List (List Nat) → List Nat
  | [] => []
  | x :: r => r.foldl (fun a y => if y < a then y else a) x
theorem reads_str {h : Heap} {x : Str} {t : Tok} {d : PyData} {as : List Addr} (r : Reads h (.str x t) d as) : d = .str x := by
  cases r
  rfl
theorem minD_strs (x : List Nat) (r : List (List Nat)) : PySem.W.minD (.str (mkS x)) (r.map fun y => .str (mkS y)) = .str (mkS (minS (x :: r))) := by
  unfold PySem.W.minD
  show _ = PyData.str (mkS (r.foldl (fun a y => if y < a then y else a) x))
  induction r generalizing x with
  | nil => rfl
  | cons y r ih =>
    rw [List.map_cons, List.foldl_cons, List.foldl_cons]
    have e : (if PySem.W.dataLt (.str (mkS y)) (.str (mkS x)) = true then (PyData.str (mkS y)) else .str (mkS x)) = .str (mkS (if y < x then y else x)) := by
      rw [PySem.W.dataLt_str]
      have e2 : (mkS y).cps.toList = y := by simp
      have e3 : (mkS x).cps.toList = x := by simp
      rw [e2, e3]
      by_cases h : y < x
      · simp [h]
      · simp [h]
    rw [e]
    exact ih _
theorem strs_reads {h : Heap} : ∀ {l : List (List Nat)} {us : List Value}, Vals ((l.map mkS).map V.str) us → ∃ as, ReadsAll h us (l.map fun y => .str (mkS y)) as
  | [], us, r => by cases r; exact ⟨_, .nil⟩
  | x :: l, us, r => by
    cases r with
    | cons r1 r2 =>
      obtain ⟨t, rfl⟩ := r1
      obtain ⟨as, q⟩ := strs_reads (h := h) r2
      exact ⟨_, .cons (.str _ t) q⟩
theorem strs_alike (l : List (List Nat)) : PySem.W.AlikeAll (l.map fun y => .str (mkS y)) := by
  refine ⟨fun x hx y hy => ?_, fun x hx => ?_⟩
  · obtain ⟨a, _, rfl⟩ := List.mem_map.mp hx
    obtain ⟨b, _, rfl⟩ := List.mem_map.mp hy
    unfold PySem.W.alike
    rfl
  · obtain ⟨a, _, rfl⟩ := List.mem_map.mp hx
    intro z
    cases z
theorem strs_depth (l : List (List Nat)) : PyData.depthAll (l.map fun y => .str (mkS y)) = 0 := by
  induction l with
  | nil => rfl
  | cons x l ih =>
    rw [List.map_cons]
    unfold PyData.depthAll
    rw [ih]
    rfl
def rMinS (K : PySem.W.Frag) : List V → Hp → VK → Prop := fun vs H Q => ∃ (a : Addr) (l : List (List Nat)), vs = [V.ref a] ∧ SqL K H a ((l.map mkS).map V.str) ∧ l ≠ [] ∧ Q (.str (mkS (minS l))) H
theorem cr_minS (hc : X.calm = true) (hu : X.A.units + 64 < cLine) : CallR X (.builtin "min") (rMinS X.K) := by
  intro pins s σ H vs us Q I r h
  obtain ⟨a, l, rfl, hs, hne, q⟩ := h
  obtain ⟨its, rv, hl, _⟩ := I.list hs
  rw [Vals.ref1 r]
  cases l with
  | nil => exact absurd rfl hne
  | cons x l =>
    obtain ⟨as, rd⟩ := strs_reads (h := s.heap) rv
    have hu2 : X.A.units + 1 + PyData.depthAll ((x :: l).map fun y => .str (mkS y)) < cLine := by rw [strs_depth]; omega
    refine PySem.W.min_list_data (I.ok.hd hc) hl.isList (by simpa using rd) (by simpa using strs_alike (x :: l)) (by simpa using hu2) fun i v h' tk bs hv hr hk => ?_
    rw [minD_strs] at hr
    have hv2 : its[i]? = some v := by simpa using hv
    have hlen : (x :: l).length = its.length := by have := rv.length; simpa using this
    obtain ⟨hi, e⟩ := List.getElem?_eq_some_iff.mp hv2
    have e3 : (((x :: l).map mkS).map V.str)[i]? = some (V.str (mkS ((x :: l)[i]'(by rw [hlen]; exact hi)))) := by
      rw [List.getElem?_map, List.getElem?_map, List.getElem?_eq_getElem (by rw [hlen]; exact hi)]
      rfl
    obtain ⟨u, e4, ru⟩ := rv.get e3
    rw [hv2] at e4
    cases e4
    obtain ⟨t, rfl⟩ := ru
    have e5 := PyData.str.inj (reads_str hr)
    refine ⟨.str (mkS (minS (x :: l))), H, I.kept hk, ?_, q⟩
    rw [e5]
    exact ⟨t, rfl⟩
def oMin (ws : List W) (h : List O) : Out W := match ws with
  | [.int i, .int j] => .ok (.int (if j < i then j else i)) h
  | [x] => match sqL x h with
    | some xs => match intsOf xs with
      | some l => if 0 < l.length then .ok (.int (minI l)) h else .bad
      | none => match strsOf xs with
        | some l => if 0 < l.length then .ok (.str (minS l)) h else .bad
        | none => .bad
    | none => .bad
  | _ => .bad
theorem cas_min (hc : X.calm = true) (hu : X.A.units + 64 < cLine) : CaS G X (.builtin "min") oMin := ⟨_, CallR.or (call_min2 hc) (CallR.or (cr_min hc) (cr_minS hc hu)), fun E H ρ h vs ws Q hr r p => by
  unfold oMin at p
  split at p
  · obtain ⟨v, v', rfl, q, q'⟩ := r.inv2
    exact .inl ⟨_, _, by rw [q.int, q'.int], p.here hr vr_int⟩
  · obtain ⟨v, rfl, q⟩ := r.inv1
    split at p
    · rename_i xs hx
      obtain ⟨a, vs, rfl, q, z⟩ := sqL_ok hr q hx
      split at p
      · rename_i l hl
        split at p
        · rename_i h0
          refine .inr (.inl ⟨a, l, rfl, by rw [← intsOf_ok z hl]; exact q, h0, fun m h1 h2 => ?_⟩)
          rw [minI_ok h1 h2]
          exact p.here hr vr_int
        · exact False.elim p
      · split at p
        · rename_i l hl
          split at p
          · rename_i h0
            exact .inr (.inr ⟨a, l, rfl, by rw [← strsOf_ok z hl]; exact q, (by intro e; subst e; exact Nat.lt_irrefl _ h0), p.here hr vr_str⟩)
          · exact False.elim p
        · exact False.elim p
    · exact False.elim p
  · exact False.elim p⟩

/-! ### index, in -/
def idxOf {α : Type} [BEq α] (x : α) : List α → Option Nat
  | [] => none
  | y :: r => if y == x then some 0 else (idxOf x r).map (· + 1)
theorem idxOf_ok {α : Type} [BEq α] {x : α} : ∀ {l : List α} {j : Nat}, idxOf x l = some j → (∃ y, l[j]? = some y ∧ (y == x) = true) ∧ ∀ m y, m < j → l[m]? = some y → (y == x) = false
  | [], j, e => by cases e
  | y :: r, j, e => by
    unfold idxOf at e
    split at e
    · rename_i h
      cases e
      exact ⟨⟨y, rfl, h⟩, fun m z hm => by omega⟩
    · rename_i h
      cases hi : idxOf x r with
      | none => rw [hi] at e; cases e
      | some k =>
        rw [hi] at e
        cases e
        obtain ⟨⟨z, h1, h2⟩, h3⟩ := idxOf_ok hi
        refine ⟨⟨z, by simpa using h1, h2⟩, fun m w hm hw => ?_⟩
        cases m with
        | zero =>
          simp at hw
          subst hw
          simpa using h
        | succ m => exact h3 m w (Nat.lt_of_succ_lt_succ hm) (by simpa using hw)
def oIndex (x : W) (ws : List W) (h : List O) : Out W := match ws with
  | [.str s] => match sqL x h with
    | some xs => match strsOf xs with
      | some l => match idxOf s l with
        | some j => .ok (.int j) h
        | none => .bad
      | none => .bad
    | none => .bad
  | [.int i] => match sqL x h with
    | some xs => match intsOf xs with
      | some l => match idxOf i l with
        | some j => .ok (.int j) h
        | none => .bad
      | none => .bad
    | none => .bad
  | _ => .bad
theorem mkS_beq (a b : List Nat) : (mkS a == mkS b) = (a == b) := by
  by_cases e : a = b
  · subst e; simp
  · rw [beq_eq_false_iff_ne.mpr e, beq_eq_false_iff_ne]
    intro z
    exact e (by simpa using congrArg (fun s : Str => s.cps.toList) z)
theorem flat_strs (l : List (List Nat)) : ((l.map mkS).map V.str).all flatV = true := by
  rw [List.all_eq_true]
  intro v hv
  obtain ⟨s, _, rfl⟩ := List.mem_map.mp hv
  rfl
theorem flat_ints (l : List Int) : (l.map V.int).all flatV = true := by
  rw [List.all_eq_true]
  intro v hv
  obtain ⟨s, _, rfl⟩ := List.mem_map.mp hv
  rfl
theorem mes_index : MeS G X "list.index" oIndex := ⟨_, mt_index, fun E H ρ h x wx vs ws Q hr rx r p => by
  unfold oIndex at p
  split at p
  · rename_i s
    split at p
    · rename_i xs hx
      split at p
      · rename_i l hl
        split at p
        · rename_i j hj
          obtain ⟨y, rfl, ry⟩ := r.inv1
          obtain ⟨a, vs, rfl, q, z⟩ := sqL_ok hr rx hx
          obtain ⟨⟨t, h1, h2⟩, h3⟩ := idxOf_ok hj
          rw [strsOf_ok z hl] at q
          refine ⟨a, _, _, j, V.str (mkS t), rfl, by rw [ry.str], q, rfl, flat_strs l, by rw [List.getElem?_map, List.getElem?_map, h1]; rfl, ?_, fun m z' hm hz => ?_, p.here hr vr_int⟩
          · show (mkS t == mkS s) = true
            rw [mkS_beq]; exact h2
          · rw [List.getElem?_map, List.getElem?_map] at hz
            cases hm2 : l[m]? with
            | none => rw [hm2] at hz; cases hz
            | some u =>
              rw [hm2] at hz
              cases hz
              show (mkS u == mkS s) = false
              rw [mkS_beq]
              exact h3 m u hm hm2
        · exact False.elim p
      · exact False.elim p
    · exact False.elim p
  · rename_i s
    split at p
    · rename_i xs hx
      split at p
      · rename_i l hl
        split at p
        · rename_i j hj
          obtain ⟨y, rfl, ry⟩ := r.inv1
          obtain ⟨a, vs, rfl, q, z⟩ := sqL_ok hr rx hx
          obtain ⟨⟨t, h1, h2⟩, h3⟩ := idxOf_ok hj
          rw [intsOf_ok z hl] at q
          refine ⟨a, _, _, j, V.int t, rfl, by rw [ry.int], q, rfl, flat_ints l, by rw [List.getElem?_map, h1]; rfl, ?_, fun m z' hm hz => ?_, p.here hr vr_int⟩
          · exact h2
          · rw [List.getElem?_map] at hz
            cases hm2 : l[m]? with
            | none => rw [hm2] at hz; cases hz
            | some u =>
              rw [hm2] at hz
              cases hz
              exact h3 m u hm hm2
        · exact False.elim p
      · exact False.elim p
    · exact False.elim p
  · exact False.elim p⟩
end
end Den
set_option maxRecDepth 100000
/-! The plain functions, calculated: what each part gives, rules for loops. -/
namespace Den
open PySem L2
theorem nrfl {α : Sort u} {a b : α} (h : a = b) : a = b := h
section
variable {α : Type}
theorem cons_app {a : α} {as bs : List α} : (a :: as) ++ bs = a :: (as ++ bs) := nrfl rfl
theorem nil_app {as : List α} : [] ++ as = as := nrfl rfl
theorem len_cons {a : α} {as : List α} : (a :: as).length = as.length + 1 := nrfl rfl
theorem len_nil : ([] : List α).length = 0 := nrfl rfl
theorem set_z {a b : α} {as : List α} : (a :: as).set 0 b = b :: as := nrfl rfl
theorem set_s {a b : α} {as : List α} {n : Nat} : (a :: as).set (n + 1) b = a :: as.set n b := nrfl rfl
theorem zip_cc {β : Type} {a : α} {b : β} {as : List α} {bs : List β} : (a :: as).zip (b :: bs) = (a, b) :: as.zip bs := nrfl rfl
theorem zip_nn {β : Type} : ([] : List α).zip ([] : List β) = [] := nrfl rfl
theorem foldl_c {β : Type} {f : β → α → β} {b : β} {a : α} {as : List α} : (a :: as).foldl f b = as.foldl f (f b a) := nrfl rfl
theorem foldl_n {β : Type} {f : β → α → β} {b : β} : ([] : List α).foldl f b = b := nrfl rfl
theorem ite_t {a b : α} : (if true = true then a else b) = a := nrfl rfl
theorem ite_T {a b : α} {d : Decidable True} : @ite α True d a b = a := if_pos trivial
theorem ite_F {a b : α} {d : Decidable False} : @ite α False d a b = b := if_neg id
theorem ite_f {a b : α} : (if false = true then a else b) = b := nrfl rfl
end
section
variable {α β : Type} {a b c : M W} {t u : M Bool} {op op' : W → W → List O → Out W} {e : Env} {h : List O} {i j k : Int} {w : W}
theorem mVar_z {r : Env} : mVar 0 (some w :: r) h = .ok w h := nrfl rfl
theorem mVar_s {n : Nat} {x : Option W} {r : Env} : mVar (n + 1) (x :: r) h = mVar n r h := by simp [mVar]
theorem ok_bnd {x : α} {f : α → List O → Out β} : (Out.ok x h).bnd f = f x h := nrfl rfl
theorem ok_stm {x : α} {f : α → List O → SOut} : (Out.ok x h).stm e f = f x h := nrfl rfl
theorem exc_bnd {n : Nat} {p : Option W} {f : α → List O → Out β} : (Out.exc n p h).bnd f = .exc n p h := nrfl rfl
theorem exc_stm {n : Nat} {p : Option W} {f : α → List O → SOut} : (Out.exc n p h).stm e f = .exc n p e h := nrfl rfl
theorem ap_C : mC w e h = .ok w h := nrfl rfl
theorem ap_Op : mOp op a b e h = (a e h).bnd fun x h => (b e h).bnd fun y h => op x y h := nrfl rfl
theorem ap_Un {op : W → List O → Out W} : mUn op a e h = (a e h).bnd fun x h => op x h := nrfl rfl
theorem ap_B : mB a e h = (a e h).bnd asB := nrfl rfl
theorem ap_Chain : mChain op op' a b c e h = (a e h).bnd fun x h => (b e h).bnd fun y h => (op x y h).bnd fun z h => (asB z h).bnd fun k h => if k = true then (c e h).bnd fun w h => op' y w h else .ok (.bl false) h := nrfl rfl
theorem ap_asB {x : Bool} : asB (.bl x) h = .ok x h := nrfl rfl
theorem ap_Tru : mTru a e h = (a e h).bnd truW := nrfl rfl
theorem ap_And : mAnd t u e h = (t e h).bnd fun c h => if c = true then u e h else .ok false h := nrfl rfl
theorem ap_Or : mOr t u e h = (t e h).bnd fun c h => if c = true then .ok true h else u e h := nrfl rfl
theorem ap_Not : mNot t e h = (t e h).bnd fun c h => .ok (!c) h := nrfl rfl
theorem ap_AndV : mAndV a b e h = (a e h).bnd fun x h => (truW x h).bnd fun k h => if k = true then b e h else .ok x h := nrfl rfl
theorem ap_OrV : mOrV a b e h = (a e h).bnd fun x h => (truW x h).bnd fun k h => if k = true then .ok x h else b e h := nrfl rfl
theorem ap_NotV : mNotV a e h = (a e h).bnd fun x h => (truW x h).bnd fun k h => .ok (.bl (!k)) h := nrfl rfl
theorem ap_If : mIf t a b e h = (t e h).bnd fun c h => if c = true then a e h else b e h := nrfl rfl
theorem ap_Nil : mNil e h = .ok [] h := nrfl rfl
theorem ap_Cons {r : M (List W)} : mCons a r e h = (a e h).bnd fun x h => (r e h).bnd fun xs h => .ok (x :: xs) h := nrfl rfl
theorem ap_Tup {m : M (List W)} : mTup m e h = (m e h).bnd fun xs h => if xs.length ≤ 1000000 then .ok (.tup xs) h else .bad := nrfl rfl
theorem ap_Lst {m : M (List W)} : mLst m e h = (m e h).bnd fun xs h => if xs.length ≤ 1000000 then .ok (.ref h.length) (h ++ [.lst xs]) else .bad := nrfl rfl
theorem ap_CB {f : List W → List O → Out W} {m : M (List W)} : mCB f m e h = (m e h).bnd fun ws h => f ws h := nrfl rfl
theorem ap_Meth {T : String} {f : W → List W → List O → Out W} {m : M (List W)} : mMeth T f a m e h = (a e h).bnd fun x h => if tyW T x h = true then (m e h).bnd fun ws h => f x ws h else .bad := nrfl rfl
theorem ap_Part : mPart a e h = (a e h).bnd fun w h => match w with
  | .int i => .ok (some i) h
  | _ => .bad := nrfl rfl
theorem ap_NoPart : mNoPart e h = .ok none h := nrfl rfl
theorem ap_Sl {lo hi : M (Option Int)} : mSl a lo hi e h = (a e h).bnd fun x h => (lo e h).bnd fun l h => (hi e h).bnd fun u h => oSl x l u h := nrfl rfl
theorem ap_Yes : mYes e h = .ok true h := nrfl rfl
theorem ap_Told {l : List (Nat × List Nat)} : mTold l a e h = match a e h with
  | .ok w h' => .ok w h'
  | .exc c _ h' => match tellGo l c with
    | some r => .ok (.str r) h'
    | none => .bad
  | .bad => .bad := nrfl rfl
/-! operations -/
theorem add_ii : oAdd (.int i) (.int j) h = .ok (.int (i + j)) h := nrfl rfl
theorem add_ss {s r : List Nat} (hl : s.length + r.length ≤ 1000000) : oAdd (.str s) (.str r) h = .ok (.str (s ++ r)) h := by unfold oAdd; exact if_pos hl
theorem sub_ii : oSub (.int i) (.int j) h = .ok (.int (i - j)) h := nrfl rfl
theorem neg_i : oNeg (.int i) h = .ok (.int (-i)) h := nrfl rfl
set_option exponentiation.threshold 100 in
theorem mulOk_of (h1 : i.natAbs < 2 ^ 50000000) (h2 : j.natAbs < 2 ^ 49999999) : mulOk i j = true := by
  unfold mulOk
  have l1 : i.natAbs.log2 < 50000000 := by
    by_cases z : i.natAbs = 0
    · rw [z]; decide
    · exact (Nat.log2_lt z).2 h1
  have l2 : j.natAbs.log2 < 49999999 := by
    by_cases z : j.natAbs = 0
    · rw [z]; decide
    · exact (Nat.log2_lt z).2 h2
  exact decide_eq_true (by omega)
theorem small_pow {n m : Nat} (h : n < 2 ^ 64) (hm : 64 ≤ m) : n < 2 ^ m := Nat.lt_of_lt_of_le h (Nat.pow_le_pow_right (by decide) hm)
theorem mul_ii (h1 : -18446744073709551616 < i ∧ i < 18446744073709551616) (h2 : -18446744073709551616 < j ∧ j < 18446744073709551616) : oMul (.int i) (.int j) h = .ok (.int (i * j)) h := by
  unfold oMul
  exact if_pos (mulOk_of (small_pow (by omega) (by decide)) (small_pow (by omega) (by decide)))
theorem fdiv_ii (h1 : 0 < j) (h2 : j < 18446744073709551616) : oFdiv (.int i) (.int j) h = .ok (.int (i / j)) h := by
  unfold oFdiv
  refine if_pos ⟨h1, ?_⟩
  have z : j.natAbs ≠ 0 := by omega
  exact (Nat.log2_lt z).2 (small_pow (by omega) (by decide))
theorem mod_ii (h1 : 0 < j) : oMod (.int i) (.int j) h = .ok (.int (i % j)) h := by unfold oMod; exact if_pos h1
theorem beq_dec {α : Type} [DecidableEq α] (x y : α) : (x == y) = decide (x = y) := by
  by_cases e : x = y <;> simp [e]
theorem eq_ii : oEq (.int i) (.int j) h = .ok (.bl (decide (i = j))) h := by show Out.ok (W.bl (i == j)) h = _; rw [beq_dec]
theorem ne_ii : oNe (.int i) (.int j) h = .ok (.bl (decide (i ≠ j))) h := by show Out.ok (W.bl (!(i == j))) h = _; rw [beq_dec, decide_not]
theorem eq_ss {s r : List Nat} : oEq (.str s) (.str r) h = .ok (.bl (decide (s = r))) h := by show Out.ok (W.bl (s == r)) h = _; by_cases e : s = r <;> simp [e]
theorem ne_ss {s r : List Nat} : oNe (.str s) (.str r) h = .ok (.bl (decide (s ≠ r))) h := by show Out.ok (W.bl (!(s == r))) h = _; by_cases e : s = r <;> simp [e]
theorem lt_ii : oLt (.int i) (.int j) h = .ok (.bl (decide (i < j))) h := nrfl rfl
theorem le_ii : oLe (.int i) (.int j) h = .ok (.bl (decide (i ≤ j))) h := nrfl rfl
theorem gt_ii : oGt (.int i) (.int j) h = .ok (.bl (decide (j < i))) h := nrfl rfl
theorem ge_ii : oGe (.int i) (.int j) h = .ok (.bl (decide (j ≤ i))) h := nrfl rfl
theorem lt_ss {s r : List Nat} : oLt (.str s) (.str r) h = .ok (.bl (decide (s < r))) h := nrfl rfl
theorem gt_ss {s r : List Nat} : oGt (.str s) (.str r) h = .ok (.bl (decide (r < s))) h := nrfl rfl
theorem le_ss {s r : List Nat} : oLe (.str s) (.str r) h = .ok (.bl (decide (¬ r < s))) h := by show Out.ok (W.bl (!decide (r < s))) h = _; rw [decide_not]
theorem ge_ss {s r : List Nat} : oGe (.str s) (.str r) h = .ok (.bl (decide (¬ s < r))) h := by show Out.ok (W.bl (!decide (s < r))) h = _; rw [decide_not]
theorem len_s {s : List Nat} (hl : s.length ≤ 1000000) : oLen [.str s] h = .ok (.int s.length) h := by unfold oLen; exact if_pos hl
theorem len_t {xs : List W} : oLen [.tup xs] h = .ok (.int xs.length) h := nrfl rfl
def withL {α : Type} (o : Option (List W)) (f : List W → Out α) : Out α := match o with
  | some xs => f xs
  | none => .bad
theorem withL_s {α : Type} {xs : List W} {f : List W → Out α} : withL (some xs) f = f xs := nrfl rfl
theorem len_r {n : Nat} {xs : List W} (hn : lstAt h n = some xs) : oLen [.ref n] h = .ok (.int xs.length) h := by unfold oLen; dsimp only; rw [lstAt_some hn]
theorem abs_i : oAbs [.int i] h = .ok (.int (if i < 0 then -i else i)) h := nrfl rfl
theorem int_i : oInt [.int i] h = .ok (.int i) h := nrfl rfl
theorem int_b {x : Bool} : oInt [.bl x] h = .ok (.int (if x then 1 else 0)) h := nrfl rfl
theorem max_ii : oMax [.int i, .int j] h = .ok (.int (if j > i then j else i)) h := nrfl rfl
theorem min_ii : oMin [.int i, .int j] h = .ok (.int (if j < i then j else i)) h := nrfl rfl
theorem atI_nat {α : Type} {xs : List α} {i : Int} (h0 : 0 ≤ i) (h1 : i < xs.length) : L2.atI xs i = some (xs[i.toNat]'(by omega)) := by
  unfold L2.atI L2.ixN
  rw [if_pos h0, if_pos h1]
  show xs[i.toNat]? = _
  exact List.getElem?_eq_getElem (by omega)
theorem atI_neg {α : Type} {xs : List α} {i : Int} (h0 : i < 0) (h1 : -(xs.length : Int) ≤ i) : L2.atI xs i = some (xs[(i + xs.length).toNat]'(by omega)) := by
  unfold L2.atI L2.ixN
  rw [if_neg (by omega), if_pos h1]
  show xs[(i + xs.length).toNat]? = _
  exact List.getElem?_eq_getElem (by omega)
theorem ix_s {s : List Nat} (h0 : 0 ≤ i) (h1 : i < s.length) (hl : s.length ≤ 1000000) : oIx (.str s) (.int i) h = .ok (.str [s.getD i.toNat 0]) h := by
  unfold oIx
  dsimp only
  rw [if_pos hl, atI_nat h0 h1]
  rw [List.getD_eq_getElem?_getD, List.getElem?_eq_getElem (by omega)]
  rfl
def ixL (xs : List W) (i : Int) (h : List O) : Out W := match L2.atI xs i with
  | some w => .ok w h
  | none => .bad
theorem ixL_ok {xs : List W} (h0 : 0 ≤ i) (h1 : i < xs.length) : ixL xs i h = .ok (xs.getD i.toNat .non) h := by
  unfold ixL
  rw [atI_nat h0 h1, List.getD_eq_getElem?_getD, List.getElem?_eq_getElem (by omega)]
  rfl
theorem ixL_0 {x : W} {r : List W} : ixL (x :: r) 0 h = .ok x h := by rw [ixL_ok (by omega) (by simp)]; rfl
theorem ixL_1 {x y : W} {r : List W} : ixL (x :: y :: r) 1 h = .ok y h := by rw [ixL_ok (by omega) (by simp; omega)]; rfl
theorem ixL_2 {x y z : W} {r : List W} : ixL (x :: y :: z :: r) 2 h = .ok z h := by rw [ixL_ok (by omega) (by simp; omega)]; rfl
theorem ixL_3 {x y z u : W} {r : List W} : ixL (x :: y :: z :: u :: r) 3 h = .ok u h := by rw [ixL_ok (by omega) (by simp; omega)]; rfl
theorem ix_r {n : Nat} : oIx (.ref n) (.int i) h = withL (lstAt h n) fun xs => ixL xs i h := by
  unfold oIx withL
  dsimp only [sqA]
  all_goals (cases lstAt h n <;> rfl)
theorem getL_r {n : Nat} : oGetL (.ref n) (.int i) h = withL (lstAt h n) fun xs => ixL xs i h := by
  unfold oGetL withL
  dsimp only [sqL]
  all_goals (cases lstAt h n <;> rfl)
theorem ix_tL {xs : List W} : oIx (.tup xs) (.int i) h = ixL xs i h := nrfl rfl
theorem ix_t {xs : List W} (h0 : 0 ≤ i) (h1 : i < xs.length) : oIx (.tup xs) (.int i) h = .ok (xs.getD i.toNat .non) h := by
  unfold oIx
  dsimp only [sqA]
  rw [atI_nat h0 h1, List.getD_eq_getElem?_getD, List.getElem?_eq_getElem (by omega)]
  rfl
def setL (n : Nat) (xs : List W) (i : Int) (w : W) (h : List O) : Out Unit := match L2.ixN xs.length i with
  | some j => .ok () (h.set n (.lst (xs.set j w)))
  | none => .bad
theorem setL_ok {n : Nat} {xs : List W} (h0 : 0 ≤ i) (h1 : i < xs.length) : setL n xs i w h = .ok () (h.set n (.lst (xs.set i.toNat w))) := by
  unfold setL L2.ixN
  rw [if_pos h0, if_pos h1]
theorem setL_0 {n : Nat} {x : W} {r : List W} : setL n (x :: r) 0 w h = .ok () (h.set n (.lst (w :: r))) := by rw [setL_ok (by omega) (by simp)]; rfl
theorem setL_1 {n : Nat} {x y : W} {r : List W} : setL n (x :: y :: r) 1 w h = .ok () (h.set n (.lst (x :: w :: r))) := by rw [setL_ok (by omega) (by simp; omega)]; rfl
theorem setL_2 {n : Nat} {x y z : W} {r : List W} : setL n (x :: y :: z :: r) 2 w h = .ok () (h.set n (.lst (x :: y :: w :: r))) := by rw [setL_ok (by omega) (by simp; omega)]; rfl
theorem set_r {n : Nat} : oSet (.ref n) (.int i) w h = withL (lstAt h n) fun xs => setL n xs i w h := by
  unfold oSet withL
  dsimp only
  all_goals (cases lstAt h n <;> rfl)
theorem app_r {n : Nat} : oAppend (.ref n) [w] h = withL (lstAt h n) fun xs => if xs.length < 1000000 then .ok .non (h.set n (.lst (xs ++ [w]))) else .bad := by
  unfold oAppend withL
  dsimp only
  all_goals (cases lstAt h n <;> rfl)
theorem lst_z {xs : List W} {r : List O} : lstAt (.lst xs :: r) 0 = some xs := nrfl rfl
theorem lst_s {o : O} {r : List O} {n : Nat} : lstAt (o :: r) (n + 1) = lstAt r n := by unfold lstAt; rw [List.getElem?_cons_succ]
theorem lst_last {xs : List W} : lstAt (h ++ [.lst xs]) h.length = some xs := by unfold lstAt; rw [List.getElem?_append_right (Nat.le_refl _), Nat.sub_self]; rfl
theorem lst_old {n : Nat} {r : List O} (hl : n < h.length) : lstAt (h ++ r) n = lstAt h n := by unfold lstAt; rw [List.getElem?_append_left hl]
theorem lst_set {n : Nat} {xs : List W} (hl : n < h.length) : lstAt (h.set n (.lst xs)) n = some xs := by unfold lstAt; rw [List.getElem?_set_self hl]
theorem lst_ne {n m : Nat} {o : O} (hl : n ≠ m) : lstAt (h.set n o) m = lstAt h m := by unfold lstAt; rw [List.getElem?_set_ne hl]
theorem lst_lt {n : Nat} {xs : List W} (e : lstAt h n = some xs) : n < h.length := by
  rcases Nat.lt_or_ge n h.length with x | x
  · exact x
  · have e2 := lstAt_some e
    rw [List.getElem?_eq_none x] at e2; cases e2
theorem iadd_ii : oIadd (.int i) (.int j) h = .ok (.int (i + j)) h := nrfl rfl
theorem tuple_r {n : Nat} : oTuple [.ref n] h = withL (lstAt h n) fun xs => .ok (.tup xs) h := by
  unfold oTuple withL
  dsimp only [sqL]
  all_goals (cases lstAt h n <;> rfl)
theorem mul_ri {n : Nat} {k : Int} (h1 : -4611686018427387904 ≤ k) (h2 : k < 4611686018427387904) : oMul (.ref n) (.int k) h = withL (lstAt h n) fun a => if a.length * k.toNat ≤ 1000000 then .ok (.ref h.length) (h ++ [.lst (List.replicate k.toNat a).flatten]) else .bad := by
  unfold oMul withL
  dsimp only
  cases lstAt h n with
  | none => rfl
  | some a =>
    dsimp only
    by_cases hl : a.length * k.toNat ≤ 1000000
    · rw [if_pos hl, if_pos ⟨by omega, by omega, hl⟩]
    · rw [if_neg hl, if_neg (fun x => hl x.2.2)]
theorem sl_s {s : List Nat} {lo hi : Option Int} (hl : s.length ≤ 1000000) : oSl (.str s) lo hi h = .ok (.str (cutW s lo hi)) h := by unfold oSl; exact if_pos hl
theorem cut_from {α : Type} {xs : List α} {i : Int} (h0 : 0 ≤ i) : cutW xs (some i) none = xs.drop i.toNat := by
  unfold cutW HT.sIx
  dsimp only
  rw [if_neg (by omega)]
  by_cases hl : i.toNat ≤ xs.length
  · rw [Nat.min_eq_left hl, List.take_of_length_le (by simp)]
  · rw [Nat.min_eq_right (by omega), Nat.sub_self, List.take_zero, List.drop_eq_nil_of_le (by omega)]
theorem cut_to {α : Type} {xs : List α} {i : Int} (h0 : 0 ≤ i) : cutW xs none (some i) = xs.take i.toNat := by
  unfold cutW HT.sIx
  dsimp only
  rw [if_neg (by omega)]
  rw [List.drop_zero, Nat.sub_zero]
  by_cases hl : i.toNat ≤ xs.length
  · rw [Nat.min_eq_left hl]
  · rw [Nat.min_eq_right (by omega), List.take_of_length_le (Nat.le_refl _), List.take_of_length_le (by omega)]
theorem cut_mid {α : Type} {xs : List α} {i j : Int} (h0 : 0 ≤ i) (h1 : i ≤ j) (h2 : j ≤ xs.length) : cutW xs (some i) (some j) = (xs.drop i.toNat).take (j - i).toNat := by
  unfold cutW HT.sIx
  dsimp only
  rw [if_neg (by omega), if_neg (by omega), Nat.min_eq_left (by omega), Nat.min_eq_left (by omega)]
  congr 1
  omega
end
/-! ### statements -/
def SOut.seq (o : SOut) (b : Sm) : SOut := match o with
  | .nx e h => b e h
  | .rt w h => .rt w h
  | .bk e h => .bk e h
  | .ct e h => .ct e h
  | .exc c p e h => .exc c p e h
  | .bad => .bad
section
variable {s b : Sm} {e : Env} {h : List O} {m : M W} {t : M Bool} {ml : M (List W)} {w : W}
theorem ap_Seq : mSeq s b e h = (s e h).seq b := nrfl rfl
theorem nx_seq : (SOut.nx e h).seq b = b e h := nrfl rfl
theorem rt_seq : (SOut.rt w h).seq b = .rt w h := nrfl rfl
theorem ct_seq : (SOut.ct e h).seq b = .ct e h := nrfl rfl
theorem bk_seq : (SOut.bk e h).seq b = .bk e h := nrfl rfl
theorem exc_seq {c : Nat} {p : Option W} : (SOut.exc c p e h).seq b = .exc c p e h := nrfl rfl
theorem ap_Raise {c : Nat} : mRaise c e h = .exc c none e h := nrfl rfl
theorem ap_Skip : mSkip e h = .nx e h := nrfl rfl
theorem ap_Brk : mBrk e h = .bk e h := nrfl rfl
theorem ap_Cnt : mCnt e h = .ct e h := nrfl rfl
theorem ap_Drop : mDrop m e h = (m e h).stm e fun _ h => .nx e h := nrfl rfl
theorem ap_Ret : mRet m e h = (m e h).stm e fun w h => .rt w h := nrfl rfl
theorem ap_IfS : mIfS t s b e h = (t e h).stm e fun c h => if c = true then s e h else b e h := nrfl rfl
theorem ap_Set {i : Nat} : mSet i m e h = (m e h).stm e fun w h => .nx (e.set i (some w)) h := nrfl rfl
theorem ap_Ts {is : List Nat} : mTs is ml e h = (ml e h).stm e fun ws h => if is.length = ws.length then .nx ((is.zip ws).foldl (fun e p => e.set p.1 (some p.2)) e) h else .bad := nrfl rfl
theorem ap_AsgT {is : List Nat} : mAsg (tgT is) m e h = (m e h).stm e fun w h => match tgT is w e with
  | some e => .nx e h
  | none => .bad := nrfl rfl
theorem tgT_t {is : List Nat} {ws : List W} : tgT is (.tup ws) e = tgTs is ws e := nrfl rfl
theorem tgTs_n : tgTs [] [] e = some e := nrfl rfl
theorem tgTs_c {i : Nat} {is : List Nat} {ws : List W} : tgTs (i :: is) (w :: ws) e = tgTs is ws (e.set i (some w)) := nrfl rfl
theorem ap_Aug {i : Nat} {f : W → W → List O → Out W} : mAug i f m e h = (mVar i e h).stm e fun x _ => (m e h).stm e fun y h => (f x y h).stm e fun z h => .nx (e.set i (some z)) h := by
  unfold mAug mVar
  rcases hx : e[i]? with _ | (_ | x) <;> rfl
theorem ap_SetI {f : W → W → W → List O → Out Unit} {mo mi : M W} : mSetI f mo mi m e h = (m e h).stm e fun v h => (mo e h).stm e fun o h => (mi e h).stm e fun i h => (f o i v h).stm e fun _ h => .nx e h := nrfl rfl
theorem ap_AugI {g f : W → W → List O → Out W} {st : W → W → W → List O → Out Unit} {mo mi : M W} : mAugI g f st mo mi m e h = (mo e h).stm e fun o h => (mi e h).stm e fun i h => (g o i h).stm e fun x h =>
  (m e h).stm e fun y h => (f x y h).stm e fun z h => (st o i z h).stm e fun _ h => .nx e h := nrfl rfl
end
/-! ### reading on: what is asked of the rest -/
def Ev {α : Type} (o : Out α) (Q : α → List O → Prop) : Prop := match o with
  | .ok a h => Q a h
  | _ => False
def Sv (o : SOut) (Q : SOut → Prop) : Prop := Q o
section
variable {α β : Type} {o : Out α} {f : α → List O → Out β} {g : α → List O → SOut} {Q : β → List O → Prop} {R : SOut → Prop} {e : Env} {h : List O} {s : SOut} {b : Sm}
theorem ev_ok {x : α} {Q : α → List O → Prop} (q : Q x h) : Ev (.ok x h) Q := q
theorem ev_okE {x : α} {Q : α → List O → Prop} : Ev (.ok x h) Q = Q x h := nrfl rfl
theorem ev_bnd (p : Ev o fun a h => Ev (f a h) Q) : Ev (o.bnd f) Q := by
  cases o with
  | ok a h => exact p
  | exc c q h => exact p.elim
  | bad => exact p.elim
theorem sv_stm (p : Ev o fun a h => Sv (g a h) R) : Sv (o.stm e g) R := by
  cases o with
  | ok a h => exact p
  | exc c q h => exact p.elim
  | bad => exact p.elim
theorem sv_seq (p : Sv s fun o => Sv (o.seq b) R) : Sv (s.seq b) R := p
theorem ev_imp {Q Q' : α → List O → Prop} (p : Ev o Q) (i : ∀ a h, Q a h → Q' a h) : Ev o Q' := by
  cases o with
  | ok a h => exact i a h p
  | exc c q h => exact p.elim
  | bad => exact p.elim
theorem sv_cut {R' : SOut → Prop} (p : Sv s R') (i : ∀ o, R' o → Sv (o.seq b) R) : Sv (s.seq b) R := i _ p
theorem sv_imp {R R' : SOut → Prop} (p : Sv s R) (i : ∀ o, R o → R' o) : Sv s R' := i _ p
theorem ev_eq {x : α} {Q : α → List O → Prop} (hE : o = .ok x h) (q : Q x h) : Ev o Q := by rw [hE]; exact q
theorem ev_get {Q : α → List O → Prop} (p : Ev o Q) : ∃ a h, o = .ok a h ∧ Q a h := by
  cases o with
  | ok a h => exact ⟨a, h, rfl, p⟩
  | exc c q h => exact p.elim
  | bad => exact p.elim
end
section
variable {body : Sm} {e : Env} {h : List O} {R : SOut → Prop} {n : Nat} {src : Src} {t : Tg}
/-- what a round of a loop hands on -/
def rnd (I : Env → List O → Prop) (R : SOut → Prop) : SOut → Prop
  | .nx e h => I e h
  | .ct e h => I e h
  | .bk e h => R (.nx e h)
  | .rt w h => R (.rt w h)
  | .exc c p e h => R (.exc c p e h)
  | .bad => False
theorem forGo_sv (N : Nat) (I : Nat → Env → List O → Prop) (step : ∀ i e h, i < N → I i e h → ∃ w e1, src i h = some (some w) ∧ t w e = some e1 ∧ Sv (body e1 h) (rnd (I (i + 1)) R))
    (stop : ∀ e h, I N e h → src N h = some none ∧ R (.nx e h)) : ∀ (k i : Nat) (e : Env) (h : List O), N - i < k → i ≤ N → I i e h → Sv (forGo src t body k i e h) R
  | 0, i, e, h, hk, _, _ => by omega
  | k + 1, i, e, h, hk, hi, p => by
    by_cases hN : i = N
    · subst hN
      obtain ⟨h1, h2⟩ := stop e h p
      show R _
      unfold forGo
      rw [h1]
      exact h2
    · obtain ⟨w, e1, h1, h2, h3⟩ := step i e h (by omega) p
      have ih := forGo_sv N I step stop k (i + 1)
      show R _
      unfold forGo
      rw [h1]
      dsimp only
      rw [h2]
      dsimp only
      change rnd (I (i + 1)) R (body e1 h) at h3
      cases hb : body e1 h with
      | nx e2 h2 => rw [hb] at h3; exact ih e2 h2 (by omega) (by omega) h3
      | ct e2 h2 => rw [hb] at h3; exact ih e2 h2 (by omega) (by omega) h3
      | bk e2 h2 => rw [hb] at h3; exact h3
      | rt w h2 => rw [hb] at h3; exact h3
      | exc c p e2 h2 => rw [hb] at h3; exact h3
      | bad => rw [hb] at h3; exact h3.elim
theorem mFor_ap {it : M Src} : mFor n it t body e h = (it e h).stm e fun src h => forGo src t body n 0 e h := nrfl rfl
theorem ap_Rng1 {ml : M (List W)} : mRng1 ml e h = (ml e h).bnd fun ws h => match ws with
  | [.int j] => if -(2 ^ 62) ≤ j ∧ j < 2 ^ 62 then .ok (srcN 0 j.toNat) h else .bad
  | _ => .bad := nrfl rfl
theorem ap_Rng2 {ml : M (List W)} : mRng2 ml e h = (ml e h).bnd fun ws h => match ws with
  | [.int i, .int j] => if -(2 ^ 62) ≤ i ∧ i < 2 ^ 62 ∧ -(2 ^ 62) ≤ j ∧ j < 2 ^ 62 then .ok (srcN i (j - i).toNat) h else .bad
  | _ => .bad := nrfl rfl
theorem ap_Iter {m : M W} : mIter m e h = (m e h).bnd toSrc := nrfl rfl
theorem src_t {xs : List W} : toSrc (.tup xs) h = .ok (srcL xs) h := nrfl rfl
theorem src_s {xs : List Nat} : toSrc (.str xs) h = .ok (srcS xs) h := nrfl rfl
theorem src_r {m : Nat} {xs : List W} (hm : lstAt h m = some xs) : toSrc (.ref m) h = .ok (srcR m) h := by
  unfold toSrc
  dsimp only
  rw [hm]
theorem src_rL {m : Nat} : toSrc (.ref m) h = withL (lstAt h m) fun _ => .ok (srcR m) h := by
  unfold toSrc withL
  dsimp only
  all_goals (cases lstAt h m <;> rfl)
theorem rng1_ok {j : Int} (h1 : -4611686018427387904 ≤ j) (h2 : j < 4611686018427387904) : (if -(2 ^ 62) ≤ j ∧ j < 2 ^ 62 then Out.ok (srcN 0 j.toNat) h else .bad) = .ok (srcN 0 j.toNat) h := if_pos ⟨by omega, by omega⟩
theorem rng2_ok {i j : Int} (h0 : -4611686018427387904 ≤ i ∧ i < 4611686018427387904) (h1 : -4611686018427387904 ≤ j) (h2 : j < 4611686018427387904) : (if -(2 ^ 62) ≤ i ∧ i < 2 ^ 62 ∧ -(2 ^ 62) ≤ j ∧ j < 2 ^ 62 then Out.ok (srcN i (j - i).toNat) h else .bad) = .ok (srcN i (j - i).toNat) h := if_pos ⟨by omega, by omega, by omega, by omega⟩
theorem forGo_rng (N : Nat) (lo : Int) (v : Nat) (I : Nat → Env → List O → Prop) (hn : N < n) (h0 : I 0 e h) (step : ∀ i e h, i < N → I i e h → Sv (body (e.set v (some (.int (lo + i)))) h) (rnd (I (i + 1)) R))
    (stop : ∀ e h, I N e h → R (.nx e h)) : Sv (forGo (srcN lo N) (tgN v) body n 0 e h) R :=
  forGo_sv N I (fun i e h hi p => ⟨_, _, by unfold srcN; exact if_pos hi, rfl, step i e h hi p⟩) (fun e h p => ⟨by unfold srcN; exact if_neg (by omega), stop e h p⟩) n 0 e h (by omega) (by omega) h0
theorem forGo_tup (xs : List W) (v : Nat) (I : Nat → Env → List O → Prop) (hn : xs.length < n) (h0 : I 0 e h) (step : ∀ i e h (hi : i < xs.length), I i e h → Sv (body (e.set v (some xs[i])) h) (rnd (I (i + 1)) R))
    (stop : ∀ e h, I xs.length e h → R (.nx e h)) : Sv (forGo (srcL xs) (tgN v) body n 0 e h) R :=
  forGo_sv xs.length I (fun i e h hi p => ⟨_, _, by unfold srcL; rw [List.getElem?_eq_getElem hi], rfl, step i e h hi p⟩) (fun e h p => ⟨by unfold srcL; rw [List.getElem?_eq_none (by omega)], stop e h p⟩) n 0 e h (by omega) (by omega) h0
/-- over a list on the heap that stays -/
theorem forGo_ref (m : Nat) (xs : List W) (v : Nat) (I : Nat → Env → List O → Prop) (hn : xs.length < n) (h0 : I 0 e h) (keep : ∀ i e h, I i e h → lstAt h m = some xs) (step : ∀ i e h (hi : i < xs.length), I i e h → Sv (body (e.set v (some xs[i])) h) (rnd (I (i + 1)) R))
    (stop : ∀ e h, I xs.length e h → R (.nx e h)) : Sv (forGo (srcR m) (tgN v) body n 0 e h) R :=
  forGo_sv xs.length I (fun i e h hi p => ⟨_, _, by unfold srcR; rw [keep i e h p]; show some xs[i]? = _; rw [List.getElem?_eq_getElem hi], rfl, step i e h hi p⟩)
    (fun e h p => ⟨by unfold srcR; rw [keep _ e h p]; show some xs[xs.length]? = _; rw [List.getElem?_eq_none (by omega)], stop e h p⟩) n 0 e h (by omega) (by omega) h0
theorem while_sv {c : M Bool} (I : Nat → Env → List O → Prop) (step : ∀ m e h, I m e h → Ev (c e h) fun b h1 => if b = true then Sv (body e h1) (rnd (fun e2 h2 => ∃ m2, m2 < m ∧ I m2 e2 h2) R) else R (.nx e h1)) :
    ∀ (k m : Nat) (e : Env) (h : List O), m < k → I m e h → Sv (whileGo c body k e h) R
  | 0, m, e, h, hk, _ => by omega
  | k + 1, m, e, h, hk, p => by
    obtain ⟨b, h1, hc, p1⟩ := ev_get (step m e h p)
    show R _
    unfold whileGo
    rw [hc]
    show R (if b = true then _ else _)
    cases b with
    | false => exact p1
    | true =>
      rw [if_pos rfl] at p1 ⊢
      change rnd _ R (body e h1) at p1
      cases hb : body e h1 with
      | nx e2 h2 => rw [hb] at p1; obtain ⟨m2, hm, q⟩ := p1; exact while_sv I step k m2 e2 h2 (by omega) q
      | ct e2 h2 => rw [hb] at p1; obtain ⟨m2, hm, q⟩ := p1; exact while_sv I step k m2 e2 h2 (by omega) q
      | bk e2 h2 => rw [hb] at p1; exact p1
      | rt w h2 => rw [hb] at p1; exact p1
      | exc c p e2 h2 => rw [hb] at p1; exact p1
      | bad => rw [hb] at p1; exact p1.elim
theorem mWhile_sv {c : M Bool} (m : Nat) (I : Nat → Env → List O → Prop) (hm : m < n) (h0 : I m e h) (step : ∀ m e h, I m e h → Ev (c e h) fun b h1 => if b = true then Sv (body e h1) (rnd (fun e2 h2 => ∃ m2, m2 < m ∧ I m2 e2 h2) R) else R (.nx e h1)) :
    Sv (mWhile n c body e h) R := while_sv I step n m e h hm h0
end
/-! ### lists made in place -/
section
variable {e e0 : Env} {h : List O} {n D : Nat} {src : Src} {t : Tg} {cond : M Bool} {elt : M W} {Q : W → List O → Prop} {own : List Nat} {it : M Src}
theorem ap_Comp : mComp n own it t cond elt e h = (it e h).bnd fun src h => compGo src t cond elt h.length (wipeE e own) n 0 (h ++ [.lst []]) := nrfl rfl
theorem compGo_ev (N : Nat) (hN : N ≤ 1000000) (I : Nat → List W → List O → Prop)
    (step : ∀ i acc h, i < N → acc.length ≤ i → h[D]? = some (.lst acc) → I i acc h → ∃ w e1, src i h = some (some w) ∧ t w e0 = some e1 ∧
      Ev (cond e1 h) fun b h2 => if b = true then Ev (elt e1 h2) fun y h3 => h3[D]? = some (.lst acc) ∧ I (i + 1) (acc ++ [y]) (h3.set D (.lst (acc ++ [y]))) else h2[D]? = some (.lst acc) ∧ I (i + 1) acc h2)
    (stop : ∀ acc h, h[D]? = some (.lst acc) → I N acc h → src N h = some none ∧ Q (.ref D) h) :
    ∀ (k i : Nat) (acc : List W) (h : List O), N - i < k → i ≤ N → acc.length ≤ i → h[D]? = some (.lst acc) → I i acc h → Ev (compGo src t cond elt D e0 k i h) Q
  | 0, i, acc, h, hk, _, _, _, _ => by omega
  | k + 1, i, acc, h, hk, hi, ha, hD, p => by
    by_cases hN' : i = N
    · subst hN'
      obtain ⟨h1, h2⟩ := stop acc h hD p
      unfold compGo
      rw [h1]
      exact h2
    · obtain ⟨w, e1, h1, h2, h3⟩ := step i acc h (by omega) ha hD p
      obtain ⟨b, hc, hb, h3⟩ := ev_get h3
      unfold compGo
      rw [h1]
      dsimp only
      rw [h2]
      dsimp only
      rw [hb]
      dsimp only
      cases b with
      | false =>
        rw [if_neg (by decide)] at h3 ⊢
        exact compGo_ev N hN I step stop k (i + 1) acc hc (by omega) (by omega) (by omega) h3.1 h3.2
      | true =>
        rw [if_pos rfl] at h3 ⊢
        obtain ⟨y, hy, e2, h4, h5⟩ := ev_get h3
        rw [e2]
        dsimp only [lstAt]
        rw [h4]
        dsimp only
        rw [if_pos (by show acc.length < 1000000; omega)]
        have hl : D < hy.length := by
          rcases Nat.lt_or_ge D hy.length with x | x
          · exact x
          · rw [List.getElem?_eq_none x] at h4; cases h4
        exact compGo_ev N hN I step stop k (i + 1) (acc ++ [y]) _ (by omega) (by omega) (by simp; omega) (by rw [List.getElem?_set_self hl]) h5
/-- h' is h and some more -/
def Gr (h h' : List O) : Prop := ∃ j, h' = h ++ j
theorem Gr.refl : Gr h h := ⟨[], by simp⟩
theorem Gr.trans {h1 h2 h3 : List O} (a : Gr h1 h2) (b : Gr h2 h3) : Gr h1 h3 := by
  obtain ⟨j, rfl⟩ := a
  obtain ⟨k, rfl⟩ := b
  exact ⟨j ++ k, by simp⟩
theorem Gr.app {h1 h2 : List O} : Gr h1 (h1 ++ h2) := ⟨_, rfl⟩
theorem Gr.get {h1 h2 : List O} {n : Nat} {o : O} (g : Gr h1 h2) (e : h1[n]? = some o) : h2[n]? = some o := by
  obtain ⟨j, rfl⟩ := g
  have hl : n < h1.length := by
    rcases Nat.lt_or_ge n h1.length with x | x
    · exact x
    · rw [List.getElem?_eq_none x] at e; cases e
  rw [List.getElem?_append_left hl]
  exact e
theorem Gr.lst {h1 h2 : List O} {n : Nat} {xs : List W} (g : Gr h1 h2) (e : lstAt h1 n = some xs) : lstAt h2 n = some xs := by
  unfold lstAt
  rw [g.get (lstAt_some e)]
theorem Gr.lastL {h1 h2 : List O} {xs : List W} (g : Gr (h1 ++ [.lst xs]) h2) : lstAt h2 h1.length = some xs := g.lst lst_last
theorem Gr.last {h1 h2 : List O} {o : O} (g : Gr (h1 ++ [o]) h2) : h2[h1.length]? = some o := g.get (by simp)
theorem Gr.left {h1 h2 h3 : List O} (g : Gr (h1 ++ h2) h3) : Gr h1 h3 := Gr.app.trans g
/-- a part that leaves the heap as it is, but for new things -/
def Pu {α : Type} (h0 : List O) (o : List O → Out α) (w : α) : Prop := ∀ h, Gr h0 h → Ev (o h) fun x h' => x = w ∧ Gr h h'
/-- the list of what the wanted ones give -/
def picks (N : Nat) (c : Nat → Bool) (f : Nat → W) : List W := ((List.range N).filter c).map f
theorem picks_succ {N : Nat} {c : Nat → Bool} {f : Nat → W} : picks (N + 1) c f = if c N = true then picks N c f ++ [f N] else picks N c f := by
  unfold picks
  rw [List.range_succ, List.filter_append]
  by_cases hc : c N = true
  · rw [if_pos hc]; simp [hc]
  · rw [if_neg hc]; simp [hc]
theorem picks_len {N : Nat} {c : Nat → Bool} {f : Nat → W} : (picks N c f).length ≤ N := by
  unfold picks
  rw [List.length_map]
  exact Nat.le_trans (List.length_filter_le _ _) (by simp)
theorem comp_pure (N : Nat) (hN : N ≤ 1000000) (hn : N < n) (c : Nat → Bool) (f : Nat → W) (v : Nat → W) (e1 : Nat → Env) (hs : ∀ i, i < N → ∀ h', Gr h h' → src i h' = some (some (v i))) (hs2 : ∀ h', Gr h h' → src N h' = some none) (ht : ∀ i, i < N → t (v i) e0 = some (e1 i))
    (hc : ∀ i, i < N → Pu h (cond (e1 i)) (c i)) (he : ∀ i, i < N → c i = true → Pu h (elt (e1 i)) (f i))
    (q : ∀ h', Gr (h ++ [.lst (picks N c f)]) h' → Q (.ref h.length) h') : Ev (compGo src t cond elt h.length e0 n 0 (h ++ [.lst []])) Q := by
  refine compGo_ev N hN (fun i acc h' => acc = picks i c f ∧ Gr (h ++ [.lst acc]) h') (fun i acc h' hi ha hD p => ?_) (fun acc h' hD p => ?_) n 0 [] _ (by omega) (by omega) (by simp) (by simp) ⟨rfl, Gr.refl⟩
  · obtain ⟨pa, pg⟩ := p
    refine ⟨_, _, hs i hi h' pg.left, ht i hi, ev_imp (hc i hi h' pg.left) fun b h2 ⟨hb, g2⟩ => ?_⟩
    subst hb
    by_cases hci : c i = true
    · rw [if_pos hci]
      refine ev_imp (he i hi hci h2 (pg.left.trans g2)) fun y h3 ⟨hy, g3⟩ => ?_
      subst hy
      have g : Gr (h ++ [.lst acc]) h3 := pg.trans (g2.trans g3)
      refine ⟨g.last, by rw [picks_succ, if_pos hci, pa], ?_⟩
      obtain ⟨j, rfl⟩ := g
      refine ⟨j, ?_⟩
      rw [List.append_assoc, List.set_append_right _ _ (Nat.le_refl _), Nat.sub_self]
      simp
    · rw [if_neg hci]
      have g : Gr (h ++ [.lst acc]) h2 := pg.trans g2
      exact ⟨g.last, by rw [picks_succ, if_neg hci, pa], g⟩
  · obtain ⟨pa, pg⟩ := p
    subst pa
    exact ⟨hs2 h' pg.left, q h' pg⟩
theorem comp_rng (N : Nat) (lo : Int) (v : Nat) (hN : N ≤ 1000000) (hn : N < n) (c : Nat → Bool) (f : Nat → W)
    (hc : ∀ i, i < N → Pu h (cond (e0.set v (some (.int (lo + i))))) (c i)) (he : ∀ i, i < N → c i = true → Pu h (elt (e0.set v (some (.int (lo + i))))) (f i))
    (q : ∀ h', Gr (h ++ [.lst (picks N c f)]) h' → Q (.ref h.length) h') : Ev (compGo (srcN lo N) (tgN v) cond elt h.length e0 n 0 (h ++ [.lst []])) Q :=
  comp_pure N hN hn c f (fun i => .int (lo + i)) (fun i => e0.set v (some (.int (lo + i)))) (fun i hi h' _ => by unfold srcN; exact if_pos hi) (fun h' _ => by unfold srcN; exact if_neg (by omega)) (fun i hi => rfl) hc he q
theorem wipe_n : wipeE e [] = e := nrfl rfl
theorem wipe_c {v : Nat} {vs : List Nat} : wipeE e (v :: vs) = (wipeE e vs).set v none := nrfl rfl
end
/-! ### calls -/
theorem pure_ok {den : List W → List O → Out W} {ar : Nat} {ws : List W} {h : List O} {w : W} (hl : ws.length = ar) (hp : pureWs ws = true) (hw : pureW w = true) (hd : Ev (den ws []) fun x _ => x = w) : pureRun den ar ws h = .ok w h := by
  obtain ⟨x, h', e, rfl⟩ := ev_get hd
  unfold pureRun
  rw [if_pos ⟨hl, hp⟩, e]
  dsimp only
  rw [if_pos hw]
theorem fun_ev {n : Nat} {m : Sm} {ws : List W} {h : List O} {Q : W → List O → Prop} (p : Sv (m (startE n ws) h) fun o => match o with
  | .nx _ h' => Q .non h'
  | .rt w h' => Q w h'
  | _ => False) : Ev (mFun n m ws h) Q := by
  unfold mFun
  change (match m (startE n ws) h with | .nx _ h' => Q .non h' | .rt w h' => Q w h' | _ => False) at p
  cases hm : m (startE n ws) h with
  | nx e h' => rw [hm] at p; exact p
  | rt w h' => rw [hm] at p; exact p
  | bk e h' => rw [hm] at p; exact p.elim
  | ct e h' => rw [hm] at p; exact p.elim
  | exc c q e h' => rw [hm] at p; exact p.elim
  | bad => rw [hm] at p; exact p.elim

/-! ### equality -/
section
variable {h : List O}
theorem dat_ints {k : Nat} : ∀ l : List Int, mapO (dat h (k + 1)) (l.map W.int) = some (l.map PyData.int)
  | [] => rfl
  | i :: l => by
    rw [List.map_cons]
    unfold mapO
    rw [dat_ints l]
    rfl
theorem dat_strs {k : Nat} : ∀ l : List (List Nat), (∀ s ∈ l, strFit s = true) → mapO (dat h (k + 1)) (l.map W.str) = some (l.map fun s => PyData.str ⟨s.toArray⟩)
  | [], _ => rfl
  | s :: l, hf => by
    rw [List.map_cons]
    unfold mapO
    rw [dat_strs l fun s hs => hf s (List.mem_cons_of_mem _ hs)]
    unfold dat
    rw [if_pos (hf s List.mem_cons_self)]
    rfl
theorem eqvAll_ints : ∀ l l' : List Int, PyData.eqvAll (l.map PyData.int) (l'.map PyData.int) = decide (l = l')
  | [], [] => rfl
  | [], _ :: _ => by simp [PyData.eqvAll]
  | _ :: _, [] => by simp [PyData.eqvAll]
  | i :: l, j :: l' => by
    rw [List.map_cons, List.map_cons]
    unfold PyData.eqvAll
    rw [eqvAll_ints l l']
    by_cases h1 : i = j <;> by_cases h2 : l = l' <;> simp [PyData.eqv, h1, h2]
theorem eqW_ll {n m : Nat} {xs ys : List W} {ds es : List PyData} (hn : lstAt h n = some xs) (hm : lstAt h m = some ys) (hx : mapO (dat h 7) xs = some ds) (hy : mapO (dat h 7) ys = some es) : eqW h (.ref n) (.ref m) = some (PyData.eqvAll ds es) := by
  have e1 : dat h 8 (.ref n) = some (.list ds) := by unfold dat; rw [hn]; show (mapO (dat h 7) xs).map _ = _; rw [hx]; rfl
  have e2 : dat h 8 (.ref m) = some (.list es) := by unfold dat; rw [hm]; show (mapO (dat h 7) ys).map _ = _; rw [hy]; rfl
  unfold eqW
  dsimp only
  rw [e1, e2]
  dsimp only
  rw [show PyData.eqv (.list ds) (.list es) = PyData.eqvAll ds es by unfold PyData.eqv; rfl]
theorem eqW_tt {xs ys : List W} {ds es : List PyData} (hx : mapO (dat h 7) xs = some ds) (hy : mapO (dat h 7) ys = some es) : eqW h (.tup xs) (.tup ys) = some (PyData.eqvAll ds es) := by
  have e1 : dat h 8 (.tup xs) = some (.tuple ds) := by unfold dat; rw [hx]; rfl
  have e2 : dat h 8 (.tup ys) = some (.tuple es) := by unfold dat; rw [hy]; rfl
  unfold eqW
  dsimp only
  rw [e1, e2]
  dsimp only
  rw [show PyData.eqv (.tuple ds) (.tuple es) = PyData.eqvAll ds es by unfold PyData.eqv; rfl]
theorem eqW_ints {n m : Nat} {l l' : List Int} (hn : lstAt h n = some (l.map .int)) (hm : lstAt h m = some (l'.map .int)) : eqW h (.ref n) (.ref m) = some (decide (l = l')) := by
  rw [eqW_ll hn hm (dat_ints l) (dat_ints l'), eqvAll_ints]
theorem eq_ints {n m : Nat} {l l' : List Int} (hn : lstAt h n = some (l.map .int)) (hm : lstAt h m = some (l'.map .int)) : oEq (.ref n) (.ref m) h = .ok (.bl (decide (l = l'))) h := by unfold oEq; rw [eqW_ints hn hm]
theorem ne_ints {n m : Nat} {l l' : List Int} (hn : lstAt h n = some (l.map .int)) (hm : lstAt h m = some (l'.map .int)) : oNe (.ref n) (.ref m) h = .ok (.bl (decide (l ≠ l'))) h := by unfold oNe; rw [eqW_ints hn hm]; simp
theorem sl_rol {xs : List W} {lo hi : Option Int} : oSl (.rol xs) lo hi h = .ok (.ref h.length) (h ++ [.lst (cutW xs lo hi)]) := nrfl rfl
theorem sl_t {xs : List W} {lo hi : Option Int} : oSl (.tup xs) lo hi h = .ok (.tup (cutW xs lo hi)) h := nrfl rfl
theorem sl_r {n : Nat} {lo hi : Option Int} : oSl (.ref n) lo hi h = withL (lstAt h n) fun xs => .ok (.ref h.length) (h ++ [.lst (cutW xs lo hi)]) := by
  unfold oSl withL
  dsimp only [sqL]
  all_goals (cases lstAt h n <;> rfl)
end
/-! the order of texts -/
theorem lex_of : ∀ (k : Nat) (a b : List Nat), k < a.length → k < b.length → (∀ t, t < k → a.getD t 0 = b.getD t 0) → a.getD k 0 < b.getD k 0 → a < b
  | 0, x :: a, y :: b, _, _, _, h => List.cons_lt_cons_iff.2 (.inl h)
  | k + 1, x :: a, y :: b, h1, h2, he, h => by
    refine List.cons_lt_cons_iff.2 (.inr ⟨he 0 (by omega), lex_of k a b (by simpa using h1) (by simpa using h2) (fun t ht => he (t + 1) (by omega)) h⟩)
  | _, [], _, h1, _, _, _ => by simp at h1
  | _, _ :: _, [], _, h2, _, _ => by simp at h2
theorem sing_lt {a b : Nat} : ([a] < [b]) = (a < b) := by
  apply propext
  constructor
  · intro h
    rcases List.cons_lt_cons_iff.1 h with h | h
    · exact h
    · exact absurd h.2 (List.lt_irrefl _)
  · intro h
    exact List.cons_lt_cons_iff.2 (.inl h)
theorem sing_eq {a b : Nat} : ([a] = [b]) = (a = b) := by simp
theorem ty_r {n : Nat} {h : List O} : tyW "list" (.ref n) h = (lstAt h n).isSome := by
  unfold tyW lstAt
  cases hx : h[n]? with
  | none => simp [hx]
  | some o => cases o <;> simp [hx]
theorem ty_s {s : List Nat} {h : List O} : tyW "str" (.str s) h = true := nrfl rfl
theorem isS {α : Type} {x : α} : (some x).isSome = true := nrfl rfl
/-! lists of numbers -/
theorem getD_set_eq {α : Type} {l : List α} {i : Nat} {v d : α} (h : i < l.length) : (l.set i v).getD i d = v := by
  rw [List.getD_eq_getElem?_getD, List.getElem?_set_self h]; rfl
theorem set_getD {α : Type} {l : List α} {i : Nat} {d : α} (h : i < l.length) : l.set i (l.getD i d) = l := by
  rw [List.getD_eq_getElem?_getD, List.getElem?_eq_getElem h]
  exact List.set_getElem_self h
theorem getD_set_ne {α : Type} {l : List α} {i k : Nat} {v d : α} (h : i ≠ k) : (l.set i v).getD k d = l.getD k d := by
  rw [List.getD_eq_getElem?_getD, List.getElem?_set_ne h, List.getD_eq_getElem?_getD]
section
variable {h : List O} {i : Int} {n : Nat}
def nI (r : Nat) : W := .int r
theorem nI_def {r : Nat} : nI r = .int r := nrfl rfl
theorem ixL_n {rs : List Nat} (h0 : 0 ≤ i) (h1 : i < rs.length) : ixL (rs.map nI) i h = .ok (.int (rs.getD i.toNat 0)) h := by
  rw [ixL_ok h0 (by rw [List.length_map]; exact h1), List.getD_eq_getElem?_getD, List.getElem?_map, List.getElem?_eq_getElem (by omega), List.getD_eq_getElem?_getD, List.getElem?_eq_getElem (by omega)]
  rfl
theorem ixL_i {rs : List Int} (h0 : 0 ≤ i) (h1 : i < rs.length) : ixL (rs.map .int) i h = .ok (.int (rs.getD i.toNat 0)) h := by
  rw [ixL_ok h0 (by rw [List.length_map]; exact h1), List.getD_eq_getElem?_getD, List.getElem?_map, List.getElem?_eq_getElem (by omega), List.getD_eq_getElem?_getD, List.getElem?_eq_getElem (by omega)]
  rfl
theorem ixL_st {rs : List (List Nat)} (h0 : 0 ≤ i) (h1 : i < rs.length) : ixL (rs.map .str) i h = .ok (.str (rs.getD i.toNat [])) h := by
  rw [ixL_ok h0 (by rw [List.length_map]; exact h1), List.getD_eq_getElem?_getD, List.getElem?_map, List.getElem?_eq_getElem (by omega), List.getD_eq_getElem?_getD, List.getElem?_eq_getElem (by omega)]
  rfl
theorem setL_n {rs : List Nat} {v : Nat} (h0 : 0 ≤ i) (h1 : i < rs.length) : setL n (rs.map nI) i (.int v) h = .ok () (h.set n (.lst ((rs.set i.toNat v).map nI))) := by
  rw [setL_ok h0 (by rw [List.length_map]; exact h1), List.map_set, nI_def]
theorem setL_i {rs : List Int} {v : Int} (h0 : 0 ≤ i) (h1 : i < rs.length) : setL n (rs.map .int) i (.int v) h = .ok () (h.set n (.lst ((rs.set i.toNat v).map .int))) := by
  rw [setL_ok h0 (by rw [List.length_map]; exact h1), List.map_set]
theorem pure_all {den : List W → List O → Out W} {ar : Nat} {ws : List W} {P : W → Prop} (hl : ws.length = ar) (hp : pureWs ws = true) (hd : Ev (den ws []) fun x _ => pureW x = true ∧ P x) : ∃ w, P w ∧ ∀ h, pureRun den ar ws h = .ok w h := by
  obtain ⟨x, h', e, h1, h2⟩ := ev_get hd
  refine ⟨x, h2, fun h => ?_⟩
  unfold pureRun
  rw [if_pos ⟨hl, hp⟩, e]
  dsimp only
  rw [if_pos h1]
theorem pure_ints : ∀ l : List Int, pureWs (l.map .int) = true
  | [] => rfl
  | i :: l => by rw [List.map_cons]; unfold pureWs; rw [pure_ints l]; rfl
theorem pure_nats : ∀ l : List Nat, pureWs (l.map nI) = true
  | [] => rfl
  | i :: l => by rw [List.map_cons]; unfold pureWs; rw [pure_nats l]; rfl
theorem pure_strs : ∀ l : List (List Nat), pureWs (l.map .str) = true
  | [] => rfl
  | i :: l => by rw [List.map_cons]; unfold pureWs; rw [pure_strs l]; rfl
end
end Den
set_option maxRecDepth 100000
/-! The dice. -/
namespace Den
open PySem L2
def bodyDice : Sm := mSeq (mIfS (mB (mChain oLt oLt (mOp oSub (mC (.int 0)) (mC (.int 10))) (mVar 0) (mC (.int 10)))) (mRet (mLst (mCons (mCB oAbs (mCons (mVar 0) (mNil))) (mCons (mC (.int 0)) (mCons (mC (.int 2)) (mNil)))))) (mSkip)) (mRet (mLst (mCons (mVar 0) (mCons (mOp oAdd (mC (.int 1)) (mOp oMod (mCB oInt (mCons (mVar 0) (mNil))) (mC (.int 1009)))) (mCons (mCB oInt (mCons (mOp oGe (mVar 0) (mOp oPow (mC (.int 10)) (mC (.int 18)))) (mNil))) (mNil))))))
def bodyRoll : Sm := mSeq (mIfS (mOr (mB (mOp oEq (mOp oIx (mVar 0) (mC (.int 2))) (mC (.int 2)))) (mAnd (mB (mOp oEq (mOp oIx (mVar 0) (mC (.int 2))) (mC (.int 1)))) (mB (mOp oGt (mOp oIx (mVar 0) (mC (.int 0))) (mC (.int 0)))))) (mSeq (mSet 2 (mOp oMod (mCB oInt (mCons (mOp oIx (mVar 0) (mC (.int 0))) (mNil))) (mVar 1))) (mSeq (mSetI oSet (mVar 0) (mC (.int 0)) (mOp oFdiv (mOp oIx (mVar 0) (mC (.int 0))) (mVar 1))) (mRet (mVar 2)))) (mSkip)) (mSeq (mSetI oSet (mVar 0) (mC (.int 2)) (mC (.int 0))) (mSeq (mSetI oSet (mVar 0) (mC (.int 0)) (mOp oMod (mCB oInt (mCons (mOp oAdd (mOp oAdd (mOp oMul (mOp oIx (mVar 0) (mC (.int 0))) (mC (.int 48271))) (mOp oMul (mOp oIx (mVar 0) (mC (.int 1))) (mC (.int 69621)))) (mC (.int 11))) (mNil))) (mC (.int 2147483647)))) (mSeq (mSetI oSet (mVar 0) (mC (.int 1)) (mOp oAdd (mOp oIx (mVar 0) (mC (.int 1))) (mC (.int 1)))) (mRet (mOp oMod (mCB oInt (mCons (mOp oAdd (mOp oFdiv (mOp oIx (mVar 0) (mC (.int 0))) (mC (.int 7))) (mOp oIx (mVar 0) (mC (.int 0)))) (mNil))) (mVar 1))))))
/-- a line for the size of a script's number -/
@[irreducible] def AB : Nat := 2 ^ 1048577

theorem AB_ge : 2147483648 ≤ AB := by
  unfold AB
  exact Nat.le_trans (by decide : 2147483648 ≤ 2 ^ 31) (Nat.pow_le_pow_right (by decide) (by decide))
theorem AB_lt : AB < 2 ^ 50000000 := by
  unfold AB
  exact Nat.pow_lt_pow_right (by decide) (by decide)
theorem bits_AB {z : Int} (h : Builtin.Int.intBits z ≤ 1048576) : z.natAbs < AB := by
  unfold Builtin.Int.intBits at h
  unfold AB
  split at h
  · rename_i e
    have e2 : z = 0 := by simpa using e
    rw [e2]
    exact Nat.pow_pos (by decide)
  · rename_i e
    have h1 : z.natAbs.log2 < 1048577 := by omega
    have e2 : z.natAbs ≠ 0 := fun x => e (by simpa using Int.natAbs_eq_zero.1 x)
    exact (Nat.log2_lt e2).1 h1
/-- three numbers of a die that has been rolled N times -/
structure DG (N : Nat) (a b : Int) : Prop where
  a : a.natAbs < AB
  b0 : 0 ≤ b
  b1 : b ≤ 2000 + N
theorem mul_AB {i j : Int} {h : List O} (h1 : i.natAbs < AB) (h2 : -4611686018427387904 < j ∧ j < 4611686018427387904) : oMul (.int i) (.int j) h = .ok (.int (i * j)) h := by
  unfold oMul
  exact if_pos (mulOk_of (Nat.lt_trans h1 AB_lt) (small_pow (by omega) (by decide)))
theorem dice_ev {z : Int} {h : List O} (hz : z.natAbs < AB) : ∃ a b c : Int, DG 0 a b ∧ mFun 1 bodyDice [.int z] h = .ok (.ref h.length) (h ++ [.lst [.int a, .int b, .int c]]) := by
  have hAB := AB_ge
  have e2 : oPow (.int 10) (.int 18) h = .ok (.int (10 ^ 18)) h := by unfold oPow; exact if_pos (by decide)
  by_cases e1 : -10 < z
  · by_cases e3 : z < 10
    · refine ⟨if z < 0 then -z else z, 0, 2, ⟨by split <;> omega, by omega, by omega⟩, ?_⟩
      unfold mFun bodyDice startE
      simp [e1, e2, e3, ap_asB, ok_bnd, ok_stm, ap_Ret, ap_Lst, ap_Cons, ap_Nil, ap_CB, mVar_z, ap_C, abs_i, rt_seq, ap_Seq, ap_IfS, ap_B, ap_Chain, ap_Op, lt_ii, sub_ii, ap_Skip, nx_seq, add_ii, mod_ii, int_i, ge_ii, int_b]
    · refine ⟨z, 1 + z % 1009, if 10 ^ 18 ≤ z then 1 else 0, ⟨hz, by omega, by omega⟩, ?_⟩
      unfold mFun bodyDice startE
      simp [e1, e2, e3, ap_asB, ok_bnd, ok_stm, ap_Ret, ap_Lst, ap_Cons, ap_Nil, ap_CB, mVar_z, ap_C, abs_i, rt_seq, ap_Seq, ap_IfS, ap_B, ap_Chain, ap_Op, lt_ii, sub_ii, ap_Skip, nx_seq, add_ii, mod_ii, int_i, ge_ii, int_b]
  · refine ⟨z, 1 + z % 1009, if 10 ^ 18 ≤ z then 1 else 0, ⟨hz, by omega, by omega⟩, ?_⟩
    unfold mFun bodyDice startE
    simp [e1, e2, ap_asB, ok_bnd, ok_stm, ap_Ret, ap_Lst, ap_Cons, ap_Nil, ap_CB, mVar_z, ap_C, abs_i, rt_seq, ap_Seq, ap_IfS, ap_B, ap_Chain, ap_Op, lt_ii, sub_ii, ap_Skip, nx_seq, add_ii, mod_ii, int_i, ge_ii, int_b]
theorem div_le_AB {a m : Int} (ha : a.natAbs < AB) (hm : 0 < m) : (a / m).natAbs < AB := by
  have h1 : (a / m).natAbs ≤ a.natAbs := Int.natAbs_ediv_le_natAbs a m
  omega
theorem roll_ev {h : List O} {p N : Nat} {a b c many : Int} (hp : lstAt h p = some [.int a, .int b, .int c]) (g : DG N a b) (hm : 0 < many) (hM : many < 4611686018427387904) (hN : N < 1000000000000) :
    ∃ r a' b' c' : Int, mFun 3 bodyRoll [.ref p, .int many] h = .ok (.int r) (h.set p (.lst [.int a', .int b', .int c'])) ∧ 0 ≤ r ∧ r < many ∧ DG (N + 1) a' b' := by
  have hAB := AB_ge
  have hl := lst_lt hp
  have ha := g.a
  have hb0 := g.b0
  have hb1 := g.b1
  have hr : ∀ x : Int, 0 ≤ x % many ∧ x % many < many := fun x => ⟨Int.emod_nonneg _ (by omega), Int.emod_lt_of_pos _ hm⟩
  by_cases hc : c = 2 ∨ (c = 1 ∧ 0 < a)
  · refine ⟨a % many, a / many, b, c, ?_, (hr a).1, (hr a).2, ⟨div_le_AB ha hm, hb0, by omega⟩⟩
    unfold mFun bodyRoll startE
    by_cases h2 : c = 2
    · subst h2
      simp (disch := first | omega | (simp only [List.length_append, List.length_cons, List.length_nil, List.length_set, List.length_drop, List.length_take, List.length_map]; omega)) only [mVar_z, Nat.reduceAdd, Nat.zero_add, Int.zero_add, Int.reduceAdd, Int.reduceSub, Int.reduceNeg, ap_Lst, ap_Tup, nil_app, cons_app, List.length_append, lst_last, mVar_s, ok_bnd, ok_stm, exc_bnd, ev_okE, exc_stm, ap_C, ap_Op, ap_Un, ap_B, ap_Chain, ap_asB, ap_And, ap_Or, ap_Not, ap_AndV, ap_OrV, ap_NotV, ap_If, ap_Nil, ap_Cons, ap_CB, ap_Meth, ap_Part, ap_NoPart, ap_Sl, ap_Yes, add_ii, add_ss, sub_ii, neg_i, mul_ii, fdiv_ii, mod_ii, eq_ii, ne_ii, eq_ss, ne_ss, lt_ii, le_ii, gt_ii, ge_ii, lt_ss, gt_ss, le_ss, ge_ss, len_s, len_t, abs_i, int_i, int_b, max_ii, min_ii, ix_s, ixL_0, ixL_1, ixL_2, ixL_3, ixL_n, ixL_i, ixL_st, setL_n, setL_i, List.length_map, List.length_set, ix_r, getL_r, ix_tL, withL_s, setL_0, setL_1, setL_2, set_r, app_r, lst_z, lst_s, iadd_ii, tuple_r, mul_ri, sl_s, sl_rol, sl_t, sl_r, cut_from, cut_to, ap_Seq, nx_seq, rt_seq, ct_seq, bk_seq, exc_seq, ap_Raise, ap_Skip, ap_Brk, ap_Cnt, ap_Drop, ap_Ret, ap_IfS, ap_Set, ap_Ts, ap_AsgT, tgT_t, tgTs_n, tgTs_c, ap_Aug, ap_SetI, ap_AugI, mFor_ap, ap_Rng1, ap_Rng2, rng1_ok, rng2_ok, ap_Iter, src_t, src_s, src_rL, ap_Comp, wipe_n, wipe_c, len_cons, len_nil, zip_cc, zip_nn, foldl_c, foldl_n, set_z, set_s, ite_t, ite_f, ite_T, ite_F, sing_lt, sing_eq, ty_r, ty_s, isS, cut_mid, decide_eq_true_eq, if_pos, if_neg]
      simp (disch := omega) [hp, lst_set hl, ok_bnd, ok_stm, ap_Ret, ap_Cons, ap_Nil, ap_CB, mVar_z, mVar_s, ap_C, rt_seq, ap_Seq, ap_IfS, ap_B, ap_Or, ap_asB, ap_Op, eq_ii, ap_Skip, nx_seq, mod_ii, fdiv_ii, int_i, ap_Set, ap_SetI, set_r, ix_r, withL_s, ixL_0, ixL_2, setL_0, ap_And, gt_ii]
    · have h1 : c = 1 := by omega
      have h3 : 0 < a := by omega
      subst h1
      simp (disch := first | omega | (simp only [List.length_append, List.length_cons, List.length_nil, List.length_set, List.length_drop, List.length_take, List.length_map]; omega)) only [mVar_z, Nat.reduceAdd, Nat.zero_add, Int.zero_add, Int.reduceAdd, Int.reduceSub, Int.reduceNeg, ap_Lst, ap_Tup, nil_app, cons_app, List.length_append, lst_last, mVar_s, ok_bnd, ok_stm, exc_bnd, ev_okE, exc_stm, ap_C, ap_Op, ap_Un, ap_B, ap_Chain, ap_asB, ap_And, ap_Or, ap_Not, ap_AndV, ap_OrV, ap_NotV, ap_If, ap_Nil, ap_Cons, ap_CB, ap_Meth, ap_Part, ap_NoPart, ap_Sl, ap_Yes, add_ii, add_ss, sub_ii, neg_i, mul_ii, fdiv_ii, mod_ii, eq_ii, ne_ii, eq_ss, ne_ss, lt_ii, le_ii, gt_ii, ge_ii, lt_ss, gt_ss, le_ss, ge_ss, len_s, len_t, abs_i, int_i, int_b, max_ii, min_ii, ix_s, ixL_0, ixL_1, ixL_2, ixL_3, ixL_n, ixL_i, ixL_st, setL_n, setL_i, List.length_map, List.length_set, ix_r, getL_r, ix_tL, withL_s, setL_0, setL_1, setL_2, set_r, app_r, lst_z, lst_s, iadd_ii, tuple_r, mul_ri, sl_s, sl_rol, sl_t, sl_r, cut_from, cut_to, ap_Seq, nx_seq, rt_seq, ct_seq, bk_seq, exc_seq, ap_Raise, ap_Skip, ap_Brk, ap_Cnt, ap_Drop, ap_Ret, ap_IfS, ap_Set, ap_Ts, ap_AsgT, tgT_t, tgTs_n, tgTs_c, ap_Aug, ap_SetI, ap_AugI, mFor_ap, ap_Rng1, ap_Rng2, rng1_ok, rng2_ok, ap_Iter, src_t, src_s, src_rL, ap_Comp, wipe_n, wipe_c, len_cons, len_nil, zip_cc, zip_nn, foldl_c, foldl_n, set_z, set_s, ite_t, ite_f, ite_T, ite_F, sing_lt, sing_eq, ty_r, ty_s, isS, cut_mid, decide_eq_true_eq, if_pos, if_neg]
      simp (disch := omega) [hp, h3, lst_set hl, ok_bnd, ok_stm, ap_Ret, ap_Cons, ap_Nil, ap_CB, mVar_z, mVar_s, ap_C, rt_seq, ap_Seq, ap_IfS, ap_B, ap_Or, ap_asB, ap_Op, eq_ii, ap_Skip, nx_seq, mod_ii, fdiv_ii, int_i, ap_Set, ap_SetI, set_r, ix_r, withL_s, ixL_0, ixL_2, setL_0, ap_And, gt_ii]
  · have hx : (a * 48271 + b * 69621 + 11) % 2147483647 < 2147483647 := Int.emod_lt_of_pos _ (by omega)
    have hx0 : 0 ≤ (a * 48271 + b * 69621 + 11) % 2147483647 := Int.emod_nonneg _ (by omega)
    have hbb : b.natAbs < AB ∨ AB ≤ b.natAbs := by omega
    have m1 : ∀ h, oMul (.int a) (.int 48271) h = .ok (.int (a * 48271)) h := fun h => mul_AB ha (by omega)
    have m2 : ∀ h, oMul (.int b) (.int 69621) h = .ok (.int (b * 69621)) h := fun h => mul_ii (by omega) (by omega)
    generalize hz : (a * 48271 + b * 69621 + 11) % 2147483647 = z at hx hx0
    refine ⟨(z / 7 + z) % many, z, b + 1, 0, ?_, (hr _).1, (hr _).2, ⟨by omega, by omega, by omega⟩⟩
    unfold mFun bodyRoll startE
    have hc2 : ¬ c = 2 := fun x => hc (.inl x)
    have hc3 : c = 1 → ¬ 0 < a := fun x y => hc (.inr ⟨x, y⟩)
    by_cases h1 : c = 1
    · have h3 := hc3 h1
      simp (disch := first | omega | (simp only [List.length_append, List.length_cons, List.length_nil, List.length_set, List.length_drop, List.length_take, List.length_map]; omega)) only [mVar_z, Nat.reduceAdd, Nat.zero_add, Int.zero_add, Int.reduceAdd, Int.reduceSub, Int.reduceNeg, ap_Lst, ap_Tup, nil_app, cons_app, List.length_append, lst_last, mVar_s, ok_bnd, ok_stm, exc_bnd, ev_okE, exc_stm, ap_C, ap_Op, ap_Un, ap_B, ap_Chain, ap_asB, ap_And, ap_Or, ap_Not, ap_AndV, ap_OrV, ap_NotV, ap_If, ap_Nil, ap_Cons, ap_CB, ap_Meth, ap_Part, ap_NoPart, ap_Sl, ap_Yes, add_ii, add_ss, sub_ii, neg_i, mul_ii, fdiv_ii, mod_ii, eq_ii, ne_ii, eq_ss, ne_ss, lt_ii, le_ii, gt_ii, ge_ii, lt_ss, gt_ss, le_ss, ge_ss, len_s, len_t, abs_i, int_i, int_b, max_ii, min_ii, ix_s, ixL_0, ixL_1, ixL_2, ixL_3, ixL_n, ixL_i, ixL_st, setL_n, setL_i, List.length_map, List.length_set, ix_r, getL_r, ix_tL, withL_s, setL_0, setL_1, setL_2, set_r, app_r, lst_z, lst_s, iadd_ii, tuple_r, mul_ri, sl_s, sl_rol, sl_t, sl_r, cut_from, cut_to, ap_Seq, nx_seq, rt_seq, ct_seq, bk_seq, exc_seq, ap_Raise, ap_Skip, ap_Brk, ap_Cnt, ap_Drop, ap_Ret, ap_IfS, ap_Set, ap_Ts, ap_AsgT, tgT_t, tgTs_n, tgTs_c, ap_Aug, ap_SetI, ap_AugI, mFor_ap, ap_Rng1, ap_Rng2, rng1_ok, rng2_ok, ap_Iter, src_t, src_s, src_rL, ap_Comp, wipe_n, wipe_c, len_cons, len_nil, zip_cc, zip_nn, foldl_c, foldl_n, set_z, set_s, ite_t, ite_f, ite_T, ite_F, sing_lt, sing_eq, ty_r, ty_s, isS, cut_mid, decide_eq_true_eq, if_pos, if_neg]
      simp (disch := omega) [hp, h1, h3, hz, m1, m2, hc2, lst_set hl, ok_bnd, ok_stm, ap_Ret, ap_Cons, ap_Nil, ap_CB, mVar_z, mVar_s, ap_C, rt_seq, ap_Seq, ap_IfS, ap_B, ap_Or, ap_asB, ap_Op, eq_ii, ap_Skip, nx_seq, mod_ii, fdiv_ii, int_i, ap_Set, ap_SetI, set_r, ix_r, withL_s, ixL_0, ixL_1, ixL_2, setL_0, setL_1, setL_2, ap_And, gt_ii, add_ii]
    · simp (disch := first | omega | (simp only [List.length_append, List.length_cons, List.length_nil, List.length_set, List.length_drop, List.length_take, List.length_map]; omega)) only [mVar_z, Nat.reduceAdd, Nat.zero_add, Int.zero_add, Int.reduceAdd, Int.reduceSub, Int.reduceNeg, ap_Lst, ap_Tup, nil_app, cons_app, List.length_append, lst_last, mVar_s, ok_bnd, ok_stm, exc_bnd, ev_okE, exc_stm, ap_C, ap_Op, ap_Un, ap_B, ap_Chain, ap_asB, ap_And, ap_Or, ap_Not, ap_AndV, ap_OrV, ap_NotV, ap_If, ap_Nil, ap_Cons, ap_CB, ap_Meth, ap_Part, ap_NoPart, ap_Sl, ap_Yes, add_ii, add_ss, sub_ii, neg_i, mul_ii, fdiv_ii, mod_ii, eq_ii, ne_ii, eq_ss, ne_ss, lt_ii, le_ii, gt_ii, ge_ii, lt_ss, gt_ss, le_ss, ge_ss, len_s, len_t, abs_i, int_i, int_b, max_ii, min_ii, ix_s, ixL_0, ixL_1, ixL_2, ixL_3, ixL_n, ixL_i, ixL_st, setL_n, setL_i, List.length_map, List.length_set, ix_r, getL_r, ix_tL, withL_s, setL_0, setL_1, setL_2, set_r, app_r, lst_z, lst_s, iadd_ii, tuple_r, mul_ri, sl_s, sl_rol, sl_t, sl_r, cut_from, cut_to, ap_Seq, nx_seq, rt_seq, ct_seq, bk_seq, exc_seq, ap_Raise, ap_Skip, ap_Brk, ap_Cnt, ap_Drop, ap_Ret, ap_IfS, ap_Set, ap_Ts, ap_AsgT, tgT_t, tgTs_n, tgTs_c, ap_Aug, ap_SetI, ap_AugI, mFor_ap, ap_Rng1, ap_Rng2, rng1_ok, rng2_ok, ap_Iter, src_t, src_s, src_rL, ap_Comp, wipe_n, wipe_c, len_cons, len_nil, zip_cc, zip_nn, foldl_c, foldl_n, set_z, set_s, ite_t, ite_f, ite_T, ite_F, sing_lt, sing_eq, ty_r, ty_s, isS, cut_mid, decide_eq_true_eq, if_pos, if_neg]
      simp (disch := omega) [hp, h1, hz, m1, m2, hc2, lst_set hl, ok_bnd, ok_stm, ap_Ret, ap_Cons, ap_Nil, ap_CB, mVar_z, mVar_s, ap_C, rt_seq, ap_Seq, ap_IfS, ap_B, ap_Or, ap_asB, ap_Op, eq_ii, ap_Skip, nx_seq, mod_ii, fdiv_ii, int_i, ap_Set, ap_SetI, set_r, ix_r, withL_s, ixL_0, ixL_1, ixL_2, setL_0, setL_1, setL_2, ap_And, gt_ii, add_ii]

/-! ### many dice -/
def DH (N : Nat) (h : List O) (ps : List Nat) : Prop := ∀ q ∈ ps, ∃ a b c : Int, lstAt h q = some [.int a, .int b, .int c] ∧ DG N a b
/-- h' is h, but for the dice and for new things -/
def Fr (ps : List Nat) (h h' : List O) : Prop := h.length ≤ h'.length ∧ ∀ q, q < h.length → q ∉ ps → h'[q]? = h[q]?
section
variable {N N2 : Nat} {h h1 h2 h3 : List O} {ps : List Nat}
theorem DG.mono {a b : Int} (g : DG N a b) (hm : N ≤ N2) : DG N2 a b := ⟨g.a, g.b0, by have := g.b1; omega⟩
theorem DH.mono (d : DH N h ps) (hm : N ≤ N2) : DH N2 h ps := fun q hq => by
  obtain ⟨a, b, c, e, g⟩ := d q hq
  exact ⟨a, b, c, e, g.mono hm⟩
theorem DH.gr (d : DH N h1 ps) (g : Gr h1 h2) : DH N h2 ps := fun q hq => by
  obtain ⟨a, b, c, e, g2⟩ := d q hq
  exact ⟨a, b, c, g.lst e, g2⟩
theorem DH.lt (d : DH N h ps) {q : Nat} (hq : q ∈ ps) : q < h.length := by
  obtain ⟨a, b, c, e, _⟩ := d q hq
  exact lst_lt e
theorem DH.set (d : DH N h ps) {n : Nat} {o : O} (hn : n ∉ ps) : DH N (h.set n o) ps := fun q hq => by
  obtain ⟨a, b, c, e, g2⟩ := d q hq
  exact ⟨a, b, c, by rw [lst_ne (fun x => hn (by rw [x]; exact hq))]; exact e, g2⟩
theorem Fr.refl : Fr ps h h := ⟨Nat.le_refl _, fun _ _ _ => rfl⟩
theorem Fr.trans (a : Fr ps h1 h2) (b : Fr ps h2 h3) : Fr ps h1 h3 := ⟨Nat.le_trans a.1 b.1, fun q hq hn => by rw [b.2 q (Nat.lt_of_lt_of_le hq a.1) hn, a.2 q hq hn]⟩
theorem Fr.of (g : Gr h1 h2) : Fr ps h1 h2 := by
  obtain ⟨j, rfl⟩ := g
  exact ⟨by simp, fun q hq _ => List.getElem?_append_left hq⟩
theorem Fr.lst (f : Fr ps h1 h2) {n : Nat} {xs : List W} (hn : n ∉ ps) (e : lstAt h1 n = some xs) : lstAt h2 n = some xs := by
  have hl := lst_lt e
  unfold lstAt
  rw [f.2 n hl hn, lstAt_some e]
theorem Fr.set (f : Fr ps h1 h2) {n : Nat} {o : O} (hn : h1.length ≤ n) : Fr ps h1 (h2.set n o) := ⟨by rw [List.length_set]; exact f.1, fun q hq hm => by rw [List.getElem?_set_ne (by omega)]; exact f.2 q hq hm⟩
theorem roll_Ev {p : Nat} {many : Int} (d : DH N h ps) (hp : p ∈ ps) (hm : 0 < many) (hM : many < 4611686018427387904) (hN : N < 1000000000000) :
    Ev (mFun 3 bodyRoll [.ref p, .int many] h) fun w h' => ∃ r : Int, w = .int r ∧ 0 ≤ r ∧ r < many ∧ DH (N + 1) h' ps ∧ Fr ps h h' := by
  obtain ⟨a, b, c, e, g⟩ := d p hp
  obtain ⟨r, a', b', c', e1, h0, h1, g1⟩ := roll_ev e g hm hM hN
  refine ev_eq e1 ⟨r, rfl, h0, h1, fun q hq => ?_, by simp, fun q hq hn => List.getElem?_set_ne fun x => hn (by rw [← x]; exact hp)⟩
  by_cases hqp : p = q
  · subst hqp
    exact ⟨a', b', c', lst_set (lst_lt e), g1⟩
  · obtain ⟨a2, b2, c2, e2, g2⟩ := d q hq
    exact ⟨a2, b2, c2, by rw [lst_ne hqp]; exact e2, g2.mono (by omega)⟩
/-- a list made with rolls -/
theorem comp_dice {n L K0 : Nat} {e0 : Env} {elt : M W} {Q : W → List O → Prop} {src : Src} {t : Tg} (len : Nat) (hL : len ≤ 1000000) (hn : len < n) (v : Nat → W) (e1 : Nat → Env) (hs : ∀ i, i < len → ∀ h', src i h' = some (some (v i))) (hs2 : ∀ h', src len h' = some none) (ht : ∀ i, i < len → t (v i) e0 = some (e1 i))
    (P : Nat → W → Prop) (d : DH N h ps) (he : ∀ i, i < len → ∀ h', Fr ps h h' → DH (N + i * K0) h' ps → Ev (elt (e1 i) h') fun y h2 => P i y ∧ Fr ps h' h2 ∧ DH (N + (i + 1) * K0) h2 ps)
    (q : ∀ h' acc, lstAt h' h.length = some acc → acc.length = len → (∀ i w, acc[i]? = some w → P i w) → Fr ps h h' → DH (N + len * K0) h' ps → Q (.ref h.length) h') : Ev (compGo src t mYes elt h.length e0 n 0 (h ++ [.lst []])) Q := by
  have hps : h.length ∉ ps := fun x => by have := d.lt x; omega
  refine compGo_ev len hL (fun i acc h' => acc.length = i ∧ (∀ j w, acc[j]? = some w → P j w) ∧ Fr ps h h' ∧ DH (N + i * K0) h' ps) (fun i acc h' hi ha hD p => ?_) (fun acc h' hD p => ?_) n 0 [] _ (by omega) (by omega) (by simp) (by simp) ⟨rfl, by simp, Fr.of Gr.app, by rw [Nat.zero_mul]; exact d.gr Gr.app⟩
  · obtain ⟨pl, pp, pf, pd⟩ := p
    refine ⟨_, _, hs i hi h', ht i hi, ?_⟩
    show Ev (Out.ok true h') _
    refine ev_ok ?_
    rw [if_pos rfl]
    refine ev_imp (he i hi h' pf pd) fun y h3 ⟨py, pf3, pd3⟩ => ?_
    have hl : h.length < h'.length := by
      rcases Nat.lt_or_ge h.length h'.length with x | x
      · exact x
      · rw [List.getElem?_eq_none x] at hD; cases hD
    refine ⟨by rw [pf3.2 _ hl hps]; exact hD, by simp [pl], fun j w hj => ?_, (pf.trans pf3).set (Nat.le_refl _), pd3.set hps⟩
    rcases Nat.lt_or_ge j acc.length with x | x
    · rw [List.getElem?_append_left x] at hj
      exact pp j w hj
    · rw [List.getElem?_append_right x] at hj
      have hj0 : j = acc.length := by
        by_cases hz : j - acc.length = 0
        · omega
        · rw [List.getElem?_eq_none (by simp; omega)] at hj; cases hj
      subst hj0
      rw [Nat.sub_self] at hj
      cases hj
      rw [pl]
      exact py
  · obtain ⟨pl, pp, pf, pd⟩ := p
    exact ⟨hs2 h', q h' acc (by unfold lstAt; rw [hD]) pl pp pf pd⟩
theorem comp_dice_rng {n K0 len : Nat} {lo : Int} {vv : Nat} {e0 : Env} {elt : M W} {Q : W → List O → Prop} (hL : len ≤ 1000000) (hn : len < n)
    (P : Nat → W → Prop) (d : DH N h ps) (he : ∀ i, i < len → ∀ h', Fr ps h h' → DH (N + i * K0) h' ps → Ev (elt (e0.set vv (some (.int (lo + i)))) h') fun y h2 => P i y ∧ Fr ps h' h2 ∧ DH (N + (i + 1) * K0) h2 ps)
    (q : ∀ h' acc, lstAt h' h.length = some acc → acc.length = len → (∀ i w, acc[i]? = some w → P i w) → Fr ps h h' → DH (N + len * K0) h' ps → Q (.ref h.length) h') : Ev (compGo (srcN lo len) (tgN vv) mYes elt h.length e0 n 0 (h ++ [.lst []])) Q :=
  comp_dice (L := 0) len hL hn (fun i => .int (lo + i)) (fun i => e0.set vv (some (.int (lo + i)))) (fun i hi h' => by unfold srcN; exact if_pos hi) (fun h' => by unfold srcN; exact if_neg (by omega)) (fun i hi => rfl) P d he q
end
def bodyRounds : Sm := mSeq (mSet 2 (mSl (mVar 0) (mNoPart) (mPart (mVar 1)))) (mSeq (mIfS (mB (mOp oEq (mVar 2) (mLst (mNil)))) (mSet 2 (mLst (mCons (mC (.int 0)) (mNil)))) (mSkip)) (mRet (mComp 100000 [3] (mIter (mVar 2)) (tgN 3) (mYes) (mCB (fun ws h => if ws.length = 1 then mFun 1 bodyDice ws h else .bad) (mCons (mVar 3) (mNil))))))
theorem mapInt_rol {ns : List Int} {lo hi : Option Int} : cutW (ns.map W.int) lo hi = (cutW ns lo hi).map W.int := by
  unfold cutW
  rw [List.length_map, List.map_take, List.map_drop]
/-- the dice of a law -/
theorem rounds_Ev {ns : List Int} {most : Int} (h0 : 0 ≤ most) (hl : ns.length ≤ 63) (hb : ∀ z ∈ ns, z.natAbs < AB) : Ev (mFun 4 bodyRounds [scriptW ns, .int most] []) fun w h => ∃ p ps, w = .ref p ∧ p ∉ ps ∧ ps ≠ [] ∧ ps.length ≤ 63 ∧ lstAt h p = some (ps.map W.ref) ∧ DH 0 h ps := by
  refine fun_ev ?_
  unfold bodyRounds scriptW
  simp only [startE, List.map_cons, List.map_nil, List.length_cons, List.length_nil, List.cons_append, List.nil_append, Nat.zero_add, Nat.reduceAdd, Nat.reduceSub, List.replicate_succ, List.replicate_zero]
  have main : ∀ (h : List O) (e : Env) (p : Nat) (zs : List Int), lstAt h p = some (zs.map W.int) → zs ≠ [] → zs.length ≤ 63 → (∀ z ∈ zs, z.natAbs < AB) → 
      Ev (compGo (srcR p) (tgN 3) mYes (mCB (fun ws h => if ws.length = 1 then mFun 1 bodyDice ws h else .bad) (mCons (mVar 3) mNil)) h.length [some (scriptW ns), some (.int most), some (.ref p), none] 100000 0 (h ++ [.lst []]))
       fun w h => ∃ p ps, w = .ref p ∧ p ∉ ps ∧ ps ≠ [] ∧ ps.length ≤ 63 ∧ lstAt h p = some (ps.map W.ref) ∧ DH 0 h ps := by
    intro h e p zs hp hz hzl hzb
    have hpl := lst_lt hp
    refine compGo_ev zs.length (by omega) (fun i acc h' => ∃ ps : List Nat, ps.length = i ∧ acc = ps.map W.ref ∧ (∀ q ∈ ps, h.length < q) ∧ Gr h (h'.take h.length) ∧ h.length < h'.length ∧ DH 0 h' ps) (fun i acc h' hi ha hD pp => ?_) (fun acc h' hD pp => ?_) 100000 0 [] _ (by omega) (by omega) (by simp) (by simp) ⟨[], rfl, rfl, by simp, ⟨[], by simp⟩, by simp, fun q hq => by cases hq⟩
    · obtain ⟨ps, hl1, rfl, hq, hg, hh, hd⟩ := pp
      have hp' : lstAt h' p = some (zs.map W.int) := by
        have e2 := lstAt_some (hg.lst hp)
        rw [List.getElem?_take_of_lt hpl] at e2
        unfold lstAt
        rw [e2]
      refine ⟨.int zs[i], _, by unfold srcR; rw [hp']; simp [hi], rfl, ?_⟩
      refine ev_ok ?_
      rw [if_pos rfl]
      simp (disch := first | omega | (simp only [List.length_append, List.length_cons, List.length_nil, List.length_set, List.length_drop, List.length_take, List.length_map]; omega)) only [mVar_z, Nat.reduceAdd, Nat.zero_add, Int.zero_add, Int.reduceAdd, Int.reduceSub, Int.reduceNeg, ap_Lst, ap_Tup, nil_app, cons_app, List.length_append, lst_last, mVar_s, ok_bnd, ok_stm, exc_bnd, ev_okE, exc_stm, ap_C, ap_Op, ap_Un, ap_B, ap_Chain, ap_asB, ap_And, ap_Or, ap_Not, ap_AndV, ap_OrV, ap_NotV, ap_If, ap_Nil, ap_Cons, ap_CB, ap_Meth, ap_Part, ap_NoPart, ap_Sl, ap_Yes, add_ii, add_ss, sub_ii, neg_i, mul_ii, fdiv_ii, mod_ii, eq_ii, ne_ii, eq_ss, ne_ss, lt_ii, le_ii, gt_ii, ge_ii, lt_ss, gt_ss, le_ss, ge_ss, len_s, len_t, abs_i, int_i, int_b, max_ii, min_ii, ix_s, ixL_0, ixL_1, ixL_2, ixL_3, ixL_n, ixL_i, ixL_st, setL_n, setL_i, List.length_map, List.length_set, ix_r, getL_r, ix_tL, withL_s, setL_0, setL_1, setL_2, set_r, app_r, lst_z, lst_s, iadd_ii, tuple_r, mul_ri, sl_s, sl_rol, sl_t, sl_r, cut_from, cut_to, ap_Seq, nx_seq, rt_seq, ct_seq, bk_seq, exc_seq, ap_Raise, ap_Skip, ap_Brk, ap_Cnt, ap_Drop, ap_Ret, ap_IfS, ap_Set, ap_Ts, ap_AsgT, tgT_t, tgTs_n, tgTs_c, ap_Aug, ap_SetI, ap_AugI, mFor_ap, ap_Rng1, ap_Rng2, rng1_ok, rng2_ok, ap_Iter, src_t, src_s, src_rL, ap_Comp, wipe_n, wipe_c, len_cons, len_nil, zip_cc, zip_nn, foldl_c, foldl_n, set_z, set_s, ite_t, ite_f, ite_T, ite_F, sing_lt, sing_eq, ty_r, ty_s, isS, cut_mid, decide_eq_true_eq, if_pos, if_neg]
      obtain ⟨a, b, c, g, e1⟩ := dice_ev (z := zs[i]) (h := h') (hzb _ (List.getElem_mem hi))
      refine ev_eq e1 ⟨by rw [List.getElem?_append_left hh]; exact hD, ps ++ [h'.length], by simp [hl1], by simp, fun q hq2 => ?_, ?_, by simp; omega, ?_⟩
      · rcases List.mem_append.1 hq2 with x | x
        · exact hq q x
        · have := List.mem_singleton.1 x
          omega
      · rw [List.take_set_of_le (Nat.le_refl _), List.take_append_of_le_length (by omega)]
        exact hg
      · refine DH.set (fun q hq2 => ?_) (fun x => ?_)
        · rcases List.mem_append.1 hq2 with x | x
          · exact hd.gr Gr.app q x
          · have := List.mem_singleton.1 x
            subst this
            exact ⟨a, b, c, lst_last, g⟩
        · rcases List.mem_append.1 x with x | x
          · have := hq _ x
            omega
          · have := List.mem_singleton.1 x
            omega
    · obtain ⟨ps, hl1, rfl, hq, hg, hh, hd⟩ := pp
      have hp' : lstAt h' p = some (zs.map W.int) := by
        have e2 := lstAt_some (hg.lst hp)
        rw [List.getElem?_take_of_lt hpl] at e2
        unfold lstAt
        rw [e2]
      refine ⟨by unfold srcR; rw [hp']; simp, _, ps, rfl, fun x => by have := hq _ x; omega, fun x => ?_, by omega, by unfold lstAt; rw [hD], hd⟩
      rw [x] at hl1
      exact hz (List.eq_nil_of_length_eq_zero hl1.symm)
  simp (disch := first | omega | (simp only [List.length_append, List.length_cons, List.length_nil, List.length_set, List.length_drop, List.length_take, List.length_map]; omega)) only [mVar_z, Nat.reduceAdd, Nat.zero_add, Int.zero_add, Int.reduceAdd, Int.reduceSub, Int.reduceNeg, ap_Lst, ap_Tup, nil_app, cons_app, List.length_append, lst_last, mVar_s, ok_bnd, ok_stm, exc_bnd, ev_okE, exc_stm, ap_C, ap_Op, ap_Un, ap_B, ap_Chain, ap_asB, ap_And, ap_Or, ap_Not, ap_AndV, ap_OrV, ap_NotV, ap_If, ap_Nil, ap_Cons, ap_CB, ap_Meth, ap_Part, ap_NoPart, ap_Sl, ap_Yes, add_ii, add_ss, sub_ii, neg_i, mul_ii, fdiv_ii, mod_ii, eq_ii, ne_ii, eq_ss, ne_ss, lt_ii, le_ii, gt_ii, ge_ii, lt_ss, gt_ss, le_ss, ge_ss, len_s, len_t, abs_i, int_i, int_b, max_ii, min_ii, ix_s, ixL_0, ixL_1, ixL_2, ixL_3, ixL_n, ixL_i, ixL_st, setL_n, setL_i, List.length_map, List.length_set, ix_r, getL_r, ix_tL, withL_s, setL_0, setL_1, setL_2, set_r, app_r, lst_z, lst_s, iadd_ii, tuple_r, mul_ri, sl_s, sl_rol, sl_t, sl_r, cut_from, cut_to, ap_Seq, nx_seq, rt_seq, ct_seq, bk_seq, exc_seq, ap_Raise, ap_Skip, ap_Brk, ap_Cnt, ap_Drop, ap_Ret, ap_IfS, ap_Set, ap_Ts, ap_AsgT, tgT_t, tgTs_n, tgTs_c, ap_Aug, ap_SetI, ap_AugI, mFor_ap, ap_Rng1, ap_Rng2, rng1_ok, rng2_ok, ap_Iter, src_t, src_s, src_rL, ap_Comp, wipe_n, wipe_c, len_cons, len_nil, zip_cc, zip_nn, foldl_c, foldl_n, set_z, set_s, ite_t, ite_f, ite_T, ite_F, sing_lt, sing_eq, ty_r, ty_s, isS, cut_mid, decide_eq_true_eq, if_pos, if_neg]
  have e1 := cut_to (xs := ns) h0
  have e2 := mapInt_rol (ns := ns) (lo := none) (hi := some most)
  rw [cut_to h0, e1] at e2
  rw [e2]
  have e3 := eq_ints (n := 0) (m := 1) (l := ns.take most.toNat) (l' := []) (h := [O.lst ((ns.take most.toNat).map W.int), O.lst []]) rfl rfl
  rw [e3]
  by_cases hz : ns.take most.toNat = []
  · rw [decide_eq_true hz]
    simp (disch := first | omega | (simp only [List.length_append, List.length_cons, List.length_nil, List.length_set, List.length_drop, List.length_take, List.length_map]; omega)) only [mVar_z, Nat.reduceAdd, Nat.zero_add, Int.zero_add, Int.reduceAdd, Int.reduceSub, Int.reduceNeg, ap_Lst, ap_Tup, nil_app, cons_app, List.length_append, lst_last, mVar_s, ok_bnd, ok_stm, exc_bnd, ev_okE, exc_stm, ap_C, ap_Op, ap_Un, ap_B, ap_Chain, ap_asB, ap_And, ap_Or, ap_Not, ap_AndV, ap_OrV, ap_NotV, ap_If, ap_Nil, ap_Cons, ap_CB, ap_Meth, ap_Part, ap_NoPart, ap_Sl, ap_Yes, add_ii, add_ss, sub_ii, neg_i, mul_ii, fdiv_ii, mod_ii, eq_ii, ne_ii, eq_ss, ne_ss, lt_ii, le_ii, gt_ii, ge_ii, lt_ss, gt_ss, le_ss, ge_ss, len_s, len_t, abs_i, int_i, int_b, max_ii, min_ii, ix_s, ixL_0, ixL_1, ixL_2, ixL_3, ixL_n, ixL_i, ixL_st, setL_n, setL_i, List.length_map, List.length_set, ix_r, getL_r, ix_tL, withL_s, setL_0, setL_1, setL_2, set_r, app_r, lst_z, lst_s, iadd_ii, tuple_r, mul_ri, sl_s, sl_rol, sl_t, sl_r, cut_from, cut_to, ap_Seq, nx_seq, rt_seq, ct_seq, bk_seq, exc_seq, ap_Raise, ap_Skip, ap_Brk, ap_Cnt, ap_Drop, ap_Ret, ap_IfS, ap_Set, ap_Ts, ap_AsgT, tgT_t, tgTs_n, tgTs_c, ap_Aug, ap_SetI, ap_AugI, mFor_ap, ap_Rng1, ap_Rng2, rng1_ok, rng2_ok, ap_Iter, src_t, src_s, src_rL, ap_Comp, wipe_n, wipe_c, len_cons, len_nil, zip_cc, zip_nn, foldl_c, foldl_n, set_z, set_s, ite_t, ite_f, ite_T, ite_F, sing_lt, sing_eq, ty_r, ty_s, isS, cut_mid, decide_eq_true_eq, if_pos, if_neg]
    have m1 := main [O.lst ((ns.take most.toNat).map W.int), O.lst [], O.lst [W.int 0]] [] 2 [0] rfl (by simp) (by simp) (by simp; exact Nat.lt_of_lt_of_le (by decide) AB_ge)
    unfold scriptW at m1
    simp only [cons_app, nil_app, len_cons, len_nil, Nat.reduceAdd] at m1
    refine sv_stm ?_
    refine ev_imp m1 fun w h p => ?_
    exact p
  · rw [decide_eq_false hz]
    simp (disch := first | omega | (simp only [List.length_append, List.length_cons, List.length_nil, List.length_set, List.length_drop, List.length_take, List.length_map]; omega)) only [mVar_z, Nat.reduceAdd, Nat.zero_add, Int.zero_add, Int.reduceAdd, Int.reduceSub, Int.reduceNeg, ap_Lst, ap_Tup, nil_app, cons_app, List.length_append, lst_last, mVar_s, ok_bnd, ok_stm, exc_bnd, ev_okE, exc_stm, ap_C, ap_Op, ap_Un, ap_B, ap_Chain, ap_asB, ap_And, ap_Or, ap_Not, ap_AndV, ap_OrV, ap_NotV, ap_If, ap_Nil, ap_Cons, ap_CB, ap_Meth, ap_Part, ap_NoPart, ap_Sl, ap_Yes, add_ii, add_ss, sub_ii, neg_i, mul_ii, fdiv_ii, mod_ii, eq_ii, ne_ii, eq_ss, ne_ss, lt_ii, le_ii, gt_ii, ge_ii, lt_ss, gt_ss, le_ss, ge_ss, len_s, len_t, abs_i, int_i, int_b, max_ii, min_ii, ix_s, ixL_0, ixL_1, ixL_2, ixL_3, ixL_n, ixL_i, ixL_st, setL_n, setL_i, List.length_map, List.length_set, ix_r, getL_r, ix_tL, withL_s, setL_0, setL_1, setL_2, set_r, app_r, lst_z, lst_s, iadd_ii, tuple_r, mul_ri, sl_s, sl_rol, sl_t, sl_r, cut_from, cut_to, ap_Seq, nx_seq, rt_seq, ct_seq, bk_seq, exc_seq, ap_Raise, ap_Skip, ap_Brk, ap_Cnt, ap_Drop, ap_Ret, ap_IfS, ap_Set, ap_Ts, ap_AsgT, tgT_t, tgTs_n, tgTs_c, ap_Aug, ap_SetI, ap_AugI, mFor_ap, ap_Rng1, ap_Rng2, rng1_ok, rng2_ok, ap_Iter, src_t, src_s, src_rL, ap_Comp, wipe_n, wipe_c, len_cons, len_nil, zip_cc, zip_nn, foldl_c, foldl_n, set_z, set_s, ite_t, ite_f, ite_T, ite_F, sing_lt, sing_eq, ty_r, ty_s, isS, cut_mid, decide_eq_true_eq, if_pos, if_neg]
    have m1 := main [O.lst ((ns.take most.toNat).map W.int), O.lst []] [] 0 (ns.take most.toNat) rfl hz (by simp; omega) (fun z hz => hb z (List.mem_of_mem_take hz))
    unfold scriptW at m1
    simp only [cons_app, nil_app, len_cons, len_nil, Nat.reduceAdd] at m1
    refine sv_stm ?_
    refine ev_imp m1 fun w h p => ?_
    exact p

/-! ### lists of numbers and of texts -/
def picksI (N : Nat) (lo : Int) (c : Nat → Bool) : List Int := ((List.range N).filter c).map fun i : Nat => lo + (i : Int)
theorem picks_int {N : Nat} {lo : Int} {c : Nat → Bool} : picks N c (fun i => .int (lo + i)) = (picksI N lo c).map .int := by
  unfold picks picksI
  rw [List.map_map]
  rfl
theorem picksI_nil {N : Nat} {lo : Int} {c : Nat → Bool} : picksI N lo c = [] ↔ ∀ i, i < N → c i = false := by
  unfold picksI
  rw [List.map_eq_nil_iff, List.filter_eq_nil_iff]
  constructor
  · intro h i hi
    simpa using h i (List.mem_range.2 hi)
  · intro h i hi
    simpa using h i (List.mem_range.1 hi)
theorem mem_picksI {N : Nat} {lo : Int} {c : Nat → Bool} {z : Int} : z ∈ picksI N lo c ↔ ∃ i, i < N ∧ c i = true ∧ z = lo + i := by
  unfold picksI
  rw [List.mem_map]
  constructor
  · rintro ⟨i, hi, rfl⟩
    rw [List.mem_filter, List.mem_range] at hi
    exact ⟨i, hi.1, hi.2, rfl⟩
  · rintro ⟨i, h1, h2, rfl⟩
    exact ⟨i, by rw [List.mem_filter, List.mem_range]; exact ⟨h1, h2⟩, rfl⟩
theorem intsOf_map : ∀ l : List Int, intsOf (l.map .int) = some l
  | [] => rfl
  | i :: l => by rw [List.map_cons]; unfold intsOf; rw [intsOf_map l]; rfl
theorem strsOf_map : ∀ l : List (List Nat), strsOf (l.map .str) = some l
  | [] => rfl
  | i :: l => by rw [List.map_cons]; unfold strsOf; rw [strsOf_map l]; rfl
theorem max_r {h : List O} {n : Nat} {l : List Int} (hn : lstAt h n = some (l.map .int)) {r : Int} (h1 : r ∈ l) (h2 : ∀ z ∈ l, z ≤ r) : oMax [.ref n] h = .ok (.int r) h := by
  unfold oMax
  dsimp only [sqL]
  rw [hn]
  dsimp only
  rw [intsOf_map]
  dsimp only
  rw [if_pos (List.length_pos_of_mem h1), ← maxI_ok h1 h2]
theorem joinW_nil : ∀ l : List (List Nat), joinW [] l = l.flatten
  | [] => rfl
  | [x] => by simp [joinW]
  | x :: y :: r => by
    unfold joinW
    rw [joinW_nil (y :: r)]
    simp
theorem join_t {h : List O} {l : List (List Nat)} (hs : l.flatten.length ≤ 1000000) : oJoin (.str []) [.tup (l.map .str)] h = .ok (.str l.flatten) h := by
  unfold oJoin
  dsimp only [sqA]
  rw [strsOf_map]
  dsimp only
  rw [if_pos (by rw [← List.length_flatten]; simpa using hs), joinW_nil]
theorem join_r {h : List O} {n : Nat} {l : List (List Nat)} (hn : lstAt h n = some (l.map .str)) (hs : l.flatten.length ≤ 1000000) : oJoin (.str []) [.ref n] h = .ok (.str l.flatten) h := by
  unfold oJoin
  dsimp only [sqA]
  rw [hn]
  dsimp only
  rw [strsOf_map]
  dsimp only
  rw [if_pos (by rw [← List.length_flatten]; simpa using hs), joinW_nil]
theorem list_ex {α : Type} {f : α → W} {P : α → Prop} : ∀ acc : List W, (∀ (i : Nat) (w : W), acc[i]? = some w → ∃ c, w = f c ∧ P c) → ∃ cs : List α, acc = cs.map f ∧ ∀ c ∈ cs, P c
  | [], _ => ⟨[], rfl, by simp⟩
  | w :: acc, h => by
    obtain ⟨c, rfl, hc⟩ := h 0 w rfl
    obtain ⟨cs, rfl, hcs⟩ := list_ex acc fun i w hw => h (i + 1) w hw
    exact ⟨c :: cs, rfl, fun x hx => by
      rcases List.mem_cons.1 hx with rfl | hx
      · exact hc
      · exact hcs x hx⟩
theorem flat_one : ∀ cs : List Nat, (cs.map fun c => [c]).flatten = cs
  | [] => rfl
  | c :: cs => by rw [List.map_cons, List.flatten_cons, flat_one cs]; rfl
theorem minS_fold (r : List (List Nat)) : ∀ x : List Nat, (r.foldl (fun a y => if y < a then y else a) x ∈ x :: r) ∧ ∀ z ∈ x :: r, ¬ z < r.foldl (fun a y => if y < a then y else a) x := by
  induction r with
  | nil => intro x; exact ⟨List.mem_cons_self, fun z hz => by rw [List.mem_singleton.1 hz]; exact List.lt_irrefl _⟩
  | cons y r ih =>
    intro x
    rw [List.foldl_cons]
    by_cases hyx : y < x
    · rw [if_pos hyx]
      obtain ⟨a, b⟩ := ih y
      refine ⟨List.mem_cons_of_mem _ a, fun z hz => ?_⟩
      rcases List.mem_cons.1 hz with rfl | hz
      · intro hlt
        exact b y List.mem_cons_self (List.lt_trans hyx hlt)
      · exact b z hz
    · rw [if_neg hyx]
      obtain ⟨a, b⟩ := ih x
      refine ⟨?_, fun z hz => ?_⟩
      · rcases List.mem_cons.1 a with e | e
        · rw [e]; exact List.mem_cons_self
        · exact List.mem_cons_of_mem _ (List.mem_cons_of_mem _ e)
      · rcases List.mem_cons.1 hz with rfl | hz
        · exact b _ List.mem_cons_self
        · rcases List.mem_cons.1 hz with rfl | hz
          · intro hlt
            have h1 := b x List.mem_cons_self
            have h2 : ¬ z < x := hyx
            have h3 : x ≤ z := h2
            exact h1 (List.lt_of_le_of_lt h3 hlt)
          · exact b z (List.mem_cons_of_mem _ hz)
theorem minS_ok {l : List (List Nat)} {m : List Nat} (hm : m ∈ l) (h : ∀ z ∈ l, ¬ z < m) : minS l = m := by
  cases l with
  | nil => cases hm
  | cons x r =>
    obtain ⟨a, b⟩ := minS_fold r x
    have h1 := b m hm
    have h2 := h _ a
    exact List.le_antisymm h1 h2
theorem min_rs {h : List O} {n : Nat} {l : List (List Nat)} (hn : lstAt h n = some (l.map .str)) {m : List Nat} (h1 : m ∈ l) (h2 : ∀ z ∈ l, ¬ z < m) : oMin [.ref n] h = .ok (.str m) h := by
  unfold oMin
  dsimp only [sqL]
  rw [hn]
  dsimp only
  have e : intsOf (l.map .str) = none := by
    cases l with
    | nil => cases h1
    | cons x r => rfl
  rw [e]
  dsimp only
  rw [strsOf_map]
  dsimp only
  rw [if_pos (List.length_pos_of_mem h1), minS_ok h1 h2]
theorem idxOf_is {α : Type} [BEq α] [LawfulBEq α] {x : α} : ∀ {l : List α} {j : Nat}, l[j]? = some x → (∀ m, m < j → l[m]? ≠ some x) → idxOf x l = some j
  | [], j, h, _ => by cases h
  | y :: r, 0, h, _ => by
    cases h
    unfold idxOf
    rw [if_pos (by simp)]
  | y :: r, j + 1, h, hm => by
    unfold idxOf
    rw [if_neg, idxOf_is (l := r) (j := j) h fun m hmj => hm (m + 1) (by omega)]
    · rfl
    · intro e
      have e2 : y = x := by simpa using e
      subst e2
      exact hm 0 (by omega) rfl
theorem index_s {h : List O} {n : Nat} {l : List (List Nat)} {s : List Nat} {j : Nat} (hn : lstAt h n = some (l.map .str)) (h1 : l[j]? = some s) (h2 : ∀ m, m < j → l[m]? ≠ some s) : oIndex (.ref n) [.str s] h = .ok (.int j) h := by
  unfold oIndex
  dsimp only [sqL]
  rw [hn]
  dsimp only
  rw [strsOf_map]
  dsimp only
  rw [idxOf_is h1 h2]
theorem picks_all {N : Nat} {f : Nat → W} : picks N (fun _ => true) f = (List.range N).map f := by
  unfold picks
  rw [List.filter_eq_self.2 (by simp)]
theorem sv_nx {e : Env} {h : List O} {R : SOut → Prop} : Sv (.nx e h) R = R (.nx e h) := nrfl rfl
theorem sv_rt {w : W} {h : List O} {R : SOut → Prop} : Sv (.rt w h) R = R (.rt w h) := nrfl rfl
theorem sv_ct {e : Env} {h : List O} {R : SOut → Prop} : Sv (.ct e h) R = R (.ct e h) := nrfl rfl
theorem rnd_nx {e : Env} {h : List O} {I : Env → List O → Prop} {R : SOut → Prop} : rnd I R (.nx e h) = I e h := nrfl rfl
theorem rnd_ct {e : Env} {h : List O} {I : Env → List O → Prop} {R : SOut → Prop} : rnd I R (.ct e h) = I e h := nrfl rfl
end Den
set_option maxRecDepth 100000
/-! The heap never gets smaller. -/
namespace Den
open PySem
open Sem (wp)
theorem runs_hsz {M : Model} {Γ : Ctx} {p : Pos} {t : Sem PySem.Fin} {fs : List Frame} {s s' : Shared} {e : End} (h : Runs M Γ p t fs s e s') : s.heap.objs.size ≤ s'.heap.objs.size := by
  induction h <;> (try simp only [Shared.setGen, Heap.size_update, Heap.size_push] at *) <;> omega
theorem returns_hsz {M : Model} {Γ : Ctx} {p : Pos} {s s' : Shared} {r : Result} (h : Returns M Γ p s r s') : s.heap.objs.size ≤ s'.heap.objs.size := runs_hsz h
theorem wakes_hsz {M : Model} {Γ : Ctx} {p : Pos} {g : Nat} {r : Resume} {s s' : Shared} {res : GenResult} (h : Wakes M Γ p g r s res s') : s.heap.objs.size ≤ s'.heap.objs.size := by
  unfold Wakes at h
  split at h
  · exact h.elim
  · split at h
    · obtain ⟨e₁, s₁, hr, _, _, rfl⟩ := h
      exact (show s.heap.objs.size ≤ s₁.heap.objs.size from runs_hsz (s := s.setGen g .running) hr)
    · rw [h.2]; exact Nat.le_refl _
    · rw [h.2]; exact Nat.le_refl _
  · obtain ⟨e₁, s₁, hr, _, _, rfl⟩ := h
    exact (show s.heap.objs.size ≤ s₁.heap.objs.size from runs_hsz (s := s.setGen g .running) hr)
  · rw [h.2]; exact Nat.le_refl _
  · rw [h.2]; exact Nat.le_refl _
theorem wp_hsz {α : Type} (M : Model) (Γ : Ctx) (n : Nat) (t : Sem α) : ∀ (Q : α → Pos → Shared → Prop) (E : Value → Pos → Shared → Prop) (p : Pos) (s : Shared), n ≤ s.heap.objs.size → wp M Γ t Q E p s →
    wp M Γ t (fun a p' s' => n ≤ s'.heap.objs.size ∧ Q a p' s') (fun e p' s' => n ≤ s'.heap.objs.size ∧ E e p' s') p s := by
  induction t with
  | pure a => intro Q E p s hn h; exact ⟨hn, h⟩
  | raise e => intro Q E p s hn h; exact ⟨hn, h⟩
  | unsupported _ => intro Q E p s _ h; exact h
  | finish _ => intro Q E p s _ h; exact h
  | rule _ k ih => intro Q E p s hn h; exact ih () Q E p s hn h
  | «at» p' k ih => intro Q E p s hn h; exact ih () Q E p' s hn h
  | load a _ k ih => intro Q E p s hn h; obtain ⟨o, ho, h⟩ := h; exact ⟨o, ho, ih o Q E p s hn h⟩
  | update a _ f k ih => intro Q E p s hn h; exact ⟨h.1, ih () Q E p _ (by simpa using hn) h.2⟩
  | loadIfAlive a k ih => intro Q E p s hn h; exact ih _ Q E p s hn h
  | point _ k ih => intro Q E p s hn h; exact ih () Q E p s hn h
  | register _ _ => intro Q E p s _ h; exact h
  | alloc o k ih => intro Q E p s hn h; exact ih _ Q E p _ (by simp only [Heap.size_push]; omega) h
  | fresh k ih => intro Q E p s hn h; exact ih _ Q E p _ hn h
  | ask k ih => intro Q E p s hn h; exact ih _ Q E p s hn h
  | choose src m k ih => intro Q E p s hn h; exact ⟨h.1, ih _ Q E p _ hn h.2⟩
  | os q _ k ih => intro Q E p s hn h; exact ih _ Q E p _ hn h
  | call c hd _ _ k ih => intro Q E p s hn h; obtain ⟨r, s', hr, h⟩ := h; exact ⟨r, s', hr, ih r Q E p s' (Nat.le_trans hn (returns_hsz hr)) h⟩
  | handled own k ih => intro Q E p s hn h; exact ih _ Q E p s hn h
  | genState g k ih => intro Q E p s hn h; obtain ⟨st, hs, h⟩ := h; exact ⟨st, hs, ih _ Q E p s hn h⟩
  | newGen c k ih => intro Q E p s hn h; exact ih _ Q E p _ hn h
  | resume g r _ k ih => intro Q E p s hn h; obtain ⟨res, s', hw, h⟩ := h; exact ⟨res, s', hw, ih res Q E p s' (Nat.le_trans hn (wakes_hsz hw)) h⟩
  | yield _ _ _ _ => intro Q E p s _ h; exact h
  | stack k ih => intro Q E p s hn h; exact ih _ Q E p s hn h
  | fork _ _ => intro Q E p s _ h; exact h
  | thread k ih => intro Q E p s hn h; exact ih _ Q E p s hn h
  | await _ _ _ _ _ => intro Q E p s _ h; exact h
theorem wpAny_hsz {α : Type} {M : Model} {A : Around} {s : Shared} {t : Sem α} {Q : α → Shared → Prop} {E : Value → Shared → Prop}
    (h : wpAny M A t (fun a s' => s.heap.objs.size ≤ s'.heap.objs.size → Q a s') (fun e s' => s.heap.objs.size ≤ s'.heap.objs.size → E e s') s) : wpAny M A t Q E s :=
  wpAny_mono (fun Γ p hΓ => wp_hsz M Γ _ t _ _ p s (Nat.le_refl _) (h Γ p hΓ) : wpAny M A t (fun a s' => s.heap.objs.size ≤ s'.heap.objs.size ∧ (s.heap.objs.size ≤ s'.heap.objs.size → Q a s')) (fun e s' => s.heap.objs.size ≤ s'.heap.objs.size ∧ (s.heap.objs.size ≤ s'.heap.objs.size → E e s')) s)
    (fun _ _ x => x.2 x.1) fun _ _ x => x.2 x.1
end Den
set_option maxRecDepth 100000
/-! Small expressions read in a frame of their own: keys of a sort, elements of a generator. -/
namespace Den
open PySem L2 PyProof.Rows
abbrev Kp (h h' : Heap) : Prop := ∀ b o, h.get? b = some o → h'.get? b = some o
/-- e, read in env on any heap that keeps h0, gives a value with R; all that was stays -/
def Px (P : Program) (w : World) (env : PySem.Env) (h0 : Heap) (e : Expr) (R : Value → Heap → Prop) : Prop :=
  ∀ (A : Around) (E : Value → Shared → Prop) (s : Shared), Kp h0 s.heap → wpAny (model P w) A (eval e env) (fun y s' => R y s'.heap ∧ Keeps s s') E s
section
variable {P : Program} {w : World} {env : PySem.Env} {h0 : Heap} {R R' : Value → Heap → Prop} {e a b : Expr} {x : Str} {pos p : Pos}
theorem keeps_tok (s : Shared) (k : Nat) : Keeps s { s with toks := k } := ⟨s.heap, k, rfl, fun _ _ e => e⟩
theorem keeps_rfl (s : Shared) : Keeps s s := keeps_tok s s.toks
theorem kpH {s s' : Shared} (k : Keeps s s') : Kp s.heap s'.heap := by
  obtain ⟨h, tk, rfl, kp⟩ := k
  exact kp
theorem kpT {s s' s'' : Shared} (k : Keeps s s') (k' : Keeps s' s'') : Keeps s s'' := by
  obtain ⟨h, tk, rfl, kp⟩ := k
  obtain ⟨h', tk', rfl, kp'⟩ := k'
  exact ⟨h', tk', rfl, fun b o e => kp' b o (kp b o e)⟩
theorem px_imp (p : Px P w env h0 e R) (i : ∀ y h, Kp h0 h → R y h → R' y h) : Px P w env h0 e R' := fun A E s k =>
  wpAny_mono (p A E s k) (fun y s' q => ⟨i y _ (fun b o e => kpH q.2 b o (k b o e)) q.1, q.2⟩) fun _ _ e => e
theorem px_local {m : Str → Option Value} {v : Value} (hk : env.scope.kind = .function) (hl : env.kindOf x = some .local) (hn : h0.Ns env.locals m) (hv : m x = some v) (hd : (x == ("__debug__" : Str)) = false := by decide) : Px P w env h0 (.Name x pos) fun y _ => y = v := fun A E s k =>
  wpAny_Name (wpAny_loadName_local hk hl (hn.keeps k) hv ⟨rfl, keeps_rfl s⟩) hd
theorem px_free {c : Addr} {v : Value} (hk : env.scope.kind = .function) (hl : env.kindOf x = some .free) (hc : env.cells.lookup x = some c) (hv : h0.IsCell c (some v)) (hd : (x == ("__debug__" : Str)) = false := by decide) (hn : (x == ("__classdict__" : Str)) = false := by decide) : Px P w env h0 (.Name x pos) fun y _ => y = v := fun A E s k =>
  wpAny_Name (wpAny_loadName_free hk hl hc (by obtain ⟨o, h1, h2⟩ := hv; exact ⟨o, k _ _ h1, h2⟩) ⟨rfl, keeps_rfl s⟩ hn) hd
theorem px_int {i : Int} {k : Nat} : Px P w env h0 (.Constant (.int i) k pos) fun y _ => ∃ t, y = .int i t := fun A E s _ =>
  wpAny_Constant_int ⟨⟨_, rfl⟩, keeps_tok _ _⟩
theorem px_str {i : Str} {k : Nat} : Px P w env h0 (.Constant (.str i) k pos) fun y _ => ∃ t, y = .str i t := fun A E s _ =>
  Calls.Constant_str ⟨⟨_, rfl⟩, keeps_tok _ _⟩
theorem px_neg {i : Int} (ha : Px P w env h0 a fun y _ => ∃ t, y = .int i t) : Px P w env h0 (.UnaryOp .USub a pos) fun y _ => ∃ t, y = .int (-i) t := fun A E s k =>
  wpAny_UnaryOp (wpAny_mono (ha A E s k) (fun y s' q => by
    obtain ⟨⟨t, rfl⟩, q⟩ := q
    exact neg_int ⟨⟨_, rfl⟩, kpT q (keeps_tok _ _)⟩) fun _ _ e => e)
/-- two parts, a tuple of them -/
theorem px_tup2 {Ra Rb : Value → Heap → Prop} {k : Nat} (ha : Px P w env h0 a Ra) (hb : Px P w env h0 b Rb) (ma : ∀ v h h', Kp h h' → Ra v h → Ra v h') (mb : ∀ v h h', Kp h h' → Rb v h → Rb v h')
    (he : starEach [a, b] env = [(false, eval a env), (false, eval b env)] := by rfl) : Px P w env h0 (.Tuple [a, b] k pos) fun y h => ∃ (t : Addr) (va vb : Value), y = .ref t ∧ h.get? t = some { cls := .type "tuple", data := .seq #[va, vb] } ∧ Ra va h ∧ Rb vb h := fun A E s kp => by
  refine wpAny_Tuple ?_
  rw [he]
  refine Calls.spliced_cons (wpAny_mono (ha A E s kp) (fun va s1 q1 => ?_) fun _ _ e => e)
  refine Calls.spliced_cons (wpAny_mono (hb A E s1 (fun b o e => kpH q1.2 b o (kp b o e))) (fun vb s2 q2 => ?_) fun _ _ e => e)
  refine Calls.spliced_nil ⟨lim_size (show 2 ≤ lim by decide), ⟨_, va, vb, rfl, Heap.get?_push_size _ rfl, ?_, ?_⟩, ?_⟩
  · exact ma _ _ _ (fun b o e => Heap.get?_push_of_some _ (kpH q2.2 b o e)) q1.1
  · exact mb _ _ _ (fun b o e => Heap.get?_push_of_some _ e) q2.1
  · obtain ⟨h, tk, rfl, kp2⟩ := kpT q1.2 q2.2
    exact ⟨_, _, rfl, fun b o e => Heap.get?_push_of_some _ (kp2 b o e)⟩
end
section
variable {P : Program} {w : World} {env : PySem.Env} {h0 : Heap} {a b : Expr} {pos : Pos}
/-- z[i], z a text -/
theorem px_ixS {z : Str} {i : Int} {c : Nat} (ha : Px P w env h0 a fun y _ => ∃ t, y = .str z t) (hb : Px P w env h0 b fun y _ => ∃ t, y = .int i t) (hz : z.length ≤ sizeLine) (he : L2.atI z.cps.toList i = some c) (hs : PlainIx b := by exact fun _ _ => rfl) :
    Px P w env h0 (.Subscript a b pos) fun y _ => ∃ t, y = .str ⟨#[c]⟩ t := fun A E s kp => by
  refine Subscript_ (wpAny_mono (ha A E s kp) (fun o s1 q1 => wpAny_mono (hb A E s1 (fun b' o' e => kpH q1.2 b' o' (kp b' o' e))) (fun u s2 q2 => ?_) fun _ _ e => e) fun _ _ e => e)
  obtain ⟨⟨t, rfl⟩, k1⟩ := q1
  obtain ⟨⟨t', rfl⟩, k2⟩ := q2
  obtain ⟨j, h1, h2, h3, h4, h5⟩ := atI_get he
  have hl : z.cps.toList.length = z.length := by simp [Str.length]
  rw [hl] at h1 h4 h5
  have hn := line63
  exact tail_any (typeIs_str s2 z t) slot_str_getitem.lookup (PySem.P.getItem_str (c := c) (by
    have e1 : decide (i < -(2 ^ 63 : Int)) = false := decide_eq_false (by omega)
    have e2 : decide (i ≥ 2 ^ 63) = false := decide_eq_false (by omega)
    rw [e1, e2, Bool.or_false]) (by rw [h1]; simpa using h2) ⟨⟨_, rfl⟩, kpT k1 (kpT k2 (keeps_tok _ _))⟩) (hs _ _)
/-- xs[i], xs a list -/
theorem px_ixL {its : List Value} {i : Int} {v : Value} (ha : Px P w env h0 a fun y h => ∃ p, y = .ref p ∧ h.IsList p its.toArray) (hb : Px P w env h0 b fun y _ => ∃ t, y = .int i t) (hm : ∀ (p : Addr) (h h' : Heap), Kp h h' → h.IsList p its.toArray → h'.IsList p its.toArray) (hz : its.length ≤ sizeLine) (he : L2.atI its i = some v) (hs : PlainIx b := by exact fun _ _ => rfl) :
    Px P w env h0 (.Subscript a b pos) fun y _ => y = v := fun A E s kp => by
  refine Subscript_ (wpAny_mono (ha A E s kp) (fun o s1 q1 => wpAny_mono (hb A E s1 (fun b' o' e => kpH q1.2 b' o' (kp b' o' e))) (fun u s2 q2 => ?_) fun _ _ e => e) fun _ _ e => e)
  obtain ⟨⟨p, rfl, hp⟩, k1⟩ := q1
  obtain ⟨⟨t', rfl⟩, k2⟩ := q2
  have hp2 := hm p _ _ (kpH k2) hp
  obtain ⟨j, h1, h2, h3, h4, h5⟩ := atI_get he
  have hn := line63
  have fin : (fun y (s' : Shared) => (y = v) ∧ Keeps s s') v s2 := ⟨rfl, kpT k1 k2⟩
  by_cases hi : 0 ≤ i
  · have hj : i.toNat = j := by
      rw [seqIndex_of hi h5] at h1
      exact Option.some.inj h1
    exact item_listR hp2 hi (by omega) (by rw [hj]; simpa using h2) fin (hs _ _)
  · have hj : (i + (its.toArray.size : Int)).toNat = j := by
      rw [seqIndex_neg (by omega) h4] at h1
      rw [List.size_toArray]
      exact Option.some.inj h1
    exact subscriptTail_builtinR (x := v) hp2.typeIs slot_list_getitem.lookup
      (wpAny_getItem_list_neg (Q := fun r s' => r = v ∧ ((fun y (s' : Shared) => (y = v) ∧ Keeps s s') r s')) hp2 (by omega) (by rw [List.size_toArray] <;> omega) (by omega) (by rw [hj]; simpa using h2) ⟨rfl, fin⟩) (hs _ _)
end
end Den
set_option maxRecDepth 100000
/-! Sorted lists of any plain data. -/
namespace Den
open PySem L2 PyProof.Rows
/-- zipped, sorted by the second, the first of each -/
def sortBy {α : Type} (xs : List α) (ds : List PyData) : List α := ((xs.zip ds).mergeSort (PySem.W.dataLe false Prod.snd)).map Prod.fst
theorem sortBy_length {α : Type} {xs : List α} {ds : List PyData} (h : xs.length = ds.length) : (sortBy xs ds).length = xs.length := by
  unfold sortBy
  rw [List.length_map, List.length_mergeSort, List.length_zip, h]
  exact Nat.min_self _
/-- all of one kind, none is None -/
def kindOk (ds : List PyData) : Bool := ds.all fun d => (ds.all fun e => PySem.W.alike d e) && decide (d.depth ≤ 16) && (match d with
  | .tuple [] => false
  | .none => false
  | _ => true)
section
variable {X : Cx}
theorem kindOk_alike {ds : List PyData} (h : kindOk ds = true) : PySem.W.AllAlike ds := fun d hd e he => by
  unfold kindOk at h
  have h1 := (List.all_eq_true.1 h) d hd
  simp only [Bool.and_eq_true] at h1
  exact (List.all_eq_true.1 h1.1.1) e he
theorem kindOk_depth {ds : List PyData} (h : kindOk ds = true) : ∀ d ∈ ds, d.depth ≤ 16 := fun d hd => by
  unfold kindOk at h
  have h1 := (List.all_eq_true.1 h) d hd
  simp only [Bool.and_eq_true, decide_eq_true_eq] at h1
  exact h1.1.2
theorem kindOk_sortable {ds : List PyData} (h : kindOk ds = true) : PySem.W.Sortable ds := by
  have hk := h
  unfold kindOk at h
  by_cases ht : ∃ d ∈ ds, ∃ xs, d = .tuple xs
  · obtain ⟨d, hd, xs, rfl⟩ := ht
    refine .inl fun e he => ?_
    have ha := kindOk_alike hk _ hd _ he
    have h1 := (List.all_eq_true.1 h) e he
    cases e with
    | tuple ys =>
      cases ys with
      | nil => simp at h1
      | cons y r => exact ⟨y, r, rfl⟩
    | none => simp [PySem.W.alike] at ha
    | bool b => simp [PySem.W.alike] at ha
    | int i => simp [PySem.W.alike] at ha
    | str s => simp [PySem.W.alike] at ha
    | list l => simp [PySem.W.alike] at ha
    | dict l => simp [PySem.W.alike] at ha
  · refine .inr fun d hd => ⟨fun e => ?_, fun xs e => ht ⟨d, hd, xs, e⟩⟩
    have h1 := (List.all_eq_true.1 h) d hd
    subst e
    simp at h1
def rSortD (K : PySem.W.Frag) : List V → Hp → VK → Prop := fun vs H Q => ∃ (a : Addr) (xs : List V) (ds : List PyData), vs = [V.ref a] ∧ SqL K H a xs ∧ DpAll K H xs ds ∧ kindOk ds = true ∧ ∀ p, H p = none → Q (.ref p) (upd H p (.lst (sortBy xs ds)))
theorem dpAll_len {K : PySem.W.Frag} {H : Hp} : ∀ {xs : List V} {ds : List PyData}, DpAll K H xs ds → xs.length = ds.length
  | _, _, .nil => rfl
  | _, _, .cons _ r => by rw [List.length_cons, List.length_cons, dpAll_len r]
theorem each_zip {its : List Value} : ∀ {xs : List V} {ds : List PyData}, Vals xs its → xs.length = ds.length → PySem.W.EachIs (fun v (b : V × PyData) => RelV b.1 v) its (xs.zip ds) := by
  induction its with
  | nil =>
    intro xs ds r h
    cases r
    exact .nil
  | cons u us ih =>
    intro xs ds r h
    cases r with
    | cons r1 r2 =>
      cases ds with
      | nil => simp at h
      | cons d ds => exact .cons r1 (ih r2 (by simpa using h))
theorem each_reads {h : Heap} {its : List Value} : ∀ {xs : List V} {ds : List PyData} {as : List Addr}, xs.length = ds.length → ReadsAll h its ds as → PySem.W.EachIs (fun v (b : V × PyData) => ∃ as, Reads h v b.2 as) its (xs.zip ds) := by
  induction its with
  | nil =>
    intro xs ds as hl r
    cases r
    rw [List.zip_nil_right]
    exact .nil
  | cons u us ih =>
    intro xs ds as hl r
    cases r with
    | cons r1 r2 =>
      cases xs with
      | nil => simp at hl
      | cons x xs => exact .cons ⟨_, r1⟩ (ih (by simpa using hl) r2)
theorem vals_each : ∀ {out : List Value} {bs : List (V × PyData)}, PySem.W.EachIs (fun v (b : V × PyData) => RelV b.1 v) out bs → Vals (bs.map Prod.fst) out
  | _, _, .nil => .nil
  | _, _, .cons r h => .cons r (vals_each h)
theorem zip_snd {xs : List V} {ds : List PyData} (h : xs.length = ds.length) : (xs.zip ds).map Prod.snd = ds := by
  rw [List.map_snd_zip (by omega)]
theorem cr_sortedD (hc : X.calm = true) (hu : X.A.units + 64 < cLine) : CallR X (.builtin "sorted") (rSortD X.K) := by
  intro pins s σ H vs us Q I r h
  obtain ⟨a, xs, ds, rfl, hs, hd, hk, q⟩ := h
  obtain ⟨its, rv, hl, hz⟩ := I.list hs
  rw [Vals.ref1 r]
  have hlen := dpAll_len hd
  obtain ⟨as, rd⟩ := Dp.readsAll I ds xs its hd rv
  refine PySem.W.sorted_data (bs := xs.zip ds) (enc := Prod.snd) (R := fun v b => RelV b.1 v) hl.isList (each_zip rv hlen) (each_reads hlen rd) (by rw [zip_snd hlen]; exact kindOk_alike hk) (by rw [zip_snd hlen]; exact kindOk_sortable hk)
    (by rw [List.length_zip]; exact Nat.le_trans (Nat.min_le_left _ _) hz) (fun b hb => by
      have := kindOk_depth hk b.2 (by rw [← zip_snd hlen]; exact List.mem_map_of_mem hb)
      omega) fun out ho he => ?_
  obtain ⟨ep, he'⟩ := PyProof.Rows.sortedAll_at s.heap its out.toArray
  refine ⟨.ref _, upd H (s.heap.objs.size + 1) (.lst (sortBy xs ds)), I.laid (t' := s.toks) (fun _ _ => PyProof.Rows.sortedAll_old) (Nat.le_succ _) ⟨?_, out, ep, vals_each he, he'⟩, rfl, q _ (I.hok.fresh (Nat.le_succ _))⟩
  rw [sortBy_length hlen]
  exact hz
end
section
variable {K : PySem.W.Frag} {H : Hp} {ρ : List Addr}
theorem vrs_pairs : ∀ l : List (V × W), (∀ p ∈ l, VR K H ρ p.1 p.2) → VRs K H ρ (l.map Prod.fst) (l.map Prod.snd)
  | [], _ => .nil
  | p :: l, h => .cons (h p List.mem_cons_self) (vrs_pairs l fun q hq => h q (List.mem_cons_of_mem _ hq))
theorem vrs_zip : ∀ {vs : List V} {ws : List W}, VRs K H ρ vs ws → ∀ p ∈ vs.zip ws, VR K H ρ p.1 p.2
  | [], ws, _, p, hp => by simp at hp
  | v :: vs, [], r, p, hp => by simp at hp
  | v :: vs, w :: ws, r, p, hp => by
    unfold VRs at r
    obtain ⟨v', vs', e, q, z⟩ := r
    cases e
    rcases List.mem_cons.1 hp with rfl | hp
    · exact q
    · exact vrs_zip z p hp
theorem zip3 {α β γ : Type} : ∀ (xs : List α) (ys : List β) (ds : List γ), xs.length = ys.length → ((xs.zip ys).zip ds).map (fun t => (t.1.1, t.2)) = xs.zip ds ∧ ((xs.zip ys).zip ds).map (fun t => (t.1.2, t.2)) = ys.zip ds
  | [], [], ds, _ => ⟨rfl, rfl⟩
  | x :: xs, y :: ys, [], _ => ⟨rfl, rfl⟩
  | x :: xs, y :: ys, d :: ds, h => by
    obtain ⟨a, b⟩ := zip3 xs ys ds (by simpa using h)
    exact ⟨by simp [a], by simp [b]⟩
  | [], _ :: _, _, h => by simp at h
  | _ :: _, [], _, h => by simp at h
theorem sortBy_map {α β : Type} (f : α → β) (l : List (α × PyData)) : ((l.map fun t => (f t.1, t.2)).mergeSort (PySem.W.dataLe false Prod.snd)) = (l.mergeSort (PySem.W.dataLe false Prod.snd)).map fun t => (f t.1, t.2) := by
  symm
  apply List.map_mergeSort
  intro a _ b _
  rfl
theorem vrs_sortBy {vs : List V} {ws : List W} {ds : List PyData} (r : VRs K H ρ vs ws) : VRs K H ρ (sortBy vs ds) (sortBy ws ds) := by
  obtain ⟨a, b⟩ := zip3 vs ws ds r.length
  unfold sortBy
  rw [← a, ← b, sortBy_map Prod.fst, sortBy_map Prod.snd, List.map_map, List.map_map]
  have e1 : (Prod.fst ∘ fun t : (V × W) × PyData => (t.1.1, t.2)) = Prod.fst ∘ (fun t : (V × W) × PyData => t.1) := rfl
  have e2 : (Prod.fst ∘ fun t : (V × W) × PyData => (t.1.2, t.2)) = Prod.snd ∘ (fun t : (V × W) × PyData => t.1) := rfl
  rw [e1, e2, ← List.map_map, ← List.map_map]
  refine vrs_pairs _ fun p hp => ?_
  obtain ⟨t, ht, rfl⟩ := List.mem_map.1 hp
  have ht2 := (List.mergeSort_perm _ _).mem_iff.1 ht
  exact vrs_zip r _ (List.of_mem_zip ht2).1
end
def oSorted (ws : List W) (h : List O) : Out W := match ws with
  | [x] => match sqL x h with
    | some xs => match mapO (dat h 7) xs with
      | some ds => if kindOk ds = true then .ok (.ref h.length) (h ++ [.lst (sortBy xs ds)]) else .bad
      | none => .bad
    | none => .bad
  | _ => .bad
theorem cas_sorted {G : Gx} {X : Cx} (hc : X.calm = true) (hu : X.A.units + 64 < cLine) : CaS G X (.builtin "sorted") oSorted := ⟨_, cr_sortedD hc hu, fun E H ρ h vs ws Q hr r p => by
  unfold oSorted at p
  split at p
  · obtain ⟨v, rfl, q⟩ := r.inv1
    split at p
    · rename_i xs hx
      split at p
      · rename_i ds hd
        split at p
        · rename_i hk
          obtain ⟨a, vs, rfl, q, z⟩ := sqL_ok hr q hx
          exact ⟨a, vs, ds, rfl, q, mapO_dp (fun v w d r e => dat_dp hr 7 v w d r e) z hd, hk, new_lst hr (vrs_sortBy z) p⟩
        · exact False.elim p
      · exact False.elim p
    · exact False.elim p
  · exact False.elim p⟩
end Den
set_option maxRecDepth 100000
/-! in, not in. -/
namespace Den
open PySem L2 PyProof.Rows
theorem inV_ints (i : Int) (l : List Int) : inV (.int i) (l.map V.int) = decide (i ∈ l) := by
  unfold inV
  induction l with
  | nil => rfl
  | cons j l ih =>
    rw [List.map_cons, List.any_cons, ih]
    by_cases h : j = i
    · subst h; simp [eqV]
    · have h2 : ¬ i = j := fun e => h e.symm
      simp [eqV, h, h2]
theorem inV_strs (s : List Nat) (l : List (List Nat)) : inV (.str (mkS s)) ((l.map mkS).map V.str) = decide (s ∈ l) := by
  unfold inV
  induction l with
  | nil => rfl
  | cons j l ih =>
    rw [List.map_cons, List.map_cons, List.any_cons, ih]
    by_cases h : j = s
    · subst h; simp [eqV]
    · have h2 : ¬ s = j := fun e => h e.symm
      have h3 : mkS j ≠ mkS s := fun e => h (by have := congrArg (fun z : Str => z.cps.toList) e; simpa using this)
      simp [eqV, h2, h3]
/-- x in y, where it is known -/
def inW (x y : W) (h : List O) : Option Bool := match x, y with
  | .str [c], .str s => some (decide (c ∈ s))
  | .int i, .tup xs => (intsOf xs).map fun l => decide (i ∈ l)
  | .str s, .tup xs => (strsOf xs).map fun l => decide (s ∈ l)
  | x, y => match dat h 8 x, dat h 8 y with
    | some d, some (.list ds) => some (ds.any fun z => PyData.eqv z d)
    | _, _ => none
def oIn (x y : W) (h : List O) : Out W := match inW x y h with
  | some b => .ok (.bl b) h
  | none => .bad
def oNotIn (x y : W) (h : List O) : Out W := match inW x y h with
  | some b => .ok (.bl !b) h
  | none => .bad
theorem inW_ok {K : PySem.W.Frag} {G : Gx} {H : Hp} {ρ : List Addr} {h : List O} {x y : V} {wx wy : W} {b : Bool} (hr : HR K G H ρ h) (rx : VR K H ρ x wx) (ry : VR K H ρ y wy) (e : inW wx wy h = some b) :
    (∃ (c : Nat) (z : Str), x = .str ⟨#[c]⟩ ∧ y = .str z ∧ decide (c ∈ z.cps.toList) = b) ∨ (∃ p xs, y = .ref p ∧ (SqL K H p xs ∨ SqT K H p xs) ∧ flatV x = true ∧ xs.all flatV = true ∧ inV x xs = b) ∨
      ∃ d ds, Dp K H x d ∧ Dp K H y (.list ds) ∧ SeqAt.shaped d = true ∧ SeqAt.shaped (.list ds) = true ∧ (ds.any fun z => PyData.eqv z d) = b := by
  unfold inW at e
  split at e
  · cases e
    exact .inl ⟨_, _, rx.str, ry.str, rfl⟩
  · rename_i i xs
    cases hl : intsOf xs with
    | none => rw [hl] at e; cases e
    | some l =>
      rw [hl] at e
      cases e
      obtain ⟨a, vs, rfl, q, z⟩ := sqT_ok ry (show sqT (.tup xs) = some xs from rfl)
      rw [intsOf_ok z hl] at q
      exact .inr (.inl ⟨a, _, rfl, .inr q, by rw [rx.int]; rfl, flat_ints l, by rw [rx.int]; exact inV_ints i l⟩)
  · rename_i s xs
    cases hl : strsOf xs with
    | none => rw [hl] at e; cases e
    | some l =>
      rw [hl] at e
      cases e
      obtain ⟨a, vs, rfl, q, z⟩ := sqT_ok ry (show sqT (.tup xs) = some xs from rfl)
      rw [strsOf_ok z hl] at q
      exact .inr (.inl ⟨a, _, rfl, .inr q, by rw [rx.str]; rfl, flat_strs l, by rw [rx.str]; exact inV_strs s l⟩)
  · split at e
    · rename_i d ds hd hds
      cases e
      exact .inr (.inr ⟨d, ds, dat_dp hr 8 _ _ _ rx hd, dat_dp hr 8 _ _ _ ry hds, dat_shaped hd, dat_shaped hds, rfl⟩)
    · cases e
theorem ops_in {G : Gx} {X : Cx} (hu : X.A.units + 65 < cLine) : OpS G X (compareOp .In) oIn := ⟨_, OpR.or op_in_sign (OpR.or op_in_seq (op_inD hu)), fun E H ρ h x y wx wy Q hr rx ry p => by
  unfold oIn at p
  split at p
  · rename_i b hb
    have q : Q (.bl b) H := p.here hr vr_bl
    rcases inW_ok hr rx ry hb with ⟨c, z, h1, h2, h3⟩ | ⟨p, xs, h1, h2, h3, h4, h5⟩ | ⟨d, ds, h1, h2, h3, h4, h5⟩
    · exact .inl ⟨c, z, h1, h2, by rw [h3]; exact q⟩
    · exact .inr (.inl ⟨p, xs, h1, h2, h3, h4, by rw [h5]; exact q⟩)
    · exact .inr (.inr ⟨d, ds, h1, h2, h3, h4, by rw [h5]; exact q⟩)
  · exact False.elim p⟩
theorem ops_notin {G : Gx} {X : Cx} (hu : X.A.units + 65 < cLine) : OpS G X (compareOp .NotIn) oNotIn := ⟨_, OpR.or op_notIn_sign (OpR.or op_notIn_seq (op_notInD hu)), fun E H ρ h x y wx wy Q hr rx ry p => by
  unfold oNotIn at p
  split at p
  · rename_i b hb
    have q : Q (.bl !b) H := p.here hr vr_bl
    rcases inW_ok hr rx ry hb with ⟨c, z, h1, h2, h3⟩ | ⟨p, xs, h1, h2, h3, h4, h5⟩ | ⟨d, ds, h1, h2, h3, h4, h5⟩
    · exact .inl ⟨c, z, h1, h2, by rw [h3]; exact q⟩
    · exact .inr (.inl ⟨p, xs, h1, h2, h3, h4, by rw [h5]; exact q⟩)
    · exact .inr (.inr ⟨d, ds, h1, h2, h3, h4, by rw [h5]; exact q⟩)
  · exact False.elim p⟩
end Den
set_option maxRecDepth 100000
/-! min, max of lists of any plain data. -/
namespace Den
open PySem L2 PyProof.Rows
mutual
/-- plain data as a value -/
def ofDat : PyData → W
  | .none => .non
  | .bool b => .bl b
  | .int i => .int i
  | .str s => .str s.cps.toList
  | .tuple ds => .tup (ofDats ds)
  | _ => .non
def ofDats : List PyData → List W
  | [] => []
  | d :: ds => ofDat d :: ofDats ds
end
theorem ofDat_ok {h : List O} : ∀ (n : Nat) (w : W) (d : PyData), pureW w = true → dat h n w = some d → ofDat d = w
  | 0, w, d, _, e => by unfold dat at e; cases e
  | n + 1, .non, d, _, e => by unfold dat at e; cases e; rfl
  | n + 1, .bl b, d, _, e => by unfold dat at e; cases e; rfl
  | n + 1, .int i, d, _, e => by unfold dat at e; cases e; rfl
  | n + 1, .str s, d, _, e => by
    unfold dat at e
    split at e
    · cases e
      unfold ofDat
      simp
    · cases e
  | n + 1, .rol xs, d, p, _ => by unfold pureW at p; cases p
  | n + 1, .ref k, d, p, _ => by unfold pureW at p; cases p
  | n + 1, .tup xs, d, p, e => by
    unfold dat at e
    unfold pureW at p
    cases hx : mapO (dat h n) xs with
    | none => rw [hx] at e; cases e
    | some ds =>
      rw [hx] at e
      cases e
      unfold ofDat
      congr 1
      have go : ∀ (xs : List W) (ds : List PyData), pureWs xs = true → mapO (dat h n) xs = some ds → ofDats ds = xs := by
        intro xs
        induction xs with
        | nil => intro ds _ e; cases e; rfl
        | cons x xs ih =>
          intro ds p e
          unfold pureWs at p
          rw [Bool.and_eq_true] at p
          unfold mapO at e
          cases h1 : dat h n x with
          | none => rw [h1] at e; cases e
          | some d1 =>
            rw [h1] at e
            dsimp only at e
            cases h2 : mapO (dat h n) xs with
            | none => rw [h2] at e; cases e
            | some ds2 =>
              rw [h2] at e
              cases e
              unfold ofDats
              rw [ofDat_ok n x d1 p.1 h1, ih ds2 p.2 h2]
      exact go xs ds p hx
section
variable {X : Cx}
def rBestD (f : PyData → List PyData → PyData) (K : PySem.W.Frag) : List V → Hp → VK → Prop := fun vs H Q => ∃ (a : Addr) (xs : List V) (d : PyData) (ds : List PyData), vs = [V.ref a] ∧ SqL K H a xs ∧ DpAll K H xs (d :: ds) ∧ kindOk (d :: ds) = true ∧ PyData.depthAll (d :: ds) ≤ 16 ∧
  ∀ (i : Nat) (v : V), xs[i]? = some v → (d :: ds)[i]? = some (f d ds) → Q v H
theorem kindOk_all {ds : List PyData} (h : kindOk ds = true) : PySem.W.AlikeAll ds := ⟨kindOk_alike h, fun d hd e => by
  unfold kindOk at h
  have h1 := (List.all_eq_true.1 h) d hd
  subst e
  simp at h1⟩
theorem readsAll_get {h : Heap} : ∀ {us : List Value} {ds : List PyData} {as : List Addr} {i : Nat} {u : Value}, ReadsAll h us ds as → us[i]? = some u → ∃ d as', ds[i]? = some d ∧ Reads h u d as'
  | _, _, _, i, u, .nil, e => by simp at e
  | _, _, _, 0, u, .cons r _, e => by cases e; exact ⟨_, _, rfl, r⟩
  | _, _, _, i + 1, u, .cons _ r, e => readsAll_get (i := i) r e
theorem cr_minD (hc : X.calm = true) (hu : X.A.units + 64 < cLine) : CallR X (.builtin "min") (rBestD PySem.W.minD X.K) := by
  intro pins s σ H vs us Q I r h
  obtain ⟨a, xs, d, ds, rfl, hs, hd, hk, hdp, q⟩ := h
  obtain ⟨its, rv, hl, _⟩ := I.list hs
  rw [Vals.ref1 r]
  obtain ⟨as, rd⟩ := Dp.readsAll I (d :: ds) xs its hd rv
  refine PySem.W.min_list_data (I.ok.hd hc) hl.isList (by simpa using rd) (kindOk_all hk) (by omega) fun i v h' tk bs hv hr hkp => ?_
  have hv2 : its[i]? = some v := by simpa using hv
  obtain ⟨d', as', hd', rd'⟩ := readsAll_get rd hv2
  have e := (reads_det (h := s.heap) (h' := h') (fun b o e _ => hkp b o e) rd' hr).1
  obtain ⟨hi, _⟩ := List.getElem?_eq_some_iff.mp hv2
  have hlen := rv.length
  have e3 : xs[i]? = some (xs[i]'(by omega)) := List.getElem?_eq_getElem (by omega)
  obtain ⟨u, e4, ru⟩ := rv.get e3
  rw [hv2] at e4
  cases e4
  exact ⟨xs[i]'(by omega), H, I.kept hkp, ru, q i _ e3 (by rw [hd', e])⟩
theorem cr_maxD (hc : X.calm = true) (hu : X.A.units + 64 < cLine) : CallR X (.builtin "max") (rBestD PySem.W.maxD X.K) := by
  intro pins s σ H vs us Q I r h
  obtain ⟨a, xs, d, ds, rfl, hs, hd, hk, hdp, q⟩ := h
  obtain ⟨its, rv, hl, _⟩ := I.list hs
  rw [Vals.ref1 r]
  obtain ⟨as, rd⟩ := Dp.readsAll I (d :: ds) xs its hd rv
  refine PySem.W.max_list_data (I.ok.hd hc) hl.isList (by simpa using rd) (kindOk_all hk) (by omega) fun i v h' tk bs hv hr hkp => ?_
  have hv2 : its[i]? = some v := by simpa using hv
  obtain ⟨d', as', hd', rd'⟩ := readsAll_get rd hv2
  have e := (reads_det (h := s.heap) (h' := h') (fun b o e _ => hkp b o e) rd' hr).1
  obtain ⟨hi, _⟩ := List.getElem?_eq_some_iff.mp hv2
  have hlen := rv.length
  have e3 : xs[i]? = some (xs[i]'(by omega)) := List.getElem?_eq_getElem (by omega)
  obtain ⟨u, e4, ru⟩ := rv.get e3
  rw [hv2] at e4
  cases e4
  exact ⟨xs[i]'(by omega), H, I.kept hkp, ru, q i _ e3 (by rw [hd', e])⟩
end
def bestD (f : PyData → List PyData → PyData) (ws : List W) (h : List O) : Out W := match ws with
  | [x] => match sqL x h with
    | some xs => match mapO (dat h 7) xs with
      | some (d :: ds) => if kindOk (d :: ds) = true ∧ PyData.depthAll (d :: ds) ≤ 16 ∧ pureWs xs = true then .ok (ofDat (f d ds)) h else .bad
      | _ => .bad
    | none => .bad
  | _ => .bad
theorem mapO_get {f : W → Option PyData} : ∀ {xs : List W} {ds : List PyData} {i : Nat} {d : PyData}, mapO f xs = some ds → ds[i]? = some d → ∃ x, xs[i]? = some x ∧ f x = some d
  | [], ds, i, d, e, h => by cases e; simp at h
  | x :: xs, ds, i, d, e, h => by
    unfold mapO at e
    cases h1 : f x with
    | none => rw [h1] at e; cases e
    | some d1 =>
      rw [h1] at e
      dsimp only at e
      cases h2 : mapO f xs with
      | none => rw [h2] at e; cases e
      | some ds2 =>
        rw [h2] at e
        cases e
        cases i with
        | zero => cases h; exact ⟨x, rfl, h1⟩
        | succ i => exact mapO_get (i := i) h2 h
theorem pureWs_get : ∀ {xs : List W} {i : Nat} {x : W}, pureWs xs = true → xs[i]? = some x → pureW x = true
  | [], i, x, _, h => by simp at h
  | y :: xs, i, x, p, h => by
    unfold pureWs at p
    rw [Bool.and_eq_true] at p
    cases i with
    | zero => cases h; exact p.1
    | succ i => exact pureWs_get (i := i) p.2 h
theorem best_serves {K : PySem.W.Frag} {G : Gx} {f : PyData → List PyData → PyData} {E : XK} {H : Hp} {ρ : List Addr} {h : List O} {vs : List V} {ws : List W} {Q : VK} (hr : HR K G H ρ h) (r : VRs K H ρ vs ws) (p : Post K G E (VRel K) Q H ρ (bestD f ws h)) : rBestD f K vs H Q := by
  unfold bestD at p
  split at p
  · obtain ⟨v, rfl, q⟩ := r.inv1
    split at p
    · rename_i xs hx
      split at p
      · rename_i d ds hd
        split at p
        · rename_i hk
          obtain ⟨a, us, rfl, q, z⟩ := sqL_ok hr q hx
          refine ⟨a, us, d, ds, rfl, q, mapO_dp (fun v w d r e => dat_dp hr 7 v w d r e) z hd, hk.1, hk.2.1, fun i v hv hi => ?_⟩
          obtain ⟨x, hx1, hx2⟩ := mapO_get hd hi
          obtain ⟨v', hv', rv⟩ := z.get hx1
          rw [hv] at hv'
          cases hv'
          have e := ofDat_ok 7 x _ (pureWs_get hk.2.2 hx1) hx2
          rw [e] at p
          exact p.here hr rv
        · exact False.elim p
      · exact False.elim p
    · exact False.elim p
  · exact False.elim p
def oMinG (ws : List W) (h : List O) : Out W := match oMin ws h with
  | .bad => bestD PySem.W.minD ws h
  | o => o
def oMaxG (ws : List W) (h : List O) : Out W := match oMax ws h with
  | .bad => bestD PySem.W.maxD ws h
  | o => o
theorem cas_minG {G : Gx} {X : Cx} (hc : X.calm = true) (hu : X.A.units + 64 < cLine) : CaS G X (.builtin "min") oMinG := by
  obtain ⟨r, hr1, s⟩ := cas_min (G := G) hc hu
  refine ⟨_, CallR.or hr1 (cr_minD hc hu), fun E H ρ h vs ws Q hr rv p => ?_⟩
  unfold oMinG at p
  split at p
  · exact .inr (best_serves hr rv p)
  · exact .inl (s E H ρ h vs ws Q hr rv p)
theorem cas_maxG {G : Gx} {X : Cx} (hc : X.calm = true) (hu : X.A.units + 64 < cLine) : CaS G X (.builtin "max") oMaxG := by
  obtain ⟨r, hr1, s⟩ := cas_max (G := G) hc
  refine ⟨_, CallR.or hr1 (cr_maxD hc hu), fun E H ρ h vs ws Q hr rv p => ?_⟩
  unfold oMaxG at p
  split at p
  · exact .inr (best_serves hr rv p)
  · exact .inl (s E H ρ h vs ws Q hr rv p)
end Den
set_option maxRecDepth 100000
/-! The order of any plain data: <, <=, >, >=. -/
namespace Den
open PySem L2 PyProof.Rows
section
variable {X : Cx}
def rCmpD (f : PyData → PyData → Bool) (K : PySem.W.Frag) : R2 := fun x y H Q => ∃ d d', Dp K H x d ∧ Dp K H y d' ∧ PySem.W.alike d d' = true ∧ d ≠ .none ∧ min d.depth d'.depth ≤ 16 ∧ Q (.bl (f d d')) H
theorem op_ltD (hu : X.A.units + 64 < cLine) : OpR X (compareOp .Lt) (rCmpD PySem.W.dataLt X.K) := by
  intro pins s σ H x y v u Q I rx ry h
  obtain ⟨d, d', h1, h2, h3, h4, h5, q⟩ := h
  obtain ⟨as, r1⟩ := Dp.reads I d x v h1 rx
  obtain ⟨bs, r2⟩ := Dp.reads I d' y u h2 ry
  exact PySem.W.lt_data r1 r2 h3 h4 (by omega) (fin_bl I q rfl)
theorem op_gtD (hu : X.A.units + 64 < cLine) : OpR X (compareOp .Gt) (rCmpD (fun d d' => PySem.W.dataLt d' d) X.K) := by
  intro pins s σ H x y v u Q I rx ry h
  obtain ⟨d, d', h1, h2, h3, h4, h5, q⟩ := h
  obtain ⟨as, r1⟩ := Dp.reads I d x v h1 rx
  obtain ⟨bs, r2⟩ := Dp.reads I d' y u h2 ry
  exact PySem.W.gt_data r1 r2 h3 h4 (by omega) (fin_bl I q rfl)
theorem op_leD (hu : X.A.units + 64 < cLine) : OpR X (compareOp .LtE) (rCmpD (fun d d' => !PySem.W.dataLt d' d) X.K) := by
  intro pins s σ H x y v u Q I rx ry h
  obtain ⟨d, d', h1, h2, h3, h4, h5, q⟩ := h
  obtain ⟨as, r1⟩ := Dp.reads I d x v h1 rx
  obtain ⟨bs, r2⟩ := Dp.reads I d' y u h2 ry
  exact PySem.W.le_data r1 r2 h3 h4 (by omega) (fin_bl I q rfl)
theorem op_geD (hu : X.A.units + 64 < cLine) : OpR X (compareOp .GtE) (rCmpD (fun d d' => !PySem.W.dataLt d d') X.K) := by
  intro pins s σ H x y v u Q I rx ry h
  obtain ⟨d, d', h1, h2, h3, h4, h5, q⟩ := h
  obtain ⟨as, r1⟩ := Dp.reads I d x v h1 rx
  obtain ⟨bs, r2⟩ := Dp.reads I d' y u h2 ry
  exact PySem.W.ge_data r1 r2 h3 h4 (by omega) (fin_bl I q rfl)
end
def notNone : PyData → Bool
  | .none => false
  | _ => true
def cmpD (f : PyData → PyData → Bool) (x y : W) (h : List O) : Out W := match dat h 8 x, dat h 8 y with
  | some d, some d' => if PySem.W.alike d d' = true ∧ notNone d = true ∧ min d.depth d'.depth ≤ 16 then .ok (.bl (f d d')) h else .bad
  | _, _ => .bad
theorem cmp_serves {K : PySem.W.Frag} {G : Gx} {f : PyData → PyData → Bool} {E : XK} {H : Hp} {ρ : List Addr} {h : List O} {x y : V} {wx wy : W} {Q : VK} (hr : HR K G H ρ h) (rx : VR K H ρ x wx) (ry : VR K H ρ y wy) (p : Post K G E (VRel K) Q H ρ (cmpD f wx wy h)) : rCmpD f K x y H Q := by
  unfold cmpD at p
  split at p
  · rename_i d d' h1 h2
    split at p
    · rename_i hk
      refine ⟨d, d', dat_dp hr 8 _ _ _ rx h1, dat_dp hr 8 _ _ _ ry h2, hk.1, fun e => ?_, hk.2.2, p.here hr vr_bl⟩
      have := hk.2.1
      subst e
      cases this
    · exact False.elim p
  · exact False.elim p
def orElse (a b : W → W → List O → Out W) (x y : W) (h : List O) : Out W := match a x y h with
  | .bad => b x y h
  | o => o
def oLtG := orElse oLt (cmpD PySem.W.dataLt)
def oGtG := orElse oGt (cmpD fun d d' => PySem.W.dataLt d' d)
def oLeG := orElse oLe (cmpD fun d d' => !PySem.W.dataLt d' d)
def oGeG := orElse oGe (cmpD fun d d' => !PySem.W.dataLt d d')
section
variable {X : Cx} {G : Gx}
theorem ops_orElse {fv : Value → Value → Sem Value} {a : W → W → List O → Out W} {f : PyData → PyData → Bool} (h1 : OpS G X fv a) (h2 : OpR X fv (rCmpD f X.K)) : OpS G X fv (orElse a (cmpD f)) := by
  obtain ⟨r, hr1, s⟩ := h1
  refine ⟨_, OpR.or hr1 h2, fun E H ρ h x y wx wy Q hr rx ry p => ?_⟩
  unfold orElse at p
  split at p
  · exact .inr (cmp_serves hr rx ry p)
  · exact .inl (s E H ρ h x y wx wy Q hr rx ry p)
theorem ops_ltG (hu : X.A.units + 64 < cLine) : OpS G X (compareOp .Lt) oLtG := ops_orElse ops_lt (op_ltD hu)
theorem ops_gtG (hu : X.A.units + 64 < cLine) : OpS G X (compareOp .Gt) oGtG := ops_orElse ops_gt (op_gtD hu)
theorem ops_leG (hu : X.A.units + 64 < cLine) : OpS G X (compareOp .LtE) oLeG := ops_orElse ops_le (op_leD hu)
theorem ops_geG (hu : X.A.units + 64 < cLine) : OpS G X (compareOp .GtE) oGeG := ops_orElse ops_ge (op_geD hu)
end
end Den
set_option maxRecDepth 100000
/-! Expressions of plain data in frames of their own, by the same plain functions: keys of a sort, elements of a generator. -/
namespace Den
open PySem L2 PyProof.Rows
/-! ### a model value as plain data -/
mutual
def WV (h : Heap) : Value → W → Prop
  | v, .non => v = .none
  | v, .bl b => v = .bool b
  | v, .int i => ∃ t, v = .int i t
  | v, .str s => ∃ t, v = .str (mkS s) t
  | v, .tup xs => ∃ a vs, v = .ref a ∧ IsTup h a vs.toArray ∧ vs.length ≤ sizeLine ∧ WVs h vs xs
  | v, .rol xs => ∃ a vs, v = .ref a ∧ h.IsList a vs.toArray ∧ vs.length ≤ sizeLine ∧ WVs h vs xs
  | v, .ref n => False
def WVs (h : Heap) : List Value → List W → Prop
  | vs, [] => vs = []
  | vs, x :: xs => ∃ v r, vs = v :: r ∧ WV h v x ∧ WVs h r xs
end
mutual
theorem WV.mono {h h' : Heap} (k : Kp h h') : ∀ {v : Value} {w : W}, WV h v w → WV h' v w
  | v, .non, x => x
  | v, .bl _, x => x
  | v, .int _, x => x
  | v, .str _, x => x
  | v, .tup xs, x => by
    unfold WV at x ⊢
    obtain ⟨a, vs, e, ⟨o, p, q⟩, z, r⟩ := x
    exact ⟨a, vs, e, ⟨o, k _ _ p, q⟩, z, WVs.mono k r⟩
  | v, .rol xs, x => by
    unfold WV at x ⊢
    obtain ⟨a, vs, e, ⟨o, p, q⟩, z, r⟩ := x
    exact ⟨a, vs, e, ⟨o, k _ _ p, q⟩, z, WVs.mono k r⟩
  | v, .ref n, x => x
theorem WVs.mono {h h' : Heap} (k : Kp h h') : ∀ {v : List Value} {w : List W}, WVs h v w → WVs h' v w
  | v, [], x => x
  | v, w :: ws, x => by
    unfold WVs at x ⊢
    obtain ⟨u, r, e, p, q⟩ := x
    exact ⟨u, r, e, WV.mono k p, WVs.mono k q⟩
end
theorem WVs.length {h : Heap} : ∀ {vs : List Value} {ws : List W}, WVs h vs ws → vs.length = ws.length
  | vs, [], h => by unfold WVs at h; rw [h]; rfl
  | vs, w :: ws, h => by
    unfold WVs at h
    obtain ⟨v, r, e, _, z⟩ := h
    rw [e, List.length_cons, List.length_cons, WVs.length z]
theorem WVs.get {h : Heap} : ∀ {vs : List Value} {ws : List W} {i : Nat} {w : W}, WVs h vs ws → ws[i]? = some w → ∃ v, vs[i]? = some v ∧ WV h v w
  | vs, [], i, w, _, e => by simp at e
  | vs, x :: ws, 0, w, h, e => by
    unfold WVs at h
    obtain ⟨v, r, rfl, q, _⟩ := h
    simp at e
    subst e
    exact ⟨v, rfl, q⟩
  | vs, x :: ws, i + 1, w, h, e => by
    unfold WVs at h
    obtain ⟨v, r, rfl, _, z⟩ := h
    obtain ⟨u, a, b⟩ := WVs.get (i := i) z (by simpa using e)
    exact ⟨u, by simpa using a, b⟩
section
variable {h : Heap} {v : Value}
theorem WV.int {i : Int} (x : WV h v (.int i)) : ∃ t, v = .int i t := by unfold WV at x; exact x
theorem WV.str {i : List Nat} (x : WV h v (.str i)) : ∃ t, v = .str (mkS i) t := by unfold WV at x; exact x
theorem WV.bl {i : Bool} (x : WV h v (.bl i)) : v = .bool i := by unfold WV at x; exact x
theorem WV.non (x : WV h v .non) : v = .none := by unfold WV at x; exact x
theorem WV.tup {xs : List W} (x : WV h v (.tup xs)) : ∃ a vs, v = .ref a ∧ IsTup h a vs.toArray ∧ vs.length ≤ sizeLine ∧ WVs h vs xs := by unfold WV at x; exact x
theorem WV.rol {xs : List W} (x : WV h v (.rol xs)) : ∃ a vs, v = .ref a ∧ h.IsList a vs.toArray ∧ vs.length ≤ sizeLine ∧ WVs h vs xs := by unfold WV at x; exact x
theorem wv_int {i : Int} {t : Tok} : WV h (.int i t) (.int i) := by unfold WV; exact ⟨_, rfl⟩
theorem wv_bl {i : Bool} : WV h (.bool i) (.bl i) := by unfold WV; rfl
theorem wv_non : WV h .none .non := by unfold WV; rfl
theorem wv_str {i : List Nat} {t : Tok} : WV h (.str (mkS i) t) (.str i) := by unfold WV; exact ⟨_, rfl⟩
theorem wv_str' {x : Str} {i : List Nat} {t : Tok} (e : x = mkS i) : WV h (.str x t) (.str i) := by rw [e]; exact wv_str
end
/-! ### a frame's names -/
structure PxOk (K : PySem.W.Frag) (mg : Str → Option Value) (N : List Str) (env : PySem.Env) (h0 : Heap) (ev : Env) : Prop where
  kin : K.In h0
  kind : env.scope.kind = .function
  glob : h0.Ns env.globals mg
  blt : ∃ mb, h0.Ns env.builtins mb ∧ ∀ x : Str, x ≠ "__name__" → mb x = bootBuiltins x
  at_ : ∀ (i : Nat) (x : Str) (w : W), N[i]? = some x → ev[i]? = some (some w) → Vis env.scope x → ∃ v, WV h0 v w ∧ ((env.kindOf x = some .local ∧ ∃ m, h0.Ns env.locals m ∧ m x = some v) ∨ (env.kindOf x = some .free ∧ ∃ c, env.cells.lookup x = some c ∧ h0.IsCell c (some v)))
theorem PxOk.keeps {K : PySem.W.Frag} {mg : Str → Option Value} {N : List Str} {env : PySem.Env} {h0 h : Heap} {ev : Env} (o : PxOk K mg N env h0 ev) (k : Kp h0 h) : PxOk K mg N env h ev := by
  refine ⟨o.kin.keeps k, o.kind, o.glob.keeps k, ?_, fun i x w a b c => ?_⟩
  · obtain ⟨mb, h1, h2⟩ := o.blt
    exact ⟨mb, h1.keeps k, h2⟩
  · obtain ⟨v, hv, q⟩ := o.at_ i x w a b c
    refine ⟨v, hv.mono k, ?_⟩
    rcases q with ⟨q, m, h1, h2⟩ | ⟨q, c, h1, ob, h2, h3⟩
    · exact .inl ⟨q, m, h1.keeps k, h2⟩
    · exact .inr ⟨q, c, h1, ob, k _ _ h2, h3⟩
/-- e gives what m says, on no heap of objects -/
def SPx (K : PySem.W.Frag) (mg : Str → Option Value) (N : List Str) (sc : Scope) (e : Expr) (m : M W) : Prop :=
  ∀ (P : Program) (w : World) (env : PySem.Env) (h0 : Heap) (ev : Env) (x : W), env.scope = sc → PxOk K mg N env h0 ev → m ev [] = .ok x [] → Px P w env h0 e fun y h => WV h y x
def GlP (sc : Scope) (x : Str) : Prop := sc.names.lookup x = some .globalImplicit
/-- an operator by values -/
def PxOp (f : Value → Value → Sem Value) (op : W → W → List O → Out W) : Prop := ∀ (P : Program) (w : World) (A : Around) (E : Value → Shared → Prop) (s : Shared) (v u : Value) (x y z : W), WV s.heap v x → WV s.heap u y → op x y [] = .ok z [] →
  wpAny (model P w) A (f v u) (fun r s' => WV s'.heap r z ∧ Keeps s s') E s
section
variable {K : PySem.W.Frag} {mg : Str → Option Value} {N : List Str} {sc : Scope} {e a b : Expr} {ma mb : M W} {pos p : Pos}
theorem bnd_inv {α β : Type} {o : Out α} {f : α → List O → Out β} {y : β} {h : List O} (e : o.bnd f = .ok y h) : ∃ x h', o = .ok x h' ∧ f x h' = .ok y h := by
  cases o with
  | ok x h' => exact ⟨x, h', rfl, e⟩
  | exc c p h' => cases e
  | bad => cases e
/-- the plain functions here leave the (bare) heap as it is -/
def Bare (m : M W) : Prop := ∀ ev x h, m ev [] = .ok x h → h = []
theorem spx_var (i : Nat) {x : Str} (hN : N[i]? = some x := by rfl) (hv : Vis sc x := by first | exact Or.inl rfl | exact Or.inr (Or.inl rfl) | exact Or.inr (Or.inr rfl)) (hd : (x == ("__debug__" : Str)) = false := by decide)
    (hcd : (x == ("__classdict__" : Str)) = false := by decide) : SPx K mg N sc (.Name x pos) (mVar i) := fun P w env h0 ev y hs ok hm => by
  unfold mVar at hm
  split at hm
  · rename_i w' hw
    cases hm
    obtain ⟨v, hv', q⟩ := ok.at_ i x _ hN hw (by rw [hs]; exact hv)
    rcases q with ⟨q, m, h1, h2⟩ | ⟨q, c, h1, h2⟩
    · exact px_imp (px_local (pos := pos) ok.kind q h1 h2 hd) fun y h k e => by rw [e]; exact hv'.mono k
    · exact px_imp (px_free (pos := pos) ok.kind q h1 h2 hd hcd) fun y h k e => by rw [e]; exact hv'.mono k
  · cases hm
theorem spx_int {i : Int} {k : Nat} : SPx K mg N sc (.Constant (.int i) k pos) (mC (.int i)) := fun P w env h0 ev y hs ok hm => by
  cases hm
  exact px_imp px_int fun y h k e => by unfold WV; exact e
theorem spx_str {x : Str} {l : List Nat} {k : Nat} (hx : x = mkS l := by decide +kernel) : SPx K mg N sc (.Constant (.str x) k pos) (mC (.str l)) := fun P w env h0 ev y hs ok hm => by
  cases hm
  exact px_imp px_str fun y h k e => by rw [hx] at e; unfold WV; exact e
theorem spx_glob {x : Str} {u : Value} {z : W} (hg : GlP sc x) (hm : mg x = some u) (hw : ∀ h, WV h u z) (hd : (x == ("__debug__" : Str)) = false := by decide) : SPx K mg N sc (.Name x pos) (mC z) := fun P w env h0 ev y hs ok hm' => by
  cases hm'
  exact fun A E s k => Calls.Name_function_global ok.kind (by show env.scope.names.lookup x = _; rw [hs]; exact hg) (Calls.loadGlobal_global (ok.glob.keeps k) hm ⟨hw _, keeps_rfl s⟩) hd
theorem spx_op {o : Operator} {op : W → W → List O → Out W} (s : PxOp (binaryOp o) op) (ha : SPx K mg N sc a ma) (hb : SPx K mg N sc b mb) (b1 : Bare ma) (b2 : Bare mb) : SPx K mg N sc (.BinOp a o b pos) (mOp op ma mb) := fun P w env h0 ev y hs ok hm A E st k => by
  obtain ⟨x1, h1, e1, hm⟩ := bnd_inv hm
  obtain ⟨x2, h2, e2, hm⟩ := bnd_inv hm
  have z1 := b1 _ _ _ e1
  subst z1
  have z2 := b2 _ _ _ e2
  subst z2
  refine wpAny_BinOp (wpAny_mono (ha P w env h0 ev x1 hs ok e1 A E st k) (fun v s1 q1 => wpAny_mono (hb P w env h0 ev x2 hs ok e2 A E s1 fun b o z => kpH q1.2 b o (k b o z)) (fun u s2 q2 => ?_) fun _ _ e => e) fun _ _ e => e)
  exact wpAny_mono (s P w A E s2 v u x1 x2 y (q1.1.mono (kpH q2.2)) q2.1 hm) (fun r s3 q3 => ⟨q3.1, kpT q1.2 (kpT q2.2 q3.2)⟩) fun _ _ e => e
theorem spx_cmp {o : CmpOp} {op : W → W → List O → Out W} (s : PxOp (compareOp o) op) (ha : SPx K mg N sc a ma) (hb : SPx K mg N sc b mb) (b1 : Bare ma) (b2 : Bare mb) (hmk : behindInMarks o b = false := by first | exact nomark _ (by decide) (by decide) | rfl | (with_unfolding_all rfl)) :
    SPx K mg N sc (.Compare a [o] [b] pos) (mOp op ma mb) := fun P w env h0 ev y hs ok hm A E st k => by
  obtain ⟨x1, h1, e1, hm⟩ := bnd_inv hm
  obtain ⟨x2, h2, e2, hm⟩ := bnd_inv hm
  have z1 := b1 _ _ _ e1
  subst z1
  have z2 := b2 _ _ _ e2
  subst z2
  refine wpAny_Compare1 (wpAny_mono (ha P w env h0 ev x1 hs ok e1 A E st k) (fun v s1 q1 => wpAny_mono (hb P w env h0 ev x2 hs ok e2 A E s1 fun b o z => kpH q1.2 b o (k b o z)) (fun u s2 q2 => ?_) fun _ _ e => e) fun _ _ e => e) hmk
  exact wpAny_mono (s P w A E s2 v u x1 x2 y (q1.1.mono (kpH q2.2)) q2.1 hm) (fun r s3 q3 => ⟨q3.1, kpT q1.2 (kpT q2.2 q3.2)⟩) fun _ _ e => e
theorem spx_neg (ha : SPx K mg N sc a ma) (b1 : Bare ma) : SPx K mg N sc (.UnaryOp .USub a pos) (mUn oNeg ma) := fun P w env h0 ev y hs ok hm A E st k => by
  obtain ⟨x1, h1, e1, hm⟩ := bnd_inv hm
  have z1 := b1 _ _ _ e1
  subst z1
  unfold oNeg at hm
  split at hm
  · rename_i i
    cases hm
    refine UnaryOp_ (wpAny_mono (ha P w env h0 ev _ hs ok e1 A E st k) (fun v s1 q1 => ?_) fun _ _ e => e)
    obtain ⟨t, rfl⟩ := q1.1.int
    exact neg_int ⟨wv_int, kpT q1.2 (keeps_tok _ _)⟩
  · cases hm
theorem wv_truthy {P : Program} {w : World} {A : Around} {E : Value → Shared → Prop} {s : Shared} {v : Value} {b : Bool} {Q : Bool → Shared → Prop} (h : WV s.heap v (.bl b)) (q : Q b s) : wpAny (model P w) A (truthy v) Q E s := by
  rw [h.bl]
  exact wpAny_truthy_bool q
def mAndB (a b : M W) : M W := fun e h => (a e h).bnd fun x h => (asB x h).bnd fun k h => if k = true then b e h else .ok (.bl false) h
def mOrB (a b : M W) : M W := fun e h => (a e h).bnd fun x h => (asB x h).bnd fun k h => if k = true then .ok (.bl true) h else b e h
def mNotB (a : M W) : M W := fun e h => (a e h).bnd fun x h => (asB x h).bnd fun k h => .ok (.bl (!k)) h
theorem asB_inv {x : W} {h h' : List O} {k : Bool} (e : asB x h = .ok k h') : x = .bl k ∧ h' = h := by
  unfold asB at e
  split at e
  · cases e; exact ⟨rfl, rfl⟩
  · cases e
theorem spx_one {o : BoolOp} (ha : SPx K mg N sc a ma) : SPx K mg N sc (.BoolOp o [a] pos) ma := fun P w env h0 ev y hs ok hm A E st k => by
  have h1 := ha P w env h0 ev y hs ok hm A E st k
  cases o with
  | And => exact h1
  | Or => exact h1
theorem spx_and {rest : List Expr} (ha : SPx K mg N sc a ma) (hb : SPx K mg N sc (.BoolOp .And (b :: rest) pos) mb) (b1 : Bare ma) (b2 : Bare mb) : SPx K mg N sc (.BoolOp .And (a :: b :: rest) pos) (mAndB ma mb) := fun P w env h0 ev y hs ok hm A E st k => by
  obtain ⟨x1, h1, e1, hm⟩ := bnd_inv hm
  have z1 := b1 _ _ _ e1
  subst z1
  obtain ⟨c, h2, e2, hm⟩ := bnd_inv hm
  obtain ⟨rfl, rfl⟩ := asB_inv e2
  refine BoolOp_and (wpAny_mono (ha P w env h0 ev _ hs ok e1 A E st k) (fun v s1 q1 => wv_truthy q1.1 ?_) fun _ _ e => e)
  cases c with
  | true =>
    exact wpAny_mono (hb P w env h0 ev y hs ok hm A E s1 fun b o z => kpH q1.2 b o (k b o z)) (fun r s3 q3 => ⟨q3.1, kpT q1.2 q3.2⟩) fun _ _ e => e
  | false =>
    cases hm
    exact q1
theorem spx_or {rest : List Expr} (ha : SPx K mg N sc a ma) (hb : SPx K mg N sc (.BoolOp .Or (b :: rest) pos) mb) (b1 : Bare ma) (b2 : Bare mb) : SPx K mg N sc (.BoolOp .Or (a :: b :: rest) pos) (mOrB ma mb) := fun P w env h0 ev y hs ok hm A E st k => by
  obtain ⟨x1, h1, e1, hm⟩ := bnd_inv hm
  have z1 := b1 _ _ _ e1
  subst z1
  obtain ⟨c, h2, e2, hm⟩ := bnd_inv hm
  obtain ⟨rfl, rfl⟩ := asB_inv e2
  refine BoolOp_or (wpAny_mono (ha P w env h0 ev _ hs ok e1 A E st k) (fun v s1 q1 => wv_truthy q1.1 ?_) fun _ _ e => e)
  cases c with
  | false =>
    exact wpAny_mono (hb P w env h0 ev y hs ok hm A E s1 fun b o z => kpH q1.2 b o (k b o z)) (fun r s3 q3 => ⟨q3.1, kpT q1.2 q3.2⟩) fun _ _ e => e
  | true =>
    cases hm
    exact q1
theorem spx_not (ha : SPx K mg N sc a ma) (b1 : Bare ma) : SPx K mg N sc (.UnaryOp .Not a pos) (mNotB ma) := fun P w env h0 ev y hs ok hm A E st k => by
  obtain ⟨x1, h1, e1, hm⟩ := bnd_inv hm
  have z1 := b1 _ _ _ e1
  subst z1
  obtain ⟨c, h2, e2, hm⟩ := bnd_inv hm
  obtain ⟨rfl, rfl⟩ := asB_inv e2
  cases hm
  refine UnaryOp_ (wpAny_mono (ha P w env h0 ev _ hs ok e1 A E st k) (fun v s1 q1 => ?_) fun _ _ e => e)
  exact not_of (wv_truthy q1.1 ⟨wv_bl, q1.2⟩)
/-- (a, b) -/
def mPair (a b : M W) : M W := fun e h => (a e h).bnd fun x h => (b e h).bnd fun y h => .ok (.tup [x, y]) h
theorem spx_pair {k0 : Nat} (ha : SPx K mg N sc a ma) (hb : SPx K mg N sc b mb) (b1 : Bare ma) (b2 : Bare mb) (he : ∀ env, starEach [a, b] env = [(false, eval a env), (false, eval b env)] := by intro _; rfl) : SPx K mg N sc (.Tuple [a, b] k0 pos) (mPair ma mb) := fun P w env h0 ev y hs ok hm => by
  obtain ⟨x1, h1, e1, hm⟩ := bnd_inv hm
  obtain ⟨x2, h2, e2, hm⟩ := bnd_inv hm
  have z1 := b1 _ _ _ e1
  subst z1
  have z2 := b2 _ _ _ e2
  subst z2
  cases hm
  refine px_imp (px_tup2 (ha P w env h0 ev x1 hs ok e1) (hb P w env h0 ev x2 hs ok e2) (fun v h h' k q => q.mono k) (fun v h h' k q => q.mono k) (he env)) fun y h k q => ?_
  obtain ⟨t, va, vb, rfl, ht, qa, qb⟩ := q
  unfold WV
  refine ⟨t, [va, vb], rfl, ⟨_, ht, rfl, 0, rfl⟩, lim_size (show 2 ≤ lim by decide), ?_⟩
  unfold WVs
  refine ⟨va, [vb], rfl, qa, ?_⟩
  unfold WVs
  exact ⟨vb, [], rfl, qb, by unfold WVs; rfl⟩
end
end Den
set_option maxRecDepth 100000
set_option maxHeartbeats 2000000
/-! sorted of anything that can be gathered, with or without a key: over the heap alone. -/
namespace Den
open PySem L2 PyProof.Rows PySem.W
/-- gathering v: all stays, the items are as R says -/
def Coll (P : Program) (w : World) (A : Around) (s : Shared) (v : Value) (R : List Value → Prop) : Prop :=
  ∀ (Q : List Value → Shared → Prop) (E : Value → Shared → Prop), (∀ s' vs, Kp s.heap s'.heap → AllBare s'.gens → s'.os = s.os → R vs → Q vs s') → wpAny (model P w) A (collect v) Q E s
section
variable {P : Program} {w : World} {A : Around} {E : Value → Shared → Prop} {s : Shared} {β : Type} {Rel : Value → β → Prop} {enc : β → PyData} {Ok : List β → Prop} {v : Value} {Q : Value → Shared → Prop}
/-- the frame of sorted -/
theorem sorted_from {kw : List (Str × Value)} (ha1 : argsOk "sorted" ⟨[v], kw⟩) (ha2 : ∀ x, argsOk "list.sort" ⟨[.ref x], kw⟩) (hc : Coll P w A.in1 s v (fun vs => ∃ bs, Ok bs ∧ EachIs Rel vs bs)) (hL : ∀ bs, Ok bs → bs.length ≤ sizeLine)
    (body : ∀ (s1 : Shared) (vs : List Value) (bs : List β), Kp s.heap s1.heap → s.heap.objs.size ≤ s1.heap.objs.size → AllBare s1.gens → s1.os = s.os → Ok bs → EachIs Rel vs bs → ∀ E' : Value → Shared → Prop,
      wpAny (model P w) A.in1.in1 (Builtin.«list.sort» ⟨[.ref s1.heap.objs.size], kw⟩) (fun f s' => f = .done (.ret .none) ∧ Q (.ref s1.heap.objs.size) s') E' { s1 with heap := s1.heap.push (seqObj "list" vs.toArray 0) }) :
    wpAny (model P w) A (call (.builtin "sorted") [v] kw) Q E s := by
  refine call_function_entry_kw kind_sorted plain_sorted entry_sorted ha1 ?_
  unfold Builtin.«sorted»
  refine wpAny_bind (m := checkCount "sorted" 1 1 _) (wpAny_pure ?_)
  refine wpAny_bind (wpAny_hsz (hc _ _ fun s1 vs k g o r hsz => ?_))
  obtain ⟨bs, ok, e⟩ := r
  have hz : vs.length ≤ sizeLine := by rw [e.length]; exact hL bs ok
  refine wpAny_bind (wpAny_newList ?_ hz)
  show wpAny _ _ _ _ _ { s1 with heap := s1.heap.push (seqObj "list" vs.toArray 0) }
  refine wpAny_bind (wpAny_holding (wpAny_call_entry_kw slot_list_sort ⟨_, Heap.get?_push_size _ rfl, rfl⟩ entry_list_sort ?body (ha2 _)))
  case body =>
    show wpAny (model P w) A.in1.in1 (Builtin.«list.sort» ⟨[.ref s1.heap.objs.size], kw⟩) _ _ _
    refine wpAny_mono (body s1 vs bs k hsz g o ok e _) (fun f s' hf => ?_) fun _ _ e => e
    obtain ⟨rfl, hq⟩ := hf
    exact ⟨_, rfl, wpAny_pure ⟨_, rfl, hq⟩⟩
theorem sorted_coll (hc : Coll P w A.in1 s v (fun vs => ∃ bs, Ok bs ∧ EachIs Rel vs bs)) (ha1 : argsOk "sorted" ⟨[v], []⟩)
    (ha : ∀ bs, Ok bs → AllAlike (bs.map enc) ∧ Sortable (bs.map enc) ∧ bs.length ≤ sizeLine ∧ ∀ b ∈ bs, A.units + 2 + (enc b).depth < cLine)
    (hr : ∀ h v b, Kp s.heap h → Rel v b → ∃ as, Reads h v (enc b) as)
    (h : ∀ s' out c a bs, Ok bs → Kp s.heap s'.heap → AllBare s'.gens → s'.os = s.os → s.heap.objs.size ≤ a → s'.heap.get? a = some (seqObj "list" out.toArray c) → EachIs Rel out (bs.mergeSort (dataLe false enc)) → Q (.ref a) s') :
    wpAny (model P w) A (call (.builtin "sorted") [v]) Q E s := by
  have hLL : ∀ bs, Ok bs → bs.length ≤ sizeLine := fun bs ok => by
    obtain ⟨_, _, x, _⟩ := ha bs ok
    exact x
  refine sorted_from (Ok := Ok) (Rel := Rel) (kw := []) ha1 (fun _ => args_list_sort _) hc hLL fun s1 vs bs k hsz g o ok e E' => ?_
  obtain ⟨hal, hk, hL, hu⟩ := ha bs ok
  have ho : ({ s1 with heap := s1.heap.push (seqObj "list" vs.toArray 0) } : Shared).heap.get? s1.heap.objs.size = some (seqObj "list" vs.toArray 0) := Heap.get?_push_size _ rfl
  have hz : vs.length ≤ sizeLine := by rw [e.length]; exact hL
  have kS : ∀ b o, s1.heap.get? b = some o → (sortingHeap (s1.heap.push (seqObj "list" vs.toArray 0)) s1.heap.objs.size vs).get? b = some o := fun b o q =>
    sortingHeap_old (Nat.ne_of_lt (Heap.lt_size q)) (Heap.get?_push_of_some _ q)
  have er : EachIs (fun v b => ∃ as, Reads (sortingHeap (s1.heap.push (seqObj "list" vs.toArray 0)) s1.heap.objs.size vs) v (enc b) as) vs bs :=
    e.mono fun v b q => hr _ v b (fun b o z => kS b o (k b o z)) q
  have em := each_map (R := fun v d => ∃ as, Reads (sortingHeap (s1.heap.push (seqObj "list" vs.toArray 0)) s1.heap.objs.size vs) v d as) enc er
  have hu2 : ∀ d, d ∈ bs.map enc → A.in1.in1.units + d.depth < cLine := bound_map (A := A.in1.in1) hu
  have S := SortsAt.data (prog := P) (w := w) (A := A.in1.in1) (s := { s1 with heap := sortingHeap (s1.heap.push (seqObj "list" vs.toArray 0)) s1.heap.objs.size vs }) em hal hk hu2
  refine list_sort_vals (s := { s1 with heap := s1.heap.push (seqObj "list" vs.toArray 0) }) ho S hz ⟨rfl, ?_⟩
  obtain ⟨c, hc2⟩ := sortedHeap_at (vs := vs) (out := (sortVals (dataKind (sortingHeap (s1.heap.push (seqObj "list" vs.toArray 0)) s1.heap.objs.size vs) (bs.map enc)) false vs vs).toArray) ho
  refine h _ _ c s1.heap.objs.size bs ok (fun b o q => ?_) g o hsz hc2 (sortVals_data false e er hal)
  have hlt := Heap.lt_size (k b o q)
  show (sortedHeap _ _ _ _).get? b = some o
  rw [sortedHeap_old (Nat.ne_of_lt hlt) (by rw [size_push']; exact Nat.lt_succ_of_lt hlt)]
  exact Heap.get?_push_of_some _ (k b o q)
/-- sorted(.., key=f) -/
theorem sorted_collK {f : Addr} (hc : Coll P w A.in1 s v (fun vs => ∃ bs, Ok bs ∧ EachIs Rel vs bs))
    (ha : ∀ bs, Ok bs → AllAlike (bs.map enc) ∧ Sortable (bs.map enc) ∧ bs.length ≤ sizeLine ∧ ∀ b ∈ bs, A.units + 2 + (enc b).depth < cLine)
    (turn : ∀ (bs : List β) (v : Value) (b : β) (s1 : Shared), Ok bs → b ∈ bs → Rel v b → Kp s.heap s1.heap → AllBare s1.gens → s1.os = s.os → wpAny (model P w) A.in1.in1 (call (.ref f) [v]) (KeyPure (enc b) s1) (fun _ _ => False) s1)
    (h : ∀ s' out c a bs, Ok bs → Kp s.heap s'.heap → AllBare s'.gens → s'.os = s.os → s.heap.objs.size ≤ a → s'.heap.get? a = some (seqObj "list" (List.toArray out) c) → EachIs Rel out (bs.mergeSort (dataLe false enc)) → Q (.ref a) s') :
    wpAny (model P w) A (call (.builtin "sorted") [v] [(Str.ofString "key", .ref f)]) Q E s := by
  refine sorted_from (ksk_s1 _ _) (fun x => ksk_l1 _ _) hc (fun bs ok => (ha bs ok).2.2.1) fun s1 vs bs k hsz g o ok e E' => ?_
  obtain ⟨hal, hk, hL, hu⟩ := ha bs ok
  have ho : ({ s1 with heap := s1.heap.push (seqObj "list" vs.toArray 0) } : Shared).heap.get? s1.heap.objs.size = some (seqObj "list" vs.toArray 0) := Heap.get?_push_size _ rfl
  have hz : vs.length ≤ sizeLine := by rw [e.length]; exact hL
  have up : ∀ {g : Heap}, KeepsBut s1.heap.objs.size (s1.heap.push (seqObj "list" vs.toArray 0)) g → Kp s.heap g := fun {g} kp b o q =>
    kp b o (Nat.ne_of_lt (Heap.lt_size (k b o q))) (Heap.get?_push_of_some _ (k b o q))
  rw [ksk_t1]
  refine keyH_tree (kz := bs.map enc) (s := { s1 with heap := s1.heap.push (seqObj "list" vs.toArray 0) }) ho (by rw [List.length_map]; exact e.length.symm) hz hal hk (bound_map (A := A.in1.in1) hu)
    (keyH_turns (s := { s1 with heap := s1.heap.push (seqObj "list" vs.toArray 0) }) e fun v x hR hx h tk kp => turn bs v x _ ok hx hR (up kp) g o) fun h' tk out c kp hD ko => ⟨rfl, ?_⟩
  exact h _ out c s1.heap.objs.size bs ok (up kp) g o hsz hD (keyedOut_each enc ko e)
end
/-! ### what can be gathered -/
section
variable {P : Program} {w : World} {A : Around} {s : Shared}
theorem coll_list {l : Addr} {vs : List Value} (hl : s.heap.IsList l vs.toArray) (hz : vs.length ≤ sizeLine) (hb : AllBare s.gens) : Coll P w A s (.ref l) (fun us => us = vs) := fun Q E h => by
  refine collect_list hl (h _ vs (fun b o e => ?_) hb rfl rfl) hz
  exact (Heap.get?_update_other _ _ (Nat.ne_of_gt (Heap.lt_size e))).trans (Heap.get?_push_of_some _ e)
theorem coll_tup {l : Addr} {vs : List Value} (hl : IsTup s.heap l vs.toArray) (hz : vs.length ≤ sizeLine) (hb : AllBare s.gens) : Coll P w A s (.ref l) (fun us => us = vs) := fun Q E h => by
  obtain ⟨o, ho, hc, n, hd⟩ := hl
  refine PySem.wpAny_collect_seq (items := vs.toArray) l (.inr rfl) ho hc hd (fun h' k => ?_) (by simpa using hz)
  exact h _ _ k hb rfl (by simp)
theorem coll_rng {r : Addr} {lo hi : Int} (hh : A.handled = none) (hr : ∃ t u v, s.heap.get? r = some { cls := .type "range", data := .fields #[.int lo t, .int hi u, .int 1 v] }) (h1 : -(2 ^ 62) ≤ lo) (h0 : lo < 2 ^ 62) (h2 : -(2 ^ 62) ≤ hi) (h4 : hi < 2 ^ 62) (h3 : (hi - lo).toNat ≤ 16777216) (hb : AllBare s.gens) :
    Coll P w A s (.ref r) (fun us => us.length = (hi - lo).toNat ∧ ∀ (i : Nat) (v : Value), us[i]? = some v → ∃ t, v = .int (lo + i) t) := fun Q E h => by
  obtain ⟨t, u, v, hr⟩ := hr
  refine L2.collect_range (n := (hi - lo).toNat) hh (a := lo) (b := hi) (c := 1) (t := t) (u := u) (v := v) hr ?_ ?_ (by omega) fun h' tk acc k hi => ?_
  · exact PySem.small_one h1 h0 h2 h4
  · exact PyProof.Rows.rangeSize_nat lo hi
  · refine h _ _ k hb rfl ⟨by rw [Array.length_toList]; exact hi.1, fun i v hv => ?_⟩
    obtain ⟨t, e⟩ := hi.2 i v (by simpa using hv)
    exact ⟨t, by rw [e, Int.mul_one]⟩
end
end Den
set_option maxRecDepth 100000
set_option maxHeartbeats 1000000
/-! .. their operators, subscripts, slices, len, isinstance. -/
namespace Den
open PySem L2 PyProof.Rows
theorem wva {P : Program} {w : World} {A : Around} {E : Value → Shared → Prop} {s s' : Shared} {r : Value} {z : W} (h : WV s'.heap r z) (k : Keeps s s') : (fun r (s' : Shared) => WV s'.heap r z ∧ Keeps s s') r s' := ⟨h, k⟩
theorem pxo_lt : PxOp (compareOp .Lt) oLt := fun P w A E s v u x y z a b e => by
  unfold oLt at e
  split at e
  · cases e
    obtain ⟨t, rfl⟩ := a.int
    obtain ⟨t', rfl⟩ := b.int
    exact lt_int ⟨wv_bl, keeps_rfl s⟩
  · cases e
    obtain ⟨t, rfl⟩ := a.str
    obtain ⟨t', rfl⟩ := b.str
    exact PySem.P.lt_str ⟨by simpa using (wv_bl : WV s.heap (.bool _) (.bl _)), keeps_rfl s⟩
  · cases e
def oLeI (x y : W) (h : List O) : Out W := match x, y with
  | .int i, .int j => .ok (.bl (decide (i ≤ j))) h
  | _, _ => .bad
def oGtI (x y : W) (h : List O) : Out W := match x, y with
  | .int i, .int j => .ok (.bl (decide (j < i))) h
  | _, _ => .bad
def oGeI (x y : W) (h : List O) : Out W := match x, y with
  | .int i, .int j => .ok (.bl (decide (j ≤ i))) h
  | _, _ => .bad
def oEqS (x y : W) (h : List O) : Out W := match x, y with
  | .int i, .int j => .ok (.bl (i == j)) h
  | .str a, .str b => .ok (.bl (a == b)) h
  | _, _ => .bad
def oNeS (x y : W) (h : List O) : Out W := match x, y with
  | .int i, .int j => .ok (.bl (i != j)) h
  | .str a, .str b => .ok (.bl (a != b)) h
  | _, _ => .bad
def oInS (x y : W) (h : List O) : Out W := match x, y with
  | .str [c], .str s => .ok (.bl (decide (c ∈ s))) h
  | _, _ => .bad
def oNinS (x y : W) (h : List O) : Out W := match x, y with
  | .str [c], .str s => .ok (.bl (!decide (c ∈ s))) h
  | _, _ => .bad
def oAddS (x y : W) (h : List O) : Out W := match x, y with
  | .int i, .int j => .ok (.int (i + j)) h
  | .str a, .str b => if a.length + b.length ≤ lim then .ok (.str (a ++ b)) h else .bad
  | _, _ => .bad
theorem pxo_le : PxOp (compareOp .LtE) oLeI := fun P w A E s v u x y z a b e => by
  unfold oLeI at e
  split at e
  · cases e
    obtain ⟨t, rfl⟩ := a.int
    obtain ⟨t', rfl⟩ := b.int
    exact le_int ⟨wv_bl, keeps_rfl s⟩
  · cases e
theorem pxo_gtI : PxOp (compareOp .Gt) oGtI := fun P w A E s v u x y z a b e => by
  unfold oGtI at e
  split at e
  · cases e
    obtain ⟨t, rfl⟩ := a.int
    obtain ⟨t', rfl⟩ := b.int
    exact gt_int ⟨wv_bl, keeps_rfl s⟩
  · cases e
theorem pxo_ge : PxOp (compareOp .GtE) oGeI := fun P w A E s v u x y z a b e => by
  unfold oGeI at e
  split at e
  · cases e
    obtain ⟨t, rfl⟩ := a.int
    obtain ⟨t', rfl⟩ := b.int
    exact ge_int ⟨wv_bl, keeps_rfl s⟩
  · cases e
theorem pxo_eq : PxOp (compareOp .Eq) oEqS := fun P w A E s v u x y z a b e => by
  unfold oEqS at e
  split at e
  · cases e
    obtain ⟨t, rfl⟩ := a.int
    obtain ⟨t', rfl⟩ := b.int
    exact eq_int ⟨wv_bl, keeps_rfl s⟩
  · cases e
    obtain ⟨t, rfl⟩ := a.str
    obtain ⟨t', rfl⟩ := b.str
    exact PySem.P.eq_str ⟨by simpa using (wv_bl : WV s.heap (.bool _) (.bl _)), keeps_rfl s⟩
  · cases e
theorem pxo_ne : PxOp (compareOp .NotEq) oNeS := fun P w A E s v u x y z a b e => by
  unfold oNeS at e
  split at e
  · cases e
    obtain ⟨t, rfl⟩ := a.int
    obtain ⟨t', rfl⟩ := b.int
    exact ne_int ⟨wv_bl, keeps_rfl s⟩
  · cases e
    obtain ⟨t, rfl⟩ := a.str
    obtain ⟨t', rfl⟩ := b.str
    exact PySem.P.ne_str ⟨by simpa using (wv_bl : WV s.heap (.bool _) (.bl _)), keeps_rfl s⟩
  · cases e
theorem pxo_in : PxOp (compareOp .In) oInS := fun P w A E s v u x y z a b e => by
  unfold oInS at e
  split at e
  · rename_i c l
    cases e
    obtain ⟨t, rfl⟩ := a.str
    obtain ⟨t', rfl⟩ := b.str
    refine PyProof.Rows.in_str ⟨?_, keeps_rfl s⟩
    have e2 := PySem.StrLaws.found_one (mkS l) c
    rw [show (mkS [c]) = (⟨#[c]⟩ : Str) from rfl, e2]
    simpa using (wv_bl : WV s.heap (.bool _) (.bl _))
  · cases e
theorem pxo_nin : PxOp (compareOp .NotIn) oNinS := fun P w A E s v u x y z a b e => by
  unfold oNinS at e
  split at e
  · rename_i c l
    cases e
    obtain ⟨t, rfl⟩ := a.str
    obtain ⟨t', rfl⟩ := b.str
    refine PyProof.Rows.notIn_str ⟨?_, keeps_rfl s⟩
    have e2 := PySem.StrLaws.found_one (mkS l) c
    rw [show (mkS [c]) = (⟨#[c]⟩ : Str) from rfl, e2]
    simpa using (wv_bl : WV s.heap (.bool _) (.bl _))
  · cases e
theorem pxo_add : PxOp (binaryOp .Add) oAddS := fun P w A E s v u x y z a b e => by
  unfold oAddS at e
  split at e
  · cases e
    obtain ⟨t, rfl⟩ := a.int
    obtain ⟨t', rfl⟩ := b.int
    exact add_int ⟨wv_int, keeps_tok _ _⟩
  · rename_i p q
    split at e
    · rename_i hl
      cases e
      obtain ⟨t, rfl⟩ := a.str
      obtain ⟨t', rfl⟩ := b.str
      exact PyProof.Rows.add_str (fun t' tk => ⟨wv_str' (Str_app p q), keeps_tok _ _⟩) (by rw [Str_length, Str_length]; exact lim_size hl)
    · cases e
  · cases e
theorem pxo_sub : PxOp (binaryOp .Sub) oSub := fun P w A E s v u x y z a b e => by
  unfold oSub at e
  split at e
  · cases e
    obtain ⟨t, rfl⟩ := a.int
    obtain ⟨t', rfl⟩ := b.int
    exact sub_int ⟨wv_int, keeps_tok _ _⟩
  · cases e
/-! ### all in one: the reading, the bare heap -/
def OpBare (op : W → W → List O → Out W) : Prop := ∀ x y z h, op x y [] = .ok z h → h = []
structure SP (K : PySem.W.Frag) (mg : Str → Option Value) (N : List Str) (sc : Scope) (e : Expr) (m : M W) : Prop where
  px : SPx K mg N sc e m
  br : Bare m
section
variable {K : PySem.W.Frag} {mg : Str → Option Value} {N : List Str} {sc : Scope} {e a b : Expr} {ma mb : M W} {pos p p2 : Pos}
theorem bare_op {op : W → W → List O → Out W} (ho : OpBare op) (a : Bare ma) (b : Bare mb) : Bare (mOp op ma mb) := fun ev x h e => by
  obtain ⟨x1, h1, e1, e⟩ := bnd_inv e
  have z1 := a _ _ _ e1
  subst z1
  obtain ⟨x2, h2, e2, e⟩ := bnd_inv e
  have z2 := b _ _ _ e2
  subst z2
  exact ho _ _ _ _ e
theorem ob_lt : OpBare oLt := fun x y z h e => by unfold oLt at e; split at e <;> cases e <;> rfl
theorem ob_le : OpBare oLeI := fun x y z h e => by unfold oLeI at e; split at e <;> cases e <;> rfl
theorem ob_gt : OpBare oGtI := fun x y z h e => by unfold oGtI at e; split at e <;> cases e <;> rfl
theorem ob_ge : OpBare oGeI := fun x y z h e => by unfold oGeI at e; split at e <;> cases e <;> rfl
theorem ob_eq : OpBare oEqS := fun x y z h e => by unfold oEqS at e; split at e <;> cases e <;> rfl
theorem ob_ne : OpBare oNeS := fun x y z h e => by unfold oNeS at e; split at e <;> cases e <;> rfl
theorem ob_in : OpBare oInS := fun x y z h e => by unfold oInS at e; split at e <;> cases e <;> rfl
theorem ob_nin : OpBare oNinS := fun x y z h e => by unfold oNinS at e; split at e <;> cases e <;> rfl
theorem ob_sub : OpBare oSub := fun x y z h e => by unfold oSub at e; split at e <;> cases e <;> rfl
theorem ob_add : OpBare oAddS := fun x y z h e => by
  unfold oAddS at e
  split at e
  · cases e; rfl
  · split at e <;> cases e <;> rfl
  · cases e
theorem ob_ix : OpBare oIx := fun x y z h e => by
  unfold oIx at e
  repeat' split at e
  all_goals first | (cases e; rfl) | cases e
theorem sp_var (i : Nat) {x : Str} (hN : N[i]? = some x := by rfl) (hv : Vis sc x := by first | exact Or.inl rfl | exact Or.inr (Or.inl rfl) | exact Or.inr (Or.inr rfl)) (hd : (x == ("__debug__" : Str)) = false := by decide)
    (hcd : (x == ("__classdict__" : Str)) = false := by decide) : SP K mg N sc (.Name x pos) (mVar i) := ⟨spx_var i hN hv hd hcd, fun ev x h e => by
  unfold mVar at e
  split at e <;> cases e <;> rfl⟩
theorem sp_int {i : Int} {k : Nat} : SP K mg N sc (.Constant (.int i) k pos) (mC (.int i)) := ⟨spx_int, fun ev x h e => by cases e; rfl⟩
theorem sp_str {x : Str} {l : List Nat} {k : Nat} (hx : x = mkS l := by decide +kernel) : SP K mg N sc (.Constant (.str x) k pos) (mC (.str l)) := ⟨spx_str hx, fun ev x h e => by cases e; rfl⟩
theorem sp_glob {x : Str} {u : Value} {z : W} (hg : GlP sc x) (hm : mg x = some u) (hw : ∀ h, WV h u z) (hd : (x == ("__debug__" : Str)) = false := by decide) : SP K mg N sc (.Name x pos) (mC z) := ⟨spx_glob hg hm hw hd, fun ev x h e => by cases e; rfl⟩
theorem sp_op {o : Operator} {op : W → W → List O → Out W} (s : PxOp (binaryOp o) op) (ho : OpBare op) (ha : SP K mg N sc a ma) (hb : SP K mg N sc b mb) : SP K mg N sc (.BinOp a o b pos) (mOp op ma mb) := ⟨spx_op s ha.px hb.px ha.br hb.br, bare_op ho ha.br hb.br⟩
theorem sp_cmp {o : CmpOp} {op : W → W → List O → Out W} (s : PxOp (compareOp o) op) (ho : OpBare op) (ha : SP K mg N sc a ma) (hb : SP K mg N sc b mb) (hmk : behindInMarks o b = false := by first | exact nomark _ (by decide) (by decide) | rfl | (with_unfolding_all rfl)) :
    SP K mg N sc (.Compare a [o] [b] pos) (mOp op ma mb) := ⟨spx_cmp s ha.px hb.px ha.br hb.br hmk, bare_op ho ha.br hb.br⟩
theorem sp_neg (ha : SP K mg N sc a ma) : SP K mg N sc (.UnaryOp .USub a pos) (mUn oNeg ma) := ⟨spx_neg ha.px ha.br, fun ev x h e => by
  obtain ⟨x1, h1, e1, e⟩ := bnd_inv e
  have z1 := ha.br _ _ _ e1
  subst z1
  unfold oNeg at e
  split at e <;> cases e <;> rfl⟩
theorem sp_pair {k0 : Nat} (ha : SP K mg N sc a ma) (hb : SP K mg N sc b mb) (he : ∀ env, starEach [a, b] env = [(false, eval a env), (false, eval b env)] := by intro _; rfl) : SP K mg N sc (.Tuple [a, b] k0 pos) (mPair ma mb) := ⟨spx_pair ha.px hb.px ha.br hb.br he, fun ev x h e => by
  obtain ⟨x1, h1, e1, e⟩ := bnd_inv e
  have z1 := ha.br _ _ _ e1
  subst z1
  obtain ⟨x2, h2, e2, e⟩ := bnd_inv e
  have z2 := hb.br _ _ _ e2
  subst z2
  cases e
  rfl⟩
theorem sp_one {o : BoolOp} (ha : SP K mg N sc a ma) : SP K mg N sc (.BoolOp o [a] pos) ma := ⟨spx_one ha.px, ha.br⟩
theorem sp_and {rest : List Expr} (ha : SP K mg N sc a ma) (hb : SP K mg N sc (.BoolOp .And (b :: rest) pos) mb) : SP K mg N sc (.BoolOp .And (a :: b :: rest) pos) (mAndB ma mb) := ⟨spx_and ha.px hb.px ha.br hb.br, fun ev x h e => by
  obtain ⟨x1, h1, e1, e⟩ := bnd_inv e
  have z1 := ha.br _ _ _ e1
  subst z1
  obtain ⟨c, h2, e2, e⟩ := bnd_inv e
  obtain ⟨rfl, rfl⟩ := asB_inv e2
  cases c with
  | true => exact hb.br _ _ _ e
  | false => cases e; rfl⟩
theorem sp_or {rest : List Expr} (ha : SP K mg N sc a ma) (hb : SP K mg N sc (.BoolOp .Or (b :: rest) pos) mb) : SP K mg N sc (.BoolOp .Or (a :: b :: rest) pos) (mOrB ma mb) := ⟨spx_or ha.px hb.px ha.br hb.br, fun ev x h e => by
  obtain ⟨x1, h1, e1, e⟩ := bnd_inv e
  have z1 := ha.br _ _ _ e1
  subst z1
  obtain ⟨c, h2, e2, e⟩ := bnd_inv e
  obtain ⟨rfl, rfl⟩ := asB_inv e2
  cases c with
  | false => exact hb.br _ _ _ e
  | true => cases e; rfl⟩
theorem sp_not (ha : SP K mg N sc a ma) : SP K mg N sc (.UnaryOp .Not a pos) (mNotB ma) := ⟨spx_not ha.px ha.br, fun ev x h e => by
  obtain ⟨x1, h1, e1, e⟩ := bnd_inv e
  have z1 := ha.br _ _ _ e1
  subst z1
  obtain ⟨c, h2, e2, e⟩ := bnd_inv e
  obtain ⟨rfl, rfl⟩ := asB_inv e2
  cases e
  rfl⟩
/-- x[i] -/
theorem spx_ix (ha : SPx K mg N sc a ma) (hb : SPx K mg N sc b mb) (b1 : Bare ma) (b2 : Bare mb) (hs : PlainIx b := by exact fun _ _ => rfl) : SPx K mg N sc (.Subscript a b pos) (mOp oIx ma mb) := fun P w env h0 ev y hsc ok hm A E st k => by
  obtain ⟨x1, h1, e1, hm⟩ := bnd_inv hm
  obtain ⟨x2, h2, e2, hm⟩ := bnd_inv hm
  have z1 := b1 _ _ _ e1
  subst z1
  have z2 := b2 _ _ _ e2
  subst z2
  refine Subscript_ (wpAny_mono (ha P w env h0 ev x1 hsc ok e1 A E st k) (fun v s1 q1 => wpAny_mono (hb P w env h0 ev x2 hsc ok e2 A E s1 fun b o z => kpH q1.2 b o (k b o z)) (fun u s2 q2 => ?_) fun _ _ e => e) fun _ _ e => e)
  have k12 := kpT q1.2 q2.2
  have v1 := WV.mono (kpH q2.2) q1.1
  have hn := line63
  have v2 := q2.1
  clear e1 e2 q1 q2
  cases x2 with
  | int i =>
    obtain ⟨t', rfl⟩ := v2.int
    cases x1 with
    | str z =>
      unfold oIx at hm
      dsimp only at hm
      split at hm
      · rename_i hl
        split at hm
        · rename_i c hc
          cases hm
          obtain ⟨t, rfl⟩ := v1.str
          obtain ⟨j, h1, h2, h3, h4, h5⟩ := atI_get hc
          rw [← Str_length z] at h1 h4 h5
          have hz : Str.length (mkS z) ≤ sizeLine := by rw [Str_length]; exact lim_size hl
          have hz' : Str.length ⟨z.toArray⟩ ≤ sizeLine := hz
          exact tail_any (typeIs_str s2 _ t) slot_str_getitem.lookup (PySem.P.getItem_str (c := c) (by
            have e1 : decide (i < -(2 ^ 63 : Int)) = false := decide_eq_false (by omega)
            have e2 : decide (i ≥ 2 ^ 63) = false := decide_eq_false (by omega)
            rw [e1, e2, Bool.or_false]) (by rw [h1]; simpa using h2) ⟨(wv_str' rfl), kpT k12 (keeps_tok _ _)⟩) (hs _ _)
        · cases hm
      · cases hm
    | tup ys =>
      unfold oIx at hm
      dsimp only [sqA] at hm
      split at hm
      · rename_i z hz
        cases hm
        obtain ⟨a, vs, rfl, pl, hz2, r⟩ := v1.tup
        obtain ⟨j, h1, h2, h3, h4, h5⟩ := atI_get hz
        obtain ⟨w', ew, rw'⟩ := r.get h2
        have hl := r.length
        have fin : (fun r (s' : Shared) => WV s'.heap r y ∧ Keeps st s') w' s2 := ⟨rw', k12⟩
        exact subscriptTail_builtinR (x := w') pl.typeIs slot_tuple_getitem.lookup
          (getItem_tuple (j := j) (Q := fun r s' => r = w' ∧ ((fun r (s' : Shared) => WV s'.heap r y ∧ Keeps st s') r s')) pl (by omega) (by omega) (by rw [List.size_toArray, hl]; exact h1) (by simpa using ew) ⟨rfl, fin⟩) (hs _ _)
      · cases hm
    | rol ys =>
      unfold oIx at hm
      dsimp only [sqA] at hm
      split at hm
      · rename_i z hz
        cases hm
        obtain ⟨a, vs, rfl, pl, hz2, r⟩ := v1.rol
        obtain ⟨j, h1, h2, h3, h4, h5⟩ := atI_get hz
        obtain ⟨w', ew, rw'⟩ := r.get h2
        have hl := r.length
        have fin : (fun r (s' : Shared) => WV s'.heap r y ∧ Keeps st s') w' s2 := ⟨rw', k12⟩
        by_cases hi : 0 ≤ i
        · have hj : i.toNat = j := by
            rw [seqIndex_of hi h5] at h1
            exact Option.some.inj h1
          exact item_listR pl hi (by omega) (by rw [hj]; simpa using ew) fin (hs _ _)
        · have hj : (i + (vs.toArray.size : Int)).toNat = j := by
            rw [seqIndex_neg (by omega) h4] at h1
            rw [List.size_toArray, hl]
            exact Option.some.inj h1
          exact subscriptTail_builtinR (x := w') pl.typeIs slot_list_getitem.lookup
            (wpAny_getItem_list_neg (Q := fun r s' => r = w' ∧ ((fun r (s' : Shared) => WV s'.heap r y ∧ Keeps st s') r s')) pl (by omega) (by rw [List.size_toArray] <;> omega) (by omega) (by rw [hj]; simpa using ew) ⟨rfl, fin⟩) (hs _ _)
      · cases hm
    | ref n =>
      have : lstAt [] n = none := by unfold lstAt; simp
      unfold oIx at hm
      dsimp only [sqA] at hm
      rw [this] at hm
      cases hm
    | _ => cases hm
  | _ => cases hm
theorem sp_ix (ha : SP K mg N sc a ma) (hb : SP K mg N sc b mb) (hs : PlainIx b := by exact fun _ _ => rfl) : SP K mg N sc (.Subscript a b pos) (mOp oIx ma mb) := ⟨spx_ix ha.px hb.px ha.br hb.br hs, bare_op ob_ix ha.br hb.br⟩
/-! ### len -/
def LenW : W → Option Nat
  | .str s => if s.length ≤ lim then some s.length else none
  | .tup xs => some xs.length
  | .rol xs => some xs.length
  | _ => none
def mLenP (m : M W) : M W := fun e h => (m e h).bnd fun x h => match LenW x with
  | some n => .ok (.int n) h
  | none => .bad
theorem spx_len (ha : SPx K mg N sc a ma) (b1 : Bare ma) (hg : GlP sc "len") (hm0 : mg "len" = none) (he : ∀ env, starEach [a] env = (false, eval a env) :: starEach [] env := by intro _; rfl) : SPx K mg N sc (.Call (.Name "len" p) [a] [] pos) (mLenP ma) := fun P w env h0 ev y hsc ok hm A E st k => by
  obtain ⟨x1, h1, e1, hm⟩ := bnd_inv hm
  have z1 := b1 _ _ _ e1
  subst z1
  obtain ⟨mb, q1, q2⟩ := ok.blt
  refine wpAny_Call_Name_kw (Calls.Name_function_global ok.kind (by show env.scope.names.lookup _ = _; rw [hsc]; exact hg) (Calls.loadGlobal_builtin (ok.glob.keeps k) hm0 (q1.keeps k) ((q2 "len" (by decide)).trans PySem.boot_len) ?_) (by decide))
  have he' := he env
  refine PyProof.Rows.callWith_builtin1 ?_ he' (by rfl)
  rw [he']
  refine Calls.spliced_cons (wpAny_mono (ha P w env h0 ev x1 hsc ok e1 A E st k) (fun v s1 q1 => Calls.spliced_nil ?_) fun _ _ e => e)
  have hn := line63
  have v1 := q1.1
  have k1 := q1.2
  split at hm
  · rename_i n hn2
    cases hm
    cases x1 with
    | str z =>
      unfold LenW at hn2
      dsimp only at hn2
      split at hn2
      · rename_i hl
        cases hn2
        obtain ⟨t, rfl⟩ := v1.str
        have hz : Str.length (mkS z) ≤ sizeLine := by rw [Str_length]; exact lim_size hl
        refine len_str (by omega) ⟨?_, kpT k1 (keeps_tok _ _)⟩
        rw [Str_length]
        exact wv_int
      · cases hn2
    | tup ys =>
      cases hn2
      obtain ⟨a, vs, rfl, pl, hz2, r⟩ := v1.tup
      refine len_tuple pl (by simp only [List.size_toArray] <;> omega) ⟨?_, kpT k1 (keeps_tok _ _)⟩
      rw [List.size_toArray, r.length]
      exact wv_int
    | rol ys =>
      cases hn2
      obtain ⟨a, vs, rfl, pl, hz2, r⟩ := v1.rol
      refine Calls.call_len_list pl (by simp only [List.size_toArray] <;> omega) ⟨?_, kpT k1 (keeps_tok _ _)⟩
      rw [List.size_toArray, r.length]
      exact wv_int
    | _ => cases hn2
  · cases hm
theorem sp_len (ha : SP K mg N sc a ma) (hg : GlP sc "len") (hm0 : mg "len" = none) (he : ∀ env, starEach [a] env = (false, eval a env) :: starEach [] env := by intro _; rfl) : SP K mg N sc (.Call (.Name "len" p) [a] [] pos) (mLenP ma) := ⟨spx_len ha.px ha.br hg hm0 he, fun ev x h e => by
  obtain ⟨x1, h1, e1, e⟩ := bnd_inv e
  have z1 := ha.br _ _ _ e1
  subst z1
  split at e <;> cases e <;> rfl⟩
/-! ### isinstance -/
def tyNm (x : W) (h : List O) : String := match x with
  | .non => "NoneType"
  | .bl _ => "bool"
  | .int _ => "int"
  | .str _ => "str"
  | .tup _ => "tuple"
  | .rol _ => "list"
  | .ref n => match h[n]? with
    | some (.lst _) => "list"
    | some (.dic _) => "dict"
    | _ => "?"
def mIsi (T : String) (m : M W) : M W := fun e h => (m e h).bnd fun x h => match kitB (tyNm x h) T with
  | some b => .ok (.bl b) h
  | none => .bad
theorem wv_kit {s : Shared} {v : Value} {x : W} {b : Bool} {T : String} (h : WV s.heap v x) (e : kitB (tyNm x []) T = some b) : ∃ (t : Value) (P : Heap → Prop), PySem.W.KitX K v t P ∧ P s.heap ∧ v ≠ .builtin "__main__.__loader__#opaque" ∧ PySem.W.kitOne K t (.type T) = some b := by
  cases x with
  | non => rw [h.non]; exact ⟨_, _, PySem.W.kitx_none, True.intro, (fun z => nomatch z), e⟩
  | bl y => rw [h.bl]; exact ⟨_, _, PySem.W.kitx_bool, True.intro, (fun z => nomatch z), e⟩
  | int y => obtain ⟨t, rfl⟩ := h.int; exact ⟨_, _, PySem.W.kitx_int, True.intro, (fun z => nomatch z), e⟩
  | str y => obtain ⟨t, rfl⟩ := h.str; exact ⟨_, _, PySem.W.kitx_str, True.intro, (fun z => nomatch z), e⟩
  | tup y =>
    obtain ⟨a, vs, rfl, ⟨o, h1, h2, _⟩, _⟩ := h.tup
    exact ⟨_, _, PySem.W.kitx_tuple, ⟨o, h1, h2⟩, (fun z => nomatch z), e⟩
  | rol y =>
    obtain ⟨a, vs, rfl, ⟨o, h1, h2, _⟩, _⟩ := h.rol
    exact ⟨_, _, PySem.W.kitx_list, ⟨o, h1, h2⟩, (fun z => nomatch z), e⟩
  | ref n => exact (show False from h).elim
theorem spx_isi {T : Str} {Tn : String} (ha : SPx K mg N sc a ma) (b1 : Bare ma) (hg : GlP sc "isinstance") (hm0 : mg "isinstance" = none) (hgT : GlP sc T) (hmT : mg T = none) (hbT : bootBuiltins T = some (.type Tn)) (hnT : T ≠ "__name__" := by decide) (hdT : (T == ("__debug__" : Str)) = false := by decide)
    (he : ∀ env, starEach [a, .Name T p2] env = (false, eval a env) :: (false, eval (.Name T p2) env) :: starEach [] env := by intro _; rfl) (hpl : ∀ env, (backTo pos (starEach [.Name T p2] env)).any (·.1) = false := by intro _; rfl) : SPx K mg N sc (.Call (.Name "isinstance" p) [a, .Name T p2] [] pos) (mIsi Tn ma) := fun P w env h0 ev y hsc ok hm A E st k => by
  obtain ⟨x1, h1, e1, hm⟩ := bnd_inv hm
  have z1 := b1 _ _ _ e1
  subst z1
  obtain ⟨mb, q1, q2⟩ := ok.blt
  have gk : ∀ x, GlP sc x → env.kindOf x = some .globalImplicit := fun x hx => by show env.scope.names.lookup _ = _; rw [hsc]; exact hx
  refine wpAny_Call_Name_kw (Calls.Name_function_global ok.kind (gk _ hg) (Calls.loadGlobal_builtin (ok.glob.keeps k) hm0 (q1.keeps k) ((q2 "isinstance" (by decide)).trans PyProof.Rows.boot_isinstance) ?_) (by decide))
  have he' : starEach [a, .Name T p2] env = (false, eval a env) :: starEach [.Name T p2] env := he env
  refine PyProof.Rows.callWith_builtin1 ?_ he' (hpl env)
  rw [he env]
  refine Calls.spliced_cons (wpAny_mono (ha P w env h0 ev x1 hsc ok e1 A E st k) (fun v s1 q3 => ?_) fun _ _ e => e)
  have k1 : Kp h0 s1.heap := fun b o z => kpH q3.2 b o (k b o z)
  refine Calls.spliced_cons (wpAny_mono (Calls.Name_function_global (Q := fun u s2 => u = .type Tn ∧ s2 = s1) ok.kind (gk _ hgT) (Calls.loadGlobal_builtin (ok.glob.keeps k1) hmT (q1.keeps k1) ((q2 T hnT).trans hbT) ⟨rfl, rfl⟩) hdT) (fun u s2 q4 => Calls.spliced_nil ?_) fun _ _ e => e)
  obtain ⟨rfl, rfl⟩ := q4
  split at hm
  · rename_i b hb
    cases hm
    obtain ⟨t, Pz, Z, pz, hne, ho⟩ := wv_kit (K := K) q3.1 hb
    exact PySem.W.kia_one Z (ok.kin.keeps k1) pz ho hne fun tk => ⟨wv_bl, kpT q3.2 (keeps_tok _ _)⟩
  · cases hm
theorem sp_isi {T : Str} {Tn : String} (ha : SP K mg N sc a ma) (hg : GlP sc "isinstance") (hm0 : mg "isinstance" = none) (hgT : GlP sc T) (hmT : mg T = none) (hbT : bootBuiltins T = some (.type Tn)) (hnT : T ≠ "__name__" := by decide) (hdT : (T == ("__debug__" : Str)) = false := by decide)
    (he : ∀ env, starEach [a, .Name T p2] env = (false, eval a env) :: (false, eval (.Name T p2) env) :: starEach [] env := by intro _; rfl) (hpl : ∀ env, (backTo pos (starEach [.Name T p2] env)).any (·.1) = false := by intro _; rfl) : SP K mg N sc (.Call (.Name "isinstance" p) [a, .Name T p2] [] pos) (mIsi Tn ma) :=
  ⟨spx_isi ha.px ha.br hg hm0 hgT hmT hbT hnT hdT he hpl, fun ev x h e => by
    obtain ⟨x1, h1, e1, e⟩ := bnd_inv e
    have z1 := ha.br _ _ _ e1
    subst z1
    split at e <;> cases e <;> rfl⟩
/-! ### x[lo:hi] of a text -/
def SPo (K : PySem.W.Frag) (mg : Str → Option Value) (N : List Str) (sc : Scope) (o : Option Expr) (m : M (Option Int)) : Prop :=
  (∀ ev x h, m ev [] = .ok x h → h = []) ∧ ∀ (P : Program) (w : World) (env : PySem.Env) (h0 : Heap) (ev : Env) (x : Option Int), env.scope = sc → PxOk K mg N env h0 ev → m ev [] = .ok x [] → ∀ (A : Around) (E : Value → Shared → Prop) (s : Shared), Kp h0 s.heap →
    wpAny (model P w) A (evalPart o env) (fun y s' => (∃ l : Option (Int × Tok), y = partValue l ∧ l.map (·.1) = x) ∧ Keeps s s') E s
theorem spo_none : SPo K mg N sc none mNoPart := ⟨fun ev x h e => by cases e; rfl, fun P w env h0 ev x hs ok hm A E s k => by
  cases hm
  rw [evalPart_none]
  exact wpAny_pure ⟨⟨none, rfl, rfl⟩, keeps_rfl s⟩⟩
theorem bare_part (ha : Bare ma) : ∀ ev x h, mPart ma ev [] = .ok x h → h = [] := fun ev x h e => by
  obtain ⟨x1, h1, e1, e⟩ := bnd_inv e
  have z1 := ha _ _ _ e1
  subst z1
  split at e
  · cases e
    rfl
  · cases e
theorem spo_some (ha : SP K mg N sc a ma) : SPo K mg N sc (some a) (mPart ma) := ⟨bare_part ha.br, fun P w env h0 ev x hs ok hm A E s k => by
  obtain ⟨x1, h1, e1, hm⟩ := bnd_inv hm
  have z1 := ha.br _ _ _ e1
  subst z1
  split at hm
  · rename_i i
    cases hm
    show wpAny _ _ (eval a env) _ _ _
    refine wpAny_mono (ha.px P w env h0 ev _ hs ok e1 A E s k) (fun y s' q => ?_) fun _ _ e => e
    obtain ⟨t, rfl⟩ := q.1.int
    exact ⟨⟨some (i, t), rfl, rfl⟩, q.2⟩
  · cases hm⟩
theorem made_cut {x : List Nat} {t : Tok} {l u : Option (Int × Tok)} {Q : Value → Shared → Prop} {s : Shared} (hz : x.length ≤ lim) (h : ∀ t' k, Q (.str (mkS (cutW x (l.map (·.1)) (u.map (·.1)))) t') { s with toks := k }) : (sliceMade (mkS x) t l u none).post Q s := by
  have hl3 : (PySem.StrLaws.sliceText (mkS x) (l.map (·.1)) (u.map (·.1))).length ≤ sizeLine := by
    rw [sliceText_cut]
    exact Nat.le_trans (cutS_length (mkS x) _ _) (by rw [Str_length]; exact lim_size hz)
  have h' : ∀ t' k, Q (.str (PySem.StrLaws.sliceText (mkS x) (l.map (·.1)) (u.map (·.1))) t') { s with toks := k } := fun t' k => by
    rw [sliceText_cut, show mkS x = ⟨x.toArray⟩ from rfl, cutS_cut]
    exact h t' k
  unfold PySem.StrLaws.sliceText at h' hl3
  show Made.post (if ((1 : Int) == 1 && (Builtin.Str.strSliceIndices (l.map (·.1)) (u.map (·.1)) 1 (mkS x).length).length == (mkS x).length) = true then Made.val (.str (mkS x) t)
    else Made.str ⟨((Builtin.Str.strSliceIndices (l.map (·.1)) (u.map (·.1)) 1 (mkS x).length).filterMap ((mkS x).cps[·]?)).toArray⟩) Q _
  by_cases c : ((1 : Int) == 1 && (Builtin.Str.strSliceIndices (l.map (·.1)) (u.map (·.1)) 1 (mkS x).length).length == (mkS x).length) = true
  · rw [if_pos c] at h' ⊢
    exact h' _ _
  · rw [if_neg c] at h' hl3 ⊢
    exact ⟨hl3, h' _ _⟩
def oSlS (x : W) (lo hi : Option Int) (h : List O) : Out W := match x with
  | .str s => if s.length ≤ lim then .ok (.str (cutW s lo hi)) h else .bad
  | _ => .bad
def mSlS (m : M W) (lo hi : M (Option Int)) : M W := fun e h => (m e h).bnd fun x h => (lo e h).bnd fun l h => (hi e h).bnd fun u h => oSlS x l u h
theorem spx_sl {lo hi : Option Expr} {ml mh : M (Option Int)} (ha : SPx K mg N sc a ma) (b1 : Bare ma) (hl : SPo K mg N sc lo ml) (hh : SPo K mg N sc hi mh) (ht : ∀ o r, letTemporaryGo a o r = pure () := by intro _ _; rfl) : SPx K mg N sc (.Subscript a (.Slice lo hi none p2) pos) (mSlS ma ml mh) := fun P w env h0 ev y hsc ok hm A E st k => by
  obtain ⟨x1, h1, e1, hm⟩ := bnd_inv hm
  have z1 := b1 _ _ _ e1
  subst z1
  obtain ⟨x2, h2, e2, hm⟩ := bnd_inv hm
  have z2 := hl.1 _ _ _ e2
  subst z2
  obtain ⟨x3, h3, e3, hm⟩ := bnd_inv hm
  have z3 := hh.1 _ _ _ e3
  subst z3
  refine wpAny_Subscript_str_slice (wpAny_mono (ha P w env h0 ev x1 hsc ok e1 A E st k) (fun v s1 q1 => ?_) fun _ _ e => e) ht
  have k1 : Kp h0 s1.heap := fun b o z => kpH q1.2 b o (k b o z)
  refine wpAny_mono (hl.2 P w env h0 ev x2 hsc ok e2 A E s1 k1) (fun vl s2 q2 => ?_) fun _ _ e => e
  have k2 : Kp h0 s2.heap := fun b o z => kpH q2.2 b o (k1 b o z)
  refine wpAny_mono (hh.2 P w env h0 ev x3 hsc ok e3 A E s2 k2) (fun vu s3 q3 => ?_) fun _ _ e => e
  obtain ⟨l, rfl, rfl⟩ := q2.1
  obtain ⟨u, rfl, rfl⟩ := q3.1
  cases x1 with
  | str z =>
    unfold oSlS at hm
    dsimp only at hm
    split at hm
    · rename_i hz
      cases hm
      obtain ⟨t, rfl⟩ := q1.1.str
      refine ⟨mkS z, t, l, u, rfl, rfl, rfl, made_cut hz fun t' k' => ⟨wv_str, ?_⟩⟩
      obtain ⟨hf, tk, rfl, kp⟩ := kpT q1.2 (kpT q2.2 q3.2)
      exact ⟨_, _, rfl, fun b o e => Heap.get?_push_of_some _ (kp b o e)⟩
    · cases hm
  | _ => cases hm
theorem sp_sl {lo hi : Option Expr} {ml mh : M (Option Int)} (ha : SP K mg N sc a ma) (hl : SPo K mg N sc lo ml) (hh : SPo K mg N sc hi mh) (ht : ∀ o r, letTemporaryGo a o r = pure () := by intro _ _; rfl) : SP K mg N sc (.Subscript a (.Slice lo hi none p2) pos) (mSlS ma ml mh) := ⟨spx_sl ha.px ha.br hl hh ht, fun ev x h e => by
  obtain ⟨x1, h1, e1, hm⟩ := bnd_inv e
  have z1 := ha.br _ _ _ e1
  subst z1
  obtain ⟨x2, h2, e2, hm⟩ := bnd_inv hm
  have z2 := hl.1 _ _ _ e2
  subst z2
  obtain ⟨x3, h3, e3, hm⟩ := bnd_inv hm
  have z3 := hh.1 _ _ _ e3
  subst z3
  unfold oSlS at hm
  split at hm
  · split at hm <;> cases hm <;> rfl
  · cases hm⟩
end
end Den
set_option maxRecDepth 100000
set_option maxHeartbeats 1000000
/-! sorted(.., key=lambda x: e). -/
namespace Den
open PySem L2 PyProof.Rows PySem.W
/-! ### values frozen: lists by what is in them -/
def frz (h : List O) : Nat → W → Option W
  | 0, _ => none
  | n + 1, .ref k => (lstAt h k).bind fun xs => (mapO (frz h n) xs).map .rol
  | n + 1, .rol xs => (mapO (frz h n) xs).map .rol
  | n + 1, .tup xs => (mapO (frz h n) xs).map .tup
  | n + 1, .non => some .non
  | n + 1, .bl b => some (.bl b)
  | n + 1, .int i => some (.int i)
  | n + 1, .str s => some (.str s)
section
variable {X : Cx} {G : Gx} {pins : List (Addr × Obj)} {σ : L2.St} {H : Hp} {s : Shared} {ρ : List Addr} {h : List O}
theorem mapO_wvs {f : W → Option W} (hf : ∀ v u w w', VR X.K H ρ v w → RelV v u → f w = some w' → WV s.heap u w') : ∀ {ws : List W} {vs : List V} {us : List Value} {ws' : List W}, VRs X.K H ρ vs ws → Vals vs us → mapO f ws = some ws' → WVs s.heap us ws'
  | [], vs, us, ws', r, q, e => by
    unfold VRs at r
    cases e
    subst r
    cases q
    unfold WVs
    rfl
  | w :: ws, vs, us, ws', r, q, e => by
    unfold VRs at r
    obtain ⟨v, l, rfl, r1, r2⟩ := r
    cases q with
    | cons q1 q2 =>
      unfold mapO at e
      split at e
      · rename_i d hd
        split at e
        · rename_i ds hds
          cases e
          unfold WVs
          exact ⟨_, _, rfl, hf _ _ _ _ r1 q1 hd, mapO_wvs hf r2 q2 hds⟩
        · cases e
      · cases e
theorem seqs_len {vs : List V} {us : List Value} (r : Vals vs us) (h : vs.length ≤ sizeLine) : us.length ≤ sizeLine := by rw [← r.length]; exact h
theorem frz_wv (I : Inv X pins σ H s) (hr : HR X.K G H ρ h) : ∀ (n : Nat) (v : V) (u : Value) (w w' : W), VR X.K H ρ v w → RelV v u → frz h n w = some w' → WV s.heap u w'
  | 0, v, u, w, w', r, q, e => by cases e
  | n + 1, v, u, .non, w', r, q, e => by cases e; rw [r.non] at q; cases q; exact wv_non
  | n + 1, v, u, .bl b, w', r, q, e => by cases e; rw [r.bl] at q; cases q; exact wv_bl
  | n + 1, v, u, .int b, w', r, q, e => by cases e; rw [r.int] at q; obtain ⟨t, rfl⟩ := q; exact wv_int
  | n + 1, v, u, .str b, w', r, q, e => by cases e; rw [r.str] at q; obtain ⟨t, rfl⟩ := q; exact wv_str
  | n + 1, v, u, .tup xs, w', r, q, e => by
    unfold frz at e
    obtain ⟨a, vs, rfl, sq, z⟩ := sqT_ok (xs := xs) r rfl
    cases q
    obtain ⟨its, rv, pl, hz⟩ := I.tuple sq
    cases hm : mapO (frz h n) xs with
    | none => rw [hm] at e; cases e
    | some ds =>
      rw [hm] at e
      cases e
      unfold WV
      exact ⟨a, its, rfl, pl, seqs_len rv hz, mapO_wvs (fun v u w w' => frz_wv I hr n v u w w') z rv hm⟩
  | n + 1, v, u, .rol xs, w', r, q, e => by
    unfold frz at e
    obtain ⟨a, vs, rfl, sq, z⟩ := sqL_ok (xs := xs) hr r rfl
    cases q
    obtain ⟨its, rv, pl, hz⟩ := I.list sq
    cases hm : mapO (frz h n) xs with
    | none => rw [hm] at e; cases e
    | some ds =>
      rw [hm] at e
      cases e
      unfold WV
      exact ⟨a, its, rfl, pl.isList, seqs_len rv hz, mapO_wvs (fun v u w w' => frz_wv I hr n v u w w') z rv hm⟩
  | n + 1, v, u, .ref k, w', r, q, e => by
    unfold frz at e
    cases hl : lstAt h k with
    | none => rw [hl] at e; cases e
    | some xs =>
      rw [hl] at e
      obtain ⟨a, vs, rfl, sq, z⟩ := sqL_ok (w := .ref k) (xs := xs) hr r hl
      cases q
      obtain ⟨its, rv, pl, hz⟩ := I.list sq
      cases hm : mapO (frz h n) xs with
      | none => simp only [Option.bind, hm] at e; cases e
      | some ds =>
        simp only [Option.bind, hm] at e
        cases e
        unfold WV
        exact ⟨a, its, rfl, pl.isList, seqs_len rv hz, mapO_wvs (fun v u w w' => frz_wv I hr n v u w w') z rv hm⟩
end
def frzE (h : List O) (e : Env) : Env := e.map fun o => o.bind (frz h 6)
/-! ### plain data without lists -/
def pdat : Nat → W → Option PyData
  | 0, _ => none
  | n + 1, .non => some .none
  | n + 1, .bl b => some (.bool b)
  | n + 1, .int i => some (.int i)
  | n + 1, .str s => some (.str (mkS s))
  | n + 1, .tup xs => (mapO (pdat n) xs).map .tuple
  | _, _ => none
theorem mapO_reads {h : Heap} {f : W → Option PyData} (hf : ∀ v w d, WV h v w → f w = some d → Reads h v d []) : ∀ {ws : List W} {vs : List Value} {ds : List PyData}, WVs h vs ws → mapO f ws = some ds → ReadsAll h vs ds []
  | [], vs, ds, r, e => by
    unfold WVs at r
    cases e
    subst r
    exact .nil
  | w :: ws, vs, ds, r, e => by
    unfold WVs at r
    obtain ⟨v, l, rfl, r1, r2⟩ := r
    unfold mapO at e
    split at e
    · rename_i d hd
      split at e
      · rename_i ds hds
        cases e
        exact .cons (as := []) (bs := []) (hf _ _ _ r1 hd) (mapO_reads hf r2 hds)
      · cases e
    · cases e
theorem pdat_reads {h : Heap} : ∀ (n : Nat) (v : Value) (w : W) (d : PyData), WV h v w → pdat n w = some d → Reads h v d []
  | 0, v, w, d, r, e => by cases e
  | n + 1, v, .non, d, r, e => by cases e; rw [r.non]; exact .none
  | n + 1, v, .bl b, d, r, e => by cases e; rw [r.bl]; exact .bool b
  | n + 1, v, .int b, d, r, e => by cases e; obtain ⟨t, rfl⟩ := r.int; exact .int b t
  | n + 1, v, .str b, d, r, e => by cases e; obtain ⟨t, rfl⟩ := r.str; exact .str _ t
  | n + 1, v, .tup xs, d, r, e => by
    unfold pdat at e
    cases hm : mapO (pdat n) xs with
    | none => rw [hm] at e; cases e
    | some ds =>
      rw [hm] at e
      cases e
      obtain ⟨a, vs, rfl, ⟨o, h1, h2, m, h3⟩, hz, q⟩ := r.tup
      exact .tuple h1 h2 h3 (by simpa using mapO_reads (fun v w d => pdat_reads n v w d) q hm)
  | n + 1, v, .rol xs, d, r, e => by cases e
  | n + 1, v, .ref xs, d, r, e => by cases e
/-! ### a lambda of one parameter -/
structure LamP (sc scope : Scope) (x : Str) : Prop where
  kind : scope.kind = .function
  co : scope.isCoroutine = false
  gen : scope.isGenerator = false
  cell : ∀ y ∈ scope.names, y.2 ≠ .cell
  loc : scope.names.lookup x = some .local
  own : ∀ y, scope.names.lookup y = some .local → y = x
  free : ∀ y ∈ scope.names, y.2 = .free → sc.names.lookup y.1 = some .cell ∨ sc.names.lookup y.1 = some .free
def lamPB (sc scope : Scope) (x : Str) : Bool :=
  decide (scope.kind = .function) && !scope.isCoroutine && !scope.isGenerator && decide (scope.names.lookup x = some .local) &&
    scope.names.all fun y => !decide (y.2 = .cell) && (!decide (y.2 = .local) || decide (y.1 = x)) && (!decide (y.2 = .free) || decide (sc.names.lookup y.1 = some .cell) || decide (sc.names.lookup y.1 = some .free))
theorem lamP_by {sc scope : Scope} {x : Str} (h : lamPB sc scope x = true) : LamP sc scope x := by
  unfold lamPB at h
  simp only [Bool.and_eq_true, Bool.or_eq_true, Bool.not_eq_true', decide_eq_true_eq, decide_eq_false_iff_not, List.all_eq_true] at h
  obtain ⟨⟨⟨⟨h1, h2⟩, h3⟩, h4⟩, h5⟩ := h
  refine ⟨h1, h2, h3, fun y hy => (h5 y hy).1.1, h4, fun y hy => ?_, fun y hy e => ?_⟩
  · have hm := PySem.mem_of_lookup hy
    rcases (h5 _ hm).1.2 with z | z
    · exact absurd rfl z
    · exact z
  · rcases (h5 y hy).2 with (z | z) | z
    · exact absurd e z
    · exact .inl z
    · exact .inr z
/-- what a call of the lambda f gives: by its body -/
theorem lam_call {P : Program} {w : World} {A : Around} {s : Shared} {f c' : Addr} {qual x : Str} {params : Arguments} {body : Expr} {scope : Scope} {clos : List (Str × Addr)} {pm ctv v : Value} {sc : Scope} {Q : Value → Shared → Prop} {E : Value → Shared → Prop}
    (L : LamP sc scope x) (hd : A.depth < recursionLimit) (hf : s.heap.get? f = some (PySem.W.kla_obj "<lambda>" qual params body scope clos pm c' ctv)) (hc : s.heap.CodeRec (.ref c') qual) (hl : s.heap.NoLimit)
    (hbind : bindArgs (PySem.W.kla_fn "<lambda>" qual params body scope clos pm (.ref c') ctv) ⟨[v], []⟩ = pure [(x, v)])
    (h : ∀ (env : PySem.Env) (h₁ : Heap) (tk : Nat), env.scope = scope → env.cells = clos → env.globals = mainGlobals → env.builtins = builtinsNs → Kp s.heap h₁ → (h₁.Ns env.locals fun y => [(x, v)].lookup y) →
      wpAny (model P w) (A.deeper env) (eval body env) Q (fun _ _ => False) { s with heap := h₁, toks := tk }) :
    wpAny (model P w) A (call (.ref f) [v]) Q E s := by
  refine wpAny_call ?_
  refine PySem.W.kla_callFunE hd hf rfl L.co L.gen rfl hc ?_
  rw [hbind]
  refine wpAny_pure (wpAny_newFunctionEnv (fun y hy => L.cell y hy) (fun y hy => ?_) (fun h₁ hns hsb => ⟨hl.fresh _ hsb, ?_⟩) L.kind)
  · have e : y = (x, v) := by simpa using hy
    rw [e]
    exact L.loc
  · have kp : Kp s.heap h₁ := fun b o e => hsb.extBut b o (Nat.ne_of_lt (Heap.lt_size e)) (Heap.get?_push_of_some _ e)
    refine PySem.W.kla_codeExpr (wpAny_mono (h _ h₁ _ rfl rfl rfl rfl kp hns) (fun u s' hq => ?_) fun e s' hq => hq.elim)
    exact hq
end Den
set_option maxRecDepth 100000
set_option maxHeartbeats 2000000
/-! What can be gathered, sorted with and without a key. -/
namespace Den
open PySem L2 PyProof.Rows PySem.W LamX
/-! ### what can be gathered in order -/
def rgVs (lo hi : Int) : List V := (List.range (hi - lo).toNat).map fun i : Nat => V.int (lo + i)
def ColV (K : PySem.W.Frag) (H : Hp) (v : V) (xs : List V) : Prop :=
  ∃ a, v = .ref a ∧ (SqL K H a xs ∨ SqT K H a xs ∨ ∃ lo hi, H a = some (.rng lo hi) ∧ -(2 ^ 62) ≤ lo ∧ lo < 2 ^ 62 ∧ -(2 ^ 62) ≤ hi ∧ hi < 2 ^ 62 ∧ (hi - lo).toNat ≤ 16777216 ∧ xs = rgVs lo hi)
abbrev ColRel (K : PySem.W.Frag) : Hp → List Addr → V → List W → Prop := fun H ρ v ws => ∃ xs, ColV K H v xs ∧ VRs K H ρ xs ws ∧ ws.length ≤ 16777216
section
variable {X : Cx} {pins : List (Addr × Obj)} {σ : L2.St} {H : Hp} {s : Shared}
theorem small24 : (16777216 : Nat) ≤ sizeLine := by rw [PySem.sizeLine_eq]; decide
theorem vals_rgVs {lo : Int} : ∀ {us : List Value} {n : Nat} {k : Nat}, us.length = n → (∀ (i : Nat) (v : Value), us[i]? = some v → ∃ t, v = .int (lo + ((k + i : Nat) : Int)) t) → Vals ((List.range' k n).map fun i : Nat => V.int (lo + i)) us
  | [], n, k, h, _ => by subst h; exact .nil
  | u :: us, n, k, h, q => by
    subst h
    rw [List.length_cons, List.range'_succ, List.map_cons]
    refine .cons ?_ (vals_rgVs (k := k + 1) rfl fun i v hv => ?_)
    · obtain ⟨t, e⟩ := q 0 u rfl
      exact ⟨t, by rw [e]; rfl⟩
    · obtain ⟨t, e⟩ := q (i + 1) v (by simpa using hv)
      exact ⟨t, by rw [e]; congr 1; omega⟩
theorem colv_coll (I : Inv X pins σ H s) {v : V} {u : Value} {xs : List V} (r : RelV v u) (c : ColV X.K H v xs) {A : Around} (hh : A.handled = none) : Coll X.prog X.w A s u (fun us => Vals xs us) := by
  obtain ⟨a, rfl, c⟩ := c
  cases r
  rcases c with c | c | ⟨lo, hi, c, h1, h2, h3, h4, h5, rfl⟩
  · obtain ⟨its, rv, pl, hz⟩ := I.list c
    exact fun Q E h => coll_list pl.isList (seqs_len rv hz) I.bare Q E fun s' vs k g o e => h s' vs k g o (by rw [e]; exact rv)
  · obtain ⟨its, rv, pl, hz⟩ := I.tuple c
    exact fun Q E h => coll_tup pl (seqs_len rv hz) I.bare Q E fun s' vs k g o e => h s' vs k g o (by rw [e]; exact rv)
  · have hr := I.hok a _ c
    exact fun Q E h => coll_rng hh hr h1 h2 h3 h4 h5 I.bare Q E fun s' vs k g o e => h s' vs k g o (by
      have := vals_rgVs (lo := lo) (k := 0) e.1 fun i v hv => by
        obtain ⟨t, e⟩ := e.2 i v hv
        exact ⟨t, by rw [e, Nat.zero_add]⟩
      rw [← List.range_eq_range'] at this
      exact this)
theorem ColV.ext {K : PySem.W.Frag} {H H' : Hp} {v : V} {xs : List V} (c : ColV K H v xs) (e : ExtN H H') : ColV K H' v xs := by
  obtain ⟨a, rfl, c⟩ := c
  refine ⟨a, rfl, ?_⟩
  have key : ∀ b o, H b = some o → isTbl o = false → H' b = some o := fun b o q t => e b o q (by intro ps z; subst z; cases t)
  rcases c with (⟨c | ⟨o, c⟩⟩ | c) | (⟨c | ⟨o, c⟩⟩ | c) | ⟨lo, hi, c, q⟩
  · exact .inl (.inl (.inl (key _ _ c rfl)))
  · exact .inl (.inl (.inr ⟨o, key _ _ c rfl⟩))
  · exact .inl (.inr c)
  · exact .inr (.inl (.inl (.inl (key _ _ c rfl))))
  · exact .inr (.inl (.inl (.inr ⟨o, key _ _ c rfl⟩)))
  · exact .inr (.inl (.inr c))
  · exact .inr (.inr ⟨lo, hi, key _ _ c rfl, q⟩)
end
/-- e gives a thing whose items m tells -/
def SItems (G : Gx) (X : Cx) (e : Expr) (m : M (List W)) : Prop := ∀ Wx, Takes X Wx → PE X e (rd X.K G Wx (ColRel X.K) m)
def mItems (m : M W) : M (List W) := fun e h => (m e h).bnd fun w h => match sqA w h with
  | some xs => if xs.length ≤ 16777216 then .ok xs h else .bad
  | none => .bad
def rgW (lo hi : Int) : List W := (List.range (hi - lo).toNat).map fun i : Nat => W.int (lo + i)
def rgOkB (lo hi : Int) : Bool := decide (-(2 ^ 62) ≤ lo) && decide (lo < 2 ^ 62) && decide (-(2 ^ 62) ≤ hi) && decide (hi < 2 ^ 62) && decide ((hi - lo).toNat ≤ 16777216)
def mItemsR1 (m : M (List W)) : M (List W) := fun e h => (m e h).bnd fun ws h => match ws with
  | [.int j] => if rgOkB 0 j = true then .ok (rgW 0 j) h else .bad
  | _ => .bad
def mItemsR2 (m : M (List W)) : M (List W) := fun e h => (m e h).bnd fun ws h => match ws with
  | [.int i, .int j] => if rgOkB i j = true then .ok (rgW i j) h else .bad
  | _ => .bad
section
variable {G : Gx} {X : Cx} {e : Expr} {m : M W} {pos p : Pos}
theorem PE.imp' {t t' : TE} (p : PE X e t) (i : ∀ σ H Q, t' σ H Q → t σ H Q) : PE X e t' := L2.PE.imp p i
theorem sit_seq (he : SE G X e m) : SItems G X e (mItems m) := fun Wx tk => (he Wx tk).imp fun σ H Q p => rd.bnd (Rel := VRel X.K) p fun H0 ρ0 e sr x H1 ρ1 h1 wx x1 r1 vx p1 => by
  split at p1
  · rename_i xs hx
    split at p1
    · rename_i hl
      obtain ⟨a, vs, rfl, q, z⟩ := sqA_ok r1 vx hx
      refine p1 ρ1 H1 _ (Ext.refl r1) r1 ⟨vs, ⟨a, rfl, ?_⟩, z, hl⟩
      rcases q with q | q
      · exact .inl q
      · exact .inr (.inl q)
    · exact p1.elim
  · exact p1.elim
theorem cr_range1 : CallR X (.type "range") (fun vs H Q => ∃ j, vs = [V.int j] ∧ ∀ p, H p = none → Q (.ref p) (upd H p (.rng 0 j))) := by
  intro pins s σ H xs us Q I r h
  obtain ⟨j, rfl, q⟩ := h
  obtain ⟨u, rfl, t, rfl⟩ := vals1 r
  refine call_range_1 ⟨.ref s.heap.objs.size, upd H s.heap.objs.size (.rng 0 j), I.laid (t' := s.toks + 1 + 1) (fun b o e => Heap.get?_push_of_some _ e) (Nat.le_refl _) ?_, rfl, q _ (I.hok.fresh (Nat.le_refl _))⟩
  exact ⟨_, _, _, Heap.get?_push_size _ rfl⟩
theorem rgOkB_ok {lo hi : Int} (h : rgOkB lo hi = true) : -(2 ^ 62) ≤ lo ∧ lo < 2 ^ 62 ∧ -(2 ^ 62) ≤ hi ∧ hi < 2 ^ 62 ∧ (hi - lo).toNat ≤ 16777216 := by
  unfold rgOkB at h
  simp only [Bool.and_eq_true, decide_eq_true_eq] at h
  obtain ⟨⟨⟨⟨a, b⟩, c⟩, d⟩, e⟩ := h
  exact ⟨a, b, c, d, e⟩
theorem rg_vrs {K : PySem.W.Frag} {H : Hp} {ρ : List Addr} {lo : Int} : ∀ l : List Nat, VRs K H ρ (l.map fun i : Nat => V.int (lo + i)) (l.map fun i : Nat => W.int (lo + i))
  | [] => .nil
  | n :: ns => .cons vr_int (rg_vrs ns)
/-- a new range -/
theorem new_rng {K : PySem.W.Frag} {H : Hp} {ρ : List Addr} {h : List O} {E : XK} {Q : VK} {lo hi : Int} (hr : HR K G H ρ h) (ok : rgOkB lo hi = true) (p : Post K G E (ColRel K) Q H ρ (.ok (rgW lo hi) h)) : ∀ t, H t = none → Q (.ref t) (upd H t (.rng lo hi)) := fun t ht => by
  obtain ⟨r1, x1⟩ := hr.other (o := .rng lo hi) ht
  obtain ⟨a, b, c, d, e⟩ := rgOkB_ok ok
  exact p ρ _ _ x1 r1 ⟨rgVs lo hi, ⟨t, rfl, .inr (.inr ⟨lo, hi, upd_same, a, b, c, d, e, rfl⟩)⟩, rg_vrs _, by unfold rgW; rw [List.length_map, List.length_range]; exact e⟩
theorem sit_rng1 {a : Expr} {mr : M (List W)} {p : Pos} (ha : SA G X [a] mr) (hg : Gl X "range") (hm : X.mg "range" = none) (hv : bootBuiltins "range" = some (.type "range") := by decide +kernel)
    (he : starEach [a] X.env = (false, eval a X.env) :: starEach [] X.env := by rfl) : SItems G X (.Call (.Name "range" p) [a] [] pos) (mItemsR1 mr) := fun Wx tk =>
  (pe_callTy cr_range1 hg hm hv (ha Wx tk) (by decide) (by decide) he (by rfl)).imp fun σ H Q p => rd.bnd (Rel := VsRel X.K) p fun H0 ρ0 e sr x H1 ρ1 h1 wx x1 r1 vx p1 => by
    split at p1
    · rename_i j
      split at p1
      · rename_i ok
        obtain ⟨v, rfl, q⟩ := VRs.inv1 vx
        exact ⟨j, by rw [q.int], new_rng r1 ok p1⟩
      · exact p1.elim
    · exact p1.elim
theorem sit_rng2 {a b : Expr} {mr : M (List W)} {p : Pos} (ha : SA G X [a, b] mr) (hg : Gl X "range") (hm : X.mg "range" = none) (hv : bootBuiltins "range" = some (.type "range") := by decide +kernel)
    (he : starEach [a, b] X.env = (false, eval a X.env) :: starEach [b] X.env := by rfl) (hpl : (backTo pos (starEach [b] X.env)).any (·.1) = false := by rfl) : SItems G X (.Call (.Name "range" p) [a, b] [] pos) (mItemsR2 mr) := fun Wx tk =>
  (pe_callTy cr_range2 hg hm hv (ha Wx tk) (by decide) (by decide) he hpl).imp fun σ H Q p => rd.bnd (Rel := VsRel X.K) p fun H0 ρ0 e sr x H1 ρ1 h1 wx x1 r1 vx p1 => by
    split at p1
    · rename_i i j
      split at p1
      · rename_i ok
        obtain ⟨v, v', rfl, q, q'⟩ := VRs.inv2 vx
        exact ⟨i, j, by rw [q.int, q'.int], new_rng r1 ok p1⟩
      · exact p1.elim
    · exact p1.elim
end
/-! ### sorted -/
section
variable {X : Cx} {pins : List (Addr × Obj)} {σ : L2.St} {H : Hp} {s : Shared}
/-- behind a call that laid a new list at a -/
theorem inv_newList {s' : Shared} {a : Addr} {xs : List V} {out : List Value} {c : Nat} (I : Inv X pins σ H s) (k : Kp s.heap s'.heap) (g : AllBare s'.gens) (o : s'.os = s.os) (ha : s.heap.objs.size ≤ a) (e : s'.heap.get? a = some (seqObj "list" out.toArray c)) (r : Vals xs out) (hz : xs.length ≤ sizeLine) :
    Inv X pins σ (upd H a (.lst xs)) s' := by
  have new : ObjOk X.prog X.w (upd H a (.lst xs)) s'.heap a (.lst xs) := ⟨hz, out, c, r, e⟩
  exact I.call' (ch := []) o (Un.laid k ha (I.hok.fresh ha)) (I.hok.laid k ha new) g fun b hb => absurd hb (by simp)
theorem each_and {α β : Type} {R S : α → β → Prop} : ∀ {as : List α} {bs : List β}, EachIs R as bs → EachIs S as bs → EachIs (fun a b => R a b ∧ S a b) as bs
  | _, _, .nil, _ => .nil
  | _, _, .cons r h, q => by
    cases q with
    | cons s t => exact .cons ⟨r, s⟩ (each_and h t)
theorem each_vals3 {β : Type} {f : β → V} : ∀ {out : List Value} {bs : List β}, EachIs (fun v b => RelV (f b) v) out bs → Vals (bs.map f) out
  | _, _, .nil => .nil
  | _, _, .cons r h => .cons r (each_vals3 h)
theorem each_of_vals {β : Type} {f : β → V} : ∀ {out : List Value} {bs : List β}, Vals (bs.map f) out → EachIs (fun v b => RelV (f b) v) out bs
  | out, [], h => by cases h; exact .nil
  | _, b :: bs, h => by
    cases h with
    | cons r h => exact .cons r (each_of_vals h)
end
section
variable {G : Gx} {X : Cx} {e : Expr} {m : M W} {mit : M (List W)} {pos p : Pos}
def mSorted (mit : M (List W)) : M W := fun e h => (mit e h).bnd fun xs h => match mapO (dat h 7) xs with
  | some ds => if kindOk ds = true then .ok (.ref h.length) (h ++ [.lst (sortBy xs ds)]) else .bad
  | none => .bad
theorem zip_fst {α β : Type} {xs : List α} {ds : List β} (h : xs.length = ds.length) : (xs.zip ds).map Prod.fst = xs := by
  rw [List.map_fst_zip (by omega)]
theorem mapO_len {α β : Type} {f : α → Option β} : ∀ {xs : List α} {ds : List β}, mapO f xs = some ds → xs.length = ds.length
  | [], ds, e => by cases e; rfl
  | x :: xs, ds, e => by
    unfold mapO at e
    split at e
    · split at e
      · rename_i ys hy
        cases e
        rw [List.length_cons, List.length_cons, mapO_len hy]
      · cases e
    · cases e
theorem se_sortedI (hi : SItems G X e mit) (hc : X.calm = true) (hu : X.A.units + 64 < cLine) (hg : Gl X "sorted") (hm : X.mg "sorted" = none) (hv : bootBuiltins "sorted" = some (.builtin "sorted") := by decide +kernel)
    (he : starEach [e] X.env = (false, eval e X.env) :: starEach [] X.env := by rfl) : SE G X (.Call (.Name "sorted" p) [e] [] pos) (mSorted mit) := fun Wx tk => by
  refine ⟨fun pins s σ H Q I h => ?_⟩
  refine wpAny_Call_Name_kw (ld_blt I hg hm hv ?_ (by decide) (by decide))
  refine PyProof.Rows.callWith_builtin1 ?_ he (by rfl)
  rw [he]
  have h2 := rd.bnd (Rel := ColRel X.K) (Q' := fun v H1 => ∃ ρ1 h1 ws, ColRel X.K H1 ρ1 v ws ∧ HR X.K G H1 ρ1 h1 ∧ Post X.K G (fun cls d H' => Wx cls d σ H') (VRel X.K) Q H1 ρ1 (match mapO (dat h1 7) ws with
    | some ds => if kindOk ds = true then .ok (.ref h1.length) (h1 ++ [.lst (sortBy ws ds)]) else .bad
    | none => .bad)) h fun H0 ρ0 e sr v H1 ρ1 h1 w x r q p1 => ⟨ρ1, h1, w, q, r, p1⟩
  refine Calls.spliced_cons (thn ((hi Wx tk).run pins s σ H _ I h2) fun u s1 ⟨v, H1, I1, rv, ρ1, h1, ws, ⟨xs, cv, vx, hlen⟩, r1, p1⟩ => Calls.spliced_nil ?_)
  split at p1
  · rename_i ds hd
    split at p1
    · rename_i hk
      have hdp := mapO_dp (fun v w d r e => dat_dp r1 7 v w d r e) vx hd
      have hlx := dpAll_len hdp
      refine sorted_coll (β := V × PyData) (Rel := fun u b => RelV b.1 u ∧ ∃ as, Reads s1.heap u b.2 as) (enc := Prod.snd) (Ok := fun bs => bs = xs.zip ds) (fun Q' E' hq => ?_) (args_sorted1 _) (fun bs ok => ?_) (fun hh v b k q => ?_) fun s' out c a bs ok k g o ha e1 er => ?_
      · refine colv_coll I1 rv cv (A := X.A.in1) (I1.ok.hd hc) Q' E' fun s' vs k g o r => hq s' vs k g o ⟨_, rfl, ?_⟩
        obtain ⟨as, rd⟩ := Dp.readsAll I1 ds xs vs hdp r
        have e1 := each_zip r hlx
        have e2 := each_reads hlx rd
        have := each_and e1 e2
        exact this
      · subst ok
        rw [zip_snd hlx]
        refine ⟨kindOk_alike hk, kindOk_sortable hk, by rw [List.length_zip]; exact Nat.le_trans (Nat.min_le_left _ _) (by rw [vx.length]; exact Nat.le_trans hlen small24), fun b hb => ?_⟩
        have := kindOk_depth hk b.2 (by rw [← zip_snd hlx]; exact List.mem_map_of_mem hb)
        omega
      · obtain ⟨as, q⟩ := q.2
        exact ⟨as, PyProof.Rows.Reads.keeps k q⟩
      · subst ok
        have e3 : Vals (sortBy xs ds) out := vals_each (er.mono fun _ _ q => q.1)
        refine ⟨.ref a, _, inv_newList I1 k g o ha e1 e3 (by rw [sortBy_length hlx, vx.length]; exact Nat.le_trans hlen small24), rfl, ?_⟩
        exact new_lst r1 (vrs_sortBy vx) p1 a (I1.hok.fresh ha)
    · exact p1.elim
  · exact p1.elim
end
end Den
set_option maxRecDepth 100000
set_option maxHeartbeats 2000000
/-! sorted(.., key=lambda x: e) as a rule. -/
namespace Den
open PySem L2 PyProof.Rows PySem.W LamX
/-- an item's key -/
def keyOf (h : List O) (e : Env) (slot : Nat) (mkey : M W) (w : W) : Option (W × PyData) := match frz h 6 w with
  | some fw => match mkey ((frzE h e).set slot (some fw)) [] with
    | .ok k _ => (pdat 7 k).map fun d => (fw, d)
    | _ => none
  | none => none
def mSortK (slot : Nat) (mit : M (List W)) (mkey : M W) : M W := fun e h => (mit e h).bnd fun xs h => match mapO (keyOf h e slot mkey) xs with
  | some ds => if kindOk (ds.map Prod.snd) = true then .ok (.ref h.length) (h ++ [.lst (sortBy xs (ds.map Prod.snd))]) else .bad
  | none => .bad
theorem mapO_each {α β : Type} {f : α → Option β} : ∀ {xs : List α} {ds : List β}, mapO f xs = some ds → ∀ (i : Nat) (x : α), xs[i]? = some x → ∃ d, ds[i]? = some d ∧ f x = some d
  | [], ds, e, i, x, h => by simp at h
  | y :: xs, ds, e, i, x, h => by
    unfold mapO at e
    split at e
    · rename_i d hd
      split at e
      · rename_i ys hy
        cases e
        cases i with
        | zero =>
          have : y = x := by simpa using h
          subst this
          exact ⟨d, rfl, hd⟩
        | succ i =>
          obtain ⟨d', h1, h2⟩ := mapO_each hy i x (by simpa using h)
          exact ⟨d', by simpa using h1, h2⟩
      · cases e
    · cases e
theorem each_idx {α β : Type} {R : α → β → Prop} : ∀ {as : List α} {bs : List β}, as.length = bs.length → (∀ (i : Nat) (a : α) (b : β), as[i]? = some a → bs[i]? = some b → R a b) → EachIs R as bs
  | [], [], _, _ => .nil
  | a :: as, b :: bs, h, q => .cons (q 0 a b rfl rfl) (each_idx (by simpa using h) fun i a b h1 h2 => q (i + 1) a b (by simpa using h1) (by simpa using h2))
  | [], _ :: _, h, _ => by simp at h
  | _ :: _, [], h, _ => by simp at h
theorem sort_map2 {α β : Type} (f : α → PyData) (g : α → β) (l : List α) : ((l.map fun b => (g b, f b)).mergeSort (dataLe false Prod.snd)) = (l.mergeSort (dataLe false f)).map fun b => (g b, f b) := by
  symm
  apply List.map_mergeSort
  intro a _ b _
  rfl
section
variable {X : Cx} {G : Gx} {pins : List (Addr × Obj)} {σ : L2.St} {H : Hp} {s : Shared} {ρ : List Addr} {h : List O}
/-- the frozen frame of the lambda -/
theorem lam_px {scope : Scope} {x : Str} {slot : Nat} {ev : Env} {fw : W} {v : Value} {env : PySem.Env} {h₁ : Heap} (I : Inv X pins σ H s) (hr : HR X.K G H ρ h) (sr : SR X.K H ρ σ ev) (L : LamP X.env.scope scope x) (hN : X.N.Nodup) (hi : X.N[slot]? = some x) (hv : WV s.heap v fw)
    (e1 : env.scope = scope) (e2 : env.cells = cloFrom X.env.cells scope.names []) (e3 : env.globals = mainGlobals) (e4 : env.builtins = builtinsNs) (k : Kp s.heap h₁) (hn : h₁.Ns env.locals fun y => [(x, v)].lookup y) :
    PxOk X.K X.mg X.N env h₁ ((frzE h ev).set slot (some fw)) := by
  have hfree : ∀ y ∈ scope.names, y.2 = .free → ∃ c, X.env.cells.lookup y.1 = some c := fun y hy e => by
    rcases L.free y hy e with z | z
    · exact I.ok.has _ (.inl z)
    · exact I.ok.has _ (.inr z)
  refine ⟨I.kIn.keeps k, by rw [e1]; exact L.kind, by rw [e3]; exact (I.mod.glob.keeps I.bk).keeps k, ?_, fun i y w hy hw hvis => ?_⟩
  · obtain ⟨mb, h1, h2⟩ := I.mod.blt
    exact ⟨mb, by rw [e4]; exact (h1.keeps I.bk).keeps k, h2⟩
  · rw [e1] at hvis
    have hki : ∀ y, env.kindOf y = scope.names.lookup y := fun y => by show env.scope.names.lookup y = _; rw [e1]
    by_cases his : slot = i
    · subst his
      rw [hi] at hy
      cases hy
      have hw2 : w = fw := by
        by_cases hl : slot < (frzE h ev).length
        · rw [List.getElem?_set_self hl] at hw
          exact (Option.some.inj (Option.some.inj hw)).symm
        · rw [List.getElem?_eq_none (by simpa using hl)] at hw; cases hw
      subst hw2
      refine ⟨v, hv.mono k, .inl ⟨by rw [hki]; exact L.loc, _, hn, ?_⟩⟩
      simp [List.lookup]
    · rw [List.getElem?_set_ne his] at hw
      have hyx : y ≠ x := fun z => by
        subst z
        obtain ⟨h1, q1⟩ := List.getElem?_eq_some_iff.mp hi
        obtain ⟨h2, q2⟩ := List.getElem?_eq_some_iff.mp hy
        exact his ((List.getElem_inj hN).mp (q1.trans q2.symm))
      have hf : scope.names.lookup y = some .free := by
        rcases hvis with z | z | z
        · exact absurd (L.own y z) hyx
        · exact absurd rfl (L.cell _ (PySem.mem_of_lookup z))
        · exact z
      -- the frozen slot
      unfold frzE at hw
      rw [List.getElem?_map] at hw
      cases he : ev[i]? with
      | none => rw [he] at hw; cases hw
      | some ow =>
        rw [he] at hw
        cases ow with
        | none => simp at hw
        | some w0 =>
          have hw : frz h 6 w0 = some w := by simpa using hw
          obtain ⟨v0, hv0, r0⟩ := sr.at_ i w0 he
          have hX : Vis X.env.scope y := (L.free _ (PySem.mem_of_lookup hf) rfl).elim (fun z => .inr (.inl z)) fun z => .inr (.inr z)
          obtain ⟨m, hm, hl⟩ := I.loc
          obtain ⟨u, ru, q⟩ := hl i y v0 hy hv0 hX
          have hwv := frz_wv I hr 6 v0 u w0 w r0 ru hw
          refine ⟨u, hwv.mono k, .inr ⟨by rw [hki]; exact hf, ?_⟩⟩
          rcases q with ⟨z, _⟩ | ⟨_, c, hc, hcell⟩
          · have z : X.env.scope.names.lookup y = some .local := z
            rcases L.free _ (PySem.mem_of_lookup hf) rfl with z2 | z2 <;> rw [show X.env.scope.names.lookup y = _ from z2] at z <;> cases z
          · obtain ⟨c2, h2⟩ := mem_lookup (cloFrom_has (cells := X.env.cells) (acc := []) (PySem.mem_of_lookup hf))
            have e5 : c2 = c := by
              rcases cloFrom_mem (PySem.mem_of_lookup h2) with hm | ⟨h3, h4⟩
              · cases hm
              · rw [h4, hc] <;> rfl
            subst e5
            obtain ⟨oc, q1, q2⟩ := hcell
            exact ⟨c2, by rw [e2]; exact h2, oc, k _ _ q1, q2⟩
end
section
variable {G : Gx} {X : Cx} {e : Expr} {mit : M (List W)} {pos p kpos lpos : Pos}
theorem se_sortK {slot : Nat} {x : Str} {c P : Addr} {k : Nat} {params : Arguments} {body : Expr} {scope : Scope} {mkey : M W} (hi : SItems G X e mit) (hc : X.calm = true) (hr : Room k X.A) (hg : Gl X "sorted") (hm : X.mg "sorted" = none)
    (hN : X.N.Nodup) (hx : X.N[slot]? = some x) (TB : TabB X.base X.mg c P) (hcode : X.env.code = .ref c) (hmT : (P, X.env.qual ++ "<lambda>") ∈ G.T) (huT : ∀ p ∈ G.T, p.1 = P → p.2 = X.env.qual ++ "<lambda>") (L : LamP X.env.scope scope x) (hdef : defaultsOf params X.env = ([], []))
    (hbind : ∀ (q : Str) (cl : List (Str × Addr)) (pm cv ctv v : Value), bindArgs (PySem.W.kla_fn "<lambda>" q params body scope cl pm cv ctv) ⟨[v], []⟩ = pure [(x, v)]) (hk : SP X.K X.mg X.N scope body mkey)
    (hv : bootBuiltins "sorted" = some (.builtin "sorted") := by decide +kernel)
    (he : backTo pos (starEach [e] X.env) = (false, eval e X.env) :: backTo pos (starEach [] X.env) := by rfl) (hpl : (backTo pos (starEach [e] X.env)).any (·.1) = false := by rfl)
    (hall : (backToKw pos (keywordEach [⟨some "key", .Lambda params body scope lpos, kpos⟩] X.env)).all (·.1.isSome) = true := by rfl) (hnone : (backToKw pos (keywordEach [⟨some "key", .Lambda params body scope lpos, kpos⟩] X.env)).any (·.1.isNone) = false := by rfl) (hks : (backToKw pos (keywordEach [⟨some "key", .Lambda params body scope lpos, kpos⟩] X.env)).filterMap (·.1) = [Str.ofString "key"] := by rfl) :
    SE G X (.Call (.Name "sorted" p) [e] [⟨some "key", .Lambda params body scope lpos, kpos⟩] pos) (mSortK slot mit mkey) := fun Wx tk => by
  refine ⟨fun pins s σ H Q I h => ?_⟩
  refine wpAny_Call_Name_kw (ld_blt I hg hm hv ?_ (by decide) (by decide))
  have h2 := rd.bnd (Rel := ColRel X.K) (Q' := fun v H1 => ∃ ρ1 h1 ws ev, ColRel X.K H1 ρ1 v ws ∧ HR X.K G H1 ρ1 h1 ∧ SR X.K H1 ρ1 σ ev ∧ Post X.K G (fun cls d H' => Wx cls d σ H') (VRel X.K) Q H1 ρ1 (match mapO (keyOf h1 ev slot mkey) ws with
    | some ds => if kindOk (ds.map Prod.snd) = true then .ok (.ref h1.length) (h1 ++ [.lst (sortBy ws (ds.map Prod.snd))]) else .bad
    | none => .bad)) h fun H0 ρ0 e sr v H1 ρ1 h1 w x r q p1 => ⟨ρ1, h1, w, e, q, r, sr.mono x, p1⟩
  refine PyProof.Rows.callWith_kw ?_ he hpl hall hnone
  rw [he]
  refine Calls.spliced_cons (thn ((hi Wx tk).run pins s σ H _ I h2) fun u s1 ⟨v, H1, I1, rv, ρ1, h1, ws, ev, ⟨xs, cv, vx, hlen⟩, r1, sr1, p1⟩ => Calls.spliced_nil ?_)
  show wpAny _ _ (evalAll ((do let v ← eval (.Lambda params body scope lpos) X.env; standAt pos; pure v) :: (backToKw pos (keywordEach [] X.env)).map (·.2))) _ _ s1
  refine wpAny_evalAll_cons (wpAny_bind ?_)
  have hfree : ∀ y ∈ scope.names, y.2 = .free → ∃ c, X.env.cells.lookup y.1 = some c := fun y hy e => by
    rcases L.free y hy e with z | z
    · exact I1.ok.has _ (.inl z)
    · exact I1.ok.has _ (.inr z)
  refine lam_make2 I1 TB hcode hmT huT r1.tb hdef hfree fun f c' pm ctv H2 s2 I2 eN T2 hf hfn hfr hco => ?_
  refine wpAny_bind (wpAny_standAt (wpAny_pure (wpAny_evalAll_nil ?_)))
  rw [hks]
  show wpAny _ _ (call (.builtin "sorted") [u] [(Str.ofString "key", .ref f)]) _ _ _
  split at p1
  · rename_i ds hd
    split at p1
    · rename_i hko
      have x12 : Ext H1 ρ1 H2 ρ1 := ⟨fun b o e t _ => eN b o e (by intro ps z; subst z; cases t), List.prefix_rfl, fun _ a b => absurd a b, r1.mu, fun b o u e => eN b _ e (by intro ps z; cases z)⟩
      have r2 : HR X.K G H2 ρ1 h1 := ⟨r1.len, r1.nd, fun n a o e1 e2 => (r1.ob n a o e1 e2).mono x12 (by
        obtain ⟨u, hu, hm⟩ := (r1.ob n a o e1 e2).mut
        rw [hu]
        exact eN a u hu (by intro ps z; subst z; cases hm)), T2⟩
      have sr2 := sr1.mono x12
      have vx2 := VRs.mono x12 vx
      have cv2 := cv.ext eN
      have hlw : ws.length = ds.length := mapO_len hd
      have hlx : xs.length = ws.length := vx.length
      have rm := hr.un
      have rd := hr.dp
      obtain ⟨⟨oc, vs0, tq, hoc, hdc, hqc⟩, _, _⟩ := I2.hok c' _ hco
      refine sorted_collK (β := V × W × W × PyData) (Rel := fun u b => RelV b.1 u ∧ VR X.K H2 ρ1 b.1 b.2.1) (enc := fun b => b.2.2.2) (Ok := fun bs => bs = xs.zip (ws.zip ds)) (fun Q' E' hq => ?_) (fun bs ok => ?_) (fun bs v b s3 ok hb q k3 g3 o3 => ?_) fun s' out cc a bs ok k g o ha e1 er => ?_
      · refine colv_coll I2 rv cv2 (A := X.A.in1) (I2.ok.hd hc) Q' E' fun s' vs k g o r => hq s' vs k g o ⟨_, rfl, ?_⟩
        have hlv := r.length
        refine each_idx (by simp [List.length_zip]; omega) fun i a b h1 h2 => ?_
        obtain ⟨p1, p2⟩ := List.getElem?_zip_eq_some.mp h2
        obtain ⟨p3, p4⟩ := List.getElem?_zip_eq_some.mp p2
        obtain ⟨u', e1, e2⟩ := r.get p1
        rw [h1] at e1
        cases e1
        obtain ⟨v', e3, e4⟩ := vx2.get p3
        rw [p1] at e3
        cases e3
        exact ⟨e2, e4⟩
      · subst ok
        have em : (xs.zip (ws.zip ds)).map (fun b => b.2.2.2) = ds.map Prod.snd := by
          rw [show (fun b : V × W × W × PyData => b.2.2.2) = Prod.snd ∘ Prod.snd ∘ Prod.snd from rfl, ← List.map_map, ← List.map_map, List.map_snd_zip (by simp [List.length_zip]; omega), List.map_snd_zip (by omega)]
        rw [em]
        refine ⟨kindOk_alike hko, kindOk_sortable hko, by simp [List.length_zip]; have := small24; omega, fun b hb => ?_⟩
        have := kindOk_depth hko b.2.2.2 (by rw [← em]; exact List.mem_map_of_mem hb)
        omega
      · subst ok
        obtain ⟨i, hi2⟩ := List.getElem?_of_mem hb
        obtain ⟨p1, p2⟩ := List.getElem?_zip_eq_some.mp hi2
        obtain ⟨p3, p4⟩ := List.getElem?_zip_eq_some.mp p2
        obtain ⟨d, e5, e6⟩ := mapO_each hd i _ p3
        rw [p4] at e5
        cases e5
        unfold keyOf at e6
        split at e6
        · rename_i fw hfw
          split at e6
          · rename_i kw hh hkw
            cases hpd : pdat 7 kw with
            | none => rw [hpd] at e6; cases e6
            | some d =>
              rw [hpd] at e6
              have e7 : (fw, d) = b.2.2 := Option.some.inj e6
              rw [← e7]
              have hwv := frz_wv I2 r2 6 _ _ _ _ q.2 q.1 hfw
              have hz := hk.br _ _ _ hkw
              subst hz
              refine lam_call L (by show (X.A.in1.in1).depth < recursionLimit; have e8 : X.A.in1.in1.depth = X.A.depth := rfl; omega) (k3 _ _ hf) ⟨c', oc, vs0, tq, rfl, k3 _ _ hoc, hdc, hqc⟩ (I2.nolimit.keeps k3) (hbind _ _ _ _ _ _) fun env hh tk' e1 e2 e3 e4 kk hn => ?_
              have ok := lam_px I2 r2 sr2 L hN hx hwv e1 e2 e3 e4 (fun b o z => kk b o (k3 b o z)) hn
              refine wpAny_mono (hk.px X.prog X.w env hh _ _ e1 ok hkw _ _ _ (fun b o z => z)) (fun y s4 qq => ?_) fun _ _ e => e
              obtain ⟨qw, h4, tk4, rfl, kp4⟩ := qq
              exact ⟨h4, tk4, rfl, fun b o z => kp4 b o (kk b o z), pdat_reads 7 y kw d qw hpd⟩
          · cases e6
        · cases e6
      · subst ok
        have e3 : Vals (((xs.zip (ws.zip ds)).mergeSort (dataLe false fun b => b.2.2.2)).map Prod.fst) out := each_vals3 (er.mono fun _ _ q => q.1)
        have e4 : ((xs.zip (ws.zip ds)).mergeSort (dataLe false fun b => b.2.2.2)).map Prod.fst = sortBy xs (ds.map Prod.snd) := by
          unfold sortBy
          have ez : xs.zip (ds.map Prod.snd) = (xs.zip (ws.zip ds)).map fun b => (b.1, b.2.2.2) := by
            have : ds.map Prod.snd = (ws.zip ds).map fun b => b.2.2 := by
              rw [show (fun b : W × W × PyData => b.2.2) = Prod.snd ∘ Prod.snd from rfl, ← List.map_map, List.map_snd_zip (by omega)]
            rw [this, List.zip_map_right]
            rfl
          rw [ez, sort_map2 (fun b : V × W × W × PyData => b.2.2.2) Prod.fst, List.map_map]
          rfl
        rw [e4] at e3
        refine ⟨.ref a, _, inv_newList I2 k g o ha e1 e3 (by rw [sortBy_length (by rw [List.length_map]; omega)]; have := small24; omega), rfl, ?_⟩
        exact new_lst r2 (vrs_sortBy vx2) (Post.ext x12 p1) a (I2.hok.fresh ha)
    · exact p1.elim
  · exact p1.elim
end
end Den
set_option maxRecDepth 100000
set_option maxHeartbeats 2000000
/-! any, all, sum of a generator expression. -/
namespace Den
open PySem L2 PyProof.Rows PySem.W LamX
/-- u can be walked: n turns, Pf tells the items -/
structure Wk (P : Program) (w : World) (s1 : Shared) (u : Value) (n : Nat) (Pf : Nat → Value → Prop) : Prop where
  run : ∀ (A : Around) (Q : Value → Shared → Prop) (E : Value → Shared → Prop), A.handled = none →
    (∀ (o : Obj) (fp : List Addr) (St : Nat → Heap → Prop), (∀ A' : Around, A'.handled = none → Walks P w A' s1.heap.objs.size (s1.heap.objs.size :: fp) [s1.heap.objs.size] n Pf St) → St 0 (s1.heap.push o) →
      (∀ b ∈ fp, ∃ ob, s1.heap.get? b = some ob ∧ ∀ fs, ob.data ≠ .fields fs) → Q (.ref s1.heap.objs.size) { s1 with heap := s1.heap.push o }) → wpAny (model P w) A (pyIter u) Q E s1
section
variable {P : Program} {w : World} {s1 : Shared}
theorem wk_list {l : Addr} {vs : List Value} (hl : s1.heap.IsList l vs.toArray) : Wk P w s1 (.ref l) vs.length (fun i v => vs[i]? = some v) := ⟨fun A Q E hA h => by
  obtain ⟨ob, hob, hc, hx, m, hd⟩ := (show ∃ ob, s1.heap.get? l = some ob ∧ ob.cls = .type "list" ∧ True ∧ ∃ m, ob.data = .seq vs.toArray m from by
    obtain ⟨ob, hob, hc, m, hd⟩ := hl
    exact ⟨ob, hob, hc, trivial, m, hd⟩)
  have hne : l ≠ s1.heap.objs.size := Nat.ne_of_lt (Heap.lt_size hob)
  refine wpAny_pyIter_list hl (h _ [l] (fun i h => h.IsListIter s1.heap.objs.size l i ∧ h.IsList l vs.toArray) (fun A' hA' => ?_) ⟨⟨_, Heap.get?_push_size _ rfl, rfl, rfl⟩, ?_⟩ fun b hb => ?_)
  · have W := Walks.list (prog := P) (w := w) (A := A') hA' s1.heap.objs.size l hne vs.toArray
    have e : (fun (i : Nat) (v : Value) => vs.toArray[i]? = some v) = fun i v => vs[i]? = some v := by funext i v; simp
    rw [List.size_toArray, e] at W
    exact W
  · obtain ⟨o2, h2, r⟩ := hl
    exact ⟨o2, Heap.get?_push_of_some _ h2, r⟩
  · have : b = l := by simpa using hb
    rw [this]
    exact ⟨ob, hob, fun fs z => by rw [hd] at z; cases z⟩⟩
theorem wk_tup {l : Addr} {vs : List Value} (hl : IsTup s1.heap l vs.toArray) : Wk P w s1 (.ref l) vs.length (fun i v => vs[i]? = some v) := ⟨fun A Q E hA h => by
  obtain ⟨ob, hob, hc, m, hd⟩ := id hl
  have hne : l ≠ s1.heap.objs.size := Nat.ne_of_lt (Heap.lt_size hob)
  refine wpAny_pyIter_tuple (items := vs.toArray) hl (h _ [l] (fun i h => h.IsTupleIter s1.heap.objs.size l i ∧ h.IsTuple l vs.toArray) (fun A' hA' => ?_) ⟨⟨_, Heap.get?_push_size _ rfl, rfl, rfl⟩, ?_⟩ fun b hb => ?_)
  · have W := Walks.tuple (prog := P) (w := w) (A := A') hA' s1.heap.objs.size l hne vs.toArray
    have e : (fun (i : Nat) (v : Value) => vs.toArray[i]? = some v) = fun i v => vs[i]? = some v := by funext i v; simp
    rw [List.size_toArray, e] at W
    exact W
  · exact ⟨ob, Heap.get?_push_of_some _ hob, hc, m, hd⟩
  · have : b = l := by simpa using hb
    rw [this]
    exact ⟨ob, hob, fun fs z => by rw [hd] at z; cases z⟩⟩
theorem wk_rng {r : Addr} {lo hi : Int} (hr : ∃ t u v, s1.heap.get? r = some { cls := .type "range", data := .fields #[.int lo t, .int hi u, .int 1 v] }) (h1 : -(2 ^ 62) ≤ lo) (h0 : lo < 2 ^ 62) (h2 : -(2 ^ 62) ≤ hi) (h4 : hi < 2 ^ 62) :
    Wk P w s1 (.ref r) (hi - lo).toNat (fun i v => ∃ t, v = .int (lo + i) t) := ⟨fun A Q E hA h => by
  obtain ⟨t, u, v, hr⟩ := hr
  refine wpAny_pyIter_range (a := lo) (b := hi) (c := 1) (t := t) (u := u) (v := v) hr (PySem.small_one h1 h0 h2 h4) (h _ [] (fun i h => IsRangeIter h s1.heap.objs.size (lo + (i : Nat) * 1) (((hi - lo).toNat : Int) - (i : Nat)) 1) (fun A' hA' => ?_) ?_ fun b hb => by cases hb)
  · have W := Walks.range (prog := P) (w := w) (A := A') hA' s1.heap.objs.size lo 1 (hi - lo).toNat
    have e : (fun (i : Nat) (v : Value) => ∃ t, v = .int (lo + i * 1) t) = fun i v => ∃ t, v = .int (lo + i) t := by funext i v; rw [Int.mul_one]
    rw [e] at W
    exact W
  · refine (Heap.get?_push_size _ rfl).trans ?_
    rw [PyProof.Rows.rangeSize_nat]
    simp⟩
theorem wk_str {x : Str} {t : Tok} : Wk P w s1 (.str x t) x.cps.size (SignAt x) := ⟨fun A Q E hA h => wpAny_pyIter_str fun o St W st => h o [] St W st fun b hb => by cases hb⟩
end
/-! ### generators of plain elements -/
/-- the generator's own scope -/
structure GenP (sc scope : Scope) (x : Str) : Prop where
  kind : scope.kind = .function
  co : scope.isCoroutine = false
  cell : ∀ y ∈ scope.names, y.2 ≠ .cell
  dot : scope.names.lookup (".0" : Str) = some NameKind.local
  loc : scope.names.lookup x = some .local
  own : ∀ y, scope.names.lookup y = some .local → y = x ∨ y = ".0"
  free : ∀ y ∈ scope.names, y.2 = .free → sc.names.lookup y.1 = some .cell ∨ sc.names.lookup y.1 = some .free
def genPB (sc scope : Scope) (x : Str) : Bool :=
  decide (scope.kind = .function) && !scope.isCoroutine && decide (scope.names.lookup (".0" : Str) = some .local) && decide (scope.names.lookup x = some .local) &&
    scope.names.all fun y => !decide (y.2 = .cell) && (!decide (y.2 = .local) || decide (y.1 = x) || decide (y.1 = ".0")) && (!decide (y.2 = .free) || decide (sc.names.lookup y.1 = some .cell) || decide (sc.names.lookup y.1 = some .free))
theorem genP_by {sc scope : Scope} {x : Str} (h : genPB sc scope x = true) : GenP sc scope x := by
  unfold genPB at h
  simp only [Bool.and_eq_true, Bool.or_eq_true, Bool.not_eq_true', decide_eq_true_eq, decide_eq_false_iff_not, List.all_eq_true] at h
  obtain ⟨⟨⟨⟨h1, h2⟩, h3⟩, h4⟩, h5⟩ := h
  refine ⟨h1, h2, fun y hy => (h5 y hy).1.1, h3, h4, fun y hy => ?_, fun y hy e => ?_⟩
  · have hm := PySem.mem_of_lookup hy
    rcases (h5 _ hm).1.2 with (z | z) | z
    · exact absurd rfl z
    · exact .inl z
    · exact .inr z
  · rcases (h5 y hy).2 with (z | z) | z
    · exact absurd e z
    · exact .inl z
    · exact .inr z
/-- a scalar -/
def ScV (v : Value) : W → Prop
  | .bl b => v = .bool b
  | .int i => ∃ t, v = .int i t
  | _ => False
def isSc : W → Bool
  | .bl _ => true
  | .int _ => true
  | _ => false
theorem scv_of {h : Heap} {v : Value} {w : W} (e : isSc w = true) (x : WV h v w) : ScV v w := by
  cases w with
  | bl b => exact x.bl
  | int i => exact x.int
  | _ => cases e
/-- the elements -/
def eltOf (h : List O) (e : Env) (slot : Nat) (melt : M W) (w : W) : Option W := match frz h 6 w with
  | some fw => match melt ((frzE h e).set slot (some fw)) [] with
    | .ok z _ => if isSc z = true then some z else none
    | _ => none
  | none => none
/-- what is walked: its items -/
def GcV (K : PySem.W.Frag) (H : Hp) (v : V) (xs : List V) : Prop := ColV K H v xs ∨ ∃ z : List Nat, v = .str (mkS z) ∧ xs = z.map fun c => V.str (mkS [c])
theorem GcV.ext {K : PySem.W.Frag} {H H' : Hp} {v : V} {xs : List V} (c : GcV K H v xs) (e : ExtN H H') : GcV K H' v xs := c.imp (fun c => c.ext e) id
section
variable {X : Cx} {pins : List (Addr × Obj)} {σ : L2.St} {H : Hp} {s : Shared}
theorem gcv_wk (I : Inv X pins σ H s) {v : V} {u : Value} {xs : List V} (r : RelV v u) (c : GcV X.K H v xs) : ∃ Pf : Nat → Value → Prop, Wk X.prog X.w s u xs.length Pf ∧ ∀ i y, Pf i y → ∃ x, xs[i]? = some x ∧ RelV x y := by
  rcases c with ⟨a, rfl, c⟩ | ⟨z, rfl, rfl⟩
  · cases r
    rcases c with c | c | ⟨lo, hi, c, h1, h2, h3, h4, h5, rfl⟩
    · obtain ⟨its, rv, pl, hz⟩ := I.list c
      refine ⟨_, by rw [rv.length]; exact wk_list pl.isList, fun i y hy => ?_⟩
      have hl : i < xs.length := by rw [rv.length]; exact (List.getElem?_eq_some_iff.mp hy).1
      obtain ⟨u, e1, e2⟩ := rv.get (List.getElem?_eq_getElem hl)
      rw [hy] at e1
      cases e1
      exact ⟨_, List.getElem?_eq_getElem hl, e2⟩
    · obtain ⟨its, rv, pl, hz⟩ := I.tuple c
      refine ⟨_, by rw [rv.length]; exact wk_tup pl, fun i y hy => ?_⟩
      have hl : i < xs.length := by rw [rv.length]; exact (List.getElem?_eq_some_iff.mp hy).1
      obtain ⟨u, e1, e2⟩ := rv.get (List.getElem?_eq_getElem hl)
      rw [hy] at e1
      cases e1
      exact ⟨_, List.getElem?_eq_getElem hl, e2⟩
    · have hr := I.hok a _ c
      have W := wk_rng (P := X.prog) (w := X.w) (s1 := s) hr h1 h2 h3 h4
      have hlen : (rgVs lo hi).length = (hi - lo).toNat := by unfold rgVs; simp
      refine ⟨fun i v => i < (hi - lo).toNat ∧ ∃ t, v = .int (lo + i) t, ?_, fun i y ⟨hi', t, e⟩ => ⟨.int (lo + i), by unfold rgVs; rw [List.getElem?_map, List.getElem?_range hi']; rfl, t, e⟩⟩
      rw [hlen]
      refine ⟨fun A Q E hA h => W.run A Q E hA fun o fp St Wl st hfp => h o fp St (fun A' hA' => ?_) st hfp⟩
      have W1 := Wl A' hA'
      exact ⟨W1.sub, W1.frame, fun i s Q E hi st q => W1.item i s Q E hi st fun v h' tk p => q v h' tk ⟨hi, p⟩, W1.done, W1.self⟩
  · obtain ⟨t, rfl⟩ := r
    have hlen : (z.map fun c => V.str (mkS [c])).length = (mkS z).cps.size := by simp
    refine ⟨_, by rw [hlen]; exact wk_str, fun i y hy => ?_⟩
    obtain ⟨c, u, h1, h2⟩ := hy
    have h1 : z[i]? = some c := by simpa using h1
    exact ⟨.str (mkS [c]), by rw [List.getElem?_map, h1]; rfl, u, by rw [h2]⟩
end
/-- a generator at g whose elements zs are, in the state s5; H1: what was held before -/
def GReady (X : Cx) (pins : List (Addr × Obj)) (σ : L2.St) (T : List (Addr × Str)) (H1 : Hp) (zs : List W) (g : Addr) (s5 : Shared) : Prop :=
  ∃ (fp wr : List Addr) (Gs : Array GenState → Array GenState → Prop) (F : Nat → Value → Prop) (St : Nat → Shared → Prop),
    WalksS X.prog X.w X.A.in1 g fp wr Gs zs.length F St ∧ St 0 s5 ∧ (∀ b ∈ fp, b < s5.heap.objs.size) ∧ (∀ j v, F j v → ∃ z, zs[j]? = some z ∧ ScV v z) ∧
    ∀ s', Moved wr Gs s5 s' → ∃ H2, ExtN H1 H2 ∧ Tabs T H2 ∧ Inv X pins σ H2 s'
section
variable {X : Cx} {pins : List (Addr × Obj)} {σ : L2.St} {H1 : Hp} {s1 : Shared} {G : Gx}
/-- behind the making of the generator's code object: it was in the table, or it is new -/
theorem tab_fin {T : List (Addr × Str)} {P : Addr} {q : Str} {ps ps' : Array Value} (I1 : Inv X pins σ H1 s1) (hT : Tabs T H1) (hu : ∀ p ∈ T, p.1 = P → p.2 = q) (hP : H1 P = some (.tbl ps)) (ht : TriplesOk ps.toList)
    (ha : ∀ (pos : Pos) (cv : Value), codeAmong pos ps.toList = some cv → ∃ c, cv = .ref c ∧ H1 c = some (CodeO c q)) {h3 : Heap}
    (hps : ps' = ps ∨ ∃ (pos : Pos) (c' : Addr), ps' = ps ++ #[rawInt pos.line, rawInt pos.col, .ref c'] ∧ s1.heap.objs.size < c' ∧ c' < h3.objs.size ∧ h3.CodeRec (.ref c') q)
    {s' : Shared} (k : ∀ b o, b ≠ P → s1.heap.get? b = some o → s'.heap.get? b = some o) (hm : s'.heap.get? P = some { cls := .none, data := .fields ps' }) (k3 : ∀ b o, b < h3.objs.size → s1.heap.objs.size < b → h3.get? b = some o → s'.heap.get? b = some o) (hb : AllBare s'.gens) (ho : s'.os = s1.os) :
    ∃ H2, ExtN H1 H2 ∧ Tabs T H2 ∧ Inv X pins σ H2 s' := by
  rcases hps with e | ⟨pos, c', e, hgt, hlt, c2, oc, vs, t, e2, hoc, hd, hv⟩
  · refine ⟨H1, ExtN.refl H1, hT, ?_⟩
    have kp : Kp s1.heap s'.heap := fun b o z => by
      by_cases hbP : b = P
      · have h1 := I1.hok P _ hP
        have h1 : s1.heap.get? P = some { cls := .none, data := .fields ps } := h1
        rw [hbP, h1] at z
        cases z
        rw [hbP, hm, e]
      · exact k b o hbP z
    exact I1.call' (ch := []) ho (Un.kept kp) (I1.hok.kept kp) hb fun b z => absurd z (by simp)
  · cases e2
    have hge := Nat.le_of_lt hgt
    have nC : H1 c' = none := I1.hok.fresh hge
    have hPl : P < s1.heap.objs.size := I1.hok.lt hP
    have hcP : c' ≠ P := Nat.ne_of_gt (Nat.lt_of_lt_of_le hPl hge)
    have hoc' := k3 c' oc hlt hgt hoc
    have I2 := inv_table (h' := s'.heap) (t' := s'.toks) (c := c') (q := q) (more := #[rawInt pos.line, rawInt pos.col, .ref c']) I1 hP k (by rw [← e]; exact hm) hge ⟨oc, vs, t, hoc', hd, hv⟩
    have hE : ExtN H1 (upd (upd H1 P (.tbl (ps ++ #[rawInt pos.line, rawInt pos.col, .ref c']))) c' (CodeO c' q)) := fun b o e n => by
      rw [upd_ne (ne_of_none e nC), upd_ne (fun z => n ps (Option.some.inj (e.symm.trans (by rw [z]; exact hP))))]
      exact e
    have eL : (ps ++ #[rawInt pos.line, rawInt pos.col, .ref c']).toList = ps.toList ++ [rawInt pos.line, rawInt pos.col, .ref c'] := by simp
    refine ⟨_, hE, fun p hp => ?_, I2.call' (ch := []) ho (Un.kept fun _ _ z => z) (I2.hok.kept fun _ _ z => z) hb fun b z => absurd z (by simp)⟩
    by_cases hb2 : p.1 = P
    · rw [hu p hp hb2, hb2]
      refine ⟨_, by rw [upd_ne (ne_of_none hP nC), upd_same], by rw [eL]; exact PySem.TriplesOk_snoc _ _ _ _ ht, fun p' cv hcv => ?_⟩
      rw [eL] at hcv
      rcases among_app _ ht hcv with z | z
      · obtain ⟨c0, e1, e2⟩ := ha p' cv z
        exact ⟨c0, e1, hE _ _ e2 codeO_ne⟩
      · exact ⟨c', z, upd_same⟩
    · obtain ⟨ps', a1, a2, a3⟩ := hT p hp
      refine ⟨ps', by rw [upd_ne (ne_of_none a1 nC), upd_ne hb2]; exact a1, a2, fun p' cv hcv => ?_⟩
      obtain ⟨c0, e1, e2⟩ := a3 p' cv hcv
      exact ⟨c0, e1, hE _ _ e2 codeO_ne⟩
end
section
variable {X : Cx} {pins : List (Addr × Obj)} {σ : L2.St} {H : Hp} {s : Shared} {G : Gx}
/-- the frozen frame of the generator -/
theorem gen_pxok {scope : Scope} {x : Str} {slot : Nat} {ev : Env} {fw : W} {v : Value} {env : PySem.Env} {h₁ : Heap} {m : Str → Option Value} {ρ : List Addr} {h : List O} (I : Inv X pins σ H s) (hr : HR X.K G H ρ h) (sr : SR X.K H ρ σ ev) (L : GenP X.env.scope scope x) (hN : X.N.Nodup) (hi : X.N[slot]? = some x) (hd : (".0" : Str) ∉ X.N) (hv : WV h₁ v fw)
    (e1 : env.scope = scope) (e2 : env.cells = cloFrom X.env.cells scope.names []) (e3 : env.globals = mainGlobals) (e4 : env.builtins = builtinsNs) (k : ∀ b o, H b = none → s.heap.get? b = some o → h₁.get? b = some o) (hwm : ∀ u w, WV s.heap u w → WV h₁ u w) (hn : h₁.Ns env.locals m) (hm : m x = some v) :
    PxOk X.K X.mg X.N env h₁ ((frzE h ev).set slot (some fw)) := by
  have kb : ∀ b o, X.base.get? b = some o → h₁.get? b = some o := fun b o e => k b o (I.bs b o e).2 (I.bs b o e).1
  refine ⟨I.ok.mod.kin.keeps kb, by rw [e1]; exact L.kind, by rw [e3]; exact I.mod.glob.keeps kb, ?_, fun i y w hy hw hvis => ?_⟩
  · obtain ⟨mb, h1, h2⟩ := I.mod.blt
    exact ⟨mb, by rw [e4]; exact h1.keeps kb, h2⟩
  · rw [e1] at hvis
    have hki : ∀ y, env.kindOf y = scope.names.lookup y := fun y => by show env.scope.names.lookup y = _; rw [e1]
    by_cases his : slot = i
    · subst his
      rw [hi] at hy
      cases hy
      have hw2 : w = fw := by
        by_cases hl : slot < (frzE h ev).length
        · rw [List.getElem?_set_self hl] at hw
          exact (Option.some.inj (Option.some.inj hw)).symm
        · rw [List.getElem?_eq_none (by simpa using hl)] at hw; cases hw
      subst hw2
      exact ⟨v, hv, .inl ⟨by rw [hki]; exact L.loc, _, hn, hm⟩⟩
    · rw [List.getElem?_set_ne his] at hw
      have hyx : y ≠ x := fun z => by
        subst z
        obtain ⟨h1, q1⟩ := List.getElem?_eq_some_iff.mp hi
        obtain ⟨h2, q2⟩ := List.getElem?_eq_some_iff.mp hy
        exact his ((List.getElem_inj hN).mp (q1.trans q2.symm))
      have hyd : y ≠ (".0" : Str) := fun z => hd (by rw [← z]; exact List.mem_of_getElem? hy)
      have hf : scope.names.lookup y = some .free := by
        rcases hvis with z | z | z
        · rcases L.own y z with z | z
          · exact absurd z hyx
          · exact absurd z hyd
        · exact absurd rfl (L.cell _ (PySem.mem_of_lookup z))
        · exact z
      unfold frzE at hw
      rw [List.getElem?_map] at hw
      cases he : ev[i]? with
      | none => rw [he] at hw; cases hw
      | some ow =>
        rw [he] at hw
        cases ow with
        | none => simp at hw
        | some w0 =>
          have hw : frz h 6 w0 = some w := by simpa using hw
          obtain ⟨v0, hv0, r0⟩ := sr.at_ i w0 he
          have hX : Vis X.env.scope y := (L.free _ (PySem.mem_of_lookup hf) rfl).elim (fun z => .inr (.inl z)) fun z => .inr (.inr z)
          obtain ⟨m, hm, hl⟩ := I.loc
          obtain ⟨u, ru, q⟩ := hl i y v0 hy hv0 hX
          have hwv := frz_wv I hr 6 v0 u w0 w r0 ru hw
          refine ⟨u, hwm u w hwv, .inr ⟨by rw [hki]; exact hf, ?_⟩⟩
          rcases q with ⟨z, _⟩ | ⟨_, c, hc, hcell⟩
          · have z : X.env.scope.names.lookup y = some .local := z
            rcases L.free _ (PySem.mem_of_lookup hf) rfl with z2 | z2 <;> rw [show X.env.scope.names.lookup y = _ from z2] at z <;> cases z
          · obtain ⟨c2, h2⟩ := mem_lookup (cloFrom_has (cells := X.env.cells) (acc := []) (PySem.mem_of_lookup hf))
            have e5 : c2 = c := by
              rcases cloFrom_mem (PySem.mem_of_lookup h2) with hm | ⟨h3, h4⟩
              · cases hm
              · rw [h4, hc] <;> rfl
            subst e5
            obtain ⟨oc, q1, q2⟩ := hcell
            exact ⟨c2, by rw [e2]; exact h2, oc, k _ _ (I.freeC y c2 hc) q1, q2⟩
mutual
theorem WV.tab {P : Addr} {h h' : Heap} (k : ∀ b o, b ≠ P → h.get? b = some o → h'.get? b = some o) (hP : ∀ o, h.get? P = some o → ∃ fs, o.data = .fields fs) : ∀ {v : Value} {w : W}, WV h v w → WV h' v w
  | v, .non, x => x
  | v, .bl _, x => x
  | v, .int _, x => x
  | v, .str _, x => x
  | v, .tup xs, x => by
    unfold WV at x ⊢
    obtain ⟨a, vs, e, ⟨o, p, c, n, q⟩, z, r⟩ := x
    have hne : a ≠ P := fun z => by
      subst z
      obtain ⟨fs, h1⟩ := hP o p
      rw [h1] at q; cases q
    exact ⟨a, vs, e, ⟨o, k _ _ hne p, c, n, q⟩, z, WVs.tab k hP r⟩
  | v, .rol xs, x => by
    unfold WV at x ⊢
    obtain ⟨a, vs, e, ⟨o, p, c, n, q⟩, z, r⟩ := x
    have hne : a ≠ P := fun z => by
      subst z
      obtain ⟨fs, h1⟩ := hP o p
      rw [h1] at q; cases q
    exact ⟨a, vs, e, ⟨o, k _ _ hne p, c, n, q⟩, z, WVs.tab k hP r⟩
  | v, .ref n, x => x
theorem WVs.tab {P : Addr} {h h' : Heap} (k : ∀ b o, b ≠ P → h.get? b = some o → h'.get? b = some o) (hP : ∀ o, h.get? P = some o → ∃ fs, o.data = .fields fs) : ∀ {v : List Value} {w : List W}, WVs h v w → WVs h' v w
  | v, [], x => x
  | v, w :: ws, x => by
    unfold WVs at x ⊢
    obtain ⟨u, r, e, p, q⟩ := x
    exact ⟨u, r, e, WV.tab k hP p, WVs.tab k hP q⟩
end
theorem gen_px {c P : Addr} {elt iter : Expr} {x : Str} {px gpos : Pos} {scope : Scope} {slot k : Nat} {te : TE} {melt : M W} {Q' : Value → Shared → Prop} {R : List W → Hp → Prop}
    (hr : Room k X.A) (TB : TabB X.base X.mg c P) (hcode : X.env.code = .ref c) (hmT : (P, X.env.qual ++ "<genexpr>") ∈ G.T) (huT : ∀ p ∈ G.T, p.1 = P → p.2 = X.env.qual ++ "<genexpr>") (L : GenP X.env.scope scope x) (hN : X.N.Nodup) (hx : X.N[slot]? = some x) (hd : (".0" : Str) ∉ X.N)
    (hi : PE X iter te) (hel : SP X.K X.mg X.N scope elt melt) (hs : ∀ v, genFold iter X.env v = pure v) (I : Inv X pins σ H s)
    (h : te σ H fun v H1 => ∃ ρ1 h1 ev ws zs xs, GcV X.K H1 v xs ∧ VRs X.K H1 ρ1 xs ws ∧ HR X.K G H1 ρ1 h1 ∧ SR X.K H1 ρ1 σ ev ∧ mapO (eltOf h1 ev slot melt) ws = some zs ∧ R zs H1)
    (hQ : ∀ zs H1 g s5, R zs H1 → GReady X pins σ G.T H1 zs g s5 → Q' (.ref g) s5) :
    wpAny (model X.prog X.w) X.A (eval (.GeneratorExp elt [⟨.Name x px, iter, [], 0⟩] scope gpos) X.env) Q' X.xe s := by
  have hfree : ∀ y ∈ scope.names, y.2 = .free → ∃ c, X.env.cells.lookup y.1 = some c := fun y hy e => by
    rcases L.free y hy e with z | z
    · exact I.ok.has _ (.inl z)
    · exact I.ok.has _ (.inr z)
  refine wpAny_GeneratorExp_walksQ hr.hd L.co (closure_ok hfree) L.cell L.dot L.loc L.kind (by have := hr.dp; omega) ?_ hs
  refine thn (hi.run pins s σ H _ I h) fun xv s1 ⟨v, H1, I1, r1, ρ1, h1, ev, ws, zs, xs, gc, vx, hr1, sr1, hzs, q1⟩ => ?_
  obtain ⟨Pf, wk, hPf⟩ := gcv_wk I1 r1 gc
  have hlx : xs.length = ws.length := vx.length
  have hlz : ws.length = zs.length := mapO_len hzs
  refine wk.run _ _ _ hr.hd fun o fp St W hst hfp => ?_
  obtain ⟨ps, hP, ht, ha⟩ := hr1.tb _ hmT
  have hPs : s1.heap.get? P = some { cls := .none, data := .fields ps } := I1.hok P _ hP
  have hPlt : P < s1.heap.objs.size := Heap.lt_size hPs
  have hP2 : (s1.heap.push o).get? P = some { cls := .none, data := .fields ps } := Heap.get?_push_of_some _ hPs
  have cd : PySem.W.CodeHd (s1.heap.push o) c P := TB.code.keeps fun b u e => Heap.get?_push_of_some _ (I1.bk b u e)
  have lim2 : (s1.heap.push o).NoLimit := I1.nolimit.push o
  have hfpP : ∀ b ∈ fp, b ≠ P := fun b hb z => by
    obtain ⟨ob, h1, h2⟩ := hfp b hb
    rw [z, hPs] at h1
    cases h1
    exact h2 _ rfl
  have hfpl : ∀ b ∈ fp, b < s1.heap.objs.size := fun b hb => by
    obtain ⟨ob, h1, h2⟩ := hfp b hb
    exact Heap.lt_size h1
  have cont : ∀ (code : Value) (h3 : Heap) (tk : Nat) (ps' : Array Value), Heap.ExtBut P (s1.heap.push o) h3 → (s1.heap.push o).objs.size ≤ h3.objs.size → h3.get? P = some { cls := .none, data := .fields ps' } →
      (ps' = ps ∨ ∃ (pos : Pos) (c' : Addr), ps' = ps ++ #[rawInt pos.line, rawInt pos.col, .ref c'] ∧ s1.heap.objs.size < c' ∧ c' < h3.objs.size ∧ h3.CodeRec (.ref c') (X.env.qual ++ "<genexpr>")) →
      wpAny (model X.prog X.w) X.A (builtinsFor X.env.globals X.env.builtins) (fun bi s₄ =>
        ∃ Ia fp wr n₀ Pf St₀ pz F, Value.ref s1.heap.objs.size = .ref Ia ∧ (∀ A' : Around, A'.handled = none → Walks X.prog X.w A' Ia fp wr n₀ Pf St₀) ∧ St₀ 0 s₄.heap ∧ (∀ b ∈ fp, b < s₄.heap.objs.size) ∧ s₄.heap.NoLimit ∧ cStatics ∉ wr ∧
          (∀ href : Heap, (∀ b o, s₄.heap.get? b = some o → href.get? b = some o) →
            QuietGen X.prog X.w (genEnv scope (cloFrom X.env.cells scope.names []) s₄.heap.objs.size code bi X.env) x [] elt (List.range s₄.heap.objs.size) wr Pf pz F href) ∧
          (∀ a h₅ tk gs, gs.bare = true → s₄.heap.objs.size < a → h₅.objs.size = a + 1 → (∀ b o, s₄.heap.get? b = some o → h₅.get? b = some o) →
            WalksS X.prog X.w X.A.in4 a (a :: s₄.heap.objs.size :: List.range s₄.heap.objs.size) (s₄.heap.objs.size :: wr) (GenOnlyQ s₄.gens.size) (passing pz n₀ 0).length
              (fun j y => ∃ i, (passing pz n₀ 0)[j]? = some i ∧ F i y) (GenAt X.prog X.w X.A.in4 a s₄.gens.size s₄.heap.objs.size (List.range s₄.heap.objs.size) wr pz n₀ F) →
            GenAt X.prog X.w X.A.in4 a s₄.gens.size s₄.heap.objs.size (List.range s₄.heap.objs.size) wr pz n₀ F 0 { s₄ with gens := s₄.gens.push gs, toks := tk, heap := h₅ } →
            Q' (.ref a) { s₄ with gens := s₄.gens.push gs, toks := tk, heap := h₅ })) X.xe { s1 with heap := h3, toks := tk } := by
    intro code h3 tk ps' hx3 hsz hP3 hps
    obtain ⟨bm, ob, e1, e2, e3, e4, e5, e6, e7, e8⟩ := TB.bm
    have hcP : cStatics ≠ P := fun e => by
      obtain ⟨_, hns, _⟩ := I1.nolimit
      obtain ⟨o', es, ep, ho, hd, _⟩ := hns
      rw [e, hPs] at ho
      cases ho
      cases hd
    have hcl : cStatics < s1.heap.objs.size := let ⟨_, hns, _⟩ := I1.nolimit; hns.lt
    have sz2 : (s1.heap.push o).objs.size = s1.heap.objs.size + 1 := Heap.size_push ..
    have keep3 : ∀ b u, b ≠ P → s1.heap.get? b = some u → h3.get? b = some u := fun b u hb e => hx3 b u hb (Heap.get?_push_of_some _ e)
    refine wpAny_builtinsFor (m := X.mg) (by rw [I1.ok.glob]; exact ((I1.mod.glob.keeps I1.bk).push o).extBut hx3 TB.gP) e1 e2 (keep3 _ _ e4 (I1.bk _ _ e5)) e6 e7 e8 ?_
    refine ⟨s1.heap.objs.size, s1.heap.objs.size :: fp, [s1.heap.objs.size], xs.length, Pf, St, (fun _ => true), (fun i y => ∃ z, zs[i]? = some z ∧ ScV y z), rfl, W, ?_, ?_, lim2.extBut hx3 hcP, ?_, ?_, ?_⟩
    · refine (W X.A hr.hd).frame _ _ _ hst fun b hb u e => hx3 b u (fun z => ?_) e
      rcases List.mem_cons.mp hb with z2 | z2
      · exact Nat.ne_of_lt hPlt (z.symm.trans z2)
      · exact hfpP b z2 z
    · intro b hb
      rcases List.mem_cons.mp hb with z | z
      · rw [z]
        show s1.heap.objs.size < h3.objs.size
        omega
      · have := hfpl b z
        show b < h3.objs.size
        exact Nat.lt_of_lt_of_le this (by omega)
    · intro z
      rcases List.mem_cons.mp z with z | z
      · exact Nat.ne_of_lt hcl z
      · cases z
    · intro href hhref
      refine ⟨fun A' E' i v s₂ m₂ hA hPv hn hm hk => ?_, fun A' E' i v s₂ m₂ hA hPv hp hn hm hk => ?_⟩
      · simp only [List.forIn_nil]
        exact wpAny_pure ⟨rfl, keeps_rfl _⟩
      · obtain ⟨xi, hxi, rxi⟩ := hPf i v hPv
        have hil : i < ws.length := by rw [← hlx]; exact (List.getElem?_eq_some_iff.mp hxi).1
        obtain ⟨v2, hv2, rv2⟩ := vx.get (List.getElem?_eq_getElem hil)
        rw [hxi] at hv2
        cases hv2
        obtain ⟨z, hz1, hz2⟩ := mapO_each hzs i _ (List.getElem?_eq_getElem hil)
        unfold eltOf at hz2
        split at hz2
        · rename_i fw hfw
          split at hz2
          · rename_i z' hh hz3
            split at hz2
            · rename_i hsc
              have ezz : z' = z := Option.some.inj hz2
              subst ezz
              have hbz := hel.br _ _ _ hz3
              subst hbz
              -- what the element's frame sees
              have kS2 : ∀ b u, b ≠ P → s1.heap.get? b = some u → s₂.heap.get? b = some u := fun b u hb e => by
                have hb3 := keep3 b u hb e
                have hlt3 : b < h3.objs.size := Heap.lt_size hb3
                refine hk b (List.mem_range.mpr hlt3) (fun z => ?_) u (hhref b u hb3)
                have z : b = s1.heap.objs.size := by simpa using z
                exact Nat.ne_of_lt (Heap.lt_size e) z
              have hwm : ∀ u w, WV s1.heap u w → WV s₂.heap u w := fun u w q => WV.tab kS2 (fun o2 e => by
                rw [hPs] at e
                cases e
                exact ⟨_, rfl⟩) q
              have hwv := frz_wv I1 hr1 6 _ _ _ _ rv2 rxi hfw
              have ok := gen_pxok (env := genEnv scope (cloFrom X.env.cells scope.names []) h3.objs.size code builtinsNs X.env) (m := m₂) I1 hr1 sr1 L hN hx hd (hwm _ _ hwv) rfl rfl I1.ok.glob rfl (fun b o2 hb e => kS2 b o2 (fun z => by rw [z, hP] at hb; cases hb) e) hwm hn hm
              exact wpAny_mono (hel.px X.prog X.w _ s₂.heap _ _ rfl ok hz3 A' E' s₂ (fun b o z => z)) (fun y s3 r => ⟨⟨z', hz1, scv_of hsc r.1⟩, r.2⟩) fun _ _ e => e
            · cases hz2
          · cases hz2
        · cases hz2
    · intro g h5 tk5 gs hgb hag hsz5 hk5 W5 hat
      simp only [GxR.passing_true, List.length_range] at W5
      have hn5 : xs.length = zs.length := by omega
      rw [hn5] at W5 hat
      refine hQ zs H1 g _ q1 ⟨_, _, _, _, _, W5.in4_1, hat, ?_, ?_, fun s' hm => ?_⟩
      · intro b hb
        show b < h5.objs.size
        have e5 : h5.objs.size = g + 1 := hsz5
        have h8 : h3.objs.size < g := hag
        rw [e5]
        rcases List.mem_cons.mp hb with z | z
        · rw [z]
          exact Nat.lt_succ_self g
        · rcases List.mem_cons.mp z with z | z
          · rw [z]
            exact Nat.lt_succ_of_lt h8
          · have z2 := List.mem_range.mp z
            have h7 : b < h3.objs.size := z2
            exact Nat.lt_succ_of_lt (Nat.lt_trans h7 h8)
      · intro j y hy
        obtain ⟨i, hij, z, hz, e⟩ := hy
        obtain ⟨hj, ej⟩ := List.getElem?_eq_some_iff.mp hij
        simp only [GxR.passing_true, List.getElem_range] at ej
        subst ej
        exact ⟨z, hz, e⟩
      · have nwr : ∀ b u, s1.heap.get? b = some u → b ∉ h3.objs.size :: [s1.heap.objs.size] := fun b u e hb => by
          have hl := Heap.lt_size e
          rcases List.mem_cons.mp hb with z | z
          · rw [z] at hl
            have h9 : (h3.objs.size : Nat) < s1.heap.objs.size := hl
            omega
          · rcases List.mem_cons.mp z with z | z
            · rw [z] at hl
              exact Nat.lt_irrefl _ hl
            · cases z
        refine tab_fin (h3 := h3) (s' := s') I1 hr1.tb huT hP ht ha hps (fun b u hb e => hm.heap b u (nwr b u e) (hk5 b u (keep3 b u hb e))) (hm.heap P _ (nwr P _ hPs) (hk5 P _ hP3)) (fun b o2 hl hg e => hm.heap b o2 (fun z => ?_) (hk5 b o2 e)) (AllBare.movedS (I1.bare.push hgb) hm) hm.os
        rcases List.mem_cons.mp z with z | z
        · rw [z] at hl
          exact Nat.lt_irrefl _ hl
        · rcases List.mem_cons.mp z with z | z
          · rw [z] at hg
            exact Nat.lt_irrefl _ hg
          · cases z
  refine ⟨lim2, ?_⟩
  have sz2 : (s1.heap.push o).objs.size = s1.heap.objs.size + 1 := Heap.size_push ..
  cases hf : codeAmong gpos ps.toList with
  | none =>
    refine wpAny_genexprCodeX hcode (cd.code hP2 ht) (cd.tab hP2) hf fun c' h' tk hx hge hlt hco' hrec htab' _ => ?_
    have hgt : s1.heap.objs.size < c' := Nat.lt_of_lt_of_le (by show s1.heap.objs.size < (s1.heap.push o).objs.size; omega) hge
    exact cont _ h' tk _ hx (Nat.le_trans hge (Nat.le_of_lt hlt)) htab'.2 (.inr ⟨gpos, c', rfl, hgt, hlt, hrec⟩)
  | some cv =>
    refine wpAny_genexprCode_hit hcode (cd.code hP2 ht) hf ?_
    exact cont cv (s1.heap.push o) s1.toks ps (Heap.ExtBut.refl _ _) (Nat.le_refl _) hP2 (.inl rfl)
end
/-! ### any, all, sum -/
abbrev GcRel (K : PySem.W.Frag) : Hp → List Addr → V → List W → Prop := fun H ρ v ws => ∃ xs, GcV K H v xs ∧ VRs K H ρ xs ws
def SGen (G : Gx) (X : Cx) (e : Expr) (m : M (List W)) : Prop := ∀ Wx, Takes X Wx → PE X e (rd X.K G Wx (GcRel X.K) m)
/-- the items of a value that may be a text -/
def mGItems (m : M W) : M (List W) := fun e h => (m e h).bnd fun w h => match w with
  | .str s => .ok (s.map fun c => .str [c]) h
  | w => match sqA w h with
    | some xs => .ok xs h
    | none => .bad
def bools : List W → Option (List Bool)
  | [] => some []
  | .bl b :: r => (bools r).map (b :: ·)
  | _ :: _ => none
def mGenB (any : Bool) (slot : Nat) (mit : M (List W)) (melt : M W) : M W := fun e h => (mit e h).bnd fun ws h => match mapO (eltOf h e slot melt) ws with
  | some zs => match bools zs with
    | some bs => .ok (.bl (if any = true then bs.any id else bs.all id)) h
    | none => .bad
  | none => .bad
def mGenSum (slot : Nat) (mit : M (List W)) (melt : M W) : M W := fun e h => (mit e h).bnd fun ws h => match mapO (eltOf h e slot melt) ws with
  | some zs => match intsOf zs with
    | some is => .ok (.int is.sum) h
    | none => .bad
  | none => .bad
section
variable {G : Gx} {X : Cx} {e : Expr} {m : M W} {mit : M (List W)} {pos p : Pos}
theorem sg_seq (he : SE G X e m) : SGen G X e (mGItems m) := fun Wx tk => (he Wx tk).imp fun σ H Q p => rd.bnd (Rel := VRel X.K) p fun H0 ρ0 e sr x H1 ρ1 h1 wx x1 r1 vx p1 => by
  split at p1
  · rename_i s
    rw [vx.str]
    refine p1 ρ1 H1 _ (Ext.refl r1) r1 ⟨_, .inr ⟨s, rfl, rfl⟩, ?_⟩
    clear p1 vx
    induction s with
    | nil => exact .nil
    | cons c s ih => exact .cons vr_str ih
  · split at p1
    · rename_i xs hx
      obtain ⟨a, vs, rfl, q, z⟩ := sqA_ok r1 vx hx
      refine p1 ρ1 H1 _ (Ext.refl r1) r1 ⟨vs, .inl ⟨a, rfl, ?_⟩, z⟩
      rcases q with q | q
      · exact .inl q
      · exact .inr (.inl q)
    · exact p1.elim
theorem sg_items (he : SItems G X e mit) : SGen G X e mit := fun Wx tk => (he Wx tk).imp fun σ H Q p => by
  obtain ⟨ρ, e, h, hr, sr, p⟩ := p
  refine ⟨ρ, e, h, hr, sr, ?_⟩
  cases hm : mit e h with
  | ok ws h' =>
    rw [hm] at p
    exact fun ρ' H' v x r ⟨xs, c, q, _⟩ => p ρ' H' v x r ⟨xs, .inl c, q⟩
  | exc c q h' => rw [hm] at p; exact p
  | bad => rw [hm] at p; exact p
theorem bools_get : ∀ {zs : List W} {bs : List Bool}, bools zs = some bs → zs.length = bs.length ∧ ∀ (i : Nat) (b : W), zs[i]? = some b → ∃ c, bs[i]? = some c ∧ b = W.bl c
  | [], bs, e => by cases e; exact ⟨rfl, fun i b h => by simp at h⟩
  | .bl b :: r, bs, e => by
    unfold bools at e
    cases hr : bools r with
    | none => rw [hr] at e; cases e
    | some cs =>
      rw [hr] at e
      cases e
      obtain ⟨h1, h2⟩ := bools_get hr
      refine ⟨by simp [h1], fun i b' h => ?_⟩
      cases i with
      | zero =>
        have : W.bl b = b' := by simpa using h
        exact ⟨b, rfl, this.symm⟩
      | succ i =>
        obtain ⟨c, q1, q2⟩ := h2 i b' (by simpa using h)
        exact ⟨c, by simpa using q1, q2⟩
  | .non :: r, bs, e => by cases e
  | .int _ :: r, bs, e => by cases e
  | .str _ :: r, bs, e => by cases e
  | .tup _ :: r, bs, e => by cases e
  | .rol _ :: r, bs, e => by cases e
  | .ref _ :: r, bs, e => by cases e
theorem ints_get : ∀ {zs : List W} {bs : List Int}, intsOf zs = some bs → zs.length = bs.length ∧ ∀ (i : Nat) (b : W), zs[i]? = some b → ∃ c, bs[i]? = some c ∧ b = W.int c
  | [], bs, e => by cases e; exact ⟨rfl, fun i b h => by simp at h⟩
  | .int b :: r, bs, e => by
    unfold intsOf at e
    cases hr : intsOf r with
    | none => rw [hr] at e; cases e
    | some cs =>
      rw [hr] at e
      cases e
      obtain ⟨h1, h2⟩ := ints_get hr
      refine ⟨by simp [h1], fun i b' h => ?_⟩
      cases i with
      | zero =>
        have : W.int b = b' := by simpa using h
        exact ⟨b, rfl, this.symm⟩
      | succ i =>
        obtain ⟨c, q1, q2⟩ := h2 i b' (by simpa using h)
        exact ⟨c, by simpa using q1, q2⟩
  | .non :: r, bs, e => by cases e
  | .bl _ :: r, bs, e => by cases e
  | .str _ :: r, bs, e => by cases e
  | .tup _ :: r, bs, e => by cases e
  | .rol _ :: r, bs, e => by cases e
  | .ref _ :: r, bs, e => by cases e
theorem range_any (bs : List Bool) : (List.range bs.length).any (fun i => bs.getD i false) = bs.any id := by
  rw [Bool.eq_iff_iff, List.any_eq_true, List.any_eq_true]
  constructor
  · rintro ⟨i, hi, h⟩
    have hi := List.mem_range.mp hi
    rw [List.getD_eq_getElem?_getD, List.getElem?_eq_getElem hi] at h
    exact ⟨bs[i], List.getElem_mem hi, h⟩
  · rintro ⟨b, hb, h⟩
    obtain ⟨i, hi, e⟩ := List.getElem_of_mem hb
    refine ⟨i, List.mem_range.mpr hi, ?_⟩
    rw [List.getD_eq_getElem?_getD, List.getElem?_eq_getElem hi, e]
    exact h
theorem range_all (bs : List Bool) : (List.range bs.length).all (fun i => bs.getD i false) = bs.all id := by
  rw [Bool.eq_iff_iff, List.all_eq_true, List.all_eq_true]
  constructor
  · intro h b hb
    obtain ⟨i, hi, e⟩ := List.getElem_of_mem hb
    have := h i (List.mem_range.mpr hi)
    rw [List.getD_eq_getElem?_getD, List.getElem?_eq_getElem hi, e] at this
    exact this
  · intro h i hi
    have hi := List.mem_range.mp hi
    rw [List.getD_eq_getElem?_getD, List.getElem?_eq_getElem hi]
    exact h _ (List.getElem_mem hi)
theorem preSum_sum (l : List Int) : preSum (fun i => l.getD i 0) l.length = l.sum := by
  have key : ∀ (l : List Int) (n : Nat), n ≤ l.length → preSum (fun i => l.getD i 0) n = (l.take n).sum := by
    intro l n
    induction n with
    | zero => intro _; simp [preSum]
    | succ n ih =>
      intro hn
      have hn2 : n < l.length := hn
      rw [List.take_add_one, List.getElem?_eq_getElem hn2, List.sum_append]
      show preSum _ n + _ = _
      rw [ih (by omega)]
      show _ + l.getD n 0 = _
      rw [List.getD_eq_getElem?_getD, List.getElem?_eq_getElem hn2]
      simp
  rw [key l l.length (Nat.le_refl _), List.take_length]
theorem se_genB {any : Bool} {nm : Str} {c P : Addr} {elt iter : Expr} {x : Str} {px gpos : Pos} {scope : Scope} {slot k : Nat} {melt : M W} (hn : (any = true ∧ nm = "any") ∨ (any = false ∧ nm = "all"))
    (hi : SGen G X iter mit) (hr : Room k X.A) (hg : Gl X nm) (hm : X.mg nm = none) (hN : X.N.Nodup) (hx : X.N[slot]? = some x) (hd : (".0" : Str) ∉ X.N) (TB : TabB X.base X.mg c P) (hcode : X.env.code = .ref c) (hmT : (P, X.env.qual ++ "<genexpr>") ∈ G.T) (huT : ∀ p ∈ G.T, p.1 = P → p.2 = X.env.qual ++ "<genexpr>")
    (L : GenP X.env.scope scope x) (hel : SP X.K X.mg X.N scope elt melt) (hs : ∀ v, genFold iter X.env v = pure v := by intro _; rfl)
    (he : starEach [.GeneratorExp elt [⟨.Name x px, iter, [], 0⟩] scope gpos] X.env = (false, eval (.GeneratorExp elt [⟨.Name x px, iter, [], 0⟩] scope gpos) X.env) :: starEach [] X.env := by rfl) :
    SE G X (.Call (.Name nm p) [.GeneratorExp elt [⟨.Name x px, iter, [], 0⟩] scope gpos] [] pos) (mGenB any slot mit melt) := fun Wx tk => by
  refine ⟨fun pins s σ H Q I h => ?_⟩
  have hv : bootBuiltins nm = some (.builtin (if any = true then "any" else "all")) := by
    rcases hn with ⟨rfl, rfl⟩ | ⟨rfl, rfl⟩
    · exact boot_any
    · decide +kernel
  have hnn : nm ≠ "__name__" := by rcases hn with ⟨_, rfl⟩ | ⟨_, rfl⟩ <;> decide
  have hnd : (nm == ("__debug__" : Str)) = false := by rcases hn with ⟨_, rfl⟩ | ⟨_, rfl⟩ <;> decide
  refine wpAny_Call_Name_kw (ld_blt I hg hm hv ?_ hnn hnd)
  refine PyProof.Rows.callWith_builtin1 ?_ he (by rfl)
  rw [he]
  have h2 := rd.bnd (Rel := GcRel X.K) (Q' := fun v H1 => ∃ ρ1 h1 ev ws zs xs, GcV X.K H1 v xs ∧ VRs X.K H1 ρ1 xs ws ∧ HR X.K G H1 ρ1 h1 ∧ SR X.K H1 ρ1 σ ev ∧ mapO (eltOf h1 ev slot melt) ws = some zs ∧
      ∃ bs, bools zs = some bs ∧ ∀ H2, ExtN H1 H2 → Tabs G.T H2 → Q (.bl (if any = true then bs.any id else bs.all id)) H2) h fun H0 ρ0 e sr v H1 ρ1 h1 w x r q p1 => by
    obtain ⟨xs, gc, vx⟩ := q
    split at p1
    · rename_i zs hz
      split at p1
      · rename_i bs hb
        refine ⟨ρ1, h1, e, w, zs, xs, gc, vx, r, sr.mono x, hz, bs, hb, fun H2 eN T2 => ?_⟩
        have x12 : Ext H1 ρ1 H2 ρ1 := ⟨fun b o e t _ => eN b o e (by intro ps z; subst z; cases t), List.prefix_rfl, fun _ a b => absurd a b, r.mu, fun b o u e => eN b _ e (by intro ps z; cases z)⟩
        have r2 : HR X.K G H2 ρ1 h1 := ⟨r.len, r.nd, fun n a o e1 e2 => (r.ob n a o e1 e2).mono x12 (by
          obtain ⟨u, hu, hm⟩ := (r.ob n a o e1 e2).mut
          rw [hu]
          exact eN a u hu (by intro ps z; subst z; cases hm)), T2⟩
        exact p1 ρ1 H2 _ x12 r2 vr_bl
      · exact p1.elim
    · exact p1.elim
  show wpAny _ _ (spliced ((false, eval (.GeneratorExp elt [⟨.Name x px, iter, [], 0⟩] scope gpos) X.env) :: backTo pos (starEach [] X.env))) _ _ s
  refine Calls.spliced_cons (gen_px (G := G) (R := fun zs H1 => ∃ bs, bools zs = some bs ∧ ∀ H2, ExtN H1 H2 → Tabs G.T H2 → Q (.bl (if any = true then bs.any id else bs.all id)) H2) hr TB hcode hmT huT L hN hx hd (hi Wx tk) hel hs I h2 fun zs H1 g s5 hR hG => ?_)
  obtain ⟨fp, wr, Gs, F, St, W, hst, _, hF, hI⟩ := hG
  obtain ⟨bs, hb, hq⟩ := hR
  obtain ⟨hlen, hget⟩ := bools_get hb
  have htr : TruthOf X.prog X.w X.A.in1 F (fun i => bs.getD i false) := fun i y sj Qj Ej hy hQj => by
    obtain ⟨z, hz, sc⟩ := hF i y hy
    obtain ⟨c, hc, rfl⟩ := hget i z hz
    have e : y = .bool c := sc
    rw [e]
    refine wpAny_truthy_bool ?_
    have hQj : Qj (bs.getD i false) sj := hQj
    rw [List.getD_eq_getElem?_getD, hc] at hQj
    exact hQj
  refine Calls.spliced_nil ?_
  rcases hn with ⟨rfl, rfl⟩ | ⟨rfl, rfl⟩
  · refine call_any_walkS (W.self 0 _ _ _ hst ⟨g, fp, wr, Gs, _, F, St, _, rfl, W, hst, htr, fun s' hmv => ?_⟩)
    obtain ⟨H2, eN, T2, J⟩ := hI s' hmv
    refine ⟨.bl _, H2, J, rfl, ?_⟩
    rw [hlen, range_any]
    exact hq H2 eN T2
  · refine call_all_walkS (W.self 0 _ _ _ hst ⟨g, fp, wr, Gs, _, F, St, _, rfl, W, hst, htr, fun s' hmv => ?_⟩)
    obtain ⟨H2, eN, T2, J⟩ := hI s' hmv
    refine ⟨.bl _, H2, J, rfl, ?_⟩
    rw [hlen, range_all]
    exact hq H2 eN T2
theorem se_genSum {c P : Addr} {elt iter : Expr} {x : Str} {px gpos : Pos} {scope : Scope} {slot k : Nat} {melt : M W}
    (hi : SGen G X iter mit) (hr : Room k X.A) (hg : Gl X "sum") (hm : X.mg "sum" = none) (hN : X.N.Nodup) (hx : X.N[slot]? = some x) (hd : (".0" : Str) ∉ X.N) (TB : TabB X.base X.mg c P) (hcode : X.env.code = .ref c) (hmT : (P, X.env.qual ++ "<genexpr>") ∈ G.T) (huT : ∀ p ∈ G.T, p.1 = P → p.2 = X.env.qual ++ "<genexpr>")
    (L : GenP X.env.scope scope x) (hel : SP X.K X.mg X.N scope elt melt) (hs : ∀ v, genFold iter X.env v = pure v := by intro _; rfl)
    (hv : bootBuiltins "sum" = some (.builtin "sum") := by decide +kernel)
    (he : starEach [.GeneratorExp elt [⟨.Name x px, iter, [], 0⟩] scope gpos] X.env = (false, eval (.GeneratorExp elt [⟨.Name x px, iter, [], 0⟩] scope gpos) X.env) :: starEach [] X.env := by rfl) :
    SE G X (.Call (.Name "sum" p) [.GeneratorExp elt [⟨.Name x px, iter, [], 0⟩] scope gpos] [] pos) (mGenSum slot mit melt) := fun Wx tk => by
  refine ⟨fun pins s σ H Q I h => ?_⟩
  refine wpAny_Call_Name_kw (ld_blt I hg hm hv ?_ (by decide) (by decide))
  refine PyProof.Rows.callWith_builtin1 ?_ he (by rfl)
  rw [he]
  have h2 := rd.bnd (Rel := GcRel X.K) (Q' := fun v H1 => ∃ ρ1 h1 ev ws zs xs, GcV X.K H1 v xs ∧ VRs X.K H1 ρ1 xs ws ∧ HR X.K G H1 ρ1 h1 ∧ SR X.K H1 ρ1 σ ev ∧ mapO (eltOf h1 ev slot melt) ws = some zs ∧
      ∃ bs, intsOf zs = some bs ∧ ∀ H2, ExtN H1 H2 → Tabs G.T H2 → Q (.int bs.sum) H2) h fun H0 ρ0 e sr v H1 ρ1 h1 w x r q p1 => by
    obtain ⟨xs, gc, vx⟩ := q
    split at p1
    · rename_i zs hz
      split at p1
      · rename_i bs hb
        refine ⟨ρ1, h1, e, w, zs, xs, gc, vx, r, sr.mono x, hz, bs, hb, fun H2 eN T2 => ?_⟩
        have x12 : Ext H1 ρ1 H2 ρ1 := ⟨fun b o e t _ => eN b o e (by intro ps z; subst z; cases t), List.prefix_rfl, fun _ a b => absurd a b, r.mu, fun b o u e => eN b _ e (by intro ps z; cases z)⟩
        have r2 : HR X.K G H2 ρ1 h1 := ⟨r.len, r.nd, fun n a o e1 e2 => (r.ob n a o e1 e2).mono x12 (by
          obtain ⟨u, hu, hm⟩ := (r.ob n a o e1 e2).mut
          rw [hu]
          exact eN a u hu (by intro ps z; subst z; cases hm)), T2⟩
        exact p1 ρ1 H2 _ x12 r2 vr_int
      · exact p1.elim
    · exact p1.elim
  show wpAny _ _ (spliced ((false, eval (.GeneratorExp elt [⟨.Name x px, iter, [], 0⟩] scope gpos) X.env) :: backTo pos (starEach [] X.env))) _ _ s
  refine Calls.spliced_cons (gen_px (G := G) (R := fun zs H1 => ∃ bs, intsOf zs = some bs ∧ ∀ H2, ExtN H1 H2 → Tabs G.T H2 → Q (.int bs.sum) H2) hr TB hcode hmT huT L hN hx hd (hi Wx tk) hel hs I h2 fun zs H1 g s5 hR hG => ?_)
  obtain ⟨fp, wr, Gs, F, St, W, hst, hfp, hF, hI⟩ := hG
  obtain ⟨bs, hb, hq⟩ := hR
  obtain ⟨hlen, hget⟩ := ints_get hb
  refine Calls.spliced_nil ?_
  refine call_sum_walkAnyS (W.self 0 _ _ _ hst ⟨g, fp, wr, Gs, _, F, St, (fun i => bs.getD i 0), rfl, W, hst, hfp, fun i y hy => ?_, fun s' t' hmv => ?_⟩)
  · obtain ⟨z, hz, sc⟩ := hF i y hy
    obtain ⟨c, hc, rfl⟩ := hget i z hz
    obtain ⟨t, e⟩ := (show ∃ t, y = .int c t from sc)
    refine ⟨t, ?_⟩
    show y = .int (bs.getD i 0) t
    rw [e, List.getD_eq_getElem?_getD, hc]
    rfl
  · obtain ⟨H2, eN, T2, J⟩ := hI s' hmv
    refine ⟨.int bs.sum, H2, J, ⟨t', ?_⟩, hq H2 eN T2⟩
    rw [hlen, preSum_sum]
end
end Den
set_option maxRecDepth 100000
set_option maxHeartbeats 1000000
/-! Dicts with int and text keys. -/
namespace Den
open PySem L2 PyProof.Rows
def wKey : W → Option Key
  | .int i => some (.inl i)
  | .str s => some (.inr (mkS s))
  | _ => none
def keyB : W → W → Bool
  | .int i, .int j => i == j
  | .str a, .str b => a == b
  | _, _ => false
def valW : List (W × W) → W → Option W
  | [], _ => none
  | (k', v) :: r, k => if keyB k' k = true then some v else valW r k
def putGo : List (W × W) → W → W → List (W × W)
  | [], _, _ => []
  | (k', x) :: r, k, v => (if keyB k' k = true then (k', v) else (k', x)) :: putGo r k v
def putW (kvs : List (W × W)) (k v : W) : List (W × W) := if (valW kvs k).isSome = true then putGo kvs k v else kvs ++ [(k, v)]
def dropW : List (W × W) → W → List (W × W)
  | [], _ => []
  | (k', x) :: r, k => if keyB k' k = true then dropW r k else (k', x) :: dropW r k
/-- a dict's pairs, locked or not -/
def dicR (h : List O) (n : Nat) : Option (List (W × W)) := match h[n]? with
  | some (.dic x) => some x
  | some (.dik x) => some x
  | _ => none
section
variable {K : PySem.W.Frag} {G : Gx} {H : Hp} {ρ : List Addr} {h : List O} {v : V} {k w : W} {q : Key} {kvs : List (W × W)} {ps : List (Key × V)}
theorem key_vr (r : VR K H ρ (kV q) k) : wKey k = some q := by
  cases k with
  | int i =>
    have e := r.int
    cases q with
    | inl j => cases e; rfl
    | inr x => cases e
  | str s =>
    have e := r.str
    cases q with
    | inl j => cases e
    | inr x => cases e; rfl
  | non => have e := r.non; cases q <;> cases e
  | bl b => have e := r.bl; cases q <;> cases e
  | tup xs => obtain ⟨a, vs, e, _⟩ := sqT_ok (xs := xs) r rfl; cases q <;> cases e
  | rol xs => unfold VR at r; obtain ⟨a, vs, e, _⟩ := r; cases q <;> cases e
  | ref n => obtain ⟨a, e, _⟩ := r.ref; cases q <;> cases e
theorem vr_key (e : wKey k = some q) (r : VR K H ρ v k) : v = kV q := by
  cases k with
  | int i => cases e; exact r.int
  | str s => cases e; exact r.str
  | _ => cases e
theorem keyB_iff {k' : W} {q' : Key} (e : wKey k = some q) (e' : wKey k' = some q') : keyB k' k = decide (q' = q) := by
  cases k with
  | int i =>
    cases e
    cases k' with
    | int j => cases e'; show (j == i) = _; by_cases z : j = i <;> simp [z]
    | str t => cases e'; rfl
    | _ => cases e'
  | str s =>
    cases e
    cases k' with
    | int j => cases e'; rfl
    | str t =>
      cases e'
      show (t == s) = _
      by_cases z : t = s
      · subst z; simp
      · have : ¬ (Sum.inr (mkS t) : Key) = Sum.inr (mkS s) := fun y => z (by have := congrArg (fun z : Str => z.cps.toList) (Sum.inr.inj y); simpa using this)
        rw [decide_eq_false this, beq_eq_false_iff_ne.mpr z]
    | _ => cases e'
  | _ => cases e
theorem val_some : ∀ {ps : List (Key × V)} {kvs : List (W × W)}, KRs K H ρ ps kvs → wKey k = some q → valW kvs k = some w → ∃ v, valV ps q = some v ∧ VR K H ρ v w
  | ps, [], r, e, z => by cases z
  | ps, (k', x) :: kvs, r, e, z => by
    unfold KRs at r
    obtain ⟨q', v, r', rfl, h1, h2, h3⟩ := r
    have hk := keyB_iff e (key_vr h1)
    unfold valW at z
    by_cases hq : q' = q
    · rw [hk, decide_eq_true hq, if_pos rfl] at z
      cases z
      exact ⟨v, valV_pos hq, h2⟩
    · rw [hk, decide_eq_false hq, if_neg (by decide)] at z
      rw [valV_neg hq]
      exact val_some h3 e z
theorem val_none : ∀ {ps : List (Key × V)} {kvs : List (W × W)}, KRs K H ρ ps kvs → wKey k = some q → valW kvs k = none → valV ps q = none
  | ps, [], r, e, z => by unfold KRs at r; rw [r]; rfl
  | ps, (k', x) :: kvs, r, e, z => by
    unfold KRs at r
    obtain ⟨q', v, r', rfl, h1, h2, h3⟩ := r
    have hk := keyB_iff e (key_vr h1)
    unfold valW at z
    by_cases hq : q' = q
    · rw [hk, decide_eq_true hq, if_pos rfl] at z
      cases z
    · rw [hk, decide_eq_false hq, if_neg (by decide)] at z
      rw [valV_neg hq]
      exact val_none h3 e z
theorem val_is (r : KRs K H ρ ps kvs) (e : wKey k = some q) : (valV ps q).isSome = (valW kvs k).isSome := by
  cases z : valW kvs k with
  | none => rw [val_none r e z] <;> rfl
  | some w =>
    obtain ⟨v, h1, _⟩ := val_some r e z
    rw [h1]
    rfl
theorem putGo_kr {x : V} {xw : W} (rx : VR K H ρ x xw) (e : wKey k = some q) : ∀ {ps : List (Key × V)} {kvs : List (W × W)}, KRs K H ρ ps kvs → KRs K H ρ (ps.map fun kv => if kv.1 = q then (kv.1, x) else kv) (putGo kvs k xw)
  | ps, [], r => by unfold KRs at r; rw [r]; unfold putGo KRs; rfl
  | ps, (k', y) :: kvs, r => by
    unfold KRs at r
    obtain ⟨q', v, r', rfl, h1, h2, h3⟩ := r
    have hk := keyB_iff e (key_vr h1)
    rw [List.map_cons]
    unfold putGo
    by_cases hq : q' = q
    · rw [hk, decide_eq_true hq, if_pos (show (q', v).1 = q from hq), if_pos rfl]
      unfold KRs
      exact ⟨q', x, _, rfl, h1, rx, putGo_kr rx e h3⟩
    · rw [hk, decide_eq_false hq, if_neg (show ¬ (q', v).1 = q from hq), if_neg Bool.false_ne_true]
      unfold KRs
      exact ⟨q', v, _, rfl, h1, h2, putGo_kr rx e h3⟩
theorem KRs.snoc {x : V} {xw : W} {kk : W} (rk : VR K H ρ (kV q) kk) (rx : VR K H ρ x xw) : ∀ {ps : List (Key × V)} {kvs : List (W × W)}, KRs K H ρ ps kvs → KRs K H ρ (ps ++ [(q, x)]) (kvs ++ [(kk, xw)])
  | ps, [], r => by
    unfold KRs at r
    rw [r]
    show KRs K H ρ [(q, x)] [(kk, xw)]
    unfold KRs
    exact ⟨q, x, [], rfl, rk, rx, by unfold KRs; rfl⟩
  | ps, (k', y) :: kvs, r => by
    unfold KRs at r
    obtain ⟨q', v, r', rfl, h1, h2, h3⟩ := r
    show KRs K H ρ ((q', v) :: (r' ++ [(q, x)])) ((k', y) :: (kvs ++ [(kk, xw)]))
    unfold KRs
    exact ⟨q', v, _, rfl, h1, h2, KRs.snoc rk rx h3⟩
theorem put_kr {x : V} {xw : W} (r : KRs K H ρ ps kvs) (e : wKey k = some q) (rk : VR K H ρ (kV q) k) (rx : VR K H ρ x xw) : KRs K H ρ (putK ps q x) (putW kvs k xw) := by
  unfold putK putW
  rw [valV_any, val_is r e]
  split
  · exact putGo_kr rx e r
  · exact KRs.snoc rk rx r
theorem drop_kr (e : wKey k = some q) : ∀ {ps : List (Key × V)} {kvs : List (W × W)}, KRs K H ρ ps kvs → KRs K H ρ (dropK ps q) (dropW kvs k)
  | ps, [], r => by unfold KRs at r; rw [r]; unfold dropK dropW KRs; rfl
  | ps, (k', y) :: kvs, r => by
    unfold KRs at r
    obtain ⟨q', v, r', rfl, h1, h2, h3⟩ := r
    have hk := keyB_iff e (key_vr h1)
    have ih := drop_kr e h3
    unfold dropK at ih ⊢
    unfold dropW
    by_cases hq : q' = q
    · rw [hk, decide_eq_true hq, if_pos rfl, List.filter_cons_of_neg (by simp [hq])]
      exact ih
    · rw [hk, decide_eq_false hq, if_neg (by decide), List.filter_cons_of_pos (by simp [hq])]
      unfold KRs
      exact ⟨q', v, _, rfl, h1, h2, ih⟩
theorem dicR_ok {n : Nat} {a : Addr} (hr : HR K G H ρ h) (ea : ρ[n]? = some a) (e : dicR h n = some kvs) : ∃ ps, Rd H a (.dK ps) ∧ KRs K H ρ ps kvs := by
  unfold dicR at e
  split at e
  · rename_i x hx
    cases e
    obtain ⟨ps, q, z⟩ := hr.look ea hx
    exact ⟨ps, .inl q, z⟩
  · rename_i x hx
    cases e
    obtain ⟨o, ps, q, z⟩ := hr.look ea hx
    exact ⟨ps, .inr ⟨o, q⟩, z⟩
  · cases e
/-- reading at a key -/
theorem dget_some {n : Nat} {a : Addr} (hr : HR K G H ρ h) (ea : ρ[n]? = some a) (e : dicR h n = some kvs) (rk : VR K H ρ v k) (ek : wKey k = some q) (ew : valW kvs k = some w) : ∃ x, DGet H a v (some x) ∧ VR K H ρ x w := by
  obtain ⟨ps, rd, kr⟩ := dicR_ok hr ea e
  obtain ⟨x, h1, h2⟩ := val_some kr ek ew
  exact ⟨x, .inl ⟨ps, q, rd, vr_key ek rk, h1.symm⟩, h2⟩
theorem dget_none {n : Nat} {a : Addr} (hr : HR K G H ρ h) (ea : ρ[n]? = some a) (e : dicR h n = some kvs) (rk : VR K H ρ v k) (ek : wKey k = some q) (ew : valW kvs k = none) : DGet H a v none := by
  obtain ⟨ps, rd, kr⟩ := dicR_ok hr ea e
  exact .inl ⟨ps, q, rd, vr_key ek rk, (val_none kr ek ew).symm⟩
end
/-! ### {} -/
def mDict0 : M W := fun _ h => .ok (.ref h.length) (h ++ [.dic []])
section
variable {G : Gx} {X : Cx} {pos : Pos}
theorem KRs.nil {K : PySem.W.Frag} {H : Hp} {ρ : List Addr} : KRs K H ρ [] [] := by unfold KRs; rfl
theorem se_dict0 : SE G X (.Dict [] [] pos) mDict0 := fun Wx tk => pe_dnewK.imp fun σ H Q p => fun t ht => by
  obtain ⟨ρ, e, h, hr, sr, p⟩ := p
  obtain ⟨r1, x1⟩ := hr.new (o := .dK []) (u := .dic []) ht rfl fun x => ⟨[], upd_same, .nil⟩
  refine p _ _ _ x1 r1 ?_
  show VR X.K _ _ _ (.ref h.length)
  unfold VR
  exact ⟨t, rfl, hr.last⟩
/-! ### d[k] -/
def oDget (x y : W) (h : List O) : Out W := match x with
  | .ref n => match dicR h n with
    | some kvs => match wKey y with
      | some _ => match valW kvs y with
        | some w => .ok w h
        | none => .bad
      | none => .bad
    | none => .bad
  | _ => .bad
def rDget : R2 := fun x y H Q => ∃ a v, x = .ref a ∧ DGet H a y (some v) ∧ Q v H
theorem ix_dict (hu : X.A.units + 1 < cLine) : IxR X rDget := by
  intro value slice pins s σ H x y v u Q I rx ry h hs
  obtain ⟨a, w, rfl, g, q⟩ := h
  cases rx
  exact tail_any (dict_typeIs I g) PySem.F.slot_dict_getitem.lookup (d_getItem hu I g ry fun w' s' I' rw' => ⟨w, H, I', rw', q⟩) hs
theorem get_dict (hu : X.A.units + 1 < cLine) : PGet X rDget := by
  intro pins s σ H o i ov iv Q I ro ri h
  obtain ⟨a, w, rfl, g, q⟩ := h
  cases ro
  exact d_getItem hu I g ri fun w' s' I' rw' => ⟨w, H, I', rw', q⟩
theorem dget_serves {K : PySem.W.Frag} : Serves2 K G oDget rDget := fun E H ρ h x y wx wy Q hr rx ry p => by
  unfold oDget at p
  split at p
  · rename_i n
    obtain ⟨a, rfl, ea⟩ := rx.ref
    split at p
    · rename_i kvs hk
      split at p
      · rename_i q hq
        split at p
        · rename_i w hw
          obtain ⟨v, g, rv⟩ := dget_some hr ea hk ry hq hw
          exact ⟨a, v, rfl, g, p.here hr rv⟩
        · exact p.elim
      · exact p.elim
    · exact p.elim
  · exact p.elim
/-- x[i]: dicts too -/
def oIxD (x y : W) (h : List O) : Out W := match x with
  | .ref n => match dicR h n with
    | some _ => oDget x y h
    | none => oIx x y h
  | _ => oIx x y h
theorem se_ixD {a b : Expr} {ma mb : M W} (hu : X.A.units + 1 < cLine) (ha : SE G X a ma) (hb : SE G X b mb) (hs : PlainIx b := by exact fun _ _ => rfl) : SE G X (.Subscript a b pos) (mOp oIxD ma mb) := fun Wx tk =>
  (pe_ix (IxR.or ix_seq (ix_dict hu)) (ha Wx tk) (hb Wx tk) hs).imp fun σ H Q p => rd_op (fun E H ρ h x y wx wy Q hr rx ry p => by
    unfold oIxD at p
    split at p
    · split at p
      · exact .inr (dget_serves E H ρ h x y _ wy Q hr rx ry p)
      · exact .inl (ix_serves E H ρ h x y _ wy Q hr rx ry p)
    · exact .inl (ix_serves E H ρ h x y _ wy Q hr rx ry p)) p
/-! ### k in d -/
def oInD (x y : W) (h : List O) : Out W := match y with
  | .ref n => match dicR h n with
    | some kvs => match wKey x with
      | some _ => .ok (.bl (valW kvs x).isSome) h
      | none => .bad
    | none => oIn x y h
  | _ => oIn x y h
def oNotInD (x y : W) (h : List O) : Out W := match y with
  | .ref n => match dicR h n with
    | some kvs => match wKey x with
      | some _ => .ok (.bl (!(valW kvs x).isSome)) h
      | none => .bad
    | none => oNotIn x y h
  | _ => oNotIn x y h
theorem op_din (hu : X.A.units + 1 < cLine) : OpR X (compareOp .In) (fun y x H Q => ∃ a o, x = .ref a ∧ DGet H a y o ∧ Q (.bl o.isSome) H) := by
  intro pins s σ H x y v u Q I rx ry h
  obtain ⟨a, o, rfl, g, q⟩ := h
  cases ry
  exact d_in hu I g rx fun s' I' => ⟨.bl _, H, I', rfl, q⟩
theorem op_dnin (hu : X.A.units + 1 < cLine) : OpR X (compareOp .NotIn) (fun y x H Q => ∃ a o, x = .ref a ∧ DGet H a y o ∧ Q (.bl (!o.isSome)) H) := by
  intro pins s σ H x y v u Q I rx ry h
  obtain ⟨a, o, rfl, g, q⟩ := h
  cases ry
  exact d_notIn hu I g rx fun s' I' => ⟨.bl _, H, I', rfl, q⟩
theorem ops_inD (hu : X.A.units + 65 < cLine) : OpS G X (compareOp .In) oInD := by
  obtain ⟨r, ho, s⟩ := ops_in (G := G) hu
  refine ⟨_, OpR.or ho (op_din (by omega)), fun E H ρ h x y wx wy Q hr rx ry p => ?_⟩
  unfold oInD at p
  split at p
  · rename_i n
    split at p
    · rename_i kvs hk
      obtain ⟨a, rfl, ea⟩ := ry.ref
      split at p
      · rename_i q hq
        refine .inr ?_
        cases hw : valW kvs wx with
        | none => exact ⟨a, none, rfl, dget_none hr ea hk rx hq hw, by rw [hw] at p; exact p.here hr vr_bl⟩
        | some w =>
          obtain ⟨v, g, rv⟩ := dget_some hr ea hk rx hq hw
          exact ⟨a, some v, rfl, g, by rw [hw] at p; exact p.here hr vr_bl⟩
      · exact p.elim
    · exact .inl (s E H ρ h x y wx _ Q hr rx ry p)
  · exact .inl (s E H ρ h x y wx _ Q hr rx ry p)
theorem ops_notinD (hu : X.A.units + 65 < cLine) : OpS G X (compareOp .NotIn) oNotInD := by
  obtain ⟨r, ho, s⟩ := ops_notin (G := G) hu
  refine ⟨_, OpR.or ho (op_dnin (by omega)), fun E H ρ h x y wx wy Q hr rx ry p => ?_⟩
  unfold oNotInD at p
  split at p
  · rename_i n
    split at p
    · rename_i kvs hk
      obtain ⟨a, rfl, ea⟩ := ry.ref
      split at p
      · rename_i q hq
        refine .inr ?_
        cases hw : valW kvs wx with
        | none => exact ⟨a, none, rfl, dget_none hr ea hk rx hq hw, by rw [hw] at p; exact p.here hr vr_bl⟩
        | some w =>
          obtain ⟨v, g, rv⟩ := dget_some hr ea hk rx hq hw
          exact ⟨a, some v, rfl, g, by rw [hw] at p; exact p.here hr vr_bl⟩
      · exact p.elim
    · exact .inl (s E H ρ h x y wx _ Q hr rx ry p)
  · exact .inl (s E H ρ h x y wx _ Q hr rx ry p)
/-! ### d[k] = v -/
def oSetD (o i v : W) (h : List O) : Out Unit := match o with
  | .ref n => match dicAt h n with
    | some kvs => match wKey i with
      | some _ => if kvs.length < lim then .ok () (h.set n (.dic (putW kvs i v))) else .bad
      | none => .bad
    | none => oSet o i v h
  | _ => oSet o i v h
theorem set_dict (hu : X.A.units + 1 < cLine) : PSet X (fun o i v H Q => ∃ a H', o = .ref a ∧ DPut H a i v H' ∧ Q H') := by
  intro pins s σ H o i v ov iv u Q I ro ri rv h
  obtain ⟨a, H', rfl, g, q⟩ := h
  cases ro
  exact d_setItem hu I g ri rv fun s' I' => ⟨H', I', q⟩
theorem _root_.L2.PSet.or {t t' : TSet} (p : PSet X t) (p' : PSet X t') : PSet X (fun o i v H Q => t o i v H Q ∨ t' o i v H Q) := by
  intro pins s σ H o i v ov iv u Q I ro ri rv h
  rcases h with h | h
  · exact p pins s σ H o i v ov iv u Q I ro ri rv h
  · exact p' pins s σ H o i v ov iv u Q I ro ri rv h
theorem _root_.L2.PGet.or {t t' : V → V → Hp → VK → Prop} (p : PGet X t) (p' : PGet X t') : PGet X (fun o i H Q => t o i H Q ∨ t' o i H Q) := by
  intro pins s σ H o i ov iv Q I ro ri h
  rcases h with h | h
  · exact p pins s σ H o i ov iv Q I ro ri h
  · exact p' pins s σ H o i ov iv Q I ro ri h
theorem put_post {K : PySem.W.Frag} {E : XK} {H : Hp} {ρ : List Addr} {h : List O} {n : Nat} {a : Addr} {kvs : List (W × W)} {q : Key} {y x : V} {wy wx : W} {Q : Hp → Prop} (hr : HR K G H ρ h) (ea : ρ[n]? = some a) (hd : dicAt h n = some kvs) (ry : VR K H ρ y wy) (rx : VR K H ρ x wx) (hq : wKey wy = some q)
    (hl : kvs.length < lim) (p : Post K G E URel (fun _ H' => Q H') H ρ (.ok () (h.set n (.dic (putW kvs wy wx))))) : ∃ H', DPut H a y x H' ∧ Q H' := by
  obtain ⟨ps, e, kr⟩ := hr.look ea (dicAt_some hd)
  have ey := vr_key hq ry
  have hlp : ps.length = kvs.length := KRs.length kr
  refine ⟨_, .inl ⟨ps, q, e, ey, by rw [hlp]; exact Nat.lt_of_lt_of_le hl (lim_size (Nat.le_refl lim)), rfl⟩, ?_⟩
  obtain ⟨r1, x1⟩ := hr.write (n := n) (a := a) (o := .dK (putK ps q x)) (u := .dic (putW kvs wy wx)) ea (dicAt_nk hd) rfl fun x2 => ⟨_, upd_same, put_kr (kr.mono x2) hq (by rw [← ey]; exact ry.mono x2) (rx.mono x2)⟩
  exact p ρ _ () x1 r1 trivial
theorem sets_dict (hu : X.A.units + 1 < cLine) : SetS G X oSetD := by
  obtain ⟨r, ho, s⟩ := sets_list (G := G) (X := X)
  refine ⟨_, L2.PSet.or ho (set_dict hu), fun E H ρ h o i v wo wi wv Q hr ro ri rv p => ?_⟩
  unfold oSetD at p
  split at p
  · rename_i n
    split at p
    · rename_i kvs hk
      obtain ⟨a, rfl, ea⟩ := ro.ref
      split at p
      · rename_i q hq
        split at p
        · rename_i hl
          obtain ⟨H', g, q2⟩ := put_post hr ea hk ri rv hq hl p
          exact .inr ⟨a, H', rfl, g, q2⟩
        · exact p.elim
      · exact p.elim
    · exact .inl (s E H ρ h o i v _ wi wv Q hr ro ri rv p)
  · exact .inl (s E H ρ h o i v _ wi wv Q hr ro ri rv p)
def oGetD (x y : W) (h : List O) : Out W := match x with
  | .ref n => match dicR h n with
    | some _ => oDget x y h
    | none => oGetL x y h
  | _ => oGetL x y h
theorem gets_dict (hu : X.A.units + 1 < cLine) : GetS G X oGetD := by
  obtain ⟨r, ho, s⟩ := gets_list (G := G) (X := X)
  refine ⟨_, L2.PGet.or ho (get_dict hu), fun E H ρ h x y wx wy Q hr rx ry p => ?_⟩
  unfold oGetD at p
  split at p
  · split at p
    · exact .inr (dget_serves E H ρ h x y _ wy Q hr rx ry p)
    · exact .inl (s E H ρ h x y _ wy Q hr rx ry p)
  · exact .inl (s E H ρ h x y _ wy Q hr rx ry p)
end
end Den
set_option maxRecDepth 100000
/-! A dict that is walked: locked as long. -/
namespace Den
open PySem L2 PyProof.Rows
section
variable {K : PySem.W.Frag} {H H' : Hp} {ρ ρ' : List Addr}
mutual
theorem VR.via (t : ∀ a vs, SqT K H a vs → SqT K H' a vs) (l : ∀ a vs, ((Rd H a (.lst vs) ∧ a ∉ ρ) ∨ ∀ H' : Hp, SqL K H' a vs) → (Rd H' a (.lst vs) ∧ a ∉ ρ) ∨ ∀ H' : Hp, SqL K H' a vs) : ∀ {v : V} {w : W}, VR K H ρ v w → VR K H' ρ v w
  | v, .non, h => h
  | v, .bl _, h => h
  | v, .int _, h => h
  | v, .str _, h => h
  | v, .tup xs, h => by
    unfold VR at h ⊢
    obtain ⟨a, vs, e, q, r⟩ := h
    exact ⟨a, vs, e, t _ _ q, VRs.via t l r⟩
  | v, .rol xs, h => by
    unfold VR at h ⊢
    obtain ⟨a, vs, e, q, r⟩ := h
    exact ⟨a, vs, e, l _ _ q, VRs.via t l r⟩
  | v, .ref n, h => by
    unfold VR at h ⊢
    exact h
theorem VRs.via (t : ∀ a vs, SqT K H a vs → SqT K H' a vs) (l : ∀ a vs, ((Rd H a (.lst vs) ∧ a ∉ ρ) ∨ ∀ H' : Hp, SqL K H' a vs) → (Rd H' a (.lst vs) ∧ a ∉ ρ) ∨ ∀ H' : Hp, SqL K H' a vs) : ∀ {vs : List V} {ws : List W}, VRs K H ρ vs ws → VRs K H' ρ vs ws
  | vs, [], h => h
  | vs, w :: ws, h => by
    unfold VRs at h ⊢
    obtain ⟨v, r, e, q, z⟩ := h
    exact ⟨v, r, e, VR.via t l q, VRs.via t l z⟩
end
theorem KRs.via (f : ∀ v w, VR K H ρ v w → VR K H' ρ v w) : ∀ {ps : List (Key × V)} {ws : List (W × W)}, KRs K H ρ ps ws → KRs K H' ρ ps ws
  | vs, [], h => h
  | vs, (k, w) :: ws, h => by
    unfold KRs at h ⊢
    obtain ⟨q, v, r, e, a, b, c⟩ := h
    exact ⟨q, v, r, e, f _ _ a, f _ _ b, KRs.via f c⟩
theorem FRs.via (f : ∀ v w, VR K H ρ v w → VR K H' ρ v w) : ∀ {ps : List (Str × V)} {ws : List (Str × W)}, FRs K H ρ ps ws → FRs K H' ρ ps ws
  | vs, [], h => h
  | vs, (k, w) :: ws, h => by
    unfold FRs at h ⊢
    obtain ⟨v, r, e, b, c⟩ := h
    exact ⟨v, r, e, f _ _ b, FRs.via f c⟩
end
section
variable {G : Gx} {X : Cx} {K : PySem.W.Frag} {H H' : Hp} {ρ ρ' : List Addr} {h h' : List O} {n : Nat} {a : Addr} {kvs : List (W × W)} {ps : List (Key × V)} {od : Obj}
theorem HR.lock (hr : HR K G H ρ h) (ea : ρ[n]? = some a) (hk : dicAt h n = some kvs) (e : H a = some (.dK ps)) (kr : KRs K H ρ ps kvs) : HR K G (upd H a (.frz od (.dK ps))) ρ (h.set n (.dik kvs)) ∧ Ext H ρ (upd H a (.frz od (.dK ps))) ρ :=
  hr.write (o := .frz od (.dK ps)) (u := .dik kvs) ea (dicAt_nk hk) rfl fun x => ⟨od, ps, upd_same, kr.mono x⟩
def dikAt (h : List O) (n : Nat) : Option (List (W × W)) := match h[n]? with
  | some (.dik xs) => some xs
  | _ => none
theorem dikAt_some (e : dikAt h n = some kvs) : h[n]? = some (.dik kvs) := by
  unfold dikAt at e
  split at e
  · rename_i ys hy
    cases e
    exact hy
  · cases e
/-- the dict is free again -/
theorem HR.unlock (hr0 : HR K G H ρ h) (e0 : H a = some (.dK ps)) (ea : ρ[n]? = some a) (x : Ext (upd H a (.frz od (.dK ps))) ρ H' ρ') (hr : HR K G H' ρ' h') {kvs' : List (W × W)} (hk : dikAt h' n = some kvs') :
    H' a = some (.frz od (.dK ps)) ∧ HR K G (upd H' a (.dK ps)) ρ' (h'.set n (.dic kvs')) ∧ Ext H ρ (upd H' a (.dK ps)) ρ' ∧ ∀ v w, VR K H' ρ' v w → VR K (upd H' a (.dK ps)) ρ' v w := by
  have ha : a ∈ ρ := List.mem_of_getElem? ea
  have ea' : ρ'[n]? = some a := pre_get x.pre ea
  have ha' : a ∈ ρ' := List.mem_of_getElem? ea'
  have hl : H' a = some (.frz od (.dK ps)) := x.lk _ _ _ upd_same
  obtain ⟨od2, ps2, e2, kr⟩ := hr.look ea' (dikAt_some hk)
  rw [hl] at e2
  cases e2
  have ne : ∀ {a' : Addr} o, H' a' = some o → isM o = false → upd H' a (.dK ps) a' = some o := fun {a'} o e m => by
    have : a' ≠ a := fun z => by subst z; rw [hl] at e; cases e; cases m
    rw [upd_ne this]; exact e
  have nn : ∀ {a' : Addr}, a' ∉ ρ' → a' ≠ a := fun {a'} z e => z (by rw [e]; exact ha')
  have vr : ∀ (v : V) (w : W), VR K H' ρ' v w → VR K (upd H' a (.dK ps)) ρ' v w := fun v w r => VR.via (fun a' vs q => by
    rcases q with (q | ⟨o, q⟩) | q
    · exact .inl (.inl (ne _ q rfl))
    · exact .inl (.inr ⟨o, ne _ q rfl⟩)
    · exact .inr q) (fun a' vs q => by
    rcases q with ⟨q | ⟨o, q⟩, z⟩ | q
    · exact .inl ⟨.inl (by rw [upd_ne (nn z)]; exact q), z⟩
    · exact .inl ⟨.inr ⟨o, by rw [upd_ne (nn z)]; exact q⟩, z⟩
    · exact .inr q) r
  refine ⟨hl, ⟨by rw [List.length_set]; exact hr.len, hr.nd, fun m b u f1 f2 => ?_, tabs_upd hr.tb (.inr ⟨_, hl, rfl⟩)⟩, ⟨fun b o e t nb => ?_, x.pre, fun b hb nb => ?_, hr0.mu, fun b o u e => ?_⟩, vr⟩
  · by_cases hmn : n = m
    · subst hmn
      rw [ea'] at f1
      cases f1
      have hn : n < h'.length := by rw [← hr.len]; exact (List.getElem?_eq_some_iff.mp ea').1
      rw [List.getElem?_set_self hn] at f2
      cases f2
      exact ⟨ps, upd_same, kr.via vr⟩
    · rw [List.getElem?_set_ne hmn] at f2
      have nb : b ≠ a := fun z => by
        rw [z] at f1
        obtain ⟨h1, q1⟩ := List.getElem?_eq_some_iff.mp ea'
        obtain ⟨h2, q2⟩ := List.getElem?_eq_some_iff.mp f1
        exact hmn ((List.getElem_inj hr.nd).mp (q1.trans q2.symm))
      have q := hr.ob m b u f1 f2
      cases u with
      | lst xs => obtain ⟨vs, e, r⟩ := q; exact ⟨vs, by rw [upd_ne nb]; exact e, VRs.via (fun a' vs q => by
          rcases q with (q | ⟨o, q⟩) | q
          · exact .inl (.inl (ne _ q rfl))
          · exact .inl (.inr ⟨o, ne _ q rfl⟩)
          · exact .inr q) (fun a' vs q => by
          rcases q with ⟨q | ⟨o, q⟩, z⟩ | q
          · exact .inl ⟨.inl (by rw [upd_ne (nn z)]; exact q), z⟩
          · exact .inl ⟨.inr ⟨o, by rw [upd_ne (nn z)]; exact q⟩, z⟩
          · exact .inr q) r⟩
      | dic xs => obtain ⟨vs, e, r⟩ := q; exact ⟨vs, by rw [upd_ne nb]; exact e, r.via vr⟩
      | dik xs => obtain ⟨o, vs, e, r⟩ := q; exact ⟨o, vs, by rw [upd_ne nb]; exact e, r.via vr⟩
      | ins c fs => obtain ⟨C, dx, vs, c, e, r⟩ := q; exact ⟨C, dx, vs, c, by rw [upd_ne nb]; exact e, r.via vr⟩
  · have nba : b ≠ a := fun z => nb (z ▸ ha)
    rw [upd_ne nba]
    exact x.fr b o (by rw [upd_ne nba]; exact e) t nb
  · have nba : b ≠ a := fun z => nb (z ▸ ha)
    have := x.new b hb nb
    rw [upd_ne nba] at this
    exact this
  · have nba : b ≠ a := fun z => by subst z; rw [e0] at e; cases e
    rw [upd_ne nba]
    exact x.lk b o u (by rw [upd_ne nba]; exact e)
theorem sr_via {σ : L2.St} {e : Env} (f : ∀ v w, VR K H ρ v w → VR K H' ρ v w) (s : SR K H ρ σ e) : SR K H' ρ σ e := ⟨s.len, fun i w h => by
  obtain ⟨v, a, b⟩ := s.at_ i w h
  exact ⟨v, a, f _ _ b⟩⟩
/-- the dict that lk names is locked while m goes on -/
def mLock (lk : Env → List O → Option Nat) (m : M W) : M W := fun e h => match lk e h with
  | some n => match dicAt h n with
    | some kvs => match m e (h.set n (.dik kvs)) with
      | .ok w h' => match dikAt h' n with
        | some kvs' => .ok w (h'.set n (.dic kvs'))
        | none => .bad
      | .exc c p h' => .exc c p h'
      | .bad => .bad
    | none => .bad
  | none => .bad
/-- lk names an object of ours -/
def lkVar (i : Nat) : Env → List O → Option Nat := fun e _ => match e[i]? with
  | some (some (.ref n)) => some n
  | _ => none
def mLockS (lk : Env → List O → Option Nat) (m : Sm) : Sm := fun e h => match lk e h with
  | some n => match dicAt h n with
    | some kvs => match m e (h.set n (.dik kvs)) with
      | .nx e' h' => match dikAt h' n with
        | some kvs' => .nx e' (h'.set n (.dic kvs'))
        | none => .bad
      | .rt w h' => match dikAt h' n with
        | some kvs' => .rt w (h'.set n (.dic kvs'))
        | none => .bad
      | .bk e' h' => match dikAt h' n with
        | some kvs' => .bk e' (h'.set n (.dic kvs'))
        | none => .bad
      | .ct e' h' => match dikAt h' n with
        | some kvs' => .ct e' (h'.set n (.dic kvs'))
        | none => .bad
      | .exc c p e' h' => .exc c p e' h'
      | .bad => .bad
    | none => .bad
  | none => .bad
theorem lock_at (hr : HR K G H ρ h) (hn : n < h.length) : ∃ a, ρ[n]? = some a := by
  have : n < ρ.length := by rw [hr.len]; exact hn
  exact ⟨_, List.getElem?_eq_getElem this⟩
theorem dicAt_lt (e : dicAt h n = some kvs) : n < h.length := (List.getElem?_eq_some_iff.mp (dicAt_some e)).1
theorem se_lock {e : Expr} {m : M W} {lk : Env → List O → Option Nat} (he : SE G X e m) : SE G X e (mLock lk m) := fun Wx tk => (pe_lock (he Wx tk)).imp fun σ H Q p => by
  obtain ⟨ρ, e, h, hr, sr, p⟩ := p
  unfold mLock at p
  split at p
  · rename_i n hn
    split at p
    · rename_i kvs hk
      obtain ⟨a, ea⟩ := lock_at hr (dicAt_lt hk)
      obtain ⟨ps, eH, kr⟩ := hr.look ea (dicAt_some hk)
      refine ⟨a, _, eH, trivial, fun od => ?_⟩
      obtain ⟨r1, x1⟩ := hr.lock (od := od) ea hk eH kr
      refine ⟨ρ, e, _, r1, sr.mono x1, ?_⟩
      cases hm : m e (h.set n (.dik kvs)) with
      | bad => rw [hm] at p; exact p.elim
      | exc c q h' => rw [hm] at p; exact Post.ext x1 p
      | ok w h' =>
        rw [hm] at p
        dsimp only at p
        split at p
        · rename_i kvs' hk'
          intro ρ' H' v x r q
          obtain ⟨y1, y2, y3, y4⟩ := HR.unlock hr eH ea x r hk'
          exact ⟨y1, p ρ' _ v y3 y2 (y4 _ _ q)⟩
        · exact p.elim
    · exact p.elim
  · exact p.elim
theorem ss_lock {st : Stmt} {m : Sm} {lk : Env → List O → Option Nat} (he : SS G X st m) : SS G X st (mLockS lk m) := fun Wx tk => (ps_lock (he Wx tk)).imp fun D σ H p => by
  obtain ⟨ρ, e, h, hr, sr, p⟩ := p
  unfold mLockS at p
  split at p
  · rename_i n hn
    split at p
    · rename_i kvs hk
      obtain ⟨a, ea⟩ := lock_at hr (dicAt_lt hk)
      obtain ⟨ps, eH, kr⟩ := hr.look ea (dicAt_some hk)
      refine ⟨a, _, eH, trivial, fun od => ?_⟩
      obtain ⟨r1, x1⟩ := hr.lock (od := od) ea hk eH kr
      refine ⟨ρ, e, _, r1, sr.mono x1, ?_⟩
      cases hm : m e (h.set n (.dik kvs)) with
      | bad => rw [hm] at p; exact p.elim
      | exc c q e' h' => rw [hm] at p; exact PostS.ext x1 p
      | rt w h' =>
        rw [hm] at p
        dsimp only at p
        split at p
        · rename_i kvs' hk'
          intro ρ' H' v x r q
          obtain ⟨y1, y2, y3, y4⟩ := HR.unlock hr eH ea x r hk'
          exact ⟨y1, p ρ' _ v y3 y2 (y4 _ _ q)⟩
        · exact p.elim
      | nx e' h' =>
        rw [hm] at p
        dsimp only at p
        split at p
        · rename_i kvs' hk'
          intro ρ' H' v x r q
          obtain ⟨y1, y2, y3, y4⟩ := HR.unlock hr eH ea x r hk'
          exact ⟨y1, p ρ' _ v y3 y2 (sr_via y4 q)⟩
        · exact p.elim
      | bk e' h' =>
        rw [hm] at p
        dsimp only at p
        split at p
        · rename_i kvs' hk'
          intro ρ' H' v x r q
          obtain ⟨y1, y2, y3, y4⟩ := HR.unlock hr eH ea x r hk'
          exact ⟨y1, p ρ' _ v y3 y2 (sr_via y4 q)⟩
        · exact p.elim
      | ct e' h' =>
        rw [hm] at p
        dsimp only at p
        split at p
        · rename_i kvs' hk'
          intro ρ' H' v x r q
          obtain ⟨y1, y2, y3, y4⟩ := HR.unlock hr eH ea x r hk'
          exact ⟨y1, p ρ' _ v y3 y2 (sr_via y4 q)⟩
        · exact p.elim
    · exact p.elim
  · exact p.elim
/-! ### what a locked dict gives -/
def srcK (n : Nat) : Src := fun i h => (dikAt h n).map fun kvs => kvs[i]?.map Prod.fst
def srcD (n : Nat) : Src := fun i h => (dikAt h n).map fun kvs => kvs[i]?.map Prod.snd
def srcI (n : Nat) : Src := fun i h => (dikAt h n).map fun kvs => kvs[i]?.map fun p => .tup [p.1, p.2]
def mKeys (m : M W) : M Src := fun e h => (m e h).bnd fun w h => match w with
  | .ref n => match dikAt h n with
    | some _ => .ok (srcK n) h
    | none => .bad
  | _ => .bad
def mVals (m : M W) : M Src := fun e h => (m e h).bnd fun w h => match w with
  | .ref n => match dikAt h n with
    | some _ => .ok (srcD n) h
    | none => .bad
  | _ => .bad
def mItms (m : M W) : M Src := fun e h => (m e h).bnd fun w h => match w with
  | .ref n => match dikAt h n with
    | some _ => .ok (srcI n) h
    | none => .bad
  | _ => .bad
theorem KRs.get : ∀ {ps : List (Key × V)} {kvs : List (W × W)} {i : Nat} {k w : W}, KRs K H ρ ps kvs → kvs[i]? = some (k, w) → ∃ q v, ps[i]? = some (q, v) ∧ VR K H ρ (kV q) k ∧ VR K H ρ v w
  | ps, [], i, k, w, _, e => by simp at e
  | ps, (k', w') :: kvs, 0, k, w, h, e => by
    unfold KRs at h
    obtain ⟨q, v, r, rfl, a, b, _⟩ := h
    simp at e
    obtain ⟨rfl, rfl⟩ := e
    exact ⟨q, v, rfl, a, b⟩
  | ps, (k', w') :: kvs, i + 1, k, w, h, e => by
    unfold KRs at h
    obtain ⟨q, v, r, rfl, _, _, c⟩ := h
    obtain ⟨q', v', x, y, z⟩ := KRs.get (i := i) c (by simpa using e)
    exact ⟨q', v', by simpa using x, y, z⟩
theorem dik_at (x : Ext H ρ H' ρ') (r : HR K G H' ρ' h') (ea : ρ[n]? = some a) (hl : H a = some (.frz od (.dK ps))) (hk : dikAt h' n = some kvs) : H' a = some (.frz od (.dK ps)) ∧ KRs K H' ρ' ps kvs := by
  have e := x.lk _ _ _ hl
  obtain ⟨o2, p2, e2, kr⟩ := r.look (pre_get x.pre ea) (dikAt_some hk)
  rw [e] at e2
  cases e2
  exact ⟨e, kr⟩
theorem jrel_keys (ea : ρ[n]? = some a) (hl : H a = some (.frz od (.dK ps))) : JRel K G H ρ (Itk a od ps) (srcK n) := fun i H' ρ' h' x r => by
  refine ⟨fun e => ?_, fun w e => ?_⟩
  · unfold srcK at e
    cases hk : dikAt h' n with
    | none => rw [hk] at e; cases e
    | some kvs =>
      rw [hk] at e
      obtain ⟨y, kr⟩ := dik_at x r ea hl hk
      refine ⟨y, ?_⟩
      rw [KRs.length kr]
      have e2 := Option.some.inj e
      dsimp only at e2
      cases hx : kvs[i]? with
      | none => exact List.getElem?_eq_none_iff.mp hx
      | some p => rw [hx] at e2; cases e2
  · unfold srcK at e
    cases hk : dikAt h' n with
    | none => rw [hk] at e; cases e
    | some kvs =>
      rw [hk] at e
      obtain ⟨y, kr⟩ := dik_at x r ea hl hk
      have e2 := Option.some.inj e
      dsimp only at e2
      cases hx : kvs[i]? with
      | none => rw [hx] at e2; cases e2
      | some p =>
        rw [hx] at e2
        obtain ⟨k, w'⟩ := p
        cases e2
        obtain ⟨q, v, e3, y1, y2⟩ := kr.get hx
        refine ⟨⟨y, (List.getElem?_eq_some_iff.mp e3).1⟩, fun z H'' hz => ?_⟩
        obtain ⟨rfl, k', v', e4, rfl⟩ := hz
        rw [e3] at e4
        cases e4
        exact ⟨Ext.refl r, r, y1⟩
theorem jrel_vals (ea : ρ[n]? = some a) (hl : H a = some (.frz od (.dK ps))) : JRel K G H ρ (Itd a od ps) (srcD n) := fun i H' ρ' h' x r => by
  refine ⟨fun e => ?_, fun w e => ?_⟩
  · unfold srcD at e
    cases hk : dikAt h' n with
    | none => rw [hk] at e; cases e
    | some kvs =>
      rw [hk] at e
      obtain ⟨y, kr⟩ := dik_at x r ea hl hk
      refine ⟨y, ?_⟩
      rw [KRs.length kr]
      have e2 := Option.some.inj e
      dsimp only at e2
      cases hx : kvs[i]? with
      | none => exact List.getElem?_eq_none_iff.mp hx
      | some p => rw [hx] at e2; cases e2
  · unfold srcD at e
    cases hk : dikAt h' n with
    | none => rw [hk] at e; cases e
    | some kvs =>
      rw [hk] at e
      obtain ⟨y, kr⟩ := dik_at x r ea hl hk
      have e2 := Option.some.inj e
      dsimp only at e2
      cases hx : kvs[i]? with
      | none => rw [hx] at e2; cases e2
      | some p =>
        rw [hx] at e2
        obtain ⟨k, w'⟩ := p
        cases e2
        obtain ⟨q, v, e3, y1, y2⟩ := kr.get hx
        refine ⟨⟨y, (List.getElem?_eq_some_iff.mp e3).1⟩, fun z H'' hz => ?_⟩
        obtain ⟨rfl, k', e4⟩ := hz
        rw [e3] at e4
        cases e4
        exact ⟨Ext.refl r, r, y2⟩
theorem jrel_itms (ea : ρ[n]? = some a) (hl : H a = some (.frz od (.dK ps))) : JRel K G H ρ (Iti a od ps) (srcI n) := fun i H' ρ' h' x r => by
  refine ⟨fun e => ?_, fun w e => ?_⟩
  · unfold srcI at e
    cases hk : dikAt h' n with
    | none => rw [hk] at e; cases e
    | some kvs =>
      rw [hk] at e
      obtain ⟨y, kr⟩ := dik_at x r ea hl hk
      refine ⟨y, ?_⟩
      rw [KRs.length kr]
      have e2 := Option.some.inj e
      dsimp only at e2
      cases hx : kvs[i]? with
      | none => exact List.getElem?_eq_none_iff.mp hx
      | some p => rw [hx] at e2; cases e2
  · unfold srcI at e
    cases hk : dikAt h' n with
    | none => rw [hk] at e; cases e
    | some kvs =>
      rw [hk] at e
      obtain ⟨y, kr⟩ := dik_at x r ea hl hk
      have e2 := Option.some.inj e
      dsimp only at e2
      cases hx : kvs[i]? with
      | none => rw [hx] at e2; cases e2
      | some p =>
        rw [hx] at e2
        obtain ⟨k, w'⟩ := p
        cases e2
        obtain ⟨q, v, e3, y1, y2⟩ := kr.get hx
        refine ⟨⟨y, (List.getElem?_eq_some_iff.mp e3).1⟩, fun z H'' hz => ?_⟩
        obtain ⟨T, k', v', e4, rfl, hT, rfl⟩ := hz
        rw [e3] at e4
        cases e4
        obtain ⟨r2, x2⟩ := r.other (o := .tup [kV q, v]) hT
        refine ⟨x2, r2, ?_⟩
        unfold VR
        exact ⟨T, _, rfl, .inl (.inl upd_same), .cons (y1.mono x2) (.one (y2.mono x2))⟩
theorem keys_post {Wx : WX} {σ : L2.St} {m : M W} {src : Nat → Src} {J : Addr → Obj → List (Key × V) → It} {R : It → Hp → Prop} (jr : ∀ {H : Hp} {ρ : List Addr} {n : Nat} {a : Addr} {od : Obj} {ps : List (Key × V)}, ρ[n]? = some a → H a = some (.frz od (.dK ps)) → JRel K G H ρ (J a od ps) (src n))
    (p : rd K G Wx (JRel K G) (fun e h => (m e h).bnd fun w h => match w with
  | .ref n => match dikAt h n with
    | some _ => .ok (src n) h
    | none => .bad
  | _ => .bad) σ H R) : rd K G Wx (VRel K) m σ H fun x H1 => ∃ d o kvs, x = .ref d ∧ H1 d = some (.frz o (.dK kvs)) ∧ R (J d o kvs) H1 :=
  rd.bnd (Rel := VRel K) p fun H0 ρ0 e sr v H1 ρ1 h1 w x r q p1 => by
    split at p1
    · rename_i n
      split at p1
      · rename_i kvs hk
        have q : VR K H1 ρ1 v (.ref n) := q
        obtain ⟨a, rfl, ea⟩ := q.ref
        obtain ⟨od, ps, e, _⟩ := r.look ea (dikAt_some hk)
        exact ⟨a, od, ps, rfl, e, p1 ρ1 H1 _ (Ext.refl r) r (jr ea e)⟩
      · exact p1.elim
    · exact p1.elim
theorem si_keys {tg e : Expr} {m : M W} (he : SE G X e m) : SI G X tg e (mKeys m) := fun Wx tk => (pi_keys (he Wx tk)).imp fun σ H R p => (by
  obtain ⟨ρ, ev, h, hr, sr, q⟩ := keys_post (src := srcK) (J := Itk) jrel_keys p
  exact ⟨ρ, ev, h, hr, sr, q.imp fun v H' z => by
    obtain ⟨d, o, kvs, e, f, g⟩ := z
    exact ⟨d, o, e, .inl ⟨kvs, f, g⟩⟩⟩)
theorem si_vals {tg e : Expr} {m : M W} {apos cpos : Pos} (he : SE G X e m) (hbase : attributeBase e "values" X.env (eval e X.env) = eval e X.env := by rfl) (hline : (apos.endLine == cpos.line) = true := by rfl) : SI G X tg (.Call (.Attribute e "values" apos) [] [] cpos) (mVals m) := fun Wx tk =>
  (pi_values (he Wx tk) (hbase := hbase) (hline := hline)).imp fun σ H R p => keys_post (src := srcD) (J := Itd) jrel_vals p
theorem si_keysM {tg e : Expr} {m : M W} {apos cpos : Pos} (he : SE G X e m) (hbase : attributeBase e "keys" X.env (eval e X.env) = eval e X.env := by rfl) (hline : (apos.endLine == cpos.line) = true := by rfl) : SI G X tg (.Call (.Attribute e "keys" apos) [] [] cpos) (mKeys m) := fun Wx tk =>
  (pi_keysM (he Wx tk) (hbase := hbase) (hline := hline)).imp fun σ H R p => keys_post (src := srcK) (J := Itk) jrel_keys p
theorem si_itms {elts : List Expr} {kk : Nat} {tpos : Pos} {e : Expr} {m : M W} {apos cpos : Pos} (he : SE G X e m) (hbase : attributeBase e "items" X.env (eval e X.env) = eval e X.env := by rfl) (hline : (apos.endLine == cpos.line) = true := by rfl) : SI G X (.Tuple elts kk tpos) (.Call (.Attribute e "items" apos) [] [] cpos) (mItms m) := fun Wx tk =>
  (pi_items (he Wx tk) (hbase := hbase) (hline := hline)).imp fun σ H R p => keys_post (src := srcI) (J := Iti) jrel_itms p
end
end Den
set_option maxRecDepth 100000
/-! isinstance of what our values are; is None; what a dict's methods give. -/
namespace Den
open PySem L2 PyProof.Rows
section
variable {G : Gx} {X : Cx} {e a b : Expr} {m ma mb : M W} {pos p p2 : Pos}
theorem tyx {K : PySem.W.Frag} {H : Hp} {ρ : List Addr} {h : List O} {v : V} {w : W} {T : String} {b : Bool} (hr : HR K G H ρ h) (r : VR K H ρ v w) (ne : tyNm w h ≠ "?") (e : kitB (tyNm w h) T = some b) : ∃ t, TyX K H v t ∧ PySem.W.kitOne K t (.type T) = some b := by
  cases w with
  | non => rw [r.non]; exact ⟨_, .base .non, e⟩
  | bl y => rw [r.bl]; exact ⟨_, .base (.bl y), e⟩
  | int y => rw [r.int]; exact ⟨_, .base (.int y), e⟩
  | str y => rw [r.str]; exact ⟨_, .base (.str _), e⟩
  | tup xs =>
    unfold VR at r
    obtain ⟨a, vs, rfl, q, _⟩ := r
    rcases q with (q | ⟨o, q⟩) | ⟨o, its, n, q1, q2, _⟩
    · exact ⟨_, .base (.tup q), e⟩
    · exact ⟨_, .fTuple q, e⟩
    · exact ⟨_, .kTuple q1 q2, e⟩
  | rol xs =>
    obtain ⟨a, vs, rfl, q, z⟩ := sqL_ok (xs := xs) hr r rfl
    rcases q with (q | ⟨o, q⟩) | ⟨o, its, n, q1, q2, _⟩
    · exact ⟨_, .base (.lst q), e⟩
    · exact ⟨_, .base (.frz q), e⟩
    · exact ⟨_, .kList q1 q2, e⟩
  | ref n =>
    obtain ⟨a, rfl, ea⟩ := r.ref
    unfold tyNm at e ne
    dsimp only at e ne
    split at e
    · rename_i xs hx
      obtain ⟨vs, q, z⟩ := hr.look ea hx
      exact ⟨_, .base (.lst q), e⟩
    · rename_i xs hx
      obtain ⟨vs, q, z⟩ := hr.look ea hx
      exact ⟨_, .base (.dK q), e⟩
    · rename_i x1 x2
      cases hx : h[n]? with
      | none => rw [hx] at ne; exact absurd rfl ne
      | some o =>
        rw [hx] at ne
        cases o with
        | lst xs => exact absurd hx (x1 xs)
        | dic xs => exact absurd hx (x2 xs)
        | dik xs => exact absurd rfl ne
        | ins c fs => exact absurd rfl ne
/-- isinstance -/
def mIsiV (T : String) (m : M W) : M W := fun e h => (m e h).bnd fun x h => if tyNm x h = "?" then .bad else match kitB (tyNm x h) T with
  | some b => .ok (.bl b) h
  | none => .bad
theorem se_isi {T : Str} {Tn : String} (ha : SE G X a ma) (hg : Gl X "isinstance") (hm0 : X.mg "isinstance" = none) (hgT : Gl X T) (hmT : X.mg T = none) (hbT : bootBuiltins T = some (.type Tn) := by decide +kernel) (hnT : T ≠ "__name__" := by decide) (hdT : (T == ("__debug__" : Str)) = false := by decide)
    (hv : bootBuiltins "isinstance" = some (.builtin "isinstance") := by decide +kernel)
    (he : starEach [a, .Name T p2] X.env = (false, eval a X.env) :: starEach [.Name T p2] X.env := by rfl) (he2 : starEach [.Name T p2] X.env = (false, eval (.Name T p2) X.env) :: starEach [] X.env := by rfl) (hpl : (backTo pos (starEach [.Name T p2] X.env)).any (·.1) = false := by rfl) :
    SE G X (.Call (.Name "isinstance" p) [a, .Name T p2] [] pos) (mIsiV Tn ma) := fun Wx tk =>
  (pe_callB call_isi hg hm0 hv (pa_cons (ha Wx tk) (pa_cons (pe_bltn (v := .ty Tn) hgT hmT hbT rfl hnT hdT) pa_nil he2) he) (he := he) (hpl := hpl)).imp fun σ H Q p => rd.bnd (Rel := VRel X.K) p fun H0 ρ0 e sr x H1 ρ1 h1 wx x1 r1 vx p1 => by
    split at p1
    · exact p1.elim
    · rename_i hne
      split at p1
      · rename_i b hb
        obtain ⟨t, h1, h2⟩ := tyx r1 vx hne hb
        exact ⟨x, .ty Tn, t, _, b, rfl, .ty Tn, h1, h2, p1.here r1 vr_bl⟩
      · exact p1.elim
def isNonW : W → Bool
  | .non => true
  | _ => false
def oIsN (x y : W) (h : List O) : Out W := match y with
  | .non => .ok (.bl (isNonW x)) h
  | _ => .bad
def oNotN (x y : W) (h : List O) : Out W := match y with
  | .non => .ok (.bl (!isNonW x)) h
  | _ => .bad
theorem vr_non_iff {K : PySem.W.Frag} {H : Hp} {ρ : List Addr} {v : V} {w : W} (r : VR K H ρ v w) : decide (v = .non) = isNonW w := by
  cases w with
  | non => rw [r.non]; rfl
  | bl y => rw [r.bl]; rfl
  | int y => rw [r.int]; rfl
  | str y => rw [r.str]; rfl
  | tup xs => unfold VR at r; obtain ⟨a, vs, rfl, _⟩ := r; rfl
  | rol xs => unfold VR at r; obtain ⟨a, vs, rfl, _⟩ := r; rfl
  | ref n => obtain ⟨a, rfl, _⟩ := r.ref; rfl
theorem ops_isN : OpS G X (compareOp .Is) oIsN := ⟨_, op_isN, fun E H ρ h x y wx wy Q hr rx ry p => by
  unfold oIsN at p
  split at p
  · exact ⟨ry.non, by rw [vr_non_iff rx]; exact p.here hr vr_bl⟩
  · exact p.elim⟩
theorem ops_notN : OpS G X (compareOp .IsNot) oNotN := ⟨_, op_notN, fun E H ρ h x y wx wy Q hr rx ry p => by
  unfold oNotN at p
  split at p
  · exact ⟨ry.non, by rw [vr_non_iff rx]; exact p.here hr vr_bl⟩
  · exact p.elim⟩
/-! ### d.get(k, x), d.get(k) -/
def mDGet2 (md mk mx : M W) : M W := fun e h => (md e h).bnd fun d h => match d with
  | .ref n => match dicR h n with
    | some _ => (mk e h).bnd fun k h => (mx e h).bnd fun x h => match dicR h n with
      | some kvs => match wKey k with
        | some _ => .ok ((valW kvs k).getD x) h
        | none => .bad
      | none => .bad
    | none => .bad
  | _ => .bad
def mDGet1 (md mk : M W) : M W := fun e h => (md e h).bnd fun d h => match d with
  | .ref n => match dicR h n with
    | some _ => (mk e h).bnd fun k h => match dicR h n with
      | some kvs => match wKey k with
        | some _ => .ok ((valW kvs k).getD .non) h
        | none => .bad
      | none => .bad
    | none => .bad
  | _ => .bad
theorem isD_of {K : PySem.W.Frag} {H : Hp} {ρ : List Addr} {h : List O} {n : Nat} {a : Addr} {kvs : List (W × W)} (hr : HR K G H ρ h) (ea : ρ[n]? = some a) (e : dicR h n = some kvs) : IsD H a := by
  obtain ⟨ps, q, _⟩ := dicR_ok hr ea e
  exact .inl ⟨ps, q⟩
theorem se_dget2 {o k x : Expr} {md mk mx : M W} {apos cpos : Pos} (hu : X.A.units + 1 < cLine) (ho : SE G X o md) (hk : SE G X k mk) (hx : SE G X x mx) (m2 : M2 X o "get" apos k x cpos := by exact ⟨by rfl, by rfl, by rfl, by rfl⟩) : SE G X (.Call (.Attribute o "get" apos) [k, x] [] cpos) (mDGet2 md mk mx) := fun Wx tk =>
  (pe_dget2 hu (ho Wx tk) (hk Wx tk) (hx Wx tk) m2).imp fun σ H Q p => rd.bnd (Rel := VRel X.K) p fun H0 ρ0 e sr v H1 ρ1 h1 w x1 r1 vd p1 => by
    split at p1
    · rename_i n
      split at p1
      · rename_i kvs0 hk0
        have vd : VR X.K H1 ρ1 v (.ref n) := vd
        obtain ⟨a, rfl, ea⟩ := vd.ref
        refine ⟨a, rfl, isD_of r1 ea hk0, ρ1, e, h1, r1, sr.mono x1, (Post.bnd (Rel := VRel X.K) p1).imp fun y H2 q => ?_⟩
        obtain ⟨ρ2, h2, wk, x2, r2, vk, p2⟩ := q
        refine ⟨ρ2, e, h2, r2, (sr.mono x1).mono x2, (Post.bnd (Rel := VRel X.K) p2).imp fun z H3 q => ?_⟩
        obtain ⟨ρ3, h3, wx, x3, r3, vx, p3⟩ := q
        have ea3 : ρ3[n]? = some a := pre_get x3.pre (pre_get x2.pre ea)
        split at p3
        · rename_i kvs hk
          split at p3
          · rename_i q hq
            have vk3 := VR.mono x3 vk
            cases hv : valW kvs wk with
            | none =>
              rw [hv] at p3
              exact ⟨none, dget_none r3 ea3 hk vk3 hq hv, p3.here r3 vx⟩
            | some w' =>
              rw [hv] at p3
              obtain ⟨u, g, rv⟩ := dget_some r3 ea3 hk vk3 hq hv
              exact ⟨some u, g, p3.here r3 rv⟩
          · exact p3.elim
        · exact p3.elim
      · exact p1.elim
    · exact p1.elim
theorem se_dget1 {o k : Expr} {md mk : M W} {apos cpos : Pos} (hu : X.A.units + 1 < cLine) (ho : SE G X o md) (hk : SE G X k mk) (m1 : M1 X o "get" apos k cpos := by exact ⟨by rfl, by rfl, by rfl, by rfl⟩) : SE G X (.Call (.Attribute o "get" apos) [k] [] cpos) (mDGet1 md mk) := fun Wx tk =>
  (pe_dget1 hu (ho Wx tk) (hk Wx tk) m1).imp fun σ H Q p => rd.bnd (Rel := VRel X.K) p fun H0 ρ0 e sr v H1 ρ1 h1 w x1 r1 vd p1 => by
    split at p1
    · rename_i n
      split at p1
      · rename_i kvs0 hk0
        have vd : VR X.K H1 ρ1 v (.ref n) := vd
        obtain ⟨a, rfl, ea⟩ := vd.ref
        refine ⟨a, rfl, isD_of r1 ea hk0, ρ1, e, h1, r1, sr.mono x1, (Post.bnd (Rel := VRel X.K) p1).imp fun y H2 q => ?_⟩
        obtain ⟨ρ2, h2, wk, x2, r2, vk, p2⟩ := q
        have ea3 : ρ2[n]? = some a := pre_get x2.pre ea
        split at p2
        · rename_i kvs hk
          split at p2
          · rename_i q hq
            cases hv : valW kvs wk with
            | none =>
              rw [hv] at p2
              exact ⟨none, dget_none r2 ea3 hk vk hq hv, p2.here r2 vr_non⟩
            | some w' =>
              rw [hv] at p2
              obtain ⟨u, g, rv⟩ := dget_some r2 ea3 hk vk hq hv
              exact ⟨some u, g, p2.here r2 rv⟩
          · exact p2.elim
        · exact p2.elim
      · exact p1.elim
    · exact p1.elim
/-- what the plain reading never meets: anything is read by it -/
def mBad {α : Type} : M α := fun _ _ => .bad
def mBadS : Sm := fun _ _ => .bad
theorem se_bad {e : Expr} : SE G X e mBad := fun Wx tk => ⟨fun pins s σ H Q I h => by
  obtain ⟨ρ, e, h, hr, sr, p⟩ := h
  exact (show False from p).elim⟩
theorem ss_bad {s : Stmt} : SS G X s mBadS := fun Wx tk => ⟨fun pins s σ H Q I h => by
  obtain ⟨ρ, e, h, hr, sr, p⟩ := h
  exact (show False from p).elim⟩
end
theorem kit_tt : kitB "tuple" "tuple" = some true := by decide +kernel
theorem kit_nt : kitB "NoneType" "tuple" = some false := by decide +kernel
theorem kit_lt : kitB "list" "tuple" = some false := by decide +kernel
theorem kit_it : kitB "int" "tuple" = some false := by decide +kernel
theorem kit_st : kitB "str" "tuple" = some false := by decide +kernel
theorem kit_bt : kitB "bool" "tuple" = some false := by decide +kernel
theorem kit_ii : kitB "int" "int" = some true := by decide +kernel
theorem kit_bi : kitB "bool" "int" = some true := by decide +kernel
theorem kit_si : kitB "str" "int" = some false := by decide +kernel
theorem kit_ni : kitB "NoneType" "int" = some false := by decide +kernel
theorem kit_li : kitB "list" "int" = some false := by decide +kernel
theorem kit_ti : kitB "tuple" "int" = some false := by decide +kernel
theorem kit_ib : kitB "int" "bool" = some false := by decide +kernel
theorem kit_bb : kitB "bool" "bool" = some true := by decide +kernel
theorem kit_sb : kitB "str" "bool" = some false := by decide +kernel
theorem kit_ss : kitB "str" "str" = some true := by decide +kernel
theorem kit_is : kitB "int" "str" = some false := by decide +kernel
theorem kit_bs : kitB "bool" "str" = some false := by decide +kernel
theorem kit_ns : kitB "NoneType" "str" = some false := by decide +kernel
theorem kit_ls : kitB "list" "str" = some false := by decide +kernel
theorem kit_ts : kitB "tuple" "str" = some false := by decide +kernel
end Den
set_option maxRecDepth 100000
/-! list of a range; a def whose code object is known. -/
namespace Den
open PySem L2 PyProof.Rows
section
variable {G : Gx} {X : Cx} {e a b : Expr} {m ma mb : M W} {pos p p2 : Pos}
theorem units1 {A : Around} (h : A.units + 64 < cLine) : A.units + 1 < cLine := by omega
theorem rgV_vrs {K : PySem.W.Frag} {H : Hp} {ρ : List Addr} {lo hi : Int} : VRs K H ρ (rgV lo hi) (rgW lo hi) := by
  unfold rgV rgW
  exact rg_vrs _
def mListR1 (mb : M W) : M W := fun e h => (mb e h).bnd fun y h => match y with
  | .int j => if rgOkB 0 j = true then .ok (.ref h.length) (h ++ [.lst (rgW 0 j)]) else .bad
  | _ => .bad
def mListR2 (ma mb : M W) : M W := fun e h => (ma e h).bnd fun x h => (mb e h).bnd fun y h => match x, y with
  | .int i, .int j => if rgOkB i j = true then .ok (.ref h.length) (h ++ [.lst (rgW i j)]) else .bad
  | _, _ => .bad
theorem se_listR1 {p1 : Pos} {pi : Pos} (hc : X.calm = true) (hg : Gl X "list") (hm : X.mg "list" = none) (hgr : Gl X "range") (hmr : X.mg "range" = none) (hb : SE G X b mb)
    (nr : starEach [b] X.env = (false, eval b X.env) :: starEach [] X.env := by rfl)
    (na : starEach [.Call (.Name "range" p1) [b] [] pi] X.env = (false, eval (.Call (.Name "range" p1) [b] [] pi) X.env) :: starEach [] X.env := by rfl) :
    SE G X (.Call (.Name "list" p) [.Call (.Name "range" p1) [b] [] pi] [] pos) (mListR1 mb) := fun Wx tk =>
  (pe_listRg hc hg hm (prg_1 hgr hmr (hb Wx tk) nr) na).imp fun σ H Q p => rd.bnd (Rel := VRel X.K) p fun H0 ρ0 e sr y H2 ρ2 h2 wy x2 r2 vy p2 => by
      split at p2
      · rename_i j
        split at p2
        · rename_i ok
          have vy : VR X.K _ _ y (.int j) := vy
          obtain ⟨o1, o2, o3, o4, o5⟩ := rgOkB_ok ok
          exact ⟨j, vy.int, ⟨o1, o2, o3, o4, o5⟩, new_lst r2 rgV_vrs p2⟩
        · exact p2.elim
      · exact p2.elim
theorem se_listR2 {p1 : Pos} {pi : Pos} (hc : X.calm = true) (hg : Gl X "list") (hm : X.mg "list" = none) (hgr : Gl X "range") (hmr : X.mg "range" = none) (ha : SE G X a ma) (hb : SE G X b mb)
    (nr : starEach [a, b] X.env = (false, eval a X.env) :: starEach [b] X.env := by rfl) (nr2 : starEach [b] X.env = (false, eval b X.env) :: starEach [] X.env := by rfl) (hp : (backTo pi (starEach [b] X.env)).any (·.1) = false := by rfl)
    (na : starEach [.Call (.Name "range" p1) [a, b] [] pi] X.env = (false, eval (.Call (.Name "range" p1) [a, b] [] pi) X.env) :: starEach [] X.env := by rfl) :
    SE G X (.Call (.Name "list" p) [.Call (.Name "range" p1) [a, b] [] pi] [] pos) (mListR2 ma mb) := fun Wx tk =>
  (pe_listRg hc hg hm (prg_2 hgr hmr (ha Wx tk) (hb Wx tk) nr nr2 hp) na).imp fun σ H Q p => rd.bnd (Rel := VRel X.K) p fun H0 ρ0 e sr x H1 ρ1 h1 wx x1 r1 vx p1 => by
    refine ⟨ρ1, e, h1, r1, sr.mono x1, (Post.bnd (Rel := VRel X.K) p1).imp fun y H2 q => ?_⟩
    obtain ⟨ρ2, h2, wy, x2, r2, vy, p2⟩ := q
    split at p2
    · rename_i i j
      split at p2
      · rename_i ok
        have vx : VR X.K _ _ x (.int i) := vx
        have vy : VR X.K _ _ y (.int j) := vy
        obtain ⟨o1, o2, o3, o4, o5⟩ := rgOkB_ok ok
        exact ⟨i, j, vx.int, vy.int, ⟨o1, o2, o3, o4, o5⟩, new_lst r2 rgV_vrs p2⟩
      · exact p2.elim
    · exact p2.elim
end
/-- a def whose code object is known -/
theorem fn_denC {G : Gx} {P : Program} {w : World} {K : PySem.W.Frag} {mg : Str → Option Value} {base : Heap} {x : Str} {st : Stmt} {f c : Addr} {N ps : List Str} {k : Nat} {m : Sm} {oc : Value} {od an : Option Addr} {osl : Array (Option Value)} {kV doc pm ct : Value}
    (lk : K.lookup f = some ⟨oc, od, .func (PySem.W.fnOf x x (defArgs st) (defBody st) (defScope st) .none kV doc pm an (.ref c) ct), osl⟩) (hcd : PySem.W.codeIn K (.ref c) x = true) (kp : PySem.W.keepIn K (.ref f) = true) (S : FnScope N ps (defScope st)) (hm : mg x = some (.ref f))
    (hb : Binds K (PySem.W.fnOf x x (defArgs st) (defBody st) (defScope st) .none kV doc pm an (.ref c) ct) ps [])
    (body : ∀ (A : Around) (outer : List PySem.Env) (s : Shared) (H : Hp) (E : XK), Room k (A.deeper (envOfC x (defScope st) s.heap.objs.size f (.ref c))) → SSs G (cxOf (L2.CX P w) P w K mg base N x (defScope st) f (.ref c) A outer s H E) (defBody st) m) :
    FnD P w K mg base G (k + 1) x ps.length (mFun N.length m) := ⟨f, _, ps, law_den lk hcd S body, hm, kp, hb⟩
end Den
set_option maxRecDepth 100000
/-! Calculation rules of the later parts; rising rows. -/
namespace Den
open PySem L2
section
variable {h : List O} {e e0 : Env} {n : Nat}
theorem picks_congr {N : Nat} {c c' : Nat → Bool} {f f' : Nat → W} (hc : ∀ i, i < N → c i = c' i) (hf : ∀ i, i < N → f i = f' i) : picks N c f = picks N c' f' := by
  unfold picks
  have e1 : (List.range N).filter c = (List.range N).filter c' := List.filter_congr fun i hi => hc i (List.mem_range.1 hi)
  rw [e1]
  exact List.map_congr_left fun i hi => hf i (List.mem_range.1 (List.mem_filter.1 hi).1)
theorem picks_list {α : Type} [Inhabited α] (xs : List α) (c : α → Bool) (f : α → W) : picks xs.length (fun i => c (xs.getD i default)) (fun i => f (xs.getD i default)) = (xs.filter c).map f := by
  have key : ∀ k, k ≤ xs.length → picks k (fun i => c (xs.getD i default)) (fun i => f (xs.getD i default)) = ((xs.take k).filter c).map f := by
    intro k
    induction k with
    | zero => intro _; rfl
    | succ k ih =>
      intro hk
      have hx : xs.getD k default = xs[k] := by rw [List.getD_eq_getElem?_getD, List.getElem?_eq_getElem (by omega)]; rfl
      rw [picks_succ, ih (by omega), List.take_succ_eq_append_getElem (by omega), List.filter_append, List.map_append, hx]
      by_cases hc : c xs[k] = true
      · rw [if_pos hc]; simp [hc]
      · rw [if_neg hc]; simp [hc]
  have := key xs.length (Nat.le_refl _)
  rw [List.take_length] at this
  exact this
theorem getD_mem {α : Type} [Inhabited α] {xs : List α} {i : Nat} (hi : i < xs.length) : xs.getD i default ∈ xs := by
  rw [List.getD_eq_getElem?_getD, List.getElem?_eq_getElem hi]; exact List.getElem_mem hi
/-- a list made from what a row gives -/
theorem comp_row {α : Type} [Inhabited α] {Q : W → List O → Prop} {src : Src} {t : Tg} {cond : M Bool} {elt : M W} (xs : List α) (g : α → W) (e1 : α → Env) (hN : xs.length ≤ 1000000) (hn : xs.length < n) (c : α → Bool) (f : α → W)
    (hs : ∀ i, ∀ h', Gr h h' → src i h' = some ((xs.map g)[i]?)) (ht : ∀ x ∈ xs, t (g x) e0 = some (e1 x)) (hc : ∀ x ∈ xs, Pu h (cond (e1 x)) (c x)) (he : ∀ x ∈ xs, c x = true → Pu h (elt (e1 x)) (f x))
    (q : ∀ h', Gr (h ++ [.lst ((xs.filter c).map f)]) h' → Q (.ref h.length) h') : Ev (compGo src t cond elt h.length e0 n 0 (h ++ [.lst []])) Q := by
  refine comp_pure xs.length hN hn (fun i => c (xs.getD i default)) (fun i => f (xs.getD i default)) (fun i => g (xs.getD i default)) (fun i => e1 (xs.getD i default)) (fun i hi h' hg => ?_) (fun h' hg => ?_) (fun i hi => ht _ (getD_mem hi)) (fun i hi => hc _ (getD_mem hi)) (fun i hi hci => he _ (getD_mem hi) hci) (fun h' hg => q h' (by rw [picks_list] at hg; exact hg))
  · rw [hs i h' hg, List.getElem?_map, List.getElem?_eq_getElem hi, List.getD_eq_getElem?_getD, List.getElem?_eq_getElem hi]; rfl
  · rw [hs _ h' hg, List.getElem?_eq_none (by simp)]
theorem comp_tup {α : Type} [Inhabited α] {Q : W → List O → Prop} {v : Nat} {cond : M Bool} {elt : M W} (xs : List α) (g : α → W) (hN : xs.length ≤ 1000000) (hn : xs.length < n) (c : α → Bool) (f : α → W)
    (hc : ∀ x ∈ xs, Pu h (cond (e0.set v (some (g x)))) (c x)) (he : ∀ x ∈ xs, c x = true → Pu h (elt (e0.set v (some (g x)))) (f x))
    (q : ∀ h', Gr (h ++ [.lst ((xs.filter c).map f)]) h' → Q (.ref h.length) h') : Ev (compGo (srcL (xs.map g)) (tgN v) cond elt h.length e0 n 0 (h ++ [.lst []])) Q :=
  comp_row xs g (fun x => e0.set v (some (g x))) hN hn c f (fun i h' _ => rfl) (fun x hx => rfl) hc he q
theorem comp_ref {α : Type} [Inhabited α] {Q : W → List O → Prop} {v m : Nat} {cond : M Bool} {elt : M W} (xs : List α) (g : α → W) (hm : lstAt h m = some (xs.map g)) (hN : xs.length ≤ 1000000) (hn : xs.length < n) (c : α → Bool) (f : α → W)
    (hc : ∀ x ∈ xs, Pu h (cond (e0.set v (some (g x)))) (c x)) (he : ∀ x ∈ xs, c x = true → Pu h (elt (e0.set v (some (g x)))) (f x))
    (q : ∀ h', Gr (h ++ [.lst ((xs.filter c).map f)]) h' → Q (.ref h.length) h') : Ev (compGo (srcR m) (tgN v) cond elt h.length e0 n 0 (h ++ [.lst []])) Q :=
  comp_row xs g (fun x => e0.set v (some (g x))) hN hn c f (fun i h' hg => by unfold srcR; rw [hg.lst hm]; rfl) (fun x hx => rfl) hc he q
theorem comp_refT {α : Type} [Inhabited α] {Q : W → List O → Prop} {m : Nat} {is : List Nat} {cond : M Bool} {elt : M W} (xs : List α) (g : α → W) (e1 : α → Env) (hm : lstAt h m = some (xs.map g)) (hN : xs.length ≤ 1000000) (hn : xs.length < n) (c : α → Bool) (f : α → W) (ht : ∀ x ∈ xs, tgT is (g x) e0 = some (e1 x))
    (hc : ∀ x ∈ xs, Pu h (cond (e1 x)) (c x)) (he : ∀ x ∈ xs, c x = true → Pu h (elt (e1 x)) (f x))
    (q : ∀ h', Gr (h ++ [.lst ((xs.filter c).map f)]) h' → Q (.ref h.length) h') : Ev (compGo (srcR m) (tgT is) cond elt h.length e0 n 0 (h ++ [.lst []])) Q :=
  comp_row xs g e1 hN hn c f (fun i h' hg => by unfold srcR; rw [hg.lst hm]; rfl) ht hc he q
theorem in_it {z : Int} {l : List Int} : oIn (.int z) (.tup (l.map .int)) h = .ok (.bl (decide (z ∈ l))) h := by
  unfold oIn inW
  dsimp only
  rw [intsOf_map]
  rfl
theorem notin_it {z : Int} {l : List Int} : oNotIn (.int z) (.tup (l.map .int)) h = .ok (.bl (decide (z ∉ l))) h := by
  unfold oNotIn inW
  dsimp only
  rw [intsOf_map]
  simp
theorem ne_tt {l l' : List Int} : oNe (.tup (l.map .int)) (.tup (l'.map .int)) h = .ok (.bl (decide (l ≠ l'))) h := by
  unfold oNe
  rw [eqW_tt (dat_ints l) (dat_ints l'), eqvAll_ints]
  simp
theorem ap_IsN {x : W} : oIsN x .non h = .ok (.bl (isNonW x)) h := nrfl rfl
theorem isN_n : isNonW .non = true := nrfl rfl
theorem isN_i {i : Int} : isNonW (.int i) = false := nrfl rfl
theorem ap_ListR2 {ma mb : M W} : mListR2 ma mb e h = (ma e h).bnd fun x h => (mb e h).bnd fun y h => match x, y with
  | .int i, .int j => if rgOkB i j = true then .ok (.ref h.length) (h ++ [.lst (rgW i j)]) else .bad
  | _, _ => .bad := nrfl rfl
theorem list_t {xs : List W} : oList [.tup xs] h = .ok (.ref h.length) (h ++ [.lst xs]) := nrfl rfl
end
/-! ### rising rows -/
def Rsg (l : List Int) : Prop := l.Pairwise (· < ·)
abbrev T (l : List Int) : W := .tup (l.map .int)
theorem drop_get {l : List Int} {a : Nat} (h : a < l.length) : l.drop a = l.getD a 0 :: l.drop (a + 1) := by
  rw [List.drop_eq_getElem_cons h, List.getD_eq_getElem?_getD, List.getElem?_eq_getElem h]; rfl
theorem Rsg.drop {l : List Int} (r : Rsg l) (a : Nat) : Rsg (l.drop a) := List.Pairwise.sublist (List.drop_sublist a l) r
theorem Rsg.tail {x : Int} {l : List Int} (r : Rsg (x :: l)) : Rsg l := (List.pairwise_cons.1 r).2
theorem Rsg.head {x : Int} {l : List Int} (r : Rsg (x :: l)) : ∀ z ∈ l, x < z := (List.pairwise_cons.1 r).1
theorem Rsg.ext : ∀ {l l' : List Int}, Rsg l → Rsg l' → (∀ z, z ∈ l ↔ z ∈ l') → l = l'
  | [], [], _, _, _ => rfl
  | [], y :: l', _, _, h => absurd ((h y).2 List.mem_cons_self) (by simp)
  | x :: l, [], _, _, h => absurd ((h x).1 List.mem_cons_self) (by simp)
  | x :: l, y :: l', r, r', h => by
    have hx := (h x).1 List.mem_cons_self
    have hy := (h y).2 List.mem_cons_self
    have e : x = y := by
      rcases List.mem_cons.1 hx with e | e
      · exact e
      · rcases List.mem_cons.1 hy with e' | e'
        · exact e'.symm
        · have := r.head y e'
          have := r'.head x e
          omega
    subst e
    rw [Rsg.ext r.tail r'.tail fun z => ⟨fun hz => ?_, fun hz => ?_⟩]
    · have := r.head z hz
      rcases List.mem_cons.1 ((h z).1 (List.mem_cons_of_mem _ hz)) with e | e
      · omega
      · exact e
    · have := r'.head z hz
      rcases List.mem_cons.1 ((h z).2 (List.mem_cons_of_mem _ hz)) with e | e
      · omega
      · exact e
theorem Rsg.filter {l : List Int} (r : Rsg l) (c : Int → Bool) : Rsg (l.filter c) := List.Pairwise.sublist List.filter_sublist r
theorem Rsg.snoc {l : List Int} {x : Int} (r : Rsg l) (h : ∀ z ∈ l, z < x) : Rsg (l ++ [x]) := by
  unfold Rsg
  rw [List.pairwise_append]
  exact ⟨r, List.pairwise_singleton _ _, fun a ha b hb => by rw [List.mem_singleton.1 hb]; exact h a ha⟩
abbrev both2 (xs ys : List Int) : List Int := xs.filter fun z => decide (z ∈ ys)
theorem both_eq {x : Int} {xs ys : List Int} (r : Rsg (x :: xs)) (r' : Rsg (x :: ys)) : both2 (x :: xs) (x :: ys) = x :: both2 xs ys := by
  unfold both2
  rw [List.filter_cons_of_pos (by simp)]
  congr 1
  refine List.filter_congr fun z hz => ?_
  have := r.head z hz
  rw [decide_eq_decide, List.mem_cons]
  exact ⟨fun h => h.resolve_left (by omega), .inr⟩
theorem both_lt {x y : Int} {xs ys : List Int} (h : x < y) (r' : Rsg (y :: ys)) : both2 (x :: xs) (y :: ys) = both2 xs (y :: ys) := by
  unfold both2
  rw [List.filter_cons_of_neg]
  simp only [decide_eq_true_eq, List.mem_cons, not_or]
  exact ⟨by omega, fun hz => by have := r'.head x hz; omega⟩
theorem both_gt {x y : Int} {xs ys : List Int} (h : y < x) (r : Rsg (x :: xs)) : both2 (x :: xs) (y :: ys) = both2 (x :: xs) ys := by
  unfold both2
  refine List.filter_congr fun z hz => ?_
  have : x ≤ z := by
    rcases List.mem_cons.1 hz with e | e
    · omega
    · have := r.head z e; omega
  rw [decide_eq_decide, List.mem_cons]
  exact ⟨fun h => h.resolve_left (by omega), .inr⟩
theorem both_nil {xs : List Int} : both2 xs [] = [] := by simp [both2]
theorem lst1 {xs ys : List W} : lstAt [O.lst xs] 0 = some xs := nrfl rfl
/-! ### sorting, lists with a last one, pairs -/
theorem sort_ints (l : List Int) : sortBy (l.map W.int) (l.map PyData.int) = (l.mergeSort fun a b => decide (a ≤ b)).map W.int := by
  unfold sortBy
  have e : (l.map W.int).zip (l.map PyData.int) = l.map fun b => (W.int b, PyData.int b) := by
    induction l with
    | nil => rfl
    | cons x l ih => rw [List.map_cons, List.map_cons, List.zip_cons_cons, ih, List.map_cons]
  rw [e, sort_map2, List.map_map]
  have e2 := PySem.W.dataLe_int (fun b : Int => b)
  rw [e2]
  rfl
theorem sort_rsg {l : List Int} (h : l.Nodup) : Rsg (l.mergeSort fun a b => decide (a ≤ b)) := by
  have hs : (l.mergeSort fun a b => decide (a ≤ b)).Pairwise fun a b => decide (a ≤ b) = true := List.pairwise_mergeSort (fun a b c h1 h2 => by simp at *; omega) (fun a b => by simp; omega) l
  have hn : (l.mergeSort fun a b => decide (a ≤ b)).Nodup := (List.mergeSort_perm l _).nodup_iff.2 h
  have := hs.and hn
  exact this.imp fun {a b} ⟨h1, h2⟩ => by
    have h1 := of_decide_eq_true h1
    omega
theorem kind_ints (l : List Int) : kindOk (l.map PyData.int) = true := by
  unfold kindOk
  rw [List.all_eq_true]
  intro d hd
  obtain ⟨i, _, rfl⟩ := List.mem_map.1 hd
  simp only [Bool.and_eq_true, List.all_eq_true, decide_eq_true_eq]
  refine ⟨⟨fun e he => ?_, by unfold PyData.depth; omega⟩, trivial⟩
  obtain ⟨j, _, rfl⟩ := List.mem_map.1 he
  rfl
section
variable {h : List O} {e e0 : Env} {n : Nat}
theorem ixL_last {xs : List W} {w : W} : ixL (xs ++ [w]) (-1) h = .ok w h := by
  unfold ixL
  rw [atI_neg (by omega) (by simp; omega)]
  have e : ((-1 : Int) + ((xs ++ [w]).length : Nat)).toNat = xs.length := by simp; omega
  simp only [e]
  simp
theorem setL_last {xs : List W} {w w' : W} : setL n (xs ++ [w]) (-1) w' h = .ok () (h.set n (.lst (xs ++ [w']))) := by
  unfold setL L2.ixN
  rw [if_neg (by omega), if_pos (by simp; omega)]
  have e : ((-1 : Int) + ((xs ++ [w]).length : Nat)).toNat = xs.length := by simp; omega
  rw [e]
  dsimp only
  rw [List.set_append_right _ _ (Nat.le_refl _), Nat.sub_self]
  rfl
theorem add_rr {m : Nat} : oAdd (.ref n) (.ref m) h = withL (lstAt h n) fun a => withL (lstAt h m) fun b => if a.length + b.length ≤ 1000000 then .ok (.ref h.length) (h ++ [.lst (a ++ b)]) else .bad := by
  unfold oAdd withL
  dsimp only
  cases lstAt h n <;> cases lstAt h m <;> rfl
def pW (p : Int × Int) : W := .tup [.int p.1, .int p.2]
theorem dat_pairs {k : Nat} : ∀ l : List (Int × Int), mapO (dat h (k + 2)) (l.map pW) = some (l.map fun p => PyData.tuple [.int p.1, .int p.2])
  | [] => rfl
  | p :: l => by
    rw [List.map_cons]
    unfold mapO
    rw [dat_pairs l]
    rfl
theorem ne_pnil {m : Nat} {l : List (Int × Int)} (hn : lstAt h n = some (l.map pW)) (hm : lstAt h m = some []) : oNe (.ref n) (.ref m) h = .ok (.bl (decide (l ≠ []))) h := by
  unfold oNe
  rw [eqW_ll hn hm (dat_pairs l) (es := []) rfl]
  cases l <;> simp [PyData.eqvAll]
theorem ne_pnil' {xs : List W} {l : List (Int × Int)} (hx : xs = l.map pW) (hn : lstAt h n = some xs) : oNe (.ref n) (.ref h.length) (h ++ [.lst []]) = .ok (.bl (decide (l ≠ []))) (h ++ [.lst []]) := by
  subst hx
  exact ne_pnil (by rw [lst_old (lst_lt hn)]; exact hn) lst_last
theorem ixL_p {l : List (Int × Int)} {i : Int} (h0 : 0 ≤ i) (h1 : i < l.length) : ixL (l.map pW) i h = .ok (pW (l.getD i.toNat (0, 0))) h := by
  rw [ixL_ok h0 (by rw [List.length_map]; exact h1), List.getD_eq_getElem?_getD, List.getElem?_map, List.getElem?_eq_getElem (by omega), List.getD_eq_getElem?_getD, List.getElem?_eq_getElem (by omega)]
  rfl
theorem ix_p0 {p : Int × Int} : oIx (pW p) (.int 0) h = .ok (.int p.1) h := by unfold pW; rw [ix_tL, ixL_0]
theorem ix_p1 {p : Int × Int} : oIx (pW p) (.int 1) h = .ok (.int p.2) h := by unfold pW; rw [ix_tL, ixL_1]
theorem rgW_eq {i j : Int} : rgW i j = ((List.range (j - i).toNat).map fun k : Nat => i + (k : Int)).map W.int := by unfold rgW; rw [List.map_map]; rfl
theorem rgOkB_of {i j : Int} (h1 : -4611686018427387904 ≤ i ∧ i < 4611686018427387904) (h2 : -4611686018427387904 ≤ j ∧ j < 4611686018427387904) (h3 : (j - i).toNat ≤ 16777216) : rgOkB i j = true := by
  unfold rgOkB
  simp only [Bool.and_eq_true, decide_eq_true_eq]
  refine ⟨⟨⟨⟨?_, ?_⟩, ?_⟩, ?_⟩, h3⟩ <;> omega
theorem tgT_p {p : Int × Int} {i j : Nat} : tgT [i, j] (pW p) e = some ((e.set i (some (.int p.1))).set j (some (.int p.2))) := nrfl rfl
end
section
variable {h : List O} {e e0 : Env} {n : Nat} {body : Sm} {R : SOut → Prop} {m : M W}
theorem forGo_tupT (xs : List W) (is : List Nat) (I : Nat → Env → List O → Prop) (hn : xs.length < n) (h0 : I 0 e h) (step : ∀ i e h (hi : i < xs.length), I i e h → ∃ e1, tgT is xs[i] e = some e1 ∧ Sv (body e1 h) (rnd (I (i + 1)) R))
    (stop : ∀ e h, I xs.length e h → R (.nx e h)) : Sv (forGo (srcL xs) (tgT is) body n 0 e h) R :=
  forGo_sv xs.length I (fun i e h hi p => by
    obtain ⟨e1, h1, h2⟩ := step i e h hi p
    exact ⟨_, _, by unfold srcL; rw [List.getElem?_eq_getElem hi], h1, h2⟩) (fun e h p => ⟨by unfold srcL; rw [List.getElem?_eq_none (by omega)], stop e h p⟩) n 0 e h (by omega) (by omega) h0
theorem ne_picks0 {D N : Nat} {lo : Int} {c : Nat → Bool} (hn : lstAt h D = some (picks N c (fun i => .int (lo + i)))) (hc : ∀ i, i < N → c i = false) : oNe (.ref D) (.ref h.length) (h ++ [.lst []]) = .ok (.bl false) (h ++ [.lst []]) := by
  rw [picks_int] at hn
  rw [ne_ints (h := h ++ [O.lst []]) (n := D) (m := h.length) (l := picksI N lo c) (l' := []) (by rw [lst_old (lst_lt hn)]; exact hn) (by rw [lst_last]; rfl), picksI_nil.2 hc]
  rfl
/-! dicts -/
theorem ap_Dict0 : mDict0 e h = .ok (.ref h.length) (h ++ [.dic []]) := nrfl rfl
theorem dicR_last {kvs : List (W × W)} : dicR (h ++ [.dic kvs]) h.length = some kvs := by unfold dicR; rw [List.getElem?_append_right (Nat.le_refl _), Nat.sub_self]; rfl
theorem dicA_last {kvs : List (W × W)} : dicAt (h ++ [.dic kvs]) h.length = some kvs := by unfold dicAt; rw [List.getElem?_append_right (Nat.le_refl _), Nat.sub_self]; rfl
theorem dget2_eq {md mk mx : M W} {p : Nat} {kvs : List (W × W)} {z : Int} {x : W} (h1 : md e h = .ok (.ref p) h) (h2 : dicR h p = some kvs) (h3 : mk e h = .ok (.int z) h) (h4 : mx e h = .ok x h) : mDGet2 md mk mx e h = .ok ((valW kvs (.int z)).getD x) h := by
  unfold mDGet2
  rw [h1]
  dsimp only [Out.bnd]
  rw [h2]
  dsimp only
  rw [h3]
  dsimp only
  rw [h4]
  dsimp only
  rw [h2]
  rfl
theorem setD_eq {kvs : List (W × W)} {z : Int} {w : W} (hl : kvs.length < 1000000) : oSetD (.ref h.length) (.int z) w (h ++ [.dic kvs]) = .ok () (h ++ [.dic (putW kvs (.int z) w)]) := by
  unfold oSetD
  dsimp only
  rw [dicA_last]
  dsimp only [wKey]
  rw [if_pos hl, List.set_append_right _ _ (Nat.le_refl _), Nat.sub_self]
  rfl
theorem lock_ev {lk : Env → List O → Option Nat} {p : Nat} {kvs : List (W × W)} {Q : W → List O → Prop} (h1 : lk e h = some p) (h2 : dicAt h p = some kvs) (h3 : Ev (m e (h.set p (.dik kvs))) fun w h' => ∃ kvs', dikAt h' p = some kvs' ∧ Q w (h'.set p (.dic kvs'))) : Ev (mLock lk m e h) Q := by
  obtain ⟨w, h', e1, kvs', e2, q⟩ := ev_get h3
  unfold mLock
  rw [h1]
  dsimp only
  rw [h2]
  dsimp only
  rw [e1]
  dsimp only
  rw [e2]
  exact q
/-- a table of how often -/
def dk (L : List Int) (ks : List Int) : List (W × W) := ks.map fun z => (W.int z, W.int (L.count z : Nat))
theorem val_dk {L : List Int} {z : Int} : ∀ ks : List Int, valW (dk L ks) (.int z) = if z ∈ ks then some (.int (L.count z : Nat)) else none
  | [] => rfl
  | k :: ks => by
    unfold dk
    rw [List.map_cons]
    unfold valW keyB
    by_cases hk : k = z
    · subst hk; simp
    · rw [if_neg (by simpa using hk)]
      have := val_dk (L := L) (z := z) ks
      unfold dk at this
      rw [this]
      have hz : z ≠ k := fun e => hk e.symm
      simp [hz]
theorem putGo_dk {L : List Int} {z : Int} : ∀ ks : List Int, putGo (dk L ks) (.int z) (.int (L.count z + 1 : Nat)) = dk (L ++ [z]) ks
  | [] => rfl
  | k :: ks => by
    unfold dk
    rw [List.map_cons, List.map_cons]
    unfold putGo keyB
    have := putGo_dk (L := L) (z := z) ks
    unfold dk at this
    rw [this]
    by_cases hk : k = z
    · subst hk; simp
    · rw [if_neg (by simpa using hk)]
      have hz : z ≠ k := fun e => hk e.symm
      simp [List.count_append, hz]
theorem put_dk {L ks : List Int} {z : Int} (hm : ∀ z, z ∈ ks ↔ z ∈ L) : putW (dk L ks) (.int z) (.int (L.count z + 1 : Nat)) = dk (L ++ [z]) (if z ∈ ks then ks else ks ++ [z]) := by
  unfold putW
  rw [val_dk]
  by_cases hz : z ∈ ks
  · rw [if_pos hz, if_pos hz, if_pos (by rfl), putGo_dk]
  · rw [if_neg hz, if_neg hz, if_neg (by simp)]
    unfold dk
    rw [List.map_append]
    have hzL : z ∉ L := fun e => hz ((hm z).2 e)
    congr 1
    · refine List.map_congr_left fun k hk => ?_
      have : z ≠ k := fun e => hz (e ▸ hk)
      simp [List.count_append, this]
    · simp [List.count_append, List.count_eq_zero.2 hzL]
/-! sorted, keys -/
theorem sort_perm {xs : List W} {ds : List PyData} (hl : xs.length = ds.length) : (sortBy xs ds).Perm xs := by
  unfold sortBy
  refine ((List.mergeSort_perm _ _).map _).trans ?_
  rw [zip_fst hl]
theorem frz_ints {k : Nat} : ∀ l : List Int, mapO (frz h (k + 1)) (l.map W.int) = some (l.map W.int)
  | [] => rfl
  | i :: l => by rw [List.map_cons]; unfold mapO; rw [frz_ints l]; rfl
theorem frz_T {k : Nat} {l : List Int} : frz h (k + 2) (T l) = some (T l) := by
  unfold frz
  rw [frz_ints]
  rfl
theorem frz_Ts {k : Nat} : ∀ rs : List (List Int), mapO (frz h (k + 2)) (rs.map T) = some (rs.map T)
  | [] => rfl
  | r :: rs => by rw [List.map_cons]; unfold mapO; rw [frz_Ts rs, frz_T]
theorem ix_rol {xs : List W} {i : Int} : oIx (.rol xs) (.int i) h = ixL xs i h := nrfl rfl
theorem sorted_ev {Q : W → List O → Prop} {P : List Int → List O → Prop} (hm : Ev (m e h) fun w h' => ∃ q l, w = .ref q ∧ lstAt h' q = some (l.map W.int) ∧ l.length ≤ 1000000 ∧ P l h') (q : ∀ l h', P l h' → Q (.ref h'.length) (h' ++ [.lst ((l.mergeSort fun a b => decide (a ≤ b)).map .int)])) :
    Ev (mSorted (mItems m) e h) Q := by
  obtain ⟨w, h', e1, p, l, rfl, hl, hz, pp⟩ := ev_get hm
  unfold mSorted mItems
  rw [e1]
  dsimp only [Out.bnd, sqA]
  rw [hl]
  dsimp only
  rw [if_pos (by rw [List.length_map]; omega)]
  dsimp only
  rw [dat_ints]
  dsimp only
  rw [if_pos (kind_ints l), sort_ints]
  exact q l h' pp
theorem dikA_last {kvs : List (W × W)} : dikAt (h ++ [.dik kvs]) h.length = some kvs := by unfold dikAt; rw [List.getElem?_append_right (Nat.le_refl _), Nat.sub_self]; rfl
theorem dikA_gr {h' : List O} {kvs : List (W × W)} {p : Nat} (g : Gr h h') (e : dikAt h p = some kvs) : dikAt h' p = some kvs := by
  unfold dikAt
  rw [g.get (dikAt_some e)]
theorem keys_eq {m : M W} {p : Nat} {kvs : List (W × W)} (h1 : m e h = .ok (.ref p) h) (h2 : dikAt h p = some kvs) : mKeys m e h = .ok (srcK p) h := by
  unfold mKeys
  rw [h1]
  dsimp only [Out.bnd]
  rw [h2]
theorem set_lastO {o o' : O} : (h ++ [o]).set h.length o' = h ++ [o'] := by rw [List.set_append_right _ _ (Nat.le_refl _), Nat.sub_self]; rfl
theorem oixD_eq {kvs : List (W × W)} {p : Nat} {z : Int} {w : W} (h1 : dicR h p = some kvs) (h2 : valW kvs (.int z) = some w) : oIxD (.ref p) (.int z) h = .ok w h := by
  unfold oIxD
  dsimp only
  rw [h1]
  dsimp only [oDget, wKey]
  rw [h1]
  dsimp only
  rw [h2]
theorem dikR {kvs : List (W × W)} {p : Nat} (e : dikAt h p = some kvs) : dicR h p = some kvs := by
  unfold dicR
  rw [dikAt_some e]
theorem mapO_map {α β γ : Type} {f : β → Option γ} {g : α → β} {k : α → γ} : ∀ {l : List α}, (∀ x ∈ l, f (g x) = some (k x)) → mapO f (l.map g) = some (l.map k)
  | [], _ => rfl
  | x :: l, H => by
    rw [List.map_cons]
    unfold mapO
    rw [H x List.mem_cons_self, mapO_map fun y hy => H y (List.mem_cons_of_mem _ hy)]
    rfl
theorem kind_ii {α : Type} (l : List α) (x y : α → Int) : kindOk (l.map fun b => PyData.tuple [.int (x b), .int (y b)]) = true := by
  unfold kindOk
  rw [List.all_eq_true]
  intro d hd
  obtain ⟨i, _, rfl⟩ := List.mem_map.1 hd
  simp only [Bool.and_eq_true, List.all_eq_true, decide_eq_true_eq]
  refine ⟨⟨fun e he => ?_, by simp [PyData.depth, PyData.depthAll]⟩, trivial⟩
  obtain ⟨j, _, rfl⟩ := List.mem_map.1 he
  simp [PySem.W.alike, PySem.W.alikeAll]
theorem rgW_0 {n : Nat} : rgW 0 n = (List.range n).map nI := by
  unfold rgW
  rw [Int.sub_zero, Int.toNat_natCast]
  refine List.map_congr_left fun i _ => ?_
  unfold nI
  rw [Int.zero_add]
theorem perm_nats {order : List W} {ns : List Nat} (h : order.Perm (ns.map nI)) : ∃ ks : List Nat, order = ks.map nI ∧ ks.Perm ns := by
  have h1 : ∀ w ∈ order, ∃ k : Nat, w = nI k := fun w hw => by
    obtain ⟨k, _, e⟩ := List.mem_map.1 (h.mem_iff.1 hw)
    exact ⟨k, e.symm⟩
  obtain ⟨ks, hk, _⟩ := list_ex (f := nI) (P := fun _ => True) order fun i w hw => by
    obtain ⟨k, e⟩ := h1 w (List.mem_of_getElem? hw)
    exact ⟨k, e, trivial⟩
  subst hk
  refine ⟨ks, rfl, ?_⟩
  have h2 := h.map fun w => match w with | .int i => i.toNat | _ => 0
  rw [List.map_map, List.map_map] at h2
  have e : ∀ l : List Nat, l.map ((fun w => match w with | .int i => i.toNat | _ => 0) ∘ nI) = l := fun l => by
    have : ((fun w => match w with | .int i => i.toNat | _ => 0) ∘ nI) = (id : Nat → Nat) := by funext k; simp [nI]
    rw [this, List.map_id]
  rw [e, e] at h2
  exact h2
theorem ixL_T {rs : List (List Int)} {i : Int} (h0 : 0 ≤ i) (h1 : i < rs.length) : ixL (rs.map T) i h = .ok (T (rs.getD i.toNat [])) h := by
  rw [ixL_ok h0 (by rw [List.length_map]; exact h1), List.getD_eq_getElem?_getD, List.getElem?_map, List.getElem?_eq_getElem (by omega), List.getD_eq_getElem?_getD, List.getElem?_eq_getElem (by omega)]
  rfl
theorem ap_LenP {m : M W} : mLenP m e h = (m e h).bnd fun x h => match LenW x with
  | some n => .ok (.int n) h
  | none => .bad := nrfl rfl
theorem ap_Pair {a b : M W} : mPair a b e h = (a e h).bnd fun x h => (b e h).bnd fun y h => .ok (.tup [x, y]) h := nrfl rfl
theorem lenW_t {xs : List W} : LenW (.tup xs) = some xs.length := nrfl rfl
theorem ap_AndB {a b : M W} : mAndB a b e h = (a e h).bnd fun x h => (asB x h).bnd fun k h => if k = true then b e h else .ok (.bl false) h := nrfl rfl
theorem ap_OrB {a b : M W} : mOrB a b e h = (a e h).bnd fun x h => (asB x h).bnd fun k h => if k = true then .ok (.bl true) h else b e h := nrfl rfl
theorem ap_NotB {a : M W} : mNotB a e h = (a e h).bnd fun x h => (asB x h).bnd fun k h => .ok (.bl (!k)) h := nrfl rfl
theorem isi_of {Tn : String} {m : M W} {x : W} {b : Bool} (h1 : m e h = .ok x h) (h2 : kitB (tyNm x h) Tn = some b) : mIsi Tn m e h = .ok (.bl b) h := by
  unfold mIsi
  rw [h1]
  dsimp only [Out.bnd]
  rw [h2]
theorem isiV_of {Tn : String} {m : M W} {x : W} {b : Bool} (h1 : m e h = .ok x h) (h0 : tyNm x h ≠ "?") (h2 : kitB (tyNm x h) Tn = some b) : mIsiV Tn m e h = .ok (.bl b) h := by
  unfold mIsiV
  rw [h1]
  dsimp only [Out.bnd]
  rw [if_neg h0, h2]
theorem bools_map (bs : List Bool) : bools (bs.map .bl) = some bs := by
  induction bs with
  | nil => rfl
  | cons b bs ih => rw [List.map_cons]; unfold bools; rw [ih]; rfl
theorem genB_ev {any : Bool} {slot : Nat} {mit : M (List W)} {melt : M W} {α : Type} {l : List α} {g : α → W} {f : α → Bool} (h1 : mit e h = .ok (l.map g) h) (h2 : ∀ x ∈ l, eltOf h e slot melt (g x) = some (.bl (f x))) : mGenB any slot mit melt e h = .ok (.bl (if any = true then (l.map f).any id else (l.map f).all id)) h := by
  unfold mGenB
  rw [h1]
  dsimp only [Out.bnd]
  rw [mapO_map (k := fun x => W.bl (f x)) h2]
  dsimp only
  have : l.map (fun x => W.bl (f x)) = (l.map f).map .bl := by rw [List.map_map]; rfl
  rw [this, bools_map]
theorem ap_GI {m : M W} {xs : List W} (h1 : m e h = .ok (.tup xs) h) : mGItems m e h = .ok xs h := by
  unfold mGItems
  rw [h1]
  rfl
theorem ap_R1 {m : M (List W)} {j : Nat} (h1 : m e h = .ok [.int j] h) (hj : j ≤ 16777216) : mItemsR1 m e h = .ok ((List.range j).map nI) h := by
  have ok : rgOkB 0 (j : Int) = true := rgOkB_of (by omega) (by omega) (by omega)
  unfold mItemsR1
  rw [h1, ok_bnd]
  exact (if_pos ok).trans (by rw [rgW_0])
theorem ap_R1i {m : M (List W)} {j : Int} (h1 : m e h = .ok [.int j] h) (h2 : -1000000 ≤ j) (hj : j ≤ 16777216) : mItemsR1 m e h = .ok ((List.range j.toNat).map nI) h := by
  have ok : rgOkB 0 j = true := rgOkB_of (by omega) (by omega) (by omega)
  have e1 : rgW 0 j = (List.range j.toNat).map nI := by
    unfold rgW
    rw [Int.sub_zero]
    refine List.map_congr_left fun i _ => ?_
    unfold nI
    rw [Int.zero_add]
  unfold mItemsR1
  rw [h1, ok_bnd]
  exact (if_pos ok).trans (by rw [e1])
theorem gei_ii {i j : Int} : oGeI (.int i) (.int j) h = .ok (.bl (decide (j ≤ i))) h := nrfl rfl
theorem adds_ii {i j : Int} : oAddS (.int i) (.int j) h = .ok (.int (i + j)) h := nrfl rfl
theorem elt_of {slot : Nat} {melt : M W} {w fw : W} {b : Bool} {h' : List O} (h1 : frz h 6 w = some fw) (h2 : melt ((frzE h e).set slot (some fw)) [] = .ok (.bl b) h') : eltOf h e slot melt w = some (.bl b) := by
  unfold eltOf
  rw [h1]
  dsimp only
  rw [h2]
  rfl
theorem ap_TruB {m : M W} {b : Bool} (h1 : m e h = .ok (.bl b) h) : mTru m e h = .ok b h := by
  rw [ap_Tru, h1]
  rfl
theorem min_r {p : Nat} {l : List Int} (hn : lstAt h p = some (l.map .int)) {r : Int} (h1 : r ∈ l) (h2 : ∀ z ∈ l, r ≤ z) : oMin [.ref p] h = .ok (.int r) h := by
  unfold oMin
  dsimp only [sqL]
  rw [hn]
  dsimp only
  rw [intsOf_map]
  dsimp only
  rw [if_pos (List.length_pos_of_mem h1), ← minI_ok h1 h2]
theorem ne_nn : oNe .non .non h = .ok (.bl false) h := nrfl rfl
theorem told_exc {l : List (Nat × List Nat)} {m : M W} {c : Nat} {p : Option W} {r : List Nat} {h' : List O} (h1 : m e h = .exc c p h') (h2 : tellGo l c = some r) : mTold l m e h = .ok (.str r) h' := by
  rw [ap_Told, h1]
  dsimp only
  rw [h2]
theorem tru_bl {b : Bool} : truW (.bl b) h = .ok b h := nrfl rfl
theorem ap_SortK {slot : Nat} {mit : M (List W)} {mkey : M W} : mSortK slot mit mkey e h = (mit e h).bnd fun xs h => match mapO (keyOf h e slot mkey) xs with
  | some ds => if kindOk (ds.map Prod.snd) = true then .ok (.ref h.length) (h ++ [.lst (sortBy xs (ds.map Prod.snd))]) else .bad
  | none => .bad := nrfl rfl
end
end Den
set_option maxRecDepth 100000
set_option maxHeartbeats 2000000
/-! sorted of a dict's pairs; counting in lists. -/
namespace Den
open PySem L2 PyProof.Rows PySem.W
/-- gathering v, told with the state behind -/
def CollH (P : Program) (w : World) (A : Around) (s : Shared) (v : Value) (R : List Value → Shared → Prop) : Prop :=
  ∀ (Q : List Value → Shared → Prop) (E : Value → Shared → Prop), (∀ s' vs, Kp s.heap s'.heap → AllBare s'.gens → s'.os = s.os → R vs s' → Q vs s') → wpAny (model P w) A (collect v) Q E s
section
variable {P : Program} {w : World} {A : Around} {E : Value → Shared → Prop} {s : Shared} {β : Type} {Rel : Shared → Value → β → Prop} {enc : β → PyData} {Ok : List β → Shared → Prop} {v : Value} {Q : Value → Shared → Prop}
theorem sorted_collH (hc : CollH P w A.in1 s v (fun vs s1 => ∃ bs, Ok bs s1 ∧ EachIs (Rel s1) vs bs)) (ha1 : argsOk "sorted" ⟨[v], []⟩)
    (ha : ∀ bs s1, Ok bs s1 → AllAlike (bs.map enc) ∧ Sortable (bs.map enc) ∧ bs.length ≤ sizeLine ∧ ∀ b ∈ bs, A.units + 2 + (enc b).depth < cLine)
    (hr : ∀ s1 h v b, Kp s1.heap h → Rel s1 v b → ∃ as, Reads h v (enc b) as)
    (h : ∀ s1 s' out c a bs, Ok bs s1 → Kp s1.heap s'.heap → AllBare s'.gens → s'.os = s1.os → s1.heap.objs.size ≤ a → s'.heap.get? a = some (seqObj "list" out.toArray c) → EachIs (Rel s1) out (bs.mergeSort (dataLe false enc)) → Q (.ref a) s') :
    wpAny (model P w) A (call (.builtin "sorted") [v]) Q E s := by
  refine call_function_entry_kw kind_sorted plain_sorted entry_sorted ha1 ?_
  unfold Builtin.«sorted»
  refine wpAny_bind (m := checkCount "sorted" 1 1 _) (wpAny_pure ?_)
  refine wpAny_bind (hc _ _ fun s1 vs k g o r => ?_)
  obtain ⟨bs, ok, e⟩ := r
  obtain ⟨hal, hk, hL, hu⟩ := ha bs s1 ok
  have hz : vs.length ≤ sizeLine := by rw [e.length]; exact hL
  refine wpAny_bind (wpAny_newList ?_ hz)
  show wpAny _ _ _ _ _ { s1 with heap := s1.heap.push (seqObj "list" vs.toArray 0) }
  refine wpAny_bind (wpAny_holding (wpAny_call_entry_kw slot_list_sort ⟨_, Heap.get?_push_size _ rfl, rfl⟩ entry_list_sort ?body (args_list_sort _)))
  case body =>
    show wpAny (model P w) A.in1.in1 (Builtin.«list.sort» ⟨[.ref s1.heap.objs.size], []⟩) _ _ _
    refine wpAny_mono (Q := fun f s' => f = .done (.ret .none) ∧ Q (.ref s1.heap.objs.size) s') ?_ (fun f s' hf => ?_) fun _ _ e => e
    · have ho : ({ s1 with heap := s1.heap.push (seqObj "list" vs.toArray 0) } : Shared).heap.get? s1.heap.objs.size = some (seqObj "list" vs.toArray 0) := Heap.get?_push_size _ rfl
      have kS : ∀ b o, s1.heap.get? b = some o → (sortingHeap (s1.heap.push (seqObj "list" vs.toArray 0)) s1.heap.objs.size vs).get? b = some o := fun b o q =>
        sortingHeap_old (Nat.ne_of_lt (Heap.lt_size q)) (Heap.get?_push_of_some _ q)
      have er : EachIs (fun v b => ∃ as, Reads (sortingHeap (s1.heap.push (seqObj "list" vs.toArray 0)) s1.heap.objs.size vs) v (enc b) as) vs bs :=
        e.mono fun v b q => hr s1 _ v b kS q
      have em := each_map (R := fun v d => ∃ as, Reads (sortingHeap (s1.heap.push (seqObj "list" vs.toArray 0)) s1.heap.objs.size vs) v d as) enc er
      have hu2 : ∀ d, d ∈ bs.map enc → A.in1.in1.units + d.depth < cLine := bound_map (A := A.in1.in1) hu
      have S := SortsAt.data (prog := P) (w := w) (A := A.in1.in1) (s := { s1 with heap := sortingHeap (s1.heap.push (seqObj "list" vs.toArray 0)) s1.heap.objs.size vs }) em hal hk hu2
      refine list_sort_vals (s := { s1 with heap := s1.heap.push (seqObj "list" vs.toArray 0) }) ho S hz ⟨rfl, ?_⟩
      obtain ⟨c, hc2⟩ := sortedHeap_at (vs := vs) (out := (sortVals (dataKind (sortingHeap (s1.heap.push (seqObj "list" vs.toArray 0)) s1.heap.objs.size vs) (bs.map enc)) false vs vs).toArray) ho
      refine h s1 _ _ c s1.heap.objs.size bs ok (fun b o q => ?_) g rfl (Nat.le_refl _) hc2 (sortVals_data false e er hal)
      have hlt := Heap.lt_size q
      show (sortedHeap _ _ _ _).get? b = some o
      rw [sortedHeap_old (Nat.ne_of_lt hlt) (by rw [size_push']; exact Nat.lt_succ_of_lt hlt)]
      exact Heap.get?_push_of_some _ q
    · obtain ⟨rfl, hq⟩ := hf
      exact ⟨_, rfl, wpAny_pure ⟨_, rfl, hq⟩⟩
end
section
variable {K : PySem.W.Frag} {G : Gx} {H H2 : Hp} {ρ : List Addr} {h : List O}
/-- more objects that are not ours -/
theorem HR.grow (r : HR K G H ρ h) (k : ∀ b o, H b = some o → H2 b = some o) : HR K G H2 ρ h ∧ Ext H ρ H2 ρ := by
  have x : Ext H ρ H2 ρ := ⟨fun a u e _ _ => k a u e, List.prefix_rfl, fun _ a b => absurd a b, r.mu, fun a o u e => k a _ e⟩
  refine ⟨⟨r.len, r.nd, fun n a u e1 e2 => (r.ob n a u e1 e2).mono x ?_, fun p hp => ?_⟩, x⟩
  · obtain ⟨w, hw, _⟩ := (r.ob n a u e1 e2).mut
    rw [hw]; exact k a w hw
  · obtain ⟨ps, e1, e2, e3⟩ := r.tb p hp
    refine ⟨ps, k _ _ e1, e2, fun pos cv hc => ?_⟩
    obtain ⟨c, e, q⟩ := e3 pos cv hc
    exact ⟨c, e, k _ _ q⟩
end
section
variable {X : Cx} {pins : List (Addr × Obj)} {σ : L2.St} {H : Hp} {s : Shared}
/-- the pairs that were laid are tracked -/
theorem pairs_laid {h' : Heap} {tk : Nat} {kvs : List (Key × V)} {vs : List (Key × Value)} {as : List Addr} (I : Inv X pins σ H s) (kv : KV kvs vs)
    (hk : ∀ b o, s.heap.get? b = some o → h'.get? b = some o) (hl : as.length = vs.length) (hG : PySem.W.KdxG (mixKind X.prog X.w) vs s.heap.objs.size h' as) :
    ∃ H' : Hp, (∀ b o, H b = some o → H' b = some o) ∧ Paired (fun (t : Addr) (q : Key × V) => H' t = some (.tup [kV q.1, q.2])) as kvs ∧ Inv X pins σ H' { s with heap := h', toks := tk } := by
  have lk : kvs.length = vs.length := Paired.length kv
  have nd : as.Nodup := List.Pairwise.imp (fun {a b} (h : a < b) => Nat.ne_of_lt h) hG.rise
  have new : ∀ t ∈ as, H t = none := fun t ht => I.hok.fresh (Nat.le_of_lt (hG.above t ht))
  have atP := LiI.putT_at as kvs H (by omega) nd
  have low : ∀ b o, s.heap.get? b = some o → b ∉ as := fun b o e z => absurd (Heap.lt_size e) (Nat.not_lt.mpr (Nat.le_of_lt (hG.above b z)))
  have kp : ∀ b u, H b = some u → (LiI.putT H as kvs) b = some u := fun b u e => by
    rw [LiI.putT_off as kvs _ (fun z => by rw [new b z] at e; cases e)]
    exact e
  refine ⟨LiI.putT H as kvs, kp, atP, ?_⟩
  refine I.call' (ch := []) rfl ⟨fun b o q _ _ _ => hk b o q, fun b o q _ _ _ => ⟨o.slots, hk b o q⟩, fun b o q n _ => ?_, fun b o q _ => ⟨o, hk b o q⟩, fun b xs q => kp b _ q, fun b o u q => kp b _ q, fun b ps q => ⟨#[], by rw [kp b _ q]; simp⟩⟩ (fun b u q => ?_) I.bare fun b z => by simp at z
  · rw [LiI.putT_off as kvs _ (low b o q)]
    exact n
  · by_cases hb : b ∈ as
    · obtain ⟨j, pk, e1, e2, e3⟩ := LiI.paired_ix atP hb
      rw [e3] at q
      cases q
      obtain ⟨key, k, x, f1, f2, f3⟩ := hG.pairs j b e1
      obtain ⟨qv, g1, g2, g3⟩ := LiI.paired_get kv e2
      rw [f1] at g1
      cases g1
      have rk : RelV (kV pk.1) key := by
        rw [g2]
        exact relV_key (show keyIs k key = true from f2)
      exact ⟨by show 2 ≤ sizeLine; decide, [key, x], .cons rk (.cons g3 .nil), ⟨_, f3, rfl, _, rfl⟩⟩
    · rw [LiI.putT_off as kvs _ hb] at q
      exact (I.hok b u q).stay (fun d v _ y => hk d v y) (fun d y => kp d _ y) fun d xs y => kp d _ y
end
def pairW (p : W × W) : W := .tup [p.1, p.2]
theorem pairs_vrs {K : PySem.W.Frag} {H : Hp} {ρ : List Addr} : ∀ {as : List Addr} {kvs : List (Key × V)} {ws : List (W × W)}, Paired (fun (t : Addr) (q : Key × V) => H t = some (.tup [kV q.1, q.2])) as kvs → KRs K H ρ kvs ws → VRs K H ρ (as.map V.ref) (ws.map pairW)
  | _, _, [], .nil, _ => .nil
  | _, _, [], .cons _ _, h => by unfold KRs at h; cases h
  | _, _, (k, w) :: ws, .nil, h => by unfold KRs at h; obtain ⟨_, _, _, e, _⟩ := h; cases e
  | a :: as, p :: kvs, (k, w) :: ws, .cons e r, h => by
    unfold KRs at h
    obtain ⟨q, v, r', e2, h1, h2, h3⟩ := h
    cases e2
    refine .cons ?_ (pairs_vrs r h3)
    show VR K H ρ (.ref a) (.tup [k, w])
    unfold VR
    exact ⟨a, _, rfl, .inl (.inl e), .cons h1 (.one h2)⟩
/-- sorted(d.items()) -/
def mSortedDI (m : M W) : M W := fun e h => (m e h).bnd fun d h => match d with
  | .ref n => match dicAt h n with
    | some kvs => match mapO (dat h 7) (kvs.map pairW) with
      | some ds => if kindOk ds = true ∧ kvs.length ≤ lim then .ok (.ref h.length) (h ++ [.lst (sortBy (kvs.map pairW) ds)]) else .bad
      | none => .bad
    | none => .bad
  | _ => .bad
theorem se_sortedDI {G : Gx} {X : Cx} {e : Expr} {m : M W} {p pos apos cpos : Pos} (hi : SE G X e m) (hc : X.calm = true) (hu : X.A.units + 64 < cLine) (hg : Gl X "sorted") (hm : X.mg "sorted" = none) (hv : bootBuiltins "sorted" = some (.builtin "sorted") := by decide +kernel)
    (hbase : attributeBase e "items" X.env (eval e X.env) = eval e X.env := by rfl) (hline : (apos.endLine == cpos.line) = true := by rfl)
    (he : starEach [.Call (.Attribute e "items" apos) [] [] cpos] X.env = (false, eval (.Call (.Attribute e "items" apos) [] [] cpos) X.env) :: starEach [] X.env := by rfl) : SE G X (.Call (.Name "sorted" p) [.Call (.Attribute e "items" apos) [] [] cpos] [] pos) (mSortedDI m) := fun Wx tk => by
  refine ⟨fun pins s σ H Q I h => ?_⟩
  refine wpAny_Call_Name_kw (ld_blt I hg hm hv ?_ (by decide) (by decide))
  refine PyProof.Rows.callWith_builtin1 ?_ he (by rfl)
  rw [he]
  have h2 := rd.bnd (Rel := VRel X.K) (Q' := fun v H1 => ∃ ρ1 h1 w, VR X.K H1 ρ1 v w ∧ HR X.K G H1 ρ1 h1 ∧ Post X.K G (fun cls d H' => Wx cls d σ H') (VRel X.K) Q H1 ρ1 (match w with
    | .ref n => match dicAt h1 n with
      | some kvs => match mapO (dat h1 7) (kvs.map pairW) with
        | some ds => if kindOk ds = true ∧ kvs.length ≤ lim then .ok (.ref h1.length) (h1 ++ [.lst (sortBy (kvs.map pairW) ds)]) else .bad
        | none => .bad
      | none => .bad
    | _ => .bad)) h fun H0 ρ0 e sr v H1 ρ1 h1 w x r q p1 => ⟨ρ1, h1, w, q, r, p1⟩
  refine Calls.spliced_cons ?_
  refine wpAny_Call_method (T := "dict") (id := "dict.items") hbase rfl hline F.plainAttrs_dict F.slot_dict_items F.type_dict_items (thn ((hi Wx tk).run pins s σ H _ I h2) fun u s1 ⟨v, H1, I1, rv, ρ1, h1, w, vx, r1, p1⟩ => ?_)
  split at p1
  · rename_i n
    split at p1
    · rename_i kvw hkv
      split at p1
      · rename_i ds hd
        split at p1
        · rename_i hko
          have vx : VR X.K H1 ρ1 v (.ref n) := vx
          obtain ⟨d, rfl, ea⟩ := vx.ref
          obtain rfl : u = Value.ref d := rv
          obtain ⟨kvs, eH, kr⟩ := r1.look ea (dicAt_some hkv)
          obtain ⟨hz, hs0, vs, kv, hdo⟩ := I1.hok d _ eH
          obtain ⟨ep, hat⟩ := hdo.dictAt
          have lk : kvs.length = vs.length := Paired.length kv
          have lkw : kvs.length = kvw.length := KRs.length kr
          have I2 : Inv X pins σ H1 { s1 with heap := s1.heap.push { cls := .type "dict_items", data := .fields #[.ref d] } } := I1.kept (t' := s1.toks) fun b ob q => Heap.get?_push_of_some _ q
          refine ⟨hdo.typeIs, hdo.mapOf.noDict, ?_⟩
          show wpAny _ _ (callWith cpos (.builtin "dict.items") [.ref d] [] []) _ X.xe s1
          refine method_meetsIn F.slot_dict_items F.entry_dict_items rfl (PySem.evalArgs_none ⟨rfl, hdo.typeIs, F.args_dict_items_1 _, _, meets_dict_items (mixKind X.prog X.w) d hs0, ⟨vs, hdo⟩, ?_⟩)
          refine Calls.spliced_nil ?_
          refine sorted_collH (β := V × PyData) (Rel := fun s2 u b => RelV b.1 u ∧ ∃ as, Reads s2.heap u b.2 as) (enc := Prod.snd)
            (Ok := fun bs s2 => ∃ (H2 : Hp) (xs : List V), Inv X pins σ H2 s2 ∧ (∀ b o, H1 b = some o → H2 b = some o) ∧ VRs X.K H2 ρ1 xs (kvw.map pairW) ∧ bs = xs.zip ds) (fun Q' E' hq => ?_) (args_sorted1 _) (fun bs s2 ok => ?_) (fun s2 hh v b k q => ?_) fun s2 s' out c a bs ok k g o ha e1 er => ?_
          · refine PySem.W.kdx_collect (knd := mixKind X.prog X.w) (kvs := vs) (ep := ep) (I1.ok.hd hc) ⟨_, Heap.get?_push_size _ rfl, rfl, rfl⟩ (hat.push _) (by omega) fun h' tk as hk hl hG => ?_
            obtain ⟨H2, k1, k2, J⟩ := pairs_laid (tk := tk) I2 kv hk hl hG
            obtain ⟨r2, x2⟩ := r1.grow k1
            have vx2 := pairs_vrs (ρ := ρ1) k2 (kr.mono x2)
            have hdp := mapO_dp (fun v w d r e => dat_dp r2 7 v w d r e) vx2 hd
            have hlx := dpAll_len hdp
            have r := LiI.vals_refs as
            refine hq _ _ (fun b o q => hk b o q) I2.bare rfl ⟨_, ⟨H2, _, J, k1, vx2, rfl⟩, ?_⟩
            obtain ⟨as', rd⟩ := Dp.readsAll J ds _ _ hdp r
            exact each_and (each_zip r hlx) (each_reads hlx rd)
          · obtain ⟨H2, xs, J, k1, vx2, rfl⟩ := ok
            have hlx : xs.length = ds.length := by rw [vx2.length, mapO_len hd]
            rw [zip_snd hlx]
            refine ⟨kindOk_alike hko.1, kindOk_sortable hko.1, by rw [List.length_zip]; exact Nat.le_trans (Nat.min_le_left _ _) (by rw [vx2.length, List.length_map]; exact lim_size hko.2), fun b hb => ?_⟩
            have := kindOk_depth hko.1 b.2 (by rw [← zip_snd hlx]; exact List.mem_map_of_mem hb)
            omega
          · obtain ⟨as, q⟩ := q.2
            exact ⟨as, PyProof.Rows.Reads.keeps k q⟩
          · obtain ⟨H2, xs, J, k1, vx2, rfl⟩ := ok
            have hlx : xs.length = ds.length := by rw [vx2.length, mapO_len hd]
            obtain ⟨r2, x2⟩ := r1.grow k1
            have e3 : Vals (sortBy xs ds) out := vals_each (er.mono fun _ _ q => q.1)
            refine ⟨.ref a, _, inv_newList J k g o ha e1 e3 (by rw [sortBy_length hlx, vx2.length, List.length_map]; exact lim_size hko.2), rfl, ?_⟩
            exact new_lst r2 (vrs_sortBy vx2) (p1.ext x2) a (J.hok.fresh ha)
        · exact p1.elim
      · exact p1.elim
    · exact p1.elim
  · exact p1.elim
end Den
set_option maxRecDepth 100000
/-! How often in a list, a text over and over, where in a text. -/
namespace Den
open PySem L2 PyProof.Rows
section
variable {G : Gx} {X : Cx}
def eqkS (k : Str) (v : Value) : Bool := match v with
  | .str n _ => n == k
  | _ => false
theorem strs_are {l : List Str} {us : List Value} (r : Vals (l.map V.str) us) : (∀ y ∈ us, ∃ n t, y = .str n t) ∧ ∀ k, us.countP (eqkS k) = l.count k := by
  induction l generalizing us with
  | nil => cases r; exact ⟨by simp, fun k => rfl⟩
  | cons a l ih =>
    cases r with
    | cons r1 r2 =>
      obtain ⟨t, rfl⟩ := r1
      obtain ⟨h1, h2⟩ := ih r2
      refine ⟨fun y hy => ?_, fun k => ?_⟩
      · rcases List.mem_cons.1 hy with e | e
        · exact ⟨_, _, e⟩
        · exact h1 y e
      · rw [List.countP_cons, List.count_cons, h2 k]; rfl
theorem mt_lcountS : MtR X "list.count" (fun x xs H Q => ∃ (p : Addr) (ss : List Str) (k : Str), x = .ref p ∧ xs = [.str k] ∧ SqL X.K H p (ss.map V.str) ∧ Q (.int (ss.count k : Nat)) H) := by
  intro pins s σ H x xs v us Q I rx rxs h
  obtain ⟨p, ss, k, rfl, rfl, hs, q⟩ := h
  cases rx
  obtain ⟨u, rfl, ru⟩ := rxs.one
  obtain ⟨t, rfl⟩ := ru
  obtain ⟨its, rv, ⟨⟨cls, dd, data, sl⟩, n, ho, hc, hdn, hd⟩, hlen⟩ := I.list hs
  simp only at hc hd
  subst hc hd
  obtain ⟨h1, h2⟩ := strs_are rv
  refine call_meets PySem.F.slot_list_count ⟨_, ho, rfl⟩ PySem.F.entry_list_count (PySem.F.args_list_count_2 _ _)
    (SeqAt.list_countAt p its.toArray n dd sl (.str k t) (eqkS k)) ⟨ho, fun y hy => ?_, ?_⟩
  · obtain ⟨m, t', rfl⟩ := h1 y (by simpa using hy)
    exact SeqAt.EqAt.str_str m t' k t
  · have ec : its.toArray.toList.countP (eqkS k) = ss.count k := h2 k
    refine ⟨.int (ss.count k : Nat), H, I.tok _, ⟨s.toks, ?_⟩, q⟩
    show Value.int ((its.toArray.toList.countP (eqkS k) : Nat) : Int) s.toks = Value.int ((ss.count k : Nat) : Int) s.toks
    rw [ec]
def oLCount (x : W) (ws : List W) (h : List O) : Out W := match ws with
  | [.str s] => match sqL x h with
    | some xs => match strsOf xs with
      | some l => .ok (.int (l.count s : Nat)) h
      | none => .bad
    | none => .bad
  | _ => .bad
theorem count_mkS (l : List (List Nat)) (s : List Nat) : (l.map mkS).count (mkS s) = l.count s := by
  induction l with
  | nil => rfl
  | cons x l ih => rw [List.map_cons, List.count_cons, List.count_cons, ih, mkS_beq]
theorem mes_lcount : MeS G X "list.count" oLCount := ⟨_, mt_lcountS, fun E H ρ h x wx vs ws Q hr rx r p => by
  unfold oLCount at p
  split at p
  · split at p
    · rename_i xs hx
      split at p
      · rename_i l hl
        obtain ⟨y, rfl, ry⟩ := r.inv1
        obtain ⟨a, vs, rfl, q, z⟩ := sqL_ok hr rx hx
        rw [strsOf_ok z hl] at q
        exact ⟨a, l.map mkS, _, rfl, by rw [ry.str], q, by rw [count_mkS]; exact p.here hr vr_int⟩
      · exact p.elim
    · exact p.elim
  · exact p.elim⟩
/-! ### s * n -/
theorem rep_fold (a : List Nat) : ∀ (n : Nat) (b : List Nat), (List.replicate n a.toArray).foldl (· ++ ·) b.toArray = (b ++ (List.replicate n a).flatten).toArray
  | 0, b => by simp
  | n + 1, b => by
    rw [List.replicate_succ, List.foldl_cons, List.replicate_succ, List.flatten_cons]
    have := rep_fold a n (b ++ a)
    rw [← List.append_assoc, ← this]
    simp
theorem op_smul : OpR X (binaryOp .Mult) (fun x y H Q => ∃ (a : List Nat) (n : Int), x = .str (mkS a) ∧ y = .int n ∧ 2 ≤ n ∧ n ≤ 1000000 ∧ 0 < a.length ∧ a.length * n.toNat ≤ lim ∧ Q (.str (mkS (List.replicate n.toNat a).flatten)) H) := by
  intro pins s σ H x y v u Q I rx ry h
  obtain ⟨a, n, rfl, rfl, h1, h2, h3, h4, q⟩ := h
  obtain ⟨t, rfl⟩ := rx
  obtain ⟨t', rfl⟩ := ry
  have hlen : (mkS a).length = a.length := Str_length a
  have h1' : ¬ n < 1 := by omega
  have hne : (n == 1 || (mkS a).length == 0) = false := by
    rw [hlen, Bool.or_eq_false_iff]
    exact ⟨beq_eq_false_iff_ne.mpr (by omega), beq_eq_false_iff_ne.mpr (by omega)⟩
  refine P.mul_str (by rw [decide_eq_false (by omega), decide_eq_false (by omega)]; rfl) (fun _ _ => ?_) (fun _ _ => ?_) ?_
  · rw [hlen]
    have e1 : (a.length : Int) ≤ 1000000 := by
      have : a.length * 1 ≤ a.length * n.toNat := Nat.mul_le_mul_left _ (by omega)
      have h4 : a.length * n.toNat ≤ 1000000 := h4
      omega
    have e2 : (1000000 : Int) ≤ (2 ^ 63 - 1) / n := by
      rw [Int.le_ediv_iff_mul_le (by omega)]
      omega
    omega
  · rw [hlen]
    exact decide_eq_false (by have := lim_size h4; omega)
  · rw [if_neg h1', if_neg (by rw [hne]; simp)]
    have e : (⟨(List.replicate n.toNat (mkS a).cps).foldl (· ++ ·) #[]⟩ : Str) = mkS (List.replicate n.toNat a).flatten := by
      have := rep_fold a n.toNat []
      rw [List.nil_append] at this
      show (⟨_⟩ : Str) = ⟨_⟩
      exact congrArg Str.mk this
    rw [e]
    refine ⟨?_, ?_⟩
    · rw [Str_length, List.length_flatten, List.map_replicate, List.sum_replicate_nat]
      exact lim_size (by rw [Nat.mul_comm]; exact h4)
    · exact ⟨.str (mkS (List.replicate n.toNat a).flatten), H, I.tok _, ⟨_, rfl⟩, q⟩
def oMulS (x y : W) (h : List O) : Out W := match x, y with
  | .str a, .int n => if 2 ≤ n ∧ n ≤ 1000000 ∧ 0 < a.length ∧ a.length * n.toNat ≤ lim then .ok (.str (List.replicate n.toNat a).flatten) h else .bad
  | _, _ => .bad
theorem ops_smul : OpS G X (binaryOp .Mult) oMulS := ⟨_, op_smul, fun E H ρ h x y wx wy Q hr rx ry p => by
  unfold oMulS at p
  split at p
  · split at p
    · rename_i hc
      exact ⟨_, _, rx.str, ry.int, hc.1, hc.2.1, hc.2.2.1, hc.2.2.2, p.here hr vr_str⟩
    · exact p.elim
  · exact p.elim⟩
/-! ### where a text stands in a text -/
def oSIndex (x : W) (ws : List W) (h : List O) : Out W := match x, ws with
  | .str a, [.str b] => match Builtin.Str.occurrences (mkS a) (mkS b) 0 a.length 1 with
    | i :: _ => .ok (.int (i : Nat)) h
    | [] => .bad
  | _, _ => .bad
theorem mes_sindex : MeS G X "str.index" oSIndex := ⟨_, mt_sindex, fun E H ρ h x wx vs ws Q hr rx r p => by
  unfold oSIndex at p
  split at p
  · rename_i a b
    split at p
    · rename_i i rest ho
      obtain ⟨y, rfl, ry⟩ := r.inv1
      exact ⟨_, _, i, rest, rx.str, by rw [ry.str], by rw [Str_length]; exact ho, p.here hr vr_int⟩
    · exact p.elim
  · exact p.elim⟩
end
end Den
set_option maxRecDepth 100000
/-! Constants of the module. -/
namespace Den
open PySem L2 PyProof.Rows
theorem se_gstr {G : Gx} {X : Cx} {x : Str} {l : List Nat} {pos : Pos} (hg : Gl X x) (hm : ∃ t, X.mg x = some (.str (mkS l) t)) (hd : (x == ("__debug__" : Str)) = false := by decide) : SE G X (.Name x pos) (mC (.str l)) := by
  obtain ⟨t, hm⟩ := hm
  exact se_glob (v := .str (mkS l)) hg hm ⟨t, rfl⟩ (fun H ρ => vr_str) hd
theorem se_gint {G : Gx} {X : Cx} {x : Str} {i : Int} {pos : Pos} (hg : Gl X x) (hm : ∃ t, X.mg x = some (.int i t)) (hd : (x == ("__debug__" : Str)) = false := by decide) : SE G X (.Name x pos) (mC (.int i)) := by
  obtain ⟨t, hm⟩ := hm
  exact se_glob (v := .int i) hg hm ⟨t, rfl⟩ (fun H ρ => vr_int) hd
theorem sp_gstr {K : PySem.W.Frag} {mg : Str → Option Value} {N : List Str} {sc : Scope} {x : Str} {l : List Nat} {pos : Pos} (hg : GlP sc x) (hm : ∃ t, mg x = some (.str (mkS l) t)) (hd : (x == ("__debug__" : Str)) = false := by decide) : SP K mg N sc (.Name x pos) (mC (.str l)) := by
  obtain ⟨t, hm⟩ := hm
  exact sp_glob hg hm (fun h => wv_str) hd
theorem sp_gint {K : PySem.W.Frag} {mg : Str → Option Value} {N : List Str} {sc : Scope} {x : Str} {i : Int} {pos : Pos} (hg : GlP sc x) (hm : ∃ t, mg x = some (.int i t)) (hd : (x == ("__debug__" : Str)) = false := by decide) : SP K mg N sc (.Name x pos) (mC (.int i)) := by
  obtain ⟨t, hm⟩ := hm
  exact sp_glob hg hm (fun h => wv_int) hd
end Den
set_option maxRecDepth 100000
set_option maxHeartbeats 2000000
/-! Sets of ints and texts: a set comprehension behind sorted and len. -/
namespace Den
open PySem PySem.Spec L2 PyProof.Rows
def inK (k : Key) (L : List Key) : Bool := L.any fun j => decide (k = j)
theorem inK_iff {k : Key} {L : List Key} : inK k L = true ↔ k ∈ L := by
  unfold inK
  rw [List.any_eq_true]
  exact ⟨fun ⟨j, hj, e⟩ => by rw [of_decide_eq_true e]; exact hj, fun h => ⟨k, h, decide_eq_true rfl⟩⟩
/-- what a member is -/
def mK (e : Int × Value) : Key := match e.2 with
  | .int k _ => .inl k
  | .str x _ => .inr x
  | _ => .inl 0
def MOk (w : World) (e : Int × Value) : Prop := ∃ k, keyIs k e.2 = true ∧ e.1 = keyH w k
theorem keyIs_mK {k : Key} {e : Int × Value} (h : keyIs k e.2 = true) : mK e = k := by
  obtain ⟨z, v⟩ := e
  rcases keyIs_shape h with ⟨i, t, rfl, q⟩ | ⟨x, t, rfl, q⟩ <;> (have q : v = _ := q; subst q; rfl)
theorem scannable_key {k : Key} {v : Value} (h : keyIs k v = true) : v.scannable = true := by
  rcases keyIs_shape h with ⟨i, t, rfl, rfl⟩ | ⟨x, t, rfl, rfl⟩ <;> rfl
/-- the set at a: its members are L's, each once -/
def SetM (w : World) (h : Heap) (a : Addr) (L : List Key) : Prop :=
  ∃ o es ep t, h.get? a = some o ∧ o.ExactSet ∧ o.data = .set es ep t ∧ (∀ e ∈ es.toList, MOk w e) ∧ (es.toList.map mK).Perm L ∧ L.Nodup ∧
    es.size < scanBound ∧ t.fits es.size = true ∧ Ris t.place.toList ∧ (w.params.followText "set-order" = true ∨ t.led = true)
section
variable {P : Program} {w : World} {h h' : Heap} {a : Addr} {L : List Key}
theorem SetM.at (R : SetM w h a L) (k : ∀ o, h.get? a = some o → h'.get? a = some o) : SetM w h' a L := by
  obtain ⟨o, es, ep, t, ho, r⟩ := R
  exact ⟨o, es, ep, t, k o ho, r⟩
theorem mok_is {e : Int × Value} (g : MOk w e) (k : Key) : keyIs k e.2 = true ↔ mK e = k := by
  refine ⟨keyIs_mK, fun q => ?_⟩
  obtain ⟨k0, h1, _⟩ := g
  rw [← q, keyIs_mK h1]; exact h1
theorem mok_mem {l : List (Int × Value)} (g : ∀ e ∈ l, MOk w e) (k : Key) : k ∈ l.map mK ↔ ∃ e ∈ l, keyIs k e.2 = true := by
  rw [List.mem_map]
  exact ⟨fun ⟨e, he, q⟩ => ⟨e, he, (mok_is (g e he) k).2 q⟩, fun ⟨e, he, q⟩ => ⟨e, he, (mok_is (g e he) k).1 q⟩⟩
theorem mok_elems {l : List (Int × Value)} (g : ∀ e ∈ l, MOk w e) : ElemsOf (mixKind P w) l := fun e he => by
  obtain ⟨k, h1, h2⟩ := g e he
  exact ⟨⟨k, h1, h2⟩, scannable_key h1⟩
theorem SetM.setOf (R : SetM w h a L) : h.SetOf (mixKind P w) a (fun k => inK k L) L.length := by
  obtain ⟨o, es, ep, t, ho, hx, hd, g, pm, nd, hb, hf, hr, hl⟩ := R
  refine ⟨o, es, ep, t, ho, hx, hd, mok_elems g, fun k => ?_, hb, hf, ?_⟩
  · rw [inK_iff, ← pm.mem_iff]; exact mok_mem g k
  · rw [← Array.length_toList, ← List.length_map (f := mK), pm.length_eq]
end
section
variable {P : Program} {w : World} {A : Around} {E : Value → Shared → Prop} {s : Shared} {a : Addr} {L : List Key}
theorem setM_laid {h : Heap} {o : Obj} {es es' : Array (Int × Value)} {ep : Nat} {t t' : SetTable} (ho : h.get? a = some o) (hd : o.data = .set es ep t) :
    (h.update a (Obj.putSet es' t')).get? a = some { o with data := .set es' (ep + 1) t' } := L2.store_at ho hd
theorem setM_tail {g : Bool → Sem Unit} (hg : ∀ (b : Bool) (s₁ : Shared) (Q' : Unit → Shared → Prop), Q' () s₁ → wpAny (model P w) A (g b) Q' E s₁)
    {o : Obj} {es : Array (Int × Value)} {ep : Nat} {t : SetTable} (ho : s.heap.get? a = some o) (hex : o.ExactSet) (hd : o.data = .set es ep t)
    {es1 : Array (Int × Value)} {t2 : SetTable} (g1 : ∀ e ∈ es1.toList, MOk w e) (p1 : (es1.toList.map mK).Perm L) (nd1 : L.Nodup)
    (hb1 : es1.size < scanBound) (hf2 : t2.fits es1.size = true) (hr : Ris t2.place.toList) (hl : w.params.followText "set-order" = true ∨ t2.led = true) {wasDummy : Bool} {R : Option Bool → Shared → Prop}
    (hR : ∀ h', Heap.SameBut a s.heap h' → SetM w h' a L → R (some true) { s with heap := h' }) :
    wpAny (model P w) A (do
        storeSet a es1 t2
        if (!wasDummy && t2.tooFull) = true then do
            g (relayAll t2 es1 (SetTable.grown es1.size)).2.2
            storeSet a (relayAll t2 es1 (SetTable.grown es1.size)).1 (relayAll t2 es1 (SetTable.grown es1.size)).2.1
            pure (some true)
          else pure (some true)) R E s := by
  have ho1 := setM_laid (es' := es1) (t' := t2) ho hd
  have sb1 := Heap.SameBut.update s.heap a (Obj.putSet es1 t2)
  refine wpAny_bind (wpAny_storeSet_of ho hd ?_ (fits_of_scanBound hb1))
  by_cases hc : (!wasDummy && t2.tooFull) = true
  · rw [if_pos hc]
    have pm := relayAll_perm t2 es1 (SetTable.grown es1.size)
    have hf3 := relayAll_fits t2 es1 (SetTable.grown es1.size)
    have hr3 := relayAll_ris t2 es1 (SetTable.grown es1.size)
    have hl3 := relayAll_led t2 es1 (SetTable.grown es1.size)
    generalize relayAll t2 es1 (SetTable.grown es1.size) = Z at pm hf3 hr3 hl3 ⊢
    obtain ⟨es2, t3, gave⟩ := Z
    dsimp only at pm hf3 hr3 hl3 ⊢
    have hsz : es2.size = es1.size := by rw [← Array.length_toList, pm.length_eq, Array.length_toList]
    have hb2 : es2.size < scanBound := by rw [hsz]; exact hb1
    have ho2 := setM_laid (es' := es2) (t' := t3) ho1 rfl
    refine wpAny_bind (hg _ _ _ (wpAny_bind (wpAny_storeSet_of ho1 rfl ?_ (fits_of_scanBound hb2))))
    refine wpAny_pure (hR _ (sb1.trans (Heap.SameBut.update _ a _)) ⟨_, es2, _, t3, ho2, hex, rfl, fun e he => g1 e (pm.mem_iff.mp he), (pm.map mK).trans p1, nd1, hb2, hf3, hr3, hl.imp id fun z => by rw [hl3]; exact z⟩)
  · rw [if_neg hc]
    exact wpAny_pure (hR _ sb1 ⟨_, es1, _, t2, ho1, hex, rfl, g1, p1, nd1, hb1, hf2, hr, hl⟩)
/-- L with k -/
def addK (L : List Key) (k : Key) : List Key := if inK k L = true then L else k :: L
theorem setM_hashed {k : Key} {v : Value} {Q : Bool → Shared → Prop} (hkey : keyIs k v = true) (R : SetM w s.heap a L) (room : L.length + 1 < scanBound)
    (hQ : ∀ b h', Heap.SameBut a s.heap h' → SetM w h' a (addK L k) → Q b { s with heap := h' }) :
    wpAny (model P w) A (setAddHashed a v (keyH w k)) Q E s := by
  obtain ⟨o, es, ep, t, ho, hex, hd, g, pm0, nd, hb, hf, hr, hl⟩ := R
  have hsc := scannable_key hkey
  have hel : ElemsOf (mixKind P w) es.toList := mok_elems g
  unfold setAddHashed setAddHashedIn
  refine wpAny_holding (wpAny_bind (wpAny_setState_of ho hd hf ?_))
  dsimp only
  rw [byScan_of hsc hb hel]
  simp only [↓reduceIte]
  unfold setAddByScan
  refine wpAny_bind ?_
  refine wpAny_bind (wpAny_rule ?_)
  refine wpAny_bind (wpAny_setScan_of (knd := mixKind P w) hkey ho hd hf hel ?_)
  cases hfi : List.findIdx? (fun e => (mixKind P w).is k e.2) es.toList with
  | some j =>
    dsimp only
    obtain ⟨hj, pj, _⟩ := List.findIdx?_eq_some_iff_getElem.mp hfi
    have hkL : k ∈ L := pm0.mem_iff.mp ((mok_mem g k).2 ⟨es.toList[j], List.getElem_mem hj, pj⟩)
    refine wpAny_pure (wpAny_pure ?_)
    refine hQ _ s.heap (Heap.SameBut.refl a s.heap) ?_
    unfold addK
    rw [if_pos (inK_iff.mpr hkL)]
    exact ⟨o, es, ep, t, ho, hex, hd, g, pm0, nd, hb, hf, hr, hl⟩
  | none =>
    dsimp only
    have hnk : k ∉ L := fun z => by
      obtain ⟨e, he, q⟩ := (mok_mem g k).1 (pm0.mem_iff.mpr z)
      have c := List.findIdx?_eq_none_iff.mp hfi e he
      have q : (mixKind P w).is k e.2 = true := q
      rw [q] at c
      cases c
    have hgw : ∀ (b : Bool) {s₁ : Shared} {Q' : Unit → Shared → Prop}, Q' () s₁ → wpAny (model P w) A (match b with | true => rule "set.scan.the-table-gave-way" | false => pure ()) Q' E s₁ :=
      fun b s₁ Q' q => by cases b <;> first | exact wpAny_pure q | exact wpAny_rule q
    have pm := layNew_perm t es (keyH w k) v
    have hf1 := layNew_fits t es (keyH w k) v
    have hr1 := layNew_ris t es (keyH w k) v hr
    have hl1 := layNew_led t es (keyH w k) v
    generalize layNew t es (keyH w k) v = Z at pm hf1 hr1 hl1 ⊢
    obtain ⟨es1, t1, wasDummy, gave⟩ := Z
    dsimp only at pm hf1 hr1 hl1 ⊢
    rw [Array.toList_push] at pm
    have pc : es1.toList.Perm ((keyH w k, v) :: es.toList) := pm.trans (List.perm_append_singleton _ _)
    have ev : mK (keyH w k, v) = k := keyIs_mK (e := (keyH w k, v)) hkey
    have pk : (es1.toList.map mK).Perm (k :: L) := by
      have := pc.map mK
      rw [List.map_cons, ev] at this
      exact this.trans (pm0.cons k)
    have g1 : ∀ e ∈ es1.toList, MOk w e := fun e he => by
      rcases List.mem_cons.mp (pc.mem_iff.mp he) with z | z
      · rw [z]; exact ⟨k, hkey, rfl⟩
      · exact g e z
    have nd1 : (k :: L).Nodup := List.nodup_cons.mpr ⟨hnk, nd⟩
    have hsz0 : es.size = L.length := by rw [← Array.length_toList, ← List.length_map (f := mK), pm0.length_eq]
    have hsz : es1.size = L.length + 1 := by rw [← Array.length_toList, pc.length_eq, List.length_cons, Array.length_toList, hsz0]
    have hb1 : es1.size < scanBound := by rw [hsz]; exact room
    have hled : w.params.followText "set-order" = true ∨ t1.led = true := hl.imp id fun z => by rw [hl1]; exact z
    have fin : ∀ b h', Heap.SameBut a s.heap h' → SetM w h' a (k :: L) → Q b { s with heap := h' } := fun b h' sb r => hQ b h' sb (by unfold addK; rw [if_neg (fun z => hnk (inK_iff.mp z))]; exact r)
    refine wpAny_bind (hgw _ ?_)
    split
    · refine wpAny_bind ?_
      rw [hashByValue_scannable 8 hsc]
      refine wpAny_pure ?_
      refine setM_tail ?_ ho hex hd g1 pk nd1 hb1 ?_ ?_ ?_ ?_
      · intro b s₁ Q' q; cases b <;> first | exact wpAny_pure q | exact wpAny_rule q
      · first | (split <;> first | exact hf1 | exact SetTable.fits_plain_off hf1) | exact hf1
      · first | (split <;> exact hr1) | exact hr1
      · first | (split <;> exact hled) | exact hled
      · intro h' sb r; dsimp only; exact wpAny_pure (fin _ h' sb r)
    · refine wpAny_bind (wpAny_pure ?_)
      simp only [↓reduceIte]
      refine setM_tail ?_ ho hex hd g1 pk nd1 hb1 hf1 hr1 hled ?_
      · intro b s₁ Q' q; cases b <;> first | exact wpAny_pure q | exact wpAny_rule q
      · intro h' sb r; dsimp only; exact wpAny_pure (fin _ h' sb r)
/-- found.add(k) -/
theorem setM_add {k : Key} {v : Value} {Q : Value → Shared → Prop} (hkey : keyIs k v = true) (R : SetM w s.heap a L) (room : L.length + 1 < scanBound)
    (hQ : ∀ h', Heap.SameBut a s.heap h' → SetM w h' a (addK L k) → Q .none { s with heap := h', toks := s.toks + 1 }) :
    wpAny (model P w) A (call (.builtin "set.add") [.ref a, v]) Q E s := by
  have hS : s.heap.SetOf (mixKind P w) a (fun k => inK k L) L.length := R.setOf
  refine wpAny_call_entry F.slot_set_add hS.typeIs F.entry_set_add ?_ (F.args_set_add_2 _ _)
  unfold Builtin.«set.add» Builtin.Frozenset.oneOther
  simp only [List.isEmpty_nil, bind_assoc]
  unfold Builtin.Frozenset.addrOf setAdd
  refine wpAny_bind (wpAny_pure ?_)
  try dsimp only
  refine wpAny_bind (wpAny_pure ?_)
  try dsimp only
  refine wpAny_bind ?_
  refine wpAny_holding ?_
  refine wpAny_bind ((mixKind P w).pyHash (k := k) hkey ?_)
  refine setM_hashed (s := { s with toks := s.toks + 1 }) hkey R room fun b h' sb r => ?_
  show wpAny _ _ (ret Value.none) _ _ _
  exact wpAny_pure ⟨_, rfl, hQ h' sb r⟩
end
/-! ### a new set -/
theorem setM_fresh {h : Heap} (w : World) : SetM w (h.push { cls := .type "set", dict := none, data := .set #[] 0 (.fresh 0 0 (!w.params.followText "set-order")) }) h.objs.size [] :=
  ⟨_, #[], 0, _, Heap.get?_push_size _ rfl, ⟨rfl, rfl, rfl⟩, rfl, (fun e he => by simp at he), (by simp), List.nodup_nil, (by decide), rfl, List.Pairwise.nil, by
    show _ ∨ (!w.params.followText "set-order") = true
    cases w.params.followText "set-order"
    · exact .inr rfl
    · exact .inl rfl⟩
/-! ### as tracked things -/
def SetMO (w : World) (a : Addr) (L : List Key) : HO := .ext fun h => SetM w h a L
theorem setMO_new {w : World} {P : Program} {H : Hp} {h : Heap} {a : Addr} {L : List Key} (R : SetM w h a L) : ObjOk P w H h a (SetMO w a L) := by
  have ⟨o, _, _, _, ho, _⟩ := R
  exact ⟨R, ⟨o, ho⟩, fun h1 h2 p k => SetM.at p k⟩
section
variable {X : Cx}
theorem setMO_get {pins : List (Addr × Obj)} {σ : L2.St} {H : Hp} {s : Shared} {a : Addr} {L : List Key} (I : Inv X pins σ H s) (ha : H a = some (SetMO X.w a L)) : SetM X.w s.heap a L := (I.hok a _ ha).1
theorem relV_key {k : Key} {v : Value} (r : RelV (kV k) v) : keyIs k v = true := by
  cases k with
  | inl i => obtain ⟨t, rfl⟩ := r; exact keyIs_int i t
  | inr x => obtain ⟨t, rfl⟩ := r; exact keyIs_str x t
theorem addM_ok {pins : List (Addr × Obj)} {σ : L2.St} {H : Hp} {s : Shared} {E : Value → Shared → Prop} {D : Addr} {L : List Key} {k : Key} {v : Value} {Q : Value → Shared → Prop} (I : Inv X pins σ H s) (hD : H D = some (SetMO X.w D L)) (hk : RelV (kV k) v) (room : L.length + 1 < scanBound)
    (h : ∀ s', Inv X pins σ (upd H D (SetMO X.w D (addK L k))) s' → Q .none s') : wpAny (model X.prog X.w) X.A (call (.builtin "set.add") [.ref D, v]) Q E s := by
  have R := setMO_get I hD
  refine setM_add (relV_key hk) R room fun h' sb new => ?_
  have he : ∃ u, h'.get? D = some u := by
    have ⟨o, _, _, _, ho, _⟩ := new
    exact ⟨o, ho⟩
  exact h _ (I.write (e := D) (t' := s.toks + 1) (by rw [hD]; trivial) (.inl rfl) (fun b u hb hu => (sb.2 b hb).trans hu) he (setMO_new new))
end
end Den
set_option maxRecDepth 100000
set_option maxHeartbeats 2000000
/-! Set comprehensions of ints and texts. -/
namespace Den
open PySem PySem.Spec L2 PyProof.Rows
section
variable {X : Cx}
theorem set_noCode {pins : List (Addr × Obj)} {σ : L2.St} {H : Hp} {s : Shared} {D : Addr} {L : List Key} (I : Inv X pins σ H s) (hD : H D = some (SetMO X.w D L)) : ∀ q, SetMO X.w D L ≠ LamX.CodeO D q := fun q e => by
  obtain ⟨o, es, ep, t, ho, hx, hd, _⟩ := setMO_get I hD
  obtain ⟨⟨oc, vs, u, h1, h2, _⟩, _⟩ := I.hok D _ (hD.trans (congrArg some e))
  rw [ho] at h1
  cases h1
  rw [hd] at h2
  cases h2
/-- {elt for tg in iter if ..}: D the new set -/
def tSm (w : World) (wi : TI) (g : TG) (tt : TT) (te : TE) (vs : List Nat) : TE := fun σ H Q => wi σ H fun J H1 => ∀ D, H1 D = none → ∃ W : Nat → Nat → Hp → Prop, (∃ m, W 0 m (upd H1 D (SetMO w D []))) ∧ ∀ i m H, W i m H →
  (J.stop i H ∧ Q (.ref D) H) ∨ (J.go i H ∧ ∃ Nx : Hp → Prop, (∀ H', Nx H' → ∃ m', m' < m ∧ W (i + 1) m' H') ∧ ∀ x H', J.yld i H x H' → g x (wipe σ vs) H' fun σ2 H2 => wipe σ2 vs = wipe σ vs ∧ tt σ2 H2 fun b H3 =>
    if b = true then te σ2 H3 fun y H4 => ∃ (c : Key) (L : List Key), y = kV c ∧ H4 D = some (SetMO w D L) ∧ L.length + 1 < scanBound ∧ ((∀ q, SetMO w D L ≠ LamX.CodeO D q) → Nx (upd H4 D (SetMO w D (addK L c)))) else Nx H3)
theorem sm_core {pins : List (Addr × Obj)} {s : Shared} {σ : L2.St} {H : Hp} {Q : VK} {elt tg iter : Expr} {ifs : List Expr} {scope : Scope} {own : List (PySem.Str × Nat)} {pos pos' : Pos} {wi : TI} {g : TG} {tt : TT} {te : TE} {use : Option (Value → Sem Unit)} {Qf : Value → Shared → Prop}
    (hc : X.calm = true) (hN : X.N.Nodup) (I : Inv X pins σ H s) (hi : PI X tg iter wi) (ok : BlkOk X.N X.env.scope scope own)
    (hg : ∀ (s : Shared) (H : Hp) (C : Addr) (cl : List (PySem.Str × Addr)) (fp : List Addr), PG (X.blk s H scope (compEnvC scope cl C X.env) fp) tg g) (ht : ∀ (s : Shared) (H : Hp) (C : Addr) (cl : List (PySem.Str × Addr)) (fp : List Addr), PTs (X.blk s H scope (compEnvC scope cl C X.env) fp) ifs tt)
    (he : ∀ (s : Shared) (H : Hp) (C : Addr) (cl : List (PySem.Str × Addr)) (fp : List Addr), PE (X.blk s H scope (compEnvC scope cl C X.env) fp) elt te) (hs : ∀ x, foldedSetIterable iter X.env x = pure x)
    (h : tSm X.w wi g tt te (own.map (·.2)) σ H Q)
    (hRR : ∀ D C s' m H', Inv X pins σ H' s' → Q (.ref D) H' → s'.heap.Ns C m → FpOk X pins H' C → compPost (model X.prog X.w) X.A X.xe use Qf (.ref D) C (.ok .next) s') :
    wpAny (model X.prog X.w) X.A (comprehension (.SetComp elt [⟨tg, iter, ifs, 0⟩] scope pos) scope X.env pos' (newSet (.type "set")) false (eval iter X.env) use) Qf X.xe s := by
  have hfree : ∀ y ∈ scope.names, y.2 = .free → ∃ c, X.env.cells.lookup y.1 = some c := fun y hy e =>
    (ok.free y hy e).elim (fun k => I.ok.has _ (.inl k)) (fun k => I.ok.has _ (.inr k))
  refine wpAny_comprehension_free (use := use) rfl hs (closure_ok hfree) ok.kind (fun y hy e => by rw [ok.uniq y hy, e])
    (thn (hi.run pins s σ H _ I h) fun xv s1 hx => thn hx fun itv s2 h2 => ?_)
  obtain ⟨it, fp, tn, J, H2, e, I2, T, st2, f2, q⟩ := h2
  subst e
  refine PpSet.newSet_ok (newEnv_comp ?_)
  generalize hD : s2.heap.objs.size = D
  have hDn : H2 D = none := I2.hok.fresh (Nat.le_of_eq hD)
  obtain ⟨W, ⟨m0, w0⟩, turn⟩ := q D hDn
  generalize hs3 : ({ s2 with heap := s2.heap.push { cls := .type "set", dict := none, data := .set #[] 0 (.fresh 0 0 (!X.w.params.followText "set-order")) } } : Shared) = s3
  have I3 : Inv X pins σ (upd H2 D (SetMO X.w D [])) s3 := by
    rw [← hs3]
    refine I2.laid (t' := s2.toks) (fun b o e => Heap.get?_push_of_some _ e) (Nat.le_of_eq hD) ?_
    rw [← hD]
    exact setMO_new (setM_fresh X.w)
  have h3 : s3.heap = s2.heap.push { cls := .type "set", dict := none, data := .set #[] 0 (.fresh 0 0 (!X.w.params.followText "set-order")) } := by rw [← hs3]
  have sz : ∀ b ∈ fp, b < s2.heap.objs.size := fun b hb => by
    obtain ⟨o, e, _⟩ := T.obj _ _ st2 b hb
    exact Heap.lt_size e
  have f3 : ∀ b ∈ fp, FpOk X pins (upd H2 D (SetMO X.w D [])) b ∧ b < s3.heap.objs.size := fun b hb => by
    have hlt := sz b hb
    refine ⟨⟨?_, (f2 b hb).2⟩, by rw [h3, Heap.size_push]; exact Nat.lt_succ_of_lt hlt⟩
    rw [upd_ne (by rw [← hD]; exact Nat.ne_of_lt hlt)]
    exact (f2 b hb).1
  have st3 : tn 0 s3.heap := T.keep _ _ _ st2 fun b _ o e => by rw [h3]; exact Heap.get?_push_of_some _ e
  have I4 := block_start I3 ok hN f3
  generalize hH3 : upd H2 D (SetMO X.w D []) = H3 at I3 I4 w0 f3
  have pg := hg s3 H3 s3.heap.objs.size (cellsFrom (s3.heap.objs.size + 1) scope.names (cloFrom X.env.cells scope.names [])) fp
  have pt := ht s3 H3 s3.heap.objs.size (cellsFrom (s3.heap.objs.size + 1) scope.names (cloFrom X.env.cells scope.names [])) fp
  have pe := he s3 H3 s3.heap.objs.size (cellsFrom (s3.heap.objs.size + 1) scope.names (cloFrom X.env.cells scope.names [])) fp
  show codeAny _ _ (.compStart (.SetComp elt [⟨tg, iter, ifs, 0⟩] scope pos) 0 (.ref it) (.ref D) (compEnvC scope (cellsFrom (s3.heap.objs.size + 1) scope.names (cloFrom X.env.cells scope.names [])) s3.heap.objs.size X.env)) (compPost (model X.prog X.w) X.A X.xe use Qf (.ref D) s3.heap.objs.size) { s3 with heap := pushCells (s3.heap.push { cls := .type "dict", data := .dict #[] }) scope.names }
  have nfp : ∀ b ∈ fp, H3 b = none := fun b hb => (f3 b hb).1.1
  generalize hce : compEnvC scope (cellsFrom (s3.heap.objs.size + 1) scope.names (cloFrom X.env.cells scope.names [])) s3.heap.objs.size X.env = ce at I4 pg pt pe ⊢
  have cL : ce.locals = s3.heap.objs.size := by subst hce; rfl
  generalize hs4 : ({ s3 with heap := pushCells (s3.heap.push { cls := .type "dict", data := .dict #[] }) scope.names } : Shared) = s4 at I4 ⊢
  have st4 : tn 0 s4.heap := T.keep _ _ _ st3 fun b _ o e => by rw [← hs4]; exact pushCells_keeps _ _ _ _ (Heap.get?_push_of_some _ e)
  have stat : ∀ {σ' : L2.St} {H' : Hp} {s' : Shared}, Inv (X.blk s3 H3 scope ce fp) [] σ' H' s' → (∀ b ∈ fp, H' b = none) → ∀ b ∈ fp, FpOk (X.blk s3 H3 scope ce fp) [] H' b := fun {σ' H' s'} I' hn b hb =>
    ⟨hn b hb, (I'.ok.exf b hb).1, I'.ok.exfs b hb, .inl hb, fun x c e => (I'.ok.exf b hb).2 x c e, fun p hp => absurd (show p ∈ ([] : List (Addr × Obj)) ++ [] from hp) (by simp)⟩
  have loop : codeAny (model X.prog X.w) X.A (.compLoop (.SetComp elt [⟨tg, iter, ifs, 0⟩] scope pos) 0 (.ref it) (.ref D) ce) (compPost (model X.prog X.w) X.A X.xe use Qf (.ref D) s3.heap.objs.size) s4 := by
    refine PpSet.compLoopS_any (fun n s' => ∃ i H', Inv (X.blk s3 H3 scope ce fp) [] (wipe σ (own.map (·.2))) H' s' ∧ tn i s'.heap ∧ (∀ b ∈ fp, H' b = none) ∧ W i n H') ?_ m0 ⟨0, H3, I4, st4, nfp, w0⟩
    rintro n s5 ⟨i, H5, I5, st5, n5, w5⟩
    rcases turn i n H5 w5 with ⟨stop, qq⟩ | ⟨go, Nx, hNx, step⟩
    · refine thnF (T.done (X.blk s3 H3 scope ce fp) rfl rfl rfl hc i [] s5 _ H5 (fun _ _ => False) I5 (stat I5 n5) st5 stop) fun r s6 ⟨hr, I6⟩ => ?_
      subst hr
      have I7 : Inv X pins σ H5 s6 := I3.call' (ch := fp) I6.os I6.base I6.hok I6.bare fun b hb => ⟨(f3 b hb).1.2.2.2.1, (f3 b hb).1.2.1, (f3 b hb).1.2.2.2.2.1, (f3 b hb).1.2.2.2.2.2⟩
      have nC : H5 s3.heap.objs.size = none := cL ▸ (show H5 ce.locals = none from I6.free)
      obtain ⟨m, hn, _⟩ := I6.loc
      have hn : s6.heap.Ns ce.locals m := hn
      rw [cL] at hn
      exact hRR D s3.heap.objs.size s6 m H5 I7 qq hn (I3.fpOk (Nat.le_refl _) nC)
    · refine thnF (T.item (X.blk s3 H3 scope ce fp) rfl rfl rfl hc i [] s5 _ H5 (fun _ _ => False) I5 (stat I5 n5) st5 go) fun r s6 ⟨u, hr, h6⟩ => ?_
      subst hr
      refine thnF h6 fun _ s7 ⟨x, H7, I7, r7, y7, st7, n7⟩ => ?_
      have I7' := I7.pinned (stat I7 n7) (T.obj _ _ st7)
      refine thnF (pg.run _ s7 _ H7 x u _ I7' r7 (step x H7 y7)) fun _ s8 ⟨σ8, H8, I8, hw8, q8⟩ => ?_
      refine thnF (pt.run _ s8 σ8 H8 _ I8 q8) fun b s9 ⟨H9, I9, q9⟩ => ?_
      have fin : ∀ {s' : Shared} {H' : Hp}, Inv (X.blk s3 H3 scope ce fp) ([] ++ pinsAt fp s7.heap) σ8 H' s' → Nx H' → ∃ m, m < n ∧ ∃ i H', Inv (X.blk s3 H3 scope ce fp) [] (wipe σ (own.map (·.2))) H' s' ∧ tn i s'.heap ∧ (∀ b ∈ fp, H' b = none) ∧ W i m H' := fun {s' H'} I' nx => by
        obtain ⟨m', hm, w'⟩ := hNx H' nx
        have pin' : ∀ b ∈ fp, ∀ o, s7.heap.get? b = some o → s'.heap.get? b = some o ∧ H' b = none := fun b hb o e =>
          let z := I'.pin (b, o) (List.mem_append_right _ (List.mem_append_right _ (mem_pinsAt hb e)))
          ⟨z.1, z.2.1⟩
        refine ⟨m', hm, i + 1, H', (I'.unpinned (pins := [])).weak (by rw [← hw8, wipe_length]) (fun j v e => ?_), T.keep _ _ _ st7 fun b hb o e => (pin' b hb o e).1, fun b hb => ?_, w'⟩
        · rw [← hw8] at e
          exact (wipe_some e).1
        · obtain ⟨o, e, _⟩ := T.obj _ _ st7 b hb
          exact (pin' b hb o e).2
      cases b with
      | false =>
        simp only [Bool.false_eq_true, if_false] at q9 ⊢
        exact fin I9 q9
      | true =>
        simp only [if_true] at q9 ⊢
        refine thnF (pe.run _ s9 σ8 H9 _ I9 q9) fun z s10 ⟨yv, H10, I10, r10, cb, L0, ey, hD10, hz10, nx⟩ => ?_
        subst ey
        exact addM_ok (X := X.blk s3 H3 scope ce fp) I10 hD10 r10 hz10 fun s11 I11 => fin I11 (nx (set_noCode (X := X.blk s3 H3 scope ce fp) I10 hD10))
  exact PpSet.codeAny_compStart_set loop (T.self X.A 0 _ _ _ st4 loop)
theorem pe_sm {elt tg iter : Expr} {ifs : List Expr} {scope : Scope} {own : List (PySem.Str × Nat)} {pos : Pos} {wi : TI} {g : TG} {tt : TT} {te : TE} (hc : X.calm = true) (hN : X.N.Nodup) (hi : PI X tg iter wi) (ok : BlkOk X.N X.env.scope scope own)
    (hg : ∀ (s : Shared) (H : Hp) (C : Addr) (cl : List (PySem.Str × Addr)) (fp : List Addr), PG (X.blk s H scope (compEnvC scope cl C X.env) fp) tg g) (ht : ∀ (s : Shared) (H : Hp) (C : Addr) (cl : List (PySem.Str × Addr)) (fp : List Addr), PTs (X.blk s H scope (compEnvC scope cl C X.env) fp) ifs tt)
    (he : ∀ (s : Shared) (H : Hp) (C : Addr) (cl : List (PySem.Str × Addr)) (fp : List Addr), PE (X.blk s H scope (compEnvC scope cl C X.env) fp) elt te) (hs : ∀ x, foldedSetIterable iter X.env x = pure x := by intro _; rfl) :
    PE X (.SetComp elt [⟨tg, iter, ifs, 0⟩] scope pos) (tSm X.w wi g tt te (own.map (·.2))) := ⟨fun pins s σ H Q I h => by
  rw [PpSet.eval_SetComp]
  refine sm_core hc hN I hi ok hg ht he hs h fun D C s' m H' I' q hn f => ⟨m, hn, fun h'' sb => ?_⟩
  obtain ⟨f0, f1, f2, f3, f4, f5⟩ := f
  exact ⟨.ref D, H', I'.turned (t' := s'.toks) (fun b o hb e => (sb.2 b hb).trans e) f0 f1 f3 f4 f5, rfl, q⟩⟩
end
end Den
set_option maxRecDepth 100000
set_option maxHeartbeats 2000000
/-! Set comprehensions, read by a plain function. -/
namespace Den
open PySem PySem.Spec L2 PyProof.Rows
section
variable {K : PySem.W.Frag} {G : Gx} {H H1 : Hp} {ρ ρ1 : List Addr} {h : List O} {D : Addr} {f : Heap → Prop} {u : HO}
theorem ne_ext {a : Addr} {o : HO} (hD : H D = some (.ext f)) (e : H a = some o) (n : ∀ f, o ≠ .ext f) : a ≠ D := fun z => by
  subst z
  rw [hD] at e
  exact n f (Option.some.inj e).symm
theorem sqT_ext (hD : H D = some (.ext f)) {a : Addr} {vs : List V} (h : SqT K H a vs) : SqT K (upd H D u) a vs := by
  rcases h with (h | ⟨o, h⟩) | h
  · exact .inl (.inl (by rw [upd_ne (ne_ext hD h (fun f z => nomatch z))]; exact h))
  · exact .inl (.inr ⟨o, by rw [upd_ne (ne_ext hD h (fun f z => nomatch z))]; exact h⟩)
  · exact .inr h
mutual
theorem VR.updE (hD : H D = some (.ext f)) : ∀ {v : V} {w : W}, VR K H ρ v w → VR K (upd H D u) ρ v w
  | v, .non, h => h
  | v, .bl _, h => h
  | v, .int _, h => h
  | v, .str _, h => h
  | v, .tup xs, h => by
    unfold VR at h ⊢
    obtain ⟨a, vs, e, q, r⟩ := h
    exact ⟨a, vs, e, sqT_ext hD q, VRs.updE hD r⟩
  | v, .rol xs, h => by
    unfold VR at h ⊢
    obtain ⟨a, vs, e, q, r⟩ := h
    refine ⟨a, vs, e, ?_, VRs.updE hD r⟩
    rcases q with ⟨q | ⟨o, q⟩, n⟩ | q
    · exact .inl ⟨.inl (by rw [upd_ne (ne_ext hD q (fun f z => nomatch z))]; exact q), n⟩
    · exact .inl ⟨.inr ⟨o, by rw [upd_ne (ne_ext hD q (fun f z => nomatch z))]; exact q⟩, n⟩
    · exact .inr q
  | v, .ref n, h => by
    unfold VR at h ⊢
    exact h
theorem VRs.updE (hD : H D = some (.ext f)) : ∀ {vs : List V} {ws : List W}, VRs K H ρ vs ws → VRs K (upd H D u) ρ vs ws
  | vs, [], h => h
  | vs, w :: ws, h => by
    unfold VRs at h ⊢
    obtain ⟨v, r, e, q, z⟩ := h
    exact ⟨v, r, e, VR.updE hD q, VRs.updE hD z⟩
end
theorem KRs.updE (hD : H D = some (.ext f)) : ∀ {ps : List (Key × V)} {ws : List (W × W)}, KRs K H ρ ps ws → KRs K (upd H D u) ρ ps ws
  | vs, [], h => h
  | vs, (k, w) :: ws, h => by
    unfold KRs at h ⊢
    obtain ⟨q, v, r, e, a, b, c⟩ := h
    exact ⟨q, v, r, e, a.updE hD, b.updE hD, KRs.updE hD c⟩
theorem FRs.updE (hD : H D = some (.ext f)) : ∀ {ps : List (Str × V)} {ws : List (Str × W)}, FRs K H ρ ps ws → FRs K (upd H D u) ρ ps ws
  | vs, [], h => h
  | vs, (k, w) :: ws, h => by
    unfold FRs at h ⊢
    obtain ⟨v, r, e, b, c⟩ := h
    exact ⟨v, r, e, b.updE hD, FRs.updE hD c⟩
theorem SR.updE {σ : L2.St} {e : Env} (hD : H D = some (.ext f)) (s : SR K H ρ σ e) : SR K (upd H D u) ρ σ e := ⟨s.len, fun i w h => by
  obtain ⟨v, a, b⟩ := s.at_ i w h
  exact ⟨v, a, b.updE hD⟩⟩
theorem HR.updE (hD : H D = some (.ext f)) (hq : ∀ q, HO.ext f ≠ LamX.CodeO D q) (r : HR K G H ρ h) : HR K G (upd H D u) ρ h := by
  refine ⟨r.len, r.nd, fun n a o e1 e2 => ?_, fun p hp => ?_⟩
  · have q := r.ob n a o e1 e2
    cases o with
    | lst xs => obtain ⟨vs, e, q⟩ := q; exact ⟨vs, by rw [upd_ne (ne_ext hD e (fun f z => nomatch z))]; exact e, q.updE hD⟩
    | dic xs => obtain ⟨vs, e, q⟩ := q; exact ⟨vs, by rw [upd_ne (ne_ext hD e (fun f z => nomatch z))]; exact e, q.updE hD⟩
    | dik xs => obtain ⟨o, vs, e, q⟩ := q; exact ⟨o, vs, by rw [upd_ne (ne_ext hD e (fun f z => nomatch z))]; exact e, q.updE hD⟩
    | ins c fs => obtain ⟨C, dx, ps, c, e, q⟩ := q; exact ⟨C, dx, ps, c, by rw [upd_ne (ne_ext hD e (fun f z => nomatch z))]; exact e, q.updE hD⟩
  · obtain ⟨ps, e1, e2, e3⟩ := r.tb p hp
    refine ⟨ps, by rw [upd_ne (ne_ext hD e1 (fun f z => nomatch z))]; exact e1, e2, fun pos cv hc => ?_⟩
    obtain ⟨c, e, q⟩ := e3 pos cv hc
    refine ⟨c, e, ?_⟩
    rw [upd_ne fun z => by
      subst z
      rw [hD] at q
      exact hq _ (Option.some.inj q)]
    exact q
theorem Ext.updE (hD : H D = some (.ext f)) (n1 : H1 D = none) (x : Ext H1 ρ1 H ρ) : Ext H1 ρ1 (upd H D u) ρ :=
  ⟨fun a o e t n => by rw [upd_ne (ne_of_none e n1)]; exact x.fr a o e t n, x.pre, x.new, x.mu, fun a o u' e => by rw [upd_ne (ne_of_none e n1)]; exact x.lk a o u' e⟩
end
/-! ### the plain reading -/
def setGo (src : Src) (t : Tg) (cond : M Bool) (elt : M W) (e0 : Env) : Nat → Nat → List Key → List O → Out (List Key)
  | 0, _, _, _ => .bad
  | n + 1, i, L, h => match src i h with
    | some (some w) => match t w e0 with
      | some e1 => match cond e1 h with
        | .ok b h2 => if b = true then match elt e1 h2 with
            | .ok y h3 => match wKey y with
              | some k => if L.length < 4000 then setGo src t cond elt e0 n (i + 1) (addK L k) h3 else .bad
              | none => .bad
            | _ => .bad
          else setGo src t cond elt e0 n (i + 1) L h2
        | _ => .bad
      | none => .bad
    | some none => .ok L h
    | none => .bad
def mSetC (n : Nat) (own : List Nat) (it : M Src) (t : Tg) (cond : M Bool) (elt : M W) : M (List Key) := fun e h => (it e h).bnd fun src h => setGo src t cond elt (wipeE e own) n 0 [] h
abbrev SetRel (w : World) : Hp → List Addr → V → List Key → Prop := fun H ρ v L => ∃ a, v = .ref a ∧ H a = some (SetMO w a L)
theorem sm_post {w : World} {K : PySem.W.Frag} {G : Gx} {Wx : WX} {n : Nat} {own : List Nat} {it : M Src} {t : Tg} {g : TG} {cond : M Bool} {elt : M W} (ht : TgOk K G own g t) {σ : L2.St} {H : Hp} {Q : VK} (p : rd K G Wx (SetRel w) (mSetC n own it t cond elt) σ H Q) :
    tSm w (rd K G Wx (JRel K G) it) g (rd K G noW BRel cond) (rd K G noW (VRel K) elt) own σ H Q := by
  refine rd.bnd (Rel := JRel K G) p fun H0 ρ0 e sr J H1 ρ1 h1 src x r q p1 => ?_
  intro D hD
  obtain ⟨r2, x2⟩ := r.other (o := SetMO w D []) hD
  have nD : D ∉ ρ1 := fun z => by
    obtain ⟨o, e, _⟩ := r.mu D z
    rw [hD] at e; cases e
  have sr2 := (sr.mono x).mono x2
  -- D is not ours later
  have notin : ∀ {H ρ}, Ext (upd H1 D (SetMO w D [])) ρ1 H ρ → D ∉ ρ := fun {H ρ} x hx => by
    rcases x.new D hx nD with z | ⟨u, z, q⟩
    · rw [upd_same] at z; cases z
    · rw [upd_same] at z; cases z; cases q
  refine ⟨fun i m H => ∃ ρ h L, H D = some (SetMO w D L) ∧ D ∉ ρ ∧ Ext H1 ρ1 H ρ ∧ HR K G H ρ h ∧ SR K H ρ (L2.wipe σ own) (wipeE e own) ∧ Post K G (fun cls d H' => Wx cls d σ H') (SetRel w) Q H1 ρ1 (setGo src t cond elt (wipeE e own) m i L h), ⟨n, ρ1, h1, [], upd_same, nD, x2, r2, sr2.wipe own, p1⟩, fun i m H p => ?_⟩
  obtain ⟨ρ, h, L, hL, nd, x1, hr, srw, p⟩ := p
  obtain ⟨j1, j2⟩ := q i H ρ h x1 hr
  cases m with
  | zero => exact False.elim p
  | succ m =>
    unfold setGo at p
    cases hs : src i h with
    | none => rw [hs] at p; exact False.elim p
    | some o =>
      rw [hs] at p
      cases o with
      | none => exact .inl ⟨j1 hs, p ρ H _ x1 hr ⟨D, rfl, hL⟩⟩
      | some w' =>
        obtain ⟨k1, k2⟩ := j2 w' hs
        refine .inr ⟨k1, fun H' => ∃ ρ h L, H' D = some (SetMO w D L) ∧ D ∉ ρ ∧ Ext H1 ρ1 H' ρ ∧ HR K G H' ρ h ∧ SR K H' ρ (L2.wipe σ own) (wipeE e own) ∧ Post K G (fun cls d H' => Wx cls d σ H') (SetRel w) Q H1 ρ1 (setGo src t cond elt (wipeE e own) m (i + 1) L h), fun H' p => ⟨m, Nat.lt_succ_self m, p⟩, fun y H' hy => ?_⟩
        obtain ⟨x3, r3, vy⟩ := k2 y H' hy
        have keepD : ∀ {H ρ H' ρ'} {L : List Key}, H D = some (SetMO w D L) → D ∉ ρ → Ext H ρ H' ρ' → H' D = some (SetMO w D L) ∧ D ∉ ρ' := fun {H ρ H' ρ' L} e n x => by
          refine ⟨x.fr _ _ e rfl n, fun hx => ?_⟩
          rcases x.new D hx n with z | ⟨u, z, q⟩
          · rw [e] at z; cases z
          · rw [e] at z; cases z; cases q
        obtain ⟨hL3, nd3⟩ := keepD hL nd x3
        dsimp only at p
        cases hte : t w' (wipeE e own) with
        | none => rw [hte] at p; exact False.elim p
        | some e1 =>
          rw [hte] at p
          refine ht H' ρ h _ _ e1 y w' _ r3 (srw.mono x3) vy hte fun σ2 s2 hw => ⟨?_, ?_⟩
          · rw [hw]
            apply List.ext_getElem?
            intro j
            by_cases hj : j ∈ own
            · rw [wipe_in hj, wipe_in hj, L2.wipe_length]
            · rw [wipe_get hj]
          · dsimp only at p
            cases hc : cond e1 h with
            | bad => rw [hc] at p; exact False.elim p
            | exc c q h' => rw [hc] at p; exact False.elim p
            | ok b h2 =>
              rw [hc] at p
              refine rd_pure r3 s2 hc fun ρ4 H4 b' x4 r4 eb => ?_
              cases eb
              obtain ⟨hL4, nd4⟩ := keepD hL3 nd3 x4
              cases b with
              | false => exact iteF ⟨ρ4, h2, L, hL4, nd4, (x1.trans x3).trans x4, r4, (srw.mono x3).mono x4, p⟩
              | true =>
                dsimp only at p
                rw [if_pos rfl] at p
                refine iteT ?_
                cases he : elt e1 h2 with
                | bad => rw [he] at p; exact False.elim p
                | exc c q h' => rw [he] at p; exact False.elim p
                | ok y h3 =>
                  rw [he] at p
                  refine rd_pure r4 (s2.mono x4) he fun ρ5 H5 v x5 r5 rv => ?_
                  obtain ⟨hL5, nd5⟩ := keepD hL4 nd4 x5
                  dsimp only at p
                  cases hk : wKey y with
                  | none => rw [hk] at p; exact False.elim p
                  | some k =>
                    rw [hk] at p
                    dsimp only at p
                    split at p
                    · rename_i hz
                      have xx := ((x1.trans x3).trans x4).trans x5
                      refine ⟨k, L, vr_key hk rv, hL5, by unfold scanBound; omega, fun ap => ⟨ρ5, h3, addK L k, upd_same, nd5, xx.updE hL5 hD, r5.updE hL5 ap, (((srw.mono x3).mono x4).mono x5).updE hL5, p⟩⟩
                    · exact False.elim p
end Den
set_option maxRecDepth 100000
set_option maxHeartbeats 2000000
/-! sorted and len of a set comprehension. -/
namespace Den
open PySem PySem.Spec L2 PyProof.Rows PySem.W LamX
def kW : Key → W
  | .inl i => .int i
  | .inr x => .str x.cps.toList
def kD : Key → PyData
  | .inl i => .int i
  | .inr x => .str x
theorem vr_kW {K : PySem.W.Frag} {H : Hp} {ρ : List Addr} (k : Key) : VR K H ρ (kV k) (kW k) := by
  cases k with
  | inl i => exact vr_int
  | inr x => exact vr_str' (by simp)
theorem keyIs_rel {k : Key} {v : Value} (h : keyIs k v = true) : RelV (kV k) v := by
  rcases keyIs_shape h with ⟨i, t, rfl, rfl⟩ | ⟨x, t, rfl, rfl⟩ <;> exact ⟨t, rfl⟩
theorem keyIs_reads {h : Heap} {k : Key} {v : Value} (e : keyIs k v = true) : ∃ as, Reads h v (kD k) as := by
  rcases keyIs_shape e with ⟨i, t, rfl, rfl⟩ | ⟨x, t, rfl, rfl⟩
  · exact ⟨[], .int i t⟩
  · exact ⟨[], .str x t⟩
theorem key_anti {a b : Key} (al : alike (kD a) (kD b) = true) (h1 : dataLe false kD a b = true) (h2 : dataLe false kD b a = true) : a = b := by
  rw [dataLe_eq] at h1 h2
  have h1 : (!dataLt (kD b) (kD a)) = true := h1
  have h2 : (!dataLt (kD a) (kD b)) = true := h2
  rw [Bool.not_eq_true'] at h1 h2
  cases a with
  | inl i => cases b with
    | inl j =>
      rw [show kD (.inl i) = .int i from rfl, show kD (.inl j) = .int j from rfl, dataLt_int] at h1 h2
      rw [decide_eq_false_iff_not] at h1 h2
      congr 1
      omega
    | inr y => exact absurd al Bool.false_ne_true
  | inr x => cases b with
    | inl j => exact absurd al Bool.false_ne_true
    | inr y =>
      rw [show kD (.inr x) = .str x from rfl, show kD (.inr y) = .str y from rfl, dataLt_str] at h1 h2
      rw [decide_eq_false_iff_not] at h1 h2
      have e : x.cps.toList = y.cps.toList := List.le_antisymm (List.not_lt.mp h1) (List.not_lt.mp h2)
      congr 1
      cases x; cases y
      simp only [Str.mk.injEq]
      exact Array.toList_inj.mp e
theorem sortKey_perm {L ks : List Key} (p : ks.Perm L) (al : AllAlike (L.map kD)) : ks.mergeSort (dataLe false kD) = L.mergeSort (dataLe false kD) := by
  have T := sortLe_total (listOrd itemOrd) false fun b : Key => keyToks (kD b)
  refine List.Perm.eq_of_pairwise (le := fun a b => dataLe false kD a b = true) (fun a b ha hb h1 h2 => key_anti ?_ h1 h2) (List.pairwise_mergeSort (fun a b c => T.trans a b c) (fun a b => ?_) _) (List.pairwise_mergeSort (fun a b c => T.trans a b c) (fun a b => ?_) _) (((List.mergeSort_perm _ _).trans p).trans (List.mergeSort_perm _ _).symm)
  · exact al _ (List.mem_map_of_mem (p.mem_iff.mp ((List.mergeSort_perm _ _).mem_iff.mp ha))) _ (List.mem_map_of_mem ((List.mergeSort_perm _ _).mem_iff.mp hb))
  · rw [Bool.or_eq_true]; exact T.total a b
  · rw [Bool.or_eq_true]; exact T.total a b
theorem kindOk_perm {ds es : List PyData} (p : ds.Perm es) (h : kindOk es = true) : kindOk ds = true := by
  unfold kindOk at h ⊢
  rw [List.all_eq_true] at h ⊢
  intro d hd
  have := h d (p.mem_iff.mp hd)
  simp only [Bool.and_eq_true] at this ⊢
  refine ⟨⟨?_, this.1.2⟩, this.2⟩
  rw [List.all_eq_true]
  exact fun e he => List.all_eq_true.1 this.1.1 e (p.mem_iff.mp he)
section
variable {P : Program} {w : World} {A : Around} {s : Shared} {a : Addr} {L : List Key}
theorem each_keys : ∀ {l : List (Int × Value)}, (∀ e ∈ l, MOk w e) → EachIs (fun v k => keyIs k v = true) (l.map (·.2)) (l.map mK)
  | [], _ => .nil
  | e :: l, g => .cons ((mok_is (g e List.mem_cons_self) _).2 rfl) (each_keys fun e he => g e (List.mem_cons_of_mem _ he))
theorem each_perm {α β : Type} {R : α → β → Prop} {us vs : List α} (p : us.Perm vs) : ∀ {bs : List β}, EachIs R vs bs → ∃ cs, cs.Perm bs ∧ EachIs R us cs := by
  induction p with
  | nil => exact fun {bs} e => ⟨bs, List.Perm.refl _, e⟩
  | cons x p ih =>
    intro bs e
    cases e with
    | cons r e =>
      obtain ⟨cs, q, e'⟩ := ih e
      exact ⟨_ :: cs, q.cons _, .cons r e'⟩
  | swap x y l =>
    intro bs e
    cases e with
    | cons r e => cases e with
      | cons r' e => exact ⟨_, List.Perm.swap _ _ _, .cons r' (.cons r e)⟩
  | trans p q ih1 ih2 =>
    intro bs e
    obtain ⟨cs, z, e'⟩ := ih2 e
    obtain ⟨ds, z', e''⟩ := ih1 e'
    exact ⟨ds, z'.trans z, e''⟩
theorem coll_set (hh : A.handled = none) (R : SetM w s.heap a L) (hb : AllBare s.gens) : Coll P w A s (.ref a) (fun vs => ∃ ks, ks.Perm L ∧ EachIs (fun v k => keyIs k v = true) vs ks) := fun Q E h => by
  obtain ⟨o, es, ep, t, ho, hex, hd, g, pm, nd, hs, hf, hr, hl⟩ := R
  refine L2.collect_set hh ⟨o, ho, hex.1, hd⟩ hf hs hr hl fun s' vs k1 hz g1 o1 p => h s' vs k1 (by rw [g1]; exact hb) o1 ?_
  obtain ⟨cs, q, e⟩ := each_perm p (each_keys g)
  exact ⟨cs, q.trans pm, e⟩
end
/-- e gives a set -/
def SSet (G : Gx) (X : Cx) (e : Expr) (m : M (List Key)) : Prop := ∀ Wx, Takes X Wx → PE X e (rd X.K G Wx (SetRel X.w) m)
section
variable {G : Gx} {X : Cx} {e : Expr} {ms : M (List Key)} {pos p : Pos}
theorem sset_c {n : Nat} {elt tg iter : Expr} {ifs : List Expr} {scope : Scope} {own : List (Str × Nat)} {it : M Src} {t : Tg} {g : TG} {cond : M Bool} {melt : M W} (hN : X.N.Nodup) (hi : SI G X tg iter it) (ok : BlkOk X.N X.env.scope scope own)
    (hg : ∀ (s : Shared) (H : Hp) (C : Addr) (cl : List (Str × Addr)) (fp : List Addr), PG (X.blk s H scope (compEnvC scope cl C X.env) fp) tg g) (ht : TgOk X.K G (own.map (·.2)) g t)
    (hc : ∀ (s : Shared) (H : Hp) (C : Addr) (cl : List (Str × Addr)) (fp : List Addr), STs G (X.blk s H scope (compEnvC scope cl C X.env) fp) ifs cond)
    (he : ∀ (s : Shared) (H : Hp) (C : Addr) (cl : List (Str × Addr)) (fp : List Addr), SE G (X.blk s H scope (compEnvC scope cl C X.env) fp) elt melt)
    (hcalm : X.calm = true := by rfl) (hs : ∀ x, foldedSetIterable iter X.env x = pure x := by intro _; rfl) : SSet G X (.SetComp elt [⟨tg, iter, ifs, 0⟩] scope pos) (mSetC n (own.map (·.2)) it t cond melt) := fun Wx tk =>
  (pe_sm hcalm hN (hi Wx tk) ok hg (fun s H C cl fp => hc s H C cl fp noW L2.takes0) (fun s H C cl fp => he s H C cl fp noW L2.takes0) hs).imp fun σ H Q p => sm_post ht p
/-- sorted of a set -/
def mSortedS (ms : M (List Key)) : M W := fun e h => (ms e h).bnd fun L h => if kindOk (L.map kD) = true then .ok (.ref h.length) (h ++ [.lst ((L.mergeSort (dataLe false kD)).map kW)]) else .bad
theorem each_keyV : ∀ {out : List Value} {ks : List Key}, EachIs (fun v k => keyIs k v = true) out ks → Vals (ks.map kV) out
  | _, _, .nil => .nil
  | _, _, .cons r h => .cons (keyIs_rel r) (each_keyV h)
theorem vrs_kW {K : PySem.W.Frag} {H : Hp} {ρ : List Addr} : ∀ ks : List Key, VRs K H ρ (ks.map kV) (ks.map kW)
  | [] => .nil
  | k :: ks => .cons (vr_kW k) (vrs_kW ks)
theorem se_sortedS (hi : SSet G X e ms) (hc : X.calm = true) (hu : X.A.units + 64 < cLine) (hg : Gl X "sorted") (hm : X.mg "sorted" = none) (hv : bootBuiltins "sorted" = some (.builtin "sorted") := by decide +kernel)
    (he : starEach [e] X.env = (false, eval e X.env) :: starEach [] X.env := by rfl) : SE G X (.Call (.Name "sorted" p) [e] [] pos) (mSortedS ms) := fun Wx tk => by
  refine ⟨fun pins s σ H Q I h => ?_⟩
  refine wpAny_Call_Name_kw (ld_blt I hg hm hv ?_ (by decide) (by decide))
  refine PyProof.Rows.callWith_builtin1 ?_ he (by rfl)
  rw [he]
  have h2 := rd.bnd (Rel := SetRel X.w) (Q' := fun v H1 => ∃ ρ1 h1 L, SetRel X.w H1 ρ1 v L ∧ HR X.K G H1 ρ1 h1 ∧ Post X.K G (fun cls d H' => Wx cls d σ H') (VRel X.K) Q H1 ρ1 (if kindOk (L.map kD) = true then .ok (.ref h1.length) (h1 ++ [.lst ((L.mergeSort (dataLe false kD)).map kW)]) else .bad)) h fun H0 ρ0 e sr v H1 ρ1 h1 w x r q p1 => ⟨ρ1, h1, w, q, r, p1⟩
  refine Calls.spliced_cons (thn ((hi Wx tk).run pins s σ H _ I h2) fun u s1 ⟨v, H1, I1, rv, ρ1, h1, L, ⟨a, ev, hL⟩, r1, p1⟩ => Calls.spliced_nil ?_)
  subst ev
  cases rv
  split at p1
  · rename_i hk
    have R := setMO_get I1 hL
    have hlen : L.length < scanBound := by
      obtain ⟨o, es, ep, t, ho, hex, hd, g, pm, nd, hs, _⟩ := R
      rw [← pm.length_eq, List.length_map, Array.length_toList]; exact hs
    refine sorted_coll (β := Key) (Rel := fun v k => keyIs k v = true) (enc := kD) (Ok := fun ks => ks.Perm L) (coll_set (A := X.A.in1) (I1.ok.hd hc) R I1.bare) (args_sorted1 _) (fun ks ok => ?_) (fun hh v k kp q => keyIs_reads q) fun s' out c b ks ok k g o ha e1 er => ?_
    · have pk := ok.map kD
      have hk' := kindOk_perm pk hk
      exact ⟨kindOk_alike hk', kindOk_sortable hk', by rw [ok.length_eq]; exact fits_of_scanBound hlen, fun b hb => by
        have := kindOk_depth hk' (kD b) (List.mem_map_of_mem hb)
        omega⟩
    · rw [sortKey_perm ok (kindOk_alike hk)] at er
      refine ⟨.ref b, _, inv_newList I1 k g o ha e1 (each_keyV er) (by rw [List.length_map, List.length_mergeSort]; exact fits_of_scanBound hlen), rfl, ?_⟩
      exact new_lst r1 (vrs_kW _) p1 b (I1.hok.fresh ha)
  · exact p1.elim
/-- len of a set -/
def mLenS (ms : M (List Key)) : M W := fun e h => (ms e h).bnd fun L h => .ok (.int L.length) h
theorem se_lenS (hi : SSet G X e ms) (hg : Gl X "len") (hm : X.mg "len" = none) (he : starEach [e] X.env = (false, eval e X.env) :: starEach [] X.env := by rfl) : SE G X (.Call (.Name "len" p) [e] [] pos) (mLenS ms) := fun Wx tk => by
  refine ⟨fun pins s σ H Q I h => ?_⟩
  refine Call_ (ld_blt I hg hm boot_len ?_)
  have h2 := rd.bnd (Rel := SetRel X.w) (Q' := fun v H1 => ∃ ρ1 h1 L, SetRel X.w H1 ρ1 v L ∧ HR X.K G H1 ρ1 h1 ∧ Post X.K G (fun cls d H' => Wx cls d σ H') (VRel X.K) Q H1 ρ1 (.ok (.int L.length) h1)) h fun H0 ρ0 e sr v H1 ρ1 h1 w x r q p1 => ⟨ρ1, h1, w, q, r, p1⟩
  refine PyProof.Rows.callWith_builtin1 (PyProof.Rows.args_cons (thn ((hi Wx tk).run pins s σ H _ I h2) fun u s1 ⟨v, H1, I1, rv, ρ1, h1, L, ⟨a, ev, hL⟩, r1, p1⟩ => PyProof.Rows.args_nil ?_) he) he rfl
  subst ev
  cases rv
  have R := setMO_get I1 hL
  obtain ⟨o, es, ep, t, ho, hex, hd, g, pm, nd, hs, hf, _⟩ := R
  have hn : es.size = L.length := by rw [← Array.length_toList, ← List.length_map (f := mK), pm.length_eq]
  refine call_len_set ho hex hd hf (by rw [hn] at hs ⊢; unfold scanBound at hs; omega) ⟨.int L.length, H1, I1.tok _, ⟨_, by rw [hn]⟩, p1 ρ1 H1 _ (Ext.refl r1) r1 vr_int⟩
end
end Den
set_option maxRecDepth 100000
set_option maxHeartbeats 2000000
/-! An own exception's __init__ that says super().__init__(a text) and keeps one field. -/
namespace Den
open PySem PySem.Spec PySem.Calls L2 PyProof.Rows PySem.W NdefX
section
variable {X : Cx} {pins : List (Addr × Obj)} {σ : L2.St} {H : Hp} {s : Shared} {A : Around} {E : Value → Shared → Prop}
/-- the bound __init__ of the built-in class, called -/
theorem call_mw {u a C : Addr} {us : List Value} {Q : Value → Shared → Prop} (T : OexC X.K C) (I : Inv X pins σ H s) (hu : s.heap.get? u = some (kxs_mw "ValueError.__init__" a)) (e : H a = some (exo a C none)) (hl : us.length ≤ sizeLine)
    (h : ∀ s', Inv X pins σ H s' → Q .none s') : wpAny (model X.prog X.w) A (call (.ref u) us) Q E s := by
  obtain ⟨nm, q, N, bs, bm, sn, sub, ab, col, dd, k0, k1, k2, k3, k5, hC, hbm⟩ := T.cls
  obtain ⟨t1, ho⟩ := exo_at I.hok e
  have hC' := I.kIn _ _ hC
  have fin : ∀ h', (∀ b o, b ≠ a → s.heap.get? b = some o → h'.get? b = some o) → h'.get? a = some (excRec (.ref C) s.heap.objs.size none .none .none (.bool false)) → h'.get? s.heap.objs.size = some (excTup us) → Q .none { s with heap := h' } := fun h' k hx _ => by
    have J := I.write (t' := s.toks) (x := a) (e := a) (o := exo a C none) (by rw [e]; exact True.intro) (.inl rfl) k ⟨_, hx⟩ (exo_ok hx)
    have eu : upd H a (exo a C none) = H := by
      funext b
      by_cases hb : b = a
      · rw [hb, upd_same, e]
      · rw [upd_ne hb]
    rw [eu] at J
    exact h _ J
  obtain ⟨hp, g, d, t, os⟩ := s
  refine wpAny_call (codeAny_of_tree ?_)
  show wpAny _ A.in1 (callAny (.ref u) ⟨us, []⟩) _ _ _
  simp only [callAny]
  refine wpAny_bind (wpAny_load hu ?_)
  simp only [kxs_mw, show (Value.type "method-wrapper" == Value.type "method" || Value.type "method-wrapper" == Value.type "builtin_function_or_method" || Value.type "method-wrapper" == Value.type "method-wrapper") = true by decide, if_true]
  refine KFB.if_so (by decide) ?_
  refine wpAny_bind (check_bound_init F.excBase_ValueError.toExcCallFacts hC' ho rfl ?_)
  refine wpAny_bind (wpAny_pure (wpAny_pure ?_))
  refine ⟨plainId_quiet F.excBase_ValueError.init.plain _, codeAny_builtin F.excBase_ValueError.initEntry ?_⟩
  exact exc_init_tree (cls := .ref C) (t0 := t1) (dv := none) (c2 := .none) (c3 := .none) (b4 := .bool false) ho hl fin
end
/-- what the text says of such a def -/
structure ESup (P : Program) (K : PySem.W.Frag) (F : NF) (f D : Addr) (slf fld msg : Str) : Prop where
  fn : ∃ oc od dV kV doc pm an ct osl, K.lookup f = some ⟨oc, od, .func (PySem.W.fnX F.name F.qual F.params F.body F.scope F.cl dV kV doc pm an (.ref F.c) ct), osl⟩
  cd : PySem.W.codeIn K (.ref F.c) F.qual = true
  fst : ∃ ar, (F.params.posonlyargs ++ F.params.args).head? = some ar ∧ ar.arg = slf
  code : ∃ ccl cdd vs ccs file tf, K.lookup F.c = some ⟨ccl, cdd, .fields vs, ccs⟩ ∧ vs[2]? = some (.str file tf) ∧ ((P.main.file : Str) == file) = true
  cell : ∃ cc cl cld csl, F.cl = [(("__class__" : Str), cc)] ∧ K.lookup cc = some ⟨cl, cld, .cell (some (.ref D)), csl⟩
  cls : ∃ cdD, PySem.W.clsIn K D = some cdD
  sub : PySem.W.mroIn K D (.ref D) = some true
  own : OexC K D
  sup : PySem.W.ks_superIn K D D "__init__" = some (some (.builtin "ValueError.__init__"))
  ve : PySem.W.subIn K (.ref D) (.type "ValueError") = some true
  opq : PySem.W.nsIn K cStatics "thirdparty.any" = some none
  no : PySem.W.findIn K (.ref D) fld = some none
  ks : F.scope.names.lookup ("super" : Str) = some .globalImplicit
  kc : F.scope.names.lookup ("__class__" : Str) = some .free
  ka : F.scope.names.lookup slf = some .local
  kind : F.scope.kind = .function
  top : (P.main.scope.names.lookup ("super" : Str)).isSome = false
section
variable {CX : CXT} {P : Program} {w : World} {K : PySem.W.Frag} {mg : Str → Option Value} {base : Heap} {N : List Str} {F : NF} {f D : Addr} {A : Around} {outer : List PySem.Env} {s0 s : Shared} {H0 H : Hp} {E : XK} {slf fld msg : Str} {σ : L2.St} {a : Addr}
theorem super_stmt {p0 p1 p2 p3 p4 p5 : Pos} {j : Nat} {pl : Sem Bool} {Q : Flow → Shared → Prop} {E' : Value → Shared → Prop} (S : ESup P K F f D slf fld msg) (hmg : mg "super" = none) (I : Inv (ncx CX P w K mg base N F f A outer s0 H0 E) [] σ H s)
    (hN : N[0]? = some slf) (hs : σ[0]? = some (some (.ref a))) (ha : H a = some (exo a D none))
    (he : eval (.Call (.Attribute (.Call (.Name "super" p0) [] [] p1) "__init__" p2) [.Constant (.str msg) j p3] [] p4) (envF F f s0.heap.objs.size) = (do
      let ov ← attributeBase (.Call (.Name "super" p0) [] [] p1) "__init__" (envF F f s0.heap.objs.size) (eval (.Call (.Name "super" p0) [] [] p1) (envF F f s0.heap.objs.size))
      standAt p2.atName
      let (g, first) ← holding [ov] (getMethod ov "__init__" pl)
      callWith p4 g first (backTo p4 (starEach [.Constant (.str msg) j p3] (envF F f s0.heap.objs.size))) []))
    (q : ∀ s', Inv (ncx CX P w K mg base N F f A outer s0 H0 E) [] σ H s' → Q .next s') :
    PySem.wpAt (model P w) (A.deeper (envF F f s0.heap.objs.size)) (.func F.body (envF F f s0.heap.objs.size)) (exec (.Expr (.Call (.Attribute (.Call (.Name "super" p0) [] [] p1) "__init__" p2) [.Constant (.str msg) j p3] [] p4) p5) (envF F f s0.heap.objs.size)) Q E' s := by
  obtain ⟨oc, od, dV, kV, doc, pm, an, ct, osl, lk⟩ := S.fn
  obtain ⟨ar, hp, har⟩ := S.fst
  obtain ⟨ccl, cdd, vs, ccs, file, tf, lc, hvs, hfile⟩ := S.code
  obtain ⟨cc, cl, cld, csl, hcl, lcell⟩ := S.cell
  obtain ⟨cdD, hcd⟩ := S.cls
  have KX : K.In s.heap := I.kIn
  obtain ⟨t1, ho⟩ := exo_at I.hok ha
  refine ks_wpAt_Expr_any (ks_wpAt_MethodCall (pl := pl) ?_ he) I.quiet rfl
  refine ks_wpAt_super_base (env := envF F f s0.heap.objs.size) S.ks S.kc (by decide) rfl (KX _ _ lk) rfl hp rfl (KX _ _ lc) rfl hvs hfile S.top ?_
  obtain ⟨mb, hb1, hb2⟩ := I.mod.blt
  refine ks_loadName_global S.kind S.ks (Calls.loadGlobal_builtin (env := envF F f s0.heap.objs.size) (mg := mg) (I.mod.glob.keeps I.bk) hmg (hb1.keeps I.bk) ((hb2 "super" (by decide)).trans (show bootBuiltins "super" = some (.type "super") by decide +kernel)) ⟨rfl, ?_⟩)
  refine wpAny_loadName_free S.kind S.kc (by show F.cl.lookup _ = _; rw [hcl]; rfl) ⟨_, KX _ _ lcell, rfl⟩ ?_
  obtain ⟨m, hns, hloc⟩ := I.loc
  obtain ⟨u, ru, hu⟩ := hloc 0 slf (.ref a) hN hs (.inl S.ka)
  obtain rfl : u = Value.ref a := ru
  have hu2 : m slf = some (.ref a) := by
    rcases hu with ⟨_, z⟩ | ⟨z, _⟩
    · exact z
    · exfalso
      have z : F.scope.names.lookup slf = some .cell ∨ F.scope.names.lookup slf = some .free := z
      rw [S.ka] at z
      rcases z with z | z <;> cases z
  refine wpAny_loadName_local S.kind (by rw [har]; exact S.ka) hns (by rw [har]; exact hu2) ?_
  obtain ⟨oD, hD1, hD2⟩ : ∃ oD, s.heap.get? D = some oD ∧ oD.data = .cls cdD := by
    unfold PySem.W.clsIn at hcd
    split at hcd
    · rename_i c d cd' sl hoo
      cases hcd
      exact ⟨_, KX _ _ hoo, rfl⟩
    · cases hcd
  obtain ⟨hp0, g, d, t, os⟩ := s
  refine ks_wpAny_isType_cls hD1 hD2 ⟨rfl, ?_⟩
  refine ks_wpAny_call_super hD1 hD2 ho rfl (fun c z => by cases z) (looks_mroIn KX S.sub) (fun h' e k => ?_)
  have IA : PySem.W.InstAt h' a _ D none := ⟨k _ _ ho, rfl, rfl, trivial⟩
  have KX' : K.In h' := KX.keeps k
  have I2 : Inv (ncx CX P w K mg base N F f A outer s0 H0 E) [] σ H ⟨h', g, d, t, os⟩ := I.kept k
  have hm := S.sup
  unfold ks_superIn at hm
  rw [hcd] at hm
  refine kxs_getMethod kxs_ValueError e (looks_opaque KX' S.opq) (l₀ := cdD.mro) (fun A Q E s k q => wpAny_bind ((looks_clsIn KX' hcd) A _ E s k (wpAny_pure q))) rfl KX' hm (IA.type.andThen (looks_subIn KX' S.ve)) (ks_ne KX' IA hcd) (by decide) ?_
  have I3 : Inv (ncx CX P w K mg base N F f A outer s0 H0 E) [] σ H ⟨h'.push (kxs_mw "ValueError.__init__" a), g, d, t + 1, os⟩ := I2.kept fun b o z => Heap.get?_push_of_some _ z
  refine kxs_callWith (i := "ValueError.__init__") (x := a) rfl (evalArgs_plain (PyProof.Rows.args_cons (Calls.Constant_str (PyProof.Rows.args_nil ⟨Heap.get?_push_size _ rfl, ?_⟩)) rfl))
  exact call_mw S.own (I3.tok _) (Heap.get?_push_size _ rfl) ha (by rw [sizeLine_eq]; simp) fun s' J => q s' J
end
end Den
set_option maxRecDepth 100000
set_option maxHeartbeats 2000000
/-! The whole __init__ of such an exception as a promise. -/
namespace Den
open PySem PySem.Spec PySem.Calls L2 PyProof.Rows PySem.W NdefX
/-- __init__(self, v): the field fld holds v -/
def spInit (D : Addr) (fld : Str) : Sp := fun vs H Q _ => ∃ (a : Addr) (v : V), vs = [.ref a, v] ∧ H a = some (exo a D none) ∧ ∀ dx, H dx = none → dx ≠ a → Q .non (upd (upd H dx (exd dx [(fld, v)])) a (exo a D (some dx)))
section
variable {CX : CXT} {P : Program} {w : World} {K : PySem.W.Frag} {mg : Str → Option Value} {base : Heap} {F : NF} {f D : Addr} {slf pn fld msg : Str} {k j : Nat}
theorem einit_ok {oc dV kV doc pm ct : Value} {od an : Option Addr} {osl : Array (Option Value)} {p0 p1 p2 p3 p4 p5 p6 p7 p8 p9 : Pos} {pl : Sem Bool} (S : ESup P K F f D slf fld msg)
    (lk : K.lookup f = some ⟨oc, od, .func (PySem.W.fnX F.name F.qual F.params F.body F.scope F.cl dV kV doc pm an (.ref F.c) ct), osl⟩)
    (hF : F.body = [.Expr (.Call (.Attribute (.Call (.Name "super" p0) [] [] p1) "__init__" p2) [.Constant (.str msg) j p3] [] p4) p5, .Assign [.Attribute (.Name slf p6) fld p7] (.Name pn p8) p9])
    (NS : NScope [slf, pn, "__class__"] [slf, pn] ["__class__"] F.scope) (hmg : mg "super" = none)
    (hd1 : (slf == ("__debug__" : Str)) = false) (hd2 : (slf == ("__classdict__" : Str)) = false) (hd3 : (pn == ("__debug__" : Str)) = false) (hd4 : (pn == ("__classdict__" : Str)) = false)
    (he : ∀ L, eval (.Call (.Attribute (.Call (.Name "super" p0) [] [] p1) "__init__" p2) [.Constant (.str msg) j p3] [] p4) (envF F f L) = (do
      let ov ← attributeBase (.Call (.Name "super" p0) [] [] p1) "__init__" (envF F f L) (eval (.Call (.Name "super" p0) [] [] p1) (envF F f L))
      standAt p2.atName
      let (g, first) ← holding [ov] (getMethod ov "__init__" pl)
      callWith p4 g first (backTo p4 (starEach [.Constant (.str msg) j p3] (envF F f L))) [])) :
    FnOk P w K mg base CX (k + 1) f (PySem.W.fnX F.name F.qual F.params F.body F.scope F.cl dV kV doc pm an (.ref F.c) ct) [slf, pn] (spInit D fld) := by
  refine ⟨fun vs H Q E ⟨a, v, e, _⟩ => by rw [e]; rfl, fun A outer s H args us vs Q E hr e0 hb r hsp => ?_⟩
  obtain ⟨a, v, rfl, ha, q⟩ := hsp
  obtain ⟨cc, cl, cld, csl, hcl, lcell⟩ := S.cell
  have KX : K.In s.heap := e0.mod.kin.keeps fun b o e => (e0.bs b o e).1
  have lim : s.heap.NoLimit := e0.mod.nolimit.keeps fun b o e => (e0.bs b o e).1
  refine codeAny_call_function hr.depth (KX _ _ lk) rfl NS.co NS.gen rfl (PySem.W.codeRec_of KX S.cd) (hb _ _ _ _ ?_)
  refine wpAny_newFunctionEnv NS.nocell (fun ⟨n, _⟩ hy => NS.par n (List.of_mem_zip hy).1) (fun h₁ hns hsb => ⟨lim.fresh _ hsb, ?_⟩) NS.kind
  show codeAny _ _ (.func F.body (envF F f s.heap.objs.size)) _ _
  have kp : ∀ b o, s.heap.get? b = some o → h₁.get? b = some o := fun b o e => hsb.extBut b o (Nat.ne_of_lt (Heap.lt_size e)) (Heap.get?_push_of_some _ e)
  have hcell : H cc = none := (e0.bs cc _ (e0.mod.kin _ _ lcell)).2
  have C : CellsAt F.cl ["__class__"] [none] s.heap H := by
    rw [hcl]
    have one : ∀ y c, ([(("__class__" : Str), cc)] : List (Str × Addr)).lookup y = some c → y = "__class__" ∧ c = cc := fun y c e => by
      have := PySem.mem_of_lookup e
      simp at this
      exact this
    refine ⟨rfl, fun y c e => ?_, fun x y c e1 e2 => (one x c e1).1.trans (one y c e2).1.symm, fun i y e => ?_⟩
    · rw [(one y c e).2]
      exact ⟨hcell, _, ⟨_, KX _ _ lcell, rfl⟩⟩
    · cases i with
      | zero =>
        cases (Option.some.inj (show some (("__class__" : Str)) = some y from e))
        refine ⟨cc, rfl, fun v z => ?_⟩
        have z : some (none : Option V) = some (some v) := z
        cases Option.some.inj z
      | succ i => cases e
  have I : Inv (ncx CX P w K mg base [slf, pn, "__class__"] F f A outer s H E) [] (startF [slf, pn, "__class__"] [.ref a, v] [none]) H { s with heap := h₁, toks := s.toks + ([slf, pn].zip us).length } := inv_startN NS hr.hd e0 rfl r C hns kp
  refine ks_codeAny_funcAt ?_
  rw [hF]
  refine ks_wpAt_execs_cons ?_
  rw [← hF]
  refine super_stmt S hmg I rfl rfl ha (he _) fun s' J => ?_
  refine wpAt_of_wpAny ?_
  have st2 := pss_one (ps_ost (X := ncx CX P w K mg base [slf, pn, "__class__"] F f A outer s H E) (p' := p7) (f := fld) (pos := p9) (pe_var (i := 0) (pos := p6) (x := slf) rfl (.inl S.ka) hd1 hd2) (pe_var (i := 1) (pos := p8) (x := pn) rfl (.inl (NS.par pn (by simp))) hd3 hd4))
  refine wpAny_mono (st2.run [] s' _ H { nx := fun _ H' => Q .non H', rt := fun _ _ => False } J ?_) (fun fl s'' hs => ?_) fun e s' hs => hs
  · exact ⟨v, rfl, .ref a, rfl, a, D, rfl, S.own, S.no, .inl ⟨ha, fun dx n ne => q dx n ne⟩⟩
  · cases fl with
    | next =>
      obtain ⟨σ', H', J, q⟩ := hs
      exact ⟨.non, H', J.os, J.bare, J.base, J.hok, rfl, q⟩
    | ret u =>
      obtain ⟨v, σ', H', J, rv, q⟩ := hs
      exact False.elim q
    | brk =>
      obtain ⟨_, _, _, q⟩ := hs
      exact False.elim q
    | cont =>
      obtain ⟨_, _, _, q⟩ := hs
      exact False.elim q
end
end Den
set_option maxRecDepth 100000
set_option maxHeartbeats 2000000
/-! raise of an own class whose __init__ keeps a field. -/
namespace Den
open PySem PySem.Spec L2 PyProof.Rows NdefX
/-- what is known of the class -/
structure ExF (P : Program) (w : World) (K : PySem.W.Frag) (mg : Str → Option Value) (base : Heap) (G : Gx) (k : Nat) (x : Str) (c : Nat) (C : Addr) : Prop where
  ca : G.ca c = some C
  own : OexC K C
  gl : mg x = some (.ref C)
  ini : ∃ fI fd ps, PySem.W.findIn K (.ref C) "__init__" = some (some (.ref fI)) ∧ PySem.W.typeIn K (.ref fI) = some (.type "function") ∧ FnOk P w K mg base (L2.CX P w) k fI fd ps (spInit C "place") ∧ Binds K fd ps []
def mRaiseF (c : Nat) (ma : M (List W)) : Sm := fun e h => (ma e h).stm e fun ws h => match ws with
  | [w] => .exc c (some w) e h
  | _ => .bad
section
variable {G : Gx} {X : Cx}
theorem upd_back {H : Hp} {a dx : Addr} {o1 o2 o3 o4 : HO} (ha : H a = none) (ne : dx ≠ a) : upd (del (upd (upd (upd H a o1) dx o2) a o3) a) dx o4 = upd H dx o4 := by
  funext b
  by_cases h1 : b = dx
  · rw [h1, upd_same, upd_same]
  · rw [upd_ne h1, upd_ne h1]
    by_cases h2 : b = a
    · rw [h2, del_same, ha]
    · rw [del_ne h2, upd_ne h2, upd_ne h1, upd_ne h2]
theorem ss_raiseF {x : Str} {c k : Nat} {C : Addr} {e : Expr} {ma : M (List W)} {p1 p3 pos : Pos} (T : ExF X.prog X.w X.K X.mg X.base G k x c C) (hr : Room (k + 1) X.A) (hg : Gl X x) (ha : SA G X [e] ma) (hc : X.calm = true := by rfl) (hdb : (x == ("__debug__" : Str)) = false := by decide)
    (he : starEach [e] X.env = (false, eval e X.env) :: starEach [] X.env := by rfl) : SS G X (.Raise (some (.Call (.Name x p1) [e] [] p3)) none pos) (mRaiseF c ma) := fun Wx tk => by
  obtain ⟨fI, fd, ps, iC, tI, F1, hb⟩ := T.ini
  refine (L2.ps_raise hc tk (pmk_oex (ds := []) (dvs := []) (p := p1) (pos := p3) T.own iC tI F1 hr hb .nil passL hg T.gl (ha Wx tk) hdb he rfl)).imp fun D σ H p => ?_
  refine rdS.stm (Rel := VsRel X.K) p fun H0 ρ0 e sr vs H1 ρ1 h1 ws x1 r q p1 => ?_
  match ws, q, p1 with
  | [], _, p1 => exact p1.elim
  | _ :: _ :: _, _, p1 => exact p1.elim
  | [w], q, p1 =>
    obtain ⟨v, rfl, rv⟩ := VRs.inv1 q
    refine ⟨by simp, fun a hn => ⟨a, v, rfl, upd_same, fun dx hd ne => ⟨rfl, dx, [("place", v)], upd_same, by rw [upd_ne ne]; exact upd_same, ?_, ?_⟩⟩⟩
    · rw [upd_ne ne] at hd; exact hd
    · rw [upd_ne ne] at hd
      rw [upd_back hn ne]
      obtain ⟨r2, x2⟩ := r.other (o := .xd [("place", v)]) hd
      exact p1 ρ1 _ σ (.ref C) (some dx) x2 r2 ((sr.mono x1).mono x2) ⟨C, T.ca, rfl, dx, v, rfl, upd_same, rv.mono x2⟩
end
end Den
set_option maxRecDepth 100000
set_option maxHeartbeats 2000000
/-! isinstance of a caught error that has fields. -/
namespace Den
open PySem PySem.Spec PySem.Calls L2 PyProof.Rows PySem.W
section
variable {prog : Program} {w : World} {A : Around} {E : Value → Shared → Prop} {s : Shared} {K : Frag} {x D : Addr} {ox od : Obj}
theorem cls_exc {Q : Option Value → Shared → Prop} (C : ExcC K D) (X : K.In s.heap) (I : PySem.W.InstAt s.heap x ox D (some od)) (h : Q (some (.ref D)) { s with toks := s.toks + 1 }) : wpAny (model prog w) A (getAttr? (.ref x) "__class__") Q E s := by
  have hf : findObj K D (some od) "__class__" = some (.bind (.builtin "getset_descriptor.__get__") (.builtin "object.__class__")) := findObj_data (by obtain ⟨cd, hc, _⟩ := any_some C.hd; rw [hc]; rfl) C.ha C.hn C.ht
  obtain ⟨hp, g, d, t, os⟩ := s
  have L0 := I.type (M := model prog w)
  have L1 := looks_findIn (M := model prog w) X C.hg
  have L2 := looks_findIn (M := model prog w) X C.hk
  have L3 := looks_find (M := model prog w) X I hf
  have sub : Looks (model prog w) hp (isInstance (.ref x) (.type "BaseException")) true := L0.andThen (looks_subIn X C.hs)
  have hx0 : (false && onTheHeap (Value.builtin "BaseException.__getattribute__")) = false := rfl
  have hx1 : (onTheHeap (Value.ref D) && Value.builtin "BaseException.__getattribute__" == Value.builtin "object.__getattribute__") = false := by
    rw [show (Value.builtin "BaseException.__getattribute__" == Value.builtin "object.__getattribute__") = false by decide +kernel]
    rfl
  unfold getAttr? getAttrBy? getAttrBy
  refine wpAny_bind (wpAny_mkText (wpAny_bind (wpAny_attempt (wpAny_holding (wpAny_bind (L0.at (wpAny_bind (L1.at ?_))))))))
  show wpAny _ _ (if (onTheHeap (Value.ref D) && Value.builtin "BaseException.__getattribute__" == Value.builtin "object.__getattribute__") = true then _ else _) _ _ _
  rw [hx1, if_neg Bool.false_ne_true]
  unfold getAttrByItsOwn hookBefore
  refine wpAny_bind ?_
  rw [if_pos (show onTheHeap (Value.ref D) = true from rfl)]
  refine L2.at (wpAny_bind (wpAny_attempt (wpAny_holding ?_)))
  unfold callGetattribute
  rw [hx0, if_neg Bool.false_ne_true]
  unfold boundAndCalled
  rw [PySem.F.excAttr_ValueError.ga.bind (.ref x)]
  refine wpAny_bind (wpAny_pure ?_)
  show wpAny _ _ (call (.builtin "BaseException.__getattribute__") [.ref x, .str "__class__" t]) _ _ _
  refine wpAny_call (codeAny_call_builtin PySem.F.excAttr_ValueError.ga.plain PySem.F.entry_bexc_ga ?_)
  refine @check_slot (model prog w) _ _ ⟨hp, g, d, t + 1, os⟩ "BaseException.__getattribute__" "BaseException" "__getattribute__" (.ref x) [.str "__class__" t] [] _ (by decide +kernel) (by decide +kernel) sub (PySem.F.args_bexc_ga (.ref x) (.str "__class__" t)) ?_
  unfold Builtin.«object.__getattribute__»
  refine wpAny_bind (wpAny_of_eq (a := ((Value.ref x : Value), [Value.str "__class__" t])) (by first | rfl | (simp only [slotArgs]; rfl)) ?_)
  refine wpAny_bind (wpAny_pure (wpAny_bind (L0.at (wpAny_bind (L3.at ?_)))))
  show wpAny _ _ (holding [Value.builtin "object.__class__"] (call (.builtin "getset_descriptor.__get__") [.builtin "object.__class__", .ref x, .ref D]) >>= ret) _ _ _
  refine wpAny_bind (wpAny_holding (wpAny_call (class_get (s := ⟨hp, g, d, t + 1, os⟩) (ox := ox) (od := some od) X I C.hm ?_)))
  refine wpAny_pure ?_
  show wpAny _ _ (handedOut (.ref D)) _ _ _
  rw [handedOut_of (v := .ref D) rfl]
  first
    | exact wpAny_pure (wpAny_pure h)
    | exact wpAny_pure h
    | exact wpAny_pure (wpAny_bind (wpAny_pure (wpAny_pure h)))
theorem kit_exc (C : ExcC K D) : KitX K (.ref x) (.ref D) (fun h => PySem.W.InstAt h x ox D (some od)) where
  ty := fun _ _ _ I => I.type
  it := fun _ _ X _ => by
    obtain ⟨cdD, hcD, _⟩ := any_some C.hd
    unfold clsIn at hcD
    split at hcD
    · rename_i c' d' cd' sl' ho
      exact fun A' Q' E' s' k q => by
        unfold isType loadHead
        exact wpAny_bind (wpAny_loadPart (k _ _ (X _ _ ho)) (wpAny_pure q))
    · cases hcD
  ne := fun h tp dd its n sl X htp => by
    obtain ⟨cdD, hcD, _⟩ := any_some C.hd
    refine Bool.eq_false_iff.mpr fun q => ?_
    have e : D = tp := Value.ref.inj (beq_iff_eq.mp q)
    subst e
    unfold clsIn at hcD
    split at hcD
    · rename_i c' d' cd' sl' ho
      have z := (X _ _ ho).symm.trans htp
      cases z
    · cases hcD
  ca := fun X I k => cls_exc C X I k
end
/-- isinstance(e, c), e the exception that the suite holds, with fields -/
def rIsF (K : PySem.W.Frag) (D a : Addr) (d : Option Addr) : List V → Hp → VK → Prop := fun xs H Q => ∃ (c : V) (cv : Value) (b : Bool) (dd : Addr) (fs : List (Str × V)), xs = [.ref a, c] ∧ (∀ u, RelV c u → u = cv) ∧ PySem.W.kitOne K (.ref D) cv = some b ∧ d = some dd ∧ H dd = some (.xd fs) ∧ Q (.bl b) H
theorem call_isF {X : Cx} {a D : Addr} {d : Option Addr} {oe : Obj} {pn : List (Addr × Obj)} (C : ExcC X.K D) (hz : Zc (.ref D) d oe) (hf : ∃ vs, oe.data = .fields vs) : CallR (X.suite a ((a, oe) :: pn)) (.builtin "isinstance") (rIsF X.K D a d) := by
  intro pins s σ H xs us Q I r h
  obtain ⟨c, cv, b, dd, fs, rfl, hcv, e, rfl, hdd, q⟩ := h
  cases r with
  | cons rx rr =>
    cases rr with
    | cons rt rr =>
      cases rr
      cases rx
      have ec := hcv _ rt
      subst ec
      obtain ⟨hget, _⟩ := I.pin (a, oe) (List.mem_append.mpr (.inl List.mem_cons_self))
      obtain ⟨vs, hv⟩ := hf
      have hx : ObjOk X.prog X.w H s.heap dd (.xd fs) := I.hok dd _ hdd
      obtain ⟨mA, hns, _⟩ := hx
      obtain ⟨od, ho, _⟩ := lookIn_ns hns
      have J : PySem.W.InstAt s.heap a oe D (some od) := ⟨hget, hz.1, by unfold PySem.W.notCls; rw [hv], by rw [hz.2]; exact ho⟩
      exact PySem.W.kia_one (kit_exc C) I.kIn J e (fun z => nomatch z) fun tk => ⟨.bl b, H, I.kept (t' := tk) fun _ _ z => z, rfl, q⟩
end Den
/-! All of the layer. -/
set_option maxRecDepth 100000
set_option maxHeartbeats 2000000
/-! enumerate of a list. -/
namespace Den
open PySem L2 PyProof.Rows
def srcE (n : Nat) : Src := fun i h => (lstAt h n).map fun xs => xs[i]?.map fun x => W.tup [.int i, x]
def mEnumL (m : M (List W)) : M Src := fun e h => (m e h).bnd fun ws h => match ws with
  | [.ref n] => match lstAt h n with
    | some _ => .ok (srcE n) h
    | none => .bad
  | _ => .bad
section
variable {G : Gx} {X : Cx} {K : PySem.W.Frag} {H : Hp} {ρ : List Addr}
theorem jrel_enum {a : Addr} {n : Nat} (ea : ρ[n]? = some a) : JRel K G H ρ (Ite K a) (srcE n) := fun i H' ρ' h' x r => by
  have ea' : ρ'[n]? = some a := pre_get x.pre ea
  unfold srcE
  cases hl : lstAt h' n with
  | none => exact ⟨fun e => (by cases e), fun w e => (by cases e)⟩
  | some xs =>
    obtain ⟨vs, q, z⟩ := r.look ea' (lstAt_some hl)
    have sq : SqL K H' a vs := .inl (.inl q)
    cases hx : xs[i]? with
    | none => exact ⟨fun _ => ⟨vs, sq, by rw [z.length]; exact List.getElem?_eq_none_iff.mp hx⟩, fun w e => by
        rw [Option.map_some, hx] at e
        cases e⟩
    | some y =>
      obtain ⟨v, hv, rv⟩ := z.get hx
      refine ⟨fun e => (by rw [Option.map_some, hx] at e; cases e), fun w e => ⟨⟨vs, v, sq, hv⟩, fun u H'' hy => ?_⟩⟩
      rw [Option.map_some, hx] at e
      have e1 : W.tup [.int i, y] = w := Option.some.inj (Option.some.inj e)
      subst e1
      obtain ⟨T, v', rfl, hT, rfl, hall⟩ := hy
      have e2 : some v = some v' := hv.symm.trans (hall vs sq)
      cases e2
      obtain ⟨r2, x2⟩ := r.other (o := .tup [.int (i : Nat), v]) hT
      refine ⟨x2, r2, ?_⟩
      unfold VR
      exact ⟨T, _, rfl, .inl (.inl upd_same), .cons vr_int (.one (rv.mono x2))⟩
theorem si_enumL {e : Expr} {m : M (List W)} {p pos tpos : Pos} {elts : List Expr} {kk : Nat} (ha : SA G X [e] m) (hg : Gl X "enumerate") (hm : X.mg "enumerate" = none) (hs : starEach [e] X.env = [(false, eval e X.env)] := by rfl) :
    SI G X (.Tuple elts kk tpos) (.Call (.Name "enumerate" p) [e] [] pos) (mEnumL m) := fun Wx tk =>
  (pi_enum hg hm (ha Wx tk) hs).imp fun σ H R p => rd.bnd (Rel := VsRel X.K) p fun H0 ρ0 e sr vs H1 ρ1 h1 ws x r q p1 => by
    split at p1
    · rename_i n
      split at p1
      · rename_i xs hl
        obtain ⟨v, rfl, q'⟩ := VRs.inv1 q
        obtain ⟨a, rfl, ea⟩ := q'.ref
        obtain ⟨us, q2, z⟩ := r.look ea (lstAt_some hl)
        exact ⟨a, us, rfl, .inl (.inl q2), p1 ρ1 H1 _ (Ext.refl r) r (jrel_enum ea)⟩
      · exact p1.elim
    · exact p1.elim
end
end Den
set_option maxRecDepth 100000
set_option maxHeartbeats 2000000
/-! range with a step. -/
namespace Den
open PySem L2 PyProof.Rows
def srcC (lo c : Int) (n : Nat) : Src := fun i _ => if i < n then some (some (.int (lo + (i : Nat) * c))) else some none
def mRng3 (m : M (List W)) : M Src := fun e h => (m e h).bnd fun ws h => match ws with
  | [.int i, .int j, .int c] => if c ≠ 0 ∧ c.natAbs < 1073741824 ∧ Builtin.Range.small i j c = true ∧ Builtin.Range.rangeSize i j c = ((Builtin.Range.rangeSize i j c).toNat : Int) then .ok (srcC i c (Builtin.Range.rangeSize i j c).toNat) h else .bad
  | _ => .bad
section
variable {G : Gx} {X : Cx} {K : PySem.W.Frag} {H : Hp} {ρ : List Addr}
theorem jrel_rngC {lo c : Int} {n : Nat} : JRel K G H ρ (Itc lo c n) (srcC lo c n) := fun i H' ρ' h' x r => by
  refine ⟨fun e => ?_, fun w e => ?_⟩
  · unfold srcC at e
    split at e
    · cases e
    · show n ≤ i
      omega
  · unfold srcC at e
    split at e
    · rename_i hi
      cases e
      refine ⟨hi, fun y H'' hy => ?_⟩
      obtain ⟨rfl, rfl⟩ := hy
      exact ⟨Ext.refl r, r, vr_int⟩
    · cases e
theorem si_rng3 {tg a b c : Expr} {m : M (List W)} {p pos : Pos} (ha : SA G X [a, b, c] m) (hg : Gl X "range") (hm : X.mg "range" = none) (hs : starEach [a, b, c] X.env = (false, eval a X.env) :: starEach [b, c] X.env := by rfl)
    (hpl : (backTo pos (starEach [b, c] X.env)).any (·.1) = false := by rfl) : SI G X tg (.Call (.Name "range" p) [a, b, c] [] pos) (mRng3 m) := fun Wx tk =>
  (pi_range3 hg hm (ha Wx tk) hs hpl).imp fun σ H R p => rd.bnd (Rel := VsRel X.K) p fun H0 ρ0 e sr vs H1 ρ1 h1 ws x r q p1 => by
    split at p1
    · rename_i i j c
      split at p1
      · rename_i hh
        obtain ⟨v, vs', rfl, q1, q2⟩ := (show ∃ v vs', vs = v :: vs' ∧ VR X.K H1 ρ1 v (.int i) ∧ VRs X.K H1 ρ1 vs' [.int j, .int c] from by unfold VsRel VRs at q; exact q)
        obtain ⟨v2, v3, rfl, q3, q4⟩ := VRs.inv2 q2
        exact ⟨i, j, c, _, by rw [q1.int, q3.int, q4.int], ⟨hh.1, hh.2.1, hh.2.2.1, hh.2.2.2⟩, p1 ρ1 H1 _ (Ext.refl r) r jrel_rngC⟩
      · exact p1.elim
    · exact p1.elim
end
end Den
set_option maxRecDepth 100000
set_option maxHeartbeats 2000000
/-! reversed of a text. -/
namespace Den
open PySem PySem.Spec L2 PyProof.Rows
theorem rs_norev : typeLookup (.type "str") "__reversed__" = pure none := by (rw [typeLookup_type, builtinLookup_eq_fast]; kernel_rfl)
theorem rs_get : typeLookup (.type "str") "__getitem__" = pure (some (.builtin "str.__getitem__")) := by (rw [typeLookup_type, builtinLookup_eq_fast]; kernel_rfl)
theorem rs_sub : isSubtype (.type "str") (.type "dict") = pure false := by (rw [isSubtype_type]; kernel_rfl)
/-- a reversed text under way, the next place i -/
structure RsAt (h : Heap) (a : Addr) (x : Str) (t : Tok) (i : Int) : Prop where
  ex : ∃ o : Obj, h.get? a = some o ∧ o.cls = .type "reversed" ∧ o.data = .fields #[.str x t, rawInt i]
theorem RsAt.at {h h' : Heap} {a : Addr} {x : Str} {t : Tok} {i : Int} (r : RsAt h a x t i) (e : ∀ o, h.get? a = some o → h'.get? a = some o) : RsAt h' a x t i :=
  match r.ex with
  | ⟨o, ho, z⟩ => ⟨o, e o ho, z⟩
section
variable {prog : Program} {w : World} {A : Around} {E : Value → Shared → Prop} {s : Shared} {x : Str} {t : Tok}
theorem RsAt.ty {a : Addr} {i : Int} (r : RsAt s.heap a x t i) : s.TypeIs (.ref a) "reversed" :=
  match r.ex with
  | ⟨o, ho, c, _⟩ => ⟨o, ho, c⟩
theorem rs_new {Q : Value → Shared → Prop} (hl : x.length ≤ sizeLine) (h : Q (.ref s.heap.objs.size) { s with heap := s.heap.push { cls := .type "reversed", data := .fields #[.str x t, rawInt ((x.length : Int) - 1)] }, toks := s.toks + 1 + 1 }) :
    codeAny (model prog w) A (.call (.builtin "reversed.__new__") ⟨[.type "reversed", .str x t], []⟩) (wants Q E) s := by
  have hT : s.TypeIs (.str x t) "str" := typeIs_str s x t
  refine codeAny_of_tree (show wpAny _ A.in1 (do checkBuiltinCall "reversed.__new__" ⟨[.type "reversed", .str x t], []⟩; again (.builtin "reversed.__new__" ⟨[.type "reversed", .str x t], []⟩)) _ _ s from ?_)
  refine wpAny_bind (wpAny_of_eq (F.newCall_reversed_1 (.str x t)) (wpAny_pure ⟨plainId_quiet F.plain_reversed_new _, codeAny_builtin F.entry_reversed_new ?_⟩)); rw [Around.under_plainId F.plain_reversed_new _]
  unfold Builtin.«reversed.__new__»
  refine wpAny_bind (wpAny_of_eq (newClass_reversed (.str x t)) ?_); dsimp only
  refine wpAny_bind (wpAny_of_eq (a := ()) (by kernel_rfl) ?_); try dsimp only
  refine wpAny_bind (wpAny_of_eq (a := ()) (by kernel_rfl) ?_); try dsimp only
  refine wpAny_bind (wpAny_specialOf hT rs_norev ?_); try dsimp only
  refine wpAny_bind ?_
  wp_delta
  refine wpAny_bind (wpAny_isInstance (T := "str") (U := "dict") (b := false) hT rs_sub ?_)
  rw [if_neg Bool.false_ne_true]; try dsimp only
  refine wpAny_bind (wpAny_specialOf hT rs_get ?_); try dsimp only
  rw [if_pos (by decide +kernel)]
  refine wpAny_pure ?_
  try dsimp only
  rw [if_neg (by decide)]
  try dsimp only
  refine wpAny_bind (len_str (by rw [sizeLine_eq] at hl; omega) ?_); refine wpAny_bind (wpAny_of_eq (a := some ((x.length : Nat) : Int)) rfl ?_)
  try dsimp only
  refine wpAny_bind (show wpAny _ _ (newObj (.type "reversed") (.fields #[.str x t, rawInt ((x.length : Int) - 1)])) _ _ _ from wpAny_newObj_type (wpAny_pure h))
theorem rs_call {Q : Value → Shared → Prop} (hl : x.length ≤ sizeLine) (h : Q (.ref s.heap.objs.size) { s with heap := s.heap.push { cls := .type "reversed", data := .fields #[.str x t, rawInt ((x.length : Int) - 1)] }, toks := s.toks + 1 + 1 }) :
    wpAny (model prog w) A (call (.type "reversed") [.str x t]) Q E s :=
  callType_codes (Q₁ := fun u s1 => s1.TypeIs u "reversed" ∧ Q u s1) RT.called_rt (F.typeCall_reversed_1 _) F.entry_object_init (rs_new (A := A.in1) hl ⟨⟨_, Heap.get?_push_size _ rfl, rfl⟩, h⟩)
    fun u s1 k => ⟨k.1, F.args_object_init_2 u _, object_init_meets RT.called_rt.init.lookup RT.called_rt.made (by decide) prog w A.in1 _ s1 ⟨k.1, rfl, k.2⟩⟩
theorem rs_iter {it : Addr} {i : Int} {Q : Value → Shared → Prop} (r : RsAt s.heap it x t i) (h : Q (.ref it) s) : wpAny (model prog w) A (pyIter (.ref it)) Q E s :=
  wpAny_pyIter_slot r.ty RT.slot_rt_iter (wpAny_call_entry RT.slot_rt_iter r.ty RT.entry_rt_iter (show wpAny _ _ (ret (.ref it)) _ _ s from wpAny_pure ⟨_, rfl, "reversed", _, r.ty, RT.slot_rt_next.lookup, h⟩) (RT.args_rt_iter _))
theorem rs_item {it : Addr} {i : Nat} {c : Nat} {Q : Option Value → Shared → Prop} (r : RsAt s.heap it x t (i : Int)) (hx : x.cps[i]? = some c) (hl : x.length ≤ sizeLine)
    (hQ : ∀ h' tk u, RsAt h' it x t ((i : Int) - 1) → Heap.SameBut it s.heap h' → Q (some (.str ⟨#[c]⟩ u)) { s with heap := h', toks := tk }) : wpAny (model prog w) A (pyNext (.ref it)) Q E s := by
  obtain ⟨o, ho, hc, hd⟩ := r.ex
  have hi : i < x.length := (Array.getElem?_eq_some_iff.mp hx).1
  have hT : s.TypeIs (.str x t) "str" := typeIs_str s x t
  rw [sizeLine_eq] at hl
  unfold pyNext
  refine wpAny_bind (wpAny_attempt (wpAny_callSpecial?_slot (name := Str.ofString "__next__") r.ty RT.slot_rt_next (wpAny_call_entry RT.slot_rt_next r.ty RT.entry_rt_next ?_ (RT.args_rt_next _))))
  unfold Builtin.«reversed.__next__»
  refine wpAny_bind (wpAny_of_eq (a := (Value.ref it, [])) rfl ?_); try dsimp only
  refine wpAny_bind (wpAny_field ho hd (x := .str x t) rfl ?_); try dsimp only
  refine wpAny_bind (wpAny_field ho hd (x := rawInt (i : Int)) rfl (show wpAny _ _ (if (i : Int) < 0 then _ else _) _ _ s from ?_))
  rw [if_neg (by omega)]; try dsimp only
  refine wpAny_bind (wpAny_specialOf hT rs_get ?_); try dsimp only
  try rw [if_neg (by decide)]
  try dsimp only
  refine wpAny_bind (wpAny_mkInt (wpAny_bind (wpAny_attempt ?_)))
  have fin : seqIndex? (i : Int) x.length = some i := seqIndex_of (by omega) (by omega)
  refine getItem_str (s := { s with toks := s.toks + 1 }) (c := c) (by rw [decide_eq_false (by omega), decide_eq_false (by omega)]; rfl) (by rw [fin]; exact hx) ?_
  have up : RsAt (s.heap.update it (Obj.mapFields (·.setIfInBounds 1 (rawInt ((i : Int) - 1))))) it x t ((i : Int) - 1) :=
    ⟨_, Heap.get?_update_self _ ho (Obj.isFreed_of_fields (Obj.data_mapFields hd _)), (Obj.cls_mapFields ..).trans hc, by rw [Obj.data_mapFields hd]; simp⟩
  try dsimp only
  refine wpAny_bind (wpAny_field (s := { s with toks := s.toks + 1 + 1 }) ho hd (x := rawInt (i : Int)) rfl ?_); try dsimp only
  refine wpAny_bind (wpAny_setField (s := { s with toks := s.toks + 1 + 1 }) ho hd (by simp) ?_)
  first
  | refine wpAny_pure ⟨_, rfl, wpAny_pure (hQ _ _ _ up (Heap.SameBut.update ..))⟩
  | refine wpAny_bind (wpAny_pure (wpAny_pure ⟨_, rfl, wpAny_pure (hQ _ _ _ up (Heap.SameBut.update ..))⟩))
theorem rs_end {it : Addr} {Q : Option Value → Shared → Prop} (hh : A.handled = none) (r : RsAt s.heap it x t (-1)) (hQ : ∀ h', Heap.ExtBut it s.heap h' → Q none { s with heap := h' }) : wpAny (model prog w) A (pyNext (.ref it)) Q E s := by
  obtain ⟨o, ho, hc, hd⟩ := r.ex
  unfold pyNext
  refine wpAny_bind (wpAny_attempt (wpAny_callSpecial?_slot (name := Str.ofString "__next__") r.ty RT.slot_rt_next (wpAny_call_entry RT.slot_rt_next r.ty RT.entry_rt_next ?_ (RT.args_rt_next _))))
  unfold Builtin.«reversed.__next__»
  refine wpAny_bind (wpAny_of_eq (a := (Value.ref it, [])) rfl ?_); try dsimp only
  refine wpAny_bind (wpAny_field ho hd (x := .str x t) rfl ?_); try dsimp only
  refine wpAny_bind (wpAny_field ho hd (x := rawInt (-1)) rfl (show wpAny _ _ (if (-1 : Int) < 0 then _ else _) _ _ s from ?_))
  rw [if_pos (by decide)]; try dsimp only
  refine wpAny_bind (wpAny_rule (wpAny_bind ?_))
  wp_delta
  refine wpAny_bind (wpAny_setField ho hd (by simp) ?_)
  have ho2 := Heap.get?_update_self (Obj.mapFields (·.setIfInBounds 1 (rawInt (-1)))) ho (Obj.isFreed_of_fields (Obj.data_mapFields hd _)); refine wpAny_setField (s := { s with heap := s.heap.update it (Obj.mapFields (·.setIfInBounds 1 (rawInt (-1)))) }) ho2 (Obj.data_mapFields hd _) (by simp) ?_
  try dsimp only
  first
  | show wpAny _ _ (newExc (.type "StopIteration") [] >>= _) _ _ _
  | (refine wpAny_bind ?_; show wpAny _ _ (newExc (.type "StopIteration") [] >>= _) _ _ _)
  | (refine wpAny_bind ?_; wp_delta; show wpAny _ _ (newExc (.type "StopIteration") [] >>= _) _ _ _)
  refine wpAny_bind ?_
  simp only [newExc, newTuple]
  refine wpAny_bind (wpAny_newObj_type ?_ (by size_fits)); refine wpAny_bind (m := firstArgMember _ _) (wpAny_of_eq (a := Value.none) (by first | rfl | (simp only [firstArgMember]; rfl)) ?_)
  refine wpAny_newObj_type ?_ (by size_fits); simp only [raiseNew]
  refine wpAny_bind (wpAny_handled ?_); first | rw [show A.in1.handled = none from hh] | rw [hh]
  refine wpAny_bind (wpAny_pure (wpAny_throw ?_)); refine wpAny_bind (wpAny_isInstance (T := "StopIteration") (b := true) ⟨_, Heap.get?_push_size _ rfl, rfl⟩ isSubtype_stop (wpAny_pure (hQ _ ?_)))
  refine ((?_ : Heap.ExtBut it s.heap _).push _).push _
  intro b ob hb e; exact (Heap.get?_update_other _ _ (Ne.symm hb)).trans ((Heap.get?_update_other _ _ (Ne.symm hb)).trans e)
end
/-! ### what is walked -/
def ItR (x : Str) : It := ⟨fun i _ => i < x.length, fun i H v H' => H' = H ∧ ∃ c, x.cps[x.length - 1 - i]? = some c ∧ v = .str ⟨#[c]⟩, fun i _ => x.length ≤ i⟩
theorem rs_turn {P : Program} {w : World} {K : PySem.W.Frag} {tg : Expr} (it : Addr) (x : Str) (t : Tok) (hl : x.length ≤ sizeLine) : Turn P w K tg (ItR x) [it] it (fun i h => i ≤ x.length ∧ RsAt h it x t ((x.length : Int) - 1 - (i : Nat))) where
  mem := by simp
  obj := fun i h st b hb => by
    obtain rfl : b = it := by simpa using hb
    obtain ⟨o, e, c, d⟩ := st.2.ex
    exact ⟨o, e, fun v z => by rw [d] at z; cases z⟩
  keep := fun i h h' st k => ⟨st.1, st.2.at fun o e => k it (by simp) o e⟩
  item := by
    intro X hP hw hK hc i pins s σ H E I hf st hg
    subst hP hw hK
    have hg : i < x.length := hg
    obtain ⟨f0, f1, f2, f3, f4, f5⟩ := hf it (by simp)
    obtain ⟨_, r⟩ := st
    have e1 : (x.length : Int) - 1 - ((i : Nat) : Int) = ((x.length - 1 - i : Nat) : Int) := by omega
    rw [e1] at r
    have hx : x.length - 1 - i < x.cps.size := by show _ < x.length; omega
    refine rs_item r (Array.getElem?_eq_getElem hx) hl fun h' tk u r' sb => ?_
    have e2 : ((x.length - 1 - i : Nat) : Int) - 1 = (x.length : Int) - 1 - ((i + 1 : Nat) : Int) := by omega
    rw [e2] at r'
    have I1 : Inv X pins σ H { s with heap := h', toks := tk } := I.turned (t' := tk) (fun b o hb e => (sb.2 b hb).trans e) f0 f1 f3 f4 f5
    obtain ⟨o, e, c, d⟩ := r'.ex
    exact ⟨_, rfl, go_of (s := { s with heap := h', toks := tk }) e c d (by decide) ⟨.str ⟨#[x.cps[x.length - 1 - i]]⟩, H, I1, ⟨u, rfl⟩, ⟨rfl, _, Array.getElem?_eq_getElem hx, rfl⟩, ⟨hg, r'⟩, fun b hb => (hf b hb).1⟩⟩
  done := by
    intro X hP hw hK hc i pins s σ H E I hf st hg
    subst hP hw hK
    have hg : x.length ≤ i := hg
    obtain ⟨f0, f1, f2, f3, f4, f5⟩ := hf it (by simp)
    obtain ⟨_, r⟩ := st
    have e1 : (x.length : Int) - 1 - ((i : Nat) : Int) = -1 := by omega
    rw [e1] at r
    exact rs_end (I.ok.hd hc) r fun h' eb => ⟨rfl, I.turned (t' := s.toks) (fun b o hb e => eb b o hb e) f0 f1 f3 f4 f5⟩
  self := fun A i s Q E st h => rs_iter st.2 h
def iRevS (te : TE) : TI := fun σ H R => te σ H fun v H1 => ∃ x : Str, v = .str x ∧ x.length ≤ sizeLine ∧ R (ItR x) H1
theorem pi_revS {X : Cx} {tg e : Expr} {te : TE} {p pos : Pos} (hg : Gl X "reversed") (hm : X.mg "reversed" = none) (he : PE X e te) (hs : starEach [e] X.env = (false, eval e X.env) :: starEach [] X.env := by rfl) : PI X tg (.Call (.Name "reversed" p) [e] [] pos) (iRevS te) :=
  ⟨fun pins s σ H R I h => Call_ (ld_blt I hg hm PyProof.Rows.boot_reversed (PyProof.Rows.callWith_type1 (args_cons (thn (he.run pins s σ H _ I h) fun u s1 ⟨v, H1, I1, r1, x, ex, hl, q⟩ => args_nil (by
    subst ex
    obtain ⟨t, rfl⟩ := r1
    refine rs_call hl ?_
    have r0 : RsAt (s1.heap.push { cls := .type "reversed", data := .fields #[.str x t, rawInt ((x.length : Int) - 1)] }) s1.heap.objs.size x t ((x.length : Int) - 1 - ((0 : Nat) : Int)) := ⟨_, Heap.get?_push_size _ rfl, rfl, by simp⟩
    exact rs_iter r0 (pi_one (tk := s1.toks + 1 + 1) I1 _ (rs_turn _ x t hl) ⟨Nat.zero_le _, r0⟩ q))) hs) hs rfl))⟩
theorem jrel_revS {K : PySem.W.Frag} {G : Gx} {H : Hp} {ρ : List Addr} {s : List Nat} : JRel K G H ρ (ItR (mkS s)) (srcS s.reverse) := fun i H' ρ' h' x r => by
  have hsz : (mkS s).length = s.length := Str_length s
  refine ⟨fun e => ?_, fun w e => ?_⟩
  · have e2 : s.reverse[i]? = none := by
      cases hx : s.reverse[i]? with
      | none => rfl
      | some c => have := Option.some.inj e; rw [hx] at this; cases this
    show (mkS s).length ≤ i
    have := List.getElem?_eq_none_iff.mp e2
    rw [List.length_reverse] at this
    omega
  · cases hx : s.reverse[i]? with
    | none => have := Option.some.inj e; rw [hx] at this; cases this
    | some c =>
      have e2 : W.str [c] = w := by have := Option.some.inj e; rw [hx] at this; exact Option.some.inj this
      have hi : i < s.length := by have := (List.getElem?_eq_some_iff.mp hx).1; rwa [List.length_reverse] at this
      refine ⟨show i < (mkS s).length by omega, fun y H'' hy => ?_⟩
      obtain ⟨rfl, c', hc, rfl⟩ := hy
      have e3 : c' = c := by
        rw [hsz] at hc
        have h1 : s[s.length - 1 - i]? = some c' := by simpa using hc
        rw [List.getElem?_reverse hi, h1] at hx
        exact Option.some.inj hx
      subst e3
      rw [← e2]
      exact ⟨Ext.refl r, r, vr_str' (l := [c']) rfl⟩
def mRevT (m : M W) : M Src := fun e h => (m e h).bnd fun w h => match w with
  | .str s => if s.length ≤ lim then .ok (srcS s.reverse) h else .bad
  | _ => .bad
theorem si_revT {G : Gx} {X : Cx} {tg e : Expr} {m : M W} {p pos : Pos} (he : SE G X e m) (hg : Gl X "reversed") (hm : X.mg "reversed" = none) (hs : starEach [e] X.env = (false, eval e X.env) :: starEach [] X.env := by rfl) :
    SI G X tg (.Call (.Name "reversed" p) [e] [] pos) (mRevT m) := fun Wx tk =>
  (pi_revS hg hm (he Wx tk) hs).imp fun σ H R p => rd.bnd (Rel := VRel X.K) p fun H0 ρ0 e sr v H1 ρ1 h1 w x r q p1 => by
    split at p1
    · rename_i s
      split at p1
      · rename_i hl
        exact ⟨mkS s, q.str, by rw [Str_length]; exact lim_size hl, p1 ρ1 H1 _ (Ext.refl r) r jrel_revS⟩
      · exact p1.elim
    · exact p1.elim
end Den
set_option maxRecDepth 100000
set_option maxHeartbeats 2000000
/-! list of a text, how often a sign stands in a text, list.extend. -/
namespace Den
open PySem PySem.Spec L2 PyProof.Rows
section
variable {prog : Program} {w : World} {A : Around} {E : Value → Shared → Prop} {s : Shared} {x : Str} {t : Tok}
theorem lt_ext {R : Result → Shared → Prop} (hh : A.handled = none) (hl : x.cps.size ≤ sizeLine) (S : Addr) (res : Value) (c₀ : Nat) (hS : s.heap.get? S = some { cls := .type "list", data := .seq #[] c₀ })
    (hR : ∀ (s' : Shared) (acc : Array Value) (c' : Nat), (∀ b o, b ≠ S → s.heap.get? b = some o → s'.heap.get? b = some o) → s'.gens = s.gens → s'.drawn = s.drawn → s'.os = s.os → s'.heap.get? S = some { cls := .type "list", dict := none, data := .seq acc c', slots := #[] } → ItemsOf (SignAt x) acc x.cps.size → R (.ok (.ret res)) s') :
    wpAny (model prog w) A.in1 (Builtin.List.listExtendWith (.ref S) (.str x t) res) (fun fin s' => match fin with | .done f => R (.ok f) s' | .again c' => c'.quiet = true ∧ codeAny (model prog w) A c' R s') (fun e s' => R (.error e) s') s := by
  have hSlt : S < s.heap.objs.size := Heap.lt_size hS
  unfold Builtin.List.listExtendWith
  refine wpAny_bind (wpAny_typeOf (T := "str") (v := .str x t) rfl ?_)
  have h1 : Builtin.List.listSameRef (.ref S) (.str x t) = false := rfl
  simp only [h1, show (Value.type "str" == Value.type "list") = false from by decide, show (Value.type "str" == Value.type "tuple") = false from by decide, Bool.or_false, Bool.false_eq_true, if_false]
  refine wpAny_bind (wpAny_pyIter_str fun o St W hst => wpAny_bind (wpAny_holding ?_))
  unfold Builtin.List.listLengthHint
  refine wpAny_bind (wpAny_specialOf (T := "str") (v := .str x t) rfl F.str_len ?_)
  wp_delta
  refine wpAny_bind (wpAny_isInstance (T := "str") (v := .str x t) (b := true) rfl (by rw [isSubtype_type]; kernel_rfl) (show wpAny _ A.in1 (typeOf (Value.str x t) >>= _) _ _ _ from ?_))
  refine wpAny_bind (wpAny_typeOf (T := "str") (v := .str x t) rfl (wpAny_pure ?_))
  rw [if_neg (by decide)]
  have hSf : S ∉ [s.heap.objs.size] := fun hm => by rw [List.mem_singleton.mp hm] at hSlt; exact absurd hSlt (Nat.lt_irrefl _)
  refine wpAny_pure ⟨plainId_quiet F.plain_extend_loop _, codeAny_extend_loopS (W A.in1 hh).toS hl S hSf res x.cps.size 0 _ #[] c₀ rfl (Nat.zero_le _) hst (Heap.get?_push_of_some _ hS) (ItemsOf.nil _) fun s' acc' c' hm hS' hacc => ?_⟩
  refine hR s' acc' c' (fun b ob hb e => hm.heap b ob (fun hq => ?_) (Heap.get?_push_of_some _ e)) hm.gens hm.drawn hm.os hS' hacc
  rcases List.mem_cons.mp hq with h | h
  · exact hb h
  · exact absurd (Heap.lt_size e) (by rw [List.mem_singleton.mp h]; exact Nat.lt_irrefl _)
theorem lt_init {R : Result → Shared → Prop} (hh : A.handled = none) (hl : x.cps.size ≤ sizeLine) (S : Addr) (hS : s.heap.get? S = some { cls := .type "list", data := .seq #[] })
    (hR : ∀ (s' : Shared) (acc : Array Value) (c' : Nat), (∀ b o, b ≠ S → s.heap.get? b = some o → s'.heap.get? b = some o) → s'.gens = s.gens → s'.drawn = s.drawn → s'.os = s.os → s'.heap.get? S = some { cls := .type "list", dict := none, data := .seq acc c', slots := #[] } → ItemsOf (SignAt x) acc x.cps.size → R (.ok (.ret .none)) s') :
    wpAny (model prog w) A.in1 (Builtin.«list.__init__» ⟨[.ref S, .str x t], []⟩) (fun fin s' => match fin with | .done f => R (.ok f) s' | .again c' => c'.quiet = true ∧ codeAny (model prog w) A c' R s') (fun e s' => R (.error e) s') s := by
  show wpAny _ _ (do let old ← Builtin.List.listItems (.ref S); Builtin.List.listUpdate (.ref S) (fun _ => #[]); letGo old.toList.reverse; Builtin.List.listExtendWith (.ref S) (.str x t) .none) _ _ s
  refine wpAny_bind ?_
  unfold Builtin.List.listItems
  refine wpAny_bind (wpAny_seqItems hS rfl (wpAny_pure (show wpAny _ _ (updateSeq S (fun _ => #[]) >>= fun _ => letGo (#[] : Array Value).toList.reverse >>= fun _ => Builtin.List.listExtendWith (.ref S) (.str x t) .none) _ _ s from ?_)))
  refine wpAny_bind (wpAny_updateSeq hS rfl (wpAny_bind (wpAny_letGo ?_)))
  refine lt_ext hh hl S .none _ (Heap.get?_update_self (Obj.mapSeq (fun _ => (#[] : Array Value))) hS rfl) fun s' acc c' hk g1 g2 g3 hS' hi => ?_
  exact hR s' acc c' (fun b o hb e => hk b o hb ((Heap.get?_update_other _ _ (Ne.symm hb)).trans e)) g1 g2 g3 hS' hi
theorem lt_call {Q : Value → Shared → Prop} (hh : A.handled = none) (hl : x.cps.size ≤ sizeLine)
    (hQ : ∀ (h' : Heap) (tk : Nat) (acc : Array Value) (c' : Nat), (∀ b o, s.heap.get? b = some o → h'.get? b = some o) → h'.get? s.heap.objs.size = some { cls := .type "list", dict := none, data := .seq acc c', slots := #[] } → ItemsOf (SignAt x) acc x.cps.size → Q (.ref s.heap.objs.size) { s with heap := h', toks := tk }) :
    wpAny (model prog w) A (call (.type "list") [.str x t]) Q E s := by
  refine callType_codes (Q₁ := fun obj s₁ => obj = .ref s.heap.objs.size ∧ s₁ = { s with heap := s.heap.push { cls := .type "list", data := .seq #[] } }) F.called_list (F.typeCall_list_1 _) F.entry_list_init (code_list_new _ ⟨rfl, rfl⟩) fun obj s₁ h₁ => ?_
  obtain ⟨rfl, rfl⟩ := h₁
  have hS : (s.heap.push { cls := .type "list", data := .seq #[] }).get? s.heap.objs.size = some { cls := .type "list", data := .seq #[] } := Heap.get?_push_size _ rfl; refine ⟨⟨_, hS, rfl⟩, F.args_list_init_2 _ _, ?_⟩
  refine lt_init (A := A.in1) hh hl _ hS fun s' acc c' hk g1 g2 g3 hS' hi => ⟨rfl, ?_⟩
  obtain ⟨h', g', d', tk', os'⟩ := s'
  have e1 : g' = s.gens := g1
  have e2 : d' = s.drawn := g2
  have e3 : os' = s.os := g3
  subst e1 e2 e3
  exact hQ h' tk' acc c' (fun b o e => hk b o (Nat.ne_of_lt (Heap.lt_size e)) (Heap.get?_push_of_some _ e)) hS' hi
end
theorem vals_signs {x : Str} {acc : Array Value} (h : ItemsOf (SignAt x) acc x.cps.size) : Vals (x.cps.toList.map fun c => V.str ⟨#[c]⟩) acc.toList := by
  have key : ∀ (l : List Nat) (us : List Value), l.length = us.length → (∀ (i : Nat) (v : Value), us[i]? = some v → ∃ (c : Nat) (u : Tok), l[i]? = some c ∧ v = Value.str ⟨#[c]⟩ u) → Vals (l.map fun c => V.str ⟨#[c]⟩) us := by
    intro l
    induction l with
    | nil => intro us e _; cases us with
      | nil => exact .nil
      | cons u us => cases e
    | cons c l ih =>
      intro us e k
      cases us with
      | nil => cases e
      | cons u us =>
        obtain ⟨c', t, h1, rfl⟩ := k 0 u rfl
        cases h1
        exact .cons ⟨t, rfl⟩ (ih us (by simpa using e) fun i v hv => k (i + 1) v hv)
  refine key _ _ (by rw [Array.length_toList, Array.length_toList, h.1]) fun i v hv => ?_
  obtain ⟨c, u, h1, h2⟩ := h.2 i v (by rw [← Array.getElem?_toList]; exact hv)
  exact ⟨c, u, by rw [Array.getElem?_toList]; exact h1, h2⟩
section
variable {X : Cx} {G : Gx}
theorem cr_listS (hc : X.calm = true) : CallR X (.type "list") (fun xs H Q => ∃ x : Str, xs = [.str x] ∧ x.length ≤ sizeLine ∧ ∀ l, H l = none → Q (.ref l) (upd H l (.lst (x.cps.toList.map fun c => V.str ⟨#[c]⟩)))) := by
  intro pins s σ H xs us Q I r h
  obtain ⟨x, rfl, hl, q⟩ := h
  obtain ⟨u, rfl, rx⟩ := r.one
  obtain ⟨t, rfl⟩ := rx
  refine lt_call (I.ok.hd hc) hl fun h' tk acc c' hk e hi => ?_
  refine ⟨.ref s.heap.objs.size, _, I.laid (t' := tk) hk (Nat.le_refl _) (show ObjOk X.prog X.w _ h' _ (.lst (x.cps.toList.map fun c => V.str ⟨#[c]⟩)) from ⟨by rw [List.length_map, Array.length_toList]; exact hl, acc.toList, c', vals_signs hi, by rw [Array.toArray_toList]; exact e⟩), rfl, q _ (I.hok.fresh (Nat.le_refl _))⟩
def oListS (ws : List W) (h : List O) : Out W := match ws with
  | [.str s] => if s.length ≤ lim then .ok (.ref h.length) (h ++ [.lst (s.map fun c => .str [c])]) else .bad
  | _ => .bad
theorem vrs_signs {K : PySem.W.Frag} {H : Hp} {ρ : List Addr} : ∀ s : List Nat, VRs K H ρ (s.map fun c => V.str ⟨#[c]⟩) (s.map fun c => W.str [c])
  | [] => .nil
  | c :: s => .cons (vr_str' (l := [c]) rfl) (vrs_signs s)
theorem cas_listS (hc : X.calm = true) : CaS G X (.type "list") oListS := ⟨_, cr_listS hc, fun E H ρ h vs ws Q hr r p => by
  unfold oListS at p
  split at p
  · split at p
    · rename_i s hl
      obtain ⟨v, rfl, q⟩ := VRs.inv1 r
      refine ⟨mkS s, by rw [q.str], by rw [Str_length]; exact lim_size hl, ?_⟩
      exact new_lst hr (vrs_signs s) p
    · exact p.elim
  · exact p.elim⟩
/-! ### how often -/
theorem chain_count {x : Str} {c : Nat} : ∀ (cuts : List Nat) (a f : Nat), StrLaws.ChainG x ⟨#[c]⟩ x.length a cuts f → (∀ k, f ≤ k → ¬ StrLaws.At x ⟨#[c]⟩ x.length k) → cuts.length = (x.cps.toList.drop a).count c
  | [], a, f, h, hn => by
    have e : f = a := h
    subst e
    symm
    rw [List.length_nil, List.count_eq_zero]
    intro hm
    obtain ⟨j, hj⟩ := List.getElem?_of_mem hm
    rw [List.getElem?_drop] at hj
    have hlt := (List.getElem?_eq_some_iff.mp hj).1
    exact hn (f + j) (by omega) ((StrLaws.subAt_one x c (f + j)).mpr hj)
  | d :: r, a, f, h, hn => by
    obtain ⟨h1, h2, h3, h4⟩ := h
    have hd := (StrLaws.subAt_one x c d).mp h2
    have ih := chain_count r (d + 1) f h4 hn
    have hlt := (List.getElem?_eq_some_iff.mp hd).1
    have e1 : x.cps.toList.drop d = c :: x.cps.toList.drop (d + 1) := by
      rw [List.drop_eq_getElem_cons hlt]
      congr 1
      exact (List.getElem?_eq_some_iff.mp hd).2
    have e2 : (x.cps.toList.drop a).count c = ((x.cps.toList.drop a).take (d - a)).count c + (x.cps.toList.drop d).count c := by
      conv => lhs; rw [← List.take_append_drop (d - a) (x.cps.toList.drop a)]
      rw [List.count_append, List.drop_drop, show a + (d - a) = d by omega]
    have e3 : ((x.cps.toList.drop a).take (d - a)).count c = 0 := by
      rw [List.count_eq_zero]
      intro hm
      obtain ⟨j, hj⟩ := List.getElem?_of_mem hm
      have hj2 := (List.getElem?_eq_some_iff.mp hj).1
      rw [List.length_take] at hj2
      rw [List.getElem?_take_of_lt (by omega), List.getElem?_drop] at hj
      have hlt2 := (List.getElem?_eq_some_iff.mp hj).1
      exact h3 (a + j) (by omega) (by omega) ((StrLaws.subAt_one x c (a + j)).mpr hj)
    rw [e2, e3, e1, List.count_cons_self, List.length_cons, ih, Nat.zero_add]
theorem count_one (a : List Nat) (c : Nat) : Txt.count (mkS a) (mkS [c]) = (a.count c : Nat) := by
  obtain ⟨f, h1, h2⟩ := StrLaws.occ_tight (mkS a) ⟨#[c]⟩ (Nat.le_refl 1)
  unfold Txt.count
  have := chain_count _ 0 f h1 h2
  show ((_ : Nat) : Int) = _
  rw [show (mkS [c]) = ⟨#[c]⟩ from rfl, this]
  simp
def oSCount (x : W) (ws : List W) (h : List O) : Out W := match x, ws with
  | .str s, [.str [c]] => .ok (.int (s.count c : Nat)) h
  | _, _ => .bad
theorem mes_scount : MeS G X "str.count" oSCount := ⟨_, mt_count, fun E H ρ h x wx vs ws Q hr rx r p => by
  unfold oSCount at p
  split at p
  · rename_i s c
    obtain ⟨v, rfl, q⟩ := VRs.inv1 r
    exact ⟨mkS s, mkS [c], rx.str, by rw [q.str], by rw [count_one]; exact p.here hr vr_int⟩
  · exact p.elim⟩
/-! ### list.extend -/
def oExtend (x : W) (ws : List W) (h : List O) : Out W := match x, ws with
  | .ref n, [.ref m] => match lstAt h n, lstAt h m with
    | some xs, some ys => if xs.length + ys.length ≤ lim then .ok .non (h.set n (.lst (xs ++ ys))) else .bad
    | _, _ => .bad
  | _, _ => .bad
theorem mes_extend : MeS G X "list.extend" oExtend := ⟨_, mt_extend, fun E H ρ h x wx vs ws Q hr rx r p => by
  unfold oExtend at p
  split at p
  · split at p
    · rename_i xs ys hx hy
      split at p
      · rename_i hl
        obtain ⟨a, rfl, ea⟩ := rx.ref
        obtain ⟨y, rfl, ry⟩ := r.inv1
        obtain ⟨b, rfl, eb⟩ := ry.ref
        obtain ⟨us, q, z⟩ := hr.look ea (lstAt_some hx)
        obtain ⟨us2, q2, z2⟩ := hr.look eb (lstAt_some hy)
        exact ⟨a, b, us, us2, rfl, rfl, q, q2, by rw [z.length, z2.length]; exact lim_size hl, put_lst hr ea (lstAt_nk hx) (z.append z2) (fun _ => vr_non) p⟩
      · exact False.elim p
    · exact False.elim p
  · exact False.elim p⟩
end
end Den
set_option maxRecDepth 100000
set_option maxHeartbeats 2000000
/-! Orders of plain data, calculated. -/
namespace Den
open PySem L2
theorem sort_byG {α : Type} (l : List α) (g : α → W) (f : α → PyData) : sortBy (l.map g) (l.map f) = (l.mergeSort (PySem.W.dataLe false f)).map g := by
  unfold sortBy
  have e : (l.map g).zip (l.map f) = l.map fun b => (g b, f b) := by
    induction l with
    | nil => rfl
    | cons x l ih => rw [List.map_cons, List.map_cons, List.zip_cons_cons, ih, List.map_cons]
  rw [e, sort_map2, List.map_map]
  rfl
theorem kindG {α : Type} (l : List α) (f : α → PyData) (h1 : ∀ a b, PySem.W.alike (f a) (f b) = true) (h2 : ∀ a, (f a).depth ≤ 16) (h3 : ∀ a, f a ≠ .none ∧ f a ≠ .tuple []) : kindOk (l.map f) = true := by
  unfold kindOk
  rw [List.all_eq_true]
  intro d hd
  obtain ⟨i, _, rfl⟩ := List.mem_map.1 hd
  simp only [Bool.and_eq_true, List.all_eq_true, decide_eq_true_eq]
  refine ⟨⟨fun e he => ?_, h2 i⟩, ?_⟩
  · obtain ⟨j, _, rfl⟩ := List.mem_map.1 he
    exact h1 i j
  · obtain ⟨a, b⟩ := h3 i
    split
    · rename_i e; exact absurd e b
    · rename_i e; exact absurd e a
    · rfl
theorem kindG_si {α : Type} (l : List α) (x : α → List Nat) (y : α → Int) : kindOk (l.map fun b => PyData.tuple [.str (mkS (x b)), .int (y b)]) = true :=
  kindG l _ (fun a b => by simp [PySem.W.alike, PySem.W.alikeAll]) (fun a => by simp [PyData.depth, PyData.depthAll]) fun a => ⟨by simp, by simp⟩
theorem kindG_is {α : Type} (l : List α) (x : α → List Nat) (y : α → Int) : kindOk (l.map fun b => PyData.tuple [.int (y b), .str (mkS (x b))]) = true :=
  kindG l _ (fun a b => by simp [PySem.W.alike, PySem.W.alikeAll]) (fun a => by simp [PyData.depth, PyData.depthAll]) fun a => ⟨by simp, by simp⟩
theorem kindG_s {α : Type} (l : List α) (x : α → List Nat) : kindOk (l.map fun b => PyData.str (mkS (x b))) = true :=
  kindG l _ (fun a b => by simp [PySem.W.alike]) (fun a => by simp [PyData.depth]) fun a => ⟨by simp, by simp⟩
/-- a sorted list: a permutation, in order -/
theorem sorted_perm {α : Type} (l : List α) (f : α → PyData) : (l.mergeSort (PySem.W.dataLe false f)).Perm l := List.mergeSort_perm _ _
theorem sorted_pw {α : Type} (l : List α) (f : α → PyData) : (l.mergeSort (PySem.W.dataLe false f)).Pairwise fun a b => PySem.W.dataLe false f a b = true := by
  have tl : PySem.W.TotalLe (PySem.W.dataLe false f) := PySem.W.sortLe_total _ _ _
  exact List.pairwise_mergeSort tl.trans (fun a b => by rw [Bool.or_eq_true]; exact tl.total a b) l
theorem mkS_toList (s : List Nat) : (mkS s).cps.toList = s := by simp
theorem le_str {α : Type} (x : α → List Nat) {a b : α} (h : PySem.W.dataLe false (fun b => PyData.str (mkS (x b))) a b = true) : x a ≤ x b := by
  rw [PySem.W.dataLe_str] at h
  simpa using h
theorem eqv_str (a b : List Nat) : PyData.eqv (.str (mkS a)) (.str (mkS b)) = decide (a = b) := by
  simp only [PyData.eqv]
  show (mkS a == mkS b) = _
  rw [mkS_beq]
  by_cases e : a = b <;> simp [e]
theorem le_si {α : Type} (x : α → List Nat) (y : α → Int) {a b : α} (h : PySem.W.dataLe false (fun b => PyData.tuple [.str (mkS (x b)), .int (y b)]) a b = true) : x a < x b ∨ (x a = x b ∧ y a ≤ y b) := by
  have h' : (!PySem.W.dataLt (.tuple [.str (mkS (x b)), .int (y b)]) (.tuple [.str (mkS (x a)), .int (y a)])) = true := h
  rw [PySem.W.dataLt_pair (by simp [PySem.W.alike]) (by simp [PySem.W.alike]), eqv_str] at h'
  by_cases e : x b = x a
  · rw [if_pos (decide_eq_true e)] at h'
    refine .inr ⟨e.symm, ?_⟩
    by_cases e2 : y b = y a
    · omega
    · rw [if_neg (by simp only [PyData.eqv]; simpa using e2), PySem.W.dataLt_int] at h'
      simp at h'; omega
  · rw [if_neg (by simpa using e), PySem.W.dataLt_str] at h'
    simp at h'
    refine .inl ((by rcases List.le_iff_lt_or_eq.1 h' with q | q; exact q; exact absurd q.symm e))
theorem le_is {α : Type} (x : α → List Nat) (y : α → Int) {a b : α} (h : PySem.W.dataLe false (fun b => PyData.tuple [.int (y b), .str (mkS (x b))]) a b = true) : y a < y b ∨ (y a = y b ∧ x a ≤ x b) := by
  have h' : (!PySem.W.dataLt (.tuple [.int (y b), .str (mkS (x b))]) (.tuple [.int (y a), .str (mkS (x a))])) = true := h
  rw [PySem.W.dataLt_pair (by simp [PySem.W.alike]) (by simp [PySem.W.alike])] at h'
  by_cases e : y b = y a
  · rw [if_pos (by simp only [PyData.eqv]; simpa using e), eqv_str] at h'
    refine .inr ⟨e.symm, ?_⟩
    by_cases e2 : x b = x a
    · rw [e2]; exact List.le_refl _
    · rw [if_neg (by simpa using e2), PySem.W.dataLt_str] at h'
      simpa using h'
  · rw [if_neg (by simp only [PyData.eqv]; simpa using e), PySem.W.dataLt_int] at h'
    simp at h'
    exact .inl (by omega)
/-- texts and tests of kinds -/
theorem kitt_ss : kitB "str" "str" = some true := by decide +kernel
theorem kitt_is : kitB "int" "str" = some false := by decide +kernel
theorem kitt_ns : kitB "NoneType" "str" = some false := by decide +kernel
theorem kitt_ls : kitB "list" "str" = some false := by decide +kernel
theorem kitt_ts : kitB "tuple" "str" = some false := by decide +kernel
theorem isiV_s {e : Env} {h : List O} {m : M W} {s : List Nat} (h1 : m e h = .ok (.str s) h) : mIsiV "str" m e h = .ok (.bl true) h := isiV_of h1 (by show ("str" : String) ≠ "?"; decide) kitt_ss
theorem in_one {c : Nat} {s : List Nat} {h : List O} : oIn (.str [c]) (.str s) h = .ok (.bl (decide (c ∈ s))) h := nrfl rfl
theorem notin_one {c : Nat} {s : List Nat} {h : List O} : oNotIn (.str [c]) (.str s) h = .ok (.bl (decide (c ∉ s))) h := by
  show Out.ok (W.bl (!decide (c ∈ s))) h = _
  simp
theorem ap_RevT {m : M W} {e : Env} {h : List O} : mRevT m e h = (m e h).bnd fun w h => match w with
  | .str s => if s.length ≤ 1000000 then .ok (srcS s.reverse) h else .bad
  | _ => .bad := nrfl rfl
theorem revT_eq {m : M W} {e : Env} {h : List O} {s : List Nat} (h1 : m e h = .ok (.str s) h) (hl : s.length ≤ 1000000) : mRevT m e h = .ok (srcS s.reverse) h := by
  rw [ap_RevT, h1, ok_bnd]
  exact if_pos hl
theorem listS_eq {s : List Nat} {h : List O} (hl : s.length ≤ 1000000) : oListS [.str s] h = .ok (.ref h.length) (h ++ [.lst (s.map fun c => .str [c])]) := if_pos hl
theorem scount_eq {s : List Nat} {c : Nat} {h : List O} : oSCount (.str s) [.str [c]] h = .ok (.int (s.count c : Nat)) h := nrfl rfl
theorem extend_eq {n m : Nat} {h : List O} {xs ys : List W} (h1 : lstAt h n = some xs) (h2 : lstAt h m = some ys) (hl : xs.length + ys.length ≤ 1000000) : oExtend (.ref n) [.ref m] h = .ok .non (h.set n (.lst (xs ++ ys))) := by
  unfold oExtend
  dsimp only
  rw [h1, h2]
  exact if_pos hl
theorem ap_SlS {m : M W} {lo hi : M (Option Int)} {e : Env} {h : List O} : mSlS m lo hi e h = (m e h).bnd fun x h => (lo e h).bnd fun l h => (hi e h).bnd fun u h => oSlS x l u h := nrfl rfl
theorem slS_s {s : List Nat} {lo hi : Option Int} {h : List O} (hl : s.length ≤ 1000000) : oSlS (.str s) lo hi h = .ok (.str (cutW s lo hi)) h := if_pos hl
/-- frozen frames of plain things -/
theorem frz_s {h : List O} {s : List Nat} {k : Nat} : frz h (k + 1) (.str s) = some (.str s) := rfl
theorem frz_i {h : List O} {i : Int} {k : Nat} : frz h (k + 1) (.int i) = some (.int i) := rfl
theorem dat_s {h : List O} {s : List Nat} {k : Nat} (hf : strFit s = true) : dat h (k + 1) (.str s) = some (.str (mkS s)) := by unfold dat; exact if_pos hf
theorem dat_i {h : List O} {i : Int} {k : Nat} : dat h (k + 1) (.int i) = some (.int i) := rfl
theorem mapO_2 {α β : Type} {f : α → Option β} {x y : α} {a b : β} (h1 : f x = some a) (h2 : f y = some b) : mapO f [x, y] = some [a, b] := by
  unfold mapO
  rw [h1]
  dsimp only
  unfold mapO
  rw [h2]
  rfl
theorem dat_t {h : List O} {xs : List W} {ds : List PyData} {k : Nat} (e : mapO (dat h k) xs = some ds) : dat h (k + 1) (.tup xs) = some (.tuple ds) := by
  unfold dat; rw [e]; rfl
theorem eqW_tup2 {h : List O} {x y x' y' : W} {a b a' b' : PyData} (h1 : dat h 7 x = some a) (h2 : dat h 7 y = some b) (h1' : dat h 7 x' = some a') (h2' : dat h 7 y' = some b') : eqW h (.tup [x, y]) (.tup [x', y']) = some (PyData.eqv a a' && PyData.eqv b b') := by
  rw [eqW_tt (mapO_2 h1 h2) (mapO_2 h1' h2')]
  simp [PyData.eqvAll]
theorem ne_tup_si {h : List O} {s s' : List Nat} {i i' : Int} (hs : strFit s = true) (hs' : strFit s' = true) : oNe (.tup [.str s, .int i]) (.tup [.str s', .int i']) h = .ok (.bl (!(decide (s = s') && decide (i = i')))) h := by
  unfold oNe
  rw [eqW_tup2 (dat_s hs) dat_i (dat_s hs') dat_i, eqv_str]
  have e : PyData.eqv (.int i) (.int i') = decide (i = i') := by simp only [PyData.eqv]; by_cases q : i = i' <;> simp [q]
  rw [e]
theorem fit_of {s : List Nat} (h : ∀ c ∈ s, c < 1114112) : strFit s = true := by
  unfold strFit
  rw [List.all_eq_true]
  exact fun c hc => decide_eq_true (h c hc)
/-! ### texts in lists -/
abbrev FitL (L : List (List Nat)) : Prop := ∀ z ∈ L, strFit z = true
theorem inW_rs {h : List O} {n : Nat} {s : List Nat} {l : List (List Nat)} (hs : strFit s = true) (hf : FitL l) (hn : lstAt h n = some (l.map .str)) : inW (.str s) (.ref n) h = some (decide (s ∈ l)) := by
  have e1 : dat h 8 (.str s) = some (.str ⟨s.toArray⟩) := dat_s hs
  have e2 : dat h 8 (.ref n) = some (.list (l.map fun s => PyData.str ⟨s.toArray⟩)) := by
    unfold dat
    rw [hn]
    show (mapO (dat h (6 + 1)) (l.map .str)).map PyData.list = _
    rw [dat_strs l hf]
    rfl
  have e3 : (l.map fun s => PyData.str ⟨s.toArray⟩).any (fun z => PyData.eqv z (.str ⟨s.toArray⟩)) = decide (s ∈ l) := by
    clear e2 hn hf
    induction l with
    | nil => rfl
    | cons x l ih =>
      rw [List.map_cons, List.any_cons, ih]
      have e : PyData.eqv (.str ⟨x.toArray⟩) (.str ⟨s.toArray⟩) = decide (x = s) := eqv_str x s
      rw [e]
      by_cases hx : x = s
      · subst hx; simp
      · have : ¬ s = x := fun e => hx e.symm
        simp [hx, this]
  have key : (match dat h 8 (.str s), dat h 8 (.ref n) with
    | some d, some (.list ds) => some (ds.any fun z => PyData.eqv z d)
    | _, _ => none) = some (decide (s ∈ l)) := by
    rw [e1, e2]
    dsimp only
    rw [e3]
  unfold inW
  cases s with
  | nil => exact key
  | cons a r =>
    cases r with
    | nil => exact key
    | cons b r => exact key
theorem notin_rs {h : List O} {n : Nat} {s : List Nat} {l : List (List Nat)} (hs : strFit s = true) (hf : FitL l) (hn : lstAt h n = some (l.map .str)) : oNotIn (.str s) (.ref n) h = .ok (.bl (decide (s ∉ l))) h := by
  unfold oNotIn
  rw [inW_rs hs hf hn]
  simp
theorem in_rs {h : List O} {n : Nat} {s : List Nat} {l : List (List Nat)} (hs : strFit s = true) (hf : FitL l) (hn : lstAt h n = some (l.map .str)) : oIn (.str s) (.ref n) h = .ok (.bl (decide (s ∈ l))) h := by
  unfold oIn
  rw [inW_rs hs hf hn]
/-! ### new lists, told by what they hold -/
theorem sl_at {H : List O} {q : Nat} {xs : List W} (hq : lstAt H q = some xs) (lo hi : Option Int) : ∃ p H', oSl (.ref q) lo hi H = .ok (.ref p) H' ∧ Gr H H' ∧ lstAt H' p = some (cutW xs lo hi) ∧ H.length ≤ p :=
  ⟨_, _, by rw [sl_r, hq]; rfl, Gr.app, lst_last, Nat.le_refl _⟩
theorem add_at {H : List O} {q r : Nat} {xs ys : List W} (hq : lstAt H q = some xs) (hr : lstAt H r = some ys) (hl : xs.length + ys.length ≤ 1000000) : ∃ p H', oAdd (.ref q) (.ref r) H = .ok (.ref p) H' ∧ Gr H H' ∧ lstAt H' p = some (xs ++ ys) ∧ H.length ≤ p :=
  ⟨_, _, by rw [add_rr, hq, hr]; exact if_pos hl, Gr.app, lst_last, Nat.le_refl _⟩
theorem lst_at {H : List O} {e : Env} {m : M (List W)} {xs : List W} {H1 : List O} (h1 : m e H = .ok xs H1) (hl : xs.length ≤ 1000000) : ∃ p H', mLst m e H = .ok (.ref p) H' ∧ Gr H1 H' ∧ lstAt H' p = some xs ∧ H1.length ≤ p :=
  ⟨_, _, by rw [ap_Lst, h1, ok_bnd]; exact if_pos hl, Gr.app, lst_last, Nat.le_refl _⟩
theorem Gr.len {h h' : List O} (g : Gr h h') : h.length ≤ h'.length := by
  obtain ⟨j, rfl⟩ := g
  rw [List.length_append]; omega
theorem picks_length {N : Nat} {c : Nat → Bool} {f : Nat → W} : (picks N c f).length = ((List.range N).filter c).length := by unfold picks; rw [List.length_map]
end Den
set_option maxRecDepth 100000
set_option maxHeartbeats 2000000
/-! x(lambda: e), x a def that tells the place of an own error; defs that call themselves; where among truth values. -/
namespace Den
open PySem PySem.Spec PySem.Calls L2 PyProof.Rows LamX
section
variable {X : Cx}
/-- a wish that need only hold where the frame is whole -/
theorem takes_len {W : WX} (t : Takes X W) : Takes X (fun cls d σ H => σ.length = X.N.length → W cls d σ H) := fun u s' ⟨a, B, sI, pins, σ, H, cls, d, e, I, nb, up, sky, na, os, ag, w⟩ =>
  t u s' ⟨a, B, sI, pins, σ, H, cls, d, e, I, nb, up, sky, na, os, ag, w I.len⟩
/-- what such a def makes of what it got -/
def TPlace (CB : Addr) (fld : Str) (ret : Str) : (XK → Hp → VK → Prop) → Hp → VK → Prop := fun tl H Q =>
  tl (fun cls d H' => cls = .ref CB ∧ ∃ dq v, d = some dq ∧ H' dq = some (.xd [(fld, v)]) ∧ Q v H') H fun _ H' => Q (.str ret) H'
theorem lookup_one {fld : Str} {v : V} : [(fld, v)].lookup fld = some v := by
  rw [List.lookup_cons]; simp
theorem place_gives {Ng : List Str} {x a n q xc ci fld ret : Str} {sg : Scope} {g CB CI : Addr} {cdg : Value} {j j2 : Nat} {p1 p2 p3 p4 p5 p6 p7 p8 q1 q2 q3 q4 q5 q6 q7 q8 q9 q10 q11 q12 r1 r2 : Pos}
    (hN : Ng.Nodup) (hn : Ng[1]? = some n) (hln : sg.names.lookup n = some .local) (h0 : ∀ f : Addr, (L2.start Ng [V.ref f])[0]? = some (some (V.ref f))) (hlen : Ng.length = 2)
    (gxc : sg.names.lookup xc = some .globalImplicit) (dxc : (xc == ("__debug__" : Str)) = false) (mxc : X.mg xc = some (.ref CB))
    (gci : sg.names.lookup ci = some .globalImplicit) (dci : (ci == ("__debug__" : Str)) = false) (mci : X.mg ci = some (.ref CI))
    (gis : sg.names.lookup ("isinstance" : Str) = some .globalImplicit) (mis : X.mg "isinstance" = none) (gve : sg.names.lookup ("ValueError" : Str) = some .globalImplicit) (mve : X.mg "ValueError" = none)
    (dn1 : (n == ("__debug__" : Str)) = false) (dn2 : (n == ("__classdict__" : Str)) = false)
    (hC : ExcC X.K CB) (hX : XfC X.K CB) (hno : PySem.W.findIn X.K (.ref CB) fld = some none) (hm : PySem.W.exmOne X.K (.ref CB) (.ref CB) = some true)
    (k1 : PySem.W.kitOne X.K (.ref CB) (.ref CI) = some true) (k2 : PySem.W.kitOne X.K (.ref CB) (.type "ValueError") = some true)
    (hb : ∀ (f : Addr) (s : Shared) (H : Hp), attributeBase (.Name n q9) fld (cxOf C8.CX0 X.prog X.w X.K X.mg X.base Ng x sg g cdg X.A X.stack s H C8.E0).nox.env (eval (.Name n q9) (cxOf C8.CX0 X.prog X.w X.K X.mg X.base Ng x sg g cdg X.A X.stack s H C8.E0).nox.env) = eval (.Name n q9) (cxOf C8.CX0 X.prog X.w X.K X.mg X.base Ng x sg g cdg X.A X.stack s H C8.E0).nox.env)
    (hs : ∀ (s : Shared) (H : Hp) (pn : List (Addr × Obj)) (xe : Value → Shared → Prop), swapsWith (.Call (.Name a p1) [] [] p2) none p3.line ((cxOf C8.CX0 X.prog X.w X.K X.mg X.base Ng x sg g cdg X.A X.stack s H C8.E0).tr pn xe).env = pure false) :
    GivesTo X Ng x sg g cdg [.Try [.Expr (.Call (.Name a p1) [] [] p2) p3] [.ExceptHandler (some (.Name xc p4)) (some n) [.Return (some (.IfExp (.BoolOp .And [.Call (.Name "isinstance" q1) [.Name n q2, .Name ci q3] [] q4, .Call (.Name "isinstance" q5) [.Name n q6, .Name "ValueError" q7] [] q8] p7) (.Attribute (.Name n q9) fld q10) (.Constant .none j q11) q12)) p5] p6] [] [] p8, .Return (some (.Constant (.str ret) j2 r1)) r2] a q (TPlace CB fld ret) := by
  intro f c' s H Q tl act hc h
  let Y := (cxOf C8.CX0 X.prog X.w X.K X.mg X.base Ng x sg g cdg X.A X.stack s H C8.E0).nox
  let ts : Addr → Value → Option Addr → TS := fun a0 cls d D σ H1 => cls = .ref CB ∧ ∃ dq v, d = some dq ∧ H1 dq = some (.xd [(fld, v)]) ∧ σ[1]? = some (some (.ref a0)) ∧ D.rt v H1
  have suite : ∀ (a0 : Addr) (oe : Obj) (cls : Value) (d : Option Addr) (pn : List (Addr × Obj)), Zc cls d oe → (∃ vs, oe.data = .fields vs) →
      PSs (Y.suite a0 ((a0, oe) :: pn)) [.Return (some (.IfExp (.BoolOp .And [.Call (.Name "isinstance" q1) [.Name n q2, .Name ci q3] [] q4, .Call (.Name "isinstance" q5) [.Name n q6, .Name "ValueError" q7] [] q8] p7) (.Attribute (.Name n q9) fld q10) (.Constant .none j q11) q12)) p5] (ts a0 cls d) := by
    intro a0 oe cls d pn hz hf
    refine ⟨fun pins s' σ' H' D I h' => ?_⟩
    obtain ⟨rfl, dq, v, rfl, hdd, hsl, hq⟩ := h'
    have e1 : ∀ p, PE (Y.suite a0 ((a0, oe) :: pn)) (.Name n p) (tVar 1) := fun p => pe_var (i := 1) hn (.inl hln) dn1 dn2
    have c1 := pe_callB (X := Y.suite a0 ((a0, oe) :: pn)) (p := q1) (pos := q4) (x := "isinstance") (call_isF (X := Y) (a := a0) (D := CB) (d := some dq) (oe := oe) (pn := pn) hC hz hf) gis mis (by decide +kernel) (pa_cons (e1 q2) (pa_cons (pe_glob (x := ci) (v := .ref CI) (pos := q3) gci mci rfl dci) pa_nil rfl) rfl)
    have c2 := pe_callB (X := Y.suite a0 ((a0, oe) :: pn)) (p := q5) (pos := q8) (x := "isinstance") (call_isF (X := Y) (a := a0) (D := CB) (d := some dq) (oe := oe) (pn := pn) hC hz hf) gis mis (by decide +kernel) (pa_cons (e1 q6) (pa_cons (pe_bltn (x := "ValueError") (v := .ty "ValueError") (u := .type "ValueError") (pos := q7) gve mve (by decide +kernel) rfl (by decide) (by decide)) pa_nil rfl) rfl)
    have at_ := pe_xf (X := Y) (a := a0) (oe := oe) (pn := pn) (n := fld) (pos := q10) hX hno hz hf (e1 q9) (hb f s H)
    refine (pss_one (ps_ret (pos := p5) (pe_ifExp (pos := q12) (pw_and (pos := p7) (pt_truth c1 (fun _ => rfl)) (pw_and1 (pos := p7) (pt_truth c2 (fun _ => rfl)))).pt at_ (pe_non (X := Y.suite a0 ((a0, oe) :: pn)) (j := j) (pos := q11))))).run pins s' σ' H' D I ?_
    refine ⟨.ref a0, hsl, .ref CI, .ref CI, true, dq, _, rfl, fun u r => r, k1, rfl, hdd, true, rfl, ?_⟩
    refine iteT ⟨.ref a0, hsl, .ty "ValueError", .type "ValueError", true, dq, _, rfl, fun u r => r, k2, rfl, hdd, true, rfl, ?_⟩
    exact iteT ⟨.ref a0, hsl, rfl, rfl, dq, _, v, rfl, hdd, lookup_one, hq⟩
  refine ⟨_, pss_cons (ps_try_as (X := Y) (i := 1) (n := n) (c := .ref CB) (ts := ts)
      (tb := fun W D σ H => ∃ Ech : XK, (∀ cls d σ' H', σ'.length = Ng.length → Ech cls d H' → W cls d σ' H') ∧ σ[0]? = some (some (.ref f)) ∧ H c' = some (CodeO c' q) ∧ tl Ech H fun _ H1 => D.nx σ H1)
      rfl rfl hN hn hln ⟨gxc, dxc, .inl mxc⟩ LamX.takes0 (fun W pn xe tk _ => ?_) suite) (pss_one (ps_ret pe_str)), ?_⟩
  · refine ⟨fun pins s' σ H' D I h' => ?_⟩
    obtain ⟨Ech, hW, h1, h2, h3⟩ := h'
    have hp := act _ pn xe Ech p1 p2 (takes_len tk) fun cls d σ' H' he hl => hW cls d σ' H' hl he
    exact (pss_one (ps_expr (pos := p3) hp (hs s H pn xe))).run pins s' σ H' D I ⟨h1, h2, h3⟩
  · refine ⟨fun cls d H' => cls = .ref CB ∧ ∃ dq v, d = some dq ∧ H' dq = some (.xd [(fld, v)]) ∧ Q v H', fun cls d σ' H' hl he => ?_, h0 f, hc, h⟩
    obtain ⟨rfl, dq, v, rfl, hdd, hq⟩ := he
    exact ⟨true, hm, fun _ a0 _ => ⟨rfl, dq, v, rfl, hdd, by rw [List.getElem?_set_self (by omega)], hq⟩, fun hb => by cases hb⟩
end
def mPlace (c0 : Nat) (ret : List Nat) (m : M W) : M W := fun e h => match m e h with
  | .ok _ h' => .ok (.str ret) h'
  | .exc c (some w) h' => if c = c0 then .ok w h' else .bad
  | _ => .bad
section
variable {G : Gx} {X : Cx}
theorem se_place {x a : Str} {st : Stmt} {g : Addr} {fd : FuncData} {Ng : List Str} {c P CB : Addr} {k j c0 : Nat} {params : Arguments} {body : Expr} {scope : Scope} {mb : M W} {ret : Str} {retN : List Nat} {p lpos pos : Pos}
    (F : Fun X.K x x st g fd) (hb : L2.Binds X.K fd [a] []) (hm : X.mg x = some (.ref g)) (Sg : FnScope Ng [a] (defScope st)) (hG : ∀ cdv, GivesTo X Ng x (defScope st) g cdv (defBody st) a (X.env.qual ++ "<lambda>") (TPlace CB "place" ret))
    (hca : G.ca c0 = some CB) (hret : ret = mkS retN) (hNg : Ng[0]? = some a) (hva : Vis (defScope st) a)
    (hg : Gl X x) (TB : TabB X.base X.mg c P) (hcode : X.env.code = .ref c) (hmT : (P, X.env.qual ++ "<lambda>") ∈ G.T) (hu : ∀ p ∈ G.T, p.1 = P → p.2 = X.env.qual ++ "<lambda>") (hr : Room j X.A) (hk : k + 2 ≤ j) (L : LamS X.env.scope scope) (hdef : defaultsOf params X.env = ([], []))
    (hbind : ∀ (q : Str) (cl : List (Str × Addr)) (pm cv ctv : Value), bindArgs (PySem.W.kla_fn "<lambda>" q params body scope cl pm cv ctv) ⟨[], []⟩ = pure [])
    (hbody : ∀ (A : Around) (outer : List PySem.Env) (s : Shared) (H : Hp) (E : XK) (f c' : Addr), Room k (A.deeper (lamEnv X scope s.heap.objs.size f c')) → SE G (lamCx X A outer s H E scope f c') body mb)
    (hdb : (x == ("__debug__" : Str)) = false := by decide) (hd : (a == ("__debug__" : Str)) = false := by decide) (hcd : (a == ("__classdict__" : Str)) = false := by decide) :
    SE G X (.Call (.Name x p) [.Lambda params body scope lpos] [] pos) (mPlace c0 retN mb) := fun Wx tk => by
  obtain ⟨oc, od, kV, doc, pm, an, cdv, ct, osl, rfl, lk, hcd'⟩ := F.ex
  refine (pe_lamcall (T := G.T) (k := k) (t := fun E => rd X.K G (fun cls d _ H => E cls d H) (VRel X.K) mb) (TT := TPlace CB "place" ret) hg hm F.kp lk hcd' hb Sg hNg hva (hG cdv) TB hcode hmT hu (hr.mono hk) L hdef hbind
    (fun A outer s H E f c' hr' => hbody A outer s H E f c' hr' _ (takes_of rfl rfl rfl rfl)) hdb hd hcd).imp fun σ H Q p => ?_
  obtain ⟨ρ, e, h, h1, sr, p⟩ := p
  refine ⟨h1.tb, fun H1 eN T1 => ?_⟩
  have x : Ext H ρ H1 ρ := ⟨fun b o e t _ => eN b o e (by intro ps z; subst z; cases t), List.prefix_rfl, fun _ a b => absurd a b, h1.mu, fun b o u e => eN b _ e (by intro ps z; cases z)⟩
  have r1 : HR X.K G H1 ρ h := ⟨h1.len, h1.nd, fun n a o e1 e2 => (h1.ob n a o e1 e2).mono x (by
    obtain ⟨u, hu, hm⟩ := (h1.ob n a o e1 e2).mut
    rw [hu]
    exact eN a u hu (by intro ps z; subst z; cases hm)), T1⟩
  have p := p.ext x
  refine ⟨ρ, e, h, r1, sr.mono x, ?_⟩
  cases hb : mb e h with
  | bad =>
    have e1 : mPlace c0 retN mb e h = .bad := by unfold mPlace; rw [hb]
    rw [e1] at p
    exact False.elim p
  | ok w h' =>
    have e1 : mPlace c0 retN mb e h = .ok (.str retN) h' := by unfold mPlace; rw [hb]
    rw [e1] at p
    exact fun ρ' H' v x' r' q' => p ρ' H' _ x' r' (vr_str' hret)
  | exc c pl h' =>
    cases pl with
    | none =>
      have e1 : mPlace c0 retN mb e h = .bad := by unfold mPlace; rw [hb]
      rw [e1] at p
      exact False.elim p
    | some w =>
      have e1 : mPlace c0 retN mb e h = if c = c0 then .ok w h' else .bad := by unfold mPlace; rw [hb]
      rw [e1] at p
      by_cases hc : c = c0
      · rw [if_pos hc] at p
        intro ρ' H' cls d x' r' q'
        obtain ⟨C, hC, rfl, dq, v, rfl, hdd, rv⟩ := q'
        rw [hc, hca] at hC
        cases hC
        exact ⟨rfl, dq, v, rfl, hdd, p ρ' H' v x' r' rv⟩
      · rw [if_neg hc] at p
        exact False.elim p
/-! ### defs that call themselves -/
def mNever : Sm := fun _ _ => .bad
theorem sss_bad {s : List Stmt} : SSs G X s mNever := fun Wx tk => ⟨fun pins s' σ H D I h => by
  obtain ⟨ρ, e, h0, hr, sr, p⟩ := h
  exact p.elim⟩
/-! ### where among truth values -/
theorem bools_ok {K : PySem.W.Frag} {H : Hp} {ρ : List Addr} : ∀ {ws : List W} {vs : List V} {l : List Bool}, VRs K H ρ vs ws → bools ws = some l → vs = l.map V.bl
  | [], vs, l, r, e => by cases e; exact r.inv0
  | .bl b :: ws, vs, l, r, e => by
    unfold bools at e
    unfold VRs at r
    obtain ⟨v, t, rfl, q1, z⟩ := r
    cases hw : bools ws with
    | none => rw [hw] at e; cases e
    | some m =>
      rw [hw] at e
      cases e
      rw [q1.bl, bools_ok z hw]
      rfl
  | .non :: ws, vs, l, r, e => by cases e
  | .int _ :: ws, vs, l, r, e => by cases e
  | .str _ :: ws, vs, l, r, e => by cases e
  | .tup _ :: ws, vs, l, r, e => by cases e
  | .rol _ :: ws, vs, l, r, e => by cases e
  | .ref _ :: ws, vs, l, r, e => by cases e
def oIndexB (x : W) (ws : List W) (h : List O) : Out W := match ws with
  | [.bl b] => match sqL x h with
    | some xs => match bools xs with
      | some l => match idxOf b l with
        | some j => .ok (.int j) h
        | none => .bad
      | none => .bad
    | none => .bad
  | _ => .bad
theorem flat_bls (l : List Bool) : (l.map V.bl).all flatV = true := by
  rw [List.all_eq_true]
  intro v hv
  obtain ⟨b, _, rfl⟩ := List.mem_map.1 hv
  rfl
theorem eqV_bl (a b : Bool) : eqV (V.bl a) (V.bl b) = (a == b) := by cases a <;> cases b <;> rfl
theorem mes_indexB : MeS G X "list.index" oIndexB := ⟨_, mt_index, fun E H ρ h x wx vs ws Q hr rx r p => by
  unfold oIndexB at p
  split at p
  · rename_i b
    split at p
    · rename_i xs hx
      split at p
      · rename_i l hl
        split at p
        · rename_i j hj
          obtain ⟨y, rfl, ry⟩ := r.inv1
          obtain ⟨a, vs, rfl, q, z⟩ := sqL_ok hr rx hx
          obtain ⟨⟨t, h1, h2⟩, h3⟩ := idxOf_ok hj
          rw [bools_ok z hl] at q
          refine ⟨a, _, _, j, V.bl t, rfl, by rw [ry.bl], q, rfl, flat_bls l, by rw [List.getElem?_map, h1]; rfl, by rw [eqV_bl]; exact h2, fun m z' hm hz => ?_, p.here hr vr_int⟩
          rw [List.getElem?_map] at hz
          cases hm2 : l[m]? with
          | none => rw [hm2] at hz; cases hz
          | some u =>
            rw [hm2] at hz
            cases hz
            show eqV (V.bl u) (V.bl b) = false
            rw [eqV_bl]
            exact h3 m u hm hm2
        · exact False.elim p
      · exact False.elim p
    · exact False.elim p
  · exact False.elim p⟩
end
end Den
set_option maxRecDepth 100000
set_option maxHeartbeats 2000000
/-! An own error with a field: what the text says, gathered. -/
namespace Den
open PySem PySem.Spec PySem.Calls L2 PyProof.Rows PySem.W NdefX
def clsBody (s : Stmt) : List Stmt := match s with
  | .ClassDef _ _ _ b _ _ _ _ _ _ _ => b
  | _ => []
/-- what a def that tells the place of such an error asks of the class at CB and of the one above it -/
structure PlaceOk (K : PySem.W.Frag) (mg : Str → Option Value) (xc ci fld : Str) (CB CI : Addr) : Prop where
  mB : mg xc = some (.ref CB)
  mI : mg ci = some (.ref CI)
  hC : ExcC K CB
  hX : XfC K CB
  hno : PySem.W.findIn K (.ref CB) fld = some none
  hm : PySem.W.exmOne K (.ref CB) (.ref CB) = some true
  k1 : PySem.W.kitOne K (.ref CB) (.ref CI) = some true
  k2 : PySem.W.kitOne K (.ref CB) (.type "ValueError") = some true
theorem kit_sub {K : PySem.W.Frag} {CB : Addr} {c : Value} (h1 : PySem.W.kitCls K (.ref CB) c = some true) : PySem.W.kitOne K (.ref CB) c = some true := by
  unfold PySem.W.kitOne
  split
  · rfl
  · exact h1
theorem ap_Place {c0 : Nat} {ret : List Nat} {m : M W} {e : Env} {h : List O} : mPlace c0 ret m e h = match m e h with
  | .ok _ h' => .ok (.str ret) h'
  | .exc c (some w) h' => if c = c0 then .ok w h' else .bad
  | _ => .bad := nrfl rfl
theorem place_ok {c0 : Nat} {ret : List Nat} {m : M W} {e : Env} {h h' : List O} {x : W} (h1 : m e h = .ok x h') : mPlace c0 ret m e h = .ok (.str ret) h' := by
  rw [ap_Place, h1]
theorem place_exc {c0 : Nat} {ret : List Nat} {m : M W} {e : Env} {h h' : List O} {x : W} (h1 : m e h = .exc c0 (some x) h') : mPlace c0 ret m e h = .ok x h' := by
  rw [ap_Place, h1]
  exact if_pos rfl
theorem ap_RaiseF {c : Nat} {ma : M (List W)} {e : Env} {h : List O} : mRaiseF c ma e h = (ma e h).stm e fun ws h => match ws with
  | [w] => .exc c (some w) e h
  | _ => .bad := nrfl rfl
theorem indexB_eq {n : Nat} {l : List Bool} {b : Bool} {j : Nat} {h : List O} (hn : lstAt h n = some (l.map .bl)) (hj : idxOf b l = some j) : oIndexB (.ref n) [.bl b] h = .ok (.int j) h := by
  unfold oIndexB
  dsimp only [sqL]
  rw [hn]
  dsimp only
  rw [bools_map]
  dsimp only
  rw [hj]
end Den
set_option maxRecDepth 100000
set_option maxHeartbeats 2000000
/-! a text times any small int. -/
namespace Den
open PySem L2 PyProof.Rows
section
variable {G : Gx} {X : Cx}
theorem op_smulN : OpR X (binaryOp .Mult) (fun x y H Q => ∃ (a : List Nat) (n : Int), x = .str (mkS a) ∧ y = .int n ∧ -1000000 ≤ n ∧ n ≤ 1000000 ∧ 0 < a.length ∧ a.length * n.toNat ≤ lim ∧ Q (.str (mkS (List.replicate n.toNat a).flatten)) H) := by
  intro pins s σ H x y v u Q I rx ry h
  obtain ⟨a, n, rfl, rfl, h1, h2, h3, h4, q⟩ := h
  by_cases hn : 2 ≤ n
  · exact op_smul pins s σ H _ _ v u Q I rx ry ⟨a, n, rfl, rfl, hn, h2, h3, h4, q⟩
  obtain ⟨t, rfl⟩ := rx
  obtain ⟨t', rfl⟩ := ry
  have hlen : (mkS a).length = a.length := Str_length a
  refine P.mul_str (by rw [decide_eq_false (by omega), decide_eq_false (by omega)]; rfl) (fun g1 g2 => ?_) (fun g1 g2 => ?_) ?_
  · exfalso
    have : n = 1 := by omega
    subst this
    simp at g2
  · exfalso
    have : n = 1 := by omega
    subst this
    simp at g2
  · by_cases h0 : n < 1
    · rw [if_pos h0]
      have e : n.toNat = 0 := by omega
      rw [e] at q
      exact ⟨by decide, .str (mkS []), H, I.tok _, ⟨_, rfl⟩, q⟩
    · have e1 : n = 1 := by omega
      subst e1
      rw [if_neg h0, if_pos (by simp)]
      refine ⟨.str (mkS a), H, I, ⟨_, rfl⟩, ?_⟩
      have e : (List.replicate (1 : Int).toNat a).flatten = a := by simp
      rw [e] at q
      exact q
def oMulN (x y : W) (h : List O) : Out W := match x, y with
  | .str a, .int n => if -1000000 ≤ n ∧ n ≤ 1000000 ∧ 0 < a.length ∧ a.length * n.toNat ≤ lim then .ok (.str (List.replicate n.toNat a).flatten) h else .bad
  | _, _ => .bad
theorem ops_smulN : OpS G X (binaryOp .Mult) oMulN := ⟨_, op_smulN, fun E H ρ h x y wx wy Q hr rx ry p => by
  unfold oMulN at p
  split at p
  · split at p
    · rename_i hc
      exact ⟨_, _, rx.str, ry.int, hc.1, hc.2.1, hc.2.2.1, hc.2.2.2, p.here hr vr_str⟩
    · exact p.elim
  · exact p.elim⟩
theorem mulN_one {c : Nat} {n : Nat} {h : List O} (hn : n ≤ 1000000) : oMulN (.str [c]) (.int (n : Nat)) h = .ok (.str (List.replicate n c)) h := by
  unfold oMulN
  dsimp only
  rw [if_pos ⟨by omega, by omega, by simp, by rw [Int.toNat_natCast]; show 1 * n ≤ 1000000; omega⟩, Int.toNat_natCast]
  congr 2
  clear hn
  induction n with
  | zero => rfl
  | succ n ih => rw [List.replicate_succ, List.flatten_cons, ih, List.replicate_succ]; rfl
end
end Den
set_option maxRecDepth 100000
/-! More calculation. -/
namespace Den
open PySem L2
theorem cut_over {α : Type} {xs : List α} {i j : Nat} (h : i ≤ xs.length) (hij : i ≤ j) : cutW xs (some (i : Int)) (some (j : Int)) = (xs.drop i).take (j - i) := by
  unfold cutW
  rw [HT.sIx_nat, HT.sIx_nat, Nat.min_eq_left h]
  by_cases q : j ≤ xs.length
  · rw [Nat.min_eq_left q]
  · rw [Nat.min_eq_right (by omega), List.take_of_length_le (by rw [List.length_drop]; omega), List.take_of_length_le (by rw [List.length_drop]; omega)]
theorem cut_overZ {α : Type} {xs : List α} {i j : Int} (h0 : 0 ≤ i) (h : i ≤ xs.length) (hij : i ≤ j) : cutW xs (some i) (some j) = (xs.drop i.toNat).take (j - i).toNat := by
  obtain ⟨a, rfl⟩ : ∃ a : Nat, i = a := ⟨i.toNat, by omega⟩
  obtain ⟨b, rfl⟩ : ∃ b : Nat, j = b := ⟨j.toNat, by omega⟩
  rw [cut_over (by omega) (by omega), Int.toNat_natCast]
  congr 1
  omega
theorem comp_txtG {h : List O} {e0 : Env} {n v : Nat} {Q : W → List O → Prop} {cond : M Bool} {elt : M W} (s : List Nat) (hN : s.length ≤ 1000000) (hn : s.length < n) (c : Nat → Bool) (f : Nat → W)
    (hc : ∀ x ∈ s, Pu h (cond (e0.set v (some (.str [x])))) (c x)) (he : ∀ x ∈ s, c x = true → Pu h (elt (e0.set v (some (.str [x])))) (f x))
    (q : ∀ h', Gr (h ++ [.lst ((s.filter c).map f)]) h' → Q (.ref h.length) h') : Ev (compGo (srcS s) (tgN v) cond elt h.length e0 n 0 (h ++ [.lst []])) Q :=
  comp_row s (fun c => W.str [c]) (fun x => e0.set v (some (.str [x]))) hN hn c f (fun i h' _ => by unfold srcS; rw [List.getElem?_map]) (fun x _ => rfl) hc he q
theorem mVar_set {e : Env} {i : Nat} {w : W} {h : List O} (hi : i < e.length) : mVar i (e.set i (some w)) h = .ok w h := by
  unfold mVar
  rw [List.getElem?_set_self hi]
theorem frzE_len {h : List O} {e : Env} : (frzE h e).length = e.length := by unfold frzE; rw [List.length_map]
theorem ap_GIs {m : M W} {e : Env} {h : List O} {s : List Nat} (h1 : m e h = .ok (.str s) h) : mGItems m e h = .ok (s.map fun c => .str [c]) h := by
  unfold mGItems
  rw [h1]
  rfl
theorem ninS_eq {c : Nat} {s : List Nat} {h : List O} : oNinS (.str [c]) (.str s) h = .ok (.bl (!decide (c ∈ s))) h := nrfl rfl
theorem lst_at0 {h0 more : List O} {xs : List W} : lstAt (h0 ++ O.lst xs :: more) h0.length = some xs := by
  unfold lstAt
  rw [List.getElem?_append_right (Nat.le_refl _), Nat.sub_self]
  rfl
theorem set_at0 {h0 more : List O} {o o' : O} : (h0 ++ o :: more).set h0.length o' = h0 ++ o' :: more := by
  rw [List.set_append_right _ _ (Nat.le_refl _), Nat.sub_self]
  rfl
theorem gr_at0 {h0 more : List O} {o : O} : Gr h0 (h0 ++ o :: more) := ⟨_, rfl⟩
end Den
set_option maxRecDepth 100000
set_option maxHeartbeats 2000000
/-! sum of a row of numbers. -/
namespace Den
open PySem PySem.Spec PySem.Calls L2 PyProof.Rows PyProof.V
section
variable {G : Gx} {X : Cx}
theorem sum_rawT {prog : Program} {w : World} {A : Around} {E : Value → Shared → Prop} {s : Shared} {l : Addr} {its : List Value} {ns : List Int} {Q : Value → Shared → Prop} (hh : A.handled = none) (hl : s.heap.IsTuple l its.toArray) (hi : IntsAre its ns)
    (h : ∀ h' tk t', (∀ b o, s.heap.get? b = some o → h'.get? b = some o) → Q (.int ns.sum t') { s with heap := h', toks := tk }) : wpAny (model prog w) A (call (.builtin "sum") [.ref l]) Q E s := by
  obtain ⟨xs, e⟩ := hi.allInts.items
  have hn : numsOf (intItems xs).toList = ns := by rw [← e]; exact hi.numsOf
  rw [nums_intItems] at hn
  rw [e] at hl
  refine PySem.W.ktm_sumG hh hl fun h' tk t' hk => ?_
  have := h h' tk t' hk
  rw [preSum_eq, List.take_of_length_le (by simp), hn]; exact this
def rSumT (K : PySem.W.Frag) : List V → Hp → VK → Prop := fun vs H Q => ∃ (a : Addr) (ns : List Int), vs = [V.ref a] ∧ SqT K H a (ns.map V.int) ∧ Q (.int ns.sum) H
theorem cr_sumT (hc : X.calm = true) : CallR X (.builtin "sum") (rSumT X.K) := by
  intro pins s σ H vs us Q I r h
  obtain ⟨a, ns, rfl, hs, q⟩ := h
  obtain ⟨its, rv, hl, _⟩ := I.tuple hs
  rw [Vals.ref1 r]
  exact sum_rawT (I.ok.hd hc) hl rv.ints fun h' tk t' hk => ⟨.int _, H, I.kept hk, ⟨_, rfl⟩, q⟩
def oSum (ws : List W) (h : List O) : Out W := match ws with
  | [.tup xs] => match intsOf xs with
    | some l => .ok (.int l.sum) h
    | none => .bad
  | [x] => match sqL x h with
    | some xs => match intsOf xs with
      | some l => .ok (.int l.sum) h
      | none => .bad
    | none => .bad
  | _ => .bad
theorem cas_sum (hc : X.calm = true) : CaS G X (.builtin "sum") oSum := ⟨_, CallR.or (cr_sum hc) (cr_sumT hc), fun E H ρ h vs ws Q hr r p => by
  unfold oSum at p
  split at p
  · obtain ⟨v, rfl, q⟩ := r.inv1
    unfold VR at q
    obtain ⟨a, vs, rfl, q, z⟩ := q
    split at p
    · rename_i l hl
      exact .inr ⟨a, l, rfl, by rw [← intsOf_ok z hl]; exact q, p.here hr vr_int⟩
    · exact p.elim
  · obtain ⟨v, rfl, q⟩ := r.inv1
    split at p
    · rename_i xs hx
      obtain ⟨a, vs, rfl, q, z⟩ := sqL_ok hr q hx
      split at p
      · rename_i l hl
        exact .inl ⟨a, l, rfl, by rw [← intsOf_ok z hl]; exact q, p.here hr vr_int⟩
      · exact p.elim
    · exact p.elim
  · exact p.elim⟩
theorem sum_ints {l : List Int} {h : List O} : oSum [.tup (l.map .int)] h = .ok (.int l.sum) h := by
  unfold oSum
  dsimp only
  rw [intsOf_map]
end
end Den
set_option maxRecDepth 100000
set_option maxHeartbeats 4000000
/-! The plain functions of the text, and that the text does as they say. Printed by gen.py. -/
namespace Law_indexhall_k05_rows_coded
open PySem L2 Den PyProof.Rows
def top (i : Nat) : Stmt := PySem.Challenge.pw_indexhall_k05_rows_coded.main.body.getD i (.Pass ⟨0, 0, 0, 0⟩)
abbrev s_is_row : Stmt := top 6
abbrev s_check_row : Stmt := top 7
abbrev s_coded : Stmt := top 8
abbrev s_in_twos : Stmt := top 9
abbrev s_decoded : Stmt := top 10
abbrev s_in_blocks : Stmt := top 11
abbrev s_of_blocks : Stmt := top 12
abbrev s_in_block : Stmt := top 13
abbrev s_law_dice : Stmt := top 15
abbrev s_law_roll : Stmt := top 16
abbrev s_law_rounds : Stmt := top 17
abbrev s_law_told : Stmt := top 18
abbrev s_law_place : Stmt := top 19
abbrev s_law_twos : Stmt := top 20
abbrev s_law_blocks : Stmt := top 21
abbrev s_law : Stmt := top 22
theorem sc_law_told : FnScope ["what"] ["what"] (defScope s_law_told) := ⟨rfl, rfl, rfl, by decide +kernel, rfl, by decide +kernel, by decide +kernel⟩
theorem sc_law_place : FnScope ["what", "e"] ["what"] (defScope s_law_place) := ⟨rfl, rfl, rfl, by decide +kernel, rfl, by decide +kernel, by decide +kernel⟩
theorem n0_is_row : (".0" : Str) ∉ (["thing", "k", "one"] : List Str) := by decide +kernel
theorem sc_is_row : FnScope ["thing", "k", "one"] ["thing"] (defScope s_is_row) := ⟨rfl, rfl, rfl, by decide +kernel, rfl, by decide +kernel, by decide +kernel⟩
theorem n0_check_row : (".0" : Str) ∉ (["thing"] : List Str) := by decide +kernel
theorem sc_check_row : FnScope ["thing"] ["thing"] (defScope s_check_row) := ⟨rfl, rfl, rfl, by decide +kernel, rfl, by decide +kernel, by decide +kernel⟩
theorem n0_in_twos : (".0" : Str) ∉ (["number", "found"] : List Str) := by decide +kernel
theorem sc_in_twos : FnScope ["number", "found"] ["number"] (defScope s_in_twos) := ⟨rfl, rfl, rfl, by decide +kernel, rfl, by decide +kernel, by decide +kernel⟩
theorem n0_coded : (".0" : Str) ∉ (["row", "found", "last", "number", "digits"] : List Str) := by decide +kernel
theorem sc_coded : FnScope ["row", "found", "last", "number", "digits"] ["row"] (defScope s_coded) := ⟨rfl, rfl, rfl, by decide +kernel, rfl, by decide +kernel, by decide +kernel⟩
theorem n0_decoded : (".0" : Str) ∉ (["code", "found", "last", "k", "start", "wide", "digits", "gap", "sign"] : List Str) := by decide +kernel
theorem sc_decoded : FnScope ["code", "found", "last", "k", "start", "wide", "digits", "gap", "sign"] ["code"] (defScope s_decoded) := ⟨rfl, rfl, rfl, by decide +kernel, rfl, by decide +kernel, by decide +kernel⟩
theorem n0_in_blocks : (".0" : Str) ∉ (["row", "many", "found", "k", "part", "number"] : List Str) := by decide +kernel
theorem sc_in_blocks : FnScope ["row", "many", "found", "k", "part", "number"] ["row", "many"] (defScope s_in_blocks) := ⟨rfl, rfl, rfl, by decide +kernel, rfl, by decide +kernel, by decide +kernel⟩
theorem n0_of_blocks : (".0" : Str) ∉ (["blocks", "found", "first", "last", "code", "number"] : List Str) := by decide +kernel
theorem sc_of_blocks : FnScope ["blocks", "found", "first", "last", "code", "number"] ["blocks"] (defScope s_of_blocks) := ⟨rfl, rfl, rfl, by decide +kernel, rfl, by decide +kernel, by decide +kernel⟩
theorem n0_in_block : (".0" : Str) ∉ (["blocks", "number", "first", "last", "code"] : List Str) := by decide +kernel
theorem sc_in_block : FnScope ["blocks", "number", "first", "last", "code"] ["blocks", "number"] (defScope s_in_block) := ⟨rfl, rfl, rfl, by decide +kernel, rfl, by decide +kernel, by decide +kernel⟩
theorem n0_law_dice : (".0" : Str) ∉ (["cell"] : List Str) := by decide +kernel
theorem sc_law_dice : FnScope ["cell"] ["cell"] (defScope s_law_dice) := ⟨rfl, rfl, rfl, by decide +kernel, rfl, by decide +kernel, by decide +kernel⟩
theorem n0_law_roll : (".0" : Str) ∉ (["dice", "many", "found"] : List Str) := by decide +kernel
theorem sc_law_roll : FnScope ["dice", "many", "found"] ["dice", "many"] (defScope s_law_roll) := ⟨rfl, rfl, rfl, by decide +kernel, rfl, by decide +kernel, by decide +kernel⟩
theorem n0_law_rounds : (".0" : Str) ∉ (["script", "most", "cells", "cell"] : List Str) := by decide +kernel
theorem sc_law_rounds : FnScope ["script", "most", "cells", "cell"] ["script", "most"] (defScope s_law_rounds) := ⟨rfl, rfl, rfl, by decide +kernel, rfl, by decide +kernel, by decide +kernel⟩
theorem n0_law_twos : (".0" : Str) ∉ (["number"] : List Str) := by decide +kernel
theorem sc_law_twos : FnScope ["number"] ["number"] (defScope s_law_twos) := ⟨rfl, rfl, rfl, by decide +kernel, rfl, by decide +kernel, by decide +kernel⟩
theorem n0_law_blocks : (".0" : Str) ∉ (["dice", "row", "many", "blocks", "k", "number", "part", "one"] : List Str) := by decide +kernel
theorem sc_law_blocks : FnScope ["dice", "row", "many", "blocks", "k", "number", "part", "one"] ["dice", "row"] (defScope s_law_blocks) := ⟨rfl, rfl, rfl, by decide +kernel, rfl, by decide +kernel, by decide +kernel⟩
theorem n0_law : (".0" : Str) ∉ (["script", "dice", "row", "last", "k", "due", "begins", "cut", "whole", "digits", "number"] : List Str) := by decide +kernel
theorem sc_law : FnScope ["script", "dice", "row", "last", "k", "due", "begins", "cut", "whole", "digits", "number"] ["script"] (defScope s_law) := ⟨rfl, rfl, rfl, by decide +kernel, rfl, by decide +kernel, by decide +kernel⟩
/-! ### the plain functions -/
def body_is_row : Sm := mSeq (mIfS (mNot (mTru (mIsiV "tuple" (mVar 0)))) (mRet (mC (.bl false))) (mSkip)) (mSeq (mIfS (mNot (mTru (mGenB false 2 (mGItems (mVar 0)) (mAndB (mIsi "int" (mVar 2)) (mAndB (mNotB (mIsi "bool" (mVar 2))) (mOp oGeI (mVar 2) (mC (.int 0)))))))) (mRet (mC (.bl false))) (mSkip)) (mRet (mGenB false 1 (mItemsR1 (mCons (mOp oSub (mCB oLen (mCons (mVar 0) (mNil))) (mC (.int 1))) (mNil))) (mOp oLt (mOp oIx (mVar 0) (mVar 1)) (mOp oIx (mVar 0) (mOp oAddS (mVar 1) (mC (.int 1))))))))
def den_is_row : List W → List O → Out W := mFun 3 body_is_row
def body_check_row : Sm := mIfS (mNot (mTru (mCB (pureRun den_is_row 1) (mCons (mVar 0) (mNil))))) (mRaise 1) (mSkip)
def den_check_row : List W → List O → Out W := mFun 1 body_check_row
def body_in_twos : Sm := mSeq (mSet 1 (mC (.str []))) (mSeq (mWhile 100000 (mB (mOp oGt (mVar 0) (mC (.int 0)))) (mSeq (mSet 1 (mOp oAdd (mOp oIx (mC (.str [48, 49])) (mOp oMod (mVar 0) (mC (.int 2)))) (mVar 1))) (mAug 0 oIfdiv (mC (.int 2))))) (mRet (mVar 1)))
def den_in_twos : List W → List O → Out W := mFun 2 body_in_twos
def body_coded : Sm := mSeq (mDrop (mCB (pureRun den_check_row 1) (mCons (mVar 0) (mNil)))) (mSeq (mTs [1, 2] (mCons (mC (.str [])) (mCons (mUn oNeg (mC (.int 1))) (mNil)))) (mSeq (mFor 100000 (mIter (mVar 0)) (tgN 3) (mSeq (mSet 4 (mCB (pureRun den_in_twos 1) (mCons (mOp oSub (mVar 3) (mVar 2)) (mNil)))) (mSeq (mAug 1 oIadd (mOp oAdd (mOp oMulN (mC (.str [48])) (mOp oSub (mCB oLen (mCons (mVar 4) (mNil))) (mC (.int 1)))) (mVar 4))) (mSet 2 (mVar 3))))) (mRet (mVar 1))))
def den_coded : List W → List O → Out W := mFun 5 body_coded
def body_decoded : Sm := mSeq (mTs [1, 2, 3] (mCons (mLst (mNil)) (mCons (mUn oNeg (mC (.int 1))) (mCons (mC (.int 0)) (mNil))))) (mSeq (mWhile 100000 (mB (mOp oLt (mVar 3) (mCB oLen (mCons (mVar 0) (mNil))))) (mSeq (mTs [4, 5] (mCons (mVar 3) (mCons (mC (.int 0)) (mNil)))) (mSeq (mWhile 100000 (mAnd (mB (mOp oLt (mVar 3) (mCB oLen (mCons (mVar 0) (mNil))))) (mB (mOp oEq (mOp oIx (mVar 0) (mVar 3)) (mC (.str [48]))))) (mTs [5, 3] (mCons (mOp oAdd (mVar 5) (mC (.int 1))) (mCons (mOp oAdd (mVar 3) (mC (.int 1))) (mNil))))) (mSeq (mSet 6 (mSl (mVar 0) (mPart (mVar 3)) (mPart (mOp oAdd (mOp oAdd (mVar 3) (mVar 5)) (mC (.int 1)))))) (mSeq (mIfS (mTru (mGenB true 8 (mGItems (mSl (mVar 0) (mPart (mVar 4)) (mPart (mOp oAdd (mOp oAdd (mVar 3) (mVar 5)) (mC (.int 1)))))) (mOp oNinS (mVar 8) (mC (.str [48, 49]))))) (mRaiseF 3 (mCons (mOp oAdd (mVar 4) (mMeth "list" oIndexB (mComp 100000 [8] (mIter (mSl (mVar 0) (mPart (mVar 4)) (mPart (mOp oAdd (mOp oAdd (mVar 3) (mVar 5)) (mC (.int 1)))))) (tgN 8) (mYes) (mOp oIn (mVar 8) (mC (.str [48, 49])))) (mCons (mC (.bl false)) (mNil)))) (mNil))) (mSkip)) (mSeq (mIfS (mB (mOp oLt (mCB oLen (mCons (mVar 6) (mNil))) (mOp oAdd (mVar 5) (mC (.int 1))))) (mRaiseF 3 (mCons (mVar 4) (mNil))) (mSkip)) (mSeq (mSet 7 (mC (.int 0))) (mSeq (mFor 100000 (mIter (mVar 6)) (tgN 8) (mSet 7 (mOp oAdd (mOp oMul (mC (.int 2)) (mVar 7)) (mCB oInt (mCons (mOp oEq (mVar 8) (mC (.str [49]))) (mNil)))))) (mSeq (mAug 2 oIadd (mVar 7)) (mSeq (mDrop (mMeth "list" oAppend (mVar 1) (mCons (mVar 2) (mNil)))) (mAug 3 oIadd (mOp oAdd (mVar 5) (mC (.int 1)))))))))))))) (mRet (mCB oTuple (mCons (mVar 1) (mNil)))))
def den_decoded : List W → List O → Out W := mFun 9 body_decoded
def body_in_blocks : Sm := mSeq (mDrop (mCB (pureRun den_check_row 1) (mCons (mVar 0) (mNil)))) (mSeq (mIfS (mB (mOp oLt (mVar 1) (mC (.int 1)))) (mRaise 1) (mSkip)) (mSeq (mSet 2 (mLst (mNil))) (mSeq (mFor 100000 (mRng3 (mCons (mC (.int 0)) (mCons (mCB oLen (mCons (mVar 0) (mNil))) (mCons (mVar 1) (mNil))))) (tgN 3) (mSeq (mSet 4 (mSl (mVar 0) (mPart (mVar 3)) (mPart (mOp oAdd (mVar 3) (mVar 1))))) (mDrop (mMeth "list" oAppend (mVar 2) (mCons (mTup (mCons (mOp oIx (mVar 4) (mC (.int 0))) (mCons (mOp oIx (mVar 4) (mUn oNeg (mC (.int 1)))) (mCons (mCB (pureRun den_coded 1) (mCons (mCB oTuple (mCons (mComp 100000 [5] (mIter (mVar 4)) (tgN 5) (mYes) (mOp oSub (mVar 5) (mOp oIx (mVar 4) (mC (.int 0))))) (mNil))) (mNil))) (mNil))))) (mNil)))))) (mRet (mCB oTuple (mCons (mVar 2) (mNil)))))))
def den_in_blocks : List W → List O → Out W := mFun 6 body_in_blocks
def body_of_blocks : Sm := mSeq (mSet 1 (mLst (mNil))) (mSeq (mFor 100000 (mIter (mVar 0)) (tgT [2, 3, 4]) (mDrop (mMeth "list" oExtend (mVar 1) (mCons (mComp 100000 [5] (mIter (mCB (fun ws h => if ws.length = 1 then den_decoded ws h else .bad) (mCons (mVar 4) (mNil)))) (tgN 5) (mYes) (mOp oAdd (mVar 2) (mVar 5))) (mNil))))) (mSeq (mDrop (mCB (pureRun den_check_row 1) (mCons (mCB oTuple (mCons (mVar 1) (mNil))) (mNil)))) (mRet (mCB oTuple (mCons (mVar 1) (mNil))))))
def den_of_blocks : List W → List O → Out W := mFun 6 body_of_blocks
def body_in_block : Sm := mSeq (mFor 100000 (mIter (mVar 0)) (tgT [2, 3, 4]) (mIfS (mB (mChain oLe oLe (mVar 2) (mVar 1) (mVar 3))) (mRet (mOp oIn (mOp oSub (mVar 1) (mVar 2)) (mCB (fun ws h => if ws.length = 1 then den_decoded ws h else .bad) (mCons (mVar 4) (mNil))))) (mSkip))) (mRet (mC (.bl false)))
def den_in_block : List W → List O → Out W := mFun 5 body_in_block
def body_law_dice : Sm := mSeq (mIfS (mB (mChain oLt oLt (mOp oSub (mC (.int 0)) (mC (.int 10))) (mVar 0) (mC (.int 10)))) (mRet (mLst (mCons (mCB oAbs (mCons (mVar 0) (mNil))) (mCons (mC (.int 0)) (mCons (mC (.int 2)) (mNil)))))) (mSkip)) (mRet (mLst (mCons (mVar 0) (mCons (mOp oAdd (mC (.int 1)) (mOp oMod (mCB oInt (mCons (mVar 0) (mNil))) (mC (.int 1009)))) (mCons (mCB oInt (mCons (mOp oGe (mVar 0) (mOp oPow (mC (.int 10)) (mC (.int 18)))) (mNil))) (mNil))))))
def den_law_dice : List W → List O → Out W := mFun 1 body_law_dice
def body_law_roll : Sm := mSeq (mIfS (mOr (mB (mOp oEq (mOp oIx (mVar 0) (mC (.int 2))) (mC (.int 2)))) (mAnd (mB (mOp oEq (mOp oIx (mVar 0) (mC (.int 2))) (mC (.int 1)))) (mB (mOp oGt (mOp oIx (mVar 0) (mC (.int 0))) (mC (.int 0)))))) (mSeq (mSet 2 (mOp oMod (mCB oInt (mCons (mOp oIx (mVar 0) (mC (.int 0))) (mNil))) (mVar 1))) (mSeq (mSetI oSet (mVar 0) (mC (.int 0)) (mOp oFdiv (mOp oIx (mVar 0) (mC (.int 0))) (mVar 1))) (mRet (mVar 2)))) (mSkip)) (mSeq (mSetI oSet (mVar 0) (mC (.int 2)) (mC (.int 0))) (mSeq (mSetI oSet (mVar 0) (mC (.int 0)) (mOp oMod (mCB oInt (mCons (mOp oAdd (mOp oAdd (mOp oMul (mOp oIx (mVar 0) (mC (.int 0))) (mC (.int 48271))) (mOp oMul (mOp oIx (mVar 0) (mC (.int 1))) (mC (.int 69621)))) (mC (.int 11))) (mNil))) (mC (.int 2147483647)))) (mSeq (mSetI oSet (mVar 0) (mC (.int 1)) (mOp oAdd (mOp oIx (mVar 0) (mC (.int 1))) (mC (.int 1)))) (mRet (mOp oMod (mCB oInt (mCons (mOp oAdd (mOp oFdiv (mOp oIx (mVar 0) (mC (.int 0))) (mC (.int 7))) (mOp oIx (mVar 0) (mC (.int 0)))) (mNil))) (mVar 1))))))
def den_law_roll : List W → List O → Out W := mFun 3 body_law_roll
def body_law_rounds : Sm := mSeq (mSet 2 (mSl (mVar 0) (mNoPart) (mPart (mVar 1)))) (mSeq (mIfS (mB (mOp oEq (mVar 2) (mLst (mNil)))) (mSet 2 (mLst (mCons (mC (.int 0)) (mNil)))) (mSkip)) (mRet (mComp 100000 [3] (mIter (mVar 2)) (tgN 3) (mYes) (mCB (fun ws h => if ws.length = 1 then den_law_dice ws h else .bad) (mCons (mVar 3) (mNil))))))
def den_law_rounds : List W → List O → Out W := mFun 4 body_law_rounds
def body_law_twos (rec : List W → List O → Out W) : Sm := mSeq (mIfS (mB (mOp oLt (mVar 0) (mC (.int 2)))) (mRet (mOp oIx (mC (.str [48, 49])) (mVar 0))) (mSkip)) (mRet (mOp oAdd (mCB (pureRun rec 1) (mCons (mOp oFdiv (mVar 0) (mC (.int 2))) (mNil))) (mOp oIx (mC (.str [48, 49])) (mOp oMod (mVar 0) (mC (.int 2))))))
def den_law_twos_n : Nat → List W → List O → Out W
  | 0 => mFun 1 mNever
  | n + 1 => mFun 1 (body_law_twos (den_law_twos_n n))
def den_law_twos : List W → List O → Out W := den_law_twos_n 20
def body_law_blocks : Sm := mSeq (mSet 2 (mOp oAdd (mC (.int 1)) (mCB (fun ws h => if ws.length = 2 then den_law_roll ws h else .bad) (mCons (mVar 0) (mCons (mC (.int 4)) (mNil)))))) (mSeq (mSet 3 (mCB (pureRun den_in_blocks 2) (mCons (mVar 1) (mCons (mVar 2) (mNil))))) (mSeq (mIfS (mOr (mB (mOp oNe (mCB (pureRun den_of_blocks 1) (mCons (mVar 3) (mNil))) (mVar 1))) (mB (mOp oNe (mCB oLen (mCons (mVar 3) (mNil))) (mOp oFdiv (mOp oSub (mOp oAdd (mCB oLen (mCons (mVar 1) (mNil))) (mVar 2)) (mC (.int 1))) (mVar 2))))) (mRet (mC (.bl false))) (mSkip)) (mSeq (mFor 100000 (mRng1 (mCons (mCB oLen (mCons (mVar 3) (mNil))) (mNil))) (tgN 4) (mSeq (mSet 6 (mSl (mVar 1) (mPart (mOp oMul (mVar 2) (mVar 4))) (mPart (mOp oAdd (mOp oMul (mVar 2) (mVar 4)) (mVar 2))))) (mIfS (mB (mOp oNe (mOp oIx (mVar 3) (mVar 4)) (mTup (mCons (mOp oIx (mVar 6) (mC (.int 0))) (mCons (mOp oIx (mVar 6) (mUn oNeg (mC (.int 1)))) (mCons (mCB (pureRun den_coded 1) (mCons (mCB oTuple (mCons (mComp 100000 [5] (mIter (mVar 6)) (tgN 5) (mYes) (mOp oSub (mVar 5) (mOp oIx (mVar 6) (mC (.int 0))))) (mNil))) (mNil))) (mNil))))))) (mRet (mC (.bl false))) (mSkip)))) (mSeq (mFor 100000 (mIter (mOp oAdd (mOp oAdd (mCB oList (mCons (mVar 1) (mNil))) (mComp 100000 [7] (mIter (mVar 1)) (tgN 7) (mYes) (mOp oAdd (mVar 7) (mC (.int 1))))) (mLst (mCons (mC (.int 0)) (mNil))))) (tgN 5) (mIfS (mB (mOp oNe (mCB (pureRun den_in_block 2) (mCons (mVar 3) (mCons (mVar 5) (mNil)))) (mOp oIn (mVar 5) (mVar 1)))) (mRet (mC (.bl false))) (mSkip))) (mRet (mC (.bl true)))))))
def den_law_blocks : List W → List O → Out W := mFun 8 body_law_blocks
def body_law : Sm := mSeq (mFor 100000 (mIter (mCB (fun ws h => if ws.length = 2 then den_law_rounds ws h else .bad) (mCons (mVar 0) (mCons (mC (.int 4)) (mNil))))) (tgN 1) (mSeq (mTs [2, 3] (mCons (mLst (mNil)) (mCons (mOp oSub (mC (.int 0)) (mC (.int 1))) (mNil)))) (mSeq (mFor 100000 (mRng1 (mCons (mCB (fun ws h => if ws.length = 2 then den_law_roll ws h else .bad) (mCons (mVar 1) (mCons (mC (.int 13)) (mNil)))) (mNil))) (tgN 4) (mSeq (mSet 3 (mOp oAdd (mOp oAdd (mVar 3) (mC (.int 1))) (mCB (fun ws h => if ws.length = 2 then den_law_roll ws h else .bad) (mCons (mVar 1) (mCons (mOp oIx (mLst (mCons (mC (.int 1)) (mCons (mC (.int 3)) (mCons (mC (.int 40)) (mCons (mC (.int 100000)) (mNil)))))) (mCB (fun ws h => if ws.length = 2 then den_law_roll ws h else .bad) (mCons (mVar 1) (mCons (mC (.int 4)) (mNil))))) (mNil)))))) (mDrop (mMeth "list" oAppend (mVar 2) (mCons (mVar 3) (mNil)))))) (mSeq (mTs [2, 5, 6] (mCons (mCB oTuple (mCons (mVar 2) (mNil))) (mCons (mC (.str [])) (mCons (mLst (mNil)) (mNil))))) (mSeq (mFor 100000 (mRng1 (mCons (mCB oLen (mCons (mVar 2) (mNil))) (mNil))) (tgN 4) (mSeq (mSet 9 (mCB (pureRun den_law_twos 1) (mCons (mOp oSub (mOp oIx (mVar 2) (mVar 4)) (mIf (mB (mOp oGt (mVar 4) (mC (.int 0)))) (mOp oIx (mVar 2) (mOp oSub (mVar 4) (mC (.int 1)))) (mOp oSub (mC (.int 0)) (mC (.int 1))))) (mNil)))) (mSeq (mDrop (mMeth "list" oAppend (mVar 6) (mCons (mCB oLen (mCons (mVar 5) (mNil))) (mNil)))) (mSet 5 (mOp oAdd (mOp oAdd (mVar 5) (mOp oMulN (mC (.str [48])) (mOp oSub (mCB oLen (mCons (mVar 9) (mNil))) (mC (.int 1))))) (mVar 9)))))) (mSeq (mIfS (mOr (mB (mOp oNe (mCB (pureRun den_coded 1) (mCons (mVar 2) (mNil))) (mVar 5))) (mB (mOp oNe (mCB (fun ws h => if ws.length = 1 then den_decoded ws h else .bad) (mCons (mVar 5) (mNil))) (mVar 2)))) (mRet (mC (.bl false))) (mSkip)) (mSeq (mIfS (mB (mOp oNe (mComp 100000 [10] (mRng2 (mCons (mC (.int 1)) (mCons (mC (.int 40)) (mNil)))) (tgN 10) (mB (mOp oNe (mCB (pureRun den_in_twos 1) (mCons (mVar 10) (mNil))) (mCB (pureRun den_law_twos 1) (mCons (mVar 10) (mNil))))) (mVar 10)) (mLst (mNil)))) (mRet (mC (.bl false))) (mSkip)) (mSeq (mSet 7 (mCB (fun ws h => if ws.length = 2 then den_law_roll ws h else .bad) (mCons (mVar 1) (mCons (mOp oAdd (mCB oLen (mCons (mVar 5) (mNil))) (mC (.int 1))) (mNil))))) (mSeq (mSet 8 (mComp 100000 [4] (mRng1 (mCons (mCB oLen (mCons (mVar 6) (mNil))) (mNil))) (tgN 4) (mB (mOp oLe (mOp oIx (mIf (mB (mOp oLt (mOp oAdd (mVar 4) (mC (.int 1))) (mCB oLen (mCons (mVar 6) (mNil))))) (mLst (mCons (mOp oIx (mVar 6) (mOp oAdd (mVar 4) (mC (.int 1)))) (mNil))) (mLst (mCons (mCB oLen (mCons (mVar 5) (mNil))) (mNil)))) (mC (.int 0))) (mVar 7))) (mVar 4))) (mSeq (mIfS (mB (mOp oIn (mVar 7) (mOp oAdd (mVar 6) (mLst (mCons (mCB oLen (mCons (mVar 5) (mNil))) (mNil)))))) (mIfS (mB (mOp oNe (mCB (fun ws h => if ws.length = 1 then den_decoded ws h else .bad) (mCons (mSl (mVar 5) (mNoPart) (mPart (mVar 7))) (mNil))) (mSl (mVar 2) (mNoPart) (mPart (mCB oLen (mCons (mVar 8) (mNil))))))) (mRet (mC (.bl false))) (mSkip)) (mIfS (mB (mOp oNe (mPlace 3 [114, 101, 97, 100] (mCB (fun ws h => if ws.length = 1 then den_decoded ws h else .bad) (mCons (mSl (mVar 5) (mNoPart) (mPart (mVar 7))) (mNil)))) (mOp oIx (mVar 6) (mCB oLen (mCons (mVar 8) (mNil)))))) (mRet (mC (.bl false))) (mSkip))) (mSeq (mIfS (mB (mOp oNotIn (mPlace 3 [114, 101, 97, 100] (mCB (fun ws h => if ws.length = 1 then den_decoded ws h else .bad) (mCons (mOp oAdd (mOp oAdd (mSl (mVar 5) (mNoPart) (mPart (mVar 7))) (mC (.str [120]))) (mSl (mVar 5) (mPart (mVar 7)) (mNoPart))) (mNil)))) (mOp oAdd (mLst (mCons (mVar 7) (mNil))) (mVar 6)))) (mRet (mC (.bl false))) (mSkip)) (mSeq (mIfS (mAnd (mB (mOp oIn (mVar 7) (mVar 6))) (mB (mOp oNe (mPlace 3 [114, 101, 97, 100] (mCB (fun ws h => if ws.length = 1 then den_decoded ws h else .bad) (mCons (mOp oAdd (mOp oAdd (mSl (mVar 5) (mNoPart) (mPart (mVar 7))) (mC (.str [120]))) (mSl (mVar 5) (mPart (mVar 7)) (mNoPart))) (mNil)))) (mVar 7)))) (mRet (mC (.bl false))) (mSkip)) (mSeq (mIfS (mNot (mTru (mCB (fun ws h => if ws.length = 2 then den_law_blocks ws h else .bad) (mCons (mVar 1) (mCons (mVar 2) (mNil)))))) (mRet (mC (.bl false))) (mSkip)) (mSeq (mIfS (mB (mOp oNe (mTold [(1, [116, 101, 120, 116]), (2, [110, 111, 110, 101])] (mCB (pureRun den_in_blocks 2) (mCons (mVar 2) (mCons (mC (.int 0)) (mNil))))) (mC (.str [116, 101, 120, 116])))) (mRet (mC (.bl false))) (mSkip)) (mIfS (mB (mOp oNe (mTold [(1, [116, 101, 120, 116]), (2, [110, 111, 110, 101])] (mCB (pureRun den_coded 1) (mCons (mTup (mCons (mC (.int 2)) (mCons (mC (.int 1)) (mNil)))) (mNil)))) (mC (.str [116, 101, 120, 116])))) (mRet (mC (.bl false))) (mSkip)))))))))))))))) (mRet (mC (.bl true)))
def den_law : List W → List O → Out W := mFun 11 body_law
/-! ### what the top holds -/
structure Txt (K : PySem.W.Frag) (mg : Str → Option Value) (G : Gx) (C_BadText C_NoSuch C_BadCode : Addr) : Prop where
  b_ValueError : mg "ValueError" = none
  b_abs : mg "abs" = none
  b_all : mg "all" = none
  b_any : mg "any" = none
  b_bool : mg "bool" = none
  b_int : mg "int" = none
  b_isinstance : mg "isinstance" = none
  b_len : mg "len" = none
  b_list : mg "list" = none
  b_range : mg "range" = none
  b_super : mg "super" = none
  b_tuple : mg "tuple" = none
  x_BadText : ExD K mg G "BadText" 1 C_BadText
  x_NoSuch : ExD K mg G "NoSuch" 2 C_NoSuch
  ca_BadCode : G.ca 3 = some C_BadCode
  mg_BadCode : mg "BadCode" = some (.ref C_BadCode)
abbrev si_BadCode : Stmt := (clsBody (top 3)).getD 0 (.Pass ⟨0, 0, 0, 0⟩)
abbrev nf_BadCode (cc cI : Addr) : NdefX.NF := ⟨"__init__", "BadCode.__init__", defArgs si_BadCode, defBody si_BadCode, defScope si_BadCode, [("__class__", cc)], cI⟩
theorem exF_BadCode {P : Program} {w : World} {K : PySem.W.Frag} {mg : Str → Option Value} {base : Heap} {G : Gx} {C fI cc cI N : Addr} {nm q file : Str} {bs bm sub : List Value} {sn : List Str} {ab : Bool} {col : Option Bool} {dd od an cdd cld : Option Addr} {k0 k1 k2 k3 k5 : Option Value} {oc kV dc pm ct ccl cl : Value} {osl ccs csl : Array (Option Value)} {vs : Array Value} {tf : Tok} {cdD : ClassData}
    (ca : G.ca 3 = some C) (gl : mg "BadCode" = some (.ref C)) (hsup : mg "super" = none) (kC : PySem.W.keepIn K (.ref C) = true) (sC : PySem.W.subIn K (.ref C) (.type "BaseException") = some true) (tC : PySem.W.typeIn K (.ref C) = some (.type "type"))
    (oC : K.lookup C = some (excClassObj nm q C N bs bm true sn sub ab col dd k0 k1 k2 k3 k5 "ValueError.__new__")) (rv : PySem.HandSPX.refsVE bm = true) (sa : PySem.W.findIn K (.ref C) "__setattr__" = some (some (.builtin "object.__setattr__")))
    (fi : PySem.W.findIn K (.ref C) "__init__" = some (some (.ref fI))) (ft : PySem.W.typeIn K (.ref fI) = some (.type "function")) (li : K.lookup fI = some ⟨oc, od, .func (PySem.W.fnX "__init__" "BadCode.__init__" (defArgs si_BadCode) (defBody si_BadCode) (defScope si_BadCode) [("__class__", cc)] .none kV dc pm an (.ref cI) ct), osl⟩)
    (cd : PySem.W.codeIn K (.ref cI) "BadCode.__init__" = true) (lc : K.lookup cI = some ⟨ccl, cdd, .fields vs, ccs⟩) (v2 : vs[2]? = some (.str file tf)) (fe : ((P.main.file : Str) == file) = true) (le : K.lookup cc = some ⟨cl, cld, .cell (some (.ref C)), csl⟩)
    (cK : PySem.W.clsIn K C = some cdD) (mr : PySem.W.mroIn K C (.ref C) = some true) (su : PySem.W.ks_superIn K C C "__init__" = some (some (.builtin "ValueError.__init__"))) (ve : PySem.W.subIn K (.ref C) (.type "ValueError") = some true)
    (oq : PySem.W.nsIn K cStatics "thirdparty.any" = some none) (no : PySem.W.findIn K (.ref C) "place" = some none) (tp : (P.main.scope.names.lookup ("super" : Str)).isSome = false) : ExF P w K mg base G 1 "BadCode" 3 C :=
  have S : ESup P K (nf_BadCode cc cI) fI C "self" "place" "bad code" := { fn := ⟨_, _, _, _, _, _, _, _, _, li⟩, cd := cd, fst := ⟨_, rfl, rfl⟩, code := ⟨_, _, _, _, _, _, lc, v2, fe⟩, cell := ⟨cc, _, _, _, rfl, le⟩, cls := ⟨_, cK⟩, sub := mr, own := ⟨⟨_, _, _, _, _, _, _, _, _, _, _, _, _, _, _, oC, rv⟩, sa, sC, tC, kC⟩, sup := su, ve := ve, opq := oq, no := no, ks := rfl, kc := rfl, ka := rfl, kind := rfl, top := tp }
  { ca := ca, own := S.own, gl := gl, ini := ⟨fI, _, _, fi, ft, einit_ok (F := nf_BadCode cc cI) (k := 0) (pn := "place") S li rfl (NdefX.nscope_by (sc := defScope si_BadCode) (by decide +kernel)) hsup (by decide) (by decide) (by decide) (by decide) (fun L => rfl), Binds.all fun us hl => match us, hl with | [_, _], _ => rfl⟩ }
section
variable {P : Program} {w : World} {K : PySem.W.Frag} {mg : Str → Option Value} {base : Heap} {G : Gx} {C_BadText C_NoSuch C_BadCode : Addr}
def hds_law_told : List ExceptHandler := match (defBody s_law_told) with | [.Try _ hs _ _ _] => hs | _ => []
theorem tells_law_told (T : Txt K mg G C_BadText C_NoSuch C_BadCode) : Tells (defScope s_law_told) mg (hds_law_told) [(.ref C_BadText, "text"), (.ref C_NoSuch, "none")] := .cons rfl (by decide) T.x_BadText.mg (.cons rfl (by decide) T.x_NoSuch.mg (.nil))
theorem tellN_law_told (T : Txt K mg G C_BadText C_NoSuch C_BadCode) (X_ : ∀ c C, G.ca c = some C → ∀ c' C', G.ca c' = some C' → PySem.W.exmOne K (.ref C) (.ref C') = some (decide (c' = c))) : TellN K G [(.ref C_BadText, "text"), (.ref C_NoSuch, "none")] [(1, [116, 101, 120, 116]), (2, [110, 111, 110, 101])] := tellN_cons (by decide +kernel) (fun c C h => X_ c C h 1 C_BadText T.x_BadText.ca) (tellN_cons (by decide +kernel) (fun c C h => X_ c C h 2 C_NoSuch T.x_NoSuch.ca) (tellN_nil))
theorem d_is_row {f c_is_row P_is_row : Addr} {oc : Value} {od an : Option Addr} {osl : Array (Option Value)} {kV doc pm ct : Value} (T : Txt K mg G C_BadText C_NoSuch C_BadCode) (lk : K.lookup f = some ⟨oc, od, .func (PySem.W.fnOf "is_row" "is_row" (defArgs s_is_row) (defBody s_is_row) (defScope s_is_row) .none kV doc pm an (.ref c_is_row) ct), osl⟩) (hcd : PySem.W.codeIn K (.ref c_is_row) "is_row" = true) (kp : PySem.W.keepIn K (.ref f) = true) (g : mg "is_row" = some (.ref f))  (TB_is_row : LamX.TabB base mg c_is_row P_is_row) (hmT_is_row : (P_is_row, ("is_row" ++ ".<locals>.<genexpr>" : Str)) ∈ G.T) (huT_is_row : ∀ p ∈ G.T, p.1 = P_is_row → p.2 = ("is_row" ++ ".<locals>.<genexpr>" : Str))  : FnD P w K mg base G 1 "is_row" 1 den_is_row :=
  fn_denC (N := ["thing", "k", "one"]) (ps := ["thing"]) (k := 0) lk hcd kp sc_is_row g ((fun_mk lk hcd kp).binds (ps := ["thing"]) fun _ _ _ _ _ _ us hl => match us, hl with | [_], _ => rfl) fun A outer s H E hr0 => have hu0 := hr0.units; have hu1 := room65 hr0
    sss_cons (ss_if (st_not (st_tru (se_isi (se_var 0) rfl T.b_isinstance rfl T.b_tuple))) (sss_one (ss_ret (se_bl))) (sss_nil))
    (sss_cons (ss_if (st_not (st_tru (se_genB (slot := 2) (.inr ⟨rfl, rfl⟩) (sg_seq (se_var 0)) hr0 rfl T.b_all sc_is_row.nd rfl n0_is_row TB_is_row rfl hmT_is_row huT_is_row (genP_by (sc := defScope s_is_row) (by decide +kernel)) (sp_and (sp_isi (sp_var 2) rfl T.b_isinstance rfl T.b_int (by decide +kernel)) (sp_and (sp_not (sp_isi (sp_var 2) rfl T.b_isinstance rfl T.b_bool (by decide +kernel))) (sp_one (sp_cmp pxo_ge ob_ge (sp_var 2) (sp_int)))))))) (sss_one (ss_ret (se_bl))) (sss_nil))
    (sss_one (ss_ret (se_genB (slot := 1) (.inr ⟨rfl, rfl⟩) (sg_items (sit_rng1 (sa_cons (se_op ops_sub (se_callB cas_len rfl T.b_len (by decide +kernel) (sa_cons (se_var 0) (sa_nil))) (se_int)) (sa_nil)) rfl T.b_range)) hr0 rfl T.b_all sc_is_row.nd rfl n0_is_row TB_is_row rfl hmT_is_row huT_is_row (genP_by (sc := defScope s_is_row) (by decide +kernel)) (sp_cmp pxo_lt ob_lt (sp_ix (sp_var 0) (sp_var 1)) (sp_ix (sp_var 0) (sp_op pxo_add ob_add (sp_var 1) (sp_int))))))))
theorem d_check_row {f : Addr} {fd : FuncData} (T : Txt K mg G C_BadText C_NoSuch C_BadCode) (F : Fun K "check_row" "check_row" s_check_row f fd) (g : mg "check_row" = some (.ref f)) (D_is_row : FnD P w K mg base G 1 "is_row" 1 den_is_row)  : FnD P w K mg base G 2 "check_row" 1 den_check_row :=
  fn_den (N := ["thing"]) (ps := ["thing"]) (k := 1) F sc_check_row g (F.binds (ps := ["thing"]) fun _ _ _ _ _ _ us hl => match us, hl with | [_], _ => rfl) fun cdv A outer s H E hr0 => have hu0 := hr0.units; have hu1 := room65 hr0
    sss_one (ss_if (st_not (st_tru (se_callP D_is_row hr0 (by omega) rfl (sa_cons (se_var 0) (sa_nil))))) (sss_one (ss_raise T.x_BadText rfl)) (sss_nil))
theorem d_in_twos {f : Addr} {fd : FuncData} (T : Txt K mg G C_BadText C_NoSuch C_BadCode) (F : Fun K "in_twos" "in_twos" s_in_twos f fd) (g : mg "in_twos" = some (.ref f))   : FnD P w K mg base G 1 "in_twos" 1 den_in_twos :=
  fn_den (N := ["number", "found"]) (ps := ["number"]) (k := 0) F sc_in_twos g (F.binds (ps := ["number"]) fun _ _ _ _ _ _ us hl => match us, hl with | [_], _ => rfl) fun cdv A outer s H E hr0 => have hu0 := hr0.units; have hu1 := room65 hr0
    sss_cons (ss_set (i := 1) sc_in_twos.nd rfl (by first | exact Or.inl rfl | exact Or.inr rfl) (se_str))
    (sss_cons (ss_while (passes_of rfl) (st_cmp ops_gt (se_var 0) (se_int)) (sss_cons (ss_set (i := 1) sc_in_twos.nd rfl (by first | exact Or.inl rfl | exact Or.inr rfl) (se_op ops_add (se_ix (se_str) (se_op ops_mod (se_var 0) (se_int))) (se_var 1)))
    (sss_one (ss_aug (i := 0) sc_in_twos.nd rfl (by first | exact Or.inl rfl | exact Or.inr rfl) ips_fdiv (se_int)))))
    (sss_one (ss_ret (se_var 1))))
theorem d_coded {f : Addr} {fd : FuncData} (T : Txt K mg G C_BadText C_NoSuch C_BadCode) (F : Fun K "coded" "coded" s_coded f fd) (g : mg "coded" = some (.ref f)) (D_check_row : FnD P w K mg base G 2 "check_row" 1 den_check_row) (D_in_twos : FnD P w K mg base G 1 "in_twos" 1 den_in_twos)  : FnD P w K mg base G 3 "coded" 1 den_coded :=
  fn_den (N := ["row", "found", "last", "number", "digits"]) (ps := ["row"]) (k := 2) F sc_coded g (F.binds (ps := ["row"]) fun _ _ _ _ _ _ us hl => match us, hl with | [_], _ => rfl) fun cdv A outer s H E hr0 => have hu0 := hr0.units; have hu1 := room65 hr0
    sss_cons (ss_expr (se_callP D_check_row hr0 (by omega) rfl (sa_cons (se_var 0) (sa_nil))))
    (sss_cons (ss_asgT (is := [1, 2]) (se_tup (sa_cons (se_str) (sa_cons (se_un uns_neg (se_int)) (sa_nil)))) (pg_tup rfl (pgs_cons (pg_name (i := 1) sc_coded.nd rfl (by first | exact Or.inl rfl | exact Or.inr rfl)) (pgs_cons (pg_name (i := 2) sc_coded.nd rfl (by first | exact Or.inl rfl | exact Or.inr rfl)) (pgs_nil)))) (tgk_tups (is := [1, 2]) (vs := [1, 2])) (by decide))
    (sss_cons (ss_for (passes_of rfl) (si_seq (se_var 0)) (pg_name (i := 3) sc_coded.nd rfl (by first | exact Or.inl rfl | exact Or.inr rfl)) (tgk_name (i := 3) (vs := [3])) (sss_cons (ss_set (i := 4) sc_coded.nd rfl (by first | exact Or.inl rfl | exact Or.inr rfl) (se_callP D_in_twos hr0 (by omega) rfl (sa_cons (se_op ops_sub (se_var 3) (se_var 2)) (sa_nil))))
    (sss_cons (ss_aug (i := 1) sc_coded.nd rfl (by first | exact Or.inl rfl | exact Or.inr rfl) ips_add (se_op ops_add (se_op ops_smulN (se_str) (se_op ops_sub (se_callB cas_len rfl T.b_len (by decide +kernel) (sa_cons (se_var 4) (sa_nil))) (se_int))) (se_var 4)))
    (sss_one (ss_set (i := 2) sc_coded.nd rfl (by first | exact Or.inl rfl | exact Or.inr rfl) (se_var 3))))))
    (sss_one (ss_ret (se_var 1)))))
theorem d_decoded {f c_decoded P_decoded : Addr} {oc : Value} {od an : Option Addr} {osl : Array (Option Value)} {kV doc pm ct : Value} (T : Txt K mg G C_BadText C_NoSuch C_BadCode) (lk : K.lookup f = some ⟨oc, od, .func (PySem.W.fnOf "decoded" "decoded" (defArgs s_decoded) (defBody s_decoded) (defScope s_decoded) .none kV doc pm an (.ref c_decoded) ct), osl⟩) (hcd : PySem.W.codeIn K (.ref c_decoded) "decoded" = true) (kp : PySem.W.keepIn K (.ref f) = true) (g : mg "decoded" = some (.ref f))  (XF_BadCode : ExF P w K mg base G 1 "BadCode" 3 C_BadCode) (TB_decoded : LamX.TabB base mg c_decoded P_decoded) (hmT_decoded : (P_decoded, ("decoded" ++ ".<locals>.<genexpr>" : Str)) ∈ G.T) (huT_decoded : ∀ p ∈ G.T, p.1 = P_decoded → p.2 = ("decoded" ++ ".<locals>.<genexpr>" : Str))  : FnD P w K mg base G 3 "decoded" 1 den_decoded :=
  fn_denC (N := ["code", "found", "last", "k", "start", "wide", "digits", "gap", "sign"]) (ps := ["code"]) (k := 2) lk hcd kp sc_decoded g ((fun_mk lk hcd kp).binds (ps := ["code"]) fun _ _ _ _ _ _ us hl => match us, hl with | [_], _ => rfl) fun A outer s H E hr0 => have hu0 := hr0.units; have hu1 := room65 hr0
    sss_cons (ss_par3 rfl sc_decoded.nd rfl rfl rfl (by decide) (by decide) (by decide) rfl rfl rfl (sa_cons (se_lst (sa_nil)) (sa_cons (se_un uns_neg (se_int)) (sa_cons (se_int) (sa_nil)))) rfl)
    (sss_cons (ss_while (passes_of rfl) (st_cmp ops_lt (se_var 3) (se_callB cas_len rfl T.b_len (by decide +kernel) (sa_cons (se_var 0) (sa_nil)))) (sss_cons (ss_par rfl sc_decoded.nd rfl rfl (by decide) rfl rfl (sa_cons (se_var 3) (sa_cons (se_int) (sa_nil))) rfl)
    (sss_cons (ss_while (passes_of rfl) (st_w (sw_and (st_cmp ops_lt (se_var 3) (se_callB cas_len rfl T.b_len (by decide +kernel) (sa_cons (se_var 0) (sa_nil)))) (sw_and1 (st_cmp (ops_eq hu0) (se_ix (se_var 0) (se_var 3)) (se_str))))) (sss_one (ss_par rfl sc_decoded.nd rfl rfl (by decide) rfl rfl (sa_cons (se_op ops_add (se_var 5) (se_int)) (sa_cons (se_op ops_add (se_var 3) (se_int)) (sa_nil))) rfl)))
    (sss_cons (ss_set (i := 6) sc_decoded.nd rfl (by first | exact Or.inl rfl | exact Or.inr rfl) (se_sl (se_var 0) (so_some (se_var 3)) (so_some (se_op ops_add (se_op ops_add (se_var 3) (se_var 5)) (se_int)))))
    (sss_cons (ss_if (st_tru (se_genB (slot := 8) (.inl ⟨rfl, rfl⟩) (sg_seq (se_sl (se_var 0) (so_some (se_var 4)) (so_some (se_op ops_add (se_op ops_add (se_var 3) (se_var 5)) (se_int))))) hr0 rfl T.b_any sc_decoded.nd rfl n0_decoded TB_decoded rfl hmT_decoded huT_decoded (genP_by (sc := defScope s_decoded) (by decide +kernel)) (sp_cmp pxo_nin ob_nin (sp_var 8) (sp_str)))) (sss_one (ss_raiseF XF_BadCode (hr0.mono (by omega)) rfl (sa_cons (se_op ops_add (se_var 4) (se_meth PySem.F.plainAttrs_list PySem.F.slot_list_index PySem.F.type_list_index mes_indexB (se_lc (n := 100000) (own := [("sign", 8)]) sc_decoded.nd (si_seq (se_sl (se_var 0) (so_some (se_var 4)) (so_some (se_op ops_add (se_op ops_add (se_var 3) (se_var 5)) (se_int))))) (blkOk_by (N := ["code", "found", "last", "k", "start", "wide", "digits", "gap", "sign"]) (sc := (defScope s_decoded)) (by decide +kernel)) (fun _ _ _ _ _ => pg_name (i := 8) sc_decoded.nd rfl (by first | exact Or.inl rfl | exact Or.inr rfl)) (tgk_name (i := 8) (vs := [8])) (fun _ _ _ _ _ => sts_nil) (fun _ _ _ _ _ => se_cmp (ops_in hu1) (se_var 8) (se_str))) (sa_cons (se_bl) (sa_nil)))) (sa_nil)))) (sss_nil))
    (sss_cons (ss_if (st_cmp ops_lt (se_callB cas_len rfl T.b_len (by decide +kernel) (sa_cons (se_var 6) (sa_nil))) (se_op ops_add (se_var 5) (se_int))) (sss_one (ss_raiseF XF_BadCode (hr0.mono (by omega)) rfl (sa_cons (se_var 4) (sa_nil)))) (sss_nil))
    (sss_cons (ss_set (i := 7) sc_decoded.nd rfl (by first | exact Or.inl rfl | exact Or.inr rfl) (se_int))
    (sss_cons (ss_for (passes_of rfl) (si_seq (se_var 6)) (pg_name (i := 8) sc_decoded.nd rfl (by first | exact Or.inl rfl | exact Or.inr rfl)) (tgk_name (i := 8) (vs := [8])) (sss_one (ss_set (i := 7) sc_decoded.nd rfl (by first | exact Or.inl rfl | exact Or.inr rfl) (se_op ops_add (se_op ops_mul (se_int) (se_var 7)) (se_callTy cas_int rfl T.b_int (by decide +kernel) (sa_cons (se_cmp (ops_eq hu0) (se_var 8) (se_str)) (sa_nil)))))))
    (sss_cons (ss_aug (i := 2) sc_decoded.nd rfl (by first | exact Or.inl rfl | exact Or.inr rfl) ips_add (se_var 7))
    (sss_cons (ss_expr (se_meth PySem.F.plainAttrs_list PySem.F.slot_list_append PySem.F.type_list_append mes_append (se_var 1) (sa_cons (se_var 2) (sa_nil))))
    (sss_one (ss_aug (i := 3) sc_decoded.nd rfl (by first | exact Or.inl rfl | exact Or.inr rfl) ips_add (se_op ops_add (se_var 5) (se_int))))))))))))))
    (sss_one (ss_ret (se_callTy cas_tuple rfl T.b_tuple (by decide +kernel) (sa_cons (se_var 1) (sa_nil))))))
theorem d_in_blocks {f : Addr} {fd : FuncData} (T : Txt K mg G C_BadText C_NoSuch C_BadCode) (F : Fun K "in_blocks" "in_blocks" s_in_blocks f fd) (g : mg "in_blocks" = some (.ref f)) (D_check_row : FnD P w K mg base G 2 "check_row" 1 den_check_row) (D_coded : FnD P w K mg base G 3 "coded" 1 den_coded)  : FnD P w K mg base G 4 "in_blocks" 2 den_in_blocks :=
  fn_den (N := ["row", "many", "found", "k", "part", "number"]) (ps := ["row", "many"]) (k := 3) F sc_in_blocks g (F.binds (ps := ["row", "many"]) fun _ _ _ _ _ _ us hl => match us, hl with | [_, _], _ => rfl) fun cdv A outer s H E hr0 => have hu0 := hr0.units; have hu1 := room65 hr0
    sss_cons (ss_expr (se_callP D_check_row hr0 (by omega) rfl (sa_cons (se_var 0) (sa_nil))))
    (sss_cons (ss_if (st_cmp ops_lt (se_var 1) (se_int)) (sss_one (ss_raise T.x_BadText rfl)) (sss_nil))
    (sss_cons (ss_set (i := 2) sc_in_blocks.nd rfl (by first | exact Or.inl rfl | exact Or.inr rfl) (se_lst (sa_nil)))
    (sss_cons (ss_for (passes_of rfl) (si_rng3 (sa_cons (se_int) (sa_cons (se_callB cas_len rfl T.b_len (by decide +kernel) (sa_cons (se_var 0) (sa_nil))) (sa_cons (se_var 1) (sa_nil)))) rfl T.b_range) (pg_name (i := 3) sc_in_blocks.nd rfl (by first | exact Or.inl rfl | exact Or.inr rfl)) (tgk_name (i := 3) (vs := [3])) (sss_cons (ss_set (i := 4) sc_in_blocks.nd rfl (by first | exact Or.inl rfl | exact Or.inr rfl) (se_sl (se_var 0) (so_some (se_var 3)) (so_some (se_op ops_add (se_var 3) (se_var 1)))))
    (sss_one (ss_expr (se_meth PySem.F.plainAttrs_list PySem.F.slot_list_append PySem.F.type_list_append mes_append (se_var 2) (sa_cons (se_tup (sa_cons (se_ix (se_var 4) (se_int)) (sa_cons (se_ix (se_var 4) (se_un uns_neg (se_int))) (sa_cons (se_callP D_coded hr0 (by omega) rfl (sa_cons (se_callTy cas_tuple rfl T.b_tuple (by decide +kernel) (sa_cons (se_lc (n := 100000) (own := [("number", 5)]) sc_in_blocks.nd (si_seq (se_var 4)) (blkOk_by (N := ["row", "many", "found", "k", "part", "number"]) (sc := (defScope s_in_blocks)) (by decide +kernel)) (fun _ _ _ _ _ => pg_name (i := 5) sc_in_blocks.nd rfl (by first | exact Or.inl rfl | exact Or.inr rfl)) (tgk_name (i := 5) (vs := [5])) (fun _ _ _ _ _ => sts_nil) (fun _ _ _ _ _ => se_op ops_sub (se_var 5) (se_ix (se_var 4) (se_int)))) (sa_nil))) (sa_nil))) (sa_nil))))) (sa_nil)))))))
    (sss_one (ss_ret (se_callTy cas_tuple rfl T.b_tuple (by decide +kernel) (sa_cons (se_var 2) (sa_nil))))))))
theorem d_of_blocks {f : Addr} {fd : FuncData} (T : Txt K mg G C_BadText C_NoSuch C_BadCode) (F : Fun K "of_blocks" "of_blocks" s_of_blocks f fd) (g : mg "of_blocks" = some (.ref f)) (D_decoded : FnD P w K mg base G 3 "decoded" 1 den_decoded) (D_check_row : FnD P w K mg base G 2 "check_row" 1 den_check_row)  : FnD P w K mg base G 4 "of_blocks" 1 den_of_blocks :=
  fn_den (N := ["blocks", "found", "first", "last", "code", "number"]) (ps := ["blocks"]) (k := 3) F sc_of_blocks g (F.binds (ps := ["blocks"]) fun _ _ _ _ _ _ us hl => match us, hl with | [_], _ => rfl) fun cdv A outer s H E hr0 => have hu0 := hr0.units; have hu1 := room65 hr0
    sss_cons (ss_set (i := 1) sc_of_blocks.nd rfl (by first | exact Or.inl rfl | exact Or.inr rfl) (se_lst (sa_nil)))
    (sss_cons (ss_for (passes_of rfl) (si_seq (se_var 0)) (pg_tup rfl (pgs_cons (pg_name (i := 2) sc_of_blocks.nd rfl (by first | exact Or.inl rfl | exact Or.inr rfl)) (pgs_cons (pg_name (i := 3) sc_of_blocks.nd rfl (by first | exact Or.inl rfl | exact Or.inr rfl)) (pgs_cons (pg_name (i := 4) sc_of_blocks.nd rfl (by first | exact Or.inl rfl | exact Or.inr rfl)) (pgs_nil))))) (tgk_tups (is := [2, 3, 4]) (vs := [2, 3, 4])) (sss_one (ss_expr (se_meth PySem.F.plainAttrs_list PySem.F.slot_list_extend PySem.F.type_list_extend mes_extend (se_var 1) (sa_cons (se_lc (n := 100000) (own := [("number", 5)]) sc_of_blocks.nd (si_seq (se_call D_decoded hr0 (by omega) rfl (sa_cons (se_var 4) (sa_nil)))) (blkOk_by (N := ["blocks", "found", "first", "last", "code", "number"]) (sc := (defScope s_of_blocks)) (by decide +kernel)) (fun _ _ _ _ _ => pg_name (i := 5) sc_of_blocks.nd rfl (by first | exact Or.inl rfl | exact Or.inr rfl)) (tgk_name (i := 5) (vs := [5])) (fun _ _ _ _ _ => sts_nil) (fun _ _ _ _ _ => se_op ops_add (se_var 2) (se_var 5))) (sa_nil))))))
    (sss_cons (ss_expr (se_callP D_check_row hr0 (by omega) rfl (sa_cons (se_callTy cas_tuple rfl T.b_tuple (by decide +kernel) (sa_cons (se_var 1) (sa_nil))) (sa_nil))))
    (sss_one (ss_ret (se_callTy cas_tuple rfl T.b_tuple (by decide +kernel) (sa_cons (se_var 1) (sa_nil)))))))
theorem d_in_block {f : Addr} {fd : FuncData} (T : Txt K mg G C_BadText C_NoSuch C_BadCode) (F : Fun K "in_block" "in_block" s_in_block f fd) (g : mg "in_block" = some (.ref f)) (D_decoded : FnD P w K mg base G 3 "decoded" 1 den_decoded)  : FnD P w K mg base G 4 "in_block" 2 den_in_block :=
  fn_den (N := ["blocks", "number", "first", "last", "code"]) (ps := ["blocks", "number"]) (k := 3) F sc_in_block g (F.binds (ps := ["blocks", "number"]) fun _ _ _ _ _ _ us hl => match us, hl with | [_, _], _ => rfl) fun cdv A outer s H E hr0 => have hu0 := hr0.units; have hu1 := room65 hr0
    sss_cons (ss_for (passes_of rfl) (si_seq (se_var 0)) (pg_tup rfl (pgs_cons (pg_name (i := 2) sc_in_block.nd rfl (by first | exact Or.inl rfl | exact Or.inr rfl)) (pgs_cons (pg_name (i := 3) sc_in_block.nd rfl (by first | exact Or.inl rfl | exact Or.inr rfl)) (pgs_cons (pg_name (i := 4) sc_in_block.nd rfl (by first | exact Or.inl rfl | exact Or.inr rfl)) (pgs_nil))))) (tgk_tups (is := [2, 3, 4]) (vs := [2, 3, 4])) (sss_one (ss_if (st_chain ops_le ops_le (se_var 2) (se_var 1) (se_var 3)) (sss_one (ss_ret (se_cmp (ops_in hu1) (se_op ops_sub (se_var 1) (se_var 2)) (se_call D_decoded hr0 (by omega) rfl (sa_cons (se_var 4) (sa_nil)))))) (sss_nil))))
    (sss_one (ss_ret (se_bl)))
theorem d_law_dice {f : Addr} {fd : FuncData} (T : Txt K mg G C_BadText C_NoSuch C_BadCode) (F : Fun K "_law_dice" "_law_dice" s_law_dice f fd) (g : mg "_law_dice" = some (.ref f))   : FnD P w K mg base G 1 "_law_dice" 1 den_law_dice :=
  fn_den (N := ["cell"]) (ps := ["cell"]) (k := 0) F sc_law_dice g (F.binds (ps := ["cell"]) fun _ _ _ _ _ _ us hl => match us, hl with | [_], _ => rfl) fun cdv A outer s H E hr0 => have hu0 := hr0.units; have hu1 := room65 hr0
    sss_cons (ss_if (st_chain ops_lt ops_lt (se_op ops_sub (se_int) (se_int)) (se_var 0) (se_int)) (sss_one (ss_ret (se_lst (sa_cons (se_callB cas_abs rfl T.b_abs (by decide +kernel) (sa_cons (se_var 0) (sa_nil))) (sa_cons (se_int) (sa_cons (se_int) (sa_nil))))))) (sss_nil))
    (sss_one (ss_ret (se_lst (sa_cons (se_var 0) (sa_cons (se_op ops_add (se_int) (se_op ops_mod (se_callTy cas_int rfl T.b_int (by decide +kernel) (sa_cons (se_var 0) (sa_nil))) (se_int))) (sa_cons (se_callTy cas_int rfl T.b_int (by decide +kernel) (sa_cons (se_cmp ops_ge (se_var 0) (se_op ops_pow (se_int) (se_int))) (sa_nil))) (sa_nil)))))))
theorem d_law_roll {f : Addr} {fd : FuncData} (T : Txt K mg G C_BadText C_NoSuch C_BadCode) (F : Fun K "_law_roll" "_law_roll" s_law_roll f fd) (g : mg "_law_roll" = some (.ref f))   : FnD P w K mg base G 1 "_law_roll" 2 den_law_roll :=
  fn_den (N := ["dice", "many", "found"]) (ps := ["dice", "many"]) (k := 0) F sc_law_roll g (F.binds (ps := ["dice", "many"]) fun _ _ _ _ _ _ us hl => match us, hl with | [_, _], _ => rfl) fun cdv A outer s H E hr0 => have hu0 := hr0.units; have hu1 := room65 hr0
    sss_cons (ss_if (st_w (sw_or (st_cmp (ops_eq hu0) (se_ix (se_var 0) (se_int)) (se_int)) (sw_or1 (st_w (sw_and (st_cmp (ops_eq hu0) (se_ix (se_var 0) (se_int)) (se_int)) (sw_and1 (st_cmp ops_gt (se_ix (se_var 0) (se_int)) (se_int)))))))) (sss_cons (ss_set (i := 2) sc_law_roll.nd rfl (by first | exact Or.inl rfl | exact Or.inr rfl) (se_op ops_mod (se_callTy cas_int rfl T.b_int (by decide +kernel) (sa_cons (se_ix (se_var 0) (se_int)) (sa_nil))) (se_var 1)))
    (sss_cons (ss_seti sets_list (se_var 0) (se_int) (se_op ops_fdiv (se_ix (se_var 0) (se_int)) (se_var 1)))
    (sss_one (ss_ret (se_var 2))))) (sss_nil))
    (sss_cons (ss_seti sets_list (se_var 0) (se_int) (se_int))
    (sss_cons (ss_seti sets_list (se_var 0) (se_int) (se_op ops_mod (se_callTy cas_int rfl T.b_int (by decide +kernel) (sa_cons (se_op ops_add (se_op ops_add (se_op ops_mul (se_ix (se_var 0) (se_int)) (se_int)) (se_op ops_mul (se_ix (se_var 0) (se_int)) (se_int))) (se_int)) (sa_nil))) (se_int)))
    (sss_cons (ss_seti sets_list (se_var 0) (se_int) (se_op ops_add (se_ix (se_var 0) (se_int)) (se_int)))
    (sss_one (ss_ret (se_op ops_mod (se_callTy cas_int rfl T.b_int (by decide +kernel) (sa_cons (se_op ops_add (se_op ops_fdiv (se_ix (se_var 0) (se_int)) (se_int)) (se_ix (se_var 0) (se_int))) (sa_nil))) (se_var 1)))))))
theorem d_law_rounds {f : Addr} {fd : FuncData} (T : Txt K mg G C_BadText C_NoSuch C_BadCode) (F : Fun K "_law_rounds" "_law_rounds" s_law_rounds f fd) (g : mg "_law_rounds" = some (.ref f)) (D_law_dice : FnD P w K mg base G 1 "_law_dice" 1 den_law_dice)  : FnD P w K mg base G 2 "_law_rounds" 2 den_law_rounds :=
  fn_den (N := ["script", "most", "cells", "cell"]) (ps := ["script", "most"]) (k := 1) F sc_law_rounds g (F.binds (ps := ["script", "most"]) fun _ _ _ _ _ _ us hl => match us, hl with | [_, _], _ => rfl) fun cdv A outer s H E hr0 => have hu0 := hr0.units; have hu1 := room65 hr0
    sss_cons (ss_set (i := 2) sc_law_rounds.nd rfl (by first | exact Or.inl rfl | exact Or.inr rfl) (se_sl (se_var 0) (so_none) (so_some (se_var 1))))
    (sss_cons (ss_if (st_cmp (ops_eq hu0) (se_var 2) (se_lst (sa_nil))) (sss_one (ss_set (i := 2) sc_law_rounds.nd rfl (by first | exact Or.inl rfl | exact Or.inr rfl) (se_lst (sa_cons (se_int) (sa_nil))))) (sss_nil))
    (sss_one (ss_ret (se_lc (n := 100000) (own := [("cell", 3)]) sc_law_rounds.nd (si_seq (se_var 2)) (blkOk_by (N := ["script", "most", "cells", "cell"]) (sc := (defScope s_law_rounds)) (by decide +kernel)) (fun _ _ _ _ _ => pg_name (i := 3) sc_law_rounds.nd rfl (by first | exact Or.inl rfl | exact Or.inr rfl)) (tgk_name (i := 3) (vs := [3])) (fun _ _ _ _ _ => sts_nil) (fun _ _ _ _ _ => se_call D_law_dice hr0 (by omega) rfl (sa_cons (se_var 3) (sa_nil)))))))
theorem d_law_twos_n {f : Addr} {fd : FuncData} (T : Txt K mg G C_BadText C_NoSuch C_BadCode) (F : Fun K "_law_twos" "_law_twos" s_law_twos f fd) (g : mg "_law_twos" = some (.ref f))   (n : Nat) : FnD P w K mg base G (1 + n) "_law_twos" 1 (den_law_twos_n n) := by
  induction n with
  | zero => exact fn_den (N := ["number"]) (ps := ["number"]) (k := 0) F sc_law_twos g (F.binds (ps := ["number"]) fun _ _ _ _ _ _ us hl => match us, hl with | [_], _ => rfl) fun cdv A outer s H E hr0 => sss_bad
  | succ n DR =>
    exact fn_den (N := ["number"]) (ps := ["number"]) (k := 1 + n) F sc_law_twos g (F.binds (ps := ["number"]) fun _ _ _ _ _ _ us hl => match us, hl with | [_], _ => rfl) fun cdv A outer s H E hr0 => have hu0 := hr0.units; have hu1 := room65 hr0
      sss_cons (ss_if (st_cmp ops_lt (se_var 0) (se_int)) (sss_one (ss_ret (se_ix (se_str) (se_var 0)))) (sss_nil)) (sss_one (ss_ret (se_op ops_add (se_callP DR hr0 (by omega) rfl (sa_cons (se_op ops_fdiv (se_var 0) (se_int)) (sa_nil))) (se_ix (se_str) (se_op ops_mod (se_var 0) (se_int))))))
theorem d_law_twos {f : Addr} {fd : FuncData} (T : Txt K mg G C_BadText C_NoSuch C_BadCode) (F : Fun K "_law_twos" "_law_twos" s_law_twos f fd) (g : mg "_law_twos" = some (.ref f))   : FnD P w K mg base G 21 "_law_twos" 1 den_law_twos := d_law_twos_n T F g  20
theorem d_law_blocks {f : Addr} {fd : FuncData} (T : Txt K mg G C_BadText C_NoSuch C_BadCode) (F : Fun K "_law_blocks" "_law_blocks" s_law_blocks f fd) (g : mg "_law_blocks" = some (.ref f)) (D_law_roll : FnD P w K mg base G 1 "_law_roll" 2 den_law_roll) (D_in_blocks : FnD P w K mg base G 4 "in_blocks" 2 den_in_blocks) (D_of_blocks : FnD P w K mg base G 4 "of_blocks" 1 den_of_blocks) (D_coded : FnD P w K mg base G 3 "coded" 1 den_coded) (D_in_block : FnD P w K mg base G 4 "in_block" 2 den_in_block)  : FnD P w K mg base G 5 "_law_blocks" 2 den_law_blocks :=
  fn_den (N := ["dice", "row", "many", "blocks", "k", "number", "part", "one"]) (ps := ["dice", "row"]) (k := 4) F sc_law_blocks g (F.binds (ps := ["dice", "row"]) fun _ _ _ _ _ _ us hl => match us, hl with | [_, _], _ => rfl) fun cdv A outer s H E hr0 => have hu0 := hr0.units; have hu1 := room65 hr0
    sss_cons (ss_set (i := 2) sc_law_blocks.nd rfl (by first | exact Or.inl rfl | exact Or.inr rfl) (se_op ops_add (se_int) (se_call D_law_roll hr0 (by omega) rfl (sa_cons (se_var 0) (sa_cons (se_int) (sa_nil))))))
    (sss_cons (ss_set (i := 3) sc_law_blocks.nd rfl (by first | exact Or.inl rfl | exact Or.inr rfl) (se_callP D_in_blocks hr0 (by omega) rfl (sa_cons (se_var 1) (sa_cons (se_var 2) (sa_nil)))))
    (sss_cons (ss_if (st_w (sw_or (st_cmp (ops_ne hu0) (se_callP D_of_blocks hr0 (by omega) rfl (sa_cons (se_var 3) (sa_nil))) (se_var 1)) (sw_or1 (st_cmp (ops_ne hu0) (se_callB cas_len rfl T.b_len (by decide +kernel) (sa_cons (se_var 3) (sa_nil))) (se_op ops_fdiv (se_op ops_sub (se_op ops_add (se_callB cas_len rfl T.b_len (by decide +kernel) (sa_cons (se_var 1) (sa_nil))) (se_var 2)) (se_int)) (se_var 2)))))) (sss_one (ss_ret (se_bl))) (sss_nil))
    (sss_cons (ss_for (passes_of rfl) (si_rng1 (sa_cons (se_callB cas_len rfl T.b_len (by decide +kernel) (sa_cons (se_var 3) (sa_nil))) (sa_nil)) rfl T.b_range) (pg_name (i := 4) sc_law_blocks.nd rfl (by first | exact Or.inl rfl | exact Or.inr rfl)) (tgk_name (i := 4) (vs := [4])) (sss_cons (ss_set (i := 6) sc_law_blocks.nd rfl (by first | exact Or.inl rfl | exact Or.inr rfl) (se_sl (se_var 1) (so_some (se_op ops_mul (se_var 2) (se_var 4))) (so_some (se_op ops_add (se_op ops_mul (se_var 2) (se_var 4)) (se_var 2)))))
    (sss_one (ss_if (st_cmp (ops_ne hu0) (se_ix (se_var 3) (se_var 4)) (se_tup (sa_cons (se_ix (se_var 6) (se_int)) (sa_cons (se_ix (se_var 6) (se_un uns_neg (se_int))) (sa_cons (se_callP D_coded hr0 (by omega) rfl (sa_cons (se_callTy cas_tuple rfl T.b_tuple (by decide +kernel) (sa_cons (se_lc (n := 100000) (own := [("number", 5)]) sc_law_blocks.nd (si_seq (se_var 6)) (blkOk_by (N := ["dice", "row", "many", "blocks", "k", "number", "part", "one"]) (sc := (defScope s_law_blocks)) (by decide +kernel)) (fun _ _ _ _ _ => pg_name (i := 5) sc_law_blocks.nd rfl (by first | exact Or.inl rfl | exact Or.inr rfl)) (tgk_name (i := 5) (vs := [5])) (fun _ _ _ _ _ => sts_nil) (fun _ _ _ _ _ => se_op ops_sub (se_var 5) (se_ix (se_var 6) (se_int)))) (sa_nil))) (sa_nil))) (sa_nil)))))) (sss_one (ss_ret (se_bl))) (sss_nil)))))
    (sss_cons (ss_for (passes_of rfl) (si_seq (se_op ops_add (se_op ops_add (se_callTy cas_list rfl T.b_list (by decide +kernel) (sa_cons (se_var 1) (sa_nil))) (se_lc (n := 100000) (own := [("one", 7)]) sc_law_blocks.nd (si_seq (se_var 1)) (blkOk_by (N := ["dice", "row", "many", "blocks", "k", "number", "part", "one"]) (sc := (defScope s_law_blocks)) (by decide +kernel)) (fun _ _ _ _ _ => pg_name (i := 7) sc_law_blocks.nd rfl (by first | exact Or.inl rfl | exact Or.inr rfl)) (tgk_name (i := 7) (vs := [7])) (fun _ _ _ _ _ => sts_nil) (fun _ _ _ _ _ => se_op ops_add (se_var 7) (se_int)))) (se_lst (sa_cons (se_int) (sa_nil))))) (pg_name (i := 5) sc_law_blocks.nd rfl (by first | exact Or.inl rfl | exact Or.inr rfl)) (tgk_name (i := 5) (vs := [5])) (sss_one (ss_if (st_cmp (ops_ne hu0) (se_callP D_in_block hr0 (by omega) rfl (sa_cons (se_var 3) (sa_cons (se_var 5) (sa_nil)))) (se_cmp (ops_in hu1) (se_var 5) (se_var 1))) (sss_one (ss_ret (se_bl))) (sss_nil))))
    (sss_one (ss_ret (se_bl)))))))
theorem d_law {f c_law P_law : Addr} {oc : Value} {od an : Option Addr} {osl : Array (Option Value)} {kV doc pm ct : Value} (T : Txt K mg G C_BadText C_NoSuch C_BadCode) (lk : K.lookup f = some ⟨oc, od, .func (PySem.W.fnOf "law" "law" (defArgs s_law) (defBody s_law) (defScope s_law) .none kV doc pm an (.ref c_law) ct), osl⟩) (hcd : PySem.W.codeIn K (.ref c_law) "law" = true) (D_law_rounds : FnD P w K mg base G 2 "_law_rounds" 2 den_law_rounds) (D_law_roll : FnD P w K mg base G 1 "_law_roll" 2 den_law_roll) (D_law_twos : FnD P w K mg base G 21 "_law_twos" 1 den_law_twos) (D_coded : FnD P w K mg base G 3 "coded" 1 den_coded) (D_decoded : FnD P w K mg base G 3 "decoded" 1 den_decoded) (D_in_twos : FnD P w K mg base G 1 "in_twos" 1 den_in_twos) (D_law_blocks : FnD P w K mg base G 5 "_law_blocks" 2 den_law_blocks) (D_in_blocks : FnD P w K mg base G 4 "in_blocks" 2 den_in_blocks) {a_law_told : Addr} {fd_law_told : FuncData} (F_law_told : Fun K "_law_told" "_law_told" s_law_told a_law_told fd_law_told) (B_law_told : L2.Binds K fd_law_told ["what"] []) (g_law_told : mg "_law_told" = some (.ref a_law_told)) {a_law_place : Addr} {fd_law_place : FuncData} (F_law_place : Fun K "_law_place" "_law_place" s_law_place a_law_place fd_law_place) (B_law_place : L2.Binds K fd_law_place ["what"] []) (g_law_place : mg "_law_place" = some (.ref a_law_place)) (X_ : ∀ c C, G.ca c = some C → ∀ c' C', G.ca c' = some C' → PySem.W.exmOne K (.ref C) (.ref C') = some (decide (c' = c))) {C_IndexFault : Addr} (PL_BadCode : PlaceOk K mg "BadCode" "IndexFault" "place" C_BadCode C_IndexFault) (TB_law : LamX.TabB base mg c_law P_law) (hmT_law : (P_law, ("law" ++ ".<locals>.<lambda>" : Str)) ∈ G.T) (huT_law : ∀ p ∈ G.T, p.1 = P_law → p.2 = ("law" ++ ".<locals>.<lambda>" : Str)) :
    FnOk P w K mg base (L2.CX P w) 25 f (PySem.W.fnOf "law" "law" (defArgs s_law) (defBody s_law) (defScope s_law) .none kV doc pm an (.ref c_law) ct) ["script"] (spOf K G 1 den_law) :=
  law_den (N := ["script", "dice", "row", "last", "k", "due", "begins", "cut", "whole", "digits", "number"]) (ps := ["script"]) (k := 24) lk hcd sc_law fun A outer s H E hr0 => have hu0 := hr0.units; have hu1 := room65 hr0
    sss_cons (ss_for (passes_of rfl) (si_seq (se_call D_law_rounds hr0 (by omega) rfl (sa_cons (se_var 0) (sa_cons (se_int) (sa_nil))))) (pg_name (i := 1) sc_law.nd rfl (by first | exact Or.inl rfl | exact Or.inr rfl)) (tgk_name (i := 1) (vs := [1])) (sss_cons (ss_asgT (is := [2, 3]) (se_tup (sa_cons (se_lst (sa_nil)) (sa_cons (se_op ops_sub (se_int) (se_int)) (sa_nil)))) (pg_tup rfl (pgs_cons (pg_name (i := 2) sc_law.nd rfl (by first | exact Or.inl rfl | exact Or.inr rfl)) (pgs_cons (pg_name (i := 3) sc_law.nd rfl (by first | exact Or.inl rfl | exact Or.inr rfl)) (pgs_nil)))) (tgk_tups (is := [2, 3]) (vs := [2, 3])) (by decide))
    (sss_cons (ss_for (passes_of rfl) (si_rng1 (sa_cons (se_call D_law_roll hr0 (by omega) rfl (sa_cons (se_var 1) (sa_cons (se_int) (sa_nil)))) (sa_nil)) rfl T.b_range) (pg_name (i := 4) sc_law.nd rfl (by first | exact Or.inl rfl | exact Or.inr rfl)) (tgk_name (i := 4) (vs := [4])) (sss_cons (ss_set (i := 3) sc_law.nd rfl (by first | exact Or.inl rfl | exact Or.inr rfl) (se_op ops_add (se_op ops_add (se_var 3) (se_int)) (se_call D_law_roll hr0 (by omega) rfl (sa_cons (se_var 1) (sa_cons (se_ix (se_lst (sa_cons (se_int) (sa_cons (se_int) (sa_cons (se_int) (sa_cons (se_int) (sa_nil)))))) (se_call D_law_roll hr0 (by omega) rfl (sa_cons (se_var 1) (sa_cons (se_int) (sa_nil))))) (sa_nil))))))
    (sss_one (ss_expr (se_meth PySem.F.plainAttrs_list PySem.F.slot_list_append PySem.F.type_list_append mes_append (se_var 2) (sa_cons (se_var 3) (sa_nil)))))))
    (sss_cons (ss_asgT (is := [2, 5, 6]) (se_tup (sa_cons (se_callTy cas_tuple rfl T.b_tuple (by decide +kernel) (sa_cons (se_var 2) (sa_nil))) (sa_cons (se_str) (sa_cons (se_lst (sa_nil)) (sa_nil))))) (pg_tup rfl (pgs_cons (pg_name (i := 2) sc_law.nd rfl (by first | exact Or.inl rfl | exact Or.inr rfl)) (pgs_cons (pg_name (i := 5) sc_law.nd rfl (by first | exact Or.inl rfl | exact Or.inr rfl)) (pgs_cons (pg_name (i := 6) sc_law.nd rfl (by first | exact Or.inl rfl | exact Or.inr rfl)) (pgs_nil))))) (tgk_tups (is := [2, 5, 6]) (vs := [2, 5, 6])) (by decide))
    (sss_cons (ss_for (passes_of rfl) (si_rng1 (sa_cons (se_callB cas_len rfl T.b_len (by decide +kernel) (sa_cons (se_var 2) (sa_nil))) (sa_nil)) rfl T.b_range) (pg_name (i := 4) sc_law.nd rfl (by first | exact Or.inl rfl | exact Or.inr rfl)) (tgk_name (i := 4) (vs := [4])) (sss_cons (ss_set (i := 9) sc_law.nd rfl (by first | exact Or.inl rfl | exact Or.inr rfl) (se_callP D_law_twos hr0 (by omega) rfl (sa_cons (se_op ops_sub (se_ix (se_var 2) (se_var 4)) (se_ife (st_cmp ops_gt (se_var 4) (se_int)) (se_ix (se_var 2) (se_op ops_sub (se_var 4) (se_int))) (se_op ops_sub (se_int) (se_int)))) (sa_nil))))
    (sss_cons (ss_expr (se_meth PySem.F.plainAttrs_list PySem.F.slot_list_append PySem.F.type_list_append mes_append (se_var 6) (sa_cons (se_callB cas_len rfl T.b_len (by decide +kernel) (sa_cons (se_var 5) (sa_nil))) (sa_nil))))
    (sss_one (ss_set (i := 5) sc_law.nd rfl (by first | exact Or.inl rfl | exact Or.inr rfl) (se_op ops_add (se_op ops_add (se_var 5) (se_op ops_smulN (se_str) (se_op ops_sub (se_callB cas_len rfl T.b_len (by decide +kernel) (sa_cons (se_var 9) (sa_nil))) (se_int)))) (se_var 9)))))))
    (sss_cons (ss_if (st_w (sw_or (st_cmp (ops_ne hu0) (se_callP D_coded hr0 (by omega) rfl (sa_cons (se_var 2) (sa_nil))) (se_var 5)) (sw_or1 (st_cmp (ops_ne hu0) (se_call D_decoded hr0 (by omega) rfl (sa_cons (se_var 5) (sa_nil))) (se_var 2))))) (sss_one (ss_ret (se_bl))) (sss_nil))
    (sss_cons (ss_if (st_cmp (ops_ne hu0) (se_lc (n := 100000) (own := [("number", 10)]) sc_law.nd (si_rng2 (sa_cons (se_int) (sa_cons (se_int) (sa_nil))) rfl T.b_range) (blkOk_by (N := ["script", "dice", "row", "last", "k", "due", "begins", "cut", "whole", "digits", "number"]) (sc := (defScope s_law)) (by decide +kernel)) (fun _ _ _ _ _ => pg_name (i := 10) sc_law.nd rfl (by first | exact Or.inl rfl | exact Or.inr rfl)) (tgk_name (i := 10) (vs := [10])) (fun _ _ _ _ _ => sts_one (st_cmp (ops_ne hu0) (se_callP D_in_twos hr0 (by omega) rfl (sa_cons (se_var 10) (sa_nil))) (se_callP D_law_twos hr0 (by omega) rfl (sa_cons (se_var 10) (sa_nil))))) (fun _ _ _ _ _ => se_var 10)) (se_lst (sa_nil))) (sss_one (ss_ret (se_bl))) (sss_nil))
    (sss_cons (ss_set (i := 7) sc_law.nd rfl (by first | exact Or.inl rfl | exact Or.inr rfl) (se_call D_law_roll hr0 (by omega) rfl (sa_cons (se_var 1) (sa_cons (se_op ops_add (se_callB cas_len rfl T.b_len (by decide +kernel) (sa_cons (se_var 5) (sa_nil))) (se_int)) (sa_nil)))))
    (sss_cons (ss_setLc (i := 8) (n := 100000) (own := [("k", 4)]) sc_law.nd rfl rfl (sw_true rfl rfl rfl (by decide +kernel)) (si_rng1 (sa_cons (se_callB cas_len rfl T.b_len (by decide +kernel) (sa_cons (se_var 6) (sa_nil))) (sa_nil)) rfl T.b_range) (blkOk_by (N := ["script", "dice", "row", "last", "k", "due", "begins", "cut", "whole", "digits", "number"]) (sc := (defScope s_law)) (by decide +kernel)) (fun _ _ _ _ _ => pg_name (i := 4) sc_law.nd rfl (by first | exact Or.inl rfl | exact Or.inr rfl)) (tgk_name (i := 4) (vs := [4])) (fun _ _ _ _ _ => sts_one (st_cmp ops_le (se_ix (se_ife (st_cmp ops_lt (se_op ops_add (se_var 4) (se_int)) (se_callB cas_len rfl T.b_len (by decide +kernel) (sa_cons (se_var 6) (sa_nil)))) (se_lst (sa_cons (se_ix (se_var 6) (se_op ops_add (se_var 4) (se_int))) (sa_nil))) (se_lst (sa_cons (se_callB cas_len rfl T.b_len (by decide +kernel) (sa_cons (se_var 5) (sa_nil))) (sa_nil)))) (se_int)) (se_var 7))) (fun _ _ _ _ _ => se_var 4))
    (sss_cons (ss_if (st_cmp (ops_in hu1) (se_var 7) (se_op ops_add (se_var 6) (se_lst (sa_cons (se_callB cas_len rfl T.b_len (by decide +kernel) (sa_cons (se_var 5) (sa_nil))) (sa_nil))))) (sss_one (ss_if (st_cmp (ops_ne hu0) (se_call D_decoded hr0 (by omega) rfl (sa_cons (se_sl (se_var 5) (so_none) (so_some (se_var 7))) (sa_nil))) (se_sl (se_var 2) (so_none) (so_some (se_callB cas_len rfl T.b_len (by decide +kernel) (sa_cons (se_var 8) (sa_nil)))))) (sss_one (ss_ret (se_bl))) (sss_nil))) (sss_one (ss_if (st_cmp (ops_ne hu0) ((se_place (k := 22) (Ng := ["what", "e"]) F_law_place B_law_place g_law_place sc_law_place (fun cdv => place_gives (xc := "BadCode") (ci := "IndexFault") (n := "e") sc_law_place.nd rfl rfl (fun _ => rfl) rfl rfl (by decide) PL_BadCode.mB rfl (by decide) PL_BadCode.mI rfl T.b_isinstance rfl T.b_ValueError (by decide) (by decide) PL_BadCode.hC PL_BadCode.hX PL_BadCode.hno PL_BadCode.hm PL_BadCode.k1 PL_BadCode.k2 (fun _ _ _ => rfl) (fun _ _ _ _ => rfl)) T.ca_BadCode rfl rfl (by exact Or.inl rfl) rfl TB_law rfl hmT_law huT_law hr0 (by decide) (LamX.lamS_by (sc := defScope s_law) (by decide +kernel)) rfl (fun _ _ _ _ _ => rfl) (fun A outer s H E f c' hr0 => have hu0 := hr0.units; se_call D_decoded hr0 (by omega) rfl (sa_cons (se_sl (se_var 5) (so_none) (so_some (se_var 7))) (sa_nil))))) (se_ix (se_var 6) (se_callB cas_len rfl T.b_len (by decide +kernel) (sa_cons (se_var 8) (sa_nil))))) (sss_one (ss_ret (se_bl))) (sss_nil))))
    (sss_cons (ss_if (st_cmp (ops_notin hu1) ((se_place (k := 22) (Ng := ["what", "e"]) F_law_place B_law_place g_law_place sc_law_place (fun cdv => place_gives (xc := "BadCode") (ci := "IndexFault") (n := "e") sc_law_place.nd rfl rfl (fun _ => rfl) rfl rfl (by decide) PL_BadCode.mB rfl (by decide) PL_BadCode.mI rfl T.b_isinstance rfl T.b_ValueError (by decide) (by decide) PL_BadCode.hC PL_BadCode.hX PL_BadCode.hno PL_BadCode.hm PL_BadCode.k1 PL_BadCode.k2 (fun _ _ _ => rfl) (fun _ _ _ _ => rfl)) T.ca_BadCode rfl rfl (by exact Or.inl rfl) rfl TB_law rfl hmT_law huT_law hr0 (by decide) (LamX.lamS_by (sc := defScope s_law) (by decide +kernel)) rfl (fun _ _ _ _ _ => rfl) (fun A outer s H E f c' hr0 => have hu0 := hr0.units; se_call D_decoded hr0 (by omega) rfl (sa_cons (se_op ops_add (se_op ops_add (se_sl (se_var 5) (so_none) (so_some (se_var 7))) (se_str)) (se_sl (se_var 5) (so_some (se_var 7)) (so_none))) (sa_nil))))) (se_op ops_add (se_lst (sa_cons (se_var 7) (sa_nil))) (se_var 6))) (sss_one (ss_ret (se_bl))) (sss_nil))
    (sss_cons (ss_if (st_w (sw_and (st_cmp (ops_in hu1) (se_var 7) (se_var 6)) (sw_and1 (st_cmp (ops_ne hu0) ((se_place (k := 22) (Ng := ["what", "e"]) F_law_place B_law_place g_law_place sc_law_place (fun cdv => place_gives (xc := "BadCode") (ci := "IndexFault") (n := "e") sc_law_place.nd rfl rfl (fun _ => rfl) rfl rfl (by decide) PL_BadCode.mB rfl (by decide) PL_BadCode.mI rfl T.b_isinstance rfl T.b_ValueError (by decide) (by decide) PL_BadCode.hC PL_BadCode.hX PL_BadCode.hno PL_BadCode.hm PL_BadCode.k1 PL_BadCode.k2 (fun _ _ _ => rfl) (fun _ _ _ _ => rfl)) T.ca_BadCode rfl rfl (by exact Or.inl rfl) rfl TB_law rfl hmT_law huT_law hr0 (by decide) (LamX.lamS_by (sc := defScope s_law) (by decide +kernel)) rfl (fun _ _ _ _ _ => rfl) (fun A outer s H E f c' hr0 => have hu0 := hr0.units; se_call D_decoded hr0 (by omega) rfl (sa_cons (se_op ops_add (se_op ops_add (se_sl (se_var 5) (so_none) (so_some (se_var 7))) (se_str)) (se_sl (se_var 5) (so_some (se_var 7)) (so_none))) (sa_nil))))) (se_var 7))))) (sss_one (ss_ret (se_bl))) (sss_nil))
    (sss_cons (ss_if (st_not (st_tru (se_call D_law_blocks hr0 (by omega) rfl (sa_cons (se_var 1) (sa_cons (se_var 2) (sa_nil)))))) (sss_one (ss_ret (se_bl))) (sss_nil))
    (sss_cons (ss_if (st_cmp (ops_ne hu0) ((se_told (k := 22) (Ng := ["what"]) F_law_told B_law_told g_law_told sc_law_told rfl rfl (by exact Or.inl rfl) (fun _ => rfl) (by exact tells_law_told T) (tellN_law_told T X_) rfl TB_law rfl hmT_law huT_law hr0 (by decide) (LamX.lamS_by (sc := defScope s_law) (by decide +kernel)) rfl (fun _ _ _ _ _ => rfl) (fun A outer s H E f c' hr0 => have hu0 := hr0.units; se_callP D_in_blocks hr0 (by omega) rfl (sa_cons (se_var 2) (sa_cons (se_int) (sa_nil)))))) (se_str)) (sss_one (ss_ret (se_bl))) (sss_nil))
    (sss_one (ss_if (st_cmp (ops_ne hu0) ((se_told (k := 22) (Ng := ["what"]) F_law_told B_law_told g_law_told sc_law_told rfl rfl (by exact Or.inl rfl) (fun _ => rfl) (by exact tells_law_told T) (tellN_law_told T X_) rfl TB_law rfl hmT_law huT_law hr0 (by decide) (LamX.lamS_by (sc := defScope s_law) (by decide +kernel)) rfl (fun _ _ _ _ _ => rfl) (fun A outer s H E f c' hr0 => have hu0 := hr0.units; se_callP D_coded hr0 (by omega) rfl (sa_cons (se_tup (sa_cons (se_int) (sa_cons (se_int) (sa_nil)))) (sa_nil))))) (se_str)) (sss_one (ss_ret (se_bl))) (sss_nil)))))))))))))))))
    (sss_one (ss_ret (se_bl)))
end
end Law_indexhall_k05_rows_coded
/-! Rows coded by gaps: the plain laws. -/
namespace K05
/-- the digits of two, as the law tells them -/
def twos (n : Nat) : List Nat := if h : n < 2 then [48 + n] else twos (n / 2) ++ [48 + n % 2]
termination_by n
decreasing_by omega
theorem twos_lt {n : Nat} (h : n < 2) : twos n = [48 + n] := by rw [twos, dif_pos h]
theorem twos_ge {n : Nat} (h : ¬ n < 2) : twos n = twos (n / 2) ++ [48 + n % 2] := by rw [twos, dif_neg h]
def val (ds : List Nat) : Nat := ds.foldl (fun a d => 2 * a + if d = 49 then 1 else 0) 0
theorem val_snoc (ds : List Nat) (d : Nat) : val (ds ++ [d]) = 2 * val ds + if d = 49 then 1 else 0 := by
  unfold val; rw [List.foldl_append]; rfl
theorem val_twos (n : Nat) : val (twos n) = n := by
  by_cases h : n < 2
  · rw [twos_lt h]
    have : n = 0 ∨ n = 1 := by omega
    rcases this with rfl | rfl <;> rfl
  · rw [twos_ge h, val_snoc, val_twos (n / 2)]
    have : n % 2 = 0 ∨ n % 2 = 1 := by omega
    rcases this with e | e <;> rw [e] <;> simp <;> omega
termination_by n
decreasing_by omega
theorem twos_head (n : Nat) (h : 0 < n) : ∃ r, twos n = 49 :: r := by
  by_cases h2 : n < 2
  · rw [twos_lt h2]
    have : n = 1 := by omega
    subst this
    exact ⟨[], rfl⟩
  · rw [twos_ge h2]
    obtain ⟨r, e⟩ := twos_head (n / 2) (by omega)
    rw [e]
    exact ⟨r ++ [48 + n % 2], rfl⟩
termination_by n
decreasing_by omega
theorem twos_01 (n : Nat) : ∀ d ∈ twos n, d = 48 ∨ d = 49 := by
  by_cases h : n < 2
  · rw [twos_lt h]; intro d hd; simp at hd; omega
  · rw [twos_ge h]
    intro d hd
    rcases List.mem_append.1 hd with q | q
    · exact twos_01 (n / 2) d q
    · simp at q; omega
termination_by n
decreasing_by omega
theorem twos_pos (n : Nat) : 0 < (twos n).length := by
  by_cases h : n < 2
  · rw [twos_lt h]; simp
  · rw [twos_ge h]; simp
theorem twos_len (n : Nat) : (twos n).length ≤ n + 1 := by
  by_cases h : n < 2
  · rw [twos_lt h]; simp
  · rw [twos_ge h, List.length_append]
    have := twos_len (n / 2)
    simp; omega
termination_by n
decreasing_by omega
theorem twos_len2 (k n : Nat) (h : n < 2 ^ k) : (twos n).length ≤ k + 1 := by
  induction k generalizing n with
  | zero => rw [twos_lt (by omega)]; simp
  | succ k ih =>
    by_cases h2 : n < 2
    · rw [twos_lt h2]; simp
    · rw [twos_ge h2, List.length_append]
      have := ih (n / 2) (by omega)
      simp; omega
/-- noughts, one fewer than the digits, then these -/
def piece (g : Nat) : List Nat := List.replicate ((twos g).length - 1) 48 ++ twos g
theorem piece_len (g : Nat) : (piece g).length = 2 * (twos g).length - 1 := by
  unfold piece
  rw [List.length_append, List.length_replicate]
  have := twos_pos g
  omega
theorem piece_01 (g : Nat) : ∀ d ∈ piece g, d = 48 ∨ d = 49 := by
  intro d hd
  unfold piece at hd
  rcases List.mem_append.1 hd with q | q
  · exact .inl (List.eq_of_mem_replicate q)
  · exact twos_01 g d q
def pieces (gs : List Nat) : List Nat := (gs.map piece).flatten
/-! ### decoded -/
inductive Res where
  | ok (l : List Int)
  | err (p : Nat)
/-- noughts at the beginning -/
def zs : List Nat → Nat
  | [] => 0
  | c :: r => if c = 48 then zs r + 1 else 0
def okS (c : Nat) : Bool := decide (c = 48 ∨ c = 49)
/-- the first sign that is none -/
def badAt : List Nat → Nat
  | [] => 0
  | c :: r => if okS c = true then badAt r + 1 else 0
def dec : Nat → List Nat → Nat → Int → List Int → Res
  | 0, _, _, _, found => .ok found
  | n + 1, s, k, last, found => if s = [] then .ok found else
    let z := zs s
    if (s.take (2 * z + 1)).all okS = false then .err (k + badAt (s.take (2 * z + 1)))
    else if ((s.drop z).take (z + 1)).length < z + 1 then .err k
    else dec n (s.drop (2 * z + 1)) (k + (2 * z + 1)) (last + val ((s.drop z).take (z + 1))) (found ++ [last + val ((s.drop z).take (z + 1))])
theorem zs_rep (a : Nat) (s : List Nat) : zs (List.replicate a 48 ++ s) = a + zs s := by
  induction a with
  | zero => simp
  | succ a ih => rw [List.replicate_succ, List.cons_append, zs, if_pos rfl, ih]; omega
theorem zs_ne {c : Nat} {s : List Nat} (h : c ≠ 48) : zs (c :: s) = 0 := by rw [zs, if_neg h]
theorem zs_le (s : List Nat) : zs s ≤ s.length := by
  induction s with
  | nil => simp [zs]
  | cons c s ih => unfold zs; split <;> simp <;> omega
theorem zs_all {s : List Nat} (i : Nat) (h : i < zs s) : s[i]? = some 48 := by
  induction s generalizing i with
  | nil => simp [zs] at h
  | cons c s ih =>
    unfold zs at h
    split at h
    · rename_i e
      cases i with
      | zero => simp [e]
      | succ i => simpa using ih i (by omega)
    · omega
theorem okS_01 {s : List Nat} (h : ∀ d ∈ s, d = 48 ∨ d = 49) : s.all okS = true := by
  rw [List.all_eq_true]
  intro d hd
  exact decide_eq_true (h d hd)
theorem zs_piece {g : Nat} (hg : 0 < g) (s : List Nat) : zs (piece g ++ s) = (twos g).length - 1 := by
  obtain ⟨r, e⟩ := twos_head g hg
  unfold piece
  rw [List.append_assoc, zs_rep, e, List.cons_append, zs_ne (by decide)]
  simp
/-- a whole piece is read -/
theorem dec_piece {g : Nat} (hg : 0 < g) (n : Nat) (s : List Nat) (k : Nat) (last : Int) (found : List Int) :
    dec (n + 1) (piece g ++ s) k last found = dec n s (k + (piece g).length) (last + g) (found ++ [last + g]) := by
  have hp := twos_pos g
  have hl := piece_len g
  have hne : piece g ++ s ≠ [] := fun e => by have := congrArg List.length e; rw [List.length_append, hl, List.length_nil] at this; omega
  have e1 : 2 * ((twos g).length - 1) + 1 = (piece g).length := by omega
  have e2 : (piece g ++ s).drop ((twos g).length - 1) = twos g ++ s := by
    unfold piece
    rw [List.append_assoc, List.drop_append_of_le_length (by simp), List.drop_of_length_le (by simp)]
    rfl
  have e3 : ((piece g ++ s).drop ((twos g).length - 1)).take ((twos g).length - 1 + 1) = twos g := by
    rw [e2, Nat.sub_add_cancel hp, List.take_left]
  rw [dec, if_neg hne]
  simp only [zs_piece hg]
  rw [e1, e3, List.take_left, List.drop_left, okS_01 (piece_01 g), if_neg (by decide), if_neg (by omega), val_twos]
/-- the numbers that gaps tell -/
def runs (last : Int) : List Nat → List Int
  | [] => []
  | g :: gs => (last + g) :: runs (last + g) gs
def lastOf (last : Int) (gs : List Nat) : Int := last + (gs.sum : Nat)
theorem pieces_cons (g : Nat) (gs : List Nat) : pieces (g :: gs) = piece g ++ pieces gs := by unfold pieces; rw [List.map_cons, List.flatten_cons]
theorem dec_pieces : ∀ (gs : List Nat) (n : Nat) (s : List Nat) (k : Nat) (last : Int) (found : List Int), (∀ g ∈ gs, 0 < g) →
    dec (n + gs.length) (pieces gs ++ s) k last found = dec n s (k + (pieces gs).length) (lastOf last gs) (found ++ runs last gs)
  | [], n, s, k, last, found, _ => by simp [pieces, lastOf, runs]
  | g :: gs, n, s, k, last, found, h => by
    rw [List.length_cons, ← Nat.add_assoc, pieces_cons, List.append_assoc, dec_piece (h g List.mem_cons_self), dec_pieces gs n s _ _ _ fun x hx => h x (List.mem_cons_of_mem _ hx)]
    rw [List.length_append, ← Nat.add_assoc]
    congr 1
    · unfold lastOf; rw [List.sum_cons]; omega
    · simp [runs]
theorem dec_nil (n k : Nat) (last : Int) (found : List Int) : dec (n + 1) [] k last found = .ok found := by rw [dec, if_pos rfl]
theorem badAt_app {a b : List Nat} {c : Nat} (h : ∀ d ∈ a, d = 48 ∨ d = 49) (hc : okS c = false) : badAt (a ++ c :: b) = a.length := by
  induction a with
  | nil => rw [List.nil_append, badAt, if_neg (by rw [hc]; decide)]; rfl
  | cons d a ih =>
    have hd : okS d = true := decide_eq_true (h d List.mem_cons_self)
    rw [List.cons_append, badAt, if_pos hd, ih fun x hx => h x (List.mem_cons_of_mem _ hx)]
    rfl
/-- a beginning of a piece: noughts alone, or all of them and some digits -/
theorem prefix_piece {g : Nat} (hg : 0 < g) {p : List Nat} (hp : p <+: piece g) (hne : p.length < (piece g).length) : (∃ a, p = List.replicate a 48 ∧ a ≤ (twos g).length - 1) ∨
    ∃ q, p = List.replicate ((twos g).length - 1) 48 ++ 49 :: q ∧ q.length + 1 < (twos g).length := by
  have e : p = (piece g).take p.length := (List.prefix_iff_eq_take.1 hp)
  have hl := piece_len g
  have h0 := twos_pos g
  by_cases h : p.length ≤ (twos g).length - 1
  · refine .inl ⟨p.length, ?_, h⟩
    conv => lhs; rw [e]
    unfold piece
    rw [List.take_append_of_le_length (by simpa using h), List.take_replicate]
    congr 1; omega
  · obtain ⟨r, er⟩ := twos_head g hg
    refine .inr ⟨r.take (p.length - ((twos g).length - 1) - 1), ?_, ?_⟩
    · conv => lhs; rw [e]
      unfold piece
      rw [List.take_append, List.length_replicate, List.take_of_length_le (by simp; omega), er]
      congr 1
      obtain ⟨m, hm⟩ : ∃ m, p.length - ((49 :: r).length - 1) = m + 1 := ⟨p.length - ((49 :: r).length - 1) - 1, by rw [er] at h; omega⟩
      rw [hm, List.take_succ_cons]
      rfl
    · rw [List.length_take]
      omega
theorem rep_01 (a : Nat) : ∀ d ∈ List.replicate a 48, d = 48 ∨ d = 49 := fun d hd => .inl (List.eq_of_mem_replicate hd)
theorem sub_01 {g : Nat} {p : List Nat} (hp : p <+: piece g) : ∀ d ∈ p, d = 48 ∨ d = 49 := fun d hd => piece_01 g d (hp.subset hd)
/-- a piece that isn't whole -/
theorem dec_part {g : Nat} (hg : 0 < g) {p : List Nat} (hp : p <+: piece g) (hne : p.length < (piece g).length) (h0 : p ≠ []) (n k : Nat) (last : Int) (found : List Int) : dec (n + 1) p k last found = .err k := by
  have h01 := sub_01 hp
  rw [dec, if_neg h0]
  simp only
  rw [okS_01 (fun d hd => h01 d ((List.take_prefix _ _).subset hd)), if_neg (by decide), if_pos]
  rcases prefix_piece hg hp hne with ⟨a, rfl, ha⟩ | ⟨q, rfl, hq⟩
  · have : zs (List.replicate a 48) = a := by have := zs_rep a []; simpa [zs] using this
    rw [this]
    simp
  · rw [zs_rep, zs_ne (by decide), Nat.add_zero, List.drop_append_of_le_length (by simp), List.drop_of_length_le (by simp)]
    simp only [List.nil_append, List.length_take, List.length_cons]
    omega
/-- another sign -/
theorem dec_bad {g : Nat} (hg : 0 < g) {p : List Nat} (hp : p <+: piece g) (hne : p.length < (piece g).length) {c : Nat} (hc : okS c = false) (s : List Nat) (n k : Nat) (last : Int) (found : List Int) : dec (n + 1) (p ++ c :: s) k last found = .err (k + p.length) := by
  have h01 := sub_01 hp
  have hc48 : c ≠ 48 := fun e => by subst e; cases hc
  have key : ∃ b, (p ++ c :: s).take (2 * zs (p ++ c :: s) + 1) = p ++ c :: b := by
    have hlen : p.length < 2 * zs (p ++ c :: s) + 1 := by
      rcases prefix_piece hg hp hne with ⟨a, rfl, ha⟩ | ⟨q, rfl, hq⟩
      · rw [zs_rep, zs_ne hc48, List.length_replicate]; omega
      · rw [List.append_assoc, zs_rep, List.cons_append, zs_ne (by decide), List.length_append, List.length_replicate, List.length_cons]; omega
    refine ⟨s.take (2 * zs (p ++ c :: s) + 1 - p.length - 1), ?_⟩
    rw [List.take_append, List.take_of_length_le (by omega)]
    congr 1
    obtain ⟨m, hm⟩ : ∃ m, 2 * zs (p ++ c :: s) + 1 - p.length = m + 1 := ⟨2 * zs (p ++ c :: s) + 1 - p.length - 1, by omega⟩
    rw [hm, List.take_succ_cons]
    rfl
  obtain ⟨b, hb⟩ := key
  rw [dec, if_neg (by simp)]
  simp only
  rw [hb, if_pos, badAt_app h01 hc]
  rw [List.all_append, List.all_cons, hc]
  simp
theorem dec_bad0 {c : Nat} (hc : okS c = false) (s : List Nat) (n k : Nat) (last : Int) (found : List Int) : dec (n + 1) (c :: s) k last found = .err k := by
  have := dec_bad (g := 1) (by decide) (p := []) (List.nil_prefix) (by rw [piece_len, twos_lt (by decide)]; decide) hc s n k last found
  simpa using this
end K05
/-! Where a code is cut: the plain laws. -/
namespace K05
def Bg (gs : List Nat) (j : Nat) : Nat := (pieces (gs.take j)).length
theorem Bg_zero (gs : List Nat) : Bg gs 0 = 0 := by unfold Bg; simp [pieces]
theorem Bg_cons (g : Nat) (gs : List Nat) (j : Nat) : Bg (g :: gs) (j + 1) = (piece g).length + Bg gs j := by unfold Bg; rw [List.take_succ_cons, pieces_cons, List.length_append]
theorem Bg_all {gs : List Nat} {j : Nat} (h : gs.length ≤ j) : Bg gs j = (pieces gs).length := by unfold Bg; rw [List.take_of_length_le h]
theorem pieces_app (a b : List Nat) : pieces (a ++ b) = pieces a ++ pieces b := by unfold pieces; rw [List.map_append, List.flatten_append]
theorem Bg_succ {gs : List Nat} {j g : Nat} (h : gs[j]? = some g) : Bg gs (j + 1) = Bg gs j + (piece g).length := by
  unfold Bg
  rw [List.take_succ, h, pieces_app, List.length_append]
  simp [pieces]
theorem piece_pos (g : Nat) : 0 < (piece g).length := by rw [piece_len]; have := twos_pos g; omega
theorem Bg_mono {gs : List Nat} {i j : Nat} (h : i ≤ j) : Bg gs i ≤ Bg gs j := by
  induction j with
  | zero => rw [Nat.le_zero.1 h]; exact Nat.le_refl _
  | succ j ih =>
    by_cases q : i ≤ j
    · refine Nat.le_trans (ih q) ?_
      cases e : gs[j]? with
      | none =>
        have hl : gs.length ≤ j := by simpa using e
        rw [Bg_all hl, Bg_all (Nat.le_succ_of_le hl)]
        exact Nat.le_refl _
      | some g => rw [Bg_succ e]; omega
    · have : i = j + 1 := by omega
      rw [this]; exact Nat.le_refl _
/-- where a cut falls -/
structure Cut (gs : List Nat) (cut w : Nat) (p : List Nat) : Prop where
  le : w ≤ gs.length
  tk : (pieces gs).take cut = pieces (gs.take w) ++ p
  at_ : cut = Bg gs w + p.length
  or_ : (w = gs.length ∧ p = []) ∨ ∃ g, gs[w]? = some g ∧ p <+: piece g ∧ p.length < (piece g).length
theorem cut_ex : ∀ (gs : List Nat) (cut : Nat), cut ≤ (pieces gs).length → ∃ w p, Cut gs cut w p
  | [], cut, h => by
    have : cut = 0 := by simpa [pieces] using h
    subst this
    exact ⟨0, [], by simp, by simp [pieces], by rw [Bg_zero]; rfl, .inl ⟨rfl, rfl⟩⟩
  | g :: gs, cut, h => by
    rw [pieces_cons, List.length_append] at h
    by_cases hc : cut < (piece g).length
    · refine ⟨0, (piece g).take cut, by simp, ?_, ?_, .inr ⟨g, rfl, List.take_prefix _ _, by rw [List.length_take]; omega⟩⟩
      · rw [pieces_cons, List.take_append_of_le_length (by omega)]
        simp [pieces]
      · rw [Bg_zero, List.length_take]; omega
    · obtain ⟨w, p, hw⟩ := cut_ex gs (cut - (piece g).length) (by omega)
      refine ⟨w + 1, p, by have := hw.le; simp; omega, ?_, ?_, ?_⟩
      · rw [pieces_cons, List.take_append, List.take_of_length_le (by omega), hw.tk, List.take_succ_cons, pieces_cons, List.append_assoc]
      · rw [Bg_cons]; have := hw.at_; omega
      · rcases hw.or_ with ⟨rfl, hp⟩ | ⟨g', h1, h2, h3⟩
        · exact .inl ⟨rfl, hp⟩
        · exact .inr ⟨g', by simpa using h1, h2, h3⟩
variable {gs : List Nat} {cut w : Nat} {p : List Nat}
theorem Cut.before (c : Cut gs cut w p) {k : Nat} (h : k < gs.length) : Bg gs (k + 1) ≤ cut ↔ k < w := by
  constructor
  · intro q
    refine Classical.byContradiction fun hn => ?_
    rcases c.or_ with ⟨e, _⟩ | ⟨g, h1, _, h3⟩
    · omega
    · have e1 := Bg_succ h1
      have e2 := Bg_mono (gs := gs) (i := w + 1) (j := k + 1) (by omega)
      have := c.at_
      omega
  · intro q
    have e2 := Bg_mono (gs := gs) (i := k + 1) (j := w) (by omega)
    have := c.at_
    omega
theorem filter_lt_len (w : Nat) : ∀ n, w ≤ n → ((List.range n).filter fun k => decide (k < w)).length = w
  | 0, h => by simp; omega
  | n + 1, h => by
    rw [List.range_succ, List.filter_append, List.length_append]
    by_cases q : w ≤ n
    · rw [filter_lt_len w n q, List.filter_cons_of_neg (by simp; omega)]; rfl
    · have e : w = n + 1 := by omega
      rw [List.filter_eq_self.2 (fun k hk => by have := List.mem_range.1 hk; simp; omega), List.filter_cons_of_pos (by simp; omega)]
      simp [e]
theorem Cut.count (c : Cut gs cut w p) : ((List.range gs.length).filter fun k => decide (Bg gs (k + 1) ≤ cut)).length = w := by
  rw [List.filter_congr (q := fun k => decide (k < w)) fun k hk => by rw [decide_eq_decide]; exact c.before (List.mem_range.1 hk)]
  exact filter_lt_len w _ c.le
def begs (gs : List Nat) : List Nat := (List.range gs.length).map (Bg gs)
theorem Cut.mem (c : Cut gs cut w p) : cut ∈ begs gs ++ [(pieces gs).length] ↔ p = [] := by
  constructor
  · intro h
    obtain ⟨j, hj, e⟩ : ∃ j, j ≤ gs.length ∧ cut = Bg gs j := by
      rcases List.mem_append.1 h with z | z
      · obtain ⟨j, hj, e⟩ := List.mem_map.1 z
        exact ⟨j, by have := List.mem_range.1 hj; omega, e.symm⟩
      · exact ⟨gs.length, Nat.le_refl _, by rw [Bg_all (Nat.le_refl _)]; simpa using z⟩
    refine Classical.byContradiction fun hp => ?_
    have hp0 : 0 < p.length := List.length_pos_iff.2 hp
    rcases c.or_ with ⟨_, e2⟩ | ⟨g, h1, _, h3⟩
    · exact hp e2
    · have e1 := Bg_succ h1
      have := c.at_
      by_cases q : j ≤ w
      · have := Bg_mono (gs := gs) q; omega
      · have := Bg_mono (gs := gs) (i := w + 1) (j := j) (by omega); omega
  · intro h
    subst h
    have e := c.at_
    rw [List.length_nil, Nat.add_zero] at e
    by_cases q : w < gs.length
    · exact List.mem_append_left _ (List.mem_map.2 ⟨w, List.mem_range.2 q, e.symm⟩)
    · rw [Bg_all (by omega)] at e
      exact List.mem_append_right _ (by simp [e])
end K05
set_option maxRecDepth 100000
set_option maxHeartbeats 1000000
namespace Law_indexhall_k05_rows_coded
open PySem L2 Den K05
theorem kt_tt : kitB "tuple" "tuple" = some true := by decide +kernel
theorem kt_ii : kitB "int" "int" = some true := by decide +kernel
theorem kt_ib : kitB "int" "bool" = some false := by decide +kernel
/-! ### rows -/
def rowB (xs : List Int) : Bool := (xs.map fun z => decide (0 ≤ z)).all id && ((List.range ((xs.length : Int) - 1).toNat).map fun k => decide (xs.getD k 0 < xs.getD (k + 1) 0)).all id
theorem isrow_ev (xs : List Int) (h : List O) (hx : xs.length ≤ 1000) : den_is_row [T xs] h = .ok (.bl (rowB xs)) h := by
  have eF : frzE h [some (T xs), none, none] = [some (T xs), none, none] := by
    unfold frzE
    rw [List.map_cons]
    show [(frz h 6 (T xs)), none, none] = _
    rw [frz_T]
  have g0 : mIsiV "tuple" (mVar 0) [some (T xs), none, none] h = .ok (.bl true) h := isiV_of (x := T xs) rfl (by show ("tuple" : String) ≠ "?"; decide) kt_tt
  have g1 : mGenB false 2 (mGItems (mVar 0)) (mAndB (mIsi "int" (mVar 2)) (mAndB (mNotB (mIsi "bool" (mVar 2))) (mOp oGeI (mVar 2) (mC (.int 0))))) [some (T xs), none, none] h = .ok (.bl ((xs.map fun z => decide (0 ≤ z)).all id)) h := by
    refine genB_ev (any := false) (ap_GI rfl) fun z hz => elt_of (fw := .int z) (h' := []) rfl ?_
    rw [eF]
    have i1 : mIsi "int" (mVar 2) [some (T xs), none, some (W.int z)] [] = .ok (.bl true) [] := isi_of (x := .int z) rfl kt_ii
    have i2 : mIsi "bool" (mVar 2) [some (T xs), none, some (W.int z)] [] = .ok (.bl false) [] := isi_of (x := .int z) rfl kt_ib
    show mAndB _ _ [some (T xs), none, some (W.int z)] [] = _
    simp (disch := first | omega | (simp only [List.length_append, List.length_cons, List.length_nil, List.length_set, List.length_drop, List.length_take, List.length_map]; omega)) only [ap_AndB, ap_NotB, i1, i2, Bool.not_false, gei_ii, sv_nx, sv_rt, sv_ct, rnd_nx, rnd_ct, Int.toNat_natCast, ne_eq, eq_self, not_true_eq_false, not_false_eq_true, mVar_z, Nat.reduceAdd, Nat.zero_add, Int.zero_add, Int.reduceAdd, Int.reduceSub, Int.reduceNeg, ap_Lst, ap_Tup, nil_app, cons_app, List.length_append, lst_last, mVar_s, ok_bnd, ok_stm, exc_bnd, ev_okE, exc_stm, ap_C, ap_Op, ap_Un, ap_B, ap_Chain, ap_asB, ap_And, ap_Or, ap_Not, ap_AndV, ap_OrV, ap_NotV, ap_If, ap_Nil, ap_Cons, ap_CB, ap_Meth, ap_Part, ap_NoPart, ap_Sl, ap_Yes, add_ii, add_ss, sub_ii, neg_i, mul_ii, fdiv_ii, mod_ii, eq_ii, ne_ii, eq_ss, ne_ss, lt_ii, le_ii, gt_ii, ge_ii, lt_ss, gt_ss, le_ss, ge_ss, len_s, len_t, abs_i, int_i, int_b, max_ii, min_ii, ix_s, ixL_0, ixL_1, ixL_2, ixL_3, ixL_n, ixL_i, ixL_st, setL_n, setL_i, List.length_map, List.length_set, ix_r, getL_r, ix_tL, withL_s, setL_0, setL_1, setL_2, set_r, app_r, lst_z, lst_s, iadd_ii, tuple_r, mul_ri, sl_s, sl_rol, sl_t, sl_r, cut_from, cut_to, ap_Seq, nx_seq, rt_seq, ct_seq, bk_seq, exc_seq, ap_Raise, ap_Skip, ap_Brk, ap_Cnt, ap_Drop, ap_Ret, ap_IfS, ap_Set, ap_Ts, ap_AsgT, tgT_t, tgTs_n, tgTs_c, ap_Aug, ap_SetI, ap_AugI, mFor_ap, ap_Rng1, ap_Rng2, rng1_ok, rng2_ok, ap_Iter, src_t, src_s, src_rL, ap_Comp, wipe_n, wipe_c, len_cons, len_nil, zip_cc, zip_nn, foldl_c, foldl_n, set_z, set_s, ite_t, ite_f, ite_T, ite_F, sing_lt, sing_eq, ty_r, ty_s, isS, cut_mid, decide_eq_true_eq, if_pos, if_neg]
  have g2 : mGenB false 1 (mItemsR1 (mCons (mOp oSub (mCB oLen (mCons (mVar 0) (mNil))) (mC (.int 1))) (mNil))) (mOp oLt (mOp oIx (mVar 0) (mVar 1)) (mOp oIx (mVar 0) (mOp oAddS (mVar 1) (mC (.int 1))))) [some (T xs), none, none] h = .ok (.bl (((List.range ((xs.length : Int) - 1).toNat).map fun k => decide (xs.getD k 0 < xs.getD (k + 1) 0)).all id)) h := by
    refine genB_ev (any := false) (ap_R1i (j := (xs.length : Int) - 1) (by simp (disch := first | omega | (simp only [List.length_append, List.length_cons, List.length_nil, List.length_set, List.length_drop, List.length_take, List.length_map]; omega)) only [mVar_z, Nat.reduceAdd, Nat.zero_add, Int.zero_add, Int.reduceAdd, Int.reduceSub, Int.reduceNeg, ap_Lst, ap_Tup, nil_app, cons_app, List.length_append, lst_last, mVar_s, ok_bnd, ok_stm, exc_bnd, ev_okE, exc_stm, ap_C, ap_Op, ap_Un, ap_B, ap_Chain, ap_asB, ap_And, ap_Or, ap_Not, ap_AndV, ap_OrV, ap_NotV, ap_If, ap_Nil, ap_Cons, ap_CB, ap_Meth, ap_Part, ap_NoPart, ap_Sl, ap_Yes, add_ii, add_ss, sub_ii, neg_i, mul_ii, fdiv_ii, mod_ii, eq_ii, ne_ii, eq_ss, ne_ss, lt_ii, le_ii, gt_ii, ge_ii, lt_ss, gt_ss, le_ss, ge_ss, len_s, len_t, abs_i, int_i, int_b, max_ii, min_ii, ix_s, ixL_0, ixL_1, ixL_2, ixL_3, ixL_n, ixL_i, ixL_st, setL_n, setL_i, List.length_map, List.length_set, ix_r, getL_r, ix_tL, withL_s, setL_0, setL_1, setL_2, set_r, app_r, lst_z, lst_s, iadd_ii, tuple_r, mul_ri, sl_s, sl_rol, sl_t, sl_r, cut_from, cut_to, ap_Seq, nx_seq, rt_seq, ct_seq, bk_seq, exc_seq, ap_Raise, ap_Skip, ap_Brk, ap_Cnt, ap_Drop, ap_Ret, ap_IfS, ap_Set, ap_Ts, ap_AsgT, tgT_t, tgTs_n, tgTs_c, ap_Aug, ap_SetI, ap_AugI, mFor_ap, ap_Rng1, ap_Rng2, rng1_ok, rng2_ok, ap_Iter, src_t, src_s, src_rL, ap_Comp, wipe_n, wipe_c, len_cons, len_nil, zip_cc, zip_nn, foldl_c, foldl_n, set_z, set_s, ite_t, ite_f, ite_T, ite_F, sing_lt, sing_eq, ty_r, ty_s, isS, cut_mid, decide_eq_true_eq, if_pos, if_neg]) (by omega) (by omega)) fun k hk => elt_of (fw := .int k) (h' := []) rfl ?_
    have hk := List.mem_range.1 hk
    rw [eF]
    show mOp _ _ _ [some (T xs), some (W.int k), none] [] = _
    have e1 : ((k : Int) + 1).toNat = k + 1 := by omega
    simp (disch := first | omega | (simp only [List.length_append, List.length_cons, List.length_nil, List.length_set, List.length_drop, List.length_take, List.length_map]; omega)) only [adds_ii, e1, sv_nx, sv_rt, sv_ct, rnd_nx, rnd_ct, Int.toNat_natCast, ne_eq, eq_self, not_true_eq_false, not_false_eq_true, mVar_z, Nat.reduceAdd, Nat.zero_add, Int.zero_add, Int.reduceAdd, Int.reduceSub, Int.reduceNeg, ap_Lst, ap_Tup, nil_app, cons_app, List.length_append, lst_last, mVar_s, ok_bnd, ok_stm, exc_bnd, ev_okE, exc_stm, ap_C, ap_Op, ap_Un, ap_B, ap_Chain, ap_asB, ap_And, ap_Or, ap_Not, ap_AndV, ap_OrV, ap_NotV, ap_If, ap_Nil, ap_Cons, ap_CB, ap_Meth, ap_Part, ap_NoPart, ap_Sl, ap_Yes, add_ii, add_ss, sub_ii, neg_i, mul_ii, fdiv_ii, mod_ii, eq_ii, ne_ii, eq_ss, ne_ss, lt_ii, le_ii, gt_ii, ge_ii, lt_ss, gt_ss, le_ss, ge_ss, len_s, len_t, abs_i, int_i, int_b, max_ii, min_ii, ix_s, ixL_0, ixL_1, ixL_2, ixL_3, ixL_n, ixL_i, ixL_st, setL_n, setL_i, List.length_map, List.length_set, ix_r, getL_r, ix_tL, withL_s, setL_0, setL_1, setL_2, set_r, app_r, lst_z, lst_s, iadd_ii, tuple_r, mul_ri, sl_s, sl_rol, sl_t, sl_r, cut_from, cut_to, ap_Seq, nx_seq, rt_seq, ct_seq, bk_seq, exc_seq, ap_Raise, ap_Skip, ap_Brk, ap_Cnt, ap_Drop, ap_Ret, ap_IfS, ap_Set, ap_Ts, ap_AsgT, tgT_t, tgTs_n, tgTs_c, ap_Aug, ap_SetI, ap_AugI, mFor_ap, ap_Rng1, ap_Rng2, rng1_ok, rng2_ok, ap_Iter, src_t, src_s, src_rL, ap_Comp, wipe_n, wipe_c, len_cons, len_nil, zip_cc, zip_nn, foldl_c, foldl_n, set_z, set_s, ite_t, ite_f, ite_T, ite_F, sing_lt, sing_eq, ty_r, ty_s, isS, cut_mid, decide_eq_true_eq, if_pos, if_neg]
  unfold den_is_row mFun body_is_row
  simp only [startE, List.map_cons, List.map_nil, List.length_cons, List.length_nil, List.cons_append, List.nil_append, Nat.zero_add, Nat.reduceAdd, Nat.reduceSub, List.replicate_succ, List.replicate_zero]
  have t0 := ap_TruB g0
  have t1 := ap_TruB g1
  unfold rowB
  cases hb : (xs.map fun z => decide (0 ≤ z)).all id with
  | false =>
    rw [hb] at t1
    simp (disch := first | omega | (simp only [List.length_append, List.length_cons, List.length_nil, List.length_set, List.length_drop, List.length_take, List.length_map]; omega)) only [t0, t1, Bool.not_true, Bool.not_false, Bool.false_and, mVar_z, Nat.reduceAdd, Nat.zero_add, Int.zero_add, Int.reduceAdd, Int.reduceSub, Int.reduceNeg, ap_Lst, ap_Tup, nil_app, cons_app, List.length_append, lst_last, mVar_s, ok_bnd, ok_stm, exc_bnd, ev_okE, exc_stm, ap_C, ap_Op, ap_Un, ap_B, ap_Chain, ap_asB, ap_And, ap_Or, ap_Not, ap_AndV, ap_OrV, ap_NotV, ap_If, ap_Nil, ap_Cons, ap_CB, ap_Meth, ap_Part, ap_NoPart, ap_Sl, ap_Yes, add_ii, add_ss, sub_ii, neg_i, mul_ii, fdiv_ii, mod_ii, eq_ii, ne_ii, eq_ss, ne_ss, lt_ii, le_ii, gt_ii, ge_ii, lt_ss, gt_ss, le_ss, ge_ss, len_s, len_t, abs_i, int_i, int_b, max_ii, min_ii, ix_s, ixL_0, ixL_1, ixL_2, ixL_3, ixL_n, ixL_i, ixL_st, setL_n, setL_i, List.length_map, List.length_set, ix_r, getL_r, ix_tL, withL_s, setL_0, setL_1, setL_2, set_r, app_r, lst_z, lst_s, iadd_ii, tuple_r, mul_ri, sl_s, sl_rol, sl_t, sl_r, cut_from, cut_to, ap_Seq, nx_seq, rt_seq, ct_seq, bk_seq, exc_seq, ap_Raise, ap_Skip, ap_Brk, ap_Cnt, ap_Drop, ap_Ret, ap_IfS, ap_Set, ap_Ts, ap_AsgT, tgT_t, tgTs_n, tgTs_c, ap_Aug, ap_SetI, ap_AugI, mFor_ap, ap_Rng1, ap_Rng2, rng1_ok, rng2_ok, ap_Iter, src_t, src_s, src_rL, ap_Comp, wipe_n, wipe_c, len_cons, len_nil, zip_cc, zip_nn, foldl_c, foldl_n, set_z, set_s, ite_t, ite_f, ite_T, ite_F, sing_lt, sing_eq, ty_r, ty_s, isS, cut_mid, decide_eq_true_eq, if_pos, if_neg]
  | true =>
    rw [hb] at t1
    simp (disch := first | omega | (simp only [List.length_append, List.length_cons, List.length_nil, List.length_set, List.length_drop, List.length_take, List.length_map]; omega)) only [t0, t1, Bool.not_true, Bool.not_false, g2, Bool.true_and, mVar_z, Nat.reduceAdd, Nat.zero_add, Int.zero_add, Int.reduceAdd, Int.reduceSub, Int.reduceNeg, ap_Lst, ap_Tup, nil_app, cons_app, List.length_append, lst_last, mVar_s, ok_bnd, ok_stm, exc_bnd, ev_okE, exc_stm, ap_C, ap_Op, ap_Un, ap_B, ap_Chain, ap_asB, ap_And, ap_Or, ap_Not, ap_AndV, ap_OrV, ap_NotV, ap_If, ap_Nil, ap_Cons, ap_CB, ap_Meth, ap_Part, ap_NoPart, ap_Sl, ap_Yes, add_ii, add_ss, sub_ii, neg_i, mul_ii, fdiv_ii, mod_ii, eq_ii, ne_ii, eq_ss, ne_ss, lt_ii, le_ii, gt_ii, ge_ii, lt_ss, gt_ss, le_ss, ge_ss, len_s, len_t, abs_i, int_i, int_b, max_ii, min_ii, ix_s, ixL_0, ixL_1, ixL_2, ixL_3, ixL_n, ixL_i, ixL_st, setL_n, setL_i, List.length_map, List.length_set, ix_r, getL_r, ix_tL, withL_s, setL_0, setL_1, setL_2, set_r, app_r, lst_z, lst_s, iadd_ii, tuple_r, mul_ri, sl_s, sl_rol, sl_t, sl_r, cut_from, cut_to, ap_Seq, nx_seq, rt_seq, ct_seq, bk_seq, exc_seq, ap_Raise, ap_Skip, ap_Brk, ap_Cnt, ap_Drop, ap_Ret, ap_IfS, ap_Set, ap_Ts, ap_AsgT, tgT_t, tgTs_n, tgTs_c, ap_Aug, ap_SetI, ap_AugI, mFor_ap, ap_Rng1, ap_Rng2, rng1_ok, rng2_ok, ap_Iter, src_t, src_s, src_rL, ap_Comp, wipe_n, wipe_c, len_cons, len_nil, zip_cc, zip_nn, foldl_c, foldl_n, set_z, set_s, ite_t, ite_f, ite_T, ite_F, sing_lt, sing_eq, ty_r, ty_s, isS, cut_mid, decide_eq_true_eq, if_pos, if_neg]
theorem rowB_ris {xs : List Int} (r : Rsg xs) (hb : ∀ z ∈ xs, 0 ≤ z) : rowB xs = true := by
  unfold rowB
  rw [Bool.and_eq_true, List.all_eq_true, List.all_eq_true]
  refine ⟨fun b hm => ?_, fun b hm => ?_⟩
  · obtain ⟨z, hz, rfl⟩ := List.mem_map.1 hm
    simpa using hb z hz
  · obtain ⟨k, hk, rfl⟩ := List.mem_map.1 hm
    have hk := List.mem_range.1 hk
    have := List.pairwise_iff_getElem.1 r k (k + 1) (by omega) (by omega) (by omega)
    rw [List.getD_eq_getElem?_getD, List.getElem?_eq_getElem (by omega), List.getD_eq_getElem?_getD, List.getElem?_eq_getElem (by omega)]
    simpa using this
theorem pureT (xs : List Int) : pureWs [T xs] = true := by
  unfold pureWs
  have : pureW (T xs) = true := by unfold pureW; exact pure_ints xs
  rw [this]; rfl
theorem isrow_all (xs : List Int) (hx : xs.length ≤ 1000) (h : List O) : pureRun den_is_row 1 [T xs] h = .ok (.bl (rowB xs)) h := by
  unfold pureRun
  rw [if_pos ⟨rfl, pureT xs⟩, isrow_ev xs [] hx]
  rfl
theorem check_all {xs : List Int} (r : Rsg xs) (hb : ∀ z ∈ xs, 0 ≤ z) (hx : xs.length ≤ 1000) (h : List O) : pureRun den_check_row 1 [T xs] h = .ok .non h := by
  have e : den_check_row [T xs] [] = .ok .non [] := by
    unfold den_check_row mFun body_check_row
    simp only [startE, List.map_cons, List.map_nil, List.length_cons, List.length_nil, List.cons_append, List.nil_append, Nat.zero_add, Nat.reduceAdd, Nat.reduceSub, List.replicate_succ, List.replicate_zero]
    have e1 := isrow_all xs hx []
    rw [rowB_ris r hb] at e1
    simp (disch := first | omega | (simp only [List.length_append, List.length_cons, List.length_nil, List.length_set, List.length_drop, List.length_take, List.length_map]; omega)) only [e1, ap_Tru, tru_bl, Bool.not_true, sv_nx, sv_rt, sv_ct, rnd_nx, rnd_ct, Int.toNat_natCast, ne_eq, eq_self, not_true_eq_false, not_false_eq_true, mVar_z, Nat.reduceAdd, Nat.zero_add, Int.zero_add, Int.reduceAdd, Int.reduceSub, Int.reduceNeg, ap_Lst, ap_Tup, nil_app, cons_app, List.length_append, lst_last, mVar_s, ok_bnd, ok_stm, exc_bnd, ev_okE, exc_stm, ap_C, ap_Op, ap_Un, ap_B, ap_Chain, ap_asB, ap_And, ap_Or, ap_Not, ap_AndV, ap_OrV, ap_NotV, ap_If, ap_Nil, ap_Cons, ap_CB, ap_Meth, ap_Part, ap_NoPart, ap_Sl, ap_Yes, add_ii, add_ss, sub_ii, neg_i, mul_ii, fdiv_ii, mod_ii, eq_ii, ne_ii, eq_ss, ne_ss, lt_ii, le_ii, gt_ii, ge_ii, lt_ss, gt_ss, le_ss, ge_ss, len_s, len_t, abs_i, int_i, int_b, max_ii, min_ii, ix_s, ixL_0, ixL_1, ixL_2, ixL_3, ixL_n, ixL_i, ixL_st, setL_n, setL_i, List.length_map, List.length_set, ix_r, getL_r, ix_tL, withL_s, setL_0, setL_1, setL_2, set_r, app_r, lst_z, lst_s, iadd_ii, tuple_r, mul_ri, sl_s, sl_rol, sl_t, sl_r, cut_from, cut_to, ap_Seq, nx_seq, rt_seq, ct_seq, bk_seq, exc_seq, ap_Raise, ap_Skip, ap_Brk, ap_Cnt, ap_Drop, ap_Ret, ap_IfS, ap_Set, ap_Ts, ap_AsgT, tgT_t, tgTs_n, tgTs_c, ap_Aug, ap_SetI, ap_AugI, mFor_ap, ap_Rng1, ap_Rng2, rng1_ok, rng2_ok, ap_Iter, src_t, src_s, src_rL, ap_Comp, wipe_n, wipe_c, len_cons, len_nil, zip_cc, zip_nn, foldl_c, foldl_n, set_z, set_s, ite_t, ite_f, ite_T, ite_F, sing_lt, sing_eq, ty_r, ty_s, isS, cut_mid, decide_eq_true_eq, if_pos, if_neg]
  unfold pureRun
  rw [if_pos ⟨rfl, pureT xs⟩, e]
  rfl
theorem check_21 (h : List O) : pureRun den_check_row 1 [.tup [.int 2, .int 1]] h = .exc 1 none h := by
  have e : den_check_row [.tup [.int 2, .int 1]] [] = .exc 1 none [] := by
    unfold den_check_row mFun body_check_row
    simp only [startE, List.map_cons, List.map_nil, List.length_cons, List.length_nil, List.cons_append, List.nil_append, Nat.zero_add, Nat.reduceAdd, Nat.reduceSub, List.replicate_succ, List.replicate_zero]
    have e1 := isrow_all [2, 1] (by decide) []
    rw [show rowB [2, 1] = false by decide] at e1
    have e1 : pureRun den_is_row 1 [.tup [.int 2, .int 1]] [] = .ok (.bl false) [] := e1
    simp (disch := first | omega | (simp only [List.length_append, List.length_cons, List.length_nil, List.length_set, List.length_drop, List.length_take, List.length_map]; omega)) only [e1, ap_Tru, tru_bl, Bool.not_false, sv_nx, sv_rt, sv_ct, rnd_nx, rnd_ct, Int.toNat_natCast, ne_eq, eq_self, not_true_eq_false, not_false_eq_true, mVar_z, Nat.reduceAdd, Nat.zero_add, Int.zero_add, Int.reduceAdd, Int.reduceSub, Int.reduceNeg, ap_Lst, ap_Tup, nil_app, cons_app, List.length_append, lst_last, mVar_s, ok_bnd, ok_stm, exc_bnd, ev_okE, exc_stm, ap_C, ap_Op, ap_Un, ap_B, ap_Chain, ap_asB, ap_And, ap_Or, ap_Not, ap_AndV, ap_OrV, ap_NotV, ap_If, ap_Nil, ap_Cons, ap_CB, ap_Meth, ap_Part, ap_NoPart, ap_Sl, ap_Yes, add_ii, add_ss, sub_ii, neg_i, mul_ii, fdiv_ii, mod_ii, eq_ii, ne_ii, eq_ss, ne_ss, lt_ii, le_ii, gt_ii, ge_ii, lt_ss, gt_ss, le_ss, ge_ss, len_s, len_t, abs_i, int_i, int_b, max_ii, min_ii, ix_s, ixL_0, ixL_1, ixL_2, ixL_3, ixL_n, ixL_i, ixL_st, setL_n, setL_i, List.length_map, List.length_set, ix_r, getL_r, ix_tL, withL_s, setL_0, setL_1, setL_2, set_r, app_r, lst_z, lst_s, iadd_ii, tuple_r, mul_ri, sl_s, sl_rol, sl_t, sl_r, cut_from, cut_to, ap_Seq, nx_seq, rt_seq, ct_seq, bk_seq, exc_seq, ap_Raise, ap_Skip, ap_Brk, ap_Cnt, ap_Drop, ap_Ret, ap_IfS, ap_Set, ap_Ts, ap_AsgT, tgT_t, tgTs_n, tgTs_c, ap_Aug, ap_SetI, ap_AugI, mFor_ap, ap_Rng1, ap_Rng2, rng1_ok, rng2_ok, ap_Iter, src_t, src_s, src_rL, ap_Comp, wipe_n, wipe_c, len_cons, len_nil, zip_cc, zip_nn, foldl_c, foldl_n, set_z, set_s, ite_t, ite_f, ite_T, ite_F, sing_lt, sing_eq, ty_r, ty_s, isS, cut_mid, decide_eq_true_eq, if_pos, if_neg]
  unfold pureRun
  rw [if_pos ⟨rfl, rfl⟩, e]
/-! ### digits of two -/
def BB : Nat := 1048576
theorem twos_small {g : Nat} (h : g < BB) : (twos g).length ≤ 21 := twos_len2 20 g (by unfold BB at h; omega)
theorem ix01 {r : Nat} {h : List O} (hr : r < 2) : oIx (.str [48, 49]) (.int (r : Nat)) h = .ok (.str [48 + r]) h := by
  have : r = 0 ∨ r = 1 := by omega
  rcases this with rfl | rfl
  · rw [ix_s (by omega) (by decide) (by decide)]; rfl
  · rw [ix_s (by omega) (by decide) (by decide)]; rfl
def ml (n : Nat) : Nat := if n = 0 then 0 else (twos n).length
theorem ml_half {n : Nat} (h : 0 < n) : ml (n / 2) < ml n := by
  have e : ml n = (twos n).length := by unfold ml; rw [if_neg (by omega)]
  rw [e]
  by_cases h2 : n < 2
  · have : n / 2 = 0 := by omega
    rw [this]
    exact twos_pos n
  · have e2 : ml (n / 2) = (twos (n / 2)).length := by unfold ml; rw [if_neg (by omega)]
    rw [e2, twos_ge h2, List.length_append]; simp
theorem ml_small {n : Nat} (h : n < BB) : ml n ≤ 21 := by
  unfold ml
  split
  · omega
  · exact twos_small h
theorem intwos_sv (g : Nat) (hg : 0 < g) (hB : g < BB) : Sv (body_in_twos (startE 2 [.int (g : Nat)]) []) (fun o => o = .rt (.str (twos g)) []) := by
  unfold body_in_twos
  simp only [startE, List.map_cons, List.map_nil, List.length_cons, List.length_nil, List.cons_append, List.nil_append, Nat.zero_add, Nat.reduceAdd, Nat.reduceSub, List.replicate_succ, List.replicate_zero]
  simp (disch := first | omega | (simp only [List.length_append, List.length_cons, List.length_nil, List.length_set, List.length_drop, List.length_take, List.length_map]; omega)) only [sv_nx, sv_rt, sv_ct, rnd_nx, rnd_ct, Int.toNat_natCast, ne_eq, eq_self, not_true_eq_false, not_false_eq_true, mVar_z, Nat.reduceAdd, Nat.zero_add, Int.zero_add, Int.reduceAdd, Int.reduceSub, Int.reduceNeg, ap_Lst, ap_Tup, nil_app, cons_app, List.length_append, lst_last, mVar_s, ok_bnd, ok_stm, exc_bnd, ev_okE, exc_stm, ap_C, ap_Op, ap_Un, ap_B, ap_Chain, ap_asB, ap_And, ap_Or, ap_Not, ap_AndV, ap_OrV, ap_NotV, ap_If, ap_Nil, ap_Cons, ap_CB, ap_Meth, ap_Part, ap_NoPart, ap_Sl, ap_Yes, add_ii, add_ss, sub_ii, neg_i, mul_ii, fdiv_ii, mod_ii, eq_ii, ne_ii, eq_ss, ne_ss, lt_ii, le_ii, gt_ii, ge_ii, lt_ss, gt_ss, le_ss, ge_ss, len_s, len_t, abs_i, int_i, int_b, max_ii, min_ii, ix_s, ixL_0, ixL_1, ixL_2, ixL_3, ixL_n, ixL_i, ixL_st, setL_n, setL_i, List.length_map, List.length_set, ix_r, getL_r, ix_tL, withL_s, setL_0, setL_1, setL_2, set_r, app_r, lst_z, lst_s, iadd_ii, tuple_r, mul_ri, sl_s, sl_rol, sl_t, sl_r, cut_from, cut_to, ap_Seq, nx_seq, rt_seq, ct_seq, bk_seq, exc_seq, ap_Raise, ap_Skip, ap_Brk, ap_Cnt, ap_Drop, ap_Ret, ap_IfS, ap_Set, ap_Ts, ap_AsgT, tgT_t, tgTs_n, tgTs_c, ap_Aug, ap_SetI, ap_AugI, mFor_ap, ap_Rng1, ap_Rng2, rng1_ok, rng2_ok, ap_Iter, src_t, src_s, src_rL, ap_Comp, wipe_n, wipe_c, len_cons, len_nil, zip_cc, zip_nn, foldl_c, foldl_n, set_z, set_s, ite_t, ite_f, ite_T, ite_F, sing_lt, sing_eq, ty_r, ty_s, isS, cut_mid, decide_eq_true_eq, if_pos, if_neg]
  have hfd : ∀ (n : Nat) (h : List O), oIfdiv (.int (n : Nat)) (.int 2) h = .ok (.int ((n / 2 : Nat))) h := fun n h => by
    show (if (0 : Int) < 2 ∧ (2 : Int) < 1073741824 then Out.ok (W.int ((n : Int) / 2)) h else .bad) = _
    rw [if_pos (by omega)]
    rfl
  refine sv_cut (R' := fun o => o = SOut.nx [some (.int 0), some (.str (twos g))] []) ?_ ?_
  · have hml := ml_small hB
    refine mWhile_sv (ml g) (fun m e h => ∃ (n : Nat) (acc : List Nat), e = [some (.int (n : Nat)), some (.str acc)] ∧ h = [] ∧ m = ml n ∧ acc.length ≤ 21 ∧ ((n = 0 ∧ acc = twos g) ∨ (0 < n ∧ twos n ++ acc = twos g))) (by omega) ⟨g, [], rfl, rfl, rfl, by simp, .inr ⟨hg, by simp⟩⟩ ?_
    rintro m e h ⟨n, acc, rfl, rfl, hm, hl, hc⟩
    by_cases h0 : n = 0
    · subst h0
      rcases hc with ⟨_, rfl⟩ | ⟨hc, _⟩
      · have e0 : ¬ (((0 : Nat) : Int) > 0) := by omega
        have e1 : decide ((0 : Int) < ((0 : Nat) : Int)) = false := by decide
        simp (disch := first | omega | (simp only [List.length_append, List.length_cons, List.length_nil, List.length_set, List.length_drop, List.length_take, List.length_map]; omega)) only [e1, sv_nx, sv_rt, sv_ct, rnd_nx, rnd_ct, Int.toNat_natCast, ne_eq, eq_self, not_true_eq_false, not_false_eq_true, mVar_z, Nat.reduceAdd, Nat.zero_add, Int.zero_add, Int.reduceAdd, Int.reduceSub, Int.reduceNeg, ap_Lst, ap_Tup, nil_app, cons_app, List.length_append, lst_last, mVar_s, ok_bnd, ok_stm, exc_bnd, ev_okE, exc_stm, ap_C, ap_Op, ap_Un, ap_B, ap_Chain, ap_asB, ap_And, ap_Or, ap_Not, ap_AndV, ap_OrV, ap_NotV, ap_If, ap_Nil, ap_Cons, ap_CB, ap_Meth, ap_Part, ap_NoPart, ap_Sl, ap_Yes, add_ii, add_ss, sub_ii, neg_i, mul_ii, fdiv_ii, mod_ii, eq_ii, ne_ii, eq_ss, ne_ss, lt_ii, le_ii, gt_ii, ge_ii, lt_ss, gt_ss, le_ss, ge_ss, len_s, len_t, abs_i, int_i, int_b, max_ii, min_ii, ix_s, ixL_0, ixL_1, ixL_2, ixL_3, ixL_n, ixL_i, ixL_st, setL_n, setL_i, List.length_map, List.length_set, ix_r, getL_r, ix_tL, withL_s, setL_0, setL_1, setL_2, set_r, app_r, lst_z, lst_s, iadd_ii, tuple_r, mul_ri, sl_s, sl_rol, sl_t, sl_r, cut_from, cut_to, ap_Seq, nx_seq, rt_seq, ct_seq, bk_seq, exc_seq, ap_Raise, ap_Skip, ap_Brk, ap_Cnt, ap_Drop, ap_Ret, ap_IfS, ap_Set, ap_Ts, ap_AsgT, tgT_t, tgTs_n, tgTs_c, ap_Aug, ap_SetI, ap_AugI, mFor_ap, ap_Rng1, ap_Rng2, rng1_ok, rng2_ok, ap_Iter, src_t, src_s, src_rL, ap_Comp, wipe_n, wipe_c, len_cons, len_nil, zip_cc, zip_nn, foldl_c, foldl_n, set_z, set_s, ite_t, ite_f, ite_T, ite_F, sing_lt, sing_eq, ty_r, ty_s, isS, cut_mid, decide_eq_true_eq, if_pos, if_neg]
        rfl
      · omega
    · rcases hc with ⟨hc, _⟩ | ⟨hc, ha⟩
      · exact absurd hc h0
      · have e1 : decide ((0 : Int) < ((n : Nat) : Int)) = true := decide_eq_true (by omega)
        have e2 : ((n : Int) % 2) = ((n % 2 : Nat) : Int) := by omega
        have hl2 := twos_small hB
        rw [← ha, List.length_append] at hl2
        have hp := twos_pos n
        have ix := fun h => ix01 (r := n % 2) (h := h) (by omega)
        have had : ∀ h, oAdd (.str [48 + n % 2]) (.str acc) h = .ok (.str ((48 + n % 2) :: acc)) h := fun h => add_ss (by simp; omega)
        simp (disch := first | omega | (simp only [List.length_append, List.length_cons, List.length_nil, List.length_set, List.length_drop, List.length_take, List.length_map]; omega)) only [e1, e2, ix, had, hfd, sv_nx, sv_rt, sv_ct, rnd_nx, rnd_ct, Int.toNat_natCast, ne_eq, eq_self, not_true_eq_false, not_false_eq_true, mVar_z, Nat.reduceAdd, Nat.zero_add, Int.zero_add, Int.reduceAdd, Int.reduceSub, Int.reduceNeg, ap_Lst, ap_Tup, nil_app, cons_app, List.length_append, lst_last, mVar_s, ok_bnd, ok_stm, exc_bnd, ev_okE, exc_stm, ap_C, ap_Op, ap_Un, ap_B, ap_Chain, ap_asB, ap_And, ap_Or, ap_Not, ap_AndV, ap_OrV, ap_NotV, ap_If, ap_Nil, ap_Cons, ap_CB, ap_Meth, ap_Part, ap_NoPart, ap_Sl, ap_Yes, add_ii, add_ss, sub_ii, neg_i, mul_ii, fdiv_ii, mod_ii, eq_ii, ne_ii, eq_ss, ne_ss, lt_ii, le_ii, gt_ii, ge_ii, lt_ss, gt_ss, le_ss, ge_ss, len_s, len_t, abs_i, int_i, int_b, max_ii, min_ii, ix_s, ixL_0, ixL_1, ixL_2, ixL_3, ixL_n, ixL_i, ixL_st, setL_n, setL_i, List.length_map, List.length_set, ix_r, getL_r, ix_tL, withL_s, setL_0, setL_1, setL_2, set_r, app_r, lst_z, lst_s, iadd_ii, tuple_r, mul_ri, sl_s, sl_rol, sl_t, sl_r, cut_from, cut_to, ap_Seq, nx_seq, rt_seq, ct_seq, bk_seq, exc_seq, ap_Raise, ap_Skip, ap_Brk, ap_Cnt, ap_Drop, ap_Ret, ap_IfS, ap_Set, ap_Ts, ap_AsgT, tgT_t, tgTs_n, tgTs_c, ap_Aug, ap_SetI, ap_AugI, mFor_ap, ap_Rng1, ap_Rng2, rng1_ok, rng2_ok, ap_Iter, src_t, src_s, src_rL, ap_Comp, wipe_n, wipe_c, len_cons, len_nil, zip_cc, zip_nn, foldl_c, foldl_n, set_z, set_s, ite_t, ite_f, ite_T, ite_F, sing_lt, sing_eq, ty_r, ty_s, isS, cut_mid, decide_eq_true_eq, if_pos, if_neg]
        refine ⟨ml (n / 2), by rw [hm]; exact ml_half hc, n / 2, (48 + n % 2) :: acc, rfl, trivial, rfl, by simp; omega, ?_⟩
        by_cases h2 : n < 2
        · have : n = 1 := by omega
          subst this
          exact .inl ⟨rfl, by rw [← ha, twos_lt (by decide)]; rfl⟩
        · refine .inr ⟨by omega, ?_⟩
          rw [← ha, twos_ge h2, List.append_assoc]
          rfl
  · rintro o rfl
    simp (disch := first | omega | (simp only [List.length_append, List.length_cons, List.length_nil, List.length_set, List.length_drop, List.length_take, List.length_map]; omega)) only [sv_nx, sv_rt, sv_ct, rnd_nx, rnd_ct, Int.toNat_natCast, ne_eq, eq_self, not_true_eq_false, not_false_eq_true, mVar_z, Nat.reduceAdd, Nat.zero_add, Int.zero_add, Int.reduceAdd, Int.reduceSub, Int.reduceNeg, ap_Lst, ap_Tup, nil_app, cons_app, List.length_append, lst_last, mVar_s, ok_bnd, ok_stm, exc_bnd, ev_okE, exc_stm, ap_C, ap_Op, ap_Un, ap_B, ap_Chain, ap_asB, ap_And, ap_Or, ap_Not, ap_AndV, ap_OrV, ap_NotV, ap_If, ap_Nil, ap_Cons, ap_CB, ap_Meth, ap_Part, ap_NoPart, ap_Sl, ap_Yes, add_ii, add_ss, sub_ii, neg_i, mul_ii, fdiv_ii, mod_ii, eq_ii, ne_ii, eq_ss, ne_ss, lt_ii, le_ii, gt_ii, ge_ii, lt_ss, gt_ss, le_ss, ge_ss, len_s, len_t, abs_i, int_i, int_b, max_ii, min_ii, ix_s, ixL_0, ixL_1, ixL_2, ixL_3, ixL_n, ixL_i, ixL_st, setL_n, setL_i, List.length_map, List.length_set, ix_r, getL_r, ix_tL, withL_s, setL_0, setL_1, setL_2, set_r, app_r, lst_z, lst_s, iadd_ii, tuple_r, mul_ri, sl_s, sl_rol, sl_t, sl_r, cut_from, cut_to, ap_Seq, nx_seq, rt_seq, ct_seq, bk_seq, exc_seq, ap_Raise, ap_Skip, ap_Brk, ap_Cnt, ap_Drop, ap_Ret, ap_IfS, ap_Set, ap_Ts, ap_AsgT, tgT_t, tgTs_n, tgTs_c, ap_Aug, ap_SetI, ap_AugI, mFor_ap, ap_Rng1, ap_Rng2, rng1_ok, rng2_ok, ap_Iter, src_t, src_s, src_rL, ap_Comp, wipe_n, wipe_c, len_cons, len_nil, zip_cc, zip_nn, foldl_c, foldl_n, set_z, set_s, ite_t, ite_f, ite_T, ite_F, sing_lt, sing_eq, ty_r, ty_s, isS, cut_mid, decide_eq_true_eq, if_pos, if_neg]
theorem pure_of {den : List W → List O → Out W} {ar : Nat} {ws : List W} {x : W} (hl : ws.length = ar) (hp : pureWs ws = true) {h' : List O} (e : den ws [] = .ok x h') (hx : pureW x = true) (h : List O) : pureRun den ar ws h = .ok x h := by
  unfold pureRun
  rw [if_pos ⟨hl, hp⟩, e]
  exact if_pos hx
theorem pure_exc {den : List W → List O → Out W} {ar : Nat} {ws : List W} {c : Nat} (hl : ws.length = ar) (hp : pureWs ws = true) {h' : List O} (e : den ws [] = .exc c none h') (h : List O) : pureRun den ar ws h = .exc c none h := by
  unfold pureRun
  rw [if_pos ⟨hl, hp⟩, e]
theorem intwos_all {g : Nat} (hg : 0 < g) (hB : g < BB) (h : List O) : pureRun den_in_twos 1 [.int (g : Nat)] h = .ok (.str (twos g)) h := by
  have e : body_in_twos (startE 2 [.int (g : Nat)]) [] = .rt (.str (twos g)) [] := intwos_sv g hg hB
  exact pure_of rfl rfl (h' := []) (by unfold den_in_twos mFun; rw [e]) rfl h
theorem ltwos_n : ∀ (k g : Nat), k ≤ 100 → g < 2 ^ (k + 1) → den_law_twos_n (k + 1) [.int (g : Nat)] [] = .ok (.str (twos g)) []
  | k, g, hk, hg => by
    by_cases h2 : g < 2
    · have ix := fun h => ix01 (r := g) (h := h) h2
      have e1 : decide (((g : Nat) : Int) < 2) = true := decide_eq_true (by omega)
      unfold den_law_twos_n mFun body_law_twos
      simp only [startE, List.map_cons, List.map_nil, List.length_cons, List.length_nil, List.cons_append, List.nil_append, Nat.zero_add, Nat.reduceAdd, Nat.reduceSub, List.replicate_succ, List.replicate_zero]
      simp (disch := first | omega | (simp only [List.length_append, List.length_cons, List.length_nil, List.length_set, List.length_drop, List.length_take, List.length_map]; omega)) only [e1, ix, sv_nx, sv_rt, sv_ct, rnd_nx, rnd_ct, Int.toNat_natCast, ne_eq, eq_self, not_true_eq_false, not_false_eq_true, mVar_z, Nat.reduceAdd, Nat.zero_add, Int.zero_add, Int.reduceAdd, Int.reduceSub, Int.reduceNeg, ap_Lst, ap_Tup, nil_app, cons_app, List.length_append, lst_last, mVar_s, ok_bnd, ok_stm, exc_bnd, ev_okE, exc_stm, ap_C, ap_Op, ap_Un, ap_B, ap_Chain, ap_asB, ap_And, ap_Or, ap_Not, ap_AndV, ap_OrV, ap_NotV, ap_If, ap_Nil, ap_Cons, ap_CB, ap_Meth, ap_Part, ap_NoPart, ap_Sl, ap_Yes, add_ii, add_ss, sub_ii, neg_i, mul_ii, fdiv_ii, mod_ii, eq_ii, ne_ii, eq_ss, ne_ss, lt_ii, le_ii, gt_ii, ge_ii, lt_ss, gt_ss, le_ss, ge_ss, len_s, len_t, abs_i, int_i, int_b, max_ii, min_ii, ix_s, ixL_0, ixL_1, ixL_2, ixL_3, ixL_n, ixL_i, ixL_st, setL_n, setL_i, List.length_map, List.length_set, ix_r, getL_r, ix_tL, withL_s, setL_0, setL_1, setL_2, set_r, app_r, lst_z, lst_s, iadd_ii, tuple_r, mul_ri, sl_s, sl_rol, sl_t, sl_r, cut_from, cut_to, ap_Seq, nx_seq, rt_seq, ct_seq, bk_seq, exc_seq, ap_Raise, ap_Skip, ap_Brk, ap_Cnt, ap_Drop, ap_Ret, ap_IfS, ap_Set, ap_Ts, ap_AsgT, tgT_t, tgTs_n, tgTs_c, ap_Aug, ap_SetI, ap_AugI, mFor_ap, ap_Rng1, ap_Rng2, rng1_ok, rng2_ok, ap_Iter, src_t, src_s, src_rL, ap_Comp, wipe_n, wipe_c, len_cons, len_nil, zip_cc, zip_nn, foldl_c, foldl_n, set_z, set_s, ite_t, ite_f, ite_T, ite_F, sing_lt, sing_eq, ty_r, ty_s, isS, cut_mid, decide_eq_true_eq, if_pos, if_neg]
      rw [twos_lt h2]
    · cases k with
      | zero => omega
      | succ k =>
        have hg2 : g / 2 < 2 ^ (k + 1) := by rw [Nat.pow_succ] at hg; omega
        have ih := ltwos_n k (g / 2) (by omega) hg2
        have hp : pureRun (den_law_twos_n (k + 1)) 1 [.int ((g / 2 : Nat) : Int)] [] = .ok (.str (twos (g / 2))) [] := pure_of rfl rfl ih rfl []
        have e1 : decide (((g : Nat) : Int) < 2) = false := decide_eq_false (by omega)
        have e2 : ((g : Int) % 2) = ((g % 2 : Nat) : Int) := by omega
        have e3 : ((g : Int) / 2) = ((g / 2 : Nat) : Int) := by omega
        have ix := fun h => ix01 (r := g % 2) (h := h) (by omega)
        have hl : (twos (g / 2)).length ≤ k + 2 := twos_len2 (k + 1) _ hg2
        unfold den_law_twos_n mFun body_law_twos
        simp only [startE, List.map_cons, List.map_nil, List.length_cons, List.length_nil, List.cons_append, List.nil_append, Nat.zero_add, Nat.reduceAdd, Nat.reduceSub, List.replicate_succ, List.replicate_zero]
        have had : oAdd (.str (twos (g / 2))) (.str [48 + g % 2]) [] = .ok (.str (twos g)) [] := by rw [twos_ge h2]; exact add_ss (by simp; omega)
        simp (disch := first | omega | (simp only [List.length_append, List.length_cons, List.length_nil, List.length_set, List.length_drop, List.length_take, List.length_map]; omega)) only [e1, e2, e3, hp, ix, had, sv_nx, sv_rt, sv_ct, rnd_nx, rnd_ct, Int.toNat_natCast, ne_eq, eq_self, not_true_eq_false, not_false_eq_true, mVar_z, Nat.reduceAdd, Nat.zero_add, Int.zero_add, Int.reduceAdd, Int.reduceSub, Int.reduceNeg, ap_Lst, ap_Tup, nil_app, cons_app, List.length_append, lst_last, mVar_s, ok_bnd, ok_stm, exc_bnd, ev_okE, exc_stm, ap_C, ap_Op, ap_Un, ap_B, ap_Chain, ap_asB, ap_And, ap_Or, ap_Not, ap_AndV, ap_OrV, ap_NotV, ap_If, ap_Nil, ap_Cons, ap_CB, ap_Meth, ap_Part, ap_NoPart, ap_Sl, ap_Yes, add_ii, add_ss, sub_ii, neg_i, mul_ii, fdiv_ii, mod_ii, eq_ii, ne_ii, eq_ss, ne_ss, lt_ii, le_ii, gt_ii, ge_ii, lt_ss, gt_ss, le_ss, ge_ss, len_s, len_t, abs_i, int_i, int_b, max_ii, min_ii, ix_s, ixL_0, ixL_1, ixL_2, ixL_3, ixL_n, ixL_i, ixL_st, setL_n, setL_i, List.length_map, List.length_set, ix_r, getL_r, ix_tL, withL_s, setL_0, setL_1, setL_2, set_r, app_r, lst_z, lst_s, iadd_ii, tuple_r, mul_ri, sl_s, sl_rol, sl_t, sl_r, cut_from, cut_to, ap_Seq, nx_seq, rt_seq, ct_seq, bk_seq, exc_seq, ap_Raise, ap_Skip, ap_Brk, ap_Cnt, ap_Drop, ap_Ret, ap_IfS, ap_Set, ap_Ts, ap_AsgT, tgT_t, tgTs_n, tgTs_c, ap_Aug, ap_SetI, ap_AugI, mFor_ap, ap_Rng1, ap_Rng2, rng1_ok, rng2_ok, ap_Iter, src_t, src_s, src_rL, ap_Comp, wipe_n, wipe_c, len_cons, len_nil, zip_cc, zip_nn, foldl_c, foldl_n, set_z, set_s, ite_t, ite_f, ite_T, ite_F, sing_lt, sing_eq, ty_r, ty_s, isS, cut_mid, decide_eq_true_eq, if_pos, if_neg]
theorem ltwos_all {g : Nat} (hB : g < BB) (h : List O) : pureRun den_law_twos 1 [.int (g : Nat)] h = .ok (.str (twos g)) h :=
  pure_of rfl rfl (h' := []) (ltwos_n 19 g (by omega) (by unfold BB at hB; omega)) rfl h
end Law_indexhall_k05_rows_coded
set_option maxRecDepth 100000
set_option maxHeartbeats 1000000
namespace Law_indexhall_k05_rows_coded
open PySem L2 Den K05
/-! ### gaps -/
def gapsOf (last : Int) : List Int → List Nat
  | [] => []
  | x :: r => (x - last).toNat :: gapsOf x r
theorem gaps_len : ∀ (l : List Int) (last : Int), (gapsOf last l).length = l.length
  | [], _ => rfl
  | x :: r, last => by show (_ :: gapsOf x r).length = _; rw [List.length_cons, List.length_cons, gaps_len r]
/-- a row whose gaps are small -/
def GB (last : Int) (l : List Int) : Prop := ∀ g ∈ gapsOf last l, 0 < g ∧ g < BB
theorem GB.tail {last x : Int} {r : List Int} (h : GB last (x :: r)) : GB x r := fun g hg => h g (List.mem_cons_of_mem _ hg)
theorem GB.head {last x : Int} {r : List Int} (h : GB last (x :: r)) : last < x ∧ (x - last).toNat < BB := by
  have := h (x - last).toNat List.mem_cons_self
  omega
theorem GB.gt : ∀ {l : List Int} {last : Int}, GB last l → ∀ z ∈ l, last < z
  | [], _, _, z, hz => by cases hz
  | x :: r, last, h, z, hz => by
    have h1 := h.head
    rcases List.mem_cons.1 hz with rfl | hz
    · exact h1.1
    · have := GB.gt h.tail z hz
      omega
theorem GB.rsg : ∀ {l : List Int} {last : Int}, GB last l → Rsg l
  | [], _, _ => List.Pairwise.nil
  | x :: r, last, h => List.pairwise_cons.2 ⟨GB.gt h.tail, GB.rsg h.tail⟩
theorem runs_gaps : ∀ {l : List Int} {last : Int}, GB last l → runs last (gapsOf last l) = l
  | [], _, _ => rfl
  | x :: r, last, h => by
    have h1 := h.head
    show (last + ((x - last).toNat : Nat)) :: runs (last + ((x - last).toNat : Nat)) (gapsOf x r) = _
    have e : last + ((x - last).toNat : Int) = x := by omega
    rw [e, runs_gaps h.tail]
abbrev code (row : List Int) : List Nat := pieces (gapsOf (-1) row)
theorem pieces_len {gs : List Nat} (h : ∀ g ∈ gs, 0 < g ∧ g < BB) : (pieces gs).length ≤ 41 * gs.length := by
  induction gs with
  | nil => simp [pieces]
  | cons g gs ih =>
    rw [pieces_cons, List.length_append, List.length_cons, piece_len]
    have := twos_small (h g List.mem_cons_self).2
    have := ih fun x hx => h x (List.mem_cons_of_mem _ hx)
    omega
theorem coded_sv (row : List Int) (hG : GB (-1) row) (hl : row.length ≤ 100) : Sv (body_coded (startE 5 [T row]) []) (fun o => o = .rt (.str (code row)) []) := by
  have hck := check_all hG.rsg (fun z hz => by have := hG.gt z hz; omega) (by omega : row.length ≤ 1000)
  have hcl : (code row).length ≤ 41 * row.length := by
    have := pieces_len hG
    rw [gaps_len] at this
    exact this
  unfold body_coded
  simp only [startE, List.map_cons, List.map_nil, List.length_cons, List.length_nil, List.cons_append, List.nil_append, Nat.zero_add, Nat.reduceAdd, Nat.reduceSub, List.replicate_succ, List.replicate_zero]
  simp (disch := first | omega | (simp only [List.length_append, List.length_cons, List.length_nil, List.length_set, List.length_drop, List.length_take, List.length_map]; omega)) only [hck, sv_nx, sv_rt, sv_ct, rnd_nx, rnd_ct, Int.toNat_natCast, ne_eq, eq_self, not_true_eq_false, not_false_eq_true, mVar_z, Nat.reduceAdd, Nat.zero_add, Int.zero_add, Int.reduceAdd, Int.reduceSub, Int.reduceNeg, ap_Lst, ap_Tup, nil_app, cons_app, List.length_append, lst_last, mVar_s, ok_bnd, ok_stm, exc_bnd, ev_okE, exc_stm, ap_C, ap_Op, ap_Un, ap_B, ap_Chain, ap_asB, ap_And, ap_Or, ap_Not, ap_AndV, ap_OrV, ap_NotV, ap_If, ap_Nil, ap_Cons, ap_CB, ap_Meth, ap_Part, ap_NoPart, ap_Sl, ap_Yes, add_ii, add_ss, sub_ii, neg_i, mul_ii, fdiv_ii, mod_ii, eq_ii, ne_ii, eq_ss, ne_ss, lt_ii, le_ii, gt_ii, ge_ii, lt_ss, gt_ss, le_ss, ge_ss, len_s, len_t, abs_i, int_i, int_b, max_ii, min_ii, ix_s, ixL_0, ixL_1, ixL_2, ixL_3, ixL_n, ixL_i, ixL_st, setL_n, setL_i, List.length_map, List.length_set, ix_r, getL_r, ix_tL, withL_s, setL_0, setL_1, setL_2, set_r, app_r, lst_z, lst_s, iadd_ii, tuple_r, mul_ri, sl_s, sl_rol, sl_t, sl_r, cut_from, cut_to, ap_Seq, nx_seq, rt_seq, ct_seq, bk_seq, exc_seq, ap_Raise, ap_Skip, ap_Brk, ap_Cnt, ap_Drop, ap_Ret, ap_IfS, ap_Set, ap_Ts, ap_AsgT, tgT_t, tgTs_n, tgTs_c, ap_Aug, ap_SetI, ap_AugI, mFor_ap, ap_Rng1, ap_Rng2, rng1_ok, rng2_ok, ap_Iter, src_t, src_s, src_rL, ap_Comp, wipe_n, wipe_c, len_cons, len_nil, zip_cc, zip_nn, foldl_c, foldl_n, set_z, set_s, ite_t, ite_f, ite_T, ite_F, sing_lt, sing_eq, ty_r, ty_s, isS, cut_mid, decide_eq_true_eq, if_pos, if_neg]
  refine sv_cut (R' := fun o => ∃ (a2 a3 a4 : Option W), o = SOut.nx [some (T row), some (.str (code row)), a2, a3, a4] []) ?_ ?_
  · refine forGo_tup (row.map .int) 3 (fun i e h => ∃ (fd : List Nat) (last : Int) (a3 a4 : Option W), e = [some (T row), some (.str fd), some (.int last), a3, a4] ∧ h = [] ∧ fd ++ pieces (gapsOf last (row.drop i)) = code row ∧ GB last (row.drop i)) (by simp; omega) ⟨[], -1, none, none, rfl, rfl, rfl, hG⟩ ?_ ?_
    · rintro i e h hi ⟨fd, last, a3, a4, rfl, rfl, hfd, hg⟩
      have hi2 : i < row.length := by simpa using hi
      rw [List.getElem_map]
      rw [List.drop_eq_getElem_cons hi2] at hfd hg
      generalize row[i] = x at hfd hg
      have h1 := hg.head
      have hfl := congrArg List.length hfd
      rw [show gapsOf last (x :: row.drop (i + 1)) = (x - last).toNat :: gapsOf x (row.drop (i + 1)) from rfl, pieces_cons] at hfd hfl
      rw [List.length_append, List.length_append] at hfl
      have e1 : x - last = ((x - last).toNat : Nat) := by omega
      have hit := fun h => intwos_all (g := (x - last).toNat) (by omega) h1.2 h
      have hp := twos_pos (x - last).toNat
      have hpl := piece_len (x - last).toNat
      generalize hg2 : (x - last).toNat = g at *
      have e2 : ((twos g).length : Int) - 1 = (((twos g).length - 1 : Nat) : Int) := by omega
      have hm := fun h => mulN_one (c := 48) (n := (twos g).length - 1) (h := h) (by omega)
      have ha : ∀ h, oAdd (.str (List.replicate ((twos g).length - 1) 48)) (.str (twos g)) h = .ok (.str (piece g)) h := fun h => add_ss (by rw [List.length_replicate]; omega)
      have hia : ∀ h, oIadd (.str fd) (.str (piece g)) h = .ok (.str (fd ++ piece g)) h := fun h => by
        show (if fd.length + (piece g).length ≤ lim then _ else _) = _
        rw [if_pos (by show _ ≤ 1000000; omega)]
      have hlg : (twos g).length ≤ 1000000 := by omega
      simp (disch := first | omega | (simp only [List.length_append, List.length_cons, List.length_nil, List.length_set, List.length_drop, List.length_take, List.length_map]; omega)) only [e1, hit, e2, hm, ha, hia, sv_nx, sv_rt, sv_ct, rnd_nx, rnd_ct, Int.toNat_natCast, ne_eq, eq_self, not_true_eq_false, not_false_eq_true, mVar_z, Nat.reduceAdd, Nat.zero_add, Int.zero_add, Int.reduceAdd, Int.reduceSub, Int.reduceNeg, ap_Lst, ap_Tup, nil_app, cons_app, List.length_append, lst_last, mVar_s, ok_bnd, ok_stm, exc_bnd, ev_okE, exc_stm, ap_C, ap_Op, ap_Un, ap_B, ap_Chain, ap_asB, ap_And, ap_Or, ap_Not, ap_AndV, ap_OrV, ap_NotV, ap_If, ap_Nil, ap_Cons, ap_CB, ap_Meth, ap_Part, ap_NoPart, ap_Sl, ap_Yes, add_ii, add_ss, sub_ii, neg_i, mul_ii, fdiv_ii, mod_ii, eq_ii, ne_ii, eq_ss, ne_ss, lt_ii, le_ii, gt_ii, ge_ii, lt_ss, gt_ss, le_ss, ge_ss, len_s, len_t, abs_i, int_i, int_b, max_ii, min_ii, ix_s, ixL_0, ixL_1, ixL_2, ixL_3, ixL_n, ixL_i, ixL_st, setL_n, setL_i, List.length_map, List.length_set, ix_r, getL_r, ix_tL, withL_s, setL_0, setL_1, setL_2, set_r, app_r, lst_z, lst_s, iadd_ii, tuple_r, mul_ri, sl_s, sl_rol, sl_t, sl_r, cut_from, cut_to, ap_Seq, nx_seq, rt_seq, ct_seq, bk_seq, exc_seq, ap_Raise, ap_Skip, ap_Brk, ap_Cnt, ap_Drop, ap_Ret, ap_IfS, ap_Set, ap_Ts, ap_AsgT, tgT_t, tgTs_n, tgTs_c, ap_Aug, ap_SetI, ap_AugI, mFor_ap, ap_Rng1, ap_Rng2, rng1_ok, rng2_ok, ap_Iter, src_t, src_s, src_rL, ap_Comp, wipe_n, wipe_c, len_cons, len_nil, zip_cc, zip_nn, foldl_c, foldl_n, set_z, set_s, ite_t, ite_f, ite_T, ite_F, sing_lt, sing_eq, ty_r, ty_s, isS, cut_mid, decide_eq_true_eq, if_pos, if_neg]
      exact ⟨fd ++ piece g, x, _, _, rfl, trivial, by rw [List.append_assoc]; exact hfd, hg.tail⟩
    · rintro e h ⟨fd, last, a3, a4, rfl, rfl, hfd, hg⟩
      rw [List.length_map, List.drop_length] at hfd
      have e1 : fd = code row := by simpa [gapsOf, pieces] using hfd
      rw [e1]
      exact ⟨_, _, _, rfl⟩
  · rintro o ⟨a2, a3, a4, rfl⟩
    simp (disch := first | omega | (simp only [List.length_append, List.length_cons, List.length_nil, List.length_set, List.length_drop, List.length_take, List.length_map]; omega)) only [sv_nx, sv_rt, sv_ct, rnd_nx, rnd_ct, Int.toNat_natCast, ne_eq, eq_self, not_true_eq_false, not_false_eq_true, mVar_z, Nat.reduceAdd, Nat.zero_add, Int.zero_add, Int.reduceAdd, Int.reduceSub, Int.reduceNeg, ap_Lst, ap_Tup, nil_app, cons_app, List.length_append, lst_last, mVar_s, ok_bnd, ok_stm, exc_bnd, ev_okE, exc_stm, ap_C, ap_Op, ap_Un, ap_B, ap_Chain, ap_asB, ap_And, ap_Or, ap_Not, ap_AndV, ap_OrV, ap_NotV, ap_If, ap_Nil, ap_Cons, ap_CB, ap_Meth, ap_Part, ap_NoPart, ap_Sl, ap_Yes, add_ii, add_ss, sub_ii, neg_i, mul_ii, fdiv_ii, mod_ii, eq_ii, ne_ii, eq_ss, ne_ss, lt_ii, le_ii, gt_ii, ge_ii, lt_ss, gt_ss, le_ss, ge_ss, len_s, len_t, abs_i, int_i, int_b, max_ii, min_ii, ix_s, ixL_0, ixL_1, ixL_2, ixL_3, ixL_n, ixL_i, ixL_st, setL_n, setL_i, List.length_map, List.length_set, ix_r, getL_r, ix_tL, withL_s, setL_0, setL_1, setL_2, set_r, app_r, lst_z, lst_s, iadd_ii, tuple_r, mul_ri, sl_s, sl_rol, sl_t, sl_r, cut_from, cut_to, ap_Seq, nx_seq, rt_seq, ct_seq, bk_seq, exc_seq, ap_Raise, ap_Skip, ap_Brk, ap_Cnt, ap_Drop, ap_Ret, ap_IfS, ap_Set, ap_Ts, ap_AsgT, tgT_t, tgTs_n, tgTs_c, ap_Aug, ap_SetI, ap_AugI, mFor_ap, ap_Rng1, ap_Rng2, rng1_ok, rng2_ok, ap_Iter, src_t, src_s, src_rL, ap_Comp, wipe_n, wipe_c, len_cons, len_nil, zip_cc, zip_nn, foldl_c, foldl_n, set_z, set_s, ite_t, ite_f, ite_T, ite_F, sing_lt, sing_eq, ty_r, ty_s, isS, cut_mid, decide_eq_true_eq, if_pos, if_neg]
theorem coded_all {row : List Int} (hG : GB (-1) row) (hl : row.length ≤ 100) (h : List O) : pureRun den_coded 1 [T row] h = .ok (.str (code row)) h := by
  have e : body_coded (startE 5 [T row]) [] = .rt (.str (code row)) [] := coded_sv row hG hl
  exact pure_of rfl (pureT row) (h' := []) (by unfold den_coded mFun; rw [e]) rfl h
theorem coded_21 (h : List O) : pureRun den_coded 1 [.tup [.int 2, .int 1]] h = .exc 1 none h := by
  have hc := check_21
  refine pure_exc (ws := [.tup [.int 2, .int 1]]) rfl rfl (h' := []) ?_ h
  unfold den_coded mFun body_coded
  simp only [startE, List.map_cons, List.map_nil, List.length_cons, List.length_nil, List.cons_append, List.nil_append, Nat.zero_add, Nat.reduceAdd, Nat.reduceSub, List.replicate_succ, List.replicate_zero]
  simp (disch := first | omega | (simp only [List.length_append, List.length_cons, List.length_nil, List.length_set, List.length_drop, List.length_take, List.length_map]; omega)) only [hc, sv_nx, sv_rt, sv_ct, rnd_nx, rnd_ct, Int.toNat_natCast, ne_eq, eq_self, not_true_eq_false, not_false_eq_true, mVar_z, Nat.reduceAdd, Nat.zero_add, Int.zero_add, Int.reduceAdd, Int.reduceSub, Int.reduceNeg, ap_Lst, ap_Tup, nil_app, cons_app, List.length_append, lst_last, mVar_s, ok_bnd, ok_stm, exc_bnd, ev_okE, exc_stm, ap_C, ap_Op, ap_Un, ap_B, ap_Chain, ap_asB, ap_And, ap_Or, ap_Not, ap_AndV, ap_OrV, ap_NotV, ap_If, ap_Nil, ap_Cons, ap_CB, ap_Meth, ap_Part, ap_NoPart, ap_Sl, ap_Yes, add_ii, add_ss, sub_ii, neg_i, mul_ii, fdiv_ii, mod_ii, eq_ii, ne_ii, eq_ss, ne_ss, lt_ii, le_ii, gt_ii, ge_ii, lt_ss, gt_ss, le_ss, ge_ss, len_s, len_t, abs_i, int_i, int_b, max_ii, min_ii, ix_s, ixL_0, ixL_1, ixL_2, ixL_3, ixL_n, ixL_i, ixL_st, setL_n, setL_i, List.length_map, List.length_set, ix_r, getL_r, ix_tL, withL_s, setL_0, setL_1, setL_2, set_r, app_r, lst_z, lst_s, iadd_ii, tuple_r, mul_ri, sl_s, sl_rol, sl_t, sl_r, cut_from, cut_to, ap_Seq, nx_seq, rt_seq, ct_seq, bk_seq, exc_seq, ap_Raise, ap_Skip, ap_Brk, ap_Cnt, ap_Drop, ap_Ret, ap_IfS, ap_Set, ap_Ts, ap_AsgT, tgT_t, tgTs_n, tgTs_c, ap_Aug, ap_SetI, ap_AugI, mFor_ap, ap_Rng1, ap_Rng2, rng1_ok, rng2_ok, ap_Iter, src_t, src_s, src_rL, ap_Comp, wipe_n, wipe_c, len_cons, len_nil, zip_cc, zip_nn, foldl_c, foldl_n, set_z, set_s, ite_t, ite_f, ite_T, ite_F, sing_lt, sing_eq, ty_r, ty_s, isS, cut_mid, decide_eq_true_eq, if_pos, if_neg]
end Law_indexhall_k05_rows_coded
set_option maxRecDepth 100000
set_option maxHeartbeats 2000000
namespace Law_indexhall_k05_rows_coded
open PySem L2 Den K05
theorem zs_stop {s : List Nat} (h : zs s < s.length) : s[zs s]? ≠ some 48 := by
  induction s with
  | nil => simp at h
  | cons c s ih =>
    unfold zs at h ⊢
    split
    · rename_i hc
      rw [if_pos hc] at h
      simpa using ih (by simpa using h)
    · rename_i hc
      simpa using hc
theorem val_lt (ds : List Nat) : ∀ a : Nat, ds.foldl (fun a d => 2 * a + if d = 49 then 1 else 0) a < (a + 1) * 2 ^ ds.length := by
  induction ds with
  | nil => intro a; simp
  | cons d ds ih =>
    intro a
    rw [List.foldl_cons, List.length_cons, Nat.pow_succ]
    have h1 := ih (2 * a + if d = 49 then 1 else 0)
    have h2 : (2 * a + (if d = 49 then 1 else 0) + 1) ≤ (a + 1) * 2 := by split <;> omega
    have h3 := Nat.mul_le_mul_right (2 ^ ds.length) h2
    have h4 : (a + 1) * 2 * 2 ^ ds.length = (a + 1) * (2 ^ ds.length * 2) := by rw [Nat.mul_assoc, Nat.mul_comm 2]
    omega
theorem val_lt2 (ds : List Nat) : val ds < 2 ^ ds.length := by
  have := val_lt ds 0
  unfold val
  omega
set_option exponentiation.threshold 100 in
theorem mul2 {g n : Nat} {h : List O} (hg : g < 2 ^ n) (hn : n ≤ 5000) : oMul (.int 2) (.int (g : Nat)) h = .ok (.int (2 * (g : Nat))) h := by
  have h2 : ((g : Nat) : Int).natAbs < 2 ^ 49999999 := by
    rw [Int.natAbs_natCast]
    exact Nat.lt_of_lt_of_le hg (Nat.pow_le_pow_right (by omega) (by omega))
  have hm : mulOk 2 (g : Nat) = true := mulOk_of (small_pow (by decide) (by omega)) h2
  show (if mulOk 2 (g : Nat) = true then _ else _) = _
  rw [if_pos hm]
theorem idx_bad : ∀ {s : List Nat}, s.all okS = false → idxOf false (s.map okS) = some (badAt s)
  | [], h => by simp at h
  | c :: s, h => by
    rw [List.map_cons]
    unfold idxOf badAt
    cases hc : okS c with
    | false => simp
    | true =>
      rw [List.all_cons, hc, Bool.true_and] at h
      rw [idx_bad h]
      simp
theorem okS_mem (c : Nat) : decide (c ∈ [48, 49]) = okS c := by
  unfold okS
  rw [decide_eq_decide]
  simp
/-- what decoded tells -/
def DecR (h0 : List O) (total : Res) (o : Out W) : Prop := match total with
  | .ok l => ∃ h, o = .ok (T l) h ∧ Gr h0 h
  | .err p => ∃ h, o = .exc 3 (some (.int (p : Nat))) h ∧ Gr h0 h
theorem decoded_sv (s : List Nat) (hl : s.length ≤ 3000) (h0 : List O) : Sv (body_decoded (startE 9 [.str s]) h0) (fun o => (∃ l h, dec (s.length + 1) s 0 (-1) [] = .ok l ∧ o = .rt (T l) h ∧ Gr h0 h) ∨ (∃ p e h, dec (s.length + 1) s 0 (-1) [] = .err p ∧ o = .exc 3 (some (.int (p : Nat))) e h ∧ Gr h0 h)) := by
  unfold body_decoded
  simp only [startE, List.map_cons, List.map_nil, List.length_cons, List.length_nil, List.cons_append, List.nil_append, Nat.zero_add, Nat.reduceAdd, Nat.reduceSub, List.replicate_succ, List.replicate_zero]
  simp (disch := first | omega | (simp only [List.length_append, List.length_cons, List.length_nil, List.length_set, List.length_drop, List.length_take, List.length_map]; omega)) only [sv_nx, sv_rt, sv_ct, rnd_nx, rnd_ct, Int.toNat_natCast, ne_eq, eq_self, not_true_eq_false, not_false_eq_true, mVar_z, Nat.reduceAdd, Nat.zero_add, Int.zero_add, Int.reduceAdd, Int.reduceSub, Int.reduceNeg, ap_Lst, ap_Tup, nil_app, cons_app, List.length_append, lst_last, mVar_s, ok_bnd, ok_stm, exc_bnd, ev_okE, exc_stm, ap_C, ap_Op, ap_Un, ap_B, ap_Chain, ap_asB, ap_And, ap_Or, ap_Not, ap_AndV, ap_OrV, ap_NotV, ap_If, ap_Nil, ap_Cons, ap_CB, ap_Meth, ap_Part, ap_NoPart, ap_Sl, ap_Yes, add_ii, add_ss, sub_ii, neg_i, mul_ii, fdiv_ii, mod_ii, eq_ii, ne_ii, eq_ss, ne_ss, lt_ii, le_ii, gt_ii, ge_ii, lt_ss, gt_ss, le_ss, ge_ss, len_s, len_t, abs_i, int_i, int_b, max_ii, min_ii, ix_s, ixL_0, ixL_1, ixL_2, ixL_3, ixL_n, ixL_i, ixL_st, setL_n, setL_i, List.length_map, List.length_set, ix_r, getL_r, ix_tL, withL_s, setL_0, setL_1, setL_2, set_r, app_r, lst_z, lst_s, iadd_ii, tuple_r, mul_ri, sl_s, sl_rol, sl_t, sl_r, cut_from, cut_to, ap_Seq, nx_seq, rt_seq, ct_seq, bk_seq, exc_seq, ap_Raise, ap_Skip, ap_Brk, ap_Cnt, ap_Drop, ap_Ret, ap_IfS, ap_Set, ap_Ts, ap_AsgT, tgT_t, tgTs_n, tgTs_c, ap_Aug, ap_SetI, ap_AugI, mFor_ap, ap_Rng1, ap_Rng2, rng1_ok, rng2_ok, ap_Iter, src_t, src_s, src_rL, ap_Comp, wipe_n, wipe_c, len_cons, len_nil, zip_cc, zip_nn, foldl_c, foldl_n, set_z, set_s, ite_t, ite_f, ite_T, ite_F, sing_lt, sing_eq, ty_r, ty_s, isS, cut_mid, decide_eq_true_eq, if_pos, if_neg]
  generalize htot : dec (s.length + 1) s 0 (-1) [] = total
  refine sv_cut (R' := fun o => (∃ (l : List Int) (more : List O) (a2 a3 a4 a5 a6 a7 a8 : Option W), total = .ok l ∧ o = SOut.nx [some (.str s), some (.ref h0.length), a2, a3, a4, a5, a6, a7, a8] (h0 ++ O.lst (l.map .int) :: more)) ∨ (∃ p e h, total = .err p ∧ o = .exc 3 (some (.int (p : Nat))) e h ∧ Gr h0 h)) ?_ ?_
  · refine mWhile_sv s.length (fun m e h => ∃ (k n : Nat) (last : Int) (fd : List Int) (more : List O) (a4 a5 a6 a7 a8 : Option W), e = [some (.str s), some (.ref h0.length), some (.int last), some (.int (k : Nat)), a4, a5, a6, a7, a8] ∧ h = h0 ++ O.lst (fd.map .int) :: more ∧ k ≤ s.length ∧ s.length - k < n ∧ dec n (s.drop k) k last fd = total ∧ fd.length ≤ k ∧ m = s.length - k) (by omega) ⟨0, s.length + 1, -1, [], [], none, none, none, none, none, rfl, rfl, by omega, by omega, htot, by simp, by omega⟩ ?_
    rintro m e h ⟨k, n, last, fd, more, a4, a5, a6, a7, a8, rfl, rfl, hk, hn, hd, hf, hm⟩
    obtain ⟨n, rfl⟩ : ∃ n', n = n' + 1 := ⟨n - 1, by omega⟩
    by_cases hkl : k = s.length
    · have e1 : decide (((k : Nat) : Int) < (s.length : Int)) = false := decide_eq_false (by omega)
      simp (disch := first | omega | (simp only [List.length_append, List.length_cons, List.length_nil, List.length_set, List.length_drop, List.length_take, List.length_map]; omega)) only [e1, sv_nx, sv_rt, sv_ct, rnd_nx, rnd_ct, Int.toNat_natCast, ne_eq, eq_self, not_true_eq_false, not_false_eq_true, mVar_z, Nat.reduceAdd, Nat.zero_add, Int.zero_add, Int.reduceAdd, Int.reduceSub, Int.reduceNeg, ap_Lst, ap_Tup, nil_app, cons_app, List.length_append, lst_last, mVar_s, ok_bnd, ok_stm, exc_bnd, ev_okE, exc_stm, ap_C, ap_Op, ap_Un, ap_B, ap_Chain, ap_asB, ap_And, ap_Or, ap_Not, ap_AndV, ap_OrV, ap_NotV, ap_If, ap_Nil, ap_Cons, ap_CB, ap_Meth, ap_Part, ap_NoPart, ap_Sl, ap_Yes, add_ii, add_ss, sub_ii, neg_i, mul_ii, fdiv_ii, mod_ii, eq_ii, ne_ii, eq_ss, ne_ss, lt_ii, le_ii, gt_ii, ge_ii, lt_ss, gt_ss, le_ss, ge_ss, len_s, len_t, abs_i, int_i, int_b, max_ii, min_ii, ix_s, ixL_0, ixL_1, ixL_2, ixL_3, ixL_n, ixL_i, ixL_st, setL_n, setL_i, List.length_map, List.length_set, ix_r, getL_r, ix_tL, withL_s, setL_0, setL_1, setL_2, set_r, app_r, lst_z, lst_s, iadd_ii, tuple_r, mul_ri, sl_s, sl_rol, sl_t, sl_r, cut_from, cut_to, ap_Seq, nx_seq, rt_seq, ct_seq, bk_seq, exc_seq, ap_Raise, ap_Skip, ap_Brk, ap_Cnt, ap_Drop, ap_Ret, ap_IfS, ap_Set, ap_Ts, ap_AsgT, tgT_t, tgTs_n, tgTs_c, ap_Aug, ap_SetI, ap_AugI, mFor_ap, ap_Rng1, ap_Rng2, rng1_ok, rng2_ok, ap_Iter, src_t, src_s, src_rL, ap_Comp, wipe_n, wipe_c, len_cons, len_nil, zip_cc, zip_nn, foldl_c, foldl_n, set_z, set_s, ite_t, ite_f, ite_T, ite_F, sing_lt, sing_eq, ty_r, ty_s, isS, cut_mid, decide_eq_true_eq, if_pos, if_neg]
      rw [hkl, List.drop_length, dec_nil] at hd
      exact .inl ⟨fd, more, _, _, _, _, _, _, _, hd.symm, rfl⟩
    · have e1 : decide (((k : Nat) : Int) < (s.length : Int)) = true := decide_eq_true (by omega)
      have hne : s.drop k ≠ [] := fun e => by have := congrArg List.length e; rw [List.length_drop] at this; simp at this; omega
      have hdl : (s.drop k).length = s.length - k := List.length_drop
      have hzl := zs_le (s.drop k)
      rw [dec, if_neg hne] at hd
      dsimp only at hd
      have hz1 := fun i hi => zs_all (s := s.drop k) i hi
      have hz2 := fun hi => zs_stop (s := s.drop k) hi
      generalize zs (s.drop k) = z at hd hzl hz1 hz2
      simp (disch := first | omega | (simp only [List.length_append, List.length_cons, List.length_nil, List.length_set, List.length_drop, List.length_take, List.length_map]; omega)) only [e1, sv_nx, sv_rt, sv_ct, rnd_nx, rnd_ct, Int.toNat_natCast, ne_eq, eq_self, not_true_eq_false, not_false_eq_true, mVar_z, Nat.reduceAdd, Nat.zero_add, Int.zero_add, Int.reduceAdd, Int.reduceSub, Int.reduceNeg, ap_Lst, ap_Tup, nil_app, cons_app, List.length_append, lst_last, mVar_s, ok_bnd, ok_stm, exc_bnd, ev_okE, exc_stm, ap_C, ap_Op, ap_Un, ap_B, ap_Chain, ap_asB, ap_And, ap_Or, ap_Not, ap_AndV, ap_OrV, ap_NotV, ap_If, ap_Nil, ap_Cons, ap_CB, ap_Meth, ap_Part, ap_NoPart, ap_Sl, ap_Yes, add_ii, add_ss, sub_ii, neg_i, mul_ii, fdiv_ii, mod_ii, eq_ii, ne_ii, eq_ss, ne_ss, lt_ii, le_ii, gt_ii, ge_ii, lt_ss, gt_ss, le_ss, ge_ss, len_s, len_t, abs_i, int_i, int_b, max_ii, min_ii, ix_s, ixL_0, ixL_1, ixL_2, ixL_3, ixL_n, ixL_i, ixL_st, setL_n, setL_i, List.length_map, List.length_set, ix_r, getL_r, ix_tL, withL_s, setL_0, setL_1, setL_2, set_r, app_r, lst_z, lst_s, iadd_ii, tuple_r, mul_ri, sl_s, sl_rol, sl_t, sl_r, cut_from, cut_to, ap_Seq, nx_seq, rt_seq, ct_seq, bk_seq, exc_seq, ap_Raise, ap_Skip, ap_Brk, ap_Cnt, ap_Drop, ap_Ret, ap_IfS, ap_Set, ap_Ts, ap_AsgT, tgT_t, tgTs_n, tgTs_c, ap_Aug, ap_SetI, ap_AugI, mFor_ap, ap_Rng1, ap_Rng2, rng1_ok, rng2_ok, ap_Iter, src_t, src_s, src_rL, ap_Comp, wipe_n, wipe_c, len_cons, len_nil, zip_cc, zip_nn, foldl_c, foldl_n, set_z, set_s, ite_t, ite_f, ite_T, ite_F, sing_lt, sing_eq, ty_r, ty_s, isS, cut_mid, decide_eq_true_eq, if_pos, if_neg]
      refine sv_cut (R' := fun o => o = SOut.nx [some (.str s), some (.ref h0.length), some (.int last), some (.int ((k + z : Nat))), some (.int (k : Nat)), some (.int (z : Nat)), a6, a7, a8] (h0 ++ O.lst (fd.map .int) :: more)) ?_ ?_
      · refine mWhile_sv z (fun m e h => ∃ j, j ≤ z ∧ m = z - j ∧ e = [some (.str s), some (.ref h0.length), some (.int last), some (.int ((k + j : Nat))), some (.int (k : Nat)), some (.int (j : Nat)), a6, a7, a8] ∧ h = h0 ++ O.lst (fd.map .int) :: more) (by omega) ⟨0, by omega, by omega, rfl, rfl⟩ ?_
        rintro m' e' h' ⟨j, hj, hm', rfl, rfl⟩
        by_cases hjz : j < z
        · have g1 := hz1 j hjz
          rw [List.getElem?_drop] at g1
          have hlt := (List.getElem?_eq_some_iff.mp g1).1
          have c1 : decide (((k + j : Nat) : Int) < (s.length : Int)) = true := decide_eq_true (by omega)
          have c2 : ∀ h, oIx (.str s) (.int ((k + j : Nat) : Int)) h = .ok (.str [48]) h := fun h => by
            rw [ix_s (by omega) (by omega) (by omega), Int.toNat_natCast, List.getD_eq_getElem?_getD, g1]; rfl
          have c3 : ((k + j : Nat) : Int) + 1 = ((k + (j + 1) : Nat) : Int) := by omega
          have c4 : ((j : Nat) : Int) + 1 = ((j + 1 : Nat) : Int) := by omega
          simp (disch := first | omega | (simp only [List.length_append, List.length_cons, List.length_nil, List.length_set, List.length_drop, List.length_take, List.length_map]; omega)) only [c1, c2, c3, c4, decide_true, sv_nx, sv_rt, sv_ct, rnd_nx, rnd_ct, Int.toNat_natCast, ne_eq, eq_self, not_true_eq_false, not_false_eq_true, mVar_z, Nat.reduceAdd, Nat.zero_add, Int.zero_add, Int.reduceAdd, Int.reduceSub, Int.reduceNeg, ap_Lst, ap_Tup, nil_app, cons_app, List.length_append, lst_last, mVar_s, ok_bnd, ok_stm, exc_bnd, ev_okE, exc_stm, ap_C, ap_Op, ap_Un, ap_B, ap_Chain, ap_asB, ap_And, ap_Or, ap_Not, ap_AndV, ap_OrV, ap_NotV, ap_If, ap_Nil, ap_Cons, ap_CB, ap_Meth, ap_Part, ap_NoPart, ap_Sl, ap_Yes, add_ii, add_ss, sub_ii, neg_i, mul_ii, fdiv_ii, mod_ii, eq_ii, ne_ii, eq_ss, ne_ss, lt_ii, le_ii, gt_ii, ge_ii, lt_ss, gt_ss, le_ss, ge_ss, len_s, len_t, abs_i, int_i, int_b, max_ii, min_ii, ix_s, ixL_0, ixL_1, ixL_2, ixL_3, ixL_n, ixL_i, ixL_st, setL_n, setL_i, List.length_map, List.length_set, ix_r, getL_r, ix_tL, withL_s, setL_0, setL_1, setL_2, set_r, app_r, lst_z, lst_s, iadd_ii, tuple_r, mul_ri, sl_s, sl_rol, sl_t, sl_r, cut_from, cut_to, ap_Seq, nx_seq, rt_seq, ct_seq, bk_seq, exc_seq, ap_Raise, ap_Skip, ap_Brk, ap_Cnt, ap_Drop, ap_Ret, ap_IfS, ap_Set, ap_Ts, ap_AsgT, tgT_t, tgTs_n, tgTs_c, ap_Aug, ap_SetI, ap_AugI, mFor_ap, ap_Rng1, ap_Rng2, rng1_ok, rng2_ok, ap_Iter, src_t, src_s, src_rL, ap_Comp, wipe_n, wipe_c, len_cons, len_nil, zip_cc, zip_nn, foldl_c, foldl_n, set_z, set_s, ite_t, ite_f, ite_T, ite_F, sing_lt, sing_eq, ty_r, ty_s, isS, cut_mid, decide_eq_true_eq, if_pos, if_neg]
          exact ⟨z - (j + 1), by omega, j + 1, by omega, rfl, rfl, trivial⟩
        · have ej : j = z := by omega
          subst ej
          by_cases hend : k + j < s.length
          · have c1 : decide (((k + j : Nat) : Int) < (s.length : Int)) = true := decide_eq_true (by omega)
            have g2 := hz2 (by omega)
            rw [List.getElem?_drop, List.getElem?_eq_getElem hend] at g2
            have g3 : s[k + j] ≠ 48 := fun e => g2 (by rw [e])
            have c2 : ∀ h, oIx (.str s) (.int ((k + j : Nat) : Int)) h = .ok (.str [s[k + j]]) h := fun h => by
              rw [ix_s (by omega) (by omega) (by omega), Int.toNat_natCast, List.getD_eq_getElem?_getD, List.getElem?_eq_getElem hend]; rfl
            have c5 : decide ([s[k + j]] = [48]) = false := decide_eq_false (by simpa using g3)
            simp (disch := first | omega | (simp only [List.length_append, List.length_cons, List.length_nil, List.length_set, List.length_drop, List.length_take, List.length_map]; omega)) only [c1, c2, c5, sv_nx, sv_rt, sv_ct, rnd_nx, rnd_ct, Int.toNat_natCast, ne_eq, eq_self, not_true_eq_false, not_false_eq_true, mVar_z, Nat.reduceAdd, Nat.zero_add, Int.zero_add, Int.reduceAdd, Int.reduceSub, Int.reduceNeg, ap_Lst, ap_Tup, nil_app, cons_app, List.length_append, lst_last, mVar_s, ok_bnd, ok_stm, exc_bnd, ev_okE, exc_stm, ap_C, ap_Op, ap_Un, ap_B, ap_Chain, ap_asB, ap_And, ap_Or, ap_Not, ap_AndV, ap_OrV, ap_NotV, ap_If, ap_Nil, ap_Cons, ap_CB, ap_Meth, ap_Part, ap_NoPart, ap_Sl, ap_Yes, add_ii, add_ss, sub_ii, neg_i, mul_ii, fdiv_ii, mod_ii, eq_ii, ne_ii, eq_ss, ne_ss, lt_ii, le_ii, gt_ii, ge_ii, lt_ss, gt_ss, le_ss, ge_ss, len_s, len_t, abs_i, int_i, int_b, max_ii, min_ii, ix_s, ixL_0, ixL_1, ixL_2, ixL_3, ixL_n, ixL_i, ixL_st, setL_n, setL_i, List.length_map, List.length_set, ix_r, getL_r, ix_tL, withL_s, setL_0, setL_1, setL_2, set_r, app_r, lst_z, lst_s, iadd_ii, tuple_r, mul_ri, sl_s, sl_rol, sl_t, sl_r, cut_from, cut_to, ap_Seq, nx_seq, rt_seq, ct_seq, bk_seq, exc_seq, ap_Raise, ap_Skip, ap_Brk, ap_Cnt, ap_Drop, ap_Ret, ap_IfS, ap_Set, ap_Ts, ap_AsgT, tgT_t, tgTs_n, tgTs_c, ap_Aug, ap_SetI, ap_AugI, mFor_ap, ap_Rng1, ap_Rng2, rng1_ok, rng2_ok, ap_Iter, src_t, src_s, src_rL, ap_Comp, wipe_n, wipe_c, len_cons, len_nil, zip_cc, zip_nn, foldl_c, foldl_n, set_z, set_s, ite_t, ite_f, ite_T, ite_F, sing_lt, sing_eq, ty_r, ty_s, isS, cut_mid, decide_eq_true_eq, if_pos, if_neg]
          · have c1 : decide (((k + j : Nat) : Int) < (s.length : Int)) = false := decide_eq_false (by omega)
            simp (disch := first | omega | (simp only [List.length_append, List.length_cons, List.length_nil, List.length_set, List.length_drop, List.length_take, List.length_map]; omega)) only [c1, sv_nx, sv_rt, sv_ct, rnd_nx, rnd_ct, Int.toNat_natCast, ne_eq, eq_self, not_true_eq_false, not_false_eq_true, mVar_z, Nat.reduceAdd, Nat.zero_add, Int.zero_add, Int.reduceAdd, Int.reduceSub, Int.reduceNeg, ap_Lst, ap_Tup, nil_app, cons_app, List.length_append, lst_last, mVar_s, ok_bnd, ok_stm, exc_bnd, ev_okE, exc_stm, ap_C, ap_Op, ap_Un, ap_B, ap_Chain, ap_asB, ap_And, ap_Or, ap_Not, ap_AndV, ap_OrV, ap_NotV, ap_If, ap_Nil, ap_Cons, ap_CB, ap_Meth, ap_Part, ap_NoPart, ap_Sl, ap_Yes, add_ii, add_ss, sub_ii, neg_i, mul_ii, fdiv_ii, mod_ii, eq_ii, ne_ii, eq_ss, ne_ss, lt_ii, le_ii, gt_ii, ge_ii, lt_ss, gt_ss, le_ss, ge_ss, len_s, len_t, abs_i, int_i, int_b, max_ii, min_ii, ix_s, ixL_0, ixL_1, ixL_2, ixL_3, ixL_n, ixL_i, ixL_st, setL_n, setL_i, List.length_map, List.length_set, ix_r, getL_r, ix_tL, withL_s, setL_0, setL_1, setL_2, set_r, app_r, lst_z, lst_s, iadd_ii, tuple_r, mul_ri, sl_s, sl_rol, sl_t, sl_r, cut_from, cut_to, ap_Seq, nx_seq, rt_seq, ct_seq, bk_seq, exc_seq, ap_Raise, ap_Skip, ap_Brk, ap_Cnt, ap_Drop, ap_Ret, ap_IfS, ap_Set, ap_Ts, ap_AsgT, tgT_t, tgTs_n, tgTs_c, ap_Aug, ap_SetI, ap_AugI, mFor_ap, ap_Rng1, ap_Rng2, rng1_ok, rng2_ok, ap_Iter, src_t, src_s, src_rL, ap_Comp, wipe_n, wipe_c, len_cons, len_nil, zip_cc, zip_nn, foldl_c, foldl_n, set_z, set_s, ite_t, ite_f, ite_T, ite_F, sing_lt, sing_eq, ty_r, ty_s, isS, cut_mid, decide_eq_true_eq, if_pos, if_neg]
      · rintro o rfl
        have sl1 : ∀ h, oSl (.str s) (some ((k + z : Nat) : Int)) (some (((k + z : Nat) : Int) + (z : Nat) + 1)) h = .ok (.str (((s.drop k).drop z).take (z + 1))) h := fun h => by
          rw [sl_s (by omega), cut_overZ (by omega) (by omega) (by omega), Int.toNat_natCast, List.drop_drop, show ((((k + z : Nat) : Int) + (z : Nat) + 1) - ((k + z : Nat) : Int)).toNat = z + 1 by omega]
        have sl2 : ∀ h, oSl (.str s) (some ((k : Nat) : Int)) (some (((k + z : Nat) : Int) + (z : Nat) + 1)) h = .ok (.str ((s.drop k).take (2 * z + 1))) h := fun h => by
          rw [sl_s (by omega), cut_overZ (by omega) (by omega) (by omega), Int.toNat_natCast, show ((((k + z : Nat) : Int) + (z : Nat) + 1) - ((k : Nat) : Int)).toNat = 2 * z + 1 by omega]
        have hwl : ((s.drop k).take (2 * z + 1)).length ≤ 3000 := by rw [List.length_take]; omega
        have hdgl : (((s.drop k).drop z).take (z + 1)).length ≤ 3000 := by rw [List.length_take, List.length_drop]; omega
        have hdgl2 : (((s.drop k).drop z).take (z + 1)).length ≤ z + 1 := List.length_take_le _ _
        have hdgl3 : (((s.drop k).drop z).take (z + 1)).length ≤ s.length - (k + z) := by rw [List.length_take, List.length_drop]; omega
        generalize hdg : ((s.drop k).drop z).take (z + 1) = dg at *
        generalize hwn : (s.drop k).take (2 * z + 1) = win at *
        have hany : ∀ (a7 a8 : Option W) (H : List O), mGenB true 8 (mGItems (mSl (mVar 0) (mPart (mVar 4)) (mPart (mOp oAdd (mOp oAdd (mVar 3) (mVar 5)) (mC (.int 1)))))) (mOp oNinS (mVar 8) (mC (.str [48, 49]))) [some (.str s), some (.ref h0.length), some (.int last), some (.int ((k + z : Nat))), some (.int (k : Nat)), some (.int (z : Nat)), some (.str dg), a7, a8] H = .ok (.bl (!win.all okS)) H := fun a7 a8 H => by
          have g1 := genB_ev (any := true) (slot := 8) (l := win) (g := fun c => W.str [c]) (f := fun c => !okS c) (e := [some (.str s), some (.ref h0.length), some (.int last), some (.int ((k + z : Nat))), some (.int (k : Nat)), some (.int (z : Nat)), some (.str dg), a7, a8]) (h := H) (mit := mGItems (mSl (mVar 0) (mPart (mVar 4)) (mPart (mOp oAdd (mOp oAdd (mVar 3) (mVar 5)) (mC (.int 1)))))) (melt := mOp oNinS (mVar 8) (mC (.str [48, 49]))) (ap_GIs (by simp (disch := first | omega | (simp only [List.length_append, List.length_cons, List.length_nil, List.length_set, List.length_drop, List.length_take, List.length_map]; omega)) only [sl2, sv_nx, sv_rt, sv_ct, rnd_nx, rnd_ct, Int.toNat_natCast, ne_eq, eq_self, not_true_eq_false, not_false_eq_true, mVar_z, Nat.reduceAdd, Nat.zero_add, Int.zero_add, Int.reduceAdd, Int.reduceSub, Int.reduceNeg, ap_Lst, ap_Tup, nil_app, cons_app, List.length_append, lst_last, mVar_s, ok_bnd, ok_stm, exc_bnd, ev_okE, exc_stm, ap_C, ap_Op, ap_Un, ap_B, ap_Chain, ap_asB, ap_And, ap_Or, ap_Not, ap_AndV, ap_OrV, ap_NotV, ap_If, ap_Nil, ap_Cons, ap_CB, ap_Meth, ap_Part, ap_NoPart, ap_Sl, ap_Yes, add_ii, add_ss, sub_ii, neg_i, mul_ii, fdiv_ii, mod_ii, eq_ii, ne_ii, eq_ss, ne_ss, lt_ii, le_ii, gt_ii, ge_ii, lt_ss, gt_ss, le_ss, ge_ss, len_s, len_t, abs_i, int_i, int_b, max_ii, min_ii, ix_s, ixL_0, ixL_1, ixL_2, ixL_3, ixL_n, ixL_i, ixL_st, setL_n, setL_i, List.length_map, List.length_set, ix_r, getL_r, ix_tL, withL_s, setL_0, setL_1, setL_2, set_r, app_r, lst_z, lst_s, iadd_ii, tuple_r, mul_ri, sl_s, sl_rol, sl_t, sl_r, cut_from, cut_to, ap_Seq, nx_seq, rt_seq, ct_seq, bk_seq, exc_seq, ap_Raise, ap_Skip, ap_Brk, ap_Cnt, ap_Drop, ap_Ret, ap_IfS, ap_Set, ap_Ts, ap_AsgT, tgT_t, tgTs_n, tgTs_c, ap_Aug, ap_SetI, ap_AugI, mFor_ap, ap_Rng1, ap_Rng2, rng1_ok, rng2_ok, ap_Iter, src_t, src_s, src_rL, ap_Comp, wipe_n, wipe_c, len_cons, len_nil, zip_cc, zip_nn, foldl_c, foldl_n, set_z, set_s, ite_t, ite_f, ite_T, ite_F, sing_lt, sing_eq, ty_r, ty_s, isS, cut_mid, decide_eq_true_eq, if_pos, if_neg])) (fun c hc => elt_of (fw := .str [c]) (h' := []) rfl (by
            have hv : mVar 8 ((frzE H [some (.str s), some (.ref h0.length), some (.int last), some (.int ((k + z : Nat))), some (.int (k : Nat)), some (.int (z : Nat)), some (.str dg), a7, a8]).set 8 (some (.str [c]))) [] = .ok (.str [c]) [] := mVar_set (by rw [frzE_len]; exact Nat.lt_succ_self 8)
            generalize (frzE H [some (.str s), some (.ref h0.length), some (.int last), some (.int ((k + z : Nat))), some (.int (k : Nat)), some (.int (z : Nat)), some (.str dg), a7, a8]).set 8 (some (.str [c])) = ee at hv
            rw [ap_Op, hv, ok_bnd, ap_C, ok_bnd, ninS_eq, okS_mem]))
          rw [g1]
          congr 2
          clear g1 hwn hwl sl2 hd
          induction win with
          | nil => rfl
          | cons c w ih => simp_all
        have hany2 := fun a7 a8 H => ap_TruB (hany a7 a8 H)
        cases hb : win.all okS with
        | false =>
          rw [if_pos hb] at hd
          rw [hb] at hany2
          have gH : Gr h0 (h0 ++ O.lst (fd.map .int) :: more) := gr_at0
          generalize h0 ++ O.lst (fd.map .int) :: more = H0 at gH ⊢
          simp (disch := first | omega | (simp only [List.length_append, List.length_cons, List.length_nil, List.length_set, List.length_drop, List.length_take, List.length_map]; omega)) only [sl1, hany2, Bool.not_false, ap_RaiseF, sl2, sv_nx, sv_rt, sv_ct, rnd_nx, rnd_ct, Int.toNat_natCast, ne_eq, eq_self, not_true_eq_false, not_false_eq_true, mVar_z, Nat.reduceAdd, Nat.zero_add, Int.zero_add, Int.reduceAdd, Int.reduceSub, Int.reduceNeg, ap_Lst, ap_Tup, nil_app, cons_app, List.length_append, lst_last, mVar_s, ok_bnd, ok_stm, exc_bnd, ev_okE, exc_stm, ap_C, ap_Op, ap_Un, ap_B, ap_Chain, ap_asB, ap_And, ap_Or, ap_Not, ap_AndV, ap_OrV, ap_NotV, ap_If, ap_Nil, ap_Cons, ap_CB, ap_Meth, ap_Part, ap_NoPart, ap_Sl, ap_Yes, add_ii, add_ss, sub_ii, neg_i, mul_ii, fdiv_ii, mod_ii, eq_ii, ne_ii, eq_ss, ne_ss, lt_ii, le_ii, gt_ii, ge_ii, lt_ss, gt_ss, le_ss, ge_ss, len_s, len_t, abs_i, int_i, int_b, max_ii, min_ii, ix_s, ixL_0, ixL_1, ixL_2, ixL_3, ixL_n, ixL_i, ixL_st, setL_n, setL_i, List.length_map, List.length_set, ix_r, getL_r, ix_tL, withL_s, setL_0, setL_1, setL_2, set_r, app_r, lst_z, lst_s, iadd_ii, tuple_r, mul_ri, sl_s, sl_rol, sl_t, sl_r, cut_from, cut_to, ap_Seq, nx_seq, rt_seq, ct_seq, bk_seq, exc_seq, ap_Raise, ap_Skip, ap_Brk, ap_Cnt, ap_Drop, ap_Ret, ap_IfS, ap_Set, ap_Ts, ap_AsgT, tgT_t, tgTs_n, tgTs_c, ap_Aug, ap_SetI, ap_AugI, mFor_ap, ap_Rng1, ap_Rng2, rng1_ok, rng2_ok, ap_Iter, src_t, src_s, src_rL, ap_Comp, wipe_n, wipe_c, len_cons, len_nil, zip_cc, zip_nn, foldl_c, foldl_n, set_z, set_s, ite_t, ite_f, ite_T, ite_F, sing_lt, sing_eq, ty_r, ty_s, isS, cut_mid, decide_eq_true_eq, if_pos, if_neg]
          repeat (first | with_reducible apply sv_seq | with_reducible apply sv_stm | with_reducible apply ev_bnd)
          refine comp_txtG (n := 100000) win (by omega) (by omega) (fun _ => true) (fun c => .bl (okS c)) (fun c hc h' G => ?_) (fun c hc _ h' G => ?_) (fun h' G => ?_)
          · exact ⟨rfl, Gr.refl⟩
          · have hin : ∀ h, oIn (.str [c]) (.str [48, 49]) h = .ok (.bl (okS c)) h := fun h => by rw [in_one, okS_mem]
            simp (disch := first | omega | (simp only [List.length_append, List.length_cons, List.length_nil, List.length_set, List.length_drop, List.length_take, List.length_map]; omega)) only [hin, sv_nx, sv_rt, sv_ct, rnd_nx, rnd_ct, Int.toNat_natCast, ne_eq, eq_self, not_true_eq_false, not_false_eq_true, mVar_z, Nat.reduceAdd, Nat.zero_add, Int.zero_add, Int.reduceAdd, Int.reduceSub, Int.reduceNeg, ap_Lst, ap_Tup, nil_app, cons_app, List.length_append, lst_last, mVar_s, ok_bnd, ok_stm, exc_bnd, ev_okE, exc_stm, ap_C, ap_Op, ap_Un, ap_B, ap_Chain, ap_asB, ap_And, ap_Or, ap_Not, ap_AndV, ap_OrV, ap_NotV, ap_If, ap_Nil, ap_Cons, ap_CB, ap_Meth, ap_Part, ap_NoPart, ap_Sl, ap_Yes, add_ii, add_ss, sub_ii, neg_i, mul_ii, fdiv_ii, mod_ii, eq_ii, ne_ii, eq_ss, ne_ss, lt_ii, le_ii, gt_ii, ge_ii, lt_ss, gt_ss, le_ss, ge_ss, len_s, len_t, abs_i, int_i, int_b, max_ii, min_ii, ix_s, ixL_0, ixL_1, ixL_2, ixL_3, ixL_n, ixL_i, ixL_st, setL_n, setL_i, List.length_map, List.length_set, ix_r, getL_r, ix_tL, withL_s, setL_0, setL_1, setL_2, set_r, app_r, lst_z, lst_s, iadd_ii, tuple_r, mul_ri, sl_s, sl_rol, sl_t, sl_r, cut_from, cut_to, ap_Seq, nx_seq, rt_seq, ct_seq, bk_seq, exc_seq, ap_Raise, ap_Skip, ap_Brk, ap_Cnt, ap_Drop, ap_Ret, ap_IfS, ap_Set, ap_Ts, ap_AsgT, tgT_t, tgTs_n, tgTs_c, ap_Aug, ap_SetI, ap_AugI, mFor_ap, ap_Rng1, ap_Rng2, rng1_ok, rng2_ok, ap_Iter, src_t, src_s, src_rL, ap_Comp, wipe_n, wipe_c, len_cons, len_nil, zip_cc, zip_nn, foldl_c, foldl_n, set_z, set_s, ite_t, ite_f, ite_T, ite_F, sing_lt, sing_eq, ty_r, ty_s, isS, cut_mid, decide_eq_true_eq, if_pos, if_neg]
            exact ⟨trivial, Gr.refl⟩
          · have hq := G.lastL
            have em : (win.map fun c => W.bl (okS c)) = (win.map okS).map W.bl := by rw [List.map_map]; rfl
            rw [List.filter_eq_self.2 (fun _ _ => rfl), em] at hq
            have hix := indexB_eq hq (idx_bad hb)
            have e5 : ((k : Nat) : Int) + (badAt win : Nat) = ((k + badAt win : Nat) : Int) := by omega
            simp (disch := first | omega | (simp only [List.length_append, List.length_cons, List.length_nil, List.length_set, List.length_drop, List.length_take, List.length_map]; omega)) only [hq, hix, e5, sv_nx, sv_rt, sv_ct, rnd_nx, rnd_ct, Int.toNat_natCast, ne_eq, eq_self, not_true_eq_false, not_false_eq_true, mVar_z, Nat.reduceAdd, Nat.zero_add, Int.zero_add, Int.reduceAdd, Int.reduceSub, Int.reduceNeg, ap_Lst, ap_Tup, nil_app, cons_app, List.length_append, lst_last, mVar_s, ok_bnd, ok_stm, exc_bnd, ev_okE, exc_stm, ap_C, ap_Op, ap_Un, ap_B, ap_Chain, ap_asB, ap_And, ap_Or, ap_Not, ap_AndV, ap_OrV, ap_NotV, ap_If, ap_Nil, ap_Cons, ap_CB, ap_Meth, ap_Part, ap_NoPart, ap_Sl, ap_Yes, add_ii, add_ss, sub_ii, neg_i, mul_ii, fdiv_ii, mod_ii, eq_ii, ne_ii, eq_ss, ne_ss, lt_ii, le_ii, gt_ii, ge_ii, lt_ss, gt_ss, le_ss, ge_ss, len_s, len_t, abs_i, int_i, int_b, max_ii, min_ii, ix_s, ixL_0, ixL_1, ixL_2, ixL_3, ixL_n, ixL_i, ixL_st, setL_n, setL_i, List.length_map, List.length_set, ix_r, getL_r, ix_tL, withL_s, setL_0, setL_1, setL_2, set_r, app_r, lst_z, lst_s, iadd_ii, tuple_r, mul_ri, sl_s, sl_rol, sl_t, sl_r, cut_from, cut_to, ap_Seq, nx_seq, rt_seq, ct_seq, bk_seq, exc_seq, ap_Raise, ap_Skip, ap_Brk, ap_Cnt, ap_Drop, ap_Ret, ap_IfS, ap_Set, ap_Ts, ap_AsgT, tgT_t, tgTs_n, tgTs_c, ap_Aug, ap_SetI, ap_AugI, mFor_ap, ap_Rng1, ap_Rng2, rng1_ok, rng2_ok, ap_Iter, src_t, src_s, src_rL, ap_Comp, wipe_n, wipe_c, len_cons, len_nil, zip_cc, zip_nn, foldl_c, foldl_n, set_z, set_s, ite_t, ite_f, ite_T, ite_F, sing_lt, sing_eq, ty_r, ty_s, isS, cut_mid, decide_eq_true_eq, if_pos, if_neg]
            exact .inr ⟨_, _, _, hd.symm, rfl, gH.trans G.left⟩
        | true =>
          rw [if_neg (by rw [hb]; decide)] at hd
          rw [hb] at hany2
          simp (disch := first | omega | (simp only [List.length_append, List.length_cons, List.length_nil, List.length_set, List.length_drop, List.length_take, List.length_map]; omega)) only [sl1, hany2, Bool.not_true, sv_nx, sv_rt, sv_ct, rnd_nx, rnd_ct, Int.toNat_natCast, ne_eq, eq_self, not_true_eq_false, not_false_eq_true, mVar_z, Nat.reduceAdd, Nat.zero_add, Int.zero_add, Int.reduceAdd, Int.reduceSub, Int.reduceNeg, ap_Lst, ap_Tup, nil_app, cons_app, List.length_append, lst_last, mVar_s, ok_bnd, ok_stm, exc_bnd, ev_okE, exc_stm, ap_C, ap_Op, ap_Un, ap_B, ap_Chain, ap_asB, ap_And, ap_Or, ap_Not, ap_AndV, ap_OrV, ap_NotV, ap_If, ap_Nil, ap_Cons, ap_CB, ap_Meth, ap_Part, ap_NoPart, ap_Sl, ap_Yes, add_ii, add_ss, sub_ii, neg_i, mul_ii, fdiv_ii, mod_ii, eq_ii, ne_ii, eq_ss, ne_ss, lt_ii, le_ii, gt_ii, ge_ii, lt_ss, gt_ss, le_ss, ge_ss, len_s, len_t, abs_i, int_i, int_b, max_ii, min_ii, ix_s, ixL_0, ixL_1, ixL_2, ixL_3, ixL_n, ixL_i, ixL_st, setL_n, setL_i, List.length_map, List.length_set, ix_r, getL_r, ix_tL, withL_s, setL_0, setL_1, setL_2, set_r, app_r, lst_z, lst_s, iadd_ii, tuple_r, mul_ri, sl_s, sl_rol, sl_t, sl_r, cut_from, cut_to, ap_Seq, nx_seq, rt_seq, ct_seq, bk_seq, exc_seq, ap_Raise, ap_Skip, ap_Brk, ap_Cnt, ap_Drop, ap_Ret, ap_IfS, ap_Set, ap_Ts, ap_AsgT, tgT_t, tgTs_n, tgTs_c, ap_Aug, ap_SetI, ap_AugI, mFor_ap, ap_Rng1, ap_Rng2, rng1_ok, rng2_ok, ap_Iter, src_t, src_s, src_rL, ap_Comp, wipe_n, wipe_c, len_cons, len_nil, zip_cc, zip_nn, foldl_c, foldl_n, set_z, set_s, ite_t, ite_f, ite_T, ite_F, sing_lt, sing_eq, ty_r, ty_s, isS, cut_mid, decide_eq_true_eq, if_pos, if_neg]
          by_cases hdl2 : dg.length < z + 1
          · rw [if_pos hdl2] at hd
            have c1 : decide ((dg.length : Int) < (z : Nat) + 1) = true := decide_eq_true (by omega)
            simp (disch := first | omega | (simp only [List.length_append, List.length_cons, List.length_nil, List.length_set, List.length_drop, List.length_take, List.length_map]; omega)) only [c1, ap_RaiseF, sv_nx, sv_rt, sv_ct, rnd_nx, rnd_ct, Int.toNat_natCast, ne_eq, eq_self, not_true_eq_false, not_false_eq_true, mVar_z, Nat.reduceAdd, Nat.zero_add, Int.zero_add, Int.reduceAdd, Int.reduceSub, Int.reduceNeg, ap_Lst, ap_Tup, nil_app, cons_app, List.length_append, lst_last, mVar_s, ok_bnd, ok_stm, exc_bnd, ev_okE, exc_stm, ap_C, ap_Op, ap_Un, ap_B, ap_Chain, ap_asB, ap_And, ap_Or, ap_Not, ap_AndV, ap_OrV, ap_NotV, ap_If, ap_Nil, ap_Cons, ap_CB, ap_Meth, ap_Part, ap_NoPart, ap_Sl, ap_Yes, add_ii, add_ss, sub_ii, neg_i, mul_ii, fdiv_ii, mod_ii, eq_ii, ne_ii, eq_ss, ne_ss, lt_ii, le_ii, gt_ii, ge_ii, lt_ss, gt_ss, le_ss, ge_ss, len_s, len_t, abs_i, int_i, int_b, max_ii, min_ii, ix_s, ixL_0, ixL_1, ixL_2, ixL_3, ixL_n, ixL_i, ixL_st, setL_n, setL_i, List.length_map, List.length_set, ix_r, getL_r, ix_tL, withL_s, setL_0, setL_1, setL_2, set_r, app_r, lst_z, lst_s, iadd_ii, tuple_r, mul_ri, sl_s, sl_rol, sl_t, sl_r, cut_from, cut_to, ap_Seq, nx_seq, rt_seq, ct_seq, bk_seq, exc_seq, ap_Raise, ap_Skip, ap_Brk, ap_Cnt, ap_Drop, ap_Ret, ap_IfS, ap_Set, ap_Ts, ap_AsgT, tgT_t, tgTs_n, tgTs_c, ap_Aug, ap_SetI, ap_AugI, mFor_ap, ap_Rng1, ap_Rng2, rng1_ok, rng2_ok, ap_Iter, src_t, src_s, src_rL, ap_Comp, wipe_n, wipe_c, len_cons, len_nil, zip_cc, zip_nn, foldl_c, foldl_n, set_z, set_s, ite_t, ite_f, ite_T, ite_F, sing_lt, sing_eq, ty_r, ty_s, isS, cut_mid, decide_eq_true_eq, if_pos, if_neg]
            exact .inr ⟨_, _, _, hd.symm, rfl, gr_at0⟩
          · rw [if_neg hdl2] at hd
            have c1 : decide ((dg.length : Int) < (z : Nat) + 1) = false := decide_eq_false (by omega)
            simp (disch := first | omega | (simp only [List.length_append, List.length_cons, List.length_nil, List.length_set, List.length_drop, List.length_take, List.length_map]; omega)) only [c1, sv_nx, sv_rt, sv_ct, rnd_nx, rnd_ct, Int.toNat_natCast, ne_eq, eq_self, not_true_eq_false, not_false_eq_true, mVar_z, Nat.reduceAdd, Nat.zero_add, Int.zero_add, Int.reduceAdd, Int.reduceSub, Int.reduceNeg, ap_Lst, ap_Tup, nil_app, cons_app, List.length_append, lst_last, mVar_s, ok_bnd, ok_stm, exc_bnd, ev_okE, exc_stm, ap_C, ap_Op, ap_Un, ap_B, ap_Chain, ap_asB, ap_And, ap_Or, ap_Not, ap_AndV, ap_OrV, ap_NotV, ap_If, ap_Nil, ap_Cons, ap_CB, ap_Meth, ap_Part, ap_NoPart, ap_Sl, ap_Yes, add_ii, add_ss, sub_ii, neg_i, mul_ii, fdiv_ii, mod_ii, eq_ii, ne_ii, eq_ss, ne_ss, lt_ii, le_ii, gt_ii, ge_ii, lt_ss, gt_ss, le_ss, ge_ss, len_s, len_t, abs_i, int_i, int_b, max_ii, min_ii, ix_s, ixL_0, ixL_1, ixL_2, ixL_3, ixL_n, ixL_i, ixL_st, setL_n, setL_i, List.length_map, List.length_set, ix_r, getL_r, ix_tL, withL_s, setL_0, setL_1, setL_2, set_r, app_r, lst_z, lst_s, iadd_ii, tuple_r, mul_ri, sl_s, sl_rol, sl_t, sl_r, cut_from, cut_to, ap_Seq, nx_seq, rt_seq, ct_seq, bk_seq, exc_seq, ap_Raise, ap_Skip, ap_Brk, ap_Cnt, ap_Drop, ap_Ret, ap_IfS, ap_Set, ap_Ts, ap_AsgT, tgT_t, tgTs_n, tgTs_c, ap_Aug, ap_SetI, ap_AugI, mFor_ap, ap_Rng1, ap_Rng2, rng1_ok, rng2_ok, ap_Iter, src_t, src_s, src_rL, ap_Comp, wipe_n, wipe_c, len_cons, len_nil, zip_cc, zip_nn, foldl_c, foldl_n, set_z, set_s, ite_t, ite_f, ite_T, ite_F, sing_lt, sing_eq, ty_r, ty_s, isS, cut_mid, decide_eq_true_eq, if_pos, if_neg]
            refine sv_cut (R' := fun o => ∃ a8, o = SOut.nx [some (.str s), some (.ref h0.length), some (.int last), some (.int ((k + z : Nat))), some (.int (k : Nat)), some (.int (z : Nat)), some (.str dg), some (.int (val dg : Nat)), a8] (h0 ++ O.lst (fd.map .int) :: more)) ?_ ?_
            · refine forGo_sv dg.length (fun i e h => ∃ a8, e = [some (.str s), some (.ref h0.length), some (.int last), some (.int ((k + z : Nat))), some (.int (k : Nat)), some (.int (z : Nat)), some (.str dg), some (.int (val (dg.take i) : Nat)), a8] ∧ h = h0 ++ O.lst (fd.map .int) :: more) (fun i e h hi I => ?_) (fun e h I => ?_) _ 0 _ _ (by omega) (by omega) ⟨_, rfl, rfl⟩
              · obtain ⟨a8, rfl, rfl⟩ := I
                refine ⟨.str [dg[i]], _, by unfold srcS; rw [List.getElem?_eq_getElem hi]; rfl, rfl, ?_⟩
                have hv := val_lt2 (dg.take i)
                have hm2 := fun h => mul2 (h := h) hv (by rw [List.length_take]; omega)
                have hs : val (dg.take (i + 1)) = 2 * val (dg.take i) + if dg[i] = 49 then 1 else 0 := by
                  rw [List.take_succ, List.getElem?_eq_getElem hi]
                  exact val_snoc _ _
                simp only [set_s, set_z]
                generalize val (dg.take i) = v at *
                generalize dg[i] = c at *
                have hi2 : (if decide ([c] = [49]) = true then (1 : Int) else 0) = ((if c = 49 then 1 else 0 : Nat) : Int) := by
                  by_cases hc : c = 49 <;> simp [hc]
                simp (disch := first | omega | (simp only [List.length_append, List.length_cons, List.length_nil, List.length_set, List.length_drop, List.length_take, List.length_map]; omega)) only [hm2, hi2, sv_nx, sv_rt, sv_ct, rnd_nx, rnd_ct, Int.toNat_natCast, ne_eq, eq_self, not_true_eq_false, not_false_eq_true, mVar_z, Nat.reduceAdd, Nat.zero_add, Int.zero_add, Int.reduceAdd, Int.reduceSub, Int.reduceNeg, ap_Lst, ap_Tup, nil_app, cons_app, List.length_append, lst_last, mVar_s, ok_bnd, ok_stm, exc_bnd, ev_okE, exc_stm, ap_C, ap_Op, ap_Un, ap_B, ap_Chain, ap_asB, ap_And, ap_Or, ap_Not, ap_AndV, ap_OrV, ap_NotV, ap_If, ap_Nil, ap_Cons, ap_CB, ap_Meth, ap_Part, ap_NoPart, ap_Sl, ap_Yes, add_ii, add_ss, sub_ii, neg_i, mul_ii, fdiv_ii, mod_ii, eq_ii, ne_ii, eq_ss, ne_ss, lt_ii, le_ii, gt_ii, ge_ii, lt_ss, gt_ss, le_ss, ge_ss, len_s, len_t, abs_i, int_i, int_b, max_ii, min_ii, ix_s, ixL_0, ixL_1, ixL_2, ixL_3, ixL_n, ixL_i, ixL_st, setL_n, setL_i, List.length_map, List.length_set, ix_r, getL_r, ix_tL, withL_s, setL_0, setL_1, setL_2, set_r, app_r, lst_z, lst_s, iadd_ii, tuple_r, mul_ri, sl_s, sl_rol, sl_t, sl_r, cut_from, cut_to, ap_Seq, nx_seq, rt_seq, ct_seq, bk_seq, exc_seq, ap_Raise, ap_Skip, ap_Brk, ap_Cnt, ap_Drop, ap_Ret, ap_IfS, ap_Set, ap_Ts, ap_AsgT, tgT_t, tgTs_n, tgTs_c, ap_Aug, ap_SetI, ap_AugI, mFor_ap, ap_Rng1, ap_Rng2, rng1_ok, rng2_ok, ap_Iter, src_t, src_s, src_rL, ap_Comp, wipe_n, wipe_c, len_cons, len_nil, zip_cc, zip_nn, foldl_c, foldl_n, set_z, set_s, ite_t, ite_f, ite_T, ite_F, sing_lt, sing_eq, ty_r, ty_s, isS, cut_mid, decide_eq_true_eq, if_pos, if_neg]
                refine ⟨some (.str [c]), ?_, trivial⟩
                have hcast : ((2 * v + if c = 49 then 1 else 0 : Nat) : Int) = 2 * (v : Int) + (if c = 49 then 1 else 0) := by split <;> omega
                rw [hs, hcast]
              · obtain ⟨a8, rfl, rfl⟩ := I
                refine ⟨by unfold srcS; rw [List.getElem?_eq_none (Nat.le_refl _)]; rfl, a8, ?_⟩
                rw [List.take_length]
            · rintro o ⟨a8, rfl⟩
              have hq : lstAt (h0 ++ O.lst (fd.map .int) :: more) h0.length = some (fd.map .int) := lst_at0
              have hla : (fd.map W.int).length < 1000000 := by rw [List.length_map]; omega
              have hset : (h0 ++ O.lst (fd.map .int) :: more).set h0.length (.lst (fd.map .int ++ [.int (last + (val dg : Nat))])) = h0 ++ O.lst ((fd ++ [last + (val dg : Nat)]).map .int) :: more := by rw [set_at0, List.map_append]; rfl
              have e6 : ((k + z : Nat) : Int) + ((z : Nat) + 1) = ((k + (2 * z + 1) : Nat) : Int) := by omega
              simp (disch := first | omega | (simp only [List.length_append, List.length_cons, List.length_nil, List.length_set, List.length_drop, List.length_take, List.length_map]; omega)) only [hq, hla, hset, e6, sv_nx, sv_rt, sv_ct, rnd_nx, rnd_ct, Int.toNat_natCast, ne_eq, eq_self, not_true_eq_false, not_false_eq_true, mVar_z, Nat.reduceAdd, Nat.zero_add, Int.zero_add, Int.reduceAdd, Int.reduceSub, Int.reduceNeg, ap_Lst, ap_Tup, nil_app, cons_app, List.length_append, lst_last, mVar_s, ok_bnd, ok_stm, exc_bnd, ev_okE, exc_stm, ap_C, ap_Op, ap_Un, ap_B, ap_Chain, ap_asB, ap_And, ap_Or, ap_Not, ap_AndV, ap_OrV, ap_NotV, ap_If, ap_Nil, ap_Cons, ap_CB, ap_Meth, ap_Part, ap_NoPart, ap_Sl, ap_Yes, add_ii, add_ss, sub_ii, neg_i, mul_ii, fdiv_ii, mod_ii, eq_ii, ne_ii, eq_ss, ne_ss, lt_ii, le_ii, gt_ii, ge_ii, lt_ss, gt_ss, le_ss, ge_ss, len_s, len_t, abs_i, int_i, int_b, max_ii, min_ii, ix_s, ixL_0, ixL_1, ixL_2, ixL_3, ixL_n, ixL_i, ixL_st, setL_n, setL_i, List.length_map, List.length_set, ix_r, getL_r, ix_tL, withL_s, setL_0, setL_1, setL_2, set_r, app_r, lst_z, lst_s, iadd_ii, tuple_r, mul_ri, sl_s, sl_rol, sl_t, sl_r, cut_from, cut_to, ap_Seq, nx_seq, rt_seq, ct_seq, bk_seq, exc_seq, ap_Raise, ap_Skip, ap_Brk, ap_Cnt, ap_Drop, ap_Ret, ap_IfS, ap_Set, ap_Ts, ap_AsgT, tgT_t, tgTs_n, tgTs_c, ap_Aug, ap_SetI, ap_AugI, mFor_ap, ap_Rng1, ap_Rng2, rng1_ok, rng2_ok, ap_Iter, src_t, src_s, src_rL, ap_Comp, wipe_n, wipe_c, len_cons, len_nil, zip_cc, zip_nn, foldl_c, foldl_n, set_z, set_s, ite_t, ite_f, ite_T, ite_F, sing_lt, sing_eq, ty_r, ty_s, isS, cut_mid, decide_eq_true_eq, if_pos, if_neg]
              refine ⟨s.length - (k + (2 * z + 1)), by omega, k + (2 * z + 1), n, _, fd ++ [last + (val dg : Nat)], more, _, _, _, _, _, rfl, rfl, by omega, by omega, ?_, by simp; omega, rfl⟩
              rw [List.drop_drop] at hd
              exact hd
  · rintro o (⟨l, more, a2, a3, a4, a5, a6, a7, a8, ht, rfl⟩ | ⟨p, e, h, ht, rfl, g⟩)
    · have hq : lstAt (h0 ++ O.lst (l.map .int) :: more) h0.length = some (l.map .int) := lst_at0
      simp (disch := first | omega | (simp only [List.length_append, List.length_cons, List.length_nil, List.length_set, List.length_drop, List.length_take, List.length_map]; omega)) only [hq, sv_nx, sv_rt, sv_ct, rnd_nx, rnd_ct, Int.toNat_natCast, ne_eq, eq_self, not_true_eq_false, not_false_eq_true, mVar_z, Nat.reduceAdd, Nat.zero_add, Int.zero_add, Int.reduceAdd, Int.reduceSub, Int.reduceNeg, ap_Lst, ap_Tup, nil_app, cons_app, List.length_append, lst_last, mVar_s, ok_bnd, ok_stm, exc_bnd, ev_okE, exc_stm, ap_C, ap_Op, ap_Un, ap_B, ap_Chain, ap_asB, ap_And, ap_Or, ap_Not, ap_AndV, ap_OrV, ap_NotV, ap_If, ap_Nil, ap_Cons, ap_CB, ap_Meth, ap_Part, ap_NoPart, ap_Sl, ap_Yes, add_ii, add_ss, sub_ii, neg_i, mul_ii, fdiv_ii, mod_ii, eq_ii, ne_ii, eq_ss, ne_ss, lt_ii, le_ii, gt_ii, ge_ii, lt_ss, gt_ss, le_ss, ge_ss, len_s, len_t, abs_i, int_i, int_b, max_ii, min_ii, ix_s, ixL_0, ixL_1, ixL_2, ixL_3, ixL_n, ixL_i, ixL_st, setL_n, setL_i, List.length_map, List.length_set, ix_r, getL_r, ix_tL, withL_s, setL_0, setL_1, setL_2, set_r, app_r, lst_z, lst_s, iadd_ii, tuple_r, mul_ri, sl_s, sl_rol, sl_t, sl_r, cut_from, cut_to, ap_Seq, nx_seq, rt_seq, ct_seq, bk_seq, exc_seq, ap_Raise, ap_Skip, ap_Brk, ap_Cnt, ap_Drop, ap_Ret, ap_IfS, ap_Set, ap_Ts, ap_AsgT, tgT_t, tgTs_n, tgTs_c, ap_Aug, ap_SetI, ap_AugI, mFor_ap, ap_Rng1, ap_Rng2, rng1_ok, rng2_ok, ap_Iter, src_t, src_s, src_rL, ap_Comp, wipe_n, wipe_c, len_cons, len_nil, zip_cc, zip_nn, foldl_c, foldl_n, set_z, set_s, ite_t, ite_f, ite_T, ite_F, sing_lt, sing_eq, ty_r, ty_s, isS, cut_mid, decide_eq_true_eq, if_pos, if_neg]
      exact .inl ⟨l, _, ht, rfl, gr_at0⟩
    · exact .inr ⟨p, e, h, ht, rfl, g⟩
end Law_indexhall_k05_rows_coded
set_option maxRecDepth 100000
set_option maxHeartbeats 1000000
namespace Law_indexhall_k05_rows_coded
open PySem L2 Den K05
theorem decoded_ok {s : List Nat} {l : List Int} (hl : s.length ≤ 3000) (hd : dec (s.length + 1) s 0 (-1) [] = .ok l) (h0 : List O) : ∃ h, den_decoded [.str s] h0 = .ok (T l) h ∧ Gr h0 h := by
  unfold den_decoded mFun
  rcases decoded_sv s hl h0 with ⟨l', h, e, eo, g⟩ | ⟨p, e', h, e, eo, g⟩
  · rw [eo]; rw [hd] at e; cases e; exact ⟨h, rfl, g⟩
  · rw [hd] at e; cases e
theorem decoded_err {s : List Nat} {p : Nat} (hl : s.length ≤ 3000) (hd : dec (s.length + 1) s 0 (-1) [] = .err p) (h0 : List O) : ∃ h, den_decoded [.str s] h0 = .exc 3 (some (.int (p : Nat))) h ∧ Gr h0 h := by
  unfold den_decoded mFun
  rcases decoded_sv s hl h0 with ⟨l', h, e, eo, g⟩ | ⟨p', e', h, e, eo, g⟩
  · rw [hd] at e; cases e
  · rw [eo]; rw [hd] at e; cases e; exact ⟨h, rfl, g⟩
theorem pieces_ge : ∀ gs : List Nat, gs.length ≤ (pieces gs).length
  | [] => by simp [pieces]
  | g :: gs => by
    rw [pieces_cons, List.length_append, List.length_cons, piece_len]
    have := pieces_ge gs
    have := twos_pos g
    omega
theorem dec_code {gs : List Nat} (h : ∀ g ∈ gs, 0 < g) (s : List Nat) : ∃ n, dec ((pieces gs ++ s).length + 1) (pieces gs ++ s) 0 (-1) [] = dec (n + 1) s (pieces gs).length (lastOf (-1) gs) (runs (-1) gs) := by
  have h1 := pieces_ge gs
  refine ⟨(pieces gs ++ s).length - gs.length, ?_⟩
  have e : (pieces gs ++ s).length + 1 = ((pieces gs ++ s).length - gs.length + 1) + gs.length := by rw [List.length_append]; omega
  rw [e, dec_pieces gs _ s 0 (-1) [] h, Nat.zero_add]
  rfl
theorem GB.pos {last : Int} {l : List Int} (h : GB last l) : ∀ g ∈ gapsOf last l, 0 < g := fun g hg => (h g hg).1
theorem code_len {row : List Int} (hG : GB (-1) row) : (code row).length ≤ 41 * row.length := by
  have := pieces_len hG
  rw [gaps_len] at this
  exact this
theorem dec_row {row : List Int} (hG : GB (-1) row) : dec ((code row).length + 1) (code row) 0 (-1) [] = .ok row := by
  obtain ⟨n, e⟩ := dec_code hG.pos []
  rw [List.append_nil] at e
  rw [e, dec_nil, runs_gaps hG]
theorem decoded_row {row : List Int} (hG : GB (-1) row) (hl : row.length ≤ 70) (h0 : List O) : ∃ h, den_decoded [.str (code row)] h0 = .ok (T row) h ∧ Gr h0 h :=
  decoded_ok (by have := code_len hG; omega) (dec_row hG) h0
/-! ### parts -/
theorem gaps_shift (x : Int) : ∀ (l : List Int) (last : Int), gapsOf (last - x) (l.map fun z => z - x) = gapsOf last l
  | [], _ => rfl
  | y :: l, last => by
    rw [List.map_cons]
    show (y - x - (last - x)).toNat :: gapsOf (y - x) (l.map fun z => z - x) = (y - last).toNat :: gapsOf y l
    rw [gaps_shift x l y]
    congr 1
    omega
theorem GB.shift {x : Int} {r : List Int} (h : GB x r) : GB (-1) ((x :: r).map fun z => z - x) := by
  intro g hg
  rw [List.map_cons] at hg
  have hg : g ∈ (x - x - -1).toNat :: gapsOf (x - x) (r.map fun z => z - x) := hg
  rw [gaps_shift x r x] at hg
  rcases List.mem_cons.1 hg with rfl | hg
  · unfold BB; omega
  · exact h g hg
theorem GB.drop : ∀ {l : List Int} {last : Int} (j : Nat) {x : Int} {r : List Int}, GB last l → l.drop j = x :: r → GB x r
  | [], _, j, x, r, _, e => by rw [List.drop_nil] at e; cases e
  | y :: l, last, 0, x, r, h, e => by
    rw [List.drop_zero] at e
    cases e
    exact h.tail
  | y :: l, last, j + 1, x, r, h, e => GB.drop j h.tail (by rw [List.drop_succ_cons] at e; exact e)
theorem GB.take : ∀ {l : List Int} {last : Int} (m : Nat), GB last l → GB last (l.take m)
  | [], _, m, _ => by rw [List.take_nil]; intro g hg; cases hg
  | y :: l, last, 0, h => by intro g hg; cases hg
  | y :: l, last, m + 1, h => by
    rw [List.take_succ_cons]
    intro g hg
    rcases List.mem_cons.1 hg with rfl | hg
    · exact h _ List.mem_cons_self
    · exact (GB.take m h.tail) g hg
def part (m : Nat) (row : List Int) (k : Nat) : List Int := (row.drop (m * k)).take m
def nb (m n : Nat) : Nat := (n + m - 1) / m
theorem nb_lt {m n k : Nat} (hm : 0 < m) (h : k < nb m n) : m * k < n := by
  unfold nb at h
  have h1 : (k + 1) ≤ (n + m - 1) / m := h
  rw [Nat.le_div_iff_mul_le hm, Nat.add_mul, Nat.one_mul, Nat.mul_comm] at h1
  omega
theorem nb_ge {m n : Nat} (hm : 0 < m) : n ≤ m * nb m n := by
  have h := Nat.lt_succ_self ((n + m - 1) / m)
  rw [Nat.succ_eq_add_one, Nat.div_lt_iff_lt_mul hm, Nat.add_mul, Nat.mul_comm] at h
  unfold nb
  omega
theorem nb_le {m n : Nat} (hm : 0 < m) : nb m n ≤ n := by
  by_cases h : nb m n = 0
  · omega
  · have := nb_lt (m := m) (n := n) (k := nb m n - 1) hm (by omega)
    have h2 := Nat.mul_le_mul_right (nb m n - 1) hm
    omega
theorem part_cons {m : Nat} {row : List Int} {k : Nat} (hm : 0 < m) (hk : m * k < row.length) (hG : GB (-1) row) : ∃ x r, part m row k = x :: r ∧ GB x r ∧ r.length ≤ row.length := by
  obtain ⟨m, rfl⟩ : ∃ m', m = m' + 1 := ⟨m - 1, by omega⟩
  obtain ⟨x, r, e⟩ : ∃ x r, row.drop ((m + 1) * k) = x :: r := by
    cases e : row.drop ((m + 1) * k) with
    | nil => have := congrArg List.length e; rw [List.length_drop, List.length_nil] at this; omega
    | cons x r => exact ⟨x, r, rfl⟩
  refine ⟨x, r.take m, by unfold part; rw [e, List.take_succ_cons], (GB.drop _ hG e).take m, ?_⟩
  have := congrArg List.length e
  rw [List.length_drop, List.length_cons] at this
  rw [List.length_take]
  omega
theorem part_next {m : Nat} {row : List Int} {k : Nat} : row.take (m * k) ++ part m row k = row.take (m * (k + 1)) := by
  unfold part
  rw [Nat.mul_add, Nat.mul_one, List.take_add]
def blkW (p : List Int) : W := .tup [.int (p.headD 0), .int (p.getLastD 0), .str (code (p.map fun z => z - p.headD 0))]
def blks (m : Nat) (row : List Int) : List W := (List.range (nb m row.length)).map fun k => blkW (part m row k)
theorem blks_len {m : Nat} {row : List Int} : (blks m row).length = nb m row.length := by unfold blks; rw [List.length_map, List.length_range]
theorem rng3_ok {n m : Nat} {h : List O} {e : Den.Env} {ma : M (List W)} (hm : 0 < m) (hm2 : m ≤ 1000) (hn : n ≤ 1000) (h1 : ma e h = .ok [.int 0, .int (n : Nat), .int (m : Nat)] h) : mRng3 ma e h = .ok (srcC 0 (m : Nat) (nb m n)) h := by
  have e1 : Builtin.Range.rangeSize 0 (n : Nat) (m : Nat) = (nb m n : Nat) := by
    unfold Builtin.Range.rangeSize nb
    rw [if_pos (by omega)]
    by_cases h0 : n = 0
    · subst h0
      rw [if_neg (by omega), Nat.div_eq_of_lt (by omega)]; rfl
    · rw [if_pos (by omega), show n + m - 1 = (n - 1) + m by omega, Nat.add_div_right _ hm]
      have : ((n : Int) - 0 - 1) = ((n - 1 : Nat) : Int) := by omega
      rw [this]
      push_cast
      rfl
  have hs := nb_le (m := m) (n := n) hm
  unfold mRng3
  rw [h1, ok_bnd]
  dsimp only
  rw [e1, Int.toNat_natCast]
  refine if_pos ⟨by omega, by omega, ?_, rfl⟩
  have f : ∀ i : Int, -1 ≤ i → i < 5000 → Builtin.Range.rangeFitsLong i = true := fun i h1 h2 => by
    unfold Builtin.Range.rangeFitsLong
    rw [Bool.and_eq_true, decide_eq_true_eq, decide_eq_true_eq]
    omega
  unfold Builtin.Range.small
  rw [e1, f 0 (by omega) (by omega), f n (by omega) (by omega), f m (by omega) (by omega), f (nb m n : Nat) (by omega) (by omega), if_pos (by omega), f (n + ((m : Int) - 1)) (by omega) (by omega)]
  simp
end Law_indexhall_k05_rows_coded
set_option maxRecDepth 100000
set_option maxHeartbeats 1000000
namespace Law_indexhall_k05_rows_coded
open PySem L2 Den K05
theorem pure_blk (p : List Int) : pureW (blkW p) = true := rfl
theorem pure_blks : ∀ (l : List Nat) (f : Nat → List Int), pureWs (l.map fun k => blkW (f k)) = true
  | [], _ => rfl
  | k :: l, f => by rw [List.map_cons]; unfold pureWs; rw [pure_blks l f]; rfl
theorem pure_blksT (m : Nat) (row : List Int) : pureW (.tup (blks m row)) = true := by unfold pureW; exact pure_blks _ _
theorem last_ix {x : Int} {r : List Int} {h : List O} (hr : r.length ≤ 1000) : oIx (T (x :: r)) (.int (-1)) h = .ok (.int ((x :: r).getLastD 0)) h := by
  rw [ix_tL]
  unfold ixL
  have e : ((x :: r).map W.int).length = r.length + 1 := by simp
  have e2 : atI ((x :: r).map W.int) (-1) = some (.int ((x :: r).getLastD 0)) := by
    rw [atI_neg (by omega) (by rw [e]; omega)]
    congr 1
    have key : ((x :: r).map W.int)[((-1 : Int) + ((x :: r).map W.int).length).toNat]? = some (.int ((x :: r).getLastD 0)) := by
      rw [e, show ((-1 : Int) + (r.length + 1 : Nat)).toNat = r.length by omega, List.getElem?_map, List.getLastD_eq_getLast?, List.getLast?_eq_getElem?]
      rw [List.getElem?_eq_getElem (by simp)]
      simp
    exact (List.getElem?_eq_some_iff.mp key).2
  rw [e2]
/-- first, last and code of a part -/
theorem blk_ev {e : Den.Env} {v w : Nat} {x : Int} {r : List Int} {h : List O} (hG : GB x r) (hr : r.length ≤ 99) (hv : ∀ h, mVar v e h = .ok (T (x :: r)) h) (hv2 : ∀ z h, mVar v ((e.set w none).set w (some (.int z))) h = .ok (T (x :: r)) h) (hw : ∀ z h, mVar w ((e.set w none).set w (some (.int z))) h = .ok (.int z) h) :
    Ev (mTup (mCons (mOp oIx (mVar v) (mC (.int 0))) (mCons (mOp oIx (mVar v) (mUn oNeg (mC (.int 1)))) (mCons (mCB (pureRun den_coded 1) (mCons (mCB oTuple (mCons (mComp 100000 [w] (mIter (mVar v)) (tgN w) (mYes) (mOp oSub (mVar w) (mOp oIx (mVar v) (mC (.int 0))))) (mNil))) (mNil))) (mNil)))) e h) fun y h' => y = blkW (x :: r) ∧ Gr h h' := by
  have i0 : ∀ h, oIx (T (x :: r)) (.int 0) h = .ok (.int x) h := fun h => by rw [ix_tL, List.map_cons, ixL_0]
  have i1 := fun h => last_ix (x := x) (h := h) (by omega : r.length ≤ 1000)
  have hs : ∀ h, toSrc (T (x :: r)) h = .ok (srcL ((x :: r).map .int)) h := fun h => rfl
  have hc := coded_all hG.shift (by simp; omega)
  generalize hT : T (x :: r) = t at *
  simp (disch := first | omega | (simp only [List.length_append, List.length_cons, List.length_nil, List.length_set, List.length_drop, List.length_take, List.length_map]; omega)) only [hv, i0, i1, hs, sv_nx, sv_rt, sv_ct, rnd_nx, rnd_ct, Int.toNat_natCast, ne_eq, eq_self, not_true_eq_false, not_false_eq_true, mVar_z, Nat.reduceAdd, Nat.zero_add, Int.zero_add, Int.reduceAdd, Int.reduceSub, Int.reduceNeg, ap_Lst, ap_Tup, nil_app, cons_app, List.length_append, lst_last, mVar_s, ok_bnd, ok_stm, exc_bnd, ev_okE, exc_stm, ap_C, ap_Op, ap_Un, ap_B, ap_Chain, ap_asB, ap_And, ap_Or, ap_Not, ap_AndV, ap_OrV, ap_NotV, ap_If, ap_Nil, ap_Cons, ap_CB, ap_Meth, ap_Part, ap_NoPart, ap_Sl, ap_Yes, add_ii, add_ss, sub_ii, neg_i, mul_ii, fdiv_ii, mod_ii, eq_ii, ne_ii, eq_ss, ne_ss, lt_ii, le_ii, gt_ii, ge_ii, lt_ss, gt_ss, le_ss, ge_ss, len_s, len_t, abs_i, int_i, int_b, max_ii, min_ii, ix_s, ixL_0, ixL_1, ixL_2, ixL_3, ixL_n, ixL_i, ixL_st, setL_n, setL_i, List.length_map, List.length_set, ix_r, getL_r, ix_tL, withL_s, setL_0, setL_1, setL_2, set_r, app_r, lst_z, lst_s, iadd_ii, tuple_r, mul_ri, sl_s, sl_rol, sl_t, sl_r, cut_from, cut_to, ap_Seq, nx_seq, rt_seq, ct_seq, bk_seq, exc_seq, ap_Raise, ap_Skip, ap_Brk, ap_Cnt, ap_Drop, ap_Ret, ap_IfS, ap_Set, ap_Ts, ap_AsgT, tgT_t, tgTs_n, tgTs_c, ap_Aug, ap_SetI, ap_AugI, mFor_ap, ap_Rng1, ap_Rng2, rng1_ok, rng2_ok, ap_Iter, src_t, src_s, src_rL, ap_Comp, wipe_n, wipe_c, len_cons, len_nil, zip_cc, zip_nn, foldl_c, foldl_n, set_z, set_s, ite_t, ite_f, ite_T, ite_F, sing_lt, sing_eq, ty_r, ty_s, isS, cut_mid, decide_eq_true_eq, if_pos, if_neg]
  repeat (first | with_reducible apply sv_seq | with_reducible apply sv_stm | with_reducible apply ev_bnd)
  refine comp_tup (n := 100000) (v := w) (x :: r) W.int (by simp; omega) (by simp; omega) (fun _ => true) (fun z => .int (z - x)) (fun z hz h' G => ?_) (fun z hz _ h' G => ?_) (fun h' G => ?_)
  · exact ⟨rfl, Gr.refl⟩
  · simp (disch := first | omega | (simp only [List.length_append, List.length_cons, List.length_nil, List.length_set, List.length_drop, List.length_take, List.length_map]; omega)) only [hv2, hw, i0, sv_nx, sv_rt, sv_ct, rnd_nx, rnd_ct, Int.toNat_natCast, ne_eq, eq_self, not_true_eq_false, not_false_eq_true, mVar_z, Nat.reduceAdd, Nat.zero_add, Int.zero_add, Int.reduceAdd, Int.reduceSub, Int.reduceNeg, ap_Lst, ap_Tup, nil_app, cons_app, List.length_append, lst_last, mVar_s, ok_bnd, ok_stm, exc_bnd, ev_okE, exc_stm, ap_C, ap_Op, ap_Un, ap_B, ap_Chain, ap_asB, ap_And, ap_Or, ap_Not, ap_AndV, ap_OrV, ap_NotV, ap_If, ap_Nil, ap_Cons, ap_CB, ap_Meth, ap_Part, ap_NoPart, ap_Sl, ap_Yes, add_ii, add_ss, sub_ii, neg_i, mul_ii, fdiv_ii, mod_ii, eq_ii, ne_ii, eq_ss, ne_ss, lt_ii, le_ii, gt_ii, ge_ii, lt_ss, gt_ss, le_ss, ge_ss, len_s, len_t, abs_i, int_i, int_b, max_ii, min_ii, ix_s, ixL_0, ixL_1, ixL_2, ixL_3, ixL_n, ixL_i, ixL_st, setL_n, setL_i, List.length_map, List.length_set, ix_r, getL_r, ix_tL, withL_s, setL_0, setL_1, setL_2, set_r, app_r, lst_z, lst_s, iadd_ii, tuple_r, mul_ri, sl_s, sl_rol, sl_t, sl_r, cut_from, cut_to, ap_Seq, nx_seq, rt_seq, ct_seq, bk_seq, exc_seq, ap_Raise, ap_Skip, ap_Brk, ap_Cnt, ap_Drop, ap_Ret, ap_IfS, ap_Set, ap_Ts, ap_AsgT, tgT_t, tgTs_n, tgTs_c, ap_Aug, ap_SetI, ap_AugI, mFor_ap, ap_Rng1, ap_Rng2, rng1_ok, rng2_ok, ap_Iter, src_t, src_s, src_rL, ap_Comp, wipe_n, wipe_c, len_cons, len_nil, zip_cc, zip_nn, foldl_c, foldl_n, set_z, set_s, ite_t, ite_f, ite_T, ite_F, sing_lt, sing_eq, ty_r, ty_s, isS, cut_mid, decide_eq_true_eq, if_pos, if_neg]
    exact ⟨trivial, Gr.refl⟩
  · have hq := G.lastL
    have em : (List.map (fun z => W.int (z - x)) (x :: r)) = ((x :: r).map fun z => z - x).map W.int := by rw [List.map_map]; rfl
    rw [List.filter_eq_self.2 (fun _ _ => rfl), em] at hq
    simp (disch := first | omega | (simp only [List.length_append, List.length_cons, List.length_nil, List.length_set, List.length_drop, List.length_take, List.length_map]; omega)) only [hq, hc, sv_nx, sv_rt, sv_ct, rnd_nx, rnd_ct, Int.toNat_natCast, ne_eq, eq_self, not_true_eq_false, not_false_eq_true, mVar_z, Nat.reduceAdd, Nat.zero_add, Int.zero_add, Int.reduceAdd, Int.reduceSub, Int.reduceNeg, ap_Lst, ap_Tup, nil_app, cons_app, List.length_append, lst_last, mVar_s, ok_bnd, ok_stm, exc_bnd, ev_okE, exc_stm, ap_C, ap_Op, ap_Un, ap_B, ap_Chain, ap_asB, ap_And, ap_Or, ap_Not, ap_AndV, ap_OrV, ap_NotV, ap_If, ap_Nil, ap_Cons, ap_CB, ap_Meth, ap_Part, ap_NoPart, ap_Sl, ap_Yes, add_ii, add_ss, sub_ii, neg_i, mul_ii, fdiv_ii, mod_ii, eq_ii, ne_ii, eq_ss, ne_ss, lt_ii, le_ii, gt_ii, ge_ii, lt_ss, gt_ss, le_ss, ge_ss, len_s, len_t, abs_i, int_i, int_b, max_ii, min_ii, ix_s, ixL_0, ixL_1, ixL_2, ixL_3, ixL_n, ixL_i, ixL_st, setL_n, setL_i, List.length_map, List.length_set, ix_r, getL_r, ix_tL, withL_s, setL_0, setL_1, setL_2, set_r, app_r, lst_z, lst_s, iadd_ii, tuple_r, mul_ri, sl_s, sl_rol, sl_t, sl_r, cut_from, cut_to, ap_Seq, nx_seq, rt_seq, ct_seq, bk_seq, exc_seq, ap_Raise, ap_Skip, ap_Brk, ap_Cnt, ap_Drop, ap_Ret, ap_IfS, ap_Set, ap_Ts, ap_AsgT, tgT_t, tgTs_n, tgTs_c, ap_Aug, ap_SetI, ap_AugI, mFor_ap, ap_Rng1, ap_Rng2, rng1_ok, rng2_ok, ap_Iter, src_t, src_s, src_rL, ap_Comp, wipe_n, wipe_c, len_cons, len_nil, zip_cc, zip_nn, foldl_c, foldl_n, set_z, set_s, ite_t, ite_f, ite_T, ite_F, sing_lt, sing_eq, ty_r, ty_s, isS, cut_mid, decide_eq_true_eq, if_pos, if_neg]
    exact ⟨rfl, G.left⟩
theorem inblocks_sv (row : List Int) (m : Nat) (hG : GB (-1) row) (hl : row.length ≤ 50) (hm : 0 < m) (hm2 : m ≤ 100) : Sv (body_in_blocks (startE 6 [T row, .int (m : Nat)]) []) (fun o => ∃ h, o = .rt (.tup (blks m row)) h) := by
  have hck := check_all hG.rsg (fun z hz => by have := hG.gt z hz; omega) (by omega : row.length ≤ 1000)
  have hnb := nb_le (m := m) (n := row.length) hm
  unfold body_in_blocks
  simp only [startE, List.map_cons, List.map_nil, List.length_cons, List.length_nil, List.cons_append, List.nil_append, Nat.zero_add, Nat.reduceAdd, Nat.reduceSub, List.replicate_succ, List.replicate_zero]
  have e1 : decide (((m : Nat) : Int) < 1) = false := decide_eq_false (by omega)
  have hrg : ∀ (a3 a4 a5 : Option W) (h : List O), mRng3 (mCons (mC (.int 0)) (mCons (mCB oLen (mCons (mVar 0) (mNil))) (mCons (mVar 1) (mNil)))) [some (T row), some (.int (m : Nat)), some (.ref 0), a3, a4, a5] h = .ok (srcC 0 (m : Nat) (nb m row.length)) h := fun a3 a4 a5 h => rng3_ok hm (by omega) (by omega) (by simp (disch := first | omega | (simp only [List.length_append, List.length_cons, List.length_nil, List.length_set, List.length_drop, List.length_take, List.length_map]; omega)) only [sv_nx, sv_rt, sv_ct, rnd_nx, rnd_ct, Int.toNat_natCast, ne_eq, eq_self, not_true_eq_false, not_false_eq_true, mVar_z, Nat.reduceAdd, Nat.zero_add, Int.zero_add, Int.reduceAdd, Int.reduceSub, Int.reduceNeg, ap_Lst, ap_Tup, nil_app, cons_app, List.length_append, lst_last, mVar_s, ok_bnd, ok_stm, exc_bnd, ev_okE, exc_stm, ap_C, ap_Op, ap_Un, ap_B, ap_Chain, ap_asB, ap_And, ap_Or, ap_Not, ap_AndV, ap_OrV, ap_NotV, ap_If, ap_Nil, ap_Cons, ap_CB, ap_Meth, ap_Part, ap_NoPart, ap_Sl, ap_Yes, add_ii, add_ss, sub_ii, neg_i, mul_ii, fdiv_ii, mod_ii, eq_ii, ne_ii, eq_ss, ne_ss, lt_ii, le_ii, gt_ii, ge_ii, lt_ss, gt_ss, le_ss, ge_ss, len_s, len_t, abs_i, int_i, int_b, max_ii, min_ii, ix_s, ixL_0, ixL_1, ixL_2, ixL_3, ixL_n, ixL_i, ixL_st, setL_n, setL_i, List.length_map, List.length_set, ix_r, getL_r, ix_tL, withL_s, setL_0, setL_1, setL_2, set_r, app_r, lst_z, lst_s, iadd_ii, tuple_r, mul_ri, sl_s, sl_rol, sl_t, sl_r, cut_from, cut_to, ap_Seq, nx_seq, rt_seq, ct_seq, bk_seq, exc_seq, ap_Raise, ap_Skip, ap_Brk, ap_Cnt, ap_Drop, ap_Ret, ap_IfS, ap_Set, ap_Ts, ap_AsgT, tgT_t, tgTs_n, tgTs_c, ap_Aug, ap_SetI, ap_AugI, mFor_ap, ap_Rng1, ap_Rng2, rng1_ok, rng2_ok, ap_Iter, src_t, src_s, src_rL, ap_Comp, wipe_n, wipe_c, len_cons, len_nil, zip_cc, zip_nn, foldl_c, foldl_n, set_z, set_s, ite_t, ite_f, ite_T, ite_F, sing_lt, sing_eq, ty_r, ty_s, isS, cut_mid, decide_eq_true_eq, if_pos, if_neg])
  simp (disch := first | omega | (simp only [List.length_append, List.length_cons, List.length_nil, List.length_set, List.length_drop, List.length_take, List.length_map]; omega)) only [hck, e1, hrg, sv_nx, sv_rt, sv_ct, rnd_nx, rnd_ct, Int.toNat_natCast, ne_eq, eq_self, not_true_eq_false, not_false_eq_true, mVar_z, Nat.reduceAdd, Nat.zero_add, Int.zero_add, Int.reduceAdd, Int.reduceSub, Int.reduceNeg, ap_Lst, ap_Tup, nil_app, cons_app, List.length_append, lst_last, mVar_s, ok_bnd, ok_stm, exc_bnd, ev_okE, exc_stm, ap_C, ap_Op, ap_Un, ap_B, ap_Chain, ap_asB, ap_And, ap_Or, ap_Not, ap_AndV, ap_OrV, ap_NotV, ap_If, ap_Nil, ap_Cons, ap_CB, ap_Meth, ap_Part, ap_NoPart, ap_Sl, ap_Yes, add_ii, add_ss, sub_ii, neg_i, mul_ii, fdiv_ii, mod_ii, eq_ii, ne_ii, eq_ss, ne_ss, lt_ii, le_ii, gt_ii, ge_ii, lt_ss, gt_ss, le_ss, ge_ss, len_s, len_t, abs_i, int_i, int_b, max_ii, min_ii, ix_s, ixL_0, ixL_1, ixL_2, ixL_3, ixL_n, ixL_i, ixL_st, setL_n, setL_i, List.length_map, List.length_set, ix_r, getL_r, ix_tL, withL_s, setL_0, setL_1, setL_2, set_r, app_r, lst_z, lst_s, iadd_ii, tuple_r, mul_ri, sl_s, sl_rol, sl_t, sl_r, cut_from, cut_to, ap_Seq, nx_seq, rt_seq, ct_seq, bk_seq, exc_seq, ap_Raise, ap_Skip, ap_Brk, ap_Cnt, ap_Drop, ap_Ret, ap_IfS, ap_Set, ap_Ts, ap_AsgT, tgT_t, tgTs_n, tgTs_c, ap_Aug, ap_SetI, ap_AugI, mFor_ap, ap_Rng1, ap_Rng2, rng1_ok, rng2_ok, ap_Iter, src_t, src_s, src_rL, ap_Comp, wipe_n, wipe_c, len_cons, len_nil, zip_cc, zip_nn, foldl_c, foldl_n, set_z, set_s, ite_t, ite_f, ite_T, ite_F, sing_lt, sing_eq, ty_r, ty_s, isS, cut_mid, decide_eq_true_eq, if_pos, if_neg]
  refine sv_cut (R' := fun o => ∃ (a3 a4 a5 : Option W) (h : List O), o = SOut.nx [some (T row), some (.int (m : Nat)), some (.ref 0), a3, a4, a5] h ∧ lstAt h 0 = some (blks m row)) ?_ ?_
  · refine forGo_sv (nb m row.length) (fun i e h => ∃ (a3 a4 a5 : Option W), e = [some (T row), some (.int (m : Nat)), some (.ref 0), a3, a4, a5] ∧ lstAt h 0 = some ((List.range i).map fun k => blkW (part m row k))) (fun i e h hi I => ?_) (fun e h I => ?_) _ 0 _ _ (by omega) (by omega) ⟨_, _, _, rfl, rfl⟩
    · obtain ⟨a3, a4, a5, rfl, hq⟩ := I
      refine ⟨.int ((m * i : Nat) : Int), _, ?_, rfl, ?_⟩
      · unfold srcC
        rw [if_pos hi, Int.zero_add, Int.natCast_mul, Int.mul_comm]
      simp only [set_s, set_z]
      have hlt := nb_lt hm hi
      obtain ⟨x, r, hp, hg, hrl⟩ := part_cons hm hlt hG
      have hsl : ∀ h, oSl (T row) (some ((m * i : Nat) : Int)) (some (((m * i : Nat) : Int) + (m : Nat))) h = .ok (T (x :: r)) h := fun h => by
        rw [sl_t, cut_overZ (by omega) (by rw [List.length_map]; omega) (by omega), Int.toNat_natCast, show (((m * i : Nat) : Int) + (m : Nat) - ((m * i : Nat) : Int)).toNat = m by omega, ← List.map_drop, ← List.map_take]
        show Out.ok (T (part m row i)) h = _
        rw [hp]
      generalize hX : mTup (mCons (mOp oIx (mVar 4) (mC (.int 0))) (mCons (mOp oIx (mVar 4) (mUn oNeg (mC (.int 1)))) (mCons (mCB (pureRun den_coded 1) (mCons (mCB oTuple (mCons (mComp 100000 [5] (mIter (mVar 4)) (tgN 5) (mYes) (mOp oSub (mVar 5) (mOp oIx (mVar 4) (mC (.int 0))))) (mNil))) (mNil))) (mNil)))) = X
      generalize ((m * i : Nat) : Int) = z at hsl
      simp (disch := first | omega | (simp only [List.length_append, List.length_cons, List.length_nil, List.length_set, List.length_drop, List.length_take, List.length_map]; omega)) only [hsl, hq, sv_nx, sv_rt, sv_ct, rnd_nx, rnd_ct, Int.toNat_natCast, ne_eq, eq_self, not_true_eq_false, not_false_eq_true, mVar_z, Nat.reduceAdd, Nat.zero_add, Int.zero_add, Int.reduceAdd, Int.reduceSub, Int.reduceNeg, ap_Lst, ap_Tup, nil_app, cons_app, List.length_append, lst_last, mVar_s, ok_bnd, ok_stm, exc_bnd, ev_okE, exc_stm, ap_C, ap_Op, ap_Un, ap_B, ap_Chain, ap_asB, ap_And, ap_Or, ap_Not, ap_AndV, ap_OrV, ap_NotV, ap_If, ap_Nil, ap_Cons, ap_CB, ap_Meth, ap_Part, ap_NoPart, ap_Sl, ap_Yes, add_ii, add_ss, sub_ii, neg_i, mul_ii, fdiv_ii, mod_ii, eq_ii, ne_ii, eq_ss, ne_ss, lt_ii, le_ii, gt_ii, ge_ii, lt_ss, gt_ss, le_ss, ge_ss, len_s, len_t, abs_i, int_i, int_b, max_ii, min_ii, ix_s, ixL_0, ixL_1, ixL_2, ixL_3, ixL_n, ixL_i, ixL_st, setL_n, setL_i, List.length_map, List.length_set, ix_r, getL_r, ix_tL, withL_s, setL_0, setL_1, setL_2, set_r, app_r, lst_z, lst_s, iadd_ii, tuple_r, mul_ri, sl_s, sl_rol, sl_t, sl_r, cut_from, cut_to, ap_Seq, nx_seq, rt_seq, ct_seq, bk_seq, exc_seq, ap_Raise, ap_Skip, ap_Brk, ap_Cnt, ap_Drop, ap_Ret, ap_IfS, ap_Set, ap_Ts, ap_AsgT, tgT_t, tgTs_n, tgTs_c, ap_Aug, ap_SetI, ap_AugI, mFor_ap, ap_Rng1, ap_Rng2, rng1_ok, rng2_ok, ap_Iter, src_t, src_s, src_rL, ap_Comp, wipe_n, wipe_c, len_cons, len_nil, zip_cc, zip_nn, foldl_c, foldl_n, set_z, set_s, ite_t, ite_f, ite_T, ite_F, sing_lt, sing_eq, ty_r, ty_s, isS, cut_mid, decide_eq_true_eq, if_pos, if_neg]
      repeat (first | with_reducible apply sv_seq | with_reducible apply sv_stm | with_reducible apply ev_bnd)
      rw [← hX]
      have hl3 := lst_lt hq
      refine ev_imp (blk_ev hg (by omega) (fun h => rfl) (fun z h => rfl) (fun z h => rfl)) ?_
      rintro y h' ⟨rfl, g⟩
      have hq2 := g.lst hq
      have hl4 := lst_lt hq2
      have hll : (List.range i).length < 1000000 := by rw [List.length_range]; omega
      simp (disch := first | omega | (simp only [List.length_append, List.length_cons, List.length_nil, List.length_set, List.length_drop, List.length_take, List.length_map]; omega)) only [hq2, hll, sv_nx, sv_rt, sv_ct, rnd_nx, rnd_ct, Int.toNat_natCast, ne_eq, eq_self, not_true_eq_false, not_false_eq_true, mVar_z, Nat.reduceAdd, Nat.zero_add, Int.zero_add, Int.reduceAdd, Int.reduceSub, Int.reduceNeg, ap_Lst, ap_Tup, nil_app, cons_app, List.length_append, lst_last, mVar_s, ok_bnd, ok_stm, exc_bnd, ev_okE, exc_stm, ap_C, ap_Op, ap_Un, ap_B, ap_Chain, ap_asB, ap_And, ap_Or, ap_Not, ap_AndV, ap_OrV, ap_NotV, ap_If, ap_Nil, ap_Cons, ap_CB, ap_Meth, ap_Part, ap_NoPart, ap_Sl, ap_Yes, add_ii, add_ss, sub_ii, neg_i, mul_ii, fdiv_ii, mod_ii, eq_ii, ne_ii, eq_ss, ne_ss, lt_ii, le_ii, gt_ii, ge_ii, lt_ss, gt_ss, le_ss, ge_ss, len_s, len_t, abs_i, int_i, int_b, max_ii, min_ii, ix_s, ixL_0, ixL_1, ixL_2, ixL_3, ixL_n, ixL_i, ixL_st, setL_n, setL_i, List.length_map, List.length_set, ix_r, getL_r, ix_tL, withL_s, setL_0, setL_1, setL_2, set_r, app_r, lst_z, lst_s, iadd_ii, tuple_r, mul_ri, sl_s, sl_rol, sl_t, sl_r, cut_from, cut_to, ap_Seq, nx_seq, rt_seq, ct_seq, bk_seq, exc_seq, ap_Raise, ap_Skip, ap_Brk, ap_Cnt, ap_Drop, ap_Ret, ap_IfS, ap_Set, ap_Ts, ap_AsgT, tgT_t, tgTs_n, tgTs_c, ap_Aug, ap_SetI, ap_AugI, mFor_ap, ap_Rng1, ap_Rng2, rng1_ok, rng2_ok, ap_Iter, src_t, src_s, src_rL, ap_Comp, wipe_n, wipe_c, len_cons, len_nil, zip_cc, zip_nn, foldl_c, foldl_n, set_z, set_s, ite_t, ite_f, ite_T, ite_F, sing_lt, sing_eq, ty_r, ty_s, isS, cut_mid, decide_eq_true_eq, if_pos, if_neg]
      refine ⟨_, _, _, rfl, ?_⟩
      rw [lst_set hl4, List.range_succ, List.map_append, ← hp]
      rfl
    · obtain ⟨a3, a4, a5, rfl, hq⟩ := I
      exact ⟨by unfold srcC; exact if_neg (by omega), _, _, _, _, rfl, hq⟩
  · rintro o ⟨a3, a4, a5, h, rfl, hq⟩
    simp (disch := first | omega | (simp only [List.length_append, List.length_cons, List.length_nil, List.length_set, List.length_drop, List.length_take, List.length_map]; omega)) only [hq, sv_nx, sv_rt, sv_ct, rnd_nx, rnd_ct, Int.toNat_natCast, ne_eq, eq_self, not_true_eq_false, not_false_eq_true, mVar_z, Nat.reduceAdd, Nat.zero_add, Int.zero_add, Int.reduceAdd, Int.reduceSub, Int.reduceNeg, ap_Lst, ap_Tup, nil_app, cons_app, List.length_append, lst_last, mVar_s, ok_bnd, ok_stm, exc_bnd, ev_okE, exc_stm, ap_C, ap_Op, ap_Un, ap_B, ap_Chain, ap_asB, ap_And, ap_Or, ap_Not, ap_AndV, ap_OrV, ap_NotV, ap_If, ap_Nil, ap_Cons, ap_CB, ap_Meth, ap_Part, ap_NoPart, ap_Sl, ap_Yes, add_ii, add_ss, sub_ii, neg_i, mul_ii, fdiv_ii, mod_ii, eq_ii, ne_ii, eq_ss, ne_ss, lt_ii, le_ii, gt_ii, ge_ii, lt_ss, gt_ss, le_ss, ge_ss, len_s, len_t, abs_i, int_i, int_b, max_ii, min_ii, ix_s, ixL_0, ixL_1, ixL_2, ixL_3, ixL_n, ixL_i, ixL_st, setL_n, setL_i, List.length_map, List.length_set, ix_r, getL_r, ix_tL, withL_s, setL_0, setL_1, setL_2, set_r, app_r, lst_z, lst_s, iadd_ii, tuple_r, mul_ri, sl_s, sl_rol, sl_t, sl_r, cut_from, cut_to, ap_Seq, nx_seq, rt_seq, ct_seq, bk_seq, exc_seq, ap_Raise, ap_Skip, ap_Brk, ap_Cnt, ap_Drop, ap_Ret, ap_IfS, ap_Set, ap_Ts, ap_AsgT, tgT_t, tgTs_n, tgTs_c, ap_Aug, ap_SetI, ap_AugI, mFor_ap, ap_Rng1, ap_Rng2, rng1_ok, rng2_ok, ap_Iter, src_t, src_s, src_rL, ap_Comp, wipe_n, wipe_c, len_cons, len_nil, zip_cc, zip_nn, foldl_c, foldl_n, set_z, set_s, ite_t, ite_f, ite_T, ite_F, sing_lt, sing_eq, ty_r, ty_s, isS, cut_mid, decide_eq_true_eq, if_pos, if_neg]
    exact ⟨_, rfl⟩
theorem inblocks_all {row : List Int} {m : Nat} (hG : GB (-1) row) (hl : row.length ≤ 50) (hm : 0 < m) (hm2 : m ≤ 100) (h : List O) : pureRun den_in_blocks 2 [T row, .int (m : Nat)] h = .ok (.tup (blks m row)) h := by
  obtain ⟨h', e⟩ : ∃ h', body_in_blocks (startE 6 [T row, .int (m : Nat)]) [] = .rt (.tup (blks m row)) h' := inblocks_sv row m hG hl hm hm2
  refine pure_of rfl ?_ (h' := h') (by unfold den_in_blocks mFun; rw [e]) (pure_blksT m row) h
  have := pureT row
  unfold pureWs at this ⊢
  rw [Bool.and_eq_true] at this
  rw [this.1]
  rfl
theorem inblocks_0 {row : List Int} (hG : GB (-1) row) (hl : row.length ≤ 50) (h : List O) : pureRun den_in_blocks 2 [T row, .int 0] h = .exc 1 none h := by
  have hck := check_all hG.rsg (fun z hz => by have := hG.gt z hz; omega) (by omega : row.length ≤ 1000)
  refine pure_exc rfl ?_ (h' := []) ?_ h
  · have := pureT row
    unfold pureWs at this ⊢
    rw [Bool.and_eq_true] at this
    rw [this.1]
    rfl
  · unfold den_in_blocks mFun body_in_blocks
    simp only [startE, List.map_cons, List.map_nil, List.length_cons, List.length_nil, List.cons_append, List.nil_append, Nat.zero_add, Nat.reduceAdd, Nat.reduceSub, List.replicate_succ, List.replicate_zero]
    have e1 : decide ((0 : Int) < 1) = true := rfl
    simp (disch := first | omega | (simp only [List.length_append, List.length_cons, List.length_nil, List.length_set, List.length_drop, List.length_take, List.length_map]; omega)) only [hck, e1, sv_nx, sv_rt, sv_ct, rnd_nx, rnd_ct, Int.toNat_natCast, ne_eq, eq_self, not_true_eq_false, not_false_eq_true, mVar_z, Nat.reduceAdd, Nat.zero_add, Int.zero_add, Int.reduceAdd, Int.reduceSub, Int.reduceNeg, ap_Lst, ap_Tup, nil_app, cons_app, List.length_append, lst_last, mVar_s, ok_bnd, ok_stm, exc_bnd, ev_okE, exc_stm, ap_C, ap_Op, ap_Un, ap_B, ap_Chain, ap_asB, ap_And, ap_Or, ap_Not, ap_AndV, ap_OrV, ap_NotV, ap_If, ap_Nil, ap_Cons, ap_CB, ap_Meth, ap_Part, ap_NoPart, ap_Sl, ap_Yes, add_ii, add_ss, sub_ii, neg_i, mul_ii, fdiv_ii, mod_ii, eq_ii, ne_ii, eq_ss, ne_ss, lt_ii, le_ii, gt_ii, ge_ii, lt_ss, gt_ss, le_ss, ge_ss, len_s, len_t, abs_i, int_i, int_b, max_ii, min_ii, ix_s, ixL_0, ixL_1, ixL_2, ixL_3, ixL_n, ixL_i, ixL_st, setL_n, setL_i, List.length_map, List.length_set, ix_r, getL_r, ix_tL, withL_s, setL_0, setL_1, setL_2, set_r, app_r, lst_z, lst_s, iadd_ii, tuple_r, mul_ri, sl_s, sl_rol, sl_t, sl_r, cut_from, cut_to, ap_Seq, nx_seq, rt_seq, ct_seq, bk_seq, exc_seq, ap_Raise, ap_Skip, ap_Brk, ap_Cnt, ap_Drop, ap_Ret, ap_IfS, ap_Set, ap_Ts, ap_AsgT, tgT_t, tgTs_n, tgTs_c, ap_Aug, ap_SetI, ap_AugI, mFor_ap, ap_Rng1, ap_Rng2, rng1_ok, rng2_ok, ap_Iter, src_t, src_s, src_rL, ap_Comp, wipe_n, wipe_c, len_cons, len_nil, zip_cc, zip_nn, foldl_c, foldl_n, set_z, set_s, ite_t, ite_f, ite_T, ite_F, sing_lt, sing_eq, ty_r, ty_s, isS, cut_mid, decide_eq_true_eq, if_pos, if_neg]
end Law_indexhall_k05_rows_coded
set_option maxRecDepth 100000
set_option maxHeartbeats 1000000
namespace Law_indexhall_k05_rows_coded
open PySem L2 Den K05
theorem rsg_last : ∀ {r : List Int} {x : Int}, Rsg (x :: r) → ∀ z ∈ x :: r, x ≤ z ∧ z ≤ (x :: r).getLastD 0
  | [], x, _, z, hz => by
    have : z = x := by simpa using hz
    subst this
    exact ⟨Int.le_refl _, Int.le_refl _⟩
  | y :: r, x, h, z, hz => by
    have h1 := List.pairwise_cons.1 h
    have e : (x :: y :: r).getLastD 0 = (y :: r).getLastD 0 := by simp [List.getLastD]
    have ih := rsg_last (x := y) (r := r) h1.2
    have hxy := h1.1 y List.mem_cons_self
    rw [e]
    rcases List.mem_cons.1 hz with rfl | hz
    · have := ih y List.mem_cons_self
      omega
    · have := ih z hz
      omega
theorem last_mem {x : Int} {r : List Int} : (x :: r).getLastD 0 ∈ x :: r := by
  rw [List.getLastD_eq_getLast?, List.getLast?_eq_some_getLast (by simp)]
  exact List.getLast_mem _
theorem row_split {m : Nat} {row : List Int} {k : Nat} : row = row.take (m * k) ++ (part m row k ++ row.drop (m * (k + 1))) := by
  rw [← List.append_assoc, part_next, List.take_append_drop]
theorem mem_part {m : Nat} {row : List Int} {k : Nat} {x n : Int} {r : List Int} (hr : Rsg row) (hp : part m row k = x :: r) (h1 : x ≤ n) (h2 : n ≤ (x :: r).getLastD 0) : n ∈ row ↔ n ∈ x :: r := by
  have e := row_split (m := m) (row := row) (k := k)
  rw [hp] at e
  have q : Rsg (row.take (m * k) ++ (x :: r ++ row.drop (m * (k + 1)))) := by rw [← e]; exact hr
  have q1 := List.pairwise_append.1 q
  have q2 := List.pairwise_append.1 q1.2.1
  constructor
  · intro hn
    rw [e] at hn
    rcases List.mem_append.1 hn with z | z
    · have := q1.2.2 n z x (by simp)
      omega
    · rcases List.mem_append.1 z with z | z
      · exact z
      · have := q2.2.2 _ last_mem n z
        omega
  · intro hn
    rw [e]
    exact List.mem_append_right _ (List.mem_append_left _ hn)
theorem rsg_part {m : Nat} {row : List Int} {k : Nat} {x : Int} {r : List Int} (hr : Rsg row) (hp : part m row k = x :: r) : Rsg (x :: r) := by
  have e := row_split (m := m) (row := row) (k := k)
  rw [hp] at e
  have q : Rsg (row.take (m * k) ++ (x :: r ++ row.drop (m * (k + 1)))) := by rw [← e]; exact hr
  exact (List.pairwise_append.1 (List.pairwise_append.1 q).2.1).1
theorem blks_get {m : Nat} {row : List Int} {i : Nat} (hi : i < nb m row.length) : (blks m row)[i]? = some (blkW (part m row i)) := by
  unfold blks
  rw [List.getElem?_map, List.getElem?_range hi]
  rfl
theorem ofblocks_sv (row : List Int) (m : Nat) (hG : GB (-1) row) (hl : row.length ≤ 50) (hm : 0 < m) (hm2 : m ≤ 100) : Sv (body_of_blocks (startE 6 [.tup (blks m row)]) []) (fun o => ∃ h, o = .rt (T row) h) := by
  have hck := check_all hG.rsg (fun z hz => by have := hG.gt z hz; omega) (by omega : row.length ≤ 1000)
  have hnb := nb_le (m := m) (n := row.length) hm
  have hnb2 := nb_ge (m := m) (n := row.length) hm
  unfold body_of_blocks
  simp only [startE, List.map_cons, List.map_nil, List.length_cons, List.length_nil, List.cons_append, List.nil_append, Nat.zero_add, Nat.reduceAdd, Nat.reduceSub, List.replicate_succ, List.replicate_zero]
  simp (disch := first | omega | (simp only [List.length_append, List.length_cons, List.length_nil, List.length_set, List.length_drop, List.length_take, List.length_map]; omega)) only [sv_nx, sv_rt, sv_ct, rnd_nx, rnd_ct, Int.toNat_natCast, ne_eq, eq_self, not_true_eq_false, not_false_eq_true, mVar_z, Nat.reduceAdd, Nat.zero_add, Int.zero_add, Int.reduceAdd, Int.reduceSub, Int.reduceNeg, ap_Lst, ap_Tup, nil_app, cons_app, List.length_append, lst_last, mVar_s, ok_bnd, ok_stm, exc_bnd, ev_okE, exc_stm, ap_C, ap_Op, ap_Un, ap_B, ap_Chain, ap_asB, ap_And, ap_Or, ap_Not, ap_AndV, ap_OrV, ap_NotV, ap_If, ap_Nil, ap_Cons, ap_CB, ap_Meth, ap_Part, ap_NoPart, ap_Sl, ap_Yes, add_ii, add_ss, sub_ii, neg_i, mul_ii, fdiv_ii, mod_ii, eq_ii, ne_ii, eq_ss, ne_ss, lt_ii, le_ii, gt_ii, ge_ii, lt_ss, gt_ss, le_ss, ge_ss, len_s, len_t, abs_i, int_i, int_b, max_ii, min_ii, ix_s, ixL_0, ixL_1, ixL_2, ixL_3, ixL_n, ixL_i, ixL_st, setL_n, setL_i, List.length_map, List.length_set, ix_r, getL_r, ix_tL, withL_s, setL_0, setL_1, setL_2, set_r, app_r, lst_z, lst_s, iadd_ii, tuple_r, mul_ri, sl_s, sl_rol, sl_t, sl_r, cut_from, cut_to, ap_Seq, nx_seq, rt_seq, ct_seq, bk_seq, exc_seq, ap_Raise, ap_Skip, ap_Brk, ap_Cnt, ap_Drop, ap_Ret, ap_IfS, ap_Set, ap_Ts, ap_AsgT, tgT_t, tgTs_n, tgTs_c, ap_Aug, ap_SetI, ap_AugI, mFor_ap, ap_Rng1, ap_Rng2, rng1_ok, rng2_ok, ap_Iter, src_t, src_s, src_rL, ap_Comp, wipe_n, wipe_c, len_cons, len_nil, zip_cc, zip_nn, foldl_c, foldl_n, set_z, set_s, ite_t, ite_f, ite_T, ite_F, sing_lt, sing_eq, ty_r, ty_s, isS, cut_mid, decide_eq_true_eq, if_pos, if_neg]
  refine sv_cut (R' := fun o => ∃ (a2 a3 a4 a5 : Option W) (h : List O), o = SOut.nx [some (.tup (blks m row)), some (.ref 0), a2, a3, a4, a5] h ∧ lstAt h 0 = some (row.map .int)) ?_ ?_
  · refine forGo_sv (nb m row.length) (fun i e h => ∃ (a2 a3 a4 a5 : Option W), e = [some (.tup (blks m row)), some (.ref 0), a2, a3, a4, a5] ∧ lstAt h 0 = some ((row.take (m * i)).map .int)) (fun i e h hi I => ?_) (fun e h I => ?_) _ 0 _ _ (by omega) (by omega) ⟨_, _, _, _, rfl, by rw [Nat.mul_zero, List.take_zero]; rfl⟩
    · obtain ⟨a2, a3, a4, a5, rfl, hq⟩ := I
      have hlt := nb_lt hm hi
      obtain ⟨x, r, hp, hg, hrl⟩ := part_cons hm hlt hG
      have hpl : (x :: r).length ≤ row.length := by rw [← hp]; unfold part; rw [List.length_take, List.length_drop]; omega
      refine ⟨_, _, by unfold srcL; rw [blks_get hi, hp], rfl, ?_⟩
      simp only [set_s, set_z, List.headD_cons]
      obtain ⟨h1, ed, g1⟩ := decoded_row hg.shift (by rw [List.length_map]; omega) h
      simp (disch := first | omega | (simp only [List.length_append, List.length_cons, List.length_nil, List.length_set, List.length_drop, List.length_take, List.length_map]; omega)) only [hq, ed, sv_nx, sv_rt, sv_ct, rnd_nx, rnd_ct, Int.toNat_natCast, ne_eq, eq_self, not_true_eq_false, not_false_eq_true, mVar_z, Nat.reduceAdd, Nat.zero_add, Int.zero_add, Int.reduceAdd, Int.reduceSub, Int.reduceNeg, ap_Lst, ap_Tup, nil_app, cons_app, List.length_append, lst_last, mVar_s, ok_bnd, ok_stm, exc_bnd, ev_okE, exc_stm, ap_C, ap_Op, ap_Un, ap_B, ap_Chain, ap_asB, ap_And, ap_Or, ap_Not, ap_AndV, ap_OrV, ap_NotV, ap_If, ap_Nil, ap_Cons, ap_CB, ap_Meth, ap_Part, ap_NoPart, ap_Sl, ap_Yes, add_ii, add_ss, sub_ii, neg_i, mul_ii, fdiv_ii, mod_ii, eq_ii, ne_ii, eq_ss, ne_ss, lt_ii, le_ii, gt_ii, ge_ii, lt_ss, gt_ss, le_ss, ge_ss, len_s, len_t, abs_i, int_i, int_b, max_ii, min_ii, ix_s, ixL_0, ixL_1, ixL_2, ixL_3, ixL_n, ixL_i, ixL_st, setL_n, setL_i, List.length_map, List.length_set, ix_r, getL_r, ix_tL, withL_s, setL_0, setL_1, setL_2, set_r, app_r, lst_z, lst_s, iadd_ii, tuple_r, mul_ri, sl_s, sl_rol, sl_t, sl_r, cut_from, cut_to, ap_Seq, nx_seq, rt_seq, ct_seq, bk_seq, exc_seq, ap_Raise, ap_Skip, ap_Brk, ap_Cnt, ap_Drop, ap_Ret, ap_IfS, ap_Set, ap_Ts, ap_AsgT, tgT_t, tgTs_n, tgTs_c, ap_Aug, ap_SetI, ap_AugI, mFor_ap, ap_Rng1, ap_Rng2, rng1_ok, rng2_ok, ap_Iter, src_t, src_s, src_rL, ap_Comp, wipe_n, wipe_c, len_cons, len_nil, zip_cc, zip_nn, foldl_c, foldl_n, set_z, set_s, ite_t, ite_f, ite_T, ite_F, sing_lt, sing_eq, ty_r, ty_s, isS, cut_mid, decide_eq_true_eq, if_pos, if_neg]
      repeat (first | with_reducible apply sv_seq | with_reducible apply sv_stm | with_reducible apply ev_bnd)
      refine comp_tup (n := 100000) (v := 5) ((x :: r).map fun z => z - x) W.int (by rw [List.length_map]; omega) (by rw [List.length_map]; omega) (fun _ => true) (fun z => .int (x + z)) (fun z hz h' G => ?_) (fun z hz _ h' G => ?_) (fun h' G => ?_)
      · exact ⟨rfl, Gr.refl⟩
      · simp (disch := first | omega | (simp only [List.length_append, List.length_cons, List.length_nil, List.length_set, List.length_drop, List.length_take, List.length_map]; omega)) only [sv_nx, sv_rt, sv_ct, rnd_nx, rnd_ct, Int.toNat_natCast, ne_eq, eq_self, not_true_eq_false, not_false_eq_true, mVar_z, Nat.reduceAdd, Nat.zero_add, Int.zero_add, Int.reduceAdd, Int.reduceSub, Int.reduceNeg, ap_Lst, ap_Tup, nil_app, cons_app, List.length_append, lst_last, mVar_s, ok_bnd, ok_stm, exc_bnd, ev_okE, exc_stm, ap_C, ap_Op, ap_Un, ap_B, ap_Chain, ap_asB, ap_And, ap_Or, ap_Not, ap_AndV, ap_OrV, ap_NotV, ap_If, ap_Nil, ap_Cons, ap_CB, ap_Meth, ap_Part, ap_NoPart, ap_Sl, ap_Yes, add_ii, add_ss, sub_ii, neg_i, mul_ii, fdiv_ii, mod_ii, eq_ii, ne_ii, eq_ss, ne_ss, lt_ii, le_ii, gt_ii, ge_ii, lt_ss, gt_ss, le_ss, ge_ss, len_s, len_t, abs_i, int_i, int_b, max_ii, min_ii, ix_s, ixL_0, ixL_1, ixL_2, ixL_3, ixL_n, ixL_i, ixL_st, setL_n, setL_i, List.length_map, List.length_set, ix_r, getL_r, ix_tL, withL_s, setL_0, setL_1, setL_2, set_r, app_r, lst_z, lst_s, iadd_ii, tuple_r, mul_ri, sl_s, sl_rol, sl_t, sl_r, cut_from, cut_to, ap_Seq, nx_seq, rt_seq, ct_seq, bk_seq, exc_seq, ap_Raise, ap_Skip, ap_Brk, ap_Cnt, ap_Drop, ap_Ret, ap_IfS, ap_Set, ap_Ts, ap_AsgT, tgT_t, tgTs_n, tgTs_c, ap_Aug, ap_SetI, ap_AugI, mFor_ap, ap_Rng1, ap_Rng2, rng1_ok, rng2_ok, ap_Iter, src_t, src_s, src_rL, ap_Comp, wipe_n, wipe_c, len_cons, len_nil, zip_cc, zip_nn, foldl_c, foldl_n, set_z, set_s, ite_t, ite_f, ite_T, ite_F, sing_lt, sing_eq, ty_r, ty_s, isS, cut_mid, decide_eq_true_eq, if_pos, if_neg]
        exact ⟨trivial, Gr.refl⟩
      · have hq2 := G.lastL
        have em : (List.map (fun z => W.int (x + z)) ((x :: r).map fun z => z - x)) = (x :: r).map W.int := by
          rw [List.map_map]
          refine List.map_congr_left fun z _ => ?_
          show W.int (x + (z - x)) = _
          rw [show x + (z - x) = z by omega]
        rw [List.filter_eq_self.2 (fun _ _ => rfl), em] at hq2
        have hq3 := (g1.trans G.left).lst hq
        have hext := extend_eq hq3 hq2 (by rw [List.length_map, List.length_map, List.length_take]; omega)
        have hl4 := lst_lt hq3
        simp (disch := first | omega | (simp only [List.length_append, List.length_cons, List.length_nil, List.length_set, List.length_drop, List.length_take, List.length_map]; omega)) only [hq3, hext, sv_nx, sv_rt, sv_ct, rnd_nx, rnd_ct, Int.toNat_natCast, ne_eq, eq_self, not_true_eq_false, not_false_eq_true, mVar_z, Nat.reduceAdd, Nat.zero_add, Int.zero_add, Int.reduceAdd, Int.reduceSub, Int.reduceNeg, ap_Lst, ap_Tup, nil_app, cons_app, List.length_append, lst_last, mVar_s, ok_bnd, ok_stm, exc_bnd, ev_okE, exc_stm, ap_C, ap_Op, ap_Un, ap_B, ap_Chain, ap_asB, ap_And, ap_Or, ap_Not, ap_AndV, ap_OrV, ap_NotV, ap_If, ap_Nil, ap_Cons, ap_CB, ap_Meth, ap_Part, ap_NoPart, ap_Sl, ap_Yes, add_ii, add_ss, sub_ii, neg_i, mul_ii, fdiv_ii, mod_ii, eq_ii, ne_ii, eq_ss, ne_ss, lt_ii, le_ii, gt_ii, ge_ii, lt_ss, gt_ss, le_ss, ge_ss, len_s, len_t, abs_i, int_i, int_b, max_ii, min_ii, ix_s, ixL_0, ixL_1, ixL_2, ixL_3, ixL_n, ixL_i, ixL_st, setL_n, setL_i, List.length_map, List.length_set, ix_r, getL_r, ix_tL, withL_s, setL_0, setL_1, setL_2, set_r, app_r, lst_z, lst_s, iadd_ii, tuple_r, mul_ri, sl_s, sl_rol, sl_t, sl_r, cut_from, cut_to, ap_Seq, nx_seq, rt_seq, ct_seq, bk_seq, exc_seq, ap_Raise, ap_Skip, ap_Brk, ap_Cnt, ap_Drop, ap_Ret, ap_IfS, ap_Set, ap_Ts, ap_AsgT, tgT_t, tgTs_n, tgTs_c, ap_Aug, ap_SetI, ap_AugI, mFor_ap, ap_Rng1, ap_Rng2, rng1_ok, rng2_ok, ap_Iter, src_t, src_s, src_rL, ap_Comp, wipe_n, wipe_c, len_cons, len_nil, zip_cc, zip_nn, foldl_c, foldl_n, set_z, set_s, ite_t, ite_f, ite_T, ite_F, sing_lt, sing_eq, ty_r, ty_s, isS, cut_mid, decide_eq_true_eq, if_pos, if_neg]
        refine ⟨_, _, _, _, rfl, ?_⟩
        rw [lst_set hl4, ← hp, ← List.map_append, part_next]
    · obtain ⟨a2, a3, a4, a5, rfl, hq⟩ := I
      rw [List.take_of_length_le hnb2] at hq
      exact ⟨by unfold srcL; rw [List.getElem?_eq_none (by rw [blks_len]; omega)], _, _, _, _, _, rfl, hq⟩
  · rintro o ⟨a2, a3, a4, a5, h, rfl, hq⟩
    simp (disch := first | omega | (simp only [List.length_append, List.length_cons, List.length_nil, List.length_set, List.length_drop, List.length_take, List.length_map]; omega)) only [hq, hck, sv_nx, sv_rt, sv_ct, rnd_nx, rnd_ct, Int.toNat_natCast, ne_eq, eq_self, not_true_eq_false, not_false_eq_true, mVar_z, Nat.reduceAdd, Nat.zero_add, Int.zero_add, Int.reduceAdd, Int.reduceSub, Int.reduceNeg, ap_Lst, ap_Tup, nil_app, cons_app, List.length_append, lst_last, mVar_s, ok_bnd, ok_stm, exc_bnd, ev_okE, exc_stm, ap_C, ap_Op, ap_Un, ap_B, ap_Chain, ap_asB, ap_And, ap_Or, ap_Not, ap_AndV, ap_OrV, ap_NotV, ap_If, ap_Nil, ap_Cons, ap_CB, ap_Meth, ap_Part, ap_NoPart, ap_Sl, ap_Yes, add_ii, add_ss, sub_ii, neg_i, mul_ii, fdiv_ii, mod_ii, eq_ii, ne_ii, eq_ss, ne_ss, lt_ii, le_ii, gt_ii, ge_ii, lt_ss, gt_ss, le_ss, ge_ss, len_s, len_t, abs_i, int_i, int_b, max_ii, min_ii, ix_s, ixL_0, ixL_1, ixL_2, ixL_3, ixL_n, ixL_i, ixL_st, setL_n, setL_i, List.length_map, List.length_set, ix_r, getL_r, ix_tL, withL_s, setL_0, setL_1, setL_2, set_r, app_r, lst_z, lst_s, iadd_ii, tuple_r, mul_ri, sl_s, sl_rol, sl_t, sl_r, cut_from, cut_to, ap_Seq, nx_seq, rt_seq, ct_seq, bk_seq, exc_seq, ap_Raise, ap_Skip, ap_Brk, ap_Cnt, ap_Drop, ap_Ret, ap_IfS, ap_Set, ap_Ts, ap_AsgT, tgT_t, tgTs_n, tgTs_c, ap_Aug, ap_SetI, ap_AugI, mFor_ap, ap_Rng1, ap_Rng2, rng1_ok, rng2_ok, ap_Iter, src_t, src_s, src_rL, ap_Comp, wipe_n, wipe_c, len_cons, len_nil, zip_cc, zip_nn, foldl_c, foldl_n, set_z, set_s, ite_t, ite_f, ite_T, ite_F, sing_lt, sing_eq, ty_r, ty_s, isS, cut_mid, decide_eq_true_eq, if_pos, if_neg]
    exact ⟨_, rfl⟩
theorem pure_one {w : W} (h : pureW w = true) : pureWs [w] = true := by unfold pureWs; rw [h]; rfl
theorem pure_T (l : List Int) : pureW (T l) = true := by unfold pureW; exact pure_ints l
theorem ofblocks_all {row : List Int} {m : Nat} (hG : GB (-1) row) (hl : row.length ≤ 50) (hm : 0 < m) (hm2 : m ≤ 100) (h : List O) : pureRun den_of_blocks 1 [.tup (blks m row)] h = .ok (T row) h := by
  obtain ⟨h', e⟩ : ∃ h', body_of_blocks (startE 6 [.tup (blks m row)]) [] = .rt (T row) h' := ofblocks_sv row m hG hl hm hm2
  exact pure_of rfl (pure_one (pure_blksT m row)) (h' := h') (by unfold den_of_blocks mFun; rw [e]) (pure_T row) h
theorem inblock_sv (row : List Int) (m : Nat) (n : Int) (hG : GB (-1) row) (hl : row.length ≤ 50) (hm : 0 < m) (hm2 : m ≤ 100) : Sv (body_in_block (startE 5 [.tup (blks m row), .int n]) []) (fun o => ∃ h, o = .rt (.bl (decide (n ∈ row))) h) := by
  have hnb := nb_le (m := m) (n := row.length) hm
  have hnb2 := nb_ge (m := m) (n := row.length) hm
  unfold body_in_block
  simp only [startE, List.map_cons, List.map_nil, List.length_cons, List.length_nil, List.cons_append, List.nil_append, Nat.zero_add, Nat.reduceAdd, Nat.reduceSub, List.replicate_succ, List.replicate_zero]
  simp (disch := first | omega | (simp only [List.length_append, List.length_cons, List.length_nil, List.length_set, List.length_drop, List.length_take, List.length_map]; omega)) only [sv_nx, sv_rt, sv_ct, rnd_nx, rnd_ct, Int.toNat_natCast, ne_eq, eq_self, not_true_eq_false, not_false_eq_true, mVar_z, Nat.reduceAdd, Nat.zero_add, Int.zero_add, Int.reduceAdd, Int.reduceSub, Int.reduceNeg, ap_Lst, ap_Tup, nil_app, cons_app, List.length_append, lst_last, mVar_s, ok_bnd, ok_stm, exc_bnd, ev_okE, exc_stm, ap_C, ap_Op, ap_Un, ap_B, ap_Chain, ap_asB, ap_And, ap_Or, ap_Not, ap_AndV, ap_OrV, ap_NotV, ap_If, ap_Nil, ap_Cons, ap_CB, ap_Meth, ap_Part, ap_NoPart, ap_Sl, ap_Yes, add_ii, add_ss, sub_ii, neg_i, mul_ii, fdiv_ii, mod_ii, eq_ii, ne_ii, eq_ss, ne_ss, lt_ii, le_ii, gt_ii, ge_ii, lt_ss, gt_ss, le_ss, ge_ss, len_s, len_t, abs_i, int_i, int_b, max_ii, min_ii, ix_s, ixL_0, ixL_1, ixL_2, ixL_3, ixL_n, ixL_i, ixL_st, setL_n, setL_i, List.length_map, List.length_set, ix_r, getL_r, ix_tL, withL_s, setL_0, setL_1, setL_2, set_r, app_r, lst_z, lst_s, iadd_ii, tuple_r, mul_ri, sl_s, sl_rol, sl_t, sl_r, cut_from, cut_to, ap_Seq, nx_seq, rt_seq, ct_seq, bk_seq, exc_seq, ap_Raise, ap_Skip, ap_Brk, ap_Cnt, ap_Drop, ap_Ret, ap_IfS, ap_Set, ap_Ts, ap_AsgT, tgT_t, tgTs_n, tgTs_c, ap_Aug, ap_SetI, ap_AugI, mFor_ap, ap_Rng1, ap_Rng2, rng1_ok, rng2_ok, ap_Iter, src_t, src_s, src_rL, ap_Comp, wipe_n, wipe_c, len_cons, len_nil, zip_cc, zip_nn, foldl_c, foldl_n, set_z, set_s, ite_t, ite_f, ite_T, ite_F, sing_lt, sing_eq, ty_r, ty_s, isS, cut_mid, decide_eq_true_eq, if_pos, if_neg]
  refine sv_cut (R' := fun o => (∃ h, o = .rt (.bl (decide (n ∈ row))) h) ∨ (∃ e h, o = .nx e h ∧ n ∉ row)) ?_ ?_
  · refine forGo_sv (nb m row.length) (fun i e h => ∃ (a2 a3 a4 : Option W), e = [some (.tup (blks m row)), some (.int n), a2, a3, a4] ∧ n ∉ row.take (m * i)) (fun i e h hi I => ?_) (fun e h I => ?_) _ 0 _ _ (by omega) (by omega) ⟨_, _, _, rfl, by rw [Nat.mul_zero, List.take_zero]; simp⟩
    · obtain ⟨a2, a3, a4, rfl, hq⟩ := I
      have hlt := nb_lt hm hi
      obtain ⟨x, r, hp, hg, hrl⟩ := part_cons hm hlt hG
      have hpl : (x :: r).length ≤ row.length := by rw [← hp]; unfold part; rw [List.length_take, List.length_drop]; omega
      have hrs := rsg_part hG.rsg hp
      refine ⟨_, _, by unfold srcL; rw [blks_get hi, hp], rfl, ?_⟩
      simp only [set_s, set_z, List.headD_cons]
      obtain ⟨h1, ed, g1⟩ := decoded_row hg.shift (by rw [List.length_map]; omega) h
      have skip : ¬ (x ≤ n ∧ n ≤ (x :: r).getLastD 0) → n ∉ row.take (m * (i + 1)) := fun hno hin => by
        rw [← part_next, hp] at hin
        rcases List.mem_append.1 hin with z | z
        · exact hq z
        · exact hno (rsg_last hrs n z)
      by_cases c1 : x ≤ n
      · by_cases c2 : n ≤ (x :: r).getLastD 0
        · have d1 : decide (x ≤ n) = true := decide_eq_true c1
          have d2 : decide (n ≤ (x :: r).getLastD 0) = true := decide_eq_true c2
          generalize hla : (x :: r).getLastD 0 = la at *
          have hin : oIn (.int (n - x)) (T ((x :: r).map fun z => z - x)) h1 = .ok (.bl (decide (n ∈ row))) h1 := by
            rw [in_it]
            congr 2
            rw [decide_eq_decide, mem_part hG.rsg hp c1 (by rw [hla]; exact c2), List.mem_map]
            constructor
            · rintro ⟨z, hz, e⟩
              have : z = n := by omega
              rw [← this]; exact hz
            · intro hz
              exact ⟨n, hz, rfl⟩
          simp (disch := first | omega | (simp only [List.length_append, List.length_cons, List.length_nil, List.length_set, List.length_drop, List.length_take, List.length_map]; omega)) only [d1, d2, ed, hin, sv_nx, sv_rt, sv_ct, rnd_nx, rnd_ct, Int.toNat_natCast, ne_eq, eq_self, not_true_eq_false, not_false_eq_true, mVar_z, Nat.reduceAdd, Nat.zero_add, Int.zero_add, Int.reduceAdd, Int.reduceSub, Int.reduceNeg, ap_Lst, ap_Tup, nil_app, cons_app, List.length_append, lst_last, mVar_s, ok_bnd, ok_stm, exc_bnd, ev_okE, exc_stm, ap_C, ap_Op, ap_Un, ap_B, ap_Chain, ap_asB, ap_And, ap_Or, ap_Not, ap_AndV, ap_OrV, ap_NotV, ap_If, ap_Nil, ap_Cons, ap_CB, ap_Meth, ap_Part, ap_NoPart, ap_Sl, ap_Yes, add_ii, add_ss, sub_ii, neg_i, mul_ii, fdiv_ii, mod_ii, eq_ii, ne_ii, eq_ss, ne_ss, lt_ii, le_ii, gt_ii, ge_ii, lt_ss, gt_ss, le_ss, ge_ss, len_s, len_t, abs_i, int_i, int_b, max_ii, min_ii, ix_s, ixL_0, ixL_1, ixL_2, ixL_3, ixL_n, ixL_i, ixL_st, setL_n, setL_i, List.length_map, List.length_set, ix_r, getL_r, ix_tL, withL_s, setL_0, setL_1, setL_2, set_r, app_r, lst_z, lst_s, iadd_ii, tuple_r, mul_ri, sl_s, sl_rol, sl_t, sl_r, cut_from, cut_to, ap_Seq, nx_seq, rt_seq, ct_seq, bk_seq, exc_seq, ap_Raise, ap_Skip, ap_Brk, ap_Cnt, ap_Drop, ap_Ret, ap_IfS, ap_Set, ap_Ts, ap_AsgT, tgT_t, tgTs_n, tgTs_c, ap_Aug, ap_SetI, ap_AugI, mFor_ap, ap_Rng1, ap_Rng2, rng1_ok, rng2_ok, ap_Iter, src_t, src_s, src_rL, ap_Comp, wipe_n, wipe_c, len_cons, len_nil, zip_cc, zip_nn, foldl_c, foldl_n, set_z, set_s, ite_t, ite_f, ite_T, ite_F, sing_lt, sing_eq, ty_r, ty_s, isS, cut_mid, decide_eq_true_eq, if_pos, if_neg]
          exact .inl ⟨_, rfl⟩
        · have d1 : decide (x ≤ n) = true := decide_eq_true c1
          have d2 : decide (n ≤ (x :: r).getLastD 0) = false := decide_eq_false c2
          have hs := skip (fun q => c2 q.2)
          generalize (x :: r).getLastD 0 = la at *
          simp (disch := first | omega | (simp only [List.length_append, List.length_cons, List.length_nil, List.length_set, List.length_drop, List.length_take, List.length_map]; omega)) only [d1, d2, sv_nx, sv_rt, sv_ct, rnd_nx, rnd_ct, Int.toNat_natCast, ne_eq, eq_self, not_true_eq_false, not_false_eq_true, mVar_z, Nat.reduceAdd, Nat.zero_add, Int.zero_add, Int.reduceAdd, Int.reduceSub, Int.reduceNeg, ap_Lst, ap_Tup, nil_app, cons_app, List.length_append, lst_last, mVar_s, ok_bnd, ok_stm, exc_bnd, ev_okE, exc_stm, ap_C, ap_Op, ap_Un, ap_B, ap_Chain, ap_asB, ap_And, ap_Or, ap_Not, ap_AndV, ap_OrV, ap_NotV, ap_If, ap_Nil, ap_Cons, ap_CB, ap_Meth, ap_Part, ap_NoPart, ap_Sl, ap_Yes, add_ii, add_ss, sub_ii, neg_i, mul_ii, fdiv_ii, mod_ii, eq_ii, ne_ii, eq_ss, ne_ss, lt_ii, le_ii, gt_ii, ge_ii, lt_ss, gt_ss, le_ss, ge_ss, len_s, len_t, abs_i, int_i, int_b, max_ii, min_ii, ix_s, ixL_0, ixL_1, ixL_2, ixL_3, ixL_n, ixL_i, ixL_st, setL_n, setL_i, List.length_map, List.length_set, ix_r, getL_r, ix_tL, withL_s, setL_0, setL_1, setL_2, set_r, app_r, lst_z, lst_s, iadd_ii, tuple_r, mul_ri, sl_s, sl_rol, sl_t, sl_r, cut_from, cut_to, ap_Seq, nx_seq, rt_seq, ct_seq, bk_seq, exc_seq, ap_Raise, ap_Skip, ap_Brk, ap_Cnt, ap_Drop, ap_Ret, ap_IfS, ap_Set, ap_Ts, ap_AsgT, tgT_t, tgTs_n, tgTs_c, ap_Aug, ap_SetI, ap_AugI, mFor_ap, ap_Rng1, ap_Rng2, rng1_ok, rng2_ok, ap_Iter, src_t, src_s, src_rL, ap_Comp, wipe_n, wipe_c, len_cons, len_nil, zip_cc, zip_nn, foldl_c, foldl_n, set_z, set_s, ite_t, ite_f, ite_T, ite_F, sing_lt, sing_eq, ty_r, ty_s, isS, cut_mid, decide_eq_true_eq, if_pos, if_neg]
          exact ⟨_, _, _, rfl, hs⟩
      · have d1 : decide (x ≤ n) = false := decide_eq_false c1
        have hs := skip (fun q => c1 q.1)
        simp (disch := first | omega | (simp only [List.length_append, List.length_cons, List.length_nil, List.length_set, List.length_drop, List.length_take, List.length_map]; omega)) only [d1, sv_nx, sv_rt, sv_ct, rnd_nx, rnd_ct, Int.toNat_natCast, ne_eq, eq_self, not_true_eq_false, not_false_eq_true, mVar_z, Nat.reduceAdd, Nat.zero_add, Int.zero_add, Int.reduceAdd, Int.reduceSub, Int.reduceNeg, ap_Lst, ap_Tup, nil_app, cons_app, List.length_append, lst_last, mVar_s, ok_bnd, ok_stm, exc_bnd, ev_okE, exc_stm, ap_C, ap_Op, ap_Un, ap_B, ap_Chain, ap_asB, ap_And, ap_Or, ap_Not, ap_AndV, ap_OrV, ap_NotV, ap_If, ap_Nil, ap_Cons, ap_CB, ap_Meth, ap_Part, ap_NoPart, ap_Sl, ap_Yes, add_ii, add_ss, sub_ii, neg_i, mul_ii, fdiv_ii, mod_ii, eq_ii, ne_ii, eq_ss, ne_ss, lt_ii, le_ii, gt_ii, ge_ii, lt_ss, gt_ss, le_ss, ge_ss, len_s, len_t, abs_i, int_i, int_b, max_ii, min_ii, ix_s, ixL_0, ixL_1, ixL_2, ixL_3, ixL_n, ixL_i, ixL_st, setL_n, setL_i, List.length_map, List.length_set, ix_r, getL_r, ix_tL, withL_s, setL_0, setL_1, setL_2, set_r, app_r, lst_z, lst_s, iadd_ii, tuple_r, mul_ri, sl_s, sl_rol, sl_t, sl_r, cut_from, cut_to, ap_Seq, nx_seq, rt_seq, ct_seq, bk_seq, exc_seq, ap_Raise, ap_Skip, ap_Brk, ap_Cnt, ap_Drop, ap_Ret, ap_IfS, ap_Set, ap_Ts, ap_AsgT, tgT_t, tgTs_n, tgTs_c, ap_Aug, ap_SetI, ap_AugI, mFor_ap, ap_Rng1, ap_Rng2, rng1_ok, rng2_ok, ap_Iter, src_t, src_s, src_rL, ap_Comp, wipe_n, wipe_c, len_cons, len_nil, zip_cc, zip_nn, foldl_c, foldl_n, set_z, set_s, ite_t, ite_f, ite_T, ite_F, sing_lt, sing_eq, ty_r, ty_s, isS, cut_mid, decide_eq_true_eq, if_pos, if_neg]
        exact ⟨_, _, _, rfl, hs⟩
    · obtain ⟨a2, a3, a4, rfl, hq⟩ := I
      rw [List.take_of_length_le hnb2] at hq
      exact ⟨by unfold srcL; rw [List.getElem?_eq_none (by rw [blks_len]; omega)], .inr ⟨_, _, rfl, hq⟩⟩
  · rintro o (⟨h, rfl⟩ | ⟨e, h, rfl, hn⟩)
    · exact ⟨_, rfl⟩
    · simp (disch := first | omega | (simp only [List.length_append, List.length_cons, List.length_nil, List.length_set, List.length_drop, List.length_take, List.length_map]; omega)) only [sv_nx, sv_rt, sv_ct, rnd_nx, rnd_ct, Int.toNat_natCast, ne_eq, eq_self, not_true_eq_false, not_false_eq_true, mVar_z, Nat.reduceAdd, Nat.zero_add, Int.zero_add, Int.reduceAdd, Int.reduceSub, Int.reduceNeg, ap_Lst, ap_Tup, nil_app, cons_app, List.length_append, lst_last, mVar_s, ok_bnd, ok_stm, exc_bnd, ev_okE, exc_stm, ap_C, ap_Op, ap_Un, ap_B, ap_Chain, ap_asB, ap_And, ap_Or, ap_Not, ap_AndV, ap_OrV, ap_NotV, ap_If, ap_Nil, ap_Cons, ap_CB, ap_Meth, ap_Part, ap_NoPart, ap_Sl, ap_Yes, add_ii, add_ss, sub_ii, neg_i, mul_ii, fdiv_ii, mod_ii, eq_ii, ne_ii, eq_ss, ne_ss, lt_ii, le_ii, gt_ii, ge_ii, lt_ss, gt_ss, le_ss, ge_ss, len_s, len_t, abs_i, int_i, int_b, max_ii, min_ii, ix_s, ixL_0, ixL_1, ixL_2, ixL_3, ixL_n, ixL_i, ixL_st, setL_n, setL_i, List.length_map, List.length_set, ix_r, getL_r, ix_tL, withL_s, setL_0, setL_1, setL_2, set_r, app_r, lst_z, lst_s, iadd_ii, tuple_r, mul_ri, sl_s, sl_rol, sl_t, sl_r, cut_from, cut_to, ap_Seq, nx_seq, rt_seq, ct_seq, bk_seq, exc_seq, ap_Raise, ap_Skip, ap_Brk, ap_Cnt, ap_Drop, ap_Ret, ap_IfS, ap_Set, ap_Ts, ap_AsgT, tgT_t, tgTs_n, tgTs_c, ap_Aug, ap_SetI, ap_AugI, mFor_ap, ap_Rng1, ap_Rng2, rng1_ok, rng2_ok, ap_Iter, src_t, src_s, src_rL, ap_Comp, wipe_n, wipe_c, len_cons, len_nil, zip_cc, zip_nn, foldl_c, foldl_n, set_z, set_s, ite_t, ite_f, ite_T, ite_F, sing_lt, sing_eq, ty_r, ty_s, isS, cut_mid, decide_eq_true_eq, if_pos, if_neg]
      exact ⟨_, by rw [decide_eq_false hn]⟩
theorem inblock_all {row : List Int} {m : Nat} (n : Int) (hG : GB (-1) row) (hl : row.length ≤ 50) (hm : 0 < m) (hm2 : m ≤ 100) (h : List O) : pureRun den_in_block 2 [.tup (blks m row), .int n] h = .ok (.bl (decide (n ∈ row))) h := by
  obtain ⟨h', e⟩ : ∃ h', body_in_block (startE 5 [.tup (blks m row), .int n]) [] = .rt (.bl (decide (n ∈ row))) h' := inblock_sv row m n hG hl hm hm2
  refine pure_of rfl ?_ (h' := h') (by unfold den_in_block mFun; rw [e]) rfl h
  unfold pureWs
  rw [pure_blksT]
  rfl
end Law_indexhall_k05_rows_coded
set_option maxRecDepth 100000
set_option maxHeartbeats 1000000
namespace Law_indexhall_k05_rows_coded
open PySem L2 Den K05
theorem roll_eq {ws : List W} {h : List O} : den_law_roll ws h = mFun 3 bodyRoll ws h := rfl
theorem rounds_eq {ws : List W} {h : List O} : den_law_rounds ws h = mFun 4 bodyRounds ws h := rfl
/-- rolling, told for nats -/
theorem rollN {h : List O} {N q : Nat} {ps : List Nat} {many : Nat} (d : DH N h ps) (hp : q ∈ ps) (hm : 0 < many) (hM : many < 1000000) (hN : N < 1000000000) :
    ∃ (r : Nat) (h' : List O), den_law_roll [.ref q, .int (many : Nat)] h = .ok (.int (r : Nat)) h' ∧ r < many ∧ DH (N + 1) h' ps ∧ Fr ps h h' := by
  obtain ⟨w, h', e, r, rfl, r0, r1, D, F⟩ := ev_get (roll_Ev (many := (many : Nat)) d hp (by omega) (by omega) (by omega))
  obtain ⟨n, rfl⟩ : ∃ n : Nat, r = n := ⟨r.toNat, by omega⟩
  exact ⟨n, h', by rw [roll_eq]; exact e, by omega, D, F⟩
theorem eqv_int (i : Int) : PyData.eqv (.int i) (.int i) = true := by simp [PyData.eqv]
theorem code_fit {gs : List Nat} : strFit (pieces gs) = true := by
  refine fit_of fun c hc => ?_
  unfold pieces at hc
  obtain ⟨l, hl, hc⟩ := List.mem_flatten.1 hc
  obtain ⟨g, hg, rfl⟩ := List.mem_map.1 hl
  have := piece_01 g c hc
  omega
theorem ne_blk (p : List Int) (h : List O) : oNe (blkW p) (blkW p) h = .ok (.bl false) h := by
  have e : mapO (dat h 7) [.int (p.headD 0), .int (p.getLastD 0), .str (code (p.map fun z => z - p.headD 0))] = some [.int (p.headD 0), .int (p.getLastD 0), .str (mkS (code (p.map fun z => z - p.headD 0)))] := by
    unfold mapO
    rw [dat_i]
    dsimp only
    rw [mapO_2 dat_i (dat_s code_fit)]
  unfold oNe blkW
  rw [eqW_tt e e]
  simp [PyData.eqvAll, eqv_int, eqv_str]
theorem nums_ev {row : List Int} {h : List O} {a0 a2 a3 a4 a5 a6 a7 : Option W} (hl : row.length ≤ 1000) : Ev (mOp oAdd (mOp oAdd (mCB oList (mCons (mVar 1) (mNil))) (mComp 100000 [7] (mIter (mVar 1)) (tgN 7) (mYes) (mOp oAdd (mVar 7) (mC (.int 1))))) (mLst (mCons (mC (.int 0)) (mNil))) [a0, some (T row), a2, a3, a4, a5, a6, a7] h) fun w h' => ∃ p, w = .ref p ∧ Gr h h' ∧ lstAt h' p = some ((row ++ row.map (fun z => z + 1) ++ [0]).map .int) := by
  have l1 : lstAt (h ++ [O.lst (row.map .int)]) h.length = some (row.map .int) := lst_last
  have g1 : Gr h (h ++ [O.lst (row.map .int)]) := Gr.app
  have hql : (h ++ [O.lst (row.map .int)]).length = h.length + 1 := by simp
  simp (disch := first | omega | (simp only [List.length_append, List.length_cons, List.length_nil, List.length_set, List.length_drop, List.length_take, List.length_map]; omega)) only [list_t, sv_nx, sv_rt, sv_ct, rnd_nx, rnd_ct, Int.toNat_natCast, ne_eq, eq_self, not_true_eq_false, not_false_eq_true, mVar_z, Nat.reduceAdd, Nat.zero_add, Int.zero_add, Int.reduceAdd, Int.reduceSub, Int.reduceNeg, ap_Lst, ap_Tup, nil_app, cons_app, List.length_append, lst_last, mVar_s, ok_bnd, ok_stm, exc_bnd, ev_okE, exc_stm, ap_C, ap_Op, ap_Un, ap_B, ap_Chain, ap_asB, ap_And, ap_Or, ap_Not, ap_AndV, ap_OrV, ap_NotV, ap_If, ap_Nil, ap_Cons, ap_CB, ap_Meth, ap_Part, ap_NoPart, ap_Sl, ap_Yes, add_ii, add_ss, sub_ii, neg_i, mul_ii, fdiv_ii, mod_ii, eq_ii, ne_ii, eq_ss, ne_ss, lt_ii, le_ii, gt_ii, ge_ii, lt_ss, gt_ss, le_ss, ge_ss, len_s, len_t, abs_i, int_i, int_b, max_ii, min_ii, ix_s, ixL_0, ixL_1, ixL_2, ixL_3, ixL_n, ixL_i, ixL_st, setL_n, setL_i, List.length_map, List.length_set, ix_r, getL_r, ix_tL, withL_s, setL_0, setL_1, setL_2, set_r, app_r, lst_z, lst_s, iadd_ii, tuple_r, mul_ri, sl_s, sl_rol, sl_t, sl_r, cut_from, cut_to, ap_Seq, nx_seq, rt_seq, ct_seq, bk_seq, exc_seq, ap_Raise, ap_Skip, ap_Brk, ap_Cnt, ap_Drop, ap_Ret, ap_IfS, ap_Set, ap_Ts, ap_AsgT, tgT_t, tgTs_n, tgTs_c, ap_Aug, ap_SetI, ap_AugI, mFor_ap, ap_Rng1, ap_Rng2, rng1_ok, rng2_ok, ap_Iter, src_t, src_s, src_rL, ap_Comp, wipe_n, wipe_c, len_cons, len_nil, zip_cc, zip_nn, foldl_c, foldl_n, set_z, set_s, ite_t, ite_f, ite_T, ite_F, sing_lt, sing_eq, ty_r, ty_s, isS, cut_mid, decide_eq_true_eq, if_pos, if_neg]
  rw [← hql]
  clear hql
  generalize h ++ [O.lst (row.map .int)] = h1 at *
  generalize h.length = q at *
  repeat (first | with_reducible apply sv_seq | with_reducible apply sv_stm | with_reducible apply ev_bnd)
  refine comp_tup (n := 100000) (v := 7) row W.int (by omega) (by omega) (fun _ => true) (fun z => .int (z + 1)) (fun z hz h' G => ?_) (fun z hz _ h' G => ?_) (fun h' G => ?_)
  · exact ⟨rfl, Gr.refl⟩
  · simp (disch := first | omega | (simp only [List.length_append, List.length_cons, List.length_nil, List.length_set, List.length_drop, List.length_take, List.length_map]; omega)) only [sv_nx, sv_rt, sv_ct, rnd_nx, rnd_ct, Int.toNat_natCast, ne_eq, eq_self, not_true_eq_false, not_false_eq_true, mVar_z, Nat.reduceAdd, Nat.zero_add, Int.zero_add, Int.reduceAdd, Int.reduceSub, Int.reduceNeg, ap_Lst, ap_Tup, nil_app, cons_app, List.length_append, lst_last, mVar_s, ok_bnd, ok_stm, exc_bnd, ev_okE, exc_stm, ap_C, ap_Op, ap_Un, ap_B, ap_Chain, ap_asB, ap_And, ap_Or, ap_Not, ap_AndV, ap_OrV, ap_NotV, ap_If, ap_Nil, ap_Cons, ap_CB, ap_Meth, ap_Part, ap_NoPart, ap_Sl, ap_Yes, add_ii, add_ss, sub_ii, neg_i, mul_ii, fdiv_ii, mod_ii, eq_ii, ne_ii, eq_ss, ne_ss, lt_ii, le_ii, gt_ii, ge_ii, lt_ss, gt_ss, le_ss, ge_ss, len_s, len_t, abs_i, int_i, int_b, max_ii, min_ii, ix_s, ixL_0, ixL_1, ixL_2, ixL_3, ixL_n, ixL_i, ixL_st, setL_n, setL_i, List.length_map, List.length_set, ix_r, getL_r, ix_tL, withL_s, setL_0, setL_1, setL_2, set_r, app_r, lst_z, lst_s, iadd_ii, tuple_r, mul_ri, sl_s, sl_rol, sl_t, sl_r, cut_from, cut_to, ap_Seq, nx_seq, rt_seq, ct_seq, bk_seq, exc_seq, ap_Raise, ap_Skip, ap_Brk, ap_Cnt, ap_Drop, ap_Ret, ap_IfS, ap_Set, ap_Ts, ap_AsgT, tgT_t, tgTs_n, tgTs_c, ap_Aug, ap_SetI, ap_AugI, mFor_ap, ap_Rng1, ap_Rng2, rng1_ok, rng2_ok, ap_Iter, src_t, src_s, src_rL, ap_Comp, wipe_n, wipe_c, len_cons, len_nil, zip_cc, zip_nn, foldl_c, foldl_n, set_z, set_s, ite_t, ite_f, ite_T, ite_F, sing_lt, sing_eq, ty_r, ty_s, isS, cut_mid, decide_eq_true_eq, if_pos, if_neg]
    exact ⟨trivial, Gr.refl⟩
  · have hq2 := G.lastL
    have em : (List.map (fun z => W.int (z + 1)) row) = (row.map fun z => z + 1).map W.int := by rw [List.map_map]; rfl
    rw [List.filter_eq_self.2 (fun _ _ => rfl), em] at hq2
    have hq1 := G.left.lst l1
    have g2 : Gr h h' := g1.trans G.left
    obtain ⟨p3, h3, e3, g3, l3, _⟩ := add_at hq1 hq2 (by rw [List.length_map, List.length_map, List.length_map]; omega)
    have l4 : lstAt (h3 ++ [O.lst [W.int 0]]) h3.length = some [.int 0] := lst_last
    have g4 : Gr h3 (h3 ++ [O.lst [W.int 0]]) := Gr.app
    obtain ⟨p5, h5, e5, g5, l5, _⟩ := add_at (g4.lst l3) l4 (by simp; omega)
    rw [e3, ev_okE, e5]
    refine ⟨p5, rfl, ((g2.trans g3).trans g4).trans g5, ?_⟩
    rw [l5, List.map_append, List.map_append]
    rfl
theorem ne_bb {x : Bool} {h : List O} : oNe (.bl x) (.bl x) h = .ok (.bl false) h := by
  show Out.ok (W.bl (!(x == x))) h = _
  simp
theorem lblocks_sv {row : List Int} {q N : Nat} {ps : List Nat} {h : List O} (D : DH N h ps) (hq : q ∈ ps) (hN : N < 1000000) (hG : GB (-1) row) (hl : row.length ≤ 20) : Sv (body_law_blocks (startE 8 [.ref q, T row]) h) (fun o => ∃ h', o = .rt (.bl true) h' ∧ DH (N + 1) h' ps ∧ Fr ps h h') := by
  obtain ⟨n, h1, e1, n4, D1, F1⟩ := rollN (many := 4) D hq (by omega) (by omega) (by omega)
  have e1 : den_law_roll [.ref q, .int 4] h = .ok (.int (n : Nat)) h1 := e1
  have hib := fun h => inblocks_all (row := row) (m := n + 1) hG (by omega) (by omega) (by omega) h
  have hob := fun h => ofblocks_all (row := row) (m := n + 1) hG (by omega) (by omega) (by omega) h
  have hnn := fun z h => inblock_all (row := row) (m := n + 1) z hG (by omega) (by omega) (by omega) h
  have hnb := nb_le (m := n + 1) (n := row.length) (by omega)
  have em : 1 + (n : Int) = ((n + 1 : Nat) : Int) := by omega
  have hlb : ∀ h, oLen [.tup (blks (n + 1) row)] h = .ok (.int (nb (n + 1) row.length : Nat)) h := fun h => by rw [len_t, blks_len]
  have hfd : ∀ h, oFdiv (.int ((row.length : Int) + ((n + 1 : Nat) : Int) - 1)) (.int ((n + 1 : Nat) : Int)) h = .ok (.int (nb (n + 1) row.length : Nat)) h := fun h => by
    rw [fdiv_ii (by omega) (by omega)]
    unfold nb
    have : (row.length : Int) + ((n + 1 : Nat) : Int) - 1 = ((row.length + (n + 1) - 1 : Nat) : Int) := by omega
    rw [this]
    rfl
  unfold body_law_blocks
  simp only [startE, List.map_cons, List.map_nil, List.length_cons, List.length_nil, List.cons_append, List.nil_append, Nat.zero_add, Nat.reduceAdd, Nat.reduceSub, List.replicate_succ, List.replicate_zero]
  simp (disch := first | omega | (simp only [List.length_append, List.length_cons, List.length_nil, List.length_set, List.length_drop, List.length_take, List.length_map]; omega)) only [e1, em, hib, hob, ne_tt, decide_false, hlb, hfd, sv_nx, sv_rt, sv_ct, rnd_nx, rnd_ct, Int.toNat_natCast, ne_eq, eq_self, not_true_eq_false, not_false_eq_true, mVar_z, Nat.reduceAdd, Nat.zero_add, Int.zero_add, Int.reduceAdd, Int.reduceSub, Int.reduceNeg, ap_Lst, ap_Tup, nil_app, cons_app, List.length_append, lst_last, mVar_s, ok_bnd, ok_stm, exc_bnd, ev_okE, exc_stm, ap_C, ap_Op, ap_Un, ap_B, ap_Chain, ap_asB, ap_And, ap_Or, ap_Not, ap_AndV, ap_OrV, ap_NotV, ap_If, ap_Nil, ap_Cons, ap_CB, ap_Meth, ap_Part, ap_NoPart, ap_Sl, ap_Yes, add_ii, add_ss, sub_ii, neg_i, mul_ii, fdiv_ii, mod_ii, eq_ii, ne_ii, eq_ss, ne_ss, lt_ii, le_ii, gt_ii, ge_ii, lt_ss, gt_ss, le_ss, ge_ss, len_s, len_t, abs_i, int_i, int_b, max_ii, min_ii, ix_s, ixL_0, ixL_1, ixL_2, ixL_3, ixL_n, ixL_i, ixL_st, setL_n, setL_i, List.length_map, List.length_set, ix_r, getL_r, ix_tL, withL_s, setL_0, setL_1, setL_2, set_r, app_r, lst_z, lst_s, iadd_ii, tuple_r, mul_ri, sl_s, sl_rol, sl_t, sl_r, cut_from, cut_to, ap_Seq, nx_seq, rt_seq, ct_seq, bk_seq, exc_seq, ap_Raise, ap_Skip, ap_Brk, ap_Cnt, ap_Drop, ap_Ret, ap_IfS, ap_Set, ap_Ts, ap_AsgT, tgT_t, tgTs_n, tgTs_c, ap_Aug, ap_SetI, ap_AugI, mFor_ap, ap_Rng1, ap_Rng2, rng1_ok, rng2_ok, ap_Iter, src_t, src_s, src_rL, ap_Comp, wipe_n, wipe_c, len_cons, len_nil, zip_cc, zip_nn, foldl_c, foldl_n, set_z, set_s, ite_t, ite_f, ite_T, ite_F, sing_lt, sing_eq, ty_r, ty_s, isS, cut_mid, decide_eq_true_eq, if_pos, if_neg]
  refine sv_cut (R' := fun o => ∃ (a4 a5 a6 a7 : Option W) (h' : List O), o = SOut.nx [some (.ref q), some (T row), some (.int ((n + 1 : Nat) : Int)), some (.tup (blks (n + 1) row)), a4, a5, a6, a7] h' ∧ Gr h1 h') ?_ ?_
  · refine forGo_rng (nb (n + 1) row.length) 0 4 (fun i e h => ∃ (a4 a5 a6 a7 : Option W), e = [some (.ref q), some (T row), some (.int ((n + 1 : Nat) : Int)), some (.tup (blks (n + 1) row)), a4, a5, a6, a7] ∧ Gr h1 h) (by omega) ⟨_, _, _, _, rfl, Gr.refl⟩ ?_ ?_
    · rintro i e h' hi ⟨a4, a5, a6, a7, rfl, g⟩
      simp only [set_s, set_z, Int.zero_add]
      have hlt := nb_lt (by omega) hi
      obtain ⟨x, r, hp, hg, hrl⟩ := part_cons (by omega) hlt hG
      have hmul : ∀ h, oMul (.int ((n + 1 : Nat) : Int)) (.int (i : Nat)) h = .ok (.int (((n + 1) * i : Nat) : Int)) h := fun h => by
        have h2 : i ≤ row.length := by omega
        rw [mul_ii (by omega) (by omega)]
        rfl
      have hsl : ∀ h, oSl (T row) (some (((n + 1) * i : Nat) : Int)) (some ((((n + 1) * i : Nat) : Int) + ((n + 1 : Nat) : Int))) h = .ok (T (x :: r)) h := fun h => by
        rw [sl_t, cut_overZ (by omega) (by rw [List.length_map]; omega) (by omega), Int.toNat_natCast, show ((((n + 1) * i : Nat) : Int) + ((n + 1 : Nat) : Int) - (((n + 1) * i : Nat) : Int)).toNat = n + 1 by omega, ← List.map_drop, ← List.map_take]
        show Out.ok (T (part (n + 1) row i)) h = _
        rw [hp]
      have hix : ∀ h, ixL (blks (n + 1) row) (i : Nat) h = .ok (blkW (x :: r)) h := fun h => by
        rw [ixL_ok (by omega) (by rw [blks_len]; omega), Int.toNat_natCast, List.getD_eq_getElem?_getD, blks_get hi, hp]
        rfl
      generalize hX : mTup (mCons (mOp oIx (mVar 6) (mC (.int 0))) (mCons (mOp oIx (mVar 6) (mUn oNeg (mC (.int 1)))) (mCons (mCB (pureRun den_coded 1) (mCons (mCB oTuple (mCons (mComp 100000 [5] (mIter (mVar 6)) (tgN 5) (mYes) (mOp oSub (mVar 5) (mOp oIx (mVar 6) (mC (.int 0))))) (mNil))) (mNil))) (mNil)))) = X
      have hlim : (((n + 1) * i : Nat) : Int) < 100 := by omega
      generalize ((n + 1 : Nat) : Int) = m at *
      generalize (((n + 1) * i : Nat) : Int) = z at *
      simp (disch := first | omega | (simp only [List.length_append, List.length_cons, List.length_nil, List.length_set, List.length_drop, List.length_take, List.length_map]; omega)) only [hmul, hsl, hix, sv_nx, sv_rt, sv_ct, rnd_nx, rnd_ct, Int.toNat_natCast, ne_eq, eq_self, not_true_eq_false, not_false_eq_true, mVar_z, Nat.reduceAdd, Nat.zero_add, Int.zero_add, Int.reduceAdd, Int.reduceSub, Int.reduceNeg, ap_Lst, ap_Tup, nil_app, cons_app, List.length_append, lst_last, mVar_s, ok_bnd, ok_stm, exc_bnd, ev_okE, exc_stm, ap_C, ap_Op, ap_Un, ap_B, ap_Chain, ap_asB, ap_And, ap_Or, ap_Not, ap_AndV, ap_OrV, ap_NotV, ap_If, ap_Nil, ap_Cons, ap_CB, ap_Meth, ap_Part, ap_NoPart, ap_Sl, ap_Yes, add_ii, add_ss, sub_ii, neg_i, mul_ii, fdiv_ii, mod_ii, eq_ii, ne_ii, eq_ss, ne_ss, lt_ii, le_ii, gt_ii, ge_ii, lt_ss, gt_ss, le_ss, ge_ss, len_s, len_t, abs_i, int_i, int_b, max_ii, min_ii, ix_s, ixL_0, ixL_1, ixL_2, ixL_3, ixL_n, ixL_i, ixL_st, setL_n, setL_i, List.length_map, List.length_set, ix_r, getL_r, ix_tL, withL_s, setL_0, setL_1, setL_2, set_r, app_r, lst_z, lst_s, iadd_ii, tuple_r, mul_ri, sl_s, sl_rol, sl_t, sl_r, cut_from, cut_to, ap_Seq, nx_seq, rt_seq, ct_seq, bk_seq, exc_seq, ap_Raise, ap_Skip, ap_Brk, ap_Cnt, ap_Drop, ap_Ret, ap_IfS, ap_Set, ap_Ts, ap_AsgT, tgT_t, tgTs_n, tgTs_c, ap_Aug, ap_SetI, ap_AugI, mFor_ap, ap_Rng1, ap_Rng2, rng1_ok, rng2_ok, ap_Iter, src_t, src_s, src_rL, ap_Comp, wipe_n, wipe_c, len_cons, len_nil, zip_cc, zip_nn, foldl_c, foldl_n, set_z, set_s, ite_t, ite_f, ite_T, ite_F, sing_lt, sing_eq, ty_r, ty_s, isS, cut_mid, decide_eq_true_eq, if_pos, if_neg]
      repeat (first | with_reducible apply sv_seq | with_reducible apply sv_stm | with_reducible apply ev_bnd)
      rw [← hX]
      refine ev_imp (blk_ev hg (by omega) (fun h => rfl) (fun z h => rfl) (fun z h => rfl)) ?_
      rintro y h2 ⟨rfl, g2⟩
      simp (disch := first | omega | (simp only [List.length_append, List.length_cons, List.length_nil, List.length_set, List.length_drop, List.length_take, List.length_map]; omega)) only [ne_blk, sv_nx, sv_rt, sv_ct, rnd_nx, rnd_ct, Int.toNat_natCast, ne_eq, eq_self, not_true_eq_false, not_false_eq_true, mVar_z, Nat.reduceAdd, Nat.zero_add, Int.zero_add, Int.reduceAdd, Int.reduceSub, Int.reduceNeg, ap_Lst, ap_Tup, nil_app, cons_app, List.length_append, lst_last, mVar_s, ok_bnd, ok_stm, exc_bnd, ev_okE, exc_stm, ap_C, ap_Op, ap_Un, ap_B, ap_Chain, ap_asB, ap_And, ap_Or, ap_Not, ap_AndV, ap_OrV, ap_NotV, ap_If, ap_Nil, ap_Cons, ap_CB, ap_Meth, ap_Part, ap_NoPart, ap_Sl, ap_Yes, add_ii, add_ss, sub_ii, neg_i, mul_ii, fdiv_ii, mod_ii, eq_ii, ne_ii, eq_ss, ne_ss, lt_ii, le_ii, gt_ii, ge_ii, lt_ss, gt_ss, le_ss, ge_ss, len_s, len_t, abs_i, int_i, int_b, max_ii, min_ii, ix_s, ixL_0, ixL_1, ixL_2, ixL_3, ixL_n, ixL_i, ixL_st, setL_n, setL_i, List.length_map, List.length_set, ix_r, getL_r, ix_tL, withL_s, setL_0, setL_1, setL_2, set_r, app_r, lst_z, lst_s, iadd_ii, tuple_r, mul_ri, sl_s, sl_rol, sl_t, sl_r, cut_from, cut_to, ap_Seq, nx_seq, rt_seq, ct_seq, bk_seq, exc_seq, ap_Raise, ap_Skip, ap_Brk, ap_Cnt, ap_Drop, ap_Ret, ap_IfS, ap_Set, ap_Ts, ap_AsgT, tgT_t, tgTs_n, tgTs_c, ap_Aug, ap_SetI, ap_AugI, mFor_ap, ap_Rng1, ap_Rng2, rng1_ok, rng2_ok, ap_Iter, src_t, src_s, src_rL, ap_Comp, wipe_n, wipe_c, len_cons, len_nil, zip_cc, zip_nn, foldl_c, foldl_n, set_z, set_s, ite_t, ite_f, ite_T, ite_F, sing_lt, sing_eq, ty_r, ty_s, isS, cut_mid, decide_eq_true_eq, if_pos, if_neg]
      exact ⟨_, _, _, _, rfl, g.trans g2⟩
    · rintro e h' ⟨a4, a5, a6, a7, rfl, g⟩
      exact ⟨_, _, _, _, _, rfl, g⟩
  · rintro o ⟨a4, a5, a6, a7, h2, rfl, g2⟩
    generalize hM : mOp oAdd (mOp oAdd (mCB oList (mCons (mVar 1) (mNil))) (mComp 100000 [7] (mIter (mVar 1)) (tgN 7) (mYes) (mOp oAdd (mVar 7) (mC (.int 1))))) (mLst (mCons (mC (.int 0)) (mNil))) = M
    simp (disch := first | omega | (simp only [List.length_append, List.length_cons, List.length_nil, List.length_set, List.length_drop, List.length_take, List.length_map]; omega)) only [sv_nx, sv_rt, sv_ct, rnd_nx, rnd_ct, Int.toNat_natCast, ne_eq, eq_self, not_true_eq_false, not_false_eq_true, mVar_z, Nat.reduceAdd, Nat.zero_add, Int.zero_add, Int.reduceAdd, Int.reduceSub, Int.reduceNeg, ap_Lst, ap_Tup, nil_app, cons_app, List.length_append, lst_last, mVar_s, ok_bnd, ok_stm, exc_bnd, ev_okE, exc_stm, ap_C, ap_Op, ap_Un, ap_B, ap_Chain, ap_asB, ap_And, ap_Or, ap_Not, ap_AndV, ap_OrV, ap_NotV, ap_If, ap_Nil, ap_Cons, ap_CB, ap_Meth, ap_Part, ap_NoPart, ap_Sl, ap_Yes, add_ii, add_ss, sub_ii, neg_i, mul_ii, fdiv_ii, mod_ii, eq_ii, ne_ii, eq_ss, ne_ss, lt_ii, le_ii, gt_ii, ge_ii, lt_ss, gt_ss, le_ss, ge_ss, len_s, len_t, abs_i, int_i, int_b, max_ii, min_ii, ix_s, ixL_0, ixL_1, ixL_2, ixL_3, ixL_n, ixL_i, ixL_st, setL_n, setL_i, List.length_map, List.length_set, ix_r, getL_r, ix_tL, withL_s, setL_0, setL_1, setL_2, set_r, app_r, lst_z, lst_s, iadd_ii, tuple_r, mul_ri, sl_s, sl_rol, sl_t, sl_r, cut_from, cut_to, ap_Seq, nx_seq, rt_seq, ct_seq, bk_seq, exc_seq, ap_Raise, ap_Skip, ap_Brk, ap_Cnt, ap_Drop, ap_Ret, ap_IfS, ap_Set, ap_Ts, ap_AsgT, tgT_t, tgTs_n, tgTs_c, ap_Aug, ap_SetI, ap_AugI, mFor_ap, ap_Rng1, ap_Rng2, rng1_ok, rng2_ok, ap_Iter, src_t, src_s, src_rL, ap_Comp, wipe_n, wipe_c, len_cons, len_nil, zip_cc, zip_nn, foldl_c, foldl_n, set_z, set_s, ite_t, ite_f, ite_T, ite_F, sing_lt, sing_eq, ty_r, ty_s, isS, cut_mid, decide_eq_true_eq, if_pos, if_neg]
    repeat (first | with_reducible apply sv_seq | with_reducible apply sv_stm | with_reducible apply ev_bnd)
    rw [← hM]
    refine ev_imp (nums_ev (by omega)) ?_
    rintro w h3 ⟨p, rfl, g3, hp⟩
    have g23 := g2.trans g3
    generalize hnd : row ++ row.map (fun z => z + 1) ++ [0] = nums at hp
    have hnl : nums.length ≤ 1000 := by rw [← hnd]; simp; omega
    clear hnd
    rw [src_r hp, ev_okE]
    refine sv_imp (R := fun o => ∃ (a4 a5 a6 a7 : Option W) (h' : List O), o = SOut.nx [some (.ref q), some (T row), some (.int ((n + 1 : Nat) : Int)), some (.tup (blks (n + 1) row)), a4, a5, a6, a7] h' ∧ Gr h1 h') ?_ ?_
    · refine forGo_ref p (nums.map .int) 5 (fun i e h => ∃ (a4 a5 a6 a7 : Option W), e = [some (.ref q), some (T row), some (.int ((n + 1 : Nat) : Int)), some (.tup (blks (n + 1) row)), a4, a5, a6, a7] ∧ Gr h3 h) (by simp; omega) ⟨_, _, _, _, rfl, Gr.refl⟩ (fun i e h I => ?_) ?_ ?_
      · obtain ⟨_, _, _, _, _, g⟩ := I
        exact g.lst hp
      · rintro i e h' hi ⟨a4, a5, a6, a7, rfl, g⟩
        rw [List.getElem_map]
        generalize nums[i]'(by simpa using hi) = z
        simp (disch := first | omega | (simp only [List.length_append, List.length_cons, List.length_nil, List.length_set, List.length_drop, List.length_take, List.length_map]; omega)) only [hnn, in_it, ne_bb, sv_nx, sv_rt, sv_ct, rnd_nx, rnd_ct, Int.toNat_natCast, ne_eq, eq_self, not_true_eq_false, not_false_eq_true, mVar_z, Nat.reduceAdd, Nat.zero_add, Int.zero_add, Int.reduceAdd, Int.reduceSub, Int.reduceNeg, ap_Lst, ap_Tup, nil_app, cons_app, List.length_append, lst_last, mVar_s, ok_bnd, ok_stm, exc_bnd, ev_okE, exc_stm, ap_C, ap_Op, ap_Un, ap_B, ap_Chain, ap_asB, ap_And, ap_Or, ap_Not, ap_AndV, ap_OrV, ap_NotV, ap_If, ap_Nil, ap_Cons, ap_CB, ap_Meth, ap_Part, ap_NoPart, ap_Sl, ap_Yes, add_ii, add_ss, sub_ii, neg_i, mul_ii, fdiv_ii, mod_ii, eq_ii, ne_ii, eq_ss, ne_ss, lt_ii, le_ii, gt_ii, ge_ii, lt_ss, gt_ss, le_ss, ge_ss, len_s, len_t, abs_i, int_i, int_b, max_ii, min_ii, ix_s, ixL_0, ixL_1, ixL_2, ixL_3, ixL_n, ixL_i, ixL_st, setL_n, setL_i, List.length_map, List.length_set, ix_r, getL_r, ix_tL, withL_s, setL_0, setL_1, setL_2, set_r, app_r, lst_z, lst_s, iadd_ii, tuple_r, mul_ri, sl_s, sl_rol, sl_t, sl_r, cut_from, cut_to, ap_Seq, nx_seq, rt_seq, ct_seq, bk_seq, exc_seq, ap_Raise, ap_Skip, ap_Brk, ap_Cnt, ap_Drop, ap_Ret, ap_IfS, ap_Set, ap_Ts, ap_AsgT, tgT_t, tgTs_n, tgTs_c, ap_Aug, ap_SetI, ap_AugI, mFor_ap, ap_Rng1, ap_Rng2, rng1_ok, rng2_ok, ap_Iter, src_t, src_s, src_rL, ap_Comp, wipe_n, wipe_c, len_cons, len_nil, zip_cc, zip_nn, foldl_c, foldl_n, set_z, set_s, ite_t, ite_f, ite_T, ite_F, sing_lt, sing_eq, ty_r, ty_s, isS, cut_mid, decide_eq_true_eq, if_pos, if_neg]
        exact ⟨_, _, _, _, rfl, g⟩
      · rintro e h' ⟨a4, a5, a6, a7, rfl, g⟩
        exact ⟨_, _, _, _, _, rfl, g23.trans g⟩
    · rintro o ⟨a4, a5, a6, a7, h', rfl, g⟩
      simp (disch := first | omega | (simp only [List.length_append, List.length_cons, List.length_nil, List.length_set, List.length_drop, List.length_take, List.length_map]; omega)) only [sv_nx, sv_rt, sv_ct, rnd_nx, rnd_ct, Int.toNat_natCast, ne_eq, eq_self, not_true_eq_false, not_false_eq_true, mVar_z, Nat.reduceAdd, Nat.zero_add, Int.zero_add, Int.reduceAdd, Int.reduceSub, Int.reduceNeg, ap_Lst, ap_Tup, nil_app, cons_app, List.length_append, lst_last, mVar_s, ok_bnd, ok_stm, exc_bnd, ev_okE, exc_stm, ap_C, ap_Op, ap_Un, ap_B, ap_Chain, ap_asB, ap_And, ap_Or, ap_Not, ap_AndV, ap_OrV, ap_NotV, ap_If, ap_Nil, ap_Cons, ap_CB, ap_Meth, ap_Part, ap_NoPart, ap_Sl, ap_Yes, add_ii, add_ss, sub_ii, neg_i, mul_ii, fdiv_ii, mod_ii, eq_ii, ne_ii, eq_ss, ne_ss, lt_ii, le_ii, gt_ii, ge_ii, lt_ss, gt_ss, le_ss, ge_ss, len_s, len_t, abs_i, int_i, int_b, max_ii, min_ii, ix_s, ixL_0, ixL_1, ixL_2, ixL_3, ixL_n, ixL_i, ixL_st, setL_n, setL_i, List.length_map, List.length_set, ix_r, getL_r, ix_tL, withL_s, setL_0, setL_1, setL_2, set_r, app_r, lst_z, lst_s, iadd_ii, tuple_r, mul_ri, sl_s, sl_rol, sl_t, sl_r, cut_from, cut_to, ap_Seq, nx_seq, rt_seq, ct_seq, bk_seq, exc_seq, ap_Raise, ap_Skip, ap_Brk, ap_Cnt, ap_Drop, ap_Ret, ap_IfS, ap_Set, ap_Ts, ap_AsgT, tgT_t, tgTs_n, tgTs_c, ap_Aug, ap_SetI, ap_AugI, mFor_ap, ap_Rng1, ap_Rng2, rng1_ok, rng2_ok, ap_Iter, src_t, src_s, src_rL, ap_Comp, wipe_n, wipe_c, len_cons, len_nil, zip_cc, zip_nn, foldl_c, foldl_n, set_z, set_s, ite_t, ite_f, ite_T, ite_F, sing_lt, sing_eq, ty_r, ty_s, isS, cut_mid, decide_eq_true_eq, if_pos, if_neg]
      exact ⟨_, rfl, D1.gr g, F1.trans (Fr.of g)⟩
theorem lblocks_ev {row : List Int} {q N : Nat} {ps : List Nat} {h : List O} (D : DH N h ps) (hq : q ∈ ps) (hN : N < 1000000) (hG : GB (-1) row) (hl : row.length ≤ 20) : ∃ h', den_law_blocks [.ref q, T row] h = .ok (.bl true) h' ∧ DH (N + 1) h' ps ∧ Fr ps h h' := by
  obtain ⟨h', e, D', F⟩ : ∃ h', body_law_blocks (startE 8 [.ref q, T row]) h = .rt (.bl true) h' ∧ DH (N + 1) h' ps ∧ Fr ps h h' := lblocks_sv D hq hN hG hl
  exact ⟨h', by unfold den_law_blocks mFun; rw [e], D', F⟩
end Law_indexhall_k05_rows_coded
set_option maxRecDepth 100000
set_option maxHeartbeats 1000000
namespace Law_indexhall_k05_rows_coded
open PySem L2 Den K05
theorem gaps_take : ∀ (l : List Int) (last : Int) (w : Nat), gapsOf last (l.take w) = (gapsOf last l).take w
  | [], _, w => by rw [List.take_nil]; show [] = List.take w []; rw [List.take_nil]
  | x :: l, last, 0 => rfl
  | x :: l, last, w + 1 => by
    rw [List.take_succ_cons]
    show (x - last).toNat :: gapsOf x (l.take w) = ((x - last).toNat :: gapsOf x l).take (w + 1)
    rw [List.take_succ_cons, gaps_take l x w]
theorem runs_take {row : List Int} (hG : GB (-1) row) (w : Nat) : runs (-1) ((gapsOf (-1) row).take w) = row.take w := by
  rw [← gaps_take, runs_gaps (hG.take w)]
section
variable {row : List Int} {cut w : Nat} {p : List Nat}
theorem pos_take {gs : List Nat} (h : ∀ g ∈ gs, 0 < g) (w : Nat) : ∀ g ∈ gs.take w, 0 < g := fun g hg => h g (List.mem_of_mem_take hg)
theorem dec_cut_ok (hG : GB (-1) row) (c : Cut (gapsOf (-1) row) cut w []) : dec (((code row).take cut).length + 1) ((code row).take cut) 0 (-1) [] = .ok (row.take w) := by
  rw [show (code row).take cut = pieces ((gapsOf (-1) row).take w) ++ [] from c.tk]
  obtain ⟨n, e⟩ := dec_code (pos_take hG.pos w) []
  rw [e, dec_nil, runs_take hG]
theorem dec_cut_err (hG : GB (-1) row) (c : Cut (gapsOf (-1) row) cut w p) (hp : p ≠ []) : dec (((code row).take cut).length + 1) ((code row).take cut) 0 (-1) [] = .err (Bg (gapsOf (-1) row) w) := by
  rw [show (code row).take cut = pieces ((gapsOf (-1) row).take w) ++ p from c.tk]
  obtain ⟨n, e⟩ := dec_code (pos_take hG.pos w) p
  rcases c.or_ with ⟨_, e2⟩ | ⟨g, h1, h2, h3⟩
  · exact absurd e2 hp
  · rw [e, dec_part (hG.pos g (List.mem_of_getElem? h1)) h2 h3 hp]
    rfl
theorem dec_spoilt (hG : GB (-1) row) (c : Cut (gapsOf (-1) row) cut w p) : dec (((code row).take cut ++ [120] ++ (code row).drop cut).length + 1) ((code row).take cut ++ [120] ++ (code row).drop cut) 0 (-1) [] = .err cut := by
  rw [show (code row).take cut = pieces ((gapsOf (-1) row).take w) ++ p from c.tk, List.append_assoc, List.append_assoc]
  obtain ⟨n, e⟩ := dec_code (pos_take hG.pos w) (p ++ ([120] ++ (code row).drop cut))
  have ea : cut = (pieces ((gapsOf (-1) row).take w)).length + p.length := c.at_
  rcases c.or_ with ⟨_, e2⟩ | ⟨g, h1, h2, h3⟩
  · rw [e, e2]
    rw [e2, List.length_nil, Nat.add_zero] at ea
    rw [List.nil_append]
    show dec (n + 1) (120 :: (code row).drop cut) _ _ _ = _
    rw [dec_bad0 (by decide), ← ea]
  · rw [e]
    show dec (n + 1) (p ++ 120 :: (code row).drop cut) _ _ _ = _
    rw [dec_bad (hG.pos g (List.mem_of_getElem? h1)) h2 h3 (by decide), ← ea]
end
theorem gaps_at : ∀ (l : List Int) (last : Int) (i : Nat), GB last l → i < l.length → ∃ g, (gapsOf last l)[i]? = some g ∧ 0 < g ∧ g < BB ∧ l.getD i 0 - (if i = 0 then last else l.getD (i - 1) 0) = (g : Nat)
  | [], _, i, _, h => by simp at h
  | x :: l, last, 0, h, _ => by
    have h1 := h.head
    exact ⟨(x - last).toNat, rfl, by omega, h1.2, by rw [if_pos rfl]; show x - last = _; omega⟩
  | x :: l, last, i + 1, h, hi => by
    obtain ⟨g, h1, h2, h3, h4⟩ := gaps_at l x i h.tail (by simpa using hi)
    refine ⟨g, h1, h2, h3, ?_⟩
    rw [← h4, if_neg (by omega)]
    show l.getD i 0 - (x :: l).getD i 0 = _
    cases i with
    | zero => rfl
    | succ i => rfl
theorem GB.snoc : ∀ {l : List Int} {last x : Int}, GB last l → l.getLastD last < x → (x - l.getLastD last).toNat < BB → GB last (l ++ [x])
  | [], last, x, _, h1, h2 => by
    intro g hg
    have hg : g ∈ [(x - last).toNat] := hg
    rw [List.mem_singleton.1 hg]
    have h1 : last < x := h1
    exact ⟨by omega, h2⟩
  | y :: l, last, x, h, h1, h2 => by
    rw [List.getLastD_cons] at h1 h2
    have ih := GB.snoc h.tail h1 h2
    intro g hg
    have hg : g ∈ (y - last).toNat :: gapsOf y (l ++ [x]) := hg
    rcases List.mem_cons.1 hg with rfl | hg
    · exact h _ List.mem_cons_self
    · exact ih g hg
theorem inW_ri {h : List O} {n : Nat} {z : Int} {l : List Int} (hn : lstAt h n = some (l.map .int)) : inW (.int z) (.ref n) h = some (decide (z ∈ l)) := by
  have e1 : dat h 8 (.int z) = some (.int z) := rfl
  have e2 : dat h 8 (.ref n) = some (.list (l.map PyData.int)) := by
    unfold dat
    rw [hn]
    show (mapO (dat h (6 + 1)) (l.map .int)).map PyData.list = _
    rw [dat_ints l]
    rfl
  have e3 : (l.map PyData.int).any (fun y => PyData.eqv y (.int z)) = decide (z ∈ l) := by
    clear e2 hn
    induction l with
    | nil => rfl
    | cons x l ih =>
      rw [List.map_cons, List.any_cons, ih]
      have e : PyData.eqv (.int x) (.int z) = decide (x = z) := by simp only [PyData.eqv]; by_cases q : x = z <;> simp [q]
      rw [e]
      by_cases hx : x = z
      · subst hx; simp
      · have : ¬ z = x := fun e => hx e.symm
        simp [hx, this]
  show (match dat h 8 (.int z), dat h 8 (.ref n) with
    | some d, some (.list ds) => some (ds.any fun z => PyData.eqv z d)
    | _, _ => none) = some (decide (z ∈ l))
  rw [e1, e2]
  dsimp only
  rw [e3]
theorem in_ri {h : List O} {n : Nat} {z : Int} {l : List Int} (hn : lstAt h n = some (l.map .int)) : oIn (.int z) (.ref n) h = .ok (.bl (decide (z ∈ l))) h := by
  unfold oIn
  rw [inW_ri hn]
theorem notin_ri {h : List O} {n : Nat} {z : Int} {l : List Int} (hn : lstAt h n = some (l.map .int)) : oNotIn (.int z) (.ref n) h = .ok (.bl (!decide (z ∈ l))) h := by
  unfold oNotIn
  rw [inW_ri hn]
/-! ### the law's row -/
theorem many_ix {x : Nat} (hx : x < 4) : ∃ m : Nat, 0 < m ∧ m ≤ 100000 ∧ ∀ h, ixL [.int 1, .int 3, .int 40, .int 100000] (x : Nat) h = .ok (.int (m : Nat)) h := by
  have : x = 0 ∨ x = 1 ∨ x = 2 ∨ x = 3 := by omega
  rcases this with rfl | rfl | rfl | rfl
  · exact ⟨1, by omega, by omega, fun h => ixL_0⟩
  · exact ⟨3, by omega, by omega, fun h => ixL_1⟩
  · exact ⟨40, by omega, by omega, fun h => ixL_2⟩
  · exact ⟨100000, by omega, by omega, fun h => ixL_3⟩
theorem draw_loop {sc a4 a5 a6 a7 a8 a9 a10 : Option W} {h0 h : List O} {ps : List Nat} {N q rr n : Nat} (D : DH N h ps) (hq : q ∈ ps) (hN : N < 1000000) (hn : n ≤ 100) (F0 : Fr ps h0 h) (hr0 : h0.length ≤ rr) (hrp : rr ∉ ps) (hl : lstAt h rr = some []) :
    Sv (forGo (srcN 0 n) (tgN 4) (mSeq (mSet 3 (mOp oAdd (mOp oAdd (mVar 3) (mC (.int 1))) (mCB (fun ws h => if ws.length = 2 then den_law_roll ws h else .bad) (mCons (mVar 1) (mCons (mOp oIx (mLst (mCons (mC (.int 1)) (mCons (mC (.int 3)) (mCons (mC (.int 40)) (mCons (mC (.int 100000)) (mNil)))))) (mCB (fun ws h => if ws.length = 2 then den_law_roll ws h else .bad) (mCons (mVar 1) (mCons (mC (.int 4)) (mNil))))) (mNil)))))) (mDrop (mMeth "list" oAppend (mVar 2) (mCons (mVar 3) (mNil))))) 100000 0 [sc, some (.ref q), some (.ref rr), some (.int (-1)), a4, a5, a6, a7, a8, a9, a10] h)
      (fun o => ∃ (row : List Int) (a3 a4 : Option W) (h' : List O), o = .nx [sc, some (.ref q), some (.ref rr), a3, a4, a5, a6, a7, a8, a9, a10] h' ∧ lstAt h' rr = some (row.map .int) ∧ GB (-1) row ∧ row.length = n ∧ Fr ps h0 h' ∧ DH (N + 2 * n) h' ps) := by
  refine forGo_rng n 0 4 (fun i e h => ∃ (row : List Int) (a4 : Option W), e = [sc, some (.ref q), some (.ref rr), some (.int (row.getLastD (-1))), a4, a5, a6, a7, a8, a9, a10] ∧ lstAt h rr = some (row.map .int) ∧ GB (-1) row ∧ row.length = i ∧ Fr ps h0 h ∧ DH (N + 2 * i) h ps) (by omega) ⟨[], a4, rfl, hl, (by intro g hg; cases hg), rfl, F0, D⟩ ?_ ?_
  · rintro i e h hi ⟨row, a4, rfl, hrow, hG, hlen, F, D⟩
    simp only [set_s, set_z]
    have hlp : h.length ∉ ps := fun z => by have := D.lt z; omega
    obtain ⟨x, h2, e2, x4, D2, F2⟩ := rollN (many := 4) (h := h ++ [O.lst [.int 1, .int 3, .int 40, .int 100000]]) (D.gr Gr.app) hq (by omega) (by omega) (by omega)
    have e2 : den_law_roll [.ref q, .int 4] (h ++ [O.lst [.int 1, .int 3, .int 40, .int 100000]]) = .ok (.int (x : Nat)) h2 := e2
    have l2 : lstAt h2 h.length = some [.int 1, .int 3, .int 40, .int 100000] := F2.lst hlp lst_last
    obtain ⟨m, m0, m1, hix⟩ := many_ix x4
    obtain ⟨r, h3, e3, r4, D3, F3⟩ := rollN (many := m) D2 hq (by omega) (by omega) (by omega)
    have F03 : Fr ps h h3 := ((Fr.of Gr.app).trans F2).trans F3
    have l3 := F03.lst hrp hrow
    have hrl := lst_lt l3
    have hll : row.length < 1000000 := by omega
    simp (disch := first | omega | (simp only [List.length_append, List.length_cons, List.length_nil, List.length_set, List.length_drop, List.length_take, List.length_map]; omega)) only [e2, l2, hix, e3, l3, hll, sv_nx, sv_rt, sv_ct, rnd_nx, rnd_ct, Int.toNat_natCast, ne_eq, eq_self, not_true_eq_false, not_false_eq_true, mVar_z, Nat.reduceAdd, Nat.zero_add, Int.zero_add, Int.reduceAdd, Int.reduceSub, Int.reduceNeg, ap_Lst, ap_Tup, nil_app, cons_app, List.length_append, lst_last, mVar_s, ok_bnd, ok_stm, exc_bnd, ev_okE, exc_stm, ap_C, ap_Op, ap_Un, ap_B, ap_Chain, ap_asB, ap_And, ap_Or, ap_Not, ap_AndV, ap_OrV, ap_NotV, ap_If, ap_Nil, ap_Cons, ap_CB, ap_Meth, ap_Part, ap_NoPart, ap_Sl, ap_Yes, add_ii, add_ss, sub_ii, neg_i, mul_ii, fdiv_ii, mod_ii, eq_ii, ne_ii, eq_ss, ne_ss, lt_ii, le_ii, gt_ii, ge_ii, lt_ss, gt_ss, le_ss, ge_ss, len_s, len_t, abs_i, int_i, int_b, max_ii, min_ii, ix_s, ixL_0, ixL_1, ixL_2, ixL_3, ixL_n, ixL_i, ixL_st, setL_n, setL_i, List.length_map, List.length_set, ix_r, getL_r, ix_tL, withL_s, setL_0, setL_1, setL_2, set_r, app_r, lst_z, lst_s, iadd_ii, tuple_r, mul_ri, sl_s, sl_rol, sl_t, sl_r, cut_from, cut_to, ap_Seq, nx_seq, rt_seq, ct_seq, bk_seq, exc_seq, ap_Raise, ap_Skip, ap_Brk, ap_Cnt, ap_Drop, ap_Ret, ap_IfS, ap_Set, ap_Ts, ap_AsgT, tgT_t, tgTs_n, tgTs_c, ap_Aug, ap_SetI, ap_AugI, mFor_ap, ap_Rng1, ap_Rng2, rng1_ok, rng2_ok, ap_Iter, src_t, src_s, src_rL, ap_Comp, wipe_n, wipe_c, len_cons, len_nil, zip_cc, zip_nn, foldl_c, foldl_n, set_z, set_s, ite_t, ite_f, ite_T, ite_F, sing_lt, sing_eq, ty_r, ty_s, isS, cut_mid, decide_eq_true_eq, if_pos, if_neg]
    refine ⟨row ++ [row.getLastD (-1) + 1 + r], _, by rw [List.getLastD_concat], ?_, hG.snoc (by omega) (by unfold BB; omega), by simp; omega, (F.trans F03).set hr0, (D3.set hrp).mono (by omega)⟩
    rw [lst_set hrl, List.map_append]
    rfl
  · rintro e h ⟨row, a4, rfl, hrow, hG, hlen, F, D⟩
    exact ⟨row, _, _, h, rfl, hrow, hG, hlen, F, D⟩
end Law_indexhall_k05_rows_coded
set_option maxRecDepth 100000
set_option maxHeartbeats 1000000
namespace Law_indexhall_k05_rows_coded
open PySem L2 Den K05
theorem ixT {row : List Int} {i : Nat} {h : List O} (hi : i < row.length) : ixL (row.map .int) (i : Nat) h = .ok (.int (row.getD i 0)) h := by
  rw [ixL_ok (by omega) (by rw [List.length_map]; omega), Int.toNat_natCast, List.getD_eq_getElem?_getD, List.getElem?_map, List.getElem?_eq_getElem hi, List.getD_eq_getElem?_getD, List.getElem?_eq_getElem hi]
  rfl
theorem begins_loop {sc d a3 a4 a7 a8 a9 a10 : Option W} {row : List Int} {h0 h : List O} {ps : List Nat} {N bb : Nat} (D : DH N h ps) (F0 : Fr ps h0 h) (hb0 : h0.length ≤ bb) (hbp : bb ∉ ps) (hl : lstAt h bb = some []) (hG : GB (-1) row) (hlen : row.length ≤ 50) :
    Sv (forGo (srcN 0 row.length) (tgN 4) (mSeq (mSet 9 (mCB (pureRun den_law_twos 1) (mCons (mOp oSub (mOp oIx (mVar 2) (mVar 4)) (mIf (mB (mOp oGt (mVar 4) (mC (.int 0)))) (mOp oIx (mVar 2) (mOp oSub (mVar 4) (mC (.int 1)))) (mOp oSub (mC (.int 0)) (mC (.int 1))))) (mNil)))) (mSeq (mDrop (mMeth "list" oAppend (mVar 6) (mCons (mCB oLen (mCons (mVar 5) (mNil))) (mNil)))) (mSet 5 (mOp oAdd (mOp oAdd (mVar 5) (mOp oMulN (mC (.str [48])) (mOp oSub (mCB oLen (mCons (mVar 9) (mNil))) (mC (.int 1))))) (mVar 9))))) 100000 0 [sc, d, some (T row), a3, a4, some (.str []), some (.ref bb), a7, a8, a9, a10] h)
      (fun o => ∃ (a4 a9 : Option W) (h' : List O), o = .nx [sc, d, some (T row), a3, a4, some (.str (code row)), some (.ref bb), a7, a8, a9, a10] h' ∧ lstAt h' bb = some ((begs (gapsOf (-1) row)).map nI) ∧ Fr ps h0 h' ∧ DH N h' ps) := by
  have hgl := gaps_len row (-1)
  refine forGo_rng row.length 0 4 (fun i e h => ∃ (a4 a9 : Option W), e = [sc, d, some (T row), a3, a4, some (.str (pieces ((gapsOf (-1) row).take i))), some (.ref bb), a7, a8, a9, a10] ∧ lstAt h bb = some (((List.range i).map (Bg (gapsOf (-1) row))).map nI) ∧ Fr ps h0 h ∧ DH N h ps) (by omega) ⟨_, _, rfl, hl, F0, D⟩ ?_ ?_
  · rintro i e h hi ⟨a4, a9, rfl, hq, F, D⟩
    simp only [set_s, set_z, Int.zero_add]
    obtain ⟨g, g1, g2, g3, g4⟩ := gaps_at row (-1) i hG hi
    have hlt := ltwos_all g3
    have hp := twos_pos g
    have hsm := twos_small g3
    have hix := fun h => ixT (h := h) hi
    have hbl := lst_lt hq
    have hpl : (pieces ((gapsOf (-1) row).take i)).length ≤ 41 * 50 := by
      have := pieces_len (gs := (gapsOf (-1) row).take i) (fun g hg => hG g (List.mem_of_mem_take hg))
      rw [List.length_take] at this
      omega
    have hps : pieces ((gapsOf (-1) row).take (i + 1)) = pieces ((gapsOf (-1) row).take i) ++ piece g := by
      rw [List.take_succ, g1, pieces_app]
      simp [pieces]
    have e2 : ((twos g).length : Int) - 1 = (((twos g).length - 1 : Nat) : Int) := by omega
    have hm := fun h => mulN_one (c := 48) (n := (twos g).length - 1) (h := h) (by omega)
    have ha : ∀ h, oAdd (.str (pieces ((gapsOf (-1) row).take i))) (.str (List.replicate ((twos g).length - 1) 48)) h = .ok (.str (pieces ((gapsOf (-1) row).take i) ++ List.replicate ((twos g).length - 1) 48)) h := fun h => add_ss (by rw [List.length_replicate]; omega)
    have ha2 : ∀ h, oAdd (.str (pieces ((gapsOf (-1) row).take i) ++ List.replicate ((twos g).length - 1) 48)) (.str (twos g)) h = .ok (.str (pieces ((gapsOf (-1) row).take (i + 1)))) h := fun h => by
      rw [add_ss (by rw [List.length_append, List.length_replicate]; omega), hps]
      unfold piece
      rw [List.append_assoc]
    have hll : (List.range i).length < 1000000 := by rw [List.length_range]; omega
    have fin : ∀ (a9 : Option W), rnd (fun e h => ∃ (a4 a9 : Option W), e = [sc, d, some (T row), a3, a4, some (.str (pieces ((gapsOf (-1) row).take (i + 1)))), some (.ref bb), a7, a8, a9, a10] ∧ lstAt h bb = some (((List.range (i + 1)).map (Bg (gapsOf (-1) row))).map nI) ∧ Fr ps h0 h ∧ DH N h ps) (fun o => ∃ (a4 a9 : Option W) (h' : List O), o = .nx [sc, d, some (T row), a3, a4, some (.str (code row)), some (.ref bb), a7, a8, a9, a10] h' ∧ lstAt h' bb = some ((begs (gapsOf (-1) row)).map nI) ∧ Fr ps h0 h' ∧ DH N h' ps) (.nx [sc, d, some (T row), a3, some (.int (i : Nat)), some (.str (pieces ((gapsOf (-1) row).take (i + 1)))), some (.ref bb), a7, a8, a9, a10] (h.set bb (.lst (((List.range i).map (Bg (gapsOf (-1) row))).map nI ++ [.int ((pieces ((gapsOf (-1) row).take i)).length : Nat)])))) := fun a9 => by
      refine ⟨_, _, rfl, ?_, F.set hb0, D.set hbp⟩
      rw [lst_set hbl, List.range_succ, List.map_append, List.map_append]
      rfl
    generalize pieces ((gapsOf (-1) row).take (i + 1)) = P1 at *
    generalize pieces ((gapsOf (-1) row).take i) = P0 at *
    cases i with
    | zero =>
      have c1 : decide ((0 : Int) < ((0 : Nat) : Int)) = false := by decide
      rw [if_pos rfl] at g4
      generalize row.getD 0 0 = r0 at *
      have g4' : r0 - (-1) = (g : Int) := g4
      generalize hz : ((0 : Nat) : Int) = z at *
      simp (disch := first | omega | (simp only [List.length_append, List.length_cons, List.length_nil, List.length_set, List.length_drop, List.length_take, List.length_map]; omega)) only [hix, c1, g4', hlt, hq, hll, e2, hm, ha, ha2, sv_nx, sv_rt, sv_ct, rnd_nx, rnd_ct, Int.toNat_natCast, ne_eq, eq_self, not_true_eq_false, not_false_eq_true, mVar_z, Nat.reduceAdd, Nat.zero_add, Int.zero_add, Int.reduceAdd, Int.reduceSub, Int.reduceNeg, ap_Lst, ap_Tup, nil_app, cons_app, List.length_append, lst_last, mVar_s, ok_bnd, ok_stm, exc_bnd, ev_okE, exc_stm, ap_C, ap_Op, ap_Un, ap_B, ap_Chain, ap_asB, ap_And, ap_Or, ap_Not, ap_AndV, ap_OrV, ap_NotV, ap_If, ap_Nil, ap_Cons, ap_CB, ap_Meth, ap_Part, ap_NoPart, ap_Sl, ap_Yes, add_ii, add_ss, sub_ii, neg_i, mul_ii, fdiv_ii, mod_ii, eq_ii, ne_ii, eq_ss, ne_ss, lt_ii, le_ii, gt_ii, ge_ii, lt_ss, gt_ss, le_ss, ge_ss, len_s, len_t, abs_i, int_i, int_b, max_ii, min_ii, ix_s, ixL_0, ixL_1, ixL_2, ixL_3, ixL_n, ixL_i, ixL_st, setL_n, setL_i, List.length_map, List.length_set, ix_r, getL_r, ix_tL, withL_s, setL_0, setL_1, setL_2, set_r, app_r, lst_z, lst_s, iadd_ii, tuple_r, mul_ri, sl_s, sl_rol, sl_t, sl_r, cut_from, cut_to, ap_Seq, nx_seq, rt_seq, ct_seq, bk_seq, exc_seq, ap_Raise, ap_Skip, ap_Brk, ap_Cnt, ap_Drop, ap_Ret, ap_IfS, ap_Set, ap_Ts, ap_AsgT, tgT_t, tgTs_n, tgTs_c, ap_Aug, ap_SetI, ap_AugI, mFor_ap, ap_Rng1, ap_Rng2, rng1_ok, rng2_ok, ap_Iter, src_t, src_s, src_rL, ap_Comp, wipe_n, wipe_c, len_cons, len_nil, zip_cc, zip_nn, foldl_c, foldl_n, set_z, set_s, ite_t, ite_f, ite_T, ite_F, sing_lt, sing_eq, ty_r, ty_s, isS, cut_mid, decide_eq_true_eq, if_pos, if_neg]
      exact fin _
    | succ i =>
      have c1 : decide ((0 : Int) < ((i + 1 : Nat) : Int)) = true := decide_eq_true (by omega)
      have c2 : ((i + 1 : Nat) : Int) - 1 = (i : Nat) := by omega
      have hix2 := fun h => ixT (h := h) (i := i) (row := row) (by omega)
      rw [if_neg (by omega), Nat.add_sub_cancel] at g4
      generalize row.getD (i + 1) 0 = r0 at *
      generalize row.getD i 0 = r1 at *
      generalize ((i + 1 : Nat) : Int) = z at *
      simp (disch := first | omega | (simp only [List.length_append, List.length_cons, List.length_nil, List.length_set, List.length_drop, List.length_take, List.length_map]; omega)) only [hix, hix2, c1, c2, g4, hlt, hq, hll, e2, hm, ha, ha2, sv_nx, sv_rt, sv_ct, rnd_nx, rnd_ct, Int.toNat_natCast, ne_eq, eq_self, not_true_eq_false, not_false_eq_true, mVar_z, Nat.reduceAdd, Nat.zero_add, Int.zero_add, Int.reduceAdd, Int.reduceSub, Int.reduceNeg, ap_Lst, ap_Tup, nil_app, cons_app, List.length_append, lst_last, mVar_s, ok_bnd, ok_stm, exc_bnd, ev_okE, exc_stm, ap_C, ap_Op, ap_Un, ap_B, ap_Chain, ap_asB, ap_And, ap_Or, ap_Not, ap_AndV, ap_OrV, ap_NotV, ap_If, ap_Nil, ap_Cons, ap_CB, ap_Meth, ap_Part, ap_NoPart, ap_Sl, ap_Yes, add_ii, add_ss, sub_ii, neg_i, mul_ii, fdiv_ii, mod_ii, eq_ii, ne_ii, eq_ss, ne_ss, lt_ii, le_ii, gt_ii, ge_ii, lt_ss, gt_ss, le_ss, ge_ss, len_s, len_t, abs_i, int_i, int_b, max_ii, min_ii, ix_s, ixL_0, ixL_1, ixL_2, ixL_3, ixL_n, ixL_i, ixL_st, setL_n, setL_i, List.length_map, List.length_set, ix_r, getL_r, ix_tL, withL_s, setL_0, setL_1, setL_2, set_r, app_r, lst_z, lst_s, iadd_ii, tuple_r, mul_ri, sl_s, sl_rol, sl_t, sl_r, cut_from, cut_to, ap_Seq, nx_seq, rt_seq, ct_seq, bk_seq, exc_seq, ap_Raise, ap_Skip, ap_Brk, ap_Cnt, ap_Drop, ap_Ret, ap_IfS, ap_Set, ap_Ts, ap_AsgT, tgT_t, tgTs_n, tgTs_c, ap_Aug, ap_SetI, ap_AugI, mFor_ap, ap_Rng1, ap_Rng2, rng1_ok, rng2_ok, ap_Iter, src_t, src_s, src_rL, ap_Comp, wipe_n, wipe_c, len_cons, len_nil, zip_cc, zip_nn, foldl_c, foldl_n, set_z, set_s, ite_t, ite_f, ite_T, ite_F, sing_lt, sing_eq, ty_r, ty_s, isS, cut_mid, decide_eq_true_eq, if_pos, if_neg]
      exact fin _
  · rintro e h ⟨a4, a9, rfl, hq, F, D⟩
    have e : pieces ((gapsOf (-1) row).take row.length) = code row := by rw [List.take_of_length_le (by omega)]
    refine ⟨a4, a9, h, by rw [e], ?_, F, D⟩
    rw [hq]
    unfold begs
    rw [hgl]
end Law_indexhall_k05_rows_coded
set_option maxRecDepth 100000
set_option maxHeartbeats 1000000
namespace Law_indexhall_k05_rows_coded
open PySem L2 Den K05
theorem nI_int (l : List Nat) : l.map nI = (l.map fun k : Nat => (k : Int)).map W.int := by rw [List.map_map]; rfl
theorem nat_mem {c : Nat} {l : List Nat} : decide ((c : Int) ∈ l.map fun k : Nat => (k : Int)) = decide (c ∈ l) := by
  rw [decide_eq_decide, List.mem_map]
  constructor
  · rintro ⟨k, hk, e⟩
    have : k = c := by omega
    rw [← this]; exact hk
  · intro h
    exact ⟨c, h, rfl⟩
theorem ixB {l : List Nat} {i : Nat} {v : Nat} {h : List O} (hi : l[i]? = some v) : ixL (l.map nI) (i : Nat) h = .ok (.int (v : Nat)) h := by
  have hl := (List.getElem?_eq_some_iff.mp hi).1
  rw [ixL_ok (by omega) (by rw [List.length_map]; omega), Int.toNat_natCast, List.getD_eq_getElem?_getD, List.getElem?_map, hi]
  rfl
theorem begs_get {gs : List Nat} {i : Nat} (hi : i < gs.length) : (begs gs)[i]? = some (Bg gs i) := by
  unfold begs
  rw [List.getElem?_map, List.getElem?_range hi]
  rfl
theorem begs_len {gs : List Nat} : (begs gs).length = gs.length := by unfold begs; rw [List.length_map, List.length_range]
/-- which pieces end before the cut -/
theorem whole_ev {sc d a3 a8 a9 a10 : Option W} {row : List Int} {h : List O} {gs : List Nat} {bb cut w : Nat} {p s : List Nat} {Q : W → List O → Prop} (hl : lstAt h bb = some ((begs gs).map nI)) (hs : s = pieces gs) (hsl : s.length ≤ 1000000) (hn : gs.length ≤ 1000) (c : Cut gs cut w p)
    (q : ∀ h', Gr h h' → ∀ r xs, lstAt h' r = some xs → xs.length = w → Q (.ref r) h') : Ev (compGo (srcN 0 gs.length) (tgN 4) (mB (mOp oLe (mOp oIx (mIf (mB (mOp oLt (mOp oAdd (mVar 4) (mC (.int 1))) (mCB oLen (mCons (mVar 6) (mNil))))) (mLst (mCons (mOp oIx (mVar 6) (mOp oAdd (mVar 4) (mC (.int 1)))) (mNil))) (mLst (mCons (mCB oLen (mCons (mVar 5) (mNil))) (mNil)))) (mC (.int 0))) (mVar 7))) (mVar 4) h.length [sc, d, some (T row), a3, none, some (.str s), some (.ref bb), some (.int (cut : Nat)), a8, a9, a10] 100000 0 (h ++ [.lst []])) Q := by
  refine comp_rng gs.length 0 4 (by omega) (by omega) (fun k => decide (Bg gs (k + 1) ≤ cut)) (fun k => .int (0 + k)) (fun k hk h' G => ?_) (fun k hk _ h' G => ?_) (fun h' G => ?_)
  · have lb := G.lst hl
    have e1 : 0 + (k : Int) + 1 = ((k + 1 : Nat) : Int) := by omega
    by_cases hk2 : k + 1 < gs.length
    · have c1 : decide (((k + 1 : Nat) : Int) < (gs.length : Nat)) = true := decide_eq_true (by omega)
      have c2 : decide (((Bg gs (k + 1) : Nat) : Int) ≤ (cut : Nat)) = decide (Bg gs (k + 1) ≤ cut) := by rw [decide_eq_decide]; omega
      have hix := fun h => ixB (h := h) (begs_get hk2)
      have hlen : oLen [.ref bb] h' = .ok (.int (gs.length : Nat)) h' := by rw [len_r lb, List.length_map, begs_len]
      simp only [set_s, set_z]
      generalize hX : 0 + (k : Int) = X at *
      simp (disch := first | omega | (simp only [List.length_append, List.length_cons, List.length_nil, List.length_set, List.length_drop, List.length_take, List.length_map]; omega)) only [e1, hlen, c1, lb, hix, c2, sv_nx, sv_rt, sv_ct, rnd_nx, rnd_ct, Int.toNat_natCast, ne_eq, eq_self, not_true_eq_false, not_false_eq_true, mVar_z, Nat.reduceAdd, Nat.zero_add, Int.zero_add, Int.reduceAdd, Int.reduceSub, Int.reduceNeg, ap_Lst, ap_Tup, nil_app, cons_app, List.length_append, lst_last, mVar_s, ok_bnd, ok_stm, exc_bnd, ev_okE, exc_stm, ap_C, ap_Op, ap_Un, ap_B, ap_Chain, ap_asB, ap_And, ap_Or, ap_Not, ap_AndV, ap_OrV, ap_NotV, ap_If, ap_Nil, ap_Cons, ap_CB, ap_Meth, ap_Part, ap_NoPart, ap_Sl, ap_Yes, add_ii, add_ss, sub_ii, neg_i, mul_ii, fdiv_ii, mod_ii, eq_ii, ne_ii, eq_ss, ne_ss, lt_ii, le_ii, gt_ii, ge_ii, lt_ss, gt_ss, le_ss, ge_ss, len_s, len_t, abs_i, int_i, int_b, max_ii, min_ii, ix_s, ixL_0, ixL_1, ixL_2, ixL_3, ixL_n, ixL_i, ixL_st, setL_n, setL_i, List.length_map, List.length_set, ix_r, getL_r, ix_tL, withL_s, setL_0, setL_1, setL_2, set_r, app_r, lst_z, lst_s, iadd_ii, tuple_r, mul_ri, sl_s, sl_rol, sl_t, sl_r, cut_from, cut_to, ap_Seq, nx_seq, rt_seq, ct_seq, bk_seq, exc_seq, ap_Raise, ap_Skip, ap_Brk, ap_Cnt, ap_Drop, ap_Ret, ap_IfS, ap_Set, ap_Ts, ap_AsgT, tgT_t, tgTs_n, tgTs_c, ap_Aug, ap_SetI, ap_AugI, mFor_ap, ap_Rng1, ap_Rng2, rng1_ok, rng2_ok, ap_Iter, src_t, src_s, src_rL, ap_Comp, wipe_n, wipe_c, len_cons, len_nil, zip_cc, zip_nn, foldl_c, foldl_n, set_z, set_s, ite_t, ite_f, ite_T, ite_F, sing_lt, sing_eq, ty_r, ty_s, isS, cut_mid, decide_eq_true_eq, if_pos, if_neg]
      exact ⟨trivial, Gr.app⟩
    · have c1 : decide (((k + 1 : Nat) : Int) < (gs.length : Nat)) = false := decide_eq_false (by omega)
      have hb : Bg gs (k + 1) = s.length := by rw [hs, Bg_all (by omega)]
      have c2 : decide (((s.length : Nat) : Int) ≤ (cut : Nat)) = decide (Bg gs (k + 1) ≤ cut) := by rw [decide_eq_decide]; omega
      have hlen : oLen [.ref bb] h' = .ok (.int (gs.length : Nat)) h' := by rw [len_r lb, List.length_map, begs_len]
      simp only [set_s, set_z]
      generalize hX : 0 + (k : Int) = X at *
      simp (disch := first | omega | (simp only [List.length_append, List.length_cons, List.length_nil, List.length_set, List.length_drop, List.length_take, List.length_map]; omega)) only [e1, hlen, c1, lb, c2, sv_nx, sv_rt, sv_ct, rnd_nx, rnd_ct, Int.toNat_natCast, ne_eq, eq_self, not_true_eq_false, not_false_eq_true, mVar_z, Nat.reduceAdd, Nat.zero_add, Int.zero_add, Int.reduceAdd, Int.reduceSub, Int.reduceNeg, ap_Lst, ap_Tup, nil_app, cons_app, List.length_append, lst_last, mVar_s, ok_bnd, ok_stm, exc_bnd, ev_okE, exc_stm, ap_C, ap_Op, ap_Un, ap_B, ap_Chain, ap_asB, ap_And, ap_Or, ap_Not, ap_AndV, ap_OrV, ap_NotV, ap_If, ap_Nil, ap_Cons, ap_CB, ap_Meth, ap_Part, ap_NoPart, ap_Sl, ap_Yes, add_ii, add_ss, sub_ii, neg_i, mul_ii, fdiv_ii, mod_ii, eq_ii, ne_ii, eq_ss, ne_ss, lt_ii, le_ii, gt_ii, ge_ii, lt_ss, gt_ss, le_ss, ge_ss, len_s, len_t, abs_i, int_i, int_b, max_ii, min_ii, ix_s, ixL_0, ixL_1, ixL_2, ixL_3, ixL_n, ixL_i, ixL_st, setL_n, setL_i, List.length_map, List.length_set, ix_r, getL_r, ix_tL, withL_s, setL_0, setL_1, setL_2, set_r, app_r, lst_z, lst_s, iadd_ii, tuple_r, mul_ri, sl_s, sl_rol, sl_t, sl_r, cut_from, cut_to, ap_Seq, nx_seq, rt_seq, ct_seq, bk_seq, exc_seq, ap_Raise, ap_Skip, ap_Brk, ap_Cnt, ap_Drop, ap_Ret, ap_IfS, ap_Set, ap_Ts, ap_AsgT, tgT_t, tgTs_n, tgTs_c, ap_Aug, ap_SetI, ap_AugI, mFor_ap, ap_Rng1, ap_Rng2, rng1_ok, rng2_ok, ap_Iter, src_t, src_s, src_rL, ap_Comp, wipe_n, wipe_c, len_cons, len_nil, zip_cc, zip_nn, foldl_c, foldl_n, set_z, set_s, ite_t, ite_f, ite_T, ite_F, sing_lt, sing_eq, ty_r, ty_s, isS, cut_mid, decide_eq_true_eq, if_pos, if_neg]
      exact ⟨trivial, Gr.app⟩
  · simp (disch := first | omega | (simp only [List.length_append, List.length_cons, List.length_nil, List.length_set, List.length_drop, List.length_take, List.length_map]; omega)) only [sv_nx, sv_rt, sv_ct, rnd_nx, rnd_ct, Int.toNat_natCast, ne_eq, eq_self, not_true_eq_false, not_false_eq_true, mVar_z, Nat.reduceAdd, Nat.zero_add, Int.zero_add, Int.reduceAdd, Int.reduceSub, Int.reduceNeg, ap_Lst, ap_Tup, nil_app, cons_app, List.length_append, lst_last, mVar_s, ok_bnd, ok_stm, exc_bnd, ev_okE, exc_stm, ap_C, ap_Op, ap_Un, ap_B, ap_Chain, ap_asB, ap_And, ap_Or, ap_Not, ap_AndV, ap_OrV, ap_NotV, ap_If, ap_Nil, ap_Cons, ap_CB, ap_Meth, ap_Part, ap_NoPart, ap_Sl, ap_Yes, add_ii, add_ss, sub_ii, neg_i, mul_ii, fdiv_ii, mod_ii, eq_ii, ne_ii, eq_ss, ne_ss, lt_ii, le_ii, gt_ii, ge_ii, lt_ss, gt_ss, le_ss, ge_ss, len_s, len_t, abs_i, int_i, int_b, max_ii, min_ii, ix_s, ixL_0, ixL_1, ixL_2, ixL_3, ixL_n, ixL_i, ixL_st, setL_n, setL_i, List.length_map, List.length_set, ix_r, getL_r, ix_tL, withL_s, setL_0, setL_1, setL_2, set_r, app_r, lst_z, lst_s, iadd_ii, tuple_r, mul_ri, sl_s, sl_rol, sl_t, sl_r, cut_from, cut_to, ap_Seq, nx_seq, rt_seq, ct_seq, bk_seq, exc_seq, ap_Raise, ap_Skip, ap_Brk, ap_Cnt, ap_Drop, ap_Ret, ap_IfS, ap_Set, ap_Ts, ap_AsgT, tgT_t, tgTs_n, tgTs_c, ap_Aug, ap_SetI, ap_AugI, mFor_ap, ap_Rng1, ap_Rng2, rng1_ok, rng2_ok, ap_Iter, src_t, src_s, src_rL, ap_Comp, wipe_n, wipe_c, len_cons, len_nil, zip_cc, zip_nn, foldl_c, foldl_n, set_z, set_s, ite_t, ite_f, ite_T, ite_F, sing_lt, sing_eq, ty_r, ty_s, isS, cut_mid, decide_eq_true_eq, if_pos, if_neg]
    exact ⟨trivial, Gr.refl⟩
  · exact q h' G.left _ _ G.lastL (by rw [picks_length]; exact c.count)
end Law_indexhall_k05_rows_coded
set_option maxRecDepth 100000
set_option maxHeartbeats 1000000
namespace Law_indexhall_k05_rows_coded
open PySem L2 Den K05
theorem main2 (ns : List Int) (hl : ns.length ≤ 63) (hb : ∀ z ∈ ns, Builtin.Int.intBits z ≤ 1048576) : ∃ h', den_law [scriptW ns] [] = .ok (.bl true) h' := by
  suffices hS : Ev (den_law [scriptW ns] []) fun w _ => w = .bl true by
    obtain ⟨w, h', e, rfl⟩ := ev_get hS
    exact ⟨h', e⟩
  refine fun_ev ?_
  unfold body_law
  simp only [startE, List.map_cons, List.map_nil, List.length_cons, List.length_nil, List.cons_append, List.nil_append, Nat.zero_add, Nat.reduceAdd, Nat.reduceSub, List.replicate_succ, List.replicate_zero]
  obtain ⟨w0, h0, e0, p, ps, rfl, hp, hne, hpl, hpp, D0⟩ := ev_get (rounds_Ev (most := 4) (by omega) hl (fun z hz => bits_AB (hb z hz)))
  rw [← rounds_eq] at e0
  simp (disch := first | omega | (simp only [List.length_append, List.length_cons, List.length_nil, List.length_set, List.length_drop, List.length_take, List.length_map]; omega)) only [e0, hpp, mVar_z, Nat.reduceAdd, Nat.zero_add, Int.zero_add, Int.reduceAdd, Int.reduceSub, Int.reduceNeg, ap_Lst, ap_Tup, nil_app, cons_app, List.length_append, lst_last, mVar_s, ok_bnd, ok_stm, exc_bnd, ev_okE, exc_stm, ap_C, ap_Op, ap_Un, ap_B, ap_Chain, ap_asB, ap_And, ap_Or, ap_Not, ap_AndV, ap_OrV, ap_NotV, ap_If, ap_Nil, ap_Cons, ap_CB, ap_Meth, ap_Part, ap_NoPart, ap_Sl, ap_Yes, add_ii, add_ss, sub_ii, neg_i, mul_ii, fdiv_ii, mod_ii, eq_ii, ne_ii, eq_ss, ne_ss, lt_ii, le_ii, gt_ii, ge_ii, lt_ss, gt_ss, le_ss, ge_ss, len_s, len_t, abs_i, int_i, int_b, max_ii, min_ii, ix_s, ixL_0, ixL_1, ixL_2, ixL_3, ixL_n, ixL_i, ixL_st, setL_n, setL_i, List.length_map, List.length_set, ix_r, getL_r, ix_tL, withL_s, setL_0, setL_1, setL_2, set_r, app_r, lst_z, lst_s, iadd_ii, tuple_r, mul_ri, sl_s, sl_rol, sl_t, sl_r, cut_from, cut_to, ap_Seq, nx_seq, rt_seq, ct_seq, bk_seq, exc_seq, ap_Raise, ap_Skip, ap_Brk, ap_Cnt, ap_Drop, ap_Ret, ap_IfS, ap_Set, ap_Ts, ap_AsgT, tgT_t, tgTs_n, tgTs_c, ap_Aug, ap_SetI, ap_AugI, mFor_ap, ap_Rng1, ap_Rng2, rng1_ok, rng2_ok, ap_Iter, src_t, src_s, src_rL, ap_Comp, wipe_n, wipe_c, len_cons, len_nil, zip_cc, zip_nn, foldl_c, foldl_n, set_z, set_s, ite_t, ite_f, ite_T, ite_F, sing_lt, sing_eq, ty_r, ty_s, isS, cut_mid, decide_eq_true_eq, if_pos, if_neg]
  refine sv_cut (R' := fun o => ∃ e h, o = SOut.nx e h) ?_ ?_
  · refine forGo_ref p (ps.map .ref) 1 (fun i e h => (∃ a1 a2 a3 a4 a5 a6 a7 a8 a9 a10, e = [some (scriptW ns), a1, a2, a3, a4, a5, a6, a7, a8, a9, a10]) ∧ Fr ps h0 h ∧ DH (i * 100) h ps) (by simp; omega) ⟨⟨_, _, _, _, _, _, _, _, _, _, rfl⟩, Fr.refl, by rw [Nat.zero_mul]; exact D0⟩ (fun i e h I => I.2.1.lst hp hpp) ?_ (fun e h I => ⟨e, h, rfl⟩)
    rintro i e h hi ⟨⟨a1, a2, a3, a4, a5, a6, a7, a8, a9, a10, rfl⟩, F, D⟩
    have hil : i < ps.length := by simpa using hi
    have hq : ps[i] ∈ ps := List.getElem_mem hil
    rw [List.getElem_map]
    generalize ps[i] = q at hq
    have hlp : h.length ∉ ps := fun z => by have := D.lt z; omega
    obtain ⟨n, h1, e1, n13, D1, F1⟩ := rollN (many := 13) (h := h ++ [O.lst []]) (D.gr Gr.app) hq (by omega) (by omega) (by omega)
    have e1 : den_law_roll [.ref q, .int 13] (h ++ [O.lst []]) = .ok (.int (n : Nat)) h1 := e1
    have l1 : lstAt h1 h.length = some [] := F1.lst hlp lst_last
    simp (disch := first | omega | (simp only [List.length_append, List.length_cons, List.length_nil, List.length_set, List.length_drop, List.length_take, List.length_map]; omega)) only [e1, sv_nx, sv_rt, sv_ct, rnd_nx, rnd_ct, Int.toNat_natCast, ne_eq, eq_self, not_true_eq_false, not_false_eq_true, mVar_z, Nat.reduceAdd, Nat.zero_add, Int.zero_add, Int.reduceAdd, Int.reduceSub, Int.reduceNeg, ap_Lst, ap_Tup, nil_app, cons_app, List.length_append, lst_last, mVar_s, ok_bnd, ok_stm, exc_bnd, ev_okE, exc_stm, ap_C, ap_Op, ap_Un, ap_B, ap_Chain, ap_asB, ap_And, ap_Or, ap_Not, ap_AndV, ap_OrV, ap_NotV, ap_If, ap_Nil, ap_Cons, ap_CB, ap_Meth, ap_Part, ap_NoPart, ap_Sl, ap_Yes, add_ii, add_ss, sub_ii, neg_i, mul_ii, fdiv_ii, mod_ii, eq_ii, ne_ii, eq_ss, ne_ss, lt_ii, le_ii, gt_ii, ge_ii, lt_ss, gt_ss, le_ss, ge_ss, len_s, len_t, abs_i, int_i, int_b, max_ii, min_ii, ix_s, ixL_0, ixL_1, ixL_2, ixL_3, ixL_n, ixL_i, ixL_st, setL_n, setL_i, List.length_map, List.length_set, ix_r, getL_r, ix_tL, withL_s, setL_0, setL_1, setL_2, set_r, app_r, lst_z, lst_s, iadd_ii, tuple_r, mul_ri, sl_s, sl_rol, sl_t, sl_r, cut_from, cut_to, ap_Seq, nx_seq, rt_seq, ct_seq, bk_seq, exc_seq, ap_Raise, ap_Skip, ap_Brk, ap_Cnt, ap_Drop, ap_Ret, ap_IfS, ap_Set, ap_Ts, ap_AsgT, tgT_t, tgTs_n, tgTs_c, ap_Aug, ap_SetI, ap_AugI, mFor_ap, ap_Rng1, ap_Rng2, rng1_ok, rng2_ok, ap_Iter, src_t, src_s, src_rL, ap_Comp, wipe_n, wipe_c, len_cons, len_nil, zip_cc, zip_nn, foldl_c, foldl_n, set_z, set_s, ite_t, ite_f, ite_T, ite_F, sing_lt, sing_eq, ty_r, ty_s, isS, cut_mid, decide_eq_true_eq, if_pos, if_neg]
    refine sv_cut (draw_loop (h0 := h) (rr := h.length) D1 hq (by omega) (by omega) ((Fr.of Gr.app).trans F1) (Nat.le_refl _) hlp l1) ?_
    rintro o ⟨row, a3, a4, h2, rfl, l2, hG, hlen, F2, D2⟩
    have F2' : Fr ps h0 h2 := F.trans F2
    have D2' : DH (i * 100 + 30) h2 ps := D2.mono (by omega)
    clear D2 F2 l1 e1 F1 D1 hlp F D
    have hlp : h2.length ∉ ps := fun z => by have := D2'.lt z; omega
    simp (disch := first | omega | (simp only [List.length_append, List.length_cons, List.length_nil, List.length_set, List.length_drop, List.length_take, List.length_map]; omega)) only [l2, sv_nx, sv_rt, sv_ct, rnd_nx, rnd_ct, Int.toNat_natCast, ne_eq, eq_self, not_true_eq_false, not_false_eq_true, mVar_z, Nat.reduceAdd, Nat.zero_add, Int.zero_add, Int.reduceAdd, Int.reduceSub, Int.reduceNeg, ap_Lst, ap_Tup, nil_app, cons_app, List.length_append, lst_last, mVar_s, ok_bnd, ok_stm, exc_bnd, ev_okE, exc_stm, ap_C, ap_Op, ap_Un, ap_B, ap_Chain, ap_asB, ap_And, ap_Or, ap_Not, ap_AndV, ap_OrV, ap_NotV, ap_If, ap_Nil, ap_Cons, ap_CB, ap_Meth, ap_Part, ap_NoPart, ap_Sl, ap_Yes, add_ii, add_ss, sub_ii, neg_i, mul_ii, fdiv_ii, mod_ii, eq_ii, ne_ii, eq_ss, ne_ss, lt_ii, le_ii, gt_ii, ge_ii, lt_ss, gt_ss, le_ss, ge_ss, len_s, len_t, abs_i, int_i, int_b, max_ii, min_ii, ix_s, ixL_0, ixL_1, ixL_2, ixL_3, ixL_n, ixL_i, ixL_st, setL_n, setL_i, List.length_map, List.length_set, ix_r, getL_r, ix_tL, withL_s, setL_0, setL_1, setL_2, set_r, app_r, lst_z, lst_s, iadd_ii, tuple_r, mul_ri, sl_s, sl_rol, sl_t, sl_r, cut_from, cut_to, ap_Seq, nx_seq, rt_seq, ct_seq, bk_seq, exc_seq, ap_Raise, ap_Skip, ap_Brk, ap_Cnt, ap_Drop, ap_Ret, ap_IfS, ap_Set, ap_Ts, ap_AsgT, tgT_t, tgTs_n, tgTs_c, ap_Aug, ap_SetI, ap_AugI, mFor_ap, ap_Rng1, ap_Rng2, rng1_ok, rng2_ok, ap_Iter, src_t, src_s, src_rL, ap_Comp, wipe_n, wipe_c, len_cons, len_nil, zip_cc, zip_nn, foldl_c, foldl_n, set_z, set_s, ite_t, ite_f, ite_T, ite_F, sing_lt, sing_eq, ty_r, ty_s, isS, cut_mid, decide_eq_true_eq, if_pos, if_neg]
    refine sv_cut (begins_loop (h0 := h2) (bb := h2.length) (D2'.gr Gr.app) (Fr.of Gr.app) (Nat.le_refl _) hlp lst_last hG (by omega)) ?_
    rintro o ⟨a4, a9, h3, rfl, l3, F3, D3⟩
    have F3' : Fr ps h0 h3 := F2'.trans F3
    clear F3 F2' D2' l2
    have hlb : h2.length ∉ ps := hlp
    generalize h2.length = bb at *
    clear hlp
    have hco := fun h => coded_all (row := row) hG (by omega) h
    obtain ⟨h4, e4, g4⟩ := decoded_row hG (by omega) h3
    have hcl := code_len hG
    have hgl := gaps_len row (-1)
    have l4 := g4.lst l3
    have D4 := D3.gr g4
    have F4 := F3'.trans (Fr.of g4)
    simp (disch := first | omega | (simp only [List.length_append, List.length_cons, List.length_nil, List.length_set, List.length_drop, List.length_take, List.length_map]; omega)) only [hco, e4, ne_tt, decide_false, sv_nx, sv_rt, sv_ct, rnd_nx, rnd_ct, Int.toNat_natCast, ne_eq, eq_self, not_true_eq_false, not_false_eq_true, mVar_z, Nat.reduceAdd, Nat.zero_add, Int.zero_add, Int.reduceAdd, Int.reduceSub, Int.reduceNeg, ap_Lst, ap_Tup, nil_app, cons_app, List.length_append, lst_last, mVar_s, ok_bnd, ok_stm, exc_bnd, ev_okE, exc_stm, ap_C, ap_Op, ap_Un, ap_B, ap_Chain, ap_asB, ap_And, ap_Or, ap_Not, ap_AndV, ap_OrV, ap_NotV, ap_If, ap_Nil, ap_Cons, ap_CB, ap_Meth, ap_Part, ap_NoPart, ap_Sl, ap_Yes, add_ii, add_ss, sub_ii, neg_i, mul_ii, fdiv_ii, mod_ii, eq_ii, ne_ii, eq_ss, ne_ss, lt_ii, le_ii, gt_ii, ge_ii, lt_ss, gt_ss, le_ss, ge_ss, len_s, len_t, abs_i, int_i, int_b, max_ii, min_ii, ix_s, ixL_0, ixL_1, ixL_2, ixL_3, ixL_n, ixL_i, ixL_st, setL_n, setL_i, List.length_map, List.length_set, ix_r, getL_r, ix_tL, withL_s, setL_0, setL_1, setL_2, set_r, app_r, lst_z, lst_s, iadd_ii, tuple_r, mul_ri, sl_s, sl_rol, sl_t, sl_r, cut_from, cut_to, ap_Seq, nx_seq, rt_seq, ct_seq, bk_seq, exc_seq, ap_Raise, ap_Skip, ap_Brk, ap_Cnt, ap_Drop, ap_Ret, ap_IfS, ap_Set, ap_Ts, ap_AsgT, tgT_t, tgTs_n, tgTs_c, ap_Aug, ap_SetI, ap_AugI, mFor_ap, ap_Rng1, ap_Rng2, rng1_ok, rng2_ok, ap_Iter, src_t, src_s, src_rL, ap_Comp, wipe_n, wipe_c, len_cons, len_nil, zip_cc, zip_nn, foldl_c, foldl_n, set_z, set_s, ite_t, ite_f, ite_T, ite_F, sing_lt, sing_eq, ty_r, ty_s, isS, cut_mid, decide_eq_true_eq, if_pos, if_neg]
    clear g4 e4 l3 D3 F3'
    repeat (first | with_reducible apply sv_seq | with_reducible apply sv_stm | with_reducible apply ev_bnd)
    refine comp_rng 39 1 10 (by omega) (by omega) (fun _ => false) (fun k => .int (1 + k)) (fun k hk h' G => ?_) (fun k hk hc h' G => by cases hc) (fun h5 G5 => ?_)
    · have e1 : 1 + (k : Int) = ((1 + k : Nat) : Int) := by omega
      have hi := fun h => intwos_all (g := 1 + k) (by omega) (by unfold BB; omega) h
      have hw := fun h => ltwos_all (g := 1 + k) (by unfold BB; omega) h
      simp (disch := first | omega | (simp only [List.length_append, List.length_cons, List.length_nil, List.length_set, List.length_drop, List.length_take, List.length_map]; omega)) only [e1, hi, hw, decide_false, sv_nx, sv_rt, sv_ct, rnd_nx, rnd_ct, Int.toNat_natCast, ne_eq, eq_self, not_true_eq_false, not_false_eq_true, mVar_z, Nat.reduceAdd, Nat.zero_add, Int.zero_add, Int.reduceAdd, Int.reduceSub, Int.reduceNeg, ap_Lst, ap_Tup, nil_app, cons_app, List.length_append, lst_last, mVar_s, ok_bnd, ok_stm, exc_bnd, ev_okE, exc_stm, ap_C, ap_Op, ap_Un, ap_B, ap_Chain, ap_asB, ap_And, ap_Or, ap_Not, ap_AndV, ap_OrV, ap_NotV, ap_If, ap_Nil, ap_Cons, ap_CB, ap_Meth, ap_Part, ap_NoPart, ap_Sl, ap_Yes, add_ii, add_ss, sub_ii, neg_i, mul_ii, fdiv_ii, mod_ii, eq_ii, ne_ii, eq_ss, ne_ss, lt_ii, le_ii, gt_ii, ge_ii, lt_ss, gt_ss, le_ss, ge_ss, len_s, len_t, abs_i, int_i, int_b, max_ii, min_ii, ix_s, ixL_0, ixL_1, ixL_2, ixL_3, ixL_n, ixL_i, ixL_st, setL_n, setL_i, List.length_map, List.length_set, ix_r, getL_r, ix_tL, withL_s, setL_0, setL_1, setL_2, set_r, app_r, lst_z, lst_s, iadd_ii, tuple_r, mul_ri, sl_s, sl_rol, sl_t, sl_r, cut_from, cut_to, ap_Seq, nx_seq, rt_seq, ct_seq, bk_seq, exc_seq, ap_Raise, ap_Skip, ap_Brk, ap_Cnt, ap_Drop, ap_Ret, ap_IfS, ap_Set, ap_Ts, ap_AsgT, tgT_t, tgTs_n, tgTs_c, ap_Aug, ap_SetI, ap_AugI, mFor_ap, ap_Rng1, ap_Rng2, rng1_ok, rng2_ok, ap_Iter, src_t, src_s, src_rL, ap_Comp, wipe_n, wipe_c, len_cons, len_nil, zip_cc, zip_nn, foldl_c, foldl_n, set_z, set_s, ite_t, ite_f, ite_T, ite_F, sing_lt, sing_eq, ty_r, ty_s, isS, cut_mid, decide_eq_true_eq, if_pos, if_neg]
      exact ⟨trivial, Gr.refl⟩
    have hn5 := ne_picks0 G5.lastL (fun _ _ => rfl)
    have g5 : Gr h4 (h5 ++ [O.lst []]) := G5.left.trans Gr.app
    have l6 := g5.lst l4
    have D6 := D4.gr g5
    have F6 := F4.trans (Fr.of g5)
    simp (disch := first | omega | (simp only [List.length_append, List.length_cons, List.length_nil, List.length_set, List.length_drop, List.length_take, List.length_map]; omega)) only [hn5, sv_nx, sv_rt, sv_ct, rnd_nx, rnd_ct, Int.toNat_natCast, ne_eq, eq_self, not_true_eq_false, not_false_eq_true, mVar_z, Nat.reduceAdd, Nat.zero_add, Int.zero_add, Int.reduceAdd, Int.reduceSub, Int.reduceNeg, ap_Lst, ap_Tup, nil_app, cons_app, List.length_append, lst_last, mVar_s, ok_bnd, ok_stm, exc_bnd, ev_okE, exc_stm, ap_C, ap_Op, ap_Un, ap_B, ap_Chain, ap_asB, ap_And, ap_Or, ap_Not, ap_AndV, ap_OrV, ap_NotV, ap_If, ap_Nil, ap_Cons, ap_CB, ap_Meth, ap_Part, ap_NoPart, ap_Sl, ap_Yes, add_ii, add_ss, sub_ii, neg_i, mul_ii, fdiv_ii, mod_ii, eq_ii, ne_ii, eq_ss, ne_ss, lt_ii, le_ii, gt_ii, ge_ii, lt_ss, gt_ss, le_ss, ge_ss, len_s, len_t, abs_i, int_i, int_b, max_ii, min_ii, ix_s, ixL_0, ixL_1, ixL_2, ixL_3, ixL_n, ixL_i, ixL_st, setL_n, setL_i, List.length_map, List.length_set, ix_r, getL_r, ix_tL, withL_s, setL_0, setL_1, setL_2, set_r, app_r, lst_z, lst_s, iadd_ii, tuple_r, mul_ri, sl_s, sl_rol, sl_t, sl_r, cut_from, cut_to, ap_Seq, nx_seq, rt_seq, ct_seq, bk_seq, exc_seq, ap_Raise, ap_Skip, ap_Brk, ap_Cnt, ap_Drop, ap_Ret, ap_IfS, ap_Set, ap_Ts, ap_AsgT, tgT_t, tgTs_n, tgTs_c, ap_Aug, ap_SetI, ap_AugI, mFor_ap, ap_Rng1, ap_Rng2, rng1_ok, rng2_ok, ap_Iter, src_t, src_s, src_rL, ap_Comp, wipe_n, wipe_c, len_cons, len_nil, zip_cc, zip_nn, foldl_c, foldl_n, set_z, set_s, ite_t, ite_f, ite_T, ite_F, sing_lt, sing_eq, ty_r, ty_s, isS, cut_mid, decide_eq_true_eq, if_pos, if_neg]
    clear hn5 G5 g5 D4 F4 l4
    generalize h5 ++ [O.lst []] = h6 at *
    obtain ⟨cut, h7, e7, hcut, D7, F7⟩ := rollN (many := (code row).length + 1) D6 hq (by omega) (by omega) (by omega)
    have em : ((code row).length : Int) + 1 = (((code row).length + 1 : Nat) : Int) := by omega
    have l7 := F7.lst hlb l6
    have hlen7 : ∀ h, lstAt h bb = some ((begs (gapsOf (-1) row)).map nI) → oLen [.ref bb] h = .ok (.int ((gapsOf (-1) row).length : Nat)) h := fun h hh => by rw [len_r hh, List.length_map, begs_len]
    have hlen7' := hlen7 _ l7
    have F7' := F6.trans F7
    obtain ⟨w, p', c⟩ := cut_ex (gapsOf (-1) row) cut (by show _ ≤ (code row).length; omega)
    simp (disch := first | omega | (simp only [List.length_append, List.length_cons, List.length_nil, List.length_set, List.length_drop, List.length_take, List.length_map]; omega)) only [em, e7, hlen7', sv_nx, sv_rt, sv_ct, rnd_nx, rnd_ct, Int.toNat_natCast, ne_eq, eq_self, not_true_eq_false, not_false_eq_true, mVar_z, Nat.reduceAdd, Nat.zero_add, Int.zero_add, Int.reduceAdd, Int.reduceSub, Int.reduceNeg, ap_Lst, ap_Tup, nil_app, cons_app, List.length_append, lst_last, mVar_s, ok_bnd, ok_stm, exc_bnd, ev_okE, exc_stm, ap_C, ap_Op, ap_Un, ap_B, ap_Chain, ap_asB, ap_And, ap_Or, ap_Not, ap_AndV, ap_OrV, ap_NotV, ap_If, ap_Nil, ap_Cons, ap_CB, ap_Meth, ap_Part, ap_NoPart, ap_Sl, ap_Yes, add_ii, add_ss, sub_ii, neg_i, mul_ii, fdiv_ii, mod_ii, eq_ii, ne_ii, eq_ss, ne_ss, lt_ii, le_ii, gt_ii, ge_ii, lt_ss, gt_ss, le_ss, ge_ss, len_s, len_t, abs_i, int_i, int_b, max_ii, min_ii, ix_s, ixL_0, ixL_1, ixL_2, ixL_3, ixL_n, ixL_i, ixL_st, setL_n, setL_i, List.length_map, List.length_set, ix_r, getL_r, ix_tL, withL_s, setL_0, setL_1, setL_2, set_r, app_r, lst_z, lst_s, iadd_ii, tuple_r, mul_ri, sl_s, sl_rol, sl_t, sl_r, cut_from, cut_to, ap_Seq, nx_seq, rt_seq, ct_seq, bk_seq, exc_seq, ap_Raise, ap_Skip, ap_Brk, ap_Cnt, ap_Drop, ap_Ret, ap_IfS, ap_Set, ap_Ts, ap_AsgT, tgT_t, tgTs_n, tgTs_c, ap_Aug, ap_SetI, ap_AugI, mFor_ap, ap_Rng1, ap_Rng2, rng1_ok, rng2_ok, ap_Iter, src_t, src_s, src_rL, ap_Comp, wipe_n, wipe_c, len_cons, len_nil, zip_cc, zip_nn, foldl_c, foldl_n, set_z, set_s, ite_t, ite_f, ite_T, ite_F, sing_lt, sing_eq, ty_r, ty_s, isS, cut_mid, decide_eq_true_eq, if_pos, if_neg]
    clear em e7 F7 F6 D6 l6
    repeat (first | with_reducible apply sv_seq | with_reducible apply sv_stm | with_reducible apply ev_bnd)
    refine whole_ev l7 rfl (by show (code row).length ≤ _; omega) (by omega) c ?_
    intro h8 g8 r xs hr hxs
    have l8 := g8.lst l7
    have D8 := D7.gr g8
    have F8 := F7'.trans (Fr.of g8)
    have hlw : ∀ h, Gr h8 h → oLen [.ref r] h = .ok (.int (w : Nat)) h := fun h g => by rw [len_r (g.lst hr), hxs]
    clear F7' D7 l7 g8 hlen7'
    have l9 : lstAt (h8 ++ [O.lst [.int ((code row).length : Nat)]]) bb = some ((begs (gapsOf (-1) row)).map nI) := by rw [lst_old (lst_lt l8)]; exact l8
    obtain ⟨p6, h9, e9, g9, l10, _⟩ := add_at l9 lst_last (by rw [List.length_map, begs_len]; simp; omega)
    have g89 : Gr h8 h9 := Gr.app.trans g9
    have hin9 : oIn (.int (cut : Nat)) (.ref p6) h9 = .ok (.bl (decide (p' = []))) h9 := by
      have e : (begs (gapsOf (-1) row)).map nI ++ [.int ((code row).length : Nat)] = ((begs (gapsOf (-1) row) ++ [(pieces (gapsOf (-1) row)).length]).map fun k : Nat => (k : Int)).map W.int := by
        rw [← nI_int, List.map_append]
        rfl
      rw [e] at l10
      rw [in_ri l10, nat_mem]
      congr 2
      rw [decide_eq_decide]
      exact c.mem
    have lb9 := g89.lst l8
    have D9 := D8.gr g89
    have F9 := F8.trans (Fr.of g89)
    have hlw9 := fun h (g : Gr h9 h) => hlw h (g89.trans g)
    simp (disch := first | omega | (simp only [List.length_append, List.length_cons, List.length_nil, List.length_set, List.length_drop, List.length_take, List.length_map]; omega)) only [e9, hin9, sv_nx, sv_rt, sv_ct, rnd_nx, rnd_ct, Int.toNat_natCast, ne_eq, eq_self, not_true_eq_false, not_false_eq_true, mVar_z, Nat.reduceAdd, Nat.zero_add, Int.zero_add, Int.reduceAdd, Int.reduceSub, Int.reduceNeg, ap_Lst, ap_Tup, nil_app, cons_app, List.length_append, lst_last, mVar_s, ok_bnd, ok_stm, exc_bnd, ev_okE, exc_stm, ap_C, ap_Op, ap_Un, ap_B, ap_Chain, ap_asB, ap_And, ap_Or, ap_Not, ap_AndV, ap_OrV, ap_NotV, ap_If, ap_Nil, ap_Cons, ap_CB, ap_Meth, ap_Part, ap_NoPart, ap_Sl, ap_Yes, add_ii, add_ss, sub_ii, neg_i, mul_ii, fdiv_ii, mod_ii, eq_ii, ne_ii, eq_ss, ne_ss, lt_ii, le_ii, gt_ii, ge_ii, lt_ss, gt_ss, le_ss, ge_ss, len_s, len_t, abs_i, int_i, int_b, max_ii, min_ii, ix_s, ixL_0, ixL_1, ixL_2, ixL_3, ixL_n, ixL_i, ixL_st, setL_n, setL_i, List.length_map, List.length_set, ix_r, getL_r, ix_tL, withL_s, setL_0, setL_1, setL_2, set_r, app_r, lst_z, lst_s, iadd_ii, tuple_r, mul_ri, sl_s, sl_rol, sl_t, sl_r, cut_from, cut_to, ap_Seq, nx_seq, rt_seq, ct_seq, bk_seq, exc_seq, ap_Raise, ap_Skip, ap_Brk, ap_Cnt, ap_Drop, ap_Ret, ap_IfS, ap_Set, ap_Ts, ap_AsgT, tgT_t, tgTs_n, tgTs_c, ap_Aug, ap_SetI, ap_AugI, mFor_ap, ap_Rng1, ap_Rng2, rng1_ok, rng2_ok, ap_Iter, src_t, src_s, src_rL, ap_Comp, wipe_n, wipe_c, len_cons, len_nil, zip_cc, zip_nn, foldl_c, foldl_n, set_z, set_s, ite_t, ite_f, ite_T, ite_F, sing_lt, sing_eq, ty_r, ty_s, isS, cut_mid, decide_eq_true_eq, if_pos, if_neg]
    clear e9 hin9 l9 l10 g9 g89 hlw F8 D8 l8
    refine sv_cut (R' := fun o => ∃ h', o = SOut.nx [some (scriptW ns), some (.ref q), some (T row), a3, a4, some (.str (code row)), some (.ref bb), some (.int (cut : Nat)), some (.ref r), a9, a10] h' ∧ Gr h9 h') ?_ ?_
    · have htl : ((code row).take cut).length ≤ 3000 := by rw [List.length_take]; omega
      by_cases hp0 : p' = []
      · rw [if_pos hp0]
        subst hp0
        obtain ⟨h10, e10, g10⟩ := decoded_ok htl (dec_cut_ok hG c) h9
        have hw := hlw9 h10 g10
        simp (disch := first | omega | (simp only [List.length_append, List.length_cons, List.length_nil, List.length_set, List.length_drop, List.length_take, List.length_map]; omega)) only [e10, hw, ← List.map_take, ne_tt, decide_false, sv_nx, sv_rt, sv_ct, rnd_nx, rnd_ct, Int.toNat_natCast, ne_eq, eq_self, not_true_eq_false, not_false_eq_true, mVar_z, Nat.reduceAdd, Nat.zero_add, Int.zero_add, Int.reduceAdd, Int.reduceSub, Int.reduceNeg, ap_Lst, ap_Tup, nil_app, cons_app, List.length_append, lst_last, mVar_s, ok_bnd, ok_stm, exc_bnd, ev_okE, exc_stm, ap_C, ap_Op, ap_Un, ap_B, ap_Chain, ap_asB, ap_And, ap_Or, ap_Not, ap_AndV, ap_OrV, ap_NotV, ap_If, ap_Nil, ap_Cons, ap_CB, ap_Meth, ap_Part, ap_NoPart, ap_Sl, ap_Yes, add_ii, add_ss, sub_ii, neg_i, mul_ii, fdiv_ii, mod_ii, eq_ii, ne_ii, eq_ss, ne_ss, lt_ii, le_ii, gt_ii, ge_ii, lt_ss, gt_ss, le_ss, ge_ss, len_s, len_t, abs_i, int_i, int_b, max_ii, min_ii, ix_s, ixL_0, ixL_1, ixL_2, ixL_3, ixL_n, ixL_i, ixL_st, setL_n, setL_i, List.length_map, List.length_set, ix_r, getL_r, ix_tL, withL_s, setL_0, setL_1, setL_2, set_r, app_r, lst_z, lst_s, iadd_ii, tuple_r, mul_ri, sl_s, sl_rol, sl_t, sl_r, cut_from, cut_to, ap_Seq, nx_seq, rt_seq, ct_seq, bk_seq, exc_seq, ap_Raise, ap_Skip, ap_Brk, ap_Cnt, ap_Drop, ap_Ret, ap_IfS, ap_Set, ap_Ts, ap_AsgT, tgT_t, tgTs_n, tgTs_c, ap_Aug, ap_SetI, ap_AugI, mFor_ap, ap_Rng1, ap_Rng2, rng1_ok, rng2_ok, ap_Iter, src_t, src_s, src_rL, ap_Comp, wipe_n, wipe_c, len_cons, len_nil, zip_cc, zip_nn, foldl_c, foldl_n, set_z, set_s, ite_t, ite_f, ite_T, ite_F, sing_lt, sing_eq, ty_r, ty_s, isS, cut_mid, decide_eq_true_eq, if_pos, if_neg]
        exact ⟨_, rfl, g10⟩
      · rw [if_neg hp0]
        have hwn : w < (gapsOf (-1) row).length := by
          rcases c.or_ with ⟨_, e2⟩ | ⟨g, h1, h2, h3⟩
          · exact absurd e2 hp0
          · exact (List.getElem?_eq_some_iff.mp h1).1
        obtain ⟨h10, e10, g10⟩ := decoded_err htl (dec_cut_err hG c hp0) h9
        have hw := hlw9 h10 g10
        have lb10 := g10.lst lb9
        have hix := fun h => ixB (h := h) (begs_get hwn)
        simp (disch := first | omega | (simp only [List.length_append, List.length_cons, List.length_nil, List.length_set, List.length_drop, List.length_take, List.length_map]; omega)) only [ap_Place, e10, hw, lb10, hix, decide_false, sv_nx, sv_rt, sv_ct, rnd_nx, rnd_ct, Int.toNat_natCast, ne_eq, eq_self, not_true_eq_false, not_false_eq_true, mVar_z, Nat.reduceAdd, Nat.zero_add, Int.zero_add, Int.reduceAdd, Int.reduceSub, Int.reduceNeg, ap_Lst, ap_Tup, nil_app, cons_app, List.length_append, lst_last, mVar_s, ok_bnd, ok_stm, exc_bnd, ev_okE, exc_stm, ap_C, ap_Op, ap_Un, ap_B, ap_Chain, ap_asB, ap_And, ap_Or, ap_Not, ap_AndV, ap_OrV, ap_NotV, ap_If, ap_Nil, ap_Cons, ap_CB, ap_Meth, ap_Part, ap_NoPart, ap_Sl, ap_Yes, add_ii, add_ss, sub_ii, neg_i, mul_ii, fdiv_ii, mod_ii, eq_ii, ne_ii, eq_ss, ne_ss, lt_ii, le_ii, gt_ii, ge_ii, lt_ss, gt_ss, le_ss, ge_ss, len_s, len_t, abs_i, int_i, int_b, max_ii, min_ii, ix_s, ixL_0, ixL_1, ixL_2, ixL_3, ixL_n, ixL_i, ixL_st, setL_n, setL_i, List.length_map, List.length_set, ix_r, getL_r, ix_tL, withL_s, setL_0, setL_1, setL_2, set_r, app_r, lst_z, lst_s, iadd_ii, tuple_r, mul_ri, sl_s, sl_rol, sl_t, sl_r, cut_from, cut_to, ap_Seq, nx_seq, rt_seq, ct_seq, bk_seq, exc_seq, ap_Raise, ap_Skip, ap_Brk, ap_Cnt, ap_Drop, ap_Ret, ap_IfS, ap_Set, ap_Ts, ap_AsgT, tgT_t, tgTs_n, tgTs_c, ap_Aug, ap_SetI, ap_AugI, mFor_ap, ap_Rng1, ap_Rng2, rng1_ok, rng2_ok, ap_Iter, src_t, src_s, src_rL, ap_Comp, wipe_n, wipe_c, len_cons, len_nil, zip_cc, zip_nn, foldl_c, foldl_n, set_z, set_s, ite_t, ite_f, ite_T, ite_F, sing_lt, sing_eq, ty_r, ty_s, isS, cut_mid, decide_eq_true_eq, if_pos, if_neg]
        exact ⟨_, rfl, g10⟩
    rintro o ⟨h10, rfl, g10⟩
    have lb10 := g10.lst lb9
    have D10 := D9.gr g10
    have F10 := F9.trans (Fr.of g10)
    clear lb9 D9 F9 g10 hlw9 hr hxs
    have hsp := dec_spoilt hG c
    have hspl : ((code row).take cut ++ [120] ++ (code row).drop cut).length ≤ 3000 := by rw [List.length_append, List.length_append, List.length_take, List.length_drop]; simp; omega
    have ha1 : ∀ h, oAdd (.str ((code row).take cut)) (.str [120]) h = .ok (.str ((code row).take cut ++ [120])) h := fun h => add_ss (by rw [List.length_take]; simp; omega)
    have ha2 : ∀ h, oAdd (.str ((code row).take cut ++ [120])) (.str ((code row).drop cut)) h = .ok (.str ((code row).take cut ++ [120] ++ (code row).drop cut)) h := fun h => add_ss (by rw [List.length_append] at hspl; omega)
    generalize (code row).take cut ++ [120] ++ (code row).drop cut = sp at *
    obtain ⟨h11, e11, g11⟩ := decoded_err hspl hsp h10
    have lb11 : lstAt (h11 ++ [O.lst [.int (cut : Nat)]]) bb = some ((begs (gapsOf (-1) row)).map nI) := by rw [lst_old (lst_lt (g11.lst lb10))]; exact g11.lst lb10
    obtain ⟨p12, h12, e12, g12, l12, _⟩ := add_at lst_last lb11 (by rw [List.length_map, begs_len]; simp; omega)
    have hni : oNotIn (.int (cut : Nat)) (.ref p12) h12 = .ok (.bl false) h12 := by
      have e : [W.int (cut : Nat)] ++ (begs (gapsOf (-1) row)).map nI = ((cut :: begs (gapsOf (-1) row)).map fun k : Nat => (k : Int)).map W.int := by
        rw [← nI_int]
        rfl
      rw [e] at l12
      rw [notin_ri l12, nat_mem]
      simp
    have gg : Gr h10 h12 := (g11.trans Gr.app).trans g12
    have lb12 := gg.lst lb10
    have D12 := D10.gr gg
    have F12 := F10.trans (Fr.of gg)
    simp (disch := first | omega | (simp only [List.length_append, List.length_cons, List.length_nil, List.length_set, List.length_drop, List.length_take, List.length_map]; omega)) only [ap_Place, ha1, ha2, e11, e12, hni, sv_nx, sv_rt, sv_ct, rnd_nx, rnd_ct, Int.toNat_natCast, ne_eq, eq_self, not_true_eq_false, not_false_eq_true, mVar_z, Nat.reduceAdd, Nat.zero_add, Int.zero_add, Int.reduceAdd, Int.reduceSub, Int.reduceNeg, ap_Lst, ap_Tup, nil_app, cons_app, List.length_append, lst_last, mVar_s, ok_bnd, ok_stm, exc_bnd, ev_okE, exc_stm, ap_C, ap_Op, ap_Un, ap_B, ap_Chain, ap_asB, ap_And, ap_Or, ap_Not, ap_AndV, ap_OrV, ap_NotV, ap_If, ap_Nil, ap_Cons, ap_CB, ap_Meth, ap_Part, ap_NoPart, ap_Sl, ap_Yes, add_ii, add_ss, sub_ii, neg_i, mul_ii, fdiv_ii, mod_ii, eq_ii, ne_ii, eq_ss, ne_ss, lt_ii, le_ii, gt_ii, ge_ii, lt_ss, gt_ss, le_ss, ge_ss, len_s, len_t, abs_i, int_i, int_b, max_ii, min_ii, ix_s, ixL_0, ixL_1, ixL_2, ixL_3, ixL_n, ixL_i, ixL_st, setL_n, setL_i, List.length_map, List.length_set, ix_r, getL_r, ix_tL, withL_s, setL_0, setL_1, setL_2, set_r, app_r, lst_z, lst_s, iadd_ii, tuple_r, mul_ri, sl_s, sl_rol, sl_t, sl_r, cut_from, cut_to, ap_Seq, nx_seq, rt_seq, ct_seq, bk_seq, exc_seq, ap_Raise, ap_Skip, ap_Brk, ap_Cnt, ap_Drop, ap_Ret, ap_IfS, ap_Set, ap_Ts, ap_AsgT, tgT_t, tgTs_n, tgTs_c, ap_Aug, ap_SetI, ap_AugI, mFor_ap, ap_Rng1, ap_Rng2, rng1_ok, rng2_ok, ap_Iter, src_t, src_s, src_rL, ap_Comp, wipe_n, wipe_c, len_cons, len_nil, zip_cc, zip_nn, foldl_c, foldl_n, set_z, set_s, ite_t, ite_f, ite_T, ite_F, sing_lt, sing_eq, ty_r, ty_s, isS, cut_mid, decide_eq_true_eq, if_pos, if_neg]
    clear e11 e12 hni l12 lb11 gg g12 g11 lb10 D10 F10
    have hin12 : oIn (.int (cut : Nat)) (.ref bb) h12 = .ok (.bl (decide (cut ∈ begs (gapsOf (-1) row)))) h12 := by
      rw [nI_int] at lb12
      rw [in_ri lb12, nat_mem]
    obtain ⟨h13, e13, g13⟩ := decoded_err hspl hsp h12
    refine sv_cut (R' := fun o => ∃ h', o = SOut.nx [some (scriptW ns), some (.ref q), some (T row), a3, a4, some (.str (code row)), some (.ref bb), some (.int (cut : Nat)), some (.ref r), a9, a10] h' ∧ Gr h12 h') ?_ ?_
    · simp (disch := first | omega | (simp only [List.length_append, List.length_cons, List.length_nil, List.length_set, List.length_drop, List.length_take, List.length_map]; omega)) only [hin12, ap_Place, ha1, ha2, e13, decide_false, sv_nx, sv_rt, sv_ct, rnd_nx, rnd_ct, Int.toNat_natCast, ne_eq, eq_self, not_true_eq_false, not_false_eq_true, mVar_z, Nat.reduceAdd, Nat.zero_add, Int.zero_add, Int.reduceAdd, Int.reduceSub, Int.reduceNeg, ap_Lst, ap_Tup, nil_app, cons_app, List.length_append, lst_last, mVar_s, ok_bnd, ok_stm, exc_bnd, ev_okE, exc_stm, ap_C, ap_Op, ap_Un, ap_B, ap_Chain, ap_asB, ap_And, ap_Or, ap_Not, ap_AndV, ap_OrV, ap_NotV, ap_If, ap_Nil, ap_Cons, ap_CB, ap_Meth, ap_Part, ap_NoPart, ap_Sl, ap_Yes, add_ii, add_ss, sub_ii, neg_i, mul_ii, fdiv_ii, mod_ii, eq_ii, ne_ii, eq_ss, ne_ss, lt_ii, le_ii, gt_ii, ge_ii, lt_ss, gt_ss, le_ss, ge_ss, len_s, len_t, abs_i, int_i, int_b, max_ii, min_ii, ix_s, ixL_0, ixL_1, ixL_2, ixL_3, ixL_n, ixL_i, ixL_st, setL_n, setL_i, List.length_map, List.length_set, ix_r, getL_r, ix_tL, withL_s, setL_0, setL_1, setL_2, set_r, app_r, lst_z, lst_s, iadd_ii, tuple_r, mul_ri, sl_s, sl_rol, sl_t, sl_r, cut_from, cut_to, ap_Seq, nx_seq, rt_seq, ct_seq, bk_seq, exc_seq, ap_Raise, ap_Skip, ap_Brk, ap_Cnt, ap_Drop, ap_Ret, ap_IfS, ap_Set, ap_Ts, ap_AsgT, tgT_t, tgTs_n, tgTs_c, ap_Aug, ap_SetI, ap_AugI, mFor_ap, ap_Rng1, ap_Rng2, rng1_ok, rng2_ok, ap_Iter, src_t, src_s, src_rL, ap_Comp, wipe_n, wipe_c, len_cons, len_nil, zip_cc, zip_nn, foldl_c, foldl_n, set_z, set_s, ite_t, ite_f, ite_T, ite_F, sing_lt, sing_eq, ty_r, ty_s, isS, cut_mid, decide_eq_true_eq, if_pos, if_neg]
      by_cases hcb : cut ∈ begs (gapsOf (-1) row)
      · rw [if_pos hcb]
        simp (disch := first | omega | (simp only [List.length_append, List.length_cons, List.length_nil, List.length_set, List.length_drop, List.length_take, List.length_map]; omega)) only [sv_nx, sv_rt, sv_ct, rnd_nx, rnd_ct, Int.toNat_natCast, ne_eq, eq_self, not_true_eq_false, not_false_eq_true, mVar_z, Nat.reduceAdd, Nat.zero_add, Int.zero_add, Int.reduceAdd, Int.reduceSub, Int.reduceNeg, ap_Lst, ap_Tup, nil_app, cons_app, List.length_append, lst_last, mVar_s, ok_bnd, ok_stm, exc_bnd, ev_okE, exc_stm, ap_C, ap_Op, ap_Un, ap_B, ap_Chain, ap_asB, ap_And, ap_Or, ap_Not, ap_AndV, ap_OrV, ap_NotV, ap_If, ap_Nil, ap_Cons, ap_CB, ap_Meth, ap_Part, ap_NoPart, ap_Sl, ap_Yes, add_ii, add_ss, sub_ii, neg_i, mul_ii, fdiv_ii, mod_ii, eq_ii, ne_ii, eq_ss, ne_ss, lt_ii, le_ii, gt_ii, ge_ii, lt_ss, gt_ss, le_ss, ge_ss, len_s, len_t, abs_i, int_i, int_b, max_ii, min_ii, ix_s, ixL_0, ixL_1, ixL_2, ixL_3, ixL_n, ixL_i, ixL_st, setL_n, setL_i, List.length_map, List.length_set, ix_r, getL_r, ix_tL, withL_s, setL_0, setL_1, setL_2, set_r, app_r, lst_z, lst_s, iadd_ii, tuple_r, mul_ri, sl_s, sl_rol, sl_t, sl_r, cut_from, cut_to, ap_Seq, nx_seq, rt_seq, ct_seq, bk_seq, exc_seq, ap_Raise, ap_Skip, ap_Brk, ap_Cnt, ap_Drop, ap_Ret, ap_IfS, ap_Set, ap_Ts, ap_AsgT, tgT_t, tgTs_n, tgTs_c, ap_Aug, ap_SetI, ap_AugI, mFor_ap, ap_Rng1, ap_Rng2, rng1_ok, rng2_ok, ap_Iter, src_t, src_s, src_rL, ap_Comp, wipe_n, wipe_c, len_cons, len_nil, zip_cc, zip_nn, foldl_c, foldl_n, set_z, set_s, ite_t, ite_f, ite_T, ite_F, sing_lt, sing_eq, ty_r, ty_s, isS, cut_mid, decide_eq_true_eq, if_pos, if_neg]
        exact ⟨_, rfl, g13⟩
      · rw [if_neg hcb]
        simp (disch := first | omega | (simp only [List.length_append, List.length_cons, List.length_nil, List.length_set, List.length_drop, List.length_take, List.length_map]; omega)) only [sv_nx, sv_rt, sv_ct, rnd_nx, rnd_ct, Int.toNat_natCast, ne_eq, eq_self, not_true_eq_false, not_false_eq_true, mVar_z, Nat.reduceAdd, Nat.zero_add, Int.zero_add, Int.reduceAdd, Int.reduceSub, Int.reduceNeg, ap_Lst, ap_Tup, nil_app, cons_app, List.length_append, lst_last, mVar_s, ok_bnd, ok_stm, exc_bnd, ev_okE, exc_stm, ap_C, ap_Op, ap_Un, ap_B, ap_Chain, ap_asB, ap_And, ap_Or, ap_Not, ap_AndV, ap_OrV, ap_NotV, ap_If, ap_Nil, ap_Cons, ap_CB, ap_Meth, ap_Part, ap_NoPart, ap_Sl, ap_Yes, add_ii, add_ss, sub_ii, neg_i, mul_ii, fdiv_ii, mod_ii, eq_ii, ne_ii, eq_ss, ne_ss, lt_ii, le_ii, gt_ii, ge_ii, lt_ss, gt_ss, le_ss, ge_ss, len_s, len_t, abs_i, int_i, int_b, max_ii, min_ii, ix_s, ixL_0, ixL_1, ixL_2, ixL_3, ixL_n, ixL_i, ixL_st, setL_n, setL_i, List.length_map, List.length_set, ix_r, getL_r, ix_tL, withL_s, setL_0, setL_1, setL_2, set_r, app_r, lst_z, lst_s, iadd_ii, tuple_r, mul_ri, sl_s, sl_rol, sl_t, sl_r, cut_from, cut_to, ap_Seq, nx_seq, rt_seq, ct_seq, bk_seq, exc_seq, ap_Raise, ap_Skip, ap_Brk, ap_Cnt, ap_Drop, ap_Ret, ap_IfS, ap_Set, ap_Ts, ap_AsgT, tgT_t, tgTs_n, tgTs_c, ap_Aug, ap_SetI, ap_AugI, mFor_ap, ap_Rng1, ap_Rng2, rng1_ok, rng2_ok, ap_Iter, src_t, src_s, src_rL, ap_Comp, wipe_n, wipe_c, len_cons, len_nil, zip_cc, zip_nn, foldl_c, foldl_n, set_z, set_s, ite_t, ite_f, ite_T, ite_F, sing_lt, sing_eq, ty_r, ty_s, isS, cut_mid, decide_eq_true_eq, if_pos, if_neg]
        exact ⟨_, rfl, Gr.refl⟩
    rintro o ⟨h14, rfl, g14⟩
    have D14 := D12.gr g14
    have F14 := F12.trans (Fr.of g14)
    obtain ⟨h15, e15, D15, F15⟩ := lblocks_ev (row := row) D14 hq (by omega) hG (by omega)
    have hi0 := fun h => inblocks_0 hG (by omega) h
    have hc21 := coded_21
    simp (disch := first | omega | (simp only [List.length_append, List.length_cons, List.length_nil, List.length_set, List.length_drop, List.length_take, List.length_map]; omega)) only [e15, ap_Tru, tru_bl, Bool.not_true, ap_Told, hi0, tellGo, hc21, decide_false, sv_nx, sv_rt, sv_ct, rnd_nx, rnd_ct, Int.toNat_natCast, ne_eq, eq_self, not_true_eq_false, not_false_eq_true, mVar_z, Nat.reduceAdd, Nat.zero_add, Int.zero_add, Int.reduceAdd, Int.reduceSub, Int.reduceNeg, ap_Lst, ap_Tup, nil_app, cons_app, List.length_append, lst_last, mVar_s, ok_bnd, ok_stm, exc_bnd, ev_okE, exc_stm, ap_C, ap_Op, ap_Un, ap_B, ap_Chain, ap_asB, ap_And, ap_Or, ap_Not, ap_AndV, ap_OrV, ap_NotV, ap_If, ap_Nil, ap_Cons, ap_CB, ap_Meth, ap_Part, ap_NoPart, ap_Sl, ap_Yes, add_ii, add_ss, sub_ii, neg_i, mul_ii, fdiv_ii, mod_ii, eq_ii, ne_ii, eq_ss, ne_ss, lt_ii, le_ii, gt_ii, ge_ii, lt_ss, gt_ss, le_ss, ge_ss, len_s, len_t, abs_i, int_i, int_b, max_ii, min_ii, ix_s, ixL_0, ixL_1, ixL_2, ixL_3, ixL_n, ixL_i, ixL_st, setL_n, setL_i, List.length_map, List.length_set, ix_r, getL_r, ix_tL, withL_s, setL_0, setL_1, setL_2, set_r, app_r, lst_z, lst_s, iadd_ii, tuple_r, mul_ri, sl_s, sl_rol, sl_t, sl_r, cut_from, cut_to, ap_Seq, nx_seq, rt_seq, ct_seq, bk_seq, exc_seq, ap_Raise, ap_Skip, ap_Brk, ap_Cnt, ap_Drop, ap_Ret, ap_IfS, ap_Set, ap_Ts, ap_AsgT, tgT_t, tgTs_n, tgTs_c, ap_Aug, ap_SetI, ap_AugI, mFor_ap, ap_Rng1, ap_Rng2, rng1_ok, rng2_ok, ap_Iter, src_t, src_s, src_rL, ap_Comp, wipe_n, wipe_c, len_cons, len_nil, zip_cc, zip_nn, foldl_c, foldl_n, set_z, set_s, ite_t, ite_f, ite_T, ite_F, sing_lt, sing_eq, ty_r, ty_s, isS, cut_mid, decide_eq_true_eq, if_pos, if_neg]
    exact ⟨⟨_, _, _, _, _, _, _, _, _, _, rfl⟩, F14.trans F15, D15.mono (by omega)⟩
  · rintro o ⟨e, h, rfl⟩
    simp (disch := first | omega | (simp only [List.length_append, List.length_cons, List.length_nil, List.length_set, List.length_drop, List.length_take, List.length_map]; omega)) only [sv_nx, sv_rt, sv_ct, rnd_nx, rnd_ct, Int.toNat_natCast, ne_eq, eq_self, not_true_eq_false, not_false_eq_true, mVar_z, Nat.reduceAdd, Nat.zero_add, Int.zero_add, Int.reduceAdd, Int.reduceSub, Int.reduceNeg, ap_Lst, ap_Tup, nil_app, cons_app, List.length_append, lst_last, mVar_s, ok_bnd, ok_stm, exc_bnd, ev_okE, exc_stm, ap_C, ap_Op, ap_Un, ap_B, ap_Chain, ap_asB, ap_And, ap_Or, ap_Not, ap_AndV, ap_OrV, ap_NotV, ap_If, ap_Nil, ap_Cons, ap_CB, ap_Meth, ap_Part, ap_NoPart, ap_Sl, ap_Yes, add_ii, add_ss, sub_ii, neg_i, mul_ii, fdiv_ii, mod_ii, eq_ii, ne_ii, eq_ss, ne_ss, lt_ii, le_ii, gt_ii, ge_ii, lt_ss, gt_ss, le_ss, ge_ss, len_s, len_t, abs_i, int_i, int_b, max_ii, min_ii, ix_s, ixL_0, ixL_1, ixL_2, ixL_3, ixL_n, ixL_i, ixL_st, setL_n, setL_i, List.length_map, List.length_set, ix_r, getL_r, ix_tL, withL_s, setL_0, setL_1, setL_2, set_r, app_r, lst_z, lst_s, iadd_ii, tuple_r, mul_ri, sl_s, sl_rol, sl_t, sl_r, cut_from, cut_to, ap_Seq, nx_seq, rt_seq, ct_seq, bk_seq, exc_seq, ap_Raise, ap_Skip, ap_Brk, ap_Cnt, ap_Drop, ap_Ret, ap_IfS, ap_Set, ap_Ts, ap_AsgT, tgT_t, tgTs_n, tgTs_c, ap_Aug, ap_SetI, ap_AugI, mFor_ap, ap_Rng1, ap_Rng2, rng1_ok, rng2_ok, ap_Iter, src_t, src_s, src_rL, ap_Comp, wipe_n, wipe_c, len_cons, len_nil, zip_cc, zip_nn, foldl_c, foldl_n, set_z, set_s, ite_t, ite_f, ite_T, ite_F, sing_lt, sing_eq, ty_r, ty_s, isS, cut_mid, decide_eq_true_eq, if_pos, if_neg]
end Law_indexhall_k05_rows_coded
namespace Law_indexhall_k05_rows_coded
open PySem L2 Den PyProof.Rows
theorem main : ∀ ns : List Int, ns.length ≤ 63 → (∀ z ∈ ns, Builtin.Int.intBits z ≤ 1048576) → ∃ h', den_law [scriptW ns] [] = .ok (.bl true) h' := fun ns hl hb => main2 ns hl hb
def gx (C_BadText C_NoSuch C_BadCode P_is_row P_decoded P_law : Addr) : Gx := { T := [(P_is_row, ("is_row" ++ ".<locals>.<genexpr>" : Str)), (P_decoded, ("decoded" ++ ".<locals>.<genexpr>" : Str)), (P_law, ("law" ++ ".<locals>.<lambda>" : Str))], ca := fun c => if c = 1 then some C_BadText else if c = 2 then some C_NoSuch else if c = 3 then some C_BadCode else none }
theorem fin {l : PySem.W.OpenLaw} {w : World} {K : PySem.W.Frag} {h : Heap} {mg : Str → Option Value} {C_BadText C_NoSuch C_BadCode C_IndexFault fI_BadCode cc_BadCode cI_BadCode cN_BadCode a_is_row a_check_row a_in_twos a_coded a_decoded a_in_blocks a_of_blocks a_in_block a_law_dice a_law_roll a_law_rounds a_law_twos a_law_blocks a_law_told a_law_place fa a_law c_is_row c_decoded c_law P_is_row P_decoded P_law : Addr}
    {od_is_row an_is_row od_check_row an_check_row od_in_twos an_in_twos od_coded an_coded od_decoded an_decoded od_in_blocks an_in_blocks od_of_blocks an_of_blocks od_in_block an_in_block od_law_dice an_law_dice od_law_roll an_law_roll od_law_rounds an_law_rounds od_law_twos an_law_twos od_law_blocks an_law_blocks od_law_told an_law_told od_law_place an_law_place od_law an_law : Option Addr} {sl_is_row sl_check_row sl_in_twos sl_coded sl_decoded sl_in_blocks sl_of_blocks sl_in_block sl_law_dice sl_law_roll sl_law_rounds sl_law_twos sl_law_blocks sl_law_told sl_law_place sl_law : Array (Option Value)} {oc_is_row kV_is_row dc_is_row pm_is_row ct_is_row oc_check_row kV_check_row dc_check_row pm_check_row ct_check_row cd_check_row oc_in_twos kV_in_twos dc_in_twos pm_in_twos ct_in_twos cd_in_twos oc_coded kV_coded dc_coded pm_coded ct_coded cd_coded oc_decoded kV_decoded dc_decoded pm_decoded ct_decoded oc_in_blocks kV_in_blocks dc_in_blocks pm_in_blocks ct_in_blocks cd_in_blocks oc_of_blocks kV_of_blocks dc_of_blocks pm_of_blocks ct_of_blocks cd_of_blocks oc_in_block kV_in_block dc_in_block pm_in_block ct_in_block cd_in_block oc_law_dice kV_law_dice dc_law_dice pm_law_dice ct_law_dice cd_law_dice oc_law_roll kV_law_roll dc_law_roll pm_law_roll ct_law_roll cd_law_roll oc_law_rounds kV_law_rounds dc_law_rounds pm_law_rounds ct_law_rounds cd_law_rounds oc_law_twos kV_law_twos dc_law_twos pm_law_twos ct_law_twos cd_law_twos oc_law_blocks kV_law_blocks dc_law_blocks pm_law_blocks ct_law_blocks cd_law_blocks oc_law_told kV_law_told dc_law_told pm_law_told ct_law_told cd_law_told oc_law_place kV_law_place dc_law_place pm_law_place ct_law_place cd_law_place oc_law kV_law dc_law pm_law ct_law : Value}
    {nm_BadCode q_BadCode fil_BadCode : Str} {bs_BadCode bm_BadCode sub_BadCode : List Value} {sn_BadCode : List Str} {ab_BadCode : Bool} {col_BadCode : Option Bool} {dd_BadCode od_BadCode an_BadCode cdd_BadCode cld_BadCode : Option Addr} {k0_BadCode k1_BadCode k2_BadCode k3_BadCode k5_BadCode : Option Value} {oc_BadCode kV_BadCode dc_BadCode pm_BadCode ct_BadCode ccl_BadCode cl_BadCode : Value} {sl_BadCode ccs_BadCode csl_BadCode : Array (Option Value)} {vs_BadCode : Array Value} {tf_BadCode : Tok} {cdD_BadCode : ClassData}
    (main : ∀ ns : List Int, ns.length ≤ 63 → (∀ z ∈ ns, Builtin.Int.intBits z ≤ 1048576) → ∃ h', den_law [scriptW ns] [] = .ok (.bl true) h')
    (X : K.In h) (G : h.Ns mainGlobals mg) (hfa : mg "law" = some (.ref fa))
    (m_BadText : PySem.W.nsIn K mainGlobals "BadText" = some (some (.ref C_BadText)))
    (e_BadText : PySem.W.excIn K C_BadText [.type "ValueError", .type "Exception", .type "BaseException", .type "object"] "ValueError.__new__" = true)
    (k_BadText : PySem.W.keepIn K (.ref C_BadText) = true)
    (s_BadText : PySem.W.subIn K (.ref C_BadText) (.type "BaseException") = some true)
    (t_BadText : PySem.W.typeIn K (.ref C_BadText) = some (.type "type"))
    (m_NoSuch : PySem.W.nsIn K mainGlobals "NoSuch" = some (some (.ref C_NoSuch)))
    (e_NoSuch : PySem.W.excIn K C_NoSuch [.type "ValueError", .type "Exception", .type "BaseException", .type "object"] "ValueError.__new__" = true)
    (k_NoSuch : PySem.W.keepIn K (.ref C_NoSuch) = true)
    (s_NoSuch : PySem.W.subIn K (.ref C_NoSuch) (.type "BaseException") = some true)
    (t_NoSuch : PySem.W.typeIn K (.ref C_NoSuch) = some (.type "type"))
    (m_BadCode : PySem.W.nsIn K mainGlobals "BadCode" = some (some (.ref C_BadCode)))
    (k_BadCode : PySem.W.keepIn K (.ref C_BadCode) = true)
    (s_BadCode : PySem.W.subIn K (.ref C_BadCode) (.type "BaseException") = some true)
    (t_BadCode : PySem.W.typeIn K (.ref C_BadCode) = some (.type "type"))
    (i_BadText : PySem.W.isClsIn K C_BadText = true)
    (i_NoSuch : PySem.W.isClsIn K C_NoSuch = true)
    (i_BadCode : PySem.W.isClsIn K C_BadCode = true)
    (x_BadText_BadText : PySem.W.subIn K (.ref C_BadText) (.ref C_BadText) = some true)
    (x_BadText_NoSuch : PySem.W.subIn K (.ref C_BadText) (.ref C_NoSuch) = some false)
    (x_BadText_BadCode : PySem.W.subIn K (.ref C_BadText) (.ref C_BadCode) = some false)
    (x_NoSuch_BadText : PySem.W.subIn K (.ref C_NoSuch) (.ref C_BadText) = some false)
    (x_NoSuch_NoSuch : PySem.W.subIn K (.ref C_NoSuch) (.ref C_NoSuch) = some true)
    (x_NoSuch_BadCode : PySem.W.subIn K (.ref C_NoSuch) (.ref C_BadCode) = some false)
    (x_BadCode_BadText : PySem.W.subIn K (.ref C_BadCode) (.ref C_BadText) = some false)
    (x_BadCode_NoSuch : PySem.W.subIn K (.ref C_BadCode) (.ref C_NoSuch) = some false)
    (x_BadCode_BadCode : PySem.W.subIn K (.ref C_BadCode) (.ref C_BadCode) = some true)
    (m_IndexFault : PySem.W.nsIn K mainGlobals "IndexFault" = some (some (.ref C_IndexFault)))
    (oC_BadCode : K.lookup C_BadCode = some (excClassObj nm_BadCode q_BadCode C_BadCode cN_BadCode bs_BadCode bm_BadCode true sn_BadCode sub_BadCode ab_BadCode col_BadCode dd_BadCode k0_BadCode k1_BadCode k2_BadCode k3_BadCode k5_BadCode "ValueError.__new__"))
    (rv_BadCode : PySem.HandSPX.refsVE bm_BadCode = true)
    (sa_BadCode : PySem.W.findIn K (.ref C_BadCode) "__setattr__" = some (some (.builtin "object.__setattr__")))
    (fi_BadCode : PySem.W.findIn K (.ref C_BadCode) "__init__" = some (some (.ref fI_BadCode)))
    (ft_BadCode : PySem.W.typeIn K (.ref fI_BadCode) = some (.type "function"))
    (li_BadCode : K.lookup fI_BadCode = some ⟨oc_BadCode, od_BadCode, .func (PySem.W.fnX "__init__" "BadCode.__init__" (defArgs si_BadCode) (defBody si_BadCode) (defScope si_BadCode) [("__class__", cc_BadCode)] .none kV_BadCode dc_BadCode pm_BadCode an_BadCode (.ref cI_BadCode) ct_BadCode), sl_BadCode⟩)
    (cd_BadCode : PySem.W.codeIn K (.ref cI_BadCode) "BadCode.__init__" = true)
    (lc_BadCode : K.lookup cI_BadCode = some ⟨ccl_BadCode, cdd_BadCode, .fields vs_BadCode, ccs_BadCode⟩)
    (v2_BadCode : vs_BadCode[2]? = some (.str fil_BadCode tf_BadCode))
    (fe_BadCode : ((l.prog.main.file : Str) == fil_BadCode) = true)
    (le_BadCode : K.lookup cc_BadCode = some ⟨cl_BadCode, cld_BadCode, .cell (some (.ref C_BadCode)), csl_BadCode⟩)
    (cK_BadCode : PySem.W.clsIn K C_BadCode = some cdD_BadCode)
    (mr_BadCode : PySem.W.mroIn K C_BadCode (.ref C_BadCode) = some true)
    (su_BadCode : PySem.W.ks_superIn K C_BadCode C_BadCode "__init__" = some (some (.builtin "ValueError.__init__")))
    (ve_BadCode : PySem.W.subIn K (.ref C_BadCode) (.type "ValueError") = some true)
    (no_BadCode : PySem.W.findIn K (.ref C_BadCode) "place" = some none)
    (pg_BadCode : PySem.W.findIn K (.ref C_BadCode) "__getattribute__" = some (some (.builtin "BaseException.__getattribute__")))
    (pk_BadCode : PySem.W.findIn K (.ref C_BadCode) "__getattr__" = some none)
    (pd_BadCode : PySem.W.hasDictIn K C_BadCode = true)
    (pa_BadCode : PySem.W.findIn K (.ref C_BadCode) "__class__" = some (some (.builtin "object.__class__")))
    (pn_BadCode : PySem.W.specialIn K (.builtin "object.__class__") "__get__" = some (some (.builtin "getset_descriptor.__get__")))
    (pt_BadCode : PySem.W.takesIn K (.builtin "object.__class__") = some true)
    (pm_BadCode : PySem.W.mroIn K C_BadCode (.type "object") = some true)
    (k1_BadCode : PySem.W.kitCls K (.ref C_BadCode) (.ref C_IndexFault) = some true)
    (k2_BadCode : PySem.W.kitCls K (.ref C_BadCode) (.type "ValueError") = some true)
    (oq_ : PySem.W.nsIn K cStatics "thirdparty.any" = some none)
    (tp_ : (l.prog.main.scope.names.lookup ("super" : Str)).isSome = false)
    (n_is_row : PySem.W.nsIn K mainGlobals "is_row" = some (some (.ref a_is_row)))
    (l_is_row : K.lookup a_is_row = some ⟨oc_is_row, od_is_row, .func (PySem.W.fnOf "is_row" "is_row" (defArgs s_is_row) (defBody s_is_row) (defScope s_is_row) .none kV_is_row dc_is_row pm_is_row an_is_row (.ref c_is_row) ct_is_row), sl_is_row⟩)
    (cc_is_row : PySem.W.codeIn K (.ref c_is_row) "is_row" = true)
    (k_is_row : PySem.W.keepIn K (.ref a_is_row) = true)
    (n_check_row : PySem.W.nsIn K mainGlobals "check_row" = some (some (.ref a_check_row)))
    (l_check_row : K.lookup a_check_row = some ⟨oc_check_row, od_check_row, .func (PySem.W.fnOf "check_row" "check_row" (defArgs s_check_row) (defBody s_check_row) (defScope s_check_row) .none kV_check_row dc_check_row pm_check_row an_check_row cd_check_row ct_check_row), sl_check_row⟩)
    (cc_check_row : PySem.W.codeIn K cd_check_row "check_row" = true)
    (k_check_row : PySem.W.keepIn K (.ref a_check_row) = true)
    (n_in_twos : PySem.W.nsIn K mainGlobals "in_twos" = some (some (.ref a_in_twos)))
    (l_in_twos : K.lookup a_in_twos = some ⟨oc_in_twos, od_in_twos, .func (PySem.W.fnOf "in_twos" "in_twos" (defArgs s_in_twos) (defBody s_in_twos) (defScope s_in_twos) .none kV_in_twos dc_in_twos pm_in_twos an_in_twos cd_in_twos ct_in_twos), sl_in_twos⟩)
    (cc_in_twos : PySem.W.codeIn K cd_in_twos "in_twos" = true)
    (k_in_twos : PySem.W.keepIn K (.ref a_in_twos) = true)
    (n_coded : PySem.W.nsIn K mainGlobals "coded" = some (some (.ref a_coded)))
    (l_coded : K.lookup a_coded = some ⟨oc_coded, od_coded, .func (PySem.W.fnOf "coded" "coded" (defArgs s_coded) (defBody s_coded) (defScope s_coded) .none kV_coded dc_coded pm_coded an_coded cd_coded ct_coded), sl_coded⟩)
    (cc_coded : PySem.W.codeIn K cd_coded "coded" = true)
    (k_coded : PySem.W.keepIn K (.ref a_coded) = true)
    (n_decoded : PySem.W.nsIn K mainGlobals "decoded" = some (some (.ref a_decoded)))
    (l_decoded : K.lookup a_decoded = some ⟨oc_decoded, od_decoded, .func (PySem.W.fnOf "decoded" "decoded" (defArgs s_decoded) (defBody s_decoded) (defScope s_decoded) .none kV_decoded dc_decoded pm_decoded an_decoded (.ref c_decoded) ct_decoded), sl_decoded⟩)
    (cc_decoded : PySem.W.codeIn K (.ref c_decoded) "decoded" = true)
    (k_decoded : PySem.W.keepIn K (.ref a_decoded) = true)
    (n_in_blocks : PySem.W.nsIn K mainGlobals "in_blocks" = some (some (.ref a_in_blocks)))
    (l_in_blocks : K.lookup a_in_blocks = some ⟨oc_in_blocks, od_in_blocks, .func (PySem.W.fnOf "in_blocks" "in_blocks" (defArgs s_in_blocks) (defBody s_in_blocks) (defScope s_in_blocks) .none kV_in_blocks dc_in_blocks pm_in_blocks an_in_blocks cd_in_blocks ct_in_blocks), sl_in_blocks⟩)
    (cc_in_blocks : PySem.W.codeIn K cd_in_blocks "in_blocks" = true)
    (k_in_blocks : PySem.W.keepIn K (.ref a_in_blocks) = true)
    (n_of_blocks : PySem.W.nsIn K mainGlobals "of_blocks" = some (some (.ref a_of_blocks)))
    (l_of_blocks : K.lookup a_of_blocks = some ⟨oc_of_blocks, od_of_blocks, .func (PySem.W.fnOf "of_blocks" "of_blocks" (defArgs s_of_blocks) (defBody s_of_blocks) (defScope s_of_blocks) .none kV_of_blocks dc_of_blocks pm_of_blocks an_of_blocks cd_of_blocks ct_of_blocks), sl_of_blocks⟩)
    (cc_of_blocks : PySem.W.codeIn K cd_of_blocks "of_blocks" = true)
    (k_of_blocks : PySem.W.keepIn K (.ref a_of_blocks) = true)
    (n_in_block : PySem.W.nsIn K mainGlobals "in_block" = some (some (.ref a_in_block)))
    (l_in_block : K.lookup a_in_block = some ⟨oc_in_block, od_in_block, .func (PySem.W.fnOf "in_block" "in_block" (defArgs s_in_block) (defBody s_in_block) (defScope s_in_block) .none kV_in_block dc_in_block pm_in_block an_in_block cd_in_block ct_in_block), sl_in_block⟩)
    (cc_in_block : PySem.W.codeIn K cd_in_block "in_block" = true)
    (k_in_block : PySem.W.keepIn K (.ref a_in_block) = true)
    (n_law_dice : PySem.W.nsIn K mainGlobals "_law_dice" = some (some (.ref a_law_dice)))
    (l_law_dice : K.lookup a_law_dice = some ⟨oc_law_dice, od_law_dice, .func (PySem.W.fnOf "_law_dice" "_law_dice" (defArgs s_law_dice) (defBody s_law_dice) (defScope s_law_dice) .none kV_law_dice dc_law_dice pm_law_dice an_law_dice cd_law_dice ct_law_dice), sl_law_dice⟩)
    (cc_law_dice : PySem.W.codeIn K cd_law_dice "_law_dice" = true)
    (k_law_dice : PySem.W.keepIn K (.ref a_law_dice) = true)
    (n_law_roll : PySem.W.nsIn K mainGlobals "_law_roll" = some (some (.ref a_law_roll)))
    (l_law_roll : K.lookup a_law_roll = some ⟨oc_law_roll, od_law_roll, .func (PySem.W.fnOf "_law_roll" "_law_roll" (defArgs s_law_roll) (defBody s_law_roll) (defScope s_law_roll) .none kV_law_roll dc_law_roll pm_law_roll an_law_roll cd_law_roll ct_law_roll), sl_law_roll⟩)
    (cc_law_roll : PySem.W.codeIn K cd_law_roll "_law_roll" = true)
    (k_law_roll : PySem.W.keepIn K (.ref a_law_roll) = true)
    (n_law_rounds : PySem.W.nsIn K mainGlobals "_law_rounds" = some (some (.ref a_law_rounds)))
    (l_law_rounds : K.lookup a_law_rounds = some ⟨oc_law_rounds, od_law_rounds, .func (PySem.W.fnOf "_law_rounds" "_law_rounds" (defArgs s_law_rounds) (defBody s_law_rounds) (defScope s_law_rounds) .none kV_law_rounds dc_law_rounds pm_law_rounds an_law_rounds cd_law_rounds ct_law_rounds), sl_law_rounds⟩)
    (cc_law_rounds : PySem.W.codeIn K cd_law_rounds "_law_rounds" = true)
    (k_law_rounds : PySem.W.keepIn K (.ref a_law_rounds) = true)
    (n_law_twos : PySem.W.nsIn K mainGlobals "_law_twos" = some (some (.ref a_law_twos)))
    (l_law_twos : K.lookup a_law_twos = some ⟨oc_law_twos, od_law_twos, .func (PySem.W.fnOf "_law_twos" "_law_twos" (defArgs s_law_twos) (defBody s_law_twos) (defScope s_law_twos) .none kV_law_twos dc_law_twos pm_law_twos an_law_twos cd_law_twos ct_law_twos), sl_law_twos⟩)
    (cc_law_twos : PySem.W.codeIn K cd_law_twos "_law_twos" = true)
    (k_law_twos : PySem.W.keepIn K (.ref a_law_twos) = true)
    (n_law_blocks : PySem.W.nsIn K mainGlobals "_law_blocks" = some (some (.ref a_law_blocks)))
    (l_law_blocks : K.lookup a_law_blocks = some ⟨oc_law_blocks, od_law_blocks, .func (PySem.W.fnOf "_law_blocks" "_law_blocks" (defArgs s_law_blocks) (defBody s_law_blocks) (defScope s_law_blocks) .none kV_law_blocks dc_law_blocks pm_law_blocks an_law_blocks cd_law_blocks ct_law_blocks), sl_law_blocks⟩)
    (cc_law_blocks : PySem.W.codeIn K cd_law_blocks "_law_blocks" = true)
    (k_law_blocks : PySem.W.keepIn K (.ref a_law_blocks) = true)
    (n_law_told : PySem.W.nsIn K mainGlobals "_law_told" = some (some (.ref a_law_told)))
    (l_law_told : K.lookup a_law_told = some ⟨oc_law_told, od_law_told, .func (PySem.W.fnOf "_law_told" "_law_told" (defArgs s_law_told) (defBody s_law_told) (defScope s_law_told) .none kV_law_told dc_law_told pm_law_told an_law_told cd_law_told ct_law_told), sl_law_told⟩)
    (cc_law_told : PySem.W.codeIn K cd_law_told "_law_told" = true)
    (k_law_told : PySem.W.keepIn K (.ref a_law_told) = true)
    (n_law_place : PySem.W.nsIn K mainGlobals "_law_place" = some (some (.ref a_law_place)))
    (l_law_place : K.lookup a_law_place = some ⟨oc_law_place, od_law_place, .func (PySem.W.fnOf "_law_place" "_law_place" (defArgs s_law_place) (defBody s_law_place) (defScope s_law_place) .none kV_law_place dc_law_place pm_law_place an_law_place cd_law_place ct_law_place), sl_law_place⟩)
    (cc_law_place : PySem.W.codeIn K cd_law_place "_law_place" = true)
    (k_law_place : PySem.W.keepIn K (.ref a_law_place) = true)
    (n_law : PySem.W.nsIn K mainGlobals "law" = some (some (.ref a_law)))
    (l_law : K.lookup a_law = some ⟨oc_law, od_law, .func (PySem.W.fnOf "law" "law" (defArgs s_law) (defBody s_law) (defScope s_law) .none kV_law dc_law pm_law an_law (.ref c_law) ct_law), sl_law⟩)
    (cc_law : PySem.W.codeIn K (.ref c_law) "law" = true)
    (b_ValueError : PySem.W.nsIn K mainGlobals "ValueError" = some none)
    (b_abs : PySem.W.nsIn K mainGlobals "abs" = some none)
    (b_all : PySem.W.nsIn K mainGlobals "all" = some none)
    (b_any : PySem.W.nsIn K mainGlobals "any" = some none)
    (b_bool : PySem.W.nsIn K mainGlobals "bool" = some none)
    (b_int : PySem.W.nsIn K mainGlobals "int" = some none)
    (b_isinstance : PySem.W.nsIn K mainGlobals "isinstance" = some none)
    (b_len : PySem.W.nsIn K mainGlobals "len" = some none)
    (b_list : PySem.W.nsIn K mainGlobals "list" = some none)
    (b_range : PySem.W.nsIn K mainGlobals "range" = some none)
    (b_super : PySem.W.nsIn K mainGlobals "super" = some none)
    (b_tuple : PySem.W.nsIn K mainGlobals "tuple" = some none)
    (ht_is_row : h.get? P_is_row = some { cls := .none, data := .fields #[] })
    (hh_is_row : PySem.W.codeHdIn K c_is_row P_is_row = true)
    (hn_is_row : K.lookup P_is_row = none)
    (ht_decoded : h.get? P_decoded = some { cls := .none, data := .fields #[] })
    (hh_decoded : PySem.W.codeHdIn K c_decoded P_decoded = true)
    (hn_decoded : K.lookup P_decoded = none)
    (ht_law : h.get? P_law = some { cls := .none, data := .fields #[] })
    (hh_law : PySem.W.codeHdIn K c_law P_law = true)
    (hn_law : K.lookup P_law = none)
    (ne_decoded_is_row : P_decoded ≠ P_is_row)
    (ne_law_is_row : P_law ≠ P_is_row)
    (ne_law_decoded : P_law ≠ P_decoded)
    : LamX.LawAtS l w K (L2.CX l.prog w) 25 63 "script" mg fa h := by
  have e := hfa.symm.trans (PySem.W.mg_of X G n_law)
  cases e
  have F_check_row := fun_mk (st := s_check_row) l_check_row cc_check_row k_check_row
  have F_in_twos := fun_mk (st := s_in_twos) l_in_twos cc_in_twos k_in_twos
  have F_coded := fun_mk (st := s_coded) l_coded cc_coded k_coded
  have F_in_blocks := fun_mk (st := s_in_blocks) l_in_blocks cc_in_blocks k_in_blocks
  have F_of_blocks := fun_mk (st := s_of_blocks) l_of_blocks cc_of_blocks k_of_blocks
  have F_in_block := fun_mk (st := s_in_block) l_in_block cc_in_block k_in_block
  have F_law_dice := fun_mk (st := s_law_dice) l_law_dice cc_law_dice k_law_dice
  have F_law_roll := fun_mk (st := s_law_roll) l_law_roll cc_law_roll k_law_roll
  have F_law_rounds := fun_mk (st := s_law_rounds) l_law_rounds cc_law_rounds k_law_rounds
  have F_law_twos := fun_mk (st := s_law_twos) l_law_twos cc_law_twos k_law_twos
  have F_law_blocks := fun_mk (st := s_law_blocks) l_law_blocks cc_law_blocks k_law_blocks
  have F_law_told := fun_mk (st := s_law_told) l_law_told cc_law_told k_law_told
  have F_law_place := fun_mk (st := s_law_place) l_law_place cc_law_place k_law_place
  have T : Txt K mg (gx C_BadText C_NoSuch C_BadCode P_is_row P_decoded P_law) C_BadText C_NoSuch C_BadCode := ⟨PySem.W.mg_none_of X G b_ValueError, PySem.W.mg_none_of X G b_abs, PySem.W.mg_none_of X G b_all, PySem.W.mg_none_of X G b_any, PySem.W.mg_none_of X G b_bool, PySem.W.mg_none_of X G b_int, PySem.W.mg_none_of X G b_isinstance, PySem.W.mg_none_of X G b_len, PySem.W.mg_none_of X G b_list, PySem.W.mg_none_of X G b_range, PySem.W.mg_none_of X G b_super, PySem.W.mg_none_of X G b_tuple, ⟨rfl, e_BadText, PySem.W.mg_of X G m_BadText, k_BadText, s_BadText, t_BadText⟩, ⟨rfl, e_NoSuch, PySem.W.mg_of X G m_NoSuch, k_NoSuch, s_NoSuch, t_NoSuch⟩, rfl, PySem.W.mg_of X G m_BadCode⟩
  have X_ : ∀ c C, (gx C_BadText C_NoSuch C_BadCode P_is_row P_decoded P_law).ca c = some C → ∀ c' C', (gx C_BadText C_NoSuch C_BadCode P_is_row P_decoded P_law).ca c' = some C' → PySem.W.exmOne K (.ref C) (.ref C') = some (decide (c' = c)) := by
    intro c C h c' C' h'
    unfold gx at h h'
    dsimp only at h h'
    repeat' split at h
    all_goals repeat' split at h'
    all_goals first | (cases h; done) | (cases h'; done) | skip
    all_goals (cases h; cases h'; subst_vars)
    · exact exm_mk s_BadText i_BadText t_BadText x_BadText_BadText
    · exact exm_mk s_NoSuch i_NoSuch t_NoSuch x_BadText_NoSuch
    · exact exm_mk s_BadCode i_BadCode t_BadCode x_BadText_BadCode
    · exact exm_mk s_BadText i_BadText t_BadText x_NoSuch_BadText
    · exact exm_mk s_NoSuch i_NoSuch t_NoSuch x_NoSuch_NoSuch
    · exact exm_mk s_BadCode i_BadCode t_BadCode x_NoSuch_BadCode
    · exact exm_mk s_BadText i_BadText t_BadText x_BadCode_BadText
    · exact exm_mk s_NoSuch i_NoSuch t_NoSuch x_BadCode_NoSuch
    · exact exm_mk s_BadCode i_BadCode t_BadCode x_BadCode_BadCode
  have hm_is_row : (P_is_row, ("is_row" ++ ".<locals>.<genexpr>" : Str)) ∈ (gx C_BadText C_NoSuch C_BadCode P_is_row P_decoded P_law).T := by unfold gx; simp
  have hu_is_row : ∀ p ∈ (gx C_BadText C_NoSuch C_BadCode P_is_row P_decoded P_law).T, p.1 = P_is_row → p.2 = ("is_row" ++ ".<locals>.<genexpr>" : Str) := by
    intro p hp he
    unfold gx at hp
    simp only [List.mem_cons, List.not_mem_nil, or_false] at hp
    rcases hp with hp | hp
    · rw [hp]
    rcases hp with hp | hp
    · rw [hp] at he; exact absurd he ne_decoded_is_row
    rw [hp] at he; exact absurd he ne_law_is_row
  have hm_decoded : (P_decoded, ("decoded" ++ ".<locals>.<genexpr>" : Str)) ∈ (gx C_BadText C_NoSuch C_BadCode P_is_row P_decoded P_law).T := by unfold gx; simp
  have hu_decoded : ∀ p ∈ (gx C_BadText C_NoSuch C_BadCode P_is_row P_decoded P_law).T, p.1 = P_decoded → p.2 = ("decoded" ++ ".<locals>.<genexpr>" : Str) := by
    intro p hp he
    unfold gx at hp
    simp only [List.mem_cons, List.not_mem_nil, or_false] at hp
    rcases hp with hp | hp
    · rw [hp] at he; exact absurd he (Ne.symm ne_decoded_is_row)
    rcases hp with hp | hp
    · rw [hp]
    rw [hp] at he; exact absurd he ne_law_decoded
  have hm_law : (P_law, ("law" ++ ".<locals>.<lambda>" : Str)) ∈ (gx C_BadText C_NoSuch C_BadCode P_is_row P_decoded P_law).T := by unfold gx; simp
  have hu_law : ∀ p ∈ (gx C_BadText C_NoSuch C_BadCode P_is_row P_decoded P_law).T, p.1 = P_law → p.2 = ("law" ++ ".<locals>.<lambda>" : Str) := by
    intro p hp he
    unfold gx at hp
    simp only [List.mem_cons, List.not_mem_nil, or_false] at hp
    rcases hp with hp | hp
    · rw [hp] at he; exact absurd he (Ne.symm ne_law_is_row)
    rcases hp with hp | hp
    · rw [hp] at he; exact absurd he (Ne.symm ne_law_decoded)
    rw [hp]
  refine ⟨PySem.W.fnOf "law" "law" (defArgs s_law) (defBody s_law) (defScope s_law) .none kV_law dc_law pm_law an_law (.ref c_law) ct_law, [(c_is_row, P_is_row), (c_decoded, P_decoded), (c_law, P_law)], spOf K (gx C_BadText C_NoSuch C_BadCode P_is_row P_decoded P_law) 1 den_law, ?_, ?_, ?_, fun s v => .of_eq rfl, fun H a ns hl hb hT hs => ?_, fun base Kb Nb TB => ?_⟩
  · intro p hp
    simp only [List.mem_cons, List.not_mem_nil, or_false] at hp
    rcases hp with hp | hp
    · rw [hp]; exact ht_is_row
    rcases hp with hp | hp
    · rw [hp]; exact ht_decoded
    rw [hp]; exact ht_law
  · intro p hp
    simp only [List.mem_cons, List.not_mem_nil, or_false] at hp
    rcases hp with hp | hp
    · rw [hp]; exact hn_is_row
    rcases hp with hp | hp
    · rw [hp]; exact hn_decoded
    rw [hp]; exact hn_law
  · intro p hp
    simp only [List.mem_cons, List.not_mem_nil, or_false] at hp
    rcases hp with hp | hp
    · rw [hp]; exact PySem.W.codeHd_of_K X hh_is_row
    rcases hp with hp | hp
    · rw [hp]; exact PySem.W.codeHd_of_K X hh_decoded
    rw [hp]; exact PySem.W.codeHd_of_K X hh_law
  · obtain ⟨h', hd⟩ := main ns hl hb
    refine law_sp (fun p hp => ?_) hs hd
    unfold gx at hp
    simp only [List.mem_cons, List.not_mem_nil, or_false] at hp
    rcases hp with hp | hp
    · rw [hp]; exact LamX.TabS.nil (hT (c_is_row, P_is_row) (by simp))
    rcases hp with hp | hp
    · rw [hp]; exact LamX.TabS.nil (hT (c_decoded, P_decoded) (by simp))
    rw [hp]; exact LamX.TabS.nil (hT (c_law, P_law) (by simp))
  · have XF_BadCode : ExF l.prog w K mg base (gx C_BadText C_NoSuch C_BadCode P_is_row P_decoded P_law) 1 "BadCode" 3 C_BadCode := exF_BadCode rfl (PySem.W.mg_of X G m_BadCode) (PySem.W.mg_none_of X G b_super) k_BadCode s_BadCode t_BadCode oC_BadCode rv_BadCode sa_BadCode fi_BadCode ft_BadCode li_BadCode cd_BadCode lc_BadCode v2_BadCode fe_BadCode le_BadCode cK_BadCode mr_BadCode su_BadCode ve_BadCode oq_ no_BadCode tp_
    have PL_BadCode : PlaceOk K mg "BadCode" "IndexFault" "place" C_BadCode C_IndexFault := ⟨PySem.W.mg_of X G m_BadCode, PySem.W.mg_of X G m_IndexFault, ⟨pg_BadCode, pk_BadCode, s_BadCode, pd_BadCode, pa_BadCode, pn_BadCode, pt_BadCode, pm_BadCode⟩, ⟨pg_BadCode, pk_BadCode, s_BadCode, pd_BadCode⟩, no_BadCode, exm_mk s_BadCode i_BadCode t_BadCode x_BadCode_BadCode, kit_sub k1_BadCode, kit_sub k2_BadCode⟩
    have B_law_place := F_law_place.binds (ps := ["what"]) fun _ _ _ _ _ _ us hl => match us, hl with | [_], _ => rfl
    have B_law_told := F_law_told.binds (ps := ["what"]) fun _ _ _ _ _ _ us hl => match us, hl with | [_], _ => rfl
    have D_is_row : FnD l.prog w K mg base (gx C_BadText C_NoSuch C_BadCode P_is_row P_decoded P_law) 1 "is_row" 1 den_is_row := d_is_row T l_is_row cc_is_row k_is_row (PySem.W.mg_of X G n_is_row) (TB (c_is_row, P_is_row) (by simp)) hm_is_row hu_is_row 
    have D_check_row : FnD l.prog w K mg base (gx C_BadText C_NoSuch C_BadCode P_is_row P_decoded P_law) 2 "check_row" 1 den_check_row := d_check_row T F_check_row (PySem.W.mg_of X G n_check_row) D_is_row
    have D_in_twos : FnD l.prog w K mg base (gx C_BadText C_NoSuch C_BadCode P_is_row P_decoded P_law) 1 "in_twos" 1 den_in_twos := d_in_twos T F_in_twos (PySem.W.mg_of X G n_in_twos) 
    have D_coded : FnD l.prog w K mg base (gx C_BadText C_NoSuch C_BadCode P_is_row P_decoded P_law) 3 "coded" 1 den_coded := d_coded T F_coded (PySem.W.mg_of X G n_coded) D_check_row D_in_twos
    have D_decoded : FnD l.prog w K mg base (gx C_BadText C_NoSuch C_BadCode P_is_row P_decoded P_law) 3 "decoded" 1 den_decoded := d_decoded T l_decoded cc_decoded k_decoded (PySem.W.mg_of X G n_decoded) XF_BadCode (TB (c_decoded, P_decoded) (by simp)) hm_decoded hu_decoded 
    have D_in_blocks : FnD l.prog w K mg base (gx C_BadText C_NoSuch C_BadCode P_is_row P_decoded P_law) 4 "in_blocks" 2 den_in_blocks := d_in_blocks T F_in_blocks (PySem.W.mg_of X G n_in_blocks) D_check_row D_coded
    have D_of_blocks : FnD l.prog w K mg base (gx C_BadText C_NoSuch C_BadCode P_is_row P_decoded P_law) 4 "of_blocks" 1 den_of_blocks := d_of_blocks T F_of_blocks (PySem.W.mg_of X G n_of_blocks) D_decoded D_check_row
    have D_in_block : FnD l.prog w K mg base (gx C_BadText C_NoSuch C_BadCode P_is_row P_decoded P_law) 4 "in_block" 2 den_in_block := d_in_block T F_in_block (PySem.W.mg_of X G n_in_block) D_decoded
    have D_law_dice : FnD l.prog w K mg base (gx C_BadText C_NoSuch C_BadCode P_is_row P_decoded P_law) 1 "_law_dice" 1 den_law_dice := d_law_dice T F_law_dice (PySem.W.mg_of X G n_law_dice) 
    have D_law_roll : FnD l.prog w K mg base (gx C_BadText C_NoSuch C_BadCode P_is_row P_decoded P_law) 1 "_law_roll" 2 den_law_roll := d_law_roll T F_law_roll (PySem.W.mg_of X G n_law_roll) 
    have D_law_rounds : FnD l.prog w K mg base (gx C_BadText C_NoSuch C_BadCode P_is_row P_decoded P_law) 2 "_law_rounds" 2 den_law_rounds := d_law_rounds T F_law_rounds (PySem.W.mg_of X G n_law_rounds) D_law_dice
    have D_law_twos : FnD l.prog w K mg base (gx C_BadText C_NoSuch C_BadCode P_is_row P_decoded P_law) 21 "_law_twos" 1 den_law_twos := d_law_twos T F_law_twos (PySem.W.mg_of X G n_law_twos) 
    have D_law_blocks : FnD l.prog w K mg base (gx C_BadText C_NoSuch C_BadCode P_is_row P_decoded P_law) 5 "_law_blocks" 2 den_law_blocks := d_law_blocks T F_law_blocks (PySem.W.mg_of X G n_law_blocks) D_law_roll D_in_blocks D_of_blocks D_coded D_in_block
    exact d_law T l_law cc_law D_law_rounds D_law_roll D_law_twos D_coded D_decoded D_in_twos D_law_blocks D_in_blocks F_law_told B_law_told (PySem.W.mg_of X G n_law_told) F_law_place B_law_place (PySem.W.mg_of X G n_law_place) X_ PL_BadCode (TB (c_law, P_law) (by simp)) hm_law hu_law
end Law_indexhall_k05_rows_coded
open PySem PySem.W PyProof.Rows
set_option maxHeartbeats 0 in
set_option maxRecDepth 100000 in
open_top hd0 for PySem.Challenge.rw_indexhall_k05_rows_coded
set_option maxRecDepth 100000 in
set_option maxHeartbeats 0 in
theorem PySem.Challenge.cw_indexhall_k05_rows_coded_holds : PySem.Challenge.rw_indexhall_k05_rows_coded.Holds :=
by
  w_on; o_law; o_head (PySem.W.kmHook hd0.heap_39 [2, 3, 15, 22, 23, 24, 25, 28, 35, 36, 37, 40, 43, 48, 49, 51, 52, 54, 55, 56, 57, 58, 61, 68, 69, 70, 73, 75, 76, 78, 79, 80, 82, 83, 85, 86, 87, 89, 90, 92, 93, 94, 96, 97, 99, 100, 101, 104, 105, 106, 109, 110, 111, 114, 115, 116, 118, 119, 121, 122, 123, 125, 126, 128, 129, 130, 132, 133, 135, 136, 137, 140, 141, 142, 144, 145, 147, 148, 149, 151, 152, 154, 155, 156, 158, 159, 161, 162, 163, 166, 167, 168, 171, 172] (fun _ => by kernel_rfl) [74, 102, 169]); (case hw => w_witness2)
  k_fill
  refine LamX.walk_ofTs (l := PySem.Challenge.rw_indexhall_k05_rows_coded) (n := 63) (k := 25) (x := "script") (CX := fun w => L2.CX (PySem.Challenge.rw_indexhall_k05_rows_coded).prog w) rfl (by decide) rfl ⟨rfl, by decide, by decide⟩ (fun w h Y => PySem.W.km_in_of Y) ?F (fun w H s e s' z => by obtain ⟨_, _, _, _, _, _, _, _, _, _, _, _, z⟩ := z; exact z)
  case F =>
    intro w mg fa h Y KX G hmg
    have hT8 := PySem.W.km_tabs_of Y
    refine' Law_indexhall_k05_rows_coded.fin (l := PySem.Challenge.rw_indexhall_k05_rows_coded) Law_indexhall_k05_rows_coded.main KX G hmg ?m_BadText ?e_BadText ?k_BadText ?s_BadText ?t_BadText ?m_NoSuch ?e_NoSuch ?k_NoSuch ?s_NoSuch ?t_NoSuch ?m_BadCode ?k_BadCode ?s_BadCode ?t_BadCode ?i_BadText ?i_NoSuch ?i_BadCode ?x_BadText_BadText ?x_BadText_NoSuch ?x_BadText_BadCode ?x_NoSuch_BadText ?x_NoSuch_NoSuch ?x_NoSuch_BadCode ?x_BadCode_BadText ?x_BadCode_NoSuch ?x_BadCode_BadCode ?m_IndexFault ?oC_BadCode ?rv_BadCode ?sa_BadCode ?fi_BadCode ?ft_BadCode ?li_BadCode ?cd_BadCode ?lc_BadCode ?v2_BadCode ?fe_BadCode ?le_BadCode ?cK_BadCode ?mr_BadCode ?su_BadCode ?ve_BadCode ?no_BadCode ?pg_BadCode ?pk_BadCode ?pd_BadCode ?pa_BadCode ?pn_BadCode ?pt_BadCode ?pm_BadCode ?k1_BadCode ?k2_BadCode ?oq_ ?tp_ ?n_is_row ?l_is_row ?cc_is_row ?k_is_row ?n_check_row ?l_check_row ?cc_check_row ?k_check_row ?n_in_twos ?l_in_twos ?cc_in_twos ?k_in_twos ?n_coded ?l_coded ?cc_coded ?k_coded ?n_decoded ?l_decoded ?cc_decoded ?k_decoded ?n_in_blocks ?l_in_blocks ?cc_in_blocks ?k_in_blocks ?n_of_blocks ?l_of_blocks ?cc_of_blocks ?k_of_blocks ?n_in_block ?l_in_block ?cc_in_block ?k_in_block ?n_law_dice ?l_law_dice ?cc_law_dice ?k_law_dice ?n_law_roll ?l_law_roll ?cc_law_roll ?k_law_roll ?n_law_rounds ?l_law_rounds ?cc_law_rounds ?k_law_rounds ?n_law_twos ?l_law_twos ?cc_law_twos ?k_law_twos ?n_law_blocks ?l_law_blocks ?cc_law_blocks ?k_law_blocks ?n_law_told ?l_law_told ?cc_law_told ?k_law_told ?n_law_place ?l_law_place ?cc_law_place ?k_law_place ?n_law ?l_law ?cc_law ?b_ValueError ?b_abs ?b_all ?b_any ?b_bool ?b_int ?b_isinstance ?b_len ?b_list ?b_range ?b_super ?b_tuple ?ht_is_row ?hh_is_row ?hn_is_row ?ht_decoded ?hh_decoded ?hn_decoded ?ht_law ?hh_law ?hn_law ?ne_decoded_is_row ?ne_law_is_row ?ne_law_decoded
    (case m_BadText => k_is)
    (case e_BadText => k_exc)
    (case k_BadText => k_is)
    (case s_BadText => k_is)
    (case t_BadText => k_is)
    (case m_NoSuch => k_is)
    (case e_NoSuch => k_exc)
    (case k_NoSuch => k_is)
    (case s_NoSuch => k_is)
    (case t_NoSuch => k_is)
    (case m_BadCode => k_is)
    (case k_BadCode => k_is)
    (case s_BadCode => k_is)
    (case t_BadCode => k_is)
    (case i_BadText => k_is)
    (case i_NoSuch => k_is)
    (case i_BadCode => k_is)
    (case x_BadText_BadText => first | rfl | k_is)
    (case x_BadText_NoSuch => first | rfl | k_is)
    (case x_BadText_BadCode => first | rfl | k_is)
    (case x_NoSuch_BadText => first | rfl | k_is)
    (case x_NoSuch_NoSuch => first | rfl | k_is)
    (case x_NoSuch_BadCode => first | rfl | k_is)
    (case x_BadCode_BadText => first | rfl | k_is)
    (case x_BadCode_NoSuch => first | rfl | k_is)
    (case x_BadCode_BadCode => first | rfl | k_is)
    (case m_IndexFault => k_is)
    (case oC_BadCode => k_is)
    (case rv_BadCode => first | rfl | decide +kernel)
    (case sa_BadCode => k_is)
    (case fi_BadCode => k_is)
    (case ft_BadCode => k_is)
    (case li_BadCode => k_is)
    (case cd_BadCode => k_is)
    (case lc_BadCode => k_is)
    (case v2_BadCode => first | rfl | decide +kernel)
    (case fe_BadCode => first | rfl | decide +kernel)
    (case le_BadCode => k_is)
    (case cK_BadCode => k_is)
    (case mr_BadCode => k_is)
    (case su_BadCode => kernel_rfl)
    (case ve_BadCode => k_is)
    (case no_BadCode => k_is)
    (case pg_BadCode => k_is)
    (case pk_BadCode => k_is)
    (case pd_BadCode => k_is)
    (case pa_BadCode => k_is)
    (case pn_BadCode => k_is)
    (case pt_BadCode => k_is)
    (case pm_BadCode => k_is)
    (case k1_BadCode => kernel_rfl)
    (case k2_BadCode => kernel_rfl)
    (case oq_ => k_is)
    (case tp_ => first | rfl | decide +kernel)
    (case n_is_row => k_is)
    (case l_is_row => k_is)
    (case cc_is_row => k_is)
    (case k_is_row => k_is)
    (case n_check_row => k_is)
    (case l_check_row => k_is)
    (case cc_check_row => k_is)
    (case k_check_row => k_is)
    (case n_in_twos => k_is)
    (case l_in_twos => k_is)
    (case cc_in_twos => k_is)
    (case k_in_twos => k_is)
    (case n_coded => k_is)
    (case l_coded => k_is)
    (case cc_coded => k_is)
    (case k_coded => k_is)
    (case n_decoded => k_is)
    (case l_decoded => k_is)
    (case cc_decoded => k_is)
    (case k_decoded => k_is)
    (case n_in_blocks => k_is)
    (case l_in_blocks => k_is)
    (case cc_in_blocks => k_is)
    (case k_in_blocks => k_is)
    (case n_of_blocks => k_is)
    (case l_of_blocks => k_is)
    (case cc_of_blocks => k_is)
    (case k_of_blocks => k_is)
    (case n_in_block => k_is)
    (case l_in_block => k_is)
    (case cc_in_block => k_is)
    (case k_in_block => k_is)
    (case n_law_dice => k_is)
    (case l_law_dice => k_is)
    (case cc_law_dice => k_is)
    (case k_law_dice => k_is)
    (case n_law_roll => k_is)
    (case l_law_roll => k_is)
    (case cc_law_roll => k_is)
    (case k_law_roll => k_is)
    (case n_law_rounds => k_is)
    (case l_law_rounds => k_is)
    (case cc_law_rounds => k_is)
    (case k_law_rounds => k_is)
    (case n_law_twos => k_is)
    (case l_law_twos => k_is)
    (case cc_law_twos => k_is)
    (case k_law_twos => k_is)
    (case n_law_blocks => k_is)
    (case l_law_blocks => k_is)
    (case cc_law_blocks => k_is)
    (case k_law_blocks => k_is)
    (case n_law_told => k_is)
    (case l_law_told => k_is)
    (case cc_law_told => k_is)
    (case k_law_told => k_is)
    (case n_law_place => k_is)
    (case l_law_place => k_is)
    (case cc_law_place => k_is)
    (case k_law_place => k_is)
    (case n_law => k_is)
    (case l_law => k_is)
    (case cc_law => k_is)
    (case b_ValueError => k_is)
    (case b_abs => k_is)
    (case b_all => k_is)
    (case b_any => k_is)
    (case b_bool => k_is)
    (case b_int => k_is)
    (case b_isinstance => k_is)
    (case b_len => k_is)
    (case b_list => k_is)
    (case b_range => k_is)
    (case b_super => k_is)
    (case b_tuple => k_is)
    (case ht_is_row => exact hT8 74 (by decide))
    (case hh_is_row => kernel_rfl)
    (case hn_is_row => kernel_rfl)
    (case ht_decoded => exact hT8 102 (by decide))
    (case hh_decoded => kernel_rfl)
    (case hn_decoded => kernel_rfl)
    (case ht_law => exact hT8 169 (by decide))
    (case hh_law => kernel_rfl)
    (case hn_law => kernel_rfl)
    (case ne_decoded_is_row => exact (by decide))
    (case ne_law_is_row => exact (by decide))
    (case ne_law_decoded => exact (by decide))
