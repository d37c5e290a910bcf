import PyProof.Rows.All
import Wide.All
import OpenK.AllK
import Wide.FinOn
import HandS.ForMost
import HandS.Exc
import HandS.ExcOwn
import HandS.WordsExc
import HandS.TryMany
import HandS.Flow
import HandS.Lambda
import HandS.EndTab
import HandS.Small
import HandS.TupAny
import HandS.Deep
import HandS.Wide
import HandS.Conv
import KE.KNestM
import HandS.Style
import KE.DataMinMax
import KE.DatumOrd
import KE.SortData
import HandS.GenOver
import HandS.Text
import PyProof.Rows.RowBridgeK
import KE.DataCmp
import HandS.IsInst
import HandS.AnyAll
import KE.SortKeyHeap
import HandS.Set
import PyProof.TupleOfSeq
import HandS.Sort
import HandS.JoinGen
import PyProof.WalksMore
import PyProof.SumAny
import HandS.SetKeys
import HandS.Iter
import PySem.Challenge.RW_indexhall_k04_rising_rows
set_option Elab.async false
set_option linter.all false
set_option maxRecDepth 100000
/-! A second reading of defs over the hand layer: plain functions on plain data with a small heap of their own; each rule once. -/
namespace L2
open PySem
theorem PE.imp {X : Cx} {e : Expr} {t t' : TE} (p : PE X e t) (i : ∀ σ H Q, t' σ H Q → t σ H Q) : PE X e t' := ⟨fun pins s σ H Q I q => p.run pins s σ H Q I (i σ H Q q)⟩
theorem PT.imp {X : Cx} {e : Expr} {t t' : TT} (p : PT X e t) (i : ∀ σ H Q, t' σ H Q → t σ H Q) : PT X e t' := ⟨fun pins s σ H Q I q => p.run pins s σ H Q I (i σ H Q q)⟩
theorem PW.imp {X : Cx} {e : Expr} {t t' : TT} (p : PW X e t) (i : ∀ σ H Q, t' σ H Q → t σ H Q) : PW X e t' := ⟨fun wh pins s σ H Q I q => p.run wh pins s σ H Q I (i σ H Q q)⟩
theorem PA.imp {X : Cx} {e : List Expr} {t t' : TA} (p : PA X e t) (i : ∀ σ H Q, t' σ H Q → t σ H Q) : PA X e t' := ⟨fun pos pins s σ H Q I q => p.run pos pins s σ H Q I (i σ H Q q)⟩
theorem PS.imp {X : Cx} {e : Stmt} {t t' : TS} (p : PS X e t) (i : ∀ D σ H, t' D σ H → t D σ H) : PS X e t' := ⟨fun pins s σ H D I q => p.run pins s σ H D I (i D σ H q)⟩
theorem PSs.imp {X : Cx} {e : List Stmt} {t t' : TS} (p : PSs X e t) (i : ∀ D σ H, t' D σ H → t D σ H) : PSs X e t' := ⟨fun pins s σ H D I q => p.run pins s σ H D I (i D σ H q)⟩
end L2
namespace Den
open PySem L2

/-- values as plain data: tuples by what is in them; ref n: the n-th object of the small heap; rol: a list that nobody changes -/
inductive W where
  | non | bl (b : Bool) | int (i : Int) | str (s : List Nat) | tup (xs : List W) | rol (xs : List W) | ref (n : Nat)
  deriving Inhabited
/-- objects of the small heap -/
inductive O where
  | lst (xs : List W)
  | dic (kvs : List (W × W))
  | dik (kvs : List (W × W))
  | ins (c : Nat) (fs : List (Str × W))
  deriving Inhabited
/-- what the text's own classes and tables are called -/
structure Gx where
  T : List (Addr × Str)
  ca : Nat → Option Addr

/-! ### values and data -/
mutual
def VR (K : PySem.W.Frag) (H : Hp) (ρ : List Addr) : V → W → Prop
  | v, .non => v = .non
  | v, .bl b => v = .bl b
  | v, .int i => v = .int i
  | v, .str s => v = .str ⟨s.toArray⟩
  | v, .tup xs => ∃ a vs, v = .ref a ∧ SqT K H a vs ∧ VRs K H ρ vs xs
  | v, .rol xs => ∃ a vs, v = .ref a ∧ ((Rd H a (.lst vs) ∧ a ∉ ρ) ∨ ∀ H' : Hp, SqL K H' a vs) ∧ VRs K H ρ vs xs
  | v, .ref n => ∃ a, v = .ref a ∧ ρ[n]? = some a
def VRs (K : PySem.W.Frag) (H : Hp) (ρ : List Addr) : List V → List W → Prop
  | vs, [] => vs = []
  | vs, x :: xs => ∃ v r, vs = v :: r ∧ VR K H ρ v x ∧ VRs K H ρ r xs
end
def KRs (K : PySem.W.Frag) (H : Hp) (ρ : List Addr) : List (Key × V) → List (W × W) → Prop
  | ps, [] => ps = []
  | ps, (k, x) :: xs => ∃ q v r, ps = (q, v) :: r ∧ VR K H ρ (kV q) k ∧ VR K H ρ v x ∧ KRs K H ρ r xs
def FRs (K : PySem.W.Frag) (H : Hp) (ρ : List Addr) : List (Str × V) → List (Str × W) → Prop
  | ps, [] => ps = []
  | ps, (k, x) :: xs => ∃ v r, ps = (k, v) :: r ∧ VR K H ρ v x ∧ FRs K H ρ r xs
/-- what object stands at a -/
def OR (K : PySem.W.Frag) (G : Gx) (H : Hp) (ρ : List Addr) (a : Addr) : O → Prop
  | .lst xs => ∃ vs, H a = some (.lst vs) ∧ VRs K H ρ vs xs
  | .dic kvs => ∃ ps, H a = some (.dK ps) ∧ KRs K H ρ ps kvs
  | .dik kvs => ∃ o ps, H a = some (.frz o (.dK ps)) ∧ KRs K H ρ ps kvs
  | .ins c fs => ∃ C dx ps, G.ca c = some C ∧ H a = some (.ins C dx ps) ∧ FRs K H ρ ps fs
/-- what may be in the small heap -/
def isM : HO → Bool
  | .lst _ => true
  | .dK _ => true
  | .frz _ (.dK _) => true
  | .ins _ _ _ => true
  | _ => false
def isTbl : HO → Bool
  | .tbl _ => true
  | _ => false
structure HR (K : PySem.W.Frag) (G : Gx) (H : Hp) (ρ : List Addr) (h : List O) : Prop where
  len : ρ.length = h.length
  nd : ρ.Nodup
  ob : ∀ (n : Nat) (a : Addr) (o : O), ρ[n]? = some a → h[n]? = some o → OR K G H ρ a o
  tb : LamX.Tabs G.T H
/-- the slots -/
abbrev Env := List (Option W)
structure SR (K : PySem.W.Frag) (H : Hp) (ρ : List Addr) (σ : L2.St) (e : Env) : Prop where
  len : σ.length = e.length
  at_ : ∀ (i : Nat) (w : W), e[i]? = some (some w) → ∃ v, σ[i]? = some (some v) ∧ VR K H ρ v w
/-- all that is not ours stays; what is new was not there -/
structure Ext (H : Hp) (ρ : List Addr) (H' : Hp) (ρ' : List Addr) : Prop where
  fr : ∀ a o, H a = some o → isTbl o = false → a ∉ ρ → H' a = some o
  pre : ρ <+: ρ'
  new : ∀ a, a ∈ ρ' → a ∉ ρ → H a = none ∨ ∃ o, H a = some o ∧ isTbl o = true
  mu : ∀ a, a ∈ ρ → ∃ o, H a = some o ∧ isM o = true
  lk : ∀ a o u, H a = some (.frz o u) → H' a = some (.frz o u)

theorem OR.mut {K : PySem.W.Frag} {G : Gx} {H : Hp} {ρ : List Addr} {a : Addr} {o : O} (x : OR K G H ρ a o) : ∃ u, H a = some u ∧ isM u = true := by
  cases o with
  | lst xs => obtain ⟨vs, e, _⟩ := x; exact ⟨_, e, rfl⟩
  | dic xs => obtain ⟨vs, e, _⟩ := x; exact ⟨_, e, rfl⟩
  | dik xs => obtain ⟨o, vs, e, _⟩ := x; exact ⟨_, e, rfl⟩
  | ins c fs => obtain ⟨C, dx, ps, _, e, _⟩ := x; exact ⟨_, e, rfl⟩
section
variable {K : PySem.W.Frag} {G : Gx} {H H' H1 H2 : Hp} {ρ ρ' ρ1 ρ2 : List Addr} {h : List O}
theorem HR.mu (r : HR K G H ρ h) : ∀ a, a ∈ ρ → ∃ o, H a = some o ∧ isM o = true := fun a ha => by
  obtain ⟨n, hn, e⟩ := List.getElem_of_mem ha
  have hn2 : n < h.length := by rw [← r.len]; exact hn
  exact (r.ob n a h[n] (by rw [List.getElem?_eq_getElem hn, e]) (List.getElem?_eq_getElem hn2)).mut
theorem Ext.refl (r : HR K G H ρ h) : Ext H ρ H ρ := ⟨fun _ _ e _ _ => e, List.prefix_rfl, fun _ a b => absurd a b, r.mu, fun _ _ _ e => e⟩
theorem Ext.trans (a : Ext H ρ H1 ρ1) (b : Ext H1 ρ1 H2 ρ2) : Ext H ρ H2 ρ2 where
  fr := fun x o e t n => by
    refine b.fr x o (a.fr x o e t n) t fun hx => ?_
    rcases a.new x hx n with z | ⟨u, z, q⟩
    · rw [e] at z; cases z
    · rw [e] at z; cases z; rw [t] at q; cases q
  pre := a.pre.trans b.pre
  new := fun x hx n => by
    by_cases h1 : x ∈ ρ1
    · exact a.new x h1 n
    · cases q : H x with
      | none => exact .inl rfl
      | some o =>
        cases t : isTbl o with
        | true => exact .inr ⟨o, rfl, t⟩
        | false =>
          have z := a.fr x o q t n
          rcases b.new x hx h1 with z2 | ⟨u, z2, q2⟩
          · rw [z] at z2; cases z2
          · rw [z] at z2; cases z2; rw [t] at q2; cases q2
  mu := a.mu
  lk := fun x o u e => b.lk x o u (a.lk x o u e)
theorem pre_get {α : Type} {l l' : List α} (h : l <+: l') {n : Nat} {a : α} (e : l[n]? = some a) : l'[n]? = some a := by
  obtain ⟨t, rfl⟩ := h
  obtain ⟨hn, e2⟩ := List.getElem?_eq_some_iff.mp e
  rw [List.getElem?_append_left hn]
  exact e
theorem Ext.tup (x : Ext H ρ H' ρ') {a : Addr} {vs : List V} (h : SqT K H a vs) : SqT K H' a vs := by
  have key : ∀ o, H a = some o → isM o = false → isTbl o = false → H' a = some o := fun o e m t =>
    x.fr a o e t fun ha => by
      obtain ⟨u, e2, m2⟩ := x.mu a ha
      rw [e] at e2; cases e2; rw [m] at m2; cases m2
  rcases h with (h | ⟨o, h⟩) | h
  · exact .inl (.inl (key _ h rfl rfl))
  · exact .inl (.inr ⟨o, key _ h rfl rfl⟩)
  · exact .inr h
theorem Ext.rol (x : Ext H ρ H' ρ') {a : Addr} {vs : List V} (h : (Rd H a (.lst vs) ∧ a ∉ ρ) ∨ ∀ H' : Hp, SqL K H' a vs) : (Rd H' a (.lst vs) ∧ a ∉ ρ') ∨ ∀ H' : Hp, SqL K H' a vs := by
  have key : ∀ o, H a = some o → isTbl o = false → a ∉ ρ → H' a = some o ∧ a ∉ ρ' := fun o e t n => ⟨x.fr a o e t n, fun ha => by
    rcases x.new a ha n with z | ⟨u, z, q⟩
    · rw [e] at z; cases z
    · rw [e] at z; cases z; rw [t] at q; cases q⟩
  rcases h with ⟨h | ⟨o, h⟩, n⟩ | h
  · obtain ⟨a1, a2⟩ := key _ h rfl n
    exact .inl ⟨.inl a1, a2⟩
  · obtain ⟨a1, a2⟩ := key _ h rfl n
    exact .inl ⟨.inr ⟨o, a1⟩, a2⟩
  · exact .inr h
mutual
theorem VR.mono (x : Ext H ρ H' ρ') : ∀ {v : V} {w : W}, VR K H ρ v w → VR K H' ρ' v w
  | v, .non, h => h
  | v, .bl _, h => h
  | v, .int _, h => h
  | v, .str _, h => h
  | v, .tup xs, h => by
    unfold VR at h ⊢
    obtain ⟨a, vs, e, q, r⟩ := h
    exact ⟨a, vs, e, x.tup q, VRs.mono x r⟩
  | v, .rol xs, h => by
    unfold VR at h ⊢
    obtain ⟨a, vs, e, q, r⟩ := h
    exact ⟨a, vs, e, x.rol q, VRs.mono x r⟩
  | v, .ref n, h => by
    unfold VR at h ⊢
    obtain ⟨a, e, q⟩ := h
    exact ⟨a, e, pre_get x.pre q⟩
theorem VRs.mono (x : Ext H ρ H' ρ') : ∀ {vs : List V} {ws : List W}, VRs K H ρ vs ws → VRs K H' ρ' vs ws
  | vs, [], h => h
  | vs, w :: ws, h => by
    unfold VRs at h ⊢
    obtain ⟨v, r, e, q, z⟩ := h
    exact ⟨v, r, e, VR.mono x q, VRs.mono x z⟩
end
theorem KRs.mono (x : Ext H ρ H' ρ') : ∀ {ps : List (Key × V)} {ws : List (W × W)}, KRs K H ρ ps ws → KRs K H' ρ' ps ws
  | vs, [], h => h
  | vs, (k, w) :: ws, h => by
    unfold KRs at h ⊢
    obtain ⟨q, v, r, e, a, b, c⟩ := h
    exact ⟨q, v, r, e, a.mono x, b.mono x, KRs.mono x c⟩
theorem FRs.mono (x : Ext H ρ H' ρ') : ∀ {ps : List (Str × V)} {ws : List (Str × W)}, FRs K H ρ ps ws → FRs K H' ρ' ps ws
  | vs, [], h => h
  | vs, (k, w) :: ws, h => by
    unfold FRs at h ⊢
    obtain ⟨v, r, e, b, c⟩ := h
    exact ⟨v, r, e, b.mono x, FRs.mono x c⟩
theorem SR.mono {σ : L2.St} {e : Env} (x : Ext H ρ H' ρ') (s : SR K H ρ σ e) : SR K H' ρ' σ e := ⟨s.len, fun i w h => by
  obtain ⟨v, a, b⟩ := s.at_ i w h
  exact ⟨v, a, b.mono x⟩⟩
theorem SR.set {σ : L2.St} {e : Env} {v : V} {w : W} (s : SR K H ρ σ e) (i : Nat) (r : VR K H ρ v w) : SR K H ρ (σ.set i (some v)) (e.set i (some w)) := by
  refine ⟨by rw [List.length_set, List.length_set]; exact s.len, fun j x hx => ?_⟩
  by_cases hj : i = j
  · subst hj
    by_cases hl : i < e.length
    · rw [List.getElem?_set_self hl] at hx
      cases hx
      exact ⟨v, List.getElem?_set_self (by rw [s.len]; exact hl), r⟩
    · rw [List.getElem?_eq_none (by simpa using hl)] at hx; cases hx
  · rw [List.getElem?_set_ne hj] at hx
    rw [List.getElem?_set_ne hj]
    exact s.at_ j x hx
theorem VRs.length : ∀ {vs : List V} {ws : List W}, VRs K H ρ vs ws → vs.length = ws.length
  | vs, [], h => by unfold VRs at h; rw [h]; rfl
  | vs, w :: ws, h => by
    unfold VRs at h
    obtain ⟨v, r, e, _, z⟩ := h
    rw [e, List.length_cons, List.length_cons, VRs.length z]
theorem VRs.get : ∀ {vs : List V} {ws : List W} {i : Nat} {w : W}, VRs K H ρ vs ws → ws[i]? = some w → ∃ v, vs[i]? = some v ∧ VR K H ρ v w
  | vs, [], i, w, _, e => by simp at e
  | vs, x :: ws, 0, w, h, e => by
    unfold VRs at h
    obtain ⟨v, r, rfl, q, _⟩ := h
    simp at e
    subst e
    exact ⟨v, rfl, q⟩
  | vs, x :: ws, i + 1, w, h, e => by
    unfold VRs at h
    obtain ⟨v, r, rfl, _, z⟩ := h
    obtain ⟨u, a, b⟩ := VRs.get (i := i) z (by simpa using e)
    exact ⟨u, by simpa using a, b⟩
theorem VRs.set {v : V} {w : W} (q : VR K H ρ v w) : ∀ {vs : List V} {ws : List W} (i : Nat), VRs K H ρ vs ws → VRs K H ρ (vs.set i v) (ws.set i w)
  | vs, [], i, h => by unfold VRs at h ⊢; rw [h]; rfl
  | vs, x :: ws, 0, h => by
    unfold VRs at h
    obtain ⟨u, r, rfl, _, z⟩ := h
    show VRs K H ρ (v :: r) (w :: ws)
    unfold VRs
    exact ⟨v, r, rfl, q, z⟩
  | vs, x :: ws, i + 1, h => by
    unfold VRs at h
    obtain ⟨u, r, rfl, q', z⟩ := h
    show VRs K H ρ (u :: r.set i v) (x :: ws.set i w)
    unfold VRs
    exact ⟨u, _, rfl, q', VRs.set q i z⟩
theorem VRs.append : ∀ {vs us : List V} {ws xs : List W}, VRs K H ρ vs ws → VRs K H ρ us xs → VRs K H ρ (vs ++ us) (ws ++ xs)
  | vs, us, [], xs, h, h2 => by unfold VRs at h; rw [h]; exact h2
  | vs, us, x :: ws, xs, h, h2 => by
    unfold VRs at h
    obtain ⟨u, r, rfl, q', z⟩ := h
    show VRs K H ρ (u :: (r ++ us)) (x :: (ws ++ xs))
    unfold VRs
    exact ⟨u, _, rfl, q', VRs.append z h2⟩
theorem VRs.one {v : V} {w : W} (h : VR K H ρ v w) : VRs K H ρ [v] [w] := by
  unfold VRs
  exact ⟨v, [], rfl, h, by unfold VRs; rfl⟩
theorem VRs.nil : VRs K H ρ [] [] := by unfold VRs; rfl
theorem VRs.cons {v : V} {w : W} {vs : List V} {ws : List W} (h : VR K H ρ v w) (r : VRs K H ρ vs ws) : VRs K H ρ (v :: vs) (w :: ws) := by
  unfold VRs
  exact ⟨v, vs, rfl, h, r⟩
theorem VRs.take : ∀ {vs : List V} {ws : List W} (n : Nat), VRs K H ρ vs ws → VRs K H ρ (vs.take n) (ws.take n)
  | vs, ws, 0, h => by rw [List.take_zero, List.take_zero]; exact .nil
  | vs, [], n + 1, h => by unfold VRs at h; rw [h]; exact .nil
  | vs, x :: ws, n + 1, h => by
    unfold VRs at h
    obtain ⟨u, r, rfl, q', z⟩ := h
    exact .cons q' (VRs.take n z)
theorem VRs.drop : ∀ {vs : List V} {ws : List W} (n : Nat), VRs K H ρ vs ws → VRs K H ρ (vs.drop n) (ws.drop n)
  | vs, ws, 0, h => h
  | vs, [], n + 1, h => by unfold VRs at h; rw [h]; exact .nil
  | vs, x :: ws, n + 1, h => by
    unfold VRs at h
    obtain ⟨u, r, rfl, q', z⟩ := h
    exact VRs.drop n z
theorem OR.mono {a : Addr} {o : O} (x : Ext H ρ H' ρ') (s : H' a = H a) (h : OR K G H ρ a o) : OR K G H' ρ' a o := by
  cases o with
  | lst xs =>
    obtain ⟨vs, e, r⟩ := h
    exact ⟨vs, s.trans e, r.mono x⟩
  | dic xs =>
    obtain ⟨vs, e, r⟩ := h
    exact ⟨vs, s.trans e, r.mono x⟩
  | dik xs =>
    obtain ⟨o, vs, e, r⟩ := h
    exact ⟨o, vs, s.trans e, r.mono x⟩
  | ins c fs =>
    obtain ⟨C, dx, ps, c, e, r⟩ := h
    exact ⟨C, dx, ps, c, s.trans e, r.mono x⟩
theorem tabs_upd {T : List (Addr × Str)} {a : Addr} {o : HO} (h : LamX.Tabs T H) (n : H a = none ∨ ∃ u, H a = some u ∧ isM u = true) : LamX.Tabs T (upd H a o) := fun p hp => by
  obtain ⟨ps, e1, e2, e3⟩ := h p hp
  have ne : ∀ b u, H b = some u → isM u = false → b ≠ a := fun b u e m z => by
    subst z
    rcases n with n | ⟨u2, n, m2⟩
    · rw [e] at n; cases n
    · rw [e] at n; cases n; rw [m] at m2; cases m2
  refine ⟨ps, by rw [upd_ne (ne _ _ e1 rfl)]; exact e1, e2, fun pos cv hc => ?_⟩
  obtain ⟨c, e, q⟩ := e3 pos cv hc
  exact ⟨c, e, by rw [upd_ne (ne _ _ q rfl)]; exact q⟩
/-- a new object that is not ours (a tuple, an iterator ..) -/
theorem HR.other {p : Addr} {o : HO} (r : HR K G H ρ h) (hp : H p = none) : HR K G (upd H p o) ρ h ∧ Ext H ρ (upd H p o) ρ := by
  have x : Ext H ρ (upd H p o) ρ := ⟨fun a u e _ _ => by rw [upd_ne (ne_of_none e hp)]; exact e, List.prefix_rfl, fun _ a b => absurd a b, r.mu, fun a o u e => by rw [upd_ne (ne_of_none e hp)]; exact e⟩
  refine ⟨⟨r.len, r.nd, fun n a u e1 e2 => (r.ob n a u e1 e2).mono x ?_, tabs_upd r.tb (.inl hp)⟩, x⟩
  obtain ⟨w, hw, _⟩ := (r.ob n a u e1 e2).mut
  exact upd_ne (ne_of_none hw hp)
theorem app_get {α : Type} {l : List α} {x y : α} {n : Nat} (h : (l ++ [x])[n]? = some y) : l[n]? = some y ∨ (n = l.length ∧ y = x) := by
  by_cases hn : n < l.length
  · rw [List.getElem?_append_left hn] at h; exact .inl h
  · by_cases h2 : n = l.length
    · subst h2; simp at h; exact .inr ⟨rfl, h.symm⟩
    · rw [List.getElem?_eq_none (by simp; omega)] at h; cases h
/-- a new object of ours -/
theorem HR.new {p : Addr} {o : HO} {u : O} (r : HR K G H ρ h) (hp : H p = none) (hm : isM o = true) (hu : Ext H ρ (upd H p o) (ρ ++ [p]) → OR K G (upd H p o) (ρ ++ [p]) p u) :
    HR K G (upd H p o) (ρ ++ [p]) (h ++ [u]) ∧ Ext H ρ (upd H p o) (ρ ++ [p]) := by
  have np : p ∉ ρ := fun z => by
    obtain ⟨w, hw, _⟩ := r.mu p z
    rw [hp] at hw; cases hw
  have x : Ext H ρ (upd H p o) (ρ ++ [p]) := ⟨fun a u e _ _ => by rw [upd_ne (ne_of_none e hp)]; exact e, List.prefix_append _ _, fun a ha n => by
    rcases List.mem_append.mp ha with z | z
    · exact absurd z n
    · have e : a = p := by simpa using z
      rw [e]; exact .inl hp, r.mu, fun a o u e => by rw [upd_ne (ne_of_none e hp)]; exact e⟩
  refine ⟨⟨by simp [r.len], ?_, fun n a w e1 e2 => ?_, tabs_upd r.tb (.inl hp)⟩, x⟩
  · rw [List.nodup_append]
    refine ⟨r.nd, by simp, fun a ha b hb => ?_⟩
    have e : b = p := by simpa using hb
    subst e
    exact fun z => np (z ▸ ha)
  · rcases app_get e1 with z1 | ⟨z1, z2⟩
    · have hn : n < ρ.length := (List.getElem?_eq_some_iff.mp z1).1
      rw [List.getElem?_append_left (by rw [← r.len]; exact hn)] at e2
      have q := r.ob n a w z1 e2
      obtain ⟨w', hw, _⟩ := q.mut
      exact q.mono x (upd_ne (ne_of_none hw hp))
    · rcases app_get e2 with y1 | ⟨y1, y2⟩
      · have hn : n < h.length := (List.getElem?_eq_some_iff.mp y1).1
        rw [← r.len] at hn
        omega
      · rw [z2, y2]; exact hu x
/-- not a locked dict -/
def NoDik (h : List O) (n : Nat) : Prop := ∀ kvs, h[n]? ≠ some (.dik kvs)
theorem HR.nofrz {n : Nat} {a : Addr} (r : HR K G H ρ h) (e1 : ρ[n]? = some a) (nk : NoDik h n) (o' : Obj) (u' : HO) : H a ≠ some (.frz o' u') := fun e => by
  have hn : n < h.length := by rw [← r.len]; exact (List.getElem?_eq_some_iff.mp e1).1
  have q := r.ob n a h[n] e1 (List.getElem?_eq_getElem hn)
  cases hh : h[n] with
  | lst xs => rw [hh] at q; obtain ⟨vs, z, _⟩ := q; rw [e] at z; cases z
  | dic xs => rw [hh] at q; obtain ⟨vs, z, _⟩ := q; rw [e] at z; cases z
  | dik xs => exact nk xs (by rw [List.getElem?_eq_getElem hn, hh])
  | ins c fs => rw [hh] at q; obtain ⟨C, dx, ps, _, z, _⟩ := q; rw [e] at z; cases z
/-- an object of ours is changed -/
theorem HR.write {n : Nat} {a : Addr} {o : HO} {u : O} (r : HR K G H ρ h) (e1 : ρ[n]? = some a) (nk : NoDik h n) (hm : isM o = true) (hu : Ext H ρ (upd H a o) ρ → OR K G (upd H a o) ρ a u) :
    HR K G (upd H a o) ρ (h.set n u) ∧ Ext H ρ (upd H a o) ρ := by
  have ha : a ∈ ρ := List.mem_of_getElem? e1
  have x : Ext H ρ (upd H a o) ρ := ⟨fun b u e _ n => by rw [upd_ne (fun z => n (by rw [z]; exact ha))]; exact e, List.prefix_rfl, fun _ a b => absurd a b, r.mu, fun b o' u' e => by
    rw [upd_ne (fun z => r.nofrz e1 nk o' u' (by rw [← z]; exact e))]; exact e⟩
  refine ⟨⟨by rw [List.length_set]; exact r.len, r.nd, fun m b w f1 f2 => ?_, tabs_upd r.tb (.inr (r.mu a ha))⟩, x⟩
  by_cases hmn : n = m
  · subst hmn
    rw [e1] at f1
    cases f1
    have hn : n < h.length := by rw [← r.len]; exact (List.getElem?_eq_some_iff.mp e1).1
    rw [List.getElem?_set_self hn] at f2
    cases f2
    exact hu x
  · rw [List.getElem?_set_ne hmn] at f2
    have nb : b ≠ a := fun z => by
      rw [z] at f1
      obtain ⟨h1, q1⟩ := List.getElem?_eq_some_iff.mp e1
      obtain ⟨h2, q2⟩ := List.getElem?_eq_some_iff.mp f1
      exact hmn ((List.getElem_inj r.nd).mp (q1.trans q2.symm))
    exact (r.ob m b w f1 f2).mono x (upd_ne nb)
end

/-! ### what comes out -/
inductive Out (α : Type) where
  | ok (a : α) (h : List O)
  | exc (c : Nat) (p : Option W) (h : List O)
  | bad
def Out.bnd {α β : Type} (o : Out α) (f : α → List O → Out β) : Out β :=
  match o with
  | .ok a h => f a h
  | .exc c p h => .exc c p h
  | .bad => .bad
@[simp] theorem Out.bnd_ok {α β : Type} (a : α) (h : List O) (f : α → List O → Out β) : (Out.ok a h).bnd f = f a h := rfl
@[simp] theorem Out.bnd_exc {α β : Type} (c : Nat) (p : Option W) (h : List O) (f : α → List O → Out β) : (Out.exc c p h : Out α).bnd f = .exc c p h := rfl
@[simp] theorem Out.bnd_bad {α β : Type} (f : α → List O → Out β) : (Out.bad : Out α).bnd f = .bad := rfl
abbrev M (α : Type) := Env → List O → Out α
/-- an exception: its class by name, its field 'place' -/
def ER (K : PySem.W.Frag) (G : Gx) (H : Hp) (ρ : List Addr) (cls : Value) (d : Option Addr) (c : Nat) (p : Option W) : Prop :=
  ∃ C, G.ca c = some C ∧ cls = .ref C ∧ match p with
    | none => d = none
    | some w => ∃ dd v, d = some dd ∧ H dd = some (.xd [("place", v)]) ∧ VR K H ρ v w
def Post (K : PySem.W.Frag) (G : Gx) (E : XK) {α β : Type} (Rel : Hp → List Addr → β → α → Prop) (Q : β → Hp → Prop) (H : Hp) (ρ : List Addr) : Out α → Prop
  | .ok w h' => ∀ ρ' H' v, Ext H ρ H' ρ' → HR K G H' ρ' h' → Rel H' ρ' v w → Q v H'
  | .exc c p h' => ∀ ρ' H' cls d, Ext H ρ H' ρ' → HR K G H' ρ' h' → ER K G H' ρ' cls d c p → E cls d H'
  | .bad => False
section
variable {K : PySem.W.Frag} {G : Gx} {H H' H1 H2 : Hp} {ρ ρ' ρ1 ρ2 : List Addr} {h : List O} {E : XK}
theorem Post.ext {α β : Type} {Rel : Hp → List Addr → β → α → Prop} {Q : β → Hp → Prop} {o : Out α} (x : Ext H ρ H1 ρ1) (p : Post K G E Rel Q H ρ o) : Post K G E Rel Q H1 ρ1 o := by
  cases o with
  | ok w h' => exact fun ρ' H' v x' r q => p ρ' H' v (x.trans x') r q
  | exc c q h' => exact fun ρ' H' cls d x' r q => p ρ' H' cls d (x.trans x') r q
  | bad => exact p
theorem Post.bnd {α β γ δ : Type} {Rel : Hp → List Addr → β → α → Prop} {Rel2 : Hp → List Addr → δ → γ → Prop} {Q : δ → Hp → Prop} {o : Out α} {f : α → List O → Out γ} (p : Post K G E Rel2 Q H ρ (o.bnd f)) :
    Post K G E Rel (fun v H1 => ∃ ρ1 h1 w, Ext H ρ H1 ρ1 ∧ HR K G H1 ρ1 h1 ∧ Rel H1 ρ1 v w ∧ Post K G E Rel2 Q H1 ρ1 (f w h1)) H ρ o := by
  cases o with
  | ok w h' => exact fun ρ' H' v x r q => ⟨ρ', h', w, x, r, q, Post.ext x p⟩
  | exc c q h' => exact p
  | bad => exact p
theorem Post.imp {α β : Type} {Rel : Hp → List Addr → β → α → Prop} {Q Q' : β → Hp → Prop} {o : Out α} (p : Post K G E Rel Q H ρ o) (i : ∀ v H', Q v H' → Q' v H') : Post K G E Rel Q' H ρ o := by
  cases o with
  | ok w h' => exact fun ρ' H' v x r q => i _ _ (p ρ' H' v x r q)
  | exc c q h' => exact p
  | bad => exact p
end
abbrev VRel (K : PySem.W.Frag) : Hp → List Addr → V → W → Prop := fun H ρ v w => VR K H ρ v w
abbrev VsRel (K : PySem.W.Frag) : Hp → List Addr → List V → List W → Prop := fun H ρ v w => VRs K H ρ v w
abbrev BRel : Hp → List Addr → Bool → Bool → Prop := fun _ _ a b => a = b
/-- an expression's reading by its plain function -/
def rd (K : PySem.W.Frag) (G : Gx) (Wx : WX) {α β : Type} (Rel : Hp → List Addr → β → α → Prop) (m : M α) : L2.St → Hp → (β → Hp → Prop) → Prop := fun σ H Q =>
  ∃ ρ e h, HR K G H ρ h ∧ SR K H ρ σ e ∧ Post K G (fun cls d H' => Wx cls d σ H') Rel Q H ρ (m e h)
/-- e is read by m -/
def SE (G : Gx) (X : Cx) (e : Expr) (m : M W) : Prop := ∀ Wx, Takes X Wx → PE X e (rd X.K G Wx (VRel X.K) m)
def ST (G : Gx) (X : Cx) (e : Expr) (m : M Bool) : Prop := ∀ Wx, Takes X Wx → PT X e (rd X.K G Wx BRel m)
def SW (G : Gx) (X : Cx) (e : Expr) (m : M Bool) : Prop := ∀ Wx, Takes X Wx → PW X e (rd X.K G Wx BRel m)
def SA (G : Gx) (X : Cx) (es : List Expr) (m : M (List W)) : Prop := ∀ Wx, Takes X Wx → PA X es (rd X.K G Wx (VsRel X.K) m)
/-- go on behind a part -/
theorem rd.bnd {K : PySem.W.Frag} {G : Gx} {Wx : WX} {α β γ δ : Type} {Rel : Hp → List Addr → β → α → Prop} {Rel2 : Hp → List Addr → δ → γ → Prop} {m : M α} {f : Env → α → List O → Out γ} {σ : L2.St} {H : Hp} {Q : δ → Hp → Prop}
    {Q' : β → Hp → Prop} (p : rd K G Wx Rel2 (fun e h => (m e h).bnd (f e)) σ H Q)
    (k : ∀ H0 ρ0 e, SR K H0 ρ0 σ e → ∀ v H1 ρ1 h1 w, Ext H0 ρ0 H1 ρ1 → HR K G H1 ρ1 h1 → Rel H1 ρ1 v w → Post K G (fun cls d H' => Wx cls d σ H') Rel2 Q H1 ρ1 (f e w h1) → Q' v H1) :
    rd K G Wx Rel m σ H Q' := by
  obtain ⟨ρ, e, h, hr, sr, p⟩ := p
  refine ⟨ρ, e, h, hr, sr, (Post.bnd (Rel := Rel) p).imp fun v H1 q => ?_⟩
  obtain ⟨ρ1, h1, w, x, r1, q1, p1⟩ := q
  exact k H ρ e sr v H1 ρ1 h1 w x r1 q1 p1
end Den
set_option maxRecDepth 100000
/-! Expressions: names, constants, operators, comparisons, tests, displays, subscripts, slices, calls. -/
namespace Den
open PySem L2
/-- sizes that we let pass -/
abbrev lim : Nat := 1000000
theorem lim_size {n : Nat} (h : n ≤ lim) : n ≤ sizeLine := by rw [PySem.sizeLine_eq]; exact Nat.le_trans h (by decide)

/-! ### names, constants -/
def mVar (i : Nat) : M W := fun e h => match e[i]? with
  | some (some w) => .ok w h
  | _ => .bad
def mC (w : W) : M W := fun _ h => .ok w h
section
variable {G : Gx} {X : Cx}
theorem se_var (i : Nat) {x : Str} {pos : Pos} (hN : X.N[i]? = some x := by rfl) (hv : Vis X.env.scope x := by first | exact Or.inl rfl | exact Or.inr (Or.inl rfl) | exact Or.inr (Or.inr rfl)) (hd : (x == ("__debug__" : Str)) = false := by decide)
    (hcd : (x == ("__classdict__" : Str)) = false := by decide) : SE G X (.Name x pos) (mVar i) := fun Wx tk => (pe_var hN hv hd hcd).imp fun σ H Q p => by
  obtain ⟨ρ, e, h, hr, sr, p⟩ := p
  unfold mVar at p
  split at p
  · rename_i w hw
    obtain ⟨v, hv, r⟩ := sr.at_ _ _ hw
    exact ⟨v, hv, p ρ H v (Ext.refl hr) hr r⟩
  · exact p.elim
theorem rd_c {K : PySem.W.Frag} {Wx : WX} {v : V} {w : W} {σ : L2.St} {H : Hp} {Q : VK} (hw : ∀ H ρ, VR K H ρ v w) (p : rd K G Wx (VRel K) (mC w) σ H Q) : Q v H := by
  obtain ⟨ρ, e, h, hr, sr, p⟩ := p
  exact p ρ H v (Ext.refl hr) hr (hw _ _)
theorem se_int {i : Int} {j : Nat} {pos : Pos} : SE G X (.Constant (.int i) j pos) (mC (.int i)) := fun Wx tk => pe_int.imp fun σ H Q p => rd_c (v := .int i) (fun _ _ => by unfold VR; rfl) p
theorem se_bl {b : Bool} {j : Nat} {pos : Pos} : SE G X (.Constant (.bool b) j pos) (mC (.bl b)) := fun Wx tk => pe_bl.imp fun σ H Q p => rd_c (v := .bl b) (fun _ _ => by unfold VR; rfl) p
theorem se_non {j : Nat} {pos : Pos} : SE G X (.Constant .none j pos) (mC .non) := fun Wx tk => pe_non.imp fun σ H Q p => rd_c (v := .non) (fun _ _ => by unfold VR; rfl) p
theorem se_str {x : Str} {l : List Nat} {j : Nat} {pos : Pos} (hx : x = ⟨l.toArray⟩ := by decide +kernel) : SE G X (.Constant (.str x) j pos) (mC (.str l)) := fun Wx tk => pe_str.imp fun σ H Q p => rd_c (v := .str x) (fun _ _ => by unfold VR; rw [hx]) p
/-- a module's constant -/
theorem se_glob {x : Str} {v : V} {u : Value} {w : W} {pos : Pos} (hg : Gl X x) (hm : X.mg x = some u) (r : RelV v u) (hw : ∀ H ρ, VR X.K H ρ v w) (hd : (x == ("__debug__" : Str)) = false := by decide) : SE G X (.Name x pos) (mC w) :=
  fun Wx tk => (pe_glob hg hm r hd).imp fun σ H Q p => rd_c hw p
end

/-! ### two operands -/
def mOp (op : W → W → List O → Out W) (a b : M W) : M W := fun e h => (a e h).bnd fun x h => (b e h).bnd fun y h => op x y h
def mUn (op : W → List O → Out W) (a : M W) : M W := fun e h => (a e h).bnd fun x h => op x h
/-- r serves op -/
def Serves2 (K : PySem.W.Frag) (G : Gx) (op : W → W → List O → Out W) (r : R2) : Prop := ∀ (E : XK) (H : Hp) (ρ : List Addr) (h : List O) (x y : V) (wx wy : W) (Q : VK),
  HR K G H ρ h → VR K H ρ x wx → VR K H ρ y wy → Post K G E (VRel K) Q H ρ (op wx wy h) → r x y H Q
def Serves1 (K : PySem.W.Frag) (G : Gx) (op : W → List O → Out W) (r : V → Hp → VK → Prop) : Prop := ∀ (E : XK) (H : Hp) (ρ : List Addr) (h : List O) (x : V) (wx : W) (Q : VK),
  HR K G H ρ h → VR K H ρ x wx → Post K G E (VRel K) Q H ρ (op wx h) → r x H Q
def OpS (G : Gx) (X : Cx) (f : Value → Value → Sem Value) (op : W → W → List O → Out W) : Prop := ∃ r, OpR X f r ∧ Serves2 X.K G op r
def UnS (G : Gx) (X : Cx) (f : Value → Sem Value) (op : W → List O → Out W) : Prop := ∃ r, UnR X f r ∧ Serves1 X.K G op r
section
variable {G : Gx} {X : Cx} {a b c : Expr} {ma mb mc : M W} {op : W → W → List O → Out W} {pos : Pos}
/-- the reading of two parts and an operation -/
theorem rd_op {K : PySem.W.Frag} {Wx : WX} {r : R2} (s : Serves2 K G op r) {σ : L2.St} {H : Hp} {Q : VK} (p : rd K G Wx (VRel K) (mOp op ma mb) σ H Q) : tOp r (rd K G Wx (VRel K) ma) (rd K G Wx (VRel K) mb) σ H Q := by
  refine rd.bnd (Rel := VRel K) p fun H0 ρ0 e sr x H1 ρ1 h1 wx x1 r1 vx p1 => ?_
  have sr1 := sr.mono x1
  refine ⟨ρ1, e, h1, r1, sr1, (Post.bnd (Rel := VRel K) p1).imp fun y H2 q => ?_⟩
  obtain ⟨ρ2, h2, wy, x2, r2, vy, p2⟩ := q
  exact s _ H2 ρ2 h2 x y wx wy Q r2 (vx.mono x2) vy p2
theorem se_op {o : Operator} (s : OpS G X (binaryOp o) op) (ha : SE G X a ma) (hb : SE G X b mb) : SE G X (.BinOp a o b pos) (mOp op ma mb) := fun Wx tk => by
  obtain ⟨r, ho, s⟩ := s
  exact (pe_op ho (ha Wx tk) (hb Wx tk)).imp fun σ H Q p => rd_op s p
theorem se_cmp {o : CmpOp} (s : OpS G X (compareOp o) op) (ha : SE G X a ma) (hb : SE G X b mb) (hm : behindInMarks o b = false := by first | exact nomark _ (by decide) (by decide) | rfl | (with_unfolding_all rfl)) :
    SE G X (.Compare a [o] [b] pos) (mOp op ma mb) := fun Wx tk => by
  obtain ⟨r, ho, s⟩ := s
  exact (pe_cmpR ho (ha Wx tk) (hb Wx tk) hm).imp fun σ H Q p => rd_op s p
theorem se_un {o : UnaryOp} {op : W → List O → Out W} (s : UnS G X (unaryOp o) op) (ha : SE G X a ma) : SE G X (.UnaryOp o a pos) (mUn op ma) := fun Wx tk => by
  obtain ⟨r, ho, s⟩ := s
  refine (pe_un ho (ha Wx tk)).imp fun σ H Q p => ?_
  refine rd.bnd (Rel := VRel X.K) p fun H0 ρ0 e sr x H1 ρ1 h1 wx x1 r1 vx p1 => ?_
  exact s _ H1 ρ1 h1 x wx Q r1 vx p1
end
/-- a bool as a test's answer -/
def asB : W → List O → Out Bool
  | .bl b, h => .ok b h
  | _, _ => .bad
def mB (m : M W) : M Bool := fun e h => (m e h).bnd asB
section
variable {G : Gx} {X : Cx} {a b c : Expr} {ma mb mc : M W} {op op' : W → W → List O → Out W} {pos : Pos}
theorem asB_post {K : PySem.W.Frag} {E : XK} {H : Hp} {ρ : List Addr} {h : List O} {v : V} {w : W} {Q : Bool → Hp → Prop} (hr : HR K G H ρ h) (r : VR K H ρ v w) (p : Post K G E BRel Q H ρ (asB w h)) : ∃ k, v = .bl k ∧ Q k H := by
  cases w with
  | bl b =>
    unfold VR at r
    exact ⟨b, r, p ρ H b (Ext.refl hr) hr rfl⟩
  | non => exact p.elim
  | int i => exact p.elim
  | str i => exact p.elim
  | tup i => exact p.elim
  | rol i => exact p.elim
  | ref i => exact p.elim
theorem st_cmp {o : CmpOp} (s : OpS G X (compareOp o) op) (ha : SE G X a ma) (hb : SE G X b mb) (hm : behindInMarks o b = false := by first | exact nomark _ (by decide) (by decide) | rfl | (with_unfolding_all rfl)) :
    ST G X (.Compare a [o] [b] pos) (mB (mOp op ma mb)) := fun Wx tk => by
  obtain ⟨r, ho, s⟩ := s
  refine (pt_cmpR ho (ha Wx tk) (hb Wx tk) hm).imp fun σ H Q p => ?_
  refine rd_op (G := G) (Wx := Wx) (K := X.K) (Q := fun x H' => ∃ k, x = .bl k ∧ Q k H') s ?_
  refine rd.bnd (Rel := VRel X.K) p fun H0 ρ0 e sr x H1 ρ1 h1 wx x1 r1 vx p1 => ?_
  exact asB_post r1 vx p1
/-- a op b op' c -/
def mChain (op op' : W → W → List O → Out W) (a b c : M W) : M W := fun e h => (a e h).bnd fun x h => (b e h).bnd fun y h => (op x y h).bnd fun z h => (asB z h).bnd fun k h => if k = true then (c e h).bnd fun w h => op' y w h else .ok (.bl false) h
theorem rd_chain {K : PySem.W.Frag} {Wx : WX} {r r' : R2} (s : Serves2 K G op r) (s' : Serves2 K G op' r') {σ : L2.St} {H : Hp} {Q : VK} (p : rd K G Wx (VRel K) (mChain op op' ma mb mc) σ H Q) :
    tChain r r' (rd K G Wx (VRel K) ma) (rd K G Wx (VRel K) mb) (rd K G Wx (VRel K) mc) σ H Q := by
  refine rd.bnd (Rel := VRel K) p fun H0 ρ0 e sr x H1 ρ1 h1 wx x1 r1 vx p1 => ?_
  have sr1 := sr.mono x1
  refine ⟨ρ1, e, h1, r1, sr1, (Post.bnd (Rel := VRel K) p1).imp fun y H2 q => ?_⟩
  obtain ⟨ρ2, h2, wy, x2, r2, vy, p2⟩ := q
  refine s (fun cls d H' => Wx cls d σ H') H2 ρ2 h2 x y wx wy _ r2 (vx.mono x2) vy ((Post.bnd (Rel := VRel K) p2).imp fun z H3 q => ?_)
  obtain ⟨ρ3, h3, wz, x3, r3, vz, p3⟩ := q
  obtain ⟨k, ek, q3⟩ := asB_post (Q := fun k H3 => if k = true then rd K G Wx (VRel K) mc σ H3 (fun w' H4 => r' y w' H4 Q) else Q (.bl false) H3) r3 vz ((Post.bnd (Rel := BRel) p3).imp fun k H4 q => by
    obtain ⟨ρ4, h4, k', x4, r4, ek, p4⟩ := q
    cases ek
    cases k with
    | false => exact iteF (p4 ρ4 H4 (.bl false) (Ext.refl r4) r4 (by unfold VR; rfl))
    | true =>
      refine iteT ⟨ρ4, e, h4, r4, ((sr1.mono x2).mono x3).mono x4, (Post.bnd (Rel := VRel K) p4).imp fun w' H5 q => ?_⟩
      obtain ⟨ρ5, h5, ww, x5, r5, vw, p5⟩ := q
      exact s' _ H5 ρ5 h5 y w' wy ww Q r5 (((vy.mono x3).mono x4).mono x5) vw p5)
  exact ⟨k, ek, q3⟩
theorem se_chain {o o' : CmpOp} (s : OpS G X (compareOp o) op) (s' : OpS G X (compareOp o') op') (ha : SE G X a ma) (hb : SE G X b mb) (hc : SE G X c mc) (hm : lastMarks [o, o'] [b, c] = false := by with_unfolding_all rfl) :
    SE G X (.Compare a [o, o'] [b, c] pos) (mChain op op' ma mb mc) := fun Wx tk => by
  obtain ⟨r, ho, s⟩ := s
  obtain ⟨r', ho', s'⟩ := s'
  exact (pe_chain ho ho' (ha Wx tk) (hb Wx tk) (hc Wx tk) hm).imp fun σ H Q p => rd_chain s s' p
theorem st_chain {o o' : CmpOp} (s : OpS G X (compareOp o) op) (s' : OpS G X (compareOp o') op') (ha : SE G X a ma) (hb : SE G X b mb) (hc : SE G X c mc) (hm : lastMarks [o, o'] [b, c] = false := by with_unfolding_all rfl) :
    ST G X (.Compare a [o, o'] [b, c] pos) (mB (mChain op op' ma mb mc)) := fun Wx tk => by
  obtain ⟨r, ho, s⟩ := s
  obtain ⟨r', ho', s'⟩ := s'
  refine (pt_chain ho ho' (ha Wx tk) (hb Wx tk) (hc Wx tk) hm).imp fun σ H Q p => ?_
  refine rd_chain (G := G) (Wx := Wx) (K := X.K) (Q := fun x H' => ∃ k, x = .bl k ∧ Q k H') s s' ?_
  refine rd.bnd (Rel := VRel X.K) p fun H0 ρ0 e sr x H1 ρ1 h1 wx x1 r1 vx p1 => ?_
  exact asB_post r1 vx p1

/-! ### truth, and, or, not -/
def truW : W → List O → Out Bool
  | .non, h => .ok false h
  | .bl b, h => .ok b h
  | .int i, h => .ok (i != 0) h
  | .str s, h => if s.length ≤ lim then .ok (!s.isEmpty) h else .bad
  | .tup xs, h => .ok (!xs.isEmpty) h
  | .rol xs, h => .ok (!xs.isEmpty) h
  | .ref n, h => match h[n]? with
    | some (.lst xs) => .ok (!xs.isEmpty) h
    | some (.dic xs) => .ok (!xs.isEmpty) h
    | _ => .bad
theorem VRs.isEmpty {K : PySem.W.Frag} {H : Hp} {ρ : List Addr} {vs : List V} {ws : List W} (h : VRs K H ρ vs ws) : vs.isEmpty = ws.isEmpty := by
  have e := h.length
  cases vs <;> cases ws <;> first | rfl | (simp at e)
theorem KRs.length {K : PySem.W.Frag} {H : Hp} {ρ : List Addr} : ∀ {vs : List (Key × V)} {ws : List (W × W)}, KRs K H ρ vs ws → vs.length = ws.length
  | vs, [], h => by unfold KRs at h; rw [h]; rfl
  | vs, (k, w) :: ws, h => by
    unfold KRs at h
    obtain ⟨q, v, r, e, _, _, z⟩ := h
    rw [e, List.length_cons, List.length_cons, KRs.length z]
theorem KRs.isEmpty {K : PySem.W.Frag} {H : Hp} {ρ : List Addr} {vs : List (Key × V)} {ws : List (W × W)} (h : KRs K H ρ vs ws) : vs.isEmpty = ws.isEmpty := by
  have e := h.length
  cases vs <;> cases ws <;> first | rfl | (simp at e)
theorem HR.look {K : PySem.W.Frag} {H : Hp} {ρ : List Addr} {h : List O} {n : Nat} {a : Addr} {o : O} (r : HR K G H ρ h) (e : ρ[n]? = some a) (q : h[n]? = some o) : OR K G H ρ a o := r.ob n a o e q
theorem tru_post {K : PySem.W.Frag} {E : XK} {H : Hp} {ρ : List Addr} {h : List O} {v : V} {w : W} {Q : Bool → Hp → Prop} (hr : HR K G H ρ h) (r : VR K H ρ v w) (p : Post K G E BRel Q H ρ (truW w h)) : ∃ k, TruV K v H k ∧ Q k H := by
  cases w with
  | non => unfold VR at r; rw [r]; exact ⟨false, rfl, p ρ H _ (Ext.refl hr) hr rfl⟩
  | bl b => unfold VR at r; rw [r]; exact ⟨b, rfl, p ρ H _ (Ext.refl hr) hr rfl⟩
  | int i => unfold VR at r; rw [r]; exact ⟨_, rfl, p ρ H _ (Ext.refl hr) hr rfl⟩
  | str s =>
    unfold VR at r
    rw [r]
    have p : Post K G E BRel Q H ρ (if s.length ≤ lim then .ok (!s.isEmpty) h else .bad) := p
    by_cases hl : s.length ≤ lim
    · rw [if_pos hl] at p
      refine ⟨_, ⟨?_, rfl⟩, p ρ H _ (Ext.refl hr) hr ?_⟩
      · exact lim_size (by show s.toArray.size ≤ lim; simpa using hl)
      · show (((s.toArray.size : Nat) : Int) != 0) = _
        cases s with
        | nil => rfl
        | cons x l =>
          have e : (((x :: l).toArray.size : Nat) : Int) ≠ 0 := by simp; omega
          simp [bne, e]
          omega
    · rw [if_neg hl] at p
      exact p.elim
  | tup xs =>
    unfold VR at r
    obtain ⟨a, vs, rfl, hs, q⟩ := r
    exact ⟨_, .inr (.inl ⟨vs, hs, rfl⟩), p ρ H _ (Ext.refl hr) hr (by rw [q.isEmpty])⟩
  | rol xs =>
    unfold VR at r
    obtain ⟨a, vs, rfl, hs, q⟩ := r
    refine ⟨_, .inl ⟨vs, ?_, rfl⟩, p ρ H _ (Ext.refl hr) hr (by rw [q.isEmpty])⟩
    rcases hs with hs | hs
    · exact .inl hs.1
    · exact hs H
  | ref n =>
    unfold VR at r
    obtain ⟨a, rfl, ha⟩ := r
    simp only [truW] at p
    cases hx : h[n]? with
    | none => rw [hx] at p; exact p.elim
    | some o =>
      rw [hx] at p
      have q := hr.look ha hx
      cases o with
      | lst xs =>
        obtain ⟨vs, e, q⟩ := q
        exact ⟨_, .inl ⟨vs, .inl (.inl e), rfl⟩, p ρ H _ (Ext.refl hr) hr (by rw [q.isEmpty])⟩
      | dic xs =>
        obtain ⟨vs, e, q⟩ := q
        exact ⟨_, .inr (.inr ⟨vs, e, rfl⟩), p ρ H _ (Ext.refl hr) hr (by rw [q.isEmpty])⟩
      | dik xs => exact p.elim
      | ins c fs => exact p.elim
def mTru (m : M W) : M Bool := fun e h => (m e h).bnd truW
theorem st_tru (ha : SE G X a ma) (he : ∀ whole, isTrue a X.env whole = (do let v ← whole; standAt a.pos; holding [v] (truthy v)) := by intro _; rfl) : ST G X a (mTru ma) := fun Wx tk =>
  (pt_truth (ha Wx tk) he).imp fun σ H Q p => rd.bnd (Rel := VRel X.K) p fun H0 ρ0 e sr x H1 ρ1 h1 wx x1 r1 vx p1 => tru_post r1 vx p1
variable {ta tb : M Bool} {rest : List Expr}
def mAnd (t u : M Bool) : M Bool := fun e h => (t e h).bnd fun c h => if c = true then u e h else .ok false h
def mOr (t u : M Bool) : M Bool := fun e h => (t e h).bnd fun c h => if c = true then .ok true h else u e h
def mNot (t : M Bool) : M Bool := fun e h => (t e h).bnd fun c h => .ok (!c) h
theorem sw_and1 (ha : ST G X a ta) : SW G X (.BoolOp .And [a] pos) ta := fun Wx tk => pw_and1 (ha Wx tk)
theorem sw_or1 (ha : ST G X a ta) : SW G X (.BoolOp .Or [a] pos) ta := fun Wx tk => pw_or1 (ha Wx tk)
theorem sw_and (ha : ST G X a ta) (hb : SW G X (.BoolOp .And (b :: rest) pos) tb) : SW G X (.BoolOp .And (a :: b :: rest) pos) (mAnd ta tb) := fun Wx tk =>
  (pw_and (ha Wx tk) (hb Wx tk)).imp fun σ H Q p => rd.bnd (Rel := BRel) p fun H0 ρ0 e sr x H1 ρ1 h1 wx x1 r1 vx p1 => by
    cases vx
    cases x with
    | true => exact iteT ⟨ρ1, e, h1, r1, sr.mono x1, p1⟩
    | false => exact iteF (p1 ρ1 H1 false (Ext.refl r1) r1 rfl)
theorem sw_or (ha : ST G X a ta) (hb : SW G X (.BoolOp .Or (b :: rest) pos) tb) : SW G X (.BoolOp .Or (a :: b :: rest) pos) (mOr ta tb) := fun Wx tk =>
  (pw_or (ha Wx tk) (hb Wx tk)).imp fun σ H Q p => rd.bnd (Rel := BRel) p fun H0 ρ0 e sr x H1 ρ1 h1 wx x1 r1 vx p1 => by
    cases vx
    cases x with
    | true => exact iteT (p1 ρ1 H1 true (Ext.refl r1) r1 rfl)
    | false => exact iteF ⟨ρ1, e, h1, r1, sr.mono x1, p1⟩
theorem st_w (h : SW G X a ta) : ST G X a ta := fun Wx tk => (h Wx tk).pt
theorem st_not (ha : ST G X a ta) : ST G X (.UnaryOp .Not a pos) (mNot ta) := fun Wx tk =>
  (pt_not (ha Wx tk)).imp fun σ H Q p => rd.bnd (Rel := BRel) p fun H0 ρ0 e sr x H1 ρ1 h1 wx x1 r1 vx p1 => by
    cases vx
    exact p1 ρ1 H1 _ (Ext.refl r1) r1 rfl
/-- .. as values -/
def mAndV (a b : M W) : M W := fun e h => (a e h).bnd fun x h => (truW x h).bnd fun k h => if k = true then b e h else .ok x h
def mOrV (a b : M W) : M W := fun e h => (a e h).bnd fun x h => (truW x h).bnd fun k h => if k = true then .ok x h else b e h
def mNotV (a : M W) : M W := fun e h => (a e h).bnd fun x h => (truW x h).bnd fun k h => .ok (.bl (!k)) h
theorem se_one {o : BoolOp} (ha : SE G X a ma) : SE G X (.BoolOp o [a] pos) ma := fun Wx tk => pe_one (ha Wx tk)
theorem se_and (ha : SE G X a ma) (hb : SE G X (.BoolOp .And (b :: rest) pos) mb) : SE G X (.BoolOp .And (a :: b :: rest) pos) (mAndV ma mb) := fun Wx tk =>
  (pe_andT (ha Wx tk) (hb Wx tk)).imp fun σ H Q p => rd.bnd (Rel := VRel X.K) p fun H0 ρ0 e sr x H1 ρ1 h1 wx x1 r1 vx p1 => by
    refine tru_post (Q := fun k H1 => if k = true then rd X.K G Wx (VRel X.K) mb σ H1 Q else Q x H1) r1 vx ((Post.bnd (Rel := BRel) p1).imp fun k H2 q => ?_)
    obtain ⟨ρ2, h2, k', x2, r2, ek, p2⟩ := q
    cases ek
    cases k with
    | true => exact iteT ⟨ρ2, e, h2, r2, (sr.mono x1).mono x2, p2⟩
    | false => exact iteF (p2 ρ2 H2 x (Ext.refl r2) r2 (vx.mono x2))
theorem se_or (ha : SE G X a ma) (hb : SE G X (.BoolOp .Or (b :: rest) pos) mb) : SE G X (.BoolOp .Or (a :: b :: rest) pos) (mOrV ma mb) := fun Wx tk =>
  (pe_orT (ha Wx tk) (hb Wx tk)).imp fun σ H Q p => rd.bnd (Rel := VRel X.K) p fun H0 ρ0 e sr x H1 ρ1 h1 wx x1 r1 vx p1 => by
    refine tru_post (Q := fun k H1 => if k = true then Q x H1 else rd X.K G Wx (VRel X.K) mb σ H1 Q) r1 vx ((Post.bnd (Rel := BRel) p1).imp fun k H2 q => ?_)
    obtain ⟨ρ2, h2, k', x2, r2, ek, p2⟩ := q
    cases ek
    cases k with
    | true => exact iteT (p2 ρ2 H2 x (Ext.refl r2) r2 (vx.mono x2))
    | false => exact iteF ⟨ρ2, e, h2, r2, (sr.mono x1).mono x2, p2⟩
theorem se_not (ha : SE G X a ma) : SE G X (.UnaryOp .Not a pos) (mNotV ma) := fun Wx tk =>
  (pe_notT (ha Wx tk)).imp fun σ H Q p => rd.bnd (Rel := VRel X.K) p fun H0 ρ0 e sr x H1 ρ1 h1 wx x1 r1 vx p1 => by
    refine tru_post (Q := fun k H1 => Q (.bl (!k)) H1) r1 vx ((Post.bnd (Rel := BRel) p1).imp fun k H2 q => ?_)
    obtain ⟨ρ2, h2, k', x2, r2, ek, p2⟩ := q
    cases ek
    exact p2 ρ2 H2 _ (Ext.refl r2) r2 (by unfold VR; rfl)
def mIf (t : M Bool) (a b : M W) : M W := fun e h => (t e h).bnd fun c h => if c = true then a e h else b e h
theorem se_ife {tc : M Bool} (hc : ST G X c tc) (ha : SE G X a ma) (hb : SE G X b mb) : SE G X (.IfExp c a b pos) (mIf tc ma mb) := fun Wx tk =>
  (pe_ifExp (hc Wx tk) (ha Wx tk) (hb Wx tk)).imp fun σ H Q p => rd.bnd (Rel := BRel) p fun H0 ρ0 e sr x H1 ρ1 h1 wx x1 r1 vx p1 => by
    cases vx
    cases x with
    | true => exact iteT ⟨ρ1, e, h1, r1, sr.mono x1, p1⟩
    | false => exact iteF ⟨ρ1, e, h1, r1, sr.mono x1, p1⟩

/-! ### argument lists, displays -/
def mNil : M (List W) := fun _ h => .ok [] h
def mCons (a : M W) (r : M (List W)) : M (List W) := fun e h => (a e h).bnd fun x h => (r e h).bnd fun xs h => .ok (x :: xs) h
theorem sa_nil : SA G X [] mNil := fun Wx tk => pa_nil.imp fun σ H Q p => by
  obtain ⟨ρ, e, h, hr, sr, p⟩ := p
  exact p ρ H [] (Ext.refl hr) hr .nil
theorem sa_cons {es : List Expr} {mr : M (List W)} (ha : SE G X a ma) (hr : SA G X es mr) (hs : starEach (a :: es) X.env = (false, eval a X.env) :: starEach es X.env := by rfl) : SA G X (a :: es) (mCons ma mr) := fun Wx tk =>
  (pa_cons (ha Wx tk) (hr Wx tk) hs).imp fun σ H Q p => rd.bnd (Rel := VRel X.K) p fun H0 ρ0 e sr x H1 ρ1 h1 wx x1 r1 vx p1 => by
    refine ⟨ρ1, e, h1, r1, sr.mono x1, (Post.bnd (Rel := VsRel X.K) p1).imp fun ys H2 q => ?_⟩
    obtain ⟨ρ2, h2, wys, x2, r2, vys, p2⟩ := q
    exact p2 ρ2 H2 _ (Ext.refl r2) r2 (.cons (vx.mono x2) vys)
def mTup (m : M (List W)) : M W := fun e h => (m e h).bnd fun xs h => if xs.length ≤ lim then .ok (.tup xs) h else .bad
def mLst (m : M (List W)) : M W := fun e h => (m e h).bnd fun xs h => if xs.length ≤ lim then .ok (.ref h.length) (h ++ [.lst xs]) else .bad
section
variable {K : PySem.W.Frag} {H : Hp} {ρ : List Addr} {h : List O} {E : XK} {vs : List V} {ws : List W} {Q : VK}
theorem HR.last (hr : HR K G H ρ h) {p : Addr} : (ρ ++ [p])[h.length]? = some p := by rw [← hr.len]; simp
/-- a new tuple -/
theorem new_tup (hr : HR K G H ρ h) (r : VRs K H ρ vs ws) (p : Post K G E (VRel K) Q H ρ (.ok (.tup ws) h)) : ∀ t, H t = none → Q (.ref t) (upd H t (.tup vs)) := fun t ht => by
  obtain ⟨r1, x1⟩ := hr.other (o := .tup vs) ht
  refine p ρ _ _ x1 r1 ?_
  show VR K _ ρ _ (.tup ws)
  unfold VR
  exact ⟨t, vs, rfl, .inl (.inl upd_same), r.mono x1⟩
/-- a new list -/
theorem new_lst (hr : HR K G H ρ h) (r : VRs K H ρ vs ws) (p : Post K G E (VRel K) Q H ρ (.ok (.ref h.length) (h ++ [.lst ws]))) : ∀ t, H t = none → Q (.ref t) (upd H t (.lst vs)) := fun t ht => by
  obtain ⟨r1, x1⟩ := hr.new (o := .lst vs) (u := .lst ws) ht rfl fun x => ⟨vs, upd_same, r.mono x⟩
  refine p _ _ _ x1 r1 ?_
  show VR K _ _ _ (.ref h.length)
  unfold VR
  exact ⟨t, rfl, hr.last⟩
end
theorem se_tup {es : List Expr} {mr : M (List W)} {x1 : Nat} (h : SA G X es mr) : SE G X (.Tuple es x1 pos) (mTup mr) := fun Wx tk =>
  (pe_tup (h Wx tk)).imp fun σ H Q p => rd.bnd (Rel := VsRel X.K) p fun H0 ρ0 e sr x H1 ρ1 h1 wx x1 r1 vx p1 => by
    split at p1
    · rename_i hl
      exact ⟨by rw [vx.length]; exact lim_size hl, new_tup r1 vx p1⟩
    · exact p1.elim
theorem se_lst {es : List Expr} {mr : M (List W)} (h : SA G X es mr) : SE G X (.List es pos) (mLst mr) := fun Wx tk =>
  (pe_lst (h Wx tk)).imp fun σ H Q p => rd.bnd (Rel := VsRel X.K) p fun H0 ρ0 e sr x H1 ρ1 h1 wx x1 r1 vx p1 => by
    split at p1
    · rename_i hl
      exact ⟨by rw [vx.length]; exact lim_size hl, new_lst r1 vx p1⟩
    · exact p1.elim
end
end Den
set_option maxRecDepth 100000
/-! Operators, comparisons, subscripts, slices. -/
namespace Den
open PySem L2 PyProof.Rows
def lstAt (h : List O) (n : Nat) : Option (List W) := match h[n]? with
  | some (.lst xs) => some xs
  | _ => none
def dicAt (h : List O) (n : Nat) : Option (List (W × W)) := match h[n]? with
  | some (.dic xs) => some xs
  | _ => none
def insAt (h : List O) (n : Nat) : Option (Nat × List (Str × W)) := match h[n]? with
  | some (.ins c fs) => some (c, fs)
  | _ => none
theorem lstAt_some {h : List O} {n : Nat} {xs : List W} (e : lstAt h n = some xs) : h[n]? = some (.lst xs) := by
  unfold lstAt at e
  split at e
  · rename_i ys hy
    cases e
    exact hy
  · cases e
theorem lstAt_nk {h : List O} {n : Nat} {xs : List W} (e : lstAt h n = some xs) : NoDik h n := fun kvs z => by rw [lstAt_some e] at z; cases z
theorem dicAt_some {h : List O} {n : Nat} {xs : List (W × W)} (e : dicAt h n = some xs) : h[n]? = some (.dic xs) := by
  unfold dicAt at e
  split at e
  · rename_i ys hy
    cases e
    exact hy
  · cases e
theorem dicAt_nk {h : List O} {n : Nat} {xs : List (W × W)} (e : dicAt h n = some xs) : NoDik h n := fun kvs z => by rw [dicAt_some e] at z; cases z
theorem insAt_some {h : List O} {n : Nat} {c : Nat} {xs : List (Str × W)} (e : insAt h n = some (c, xs)) : h[n]? = some (.ins c xs) := by
  unfold insAt at e
  split at e
  · rename_i ys zs hy
    cases e
    exact hy
  · cases e
/-- a list's items -/
def sqL (w : W) (h : List O) : Option (List W) := match w with
  | .rol xs => some xs
  | .ref n => lstAt h n
  | _ => none
def sqT (w : W) : Option (List W) := match w with
  | .tup xs => some xs
  | _ => none
def sqA (w : W) (h : List O) : Option (List W) := match w with
  | .tup xs => some xs
  | .rol xs => some xs
  | .ref n => lstAt h n
  | _ => none
section
variable {K : PySem.W.Frag} {G : Gx} {H : Hp} {ρ : List Addr} {h : List O} {v : V} {w : W} {xs : List W}
theorem sqL_ok (hr : HR K G H ρ h) (r : VR K H ρ v w) (e : sqL w h = some xs) : ∃ a vs, v = .ref a ∧ SqL K H a vs ∧ VRs K H ρ vs xs := by
  cases w with
  | rol ys =>
    cases e
    unfold VR at r
    obtain ⟨a, vs, e, q, z⟩ := r
    refine ⟨a, vs, e, ?_, z⟩
    rcases q with q | q
    · exact .inl q.1
    · exact q H
  | ref n =>
    unfold VR at r
    obtain ⟨a, e2, ha⟩ := r
    obtain ⟨vs, q, z⟩ := hr.look ha (lstAt_some e)
    exact ⟨a, vs, e2, .inl (.inl q), z⟩
  | _ => cases e
theorem sqT_ok (r : VR K H ρ v w) (e : sqT w = some xs) : ∃ a vs, v = .ref a ∧ SqT K H a vs ∧ VRs K H ρ vs xs := by
  cases w with
  | tup ys =>
    cases e
    unfold VR at r
    exact r
  | _ => cases e
theorem sqA_ok (hr : HR K G H ρ h) (r : VR K H ρ v w) (e : sqA w h = some xs) : ∃ a vs, v = .ref a ∧ (SqL K H a vs ∨ SqT K H a vs) ∧ VRs K H ρ vs xs := by
  cases w with
  | tup ys =>
    cases e
    unfold VR at r
    obtain ⟨a, vs, e, q, z⟩ := r
    exact ⟨a, vs, e, .inr q, z⟩
  | rol ys =>
    obtain ⟨a, vs, e, q, z⟩ := sqL_ok hr r (w := .rol ys) e
    exact ⟨a, vs, e, .inl q, z⟩
  | ref n =>
    obtain ⟨a, vs, e, q, z⟩ := sqL_ok hr r (w := .ref n) e
    exact ⟨a, vs, e, .inl q, z⟩
  | _ => cases e
theorem VR.int {i : Int} (r : VR K H ρ v (.int i)) : v = .int i := by unfold VR at r; exact r
theorem VR.bl {i : Bool} (r : VR K H ρ v (.bl i)) : v = .bl i := by unfold VR at r; exact r
theorem VR.non (r : VR K H ρ v .non) : v = .non := by unfold VR at r; exact r
theorem VR.str {l : List Nat} (r : VR K H ρ v (.str l)) : v = .str ⟨l.toArray⟩ := by unfold VR at r; exact r
theorem VR.ref {n : Nat} (r : VR K H ρ v (.ref n)) : ∃ a, v = .ref a ∧ ρ[n]? = some a := by unfold VR at r; exact r
theorem vr_int {i : Int} : VR K H ρ (.int i) (.int i) := by unfold VR; rfl
theorem vr_bl {i : Bool} : VR K H ρ (.bl i) (.bl i) := by unfold VR; rfl
theorem vr_non : VR K H ρ .non .non := by unfold VR; rfl
theorem vr_str {l : List Nat} : VR K H ρ (.str ⟨l.toArray⟩) (.str l) := by unfold VR; rfl
theorem vr_str' {l : List Nat} {x : Str} (e : x = ⟨l.toArray⟩) : VR K H ρ (.str x) (.str l) := by unfold VR; rw [e]
/-- the plain end -/
theorem Post.here {E : XK} {α β : Type} {Rel : Hp → List Addr → β → α → Prop} {Q : β → Hp → Prop} {b : β} {a : α} (hr : HR K G H ρ h) (p : Post K G E Rel Q H ρ (.ok a h)) (r : Rel H ρ b a) : Q b H := p ρ H b (Ext.refl hr) hr r
end
theorem Str_length (l : List Nat) : (Str.length ⟨l.toArray⟩) = l.length := by show l.toArray.size = l.length; simp
theorem Str_app (a b : List Nat) : (⟨a.toArray⟩ ++ ⟨b.toArray⟩ : Str) = ⟨(a ++ b).toArray⟩ := by
  show (⟨a.toArray ++ b.toArray⟩ : Str) = _
  simp
theorem len_le {l : List Nat} (h : l.length ≤ lim) : Str.length ⟨l.toArray⟩ ≤ sizeLine := by rw [Str_length]; exact lim_size h

/-! ### + -/
def oAdd (x y : W) (h : List O) : Out W := match x, y with
  | .int i, .int j => .ok (.int (i + j)) h
  | .int i, .bl b => .ok (.int (i + if b then 1 else 0)) h
  | .str a, .str b => if a.length + b.length ≤ lim then .ok (.str (a ++ b)) h else .bad
  | .tup a, .tup b => if a.length + b.length ≤ lim then .ok (.tup (a ++ b)) h else .bad
  | .ref n, .ref m => match lstAt h n, lstAt h m with
    | some a, some b => if a.length + b.length ≤ lim then .ok (.ref h.length) (h ++ [.lst (a ++ b)]) else .bad
    | _, _ => .bad
  | _, _ => .bad
section
variable {G : Gx} {X : Cx}
theorem vr_tup {K : PySem.W.Frag} {H : Hp} {ρ : List Addr} {a : Addr} {vs : List V} {ws : List W} (h : SqT K H a vs) (r : VRs K H ρ vs ws) : VR K H ρ (.ref a) (.tup ws) := by unfold VR; exact ⟨a, vs, rfl, h, r⟩
theorem ops_add : OpS G X (binaryOp .Add) oAdd := ⟨_, OpR.or op_add (OpR.or op_add_str (OpR.or op_catA (OpR.or op_cat op_add_ib))), fun E H ρ h x y wx wy Q hr rx ry p => by
  unfold oAdd at p
  split at p
  · exact .inl ⟨_, _, rx.int, ry.int, p.here hr vr_int⟩
  · exact .inr (.inr (.inr (.inr ⟨_, _, rx.int, ry.bl, p.here hr vr_int⟩)))
  · rename_i a b
    split at p
    · rename_i hl
      exact .inr (.inl ⟨_, _, rx.str, ry.str, by rw [Str_length, Str_length]; exact lim_size hl, p.here hr (vr_str' (Str_app a b))⟩)
    · exact False.elim p
  · rename_i a b
    split at p
    · rename_i hl
      unfold VR at rx ry
      obtain ⟨a1, v1, rfl, q1, z1⟩ := rx
      obtain ⟨a2, v2, rfl, q2, z2⟩ := ry
      refine .inr (.inr (.inl ⟨a1, a2, v1, v2, rfl, rfl, q1, q2, by rw [z1.length, z2.length]; exact lim_size hl, fun e => ?_, fun e e2 => ?_, fun e e2 => ?_⟩))
      · subst e
        cases a with
        | nil => exact p.here hr (vr_tup q2 z2)
        | cons y l => have := z1.length; simp at this
      · subst e2
        cases b with
        | nil => exact p.here hr (vr_tup q1 (by rw [List.append_nil]; exact z1))
        | cons y l => have := z2.length; simp at this
      · exact new_tup hr (z1.append z2) p
    · exact False.elim p
  · rename_i n m
    split at p
    · rename_i a b ha hb
      split at p
      · rename_i hl
        obtain ⟨a1, rfl, e1⟩ := rx.ref
        obtain ⟨a2, rfl, e2⟩ := ry.ref
        obtain ⟨v1, q1, z1⟩ := hr.look e1 (lstAt_some ha)
        obtain ⟨v2, q2, z2⟩ := hr.look e2 (lstAt_some hb)
        exact .inr (.inr (.inr (.inl ⟨a1, a2, v1, v2, rfl, rfl, q1, q2, by rw [z1.length, z2.length]; exact lim_size hl, new_lst hr (z1.append z2) p⟩)))
      · exact False.elim p
    · exact False.elim p
  · exact False.elim p⟩

/-! ### -, *, //, %, ** of ints; a list times an int -/
def oSub (x y : W) (h : List O) : Out W := match x, y with
  | .int i, .int j => .ok (.int (i - j)) h
  | _, _ => .bad
theorem ops_sub : OpS G X (binaryOp .Sub) oSub := ⟨_, op_sub, fun E H ρ h x y wx wy Q hr rx ry p => by
  unfold oSub at p
  split at p
  · exact ⟨_, _, rx.int, ry.int, p.here hr vr_int⟩
  · exact False.elim p⟩
def mulOk (i j : Int) : Bool := decide (i.natAbs.log2 + j.natAbs.log2 < 100000000)
theorem mulOk_ok {i j : Int} (h : mulOk i j = true) : IntMulOk i j := by
  have b : ∀ x : Int, Builtin.Int.intBits x ≤ x.natAbs.log2 + 1 := fun x => by
    unfold Builtin.Int.intBits
    split <;> omega
  have h1 := b i
  have h2 := b j
  have h3 : i.natAbs.log2 + j.natAbs.log2 < 100000000 := of_decide_eq_true h
  have e : bitsLine = 134217728 := by decide
  unfold IntMulOk
  intro z
  rw [Bool.and_eq_true] at z
  have z2 := z.2
  unfold Builtin.Int.intTooBig at z2
  have z3 := of_decide_eq_true z2
  rw [e] at z3
  omega
theorem op_mulX : OpR X (binaryOp .Mult) (rI (fun i j => mulOk i j = true) fun i j => .int (i * j)) := opI fun _ _ _ _ _ _ _ hc q => PyProof.Rows.mul_int q (mulOk_ok hc)
theorem iop_mulX : OpR X (inplaceOp .Mult) (rI CMul fun i j => .int (i * j)) := iop_mul
def oMul (x y : W) (h : List O) : Out W := match x, y with
  | .int i, .int j => if mulOk i j = true then .ok (.int (i * j)) h else .bad
  | .ref n, .int k => match lstAt h n with
    | some a => if -(2 ^ 63) ≤ k ∧ k < 2 ^ 63 ∧ a.length * k.toNat ≤ lim then .ok (.ref h.length) (h ++ [.lst (List.replicate k.toNat a).flatten]) else .bad
    | _ => .bad
  | _, _ => .bad
theorem VRs.rep {K : PySem.W.Frag} {H : Hp} {ρ : List Addr} {vs : List V} {ws : List W} (r : VRs K H ρ vs ws) : ∀ n : Nat, VRs K H ρ (List.replicate n vs).flatten (List.replicate n ws).flatten
  | 0 => .nil
  | n + 1 => by
    rw [List.replicate_succ, List.replicate_succ, List.flatten_cons, List.flatten_cons]
    exact r.append (VRs.rep r n)
theorem ops_mul : OpS G X (binaryOp .Mult) oMul := ⟨_, OpR.or op_mulX op_rep, fun E H ρ h x y wx wy Q hr rx ry p => by
  unfold oMul at p
  split at p
  · split at p
    · rename_i hc
      exact .inl ⟨_, _, rx.int, ry.int, hc, p.here hr vr_int⟩
    · exact False.elim p
  · split at p
    · rename_i a ha
      split at p
      · rename_i hl
        obtain ⟨a1, rfl, e1⟩ := rx.ref
        obtain ⟨v1, q1, z1⟩ := hr.look e1 (lstAt_some ha)
        exact .inr ⟨a1, _, v1, rfl, ry.int, q1, hl.1, hl.2.1, by rw [z1.length]; exact lim_size hl.2.2, new_lst hr (z1.rep _) p⟩
      · exact False.elim p
    · exact False.elim p
  · exact False.elim p⟩
def oFdiv (x y : W) (h : List O) : Out W := match x, y with
  | .int i, .int j => if 0 < j ∧ j.natAbs.log2 < 9000 then .ok (.int (i / j)) h else .bad
  | _, _ => .bad
theorem ops_fdiv : OpS G X (binaryOp .FloorDiv) oFdiv := ⟨_, op_fdivW, fun E H ρ h x y wx wy Q hr rx ry p => by
  unfold oFdiv at p
  split at p
  · split at p
    · rename_i hc
      exact ⟨_, _, rx.int, ry.int, hc, p.here hr vr_int⟩
    · exact False.elim p
  · exact False.elim p⟩
def oMod (x y : W) (h : List O) : Out W := match x, y with
  | .int i, .int j => if 0 < j then .ok (.int (i % j)) h else .bad
  | _, _ => .bad
theorem ops_mod : OpS G X (binaryOp .Mod) oMod := ⟨_, op_mod, fun E H ρ h x y wx wy Q hr rx ry p => by
  unfold oMod at p
  split at p
  · split at p
    · rename_i hc
      exact ⟨_, _, rx.int, ry.int, hc, p.here hr vr_int⟩
    · exact False.elim p
  · exact False.elim p⟩
def oPow (x y : W) (h : List O) : Out W := match x, y with
  | .int i, .int j => if 0 ≤ j ∧ j ≤ 1000 ∧ i.natAbs < 1000 then .ok (.int (i ^ j.toNat)) h else .bad
  | _, _ => .bad
theorem ops_pow : OpS G X (binaryOp .Pow) oPow := ⟨_, op_pow, fun E H ρ h x y wx wy Q hr rx ry p => by
  unfold oPow at p
  split at p
  · split at p
    · rename_i hc
      exact ⟨_, _, rx.int, ry.int, ⟨hc.1, by have := hc.2.1; omega, by have := hc.2.2; have e : (1000 : Nat) < 2 ^ 64 := (by decide); omega⟩, p.here hr vr_int⟩
    · exact False.elim p
  · exact False.elim p⟩
def oNeg (x : W) (h : List O) : Out W := match x with
  | .int i => .ok (.int (-i)) h
  | _ => .bad
theorem uns_neg : UnS G X (unaryOp .USub) oNeg := ⟨_, un_neg, fun E H ρ h x wx Q hr rx p => by
  unfold oNeg at p
  split at p
  · exact ⟨_, rx.int, p.here hr vr_int⟩
  · exact False.elim p⟩

/-! ### == and != -/
/-- what a value is as data, n deep -/
def strFit (s : List Nat) : Bool := s.all fun c => decide (c < 1114112)
def mapO {α β : Type} (f : α → Option β) : List α → Option (List β)
  | [] => some []
  | x :: xs => match f x with
    | some y => match mapO f xs with
      | some ys => some (y :: ys)
      | none => none
    | none => none
def dat (h : List O) : Nat → W → Option PyData
  | 0, _ => none
  | n + 1, .non => some .none
  | n + 1, .bl b => some (.bool b)
  | n + 1, .int i => some (.int i)
  | n + 1, .str s => if strFit s = true then some (.str ⟨s.toArray⟩) else none
  | n + 1, .tup xs => (mapO (dat h n) xs).map .tuple
  | n + 1, .rol xs => (mapO (dat h n) xs).map .list
  | n + 1, .ref k => (lstAt h k).bind fun xs => (mapO (dat h n) xs).map .list
theorem mapO_dp {K : PySem.W.Frag} {H : Hp} {ρ : List Addr} {f : W → Option PyData} (hf : ∀ v w d, VR K H ρ v w → f w = some d → Dp K H v d) : ∀ {ws : List W} {vs : List V} {ds : List PyData}, VRs K H ρ vs ws → mapO f ws = some ds → DpAll K H vs ds
  | [], vs, ds, r, e => by
    unfold VRs at r
    cases e
    rw [r]
    exact .nil
  | w :: ws, vs, ds, r, e => by
    unfold VRs at r
    obtain ⟨v, l, rfl, q, z⟩ := r
    unfold mapO at e
    split at e
    · rename_i d hd
      split at e
      · rename_i ds' hds
        cases e
        exact .cons (hf v w d q hd) (mapO_dp hf z hds)
      · cases e
    · cases e
theorem dat_dp {K : PySem.W.Frag} {H : Hp} {ρ : List Addr} {h : List O} (hr : HR K G H ρ h) : ∀ (n : Nat) (v : V) (w : W) (d : PyData), VR K H ρ v w → dat h n w = some d → Dp K H v d
  | 0, v, w, d, r, e => by cases e
  | n + 1, v, .non, d, r, e => by cases e; rw [r.non]; exact .non
  | n + 1, v, .bl b, d, r, e => by cases e; rw [r.bl]; exact .bl b
  | n + 1, v, .int i, d, r, e => by cases e; rw [r.int]; exact .int i
  | n + 1, v, .str s, d, r, e => by
    unfold dat at e
    split at e
    · cases e; rw [r.str]; exact .str _
    · cases e
  | n + 1, v, .tup xs, d, r, e => by
    unfold dat at e
    obtain ⟨a, vs, rfl, q, z⟩ := sqT_ok (xs := xs) r rfl
    cases hm : mapO (dat h n) xs with
    | none => rw [hm] at e; cases e
    | some ds =>
      rw [hm] at e
      cases e
      exact .tup q (mapO_dp (fun v w d => dat_dp hr n v w d) z hm)
  | n + 1, v, .rol xs, d, r, e => by
    unfold dat at e
    obtain ⟨a, vs, rfl, q, z⟩ := sqL_ok (xs := xs) hr r rfl
    cases hm : mapO (dat h n) xs with
    | none => rw [hm] at e; cases e
    | some ds =>
      rw [hm] at e
      cases e
      exact .lst q (mapO_dp (fun v w d => dat_dp hr n v w d) z hm)
  | n + 1, v, .ref k, d, r, e => by
    unfold dat at e
    cases hl : lstAt h k with
    | none => rw [hl] at e; cases e
    | some xs =>
      rw [hl] at e
      obtain ⟨a, vs, rfl, q, z⟩ := sqL_ok (w := .ref k) (xs := xs) hr r hl
      cases hm : mapO (dat h n) xs with
      | none => simp only [Option.bind, hm] at e; cases e
      | some ds =>
        simp only [Option.bind, hm] at e
        cases e
        exact .lst q (mapO_dp (fun v w d => dat_dp hr n v w d) z hm)
theorem mapO_lay {f : W → Option PyData} (hf : ∀ w d, f w = some d → d.canLay0 = true) : ∀ {ws : List W} {ds : List PyData}, mapO f ws = some ds → PyData.canLayAll0 ds = true
  | [], ds, e => by cases e; rfl
  | w :: ws, ds, e => by
    unfold mapO at e
    split at e
    · rename_i d hd
      split at e
      · rename_i ds' hds
        cases e
        unfold PyData.canLayAll0
        rw [hf w d hd, mapO_lay hf hds]
        rfl
      · cases e
    · cases e
theorem mapO_depth {f : W → Option PyData} {n : Nat} (hf : ∀ w d, f w = some d → d.depth ≤ n) : ∀ {ws : List W} {ds : List PyData}, mapO f ws = some ds → PyData.depthAll ds ≤ n
  | [], ds, e => by cases e; exact Nat.zero_le _
  | w :: ws, ds, e => by
    unfold mapO at e
    split at e
    · rename_i d hd
      split at e
      · rename_i ds' hds
        cases e
        unfold PyData.depthAll
        exact Nat.max_le.mpr ⟨hf w d hd, mapO_depth hf hds⟩
      · cases e
    · cases e
theorem strOk_fit {s : List Nat} (h : strFit s = true) : PyData.strOk ⟨s.toArray⟩ = true := by
  unfold PyData.strOk
  unfold strFit at h
  simpa using h
theorem dat_lay {h : List O} : ∀ (n : Nat) (w : W) (d : PyData), dat h n w = some d → d.canLay0 = true ∧ d.depth ≤ n
  | 0, w, d, e => by cases e
  | n + 1, .non, d, e => by cases e; exact ⟨rfl, by unfold PyData.depth; omega⟩
  | n + 1, .bl b, d, e => by cases e; exact ⟨rfl, by unfold PyData.depth; omega⟩
  | n + 1, .int i, d, e => by cases e; exact ⟨rfl, by unfold PyData.depth; omega⟩
  | n + 1, .str s, d, e => by
    unfold dat at e
    split at e
    · rename_i hs
      cases e; exact ⟨by unfold PyData.canLay0; exact strOk_fit hs, by unfold PyData.depth; omega⟩
    · cases e
  | n + 1, .tup xs, d, e => by
    unfold dat at e
    cases hm : mapO (dat h n) xs with
    | none => rw [hm] at e; cases e
    | some ds =>
      rw [hm] at e
      cases e
      have h1 := mapO_lay (fun w d e => (dat_lay n w d e).1) hm
      have h2 := mapO_depth (fun w d e => (dat_lay n w d e).2) hm
      exact ⟨by unfold PyData.canLay0; exact h1, by unfold PyData.depth; omega⟩
  | n + 1, .rol xs, d, e => by
    unfold dat at e
    cases hm : mapO (dat h n) xs with
    | none => rw [hm] at e; cases e
    | some ds =>
      rw [hm] at e
      cases e
      have h1 := mapO_lay (fun w d e => (dat_lay n w d e).1) hm
      have h2 := mapO_depth (fun w d e => (dat_lay n w d e).2) hm
      exact ⟨by unfold PyData.canLay0; exact h1, by unfold PyData.depth; omega⟩
  | n + 1, .ref k, d, e => by
    unfold dat at e
    cases hl : lstAt h k with
    | none => rw [hl] at e; cases e
    | some xs =>
      rw [hl] at e
      cases hm : mapO (dat h n) xs with
      | none => simp only [Option.bind, hm] at e; cases e
      | some ds =>
        simp only [Option.bind, hm] at e
        cases e
        have h1 := mapO_lay (fun w d e => (dat_lay n w d e).1) hm
        have h2 := mapO_depth (fun w d e => (dat_lay n w d e).2) hm
        exact ⟨by unfold PyData.canLay0; exact h1, by unfold PyData.depth; omega⟩
theorem dat_shaped {h : List O} {w : W} {d : PyData} (e : dat h 8 w = some d) : SeqAt.shaped d = true := by
  obtain ⟨h1, h2⟩ := dat_lay 8 w d e
  unfold SeqAt.shaped
  rw [h1, Bool.true_and]
  exact decide_eq_true (Nat.le_trans h2 (by decide))
/-- == of two values: none where we can't tell -/
def eqW (h : List O) (x y : W) : Option Bool := match x, y with
  | .int i, .int j => some (i == j)
  | .str a, .str b => some (a == b)
  | .bl a, .bl b => some (a == b)
  | .non, .non => some true
  | .non, .int _ => some false
  | .int _, .non => some false
  | .non, .str _ => some false
  | .str _, .non => some false
  | x, y => match dat h 8 x, dat h 8 y with
    | some d, some e => some (PyData.eqv d e)
    | _, _ => none
def oEq (x y : W) (h : List O) : Out W := match eqW h x y with
  | some b => .ok (.bl b) h
  | none => .bad
def oNe (x y : W) (h : List O) : Out W := match eqW h x y with
  | some b => .ok (.bl !b) h
  | none => .bad
theorem str_eq_dec (a b : List Nat) : decide (V.str ⟨a.toArray⟩ = V.str ⟨b.toArray⟩) = (a == b) := by
  by_cases e : a = b
  · subst e; simp
  · rw [decide_eq_false, beq_eq_false_iff_ne.mpr e]
    intro z
    apply e
    have z1 : (⟨a.toArray⟩ : Str) = ⟨b.toArray⟩ := V.str.inj z
    have z2 : a.toArray = b.toArray := congrArg Str.cps z1
    simpa using congrArg Array.toList z2
theorem eqW_ok {K : PySem.W.Frag} {H : Hp} {ρ : List Addr} {h : List O} {x y : V} {wx wy : W} {b : Bool} (hr : HR K G H ρ h) (rx : VR K H ρ x wx) (ry : VR K H ρ y wy) (e : eqW h wx wy = some b) :
    (scal x y = true ∧ decide (x = y) = b) ∨ ∃ d d', Dp K H x d ∧ Dp K H y d' ∧ SeqAt.shaped d = true ∧ SeqAt.shaped d' = true ∧ PyData.eqv d d' = b := by
  unfold eqW at e
  split at e
  · cases e; rw [rx.int, ry.int]; refine .inl ⟨rfl, ?_⟩
    simp [Bool.beq_eq_decide_eq]
  · cases e; rw [rx.str, ry.str]; exact .inl ⟨rfl, str_eq_dec _ _⟩
  · cases e; rw [rx.bl, ry.bl]; refine .inl ⟨rfl, ?_⟩
    simp [Bool.beq_eq_decide_eq]
  · cases e; rw [rx.non, ry.non]; exact .inl ⟨rfl, decide_eq_true rfl⟩
  · cases e; rw [rx.non, ry.int]; exact .inl ⟨rfl, decide_eq_false (by intro z; cases z)⟩
  · cases e; rw [rx.int, ry.non]; exact .inl ⟨rfl, decide_eq_false (by intro z; cases z)⟩
  · cases e; rw [rx.non, ry.str]; exact .inl ⟨rfl, decide_eq_false (by intro z; cases z)⟩
  · cases e; rw [rx.str, ry.non]; exact .inl ⟨rfl, decide_eq_false (by intro z; cases z)⟩
  · split at e
    · rename_i d d' hd hd'
      cases e
      exact .inr ⟨d, d', dat_dp hr 8 _ _ _ rx hd, dat_dp hr 8 _ _ _ ry hd', dat_shaped hd, dat_shaped hd', rfl⟩
    · cases e
theorem ops_eq (hu : X.A.units + 64 < cLine) : OpS G X (compareOp .Eq) oEq := ⟨_, OpR.or op_eq (op_eqD hu), fun E H ρ h x y wx wy Q hr rx ry p => by
  unfold oEq at p
  split at p
  · rename_i b hb
    have q : Q (.bl b) H := p.here hr vr_bl
    rcases eqW_ok hr rx ry hb with ⟨h1, h2⟩ | ⟨d, d', h1, h2, h3, h4, h5⟩
    · exact .inl ⟨h1, by rw [h2]; exact q⟩
    · exact .inr ⟨d, d', h1, h2, h3, h4, by rw [h5]; exact q⟩
  · exact False.elim p⟩
theorem ops_ne (hu : X.A.units + 64 < cLine) : OpS G X (compareOp .NotEq) oNe := ⟨_, OpR.or op_ne (op_neD hu), fun E H ρ h x y wx wy Q hr rx ry p => by
  unfold oNe at p
  split at p
  · rename_i b hb
    have q : Q (.bl !b) H := p.here hr vr_bl
    rcases eqW_ok hr rx ry hb with ⟨h1, h2⟩ | ⟨d, d', h1, h2, h3, h4, h5⟩
    · exact .inl ⟨h1, by rw [h2]; exact q⟩
    · exact .inr ⟨d, d', h1, h2, h3, h4, by rw [h5]; exact q⟩
  · exact False.elim p⟩

/-! ### the order of ints and of texts -/
def oLt (x y : W) (h : List O) : Out W := match x, y with
  | .int i, .int j => .ok (.bl (decide (i < j))) h
  | .str a, .str b => .ok (.bl (decide (a < b))) h
  | _, _ => .bad
def oLe (x y : W) (h : List O) : Out W := match x, y with
  | .int i, .int j => .ok (.bl (decide (i ≤ j))) h
  | .str a, .str b => .ok (.bl (!decide (b < a))) h
  | _, _ => .bad
def oGt (x y : W) (h : List O) : Out W := match x, y with
  | .int i, .int j => .ok (.bl (decide (j < i))) h
  | .str a, .str b => .ok (.bl (decide (b < a))) h
  | _, _ => .bad
def oGe (x y : W) (h : List O) : Out W := match x, y with
  | .int i, .int j => .ok (.bl (decide (j ≤ i))) h
  | .str a, .str b => .ok (.bl (!decide (a < b))) h
  | _, _ => .bad
theorem ops_lt : OpS G X (compareOp .Lt) oLt := ⟨_, OpR.or op_lt op_lt_str, fun E H ρ h x y wx wy Q hr rx ry p => by
  unfold oLt at p
  split at p
  · exact .inl ⟨_, _, rx.int, ry.int, p.here hr vr_bl⟩
  · exact .inr ⟨_, _, rx.str, ry.str, p.here hr vr_bl⟩
  · exact False.elim p⟩
theorem ops_le : OpS G X (compareOp .LtE) oLe := ⟨_, OpR.or op_le op_le_str, fun E H ρ h x y wx wy Q hr rx ry p => by
  unfold oLe at p
  split at p
  · exact .inl ⟨_, _, rx.int, ry.int, p.here hr vr_bl⟩
  · exact .inr ⟨_, _, rx.str, ry.str, p.here hr vr_bl⟩
  · exact False.elim p⟩
theorem ops_gt : OpS G X (compareOp .Gt) oGt := ⟨_, OpR.or op_gt op_gt_str, fun E H ρ h x y wx wy Q hr rx ry p => by
  unfold oGt at p
  split at p
  · exact .inl ⟨_, _, rx.int, ry.int, p.here hr vr_bl⟩
  · exact .inr ⟨_, _, rx.str, ry.str, p.here hr vr_bl⟩
  · exact False.elim p⟩
theorem ops_ge : OpS G X (compareOp .GtE) oGe := ⟨_, OpR.or op_ge op_ge_str, fun E H ρ h x y wx wy Q hr rx ry p => by
  unfold oGe at p
  split at p
  · exact .inl ⟨_, _, rx.int, ry.int, p.here hr vr_bl⟩
  · exact .inr ⟨_, _, rx.str, ry.str, p.here hr vr_bl⟩
  · exact False.elim p⟩
end
end Den
set_option maxRecDepth 100000
/-! Subscripts, slices, stores, built-ins, methods, calls of defs. -/
namespace Den
open PySem L2 PyProof.Rows
section
variable {K : PySem.W.Frag} {G : Gx} {H : Hp} {ρ : List Addr} {h : List O}
theorem VRs.atI {vs : List V} {ws : List W} {i : Int} {w : W} (r : VRs K H ρ vs ws) (e : L2.atI ws i = some w) : ∃ v, L2.atI vs i = some v ∧ VR K H ρ v w := by
  unfold L2.atI at e ⊢
  rw [r.length]
  cases hx : ixN ws.length i with
  | none => rw [hx] at e; cases e
  | some j =>
    rw [hx] at e
    exact r.get e
end
def oIx (x y : W) (h : List O) : Out W := match y with
  | .int i => match x with
    | .str s => if s.length ≤ lim then match L2.atI s i with
      | some c => .ok (.str [c]) h
      | none => .bad else .bad
    | x => match sqA x h with
      | some xs => match L2.atI xs i with
        | some w => .ok w h
        | none => .bad
      | none => .bad
  | _ => .bad
def cutW {α : Type} (xs : List α) (lo hi : Option Int) : List α := (xs.drop (HT.sIx xs.length 0 lo)).take (HT.sIx xs.length xs.length hi - HT.sIx xs.length 0 lo)
def oSl (x : W) (lo hi : Option Int) (h : List O) : Out W := match x with
  | .str s => if s.length ≤ lim then .ok (.str (cutW s lo hi)) h else .bad
  | .tup xs => .ok (.tup (cutW xs lo hi)) h
  | x => match sqL x h with
    | some xs => .ok (.ref h.length) (h ++ [.lst (cutW xs lo hi)])
    | none => .bad
def mPart (m : M W) : M (Option Int) := fun e h => (m e h).bnd fun w h => match w with
  | .int i => .ok (some i) h
  | _ => .bad
def mNoPart : M (Option Int) := fun _ h => .ok none h
def mSl (m : M W) (lo hi : M (Option Int)) : M W := fun e h => (m e h).bnd fun x h => (lo e h).bnd fun l h => (hi e h).bnd fun u h => oSl x l u h
abbrev ORel : Hp → List Addr → Option Int → Option Int → Prop := fun _ _ a b => a = b
def SO (G : Gx) (X : Cx) (o : Option Expr) (m : M (Option Int)) : Prop := ∀ Wx, Takes X Wx → PO X o (rd X.K G Wx ORel m)
theorem _root_.L2.PO.imp {X : Cx} {e : Option Expr} {t t' : TO} (p : PO X e t) (i : ∀ σ H Q, t' σ H Q → t σ H Q) : PO X e t' := ⟨fun pins s σ H Q I q => p.run pins s σ H Q I (i σ H Q q)⟩
section
variable {G : Gx} {X : Cx} {a b c e : Expr} {ma mb mc m : M W} {pos p2 : Pos}
theorem ix_serves : Serves2 X.K G oIx (rIx X.K) := fun E H ρ h x y wx wy Q hr rx ry p => by
  unfold oIx at p
  split at p
  · rename_i i
    split at p
    · rename_i s
      split at p
      · rename_i hl
        split at p
        · rename_i cc hc
          exact .inr (.inr ⟨_, i, cc, rx.str, ry.int, len_le hl, by simpa using hc, p.here hr (vr_str' (l := [cc]) rfl)⟩)
        · exact False.elim p
      · exact False.elim p
    · split at p
      · rename_i xs hx
        split at p
        · rename_i w hw
          obtain ⟨a, vs, rfl, q, z⟩ := sqA_ok hr rx hx
          obtain ⟨v, hv, rv⟩ := z.atI hw
          rcases q with q | q
          · exact .inl ⟨a, vs, i, v, rfl, ry.int, q, hv, p.here hr rv⟩
          · exact .inr (.inl ⟨a, vs, i, v, rfl, ry.int, q, hv, p.here hr rv⟩)
        · exact False.elim p
      · exact False.elim p
  · exact False.elim p
theorem se_ix (ha : SE G X a ma) (hb : SE G X b mb) (hs : PlainIx b := by exact fun _ _ => rfl) : SE G X (.Subscript a b pos) (mOp oIx ma mb) := fun Wx tk =>
  (pe_ix ix_seq (ha Wx tk) (hb Wx tk) hs).imp fun σ H Q p => rd_op ix_serves p
theorem so_none : SO G X none mNoPart := fun Wx tk => po_none.imp fun σ H Q p => by
  obtain ⟨ρ, e, h, hr, sr, p⟩ := p
  exact p.here hr rfl
theorem so_some (ha : SE G X a ma) : SO G X (some a) (mPart ma) := fun Wx tk => (po_some (ha Wx tk)).imp fun σ H Q p => rd.bnd (Rel := VRel X.K) p fun H0 ρ0 e sr x H1 ρ1 h1 wx x1 r1 vx p1 => by
  split at p1
  · rename_i i
    exact ⟨i, vx.int, p1.here r1 rfl⟩
  · exact False.elim p1
theorem cutV_cut (vs : List V) (lo hi : Option Int) : cutV vs lo hi = cutW vs lo hi := rfl
theorem VRs.cut {K : PySem.W.Frag} {H : Hp} {ρ : List Addr} {vs : List V} {ws : List W} (r : VRs K H ρ vs ws) (lo hi : Option Int) : VRs K H ρ (cutV vs lo hi) (cutW ws lo hi) := by
  unfold cutV cutW
  rw [r.length]
  exact (r.drop _).take _
theorem cutS_cut (s : List Nat) (lo hi : Option Int) : cutS ⟨s.toArray⟩ lo hi = ⟨(cutW s lo hi).toArray⟩ := by
  unfold cutS cutW
  rw [Str_length]
def rSlAll (K : PySem.W.Frag) : V → Option Int → Option Int → Hp → VK → Prop := fun x lo hi H Q => rSlS x lo hi H Q ∨ (rSlA K x lo hi H Q ∨ rSlL K x lo hi H Q)
theorem sl_all : SlR X (rSlAll X.K) := SlR.or sl_str (SlR.or sl_tupA sl_list)
theorem sl_serves (E : XK) {H : Hp} {ρ : List Addr} {h : List O} {x : V} {wx : W} {lo hi : Option Int} {Q : VK} (hr : HR X.K G H ρ h) (rx : VR X.K H ρ x wx) (p : Post X.K G E (VRel X.K) Q H ρ (oSl wx lo hi h)) : rSlAll X.K x lo hi H Q := by
  unfold oSl at p
  split at p
  · rename_i s
    split at p
    · rename_i hl
      exact .inl ⟨_, rx.str, len_le hl, p.here hr (vr_str' (cutS_cut s lo hi))⟩
    · exact False.elim p
  · rename_i xs
    unfold VR at rx
    obtain ⟨a, vs, rfl, q, z⟩ := rx
    refine .inr (.inl ⟨a, vs, rfl, q, fun e => p.here hr (vr_tup q ?_), fun _ => new_tup hr (z.cut lo hi) p⟩)
    have e2 : cutV vs lo hi = vs := by
      unfold cutV
      rw [e.1, e.2]
      simp
    have := z.cut lo hi
    rw [e2] at this
    exact this
  · split at p
    · rename_i xs hx
      obtain ⟨a, vs, rfl, q, z⟩ := sqL_ok hr rx hx
      exact .inr (.inr ⟨a, vs, rfl, q, new_lst hr (z.cut lo hi) p⟩)
    · exact False.elim p
theorem se_sl {lo hi : Option Expr} {ml mh : M (Option Int)} (ha : SE G X a ma) (hl : SO G X lo ml) (hh : SO G X hi mh) : SE G X (.Subscript a (.Slice lo hi none p2) pos) (mSl ma ml mh) := fun Wx tk =>
  (pe_slice sl_all (ha Wx tk) (hl Wx tk) (hh Wx tk)).imp fun σ H Q p => rd.bnd (Rel := VRel X.K) p fun H0 ρ0 e sr x H1 ρ1 h1 wx x1 r1 vx p1 => by
    refine ⟨ρ1, e, h1, r1, sr.mono x1, (Post.bnd (Rel := ORel) p1).imp fun l H2 q => ?_⟩
    obtain ⟨ρ2, h2, wl, x2, r2, el, p2⟩ := q
    cases el
    refine ⟨ρ2, e, h2, r2, (sr.mono x1).mono x2, (Post.bnd (Rel := ORel) p2).imp fun u H3 q => ?_⟩
    obtain ⟨ρ3, h3, wu, x3, r3, eu, p3⟩ := q
    cases eu
    exact sl_serves _ r3 ((vx.mono x2).mono x3) p3

/-! ### calls of what is built in -/
def mCB (op : List W → List O → Out W) (m : M (List W)) : M W := fun e h => (m e h).bnd fun ws h => op ws h
def ServesC (K : PySem.W.Frag) (G : Gx) (op : List W → List O → Out W) (r : List V → Hp → VK → Prop) : Prop := ∀ (E : XK) (H : Hp) (ρ : List Addr) (h : List O) (vs : List V) (ws : List W) (Q : VK),
  HR K G H ρ h → VRs K H ρ vs ws → Post K G E (VRel K) Q H ρ (op ws h) → r vs H Q
def CaS (G : Gx) (X : Cx) (f : Value) (op : List W → List O → Out W) : Prop := ∃ r, CallR X f r ∧ ServesC X.K G op r
theorem se_callB {id : String} {x : Str} {es : List Expr} {op : List W → List O → Out W} {mr : M (List W)} {p : Pos} (s : CaS G X (.builtin id) op) (hg : Gl X x) (hm : X.mg x = none) (hv : bootBuiltins x = some (.builtin id)) (ha : SA G X (e :: es) mr)
    (hn : x ≠ "__name__" := by decide) (hdb : (x == ("__debug__" : Str)) = false := by decide)
    (he : starEach (e :: es) X.env = (false, eval e X.env) :: starEach es X.env := by rfl) (hpl : (backTo pos (starEach es X.env)).any (·.1) = false := by rfl) : SE G X (.Call (.Name x p) (e :: es) [] pos) (mCB op mr) := fun Wx tk => by
  obtain ⟨r, hc, s⟩ := s
  exact (pe_callB hc hg hm hv (ha Wx tk) hn hdb he hpl).imp fun σ H Q p => rd.bnd (Rel := VsRel X.K) p fun H0 ρ0 e sr x H1 ρ1 h1 wx x1 r1 vx p1 => s _ _ _ _ _ _ _ r1 vx p1
theorem se_callTy {T : String} {x : Str} {es : List Expr} {op : List W → List O → Out W} {mr : M (List W)} {p : Pos} (s : CaS G X (.type T) op) (hg : Gl X x) (hm : X.mg x = none) (hv : bootBuiltins x = some (.type T)) (ha : SA G X (e :: es) mr)
    (hn : x ≠ "__name__" := by decide) (hdb : (x == ("__debug__" : Str)) = false := by decide)
    (he : starEach (e :: es) X.env = (false, eval e X.env) :: starEach es X.env := by rfl) (hpl : (backTo pos (starEach es X.env)).any (·.1) = false := by rfl) : SE G X (.Call (.Name x p) (e :: es) [] pos) (mCB op mr) := fun Wx tk => by
  obtain ⟨r, hc, s⟩ := s
  exact (pe_callTy hc hg hm hv (ha Wx tk) hn hdb he hpl).imp fun σ H Q p => rd.bnd (Rel := VsRel X.K) p fun H0 ρ0 e sr x H1 ρ1 h1 wx x1 r1 vx p1 => s _ _ _ _ _ _ _ r1 vx p1
theorem VRs.inv1 {K : PySem.W.Frag} {H : Hp} {ρ : List Addr} {vs : List V} {w : W} (r : VRs K H ρ vs [w]) : ∃ v, vs = [v] ∧ VR K H ρ v w := by
  unfold VRs at r
  obtain ⟨v, l, rfl, q, z⟩ := r
  unfold VRs at z
  exact ⟨v, by rw [z], q⟩
theorem VRs.inv2 {K : PySem.W.Frag} {H : Hp} {ρ : List Addr} {vs : List V} {w w' : W} (r : VRs K H ρ vs [w, w']) : ∃ v v', vs = [v, v'] ∧ VR K H ρ v w ∧ VR K H ρ v' w' := by
  unfold VRs at r
  obtain ⟨v, l, rfl, q, z⟩ := r
  obtain ⟨v', rfl, q'⟩ := VRs.inv1 z
  exact ⟨v, v', rfl, q, q'⟩
theorem VRs.inv0 {K : PySem.W.Frag} {H : Hp} {ρ : List Addr} {vs : List V} (r : VRs K H ρ vs []) : vs = [] := by unfold VRs at r; exact r
def oLen (ws : List W) (h : List O) : Out W := match ws with
  | [.str s] => if s.length ≤ lim then .ok (.int s.length) h else .bad
  | [.ref n] => match h[n]? with
    | some (.lst xs) => .ok (.int xs.length) h
    | some (.dic xs) => .ok (.int xs.length) h
    | _ => .bad
  | [.tup xs] => .ok (.int xs.length) h
  | [.rol xs] => .ok (.int xs.length) h
  | _ => .bad
theorem cas_len : CaS G X (.builtin "len") oLen := ⟨_, CallR.or call_len_str (CallR.or call_len_seq call_lenD), fun E H ρ h vs ws Q hr r p => by
  unfold oLen at p
  split at p
  · rename_i s
    split at p
    · rename_i hl
      obtain ⟨v, rfl, q⟩ := r.inv1
      exact .inl ⟨_, by rw [q.str], len_le hl, by rw [Str_length]; exact p.here hr vr_int⟩
    · exact False.elim p
  · rename_i n
    obtain ⟨v, rfl, q⟩ := r.inv1
    obtain ⟨a, rfl, ea⟩ := q.ref
    split at p
    · rename_i xs hx
      obtain ⟨vs, e, z⟩ := hr.look ea hx
      exact .inr (.inl ⟨a, vs, rfl, .inl (.inl (.inl e)), by rw [z.length]; exact p.here hr vr_int⟩)
    · rename_i xs hx
      obtain ⟨vs, e, z⟩ := hr.look ea hx
      exact .inr (.inr ⟨a, vs, rfl, e, by rw [KRs.length z]; exact p.here hr vr_int⟩)
    · exact False.elim p
  · rename_i xs
    obtain ⟨v, rfl, q⟩ := r.inv1
    obtain ⟨a, vs, rfl, q, z⟩ := sqA_ok (xs := xs) hr q rfl
    exact .inr (.inl ⟨a, vs, rfl, q, by rw [z.length]; exact p.here hr vr_int⟩)
  · rename_i xs
    obtain ⟨v, rfl, q⟩ := r.inv1
    obtain ⟨a, vs, rfl, q, z⟩ := sqA_ok (xs := xs) hr q rfl
    exact .inr (.inl ⟨a, vs, rfl, q, by rw [z.length]; exact p.here hr vr_int⟩)
  · exact False.elim p⟩
def oAbs (ws : List W) (h : List O) : Out W := match ws with
  | [.int i] => .ok (.int (if i < 0 then -i else i)) h
  | _ => .bad
theorem cas_abs : CaS G X (.builtin "abs") oAbs := ⟨_, call_abs, fun E H ρ h vs ws Q hr r p => by
  unfold oAbs at p
  split at p
  · obtain ⟨v, rfl, q⟩ := r.inv1
    exact ⟨_, by rw [q.int], p.here hr vr_int⟩
  · exact False.elim p⟩
def oInt (ws : List W) (h : List O) : Out W := match ws with
  | [.int i] => .ok (.int i) h
  | [.bl b] => .ok (.int (if b then 1 else 0)) h
  | _ => .bad
theorem cas_int : CaS G X (.type "int") oInt := ⟨_, call_int1, fun E H ρ h vs ws Q hr r p => by
  unfold oInt at p
  split at p
  · obtain ⟨v, rfl, q⟩ := r.inv1
    exact .inl ⟨_, by rw [q.int], p.here hr vr_int⟩
  · obtain ⟨v, rfl, q⟩ := r.inv1
    exact .inr ⟨_, by rw [q.bl], p.here hr vr_int⟩
  · exact False.elim p⟩
/-- ints of a row -/
def intsOf : List W → Option (List Int)
  | [] => some []
  | .int i :: r => (intsOf r).map fun l => i :: l
  | _ :: _ => none
theorem intsOf_ok {K : PySem.W.Frag} {H : Hp} {ρ : List Addr} : ∀ {ws : List W} {vs : List V} {l : List Int}, VRs K H ρ vs ws → intsOf ws = some l → vs = l.map V.int
  | [], vs, l, r, e => by cases e; exact r.inv0
  | .int i :: r, vs, l, q, e => by
    unfold intsOf at e
    unfold VRs at q
    obtain ⟨v, t, rfl, q1, z⟩ := q
    cases hi : intsOf r with
    | none => rw [hi] at e; cases e
    | some l' =>
      rw [hi] at e
      cases e
      rw [q1.int, intsOf_ok z hi, List.map_cons]
  | .non :: r, vs, l, q, e => by cases e
  | .bl _ :: r, vs, l, q, e => by cases e
  | .str _ :: r, vs, l, q, e => by cases e
  | .tup _ :: r, vs, l, q, e => by cases e
  | .rol _ :: r, vs, l, q, e => by cases e
  | .ref _ :: r, vs, l, q, e => by cases e
def maxI : List Int → Int
  | [] => 0
  | [x] => x
  | x :: y :: r => let m := maxI (y :: r); if m > x then m else x
def minI : List Int → Int
  | [] => 0
  | [x] => x
  | x :: y :: r => let m := minI (y :: r); if m < x then m else x
theorem maxI_ok : ∀ {l : List Int} {m : Int}, m ∈ l → (∀ y, y ∈ l → y ≤ m) → m = maxI l
  | [], m, h, _ => by cases h
  | [x], m, h, _ => by simpa [maxI] using h
  | x :: y :: r, m, h, hm => by
    have ih : ∀ {m : Int}, m ∈ y :: r → (∀ z, z ∈ y :: r → z ≤ m) → m = maxI (y :: r) := fun a b => maxI_ok a b
    have hin : ∀ (l : List Int), l ≠ [] → maxI l ∈ l ∧ ∀ z ∈ l, z ≤ maxI l := by
      intro l
      induction l with
      | nil => intro h; exact absurd rfl h
      | cons a t ih =>
        intro _
        cases t with
        | nil => exact ⟨by simp [maxI], by simp [maxI]⟩
        | cons b t =>
          obtain ⟨i1, i2⟩ := ih (by simp)
          unfold maxI
          dsimp only
          split
          · exact ⟨List.mem_cons_of_mem _ i1, fun z hz => by
              rcases List.mem_cons.mp hz with e | e
              · omega
              · exact i2 z e⟩
          · exact ⟨List.mem_cons_self, fun z hz => by
              rcases List.mem_cons.mp hz with e | e
              · omega
              · have := i2 z e; omega⟩
    obtain ⟨i1, i2⟩ := hin (x :: y :: r) (by simp)
    have h1 := hm _ i1
    have h2 := i2 _ h
    omega
theorem minI_ok : ∀ {l : List Int} {m : Int}, m ∈ l → (∀ y, y ∈ l → m ≤ y) → m = minI l := by
  intro l m h hm
  have hin : ∀ (l : List Int), l ≠ [] → minI l ∈ l ∧ ∀ z ∈ l, minI l ≤ z := by
    intro l
    induction l with
    | nil => intro h; exact absurd rfl h
    | cons a t ih =>
      intro _
      cases t with
      | nil => exact ⟨by simp [minI], by simp [minI]⟩
      | cons b t =>
        obtain ⟨i1, i2⟩ := ih (by simp)
        unfold minI
        dsimp only
        split
        · exact ⟨List.mem_cons_of_mem _ i1, fun z hz => by
            rcases List.mem_cons.mp hz with e | e
            · omega
            · exact i2 z e⟩
        · exact ⟨List.mem_cons_self, fun z hz => by
            rcases List.mem_cons.mp hz with e | e
            · omega
            · have := i2 z e; omega⟩
  obtain ⟨i1, i2⟩ := hin l (List.ne_nil_of_mem h)
  have h1 := hm _ i1
  have h2 := i2 _ h
  omega
def oMax (ws : List W) (h : List O) : Out W := match ws with
  | [.int i, .int j] => .ok (.int (if j > i then j else i)) h
  | [x] => match sqL x h with
    | some xs => match intsOf xs with
      | some l => if 0 < l.length then .ok (.int (maxI l)) h else .bad
      | none => .bad
    | none => .bad
  | _ => .bad
theorem cas_max (hc : X.calm = true) : CaS G X (.builtin "max") oMax := ⟨_, CallR.or (call_max2 hc) (cr_max hc), fun E H ρ h vs ws Q hr r p => by
  unfold oMax at p
  split at p
  · obtain ⟨v, v', rfl, q, q'⟩ := r.inv2
    exact .inl ⟨_, _, by rw [q.int, q'.int], p.here hr vr_int⟩
  · obtain ⟨v, rfl, q⟩ := r.inv1
    split at p
    · rename_i xs hx
      obtain ⟨a, vs, rfl, q, z⟩ := sqL_ok hr q hx
      split at p
      · rename_i l hl
        split at p
        · rename_i h0
          refine .inr ⟨a, l, rfl, by rw [← intsOf_ok z hl]; exact q, h0, fun m h1 h2 => ?_⟩
          rw [maxI_ok h1 h2]
          exact p.here hr vr_int
        · exact False.elim p
      · exact False.elim p
    · exact False.elim p
  · exact False.elim p⟩
/-- the texts of a row -/
def strsOf : List W → Option (List (List Nat))
  | [] => some []
  | .str s :: r => (strsOf r).map fun l => s :: l
  | _ :: _ => none
abbrev mkS (l : List Nat) : Str := ⟨l.toArray⟩
theorem strsOf_ok {K : PySem.W.Frag} {H : Hp} {ρ : List Addr} : ∀ {ws : List W} {vs : List V} {l : List (List Nat)}, VRs K H ρ vs ws → strsOf ws = some l → vs = (l.map mkS).map V.str
  | [], vs, l, r, e => by cases e; exact r.inv0
  | .str i :: r, vs, l, q, e => by
    unfold strsOf at e
    unfold VRs at q
    obtain ⟨v, t, rfl, q1, z⟩ := q
    cases hi : strsOf r with
    | none => rw [hi] at e; cases e
    | some l' =>
      rw [hi] at e
      cases e
      rw [q1.str, strsOf_ok z hi, List.map_cons, List.map_cons]
  | .non :: r, vs, l, q, e => by cases e
  | .bl _ :: r, vs, l, q, e => by cases e
  | .int _ :: r, vs, l, q, e => by cases e
  | .tup _ :: r, vs, l, q, e => by cases e
  | .rol _ :: r, vs, l, q, e => by cases e
  | .ref _ :: r, vs, l, q, e => by cases e
def oTuple (ws : List W) (h : List O) : Out W := match ws with
  | [.tup xs] => .ok (.tup xs) h
  | [x] => match sqL x h with
    | some xs => .ok (.tup xs) h
    | none => .bad
  | _ => .bad
theorem cas_tuple : CaS G X (.type "tuple") oTuple := ⟨_, call_tuple_of, fun E H ρ h vs ws Q hr r p => by
  unfold oTuple at p
  split at p
  · obtain ⟨v, rfl, q⟩ := r.inv1
    unfold VR at q
    obtain ⟨a, vs, rfl, q, z⟩ := q
    exact ⟨a, vs, rfl, .inr ⟨q, p.here hr (vr_tup q z)⟩⟩
  · obtain ⟨v, rfl, q⟩ := r.inv1
    split at p
    · rename_i xs hx
      obtain ⟨a, vs, rfl, q, z⟩ := sqL_ok hr q hx
      exact ⟨a, vs, rfl, .inl ⟨q, new_tup hr z p⟩⟩
    · exact False.elim p
  · exact False.elim p⟩
def oList (ws : List W) (h : List O) : Out W := match ws with
  | [x] => match sqA x h with
    | some xs => .ok (.ref h.length) (h ++ [.lst xs])
    | none => .bad
  | _ => .bad
theorem cas_list : CaS G X (.type "list") oList := ⟨_, call_list_of, fun E H ρ h vs ws Q hr r p => by
  unfold oList at p
  split at p
  · obtain ⟨v, rfl, q⟩ := r.inv1
    split at p
    · rename_i xs hx
      obtain ⟨a, vs, rfl, q, z⟩ := sqA_ok hr q hx
      exact ⟨a, vs, rfl, q, new_lst hr z p⟩
    · exact False.elim p
  · exact False.elim p⟩

/-! ### methods of what is built in -/
def tyW (T : String) (w : W) (h : List O) : Bool := match w with
  | .str _ => T == "str"
  | .rol _ => T == "list"
  | .ref n => match h[n]? with
    | some (.lst _) => T == "list"
    | some (.dic _) => T == "dict"
    | _ => false
  | _ => false
theorem tyW_ok {K : PySem.W.Frag} {H : Hp} {ρ : List Addr} {h : List O} {T : String} {v : V} {w : W} (hr : HR K G H ρ h) (r : VR K H ρ v w) (e : tyW T w h = true) : tyV K T v H := by
  cases w with
  | str s => rw [r.str]; exact eq_of_beq e
  | rol xs =>
    obtain ⟨a, vs, rfl, q, z⟩ := sqL_ok (xs := xs) hr r rfl
    exact .inl ⟨eq_of_beq e, vs, q⟩
  | ref n =>
    obtain ⟨a, rfl, ea⟩ := r.ref
    unfold tyW at e
    dsimp only at e
    split at e
    · rename_i xs hx
      obtain ⟨vs, q, z⟩ := hr.look ea hx
      exact .inl ⟨eq_of_beq e, vs, .inl (.inl q)⟩
    · rename_i xs hx
      obtain ⟨vs, q, z⟩ := hr.look ea hx
      exact .inr (.inr (.inl ⟨eq_of_beq e, .inl ⟨vs, q⟩⟩))
    · cases e
  | _ => cases e
def mMeth (T : String) (op : W → List W → List O → Out W) (o : M W) (m : M (List W)) : M W := fun e h => (o e h).bnd fun x h => if tyW T x h = true then (m e h).bnd fun ws h => op x ws h else .bad
def ServesM (K : PySem.W.Frag) (G : Gx) (op : W → List W → List O → Out W) (r : V → List V → Hp → VK → Prop) : Prop := ∀ (E : XK) (H : Hp) (ρ : List Addr) (h : List O) (x : V) (wx : W) (vs : List V) (ws : List W) (Q : VK),
  HR K G H ρ h → VR K H ρ x wx → VRs K H ρ vs ws → Post K G E (VRel K) Q H ρ (op wx ws h) → r x vs H Q
def MeS (G : Gx) (X : Cx) (id : String) (op : W → List W → List O → Out W) : Prop := ∃ r, MtR X id r ∧ ServesM X.K G op r
theorem se_meth {T : String} {id : String} {name : Str} {o e : Expr} {es : List Expr} {op : W → List W → List O → Out W} {mo : M W} {mr : M (List W)} {apos cpos : Pos} (pa : PlainAttrs T) (slot : Slot T name id) (hty : typeOf (.builtin id) = pure (.type "method_descriptor")) (s : MeS G X id op)
    (ho : SE G X o mo) (ha : SA G X (e :: es) mr) (hbase : attributeBase o name X.env (eval o X.env) = eval o X.env := by rfl)
    (hfew : ((backTo cpos (starEach (e :: es) X.env)).all (fun x => !x.1) && (backToKw cpos (keywordEach [] X.env)).all (fun x => x.1.isSome)
      && decide ((e :: es).length + ([] : List Keyword).length + (if ([] : List Keyword).isEmpty then 0 else 1) < 30)) = true := by rfl)
    (hline : (apos.endLine == cpos.line) = true := by rfl) (hs : starEach (e :: es) X.env = (false, eval e X.env) :: starEach es X.env := by rfl) (hplain : (backTo cpos (starEach es X.env)).any (·.1) = false := by rfl) :
    SE G X (.Call (.Attribute o name apos) (e :: es) [] cpos) (mMeth T op mo mr) := fun Wx tk => by
  obtain ⟨r, hm, s⟩ := s
  refine (pe_bm pa slot hty hm (ho Wx tk) (ha Wx tk) hbase hfew hline hs hplain).imp fun σ H Q p => rd.bnd (Rel := VRel X.K) p fun H0 ρ0 e sr x H1 ρ1 h1 wx x1 r1 vx p1 => ?_
  split at p1
  · rename_i hty
    refine ⟨tyW_ok r1 vx hty, ρ1, e, h1, r1, sr.mono x1, (Post.bnd (Rel := VsRel X.K) p1).imp fun ys H2 q => ?_⟩
    obtain ⟨ρ2, h2, wys, x2, r2, vys, p2⟩ := q
    exact s _ _ _ _ _ _ _ _ _ r2 (vx.mono x2) vys p2
  · exact False.elim p1
theorem se_meth0 {T : String} {id : String} {name : Str} {o : Expr} {op : W → List W → List O → Out W} {mo : M W} {apos cpos : Pos} (pa : PlainAttrs T) (slot : Slot T name id) (hty : typeOf (.builtin id) = pure (.type "method_descriptor")) (s : MeS G X id op)
    (ho : SE G X o mo) (hbase : attributeBase o name X.env (eval o X.env) = eval o X.env := by rfl) (hline : (apos.endLine == cpos.line) = true := by rfl) :
    SE G X (.Call (.Attribute o name apos) [] [] cpos) (mMeth T op mo mNil) := fun Wx tk => by
  obtain ⟨r, hm, s⟩ := s
  refine (pe_bm0 pa slot hty hm (ho Wx tk) hbase hline).imp fun σ H Q p => rd.bnd (Rel := VRel X.K) p fun H0 ρ0 e sr x H1 ρ1 h1 wx x1 r1 vx p1 => ?_
  split at p1
  · rename_i hty
    exact ⟨tyW_ok r1 vx hty, s _ _ _ _ _ _ _ _ _ r1 vx .nil p1⟩
  · exact False.elim p1
section
variable {K : PySem.W.Frag} {H : Hp} {ρ : List Addr} {h : List O} {E : XK} {vs : List V} {ws : List W} {Q : VK} {n : Nat} {a : Addr}
/-- a list is changed -/
theorem put_lst {w : W} {v : V} (hr : HR K G H ρ h) (ea : ρ[n]? = some a) (nk : NoDik h n) (r : VRs K H ρ vs ws) (rv : ∀ H', VR K H' ρ v w) (p : Post K G E (VRel K) Q H ρ (.ok w (h.set n (.lst ws)))) : Q v (upd H a (.lst vs)) := by
  obtain ⟨r1, x1⟩ := hr.write (o := .lst vs) (u := .lst ws) ea nk rfl fun x => ⟨vs, upd_same, r.mono x⟩
  exact p _ _ _ x1 r1 (rv _)
end
def oAppend (x : W) (ws : List W) (h : List O) : Out W := match x, ws with
  | .ref n, [y] => match lstAt h n with
    | some xs => if xs.length < lim then .ok .non (h.set n (.lst (xs ++ [y]))) else .bad
    | none => .bad
  | _, _ => .bad
theorem mes_append : MeS G X "list.append" oAppend := ⟨_, mt_append, fun E H ρ h x wx vs ws Q hr rx r p => by
  unfold oAppend at p
  split at p
  · split at p
    · rename_i xs hx
      split at p
      · rename_i hl
        obtain ⟨a, rfl, ea⟩ := rx.ref
        obtain ⟨y, rfl, ry⟩ := r.inv1
        obtain ⟨vs, q, z⟩ := hr.look ea (lstAt_some hx)
        exact ⟨a, vs, y, rfl, rfl, q, by rw [z.length]; exact Nat.lt_of_lt_of_le hl (lim_size (Nat.le_refl _)), put_lst hr ea (lstAt_nk (by assumption)) (z.append (.one ry)) (fun _ => vr_non) p⟩
      · exact False.elim p
    · exact False.elim p
  · exact False.elim p⟩
def joinW (s : List Nat) : List (List Nat) → List Nat
  | [] => []
  | [x] => x
  | x :: y :: r => x ++ (s ++ joinW s (y :: r))
theorem join_ok' (s : List Nat) (l : List (List Nat)) : PySem.Str.join (mkS s) (l.map mkS) = mkS (joinW s l) := by
  induction l with
  | nil => rfl
  | cons x r ih =>
    cases r with
    | nil => rfl
    | cons y r =>
      show mkS x ++ mkS s ++ PySem.Str.join (mkS s) ((y :: r).map mkS) = _
      rw [ih]
      show (⟨x.toArray⟩ ++ ⟨s.toArray⟩ ++ ⟨(joinW s (y :: r)).toArray⟩ : Str) = ⟨(x ++ (s ++ joinW s (y :: r))).toArray⟩
      rw [Str_app, Str_app, List.append_assoc]
theorem join_ok (s : List Nat) (l : List (List Nat)) : Txt.join (mkS s) (l.map mkS) = mkS (joinW s l) := by
  unfold Txt.join
  rw [StrLaws.glued_eq_join]
  exact join_ok' s l
def oJoin (x : W) (ws : List W) (h : List O) : Out W := match x, ws with
  | .str s, [y] => match sqA y h with
    | some xs => match strsOf xs with
      | some l => if (l.map List.length).sum + l.length * s.length ≤ lim then .ok (.str (joinW s l)) h else .bad
      | none => .bad
    | none => .bad
  | _, _ => .bad
theorem mes_join : MeS G X "str.join" oJoin := ⟨_, mt_join, fun E H ρ h x wx vs ws Q hr rx r p => by
  unfold oJoin at p
  split at p
  · rename_i s y
    split at p
    · rename_i xs hx
      split at p
      · rename_i l hl
        split at p
        · rename_i hz
          obtain ⟨y, rfl, ry⟩ := r.inv1
          obtain ⟨a, vs, rfl, q, z⟩ := sqA_ok hr ry hx
          rw [strsOf_ok z hl] at q
          refine ⟨_, a, l.map mkS, rx.str, rfl, q, ?_, p.here hr (vr_str' (join_ok s l))⟩
          have e1 : ((l.map mkS).map fun x => x.length) = l.map List.length := by
            rw [List.map_map]
            exact List.map_congr_left fun x _ => Str_length x
          rw [e1, List.length_map, Str_length]
          exact Nat.le_trans hz (by decide)
        · exact False.elim p
      · exact False.elim p
    · exact False.elim p
  · exact False.elim p⟩
end
end Den
set_option maxRecDepth 100000
/-! Statements, loops, comprehensions, calls of defs. -/
namespace Den
open PySem L2 PyProof.Rows
inductive SOut where
  | nx (e : Env) (h : List O)
  | rt (w : W) (h : List O)
  | bk (e : Env) (h : List O)
  | ct (e : Env) (h : List O)
  | exc (c : Nat) (p : Option W) (e : Env) (h : List O)
  | bad
abbrev Sm := Env → List O → SOut
def Out.stm {α : Type} (o : Out α) (e : Env) (f : α → List O → SOut) : SOut := match o with
  | .ok a h => f a h
  | .exc c p h => .exc c p e h
  | .bad => .bad
@[simp] theorem Out.stm_ok {α : Type} (a : α) (h : List O) (e : Env) (f : α → List O → SOut) : (Out.ok a h).stm e f = f a h := rfl
@[simp] theorem Out.stm_exc {α : Type} (c : Nat) (p : Option W) (h : List O) (e : Env) (f : α → List O → SOut) : (Out.exc c p h : Out α).stm e f = .exc c p e h := rfl
@[simp] theorem Out.stm_bad {α : Type} (e : Env) (f : α → List O → SOut) : (Out.bad : Out α).stm e f = .bad := rfl
def PostS (K : PySem.W.Frag) (G : Gx) (Wx : WX) (D : Ends) (H : Hp) (ρ : List Addr) : SOut → Prop
  | .nx e h => ∀ ρ' H' σ', Ext H ρ H' ρ' → HR K G H' ρ' h → SR K H' ρ' σ' e → D.nx σ' H'
  | .bk e h => ∀ ρ' H' σ', Ext H ρ H' ρ' → HR K G H' ρ' h → SR K H' ρ' σ' e → D.bk σ' H'
  | .ct e h => ∀ ρ' H' σ', Ext H ρ H' ρ' → HR K G H' ρ' h → SR K H' ρ' σ' e → D.ct σ' H'
  | .rt w h => ∀ ρ' H' v, Ext H ρ H' ρ' → HR K G H' ρ' h → VR K H' ρ' v w → D.rt v H'
  | .exc c p e h => ∀ ρ' H' σ' cls d, Ext H ρ H' ρ' → HR K G H' ρ' h → SR K H' ρ' σ' e → ER K G H' ρ' cls d c p → Wx cls d σ' H'
  | .bad => False
def rdS (K : PySem.W.Frag) (G : Gx) (Wx : WX) (m : Sm) : TS := fun D σ H => ∃ ρ e h, HR K G H ρ h ∧ SR K H ρ σ e ∧ PostS K G Wx D H ρ (m e h)
def SS (G : Gx) (X : Cx) (s : Stmt) (m : Sm) : Prop := ∀ Wx, Takes X Wx → PS X s (rdS X.K G Wx m)
def SSs (G : Gx) (X : Cx) (s : List Stmt) (m : Sm) : Prop := ∀ Wx, Takes X Wx → PSs X s (rdS X.K G Wx m)
section
variable {K : PySem.W.Frag} {G : Gx} {Wx : WX} {D : Ends} {H H1 : Hp} {ρ ρ1 : List Addr} {h : List O} {σ : L2.St} {e : Env}
theorem PostS.ext {o : SOut} (x : Ext H ρ H1 ρ1) (p : PostS K G Wx D H ρ o) : PostS K G Wx D H1 ρ1 o := by
  cases o with
  | nx e h => exact fun ρ' H' v x' r q => p ρ' H' v (x.trans x') r q
  | rt e h => exact fun ρ' H' v x' r q => p ρ' H' v (x.trans x') r q
  | bk e h => exact fun ρ' H' v x' r q => p ρ' H' v (x.trans x') r q
  | ct e h => exact fun ρ' H' v x' r q => p ρ' H' v (x.trans x') r q
  | exc c q e h' => exact fun ρ' H' σ' cls d x' r s q => p ρ' H' σ' cls d (x.trans x') r s q
  | bad => exact p
theorem PostS.stm {α β : Type} {Rel : Hp → List Addr → β → α → Prop} {o : Out α} {f : α → List O → SOut} (sr : SR K H ρ σ e) (p : PostS K G Wx D H ρ (o.stm e f)) :
    Post K G (fun cls d H' => Wx cls d σ H') Rel (fun v H1 => ∃ ρ1 h1 w, Ext H ρ H1 ρ1 ∧ HR K G H1 ρ1 h1 ∧ Rel H1 ρ1 v w ∧ PostS K G Wx D H1 ρ1 (f w h1)) H ρ o := by
  cases o with
  | ok w h' => exact fun ρ' H' v x r q => ⟨ρ', h', w, x, r, q, PostS.ext x p⟩
  | exc c q h' => exact fun ρ' H' cls d x r q => p ρ' H' σ cls d x r (sr.mono x) q
  | bad => exact p
/-- go on behind an expression -/
theorem rdS.stm {α β : Type} {Rel : Hp → List Addr → β → α → Prop} {m : M α} {f : Env → α → List O → SOut} {Q' : β → Hp → Prop} (p : rdS K G Wx (fun e h => (m e h).stm e (f e)) D σ H)
    (k : ∀ H0 ρ0 e, SR K H0 ρ0 σ e → ∀ v H1 ρ1 h1 w, Ext H0 ρ0 H1 ρ1 → HR K G H1 ρ1 h1 → Rel H1 ρ1 v w → PostS K G Wx D H1 ρ1 (f e w h1) → Q' v H1) : rd K G Wx Rel m σ H Q' := by
  obtain ⟨ρ, e, h, hr, sr, p⟩ := p
  refine ⟨ρ, e, h, hr, sr, (PostS.stm (Rel := Rel) sr p).imp fun v H1 q => ?_⟩
  obtain ⟨ρ1, h1, w, x, r1, q1, p1⟩ := q
  exact k H ρ e sr v H1 ρ1 h1 w x r1 q1 p1
end

/-! ### blocks -/
def mSkip : Sm := fun e h => .nx e h
def mSeq (a b : Sm) : Sm := fun e h => match a e h with
  | .nx e h => b e h
  | .rt w h => .rt w h
  | .bk e h => .bk e h
  | .ct e h => .ct e h
  | .exc c p e h => .exc c p e h
  | .bad => .bad
section
variable {G : Gx} {X : Cx} {s : Stmt} {sts : List Stmt} {a b c : Sm} {e : Expr} {m : M W} {pos : Pos}
theorem sss_nil : SSs G X [] mSkip := fun Wx tk => pss_nil.imp fun D σ H p => by
  obtain ⟨ρ, e, h, hr, sr, p⟩ := p
  exact p ρ H σ (Ext.refl hr) hr sr
theorem sss_one (h : SS G X s a) : SSs G X [s] a := fun Wx tk => pss_one (h Wx tk)
theorem sss_cons (h1 : SS G X s a) (h2 : SSs G X sts b) : SSs G X (s :: sts) (mSeq a b) := fun Wx tk => (pss_cons (h1 Wx tk) (h2 Wx tk)).imp fun D σ H p => by
  obtain ⟨ρ, e, h, hr, sr, p⟩ := p
  refine ⟨ρ, e, h, hr, sr, ?_⟩
  unfold mSeq at p
  cases hm : a e h with
  | nx e1 h1 => rw [hm] at p; exact fun ρ' H' σ' x r q => ⟨ρ', e1, h1, r, q, p.ext x⟩
  | rt w h1 => rw [hm] at p; exact p
  | bk e1 h1 => rw [hm] at p; exact p
  | ct e1 h1 => rw [hm] at p; exact p
  | exc c q e1 h1 => rw [hm] at p; exact p
  | bad => rw [hm] at p; exact p
theorem ss_pass : SS G X (.Pass pos) mSkip := fun Wx tk => ps_pass.imp fun D σ H p => by
  obtain ⟨ρ, e, h, hr, sr, p⟩ := p
  exact p ρ H σ (Ext.refl hr) hr sr
def mBrk : Sm := fun e h => .bk e h
def mCnt : Sm := fun e h => .ct e h
theorem ss_break : SS G X (.Break pos) mBrk := fun Wx tk => ps_break.imp fun D σ H p => by
  obtain ⟨ρ, e, h, hr, sr, p⟩ := p
  exact p ρ H σ (Ext.refl hr) hr sr
theorem ss_continue : SS G X (.Continue pos) mCnt := fun Wx tk => ps_continue.imp fun D σ H p => by
  obtain ⟨ρ, e, h, hr, sr, p⟩ := p
  exact p ρ H σ (Ext.refl hr) hr sr
def mDrop (m : M W) : Sm := fun e h => (m e h).stm e fun _ h => .nx e h
theorem ss_expr (he : SE G X e m) (hs : swapsWith e none pos.line X.env = pure false := by rfl) : SS G X (.Expr e pos) (mDrop m) := fun Wx tk => (ps_expr (he Wx tk) hs).imp fun D σ H p =>
  rdS.stm (Rel := VRel X.K) p fun H0 ρ0 e sr v H1 ρ1 h1 w x r q p1 => p1 ρ1 H1 σ (Ext.refl r) r (sr.mono x)
def mRet (m : M W) : Sm := fun e h => (m e h).stm e fun w h => .rt w h
theorem ss_ret (he : SE G X e m) : SS G X (.Return (some e) pos) (mRet m) := fun Wx tk => (ps_ret (he Wx tk)).imp fun D σ H p =>
  rdS.stm (Rel := VRel X.K) p fun H0 ρ0 e sr v H1 ρ1 h1 w x r q p1 => p1 ρ1 H1 v (Ext.refl r) r q
def mRetN : Sm := fun e h => .rt .non h
theorem ss_retN : SS G X (.Return none pos) mRetN := fun Wx tk => ps_retN.imp fun D σ H p => by
  obtain ⟨ρ, e, h, hr, sr, p⟩ := p
  exact p ρ H .non (Ext.refl hr) hr vr_non
def mIfS (t : M Bool) (a b : Sm) : Sm := fun e h => (t e h).stm e fun c h => if c = true then a e h else b e h
theorem ss_if {ce : Expr} {A B : List Stmt} {t : M Bool} (hc : ST G X ce t) (ha : SSs G X A a) (hb : SSs G X B b) : SS G X (.If ce A B pos) (mIfS t a b) := fun Wx tk =>
  (ps_if (hc Wx tk) (ha Wx tk) (hb Wx tk)).imp fun D σ H p => rdS.stm (Rel := BRel) p fun H0 ρ0 e sr v H1 ρ1 h1 w x r q p1 => by
    cases q
    cases v with
    | true => exact iteT ⟨ρ1, e, h1, r, sr.mono x, p1⟩
    | false => exact iteF ⟨ρ1, e, h1, r, sr.mono x, p1⟩
/-- name = value -/
def mSet (i : Nat) (m : M W) : Sm := fun e h => (m e h).stm e fun w h => .nx (e.set i (some w)) h
theorem asg_name {i : Nat} {Wx : WX} {D : Ends} {σ : L2.St} {H : Hp} (p : rdS X.K G Wx (mSet i m) D σ H) : tAsg (rd X.K G Wx (VRel X.K) m) (gName i) D σ H :=
  rdS.stm (Rel := VRel X.K) p fun H0 ρ0 e sr v H1 ρ1 h1 w x r q p1 => p1 ρ1 H1 _ (Ext.refl r) r ((sr.mono x).set i q)
theorem ss_set {i : Nat} {x : Str} {pos' : Pos} (hN : X.N.Nodup) (hi : X.N[i]? = some x) (hx : Loc X.env.scope x) (he : SE G X e m) (hs : swapsWith e (some (.Name x pos')) pos.line X.env = pure false := by rfl)
    (hf : X.fn x = true ∨ X.env.scope.names.lookup x = some .local := by first | exact .inl rfl | exact .inr rfl | assumption) : SS G X (.Assign [.Name x pos'] e pos) (mSet i m) := fun Wx tk =>
  (ps_set hN hi hx (he Wx tk) hs hf).imp fun D σ H p => asg_name p
/-- targets of names: what they set -/
def mT2 (i j : Nat) (ma mb : M W) : Sm := fun e h => (ma e h).stm e fun x h => (mb e h).stm e fun y h => .nx ((e.set i (some x)).set j (some y)) h
def mTs (is : List Nat) (m : M (List W)) : Sm := fun e h => (m e h).stm e fun ws h => if is.length = ws.length then .nx ((is.zip ws).foldl (fun e p => e.set p.1 (some p.2)) e) h else .bad
theorem ss_par {i j : Nat} {x y : Str} {a b : Expr} {mr : M (List W)} {px py pt : Pos} {kt k2 pt2} (hc : X.calm = true) (hN : X.N.Nodup) (hi : X.N[i]? = some x) (hj : X.N[j]? = some y) (hij : i ≠ j)
    (hx : X.env.scope.names.lookup x = some .local) (hy : X.env.scope.names.lookup y = some .local) (ha : SA G X [a, b] mr)
    (hw : swappedStores [.Tuple [.Name x px, .Name y py] kt pt] (.Tuple [a, b] k2 pt2) X.env = pure (some [x, y]))
    (hs : swapsWithSole [.Tuple [.Name x px, .Name y py] kt pt] (.Tuple [a, b] k2 pt2) pos.line X.env = pure false := by rfl) :
    SS G X (.Assign [.Tuple [.Name x px, .Name y py] kt pt] (.Tuple [a, b] k2 pt2) pos) (mTs [i, j] mr) := fun Wx tk =>
  (ps_par hc hN hi hj hij hx hy (ha Wx tk) hw hs).imp fun D σ H p => rdS.stm (Rel := VsRel X.K) p fun H0 ρ0 e sr v H1 ρ1 h1 w x r q p1 => by
    split at p1
    · rename_i hl
      match w, hl, q, p1 with
      | [w1, w2], hl, q, p1 =>
        obtain ⟨v1, v2, rfl, q1, q2⟩ := q.inv2
        exact ⟨v1, v2, rfl, p1 ρ1 H1 _ (Ext.refl r) r (((sr.mono x).set i q1).set j q2)⟩
    · exact False.elim p1

theorem ss_doc {x : Str} {j : Nat} {pos' : Pos} : SS G X (.Expr (.Constant (.str x) j pos) pos') mSkip := fun Wx tk => ps_doc.imp fun D σ H p => by
  obtain ⟨ρ, e, h, hr, sr, p⟩ := p
  exact p ρ H σ (Ext.refl hr) hr sr

/-! ### targets: names, tuples of names -/
abbrev Tg := W → Env → Option Env
/-- what a target sets: slots among vs alone -/
def TgOk (K : PySem.W.Frag) (G : Gx) (vs : List Nat) (g : TG) (t : Tg) : Prop := ∀ (H : Hp) (ρ : List Addr) (h : List O) (σ : L2.St) (e e1 : Env) (v : V) (w : W) (Q : L2.St → Hp → Prop),
  HR K G H ρ h → SR K H ρ σ e → VR K H ρ v w → t w e = some e1 → (∀ σ1, SR K H ρ σ1 e1 → wipe σ1 vs = wipe σ vs → Q σ1 H) → g v σ H Q
def tgN (i : Nat) : Tg := fun w e => some (e.set i (some w))
def tgTs : List Nat → List W → Env → Option Env
  | [], [], e => some e
  | i :: is, w :: ws, e => tgTs is ws (e.set i (some w))
  | _, _, _ => none
def tgT (is : List Nat) : Tg := fun w e => match w with
  | .tup ws => tgTs is ws e
  | _ => none
theorem wipe_get {σ : L2.St} {j : Nat} : ∀ {vs : List Nat}, j ∉ vs → (wipe σ vs)[j]? = σ[j]?
  | [], _ => rfl
  | v :: vs, h => by
    have h1 : v ≠ j := fun z => h (by rw [z]; exact List.mem_cons_self)
    have h2 : j ∉ vs := fun z => h (List.mem_cons_of_mem _ z)
    unfold wipe
    rw [List.getElem?_set_ne h1]
    exact wipe_get h2
theorem wipe_in {σ : L2.St} {j : Nat} : ∀ {vs : List Nat}, j ∈ vs → (wipe σ vs)[j]? = if j < σ.length then some none else none
  | v :: vs, h => by
    unfold wipe
    by_cases hv : v = j
    · subst hv
      by_cases hl : v < σ.length
      · rw [if_pos hl, List.getElem?_set_self (by rw [wipe_length]; exact hl)]
      · rw [if_neg hl, List.getElem?_eq_none (by rw [List.length_set, wipe_length]; omega)]
    · rw [List.getElem?_set_ne hv]
      exact wipe_in (by rcases List.mem_cons.mp h with z | z; exact absurd z.symm hv; exact z)
theorem wipe_set {σ : L2.St} {i : Nat} {x : Option V} {vs : List Nat} (h : i ∈ vs) : wipe (σ.set i x) vs = wipe σ vs := by
  apply List.ext_getElem?
  intro j
  by_cases hj : j ∈ vs
  · rw [wipe_in hj, wipe_in hj, List.length_set]
  · rw [wipe_get hj, wipe_get hj]
    exact List.getElem?_set_ne (fun z : i = j => hj (by rw [← z]; exact h))
theorem tgk_name {K : PySem.W.Frag} {vs : List Nat} {i : Nat} (hi : i ∈ vs := by decide) : TgOk K G vs (gName i) (tgN i) := fun H ρ h σ e e1 v w Q hr sr rv ht k => by
  cases ht
  exact k _ (sr.set i rv) (wipe_set hi)
theorem tgk_tup {K : PySem.W.Frag} {vs : List Nat} : ∀ {is : List Nat}, (∀ i ∈ is, i ∈ vs) → ∀ {H : Hp} {ρ : List Addr} {h : List O} {σ : L2.St} {e e1 : Env} {xs : List V} {ws : List W} {Q : L2.St → Hp → Prop},
    HR K G H ρ h → SR K H ρ σ e → VRs K H ρ xs ws → tgTs is ws e = some e1 → (∀ σ1, SR K H ρ σ1 e1 → wipe σ1 vs = wipe σ vs → Q σ1 H) → (is.foldr (fun i g => gCons (gName i) g) gNil) xs σ H Q
  | [], hi, H, ρ, h, σ, e, e1, xs, ws, Q, hr, sr, rv, ht, k => by
    cases ws with
    | nil => cases ht; exact ⟨rv.inv0, k _ sr rfl⟩
    | cons w ws => cases ht
  | i :: is, hi, H, ρ, h, σ, e, e1, xs, ws, Q, hr, sr, rv, ht, k => by
    cases ws with
    | nil => cases ht
    | cons w ws =>
      unfold VRs at rv
      obtain ⟨v, r, rfl, q, z⟩ := rv
      refine ⟨v, r, rfl, ?_⟩
      exact tgk_tup (fun j hj => hi j (List.mem_cons_of_mem _ hj)) hr (sr.set i q) z ht fun σ1 s1 e1 => k σ1 s1 (e1.trans (wipe_set (hi i List.mem_cons_self)))
theorem tgk_tups {K : PySem.W.Frag} {vs is : List Nat} {n : Nat} (hn : is.length = n := by rfl) (hi : ∀ i ∈ is, i ∈ vs := by decide) : TgOk K G vs (gTup K n (is.foldr (fun i g => gCons (gName i) g) gNil)) (tgT is) := fun H ρ h σ e e1 v w Q hr sr rv ht k => by
  unfold tgT at ht
  split at ht
  · rename_i ws
    unfold VR at rv
    obtain ⟨a, vs', rfl, q, z⟩ := rv
    have hl : ∀ (is : List Nat) (ws : List W) (e : Env), tgTs is ws e = some e1 → is.length = ws.length := by
      intro is
      induction is with
      | nil => intro ws e h; cases ws with
        | nil => rfl
        | cons w ws => cases h
      | cons i is ih => intro ws e h; cases ws with
        | nil => cases h
        | cons w ws => rw [List.length_cons, List.length_cons, ih ws _ h]
    exact ⟨a, vs', rfl, q, by rw [z.length, ← hl _ _ _ ht, hn], tgk_tup hi hr sr z ht k⟩
  · cases ht
/-- target = value -/
def mAsg (t : Tg) (m : M W) : Sm := fun e h => (m e h).stm e fun w h => match t w e with
  | some e => .nx e h
  | none => .bad
theorem ss_asg {tg : Expr} {g : TG} {t : Tg} {vs : List Nat} (he : SE G X e m) (hg : PG X tg g) (ht : TgOk X.K G vs g t) (hs : swapsWithSole [tg] e pos.line X.env = pure false := by rfl) (hw : swappedStores [tg] e X.env = pure none := by rfl)
    (h1 : (assignEach [tg] X.env).map (·.2) = [assign tg X.env] := by rfl) : SS G X (.Assign [tg] e pos) (mAsg t m) := fun Wx tk =>
  (ps_asg (he Wx tk) hg hs hw h1).imp fun D σ H p => rdS.stm (Rel := VRel X.K) p fun H0 ρ0 e sr v H1 ρ1 h1 w x r q p1 => by
    split at p1
    · rename_i e1 he1
      exact ht H1 ρ1 h1 σ e e1 v w _ r (sr.mono x) q he1 fun σ1 s1 _ => p1 ρ1 H1 σ1 (Ext.refl r) r s1
    · exact False.elim p1

/-! ### op= -/
def oIadd (x y : W) (h : List O) : Out W := match x, y with
  | .int i, .int j => .ok (.int (i + j)) h
  | .str a, .str b => if a.length + b.length ≤ lim then .ok (.str (a ++ b)) h else .bad
  | _, _ => .bad
theorem _root_.L2.PIp.or {op : Operator} {r r' : TIp} (a : PIp X op r) (b : PIp X op r') : PIp X op (fun x y H Q => r x y H Q ∨ r' x y H Q) := fun pins s σ H x y v u Q I rx ry h => by
  rcases h with h | h
  · exact a pins s σ H x y v u Q I rx ry h
  · exact b pins s σ H x y v u Q I rx ry h
theorem pip_of {op : Operator} {r : R2} (h : OpR X (inplaceOp op) r) : PIp X op r := fun pins s σ H x y v u Q I rx ry q => h pins s σ H x y v u Q I rx ry q
def IpS (G : Gx) (X : Cx) (op : Operator) (f : W → W → List O → Out W) : Prop := ∃ r, PIp X op r ∧ Serves2 X.K G f r
theorem ips_add : IpS G X .Add oIadd := ⟨_, L2.PIp.or (pip_of iop_add) (pip_of iop_add_str), fun E H ρ h x y wx wy Q hr rx ry p => by
  unfold oIadd at p
  split at p
  · exact .inl ⟨_, _, rx.int, ry.int, p.here hr vr_int⟩
  · split at p
    · rename_i hl
      exact .inr ⟨_, _, rx.str, ry.str, by rw [Str_length, Str_length]; exact lim_size hl, p.here hr (vr_str' (Str_app _ _))⟩
    · exact False.elim p
  · exact False.elim p⟩
theorem ips_sub : IpS G X .Sub oSub := ⟨_, pip_of iop_sub, fun E H ρ h x y wx wy Q hr rx ry p => by
  unfold oSub at p
  split at p
  · exact ⟨_, _, rx.int, ry.int, p.here hr vr_int⟩
  · exact False.elim p⟩
def oImul (x y : W) (h : List O) : Out W := match x, y with
  | .int i, .int j => if (-(2 ^ 64) < j ∧ j < 2 ^ 64) then .ok (.int (i * j)) h else .bad
  | _, _ => .bad
theorem ips_mul : IpS G X .Mult oImul := ⟨_, pip_of iop_mul, fun E H ρ h x y wx wy Q hr rx ry p => by
  unfold oImul at p
  split at p
  · split at p
    · rename_i hc
      exact ⟨_, _, rx.int, ry.int, .inr hc, p.here hr vr_int⟩
    · exact False.elim p
  · exact False.elim p⟩
def oIfdiv (x y : W) (h : List O) : Out W := match x, y with
  | .int i, .int j => if 0 < j ∧ j < 1073741824 then .ok (.int (i / j)) h else .bad
  | _, _ => .bad
theorem ips_fdiv : IpS G X .FloorDiv oIfdiv := ⟨_, pip_of iop_fdiv, fun E H ρ h x y wx wy Q hr rx ry p => by
  unfold oIfdiv at p
  split at p
  · split at p
    · rename_i hc
      exact ⟨_, _, rx.int, ry.int, hc, p.here hr vr_int⟩
    · exact False.elim p
  · exact False.elim p⟩
def mAug (i : Nat) (f : W → W → List O → Out W) (m : M W) : Sm := fun e h => match e[i]? with
  | some (some x) => (m e h).stm e fun y h => (f x y h).stm e fun z h => .nx (e.set i (some z)) h
  | _ => .bad
theorem ss_aug {i : Nat} {x : Str} {op : Operator} {f : W → W → List O → Out W} {pos' : Pos} (hN : X.N.Nodup) (hi : X.N[i]? = some x) (hx : Loc X.env.scope x) (s : IpS G X op f) (he : SE G X e m)
    (hf : X.fn x = true ∨ X.env.scope.names.lookup x = some .local := by first | exact .inl rfl | exact .inr rfl | assumption) : SS G X (.AugAssign (.Name x pos') op e pos) (mAug i f m) := fun Wx tk => by
  obtain ⟨r, ho, s⟩ := s
  refine (ps_aug hN hi hx (he Wx tk) ho hf).imp fun D σ H p => ?_
  obtain ⟨ρ, e, h, hr, sr, p⟩ := p
  unfold mAug at p
  split at p
  · rename_i w hw
    obtain ⟨v, hv, rv⟩ := sr.at_ _ _ hw
    refine ⟨v, hv, ρ, e, h, hr, sr, (PostS.stm (Rel := VRel X.K) sr p).imp fun y H1 q => ?_⟩
    obtain ⟨ρ1, h1, wy, x1, r1, vy, p1⟩ := q
    refine s (fun cls d H' => Wx cls d σ H') H1 ρ1 h1 v y w wy _ r1 (rv.mono x1) vy ((PostS.stm (Rel := VRel X.K) (sr.mono x1) p1).imp fun z H2 q => ?_)
    obtain ⟨ρ2, h2, wz, x2, r2, vz, p2⟩ := q
    exact p2 ρ2 H2 _ (Ext.refl r2) r2 (((sr.mono x1).mono x2).set i vz)
  · exact False.elim p

/-! ### o[i] = v, o[i] op= v of lists -/
def oSet (o i v : W) (h : List O) : Out Unit := match o, i with
  | .ref n, .int k => match lstAt h n with
    | some xs => match ixN xs.length k with
      | some j => .ok () (h.set n (.lst (xs.set j v)))
      | none => .bad
    | none => .bad
  | _, _ => .bad
abbrev URel : Hp → List Addr → Unit → Unit → Prop := fun _ _ _ _ => True
def ServesS (K : PySem.W.Frag) (G : Gx) (op : W → W → W → List O → Out Unit) (r : TSet) : Prop := ∀ (E : XK) (H : Hp) (ρ : List Addr) (h : List O) (o i v : V) (wo wi wv : W) (Q : Hp → Prop),
  HR K G H ρ h → VR K H ρ o wo → VR K H ρ i wi → VR K H ρ v wv → Post K G E URel (fun _ H' => Q H') H ρ (op wo wi wv h) → r o i v H Q
def SetS (G : Gx) (X : Cx) (op : W → W → W → List O → Out Unit) : Prop := ∃ r, PSet X r ∧ ServesS X.K G op r
theorem sets_list : SetS G X oSet := ⟨_, set_list, fun E H ρ h o i v wo wi wv Q hr ro ri rv p => by
  unfold oSet at p
  split at p
  · split at p
    · rename_i xs hx
      split at p
      · rename_i j hj
        obtain ⟨a, rfl, ea⟩ := ro.ref
        obtain ⟨vs, q, z⟩ := hr.look ea (lstAt_some hx)
        refine ⟨a, vs, _, j, rfl, ri.int, q, by rw [z.length]; exact hj, ?_⟩
        obtain ⟨r1, x1⟩ := hr.write (o := .lst (vs.set j v)) (u := .lst (xs.set j wv)) ea (lstAt_nk hx) rfl fun x => ⟨_, upd_same, (VRs.set rv j z).mono x⟩
        exact p ρ _ () x1 r1 trivial
      · exact False.elim p
    · exact False.elim p
  · exact False.elim p⟩
/-- ov[iv] = value: the value first -/
def mSetI (f : W → W → W → List O → Out Unit) (mo mi m : M W) : Sm := fun e h => (m e h).stm e fun v h => (mo e h).stm e fun o h => (mi e h).stm e fun i h => (f o i v h).stm e fun _ h => .nx e h
theorem ss_seti {oe ie : Expr} {mo mi : M W} {f : W → W → W → List O → Out Unit} {tpos : Pos} (s : SetS G X f) (ho : SE G X oe mo) (hi : SE G X ie mi) (he : SE G X e m)
    (ha : ∀ v, assign (.Subscript oe ie tpos) X.env v = (do
      let ov ← holding [v] (eval oe X.env)
      let iv ← holding [v, ov] (eval ie X.env)
      standAt tpos
      holding [v, ov, iv] (setItem ov iv v)
      release [v, ov, iv] []) := by intro _; rfl)
    (hs : swapsWithSole [.Subscript oe ie tpos] e pos.line X.env = pure false := by rfl) (hw : swappedStores [.Subscript oe ie tpos] e X.env = pure none := by rfl)
    (h1 : (assignEach [.Subscript oe ie tpos] X.env).map (·.2) = [assign (.Subscript oe ie tpos) X.env] := by rfl) : SS G X (.Assign [.Subscript oe ie tpos] e pos) (mSetI f mo mi m) := fun Wx tk => by
  obtain ⟨r, hp, s⟩ := s
  refine (ps_asg (he Wx tk) (pg_sub (ho Wx tk) (hi Wx tk) hp ha) hs hw h1).imp fun D σ H p => rdS.stm (Rel := VRel X.K) p fun H0 ρ0 e sr v H1 ρ1 h1 w x r q p1 => ?_
  have sr1 := sr.mono x
  refine ⟨ρ1, e, h1, r, sr1, (PostS.stm (Rel := VRel X.K) sr1 p1).imp fun o H2 q2 => ?_⟩
  obtain ⟨ρ2, h2, wo, x2, r2, vo, p2⟩ := q2
  have sr2 := sr1.mono x2
  refine ⟨ρ2, e, h2, r2, sr2, (PostS.stm (Rel := VRel X.K) sr2 p2).imp fun i H3 q3 => ?_⟩
  obtain ⟨ρ3, h3, wi, x3, r3, vi, p3⟩ := q3
  have sr3 := sr2.mono x3
  refine s (fun cls d H' => Wx cls d σ H') H3 ρ3 h3 o i v wo wi w _ r3 (vo.mono x3) vi ((q.mono x2).mono x3) ((PostS.stm (Rel := URel) sr3 p3).imp fun _ H4 q4 => ?_)
  obtain ⟨ρ4, h4, _, x4, r4, _, p4⟩ := q4
  exact p4 ρ4 H4 σ (Ext.refl r4) r4 (sr3.mono x4)
/-- o[i], by values -/
def GetS (G : Gx) (X : Cx) (f : W → W → List O → Out W) : Prop := ∃ r, PGet X r ∧ Serves2 X.K G f r
theorem pget_of {r : R2} (h : ∀ (pins : List (Addr × Obj)) (s : Shared) (σ : L2.St) (H : Hp) (x y : V) (v u : Value) (Q : VK), Inv X pins σ H s → RelV x v → RelV y u → r x y H Q → wpAny (model X.prog X.w) X.A (getItem v u) (EP X pins σ Q) X.xe s) : PGet X r :=
  fun pins s σ H o i ov iv Q I ro ri q => h pins s σ H o i ov iv Q I ro ri q
def mAugI (g : W → W → List O → Out W) (f : W → W → List O → Out W) (s : W → W → W → List O → Out Unit) (mo mi m : M W) : Sm := fun e h => (mo e h).stm e fun o h => (mi e h).stm e fun i h => (g o i h).stm e fun x h =>
  (m e h).stm e fun y h => (f x y h).stm e fun z h => (s o i z h).stm e fun _ h => .nx e h
theorem ss_augi {oe ie : Expr} {mo mi : M W} {g f : W → W → List O → Out W} {st : W → W → W → List O → Out Unit} {op : Operator} {tpos : Pos} (hg : GetS G X g) (hf : IpS G X op f) (hs : SetS G X st) (ho : SE G X oe mo) (hi : SE G X ie mi) (he : SE G X e m)
    (ha : ∀ ov iv new, augStore ie ov iv new = (do holding [new, ov, iv] (setItem ov iv new); release [new, ov, iv] []; pure .next) := by intros; rfl) : SS G X (.AugAssign (.Subscript oe ie tpos) op e pos) (mAugI g f st mo mi m) := fun Wx tk => by
  obtain ⟨rg, hg, sg⟩ := hg
  obtain ⟨rf, hf, sf⟩ := hf
  obtain ⟨rs, hs, ss⟩ := hs
  refine (ps_augS (ho Wx tk) (hi Wx tk) hg (he Wx tk) hf hs ha).imp fun D σ H p => rdS.stm (Rel := VRel X.K) p fun H0 ρ0 e sr o H1 ρ1 h1 wo x1 r1 vo p1 => ?_
  have sr1 := sr.mono x1
  refine ⟨ρ1, e, h1, r1, sr1, (PostS.stm (Rel := VRel X.K) sr1 p1).imp fun i H2 q2 => ?_⟩
  obtain ⟨ρ2, h2, wi, x2, r2, vi, p2⟩ := q2
  have sr2 := sr1.mono x2
  refine sg (fun cls d H' => Wx cls d σ H') H2 ρ2 h2 o i wo wi _ r2 (vo.mono x2) vi ((PostS.stm (Rel := VRel X.K) sr2 p2).imp fun xv H3 q3 => ?_)
  obtain ⟨ρ3, h3, wx, x3, r3, vx, p3⟩ := q3
  have sr3 := sr2.mono x3
  refine ⟨ρ3, e, h3, r3, sr3, (PostS.stm (Rel := VRel X.K) sr3 p3).imp fun y H4 q4 => ?_⟩
  obtain ⟨ρ4, h4, wy, x4, r4, vy, p4⟩ := q4
  have sr4 := sr3.mono x4
  refine sf (fun cls d H' => Wx cls d σ H') H4 ρ4 h4 xv y wx wy _ r4 (vx.mono x4) vy ((PostS.stm (Rel := VRel X.K) sr4 p4).imp fun z H5 q5 => ?_)
  obtain ⟨ρ5, h5, wz, x5, r5, vz, p5⟩ := q5
  have sr5 := sr4.mono x5
  refine ss (fun cls d H' => Wx cls d σ H') H5 ρ5 h5 o i z wo wi wz _ r5 ((((vo.mono x2).mono x3).mono x4).mono x5) (((vi.mono x3).mono x4).mono x5) vz ((PostS.stm (Rel := URel) sr5 p5).imp fun _ H6 q6 => ?_)
  obtain ⟨ρ6, h6, _, x6, r6, _, p6⟩ := q6
  exact p6 ρ6 H6 σ (Ext.refl r6) r6 (sr5.mono x6)
end
end Den
set_option maxRecDepth 100000
/-! Loops, comprehensions, calls of defs, defs. -/
namespace Den
open PySem L2 PyProof.Rows
section
variable {G : Gx} {X : Cx}
theorem get_list : PGet X (rIxL X.K) := by
  intro pins s σ H x y v u Q I rx ry h
  obtain ⟨p, xs, i, z, rfl, rfl, hq, he, q⟩ := h
  cases rx
  obtain ⟨t, rfl⟩ := ry
  obtain ⟨its, r, pl, hz⟩ := I.list hq
  obtain ⟨j, h1, h2, h3, h4, h5⟩ := atI_get he
  obtain ⟨w, ew, rw'⟩ := r.get h2
  have hl := r.length
  have hn := line63
  have fin : EP X pins σ Q w s := ⟨z, H, I, rw', q⟩
  by_cases h0 : 0 ≤ i
  · have hj : i.toNat = j := by
      rw [seqIndex_of h0 h5] at h1
      exact Option.some.inj h1
    exact wpAny_getItem_list pl.isList h0 (by omega) (by rw [hj]; simpa using ew) fin
  · have hj : (i + (its.toArray.size : Int)).toNat = j := by
      rw [seqIndex_neg (by omega) h4] at h1
      rw [List.size_toArray, ← hl]
      exact Option.some.inj h1
    exact wpAny_getItem_list_neg pl.isList (by omega) (by rw [List.size_toArray] <;> omega) (by omega) (by rw [hj]; simpa using ew) fin
def oGetL (x y : W) (h : List O) : Out W := match y with
  | .int i => match sqL x h with
    | some xs => match L2.atI xs i with
      | some w => .ok w h
      | none => .bad
    | none => .bad
  | _ => .bad
theorem gets_list : GetS G X oGetL := ⟨_, get_list, fun E H ρ h x y wx wy Q hr rx ry p => by
  unfold oGetL at p
  split at p
  · rename_i i
    split at p
    · rename_i xs hx
      split at p
      · rename_i w hw
        obtain ⟨a, vs, rfl, q, z⟩ := sqL_ok hr rx hx
        obtain ⟨v, hv, rv⟩ := z.atI hw
        exact ⟨a, vs, i, v, rfl, ry.int, q, hv, p.here hr rv⟩
      · exact False.elim p
    · exact False.elim p
  · exact False.elim p⟩

/-! ### while -/
def whileGo (c : M Bool) (body : Sm) : Nat → Env → List O → SOut
  | 0, _, _ => .bad
  | n + 1, e, h => (c e h).stm e fun b h1 => if b = true then match body e h1 with
      | .nx e2 h2 => whileGo c body n e2 h2
      | .ct e2 h2 => whileGo c body n e2 h2
      | .bk e2 h2 => .nx e2 h2
      | .rt w h2 => .rt w h2
      | .exc cc p e2 h2 => .exc cc p e2 h2
      | .bad => .bad
    else .nx e h1
def mWhile (n : Nat) (c : M Bool) (body : Sm) : Sm := fun e h => whileGo c body n e h
theorem ss_while {n : Nat} {ce : Expr} {B : List Stmt} {c : M Bool} {body : Sm} {pos : Pos} (hp : PassesOwn (model X.prog X.w) X.A X.env X.xe) (hc : ST G X ce c) (hb : SSs G X B body) : SS G X (.While ce B [] pos) (mWhile n c body) := fun Wx tk =>
  (ps_while hp (hc Wx tk) (hb Wx tk)).imp fun D σ H p => by
    refine ⟨fun m σ H => rdS X.K G Wx (fun e h => whileGo c body m e h) D σ H, ⟨n, p⟩, fun m σ H p => ?_⟩
    cases m with
    | zero =>
      obtain ⟨ρ, e, h, hr, sr, p⟩ := p
      exact False.elim p
    | succ m =>
      refine rdS.stm (m := c) (f := fun e b h1 => if b = true then match body e h1 with
        | .nx e2 h2 => whileGo c body m e2 h2
        | .ct e2 h2 => whileGo c body m e2 h2
        | .bk e2 h2 => .nx e2 h2
        | .rt w h2 => .rt w h2
        | .exc cc p e2 h2 => .exc cc p e2 h2
        | .bad => .bad
      else .nx e h1) (Rel := BRel) p fun H0 ρ0 e sr b H1 ρ1 h1 w x r q p1 => ?_
      cases q
      have sr1 := sr.mono x
      cases b with
      | false => exact iteF (p1 ρ1 H1 σ (Ext.refl r) r sr1)
      | true =>
        refine iteT ⟨fun σ' H' => rdS X.K G Wx (fun e h => whileGo c body m e h) D σ' H', fun σ' H' p => ⟨m, Nat.lt_succ_self m, p⟩, ρ1, e, h1, r, sr1, ?_⟩
        rw [if_pos rfl] at p1
        cases hm : body e h1 with
        | nx e2 h2 => rw [hm] at p1; exact fun ρ' H' σ' x' r' s' => ⟨ρ', e2, h2, r', s', p1.ext x'⟩
        | ct e2 h2 => rw [hm] at p1; exact fun ρ' H' σ' x' r' s' => ⟨ρ', e2, h2, r', s', p1.ext x'⟩
        | bk e2 h2 => rw [hm] at p1; exact p1
        | rt w h2 => rw [hm] at p1; exact p1
        | exc cc q e2 h2 => rw [hm] at p1; exact p1
        | bad => rw [hm] at p1; exact p1

/-! ### what is walked -/
abbrev Src := Nat → List O → Option (Option W)
def JRel (K : PySem.W.Frag) (G : Gx) (H0 : Hp) (ρ0 : List Addr) (J : It) (src : Src) : Prop := ∀ (i : Nat) (H : Hp) (ρ : List Addr) (h : List O), Ext H0 ρ0 H ρ → HR K G H ρ h →
  (src i h = some none → J.stop i H) ∧ ∀ w, src i h = some (some w) → J.go i H ∧ ∀ x H', J.yld i H x H' → Ext H ρ H' ρ ∧ HR K G H' ρ h ∧ VR K H' ρ x w
def SI (G : Gx) (X : Cx) (tg iter : Expr) (m : M Src) : Prop := ∀ Wx, Takes X Wx → PI X tg iter (rd X.K G Wx (JRel X.K G) m)
theorem _root_.L2.PI.imp {X : Cx} {tg e : Expr} {t t' : TI} (p : PI X tg e t) (i : ∀ σ H R, t' σ H R → t σ H R) : PI X tg e t' := ⟨fun pins s σ H Q I q => p.run pins s σ H Q I (i σ H Q q)⟩
theorem _root_.L2.PI.or {X : Cx} {tg e : Expr} {t t' : TI} (p : PI X tg e t) (p' : PI X tg e t') : PI X tg e (fun σ H R => t σ H R ∨ t' σ H R) := ⟨fun pins s σ H Q I q => by
  rcases q with q | q
  · exact p.run pins s σ H Q I q
  · exact p'.run pins s σ H Q I q⟩
def srcL (xs : List W) : Src := fun i _ => some xs[i]?
def srcR (n : Nat) : Src := fun i h => (lstAt h n).map fun xs => xs[i]?
def srcS (s : List Nat) : Src := fun i _ => some (s[i]?.map fun c => .str [c])
def srcN (lo : Int) (n : Nat) : Src := fun i _ => if i < n then some (some (.int (lo + i))) else some none
def toSrc (w : W) (h : List O) : Out Src := match w with
  | .str s => .ok (srcS s) h
  | .tup xs => .ok (srcL xs) h
  | .rol xs => .ok (srcL xs) h
  | .ref n => match lstAt h n with
    | some _ => .ok (srcR n) h
    | none => .bad
  | _ => .bad
def mIter (m : M W) : M Src := fun e h => (m e h).bnd toSrc
section
variable {K : PySem.W.Frag} {H : Hp} {ρ : List Addr} {h : List O}
theorem jrel_lst {a : Addr} {n : Nat} (ea : ρ[n]? = some a) : JRel K G H ρ (Itl K a) (srcR n) := fun i H' ρ' h' x r => by
  have ea' : ρ'[n]? = some a := pre_get x.pre ea
  refine ⟨fun e => ?_, fun w e => ?_⟩
  · unfold srcR at e
    cases hl : lstAt h' n with
    | none => rw [hl] at e; cases e
    | some xs =>
      rw [hl] at e
      obtain ⟨vs, q, z⟩ := r.look ea' (lstAt_some hl)
      have e2 : xs[i]? = none := Option.some.inj e
      exact ⟨vs, .inl (.inl q), by rw [z.length]; exact List.getElem?_eq_none_iff.mp e2⟩
  · unfold srcR at e
    cases hl : lstAt h' n with
    | none => rw [hl] at e; cases e
    | some xs =>
      rw [hl] at e
      obtain ⟨vs, q, z⟩ := r.look ea' (lstAt_some hl)
      have e2 : xs[i]? = some w := Option.some.inj e
      obtain ⟨v, hv, rv⟩ := z.get e2
      have sq : SqL K H' a vs := .inl (.inl q)
      refine ⟨⟨vs, v, sq, hv⟩, fun y H'' hy => ?_⟩
      obtain ⟨rfl, hy⟩ := hy
      have e3 : v = y := Option.some.inj (hv.symm.trans (hy vs sq))
      rw [← e3]
      exact ⟨Ext.refl r, r, rv⟩
theorem jrel_rol {a : Addr} {vs : List V} {xs : List W} (hs : (Rd H a (.lst vs) ∧ a ∉ ρ) ∨ ∀ H' : Hp, SqL K H' a vs) (z : VRs K H ρ vs xs) : JRel K G H ρ (Itl K a) (srcL xs) := fun i H' ρ' h' x r => by
  have sq : SqL K H' a vs := by
    rcases x.rol hs with q | q
    · exact .inl q.1
    · exact q H'
  refine ⟨fun e => ⟨vs, sq, by rw [z.length]; exact List.getElem?_eq_none_iff.mp (Option.some.inj e)⟩, fun w e => ?_⟩
  obtain ⟨v, hv, rv⟩ := z.get (Option.some.inj e)
  refine ⟨⟨vs, v, sq, hv⟩, fun y H'' hy => ?_⟩
  obtain ⟨rfl, hy⟩ := hy
  have e3 : v = y := Option.some.inj (hv.symm.trans (hy vs sq))
  rw [← e3]
  exact ⟨Ext.refl r, r, rv.mono x⟩
theorem jrel_tup {a : Addr} {vs : List V} {xs : List W} (hs : SqT K H a vs) (z : VRs K H ρ vs xs) : JRel K G H ρ (Itt K a) (srcL xs) := fun i H' ρ' h' x r => by
  have sq : SqT K H' a vs := x.tup hs
  refine ⟨fun e => ⟨vs, sq, by rw [z.length]; exact List.getElem?_eq_none_iff.mp (Option.some.inj e)⟩, fun w e => ?_⟩
  obtain ⟨v, hv, rv⟩ := z.get (Option.some.inj e)
  refine ⟨⟨vs, v, sq, hv⟩, fun y H'' hy => ?_⟩
  obtain ⟨rfl, hy⟩ := hy
  have e3 : v = y := Option.some.inj (hv.symm.trans (hy vs sq))
  rw [← e3]
  exact ⟨Ext.refl r, r, rv.mono x⟩
end
end
end Den
set_option maxRecDepth 100000
/-! What a for walks; for; comprehensions; calls of defs; defs. -/
namespace Den
open PySem L2 PyProof.Rows
section
variable {G : Gx} {X : Cx} {e : Expr} {m : M W} {pos : Pos}
theorem jrel_str {K : PySem.W.Frag} {H : Hp} {ρ : List Addr} {s : List Nat} : JRel K G H ρ (Its ⟨s.toArray⟩) (srcS s) := fun i H' ρ' h' x r => by
  have hsz : (⟨s.toArray⟩ : Str).cps.size = s.length := by simp
  refine ⟨fun e => ?_, fun w e => ?_⟩
  · have e2 : s[i]? = none := by
      have := Option.some.inj e
      cases hx : s[i]? with
      | none => rfl
      | some c => rw [hx] at this; cases this
    show (⟨s.toArray⟩ : Str).cps.size ≤ i
    rw [hsz]
    exact List.getElem?_eq_none_iff.mp e2
  · have e1 := Option.some.inj e
    cases hx : s[i]? with
    | none => rw [hx] at e1; cases e1
    | some c =>
      rw [hx] at e1
      have e2 : W.str [c] = w := Option.some.inj e1
      refine ⟨?_, fun y H'' hy => ?_⟩
      · show i < (⟨s.toArray⟩ : Str).cps.size
        rw [hsz]
        exact (List.getElem?_eq_some_iff.mp hx).1
      · obtain ⟨rfl, c', hc, rfl⟩ := hy
        have e3 : c' = c := by
          have : s[i]? = some c' := by simpa using hc
          rw [hx] at this
          exact (Option.some.inj this).symm
        subst e3
        rw [← e2]
        exact ⟨Ext.refl r, r, vr_str' (l := [c']) rfl⟩
/-- over a list, a tuple, a text -/
theorem si_seq {tg : Expr} (he : SE G X e m) : SI G X tg e (mIter m) := fun Wx tk =>
  ((pi_list (he Wx tk)).or ((pi_tup (he Wx tk)).or (pi_str (he Wx tk)))).imp fun σ H R p => by
    obtain ⟨ρ, e, h, hr, sr, p⟩ := p
    unfold mIter at p
    cases hm : m e h with
    | bad => rw [hm] at p; exact False.elim p
    | exc c q h' => rw [hm] at p; exact .inl ⟨ρ, e, h, hr, sr, by rw [hm]; exact p⟩
    | ok w h' =>
      rw [hm, Out.bnd_ok] at p
      cases w with
      | str s => exact .inr (.inr ⟨ρ, e, h, hr, sr, by rw [hm]; exact fun ρ' H' v x r q => ⟨_, q.str, p ρ' H' _ x r jrel_str⟩⟩)
      | tup xs =>
        refine .inr (.inl ⟨ρ, e, h, hr, sr, ?_⟩)
        rw [hm]
        intro ρ' H' v x r q
        have q : VR X.K H' ρ' v (.tup xs) := q
        unfold VR at q
        obtain ⟨a, vs, rfl, q, z⟩ := q
        exact ⟨a, rfl, ⟨vs, q⟩, p ρ' H' _ x r (jrel_tup q z)⟩
      | rol xs =>
        refine .inl ⟨ρ, e, h, hr, sr, ?_⟩
        rw [hm]
        intro ρ' H' v x r q
        have q : VR X.K H' ρ' v (.rol xs) := q
        unfold VR at q
        obtain ⟨a, vs, rfl, q, z⟩ := q
        exact ⟨a, rfl, ⟨vs, by
          rcases q with q | q
          · exact .inl q.1
          · exact q H'⟩, p ρ' H' _ x r (jrel_rol q z)⟩
      | ref n =>
        unfold toSrc at p
        dsimp only at p
        cases hl : lstAt h' n with
        | none => rw [hl] at p; exact False.elim p
        | some xs =>
          rw [hl] at p
          refine .inl ⟨ρ, e, h, hr, sr, ?_⟩
          rw [hm]
          intro ρ' H' v x r q
          have q : VR X.K H' ρ' v (.ref n) := q
          obtain ⟨a, rfl, ea⟩ := q.ref
          obtain ⟨vs, q, z⟩ := r.look ea (lstAt_some hl)
          exact ⟨a, rfl, ⟨vs, .inl (.inl q)⟩, p ρ' H' _ x r (jrel_lst ea)⟩
      | non => exact False.elim p
      | bl b => exact False.elim p
      | int i => exact False.elim p
/-- range -/
def mRng1 (m : M (List W)) : M Src := fun e h => (m e h).bnd fun ws h => match ws with
  | [.int j] => if -(2 ^ 62) ≤ j ∧ j < 2 ^ 62 then .ok (srcN 0 j.toNat) h else .bad
  | _ => .bad
def mRng2 (m : M (List W)) : M Src := fun e h => (m e h).bnd fun ws h => match ws with
  | [.int i, .int j] => if -(2 ^ 62) ≤ i ∧ i < 2 ^ 62 ∧ -(2 ^ 62) ≤ j ∧ j < 2 ^ 62 then .ok (srcN i (j - i).toNat) h else .bad
  | _ => .bad
theorem jrel_rng {K : PySem.W.Frag} {H : Hp} {ρ : List Addr} {lo : Int} {n : Nat} : JRel K G H ρ (Itr lo n) (srcN lo n) := fun i H' ρ' h' x r => by
  refine ⟨fun e => ?_, fun w e => ?_⟩
  · unfold srcN at e
    split at e
    · cases e
    · show n ≤ i
      omega
  · unfold srcN at e
    split at e
    · rename_i hi
      cases e
      refine ⟨hi, fun y H'' hy => ?_⟩
      obtain ⟨rfl, rfl⟩ := hy
      exact ⟨Ext.refl r, r, vr_int⟩
    · cases e
theorem si_rng1 {tg a : Expr} {mr : M (List W)} {p : Pos} (ha : SA G X [a] mr) (hg : Gl X "range") (hm : X.mg "range" = none)
    (hs : starEach [a] X.env = [(false, eval a X.env)] := by rfl) : SI G X tg (.Call (.Name "range" p) [a] [] pos) (mRng1 mr) := fun Wx tk =>
  (pi_range1 hg hm (ha Wx tk) (hs := hs)).imp fun σ H R p => rd.bnd (Rel := VsRel X.K) p fun H0 ρ0 e sr v H1 ρ1 h1 w x r q p1 => by
    split at p1
    · split at p1
      · rename_i j hj
        obtain ⟨v, rfl, q'⟩ := VRs.inv1 q
        exact ⟨_, by rw [q'.int], hj.1, hj.2, p1 ρ1 H1 _ (Ext.refl r) r jrel_rng⟩
      · exact False.elim p1
    · exact False.elim p1
theorem si_rng2 {tg a b : Expr} {mr : M (List W)} {p : Pos} (ha : SA G X [a, b] mr) (hg : Gl X "range") (hm : X.mg "range" = none)
    (hs : starEach [a, b] X.env = [(false, eval a X.env), (false, eval b X.env)] := by rfl) (hs2 : starEach [b] X.env = [(false, eval b X.env)] := by rfl) : SI G X tg (.Call (.Name "range" p) [a, b] [] pos) (mRng2 mr) := fun Wx tk =>
  (pi_range2 hg hm (ha Wx tk) (hs := hs) (hs2 := hs2)).imp fun σ H R p => rd.bnd (Rel := VsRel X.K) p fun H0 ρ0 e sr v H1 ρ1 h1 w x r q p1 => by
    split at p1
    · split at p1
      · rename_i i j hj
        obtain ⟨v, v', rfl, q1, q'⟩ := VRs.inv2 q
        exact ⟨_, _, by rw [q1.int, q'.int], ⟨hj.1, hj.2.1, hj.2.2.1, hj.2.2.2⟩, p1 ρ1 H1 _ (Ext.refl r) r jrel_rng⟩
      · exact False.elim p1
    · exact False.elim p1

/-! ### for -/
def forGo (src : Src) (t : Tg) (body : Sm) : Nat → Nat → Env → List O → SOut
  | 0, _, _, _ => .bad
  | n + 1, i, e, h => match src i h with
    | some (some w) => match t w e with
      | some e1 => match body e1 h with
        | .nx e2 h2 => forGo src t body n (i + 1) e2 h2
        | .ct e2 h2 => forGo src t body n (i + 1) e2 h2
        | .bk e2 h2 => .nx e2 h2
        | .rt w h2 => .rt w h2
        | .exc cc p e2 h2 => .exc cc p e2 h2
        | .bad => .bad
      | none => .bad
    | some none => .nx e h
    | none => .bad
def mFor (n : Nat) (it : M Src) (t : Tg) (body : Sm) : Sm := fun e h => (it e h).stm e fun src h => forGo src t body n 0 e h
theorem ss_for {n : Nat} {tg iter : Expr} {B : List Stmt} {it : M Src} {t : Tg} {g : TG} {vs : List Nat} {body : Sm} (hp : PassesOwn (model X.prog X.w) X.A X.env X.xe) (hi : SI G X tg iter it) (hg : PG X tg g) (ht : TgOk X.K G vs g t) (hb : SSs G X B body) (hc : X.calm = true := by rfl) (hs : ∀ x, foldedSetIterable iter X.env x = pure x := by intro _; rfl) :
    SS G X (.For tg iter B [] pos) (mFor n it t body) := fun Wx tk => by
  refine (ps_for hp hc (hi Wx tk) hg (hb Wx tk) (hs := hs)).imp fun D σ H p => ?_
  refine rdS.stm (Rel := JRel X.K G) p fun H0 ρ0 e sr J H1 ρ1 h1 src x r q p1 => ?_
  refine ⟨fun i m σ H => ∃ ρ e h, Ext H1 ρ1 H ρ ∧ HR X.K G H ρ h ∧ SR X.K H ρ σ e ∧ PostS X.K G Wx D H ρ (forGo src t body m i e h), ⟨n, ρ1, e, h1, Ext.refl r, r, sr.mono x, p1⟩, fun i m σ H p => ?_⟩
  obtain ⟨ρ, e, h, x1, hr, sr, p⟩ := p
  obtain ⟨j1, j2⟩ := q i H ρ h x1 hr
  cases m with
  | zero => exact False.elim p
  | succ m =>
    unfold forGo at p
    cases hs : src i h with
    | none => rw [hs] at p; exact False.elim p
    | some o =>
      rw [hs] at p
      cases o with
      | none => exact .inl ⟨j1 hs, p ρ H σ (Ext.refl hr) hr sr⟩
      | some w =>
        obtain ⟨k1, k2⟩ := j2 w hs
        refine .inr ⟨k1, fun σ' H' => ∃ ρ e h, Ext H1 ρ1 H' ρ ∧ HR X.K G H' ρ h ∧ SR X.K H' ρ σ' e ∧ PostS X.K G Wx D H' ρ (forGo src t body m (i + 1) e h), fun σ' H' p => ⟨m, Nat.lt_succ_self m, p⟩, fun y H' hy => ?_⟩
        obtain ⟨x2, r2, vy⟩ := k2 y H' hy
        dsimp only at p
        cases hte : t w e with
        | none => rw [hte] at p; exact False.elim p
        | some e1 =>
          rw [hte] at p
          refine ht H' ρ h σ e e1 y w _ r2 (sr.mono x2) vy hte fun σ2 s2 _ => ⟨ρ, e1, h, r2, s2, ?_⟩
          dsimp only at p
          have p := p.ext x2
          cases hm : body e1 h with
          | nx e2 h2 => rw [hm] at p; exact fun ρ' H' σ' x' r' s' => ⟨ρ', e2, h2, (x1.trans x2).trans x', r', s', p.ext x'⟩
          | ct e2 h2 => rw [hm] at p; exact fun ρ' H' σ' x' r' s' => ⟨ρ', e2, h2, (x1.trans x2).trans x', r', s', p.ext x'⟩
          | bk e2 h2 => rw [hm] at p; exact p
          | rt w h2 => rw [hm] at p; exact p
          | exc cc q e2 h2 => rw [hm] at p; exact p
          | bad => rw [hm] at p; exact p

/-! ### comprehensions -/
def wipeE : Env → List Nat → Env
  | e, [] => e
  | e, v :: vs => (wipeE e vs).set v none
theorem SR.wipe {K : PySem.W.Frag} {H : Hp} {ρ : List Addr} {σ : L2.St} {e : Env} (s : SR K H ρ σ e) : ∀ vs : List Nat, SR K H ρ (L2.wipe σ vs) (wipeE e vs)
  | [] => s
  | v :: vs => by
    have ih := SR.wipe s vs
    refine ⟨by unfold L2.wipe wipeE; rw [List.length_set, List.length_set]; exact ih.len, fun i w hi => ?_⟩
    unfold wipeE at hi
    by_cases hv : v = i
    · subst hv
      by_cases hl : v < (wipeE e vs).length
      · rw [List.getElem?_set_self hl] at hi; cases hi
      · rw [List.getElem?_eq_none (by simpa using hl)] at hi; cases hi
    · rw [List.getElem?_set_ne hv] at hi
      unfold L2.wipe
      rw [List.getElem?_set_ne hv]
      exact ih.at_ i w hi
def compGo (src : Src) (t : Tg) (cond : M Bool) (elt : M W) (D : Nat) (e0 : Env) : Nat → Nat → List O → Out W
  | 0, _, _ => .bad
  | n + 1, i, h => match src i h with
    | some (some w) => match t w e0 with
      | some e1 => match cond e1 h with
        | .ok b h2 => if b = true then match elt e1 h2 with
            | .ok y h3 => match lstAt h3 D with
              | some acc => if acc.length < lim then compGo src t cond elt D e0 n (i + 1) (h3.set D (.lst (acc ++ [y]))) else .bad
              | none => .bad
            | _ => .bad
          else compGo src t cond elt D e0 n (i + 1) h2
        | _ => .bad
      | none => .bad
    | some none => .ok (.ref D) h
    | none => .bad
def mComp (n : Nat) (own : List Nat) (it : M Src) (t : Tg) (cond : M Bool) (elt : M W) : M W := fun e h => (it e h).bnd fun src h => compGo src t cond elt h.length (wipeE e own) n 0 (h ++ [.lst []])
def mYes : M Bool := fun _ h => .ok true h
abbrev noW : WX := fun _ _ _ _ => False
/-- a block's part is read without a raise -/
theorem rd_pure {K : PySem.W.Frag} {α β : Type} {Rel : Hp → List Addr → β → α → Prop} {m : M α} {σ : L2.St} {H : Hp} {ρ : List Addr} {h : List O} {e : Env} {Q : β → Hp → Prop} {a : α} {h' : List O} (hr : HR K G H ρ h) (sr : SR K H ρ σ e) (hm : m e h = .ok a h')
    (k : ∀ ρ' H' v, Ext H ρ H' ρ' → HR K G H' ρ' h' → Rel H' ρ' v a → Q v H') : rd K G noW Rel m σ H Q := ⟨ρ, e, h, hr, sr, by rw [hm]; exact k⟩
theorem lc_post {K : PySem.W.Frag} {Wx : WX} {n : Nat} {own : List Nat} {it : M Src} {t : Tg} {g : TG} {cond : M Bool} {elt : M W} (ht : TgOk K G own g t) {σ : L2.St} {H : Hp} {Q : VK} (p : rd K G Wx (VRel K) (mComp n own it t cond elt) σ H Q) :
    tLc (rd K G Wx (JRel K G) it) g (rd K G noW BRel cond) (rd K G noW (VRel K) elt) own σ H Q := by
  refine rd.bnd (Rel := JRel K G) p fun H0 ρ0 e sr J H1 ρ1 h1 src x r q p1 => ?_
  intro D hD
  obtain ⟨r2, x2⟩ := r.new (o := .lst []) (u := .lst []) hD rfl fun _ => ⟨[], upd_same, .nil⟩
  have eD : (ρ1 ++ [D])[h1.length]? = some D := r.last
  have sr2 := (sr.mono x).mono x2
  refine ⟨fun i m H => ∃ ρ h, Ext (upd H1 D (.lst [])) (ρ1 ++ [D]) H ρ ∧ HR K G H ρ h ∧ Post K G (fun cls d H' => Wx cls d σ H') (VRel K) Q H ρ (compGo src t cond elt h1.length (wipeE e own) m i h), ⟨n, ρ1 ++ [D], h1 ++ [.lst []], Ext.refl r2, r2, p1.ext x2⟩, fun i m H p => ?_⟩
  obtain ⟨ρ, h, x1, hr, p⟩ := p
  obtain ⟨j1, j2⟩ := q i H ρ h (x2.trans x1) hr
  have srw := (sr2.mono x1).wipe own
  cases m with
  | zero => exact False.elim p
  | succ m =>
    unfold compGo at p
    cases hs : src i h with
    | none => rw [hs] at p; exact False.elim p
    | some o =>
      rw [hs] at p
      cases o with
      | none => exact .inl ⟨j1 hs, p ρ H _ (Ext.refl hr) hr (by show VR K H ρ (.ref D) (.ref h1.length); unfold VR; exact ⟨D, rfl, pre_get x1.pre eD⟩)⟩
      | some w =>
        obtain ⟨k1, k2⟩ := j2 w hs
        refine .inr ⟨k1, fun H' => ∃ ρ h, Ext (upd H1 D (.lst [])) (ρ1 ++ [D]) H' ρ ∧ HR K G H' ρ h ∧ Post K G (fun cls d H' => Wx cls d σ H') (VRel K) Q H' ρ (compGo src t cond elt h1.length (wipeE e own) m (i + 1) h), fun H' p => ⟨m, Nat.lt_succ_self m, p⟩, fun y H' hy => ?_⟩
        obtain ⟨x3, r3, vy⟩ := k2 y H' hy
        dsimp only at p
        cases hte : t w (wipeE e own) with
        | none => rw [hte] at p; exact False.elim p
        | some e1 =>
          rw [hte] at p
          refine ht H' ρ h _ _ e1 y w _ r3 (srw.mono x3) vy hte fun σ2 s2 hw => ⟨?_, ?_⟩
          · rw [hw]
            apply List.ext_getElem?
            intro j
            by_cases hj : j ∈ own
            · rw [wipe_in hj, wipe_in hj, L2.wipe_length]
            · rw [wipe_get hj]
          · dsimp only at p
            have p := p.ext x3
            cases hc : cond e1 h with
            | bad => rw [hc] at p; exact False.elim p
            | exc c q h' => rw [hc] at p; exact False.elim p
            | ok b h2 =>
              rw [hc] at p
              refine rd_pure r3 s2 hc fun ρ4 H4 b' x4 r4 eb => ?_
              cases eb
              cases b with
              | false => exact iteF ⟨ρ4, h2, (x1.trans x3).trans x4, r4, p.ext x4⟩
              | true =>
                dsimp only at p
                rw [if_pos rfl] at p
                refine iteT ?_
                cases he : elt e1 h2 with
                | bad => rw [he] at p; exact False.elim p
                | exc c q h' => rw [he] at p; exact False.elim p
                | ok y h3 =>
                  rw [he] at p
                  refine rd_pure r4 (s2.mono x4) he fun ρ5 H5 v x5 r5 rv => ?_
                  dsimp only at p
                  cases hl : lstAt h3 h1.length with
                  | none => rw [hl] at p; exact False.elim p
                  | some acc =>
                    rw [hl] at p
                    dsimp only at p
                    split at p
                    · rename_i hz
                      have xx := ((x1.trans x3).trans x4).trans x5
                      have eD5 : ρ5[h1.length]? = some D := pre_get xx.pre eD
                      obtain ⟨vs, q, z⟩ := r5.look eD5 (lstAt_some hl)
                      refine ⟨vs, q, by rw [z.length]; exact Nat.lt_of_lt_of_le hz (lim_size (Nat.le_refl _)), ?_⟩
                      obtain ⟨r6, x6⟩ := r5.write (o := .lst (vs ++ [v])) (u := .lst (acc ++ [y])) eD5 (lstAt_nk hl) rfl fun x => ⟨_, upd_same, (z.append (.one rv)).mono x⟩
                      exact ⟨ρ5, _, xx.trans x6, r6, ((p.ext x4).ext x5).ext x6⟩
                    · exact False.elim p
end
end Den
set_option maxRecDepth 100000
/-! Comprehensions as expressions; calls of defs, defs, raise, a def handed a lambda that tells. -/
namespace Den
open PySem L2 PyProof.Rows
section
variable {G : Gx} {X : Cx} {e : Expr} {m : M W} {pos : Pos}
/-- a clause's tests -/
def STs (G : Gx) (X : Cx) (ifs : List Expr) (m : M Bool) : Prop := ∀ Wx, Takes X Wx → PTs X ifs (rd X.K G Wx BRel m)
theorem _root_.L2.PTs.imp {X : Cx} {e : List Expr} {t t' : TT} (p : PTs X e t) (i : ∀ σ H Q, t' σ H Q → t σ H Q) : PTs X e t' := ⟨fun pins s σ H Q I q => p.run pins s σ H Q I (i σ H Q q)⟩
theorem sts_nil : STs G X [] mYes := fun Wx tk => pts_nil.imp fun σ H Q p => by
  obtain ⟨ρ, e, h, hr, sr, p⟩ := p
  exact p.here hr rfl
theorem sts_one {c : Expr} {m : M Bool} (h : ST G X c m) : STs G X [c] m := fun Wx tk => pts_one (h Wx tk)
theorem se_lc {n : Nat} {elt tg iter : Expr} {ifs : List Expr} {scope : Scope} {own : List (Str × Nat)} {it : M Src} {t : Tg} {g : TG} {cond : M Bool} {melt : M W} (hN : X.N.Nodup) (hi : SI G X tg iter it) (ok : BlkOk X.N X.env.scope scope own)
    (hg : ∀ (s : Shared) (H : Hp) (C : Addr) (cl : List (Str × Addr)) (fp : List Addr), PG (X.blk s H scope (compEnvC scope cl C X.env) fp) tg g) (ht : TgOk X.K G (own.map (·.2)) g t)
    (hc : ∀ (s : Shared) (H : Hp) (C : Addr) (cl : List (Str × Addr)) (fp : List Addr), STs G (X.blk s H scope (compEnvC scope cl C X.env) fp) ifs cond)
    (he : ∀ (s : Shared) (H : Hp) (C : Addr) (cl : List (Str × Addr)) (fp : List Addr), SE G (X.blk s H scope (compEnvC scope cl C X.env) fp) elt melt)
    (hcalm : X.calm = true := by rfl) (hs : ∀ x, foldedSetIterable iter X.env x = pure x := by intro _; rfl) : SE G X (.ListComp elt [⟨tg, iter, ifs, 0⟩] scope pos) (mComp n (own.map (·.2)) it t cond melt) := fun Wx tk =>
  (pe_lc hcalm hN (hi Wx tk) ok hg (fun s H C cl fp => hc s H C cl fp noW L2.takes0) (fun s H C cl fp => he s H C cl fp noW L2.takes0) hs).imp fun σ H Q p => lc_post ht p
theorem ss_setLc {i n : Nat} {y : Str} {py spos : Pos} {elt tg iter : Expr} {ifs : List Expr} {scope : Scope} {own : List (Str × Nat)} {it : M Src} {t : Tg} {g : TG} {cond : M Bool} {melt : M W} (hN : X.N.Nodup) (hy : X.N[i]? = some y) (hyl : X.env.scope.names.lookup y = some .local)
    (hsw : swapsWith (.ListComp elt [⟨tg, iter, ifs, 0⟩] scope pos) (some (.Name y py)) spos.line X.env = pure true) (hi : SI G X tg iter it) (ok : BlkOk X.N X.env.scope scope own)
    (hg : ∀ (s : Shared) (H : Hp) (C : Addr) (cl : List (Str × Addr)) (fp : List Addr), PG (X.blk s H scope (compEnvC scope cl C X.env) fp) tg g) (ht : TgOk X.K G (own.map (·.2)) g t)
    (hc : ∀ (s : Shared) (H : Hp) (C : Addr) (cl : List (Str × Addr)) (fp : List Addr), STs G (X.blk s H scope (compEnvC scope cl C X.env) fp) ifs cond)
    (he : ∀ (s : Shared) (H : Hp) (C : Addr) (cl : List (Str × Addr)) (fp : List Addr), SE G (X.blk s H scope (compEnvC scope cl C X.env) fp) elt melt)
    (hcalm : X.calm = true := by rfl) (hs : ∀ x, foldedSetIterable iter X.env x = pure x := by intro _; rfl) : SS G X (.Assign [.Name y py] (.ListComp elt [⟨tg, iter, ifs, 0⟩] scope pos) spos) (mSet i (mComp n (own.map (·.2)) it t cond melt)) := fun Wx tk =>
  (ps_setLc hcalm hN hy hyl hsw (hi Wx tk) ok hg (fun s H C cl fp => hc s H C cl fp noW L2.takes0) (fun s H C cl fp => he s H C cl fp noW L2.takes0) hs).imp fun D σ H p =>
    lc_post ht (rdS.stm (Rel := VRel X.K) p fun H0 ρ0 e sr v H1 ρ1 h1 w x r q p1 => p1 ρ1 H1 _ (Ext.refl r) r ((sr.mono x).set i q))

/-! ### values without objects -/
mutual
def pureW : W → Bool
  | .ref _ => false
  | .rol _ => false
  | .tup xs => pureWs xs
  | _ => true
def pureWs : List W → Bool
  | [] => true
  | x :: xs => pureW x && pureWs xs
end
mutual
theorem VR.any {K : PySem.W.Frag} {H : Hp} {ρ ρ' : List Addr} : ∀ {v : V} {w : W}, pureW w = true → VR K H ρ v w → VR K H ρ' v w
  | v, .non, _, h => h
  | v, .bl _, _, h => h
  | v, .int _, _, h => h
  | v, .str _, _, h => h
  | v, .tup xs, p, h => by
    unfold VR at h ⊢
    obtain ⟨a, vs, e, q, r⟩ := h
    exact ⟨a, vs, e, q, VRs.any (by unfold pureW at p; exact p) r⟩
  | v, .rol xs, p, h => by unfold pureW at p; cases p
  | v, .ref n, p, h => by unfold pureW at p; cases p
theorem VRs.any {K : PySem.W.Frag} {H : Hp} {ρ ρ' : List Addr} : ∀ {vs : List V} {ws : List W}, pureWs ws = true → VRs K H ρ vs ws → VRs K H ρ' vs ws
  | vs, [], _, h => h
  | vs, w :: ws, p, h => by
    unfold pureWs at p
    rw [Bool.and_eq_true] at p
    unfold VRs at h ⊢
    obtain ⟨v, r, e, q, z⟩ := h
    exact ⟨v, r, e, VR.any p.1 q, VRs.any p.2 z⟩
end

/-! ### defs -/
def spOf (K : PySem.W.Frag) (G : Gx) (ar : Nat) (den : List W → List O → Out W) : Sp := fun vs H Q E => vs.length = ar ∧ ∃ ρ h ws, HR K G H ρ h ∧ VRs K H ρ vs ws ∧ Post K G E (VRel K) Q H ρ (den ws h)
/-- the def x does as den says -/
structure FnD (P : Program) (w : World) (K : PySem.W.Frag) (mg : Str → Option Value) (base : Heap) (G : Gx) (k : Nat) (x : Str) (ar : Nat) (den : List W → List O → Out W) : Prop where
  ex : ∃ f fd ps, FnOk P w K mg base (L2.CX P w) k f fd ps (spOf K G ar den) ∧ mg x = some (.ref f) ∧ PySem.W.keepIn K (.ref f) = true ∧ Binds K fd ps []
theorem FnD.mono {P : Program} {w : World} {K : PySem.W.Frag} {mg : Str → Option Value} {base : Heap} {k j ar : Nat} {x : Str} {den : List W → List O → Out W} (F : FnD P w K mg base G k x ar den) (h : k ≤ j) : FnD P w K mg base G j x ar den := by
  obtain ⟨f, fd, ps, F, a, b, c⟩ := F.ex
  exact ⟨f, fd, ps, F.mono h, a, b, c⟩
theorem se_call {k j ar : Nat} {x : Str} {den : List W → List O → Out W} {es : List Expr} {mr : M (List W)} {p : Pos} (F : FnD X.prog X.w X.K X.mg X.base G k x ar den) (hr : Room j X.A) (hk : k ≤ j) (hg : Gl X x) (ha : SA G X (e :: es) mr)
    (hdb : (x == ("__debug__" : Str)) = false := by decide) (he : starEach (e :: es) X.env = (false, eval e X.env) :: starEach es X.env := by rfl) (hpl : (backTo pos (starEach es X.env)).any (·.1) = false := by rfl)
    (hl : (e :: es).length = ar := by rfl) : SE G X (.Call (.Name x p) (e :: es) [] pos) (mCB (fun ws h => if ws.length = ar then den ws h else .bad) mr) := fun Wx tk => by
  obtain ⟨f, fd, ps, F, hm, hkp, hb⟩ := F.ex
  refine (pe_callS F (hr.mono hk) hg hm hkp hb (fun σ => passAt tk σ) (ha Wx tk) hdb he hpl).imp fun σ H Q p => rd.bnd (Rel := VsRel X.K) p fun H0 ρ0 e sr v H1 ρ1 h1 w x r q p1 => ?_
  dsimp only at p1
  split at p1
  · rename_i hw
    exact ⟨(VRs.length q).trans hw, ρ1, h1, w, r, q, p1⟩
  · exact False.elim p1
/-- the same where neither arguments nor the answer are objects: on a heap of its own -/
def pureRun (den : List W → List O → Out W) (ar : Nat) (ws : List W) (h : List O) : Out W :=
  if ws.length = ar ∧ pureWs ws = true then match den ws [] with
    | .ok w _ => if pureW w = true then .ok w h else .bad
    | .exc c none _ => .exc c none h
    | _ => .bad
  else .bad
theorem HR.sub {K : PySem.W.Frag} {H H' : Hp} {ρ ρ' : List Addr} {h h' : List O} (hr : HR K G H ρ h) (x : Ext H [] H' ρ') (r : HR K G H' ρ' h') : HR K G H' ρ h ∧ Ext H ρ H' ρ := by
  have x2 : Ext H ρ H' ρ := ⟨fun a o e t _ => x.fr a o e t (by simp), List.prefix_rfl, fun _ a b => absurd a b, hr.mu, x.lk⟩
  refine ⟨⟨hr.len, hr.nd, fun n a o e1 e2 => (hr.ob n a o e1 e2).mono x2 ?_, r.tb⟩, x2⟩
  obtain ⟨u, hu, hm⟩ := (hr.ob n a o e1 e2).mut
  rw [hu]
  exact x.fr a u hu (by cases u <;> first | rfl | cases hm) (by simp)
theorem HR.none {K : PySem.W.Frag} {H : Hp} {ρ : List Addr} {h : List O} (hr : HR K G H ρ h) : HR K G H [] [] := ⟨rfl, by simp, fun n a o e => by simp at e, hr.tb⟩
theorem se_callP {k j ar : Nat} {x : Str} {den : List W → List O → Out W} {es : List Expr} {mr : M (List W)} {p : Pos} (F : FnD X.prog X.w X.K X.mg X.base G k x ar den) (hr : Room j X.A) (hk : k ≤ j) (hg : Gl X x) (ha : SA G X (e :: es) mr)
    (hdb : (x == ("__debug__" : Str)) = false := by decide) (he : starEach (e :: es) X.env = (false, eval e X.env) :: starEach es X.env := by rfl) (hpl : (backTo pos (starEach es X.env)).any (·.1) = false := by rfl) :
    SE G X (.Call (.Name x p) (e :: es) [] pos) (mCB (pureRun den ar) mr) := fun Wx tk => by
  obtain ⟨f, fd, ps, F, hm, hkp, hb⟩ := F.ex
  refine (pe_callS F (hr.mono hk) hg hm hkp hb (fun σ => passAt tk σ) (ha Wx tk) hdb he hpl).imp fun σ H Q p => rd.bnd (Rel := VsRel X.K) p fun H0 ρ0 e sr v H1 ρ1 h1 w x r q p1 => ?_
  unfold pureRun at p1
  split at p1
  · rename_i hw
    refine ⟨(VRs.length q).trans hw.1, [], [], w, r.none, VRs.any hw.2 q, ?_⟩
    cases hd : den w [] with
    | bad => rw [hd] at p1; exact False.elim p1
    | ok z h' =>
      rw [hd] at p1
      dsimp only at p1
      split at p1
      · rename_i hz
        intro ρ' H' v' x' r' q'
        obtain ⟨r2, x2⟩ := r.sub x' r'
        exact p1 ρ1 H' v' x2 r2 (VR.any hz q')
      · exact False.elim p1
    | exc c pl h' =>
      rw [hd] at p1
      cases pl with
      | some z => exact False.elim p1
      | none =>
        intro ρ' H' cls d x' r' q'
        obtain ⟨r2, x2⟩ := r.sub x' r'
        exact p1 ρ1 H' cls d x2 r2 q'
  · exact False.elim p1
/-- a def's body -/
def startE (n : Nat) (ws : List W) : Env := ws.map some ++ List.replicate (n - ws.length) none
def mFun (n : Nat) (m : Sm) (ws : List W) (h : List O) : Out W := match m (startE n ws) h with
  | .nx _ h' => .ok .non h'
  | .rt w h' => .ok w h'
  | .exc c p _ h' => .exc c p h'
  | _ => .bad
theorem sr_start {K : PySem.W.Frag} {H : Hp} {ρ : List Addr} {N : List Str} {vs : List V} {ws : List W} (r : VRs K H ρ vs ws) : SR K H ρ (L2.start N vs) (startE N.length ws) := by
  refine ⟨by unfold L2.start startE; simp [r.length], fun i w h => ?_⟩
  unfold startE at h
  by_cases hi : i < ws.length
  · rw [List.getElem?_append_left (by simpa using hi), List.getElem?_map] at h
    cases hw : ws[i]? with
    | none => rw [hw] at h; cases h
    | some w' =>
      rw [hw] at h
      have e : w' = w := Option.some.inj (Option.some.inj h)
      subst e
      obtain ⟨v, hv, rv⟩ := r.get hw
      refine ⟨v, ?_, rv⟩
      unfold L2.start
      rw [List.getElem?_append_left (by rw [List.length_map, r.length]; exact hi), List.getElem?_map, hv]
      rfl
  · rw [List.getElem?_append_right (by simpa using hi)] at h
    have h2 := List.mem_of_getElem? h
    have := (List.mem_replicate.mp h2).2
    cases this
theorem fn_den {P : Program} {w : World} {K : PySem.W.Frag} {mg : Str → Option Value} {base : Heap} {x qual : Str} {st : Stmt} {f : Addr} {fd : FuncData} {N ps : List Str} {k : Nat} {m : Sm} (F : Fun K x qual st f fd) (S : FnScope N ps (defScope st)) (hm : mg x = some (.ref f)) (hb : Binds K fd ps [])
    (body : ∀ (cdv : Value) (A : Around) (outer : List PySem.Env) (s : Shared) (H : Hp) (E : XK), Room k (A.deeper (envOfC qual (defScope st) s.heap.objs.size f cdv)) → SSs G (cxOf (L2.CX P w) P w K mg base N qual (defScope st) f cdv A outer s H E) (defBody st) m) :
    FnD P w K mg base G (k + 1) x ps.length (mFun N.length m) := ⟨f, fd, ps, F.okX S (fun vs H Q E h => h.1) (fun cdv A outer s H vs Q E hr h => by
  obtain ⟨hl, ρ, h, ws, h1, h2, p⟩ := h
  refine ⟨_, body cdv A outer s H E hr (fun cls d _ H => E cls d H) (takes_of rfl rfl rfl rfl), ρ, _, h, h1, sr_start h2, ?_⟩
  unfold mFun at p
  cases hm : m (startE N.length ws) h with
  | nx e h' => rw [hm] at p; exact fun ρ' H' σ' x r s => p ρ' H' .non x r vr_non
  | rt w h' => rw [hm] at p; exact p
  | exc c q e h' => rw [hm] at p; exact fun ρ' H' σ' cls d x r s => p ρ' H' cls d x r
  | bk e h' => rw [hm] at p; exact False.elim p
  | ct e h' => rw [hm] at p; exact False.elim p
  | bad => rw [hm] at p; exact False.elim p), hm, F.kp, hb⟩

/-! ### raise of an own class without __init__ -/
structure ExD (K : PySem.W.Frag) (mg : Str → Option Value) (G : Gx) (x : Str) (c : Nat) (C : Addr) : Prop where
  ca : G.ca c = some C
  ex : PySem.W.excIn K C [.type "ValueError", .type "Exception", .type "BaseException", .type "object"] "ValueError.__new__" = true
  mg : mg x = some (.ref C)
  kp : PySem.W.keepIn K (.ref C) = true
  sb : PySem.W.subIn K (.ref C) (.type "BaseException") = some true
  ty : PySem.W.typeIn K (.ref C) = some (.type "type")
def mRaise (c : Nat) : Sm := fun e h => .exc c none e h
theorem ss_raise {x msg : Str} {c : Nat} {C : Addr} {j : Nat} {p1 p2 p3 : Pos} (T : ExD X.K X.mg G x c C) (hg : Gl X x) (hc : X.calm = true := by rfl) (hdb : (x == ("__debug__" : Str)) = false := by decide) :
    SS G X (.Raise (some (.Call (.Name x p1) [.Constant (.str msg) j p2] [] p3)) none pos) (mRaise c) := fun Wx tk =>
  (ps_raise hc tk (pmk_own PySem.F.excBase_ValueError T.ex T.mg T.kp (raises_own T.sb T.ty) hg hdb)).imp fun D σ H p => by
    obtain ⟨ρ, e, h, hr, sr, p⟩ := p
    exact p ρ H σ (.ref C) none (Ext.refl hr) hr sr ⟨C, T.ca, rfl, rfl⟩
end
end Den
set_option maxRecDepth 100000
/-! x(lambda: e), x a def that calls what it got and tells what was raised; a law's end. -/
namespace Den
open PySem L2 PyProof.Rows LamX
/-- what the clauses wish: the text of the first that fits -/
def wTell (K : PySem.W.Frag) (Q : VK) : List (Value × Str) → XK
  | [] => fun _ _ _ => False
  | (c, ret) :: r => fun cls d H => ∃ b, PySem.W.exmOne K cls c = some b ∧ (b = true → Q (.str ret) H) ∧ (b = false → wTell K Q r cls d H)
def TTell (K : PySem.W.Frag) (l : List (Value × Str)) : (XK → Hp → VK → Prop) → Hp → VK → Prop := fun tl H Q => tl (wTell K Q l) H Q
/-- the clauses of such a def -/
inductive Tells (sg : Scope) (mg : Str → Option Value) : List ExceptHandler → List (Value × Str) → Prop
  | nil : Tells sg mg [] []
  | cons {x ret : Str} {c : Value} {np p1 p2 p3 : Pos} {j : Nat} {hds : List ExceptHandler} {l : List (Value × Str)} (hg : sg.names.lookup x = some .globalImplicit) (hd : (x == ("__debug__" : Str)) = false) (hm : mg x = some c) (r : Tells sg mg hds l) :
      Tells sg mg (.ExceptHandler (some (.Name x np)) none [.Return (some (.Constant (.str ret) j p1)) p2] p3 :: hds) ((c, ret) :: l)
section
variable {G : Gx} {X : Cx}
theorem tells_ok {sg : Scope} {Y : Cx} (hY : Y.env.scope = sg) : ∀ {hds : List ExceptHandler} {l : List (Value × Str)}, Tells sg Y.mg hds l → HdsOk Y hds (l.map fun p => (p.1, fun _ _ _ => tRet (tC (.str p.2))))
  | _, _, .nil => .nil
  | _, _, .cons hg hd hm r => .cons ⟨by show Y.env.scope.names.lookup _ = _; rw [hY]; exact hg, hd, .inl hm⟩ (fun a oe cls d pn _ _ => pss_one (ps_ret pe_str)) (tells_ok hY r)
theorem wTell_many {K : PySem.W.Frag} {D : Ends} {cls : Value} {d : Option Addr} {σ : L2.St} {H : Hp} : ∀ (l : List (Value × Str)), wTell K D.rt l cls d H → wMany K (fun _ _ _ _ => False) D (l.map fun p => (p.1, fun _ _ _ => tRet (tC (.str p.2)))) cls d σ H
  | [], h => h.elim
  | (c, ret) :: l, h => by
    obtain ⟨b, e, h1, h2⟩ := h
    exact ⟨b, e, fun hb a _ => h1 hb, fun hb => wTell_many l (h2 hb)⟩
theorem tell_gives {Ng : List Str} {x a q : Str} {sg : Scope} {g : Addr} {cdg : Value} {p1 p2 p3 p8 : Pos} {h₀ : ExceptHandler} {hds : List ExceptHandler} {l : List (Value × Str)} (ht : Tells sg X.mg (h₀ :: hds) l) (h0 : ∀ f : Addr, (L2.start Ng [V.ref f])[0]? = some (some (V.ref f))) :
    GivesTo X Ng x sg g cdg [.Try [.Return (some (.Call (.Name a p1) [] [] p2)) p3] (h₀ :: hds) [] [] p8] a q (TTell X.K l) := by
  intro f c' s H Q tl act hc h
  refine ⟨_, pss_one (ps_try_many (X := (cxOf C8.CX0 X.prog X.w X.K X.mg X.base Ng x sg g cdg X.A X.stack s H C8.E0).nox)
      (tb := fun W D σ H => ∃ Ech : XK, (∀ cls d σ' H', Ech cls d H' → W cls d σ' H') ∧ σ[0]? = some (some (.ref f)) ∧ H c' = some (CodeO c' q) ∧ tl Ech H D.rt)
      rfl rfl LamX.takes0 (fun W pn xe tk _ => ?_) (tells_ok (sg := sg) rfl ht)), ?_⟩
  · refine ⟨fun pins s' σ H' D I h' => ?_⟩
    obtain ⟨Ech, hW, h1, h2, h3⟩ := h'
    have hp := act W pn xe Ech p1 p2 tk hW
    have hq := pss_one (ps_ret (pos := p3) hp)
    exact hq.run pins s' σ H' D I ⟨h1, h2, h3⟩
  · exact ⟨wTell X.K Q l, fun cls d σ' H' hw => wTell_many (D := { nx := fun _ H' => Q .non H', rt := Q }) l hw, h0 f, hc, h⟩
def tellGo : List (Nat × List Nat) → Nat → Option (List Nat)
  | [], _ => none
  | (c', r) :: l, c => if c' = c then some r else tellGo l c
def mTold (l : List (Nat × List Nat)) (m : M W) : M W := fun e h => match m e h with
  | .ok w h' => .ok w h'
  | .exc c _ h' => match tellGo l c with
    | some r => .ok (.str r) h'
    | none => .bad
  | .bad => .bad
/-- the clauses by number -/
def TellN (K : PySem.W.Frag) (G : Gx) (l : List (Value × Str)) (ln : List (Nat × List Nat)) : Prop := ∀ (c : Nat) (C : Addr) (r : List Nat), G.ca c = some C → tellGo ln c = some r → ∀ (d : Option Addr) (H : Hp) (Q : VK), Q (.str (mkS r)) H → wTell K Q l (.ref C) d H
theorem tellN_nil {K : PySem.W.Frag} : TellN K G [] [] := fun c C r h e => by cases e
theorem tellN_cons {K : PySem.W.Frag} {C' : Addr} {c' : Nat} {r' : List Nat} {ret : Str} {l : List (Value × Str)} {ln : List (Nat × List Nat)} (hr : ret = mkS r') (hx : ∀ c C, G.ca c = some C → PySem.W.exmOne K (.ref C) (.ref C') = some (decide (c' = c))) (h : TellN K G l ln) :
    TellN K G ((.ref C', ret) :: l) ((c', r') :: ln) := fun c C r hC e d H Q q => by
  refine ⟨_, hx c C hC, fun hb => ?_, fun hb => ?_⟩
  · have e2 := of_decide_eq_true hb
    unfold tellGo at e
    rw [if_pos e2] at e
    cases e
    rw [hr]
    exact q
  · have e2 := of_decide_eq_false hb
    unfold tellGo at e
    rw [if_neg e2] at e
    exact h c C r hC e d H Q q
/-- x(lambda: body) -/
theorem se_told {x a : Str} {st : Stmt} {g : Addr} {fd : FuncData} {Ng : List Str} {c P : Addr} {k j : Nat} {params : Arguments} {body : Expr} {scope : Scope} {mb : M W} {l : List (Value × Str)} {ln : List (Nat × List Nat)} {p lpos pos : Pos} {p1 p2 p3 p8 : Pos} {h₀ : ExceptHandler} {hds : List ExceptHandler}
    (F : Fun X.K x x st g fd) (hb : L2.Binds X.K fd [a] []) (hm : X.mg x = some (.ref g)) (Sg : FnScope Ng [a] (defScope st)) (hbody0 : defBody st = [.Try [.Return (some (.Call (.Name a p1) [] [] p2)) p3] (h₀ :: hds) [] [] p8])
    (hNg : Ng[0]? = some a) (hva : Vis (defScope st) a) (h0 : ∀ f : Addr, (L2.start Ng [V.ref f])[0]? = some (some (V.ref f))) (ht : Tells (defScope st) X.mg (h₀ :: hds) l) (hN : TellN X.K G l ln)
    (hg : Gl X x) (TB : TabB X.base X.mg c P) (hcode : X.env.code = .ref c) (hmT : (P, X.env.qual ++ "<lambda>") ∈ G.T) (hu : ∀ p ∈ G.T, p.1 = P → p.2 = X.env.qual ++ "<lambda>") (hr : Room j X.A) (hk : k + 2 ≤ j) (L : LamS X.env.scope scope) (hdef : defaultsOf params X.env = ([], []))
    (hbind : ∀ (q : Str) (cl : List (Str × Addr)) (pm cv ctv : Value), bindArgs (PySem.W.kla_fn "<lambda>" q params body scope cl pm cv ctv) ⟨[], []⟩ = pure [])
    (hbody : ∀ (A : Around) (outer : List PySem.Env) (s : Shared) (H : Hp) (E : XK) (f c' : Addr), Room k (A.deeper (lamEnv X scope s.heap.objs.size f c')) → SE G (lamCx X A outer s H E scope f c') body mb)
    (hdb : (x == ("__debug__" : Str)) = false := by decide) (hd : (a == ("__debug__" : Str)) = false := by decide) (hcd : (a == ("__classdict__" : Str)) = false := by decide) :
    SE G X (.Call (.Name x p) [.Lambda params body scope lpos] [] pos) (mTold ln mb) := fun Wx tk => by
  obtain ⟨oc, od, kV, doc, pm, an, cdv, ct, osl, rfl, lk, hcd'⟩ := F.ex
  refine (pe_lamcall (T := G.T) (k := k) (t := fun E => rd X.K G (fun cls d _ H => E cls d H) (VRel X.K) mb) (TT := TTell X.K l) hg hm F.kp lk hcd' hb Sg hNg hva (by rw [hbody0]; exact tell_gives ht h0) TB hcode hmT hu (hr.mono hk) L hdef hbind
    (fun A outer s H E f c' hr' => hbody A outer s H E f c' hr' _ (takes_of rfl rfl rfl rfl)) hdb hd hcd).imp fun σ H Q p => ?_
  obtain ⟨ρ, e, h, h1, sr, p⟩ := p
  refine ⟨h1.tb, fun H1 eN T1 => ?_⟩
  have x : Ext H ρ H1 ρ := ⟨fun b o e t _ => eN b o e (by intro ps z; subst z; cases t), List.prefix_rfl, fun _ a b => absurd a b, h1.mu, fun b o u e => eN b _ e (by intro ps z; cases z)⟩
  have r1 : HR X.K G H1 ρ h := ⟨h1.len, h1.nd, fun n a o e1 e2 => (h1.ob n a o e1 e2).mono x (by
    obtain ⟨u, hu, hm⟩ := (h1.ob n a o e1 e2).mut
    rw [hu]
    exact eN a u hu (by intro ps z; subst z; cases hm)), T1⟩
  refine ⟨ρ, e, h, r1, sr.mono x, ?_⟩
  have p := p.ext x
  unfold mTold at p
  cases hb : mb e h with
  | bad => rw [hb] at p; exact False.elim p
  | ok w h' => rw [hb] at p; exact p
  | exc c pl h' =>
    rw [hb] at p
    dsimp only at p
    split at p
    · rename_i r hr'
      intro ρ' H' cls d x' r' q'
      obtain ⟨C, hC, rfl, _⟩ := q'
      exact hN c C r hC hr' d H' Q (p ρ' H' _ x' r' vr_str)
    · exact False.elim p
end

/-! ### the law's def, its code object known -/
theorem law_den {G : Gx} {P : Program} {w : World} {K : PySem.W.Frag} {mg : Str → Option Value} {base : Heap} {x : Str} {st : Stmt} {f c : Addr} {N ps : List Str} {k : Nat} {m : Sm} {oc : Value} {od an : Option Addr} {osl : Array (Option Value)} {kV doc pm ct : Value}
    (lk : K.lookup f = some ⟨oc, od, .func (PySem.W.fnOf x x (defArgs st) (defBody st) (defScope st) .none kV doc pm an (.ref c) ct), osl⟩) (hcd : PySem.W.codeIn K (.ref c) x = true) (S : FnScope N ps (defScope st))
    (body : ∀ (A : Around) (outer : List PySem.Env) (s : Shared) (H : Hp) (E : XK), Room k (A.deeper (envOfC x (defScope st) s.heap.objs.size f (.ref c))) → SSs G (cxOf (L2.CX P w) P w K mg base N x (defScope st) f (.ref c) A outer s H E) (defBody st) m) :
    FnOk P w K mg base (L2.CX P w) (k + 1) f (PySem.W.fnOf x x (defArgs st) (defBody st) (defScope st) .none kV doc pm an (.ref c) ct) ps (spOf K G ps.length (mFun N.length m)) :=
  fn_of lk hcd S (fun vs H Q E h => h.1) fun A outer s H vs Q E hr h => by
    obtain ⟨hl, ρ, h, ws, h1, h2, p⟩ := h
    refine ⟨_, body A outer s H E hr (fun cls d _ H => E cls d H) (takes_of rfl rfl rfl rfl), ρ, _, h, h1, sr_start h2, ?_⟩
    unfold mFun at p
    cases hm : m (startE N.length ws) h with
    | nx e h' => rw [hm] at p; exact fun ρ' H' σ' x r s => p ρ' H' .non x r vr_non
    | rt w h' => rw [hm] at p; exact p
    | exc c q e h' => rw [hm] at p; exact fun ρ' H' σ' cls d x r s => p ρ' H' cls d x r
    | bk e h' => rw [hm] at p; exact False.elim p
    | ct e h' => rw [hm] at p; exact False.elim p
    | bad => rw [hm] at p; exact False.elim p
/-- the script is handed in -/
def scriptW (ns : List Int) : W := .rol (ns.map W.int)
theorem ints_vrs {K : PySem.W.Frag} {H : Hp} {ρ : List Addr} : ∀ ns : List Int, VRs K H ρ (ns.map V.int) (ns.map W.int)
  | [] => .nil
  | n :: ns => .cons vr_int (ints_vrs ns)
theorem law_sp {G : Gx} {K : PySem.W.Frag} {H : Hp} {a : Addr} {ns : List Int} {den : List W → List O → Out W} (hT : LamX.Tabs G.T H) (hs : SqL K H a (ns.map V.int)) {h' : List O} (hd : den [scriptW ns] [] = .ok (.bl true) h') :
    spOf K G 1 den [.ref a] H (fun v _ => v = .bl true) fun _ _ _ => False := by
  refine ⟨rfl, [], [], [scriptW ns], ⟨rfl, by simp, fun n a o e => by simp at e, hT⟩, .one ?_, ?_⟩
  · unfold scriptW VR
    refine ⟨a, _, rfl, ?_, ints_vrs ns⟩
    rcases hs with hs | hs
    · exact .inl ⟨hs, by simp⟩
    · exact .inr fun H' => .inr hs
  · rw [hd]
    exact fun ρ' H' v x r q => VR.bl q
end Den
set_option maxRecDepth 100000
/-! More operations: tuples of names, min over texts, index, in. -/
namespace Den
open PySem L2 PyProof.Rows
/-- whether an error of the class at S is what «except S'» names -/
theorem exm_mk {K : PySem.W.Frag} {S S' : Addr} {b : Bool} (h1 : PySem.W.subIn K (.ref S') (.type "BaseException") = some true) (h2 : PySem.W.isClsIn K S' = true) (h3 : PySem.W.typeIn K (.ref S') = some (.type "type")) (h4 : PySem.W.subIn K (.ref S) (.ref S') = some b) :
    PySem.W.exmOne K (.ref S) (.ref S') = some b := by
  have e1 : (PySem.W.subIn K (.ref S') (.type "BaseException") == some true) = true := by rw [h1] <;> rfl
  have e2 : ((PySem.W.clsIn K S').isSome && PySem.W.typeIn K (.ref S') == some (.type "type")) = true := by
    have h2' : (PySem.W.clsIn K S').isSome = true := h2
    rw [h2', h3] <;> rfl
  show (if (PySem.W.subIn K (.ref S') (.type "BaseException") == some true) = true then (if ((PySem.W.clsIn K S').isSome && PySem.W.typeIn K (.ref S') == some (.type "type")) = true then PySem.W.subIn K (.ref S) (.ref S') else none) else none) = some b
  rw [if_pos e1, if_pos e2]
  exact h4
theorem room65 {k : Nat} {A : Around} (r : Room k A) : A.units + 65 < cLine := by have := r.un; omega
section
variable {G : Gx} {X : Cx}
theorem VRs.inv3 {K : PySem.W.Frag} {H : Hp} {ρ : List Addr} {vs : List V} {w w' w'' : W} (r : VRs K H ρ vs [w, w', w'']) : ∃ v v' v'', vs = [v, v', v''] ∧ VR K H ρ v w ∧ VR K H ρ v' w' ∧ VR K H ρ v'' w'' := by
  unfold VRs at r
  obtain ⟨v, l, rfl, q, z⟩ := r
  obtain ⟨v', v'', rfl, q', q''⟩ := VRs.inv2 z
  exact ⟨v, v', v'', rfl, q, q', q''⟩
theorem ss_par3 {i j l : Nat} {x y z : Str} {a b c : Expr} {mr : M (List W)} {px py pz pt pos : Pos} {kt k2 pt2} (hc : X.calm = true) (hN : X.N.Nodup) (hi : X.N[i]? = some x) (hj : X.N[j]? = some y) (hl : X.N[l]? = some z) (hij : i ≠ j) (hil : i ≠ l) (hjl : j ≠ l)
    (hx : X.env.scope.names.lookup x = some .local) (hy : X.env.scope.names.lookup y = some .local) (hz : X.env.scope.names.lookup z = some .local) (ha : SA G X [a, b, c] mr)
    (hw : swappedStores [.Tuple [.Name x px, .Name y py, .Name z pz] kt pt] (.Tuple [a, b, c] k2 pt2) X.env = pure (some [x, y, z]))
    (hs : swapsWithSole [.Tuple [.Name x px, .Name y py, .Name z pz] kt pt] (.Tuple [a, b, c] k2 pt2) pos.line X.env = pure false := by rfl) :
    SS G X (.Assign [.Tuple [.Name x px, .Name y py, .Name z pz] kt pt] (.Tuple [a, b, c] k2 pt2) pos) (mTs [i, j, l] mr) := fun Wx tk =>
  (ps_par3 hc hN hi hj hl hij hil hjl hx hy hz (ha Wx tk) hw hs).imp fun D σ H p => rdS.stm (Rel := VsRel X.K) p fun H0 ρ0 e sr v H1 ρ1 h1 w x r q p1 => by
    split at p1
    · rename_i hl
      match w, hl, q, p1 with
      | [w1, w2, w3], hl, q, p1 =>
        obtain ⟨v1, v2, v3, rfl, q1, q2, q3⟩ := VRs.inv3 q
        exact ⟨v1, v2, v3, rfl, p1 ρ1 H1 _ (Ext.refl r) r ((((sr.mono x).set i q1).set j q2).set l q3)⟩
    · exact False.elim p1
theorem tgTs_fold : ∀ (is : List Nat) (ws : List W) (e : Den.Env), is.length = ws.length → tgTs is ws e = some ((is.zip ws).foldl (fun e p => e.set p.1 (some p.2)) e)
  | [], [], e, _ => rfl
  | i :: is, w :: ws, e, h => by
    show tgTs is ws (e.set i (some w)) = _
    rw [tgTs_fold is ws _ (by simpa using h)]
    rfl
  | [], _ :: _, _, h => by cases h
  | _ :: _, [], _, h => by cases h
theorem ss_asgT {is : List Nat} {tg e : Expr} {g : TG} {vs : List Nat} {mr : M (List W)} {pos : Pos} (he : SE G X e (mTup mr)) (hg : PG X tg g) (ht : TgOk X.K G vs g (tgT is)) (hl : is.length ≤ lim)
    (hs : swapsWithSole [tg] e pos.line X.env = pure false := by rfl) (hw : swappedStores [tg] e X.env = pure none := by rfl)
    (h1 : (assignEach [tg] X.env).map (·.2) = [assign tg X.env] := by rfl) : SS G X (.Assign [tg] e pos) (mTs is mr) := fun Wx tk =>
  (ss_asg he hg ht hs hw h1 Wx tk).imp fun D σ H p => by
    obtain ⟨ρ, e, h, hr, sr, p⟩ := p
    refine ⟨ρ, e, h, hr, sr, ?_⟩
    unfold mTs at p
    unfold mAsg mTup
    cases hm : mr e h with
    | bad => rw [hm] at p; exact False.elim p
    | exc c q h' => rw [hm] at p; exact p
    | ok ws h' =>
      rw [hm] at p
      simp only [Out.bnd_ok, Out.stm_ok] at p ⊢
      split at p
      · rename_i hw
        rw [if_pos (by rw [← hw]; exact hl), Out.stm_ok]
        show PostS X.K G Wx D H ρ (match tgTs is ws e with | some e => .nx e h' | none => .bad)
        rw [tgTs_fold is ws e hw]
        exact p
      · exact False.elim p

/-! ### min -/
def minS : List (List Nat) → List Nat
  | [] => []
  | x :: r => r.foldl (fun a y => if y < a then y else a) x
theorem reads_str {h : Heap} {x : Str} {t : Tok} {d : PyData} {as : List Addr} (r : Reads h (.str x t) d as) : d = .str x := by
  cases r
  rfl
theorem minD_strs (x : List Nat) (r : List (List Nat)) : PySem.W.minD (.str (mkS x)) (r.map fun y => .str (mkS y)) = .str (mkS (minS (x :: r))) := by
  unfold PySem.W.minD
  show _ = PyData.str (mkS (r.foldl (fun a y => if y < a then y else a) x))
  induction r generalizing x with
  | nil => rfl
  | cons y r ih =>
    rw [List.map_cons, List.foldl_cons, List.foldl_cons]
    have e : (if PySem.W.dataLt (.str (mkS y)) (.str (mkS x)) = true then (PyData.str (mkS y)) else .str (mkS x)) = .str (mkS (if y < x then y else x)) := by
      rw [PySem.W.dataLt_str]
      have e2 : (mkS y).cps.toList = y := by simp
      have e3 : (mkS x).cps.toList = x := by simp
      rw [e2, e3]
      by_cases h : y < x
      · simp [h]
      · simp [h]
    rw [e]
    exact ih _
theorem strs_reads {h : Heap} : ∀ {l : List (List Nat)} {us : List Value}, Vals ((l.map mkS).map V.str) us → ∃ as, ReadsAll h us (l.map fun y => .str (mkS y)) as
  | [], us, r => by cases r; exact ⟨_, .nil⟩
  | x :: l, us, r => by
    cases r with
    | cons r1 r2 =>
      obtain ⟨t, rfl⟩ := r1
      obtain ⟨as, q⟩ := strs_reads (h := h) r2
      exact ⟨_, .cons (.str _ t) q⟩
theorem strs_alike (l : List (List Nat)) : PySem.W.AlikeAll (l.map fun y => .str (mkS y)) := by
  refine ⟨fun x hx y hy => ?_, fun x hx => ?_⟩
  · obtain ⟨a, _, rfl⟩ := List.mem_map.mp hx
    obtain ⟨b, _, rfl⟩ := List.mem_map.mp hy
    unfold PySem.W.alike
    rfl
  · obtain ⟨a, _, rfl⟩ := List.mem_map.mp hx
    intro z
    cases z
theorem strs_depth (l : List (List Nat)) : PyData.depthAll (l.map fun y => .str (mkS y)) = 0 := by
  induction l with
  | nil => rfl
  | cons x l ih =>
    rw [List.map_cons]
    unfold PyData.depthAll
    rw [ih]
    rfl
def rMinS (K : PySem.W.Frag) : List V → Hp → VK → Prop := fun vs H Q => ∃ (a : Addr) (l : List (List Nat)), vs = [V.ref a] ∧ SqL K H a ((l.map mkS).map V.str) ∧ l ≠ [] ∧ Q (.str (mkS (minS l))) H
theorem cr_minS (hc : X.calm = true) (hu : X.A.units + 64 < cLine) : CallR X (.builtin "min") (rMinS X.K) := by
  intro pins s σ H vs us Q I r h
  obtain ⟨a, l, rfl, hs, hne, q⟩ := h
  obtain ⟨its, rv, hl, _⟩ := I.list hs
  rw [Vals.ref1 r]
  cases l with
  | nil => exact absurd rfl hne
  | cons x l =>
    obtain ⟨as, rd⟩ := strs_reads (h := s.heap) rv
    have hu2 : X.A.units + 1 + PyData.depthAll ((x :: l).map fun y => .str (mkS y)) < cLine := by rw [strs_depth]; omega
    refine PySem.W.min_list_data (I.ok.hd hc) hl.isList (by simpa using rd) (by simpa using strs_alike (x :: l)) (by simpa using hu2) fun i v h' tk bs hv hr hk => ?_
    rw [minD_strs] at hr
    have hv2 : its[i]? = some v := by simpa using hv
    have hlen : (x :: l).length = its.length := by have := rv.length; simpa using this
    obtain ⟨hi, e⟩ := List.getElem?_eq_some_iff.mp hv2
    have e3 : (((x :: l).map mkS).map V.str)[i]? = some (V.str (mkS ((x :: l)[i]'(by rw [hlen]; exact hi)))) := by
      rw [List.getElem?_map, List.getElem?_map, List.getElem?_eq_getElem (by rw [hlen]; exact hi)]
      rfl
    obtain ⟨u, e4, ru⟩ := rv.get e3
    rw [hv2] at e4
    cases e4
    obtain ⟨t, rfl⟩ := ru
    have e5 := PyData.str.inj (reads_str hr)
    refine ⟨.str (mkS (minS (x :: l))), H, I.kept hk, ?_, q⟩
    rw [e5]
    exact ⟨t, rfl⟩
def oMin (ws : List W) (h : List O) : Out W := match ws with
  | [.int i, .int j] => .ok (.int (if j < i then j else i)) h
  | [x] => match sqL x h with
    | some xs => match intsOf xs with
      | some l => if 0 < l.length then .ok (.int (minI l)) h else .bad
      | none => match strsOf xs with
        | some l => if 0 < l.length then .ok (.str (minS l)) h else .bad
        | none => .bad
    | none => .bad
  | _ => .bad
theorem cas_min (hc : X.calm = true) (hu : X.A.units + 64 < cLine) : CaS G X (.builtin "min") oMin := ⟨_, CallR.or (call_min2 hc) (CallR.or (cr_min hc) (cr_minS hc hu)), fun E H ρ h vs ws Q hr r p => by
  unfold oMin at p
  split at p
  · obtain ⟨v, v', rfl, q, q'⟩ := r.inv2
    exact .inl ⟨_, _, by rw [q.int, q'.int], p.here hr vr_int⟩
  · obtain ⟨v, rfl, q⟩ := r.inv1
    split at p
    · rename_i xs hx
      obtain ⟨a, vs, rfl, q, z⟩ := sqL_ok hr q hx
      split at p
      · rename_i l hl
        split at p
        · rename_i h0
          refine .inr (.inl ⟨a, l, rfl, by rw [← intsOf_ok z hl]; exact q, h0, fun m h1 h2 => ?_⟩)
          rw [minI_ok h1 h2]
          exact p.here hr vr_int
        · exact False.elim p
      · split at p
        · rename_i l hl
          split at p
          · rename_i h0
            exact .inr (.inr ⟨a, l, rfl, by rw [← strsOf_ok z hl]; exact q, (by intro e; subst e; exact Nat.lt_irrefl _ h0), p.here hr vr_str⟩)
          · exact False.elim p
        · exact False.elim p
    · exact False.elim p
  · exact False.elim p⟩

/-! ### index, in -/
def idxOf {α : Type} [BEq α] (x : α) : List α → Option Nat
  | [] => none
  | y :: r => if y == x then some 0 else (idxOf x r).map (· + 1)
theorem idxOf_ok {α : Type} [BEq α] {x : α} : ∀ {l : List α} {j : Nat}, idxOf x l = some j → (∃ y, l[j]? = some y ∧ (y == x) = true) ∧ ∀ m y, m < j → l[m]? = some y → (y == x) = false
  | [], j, e => by cases e
  | y :: r, j, e => by
    unfold idxOf at e
    split at e
    · rename_i h
      cases e
      exact ⟨⟨y, rfl, h⟩, fun m z hm => by omega⟩
    · rename_i h
      cases hi : idxOf x r with
      | none => rw [hi] at e; cases e
      | some k =>
        rw [hi] at e
        cases e
        obtain ⟨⟨z, h1, h2⟩, h3⟩ := idxOf_ok hi
        refine ⟨⟨z, by simpa using h1, h2⟩, fun m w hm hw => ?_⟩
        cases m with
        | zero =>
          simp at hw
          subst hw
          simpa using h
        | succ m => exact h3 m w (Nat.lt_of_succ_lt_succ hm) (by simpa using hw)
def oIndex (x : W) (ws : List W) (h : List O) : Out W := match ws with
  | [.str s] => match sqL x h with
    | some xs => match strsOf xs with
      | some l => match idxOf s l with
        | some j => .ok (.int j) h
        | none => .bad
      | none => .bad
    | none => .bad
  | [.int i] => match sqL x h with
    | some xs => match intsOf xs with
      | some l => match idxOf i l with
        | some j => .ok (.int j) h
        | none => .bad
      | none => .bad
    | none => .bad
  | _ => .bad
theorem mkS_beq (a b : List Nat) : (mkS a == mkS b) = (a == b) := by
  by_cases e : a = b
  · subst e; simp
  · rw [beq_eq_false_iff_ne.mpr e, beq_eq_false_iff_ne]
    intro z
    exact e (by simpa using congrArg (fun s : Str => s.cps.toList) z)
theorem flat_strs (l : List (List Nat)) : ((l.map mkS).map V.str).all flatV = true := by
  rw [List.all_eq_true]
  intro v hv
  obtain ⟨s, _, rfl⟩ := List.mem_map.mp hv
  rfl
theorem flat_ints (l : List Int) : (l.map V.int).all flatV = true := by
  rw [List.all_eq_true]
  intro v hv
  obtain ⟨s, _, rfl⟩ := List.mem_map.mp hv
  rfl
theorem mes_index : MeS G X "list.index" oIndex := ⟨_, mt_index, fun E H ρ h x wx vs ws Q hr rx r p => by
  unfold oIndex at p
  split at p
  · rename_i s
    split at p
    · rename_i xs hx
      split at p
      · rename_i l hl
        split at p
        · rename_i j hj
          obtain ⟨y, rfl, ry⟩ := r.inv1
          obtain ⟨a, vs, rfl, q, z⟩ := sqL_ok hr rx hx
          obtain ⟨⟨t, h1, h2⟩, h3⟩ := idxOf_ok hj
          rw [strsOf_ok z hl] at q
          refine ⟨a, _, _, j, V.str (mkS t), rfl, by rw [ry.str], q, rfl, flat_strs l, by rw [List.getElem?_map, List.getElem?_map, h1]; rfl, ?_, fun m z' hm hz => ?_, p.here hr vr_int⟩
          · show (mkS t == mkS s) = true
            rw [mkS_beq]; exact h2
          · rw [List.getElem?_map, List.getElem?_map] at hz
            cases hm2 : l[m]? with
            | none => rw [hm2] at hz; cases hz
            | some u =>
              rw [hm2] at hz
              cases hz
              show (mkS u == mkS s) = false
              rw [mkS_beq]
              exact h3 m u hm hm2
        · exact False.elim p
      · exact False.elim p
    · exact False.elim p
  · rename_i s
    split at p
    · rename_i xs hx
      split at p
      · rename_i l hl
        split at p
        · rename_i j hj
          obtain ⟨y, rfl, ry⟩ := r.inv1
          obtain ⟨a, vs, rfl, q, z⟩ := sqL_ok hr rx hx
          obtain ⟨⟨t, h1, h2⟩, h3⟩ := idxOf_ok hj
          rw [intsOf_ok z hl] at q
          refine ⟨a, _, _, j, V.int t, rfl, by rw [ry.int], q, rfl, flat_ints l, by rw [List.getElem?_map, h1]; rfl, ?_, fun m z' hm hz => ?_, p.here hr vr_int⟩
          · exact h2
          · rw [List.getElem?_map] at hz
            cases hm2 : l[m]? with
            | none => rw [hm2] at hz; cases hz
            | some u =>
              rw [hm2] at hz
              cases hz
              exact h3 m u hm hm2
        · exact False.elim p
      · exact False.elim p
    · exact False.elim p
  · exact False.elim p⟩
end
end Den
set_option maxRecDepth 100000
/-! The plain functions, calculated: what each part gives, rules for loops. -/
namespace Den
open PySem L2
theorem nrfl {α : Sort u} {a b : α} (h : a = b) : a = b := h
section
variable {α : Type}
theorem cons_app {a : α} {as bs : List α} : (a :: as) ++ bs = a :: (as ++ bs) := nrfl rfl
theorem nil_app {as : List α} : [] ++ as = as := nrfl rfl
theorem len_cons {a : α} {as : List α} : (a :: as).length = as.length + 1 := nrfl rfl
theorem len_nil : ([] : List α).length = 0 := nrfl rfl
theorem set_z {a b : α} {as : List α} : (a :: as).set 0 b = b :: as := nrfl rfl
theorem set_s {a b : α} {as : List α} {n : Nat} : (a :: as).set (n + 1) b = a :: as.set n b := nrfl rfl
theorem zip_cc {β : Type} {a : α} {b : β} {as : List α} {bs : List β} : (a :: as).zip (b :: bs) = (a, b) :: as.zip bs := nrfl rfl
theorem zip_nn {β : Type} : ([] : List α).zip ([] : List β) = [] := nrfl rfl
theorem foldl_c {β : Type} {f : β → α → β} {b : β} {a : α} {as : List α} : (a :: as).foldl f b = as.foldl f (f b a) := nrfl rfl
theorem foldl_n {β : Type} {f : β → α → β} {b : β} : ([] : List α).foldl f b = b := nrfl rfl
theorem ite_t {a b : α} : (if true = true then a else b) = a := nrfl rfl
theorem ite_T {a b : α} {d : Decidable True} : @ite α True d a b = a := if_pos trivial
theorem ite_F {a b : α} {d : Decidable False} : @ite α False d a b = b := if_neg id
theorem ite_f {a b : α} : (if false = true then a else b) = b := nrfl rfl
end
section
variable {α β : Type} {a b c : M W} {t u : M Bool} {op op' : W → W → List O → Out W} {e : Env} {h : List O} {i j k : Int} {w : W}
theorem mVar_z {r : Env} : mVar 0 (some w :: r) h = .ok w h := nrfl rfl
theorem mVar_s {n : Nat} {x : Option W} {r : Env} : mVar (n + 1) (x :: r) h = mVar n r h := by simp [mVar]
theorem ok_bnd {x : α} {f : α → List O → Out β} : (Out.ok x h).bnd f = f x h := nrfl rfl
theorem ok_stm {x : α} {f : α → List O → SOut} : (Out.ok x h).stm e f = f x h := nrfl rfl
theorem exc_bnd {n : Nat} {p : Option W} {f : α → List O → Out β} : (Out.exc n p h).bnd f = .exc n p h := nrfl rfl
theorem exc_stm {n : Nat} {p : Option W} {f : α → List O → SOut} : (Out.exc n p h).stm e f = .exc n p e h := nrfl rfl
theorem ap_C : mC w e h = .ok w h := nrfl rfl
theorem ap_Op : mOp op a b e h = (a e h).bnd fun x h => (b e h).bnd fun y h => op x y h := nrfl rfl
theorem ap_Un {op : W → List O → Out W} : mUn op a e h = (a e h).bnd fun x h => op x h := nrfl rfl
theorem ap_B : mB a e h = (a e h).bnd asB := nrfl rfl
theorem ap_Chain : mChain op op' a b c e h = (a e h).bnd fun x h => (b e h).bnd fun y h => (op x y h).bnd fun z h => (asB z h).bnd fun k h => if k = true then (c e h).bnd fun w h => op' y w h else .ok (.bl false) h := nrfl rfl
theorem ap_asB {x : Bool} : asB (.bl x) h = .ok x h := nrfl rfl
theorem ap_Tru : mTru a e h = (a e h).bnd truW := nrfl rfl
theorem ap_And : mAnd t u e h = (t e h).bnd fun c h => if c = true then u e h else .ok false h := nrfl rfl
theorem ap_Or : mOr t u e h = (t e h).bnd fun c h => if c = true then .ok true h else u e h := nrfl rfl
theorem ap_Not : mNot t e h = (t e h).bnd fun c h => .ok (!c) h := nrfl rfl
theorem ap_AndV : mAndV a b e h = (a e h).bnd fun x h => (truW x h).bnd fun k h => if k = true then b e h else .ok x h := nrfl rfl
theorem ap_OrV : mOrV a b e h = (a e h).bnd fun x h => (truW x h).bnd fun k h => if k = true then .ok x h else b e h := nrfl rfl
theorem ap_NotV : mNotV a e h = (a e h).bnd fun x h => (truW x h).bnd fun k h => .ok (.bl (!k)) h := nrfl rfl
theorem ap_If : mIf t a b e h = (t e h).bnd fun c h => if c = true then a e h else b e h := nrfl rfl
theorem ap_Nil : mNil e h = .ok [] h := nrfl rfl
theorem ap_Cons {r : M (List W)} : mCons a r e h = (a e h).bnd fun x h => (r e h).bnd fun xs h => .ok (x :: xs) h := nrfl rfl
theorem ap_Tup {m : M (List W)} : mTup m e h = (m e h).bnd fun xs h => if xs.length ≤ 1000000 then .ok (.tup xs) h else .bad := nrfl rfl
theorem ap_Lst {m : M (List W)} : mLst m e h = (m e h).bnd fun xs h => if xs.length ≤ 1000000 then .ok (.ref h.length) (h ++ [.lst xs]) else .bad := nrfl rfl
theorem ap_CB {f : List W → List O → Out W} {m : M (List W)} : mCB f m e h = (m e h).bnd fun ws h => f ws h := nrfl rfl
theorem ap_Meth {T : String} {f : W → List W → List O → Out W} {m : M (List W)} : mMeth T f a m e h = (a e h).bnd fun x h => if tyW T x h = true then (m e h).bnd fun ws h => f x ws h else .bad := nrfl rfl
theorem ap_Part : mPart a e h = (a e h).bnd fun w h => match w with
  | .int i => .ok (some i) h
  | _ => .bad := nrfl rfl
theorem ap_NoPart : mNoPart e h = .ok none h := nrfl rfl
theorem ap_Sl {lo hi : M (Option Int)} : mSl a lo hi e h = (a e h).bnd fun x h => (lo e h).bnd fun l h => (hi e h).bnd fun u h => oSl x l u h := nrfl rfl
theorem ap_Yes : mYes e h = .ok true h := nrfl rfl
theorem ap_Told {l : List (Nat × List Nat)} : mTold l a e h = match a e h with
  | .ok w h' => .ok w h'
  | .exc c _ h' => match tellGo l c with
    | some r => .ok (.str r) h'
    | none => .bad
  | .bad => .bad := nrfl rfl
/-! operations -/
theorem add_ii : oAdd (.int i) (.int j) h = .ok (.int (i + j)) h := nrfl rfl
theorem add_ss {s r : List Nat} (hl : s.length + r.length ≤ 1000000) : oAdd (.str s) (.str r) h = .ok (.str (s ++ r)) h := by unfold oAdd; exact if_pos hl
theorem sub_ii : oSub (.int i) (.int j) h = .ok (.int (i - j)) h := nrfl rfl
theorem neg_i : oNeg (.int i) h = .ok (.int (-i)) h := nrfl rfl
set_option exponentiation.threshold 100 in
theorem mulOk_of (h1 : i.natAbs < 2 ^ 50000000) (h2 : j.natAbs < 2 ^ 49999999) : mulOk i j = true := by
  unfold mulOk
  have l1 : i.natAbs.log2 < 50000000 := by
    by_cases z : i.natAbs = 0
    · rw [z]; decide
    · exact (Nat.log2_lt z).2 h1
  have l2 : j.natAbs.log2 < 49999999 := by
    by_cases z : j.natAbs = 0
    · rw [z]; decide
    · exact (Nat.log2_lt z).2 h2
  exact decide_eq_true (by omega)
theorem small_pow {n m : Nat} (h : n < 2 ^ 64) (hm : 64 ≤ m) : n < 2 ^ m := Nat.lt_of_lt_of_le h (Nat.pow_le_pow_right (by decide) hm)
theorem mul_ii (h1 : -18446744073709551616 < i ∧ i < 18446744073709551616) (h2 : -18446744073709551616 < j ∧ j < 18446744073709551616) : oMul (.int i) (.int j) h = .ok (.int (i * j)) h := by
  unfold oMul
  exact if_pos (mulOk_of (small_pow (by omega) (by decide)) (small_pow (by omega) (by decide)))
theorem fdiv_ii (h1 : 0 < j) (h2 : j < 18446744073709551616) : oFdiv (.int i) (.int j) h = .ok (.int (i / j)) h := by
  unfold oFdiv
  refine if_pos ⟨h1, ?_⟩
  have z : j.natAbs ≠ 0 := by omega
  exact (Nat.log2_lt z).2 (small_pow (by omega) (by decide))
theorem mod_ii (h1 : 0 < j) : oMod (.int i) (.int j) h = .ok (.int (i % j)) h := by unfold oMod; exact if_pos h1
theorem beq_dec {α : Type} [DecidableEq α] (x y : α) : (x == y) = decide (x = y) := by
  by_cases e : x = y <;> simp [e]
theorem eq_ii : oEq (.int i) (.int j) h = .ok (.bl (decide (i = j))) h := by show Out.ok (W.bl (i == j)) h = _; rw [beq_dec]
theorem ne_ii : oNe (.int i) (.int j) h = .ok (.bl (decide (i ≠ j))) h := by show Out.ok (W.bl (!(i == j))) h = _; rw [beq_dec, decide_not]
theorem eq_ss {s r : List Nat} : oEq (.str s) (.str r) h = .ok (.bl (decide (s = r))) h := by show Out.ok (W.bl (s == r)) h = _; by_cases e : s = r <;> simp [e]
theorem ne_ss {s r : List Nat} : oNe (.str s) (.str r) h = .ok (.bl (decide (s ≠ r))) h := by show Out.ok (W.bl (!(s == r))) h = _; by_cases e : s = r <;> simp [e]
theorem lt_ii : oLt (.int i) (.int j) h = .ok (.bl (decide (i < j))) h := nrfl rfl
theorem le_ii : oLe (.int i) (.int j) h = .ok (.bl (decide (i ≤ j))) h := nrfl rfl
theorem gt_ii : oGt (.int i) (.int j) h = .ok (.bl (decide (j < i))) h := nrfl rfl
theorem ge_ii : oGe (.int i) (.int j) h = .ok (.bl (decide (j ≤ i))) h := nrfl rfl
theorem lt_ss {s r : List Nat} : oLt (.str s) (.str r) h = .ok (.bl (decide (s < r))) h := nrfl rfl
theorem gt_ss {s r : List Nat} : oGt (.str s) (.str r) h = .ok (.bl (decide (r < s))) h := nrfl rfl
theorem le_ss {s r : List Nat} : oLe (.str s) (.str r) h = .ok (.bl (decide (¬ r < s))) h := by show Out.ok (W.bl (!decide (r < s))) h = _; rw [decide_not]
theorem ge_ss {s r : List Nat} : oGe (.str s) (.str r) h = .ok (.bl (decide (¬ s < r))) h := by show Out.ok (W.bl (!decide (s < r))) h = _; rw [decide_not]
theorem len_s {s : List Nat} (hl : s.length ≤ 1000000) : oLen [.str s] h = .ok (.int s.length) h := by unfold oLen; exact if_pos hl
theorem len_t {xs : List W} : oLen [.tup xs] h = .ok (.int xs.length) h := nrfl rfl
def withL {α : Type} (o : Option (List W)) (f : List W → Out α) : Out α := match o with
  | some xs => f xs
  | none => .bad
theorem withL_s {α : Type} {xs : List W} {f : List W → Out α} : withL (some xs) f = f xs := nrfl rfl
theorem len_r {n : Nat} {xs : List W} (hn : lstAt h n = some xs) : oLen [.ref n] h = .ok (.int xs.length) h := by unfold oLen; dsimp only; rw [lstAt_some hn]
theorem abs_i : oAbs [.int i] h = .ok (.int (if i < 0 then -i else i)) h := nrfl rfl
theorem int_i : oInt [.int i] h = .ok (.int i) h := nrfl rfl
theorem int_b {x : Bool} : oInt [.bl x] h = .ok (.int (if x then 1 else 0)) h := nrfl rfl
theorem max_ii : oMax [.int i, .int j] h = .ok (.int (if j > i then j else i)) h := nrfl rfl
theorem min_ii : oMin [.int i, .int j] h = .ok (.int (if j < i then j else i)) h := nrfl rfl
theorem atI_nat {α : Type} {xs : List α} {i : Int} (h0 : 0 ≤ i) (h1 : i < xs.length) : L2.atI xs i = some (xs[i.toNat]'(by omega)) := by
  unfold L2.atI L2.ixN
  rw [if_pos h0, if_pos h1]
  show xs[i.toNat]? = _
  exact List.getElem?_eq_getElem (by omega)
theorem atI_neg {α : Type} {xs : List α} {i : Int} (h0 : i < 0) (h1 : -(xs.length : Int) ≤ i) : L2.atI xs i = some (xs[(i + xs.length).toNat]'(by omega)) := by
  unfold L2.atI L2.ixN
  rw [if_neg (by omega), if_pos h1]
  show xs[(i + xs.length).toNat]? = _
  exact List.getElem?_eq_getElem (by omega)
theorem ix_s {s : List Nat} (h0 : 0 ≤ i) (h1 : i < s.length) (hl : s.length ≤ 1000000) : oIx (.str s) (.int i) h = .ok (.str [s.getD i.toNat 0]) h := by
  unfold oIx
  dsimp only
  rw [if_pos hl, atI_nat h0 h1]
  rw [List.getD_eq_getElem?_getD, List.getElem?_eq_getElem (by omega)]
  rfl
def ixL (xs : List W) (i : Int) (h : List O) : Out W := match L2.atI xs i with
  | some w => .ok w h
  | none => .bad
theorem ixL_ok {xs : List W} (h0 : 0 ≤ i) (h1 : i < xs.length) : ixL xs i h = .ok (xs.getD i.toNat .non) h := by
  unfold ixL
  rw [atI_nat h0 h1, List.getD_eq_getElem?_getD, List.getElem?_eq_getElem (by omega)]
  rfl
theorem ixL_0 {x : W} {r : List W} : ixL (x :: r) 0 h = .ok x h := by rw [ixL_ok (by omega) (by simp)]; rfl
theorem ixL_1 {x y : W} {r : List W} : ixL (x :: y :: r) 1 h = .ok y h := by rw [ixL_ok (by omega) (by simp; omega)]; rfl
theorem ixL_2 {x y z : W} {r : List W} : ixL (x :: y :: z :: r) 2 h = .ok z h := by rw [ixL_ok (by omega) (by simp; omega)]; rfl
theorem ixL_3 {x y z u : W} {r : List W} : ixL (x :: y :: z :: u :: r) 3 h = .ok u h := by rw [ixL_ok (by omega) (by simp; omega)]; rfl
theorem ix_r {n : Nat} : oIx (.ref n) (.int i) h = withL (lstAt h n) fun xs => ixL xs i h := by
  unfold oIx withL
  dsimp only [sqA]
  all_goals (cases lstAt h n <;> rfl)
theorem getL_r {n : Nat} : oGetL (.ref n) (.int i) h = withL (lstAt h n) fun xs => ixL xs i h := by
  unfold oGetL withL
  dsimp only [sqL]
  all_goals (cases lstAt h n <;> rfl)
theorem ix_tL {xs : List W} : oIx (.tup xs) (.int i) h = ixL xs i h := nrfl rfl
theorem ix_t {xs : List W} (h0 : 0 ≤ i) (h1 : i < xs.length) : oIx (.tup xs) (.int i) h = .ok (xs.getD i.toNat .non) h := by
  unfold oIx
  dsimp only [sqA]
  rw [atI_nat h0 h1, List.getD_eq_getElem?_getD, List.getElem?_eq_getElem (by omega)]
  rfl
def setL (n : Nat) (xs : List W) (i : Int) (w : W) (h : List O) : Out Unit := match L2.ixN xs.length i with
  | some j => .ok () (h.set n (.lst (xs.set j w)))
  | none => .bad
theorem setL_ok {n : Nat} {xs : List W} (h0 : 0 ≤ i) (h1 : i < xs.length) : setL n xs i w h = .ok () (h.set n (.lst (xs.set i.toNat w))) := by
  unfold setL L2.ixN
  rw [if_pos h0, if_pos h1]
theorem setL_0 {n : Nat} {x : W} {r : List W} : setL n (x :: r) 0 w h = .ok () (h.set n (.lst (w :: r))) := by rw [setL_ok (by omega) (by simp)]; rfl
theorem setL_1 {n : Nat} {x y : W} {r : List W} : setL n (x :: y :: r) 1 w h = .ok () (h.set n (.lst (x :: w :: r))) := by rw [setL_ok (by omega) (by simp; omega)]; rfl
theorem setL_2 {n : Nat} {x y z : W} {r : List W} : setL n (x :: y :: z :: r) 2 w h = .ok () (h.set n (.lst (x :: y :: w :: r))) := by rw [setL_ok (by omega) (by simp; omega)]; rfl
theorem set_r {n : Nat} : oSet (.ref n) (.int i) w h = withL (lstAt h n) fun xs => setL n xs i w h := by
  unfold oSet withL
  dsimp only
  all_goals (cases lstAt h n <;> rfl)
theorem app_r {n : Nat} : oAppend (.ref n) [w] h = withL (lstAt h n) fun xs => if xs.length < 1000000 then .ok .non (h.set n (.lst (xs ++ [w]))) else .bad := by
  unfold oAppend withL
  dsimp only
  all_goals (cases lstAt h n <;> rfl)
theorem lst_z {xs : List W} {r : List O} : lstAt (.lst xs :: r) 0 = some xs := nrfl rfl
theorem lst_s {o : O} {r : List O} {n : Nat} : lstAt (o :: r) (n + 1) = lstAt r n := by unfold lstAt; rw [List.getElem?_cons_succ]
theorem lst_last {xs : List W} : lstAt (h ++ [.lst xs]) h.length = some xs := by unfold lstAt; rw [List.getElem?_append_right (Nat.le_refl _), Nat.sub_self]; rfl
theorem lst_old {n : Nat} {r : List O} (hl : n < h.length) : lstAt (h ++ r) n = lstAt h n := by unfold lstAt; rw [List.getElem?_append_left hl]
theorem lst_set {n : Nat} {xs : List W} (hl : n < h.length) : lstAt (h.set n (.lst xs)) n = some xs := by unfold lstAt; rw [List.getElem?_set_self hl]
theorem lst_ne {n m : Nat} {o : O} (hl : n ≠ m) : lstAt (h.set n o) m = lstAt h m := by unfold lstAt; rw [List.getElem?_set_ne hl]
theorem lst_lt {n : Nat} {xs : List W} (e : lstAt h n = some xs) : n < h.length := by
  rcases Nat.lt_or_ge n h.length with x | x
  · exact x
  · have e2 := lstAt_some e
    rw [List.getElem?_eq_none x] at e2; cases e2
theorem iadd_ii : oIadd (.int i) (.int j) h = .ok (.int (i + j)) h := nrfl rfl
theorem tuple_r {n : Nat} : oTuple [.ref n] h = withL (lstAt h n) fun xs => .ok (.tup xs) h := by
  unfold oTuple withL
  dsimp only [sqL]
  all_goals (cases lstAt h n <;> rfl)
theorem mul_ri {n : Nat} {k : Int} (h1 : -4611686018427387904 ≤ k) (h2 : k < 4611686018427387904) : oMul (.ref n) (.int k) h = withL (lstAt h n) fun a => if a.length * k.toNat ≤ 1000000 then .ok (.ref h.length) (h ++ [.lst (List.replicate k.toNat a).flatten]) else .bad := by
  unfold oMul withL
  dsimp only
  cases lstAt h n with
  | none => rfl
  | some a =>
    dsimp only
    by_cases hl : a.length * k.toNat ≤ 1000000
    · rw [if_pos hl, if_pos ⟨by omega, by omega, hl⟩]
    · rw [if_neg hl, if_neg (fun x => hl x.2.2)]
theorem sl_s {s : List Nat} {lo hi : Option Int} (hl : s.length ≤ 1000000) : oSl (.str s) lo hi h = .ok (.str (cutW s lo hi)) h := by unfold oSl; exact if_pos hl
theorem cut_from {α : Type} {xs : List α} {i : Int} (h0 : 0 ≤ i) : cutW xs (some i) none = xs.drop i.toNat := by
  unfold cutW HT.sIx
  dsimp only
  rw [if_neg (by omega)]
  by_cases hl : i.toNat ≤ xs.length
  · rw [Nat.min_eq_left hl, List.take_of_length_le (by simp)]
  · rw [Nat.min_eq_right (by omega), Nat.sub_self, List.take_zero, List.drop_eq_nil_of_le (by omega)]
theorem cut_to {α : Type} {xs : List α} {i : Int} (h0 : 0 ≤ i) : cutW xs none (some i) = xs.take i.toNat := by
  unfold cutW HT.sIx
  dsimp only
  rw [if_neg (by omega)]
  rw [List.drop_zero, Nat.sub_zero]
  by_cases hl : i.toNat ≤ xs.length
  · rw [Nat.min_eq_left hl]
  · rw [Nat.min_eq_right (by omega), List.take_of_length_le (Nat.le_refl _), List.take_of_length_le (by omega)]
theorem cut_mid {α : Type} {xs : List α} {i j : Int} (h0 : 0 ≤ i) (h1 : i ≤ j) (h2 : j ≤ xs.length) : cutW xs (some i) (some j) = (xs.drop i.toNat).take (j - i).toNat := by
  unfold cutW HT.sIx
  dsimp only
  rw [if_neg (by omega), if_neg (by omega), Nat.min_eq_left (by omega), Nat.min_eq_left (by omega)]
  congr 1
  omega
end
/-! ### statements -/
def SOut.seq (o : SOut) (b : Sm) : SOut := match o with
  | .nx e h => b e h
  | .rt w h => .rt w h
  | .bk e h => .bk e h
  | .ct e h => .ct e h
  | .exc c p e h => .exc c p e h
  | .bad => .bad
section
variable {s b : Sm} {e : Env} {h : List O} {m : M W} {t : M Bool} {ml : M (List W)} {w : W}
theorem ap_Seq : mSeq s b e h = (s e h).seq b := nrfl rfl
theorem nx_seq : (SOut.nx e h).seq b = b e h := nrfl rfl
theorem rt_seq : (SOut.rt w h).seq b = .rt w h := nrfl rfl
theorem ct_seq : (SOut.ct e h).seq b = .ct e h := nrfl rfl
theorem bk_seq : (SOut.bk e h).seq b = .bk e h := nrfl rfl
theorem exc_seq {c : Nat} {p : Option W} : (SOut.exc c p e h).seq b = .exc c p e h := nrfl rfl
theorem ap_Raise {c : Nat} : mRaise c e h = .exc c none e h := nrfl rfl
theorem ap_Skip : mSkip e h = .nx e h := nrfl rfl
theorem ap_Brk : mBrk e h = .bk e h := nrfl rfl
theorem ap_Cnt : mCnt e h = .ct e h := nrfl rfl
theorem ap_Drop : mDrop m e h = (m e h).stm e fun _ h => .nx e h := nrfl rfl
theorem ap_Ret : mRet m e h = (m e h).stm e fun w h => .rt w h := nrfl rfl
theorem ap_IfS : mIfS t s b e h = (t e h).stm e fun c h => if c = true then s e h else b e h := nrfl rfl
theorem ap_Set {i : Nat} : mSet i m e h = (m e h).stm e fun w h => .nx (e.set i (some w)) h := nrfl rfl
theorem ap_Ts {is : List Nat} : mTs is ml e h = (ml e h).stm e fun ws h => if is.length = ws.length then .nx ((is.zip ws).foldl (fun e p => e.set p.1 (some p.2)) e) h else .bad := nrfl rfl
theorem ap_AsgT {is : List Nat} : mAsg (tgT is) m e h = (m e h).stm e fun w h => match tgT is w e with
  | some e => .nx e h
  | none => .bad := nrfl rfl
theorem tgT_t {is : List Nat} {ws : List W} : tgT is (.tup ws) e = tgTs is ws e := nrfl rfl
theorem tgTs_n : tgTs [] [] e = some e := nrfl rfl
theorem tgTs_c {i : Nat} {is : List Nat} {ws : List W} : tgTs (i :: is) (w :: ws) e = tgTs is ws (e.set i (some w)) := nrfl rfl
theorem ap_Aug {i : Nat} {f : W → W → List O → Out W} : mAug i f m e h = (mVar i e h).stm e fun x _ => (m e h).stm e fun y h => (f x y h).stm e fun z h => .nx (e.set i (some z)) h := by
  unfold mAug mVar
  rcases hx : e[i]? with _ | (_ | x) <;> rfl
theorem ap_SetI {f : W → W → W → List O → Out Unit} {mo mi : M W} : mSetI f mo mi m e h = (m e h).stm e fun v h => (mo e h).stm e fun o h => (mi e h).stm e fun i h => (f o i v h).stm e fun _ h => .nx e h := nrfl rfl
theorem ap_AugI {g f : W → W → List O → Out W} {st : W → W → W → List O → Out Unit} {mo mi : M W} : mAugI g f st mo mi m e h = (mo e h).stm e fun o h => (mi e h).stm e fun i h => (g o i h).stm e fun x h =>
  (m e h).stm e fun y h => (f x y h).stm e fun z h => (st o i z h).stm e fun _ h => .nx e h := nrfl rfl
end
/-! ### reading on: what is asked of the rest -/
def Ev {α : Type} (o : Out α) (Q : α → List O → Prop) : Prop := match o with
  | .ok a h => Q a h
  | _ => False
def Sv (o : SOut) (Q : SOut → Prop) : Prop := Q o
section
variable {α β : Type} {o : Out α} {f : α → List O → Out β} {g : α → List O → SOut} {Q : β → List O → Prop} {R : SOut → Prop} {e : Env} {h : List O} {s : SOut} {b : Sm}
theorem ev_ok {x : α} {Q : α → List O → Prop} (q : Q x h) : Ev (.ok x h) Q := q
theorem ev_okE {x : α} {Q : α → List O → Prop} : Ev (.ok x h) Q = Q x h := nrfl rfl
theorem ev_bnd (p : Ev o fun a h => Ev (f a h) Q) : Ev (o.bnd f) Q := by
  cases o with
  | ok a h => exact p
  | exc c q h => exact p.elim
  | bad => exact p.elim
theorem sv_stm (p : Ev o fun a h => Sv (g a h) R) : Sv (o.stm e g) R := by
  cases o with
  | ok a h => exact p
  | exc c q h => exact p.elim
  | bad => exact p.elim
theorem sv_seq (p : Sv s fun o => Sv (o.seq b) R) : Sv (s.seq b) R := p
theorem ev_imp {Q Q' : α → List O → Prop} (p : Ev o Q) (i : ∀ a h, Q a h → Q' a h) : Ev o Q' := by
  cases o with
  | ok a h => exact i a h p
  | exc c q h => exact p.elim
  | bad => exact p.elim
theorem sv_cut {R' : SOut → Prop} (p : Sv s R') (i : ∀ o, R' o → Sv (o.seq b) R) : Sv (s.seq b) R := i _ p
theorem sv_imp {R R' : SOut → Prop} (p : Sv s R) (i : ∀ o, R o → R' o) : Sv s R' := i _ p
theorem ev_eq {x : α} {Q : α → List O → Prop} (hE : o = .ok x h) (q : Q x h) : Ev o Q := by rw [hE]; exact q
theorem ev_get {Q : α → List O → Prop} (p : Ev o Q) : ∃ a h, o = .ok a h ∧ Q a h := by
  cases o with
  | ok a h => exact ⟨a, h, rfl, p⟩
  | exc c q h => exact p.elim
  | bad => exact p.elim
end
section
variable {body : Sm} {e : Env} {h : List O} {R : SOut → Prop} {n : Nat} {src : Src} {t : Tg}
/-- what a round of a loop hands on -/
def rnd (I : Env → List O → Prop) (R : SOut → Prop) : SOut → Prop
  | .nx e h => I e h
  | .ct e h => I e h
  | .bk e h => R (.nx e h)
  | .rt w h => R (.rt w h)
  | .exc c p e h => R (.exc c p e h)
  | .bad => False
theorem forGo_sv (N : Nat) (I : Nat → Env → List O → Prop) (step : ∀ i e h, i < N → I i e h → ∃ w e1, src i h = some (some w) ∧ t w e = some e1 ∧ Sv (body e1 h) (rnd (I (i + 1)) R))
    (stop : ∀ e h, I N e h → src N h = some none ∧ R (.nx e h)) : ∀ (k i : Nat) (e : Env) (h : List O), N - i < k → i ≤ N → I i e h → Sv (forGo src t body k i e h) R
  | 0, i, e, h, hk, _, _ => by omega
  | k + 1, i, e, h, hk, hi, p => by
    by_cases hN : i = N
    · subst hN
      obtain ⟨h1, h2⟩ := stop e h p
      show R _
      unfold forGo
      rw [h1]
      exact h2
    · obtain ⟨w, e1, h1, h2, h3⟩ := step i e h (by omega) p
      have ih := forGo_sv N I step stop k (i + 1)
      show R _
      unfold forGo
      rw [h1]
      dsimp only
      rw [h2]
      dsimp only
      change rnd (I (i + 1)) R (body e1 h) at h3
      cases hb : body e1 h with
      | nx e2 h2 => rw [hb] at h3; exact ih e2 h2 (by omega) (by omega) h3
      | ct e2 h2 => rw [hb] at h3; exact ih e2 h2 (by omega) (by omega) h3
      | bk e2 h2 => rw [hb] at h3; exact h3
      | rt w h2 => rw [hb] at h3; exact h3
      | exc c p e2 h2 => rw [hb] at h3; exact h3
      | bad => rw [hb] at h3; exact h3.elim
theorem mFor_ap {it : M Src} : mFor n it t body e h = (it e h).stm e fun src h => forGo src t body n 0 e h := nrfl rfl
theorem ap_Rng1 {ml : M (List W)} : mRng1 ml e h = (ml e h).bnd fun ws h => match ws with
  | [.int j] => if -(2 ^ 62) ≤ j ∧ j < 2 ^ 62 then .ok (srcN 0 j.toNat) h else .bad
  | _ => .bad := nrfl rfl
theorem ap_Rng2 {ml : M (List W)} : mRng2 ml e h = (ml e h).bnd fun ws h => match ws with
  | [.int i, .int j] => if -(2 ^ 62) ≤ i ∧ i < 2 ^ 62 ∧ -(2 ^ 62) ≤ j ∧ j < 2 ^ 62 then .ok (srcN i (j - i).toNat) h else .bad
  | _ => .bad := nrfl rfl
theorem ap_Iter {m : M W} : mIter m e h = (m e h).bnd toSrc := nrfl rfl
theorem src_t {xs : List W} : toSrc (.tup xs) h = .ok (srcL xs) h := nrfl rfl
theorem src_s {xs : List Nat} : toSrc (.str xs) h = .ok (srcS xs) h := nrfl rfl
theorem src_r {m : Nat} {xs : List W} (hm : lstAt h m = some xs) : toSrc (.ref m) h = .ok (srcR m) h := by
  unfold toSrc
  dsimp only
  rw [hm]
theorem src_rL {m : Nat} : toSrc (.ref m) h = withL (lstAt h m) fun _ => .ok (srcR m) h := by
  unfold toSrc withL
  dsimp only
  all_goals (cases lstAt h m <;> rfl)
theorem rng1_ok {j : Int} (h1 : -4611686018427387904 ≤ j) (h2 : j < 4611686018427387904) : (if -(2 ^ 62) ≤ j ∧ j < 2 ^ 62 then Out.ok (srcN 0 j.toNat) h else .bad) = .ok (srcN 0 j.toNat) h := if_pos ⟨by omega, by omega⟩
theorem rng2_ok {i j : Int} (h0 : -4611686018427387904 ≤ i ∧ i < 4611686018427387904) (h1 : -4611686018427387904 ≤ j) (h2 : j < 4611686018427387904) : (if -(2 ^ 62) ≤ i ∧ i < 2 ^ 62 ∧ -(2 ^ 62) ≤ j ∧ j < 2 ^ 62 then Out.ok (srcN i (j - i).toNat) h else .bad) = .ok (srcN i (j - i).toNat) h := if_pos ⟨by omega, by omega, by omega, by omega⟩
theorem forGo_rng (N : Nat) (lo : Int) (v : Nat) (I : Nat → Env → List O → Prop) (hn : N < n) (h0 : I 0 e h) (step : ∀ i e h, i < N → I i e h → Sv (body (e.set v (some (.int (lo + i)))) h) (rnd (I (i + 1)) R))
    (stop : ∀ e h, I N e h → R (.nx e h)) : Sv (forGo (srcN lo N) (tgN v) body n 0 e h) R :=
  forGo_sv N I (fun i e h hi p => ⟨_, _, by unfold srcN; exact if_pos hi, rfl, step i e h hi p⟩) (fun e h p => ⟨by unfold srcN; exact if_neg (by omega), stop e h p⟩) n 0 e h (by omega) (by omega) h0
theorem forGo_tup (xs : List W) (v : Nat) (I : Nat → Env → List O → Prop) (hn : xs.length < n) (h0 : I 0 e h) (step : ∀ i e h (hi : i < xs.length), I i e h → Sv (body (e.set v (some xs[i])) h) (rnd (I (i + 1)) R))
    (stop : ∀ e h, I xs.length e h → R (.nx e h)) : Sv (forGo (srcL xs) (tgN v) body n 0 e h) R :=
  forGo_sv xs.length I (fun i e h hi p => ⟨_, _, by unfold srcL; rw [List.getElem?_eq_getElem hi], rfl, step i e h hi p⟩) (fun e h p => ⟨by unfold srcL; rw [List.getElem?_eq_none (by omega)], stop e h p⟩) n 0 e h (by omega) (by omega) h0
/-- over a list on the heap that stays -/
theorem forGo_ref (m : Nat) (xs : List W) (v : Nat) (I : Nat → Env → List O → Prop) (hn : xs.length < n) (h0 : I 0 e h) (keep : ∀ i e h, I i e h → lstAt h m = some xs) (step : ∀ i e h (hi : i < xs.length), I i e h → Sv (body (e.set v (some xs[i])) h) (rnd (I (i + 1)) R))
    (stop : ∀ e h, I xs.length e h → R (.nx e h)) : Sv (forGo (srcR m) (tgN v) body n 0 e h) R :=
  forGo_sv xs.length I (fun i e h hi p => ⟨_, _, by unfold srcR; rw [keep i e h p]; show some xs[i]? = _; rw [List.getElem?_eq_getElem hi], rfl, step i e h hi p⟩)
    (fun e h p => ⟨by unfold srcR; rw [keep _ e h p]; show some xs[xs.length]? = _; rw [List.getElem?_eq_none (by omega)], stop e h p⟩) n 0 e h (by omega) (by omega) h0
theorem while_sv {c : M Bool} (I : Nat → Env → List O → Prop) (step : ∀ m e h, I m e h → Ev (c e h) fun b h1 => if b = true then Sv (body e h1) (rnd (fun e2 h2 => ∃ m2, m2 < m ∧ I m2 e2 h2) R) else R (.nx e h1)) :
    ∀ (k m : Nat) (e : Env) (h : List O), m < k → I m e h → Sv (whileGo c body k e h) R
  | 0, m, e, h, hk, _ => by omega
  | k + 1, m, e, h, hk, p => by
    obtain ⟨b, h1, hc, p1⟩ := ev_get (step m e h p)
    show R _
    unfold whileGo
    rw [hc]
    show R (if b = true then _ else _)
    cases b with
    | false => exact p1
    | true =>
      rw [if_pos rfl] at p1 ⊢
      change rnd _ R (body e h1) at p1
      cases hb : body e h1 with
      | nx e2 h2 => rw [hb] at p1; obtain ⟨m2, hm, q⟩ := p1; exact while_sv I step k m2 e2 h2 (by omega) q
      | ct e2 h2 => rw [hb] at p1; obtain ⟨m2, hm, q⟩ := p1; exact while_sv I step k m2 e2 h2 (by omega) q
      | bk e2 h2 => rw [hb] at p1; exact p1
      | rt w h2 => rw [hb] at p1; exact p1
      | exc c p e2 h2 => rw [hb] at p1; exact p1
      | bad => rw [hb] at p1; exact p1.elim
theorem mWhile_sv {c : M Bool} (m : Nat) (I : Nat → Env → List O → Prop) (hm : m < n) (h0 : I m e h) (step : ∀ m e h, I m e h → Ev (c e h) fun b h1 => if b = true then Sv (body e h1) (rnd (fun e2 h2 => ∃ m2, m2 < m ∧ I m2 e2 h2) R) else R (.nx e h1)) :
    Sv (mWhile n c body e h) R := while_sv I step n m e h hm h0
end
/-! ### lists made in place -/
section
variable {e e0 : Env} {h : List O} {n D : Nat} {src : Src} {t : Tg} {cond : M Bool} {elt : M W} {Q : W → List O → Prop} {own : List Nat} {it : M Src}
theorem ap_Comp : mComp n own it t cond elt e h = (it e h).bnd fun src h => compGo src t cond elt h.length (wipeE e own) n 0 (h ++ [.lst []]) := nrfl rfl
theorem compGo_ev (N : Nat) (hN : N ≤ 1000000) (I : Nat → List W → List O → Prop)
    (step : ∀ i acc h, i < N → acc.length ≤ i → h[D]? = some (.lst acc) → I i acc h → ∃ w e1, src i h = some (some w) ∧ t w e0 = some e1 ∧
      Ev (cond e1 h) fun b h2 => if b = true then Ev (elt e1 h2) fun y h3 => h3[D]? = some (.lst acc) ∧ I (i + 1) (acc ++ [y]) (h3.set D (.lst (acc ++ [y]))) else h2[D]? = some (.lst acc) ∧ I (i + 1) acc h2)
    (stop : ∀ acc h, h[D]? = some (.lst acc) → I N acc h → src N h = some none ∧ Q (.ref D) h) :
    ∀ (k i : Nat) (acc : List W) (h : List O), N - i < k → i ≤ N → acc.length ≤ i → h[D]? = some (.lst acc) → I i acc h → Ev (compGo src t cond elt D e0 k i h) Q
  | 0, i, acc, h, hk, _, _, _, _ => by omega
  | k + 1, i, acc, h, hk, hi, ha, hD, p => by
    by_cases hN' : i = N
    · subst hN'
      obtain ⟨h1, h2⟩ := stop acc h hD p
      unfold compGo
      rw [h1]
      exact h2
    · obtain ⟨w, e1, h1, h2, h3⟩ := step i acc h (by omega) ha hD p
      obtain ⟨b, hc, hb, h3⟩ := ev_get h3
      unfold compGo
      rw [h1]
      dsimp only
      rw [h2]
      dsimp only
      rw [hb]
      dsimp only
      cases b with
      | false =>
        rw [if_neg (by decide)] at h3 ⊢
        exact compGo_ev N hN I step stop k (i + 1) acc hc (by omega) (by omega) (by omega) h3.1 h3.2
      | true =>
        rw [if_pos rfl] at h3 ⊢
        obtain ⟨y, hy, e2, h4, h5⟩ := ev_get h3
        rw [e2]
        dsimp only [lstAt]
        rw [h4]
        dsimp only
        rw [if_pos (by show acc.length < 1000000; omega)]
        have hl : D < hy.length := by
          rcases Nat.lt_or_ge D hy.length with x | x
          · exact x
          · rw [List.getElem?_eq_none x] at h4; cases h4
        exact compGo_ev N hN I step stop k (i + 1) (acc ++ [y]) _ (by omega) (by omega) (by simp; omega) (by rw [List.getElem?_set_self hl]) h5
/-- h' is h and some more -/
def Gr (h h' : List O) : Prop := ∃ j, h' = h ++ j
theorem Gr.refl : Gr h h := ⟨[], by simp⟩
theorem Gr.trans {h1 h2 h3 : List O} (a : Gr h1 h2) (b : Gr h2 h3) : Gr h1 h3 := by
  obtain ⟨j, rfl⟩ := a
  obtain ⟨k, rfl⟩ := b
  exact ⟨j ++ k, by simp⟩
theorem Gr.app {h1 h2 : List O} : Gr h1 (h1 ++ h2) := ⟨_, rfl⟩
theorem Gr.get {h1 h2 : List O} {n : Nat} {o : O} (g : Gr h1 h2) (e : h1[n]? = some o) : h2[n]? = some o := by
  obtain ⟨j, rfl⟩ := g
  have hl : n < h1.length := by
    rcases Nat.lt_or_ge n h1.length with x | x
    · exact x
    · rw [List.getElem?_eq_none x] at e; cases e
  rw [List.getElem?_append_left hl]
  exact e
theorem Gr.lst {h1 h2 : List O} {n : Nat} {xs : List W} (g : Gr h1 h2) (e : lstAt h1 n = some xs) : lstAt h2 n = some xs := by
  unfold lstAt
  rw [g.get (lstAt_some e)]
theorem Gr.lastL {h1 h2 : List O} {xs : List W} (g : Gr (h1 ++ [.lst xs]) h2) : lstAt h2 h1.length = some xs := g.lst lst_last
theorem Gr.last {h1 h2 : List O} {o : O} (g : Gr (h1 ++ [o]) h2) : h2[h1.length]? = some o := g.get (by simp)
theorem Gr.left {h1 h2 h3 : List O} (g : Gr (h1 ++ h2) h3) : Gr h1 h3 := Gr.app.trans g
/-- a part that leaves the heap as it is, but for new things -/
def Pu {α : Type} (h0 : List O) (o : List O → Out α) (w : α) : Prop := ∀ h, Gr h0 h → Ev (o h) fun x h' => x = w ∧ Gr h h'
/-- the list of what the wanted ones give -/
def picks (N : Nat) (c : Nat → Bool) (f : Nat → W) : List W := ((List.range N).filter c).map f
theorem picks_succ {N : Nat} {c : Nat → Bool} {f : Nat → W} : picks (N + 1) c f = if c N = true then picks N c f ++ [f N] else picks N c f := by
  unfold picks
  rw [List.range_succ, List.filter_append]
  by_cases hc : c N = true
  · rw [if_pos hc]; simp [hc]
  · rw [if_neg hc]; simp [hc]
theorem picks_len {N : Nat} {c : Nat → Bool} {f : Nat → W} : (picks N c f).length ≤ N := by
  unfold picks
  rw [List.length_map]
  exact Nat.le_trans (List.length_filter_le _ _) (by simp)
theorem comp_pure (N : Nat) (hN : N ≤ 1000000) (hn : N < n) (c : Nat → Bool) (f : Nat → W) (v : Nat → W) (e1 : Nat → Env) (hs : ∀ i, i < N → ∀ h', Gr h h' → src i h' = some (some (v i))) (hs2 : ∀ h', Gr h h' → src N h' = some none) (ht : ∀ i, i < N → t (v i) e0 = some (e1 i))
    (hc : ∀ i, i < N → Pu h (cond (e1 i)) (c i)) (he : ∀ i, i < N → c i = true → Pu h (elt (e1 i)) (f i))
    (q : ∀ h', Gr (h ++ [.lst (picks N c f)]) h' → Q (.ref h.length) h') : Ev (compGo src t cond elt h.length e0 n 0 (h ++ [.lst []])) Q := by
  refine compGo_ev N hN (fun i acc h' => acc = picks i c f ∧ Gr (h ++ [.lst acc]) h') (fun i acc h' hi ha hD p => ?_) (fun acc h' hD p => ?_) n 0 [] _ (by omega) (by omega) (by simp) (by simp) ⟨rfl, Gr.refl⟩
  · obtain ⟨pa, pg⟩ := p
    refine ⟨_, _, hs i hi h' pg.left, ht i hi, ev_imp (hc i hi h' pg.left) fun b h2 ⟨hb, g2⟩ => ?_⟩
    subst hb
    by_cases hci : c i = true
    · rw [if_pos hci]
      refine ev_imp (he i hi hci h2 (pg.left.trans g2)) fun y h3 ⟨hy, g3⟩ => ?_
      subst hy
      have g : Gr (h ++ [.lst acc]) h3 := pg.trans (g2.trans g3)
      refine ⟨g.last, by rw [picks_succ, if_pos hci, pa], ?_⟩
      obtain ⟨j, rfl⟩ := g
      refine ⟨j, ?_⟩
      rw [List.append_assoc, List.set_append_right _ _ (Nat.le_refl _), Nat.sub_self]
      simp
    · rw [if_neg hci]
      have g : Gr (h ++ [.lst acc]) h2 := pg.trans g2
      exact ⟨g.last, by rw [picks_succ, if_neg hci, pa], g⟩
  · obtain ⟨pa, pg⟩ := p
    subst pa
    exact ⟨hs2 h' pg.left, q h' pg⟩
theorem comp_rng (N : Nat) (lo : Int) (v : Nat) (hN : N ≤ 1000000) (hn : N < n) (c : Nat → Bool) (f : Nat → W)
    (hc : ∀ i, i < N → Pu h (cond (e0.set v (some (.int (lo + i))))) (c i)) (he : ∀ i, i < N → c i = true → Pu h (elt (e0.set v (some (.int (lo + i))))) (f i))
    (q : ∀ h', Gr (h ++ [.lst (picks N c f)]) h' → Q (.ref h.length) h') : Ev (compGo (srcN lo N) (tgN v) cond elt h.length e0 n 0 (h ++ [.lst []])) Q :=
  comp_pure N hN hn c f (fun i => .int (lo + i)) (fun i => e0.set v (some (.int (lo + i)))) (fun i hi h' _ => by unfold srcN; exact if_pos hi) (fun h' _ => by unfold srcN; exact if_neg (by omega)) (fun i hi => rfl) hc he q
theorem wipe_n : wipeE e [] = e := nrfl rfl
theorem wipe_c {v : Nat} {vs : List Nat} : wipeE e (v :: vs) = (wipeE e vs).set v none := nrfl rfl
end
/-! ### calls -/
theorem pure_ok {den : List W → List O → Out W} {ar : Nat} {ws : List W} {h : List O} {w : W} (hl : ws.length = ar) (hp : pureWs ws = true) (hw : pureW w = true) (hd : Ev (den ws []) fun x _ => x = w) : pureRun den ar ws h = .ok w h := by
  obtain ⟨x, h', e, rfl⟩ := ev_get hd
  unfold pureRun
  rw [if_pos ⟨hl, hp⟩, e]
  dsimp only
  rw [if_pos hw]
theorem fun_ev {n : Nat} {m : Sm} {ws : List W} {h : List O} {Q : W → List O → Prop} (p : Sv (m (startE n ws) h) fun o => match o with
  | .nx _ h' => Q .non h'
  | .rt w h' => Q w h'
  | _ => False) : Ev (mFun n m ws h) Q := by
  unfold mFun
  change (match m (startE n ws) h with | .nx _ h' => Q .non h' | .rt w h' => Q w h' | _ => False) at p
  cases hm : m (startE n ws) h with
  | nx e h' => rw [hm] at p; exact p
  | rt w h' => rw [hm] at p; exact p
  | bk e h' => rw [hm] at p; exact p.elim
  | ct e h' => rw [hm] at p; exact p.elim
  | exc c q e h' => rw [hm] at p; exact p.elim
  | bad => rw [hm] at p; exact p.elim

/-! ### equality -/
section
variable {h : List O}
theorem dat_ints {k : Nat} : ∀ l : List Int, mapO (dat h (k + 1)) (l.map W.int) = some (l.map PyData.int)
  | [] => rfl
  | i :: l => by
    rw [List.map_cons]
    unfold mapO
    rw [dat_ints l]
    rfl
theorem dat_strs {k : Nat} : ∀ l : List (List Nat), (∀ s ∈ l, strFit s = true) → mapO (dat h (k + 1)) (l.map W.str) = some (l.map fun s => PyData.str ⟨s.toArray⟩)
  | [], _ => rfl
  | s :: l, hf => by
    rw [List.map_cons]
    unfold mapO
    rw [dat_strs l fun s hs => hf s (List.mem_cons_of_mem _ hs)]
    unfold dat
    rw [if_pos (hf s List.mem_cons_self)]
    rfl
theorem eqvAll_ints : ∀ l l' : List Int, PyData.eqvAll (l.map PyData.int) (l'.map PyData.int) = decide (l = l')
  | [], [] => rfl
  | [], _ :: _ => by simp [PyData.eqvAll]
  | _ :: _, [] => by simp [PyData.eqvAll]
  | i :: l, j :: l' => by
    rw [List.map_cons, List.map_cons]
    unfold PyData.eqvAll
    rw [eqvAll_ints l l']
    by_cases h1 : i = j <;> by_cases h2 : l = l' <;> simp [PyData.eqv, h1, h2]
theorem eqW_ll {n m : Nat} {xs ys : List W} {ds es : List PyData} (hn : lstAt h n = some xs) (hm : lstAt h m = some ys) (hx : mapO (dat h 7) xs = some ds) (hy : mapO (dat h 7) ys = some es) : eqW h (.ref n) (.ref m) = some (PyData.eqvAll ds es) := by
  have e1 : dat h 8 (.ref n) = some (.list ds) := by unfold dat; rw [hn]; show (mapO (dat h 7) xs).map _ = _; rw [hx]; rfl
  have e2 : dat h 8 (.ref m) = some (.list es) := by unfold dat; rw [hm]; show (mapO (dat h 7) ys).map _ = _; rw [hy]; rfl
  unfold eqW
  dsimp only
  rw [e1, e2]
  dsimp only
  rw [show PyData.eqv (.list ds) (.list es) = PyData.eqvAll ds es by unfold PyData.eqv; rfl]
theorem eqW_tt {xs ys : List W} {ds es : List PyData} (hx : mapO (dat h 7) xs = some ds) (hy : mapO (dat h 7) ys = some es) : eqW h (.tup xs) (.tup ys) = some (PyData.eqvAll ds es) := by
  have e1 : dat h 8 (.tup xs) = some (.tuple ds) := by unfold dat; rw [hx]; rfl
  have e2 : dat h 8 (.tup ys) = some (.tuple es) := by unfold dat; rw [hy]; rfl
  unfold eqW
  dsimp only
  rw [e1, e2]
  dsimp only
  rw [show PyData.eqv (.tuple ds) (.tuple es) = PyData.eqvAll ds es by unfold PyData.eqv; rfl]
theorem eqW_ints {n m : Nat} {l l' : List Int} (hn : lstAt h n = some (l.map .int)) (hm : lstAt h m = some (l'.map .int)) : eqW h (.ref n) (.ref m) = some (decide (l = l')) := by
  rw [eqW_ll hn hm (dat_ints l) (dat_ints l'), eqvAll_ints]
theorem eq_ints {n m : Nat} {l l' : List Int} (hn : lstAt h n = some (l.map .int)) (hm : lstAt h m = some (l'.map .int)) : oEq (.ref n) (.ref m) h = .ok (.bl (decide (l = l'))) h := by unfold oEq; rw [eqW_ints hn hm]
theorem ne_ints {n m : Nat} {l l' : List Int} (hn : lstAt h n = some (l.map .int)) (hm : lstAt h m = some (l'.map .int)) : oNe (.ref n) (.ref m) h = .ok (.bl (decide (l ≠ l'))) h := by unfold oNe; rw [eqW_ints hn hm]; simp
theorem sl_rol {xs : List W} {lo hi : Option Int} : oSl (.rol xs) lo hi h = .ok (.ref h.length) (h ++ [.lst (cutW xs lo hi)]) := nrfl rfl
theorem sl_t {xs : List W} {lo hi : Option Int} : oSl (.tup xs) lo hi h = .ok (.tup (cutW xs lo hi)) h := nrfl rfl
theorem sl_r {n : Nat} {lo hi : Option Int} : oSl (.ref n) lo hi h = withL (lstAt h n) fun xs => .ok (.ref h.length) (h ++ [.lst (cutW xs lo hi)]) := by
  unfold oSl withL
  dsimp only [sqL]
  all_goals (cases lstAt h n <;> rfl)
end
/-! the order of texts -/
theorem lex_of : ∀ (k : Nat) (a b : List Nat), k < a.length → k < b.length → (∀ t, t < k → a.getD t 0 = b.getD t 0) → a.getD k 0 < b.getD k 0 → a < b
  | 0, x :: a, y :: b, _, _, _, h => List.cons_lt_cons_iff.2 (.inl h)
  | k + 1, x :: a, y :: b, h1, h2, he, h => by
    refine List.cons_lt_cons_iff.2 (.inr ⟨he 0 (by omega), lex_of k a b (by simpa using h1) (by simpa using h2) (fun t ht => he (t + 1) (by omega)) h⟩)
  | _, [], _, h1, _, _, _ => by simp at h1
  | _, _ :: _, [], _, h2, _, _ => by simp at h2
theorem sing_lt {a b : Nat} : ([a] < [b]) = (a < b) := by
  apply propext
  constructor
  · intro h
    rcases List.cons_lt_cons_iff.1 h with h | h
    · exact h
    · exact absurd h.2 (List.lt_irrefl _)
  · intro h
    exact List.cons_lt_cons_iff.2 (.inl h)
theorem sing_eq {a b : Nat} : ([a] = [b]) = (a = b) := by simp
theorem ty_r {n : Nat} {h : List O} : tyW "list" (.ref n) h = (lstAt h n).isSome := by
  unfold tyW lstAt
  cases hx : h[n]? with
  | none => simp [hx]
  | some o => cases o <;> simp [hx]
theorem ty_s {s : List Nat} {h : List O} : tyW "str" (.str s) h = true := nrfl rfl
theorem isS {α : Type} {x : α} : (some x).isSome = true := nrfl rfl
/-! lists of numbers -/
theorem getD_set_eq {α : Type} {l : List α} {i : Nat} {v d : α} (h : i < l.length) : (l.set i v).getD i d = v := by
  rw [List.getD_eq_getElem?_getD, List.getElem?_set_self h]; rfl
theorem set_getD {α : Type} {l : List α} {i : Nat} {d : α} (h : i < l.length) : l.set i (l.getD i d) = l := by
  rw [List.getD_eq_getElem?_getD, List.getElem?_eq_getElem h]
  exact List.set_getElem_self h
theorem getD_set_ne {α : Type} {l : List α} {i k : Nat} {v d : α} (h : i ≠ k) : (l.set i v).getD k d = l.getD k d := by
  rw [List.getD_eq_getElem?_getD, List.getElem?_set_ne h, List.getD_eq_getElem?_getD]
section
variable {h : List O} {i : Int} {n : Nat}
def nI (r : Nat) : W := .int r
theorem nI_def {r : Nat} : nI r = .int r := nrfl rfl
theorem ixL_n {rs : List Nat} (h0 : 0 ≤ i) (h1 : i < rs.length) : ixL (rs.map nI) i h = .ok (.int (rs.getD i.toNat 0)) h := by
  rw [ixL_ok h0 (by rw [List.length_map]; exact h1), List.getD_eq_getElem?_getD, List.getElem?_map, List.getElem?_eq_getElem (by omega), List.getD_eq_getElem?_getD, List.getElem?_eq_getElem (by omega)]
  rfl
theorem ixL_i {rs : List Int} (h0 : 0 ≤ i) (h1 : i < rs.length) : ixL (rs.map .int) i h = .ok (.int (rs.getD i.toNat 0)) h := by
  rw [ixL_ok h0 (by rw [List.length_map]; exact h1), List.getD_eq_getElem?_getD, List.getElem?_map, List.getElem?_eq_getElem (by omega), List.getD_eq_getElem?_getD, List.getElem?_eq_getElem (by omega)]
  rfl
theorem ixL_st {rs : List (List Nat)} (h0 : 0 ≤ i) (h1 : i < rs.length) : ixL (rs.map .str) i h = .ok (.str (rs.getD i.toNat [])) h := by
  rw [ixL_ok h0 (by rw [List.length_map]; exact h1), List.getD_eq_getElem?_getD, List.getElem?_map, List.getElem?_eq_getElem (by omega), List.getD_eq_getElem?_getD, List.getElem?_eq_getElem (by omega)]
  rfl
theorem setL_n {rs : List Nat} {v : Nat} (h0 : 0 ≤ i) (h1 : i < rs.length) : setL n (rs.map nI) i (.int v) h = .ok () (h.set n (.lst ((rs.set i.toNat v).map nI))) := by
  rw [setL_ok h0 (by rw [List.length_map]; exact h1), List.map_set, nI_def]
theorem setL_i {rs : List Int} {v : Int} (h0 : 0 ≤ i) (h1 : i < rs.length) : setL n (rs.map .int) i (.int v) h = .ok () (h.set n (.lst ((rs.set i.toNat v).map .int))) := by
  rw [setL_ok h0 (by rw [List.length_map]; exact h1), List.map_set]
theorem pure_all {den : List W → List O → Out W} {ar : Nat} {ws : List W} {P : W → Prop} (hl : ws.length = ar) (hp : pureWs ws = true) (hd : Ev (den ws []) fun x _ => pureW x = true ∧ P x) : ∃ w, P w ∧ ∀ h, pureRun den ar ws h = .ok w h := by
  obtain ⟨x, h', e, h1, h2⟩ := ev_get hd
  refine ⟨x, h2, fun h => ?_⟩
  unfold pureRun
  rw [if_pos ⟨hl, hp⟩, e]
  dsimp only
  rw [if_pos h1]
theorem pure_ints : ∀ l : List Int, pureWs (l.map .int) = true
  | [] => rfl
  | i :: l => by rw [List.map_cons]; unfold pureWs; rw [pure_ints l]; rfl
theorem pure_nats : ∀ l : List Nat, pureWs (l.map nI) = true
  | [] => rfl
  | i :: l => by rw [List.map_cons]; unfold pureWs; rw [pure_nats l]; rfl
theorem pure_strs : ∀ l : List (List Nat), pureWs (l.map .str) = true
  | [] => rfl
  | i :: l => by rw [List.map_cons]; unfold pureWs; rw [pure_strs l]; rfl
end
end Den
set_option maxRecDepth 100000
/-! The dice. -/
namespace Den
open PySem L2
def bodyDice : Sm := mSeq (mIfS (mB (mChain oLt oLt (mOp oSub (mC (.int 0)) (mC (.int 10))) (mVar 0) (mC (.int 10)))) (mRet (mLst (mCons (mCB oAbs (mCons (mVar 0) (mNil))) (mCons (mC (.int 0)) (mCons (mC (.int 2)) (mNil)))))) (mSkip)) (mRet (mLst (mCons (mVar 0) (mCons (mOp oAdd (mC (.int 1)) (mOp oMod (mCB oInt (mCons (mVar 0) (mNil))) (mC (.int 1009)))) (mCons (mCB oInt (mCons (mOp oGe (mVar 0) (mOp oPow (mC (.int 10)) (mC (.int 18)))) (mNil))) (mNil))))))
def bodyRoll : Sm := mSeq (mIfS (mOr (mB (mOp oEq (mOp oIx (mVar 0) (mC (.int 2))) (mC (.int 2)))) (mAnd (mB (mOp oEq (mOp oIx (mVar 0) (mC (.int 2))) (mC (.int 1)))) (mB (mOp oGt (mOp oIx (mVar 0) (mC (.int 0))) (mC (.int 0)))))) (mSeq (mSet 2 (mOp oMod (mCB oInt (mCons (mOp oIx (mVar 0) (mC (.int 0))) (mNil))) (mVar 1))) (mSeq (mSetI oSet (mVar 0) (mC (.int 0)) (mOp oFdiv (mOp oIx (mVar 0) (mC (.int 0))) (mVar 1))) (mRet (mVar 2)))) (mSkip)) (mSeq (mSetI oSet (mVar 0) (mC (.int 2)) (mC (.int 0))) (mSeq (mSetI oSet (mVar 0) (mC (.int 0)) (mOp oMod (mCB oInt (mCons (mOp oAdd (mOp oAdd (mOp oMul (mOp oIx (mVar 0) (mC (.int 0))) (mC (.int 48271))) (mOp oMul (mOp oIx (mVar 0) (mC (.int 1))) (mC (.int 69621)))) (mC (.int 11))) (mNil))) (mC (.int 2147483647)))) (mSeq (mSetI oSet (mVar 0) (mC (.int 1)) (mOp oAdd (mOp oIx (mVar 0) (mC (.int 1))) (mC (.int 1)))) (mRet (mOp oMod (mCB oInt (mCons (mOp oAdd (mOp oFdiv (mOp oIx (mVar 0) (mC (.int 0))) (mC (.int 7))) (mOp oIx (mVar 0) (mC (.int 0)))) (mNil))) (mVar 1))))))
/-- a line for the size of a script's number -/
@[irreducible] def AB : Nat := 2 ^ 1048577

theorem AB_ge : 2147483648 ≤ AB := by
  unfold AB
  exact Nat.le_trans (by decide : 2147483648 ≤ 2 ^ 31) (Nat.pow_le_pow_right (by decide) (by decide))
theorem AB_lt : AB < 2 ^ 50000000 := by
  unfold AB
  exact Nat.pow_lt_pow_right (by decide) (by decide)
theorem bits_AB {z : Int} (h : Builtin.Int.intBits z ≤ 1048576) : z.natAbs < AB := by
  unfold Builtin.Int.intBits at h
  unfold AB
  split at h
  · rename_i e
    have e2 : z = 0 := by simpa using e
    rw [e2]
    exact Nat.pow_pos (by decide)
  · rename_i e
    have h1 : z.natAbs.log2 < 1048577 := by omega
    have e2 : z.natAbs ≠ 0 := fun x => e (by simpa using Int.natAbs_eq_zero.1 x)
    exact (Nat.log2_lt e2).1 h1
/-- three numbers of a die that has been rolled N times -/
structure DG (N : Nat) (a b : Int) : Prop where
  a : a.natAbs < AB
  b0 : 0 ≤ b
  b1 : b ≤ 2000 + N
theorem mul_AB {i j : Int} {h : List O} (h1 : i.natAbs < AB) (h2 : -4611686018427387904 < j ∧ j < 4611686018427387904) : oMul (.int i) (.int j) h = .ok (.int (i * j)) h := by
  unfold oMul
  exact if_pos (mulOk_of (Nat.lt_trans h1 AB_lt) (small_pow (by omega) (by decide)))
theorem dice_ev {z : Int} {h : List O} (hz : z.natAbs < AB) : ∃ a b c : Int, DG 0 a b ∧ mFun 1 bodyDice [.int z] h = .ok (.ref h.length) (h ++ [.lst [.int a, .int b, .int c]]) := by
  have hAB := AB_ge
  have e2 : oPow (.int 10) (.int 18) h = .ok (.int (10 ^ 18)) h := by unfold oPow; exact if_pos (by decide)
  by_cases e1 : -10 < z
  · by_cases e3 : z < 10
    · refine ⟨if z < 0 then -z else z, 0, 2, ⟨by split <;> omega, by omega, by omega⟩, ?_⟩
      unfold mFun bodyDice startE
      simp [e1, e2, e3, ap_asB, ok_bnd, ok_stm, ap_Ret, ap_Lst, ap_Cons, ap_Nil, ap_CB, mVar_z, ap_C, abs_i, rt_seq, ap_Seq, ap_IfS, ap_B, ap_Chain, ap_Op, lt_ii, sub_ii, ap_Skip, nx_seq, add_ii, mod_ii, int_i, ge_ii, int_b]
    · refine ⟨z, 1 + z % 1009, if 10 ^ 18 ≤ z then 1 else 0, ⟨hz, by omega, by omega⟩, ?_⟩
      unfold mFun bodyDice startE
      simp [e1, e2, e3, ap_asB, ok_bnd, ok_stm, ap_Ret, ap_Lst, ap_Cons, ap_Nil, ap_CB, mVar_z, ap_C, abs_i, rt_seq, ap_Seq, ap_IfS, ap_B, ap_Chain, ap_Op, lt_ii, sub_ii, ap_Skip, nx_seq, add_ii, mod_ii, int_i, ge_ii, int_b]
  · refine ⟨z, 1 + z % 1009, if 10 ^ 18 ≤ z then 1 else 0, ⟨hz, by omega, by omega⟩, ?_⟩
    unfold mFun bodyDice startE
    simp [e1, e2, ap_asB, ok_bnd, ok_stm, ap_Ret, ap_Lst, ap_Cons, ap_Nil, ap_CB, mVar_z, ap_C, abs_i, rt_seq, ap_Seq, ap_IfS, ap_B, ap_Chain, ap_Op, lt_ii, sub_ii, ap_Skip, nx_seq, add_ii, mod_ii, int_i, ge_ii, int_b]
theorem div_le_AB {a m : Int} (ha : a.natAbs < AB) (hm : 0 < m) : (a / m).natAbs < AB := by
  have h1 : (a / m).natAbs ≤ a.natAbs := Int.natAbs_ediv_le_natAbs a m
  omega
theorem roll_ev {h : List O} {p N : Nat} {a b c many : Int} (hp : lstAt h p = some [.int a, .int b, .int c]) (g : DG N a b) (hm : 0 < many) (hM : many < 4611686018427387904) (hN : N < 1000000000000) :
    ∃ r a' b' c' : Int, mFun 3 bodyRoll [.ref p, .int many] h = .ok (.int r) (h.set p (.lst [.int a', .int b', .int c'])) ∧ 0 ≤ r ∧ r < many ∧ DG (N + 1) a' b' := by
  have hAB := AB_ge
  have hl := lst_lt hp
  have ha := g.a
  have hb0 := g.b0
  have hb1 := g.b1
  have hr : ∀ x : Int, 0 ≤ x % many ∧ x % many < many := fun x => ⟨Int.emod_nonneg _ (by omega), Int.emod_lt_of_pos _ hm⟩
  by_cases hc : c = 2 ∨ (c = 1 ∧ 0 < a)
  · refine ⟨a % many, a / many, b, c, ?_, (hr a).1, (hr a).2, ⟨div_le_AB ha hm, hb0, by omega⟩⟩
    unfold mFun bodyRoll startE
    by_cases h2 : c = 2
    · subst h2
      simp (disch := first | omega | (simp only [List.length_append, List.length_cons, List.length_nil, List.length_set, List.length_drop, List.length_take, List.length_map]; omega)) only [mVar_z, Nat.reduceAdd, Nat.zero_add, Int.zero_add, Int.reduceAdd, Int.reduceSub, Int.reduceNeg, ap_Lst, ap_Tup, nil_app, cons_app, List.length_append, lst_last, mVar_s, ok_bnd, ok_stm, exc_bnd, ev_okE, exc_stm, ap_C, ap_Op, ap_Un, ap_B, ap_Chain, ap_asB, ap_And, ap_Or, ap_Not, ap_AndV, ap_OrV, ap_NotV, ap_If, ap_Nil, ap_Cons, ap_CB, ap_Meth, ap_Part, ap_NoPart, ap_Sl, ap_Yes, add_ii, add_ss, sub_ii, neg_i, mul_ii, fdiv_ii, mod_ii, eq_ii, ne_ii, eq_ss, ne_ss, lt_ii, le_ii, gt_ii, ge_ii, lt_ss, gt_ss, le_ss, ge_ss, len_s, len_t, abs_i, int_i, int_b, max_ii, min_ii, ix_s, ixL_0, ixL_1, ixL_2, ixL_3, ixL_n, ixL_i, ixL_st, setL_n, setL_i, List.length_map, List.length_set, ix_r, getL_r, ix_tL, withL_s, setL_0, setL_1, setL_2, set_r, app_r, lst_z, lst_s, iadd_ii, tuple_r, mul_ri, sl_s, sl_rol, sl_t, sl_r, cut_from, cut_to, ap_Seq, nx_seq, rt_seq, ct_seq, bk_seq, exc_seq, ap_Raise, ap_Skip, ap_Brk, ap_Cnt, ap_Drop, ap_Ret, ap_IfS, ap_Set, ap_Ts, ap_AsgT, tgT_t, tgTs_n, tgTs_c, ap_Aug, ap_SetI, ap_AugI, mFor_ap, ap_Rng1, ap_Rng2, rng1_ok, rng2_ok, ap_Iter, src_t, src_s, src_rL, ap_Comp, wipe_n, wipe_c, len_cons, len_nil, zip_cc, zip_nn, foldl_c, foldl_n, set_z, set_s, ite_t, ite_f, ite_T, ite_F, sing_lt, sing_eq, ty_r, ty_s, isS, cut_mid, decide_eq_true_eq, if_pos, if_neg]
      simp (disch := omega) [hp, lst_set hl, ok_bnd, ok_stm, ap_Ret, ap_Cons, ap_Nil, ap_CB, mVar_z, mVar_s, ap_C, rt_seq, ap_Seq, ap_IfS, ap_B, ap_Or, ap_asB, ap_Op, eq_ii, ap_Skip, nx_seq, mod_ii, fdiv_ii, int_i, ap_Set, ap_SetI, set_r, ix_r, withL_s, ixL_0, ixL_2, setL_0, ap_And, gt_ii]
    · have h1 : c = 1 := by omega
      have h3 : 0 < a := by omega
      subst h1
      simp (disch := first | omega | (simp only [List.length_append, List.length_cons, List.length_nil, List.length_set, List.length_drop, List.length_take, List.length_map]; omega)) only [mVar_z, Nat.reduceAdd, Nat.zero_add, Int.zero_add, Int.reduceAdd, Int.reduceSub, Int.reduceNeg, ap_Lst, ap_Tup, nil_app, cons_app, List.length_append, lst_last, mVar_s, ok_bnd, ok_stm, exc_bnd, ev_okE, exc_stm, ap_C, ap_Op, ap_Un, ap_B, ap_Chain, ap_asB, ap_And, ap_Or, ap_Not, ap_AndV, ap_OrV, ap_NotV, ap_If, ap_Nil, ap_Cons, ap_CB, ap_Meth, ap_Part, ap_NoPart, ap_Sl, ap_Yes, add_ii, add_ss, sub_ii, neg_i, mul_ii, fdiv_ii, mod_ii, eq_ii, ne_ii, eq_ss, ne_ss, lt_ii, le_ii, gt_ii, ge_ii, lt_ss, gt_ss, le_ss, ge_ss, len_s, len_t, abs_i, int_i, int_b, max_ii, min_ii, ix_s, ixL_0, ixL_1, ixL_2, ixL_3, ixL_n, ixL_i, ixL_st, setL_n, setL_i, List.length_map, List.length_set, ix_r, getL_r, ix_tL, withL_s, setL_0, setL_1, setL_2, set_r, app_r, lst_z, lst_s, iadd_ii, tuple_r, mul_ri, sl_s, sl_rol, sl_t, sl_r, cut_from, cut_to, ap_Seq, nx_seq, rt_seq, ct_seq, bk_seq, exc_seq, ap_Raise, ap_Skip, ap_Brk, ap_Cnt, ap_Drop, ap_Ret, ap_IfS, ap_Set, ap_Ts, ap_AsgT, tgT_t, tgTs_n, tgTs_c, ap_Aug, ap_SetI, ap_AugI, mFor_ap, ap_Rng1, ap_Rng2, rng1_ok, rng2_ok, ap_Iter, src_t, src_s, src_rL, ap_Comp, wipe_n, wipe_c, len_cons, len_nil, zip_cc, zip_nn, foldl_c, foldl_n, set_z, set_s, ite_t, ite_f, ite_T, ite_F, sing_lt, sing_eq, ty_r, ty_s, isS, cut_mid, decide_eq_true_eq, if_pos, if_neg]
      simp (disch := omega) [hp, h3, lst_set hl, ok_bnd, ok_stm, ap_Ret, ap_Cons, ap_Nil, ap_CB, mVar_z, mVar_s, ap_C, rt_seq, ap_Seq, ap_IfS, ap_B, ap_Or, ap_asB, ap_Op, eq_ii, ap_Skip, nx_seq, mod_ii, fdiv_ii, int_i, ap_Set, ap_SetI, set_r, ix_r, withL_s, ixL_0, ixL_2, setL_0, ap_And, gt_ii]
  · have hx : (a * 48271 + b * 69621 + 11) % 2147483647 < 2147483647 := Int.emod_lt_of_pos _ (by omega)
    have hx0 : 0 ≤ (a * 48271 + b * 69621 + 11) % 2147483647 := Int.emod_nonneg _ (by omega)
    have hbb : b.natAbs < AB ∨ AB ≤ b.natAbs := by omega
    have m1 : ∀ h, oMul (.int a) (.int 48271) h = .ok (.int (a * 48271)) h := fun h => mul_AB ha (by omega)
    have m2 : ∀ h, oMul (.int b) (.int 69621) h = .ok (.int (b * 69621)) h := fun h => mul_ii (by omega) (by omega)
    generalize hz : (a * 48271 + b * 69621 + 11) % 2147483647 = z at hx hx0
    refine ⟨(z / 7 + z) % many, z, b + 1, 0, ?_, (hr _).1, (hr _).2, ⟨by omega, by omega, by omega⟩⟩
    unfold mFun bodyRoll startE
    have hc2 : ¬ c = 2 := fun x => hc (.inl x)
    have hc3 : c = 1 → ¬ 0 < a := fun x y => hc (.inr ⟨x, y⟩)
    by_cases h1 : c = 1
    · have h3 := hc3 h1
      simp (disch := first | omega | (simp only [List.length_append, List.length_cons, List.length_nil, List.length_set, List.length_drop, List.length_take, List.length_map]; omega)) only [mVar_z, Nat.reduceAdd, Nat.zero_add, Int.zero_add, Int.reduceAdd, Int.reduceSub, Int.reduceNeg, ap_Lst, ap_Tup, nil_app, cons_app, List.length_append, lst_last, mVar_s, ok_bnd, ok_stm, exc_bnd, ev_okE, exc_stm, ap_C, ap_Op, ap_Un, ap_B, ap_Chain, ap_asB, ap_And, ap_Or, ap_Not, ap_AndV, ap_OrV, ap_NotV, ap_If, ap_Nil, ap_Cons, ap_CB, ap_Meth, ap_Part, ap_NoPart, ap_Sl, ap_Yes, add_ii, add_ss, sub_ii, neg_i, mul_ii, fdiv_ii, mod_ii, eq_ii, ne_ii, eq_ss, ne_ss, lt_ii, le_ii, gt_ii, ge_ii, lt_ss, gt_ss, le_ss, ge_ss, len_s, len_t, abs_i, int_i, int_b, max_ii, min_ii, ix_s, ixL_0, ixL_1, ixL_2, ixL_3, ixL_n, ixL_i, ixL_st, setL_n, setL_i, List.length_map, List.length_set, ix_r, getL_r, ix_tL, withL_s, setL_0, setL_1, setL_2, set_r, app_r, lst_z, lst_s, iadd_ii, tuple_r, mul_ri, sl_s, sl_rol, sl_t, sl_r, cut_from, cut_to, ap_Seq, nx_seq, rt_seq, ct_seq, bk_seq, exc_seq, ap_Raise, ap_Skip, ap_Brk, ap_Cnt, ap_Drop, ap_Ret, ap_IfS, ap_Set, ap_Ts, ap_AsgT, tgT_t, tgTs_n, tgTs_c, ap_Aug, ap_SetI, ap_AugI, mFor_ap, ap_Rng1, ap_Rng2, rng1_ok, rng2_ok, ap_Iter, src_t, src_s, src_rL, ap_Comp, wipe_n, wipe_c, len_cons, len_nil, zip_cc, zip_nn, foldl_c, foldl_n, set_z, set_s, ite_t, ite_f, ite_T, ite_F, sing_lt, sing_eq, ty_r, ty_s, isS, cut_mid, decide_eq_true_eq, if_pos, if_neg]
      simp (disch := omega) [hp, h1, h3, hz, m1, m2, hc2, lst_set hl, ok_bnd, ok_stm, ap_Ret, ap_Cons, ap_Nil, ap_CB, mVar_z, mVar_s, ap_C, rt_seq, ap_Seq, ap_IfS, ap_B, ap_Or, ap_asB, ap_Op, eq_ii, ap_Skip, nx_seq, mod_ii, fdiv_ii, int_i, ap_Set, ap_SetI, set_r, ix_r, withL_s, ixL_0, ixL_1, ixL_2, setL_0, setL_1, setL_2, ap_And, gt_ii, add_ii]
    · simp (disch := first | omega | (simp only [List.length_append, List.length_cons, List.length_nil, List.length_set, List.length_drop, List.length_take, List.length_map]; omega)) only [mVar_z, Nat.reduceAdd, Nat.zero_add, Int.zero_add, Int.reduceAdd, Int.reduceSub, Int.reduceNeg, ap_Lst, ap_Tup, nil_app, cons_app, List.length_append, lst_last, mVar_s, ok_bnd, ok_stm, exc_bnd, ev_okE, exc_stm, ap_C, ap_Op, ap_Un, ap_B, ap_Chain, ap_asB, ap_And, ap_Or, ap_Not, ap_AndV, ap_OrV, ap_NotV, ap_If, ap_Nil, ap_Cons, ap_CB, ap_Meth, ap_Part, ap_NoPart, ap_Sl, ap_Yes, add_ii, add_ss, sub_ii, neg_i, mul_ii, fdiv_ii, mod_ii, eq_ii, ne_ii, eq_ss, ne_ss, lt_ii, le_ii, gt_ii, ge_ii, lt_ss, gt_ss, le_ss, ge_ss, len_s, len_t, abs_i, int_i, int_b, max_ii, min_ii, ix_s, ixL_0, ixL_1, ixL_2, ixL_3, ixL_n, ixL_i, ixL_st, setL_n, setL_i, List.length_map, List.length_set, ix_r, getL_r, ix_tL, withL_s, setL_0, setL_1, setL_2, set_r, app_r, lst_z, lst_s, iadd_ii, tuple_r, mul_ri, sl_s, sl_rol, sl_t, sl_r, cut_from, cut_to, ap_Seq, nx_seq, rt_seq, ct_seq, bk_seq, exc_seq, ap_Raise, ap_Skip, ap_Brk, ap_Cnt, ap_Drop, ap_Ret, ap_IfS, ap_Set, ap_Ts, ap_AsgT, tgT_t, tgTs_n, tgTs_c, ap_Aug, ap_SetI, ap_AugI, mFor_ap, ap_Rng1, ap_Rng2, rng1_ok, rng2_ok, ap_Iter, src_t, src_s, src_rL, ap_Comp, wipe_n, wipe_c, len_cons, len_nil, zip_cc, zip_nn, foldl_c, foldl_n, set_z, set_s, ite_t, ite_f, ite_T, ite_F, sing_lt, sing_eq, ty_r, ty_s, isS, cut_mid, decide_eq_true_eq, if_pos, if_neg]
      simp (disch := omega) [hp, h1, hz, m1, m2, hc2, lst_set hl, ok_bnd, ok_stm, ap_Ret, ap_Cons, ap_Nil, ap_CB, mVar_z, mVar_s, ap_C, rt_seq, ap_Seq, ap_IfS, ap_B, ap_Or, ap_asB, ap_Op, eq_ii, ap_Skip, nx_seq, mod_ii, fdiv_ii, int_i, ap_Set, ap_SetI, set_r, ix_r, withL_s, ixL_0, ixL_1, ixL_2, setL_0, setL_1, setL_2, ap_And, gt_ii, add_ii]

/-! ### many dice -/
def DH (N : Nat) (h : List O) (ps : List Nat) : Prop := ∀ q ∈ ps, ∃ a b c : Int, lstAt h q = some [.int a, .int b, .int c] ∧ DG N a b
/-- h' is h, but for the dice and for new things -/
def Fr (ps : List Nat) (h h' : List O) : Prop := h.length ≤ h'.length ∧ ∀ q, q < h.length → q ∉ ps → h'[q]? = h[q]?
section
variable {N N2 : Nat} {h h1 h2 h3 : List O} {ps : List Nat}
theorem DG.mono {a b : Int} (g : DG N a b) (hm : N ≤ N2) : DG N2 a b := ⟨g.a, g.b0, by have := g.b1; omega⟩
theorem DH.mono (d : DH N h ps) (hm : N ≤ N2) : DH N2 h ps := fun q hq => by
  obtain ⟨a, b, c, e, g⟩ := d q hq
  exact ⟨a, b, c, e, g.mono hm⟩
theorem DH.gr (d : DH N h1 ps) (g : Gr h1 h2) : DH N h2 ps := fun q hq => by
  obtain ⟨a, b, c, e, g2⟩ := d q hq
  exact ⟨a, b, c, g.lst e, g2⟩
theorem DH.lt (d : DH N h ps) {q : Nat} (hq : q ∈ ps) : q < h.length := by
  obtain ⟨a, b, c, e, _⟩ := d q hq
  exact lst_lt e
theorem DH.set (d : DH N h ps) {n : Nat} {o : O} (hn : n ∉ ps) : DH N (h.set n o) ps := fun q hq => by
  obtain ⟨a, b, c, e, g2⟩ := d q hq
  exact ⟨a, b, c, by rw [lst_ne (fun x => hn (by rw [x]; exact hq))]; exact e, g2⟩
theorem Fr.refl : Fr ps h h := ⟨Nat.le_refl _, fun _ _ _ => rfl⟩
theorem Fr.trans (a : Fr ps h1 h2) (b : Fr ps h2 h3) : Fr ps h1 h3 := ⟨Nat.le_trans a.1 b.1, fun q hq hn => by rw [b.2 q (Nat.lt_of_lt_of_le hq a.1) hn, a.2 q hq hn]⟩
theorem Fr.of (g : Gr h1 h2) : Fr ps h1 h2 := by
  obtain ⟨j, rfl⟩ := g
  exact ⟨by simp, fun q hq _ => List.getElem?_append_left hq⟩
theorem Fr.lst (f : Fr ps h1 h2) {n : Nat} {xs : List W} (hn : n ∉ ps) (e : lstAt h1 n = some xs) : lstAt h2 n = some xs := by
  have hl := lst_lt e
  unfold lstAt
  rw [f.2 n hl hn, lstAt_some e]
theorem Fr.set (f : Fr ps h1 h2) {n : Nat} {o : O} (hn : h1.length ≤ n) : Fr ps h1 (h2.set n o) := ⟨by rw [List.length_set]; exact f.1, fun q hq hm => by rw [List.getElem?_set_ne (by omega)]; exact f.2 q hq hm⟩
theorem roll_Ev {p : Nat} {many : Int} (d : DH N h ps) (hp : p ∈ ps) (hm : 0 < many) (hM : many < 4611686018427387904) (hN : N < 1000000000000) :
    Ev (mFun 3 bodyRoll [.ref p, .int many] h) fun w h' => ∃ r : Int, w = .int r ∧ 0 ≤ r ∧ r < many ∧ DH (N + 1) h' ps ∧ Fr ps h h' := by
  obtain ⟨a, b, c, e, g⟩ := d p hp
  obtain ⟨r, a', b', c', e1, h0, h1, g1⟩ := roll_ev e g hm hM hN
  refine ev_eq e1 ⟨r, rfl, h0, h1, fun q hq => ?_, by simp, fun q hq hn => List.getElem?_set_ne fun x => hn (by rw [← x]; exact hp)⟩
  by_cases hqp : p = q
  · subst hqp
    exact ⟨a', b', c', lst_set (lst_lt e), g1⟩
  · obtain ⟨a2, b2, c2, e2, g2⟩ := d q hq
    exact ⟨a2, b2, c2, by rw [lst_ne hqp]; exact e2, g2.mono (by omega)⟩
/-- a list made with rolls -/
theorem comp_dice {n L K0 : Nat} {e0 : Env} {elt : M W} {Q : W → List O → Prop} {src : Src} {t : Tg} (len : Nat) (hL : len ≤ 1000000) (hn : len < n) (v : Nat → W) (e1 : Nat → Env) (hs : ∀ i, i < len → ∀ h', src i h' = some (some (v i))) (hs2 : ∀ h', src len h' = some none) (ht : ∀ i, i < len → t (v i) e0 = some (e1 i))
    (P : Nat → W → Prop) (d : DH N h ps) (he : ∀ i, i < len → ∀ h', Fr ps h h' → DH (N + i * K0) h' ps → Ev (elt (e1 i) h') fun y h2 => P i y ∧ Fr ps h' h2 ∧ DH (N + (i + 1) * K0) h2 ps)
    (q : ∀ h' acc, lstAt h' h.length = some acc → acc.length = len → (∀ i w, acc[i]? = some w → P i w) → Fr ps h h' → DH (N + len * K0) h' ps → Q (.ref h.length) h') : Ev (compGo src t mYes elt h.length e0 n 0 (h ++ [.lst []])) Q := by
  have hps : h.length ∉ ps := fun x => by have := d.lt x; omega
  refine compGo_ev len hL (fun i acc h' => acc.length = i ∧ (∀ j w, acc[j]? = some w → P j w) ∧ Fr ps h h' ∧ DH (N + i * K0) h' ps) (fun i acc h' hi ha hD p => ?_) (fun acc h' hD p => ?_) n 0 [] _ (by omega) (by omega) (by simp) (by simp) ⟨rfl, by simp, Fr.of Gr.app, by rw [Nat.zero_mul]; exact d.gr Gr.app⟩
  · obtain ⟨pl, pp, pf, pd⟩ := p
    refine ⟨_, _, hs i hi h', ht i hi, ?_⟩
    show Ev (Out.ok true h') _
    refine ev_ok ?_
    rw [if_pos rfl]
    refine ev_imp (he i hi h' pf pd) fun y h3 ⟨py, pf3, pd3⟩ => ?_
    have hl : h.length < h'.length := by
      rcases Nat.lt_or_ge h.length h'.length with x | x
      · exact x
      · rw [List.getElem?_eq_none x] at hD; cases hD
    refine ⟨by rw [pf3.2 _ hl hps]; exact hD, by simp [pl], fun j w hj => ?_, (pf.trans pf3).set (Nat.le_refl _), pd3.set hps⟩
    rcases Nat.lt_or_ge j acc.length with x | x
    · rw [List.getElem?_append_left x] at hj
      exact pp j w hj
    · rw [List.getElem?_append_right x] at hj
      have hj0 : j = acc.length := by
        by_cases hz : j - acc.length = 0
        · omega
        · rw [List.getElem?_eq_none (by simp; omega)] at hj; cases hj
      subst hj0
      rw [Nat.sub_self] at hj
      cases hj
      rw [pl]
      exact py
  · obtain ⟨pl, pp, pf, pd⟩ := p
    exact ⟨hs2 h', q h' acc (by unfold lstAt; rw [hD]) pl pp pf pd⟩
theorem comp_dice_rng {n K0 len : Nat} {lo : Int} {vv : Nat} {e0 : Env} {elt : M W} {Q : W → List O → Prop} (hL : len ≤ 1000000) (hn : len < n)
    (P : Nat → W → Prop) (d : DH N h ps) (he : ∀ i, i < len → ∀ h', Fr ps h h' → DH (N + i * K0) h' ps → Ev (elt (e0.set vv (some (.int (lo + i)))) h') fun y h2 => P i y ∧ Fr ps h' h2 ∧ DH (N + (i + 1) * K0) h2 ps)
    (q : ∀ h' acc, lstAt h' h.length = some acc → acc.length = len → (∀ i w, acc[i]? = some w → P i w) → Fr ps h h' → DH (N + len * K0) h' ps → Q (.ref h.length) h') : Ev (compGo (srcN lo len) (tgN vv) mYes elt h.length e0 n 0 (h ++ [.lst []])) Q :=
  comp_dice (L := 0) len hL hn (fun i => .int (lo + i)) (fun i => e0.set vv (some (.int (lo + i)))) (fun i hi h' => by unfold srcN; exact if_pos hi) (fun h' => by unfold srcN; exact if_neg (by omega)) (fun i hi => rfl) P d he q
end
def bodyRounds : Sm := mSeq (mSet 2 (mSl (mVar 0) (mNoPart) (mPart (mVar 1)))) (mSeq (mIfS (mB (mOp oEq (mVar 2) (mLst (mNil)))) (mSet 2 (mLst (mCons (mC (.int 0)) (mNil)))) (mSkip)) (mRet (mComp 100000 [3] (mIter (mVar 2)) (tgN 3) (mYes) (mCB (fun ws h => if ws.length = 1 then mFun 1 bodyDice ws h else .bad) (mCons (mVar 3) (mNil))))))
theorem mapInt_rol {ns : List Int} {lo hi : Option Int} : cutW (ns.map W.int) lo hi = (cutW ns lo hi).map W.int := by
  unfold cutW
  rw [List.length_map, List.map_take, List.map_drop]
/-- the dice of a law -/
theorem rounds_Ev {ns : List Int} {most : Int} (h0 : 0 ≤ most) (hl : ns.length ≤ 63) (hb : ∀ z ∈ ns, z.natAbs < AB) : Ev (mFun 4 bodyRounds [scriptW ns, .int most] []) fun w h => ∃ p ps, w = .ref p ∧ p ∉ ps ∧ ps ≠ [] ∧ ps.length ≤ 63 ∧ lstAt h p = some (ps.map W.ref) ∧ DH 0 h ps := by
  refine fun_ev ?_
  unfold bodyRounds scriptW
  simp only [startE, List.map_cons, List.map_nil, List.length_cons, List.length_nil, List.cons_append, List.nil_append, Nat.zero_add, Nat.reduceAdd, Nat.reduceSub, List.replicate_succ, List.replicate_zero]
  have main : ∀ (h : List O) (e : Env) (p : Nat) (zs : List Int), lstAt h p = some (zs.map W.int) → zs ≠ [] → zs.length ≤ 63 → (∀ z ∈ zs, z.natAbs < AB) → 
      Ev (compGo (srcR p) (tgN 3) mYes (mCB (fun ws h => if ws.length = 1 then mFun 1 bodyDice ws h else .bad) (mCons (mVar 3) mNil)) h.length [some (scriptW ns), some (.int most), some (.ref p), none] 100000 0 (h ++ [.lst []]))
       fun w h => ∃ p ps, w = .ref p ∧ p ∉ ps ∧ ps ≠ [] ∧ ps.length ≤ 63 ∧ lstAt h p = some (ps.map W.ref) ∧ DH 0 h ps := by
    intro h e p zs hp hz hzl hzb
    have hpl := lst_lt hp
    refine compGo_ev zs.length (by omega) (fun i acc h' => ∃ ps : List Nat, ps.length = i ∧ acc = ps.map W.ref ∧ (∀ q ∈ ps, h.length < q) ∧ Gr h (h'.take h.length) ∧ h.length < h'.length ∧ DH 0 h' ps) (fun i acc h' hi ha hD pp => ?_) (fun acc h' hD pp => ?_) 100000 0 [] _ (by omega) (by omega) (by simp) (by simp) ⟨[], rfl, rfl, by simp, ⟨[], by simp⟩, by simp, fun q hq => by cases hq⟩
    · obtain ⟨ps, hl1, rfl, hq, hg, hh, hd⟩ := pp
      have hp' : lstAt h' p = some (zs.map W.int) := by
        have e2 := lstAt_some (hg.lst hp)
        rw [List.getElem?_take_of_lt hpl] at e2
        unfold lstAt
        rw [e2]
      refine ⟨.int zs[i], _, by unfold srcR; rw [hp']; simp [hi], rfl, ?_⟩
      refine ev_ok ?_
      rw [if_pos rfl]
      simp (disch := first | omega | (simp only [List.length_append, List.length_cons, List.length_nil, List.length_set, List.length_drop, List.length_take, List.length_map]; omega)) only [mVar_z, Nat.reduceAdd, Nat.zero_add, Int.zero_add, Int.reduceAdd, Int.reduceSub, Int.reduceNeg, ap_Lst, ap_Tup, nil_app, cons_app, List.length_append, lst_last, mVar_s, ok_bnd, ok_stm, exc_bnd, ev_okE, exc_stm, ap_C, ap_Op, ap_Un, ap_B, ap_Chain, ap_asB, ap_And, ap_Or, ap_Not, ap_AndV, ap_OrV, ap_NotV, ap_If, ap_Nil, ap_Cons, ap_CB, ap_Meth, ap_Part, ap_NoPart, ap_Sl, ap_Yes, add_ii, add_ss, sub_ii, neg_i, mul_ii, fdiv_ii, mod_ii, eq_ii, ne_ii, eq_ss, ne_ss, lt_ii, le_ii, gt_ii, ge_ii, lt_ss, gt_ss, le_ss, ge_ss, len_s, len_t, abs_i, int_i, int_b, max_ii, min_ii, ix_s, ixL_0, ixL_1, ixL_2, ixL_3, ixL_n, ixL_i, ixL_st, setL_n, setL_i, List.length_map, List.length_set, ix_r, getL_r, ix_tL, withL_s, setL_0, setL_1, setL_2, set_r, app_r, lst_z, lst_s, iadd_ii, tuple_r, mul_ri, sl_s, sl_rol, sl_t, sl_r, cut_from, cut_to, ap_Seq, nx_seq, rt_seq, ct_seq, bk_seq, exc_seq, ap_Raise, ap_Skip, ap_Brk, ap_Cnt, ap_Drop, ap_Ret, ap_IfS, ap_Set, ap_Ts, ap_AsgT, tgT_t, tgTs_n, tgTs_c, ap_Aug, ap_SetI, ap_AugI, mFor_ap, ap_Rng1, ap_Rng2, rng1_ok, rng2_ok, ap_Iter, src_t, src_s, src_rL, ap_Comp, wipe_n, wipe_c, len_cons, len_nil, zip_cc, zip_nn, foldl_c, foldl_n, set_z, set_s, ite_t, ite_f, ite_T, ite_F, sing_lt, sing_eq, ty_r, ty_s, isS, cut_mid, decide_eq_true_eq, if_pos, if_neg]
      obtain ⟨a, b, c, g, e1⟩ := dice_ev (z := zs[i]) (h := h') (hzb _ (List.getElem_mem hi))
      refine ev_eq e1 ⟨by rw [List.getElem?_append_left hh]; exact hD, ps ++ [h'.length], by simp [hl1], by simp, fun q hq2 => ?_, ?_, by simp; omega, ?_⟩
      · rcases List.mem_append.1 hq2 with x | x
        · exact hq q x
        · have := List.mem_singleton.1 x
          omega
      · rw [List.take_set_of_le (Nat.le_refl _), List.take_append_of_le_length (by omega)]
        exact hg
      · refine DH.set (fun q hq2 => ?_) (fun x => ?_)
        · rcases List.mem_append.1 hq2 with x | x
          · exact hd.gr Gr.app q x
          · have := List.mem_singleton.1 x
            subst this
            exact ⟨a, b, c, lst_last, g⟩
        · rcases List.mem_append.1 x with x | x
          · have := hq _ x
            omega
          · have := List.mem_singleton.1 x
            omega
    · obtain ⟨ps, hl1, rfl, hq, hg, hh, hd⟩ := pp
      have hp' : lstAt h' p = some (zs.map W.int) := by
        have e2 := lstAt_some (hg.lst hp)
        rw [List.getElem?_take_of_lt hpl] at e2
        unfold lstAt
        rw [e2]
      refine ⟨by unfold srcR; rw [hp']; simp, _, ps, rfl, fun x => by have := hq _ x; omega, fun x => ?_, by omega, by unfold lstAt; rw [hD], hd⟩
      rw [x] at hl1
      exact hz (List.eq_nil_of_length_eq_zero hl1.symm)
  simp (disch := first | omega | (simp only [List.length_append, List.length_cons, List.length_nil, List.length_set, List.length_drop, List.length_take, List.length_map]; omega)) only [mVar_z, Nat.reduceAdd, Nat.zero_add, Int.zero_add, Int.reduceAdd, Int.reduceSub, Int.reduceNeg, ap_Lst, ap_Tup, nil_app, cons_app, List.length_append, lst_last, mVar_s, ok_bnd, ok_stm, exc_bnd, ev_okE, exc_stm, ap_C, ap_Op, ap_Un, ap_B, ap_Chain, ap_asB, ap_And, ap_Or, ap_Not, ap_AndV, ap_OrV, ap_NotV, ap_If, ap_Nil, ap_Cons, ap_CB, ap_Meth, ap_Part, ap_NoPart, ap_Sl, ap_Yes, add_ii, add_ss, sub_ii, neg_i, mul_ii, fdiv_ii, mod_ii, eq_ii, ne_ii, eq_ss, ne_ss, lt_ii, le_ii, gt_ii, ge_ii, lt_ss, gt_ss, le_ss, ge_ss, len_s, len_t, abs_i, int_i, int_b, max_ii, min_ii, ix_s, ixL_0, ixL_1, ixL_2, ixL_3, ixL_n, ixL_i, ixL_st, setL_n, setL_i, List.length_map, List.length_set, ix_r, getL_r, ix_tL, withL_s, setL_0, setL_1, setL_2, set_r, app_r, lst_z, lst_s, iadd_ii, tuple_r, mul_ri, sl_s, sl_rol, sl_t, sl_r, cut_from, cut_to, ap_Seq, nx_seq, rt_seq, ct_seq, bk_seq, exc_seq, ap_Raise, ap_Skip, ap_Brk, ap_Cnt, ap_Drop, ap_Ret, ap_IfS, ap_Set, ap_Ts, ap_AsgT, tgT_t, tgTs_n, tgTs_c, ap_Aug, ap_SetI, ap_AugI, mFor_ap, ap_Rng1, ap_Rng2, rng1_ok, rng2_ok, ap_Iter, src_t, src_s, src_rL, ap_Comp, wipe_n, wipe_c, len_cons, len_nil, zip_cc, zip_nn, foldl_c, foldl_n, set_z, set_s, ite_t, ite_f, ite_T, ite_F, sing_lt, sing_eq, ty_r, ty_s, isS, cut_mid, decide_eq_true_eq, if_pos, if_neg]
  have e1 := cut_to (xs := ns) h0
  have e2 := mapInt_rol (ns := ns) (lo := none) (hi := some most)
  rw [cut_to h0, e1] at e2
  rw [e2]
  have e3 := eq_ints (n := 0) (m := 1) (l := ns.take most.toNat) (l' := []) (h := [O.lst ((ns.take most.toNat).map W.int), O.lst []]) rfl rfl
  rw [e3]
  by_cases hz : ns.take most.toNat = []
  · rw [decide_eq_true hz]
    simp (disch := first | omega | (simp only [List.length_append, List.length_cons, List.length_nil, List.length_set, List.length_drop, List.length_take, List.length_map]; omega)) only [mVar_z, Nat.reduceAdd, Nat.zero_add, Int.zero_add, Int.reduceAdd, Int.reduceSub, Int.reduceNeg, ap_Lst, ap_Tup, nil_app, cons_app, List.length_append, lst_last, mVar_s, ok_bnd, ok_stm, exc_bnd, ev_okE, exc_stm, ap_C, ap_Op, ap_Un, ap_B, ap_Chain, ap_asB, ap_And, ap_Or, ap_Not, ap_AndV, ap_OrV, ap_NotV, ap_If, ap_Nil, ap_Cons, ap_CB, ap_Meth, ap_Part, ap_NoPart, ap_Sl, ap_Yes, add_ii, add_ss, sub_ii, neg_i, mul_ii, fdiv_ii, mod_ii, eq_ii, ne_ii, eq_ss, ne_ss, lt_ii, le_ii, gt_ii, ge_ii, lt_ss, gt_ss, le_ss, ge_ss, len_s, len_t, abs_i, int_i, int_b, max_ii, min_ii, ix_s, ixL_0, ixL_1, ixL_2, ixL_3, ixL_n, ixL_i, ixL_st, setL_n, setL_i, List.length_map, List.length_set, ix_r, getL_r, ix_tL, withL_s, setL_0, setL_1, setL_2, set_r, app_r, lst_z, lst_s, iadd_ii, tuple_r, mul_ri, sl_s, sl_rol, sl_t, sl_r, cut_from, cut_to, ap_Seq, nx_seq, rt_seq, ct_seq, bk_seq, exc_seq, ap_Raise, ap_Skip, ap_Brk, ap_Cnt, ap_Drop, ap_Ret, ap_IfS, ap_Set, ap_Ts, ap_AsgT, tgT_t, tgTs_n, tgTs_c, ap_Aug, ap_SetI, ap_AugI, mFor_ap, ap_Rng1, ap_Rng2, rng1_ok, rng2_ok, ap_Iter, src_t, src_s, src_rL, ap_Comp, wipe_n, wipe_c, len_cons, len_nil, zip_cc, zip_nn, foldl_c, foldl_n, set_z, set_s, ite_t, ite_f, ite_T, ite_F, sing_lt, sing_eq, ty_r, ty_s, isS, cut_mid, decide_eq_true_eq, if_pos, if_neg]
    have m1 := main [O.lst ((ns.take most.toNat).map W.int), O.lst [], O.lst [W.int 0]] [] 2 [0] rfl (by simp) (by simp) (by simp; exact Nat.lt_of_lt_of_le (by decide) AB_ge)
    unfold scriptW at m1
    simp only [cons_app, nil_app, len_cons, len_nil, Nat.reduceAdd] at m1
    refine sv_stm ?_
    refine ev_imp m1 fun w h p => ?_
    exact p
  · rw [decide_eq_false hz]
    simp (disch := first | omega | (simp only [List.length_append, List.length_cons, List.length_nil, List.length_set, List.length_drop, List.length_take, List.length_map]; omega)) only [mVar_z, Nat.reduceAdd, Nat.zero_add, Int.zero_add, Int.reduceAdd, Int.reduceSub, Int.reduceNeg, ap_Lst, ap_Tup, nil_app, cons_app, List.length_append, lst_last, mVar_s, ok_bnd, ok_stm, exc_bnd, ev_okE, exc_stm, ap_C, ap_Op, ap_Un, ap_B, ap_Chain, ap_asB, ap_And, ap_Or, ap_Not, ap_AndV, ap_OrV, ap_NotV, ap_If, ap_Nil, ap_Cons, ap_CB, ap_Meth, ap_Part, ap_NoPart, ap_Sl, ap_Yes, add_ii, add_ss, sub_ii, neg_i, mul_ii, fdiv_ii, mod_ii, eq_ii, ne_ii, eq_ss, ne_ss, lt_ii, le_ii, gt_ii, ge_ii, lt_ss, gt_ss, le_ss, ge_ss, len_s, len_t, abs_i, int_i, int_b, max_ii, min_ii, ix_s, ixL_0, ixL_1, ixL_2, ixL_3, ixL_n, ixL_i, ixL_st, setL_n, setL_i, List.length_map, List.length_set, ix_r, getL_r, ix_tL, withL_s, setL_0, setL_1, setL_2, set_r, app_r, lst_z, lst_s, iadd_ii, tuple_r, mul_ri, sl_s, sl_rol, sl_t, sl_r, cut_from, cut_to, ap_Seq, nx_seq, rt_seq, ct_seq, bk_seq, exc_seq, ap_Raise, ap_Skip, ap_Brk, ap_Cnt, ap_Drop, ap_Ret, ap_IfS, ap_Set, ap_Ts, ap_AsgT, tgT_t, tgTs_n, tgTs_c, ap_Aug, ap_SetI, ap_AugI, mFor_ap, ap_Rng1, ap_Rng2, rng1_ok, rng2_ok, ap_Iter, src_t, src_s, src_rL, ap_Comp, wipe_n, wipe_c, len_cons, len_nil, zip_cc, zip_nn, foldl_c, foldl_n, set_z, set_s, ite_t, ite_f, ite_T, ite_F, sing_lt, sing_eq, ty_r, ty_s, isS, cut_mid, decide_eq_true_eq, if_pos, if_neg]
    have m1 := main [O.lst ((ns.take most.toNat).map W.int), O.lst []] [] 0 (ns.take most.toNat) rfl hz (by simp; omega) (fun z hz => hb z (List.mem_of_mem_take hz))
    unfold scriptW at m1
    simp only [cons_app, nil_app, len_cons, len_nil, Nat.reduceAdd] at m1
    refine sv_stm ?_
    refine ev_imp m1 fun w h p => ?_
    exact p

/-! ### lists of numbers and of texts -/
def picksI (N : Nat) (lo : Int) (c : Nat → Bool) : List Int := ((List.range N).filter c).map fun i : Nat => lo + (i : Int)
theorem picks_int {N : Nat} {lo : Int} {c : Nat → Bool} : picks N c (fun i => .int (lo + i)) = (picksI N lo c).map .int := by
  unfold picks picksI
  rw [List.map_map]
  rfl
theorem picksI_nil {N : Nat} {lo : Int} {c : Nat → Bool} : picksI N lo c = [] ↔ ∀ i, i < N → c i = false := by
  unfold picksI
  rw [List.map_eq_nil_iff, List.filter_eq_nil_iff]
  constructor
  · intro h i hi
    simpa using h i (List.mem_range.2 hi)
  · intro h i hi
    simpa using h i (List.mem_range.1 hi)
theorem mem_picksI {N : Nat} {lo : Int} {c : Nat → Bool} {z : Int} : z ∈ picksI N lo c ↔ ∃ i, i < N ∧ c i = true ∧ z = lo + i := by
  unfold picksI
  rw [List.mem_map]
  constructor
  · rintro ⟨i, hi, rfl⟩
    rw [List.mem_filter, List.mem_range] at hi
    exact ⟨i, hi.1, hi.2, rfl⟩
  · rintro ⟨i, h1, h2, rfl⟩
    exact ⟨i, by rw [List.mem_filter, List.mem_range]; exact ⟨h1, h2⟩, rfl⟩
theorem intsOf_map : ∀ l : List Int, intsOf (l.map .int) = some l
  | [] => rfl
  | i :: l => by rw [List.map_cons]; unfold intsOf; rw [intsOf_map l]; rfl
theorem strsOf_map : ∀ l : List (List Nat), strsOf (l.map .str) = some l
  | [] => rfl
  | i :: l => by rw [List.map_cons]; unfold strsOf; rw [strsOf_map l]; rfl
theorem max_r {h : List O} {n : Nat} {l : List Int} (hn : lstAt h n = some (l.map .int)) {r : Int} (h1 : r ∈ l) (h2 : ∀ z ∈ l, z ≤ r) : oMax [.ref n] h = .ok (.int r) h := by
  unfold oMax
  dsimp only [sqL]
  rw [hn]
  dsimp only
  rw [intsOf_map]
  dsimp only
  rw [if_pos (List.length_pos_of_mem h1), ← maxI_ok h1 h2]
theorem joinW_nil : ∀ l : List (List Nat), joinW [] l = l.flatten
  | [] => rfl
  | [x] => by simp [joinW]
  | x :: y :: r => by
    unfold joinW
    rw [joinW_nil (y :: r)]
    simp
theorem join_t {h : List O} {l : List (List Nat)} (hs : l.flatten.length ≤ 1000000) : oJoin (.str []) [.tup (l.map .str)] h = .ok (.str l.flatten) h := by
  unfold oJoin
  dsimp only [sqA]
  rw [strsOf_map]
  dsimp only
  rw [if_pos (by rw [← List.length_flatten]; simpa using hs), joinW_nil]
theorem join_r {h : List O} {n : Nat} {l : List (List Nat)} (hn : lstAt h n = some (l.map .str)) (hs : l.flatten.length ≤ 1000000) : oJoin (.str []) [.ref n] h = .ok (.str l.flatten) h := by
  unfold oJoin
  dsimp only [sqA]
  rw [hn]
  dsimp only
  rw [strsOf_map]
  dsimp only
  rw [if_pos (by rw [← List.length_flatten]; simpa using hs), joinW_nil]
theorem list_ex {α : Type} {f : α → W} {P : α → Prop} : ∀ acc : List W, (∀ (i : Nat) (w : W), acc[i]? = some w → ∃ c, w = f c ∧ P c) → ∃ cs : List α, acc = cs.map f ∧ ∀ c ∈ cs, P c
  | [], _ => ⟨[], rfl, by simp⟩
  | w :: acc, h => by
    obtain ⟨c, rfl, hc⟩ := h 0 w rfl
    obtain ⟨cs, rfl, hcs⟩ := list_ex acc fun i w hw => h (i + 1) w hw
    exact ⟨c :: cs, rfl, fun x hx => by
      rcases List.mem_cons.1 hx with rfl | hx
      · exact hc
      · exact hcs x hx⟩
theorem flat_one : ∀ cs : List Nat, (cs.map fun c => [c]).flatten = cs
  | [] => rfl
  | c :: cs => by rw [List.map_cons, List.flatten_cons, flat_one cs]; rfl
theorem minS_fold (r : List (List Nat)) : ∀ x : List Nat, (r.foldl (fun a y => if y < a then y else a) x ∈ x :: r) ∧ ∀ z ∈ x :: r, ¬ z < r.foldl (fun a y => if y < a then y else a) x := by
  induction r with
  | nil => intro x; exact ⟨List.mem_cons_self, fun z hz => by rw [List.mem_singleton.1 hz]; exact List.lt_irrefl _⟩
  | cons y r ih =>
    intro x
    rw [List.foldl_cons]
    by_cases hyx : y < x
    · rw [if_pos hyx]
      obtain ⟨a, b⟩ := ih y
      refine ⟨List.mem_cons_of_mem _ a, fun z hz => ?_⟩
      rcases List.mem_cons.1 hz with rfl | hz
      · intro hlt
        exact b y List.mem_cons_self (List.lt_trans hyx hlt)
      · exact b z hz
    · rw [if_neg hyx]
      obtain ⟨a, b⟩ := ih x
      refine ⟨?_, fun z hz => ?_⟩
      · rcases List.mem_cons.1 a with e | e
        · rw [e]; exact List.mem_cons_self
        · exact List.mem_cons_of_mem _ (List.mem_cons_of_mem _ e)
      · rcases List.mem_cons.1 hz with rfl | hz
        · exact b _ List.mem_cons_self
        · rcases List.mem_cons.1 hz with rfl | hz
          · intro hlt
            have h1 := b x List.mem_cons_self
            have h2 : ¬ z < x := hyx
            have h3 : x ≤ z := h2
            exact h1 (List.lt_of_le_of_lt h3 hlt)
          · exact b z (List.mem_cons_of_mem _ hz)
theorem minS_ok {l : List (List Nat)} {m : List Nat} (hm : m ∈ l) (h : ∀ z ∈ l, ¬ z < m) : minS l = m := by
  cases l with
  | nil => cases hm
  | cons x r =>
    obtain ⟨a, b⟩ := minS_fold r x
    have h1 := b m hm
    have h2 := h _ a
    exact List.le_antisymm h1 h2
theorem min_rs {h : List O} {n : Nat} {l : List (List Nat)} (hn : lstAt h n = some (l.map .str)) {m : List Nat} (h1 : m ∈ l) (h2 : ∀ z ∈ l, ¬ z < m) : oMin [.ref n] h = .ok (.str m) h := by
  unfold oMin
  dsimp only [sqL]
  rw [hn]
  dsimp only
  have e : intsOf (l.map .str) = none := by
    cases l with
    | nil => cases h1
    | cons x r => rfl
  rw [e]
  dsimp only
  rw [strsOf_map]
  dsimp only
  rw [if_pos (List.length_pos_of_mem h1), minS_ok h1 h2]
theorem idxOf_is {α : Type} [BEq α] [LawfulBEq α] {x : α} : ∀ {l : List α} {j : Nat}, l[j]? = some x → (∀ m, m < j → l[m]? ≠ some x) → idxOf x l = some j
  | [], j, h, _ => by cases h
  | y :: r, 0, h, _ => by
    cases h
    unfold idxOf
    rw [if_pos (by simp)]
  | y :: r, j + 1, h, hm => by
    unfold idxOf
    rw [if_neg, idxOf_is (l := r) (j := j) h fun m hmj => hm (m + 1) (by omega)]
    · rfl
    · intro e
      have e2 : y = x := by simpa using e
      subst e2
      exact hm 0 (by omega) rfl
theorem index_s {h : List O} {n : Nat} {l : List (List Nat)} {s : List Nat} {j : Nat} (hn : lstAt h n = some (l.map .str)) (h1 : l[j]? = some s) (h2 : ∀ m, m < j → l[m]? ≠ some s) : oIndex (.ref n) [.str s] h = .ok (.int j) h := by
  unfold oIndex
  dsimp only [sqL]
  rw [hn]
  dsimp only
  rw [strsOf_map]
  dsimp only
  rw [idxOf_is h1 h2]
theorem picks_all {N : Nat} {f : Nat → W} : picks N (fun _ => true) f = (List.range N).map f := by
  unfold picks
  rw [List.filter_eq_self.2 (by simp)]
theorem sv_nx {e : Env} {h : List O} {R : SOut → Prop} : Sv (.nx e h) R = R (.nx e h) := nrfl rfl
theorem sv_rt {w : W} {h : List O} {R : SOut → Prop} : Sv (.rt w h) R = R (.rt w h) := nrfl rfl
theorem sv_ct {e : Env} {h : List O} {R : SOut → Prop} : Sv (.ct e h) R = R (.ct e h) := nrfl rfl
theorem rnd_nx {e : Env} {h : List O} {I : Env → List O → Prop} {R : SOut → Prop} : rnd I R (.nx e h) = I e h := nrfl rfl
theorem rnd_ct {e : Env} {h : List O} {I : Env → List O → Prop} {R : SOut → Prop} : rnd I R (.ct e h) = I e h := nrfl rfl
end Den
set_option maxRecDepth 100000
/-! The heap never gets smaller. -/
namespace Den
open PySem
open Sem (wp)
theorem runs_hsz {M : Model} {Γ : Ctx} {p : Pos} {t : Sem PySem.Fin} {fs : List Frame} {s s' : Shared} {e : End} (h : Runs M Γ p t fs s e s') : s.heap.objs.size ≤ s'.heap.objs.size := by
  induction h <;> (try simp only [Shared.setGen, Heap.size_update, Heap.size_push] at *) <;> omega
theorem returns_hsz {M : Model} {Γ : Ctx} {p : Pos} {s s' : Shared} {r : Result} (h : Returns M Γ p s r s') : s.heap.objs.size ≤ s'.heap.objs.size := runs_hsz h
theorem wakes_hsz {M : Model} {Γ : Ctx} {p : Pos} {g : Nat} {r : Resume} {s s' : Shared} {res : GenResult} (h : Wakes M Γ p g r s res s') : s.heap.objs.size ≤ s'.heap.objs.size := by
  unfold Wakes at h
  split at h
  · exact h.elim
  · split at h
    · obtain ⟨e₁, s₁, hr, _, _, rfl⟩ := h
      exact (show s.heap.objs.size ≤ s₁.heap.objs.size from runs_hsz (s := s.setGen g .running) hr)
    · rw [h.2]; exact Nat.le_refl _
    · rw [h.2]; exact Nat.le_refl _
  · obtain ⟨e₁, s₁, hr, _, _, rfl⟩ := h
    exact (show s.heap.objs.size ≤ s₁.heap.objs.size from runs_hsz (s := s.setGen g .running) hr)
  · rw [h.2]; exact Nat.le_refl _
  · rw [h.2]; exact Nat.le_refl _
theorem wp_hsz {α : Type} (M : Model) (Γ : Ctx) (n : Nat) (t : Sem α) : ∀ (Q : α → Pos → Shared → Prop) (E : Value → Pos → Shared → Prop) (p : Pos) (s : Shared), n ≤ s.heap.objs.size → wp M Γ t Q E p s →
    wp M Γ t (fun a p' s' => n ≤ s'.heap.objs.size ∧ Q a p' s') (fun e p' s' => n ≤ s'.heap.objs.size ∧ E e p' s') p s := by
  induction t with
  | pure a => intro Q E p s hn h; exact ⟨hn, h⟩
  | raise e => intro Q E p s hn h; exact ⟨hn, h⟩
  | unsupported _ => intro Q E p s _ h; exact h
  | finish _ => intro Q E p s _ h; exact h
  | rule _ k ih => intro Q E p s hn h; exact ih () Q E p s hn h
  | «at» p' k ih => intro Q E p s hn h; exact ih () Q E p' s hn h
  | load a _ k ih => intro Q E p s hn h; obtain ⟨o, ho, h⟩ := h; exact ⟨o, ho, ih o Q E p s hn h⟩
  | update a _ f k ih => intro Q E p s hn h; exact ⟨h.1, ih () Q E p _ (by simpa using hn) h.2⟩
  | loadIfAlive a k ih => intro Q E p s hn h; exact ih _ Q E p s hn h
  | point _ k ih => intro Q E p s hn h; exact ih () Q E p s hn h
  | register _ _ => intro Q E p s _ h; exact h
  | alloc o k ih => intro Q E p s hn h; exact ih _ Q E p _ (by simp only [Heap.size_push]; omega) h
  | fresh k ih => intro Q E p s hn h; exact ih _ Q E p _ hn h
  | ask k ih => intro Q E p s hn h; exact ih _ Q E p s hn h
  | choose src m k ih => intro Q E p s hn h; exact ⟨h.1, ih _ Q E p _ hn h.2⟩
  | os q _ k ih => intro Q E p s hn h; exact ih _ Q E p _ hn h
  | call c hd _ _ k ih => intro Q E p s hn h; obtain ⟨r, s', hr, h⟩ := h; exact ⟨r, s', hr, ih r Q E p s' (Nat.le_trans hn (returns_hsz hr)) h⟩
  | handled own k ih => intro Q E p s hn h; exact ih _ Q E p s hn h
  | genState g k ih => intro Q E p s hn h; obtain ⟨st, hs, h⟩ := h; exact ⟨st, hs, ih _ Q E p s hn h⟩
  | newGen c k ih => intro Q E p s hn h; exact ih _ Q E p _ hn h
  | resume g r _ k ih => intro Q E p s hn h; obtain ⟨res, s', hw, h⟩ := h; exact ⟨res, s', hw, ih res Q E p s' (Nat.le_trans hn (wakes_hsz hw)) h⟩
  | yield _ _ _ _ => intro Q E p s _ h; exact h
  | stack k ih => intro Q E p s hn h; exact ih _ Q E p s hn h
  | fork _ _ => intro Q E p s _ h; exact h
  | thread k ih => intro Q E p s hn h; exact ih _ Q E p s hn h
  | await _ _ _ _ _ => intro Q E p s _ h; exact h
theorem wpAny_hsz {α : Type} {M : Model} {A : Around} {s : Shared} {t : Sem α} {Q : α → Shared → Prop} {E : Value → Shared → Prop}
    (h : wpAny M A t (fun a s' => s.heap.objs.size ≤ s'.heap.objs.size → Q a s') (fun e s' => s.heap.objs.size ≤ s'.heap.objs.size → E e s') s) : wpAny M A t Q E s :=
  wpAny_mono (fun Γ p hΓ => wp_hsz M Γ _ t _ _ p s (Nat.le_refl _) (h Γ p hΓ) : wpAny M A t (fun a s' => s.heap.objs.size ≤ s'.heap.objs.size ∧ (s.heap.objs.size ≤ s'.heap.objs.size → Q a s')) (fun e s' => s.heap.objs.size ≤ s'.heap.objs.size ∧ (s.heap.objs.size ≤ s'.heap.objs.size → E e s')) s)
    (fun _ _ x => x.2 x.1) fun _ _ x => x.2 x.1
end Den
set_option maxRecDepth 100000
/-! Small expressions read in a frame of their own: keys of a sort, elements of a generator. -/
namespace Den
open PySem L2 PyProof.Rows
abbrev Kp (h h' : Heap) : Prop := ∀ b o, h.get? b = some o → h'.get? b = some o
/-- e, read in env on any heap that keeps h0, gives a value with R; all that was stays -/
def Px (P : Program) (w : World) (env : PySem.Env) (h0 : Heap) (e : Expr) (R : Value → Heap → Prop) : Prop :=
  ∀ (A : Around) (E : Value → Shared → Prop) (s : Shared), Kp h0 s.heap → wpAny (model P w) A (eval e env) (fun y s' => R y s'.heap ∧ Keeps s s') E s
section
variable {P : Program} {w : World} {env : PySem.Env} {h0 : Heap} {R R' : Value → Heap → Prop} {e a b : Expr} {x : Str} {pos p : Pos}
theorem keeps_tok (s : Shared) (k : Nat) : Keeps s { s with toks := k } := ⟨s.heap, k, rfl, fun _ _ e => e⟩
theorem keeps_rfl (s : Shared) : Keeps s s := keeps_tok s s.toks
theorem kpH {s s' : Shared} (k : Keeps s s') : Kp s.heap s'.heap := by
  obtain ⟨h, tk, rfl, kp⟩ := k
  exact kp
theorem kpT {s s' s'' : Shared} (k : Keeps s s') (k' : Keeps s' s'') : Keeps s s'' := by
  obtain ⟨h, tk, rfl, kp⟩ := k
  obtain ⟨h', tk', rfl, kp'⟩ := k'
  exact ⟨h', tk', rfl, fun b o e => kp' b o (kp b o e)⟩
theorem px_imp (p : Px P w env h0 e R) (i : ∀ y h, Kp h0 h → R y h → R' y h) : Px P w env h0 e R' := fun A E s k =>
  wpAny_mono (p A E s k) (fun y s' q => ⟨i y _ (fun b o e => kpH q.2 b o (k b o e)) q.1, q.2⟩) fun _ _ e => e
theorem px_local {m : Str → Option Value} {v : Value} (hk : env.scope.kind = .function) (hl : env.kindOf x = some .local) (hn : h0.Ns env.locals m) (hv : m x = some v) (hd : (x == ("__debug__" : Str)) = false := by decide) : Px P w env h0 (.Name x pos) fun y _ => y = v := fun A E s k =>
  wpAny_Name (wpAny_loadName_local hk hl (hn.keeps k) hv ⟨rfl, keeps_rfl s⟩) hd
theorem px_free {c : Addr} {v : Value} (hk : env.scope.kind = .function) (hl : env.kindOf x = some .free) (hc : env.cells.lookup x = some c) (hv : h0.IsCell c (some v)) (hd : (x == ("__debug__" : Str)) = false := by decide) (hn : (x == ("__classdict__" : Str)) = false := by decide) : Px P w env h0 (.Name x pos) fun y _ => y = v := fun A E s k =>
  wpAny_Name (wpAny_loadName_free hk hl hc (by obtain ⟨o, h1, h2⟩ := hv; exact ⟨o, k _ _ h1, h2⟩) ⟨rfl, keeps_rfl s⟩ hn) hd
theorem px_int {i : Int} {k : Nat} : Px P w env h0 (.Constant (.int i) k pos) fun y _ => ∃ t, y = .int i t := fun A E s _ =>
  wpAny_Constant_int ⟨⟨_, rfl⟩, keeps_tok _ _⟩
theorem px_str {i : Str} {k : Nat} : Px P w env h0 (.Constant (.str i) k pos) fun y _ => ∃ t, y = .str i t := fun A E s _ =>
  Calls.Constant_str ⟨⟨_, rfl⟩, keeps_tok _ _⟩
theorem px_neg {i : Int} (ha : Px P w env h0 a fun y _ => ∃ t, y = .int i t) : Px P w env h0 (.UnaryOp .USub a pos) fun y _ => ∃ t, y = .int (-i) t := fun A E s k =>
  wpAny_UnaryOp (wpAny_mono (ha A E s k) (fun y s' q => by
    obtain ⟨⟨t, rfl⟩, q⟩ := q
    exact neg_int ⟨⟨_, rfl⟩, kpT q (keeps_tok _ _)⟩) fun _ _ e => e)
/-- two parts, a tuple of them -/
theorem px_tup2 {Ra Rb : Value → Heap → Prop} {k : Nat} (ha : Px P w env h0 a Ra) (hb : Px P w env h0 b Rb) (ma : ∀ v h h', Kp h h' → Ra v h → Ra v h') (mb : ∀ v h h', Kp h h' → Rb v h → Rb v h')
    (he : starEach [a, b] env = [(false, eval a env), (false, eval b env)] := by rfl) : Px P w env h0 (.Tuple [a, b] k pos) fun y h => ∃ (t : Addr) (va vb : Value), y = .ref t ∧ h.get? t = some { cls := .type "tuple", data := .seq #[va, vb] } ∧ Ra va h ∧ Rb vb h := fun A E s kp => by
  refine wpAny_Tuple ?_
  rw [he]
  refine Calls.spliced_cons (wpAny_mono (ha A E s kp) (fun va s1 q1 => ?_) fun _ _ e => e)
  refine Calls.spliced_cons (wpAny_mono (hb A E s1 (fun b o e => kpH q1.2 b o (kp b o e))) (fun vb s2 q2 => ?_) fun _ _ e => e)
  refine Calls.spliced_nil ⟨lim_size (show 2 ≤ lim by decide), ⟨_, va, vb, rfl, Heap.get?_push_size _ rfl, ?_, ?_⟩, ?_⟩
  · exact ma _ _ _ (fun b o e => Heap.get?_push_of_some _ (kpH q2.2 b o e)) q1.1
  · exact mb _ _ _ (fun b o e => Heap.get?_push_of_some _ e) q2.1
  · obtain ⟨h, tk, rfl, kp2⟩ := kpT q1.2 q2.2
    exact ⟨_, _, rfl, fun b o e => Heap.get?_push_of_some _ (kp2 b o e)⟩
end
section
variable {P : Program} {w : World} {env : PySem.Env} {h0 : Heap} {a b : Expr} {pos : Pos}
/-- z[i], z a text -/
theorem px_ixS {z : Str} {i : Int} {c : Nat} (ha : Px P w env h0 a fun y _ => ∃ t, y = .str z t) (hb : Px P w env h0 b fun y _ => ∃ t, y = .int i t) (hz : z.length ≤ sizeLine) (he : L2.atI z.cps.toList i = some c) (hs : PlainIx b := by exact fun _ _ => rfl) :
    Px P w env h0 (.Subscript a b pos) fun y _ => ∃ t, y = .str ⟨#[c]⟩ t := fun A E s kp => by
  refine Subscript_ (wpAny_mono (ha A E s kp) (fun o s1 q1 => wpAny_mono (hb A E s1 (fun b' o' e => kpH q1.2 b' o' (kp b' o' e))) (fun u s2 q2 => ?_) fun _ _ e => e) fun _ _ e => e)
  obtain ⟨⟨t, rfl⟩, k1⟩ := q1
  obtain ⟨⟨t', rfl⟩, k2⟩ := q2
  obtain ⟨j, h1, h2, h3, h4, h5⟩ := atI_get he
  have hl : z.cps.toList.length = z.length := by simp [Str.length]
  rw [hl] at h1 h4 h5
  have hn := line63
  exact tail_any (typeIs_str s2 z t) slot_str_getitem.lookup (PySem.P.getItem_str (c := c) (by
    have e1 : decide (i < -(2 ^ 63 : Int)) = false := decide_eq_false (by omega)
    have e2 : decide (i ≥ 2 ^ 63) = false := decide_eq_false (by omega)
    rw [e1, e2, Bool.or_false]) (by rw [h1]; simpa using h2) ⟨⟨_, rfl⟩, kpT k1 (kpT k2 (keeps_tok _ _))⟩) (hs _ _)
/-- xs[i], xs a list -/
theorem px_ixL {its : List Value} {i : Int} {v : Value} (ha : Px P w env h0 a fun y h => ∃ p, y = .ref p ∧ h.IsList p its.toArray) (hb : Px P w env h0 b fun y _ => ∃ t, y = .int i t) (hm : ∀ (p : Addr) (h h' : Heap), Kp h h' → h.IsList p its.toArray → h'.IsList p its.toArray) (hz : its.length ≤ sizeLine) (he : L2.atI its i = some v) (hs : PlainIx b := by exact fun _ _ => rfl) :
    Px P w env h0 (.Subscript a b pos) fun y _ => y = v := fun A E s kp => by
  refine Subscript_ (wpAny_mono (ha A E s kp) (fun o s1 q1 => wpAny_mono (hb A E s1 (fun b' o' e => kpH q1.2 b' o' (kp b' o' e))) (fun u s2 q2 => ?_) fun _ _ e => e) fun _ _ e => e)
  obtain ⟨⟨p, rfl, hp⟩, k1⟩ := q1
  obtain ⟨⟨t', rfl⟩, k2⟩ := q2
  have hp2 := hm p _ _ (kpH k2) hp
  obtain ⟨j, h1, h2, h3, h4, h5⟩ := atI_get he
  have hn := line63
  have fin : (fun y (s' : Shared) => (y = v) ∧ Keeps s s') v s2 := ⟨rfl, kpT k1 k2⟩
  by_cases hi : 0 ≤ i
  · have hj : i.toNat = j := by
      rw [seqIndex_of hi h5] at h1
      exact Option.some.inj h1
    exact item_listR hp2 hi (by omega) (by rw [hj]; simpa using h2) fin (hs _ _)
  · have hj : (i + (its.toArray.size : Int)).toNat = j := by
      rw [seqIndex_neg (by omega) h4] at h1
      rw [List.size_toArray]
      exact Option.some.inj h1
    exact subscriptTail_builtinR (x := v) hp2.typeIs slot_list_getitem.lookup
      (wpAny_getItem_list_neg (Q := fun r s' => r = v ∧ ((fun y (s' : Shared) => (y = v) ∧ Keeps s s') r s')) hp2 (by omega) (by rw [List.size_toArray] <;> omega) (by omega) (by rw [hj]; simpa using h2) ⟨rfl, fin⟩) (hs _ _)
end
end Den
set_option maxRecDepth 100000
/-! Sorted lists of any plain data. -/
namespace Den
open PySem L2 PyProof.Rows
/-- zipped, sorted by the second, the first of each -/
def sortBy {α : Type} (xs : List α) (ds : List PyData) : List α := ((xs.zip ds).mergeSort (PySem.W.dataLe false Prod.snd)).map Prod.fst
theorem sortBy_length {α : Type} {xs : List α} {ds : List PyData} (h : xs.length = ds.length) : (sortBy xs ds).length = xs.length := by
  unfold sortBy
  rw [List.length_map, List.length_mergeSort, List.length_zip, h]
  exact Nat.min_self _
/-- all of one kind, none is None -/
def kindOk (ds : List PyData) : Bool := ds.all fun d => (ds.all fun e => PySem.W.alike d e) && decide (d.depth ≤ 16) && (match d with
  | .tuple [] => false
  | .none => false
  | _ => true)
section
variable {X : Cx}
theorem kindOk_alike {ds : List PyData} (h : kindOk ds = true) : PySem.W.AllAlike ds := fun d hd e he => by
  unfold kindOk at h
  have h1 := (List.all_eq_true.1 h) d hd
  simp only [Bool.and_eq_true] at h1
  exact (List.all_eq_true.1 h1.1.1) e he
theorem kindOk_depth {ds : List PyData} (h : kindOk ds = true) : ∀ d ∈ ds, d.depth ≤ 16 := fun d hd => by
  unfold kindOk at h
  have h1 := (List.all_eq_true.1 h) d hd
  simp only [Bool.and_eq_true, decide_eq_true_eq] at h1
  exact h1.1.2
theorem kindOk_sortable {ds : List PyData} (h : kindOk ds = true) : PySem.W.Sortable ds := by
  have hk := h
  unfold kindOk at h
  by_cases ht : ∃ d ∈ ds, ∃ xs, d = .tuple xs
  · obtain ⟨d, hd, xs, rfl⟩ := ht
    refine .inl fun e he => ?_
    have ha := kindOk_alike hk _ hd _ he
    have h1 := (List.all_eq_true.1 h) e he
    cases e with
    | tuple ys =>
      cases ys with
      | nil => simp at h1
      | cons y r => exact ⟨y, r, rfl⟩
    | none => simp [PySem.W.alike] at ha
    | bool b => simp [PySem.W.alike] at ha
    | int i => simp [PySem.W.alike] at ha
    | str s => simp [PySem.W.alike] at ha
    | list l => simp [PySem.W.alike] at ha
    | dict l => simp [PySem.W.alike] at ha
  · refine .inr fun d hd => ⟨fun e => ?_, fun xs e => ht ⟨d, hd, xs, e⟩⟩
    have h1 := (List.all_eq_true.1 h) d hd
    subst e
    simp at h1
def rSortD (K : PySem.W.Frag) : List V → Hp → VK → Prop := fun vs H Q => ∃ (a : Addr) (xs : List V) (ds : List PyData), vs = [V.ref a] ∧ SqL K H a xs ∧ DpAll K H xs ds ∧ kindOk ds = true ∧ ∀ p, H p = none → Q (.ref p) (upd H p (.lst (sortBy xs ds)))
theorem dpAll_len {K : PySem.W.Frag} {H : Hp} : ∀ {xs : List V} {ds : List PyData}, DpAll K H xs ds → xs.length = ds.length
  | _, _, .nil => rfl
  | _, _, .cons _ r => by rw [List.length_cons, List.length_cons, dpAll_len r]
theorem each_zip {its : List Value} : ∀ {xs : List V} {ds : List PyData}, Vals xs its → xs.length = ds.length → PySem.W.EachIs (fun v (b : V × PyData) => RelV b.1 v) its (xs.zip ds) := by
  induction its with
  | nil =>
    intro xs ds r h
    cases r
    exact .nil
  | cons u us ih =>
    intro xs ds r h
    cases r with
    | cons r1 r2 =>
      cases ds with
      | nil => simp at h
      | cons d ds => exact .cons r1 (ih r2 (by simpa using h))
theorem each_reads {h : Heap} {its : List Value} : ∀ {xs : List V} {ds : List PyData} {as : List Addr}, xs.length = ds.length → ReadsAll h its ds as → PySem.W.EachIs (fun v (b : V × PyData) => ∃ as, Reads h v b.2 as) its (xs.zip ds) := by
  induction its with
  | nil =>
    intro xs ds as hl r
    cases r
    rw [List.zip_nil_right]
    exact .nil
  | cons u us ih =>
    intro xs ds as hl r
    cases r with
    | cons r1 r2 =>
      cases xs with
      | nil => simp at hl
      | cons x xs => exact .cons ⟨_, r1⟩ (ih (by simpa using hl) r2)
theorem vals_each : ∀ {out : List Value} {bs : List (V × PyData)}, PySem.W.EachIs (fun v (b : V × PyData) => RelV b.1 v) out bs → Vals (bs.map Prod.fst) out
  | _, _, .nil => .nil
  | _, _, .cons r h => .cons r (vals_each h)
theorem zip_snd {xs : List V} {ds : List PyData} (h : xs.length = ds.length) : (xs.zip ds).map Prod.snd = ds := by
  rw [List.map_snd_zip (by omega)]
theorem cr_sortedD (hc : X.calm = true) (hu : X.A.units + 64 < cLine) : CallR X (.builtin "sorted") (rSortD X.K) := by
  intro pins s σ H vs us Q I r h
  obtain ⟨a, xs, ds, rfl, hs, hd, hk, q⟩ := h
  obtain ⟨its, rv, hl, hz⟩ := I.list hs
  rw [Vals.ref1 r]
  have hlen := dpAll_len hd
  obtain ⟨as, rd⟩ := Dp.readsAll I ds xs its hd rv
  refine PySem.W.sorted_data (bs := xs.zip ds) (enc := Prod.snd) (R := fun v b => RelV b.1 v) hl.isList (each_zip rv hlen) (each_reads hlen rd) (by rw [zip_snd hlen]; exact kindOk_alike hk) (by rw [zip_snd hlen]; exact kindOk_sortable hk)
    (by rw [List.length_zip]; exact Nat.le_trans (Nat.min_le_left _ _) hz) (fun b hb => by
      have := kindOk_depth hk b.2 (by rw [← zip_snd hlen]; exact List.mem_map_of_mem hb)
      omega) fun out ho he => ?_
  obtain ⟨ep, he'⟩ := PyProof.Rows.sortedAll_at s.heap its out.toArray
  refine ⟨.ref _, upd H (s.heap.objs.size + 1) (.lst (sortBy xs ds)), I.laid (t' := s.toks) (fun _ _ => PyProof.Rows.sortedAll_old) (Nat.le_succ _) ⟨?_, out, ep, vals_each he, he'⟩, rfl, q _ (I.hok.fresh (Nat.le_succ _))⟩
  rw [sortBy_length hlen]
  exact hz
end
section
variable {K : PySem.W.Frag} {H : Hp} {ρ : List Addr}
theorem vrs_pairs : ∀ l : List (V × W), (∀ p ∈ l, VR K H ρ p.1 p.2) → VRs K H ρ (l.map Prod.fst) (l.map Prod.snd)
  | [], _ => .nil
  | p :: l, h => .cons (h p List.mem_cons_self) (vrs_pairs l fun q hq => h q (List.mem_cons_of_mem _ hq))
theorem vrs_zip : ∀ {vs : List V} {ws : List W}, VRs K H ρ vs ws → ∀ p ∈ vs.zip ws, VR K H ρ p.1 p.2
  | [], ws, _, p, hp => by simp at hp
  | v :: vs, [], r, p, hp => by simp at hp
  | v :: vs, w :: ws, r, p, hp => by
    unfold VRs at r
    obtain ⟨v', vs', e, q, z⟩ := r
    cases e
    rcases List.mem_cons.1 hp with rfl | hp
    · exact q
    · exact vrs_zip z p hp
theorem zip3 {α β γ : Type} : ∀ (xs : List α) (ys : List β) (ds : List γ), xs.length = ys.length → ((xs.zip ys).zip ds).map (fun t => (t.1.1, t.2)) = xs.zip ds ∧ ((xs.zip ys).zip ds).map (fun t => (t.1.2, t.2)) = ys.zip ds
  | [], [], ds, _ => ⟨rfl, rfl⟩
  | x :: xs, y :: ys, [], _ => ⟨rfl, rfl⟩
  | x :: xs, y :: ys, d :: ds, h => by
    obtain ⟨a, b⟩ := zip3 xs ys ds (by simpa using h)
    exact ⟨by simp [a], by simp [b]⟩
  | [], _ :: _, _, h => by simp at h
  | _ :: _, [], _, h => by simp at h
theorem sortBy_map {α β : Type} (f : α → β) (l : List (α × PyData)) : ((l.map fun t => (f t.1, t.2)).mergeSort (PySem.W.dataLe false Prod.snd)) = (l.mergeSort (PySem.W.dataLe false Prod.snd)).map fun t => (f t.1, t.2) := by
  symm
  apply List.map_mergeSort
  intro a _ b _
  rfl
theorem vrs_sortBy {vs : List V} {ws : List W} {ds : List PyData} (r : VRs K H ρ vs ws) : VRs K H ρ (sortBy vs ds) (sortBy ws ds) := by
  obtain ⟨a, b⟩ := zip3 vs ws ds r.length
  unfold sortBy
  rw [← a, ← b, sortBy_map Prod.fst, sortBy_map Prod.snd, List.map_map, List.map_map]
  have e1 : (Prod.fst ∘ fun t : (V × W) × PyData => (t.1.1, t.2)) = Prod.fst ∘ (fun t : (V × W) × PyData => t.1) := rfl
  have e2 : (Prod.fst ∘ fun t : (V × W) × PyData => (t.1.2, t.2)) = Prod.snd ∘ (fun t : (V × W) × PyData => t.1) := rfl
  rw [e1, e2, ← List.map_map, ← List.map_map]
  refine vrs_pairs _ fun p hp => ?_
  obtain ⟨t, ht, rfl⟩ := List.mem_map.1 hp
  have ht2 := (List.mergeSort_perm _ _).mem_iff.1 ht
  exact vrs_zip r _ (List.of_mem_zip ht2).1
end
def oSorted (ws : List W) (h : List O) : Out W := match ws with
  | [x] => match sqL x h with
    | some xs => match mapO (dat h 7) xs with
      | some ds => if kindOk ds = true then .ok (.ref h.length) (h ++ [.lst (sortBy xs ds)]) else .bad
      | none => .bad
    | none => .bad
  | _ => .bad
theorem cas_sorted {G : Gx} {X : Cx} (hc : X.calm = true) (hu : X.A.units + 64 < cLine) : CaS G X (.builtin "sorted") oSorted := ⟨_, cr_sortedD hc hu, fun E H ρ h vs ws Q hr r p => by
  unfold oSorted at p
  split at p
  · obtain ⟨v, rfl, q⟩ := r.inv1
    split at p
    · rename_i xs hx
      split at p
      · rename_i ds hd
        split at p
        · rename_i hk
          obtain ⟨a, vs, rfl, q, z⟩ := sqL_ok hr q hx
          exact ⟨a, vs, ds, rfl, q, mapO_dp (fun v w d r e => dat_dp hr 7 v w d r e) z hd, hk, new_lst hr (vrs_sortBy z) p⟩
        · exact False.elim p
      · exact False.elim p
    · exact False.elim p
  · exact False.elim p⟩
end Den
set_option maxRecDepth 100000
/-! in, not in. -/
namespace Den
open PySem L2 PyProof.Rows
theorem inV_ints (i : Int) (l : List Int) : inV (.int i) (l.map V.int) = decide (i ∈ l) := by
  unfold inV
  induction l with
  | nil => rfl
  | cons j l ih =>
    rw [List.map_cons, List.any_cons, ih]
    by_cases h : j = i
    · subst h; simp [eqV]
    · have h2 : ¬ i = j := fun e => h e.symm
      simp [eqV, h, h2]
theorem inV_strs (s : List Nat) (l : List (List Nat)) : inV (.str (mkS s)) ((l.map mkS).map V.str) = decide (s ∈ l) := by
  unfold inV
  induction l with
  | nil => rfl
  | cons j l ih =>
    rw [List.map_cons, List.map_cons, List.any_cons, ih]
    by_cases h : j = s
    · subst h; simp [eqV]
    · have h2 : ¬ s = j := fun e => h e.symm
      have h3 : mkS j ≠ mkS s := fun e => h (by have := congrArg (fun z : Str => z.cps.toList) e; simpa using this)
      simp [eqV, h2, h3]
/-- x in y, where it is known -/
def inW (x y : W) (h : List O) : Option Bool := match x, y with
  | .str [c], .str s => some (decide (c ∈ s))
  | .int i, .tup xs => (intsOf xs).map fun l => decide (i ∈ l)
  | .str s, .tup xs => (strsOf xs).map fun l => decide (s ∈ l)
  | x, y => match dat h 8 x, dat h 8 y with
    | some d, some (.list ds) => some (ds.any fun z => PyData.eqv z d)
    | _, _ => none
def oIn (x y : W) (h : List O) : Out W := match inW x y h with
  | some b => .ok (.bl b) h
  | none => .bad
def oNotIn (x y : W) (h : List O) : Out W := match inW x y h with
  | some b => .ok (.bl !b) h
  | none => .bad
theorem inW_ok {K : PySem.W.Frag} {G : Gx} {H : Hp} {ρ : List Addr} {h : List O} {x y : V} {wx wy : W} {b : Bool} (hr : HR K G H ρ h) (rx : VR K H ρ x wx) (ry : VR K H ρ y wy) (e : inW wx wy h = some b) :
    (∃ (c : Nat) (z : Str), x = .str ⟨#[c]⟩ ∧ y = .str z ∧ decide (c ∈ z.cps.toList) = b) ∨ (∃ p xs, y = .ref p ∧ (SqL K H p xs ∨ SqT K H p xs) ∧ flatV x = true ∧ xs.all flatV = true ∧ inV x xs = b) ∨
      ∃ d ds, Dp K H x d ∧ Dp K H y (.list ds) ∧ SeqAt.shaped d = true ∧ SeqAt.shaped (.list ds) = true ∧ (ds.any fun z => PyData.eqv z d) = b := by
  unfold inW at e
  split at e
  · cases e
    exact .inl ⟨_, _, rx.str, ry.str, rfl⟩
  · rename_i i xs
    cases hl : intsOf xs with
    | none => rw [hl] at e; cases e
    | some l =>
      rw [hl] at e
      cases e
      obtain ⟨a, vs, rfl, q, z⟩ := sqT_ok ry (show sqT (.tup xs) = some xs from rfl)
      rw [intsOf_ok z hl] at q
      exact .inr (.inl ⟨a, _, rfl, .inr q, by rw [rx.int]; rfl, flat_ints l, by rw [rx.int]; exact inV_ints i l⟩)
  · rename_i s xs
    cases hl : strsOf xs with
    | none => rw [hl] at e; cases e
    | some l =>
      rw [hl] at e
      cases e
      obtain ⟨a, vs, rfl, q, z⟩ := sqT_ok ry (show sqT (.tup xs) = some xs from rfl)
      rw [strsOf_ok z hl] at q
      exact .inr (.inl ⟨a, _, rfl, .inr q, by rw [rx.str]; rfl, flat_strs l, by rw [rx.str]; exact inV_strs s l⟩)
  · split at e
    · rename_i d ds hd hds
      cases e
      exact .inr (.inr ⟨d, ds, dat_dp hr 8 _ _ _ rx hd, dat_dp hr 8 _ _ _ ry hds, dat_shaped hd, dat_shaped hds, rfl⟩)
    · cases e
theorem ops_in {G : Gx} {X : Cx} (hu : X.A.units + 65 < cLine) : OpS G X (compareOp .In) oIn := ⟨_, OpR.or op_in_sign (OpR.or op_in_seq (op_inD hu)), fun E H ρ h x y wx wy Q hr rx ry p => by
  unfold oIn at p
  split at p
  · rename_i b hb
    have q : Q (.bl b) H := p.here hr vr_bl
    rcases inW_ok hr rx ry hb with ⟨c, z, h1, h2, h3⟩ | ⟨p, xs, h1, h2, h3, h4, h5⟩ | ⟨d, ds, h1, h2, h3, h4, h5⟩
    · exact .inl ⟨c, z, h1, h2, by rw [h3]; exact q⟩
    · exact .inr (.inl ⟨p, xs, h1, h2, h3, h4, by rw [h5]; exact q⟩)
    · exact .inr (.inr ⟨d, ds, h1, h2, h3, h4, by rw [h5]; exact q⟩)
  · exact False.elim p⟩
theorem ops_notin {G : Gx} {X : Cx} (hu : X.A.units + 65 < cLine) : OpS G X (compareOp .NotIn) oNotIn := ⟨_, OpR.or op_notIn_sign (OpR.or op_notIn_seq (op_notInD hu)), fun E H ρ h x y wx wy Q hr rx ry p => by
  unfold oNotIn at p
  split at p
  · rename_i b hb
    have q : Q (.bl !b) H := p.here hr vr_bl
    rcases inW_ok hr rx ry hb with ⟨c, z, h1, h2, h3⟩ | ⟨p, xs, h1, h2, h3, h4, h5⟩ | ⟨d, ds, h1, h2, h3, h4, h5⟩
    · exact .inl ⟨c, z, h1, h2, by rw [h3]; exact q⟩
    · exact .inr (.inl ⟨p, xs, h1, h2, h3, h4, by rw [h5]; exact q⟩)
    · exact .inr (.inr ⟨d, ds, h1, h2, h3, h4, by rw [h5]; exact q⟩)
  · exact False.elim p⟩
end Den
set_option maxRecDepth 100000
/-! min, max of lists of any plain data. -/
namespace Den
open PySem L2 PyProof.Rows
mutual
/-- plain data as a value -/
def ofDat : PyData → W
  | .none => .non
  | .bool b => .bl b
  | .int i => .int i
  | .str s => .str s.cps.toList
  | .tuple ds => .tup (ofDats ds)
  | _ => .non
def ofDats : List PyData → List W
  | [] => []
  | d :: ds => ofDat d :: ofDats ds
end
theorem ofDat_ok {h : List O} : ∀ (n : Nat) (w : W) (d : PyData), pureW w = true → dat h n w = some d → ofDat d = w
  | 0, w, d, _, e => by unfold dat at e; cases e
  | n + 1, .non, d, _, e => by unfold dat at e; cases e; rfl
  | n + 1, .bl b, d, _, e => by unfold dat at e; cases e; rfl
  | n + 1, .int i, d, _, e => by unfold dat at e; cases e; rfl
  | n + 1, .str s, d, _, e => by
    unfold dat at e
    split at e
    · cases e
      unfold ofDat
      simp
    · cases e
  | n + 1, .rol xs, d, p, _ => by unfold pureW at p; cases p
  | n + 1, .ref k, d, p, _ => by unfold pureW at p; cases p
  | n + 1, .tup xs, d, p, e => by
    unfold dat at e
    unfold pureW at p
    cases hx : mapO (dat h n) xs with
    | none => rw [hx] at e; cases e
    | some ds =>
      rw [hx] at e
      cases e
      unfold ofDat
      congr 1
      have go : ∀ (xs : List W) (ds : List PyData), pureWs xs = true → mapO (dat h n) xs = some ds → ofDats ds = xs := by
        intro xs
        induction xs with
        | nil => intro ds _ e; cases e; rfl
        | cons x xs ih =>
          intro ds p e
          unfold pureWs at p
          rw [Bool.and_eq_true] at p
          unfold mapO at e
          cases h1 : dat h n x with
          | none => rw [h1] at e; cases e
          | some d1 =>
            rw [h1] at e
            dsimp only at e
            cases h2 : mapO (dat h n) xs with
            | none => rw [h2] at e; cases e
            | some ds2 =>
              rw [h2] at e
              cases e
              unfold ofDats
              rw [ofDat_ok n x d1 p.1 h1, ih ds2 p.2 h2]
      exact go xs ds p hx
section
variable {X : Cx}
def rBestD (f : PyData → List PyData → PyData) (K : PySem.W.Frag) : List V → Hp → VK → Prop := fun vs H Q => ∃ (a : Addr) (xs : List V) (d : PyData) (ds : List PyData), vs = [V.ref a] ∧ SqL K H a xs ∧ DpAll K H xs (d :: ds) ∧ kindOk (d :: ds) = true ∧ PyData.depthAll (d :: ds) ≤ 16 ∧
  ∀ (i : Nat) (v : V), xs[i]? = some v → (d :: ds)[i]? = some (f d ds) → Q v H
theorem kindOk_all {ds : List PyData} (h : kindOk ds = true) : PySem.W.AlikeAll ds := ⟨kindOk_alike h, fun d hd e => by
  unfold kindOk at h
  have h1 := (List.all_eq_true.1 h) d hd
  subst e
  simp at h1⟩
theorem readsAll_get {h : Heap} : ∀ {us : List Value} {ds : List PyData} {as : List Addr} {i : Nat} {u : Value}, ReadsAll h us ds as → us[i]? = some u → ∃ d as', ds[i]? = some d ∧ Reads h u d as'
  | _, _, _, i, u, .nil, e => by simp at e
  | _, _, _, 0, u, .cons r _, e => by cases e; exact ⟨_, _, rfl, r⟩
  | _, _, _, i + 1, u, .cons _ r, e => readsAll_get (i := i) r e
theorem cr_minD (hc : X.calm = true) (hu : X.A.units + 64 < cLine) : CallR X (.builtin "min") (rBestD PySem.W.minD X.K) := by
  intro pins s σ H vs us Q I r h
  obtain ⟨a, xs, d, ds, rfl, hs, hd, hk, hdp, q⟩ := h
  obtain ⟨its, rv, hl, _⟩ := I.list hs
  rw [Vals.ref1 r]
  obtain ⟨as, rd⟩ := Dp.readsAll I (d :: ds) xs its hd rv
  refine PySem.W.min_list_data (I.ok.hd hc) hl.isList (by simpa using rd) (kindOk_all hk) (by omega) fun i v h' tk bs hv hr hkp => ?_
  have hv2 : its[i]? = some v := by simpa using hv
  obtain ⟨d', as', hd', rd'⟩ := readsAll_get rd hv2
  have e := (reads_det (h := s.heap) (h' := h') (fun b o e _ => hkp b o e) rd' hr).1
  obtain ⟨hi, _⟩ := List.getElem?_eq_some_iff.mp hv2
  have hlen := rv.length
  have e3 : xs[i]? = some (xs[i]'(by omega)) := List.getElem?_eq_getElem (by omega)
  obtain ⟨u, e4, ru⟩ := rv.get e3
  rw [hv2] at e4
  cases e4
  exact ⟨xs[i]'(by omega), H, I.kept hkp, ru, q i _ e3 (by rw [hd', e])⟩
theorem cr_maxD (hc : X.calm = true) (hu : X.A.units + 64 < cLine) : CallR X (.builtin "max") (rBestD PySem.W.maxD X.K) := by
  intro pins s σ H vs us Q I r h
  obtain ⟨a, xs, d, ds, rfl, hs, hd, hk, hdp, q⟩ := h
  obtain ⟨its, rv, hl, _⟩ := I.list hs
  rw [Vals.ref1 r]
  obtain ⟨as, rd⟩ := Dp.readsAll I (d :: ds) xs its hd rv
  refine PySem.W.max_list_data (I.ok.hd hc) hl.isList (by simpa using rd) (kindOk_all hk) (by omega) fun i v h' tk bs hv hr hkp => ?_
  have hv2 : its[i]? = some v := by simpa using hv
  obtain ⟨d', as', hd', rd'⟩ := readsAll_get rd hv2
  have e := (reads_det (h := s.heap) (h' := h') (fun b o e _ => hkp b o e) rd' hr).1
  obtain ⟨hi, _⟩ := List.getElem?_eq_some_iff.mp hv2
  have hlen := rv.length
  have e3 : xs[i]? = some (xs[i]'(by omega)) := List.getElem?_eq_getElem (by omega)
  obtain ⟨u, e4, ru⟩ := rv.get e3
  rw [hv2] at e4
  cases e4
  exact ⟨xs[i]'(by omega), H, I.kept hkp, ru, q i _ e3 (by rw [hd', e])⟩
end
def bestD (f : PyData → List PyData → PyData) (ws : List W) (h : List O) : Out W := match ws with
  | [x] => match sqL x h with
    | some xs => match mapO (dat h 7) xs with
      | some (d :: ds) => if kindOk (d :: ds) = true ∧ PyData.depthAll (d :: ds) ≤ 16 ∧ pureWs xs = true then .ok (ofDat (f d ds)) h else .bad
      | _ => .bad
    | none => .bad
  | _ => .bad
theorem mapO_get {f : W → Option PyData} : ∀ {xs : List W} {ds : List PyData} {i : Nat} {d : PyData}, mapO f xs = some ds → ds[i]? = some d → ∃ x, xs[i]? = some x ∧ f x = some d
  | [], ds, i, d, e, h => by cases e; simp at h
  | x :: xs, ds, i, d, e, h => by
    unfold mapO at e
    cases h1 : f x with
    | none => rw [h1] at e; cases e
    | some d1 =>
      rw [h1] at e
      dsimp only at e
      cases h2 : mapO f xs with
      | none => rw [h2] at e; cases e
      | some ds2 =>
        rw [h2] at e
        cases e
        cases i with
        | zero => cases h; exact ⟨x, rfl, h1⟩
        | succ i => exact mapO_get (i := i) h2 h
theorem pureWs_get : ∀ {xs : List W} {i : Nat} {x : W}, pureWs xs = true → xs[i]? = some x → pureW x = true
  | [], i, x, _, h => by simp at h
  | y :: xs, i, x, p, h => by
    unfold pureWs at p
    rw [Bool.and_eq_true] at p
    cases i with
    | zero => cases h; exact p.1
    | succ i => exact pureWs_get (i := i) p.2 h
theorem best_serves {K : PySem.W.Frag} {G : Gx} {f : PyData → List PyData → PyData} {E : XK} {H : Hp} {ρ : List Addr} {h : List O} {vs : List V} {ws : List W} {Q : VK} (hr : HR K G H ρ h) (r : VRs K H ρ vs ws) (p : Post K G E (VRel K) Q H ρ (bestD f ws h)) : rBestD f K vs H Q := by
  unfold bestD at p
  split at p
  · obtain ⟨v, rfl, q⟩ := r.inv1
    split at p
    · rename_i xs hx
      split at p
      · rename_i d ds hd
        split at p
        · rename_i hk
          obtain ⟨a, us, rfl, q, z⟩ := sqL_ok hr q hx
          refine ⟨a, us, d, ds, rfl, q, mapO_dp (fun v w d r e => dat_dp hr 7 v w d r e) z hd, hk.1, hk.2.1, fun i v hv hi => ?_⟩
          obtain ⟨x, hx1, hx2⟩ := mapO_get hd hi
          obtain ⟨v', hv', rv⟩ := z.get hx1
          rw [hv] at hv'
          cases hv'
          have e := ofDat_ok 7 x _ (pureWs_get hk.2.2 hx1) hx2
          rw [e] at p
          exact p.here hr rv
        · exact False.elim p
      · exact False.elim p
    · exact False.elim p
  · exact False.elim p
def oMinG (ws : List W) (h : List O) : Out W := match oMin ws h with
  | .bad => bestD PySem.W.minD ws h
  | o => o
def oMaxG (ws : List W) (h : List O) : Out W := match oMax ws h with
  | .bad => bestD PySem.W.maxD ws h
  | o => o
theorem cas_minG {G : Gx} {X : Cx} (hc : X.calm = true) (hu : X.A.units + 64 < cLine) : CaS G X (.builtin "min") oMinG := by
  obtain ⟨r, hr1, s⟩ := cas_min (G := G) hc hu
  refine ⟨_, CallR.or hr1 (cr_minD hc hu), fun E H ρ h vs ws Q hr rv p => ?_⟩
  unfold oMinG at p
  split at p
  · exact .inr (best_serves hr rv p)
  · exact .inl (s E H ρ h vs ws Q hr rv p)
theorem cas_maxG {G : Gx} {X : Cx} (hc : X.calm = true) (hu : X.A.units + 64 < cLine) : CaS G X (.builtin "max") oMaxG := by
  obtain ⟨r, hr1, s⟩ := cas_max (G := G) hc
  refine ⟨_, CallR.or hr1 (cr_maxD hc hu), fun E H ρ h vs ws Q hr rv p => ?_⟩
  unfold oMaxG at p
  split at p
  · exact .inr (best_serves hr rv p)
  · exact .inl (s E H ρ h vs ws Q hr rv p)
end Den
set_option maxRecDepth 100000
/-! The order of any plain data: <, <=, >, >=. -/
namespace Den
open PySem L2 PyProof.Rows
section
variable {X : Cx}
def rCmpD (f : PyData → PyData → Bool) (K : PySem.W.Frag) : R2 := fun x y H Q => ∃ d d', Dp K H x d ∧ Dp K H y d' ∧ PySem.W.alike d d' = true ∧ d ≠ .none ∧ min d.depth d'.depth ≤ 16 ∧ Q (.bl (f d d')) H
theorem op_ltD (hu : X.A.units + 64 < cLine) : OpR X (compareOp .Lt) (rCmpD PySem.W.dataLt X.K) := by
  intro pins s σ H x y v u Q I rx ry h
  obtain ⟨d, d', h1, h2, h3, h4, h5, q⟩ := h
  obtain ⟨as, r1⟩ := Dp.reads I d x v h1 rx
  obtain ⟨bs, r2⟩ := Dp.reads I d' y u h2 ry
  exact PySem.W.lt_data r1 r2 h3 h4 (by omega) (fin_bl I q rfl)
theorem op_gtD (hu : X.A.units + 64 < cLine) : OpR X (compareOp .Gt) (rCmpD (fun d d' => PySem.W.dataLt d' d) X.K) := by
  intro pins s σ H x y v u Q I rx ry h
  obtain ⟨d, d', h1, h2, h3, h4, h5, q⟩ := h
  obtain ⟨as, r1⟩ := Dp.reads I d x v h1 rx
  obtain ⟨bs, r2⟩ := Dp.reads I d' y u h2 ry
  exact PySem.W.gt_data r1 r2 h3 h4 (by omega) (fin_bl I q rfl)
theorem op_leD (hu : X.A.units + 64 < cLine) : OpR X (compareOp .LtE) (rCmpD (fun d d' => !PySem.W.dataLt d' d) X.K) := by
  intro pins s σ H x y v u Q I rx ry h
  obtain ⟨d, d', h1, h2, h3, h4, h5, q⟩ := h
  obtain ⟨as, r1⟩ := Dp.reads I d x v h1 rx
  obtain ⟨bs, r2⟩ := Dp.reads I d' y u h2 ry
  exact PySem.W.le_data r1 r2 h3 h4 (by omega) (fin_bl I q rfl)
theorem op_geD (hu : X.A.units + 64 < cLine) : OpR X (compareOp .GtE) (rCmpD (fun d d' => !PySem.W.dataLt d d') X.K) := by
  intro pins s σ H x y v u Q I rx ry h
  obtain ⟨d, d', h1, h2, h3, h4, h5, q⟩ := h
  obtain ⟨as, r1⟩ := Dp.reads I d x v h1 rx
  obtain ⟨bs, r2⟩ := Dp.reads I d' y u h2 ry
  exact PySem.W.ge_data r1 r2 h3 h4 (by omega) (fin_bl I q rfl)
end
def notNone : PyData → Bool
  | .none => false
  | _ => true
def cmpD (f : PyData → PyData → Bool) (x y : W) (h : List O) : Out W := match dat h 8 x, dat h 8 y with
  | some d, some d' => if PySem.W.alike d d' = true ∧ notNone d = true ∧ min d.depth d'.depth ≤ 16 then .ok (.bl (f d d')) h else .bad
  | _, _ => .bad
theorem cmp_serves {K : PySem.W.Frag} {G : Gx} {f : PyData → PyData → Bool} {E : XK} {H : Hp} {ρ : List Addr} {h : List O} {x y : V} {wx wy : W} {Q : VK} (hr : HR K G H ρ h) (rx : VR K H ρ x wx) (ry : VR K H ρ y wy) (p : Post K G E (VRel K) Q H ρ (cmpD f wx wy h)) : rCmpD f K x y H Q := by
  unfold cmpD at p
  split at p
  · rename_i d d' h1 h2
    split at p
    · rename_i hk
      refine ⟨d, d', dat_dp hr 8 _ _ _ rx h1, dat_dp hr 8 _ _ _ ry h2, hk.1, fun e => ?_, hk.2.2, p.here hr vr_bl⟩
      have := hk.2.1
      subst e
      cases this
    · exact False.elim p
  · exact False.elim p
def orElse (a b : W → W → List O → Out W) (x y : W) (h : List O) : Out W := match a x y h with
  | .bad => b x y h
  | o => o
def oLtG := orElse oLt (cmpD PySem.W.dataLt)
def oGtG := orElse oGt (cmpD fun d d' => PySem.W.dataLt d' d)
def oLeG := orElse oLe (cmpD fun d d' => !PySem.W.dataLt d' d)
def oGeG := orElse oGe (cmpD fun d d' => !PySem.W.dataLt d d')
section
variable {X : Cx} {G : Gx}
theorem ops_orElse {fv : Value → Value → Sem Value} {a : W → W → List O → Out W} {f : PyData → PyData → Bool} (h1 : OpS G X fv a) (h2 : OpR X fv (rCmpD f X.K)) : OpS G X fv (orElse a (cmpD f)) := by
  obtain ⟨r, hr1, s⟩ := h1
  refine ⟨_, OpR.or hr1 h2, fun E H ρ h x y wx wy Q hr rx ry p => ?_⟩
  unfold orElse at p
  split at p
  · exact .inr (cmp_serves hr rx ry p)
  · exact .inl (s E H ρ h x y wx wy Q hr rx ry p)
theorem ops_ltG (hu : X.A.units + 64 < cLine) : OpS G X (compareOp .Lt) oLtG := ops_orElse ops_lt (op_ltD hu)
theorem ops_gtG (hu : X.A.units + 64 < cLine) : OpS G X (compareOp .Gt) oGtG := ops_orElse ops_gt (op_gtD hu)
theorem ops_leG (hu : X.A.units + 64 < cLine) : OpS G X (compareOp .LtE) oLeG := ops_orElse ops_le (op_leD hu)
theorem ops_geG (hu : X.A.units + 64 < cLine) : OpS G X (compareOp .GtE) oGeG := ops_orElse ops_ge (op_geD hu)
end
end Den
set_option maxRecDepth 100000
/-! Expressions of plain data in frames of their own, by the same plain functions: keys of a sort, elements of a generator. -/
namespace Den
open PySem L2 PyProof.Rows
/-! ### a model value as plain data -/
mutual
def WV (h : Heap) : Value → W → Prop
  | v, .non => v = .none
  | v, .bl b => v = .bool b
  | v, .int i => ∃ t, v = .int i t
  | v, .str s => ∃ t, v = .str (mkS s) t
  | v, .tup xs => ∃ a vs, v = .ref a ∧ IsTup h a vs.toArray ∧ vs.length ≤ sizeLine ∧ WVs h vs xs
  | v, .rol xs => ∃ a vs, v = .ref a ∧ h.IsList a vs.toArray ∧ vs.length ≤ sizeLine ∧ WVs h vs xs
  | v, .ref n => False
def WVs (h : Heap) : List Value → List W → Prop
  | vs, [] => vs = []
  | vs, x :: xs => ∃ v r, vs = v :: r ∧ WV h v x ∧ WVs h r xs
end
mutual
theorem WV.mono {h h' : Heap} (k : Kp h h') : ∀ {v : Value} {w : W}, WV h v w → WV h' v w
  | v, .non, x => x
  | v, .bl _, x => x
  | v, .int _, x => x
  | v, .str _, x => x
  | v, .tup xs, x => by
    unfold WV at x ⊢
    obtain ⟨a, vs, e, ⟨o, p, q⟩, z, r⟩ := x
    exact ⟨a, vs, e, ⟨o, k _ _ p, q⟩, z, WVs.mono k r⟩
  | v, .rol xs, x => by
    unfold WV at x ⊢
    obtain ⟨a, vs, e, ⟨o, p, q⟩, z, r⟩ := x
    exact ⟨a, vs, e, ⟨o, k _ _ p, q⟩, z, WVs.mono k r⟩
  | v, .ref n, x => x
theorem WVs.mono {h h' : Heap} (k : Kp h h') : ∀ {v : List Value} {w : List W}, WVs h v w → WVs h' v w
  | v, [], x => x
  | v, w :: ws, x => by
    unfold WVs at x ⊢
    obtain ⟨u, r, e, p, q⟩ := x
    exact ⟨u, r, e, WV.mono k p, WVs.mono k q⟩
end
theorem WVs.length {h : Heap} : ∀ {vs : List Value} {ws : List W}, WVs h vs ws → vs.length = ws.length
  | vs, [], h => by unfold WVs at h; rw [h]; rfl
  | vs, w :: ws, h => by
    unfold WVs at h
    obtain ⟨v, r, e, _, z⟩ := h
    rw [e, List.length_cons, List.length_cons, WVs.length z]
theorem WVs.get {h : Heap} : ∀ {vs : List Value} {ws : List W} {i : Nat} {w : W}, WVs h vs ws → ws[i]? = some w → ∃ v, vs[i]? = some v ∧ WV h v w
  | vs, [], i, w, _, e => by simp at e
  | vs, x :: ws, 0, w, h, e => by
    unfold WVs at h
    obtain ⟨v, r, rfl, q, _⟩ := h
    simp at e
    subst e
    exact ⟨v, rfl, q⟩
  | vs, x :: ws, i + 1, w, h, e => by
    unfold WVs at h
    obtain ⟨v, r, rfl, _, z⟩ := h
    obtain ⟨u, a, b⟩ := WVs.get (i := i) z (by simpa using e)
    exact ⟨u, by simpa using a, b⟩
section
variable {h : Heap} {v : Value}
theorem WV.int {i : Int} (x : WV h v (.int i)) : ∃ t, v = .int i t := by unfold WV at x; exact x
theorem WV.str {i : List Nat} (x : WV h v (.str i)) : ∃ t, v = .str (mkS i) t := by unfold WV at x; exact x
theorem WV.bl {i : Bool} (x : WV h v (.bl i)) : v = .bool i := by unfold WV at x; exact x
theorem WV.non (x : WV h v .non) : v = .none := by unfold WV at x; exact x
theorem WV.tup {xs : List W} (x : WV h v (.tup xs)) : ∃ a vs, v = .ref a ∧ IsTup h a vs.toArray ∧ vs.length ≤ sizeLine ∧ WVs h vs xs := by unfold WV at x; exact x
theorem WV.rol {xs : List W} (x : WV h v (.rol xs)) : ∃ a vs, v = .ref a ∧ h.IsList a vs.toArray ∧ vs.length ≤ sizeLine ∧ WVs h vs xs := by unfold WV at x; exact x
theorem wv_int {i : Int} {t : Tok} : WV h (.int i t) (.int i) := by unfold WV; exact ⟨_, rfl⟩
theorem wv_bl {i : Bool} : WV h (.bool i) (.bl i) := by unfold WV; rfl
theorem wv_non : WV h .none .non := by unfold WV; rfl
theorem wv_str {i : List Nat} {t : Tok} : WV h (.str (mkS i) t) (.str i) := by unfold WV; exact ⟨_, rfl⟩
theorem wv_str' {x : Str} {i : List Nat} {t : Tok} (e : x = mkS i) : WV h (.str x t) (.str i) := by rw [e]; exact wv_str
end
/-! ### a frame's names -/
structure PxOk (K : PySem.W.Frag) (mg : Str → Option Value) (N : List Str) (env : PySem.Env) (h0 : Heap) (ev : Env) : Prop where
  kin : K.In h0
  kind : env.scope.kind = .function
  glob : h0.Ns env.globals mg
  blt : ∃ mb, h0.Ns env.builtins mb ∧ ∀ x : Str, x ≠ "__name__" → mb x = bootBuiltins x
  at_ : ∀ (i : Nat) (x : Str) (w : W), N[i]? = some x → ev[i]? = some (some w) → Vis env.scope x → ∃ v, WV h0 v w ∧ ((env.kindOf x = some .local ∧ ∃ m, h0.Ns env.locals m ∧ m x = some v) ∨ (env.kindOf x = some .free ∧ ∃ c, env.cells.lookup x = some c ∧ h0.IsCell c (some v)))
theorem PxOk.keeps {K : PySem.W.Frag} {mg : Str → Option Value} {N : List Str} {env : PySem.Env} {h0 h : Heap} {ev : Env} (o : PxOk K mg N env h0 ev) (k : Kp h0 h) : PxOk K mg N env h ev := by
  refine ⟨o.kin.keeps k, o.kind, o.glob.keeps k, ?_, fun i x w a b c => ?_⟩
  · obtain ⟨mb, h1, h2⟩ := o.blt
    exact ⟨mb, h1.keeps k, h2⟩
  · obtain ⟨v, hv, q⟩ := o.at_ i x w a b c
    refine ⟨v, hv.mono k, ?_⟩
    rcases q with ⟨q, m, h1, h2⟩ | ⟨q, c, h1, ob, h2, h3⟩
    · exact .inl ⟨q, m, h1.keeps k, h2⟩
    · exact .inr ⟨q, c, h1, ob, k _ _ h2, h3⟩
/-- e gives what m says, on no heap of objects -/
def SPx (K : PySem.W.Frag) (mg : Str → Option Value) (N : List Str) (sc : Scope) (e : Expr) (m : M W) : Prop :=
  ∀ (P : Program) (w : World) (env : PySem.Env) (h0 : Heap) (ev : Env) (x : W), env.scope = sc → PxOk K mg N env h0 ev → m ev [] = .ok x [] → Px P w env h0 e fun y h => WV h y x
def GlP (sc : Scope) (x : Str) : Prop := sc.names.lookup x = some .globalImplicit
/-- an operator by values -/
def PxOp (f : Value → Value → Sem Value) (op : W → W → List O → Out W) : Prop := ∀ (P : Program) (w : World) (A : Around) (E : Value → Shared → Prop) (s : Shared) (v u : Value) (x y z : W), WV s.heap v x → WV s.heap u y → op x y [] = .ok z [] →
  wpAny (model P w) A (f v u) (fun r s' => WV s'.heap r z ∧ Keeps s s') E s
section
variable {K : PySem.W.Frag} {mg : Str → Option Value} {N : List Str} {sc : Scope} {e a b : Expr} {ma mb : M W} {pos p : Pos}
theorem bnd_inv {α β : Type} {o : Out α} {f : α → List O → Out β} {y : β} {h : List O} (e : o.bnd f = .ok y h) : ∃ x h', o = .ok x h' ∧ f x h' = .ok y h := by
  cases o with
  | ok x h' => exact ⟨x, h', rfl, e⟩
  | exc c p h' => cases e
  | bad => cases e
/-- the plain functions here leave the (bare) heap as it is -/
def Bare (m : M W) : Prop := ∀ ev x h, m ev [] = .ok x h → h = []
theorem spx_var (i : Nat) {x : Str} (hN : N[i]? = some x := by rfl) (hv : Vis sc x := by first | exact Or.inl rfl | exact Or.inr (Or.inl rfl) | exact Or.inr (Or.inr rfl)) (hd : (x == ("__debug__" : Str)) = false := by decide)
    (hcd : (x == ("__classdict__" : Str)) = false := by decide) : SPx K mg N sc (.Name x pos) (mVar i) := fun P w env h0 ev y hs ok hm => by
  unfold mVar at hm
  split at hm
  · rename_i w' hw
    cases hm
    obtain ⟨v, hv', q⟩ := ok.at_ i x _ hN hw (by rw [hs]; exact hv)
    rcases q with ⟨q, m, h1, h2⟩ | ⟨q, c, h1, h2⟩
    · exact px_imp (px_local (pos := pos) ok.kind q h1 h2 hd) fun y h k e => by rw [e]; exact hv'.mono k
    · exact px_imp (px_free (pos := pos) ok.kind q h1 h2 hd hcd) fun y h k e => by rw [e]; exact hv'.mono k
  · cases hm
theorem spx_int {i : Int} {k : Nat} : SPx K mg N sc (.Constant (.int i) k pos) (mC (.int i)) := fun P w env h0 ev y hs ok hm => by
  cases hm
  exact px_imp px_int fun y h k e => by unfold WV; exact e
theorem spx_str {x : Str} {l : List Nat} {k : Nat} (hx : x = mkS l := by decide +kernel) : SPx K mg N sc (.Constant (.str x) k pos) (mC (.str l)) := fun P w env h0 ev y hs ok hm => by
  cases hm
  exact px_imp px_str fun y h k e => by rw [hx] at e; unfold WV; exact e
theorem spx_glob {x : Str} {u : Value} {z : W} (hg : GlP sc x) (hm : mg x = some u) (hw : ∀ h, WV h u z) (hd : (x == ("__debug__" : Str)) = false := by decide) : SPx K mg N sc (.Name x pos) (mC z) := fun P w env h0 ev y hs ok hm' => by
  cases hm'
  exact fun A E s k => Calls.Name_function_global ok.kind (by show env.scope.names.lookup x = _; rw [hs]; exact hg) (Calls.loadGlobal_global (ok.glob.keeps k) hm ⟨hw _, keeps_rfl s⟩) hd
theorem spx_op {o : Operator} {op : W → W → List O → Out W} (s : PxOp (binaryOp o) op) (ha : SPx K mg N sc a ma) (hb : SPx K mg N sc b mb) (b1 : Bare ma) (b2 : Bare mb) : SPx K mg N sc (.BinOp a o b pos) (mOp op ma mb) := fun P w env h0 ev y hs ok hm A E st k => by
  obtain ⟨x1, h1, e1, hm⟩ := bnd_inv hm
  obtain ⟨x2, h2, e2, hm⟩ := bnd_inv hm
  have z1 := b1 _ _ _ e1
  subst z1
  have z2 := b2 _ _ _ e2
  subst z2
  refine wpAny_BinOp (wpAny_mono (ha P w env h0 ev x1 hs ok e1 A E st k) (fun v s1 q1 => wpAny_mono (hb P w env h0 ev x2 hs ok e2 A E s1 fun b o z => kpH q1.2 b o (k b o z)) (fun u s2 q2 => ?_) fun _ _ e => e) fun _ _ e => e)
  exact wpAny_mono (s P w A E s2 v u x1 x2 y (q1.1.mono (kpH q2.2)) q2.1 hm) (fun r s3 q3 => ⟨q3.1, kpT q1.2 (kpT q2.2 q3.2)⟩) fun _ _ e => e
theorem spx_cmp {o : CmpOp} {op : W → W → List O → Out W} (s : PxOp (compareOp o) op) (ha : SPx K mg N sc a ma) (hb : SPx K mg N sc b mb) (b1 : Bare ma) (b2 : Bare mb) (hmk : behindInMarks o b = false := by first | exact nomark _ (by decide) (by decide) | rfl | (with_unfolding_all rfl)) :
    SPx K mg N sc (.Compare a [o] [b] pos) (mOp op ma mb) := fun P w env h0 ev y hs ok hm A E st k => by
  obtain ⟨x1, h1, e1, hm⟩ := bnd_inv hm
  obtain ⟨x2, h2, e2, hm⟩ := bnd_inv hm
  have z1 := b1 _ _ _ e1
  subst z1
  have z2 := b2 _ _ _ e2
  subst z2
  refine wpAny_Compare1 (wpAny_mono (ha P w env h0 ev x1 hs ok e1 A E st k) (fun v s1 q1 => wpAny_mono (hb P w env h0 ev x2 hs ok e2 A E s1 fun b o z => kpH q1.2 b o (k b o z)) (fun u s2 q2 => ?_) fun _ _ e => e) fun _ _ e => e) hmk
  exact wpAny_mono (s P w A E s2 v u x1 x2 y (q1.1.mono (kpH q2.2)) q2.1 hm) (fun r s3 q3 => ⟨q3.1, kpT q1.2 (kpT q2.2 q3.2)⟩) fun _ _ e => e
theorem spx_neg (ha : SPx K mg N sc a ma) (b1 : Bare ma) : SPx K mg N sc (.UnaryOp .USub a pos) (mUn oNeg ma) := fun P w env h0 ev y hs ok hm A E st k => by
  obtain ⟨x1, h1, e1, hm⟩ := bnd_inv hm
  have z1 := b1 _ _ _ e1
  subst z1
  unfold oNeg at hm
  split at hm
  · rename_i i
    cases hm
    refine UnaryOp_ (wpAny_mono (ha P w env h0 ev _ hs ok e1 A E st k) (fun v s1 q1 => ?_) fun _ _ e => e)
    obtain ⟨t, rfl⟩ := q1.1.int
    exact neg_int ⟨wv_int, kpT q1.2 (keeps_tok _ _)⟩
  · cases hm
theorem wv_truthy {P : Program} {w : World} {A : Around} {E : Value → Shared → Prop} {s : Shared} {v : Value} {b : Bool} {Q : Bool → Shared → Prop} (h : WV s.heap v (.bl b)) (q : Q b s) : wpAny (model P w) A (truthy v) Q E s := by
  rw [h.bl]
  exact wpAny_truthy_bool q
def mAndB (a b : M W) : M W := fun e h => (a e h).bnd fun x h => (asB x h).bnd fun k h => if k = true then b e h else .ok (.bl false) h
def mOrB (a b : M W) : M W := fun e h => (a e h).bnd fun x h => (asB x h).bnd fun k h => if k = true then .ok (.bl true) h else b e h
def mNotB (a : M W) : M W := fun e h => (a e h).bnd fun x h => (asB x h).bnd fun k h => .ok (.bl (!k)) h
theorem asB_inv {x : W} {h h' : List O} {k : Bool} (e : asB x h = .ok k h') : x = .bl k ∧ h' = h := by
  unfold asB at e
  split at e
  · cases e; exact ⟨rfl, rfl⟩
  · cases e
theorem spx_one {o : BoolOp} (ha : SPx K mg N sc a ma) : SPx K mg N sc (.BoolOp o [a] pos) ma := fun P w env h0 ev y hs ok hm A E st k => by
  have h1 := ha P w env h0 ev y hs ok hm A E st k
  cases o with
  | And => exact h1
  | Or => exact h1
theorem spx_and {rest : List Expr} (ha : SPx K mg N sc a ma) (hb : SPx K mg N sc (.BoolOp .And (b :: rest) pos) mb) (b1 : Bare ma) (b2 : Bare mb) : SPx K mg N sc (.BoolOp .And (a :: b :: rest) pos) (mAndB ma mb) := fun P w env h0 ev y hs ok hm A E st k => by
  obtain ⟨x1, h1, e1, hm⟩ := bnd_inv hm
  have z1 := b1 _ _ _ e1
  subst z1
  obtain ⟨c, h2, e2, hm⟩ := bnd_inv hm
  obtain ⟨rfl, rfl⟩ := asB_inv e2
  refine BoolOp_and (wpAny_mono (ha P w env h0 ev _ hs ok e1 A E st k) (fun v s1 q1 => wv_truthy q1.1 ?_) fun _ _ e => e)
  cases c with
  | true =>
    exact wpAny_mono (hb P w env h0 ev y hs ok hm A E s1 fun b o z => kpH q1.2 b o (k b o z)) (fun r s3 q3 => ⟨q3.1, kpT q1.2 q3.2⟩) fun _ _ e => e
  | false =>
    cases hm
    exact q1
theorem spx_or {rest : List Expr} (ha : SPx K mg N sc a ma) (hb : SPx K mg N sc (.BoolOp .Or (b :: rest) pos) mb) (b1 : Bare ma) (b2 : Bare mb) : SPx K mg N sc (.BoolOp .Or (a :: b :: rest) pos) (mOrB ma mb) := fun P w env h0 ev y hs ok hm A E st k => by
  obtain ⟨x1, h1, e1, hm⟩ := bnd_inv hm
  have z1 := b1 _ _ _ e1
  subst z1
  obtain ⟨c, h2, e2, hm⟩ := bnd_inv hm
  obtain ⟨rfl, rfl⟩ := asB_inv e2
  refine BoolOp_or (wpAny_mono (ha P w env h0 ev _ hs ok e1 A E st k) (fun v s1 q1 => wv_truthy q1.1 ?_) fun _ _ e => e)
  cases c with
  | false =>
    exact wpAny_mono (hb P w env h0 ev y hs ok hm A E s1 fun b o z => kpH q1.2 b o (k b o z)) (fun r s3 q3 => ⟨q3.1, kpT q1.2 q3.2⟩) fun _ _ e => e
  | true =>
    cases hm
    exact q1
theorem spx_not (ha : SPx K mg N sc a ma) (b1 : Bare ma) : SPx K mg N sc (.UnaryOp .Not a pos) (mNotB ma) := fun P w env h0 ev y hs ok hm A E st k => by
  obtain ⟨x1, h1, e1, hm⟩ := bnd_inv hm
  have z1 := b1 _ _ _ e1
  subst z1
  obtain ⟨c, h2, e2, hm⟩ := bnd_inv hm
  obtain ⟨rfl, rfl⟩ := asB_inv e2
  cases hm
  refine UnaryOp_ (wpAny_mono (ha P w env h0 ev _ hs ok e1 A E st k) (fun v s1 q1 => ?_) fun _ _ e => e)
  exact not_of (wv_truthy q1.1 ⟨wv_bl, q1.2⟩)
/-- (a, b) -/
def mPair (a b : M W) : M W := fun e h => (a e h).bnd fun x h => (b e h).bnd fun y h => .ok (.tup [x, y]) h
theorem spx_pair {k0 : Nat} (ha : SPx K mg N sc a ma) (hb : SPx K mg N sc b mb) (b1 : Bare ma) (b2 : Bare mb) (he : ∀ env, starEach [a, b] env = [(false, eval a env), (false, eval b env)] := by intro _; rfl) : SPx K mg N sc (.Tuple [a, b] k0 pos) (mPair ma mb) := fun P w env h0 ev y hs ok hm => by
  obtain ⟨x1, h1, e1, hm⟩ := bnd_inv hm
  obtain ⟨x2, h2, e2, hm⟩ := bnd_inv hm
  have z1 := b1 _ _ _ e1
  subst z1
  have z2 := b2 _ _ _ e2
  subst z2
  cases hm
  refine px_imp (px_tup2 (ha P w env h0 ev x1 hs ok e1) (hb P w env h0 ev x2 hs ok e2) (fun v h h' k q => q.mono k) (fun v h h' k q => q.mono k) (he env)) fun y h k q => ?_
  obtain ⟨t, va, vb, rfl, ht, qa, qb⟩ := q
  unfold WV
  refine ⟨t, [va, vb], rfl, ⟨_, ht, rfl, 0, rfl⟩, lim_size (show 2 ≤ lim by decide), ?_⟩
  unfold WVs
  refine ⟨va, [vb], rfl, qa, ?_⟩
  unfold WVs
  exact ⟨vb, [], rfl, qb, by unfold WVs; rfl⟩
end
end Den
set_option maxRecDepth 100000
set_option maxHeartbeats 2000000
/-! sorted of anything that can be gathered, with or without a key: over the heap alone. -/
namespace Den
open PySem L2 PyProof.Rows PySem.W
/-- gathering v: all stays, the items are as R says -/
def Coll (P : Program) (w : World) (A : Around) (s : Shared) (v : Value) (R : List Value → Prop) : Prop :=
  ∀ (Q : List Value → Shared → Prop) (E : Value → Shared → Prop), (∀ s' vs, Kp s.heap s'.heap → AllBare s'.gens → s'.os = s.os → R vs → Q vs s') → wpAny (model P w) A (collect v) Q E s
section
variable {P : Program} {w : World} {A : Around} {E : Value → Shared → Prop} {s : Shared} {β : Type} {Rel : Value → β → Prop} {enc : β → PyData} {Ok : List β → Prop} {v : Value} {Q : Value → Shared → Prop}
/-- the frame of sorted -/
theorem sorted_from {kw : List (Str × Value)} (ha1 : argsOk "sorted" ⟨[v], kw⟩) (ha2 : ∀ x, argsOk "list.sort" ⟨[.ref x], kw⟩) (hc : Coll P w A.in1 s v (fun vs => ∃ bs, Ok bs ∧ EachIs Rel vs bs)) (hL : ∀ bs, Ok bs → bs.length ≤ sizeLine)
    (body : ∀ (s1 : Shared) (vs : List Value) (bs : List β), Kp s.heap s1.heap → s.heap.objs.size ≤ s1.heap.objs.size → AllBare s1.gens → s1.os = s.os → Ok bs → EachIs Rel vs bs → ∀ E' : Value → Shared → Prop,
      wpAny (model P w) A.in1.in1 (Builtin.«list.sort» ⟨[.ref s1.heap.objs.size], kw⟩) (fun f s' => f = .done (.ret .none) ∧ Q (.ref s1.heap.objs.size) s') E' { s1 with heap := s1.heap.push (seqObj "list" vs.toArray 0) }) :
    wpAny (model P w) A (call (.builtin "sorted") [v] kw) Q E s := by
  refine call_function_entry_kw kind_sorted plain_sorted entry_sorted ha1 ?_
  unfold Builtin.«sorted»
  refine wpAny_bind (m := checkCount "sorted" 1 1 _) (wpAny_pure ?_)
  refine wpAny_bind (wpAny_hsz (hc _ _ fun s1 vs k g o r hsz => ?_))
  obtain ⟨bs, ok, e⟩ := r
  have hz : vs.length ≤ sizeLine := by rw [e.length]; exact hL bs ok
  refine wpAny_bind (wpAny_newList ?_ hz)
  show wpAny _ _ _ _ _ { s1 with heap := s1.heap.push (seqObj "list" vs.toArray 0) }
  refine wpAny_bind (wpAny_holding (wpAny_call_entry_kw slot_list_sort ⟨_, Heap.get?_push_size _ rfl, rfl⟩ entry_list_sort ?body (ha2 _)))
  case body =>
    show wpAny (model P w) A.in1.in1 (Builtin.«list.sort» ⟨[.ref s1.heap.objs.size], kw⟩) _ _ _
    refine wpAny_mono (body s1 vs bs k hsz g o ok e _) (fun f s' hf => ?_) fun _ _ e => e
    obtain ⟨rfl, hq⟩ := hf
    exact ⟨_, rfl, wpAny_pure ⟨_, rfl, hq⟩⟩
theorem sorted_coll (hc : Coll P w A.in1 s v (fun vs => ∃ bs, Ok bs ∧ EachIs Rel vs bs)) (ha1 : argsOk "sorted" ⟨[v], []⟩)
    (ha : ∀ bs, Ok bs → AllAlike (bs.map enc) ∧ Sortable (bs.map enc) ∧ bs.length ≤ sizeLine ∧ ∀ b ∈ bs, A.units + 2 + (enc b).depth < cLine)
    (hr : ∀ h v b, Kp s.heap h → Rel v b → ∃ as, Reads h v (enc b) as)
    (h : ∀ s' out c a bs, Ok bs → Kp s.heap s'.heap → AllBare s'.gens → s'.os = s.os → s.heap.objs.size ≤ a → s'.heap.get? a = some (seqObj "list" out.toArray c) → EachIs Rel out (bs.mergeSort (dataLe false enc)) → Q (.ref a) s') :
    wpAny (model P w) A (call (.builtin "sorted") [v]) Q E s := by
  have hLL : ∀ bs, Ok bs → bs.length ≤ sizeLine := fun bs ok => by
    obtain ⟨_, _, x, _⟩ := ha bs ok
    exact x
  refine sorted_from (Ok := Ok) (Rel := Rel) (kw := []) ha1 (fun _ => args_list_sort _) hc hLL fun s1 vs bs k hsz g o ok e E' => ?_
  obtain ⟨hal, hk, hL, hu⟩ := ha bs ok
  have ho : ({ s1 with heap := s1.heap.push (seqObj "list" vs.toArray 0) } : Shared).heap.get? s1.heap.objs.size = some (seqObj "list" vs.toArray 0) := Heap.get?_push_size _ rfl
  have hz : vs.length ≤ sizeLine := by rw [e.length]; exact hL
  have kS : ∀ b o, s1.heap.get? b = some o → (sortingHeap (s1.heap.push (seqObj "list" vs.toArray 0)) s1.heap.objs.size vs).get? b = some o := fun b o q =>
    sortingHeap_old (Nat.ne_of_lt (Heap.lt_size q)) (Heap.get?_push_of_some _ q)
  have er : EachIs (fun v b => ∃ as, Reads (sortingHeap (s1.heap.push (seqObj "list" vs.toArray 0)) s1.heap.objs.size vs) v (enc b) as) vs bs :=
    e.mono fun v b q => hr _ v b (fun b o z => kS b o (k b o z)) q
  have em := each_map (R := fun v d => ∃ as, Reads (sortingHeap (s1.heap.push (seqObj "list" vs.toArray 0)) s1.heap.objs.size vs) v d as) enc er
  have hu2 : ∀ d, d ∈ bs.map enc → A.in1.in1.units + d.depth < cLine := bound_map (A := A.in1.in1) hu
  have S := SortsAt.data (prog := P) (w := w) (A := A.in1.in1) (s := { s1 with heap := sortingHeap (s1.heap.push (seqObj "list" vs.toArray 0)) s1.heap.objs.size vs }) em hal hk hu2
  refine list_sort_vals (s := { s1 with heap := s1.heap.push (seqObj "list" vs.toArray 0) }) ho S hz ⟨rfl, ?_⟩
  obtain ⟨c, hc2⟩ := sortedHeap_at (vs := vs) (out := (sortVals (dataKind (sortingHeap (s1.heap.push (seqObj "list" vs.toArray 0)) s1.heap.objs.size vs) (bs.map enc)) false vs vs).toArray) ho
  refine h _ _ c s1.heap.objs.size bs ok (fun b o q => ?_) g o hsz hc2 (sortVals_data false e er hal)
  have hlt := Heap.lt_size (k b o q)
  show (sortedHeap _ _ _ _).get? b = some o
  rw [sortedHeap_old (Nat.ne_of_lt hlt) (by rw [size_push']; exact Nat.lt_succ_of_lt hlt)]
  exact Heap.get?_push_of_some _ (k b o q)
/-- sorted(.., key=f) -/
theorem sorted_collK {f : Addr} (hc : Coll P w A.in1 s v (fun vs => ∃ bs, Ok bs ∧ EachIs Rel vs bs))
    (ha : ∀ bs, Ok bs → AllAlike (bs.map enc) ∧ Sortable (bs.map enc) ∧ bs.length ≤ sizeLine ∧ ∀ b ∈ bs, A.units + 2 + (enc b).depth < cLine)
    (turn : ∀ (bs : List β) (v : Value) (b : β) (s1 : Shared), Ok bs → b ∈ bs → Rel v b → Kp s.heap s1.heap → AllBare s1.gens → s1.os = s.os → wpAny (model P w) A.in1.in1 (call (.ref f) [v]) (KeyPure (enc b) s1) (fun _ _ => False) s1)
    (h : ∀ s' out c a bs, Ok bs → Kp s.heap s'.heap → AllBare s'.gens → s'.os = s.os → s.heap.objs.size ≤ a → s'.heap.get? a = some (seqObj "list" (List.toArray out) c) → EachIs Rel out (bs.mergeSort (dataLe false enc)) → Q (.ref a) s') :
    wpAny (model P w) A (call (.builtin "sorted") [v] [(Str.ofString "key", .ref f)]) Q E s := by
  refine sorted_from (ksk_s1 _ _) (fun x => ksk_l1 _ _) hc (fun bs ok => (ha bs ok).2.2.1) fun s1 vs bs k hsz g o ok e E' => ?_
  obtain ⟨hal, hk, hL, hu⟩ := ha bs ok
  have ho : ({ s1 with heap := s1.heap.push (seqObj "list" vs.toArray 0) } : Shared).heap.get? s1.heap.objs.size = some (seqObj "list" vs.toArray 0) := Heap.get?_push_size _ rfl
  have hz : vs.length ≤ sizeLine := by rw [e.length]; exact hL
  have up : ∀ {g : Heap}, KeepsBut s1.heap.objs.size (s1.heap.push (seqObj "list" vs.toArray 0)) g → Kp s.heap g := fun {g} kp b o q =>
    kp b o (Nat.ne_of_lt (Heap.lt_size (k b o q))) (Heap.get?_push_of_some _ (k b o q))
  rw [ksk_t1]
  refine keyH_tree (kz := bs.map enc) (s := { s1 with heap := s1.heap.push (seqObj "list" vs.toArray 0) }) ho (by rw [List.length_map]; exact e.length.symm) hz hal hk (bound_map (A := A.in1.in1) hu)
    (keyH_turns (s := { s1 with heap := s1.heap.push (seqObj "list" vs.toArray 0) }) e fun v x hR hx h tk kp => turn bs v x _ ok hx hR (up kp) g o) fun h' tk out c kp hD ko => ⟨rfl, ?_⟩
  exact h _ out c s1.heap.objs.size bs ok (up kp) g o hsz hD (keyedOut_each enc ko e)
end
/-! ### what can be gathered -/
section
variable {P : Program} {w : World} {A : Around} {s : Shared}
theorem coll_list {l : Addr} {vs : List Value} (hl : s.heap.IsList l vs.toArray) (hz : vs.length ≤ sizeLine) (hb : AllBare s.gens) : Coll P w A s (.ref l) (fun us => us = vs) := fun Q E h => by
  refine collect_list hl (h _ vs (fun b o e => ?_) hb rfl rfl) hz
  exact (Heap.get?_update_other _ _ (Nat.ne_of_gt (Heap.lt_size e))).trans (Heap.get?_push_of_some _ e)
theorem coll_tup {l : Addr} {vs : List Value} (hl : IsTup s.heap l vs.toArray) (hz : vs.length ≤ sizeLine) (hb : AllBare s.gens) : Coll P w A s (.ref l) (fun us => us = vs) := fun Q E h => by
  obtain ⟨o, ho, hc, n, hd⟩ := hl
  refine PySem.wpAny_collect_seq (items := vs.toArray) l (.inr rfl) ho hc hd (fun h' k => ?_) (by simpa using hz)
  exact h _ _ k hb rfl (by simp)
theorem coll_rng {r : Addr} {lo hi : Int} (hh : A.handled = none) (hr : ∃ t u v, s.heap.get? r = some { cls := .type "range", data := .fields #[.int lo t, .int hi u, .int 1 v] }) (h1 : -(2 ^ 62) ≤ lo) (h0 : lo < 2 ^ 62) (h2 : -(2 ^ 62) ≤ hi) (h4 : hi < 2 ^ 62) (h3 : (hi - lo).toNat ≤ 16777216) (hb : AllBare s.gens) :
    Coll P w A s (.ref r) (fun us => us.length = (hi - lo).toNat ∧ ∀ (i : Nat) (v : Value), us[i]? = some v → ∃ t, v = .int (lo + i) t) := fun Q E h => by
  obtain ⟨t, u, v, hr⟩ := hr
  refine L2.collect_range (n := (hi - lo).toNat) hh (a := lo) (b := hi) (c := 1) (t := t) (u := u) (v := v) hr ?_ ?_ (by omega) fun h' tk acc k hi => ?_
  · exact PySem.small_one h1 h0 h2 h4
  · exact PyProof.Rows.rangeSize_nat lo hi
  · refine h _ _ k hb rfl ⟨by rw [Array.length_toList]; exact hi.1, fun i v hv => ?_⟩
    obtain ⟨t, e⟩ := hi.2 i v (by simpa using hv)
    exact ⟨t, by rw [e, Int.mul_one]⟩
end
end Den
set_option maxRecDepth 100000
set_option maxHeartbeats 1000000
/-! .. their operators, subscripts, slices, len, isinstance. -/
namespace Den
open PySem L2 PyProof.Rows
theorem wva {P : Program} {w : World} {A : Around} {E : Value → Shared → Prop} {s s' : Shared} {r : Value} {z : W} (h : WV s'.heap r z) (k : Keeps s s') : (fun r (s' : Shared) => WV s'.heap r z ∧ Keeps s s') r s' := ⟨h, k⟩
theorem pxo_lt : PxOp (compareOp .Lt) oLt := fun P w A E s v u x y z a b e => by
  unfold oLt at e
  split at e
  · cases e
    obtain ⟨t, rfl⟩ := a.int
    obtain ⟨t', rfl⟩ := b.int
    exact lt_int ⟨wv_bl, keeps_rfl s⟩
  · cases e
    obtain ⟨t, rfl⟩ := a.str
    obtain ⟨t', rfl⟩ := b.str
    exact PySem.P.lt_str ⟨by simpa using (wv_bl : WV s.heap (.bool _) (.bl _)), keeps_rfl s⟩
  · cases e
def oLeI (x y : W) (h : List O) : Out W := match x, y with
  | .int i, .int j => .ok (.bl (decide (i ≤ j))) h
  | _, _ => .bad
def oGtI (x y : W) (h : List O) : Out W := match x, y with
  | .int i, .int j => .ok (.bl (decide (j < i))) h
  | _, _ => .bad
def oGeI (x y : W) (h : List O) : Out W := match x, y with
  | .int i, .int j => .ok (.bl (decide (j ≤ i))) h
  | _, _ => .bad
def oEqS (x y : W) (h : List O) : Out W := match x, y with
  | .int i, .int j => .ok (.bl (i == j)) h
  | .str a, .str b => .ok (.bl (a == b)) h
  | _, _ => .bad
def oNeS (x y : W) (h : List O) : Out W := match x, y with
  | .int i, .int j => .ok (.bl (i != j)) h
  | .str a, .str b => .ok (.bl (a != b)) h
  | _, _ => .bad
def oInS (x y : W) (h : List O) : Out W := match x, y with
  | .str [c], .str s => .ok (.bl (decide (c ∈ s))) h
  | _, _ => .bad
def oNinS (x y : W) (h : List O) : Out W := match x, y with
  | .str [c], .str s => .ok (.bl (!decide (c ∈ s))) h
  | _, _ => .bad
def oAddS (x y : W) (h : List O) : Out W := match x, y with
  | .int i, .int j => .ok (.int (i + j)) h
  | .str a, .str b => if a.length + b.length ≤ lim then .ok (.str (a ++ b)) h else .bad
  | _, _ => .bad
theorem pxo_le : PxOp (compareOp .LtE) oLeI := fun P w A E s v u x y z a b e => by
  unfold oLeI at e
  split at e
  · cases e
    obtain ⟨t, rfl⟩ := a.int
    obtain ⟨t', rfl⟩ := b.int
    exact le_int ⟨wv_bl, keeps_rfl s⟩
  · cases e
theorem pxo_gtI : PxOp (compareOp .Gt) oGtI := fun P w A E s v u x y z a b e => by
  unfold oGtI at e
  split at e
  · cases e
    obtain ⟨t, rfl⟩ := a.int
    obtain ⟨t', rfl⟩ := b.int
    exact gt_int ⟨wv_bl, keeps_rfl s⟩
  · cases e
theorem pxo_ge : PxOp (compareOp .GtE) oGeI := fun P w A E s v u x y z a b e => by
  unfold oGeI at e
  split at e
  · cases e
    obtain ⟨t, rfl⟩ := a.int
    obtain ⟨t', rfl⟩ := b.int
    exact ge_int ⟨wv_bl, keeps_rfl s⟩
  · cases e
theorem pxo_eq : PxOp (compareOp .Eq) oEqS := fun P w A E s v u x y z a b e => by
  unfold oEqS at e
  split at e
  · cases e
    obtain ⟨t, rfl⟩ := a.int
    obtain ⟨t', rfl⟩ := b.int
    exact eq_int ⟨wv_bl, keeps_rfl s⟩
  · cases e
    obtain ⟨t, rfl⟩ := a.str
    obtain ⟨t', rfl⟩ := b.str
    exact PySem.P.eq_str ⟨by simpa using (wv_bl : WV s.heap (.bool _) (.bl _)), keeps_rfl s⟩
  · cases e
theorem pxo_ne : PxOp (compareOp .NotEq) oNeS := fun P w A E s v u x y z a b e => by
  unfold oNeS at e
  split at e
  · cases e
    obtain ⟨t, rfl⟩ := a.int
    obtain ⟨t', rfl⟩ := b.int
    exact ne_int ⟨wv_bl, keeps_rfl s⟩
  · cases e
    obtain ⟨t, rfl⟩ := a.str
    obtain ⟨t', rfl⟩ := b.str
    exact PySem.P.ne_str ⟨by simpa using (wv_bl : WV s.heap (.bool _) (.bl _)), keeps_rfl s⟩
  · cases e
theorem pxo_in : PxOp (compareOp .In) oInS := fun P w A E s v u x y z a b e => by
  unfold oInS at e
  split at e
  · rename_i c l
    cases e
    obtain ⟨t, rfl⟩ := a.str
    obtain ⟨t', rfl⟩ := b.str
    refine PyProof.Rows.in_str ⟨?_, keeps_rfl s⟩
    have e2 := PySem.StrLaws.found_one (mkS l) c
    rw [show (mkS [c]) = (⟨#[c]⟩ : Str) from rfl, e2]
    simpa using (wv_bl : WV s.heap (.bool _) (.bl _))
  · cases e
theorem pxo_nin : PxOp (compareOp .NotIn) oNinS := fun P w A E s v u x y z a b e => by
  unfold oNinS at e
  split at e
  · rename_i c l
    cases e
    obtain ⟨t, rfl⟩ := a.str
    obtain ⟨t', rfl⟩ := b.str
    refine PyProof.Rows.notIn_str ⟨?_, keeps_rfl s⟩
    have e2 := PySem.StrLaws.found_one (mkS l) c
    rw [show (mkS [c]) = (⟨#[c]⟩ : Str) from rfl, e2]
    simpa using (wv_bl : WV s.heap (.bool _) (.bl _))
  · cases e
theorem pxo_add : PxOp (binaryOp .Add) oAddS := fun P w A E s v u x y z a b e => by
  unfold oAddS at e
  split at e
  · cases e
    obtain ⟨t, rfl⟩ := a.int
    obtain ⟨t', rfl⟩ := b.int
    exact add_int ⟨wv_int, keeps_tok _ _⟩
  · rename_i p q
    split at e
    · rename_i hl
      cases e
      obtain ⟨t, rfl⟩ := a.str
      obtain ⟨t', rfl⟩ := b.str
      exact PyProof.Rows.add_str (fun t' tk => ⟨wv_str' (Str_app p q), keeps_tok _ _⟩) (by rw [Str_length, Str_length]; exact lim_size hl)
    · cases e
  · cases e
theorem pxo_sub : PxOp (binaryOp .Sub) oSub := fun P w A E s v u x y z a b e => by
  unfold oSub at e
  split at e
  · cases e
    obtain ⟨t, rfl⟩ := a.int
    obtain ⟨t', rfl⟩ := b.int
    exact sub_int ⟨wv_int, keeps_tok _ _⟩
  · cases e
/-! ### all in one: the reading, the bare heap -/
def OpBare (op : W → W → List O → Out W) : Prop := ∀ x y z h, op x y [] = .ok z h → h = []
structure SP (K : PySem.W.Frag) (mg : Str → Option Value) (N : List Str) (sc : Scope) (e : Expr) (m : M W) : Prop where
  px : SPx K mg N sc e m
  br : Bare m
section
variable {K : PySem.W.Frag} {mg : Str → Option Value} {N : List Str} {sc : Scope} {e a b : Expr} {ma mb : M W} {pos p p2 : Pos}
theorem bare_op {op : W → W → List O → Out W} (ho : OpBare op) (a : Bare ma) (b : Bare mb) : Bare (mOp op ma mb) := fun ev x h e => by
  obtain ⟨x1, h1, e1, e⟩ := bnd_inv e
  have z1 := a _ _ _ e1
  subst z1
  obtain ⟨x2, h2, e2, e⟩ := bnd_inv e
  have z2 := b _ _ _ e2
  subst z2
  exact ho _ _ _ _ e
theorem ob_lt : OpBare oLt := fun x y z h e => by unfold oLt at e; split at e <;> cases e <;> rfl
theorem ob_le : OpBare oLeI := fun x y z h e => by unfold oLeI at e; split at e <;> cases e <;> rfl
theorem ob_gt : OpBare oGtI := fun x y z h e => by unfold oGtI at e; split at e <;> cases e <;> rfl
theorem ob_ge : OpBare oGeI := fun x y z h e => by unfold oGeI at e; split at e <;> cases e <;> rfl
theorem ob_eq : OpBare oEqS := fun x y z h e => by unfold oEqS at e; split at e <;> cases e <;> rfl
theorem ob_ne : OpBare oNeS := fun x y z h e => by unfold oNeS at e; split at e <;> cases e <;> rfl
theorem ob_in : OpBare oInS := fun x y z h e => by unfold oInS at e; split at e <;> cases e <;> rfl
theorem ob_nin : OpBare oNinS := fun x y z h e => by unfold oNinS at e; split at e <;> cases e <;> rfl
theorem ob_sub : OpBare oSub := fun x y z h e => by unfold oSub at e; split at e <;> cases e <;> rfl
theorem ob_add : OpBare oAddS := fun x y z h e => by
  unfold oAddS at e
  split at e
  · cases e; rfl
  · split at e <;> cases e <;> rfl
  · cases e
theorem ob_ix : OpBare oIx := fun x y z h e => by
  unfold oIx at e
  repeat' split at e
  all_goals first | (cases e; rfl) | cases e
theorem sp_var (i : Nat) {x : Str} (hN : N[i]? = some x := by rfl) (hv : Vis sc x := by first | exact Or.inl rfl | exact Or.inr (Or.inl rfl) | exact Or.inr (Or.inr rfl)) (hd : (x == ("__debug__" : Str)) = false := by decide)
    (hcd : (x == ("__classdict__" : Str)) = false := by decide) : SP K mg N sc (.Name x pos) (mVar i) := ⟨spx_var i hN hv hd hcd, fun ev x h e => by
  unfold mVar at e
  split at e <;> cases e <;> rfl⟩
theorem sp_int {i : Int} {k : Nat} : SP K mg N sc (.Constant (.int i) k pos) (mC (.int i)) := ⟨spx_int, fun ev x h e => by cases e; rfl⟩
theorem sp_str {x : Str} {l : List Nat} {k : Nat} (hx : x = mkS l := by decide +kernel) : SP K mg N sc (.Constant (.str x) k pos) (mC (.str l)) := ⟨spx_str hx, fun ev x h e => by cases e; rfl⟩
theorem sp_glob {x : Str} {u : Value} {z : W} (hg : GlP sc x) (hm : mg x = some u) (hw : ∀ h, WV h u z) (hd : (x == ("__debug__" : Str)) = false := by decide) : SP K mg N sc (.Name x pos) (mC z) := ⟨spx_glob hg hm hw hd, fun ev x h e => by cases e; rfl⟩
theorem sp_op {o : Operator} {op : W → W → List O → Out W} (s : PxOp (binaryOp o) op) (ho : OpBare op) (ha : SP K mg N sc a ma) (hb : SP K mg N sc b mb) : SP K mg N sc (.BinOp a o b pos) (mOp op ma mb) := ⟨spx_op s ha.px hb.px ha.br hb.br, bare_op ho ha.br hb.br⟩
theorem sp_cmp {o : CmpOp} {op : W → W → List O → Out W} (s : PxOp (compareOp o) op) (ho : OpBare op) (ha : SP K mg N sc a ma) (hb : SP K mg N sc b mb) (hmk : behindInMarks o b = false := by first | exact nomark _ (by decide) (by decide) | rfl | (with_unfolding_all rfl)) :
    SP K mg N sc (.Compare a [o] [b] pos) (mOp op ma mb) := ⟨spx_cmp s ha.px hb.px ha.br hb.br hmk, bare_op ho ha.br hb.br⟩
theorem sp_neg (ha : SP K mg N sc a ma) : SP K mg N sc (.UnaryOp .USub a pos) (mUn oNeg ma) := ⟨spx_neg ha.px ha.br, fun ev x h e => by
  obtain ⟨x1, h1, e1, e⟩ := bnd_inv e
  have z1 := ha.br _ _ _ e1
  subst z1
  unfold oNeg at e
  split at e <;> cases e <;> rfl⟩
theorem sp_pair {k0 : Nat} (ha : SP K mg N sc a ma) (hb : SP K mg N sc b mb) (he : ∀ env, starEach [a, b] env = [(false, eval a env), (false, eval b env)] := by intro _; rfl) : SP K mg N sc (.Tuple [a, b] k0 pos) (mPair ma mb) := ⟨spx_pair ha.px hb.px ha.br hb.br he, fun ev x h e => by
  obtain ⟨x1, h1, e1, e⟩ := bnd_inv e
  have z1 := ha.br _ _ _ e1
  subst z1
  obtain ⟨x2, h2, e2, e⟩ := bnd_inv e
  have z2 := hb.br _ _ _ e2
  subst z2
  cases e
  rfl⟩
theorem sp_one {o : BoolOp} (ha : SP K mg N sc a ma) : SP K mg N sc (.BoolOp o [a] pos) ma := ⟨spx_one ha.px, ha.br⟩
theorem sp_and {rest : List Expr} (ha : SP K mg N sc a ma) (hb : SP K mg N sc (.BoolOp .And (b :: rest) pos) mb) : SP K mg N sc (.BoolOp .And (a :: b :: rest) pos) (mAndB ma mb) := ⟨spx_and ha.px hb.px ha.br hb.br, fun ev x h e => by
  obtain ⟨x1, h1, e1, e⟩ := bnd_inv e
  have z1 := ha.br _ _ _ e1
  subst z1
  obtain ⟨c, h2, e2, e⟩ := bnd_inv e
  obtain ⟨rfl, rfl⟩ := asB_inv e2
  cases c with
  | true => exact hb.br _ _ _ e
  | false => cases e; rfl⟩
theorem sp_or {rest : List Expr} (ha : SP K mg N sc a ma) (hb : SP K mg N sc (.BoolOp .Or (b :: rest) pos) mb) : SP K mg N sc (.BoolOp .Or (a :: b :: rest) pos) (mOrB ma mb) := ⟨spx_or ha.px hb.px ha.br hb.br, fun ev x h e => by
  obtain ⟨x1, h1, e1, e⟩ := bnd_inv e
  have z1 := ha.br _ _ _ e1
  subst z1
  obtain ⟨c, h2, e2, e⟩ := bnd_inv e
  obtain ⟨rfl, rfl⟩ := asB_inv e2
  cases c with
  | false => exact hb.br _ _ _ e
  | true => cases e; rfl⟩
theorem sp_not (ha : SP K mg N sc a ma) : SP K mg N sc (.UnaryOp .Not a pos) (mNotB ma) := ⟨spx_not ha.px ha.br, fun ev x h e => by
  obtain ⟨x1, h1, e1, e⟩ := bnd_inv e
  have z1 := ha.br _ _ _ e1
  subst z1
  obtain ⟨c, h2, e2, e⟩ := bnd_inv e
  obtain ⟨rfl, rfl⟩ := asB_inv e2
  cases e
  rfl⟩
/-- x[i] -/
theorem spx_ix (ha : SPx K mg N sc a ma) (hb : SPx K mg N sc b mb) (b1 : Bare ma) (b2 : Bare mb) (hs : PlainIx b := by exact fun _ _ => rfl) : SPx K mg N sc (.Subscript a b pos) (mOp oIx ma mb) := fun P w env h0 ev y hsc ok hm A E st k => by
  obtain ⟨x1, h1, e1, hm⟩ := bnd_inv hm
  obtain ⟨x2, h2, e2, hm⟩ := bnd_inv hm
  have z1 := b1 _ _ _ e1
  subst z1
  have z2 := b2 _ _ _ e2
  subst z2
  refine Subscript_ (wpAny_mono (ha P w env h0 ev x1 hsc ok e1 A E st k) (fun v s1 q1 => wpAny_mono (hb P w env h0 ev x2 hsc ok e2 A E s1 fun b o z => kpH q1.2 b o (k b o z)) (fun u s2 q2 => ?_) fun _ _ e => e) fun _ _ e => e)
  have k12 := kpT q1.2 q2.2
  have v1 := WV.mono (kpH q2.2) q1.1
  have hn := line63
  have v2 := q2.1
  clear e1 e2 q1 q2
  cases x2 with
  | int i =>
    obtain ⟨t', rfl⟩ := v2.int
    cases x1 with
    | str z =>
      unfold oIx at hm
      dsimp only at hm
      split at hm
      · rename_i hl
        split at hm
        · rename_i c hc
          cases hm
          obtain ⟨t, rfl⟩ := v1.str
          obtain ⟨j, h1, h2, h3, h4, h5⟩ := atI_get hc
          rw [← Str_length z] at h1 h4 h5
          have hz : Str.length (mkS z) ≤ sizeLine := by rw [Str_length]; exact lim_size hl
          have hz' : Str.length ⟨z.toArray⟩ ≤ sizeLine := hz
          exact tail_any (typeIs_str s2 _ t) slot_str_getitem.lookup (PySem.P.getItem_str (c := c) (by
            have e1 : decide (i < -(2 ^ 63 : Int)) = false := decide_eq_false (by omega)
            have e2 : decide (i ≥ 2 ^ 63) = false := decide_eq_false (by omega)
            rw [e1, e2, Bool.or_false]) (by rw [h1]; simpa using h2) ⟨(wv_str' rfl), kpT k12 (keeps_tok _ _)⟩) (hs _ _)
        · cases hm
      · cases hm
    | tup ys =>
      unfold oIx at hm
      dsimp only [sqA] at hm
      split at hm
      · rename_i z hz
        cases hm
        obtain ⟨a, vs, rfl, pl, hz2, r⟩ := v1.tup
        obtain ⟨j, h1, h2, h3, h4, h5⟩ := atI_get hz
        obtain ⟨w', ew, rw'⟩ := r.get h2
        have hl := r.length
        have fin : (fun r (s' : Shared) => WV s'.heap r y ∧ Keeps st s') w' s2 := ⟨rw', k12⟩
        exact subscriptTail_builtinR (x := w') pl.typeIs slot_tuple_getitem.lookup
          (getItem_tuple (j := j) (Q := fun r s' => r = w' ∧ ((fun r (s' : Shared) => WV s'.heap r y ∧ Keeps st s') r s')) pl (by omega) (by omega) (by rw [List.size_toArray, hl]; exact h1) (by simpa using ew) ⟨rfl, fin⟩) (hs _ _)
      · cases hm
    | rol ys =>
      unfold oIx at hm
      dsimp only [sqA] at hm
      split at hm
      · rename_i z hz
        cases hm
        obtain ⟨a, vs, rfl, pl, hz2, r⟩ := v1.rol
        obtain ⟨j, h1, h2, h3, h4, h5⟩ := atI_get hz
        obtain ⟨w', ew, rw'⟩ := r.get h2
        have hl := r.length
        have fin : (fun r (s' : Shared) => WV s'.heap r y ∧ Keeps st s') w' s2 := ⟨rw', k12⟩
        by_cases hi : 0 ≤ i
        · have hj : i.toNat = j := by
            rw [seqIndex_of hi h5] at h1
            exact Option.some.inj h1
          exact item_listR pl hi (by omega) (by rw [hj]; simpa using ew) fin (hs _ _)
        · have hj : (i + (vs.toArray.size : Int)).toNat = j := by
            rw [seqIndex_neg (by omega) h4] at h1
            rw [List.size_toArray, hl]
            exact Option.some.inj h1
          exact subscriptTail_builtinR (x := w') pl.typeIs slot_list_getitem.lookup
            (wpAny_getItem_list_neg (Q := fun r s' => r = w' ∧ ((fun r (s' : Shared) => WV s'.heap r y ∧ Keeps st s') r s')) pl (by omega) (by rw [List.size_toArray] <;> omega) (by omega) (by rw [hj]; simpa using ew) ⟨rfl, fin⟩) (hs _ _)
      · cases hm
    | ref n =>
      have : lstAt [] n = none := by unfold lstAt; simp
      unfold oIx at hm
      dsimp only [sqA] at hm
      rw [this] at hm
      cases hm
    | _ => cases hm
  | _ => cases hm
theorem sp_ix (ha : SP K mg N sc a ma) (hb : SP K mg N sc b mb) (hs : PlainIx b := by exact fun _ _ => rfl) : SP K mg N sc (.Subscript a b pos) (mOp oIx ma mb) := ⟨spx_ix ha.px hb.px ha.br hb.br hs, bare_op ob_ix ha.br hb.br⟩
/-! ### len -/
def LenW : W → Option Nat
  | .str s => if s.length ≤ lim then some s.length else none
  | .tup xs => some xs.length
  | .rol xs => some xs.length
  | _ => none
def mLenP (m : M W) : M W := fun e h => (m e h).bnd fun x h => match LenW x with
  | some n => .ok (.int n) h
  | none => .bad
theorem spx_len (ha : SPx K mg N sc a ma) (b1 : Bare ma) (hg : GlP sc "len") (hm0 : mg "len" = none) (he : ∀ env, starEach [a] env = (false, eval a env) :: starEach [] env := by intro _; rfl) : SPx K mg N sc (.Call (.Name "len" p) [a] [] pos) (mLenP ma) := fun P w env h0 ev y hsc ok hm A E st k => by
  obtain ⟨x1, h1, e1, hm⟩ := bnd_inv hm
  have z1 := b1 _ _ _ e1
  subst z1
  obtain ⟨mb, q1, q2⟩ := ok.blt
  refine wpAny_Call_Name_kw (Calls.Name_function_global ok.kind (by show env.scope.names.lookup _ = _; rw [hsc]; exact hg) (Calls.loadGlobal_builtin (ok.glob.keeps k) hm0 (q1.keeps k) ((q2 "len" (by decide)).trans PySem.boot_len) ?_) (by decide))
  have he' := he env
  refine PyProof.Rows.callWith_builtin1 ?_ he' (by rfl)
  rw [he']
  refine Calls.spliced_cons (wpAny_mono (ha P w env h0 ev x1 hsc ok e1 A E st k) (fun v s1 q1 => Calls.spliced_nil ?_) fun _ _ e => e)
  have hn := line63
  have v1 := q1.1
  have k1 := q1.2
  split at hm
  · rename_i n hn2
    cases hm
    cases x1 with
    | str z =>
      unfold LenW at hn2
      dsimp only at hn2
      split at hn2
      · rename_i hl
        cases hn2
        obtain ⟨t, rfl⟩ := v1.str
        have hz : Str.length (mkS z) ≤ sizeLine := by rw [Str_length]; exact lim_size hl
        refine len_str (by omega) ⟨?_, kpT k1 (keeps_tok _ _)⟩
        rw [Str_length]
        exact wv_int
      · cases hn2
    | tup ys =>
      cases hn2
      obtain ⟨a, vs, rfl, pl, hz2, r⟩ := v1.tup
      refine len_tuple pl (by simp only [List.size_toArray] <;> omega) ⟨?_, kpT k1 (keeps_tok _ _)⟩
      rw [List.size_toArray, r.length]
      exact wv_int
    | rol ys =>
      cases hn2
      obtain ⟨a, vs, rfl, pl, hz2, r⟩ := v1.rol
      refine Calls.call_len_list pl (by simp only [List.size_toArray] <;> omega) ⟨?_, kpT k1 (keeps_tok _ _)⟩
      rw [List.size_toArray, r.length]
      exact wv_int
    | _ => cases hn2
  · cases hm
theorem sp_len (ha : SP K mg N sc a ma) (hg : GlP sc "len") (hm0 : mg "len" = none) (he : ∀ env, starEach [a] env = (false, eval a env) :: starEach [] env := by intro _; rfl) : SP K mg N sc (.Call (.Name "len" p) [a] [] pos) (mLenP ma) := ⟨spx_len ha.px ha.br hg hm0 he, fun ev x h e => by
  obtain ⟨x1, h1, e1, e⟩ := bnd_inv e
  have z1 := ha.br _ _ _ e1
  subst z1
  split at e <;> cases e <;> rfl⟩
/-! ### isinstance -/
def tyNm (x : W) (h : List O) : String := match x with
  | .non => "NoneType"
  | .bl _ => "bool"
  | .int _ => "int"
  | .str _ => "str"
  | .tup _ => "tuple"
  | .rol _ => "list"
  | .ref n => match h[n]? with
    | some (.lst _) => "list"
    | some (.dic _) => "dict"
    | _ => "?"
def mIsi (T : String) (m : M W) : M W := fun e h => (m e h).bnd fun x h => match kitB (tyNm x h) T with
  | some b => .ok (.bl b) h
  | none => .bad
theorem wv_kit {s : Shared} {v : Value} {x : W} {b : Bool} {T : String} (h : WV s.heap v x) (e : kitB (tyNm x []) T = some b) : ∃ (t : Value) (P : Heap → Prop), PySem.W.KitX K v t P ∧ P s.heap ∧ v ≠ .builtin "__main__.__loader__#opaque" ∧ PySem.W.kitOne K t (.type T) = some b := by
  cases x with
  | non => rw [h.non]; exact ⟨_, _, PySem.W.kitx_none, True.intro, (fun z => nomatch z), e⟩
  | bl y => rw [h.bl]; exact ⟨_, _, PySem.W.kitx_bool, True.intro, (fun z => nomatch z), e⟩
  | int y => obtain ⟨t, rfl⟩ := h.int; exact ⟨_, _, PySem.W.kitx_int, True.intro, (fun z => nomatch z), e⟩
  | str y => obtain ⟨t, rfl⟩ := h.str; exact ⟨_, _, PySem.W.kitx_str, True.intro, (fun z => nomatch z), e⟩
  | tup y =>
    obtain ⟨a, vs, rfl, ⟨o, h1, h2, _⟩, _⟩ := h.tup
    exact ⟨_, _, PySem.W.kitx_tuple, ⟨o, h1, h2⟩, (fun z => nomatch z), e⟩
  | rol y =>
    obtain ⟨a, vs, rfl, ⟨o, h1, h2, _⟩, _⟩ := h.rol
    exact ⟨_, _, PySem.W.kitx_list, ⟨o, h1, h2⟩, (fun z => nomatch z), e⟩
  | ref n => exact (show False from h).elim
theorem spx_isi {T : Str} {Tn : String} (ha : SPx K mg N sc a ma) (b1 : Bare ma) (hg : GlP sc "isinstance") (hm0 : mg "isinstance" = none) (hgT : GlP sc T) (hmT : mg T = none) (hbT : bootBuiltins T = some (.type Tn)) (hnT : T ≠ "__name__" := by decide) (hdT : (T == ("__debug__" : Str)) = false := by decide)
    (he : ∀ env, starEach [a, .Name T p2] env = (false, eval a env) :: (false, eval (.Name T p2) env) :: starEach [] env := by intro _; rfl) (hpl : ∀ env, (backTo pos (starEach [.Name T p2] env)).any (·.1) = false := by intro _; rfl) : SPx K mg N sc (.Call (.Name "isinstance" p) [a, .Name T p2] [] pos) (mIsi Tn ma) := fun P w env h0 ev y hsc ok hm A E st k => by
  obtain ⟨x1, h1, e1, hm⟩ := bnd_inv hm
  have z1 := b1 _ _ _ e1
  subst z1
  obtain ⟨mb, q1, q2⟩ := ok.blt
  have gk : ∀ x, GlP sc x → env.kindOf x = some .globalImplicit := fun x hx => by show env.scope.names.lookup _ = _; rw [hsc]; exact hx
  refine wpAny_Call_Name_kw (Calls.Name_function_global ok.kind (gk _ hg) (Calls.loadGlobal_builtin (ok.glob.keeps k) hm0 (q1.keeps k) ((q2 "isinstance" (by decide)).trans PyProof.Rows.boot_isinstance) ?_) (by decide))
  have he' : starEach [a, .Name T p2] env = (false, eval a env) :: starEach [.Name T p2] env := he env
  refine PyProof.Rows.callWith_builtin1 ?_ he' (hpl env)
  rw [he env]
  refine Calls.spliced_cons (wpAny_mono (ha P w env h0 ev x1 hsc ok e1 A E st k) (fun v s1 q3 => ?_) fun _ _ e => e)
  have k1 : Kp h0 s1.heap := fun b o z => kpH q3.2 b o (k b o z)
  refine Calls.spliced_cons (wpAny_mono (Calls.Name_function_global (Q := fun u s2 => u = .type Tn ∧ s2 = s1) ok.kind (gk _ hgT) (Calls.loadGlobal_builtin (ok.glob.keeps k1) hmT (q1.keeps k1) ((q2 T hnT).trans hbT) ⟨rfl, rfl⟩) hdT) (fun u s2 q4 => Calls.spliced_nil ?_) fun _ _ e => e)
  obtain ⟨rfl, rfl⟩ := q4
  split at hm
  · rename_i b hb
    cases hm
    obtain ⟨t, Pz, Z, pz, hne, ho⟩ := wv_kit (K := K) q3.1 hb
    exact PySem.W.kia_one Z (ok.kin.keeps k1) pz ho hne fun tk => ⟨wv_bl, kpT q3.2 (keeps_tok _ _)⟩
  · cases hm
theorem sp_isi {T : Str} {Tn : String} (ha : SP K mg N sc a ma) (hg : GlP sc "isinstance") (hm0 : mg "isinstance" = none) (hgT : GlP sc T) (hmT : mg T = none) (hbT : bootBuiltins T = some (.type Tn)) (hnT : T ≠ "__name__" := by decide) (hdT : (T == ("__debug__" : Str)) = false := by decide)
    (he : ∀ env, starEach [a, .Name T p2] env = (false, eval a env) :: (false, eval (.Name T p2) env) :: starEach [] env := by intro _; rfl) (hpl : ∀ env, (backTo pos (starEach [.Name T p2] env)).any (·.1) = false := by intro _; rfl) : SP K mg N sc (.Call (.Name "isinstance" p) [a, .Name T p2] [] pos) (mIsi Tn ma) :=
  ⟨spx_isi ha.px ha.br hg hm0 hgT hmT hbT hnT hdT he hpl, fun ev x h e => by
    obtain ⟨x1, h1, e1, e⟩ := bnd_inv e
    have z1 := ha.br _ _ _ e1
    subst z1
    split at e <;> cases e <;> rfl⟩
/-! ### x[lo:hi] of a text -/
def SPo (K : PySem.W.Frag) (mg : Str → Option Value) (N : List Str) (sc : Scope) (o : Option Expr) (m : M (Option Int)) : Prop :=
  (∀ ev x h, m ev [] = .ok x h → h = []) ∧ ∀ (P : Program) (w : World) (env : PySem.Env) (h0 : Heap) (ev : Env) (x : Option Int), env.scope = sc → PxOk K mg N env h0 ev → m ev [] = .ok x [] → ∀ (A : Around) (E : Value → Shared → Prop) (s : Shared), Kp h0 s.heap →
    wpAny (model P w) A (evalPart o env) (fun y s' => (∃ l : Option (Int × Tok), y = partValue l ∧ l.map (·.1) = x) ∧ Keeps s s') E s
theorem spo_none : SPo K mg N sc none mNoPart := ⟨fun ev x h e => by cases e; rfl, fun P w env h0 ev x hs ok hm A E s k => by
  cases hm
  rw [evalPart_none]
  exact wpAny_pure ⟨⟨none, rfl, rfl⟩, keeps_rfl s⟩⟩
theorem bare_part (ha : Bare ma) : ∀ ev x h, mPart ma ev [] = .ok x h → h = [] := fun ev x h e => by
  obtain ⟨x1, h1, e1, e⟩ := bnd_inv e
  have z1 := ha _ _ _ e1
  subst z1
  split at e
  · cases e
    rfl
  · cases e
theorem spo_some (ha : SP K mg N sc a ma) : SPo K mg N sc (some a) (mPart ma) := ⟨bare_part ha.br, fun P w env h0 ev x hs ok hm A E s k => by
  obtain ⟨x1, h1, e1, hm⟩ := bnd_inv hm
  have z1 := ha.br _ _ _ e1
  subst z1
  split at hm
  · rename_i i
    cases hm
    show wpAny _ _ (eval a env) _ _ _
    refine wpAny_mono (ha.px P w env h0 ev _ hs ok e1 A E s k) (fun y s' q => ?_) fun _ _ e => e
    obtain ⟨t, rfl⟩ := q.1.int
    exact ⟨⟨some (i, t), rfl, rfl⟩, q.2⟩
  · cases hm⟩
theorem made_cut {x : List Nat} {t : Tok} {l u : Option (Int × Tok)} {Q : Value → Shared → Prop} {s : Shared} (hz : x.length ≤ lim) (h : ∀ t' k, Q (.str (mkS (cutW x (l.map (·.1)) (u.map (·.1)))) t') { s with toks := k }) : (sliceMade (mkS x) t l u none).post Q s := by
  have hl3 : (PySem.StrLaws.sliceText (mkS x) (l.map (·.1)) (u.map (·.1))).length ≤ sizeLine := by
    rw [sliceText_cut]
    exact Nat.le_trans (cutS_length (mkS x) _ _) (by rw [Str_length]; exact lim_size hz)
  have h' : ∀ t' k, Q (.str (PySem.StrLaws.sliceText (mkS x) (l.map (·.1)) (u.map (·.1))) t') { s with toks := k } := fun t' k => by
    rw [sliceText_cut, show mkS x = ⟨x.toArray⟩ from rfl, cutS_cut]
    exact h t' k
  unfold PySem.StrLaws.sliceText at h' hl3
  show Made.post (if ((1 : Int) == 1 && (Builtin.Str.strSliceIndices (l.map (·.1)) (u.map (·.1)) 1 (mkS x).length).length == (mkS x).length) = true then Made.val (.str (mkS x) t)
    else Made.str ⟨((Builtin.Str.strSliceIndices (l.map (·.1)) (u.map (·.1)) 1 (mkS x).length).filterMap ((mkS x).cps[·]?)).toArray⟩) Q _
  by_cases c : ((1 : Int) == 1 && (Builtin.Str.strSliceIndices (l.map (·.1)) (u.map (·.1)) 1 (mkS x).length).length == (mkS x).length) = true
  · rw [if_pos c] at h' ⊢
    exact h' _ _
  · rw [if_neg c] at h' hl3 ⊢
    exact ⟨hl3, h' _ _⟩
def oSlS (x : W) (lo hi : Option Int) (h : List O) : Out W := match x with
  | .str s => if s.length ≤ lim then .ok (.str (cutW s lo hi)) h else .bad
  | _ => .bad
def mSlS (m : M W) (lo hi : M (Option Int)) : M W := fun e h => (m e h).bnd fun x h => (lo e h).bnd fun l h => (hi e h).bnd fun u h => oSlS x l u h
theorem spx_sl {lo hi : Option Expr} {ml mh : M (Option Int)} (ha : SPx K mg N sc a ma) (b1 : Bare ma) (hl : SPo K mg N sc lo ml) (hh : SPo K mg N sc hi mh) (ht : ∀ o r, letTemporaryGo a o r = pure () := by intro _ _; rfl) : SPx K mg N sc (.Subscript a (.Slice lo hi none p2) pos) (mSlS ma ml mh) := fun P w env h0 ev y hsc ok hm A E st k => by
  obtain ⟨x1, h1, e1, hm⟩ := bnd_inv hm
  have z1 := b1 _ _ _ e1
  subst z1
  obtain ⟨x2, h2, e2, hm⟩ := bnd_inv hm
  have z2 := hl.1 _ _ _ e2
  subst z2
  obtain ⟨x3, h3, e3, hm⟩ := bnd_inv hm
  have z3 := hh.1 _ _ _ e3
  subst z3
  refine wpAny_Subscript_str_slice (wpAny_mono (ha P w env h0 ev x1 hsc ok e1 A E st k) (fun v s1 q1 => ?_) fun _ _ e => e) ht
  have k1 : Kp h0 s1.heap := fun b o z => kpH q1.2 b o (k b o z)
  refine wpAny_mono (hl.2 P w env h0 ev x2 hsc ok e2 A E s1 k1) (fun vl s2 q2 => ?_) fun _ _ e => e
  have k2 : Kp h0 s2.heap := fun b o z => kpH q2.2 b o (k1 b o z)
  refine wpAny_mono (hh.2 P w env h0 ev x3 hsc ok e3 A E s2 k2) (fun vu s3 q3 => ?_) fun _ _ e => e
  obtain ⟨l, rfl, rfl⟩ := q2.1
  obtain ⟨u, rfl, rfl⟩ := q3.1
  cases x1 with
  | str z =>
    unfold oSlS at hm
    dsimp only at hm
    split at hm
    · rename_i hz
      cases hm
      obtain ⟨t, rfl⟩ := q1.1.str
      refine ⟨mkS z, t, l, u, rfl, rfl, rfl, made_cut hz fun t' k' => ⟨wv_str, ?_⟩⟩
      obtain ⟨hf, tk, rfl, kp⟩ := kpT q1.2 (kpT q2.2 q3.2)
      exact ⟨_, _, rfl, fun b o e => Heap.get?_push_of_some _ (kp b o e)⟩
    · cases hm
  | _ => cases hm
theorem sp_sl {lo hi : Option Expr} {ml mh : M (Option Int)} (ha : SP K mg N sc a ma) (hl : SPo K mg N sc lo ml) (hh : SPo K mg N sc hi mh) (ht : ∀ o r, letTemporaryGo a o r = pure () := by intro _ _; rfl) : SP K mg N sc (.Subscript a (.Slice lo hi none p2) pos) (mSlS ma ml mh) := ⟨spx_sl ha.px ha.br hl hh ht, fun ev x h e => by
  obtain ⟨x1, h1, e1, hm⟩ := bnd_inv e
  have z1 := ha.br _ _ _ e1
  subst z1
  obtain ⟨x2, h2, e2, hm⟩ := bnd_inv hm
  have z2 := hl.1 _ _ _ e2
  subst z2
  obtain ⟨x3, h3, e3, hm⟩ := bnd_inv hm
  have z3 := hh.1 _ _ _ e3
  subst z3
  unfold oSlS at hm
  split at hm
  · split at hm <;> cases hm <;> rfl
  · cases hm⟩
end
end Den
set_option maxRecDepth 100000
set_option maxHeartbeats 1000000
/-! sorted(.., key=lambda x: e). -/
namespace Den
open PySem L2 PyProof.Rows PySem.W
/-! ### values frozen: lists by what is in them -/
def frz (h : List O) : Nat → W → Option W
  | 0, _ => none
  | n + 1, .ref k => (lstAt h k).bind fun xs => (mapO (frz h n) xs).map .rol
  | n + 1, .rol xs => (mapO (frz h n) xs).map .rol
  | n + 1, .tup xs => (mapO (frz h n) xs).map .tup
  | n + 1, .non => some .non
  | n + 1, .bl b => some (.bl b)
  | n + 1, .int i => some (.int i)
  | n + 1, .str s => some (.str s)
section
variable {X : Cx} {G : Gx} {pins : List (Addr × Obj)} {σ : L2.St} {H : Hp} {s : Shared} {ρ : List Addr} {h : List O}
theorem mapO_wvs {f : W → Option W} (hf : ∀ v u w w', VR X.K H ρ v w → RelV v u → f w = some w' → WV s.heap u w') : ∀ {ws : List W} {vs : List V} {us : List Value} {ws' : List W}, VRs X.K H ρ vs ws → Vals vs us → mapO f ws = some ws' → WVs s.heap us ws'
  | [], vs, us, ws', r, q, e => by
    unfold VRs at r
    cases e
    subst r
    cases q
    unfold WVs
    rfl
  | w :: ws, vs, us, ws', r, q, e => by
    unfold VRs at r
    obtain ⟨v, l, rfl, r1, r2⟩ := r
    cases q with
    | cons q1 q2 =>
      unfold mapO at e
      split at e
      · rename_i d hd
        split at e
        · rename_i ds hds
          cases e
          unfold WVs
          exact ⟨_, _, rfl, hf _ _ _ _ r1 q1 hd, mapO_wvs hf r2 q2 hds⟩
        · cases e
      · cases e
theorem seqs_len {vs : List V} {us : List Value} (r : Vals vs us) (h : vs.length ≤ sizeLine) : us.length ≤ sizeLine := by rw [← r.length]; exact h
theorem frz_wv (I : Inv X pins σ H s) (hr : HR X.K G H ρ h) : ∀ (n : Nat) (v : V) (u : Value) (w w' : W), VR X.K H ρ v w → RelV v u → frz h n w = some w' → WV s.heap u w'
  | 0, v, u, w, w', r, q, e => by cases e
  | n + 1, v, u, .non, w', r, q, e => by cases e; rw [r.non] at q; cases q; exact wv_non
  | n + 1, v, u, .bl b, w', r, q, e => by cases e; rw [r.bl] at q; cases q; exact wv_bl
  | n + 1, v, u, .int b, w', r, q, e => by cases e; rw [r.int] at q; obtain ⟨t, rfl⟩ := q; exact wv_int
  | n + 1, v, u, .str b, w', r, q, e => by cases e; rw [r.str] at q; obtain ⟨t, rfl⟩ := q; exact wv_str
  | n + 1, v, u, .tup xs, w', r, q, e => by
    unfold frz at e
    obtain ⟨a, vs, rfl, sq, z⟩ := sqT_ok (xs := xs) r rfl
    cases q
    obtain ⟨its, rv, pl, hz⟩ := I.tuple sq
    cases hm : mapO (frz h n) xs with
    | none => rw [hm] at e; cases e
    | some ds =>
      rw [hm] at e
      cases e
      unfold WV
      exact ⟨a, its, rfl, pl, seqs_len rv hz, mapO_wvs (fun v u w w' => frz_wv I hr n v u w w') z rv hm⟩
  | n + 1, v, u, .rol xs, w', r, q, e => by
    unfold frz at e
    obtain ⟨a, vs, rfl, sq, z⟩ := sqL_ok (xs := xs) hr r rfl
    cases q
    obtain ⟨its, rv, pl, hz⟩ := I.list sq
    cases hm : mapO (frz h n) xs with
    | none => rw [hm] at e; cases e
    | some ds =>
      rw [hm] at e
      cases e
      unfold WV
      exact ⟨a, its, rfl, pl.isList, seqs_len rv hz, mapO_wvs (fun v u w w' => frz_wv I hr n v u w w') z rv hm⟩
  | n + 1, v, u, .ref k, w', r, q, e => by
    unfold frz at e
    cases hl : lstAt h k with
    | none => rw [hl] at e; cases e
    | some xs =>
      rw [hl] at e
      obtain ⟨a, vs, rfl, sq, z⟩ := sqL_ok (w := .ref k) (xs := xs) hr r hl
      cases q
      obtain ⟨its, rv, pl, hz⟩ := I.list sq
      cases hm : mapO (frz h n) xs with
      | none => simp only [Option.bind, hm] at e; cases e
      | some ds =>
        simp only [Option.bind, hm] at e
        cases e
        unfold WV
        exact ⟨a, its, rfl, pl.isList, seqs_len rv hz, mapO_wvs (fun v u w w' => frz_wv I hr n v u w w') z rv hm⟩
end
def frzE (h : List O) (e : Env) : Env := e.map fun o => o.bind (frz h 6)
/-! ### plain data without lists -/
def pdat : Nat → W → Option PyData
  | 0, _ => none
  | n + 1, .non => some .none
  | n + 1, .bl b => some (.bool b)
  | n + 1, .int i => some (.int i)
  | n + 1, .str s => some (.str (mkS s))
  | n + 1, .tup xs => (mapO (pdat n) xs).map .tuple
  | _, _ => none
theorem mapO_reads {h : Heap} {f : W → Option PyData} (hf : ∀ v w d, WV h v w → f w = some d → Reads h v d []) : ∀ {ws : List W} {vs : List Value} {ds : List PyData}, WVs h vs ws → mapO f ws = some ds → ReadsAll h vs ds []
  | [], vs, ds, r, e => by
    unfold WVs at r
    cases e
    subst r
    exact .nil
  | w :: ws, vs, ds, r, e => by
    unfold WVs at r
    obtain ⟨v, l, rfl, r1, r2⟩ := r
    unfold mapO at e
    split at e
    · rename_i d hd
      split at e
      · rename_i ds hds
        cases e
        exact .cons (as := []) (bs := []) (hf _ _ _ r1 hd) (mapO_reads hf r2 hds)
      · cases e
    · cases e
theorem pdat_reads {h : Heap} : ∀ (n : Nat) (v : Value) (w : W) (d : PyData), WV h v w → pdat n w = some d → Reads h v d []
  | 0, v, w, d, r, e => by cases e
  | n + 1, v, .non, d, r, e => by cases e; rw [r.non]; exact .none
  | n + 1, v, .bl b, d, r, e => by cases e; rw [r.bl]; exact .bool b
  | n + 1, v, .int b, d, r, e => by cases e; obtain ⟨t, rfl⟩ := r.int; exact .int b t
  | n + 1, v, .str b, d, r, e => by cases e; obtain ⟨t, rfl⟩ := r.str; exact .str _ t
  | n + 1, v, .tup xs, d, r, e => by
    unfold pdat at e
    cases hm : mapO (pdat n) xs with
    | none => rw [hm] at e; cases e
    | some ds =>
      rw [hm] at e
      cases e
      obtain ⟨a, vs, rfl, ⟨o, h1, h2, m, h3⟩, hz, q⟩ := r.tup
      exact .tuple h1 h2 h3 (by simpa using mapO_reads (fun v w d => pdat_reads n v w d) q hm)
  | n + 1, v, .rol xs, d, r, e => by cases e
  | n + 1, v, .ref xs, d, r, e => by cases e
/-! ### a lambda of one parameter -/
structure LamP (sc scope : Scope) (x : Str) : Prop where
  kind : scope.kind = .function
  co : scope.isCoroutine = false
  gen : scope.isGenerator = false
  cell : ∀ y ∈ scope.names, y.2 ≠ .cell
  loc : scope.names.lookup x = some .local
  own : ∀ y, scope.names.lookup y = some .local → y = x
  free : ∀ y ∈ scope.names, y.2 = .free → sc.names.lookup y.1 = some .cell ∨ sc.names.lookup y.1 = some .free
def lamPB (sc scope : Scope) (x : Str) : Bool :=
  decide (scope.kind = .function) && !scope.isCoroutine && !scope.isGenerator && decide (scope.names.lookup x = some .local) &&
    scope.names.all fun y => !decide (y.2 = .cell) && (!decide (y.2 = .local) || decide (y.1 = x)) && (!decide (y.2 = .free) || decide (sc.names.lookup y.1 = some .cell) || decide (sc.names.lookup y.1 = some .free))
theorem lamP_by {sc scope : Scope} {x : Str} (h : lamPB sc scope x = true) : LamP sc scope x := by
  unfold lamPB at h
  simp only [Bool.and_eq_true, Bool.or_eq_true, Bool.not_eq_true', decide_eq_true_eq, decide_eq_false_iff_not, List.all_eq_true] at h
  obtain ⟨⟨⟨⟨h1, h2⟩, h3⟩, h4⟩, h5⟩ := h
  refine ⟨h1, h2, h3, fun y hy => (h5 y hy).1.1, h4, fun y hy => ?_, fun y hy e => ?_⟩
  · have hm := PySem.mem_of_lookup hy
    rcases (h5 _ hm).1.2 with z | z
    · exact absurd rfl z
    · exact z
  · rcases (h5 y hy).2 with (z | z) | z
    · exact absurd e z
    · exact .inl z
    · exact .inr z
/-- what a call of the lambda f gives: by its body -/
theorem lam_call {P : Program} {w : World} {A : Around} {s : Shared} {f c' : Addr} {qual x : Str} {params : Arguments} {body : Expr} {scope : Scope} {clos : List (Str × Addr)} {pm ctv v : Value} {sc : Scope} {Q : Value → Shared → Prop} {E : Value → Shared → Prop}
    (L : LamP sc scope x) (hd : A.depth < recursionLimit) (hf : s.heap.get? f = some (PySem.W.kla_obj "<lambda>" qual params body scope clos pm c' ctv)) (hc : s.heap.CodeRec (.ref c') qual) (hl : s.heap.NoLimit)
    (hbind : bindArgs (PySem.W.kla_fn "<lambda>" qual params body scope clos pm (.ref c') ctv) ⟨[v], []⟩ = pure [(x, v)])
    (h : ∀ (env : PySem.Env) (h₁ : Heap) (tk : Nat), env.scope = scope → env.cells = clos → env.globals = mainGlobals → env.builtins = builtinsNs → Kp s.heap h₁ → (h₁.Ns env.locals fun y => [(x, v)].lookup y) →
      wpAny (model P w) (A.deeper env) (eval body env) Q (fun _ _ => False) { s with heap := h₁, toks := tk }) :
    wpAny (model P w) A (call (.ref f) [v]) Q E s := by
  refine wpAny_call ?_
  refine PySem.W.kla_callFunE hd hf rfl L.co L.gen rfl hc ?_
  rw [hbind]
  refine wpAny_pure (wpAny_newFunctionEnv (fun y hy => L.cell y hy) (fun y hy => ?_) (fun h₁ hns hsb => ⟨hl.fresh _ hsb, ?_⟩) L.kind)
  · have e : y = (x, v) := by simpa using hy
    rw [e]
    exact L.loc
  · have kp : Kp s.heap h₁ := fun b o e => hsb.extBut b o (Nat.ne_of_lt (Heap.lt_size e)) (Heap.get?_push_of_some _ e)
    refine PySem.W.kla_codeExpr (wpAny_mono (h _ h₁ _ rfl rfl rfl rfl kp hns) (fun u s' hq => ?_) fun e s' hq => hq.elim)
    exact hq
end Den
set_option maxRecDepth 100000
set_option maxHeartbeats 2000000
/-! What can be gathered, sorted with and without a key. -/
namespace Den
open PySem L2 PyProof.Rows PySem.W LamX
/-! ### what can be gathered in order -/
def rgVs (lo hi : Int) : List V := (List.range (hi - lo).toNat).map fun i : Nat => V.int (lo + i)
def ColV (K : PySem.W.Frag) (H : Hp) (v : V) (xs : List V) : Prop :=
  ∃ a, v = .ref a ∧ (SqL K H a xs ∨ SqT K H a xs ∨ ∃ lo hi, H a = some (.rng lo hi) ∧ -(2 ^ 62) ≤ lo ∧ lo < 2 ^ 62 ∧ -(2 ^ 62) ≤ hi ∧ hi < 2 ^ 62 ∧ (hi - lo).toNat ≤ 16777216 ∧ xs = rgVs lo hi)
abbrev ColRel (K : PySem.W.Frag) : Hp → List Addr → V → List W → Prop := fun H ρ v ws => ∃ xs, ColV K H v xs ∧ VRs K H ρ xs ws ∧ ws.length ≤ 16777216
section
variable {X : Cx} {pins : List (Addr × Obj)} {σ : L2.St} {H : Hp} {s : Shared}
theorem small24 : (16777216 : Nat) ≤ sizeLine := by rw [PySem.sizeLine_eq]; decide
theorem vals_rgVs {lo : Int} : ∀ {us : List Value} {n : Nat} {k : Nat}, us.length = n → (∀ (i : Nat) (v : Value), us[i]? = some v → ∃ t, v = .int (lo + ((k + i : Nat) : Int)) t) → Vals ((List.range' k n).map fun i : Nat => V.int (lo + i)) us
  | [], n, k, h, _ => by subst h; exact .nil
  | u :: us, n, k, h, q => by
    subst h
    rw [List.length_cons, List.range'_succ, List.map_cons]
    refine .cons ?_ (vals_rgVs (k := k + 1) rfl fun i v hv => ?_)
    · obtain ⟨t, e⟩ := q 0 u rfl
      exact ⟨t, by rw [e]; rfl⟩
    · obtain ⟨t, e⟩ := q (i + 1) v (by simpa using hv)
      exact ⟨t, by rw [e]; congr 1; omega⟩
theorem colv_coll (I : Inv X pins σ H s) {v : V} {u : Value} {xs : List V} (r : RelV v u) (c : ColV X.K H v xs) {A : Around} (hh : A.handled = none) : Coll X.prog X.w A s u (fun us => Vals xs us) := by
  obtain ⟨a, rfl, c⟩ := c
  cases r
  rcases c with c | c | ⟨lo, hi, c, h1, h2, h3, h4, h5, rfl⟩
  · obtain ⟨its, rv, pl, hz⟩ := I.list c
    exact fun Q E h => coll_list pl.isList (seqs_len rv hz) I.bare Q E fun s' vs k g o e => h s' vs k g o (by rw [e]; exact rv)
  · obtain ⟨its, rv, pl, hz⟩ := I.tuple c
    exact fun Q E h => coll_tup pl (seqs_len rv hz) I.bare Q E fun s' vs k g o e => h s' vs k g o (by rw [e]; exact rv)
  · have hr := I.hok a _ c
    exact fun Q E h => coll_rng hh hr h1 h2 h3 h4 h5 I.bare Q E fun s' vs k g o e => h s' vs k g o (by
      have := vals_rgVs (lo := lo) (k := 0) e.1 fun i v hv => by
        obtain ⟨t, e⟩ := e.2 i v hv
        exact ⟨t, by rw [e, Nat.zero_add]⟩
      rw [← List.range_eq_range'] at this
      exact this)
theorem ColV.ext {K : PySem.W.Frag} {H H' : Hp} {v : V} {xs : List V} (c : ColV K H v xs) (e : ExtN H H') : ColV K H' v xs := by
  obtain ⟨a, rfl, c⟩ := c
  refine ⟨a, rfl, ?_⟩
  have key : ∀ b o, H b = some o → isTbl o = false → H' b = some o := fun b o q t => e b o q (by intro ps z; subst z; cases t)
  rcases c with (⟨c | ⟨o, c⟩⟩ | c) | (⟨c | ⟨o, c⟩⟩ | c) | ⟨lo, hi, c, q⟩
  · exact .inl (.inl (.inl (key _ _ c rfl)))
  · exact .inl (.inl (.inr ⟨o, key _ _ c rfl⟩))
  · exact .inl (.inr c)
  · exact .inr (.inl (.inl (.inl (key _ _ c rfl))))
  · exact .inr (.inl (.inl (.inr ⟨o, key _ _ c rfl⟩)))
  · exact .inr (.inl (.inr c))
  · exact .inr (.inr ⟨lo, hi, key _ _ c rfl, q⟩)
end
/-- e gives a thing whose items m tells -/
def SItems (G : Gx) (X : Cx) (e : Expr) (m : M (List W)) : Prop := ∀ Wx, Takes X Wx → PE X e (rd X.K G Wx (ColRel X.K) m)
def mItems (m : M W) : M (List W) := fun e h => (m e h).bnd fun w h => match sqA w h with
  | some xs => if xs.length ≤ 16777216 then .ok xs h else .bad
  | none => .bad
def rgW (lo hi : Int) : List W := (List.range (hi - lo).toNat).map fun i : Nat => W.int (lo + i)
def rgOkB (lo hi : Int) : Bool := decide (-(2 ^ 62) ≤ lo) && decide (lo < 2 ^ 62) && decide (-(2 ^ 62) ≤ hi) && decide (hi < 2 ^ 62) && decide ((hi - lo).toNat ≤ 16777216)
def mItemsR1 (m : M (List W)) : M (List W) := fun e h => (m e h).bnd fun ws h => match ws with
  | [.int j] => if rgOkB 0 j = true then .ok (rgW 0 j) h else .bad
  | _ => .bad
def mItemsR2 (m : M (List W)) : M (List W) := fun e h => (m e h).bnd fun ws h => match ws with
  | [.int i, .int j] => if rgOkB i j = true then .ok (rgW i j) h else .bad
  | _ => .bad
section
variable {G : Gx} {X : Cx} {e : Expr} {m : M W} {pos p : Pos}
theorem PE.imp' {t t' : TE} (p : PE X e t) (i : ∀ σ H Q, t' σ H Q → t σ H Q) : PE X e t' := L2.PE.imp p i
theorem sit_seq (he : SE G X e m) : SItems G X e (mItems m) := fun Wx tk => (he Wx tk).imp fun σ H Q p => rd.bnd (Rel := VRel X.K) p fun H0 ρ0 e sr x H1 ρ1 h1 wx x1 r1 vx p1 => by
  split at p1
  · rename_i xs hx
    split at p1
    · rename_i hl
      obtain ⟨a, vs, rfl, q, z⟩ := sqA_ok r1 vx hx
      refine p1 ρ1 H1 _ (Ext.refl r1) r1 ⟨vs, ⟨a, rfl, ?_⟩, z, hl⟩
      rcases q with q | q
      · exact .inl q
      · exact .inr (.inl q)
    · exact p1.elim
  · exact p1.elim
theorem cr_range1 : CallR X (.type "range") (fun vs H Q => ∃ j, vs = [V.int j] ∧ ∀ p, H p = none → Q (.ref p) (upd H p (.rng 0 j))) := by
  intro pins s σ H xs us Q I r h
  obtain ⟨j, rfl, q⟩ := h
  obtain ⟨u, rfl, t, rfl⟩ := vals1 r
  refine call_range_1 ⟨.ref s.heap.objs.size, upd H s.heap.objs.size (.rng 0 j), I.laid (t' := s.toks + 1 + 1) (fun b o e => Heap.get?_push_of_some _ e) (Nat.le_refl _) ?_, rfl, q _ (I.hok.fresh (Nat.le_refl _))⟩
  exact ⟨_, _, _, Heap.get?_push_size _ rfl⟩
theorem rgOkB_ok {lo hi : Int} (h : rgOkB lo hi = true) : -(2 ^ 62) ≤ lo ∧ lo < 2 ^ 62 ∧ -(2 ^ 62) ≤ hi ∧ hi < 2 ^ 62 ∧ (hi - lo).toNat ≤ 16777216 := by
  unfold rgOkB at h
  simp only [Bool.and_eq_true, decide_eq_true_eq] at h
  obtain ⟨⟨⟨⟨a, b⟩, c⟩, d⟩, e⟩ := h
  exact ⟨a, b, c, d, e⟩
theorem rg_vrs {K : PySem.W.Frag} {H : Hp} {ρ : List Addr} {lo : Int} : ∀ l : List Nat, VRs K H ρ (l.map fun i : Nat => V.int (lo + i)) (l.map fun i : Nat => W.int (lo + i))
  | [] => .nil
  | n :: ns => .cons vr_int (rg_vrs ns)
/-- a new range -/
theorem new_rng {K : PySem.W.Frag} {H : Hp} {ρ : List Addr} {h : List O} {E : XK} {Q : VK} {lo hi : Int} (hr : HR K G H ρ h) (ok : rgOkB lo hi = true) (p : Post K G E (ColRel K) Q H ρ (.ok (rgW lo hi) h)) : ∀ t, H t = none → Q (.ref t) (upd H t (.rng lo hi)) := fun t ht => by
  obtain ⟨r1, x1⟩ := hr.other (o := .rng lo hi) ht
  obtain ⟨a, b, c, d, e⟩ := rgOkB_ok ok
  exact p ρ _ _ x1 r1 ⟨rgVs lo hi, ⟨t, rfl, .inr (.inr ⟨lo, hi, upd_same, a, b, c, d, e, rfl⟩)⟩, rg_vrs _, by unfold rgW; rw [List.length_map, List.length_range]; exact e⟩
theorem sit_rng1 {a : Expr} {mr : M (List W)} {p : Pos} (ha : SA G X [a] mr) (hg : Gl X "range") (hm : X.mg "range" = none) (hv : bootBuiltins "range" = some (.type "range") := by decide +kernel)
    (he : starEach [a] X.env = (false, eval a X.env) :: starEach [] X.env := by rfl) : SItems G X (.Call (.Name "range" p) [a] [] pos) (mItemsR1 mr) := fun Wx tk =>
  (pe_callTy cr_range1 hg hm hv (ha Wx tk) (by decide) (by decide) he (by rfl)).imp fun σ H Q p => rd.bnd (Rel := VsRel X.K) p fun H0 ρ0 e sr x H1 ρ1 h1 wx x1 r1 vx p1 => by
    split at p1
    · rename_i j
      split at p1
      · rename_i ok
        obtain ⟨v, rfl, q⟩ := VRs.inv1 vx
        exact ⟨j, by rw [q.int], new_rng r1 ok p1⟩
      · exact p1.elim
    · exact p1.elim
theorem sit_rng2 {a b : Expr} {mr : M (List W)} {p : Pos} (ha : SA G X [a, b] mr) (hg : Gl X "range") (hm : X.mg "range" = none) (hv : bootBuiltins "range" = some (.type "range") := by decide +kernel)
    (he : starEach [a, b] X.env = (false, eval a X.env) :: starEach [b] X.env := by rfl) (hpl : (backTo pos (starEach [b] X.env)).any (·.1) = false := by rfl) : SItems G X (.Call (.Name "range" p) [a, b] [] pos) (mItemsR2 mr) := fun Wx tk =>
  (pe_callTy cr_range2 hg hm hv (ha Wx tk) (by decide) (by decide) he hpl).imp fun σ H Q p => rd.bnd (Rel := VsRel X.K) p fun H0 ρ0 e sr x H1 ρ1 h1 wx x1 r1 vx p1 => by
    split at p1
    · rename_i i j
      split at p1
      · rename_i ok
        obtain ⟨v, v', rfl, q, q'⟩ := VRs.inv2 vx
        exact ⟨i, j, by rw [q.int, q'.int], new_rng r1 ok p1⟩
      · exact p1.elim
    · exact p1.elim
end
/-! ### sorted -/
section
variable {X : Cx} {pins : List (Addr × Obj)} {σ : L2.St} {H : Hp} {s : Shared}
/-- behind a call that laid a new list at a -/
theorem inv_newList {s' : Shared} {a : Addr} {xs : List V} {out : List Value} {c : Nat} (I : Inv X pins σ H s) (k : Kp s.heap s'.heap) (g : AllBare s'.gens) (o : s'.os = s.os) (ha : s.heap.objs.size ≤ a) (e : s'.heap.get? a = some (seqObj "list" out.toArray c)) (r : Vals xs out) (hz : xs.length ≤ sizeLine) :
    Inv X pins σ (upd H a (.lst xs)) s' := by
  have new : ObjOk X.prog X.w (upd H a (.lst xs)) s'.heap a (.lst xs) := ⟨hz, out, c, r, e⟩
  exact I.call' (ch := []) o (Un.laid k ha (I.hok.fresh ha)) (I.hok.laid k ha new) g fun b hb => absurd hb (by simp)
theorem each_and {α β : Type} {R S : α → β → Prop} : ∀ {as : List α} {bs : List β}, EachIs R as bs → EachIs S as bs → EachIs (fun a b => R a b ∧ S a b) as bs
  | _, _, .nil, _ => .nil
  | _, _, .cons r h, q => by
    cases q with
    | cons s t => exact .cons ⟨r, s⟩ (each_and h t)
theorem each_vals3 {β : Type} {f : β → V} : ∀ {out : List Value} {bs : List β}, EachIs (fun v b => RelV (f b) v) out bs → Vals (bs.map f) out
  | _, _, .nil => .nil
  | _, _, .cons r h => .cons r (each_vals3 h)
theorem each_of_vals {β : Type} {f : β → V} : ∀ {out : List Value} {bs : List β}, Vals (bs.map f) out → EachIs (fun v b => RelV (f b) v) out bs
  | out, [], h => by cases h; exact .nil
  | _, b :: bs, h => by
    cases h with
    | cons r h => exact .cons r (each_of_vals h)
end
section
variable {G : Gx} {X : Cx} {e : Expr} {m : M W} {mit : M (List W)} {pos p : Pos}
def mSorted (mit : M (List W)) : M W := fun e h => (mit e h).bnd fun xs h => match mapO (dat h 7) xs with
  | some ds => if kindOk ds = true then .ok (.ref h.length) (h ++ [.lst (sortBy xs ds)]) else .bad
  | none => .bad
theorem zip_fst {α β : Type} {xs : List α} {ds : List β} (h : xs.length = ds.length) : (xs.zip ds).map Prod.fst = xs := by
  rw [List.map_fst_zip (by omega)]
theorem mapO_len {α β : Type} {f : α → Option β} : ∀ {xs : List α} {ds : List β}, mapO f xs = some ds → xs.length = ds.length
  | [], ds, e => by cases e; rfl
  | x :: xs, ds, e => by
    unfold mapO at e
    split at e
    · split at e
      · rename_i ys hy
        cases e
        rw [List.length_cons, List.length_cons, mapO_len hy]
      · cases e
    · cases e
theorem se_sortedI (hi : SItems G X e mit) (hc : X.calm = true) (hu : X.A.units + 64 < cLine) (hg : Gl X "sorted") (hm : X.mg "sorted" = none) (hv : bootBuiltins "sorted" = some (.builtin "sorted") := by decide +kernel)
    (he : starEach [e] X.env = (false, eval e X.env) :: starEach [] X.env := by rfl) : SE G X (.Call (.Name "sorted" p) [e] [] pos) (mSorted mit) := fun Wx tk => by
  refine ⟨fun pins s σ H Q I h => ?_⟩
  refine wpAny_Call_Name_kw (ld_blt I hg hm hv ?_ (by decide) (by decide))
  refine PyProof.Rows.callWith_builtin1 ?_ he (by rfl)
  rw [he]
  have h2 := rd.bnd (Rel := ColRel X.K) (Q' := fun v H1 => ∃ ρ1 h1 ws, ColRel X.K H1 ρ1 v ws ∧ HR X.K G H1 ρ1 h1 ∧ Post X.K G (fun cls d H' => Wx cls d σ H') (VRel X.K) Q H1 ρ1 (match mapO (dat h1 7) ws with
    | some ds => if kindOk ds = true then .ok (.ref h1.length) (h1 ++ [.lst (sortBy ws ds)]) else .bad
    | none => .bad)) h fun H0 ρ0 e sr v H1 ρ1 h1 w x r q p1 => ⟨ρ1, h1, w, q, r, p1⟩
  refine Calls.spliced_cons (thn ((hi Wx tk).run pins s σ H _ I h2) fun u s1 ⟨v, H1, I1, rv, ρ1, h1, ws, ⟨xs, cv, vx, hlen⟩, r1, p1⟩ => Calls.spliced_nil ?_)
  split at p1
  · rename_i ds hd
    split at p1
    · rename_i hk
      have hdp := mapO_dp (fun v w d r e => dat_dp r1 7 v w d r e) vx hd
      have hlx := dpAll_len hdp
      refine sorted_coll (β := V × PyData) (Rel := fun u b => RelV b.1 u ∧ ∃ as, Reads s1.heap u b.2 as) (enc := Prod.snd) (Ok := fun bs => bs = xs.zip ds) (fun Q' E' hq => ?_) (args_sorted1 _) (fun bs ok => ?_) (fun hh v b k q => ?_) fun s' out c a bs ok k g o ha e1 er => ?_
      · refine colv_coll I1 rv cv (A := X.A.in1) (I1.ok.hd hc) Q' E' fun s' vs k g o r => hq s' vs k g o ⟨_, rfl, ?_⟩
        obtain ⟨as, rd⟩ := Dp.readsAll I1 ds xs vs hdp r
        have e1 := each_zip r hlx
        have e2 := each_reads hlx rd
        have := each_and e1 e2
        exact this
      · subst ok
        rw [zip_snd hlx]
        refine ⟨kindOk_alike hk, kindOk_sortable hk, by rw [List.length_zip]; exact Nat.le_trans (Nat.min_le_left _ _) (by rw [vx.length]; exact Nat.le_trans hlen small24), fun b hb => ?_⟩
        have := kindOk_depth hk b.2 (by rw [← zip_snd hlx]; exact List.mem_map_of_mem hb)
        omega
      · obtain ⟨as, q⟩ := q.2
        exact ⟨as, PyProof.Rows.Reads.keeps k q⟩
      · subst ok
        have e3 : Vals (sortBy xs ds) out := vals_each (er.mono fun _ _ q => q.1)
        refine ⟨.ref a, _, inv_newList I1 k g o ha e1 e3 (by rw [sortBy_length hlx, vx.length]; exact Nat.le_trans hlen small24), rfl, ?_⟩
        exact new_lst r1 (vrs_sortBy vx) p1 a (I1.hok.fresh ha)
    · exact p1.elim
  · exact p1.elim
end
end Den
set_option maxRecDepth 100000
set_option maxHeartbeats 2000000
/-! sorted(.., key=lambda x: e) as a rule. -/
namespace Den
open PySem L2 PyProof.Rows PySem.W LamX
/-- an item's key -/
def keyOf (h : List O) (e : Env) (slot : Nat) (mkey : M W) (w : W) : Option (W × PyData) := match frz h 6 w with
  | some fw => match mkey ((frzE h e).set slot (some fw)) [] with
    | .ok k _ => (pdat 7 k).map fun d => (fw, d)
    | _ => none
  | none => none
def mSortK (slot : Nat) (mit : M (List W)) (mkey : M W) : M W := fun e h => (mit e h).bnd fun xs h => match mapO (keyOf h e slot mkey) xs with
  | some ds => if kindOk (ds.map Prod.snd) = true then .ok (.ref h.length) (h ++ [.lst (sortBy xs (ds.map Prod.snd))]) else .bad
  | none => .bad
theorem mapO_each {α β : Type} {f : α → Option β} : ∀ {xs : List α} {ds : List β}, mapO f xs = some ds → ∀ (i : Nat) (x : α), xs[i]? = some x → ∃ d, ds[i]? = some d ∧ f x = some d
  | [], ds, e, i, x, h => by simp at h
  | y :: xs, ds, e, i, x, h => by
    unfold mapO at e
    split at e
    · rename_i d hd
      split at e
      · rename_i ys hy
        cases e
        cases i with
        | zero =>
          have : y = x := by simpa using h
          subst this
          exact ⟨d, rfl, hd⟩
        | succ i =>
          obtain ⟨d', h1, h2⟩ := mapO_each hy i x (by simpa using h)
          exact ⟨d', by simpa using h1, h2⟩
      · cases e
    · cases e
theorem each_idx {α β : Type} {R : α → β → Prop} : ∀ {as : List α} {bs : List β}, as.length = bs.length → (∀ (i : Nat) (a : α) (b : β), as[i]? = some a → bs[i]? = some b → R a b) → EachIs R as bs
  | [], [], _, _ => .nil
  | a :: as, b :: bs, h, q => .cons (q 0 a b rfl rfl) (each_idx (by simpa using h) fun i a b h1 h2 => q (i + 1) a b (by simpa using h1) (by simpa using h2))
  | [], _ :: _, h, _ => by simp at h
  | _ :: _, [], h, _ => by simp at h
theorem sort_map2 {α β : Type} (f : α → PyData) (g : α → β) (l : List α) : ((l.map fun b => (g b, f b)).mergeSort (dataLe false Prod.snd)) = (l.mergeSort (dataLe false f)).map fun b => (g b, f b) := by
  symm
  apply List.map_mergeSort
  intro a _ b _
  rfl
section
variable {X : Cx} {G : Gx} {pins : List (Addr × Obj)} {σ : L2.St} {H : Hp} {s : Shared} {ρ : List Addr} {h : List O}
/-- the frozen frame of the lambda -/
theorem lam_px {scope : Scope} {x : Str} {slot : Nat} {ev : Env} {fw : W} {v : Value} {env : PySem.Env} {h₁ : Heap} (I : Inv X pins σ H s) (hr : HR X.K G H ρ h) (sr : SR X.K H ρ σ ev) (L : LamP X.env.scope scope x) (hN : X.N.Nodup) (hi : X.N[slot]? = some x) (hv : WV s.heap v fw)
    (e1 : env.scope = scope) (e2 : env.cells = cloFrom X.env.cells scope.names []) (e3 : env.globals = mainGlobals) (e4 : env.builtins = builtinsNs) (k : Kp s.heap h₁) (hn : h₁.Ns env.locals fun y => [(x, v)].lookup y) :
    PxOk X.K X.mg X.N env h₁ ((frzE h ev).set slot (some fw)) := by
  have hfree : ∀ y ∈ scope.names, y.2 = .free → ∃ c, X.env.cells.lookup y.1 = some c := fun y hy e => by
    rcases L.free y hy e with z | z
    · exact I.ok.has _ (.inl z)
    · exact I.ok.has _ (.inr z)
  refine ⟨I.kIn.keeps k, by rw [e1]; exact L.kind, by rw [e3]; exact (I.mod.glob.keeps I.bk).keeps k, ?_, fun i y w hy hw hvis => ?_⟩
  · obtain ⟨mb, h1, h2⟩ := I.mod.blt
    exact ⟨mb, by rw [e4]; exact (h1.keeps I.bk).keeps k, h2⟩
  · rw [e1] at hvis
    have hki : ∀ y, env.kindOf y = scope.names.lookup y := fun y => by show env.scope.names.lookup y = _; rw [e1]
    by_cases his : slot = i
    · subst his
      rw [hi] at hy
      cases hy
      have hw2 : w = fw := by
        by_cases hl : slot < (frzE h ev).length
        · rw [List.getElem?_set_self hl] at hw
          exact (Option.some.inj (Option.some.inj hw)).symm
        · rw [List.getElem?_eq_none (by simpa using hl)] at hw; cases hw
      subst hw2
      refine ⟨v, hv.mono k, .inl ⟨by rw [hki]; exact L.loc, _, hn, ?_⟩⟩
      simp [List.lookup]
    · rw [List.getElem?_set_ne his] at hw
      have hyx : y ≠ x := fun z => by
        subst z
        obtain ⟨h1, q1⟩ := List.getElem?_eq_some_iff.mp hi
        obtain ⟨h2, q2⟩ := List.getElem?_eq_some_iff.mp hy
        exact his ((List.getElem_inj hN).mp (q1.trans q2.symm))
      have hf : scope.names.lookup y = some .free := by
        rcases hvis with z | z | z
        · exact absurd (L.own y z) hyx
        · exact absurd rfl (L.cell _ (PySem.mem_of_lookup z))
        · exact z
      -- the frozen slot
      unfold frzE at hw
      rw [List.getElem?_map] at hw
      cases he : ev[i]? with
      | none => rw [he] at hw; cases hw
      | some ow =>
        rw [he] at hw
        cases ow with
        | none => simp at hw
        | some w0 =>
          have hw : frz h 6 w0 = some w := by simpa using hw
          obtain ⟨v0, hv0, r0⟩ := sr.at_ i w0 he
          have hX : Vis X.env.scope y := (L.free _ (PySem.mem_of_lookup hf) rfl).elim (fun z => .inr (.inl z)) fun z => .inr (.inr z)
          obtain ⟨m, hm, hl⟩ := I.loc
          obtain ⟨u, ru, q⟩ := hl i y v0 hy hv0 hX
          have hwv := frz_wv I hr 6 v0 u w0 w r0 ru hw
          refine ⟨u, hwv.mono k, .inr ⟨by rw [hki]; exact hf, ?_⟩⟩
          rcases q with ⟨z, _⟩ | ⟨_, c, hc, hcell⟩
          · have z : X.env.scope.names.lookup y = some .local := z
            rcases L.free _ (PySem.mem_of_lookup hf) rfl with z2 | z2 <;> rw [show X.env.scope.names.lookup y = _ from z2] at z <;> cases z
          · obtain ⟨c2, h2⟩ := mem_lookup (cloFrom_has (cells := X.env.cells) (acc := []) (PySem.mem_of_lookup hf))
            have e5 : c2 = c := by
              rcases cloFrom_mem (PySem.mem_of_lookup h2) with hm | ⟨h3, h4⟩
              · cases hm
              · rw [h4, hc] <;> rfl
            subst e5
            obtain ⟨oc, q1, q2⟩ := hcell
            exact ⟨c2, by rw [e2]; exact h2, oc, k _ _ q1, q2⟩
end
section
variable {G : Gx} {X : Cx} {e : Expr} {mit : M (List W)} {pos p kpos lpos : Pos}
theorem se_sortK {slot : Nat} {x : Str} {c P : Addr} {k : Nat} {params : Arguments} {body : Expr} {scope : Scope} {mkey : M W} (hi : SItems G X e mit) (hc : X.calm = true) (hr : Room k X.A) (hg : Gl X "sorted") (hm : X.mg "sorted" = none)
    (hN : X.N.Nodup) (hx : X.N[slot]? = some x) (TB : TabB X.base X.mg c P) (hcode : X.env.code = .ref c) (hmT : (P, X.env.qual ++ "<lambda>") ∈ G.T) (huT : ∀ p ∈ G.T, p.1 = P → p.2 = X.env.qual ++ "<lambda>") (L : LamP X.env.scope scope x) (hdef : defaultsOf params X.env = ([], []))
    (hbind : ∀ (q : Str) (cl : List (Str × Addr)) (pm cv ctv v : Value), bindArgs (PySem.W.kla_fn "<lambda>" q params body scope cl pm cv ctv) ⟨[v], []⟩ = pure [(x, v)]) (hk : SP X.K X.mg X.N scope body mkey)
    (hv : bootBuiltins "sorted" = some (.builtin "sorted") := by decide +kernel)
    (he : backTo pos (starEach [e] X.env) = (false, eval e X.env) :: backTo pos (starEach [] X.env) := by rfl) (hpl : (backTo pos (starEach [e] X.env)).any (·.1) = false := by rfl)
    (hall : (backToKw pos (keywordEach [⟨some "key", .Lambda params body scope lpos, kpos⟩] X.env)).all (·.1.isSome) = true := by rfl) (hnone : (backToKw pos (keywordEach [⟨some "key", .Lambda params body scope lpos, kpos⟩] X.env)).any (·.1.isNone) = false := by rfl) (hks : (backToKw pos (keywordEach [⟨some "key", .Lambda params body scope lpos, kpos⟩] X.env)).filterMap (·.1) = [Str.ofString "key"] := by rfl) :
    SE G X (.Call (.Name "sorted" p) [e] [⟨some "key", .Lambda params body scope lpos, kpos⟩] pos) (mSortK slot mit mkey) := fun Wx tk => by
  refine ⟨fun pins s σ H Q I h => ?_⟩
  refine wpAny_Call_Name_kw (ld_blt I hg hm hv ?_ (by decide) (by decide))
  have h2 := rd.bnd (Rel := ColRel X.K) (Q' := fun v H1 => ∃ ρ1 h1 ws ev, ColRel X.K H1 ρ1 v ws ∧ HR X.K G H1 ρ1 h1 ∧ SR X.K H1 ρ1 σ ev ∧ Post X.K G (fun cls d H' => Wx cls d σ H') (VRel X.K) Q H1 ρ1 (match mapO (keyOf h1 ev slot mkey) ws with
    | some ds => if kindOk (ds.map Prod.snd) = true then .ok (.ref h1.length) (h1 ++ [.lst (sortBy ws (ds.map Prod.snd))]) else .bad
    | none => .bad)) h fun H0 ρ0 e sr v H1 ρ1 h1 w x r q p1 => ⟨ρ1, h1, w, e, q, r, sr.mono x, p1⟩
  refine PyProof.Rows.callWith_kw ?_ he hpl hall hnone
  rw [he]
  refine Calls.spliced_cons (thn ((hi Wx tk).run pins s σ H _ I h2) fun u s1 ⟨v, H1, I1, rv, ρ1, h1, ws, ev, ⟨xs, cv, vx, hlen⟩, r1, sr1, p1⟩ => Calls.spliced_nil ?_)
  show wpAny _ _ (evalAll ((do let v ← eval (.Lambda params body scope lpos) X.env; standAt pos; pure v) :: (backToKw pos (keywordEach [] X.env)).map (·.2))) _ _ s1
  refine wpAny_evalAll_cons (wpAny_bind ?_)
  have hfree : ∀ y ∈ scope.names, y.2 = .free → ∃ c, X.env.cells.lookup y.1 = some c := fun y hy e => by
    rcases L.free y hy e with z | z
    · exact I1.ok.has _ (.inl z)
    · exact I1.ok.has _ (.inr z)
  refine lam_make2 I1 TB hcode hmT huT r1.tb hdef hfree fun f c' pm ctv H2 s2 I2 eN T2 hf hfn hfr hco => ?_
  refine wpAny_bind (wpAny_standAt (wpAny_pure (wpAny_evalAll_nil ?_)))
  rw [hks]
  show wpAny _ _ (call (.builtin "sorted") [u] [(Str.ofString "key", .ref f)]) _ _ _
  split at p1
  · rename_i ds hd
    split at p1
    · rename_i hko
      have x12 : Ext H1 ρ1 H2 ρ1 := ⟨fun b o e t _ => eN b o e (by intro ps z; subst z; cases t), List.prefix_rfl, fun _ a b => absurd a b, r1.mu, fun b o u e => eN b _ e (by intro ps z; cases z)⟩
      have r2 : HR X.K G H2 ρ1 h1 := ⟨r1.len, r1.nd, fun n a o e1 e2 => (r1.ob n a o e1 e2).mono x12 (by
        obtain ⟨u, hu, hm⟩ := (r1.ob n a o e1 e2).mut
        rw [hu]
        exact eN a u hu (by intro ps z; subst z; cases hm)), T2⟩
      have sr2 := sr1.mono x12
      have vx2 := VRs.mono x12 vx
      have cv2 := cv.ext eN
      have hlw : ws.length = ds.length := mapO_len hd
      have hlx : xs.length = ws.length := vx.length
      have rm := hr.un
      have rd := hr.dp
      obtain ⟨⟨oc, vs0, tq, hoc, hdc, hqc⟩, _, _⟩ := I2.hok c' _ hco
      refine sorted_collK (β := V × W × W × PyData) (Rel := fun u b => RelV b.1 u ∧ VR X.K H2 ρ1 b.1 b.2.1) (enc := fun b => b.2.2.2) (Ok := fun bs => bs = xs.zip (ws.zip ds)) (fun Q' E' hq => ?_) (fun bs ok => ?_) (fun bs v b s3 ok hb q k3 g3 o3 => ?_) fun s' out cc a bs ok k g o ha e1 er => ?_
      · refine colv_coll I2 rv cv2 (A := X.A.in1) (I2.ok.hd hc) Q' E' fun s' vs k g o r => hq s' vs k g o ⟨_, rfl, ?_⟩
        have hlv := r.length
        refine each_idx (by simp [List.length_zip]; omega) fun i a b h1 h2 => ?_
        obtain ⟨p1, p2⟩ := List.getElem?_zip_eq_some.mp h2
        obtain ⟨p3, p4⟩ := List.getElem?_zip_eq_some.mp p2
        obtain ⟨u', e1, e2⟩ := r.get p1
        rw [h1] at e1
        cases e1
        obtain ⟨v', e3, e4⟩ := vx2.get p3
        rw [p1] at e3
        cases e3
        exact ⟨e2, e4⟩
      · subst ok
        have em : (xs.zip (ws.zip ds)).map (fun b => b.2.2.2) = ds.map Prod.snd := by
          rw [show (fun b : V × W × W × PyData => b.2.2.2) = Prod.snd ∘ Prod.snd ∘ Prod.snd from rfl, ← List.map_map, ← List.map_map, List.map_snd_zip (by simp [List.length_zip]; omega), List.map_snd_zip (by omega)]
        rw [em]
        refine ⟨kindOk_alike hko, kindOk_sortable hko, by simp [List.length_zip]; have := small24; omega, fun b hb => ?_⟩
        have := kindOk_depth hko b.2.2.2 (by rw [← em]; exact List.mem_map_of_mem hb)
        omega
      · subst ok
        obtain ⟨i, hi2⟩ := List.getElem?_of_mem hb
        obtain ⟨p1, p2⟩ := List.getElem?_zip_eq_some.mp hi2
        obtain ⟨p3, p4⟩ := List.getElem?_zip_eq_some.mp p2
        obtain ⟨d, e5, e6⟩ := mapO_each hd i _ p3
        rw [p4] at e5
        cases e5
        unfold keyOf at e6
        split at e6
        · rename_i fw hfw
          split at e6
          · rename_i kw hh hkw
            cases hpd : pdat 7 kw with
            | none => rw [hpd] at e6; cases e6
            | some d =>
              rw [hpd] at e6
              have e7 : (fw, d) = b.2.2 := Option.some.inj e6
              rw [← e7]
              have hwv := frz_wv I2 r2 6 _ _ _ _ q.2 q.1 hfw
              have hz := hk.br _ _ _ hkw
              subst hz
              refine lam_call L (by show (X.A.in1.in1).depth < recursionLimit; have e8 : X.A.in1.in1.depth = X.A.depth := rfl; omega) (k3 _ _ hf) ⟨c', oc, vs0, tq, rfl, k3 _ _ hoc, hdc, hqc⟩ (I2.nolimit.keeps k3) (hbind _ _ _ _ _ _) fun env hh tk' e1 e2 e3 e4 kk hn => ?_
              have ok := lam_px I2 r2 sr2 L hN hx hwv e1 e2 e3 e4 (fun b o z => kk b o (k3 b o z)) hn
              refine wpAny_mono (hk.px X.prog X.w env hh _ _ e1 ok hkw _ _ _ (fun b o z => z)) (fun y s4 qq => ?_) fun _ _ e => e
              obtain ⟨qw, h4, tk4, rfl, kp4⟩ := qq
              exact ⟨h4, tk4, rfl, fun b o z => kp4 b o (kk b o z), pdat_reads 7 y kw d qw hpd⟩
          · cases e6
        · cases e6
      · subst ok
        have e3 : Vals (((xs.zip (ws.zip ds)).mergeSort (dataLe false fun b => b.2.2.2)).map Prod.fst) out := each_vals3 (er.mono fun _ _ q => q.1)
        have e4 : ((xs.zip (ws.zip ds)).mergeSort (dataLe false fun b => b.2.2.2)).map Prod.fst = sortBy xs (ds.map Prod.snd) := by
          unfold sortBy
          have ez : xs.zip (ds.map Prod.snd) = (xs.zip (ws.zip ds)).map fun b => (b.1, b.2.2.2) := by
            have : ds.map Prod.snd = (ws.zip ds).map fun b => b.2.2 := by
              rw [show (fun b : W × W × PyData => b.2.2) = Prod.snd ∘ Prod.snd from rfl, ← List.map_map, List.map_snd_zip (by omega)]
            rw [this, List.zip_map_right]
            rfl
          rw [ez, sort_map2 (fun b : V × W × W × PyData => b.2.2.2) Prod.fst, List.map_map]
          rfl
        rw [e4] at e3
        refine ⟨.ref a, _, inv_newList I2 k g o ha e1 e3 (by rw [sortBy_length (by rw [List.length_map]; omega)]; have := small24; omega), rfl, ?_⟩
        exact new_lst r2 (vrs_sortBy vx2) (Post.ext x12 p1) a (I2.hok.fresh ha)
    · exact p1.elim
  · exact p1.elim
end
end Den
set_option maxRecDepth 100000
set_option maxHeartbeats 2000000
/-! any, all, sum of a generator expression. -/
namespace Den
open PySem L2 PyProof.Rows PySem.W LamX
/-- u can be walked: n turns, Pf tells the items -/
structure Wk (P : Program) (w : World) (s1 : Shared) (u : Value) (n : Nat) (Pf : Nat → Value → Prop) : Prop where
  run : ∀ (A : Around) (Q : Value → Shared → Prop) (E : Value → Shared → Prop), A.handled = none →
    (∀ (o : Obj) (fp : List Addr) (St : Nat → Heap → Prop), (∀ A' : Around, A'.handled = none → Walks P w A' s1.heap.objs.size (s1.heap.objs.size :: fp) [s1.heap.objs.size] n Pf St) → St 0 (s1.heap.push o) →
      (∀ b ∈ fp, ∃ ob, s1.heap.get? b = some ob ∧ ∀ fs, ob.data ≠ .fields fs) → Q (.ref s1.heap.objs.size) { s1 with heap := s1.heap.push o }) → wpAny (model P w) A (pyIter u) Q E s1
section
variable {P : Program} {w : World} {s1 : Shared}
theorem wk_list {l : Addr} {vs : List Value} (hl : s1.heap.IsList l vs.toArray) : Wk P w s1 (.ref l) vs.length (fun i v => vs[i]? = some v) := ⟨fun A Q E hA h => by
  obtain ⟨ob, hob, hc, hx, m, hd⟩ := (show ∃ ob, s1.heap.get? l = some ob ∧ ob.cls = .type "list" ∧ True ∧ ∃ m, ob.data = .seq vs.toArray m from by
    obtain ⟨ob, hob, hc, m, hd⟩ := hl
    exact ⟨ob, hob, hc, trivial, m, hd⟩)
  have hne : l ≠ s1.heap.objs.size := Nat.ne_of_lt (Heap.lt_size hob)
  refine wpAny_pyIter_list hl (h _ [l] (fun i h => h.IsListIter s1.heap.objs.size l i ∧ h.IsList l vs.toArray) (fun A' hA' => ?_) ⟨⟨_, Heap.get?_push_size _ rfl, rfl, rfl⟩, ?_⟩ fun b hb => ?_)
  · have W := Walks.list (prog := P) (w := w) (A := A') hA' s1.heap.objs.size l hne vs.toArray
    have e : (fun (i : Nat) (v : Value) => vs.toArray[i]? = some v) = fun i v => vs[i]? = some v := by funext i v; simp
    rw [List.size_toArray, e] at W
    exact W
  · obtain ⟨o2, h2, r⟩ := hl
    exact ⟨o2, Heap.get?_push_of_some _ h2, r⟩
  · have : b = l := by simpa using hb
    rw [this]
    exact ⟨ob, hob, fun fs z => by rw [hd] at z; cases z⟩⟩
theorem wk_tup {l : Addr} {vs : List Value} (hl : IsTup s1.heap l vs.toArray) : Wk P w s1 (.ref l) vs.length (fun i v => vs[i]? = some v) := ⟨fun A Q E hA h => by
  obtain ⟨ob, hob, hc, m, hd⟩ := id hl
  have hne : l ≠ s1.heap.objs.size := Nat.ne_of_lt (Heap.lt_size hob)
  refine wpAny_pyIter_tuple (items := vs.toArray) hl (h _ [l] (fun i h => h.IsTupleIter s1.heap.objs.size l i ∧ h.IsTuple l vs.toArray) (fun A' hA' => ?_) ⟨⟨_, Heap.get?_push_size _ rfl, rfl, rfl⟩, ?_⟩ fun b hb => ?_)
  · have W := Walks.tuple (prog := P) (w := w) (A := A') hA' s1.heap.objs.size l hne vs.toArray
    have e : (fun (i : Nat) (v : Value) => vs.toArray[i]? = some v) = fun i v => vs[i]? = some v := by funext i v; simp
    rw [List.size_toArray, e] at W
    exact W
  · exact ⟨ob, Heap.get?_push_of_some _ hob, hc, m, hd⟩
  · have : b = l := by simpa using hb
    rw [this]
    exact ⟨ob, hob, fun fs z => by rw [hd] at z; cases z⟩⟩
theorem wk_rng {r : Addr} {lo hi : Int} (hr : ∃ t u v, s1.heap.get? r = some { cls := .type "range", data := .fields #[.int lo t, .int hi u, .int 1 v] }) (h1 : -(2 ^ 62) ≤ lo) (h0 : lo < 2 ^ 62) (h2 : -(2 ^ 62) ≤ hi) (h4 : hi < 2 ^ 62) :
    Wk P w s1 (.ref r) (hi - lo).toNat (fun i v => ∃ t, v = .int (lo + i) t) := ⟨fun A Q E hA h => by
  obtain ⟨t, u, v, hr⟩ := hr
  refine wpAny_pyIter_range (a := lo) (b := hi) (c := 1) (t := t) (u := u) (v := v) hr (PySem.small_one h1 h0 h2 h4) (h _ [] (fun i h => IsRangeIter h s1.heap.objs.size (lo + (i : Nat) * 1) (((hi - lo).toNat : Int) - (i : Nat)) 1) (fun A' hA' => ?_) ?_ fun b hb => by cases hb)
  · have W := Walks.range (prog := P) (w := w) (A := A') hA' s1.heap.objs.size lo 1 (hi - lo).toNat
    have e : (fun (i : Nat) (v : Value) => ∃ t, v = .int (lo + i * 1) t) = fun i v => ∃ t, v = .int (lo + i) t := by funext i v; rw [Int.mul_one]
    rw [e] at W
    exact W
  · refine (Heap.get?_push_size _ rfl).trans ?_
    rw [PyProof.Rows.rangeSize_nat]
    simp⟩
theorem wk_str {x : Str} {t : Tok} : Wk P w s1 (.str x t) x.cps.size (SignAt x) := ⟨fun A Q E hA h => wpAny_pyIter_str fun o St W st => h o [] St W st fun b hb => by cases hb⟩
end
/-! ### generators of plain elements -/
/-- the generator's own scope -/
structure GenP (sc scope : Scope) (x : Str) : Prop where
  kind : scope.kind = .function
  co : scope.isCoroutine = false
  cell : ∀ y ∈ scope.names, y.2 ≠ .cell
  dot : scope.names.lookup (".0" : Str) = some NameKind.local
  loc : scope.names.lookup x = some .local
  own : ∀ y, scope.names.lookup y = some .local → y = x ∨ y = ".0"
  free : ∀ y ∈ scope.names, y.2 = .free → sc.names.lookup y.1 = some .cell ∨ sc.names.lookup y.1 = some .free
def genPB (sc scope : Scope) (x : Str) : Bool :=
  decide (scope.kind = .function) && !scope.isCoroutine && decide (scope.names.lookup (".0" : Str) = some .local) && decide (scope.names.lookup x = some .local) &&
    scope.names.all fun y => !decide (y.2 = .cell) && (!decide (y.2 = .local) || decide (y.1 = x) || decide (y.1 = ".0")) && (!decide (y.2 = .free) || decide (sc.names.lookup y.1 = some .cell) || decide (sc.names.lookup y.1 = some .free))
theorem genP_by {sc scope : Scope} {x : Str} (h : genPB sc scope x = true) : GenP sc scope x := by
  unfold genPB at h
  simp only [Bool.and_eq_true, Bool.or_eq_true, Bool.not_eq_true', decide_eq_true_eq, decide_eq_false_iff_not, List.all_eq_true] at h
  obtain ⟨⟨⟨⟨h1, h2⟩, h3⟩, h4⟩, h5⟩ := h
  refine ⟨h1, h2, fun y hy => (h5 y hy).1.1, h3, h4, fun y hy => ?_, fun y hy e => ?_⟩
  · have hm := PySem.mem_of_lookup hy
    rcases (h5 _ hm).1.2 with (z | z) | z
    · exact absurd rfl z
    · exact .inl z
    · exact .inr z
  · rcases (h5 y hy).2 with (z | z) | z
    · exact absurd e z
    · exact .inl z
    · exact .inr z
/-- a scalar -/
def ScV (v : Value) : W → Prop
  | .bl b => v = .bool b
  | .int i => ∃ t, v = .int i t
  | _ => False
def isSc : W → Bool
  | .bl _ => true
  | .int _ => true
  | _ => false
theorem scv_of {h : Heap} {v : Value} {w : W} (e : isSc w = true) (x : WV h v w) : ScV v w := by
  cases w with
  | bl b => exact x.bl
  | int i => exact x.int
  | _ => cases e
/-- the elements -/
def eltOf (h : List O) (e : Env) (slot : Nat) (melt : M W) (w : W) : Option W := match frz h 6 w with
  | some fw => match melt ((frzE h e).set slot (some fw)) [] with
    | .ok z _ => if isSc z = true then some z else none
    | _ => none
  | none => none
/-- what is walked: its items -/
def GcV (K : PySem.W.Frag) (H : Hp) (v : V) (xs : List V) : Prop := ColV K H v xs ∨ ∃ z : List Nat, v = .str (mkS z) ∧ xs = z.map fun c => V.str (mkS [c])
theorem GcV.ext {K : PySem.W.Frag} {H H' : Hp} {v : V} {xs : List V} (c : GcV K H v xs) (e : ExtN H H') : GcV K H' v xs := c.imp (fun c => c.ext e) id
section
variable {X : Cx} {pins : List (Addr × Obj)} {σ : L2.St} {H : Hp} {s : Shared}
theorem gcv_wk (I : Inv X pins σ H s) {v : V} {u : Value} {xs : List V} (r : RelV v u) (c : GcV X.K H v xs) : ∃ Pf : Nat → Value → Prop, Wk X.prog X.w s u xs.length Pf ∧ ∀ i y, Pf i y → ∃ x, xs[i]? = some x ∧ RelV x y := by
  rcases c with ⟨a, rfl, c⟩ | ⟨z, rfl, rfl⟩
  · cases r
    rcases c with c | c | ⟨lo, hi, c, h1, h2, h3, h4, h5, rfl⟩
    · obtain ⟨its, rv, pl, hz⟩ := I.list c
      refine ⟨_, by rw [rv.length]; exact wk_list pl.isList, fun i y hy => ?_⟩
      have hl : i < xs.length := by rw [rv.length]; exact (List.getElem?_eq_some_iff.mp hy).1
      obtain ⟨u, e1, e2⟩ := rv.get (List.getElem?_eq_getElem hl)
      rw [hy] at e1
      cases e1
      exact ⟨_, List.getElem?_eq_getElem hl, e2⟩
    · obtain ⟨its, rv, pl, hz⟩ := I.tuple c
      refine ⟨_, by rw [rv.length]; exact wk_tup pl, fun i y hy => ?_⟩
      have hl : i < xs.length := by rw [rv.length]; exact (List.getElem?_eq_some_iff.mp hy).1
      obtain ⟨u, e1, e2⟩ := rv.get (List.getElem?_eq_getElem hl)
      rw [hy] at e1
      cases e1
      exact ⟨_, List.getElem?_eq_getElem hl, e2⟩
    · have hr := I.hok a _ c
      have W := wk_rng (P := X.prog) (w := X.w) (s1 := s) hr h1 h2 h3 h4
      have hlen : (rgVs lo hi).length = (hi - lo).toNat := by unfold rgVs; simp
      refine ⟨fun i v => i < (hi - lo).toNat ∧ ∃ t, v = .int (lo + i) t, ?_, fun i y ⟨hi', t, e⟩ => ⟨.int (lo + i), by unfold rgVs; rw [List.getElem?_map, List.getElem?_range hi']; rfl, t, e⟩⟩
      rw [hlen]
      refine ⟨fun A Q E hA h => W.run A Q E hA fun o fp St Wl st hfp => h o fp St (fun A' hA' => ?_) st hfp⟩
      have W1 := Wl A' hA'
      exact ⟨W1.sub, W1.frame, fun i s Q E hi st q => W1.item i s Q E hi st fun v h' tk p => q v h' tk ⟨hi, p⟩, W1.done, W1.self⟩
  · obtain ⟨t, rfl⟩ := r
    have hlen : (z.map fun c => V.str (mkS [c])).length = (mkS z).cps.size := by simp
    refine ⟨_, by rw [hlen]; exact wk_str, fun i y hy => ?_⟩
    obtain ⟨c, u, h1, h2⟩ := hy
    have h1 : z[i]? = some c := by simpa using h1
    exact ⟨.str (mkS [c]), by rw [List.getElem?_map, h1]; rfl, u, by rw [h2]⟩
end
/-- a generator at g whose elements zs are, in the state s5; H1: what was held before -/
def GReady (X : Cx) (pins : List (Addr × Obj)) (σ : L2.St) (T : List (Addr × Str)) (H1 : Hp) (zs : List W) (g : Addr) (s5 : Shared) : Prop :=
  ∃ (fp wr : List Addr) (Gs : Array GenState → Array GenState → Prop) (F : Nat → Value → Prop) (St : Nat → Shared → Prop),
    WalksS X.prog X.w X.A.in1 g fp wr Gs zs.length F St ∧ St 0 s5 ∧ (∀ b ∈ fp, b < s5.heap.objs.size) ∧ (∀ j v, F j v → ∃ z, zs[j]? = some z ∧ ScV v z) ∧
    ∀ s', Moved wr Gs s5 s' → ∃ H2, ExtN H1 H2 ∧ Tabs T H2 ∧ Inv X pins σ H2 s'
section
variable {X : Cx} {pins : List (Addr × Obj)} {σ : L2.St} {H1 : Hp} {s1 : Shared} {G : Gx}
/-- behind the making of the generator's code object: it was in the table, or it is new -/
theorem tab_fin {T : List (Addr × Str)} {P : Addr} {q : Str} {ps ps' : Array Value} (I1 : Inv X pins σ H1 s1) (hT : Tabs T H1) (hu : ∀ p ∈ T, p.1 = P → p.2 = q) (hP : H1 P = some (.tbl ps)) (ht : TriplesOk ps.toList)
    (ha : ∀ (pos : Pos) (cv : Value), codeAmong pos ps.toList = some cv → ∃ c, cv = .ref c ∧ H1 c = some (CodeO c q)) {h3 : Heap}
    (hps : ps' = ps ∨ ∃ (pos : Pos) (c' : Addr), ps' = ps ++ #[rawInt pos.line, rawInt pos.col, .ref c'] ∧ s1.heap.objs.size < c' ∧ c' < h3.objs.size ∧ h3.CodeRec (.ref c') q)
    {s' : Shared} (k : ∀ b o, b ≠ P → s1.heap.get? b = some o → s'.heap.get? b = some o) (hm : s'.heap.get? P = some { cls := .none, data := .fields ps' }) (k3 : ∀ b o, b < h3.objs.size → s1.heap.objs.size < b → h3.get? b = some o → s'.heap.get? b = some o) (hb : AllBare s'.gens) (ho : s'.os = s1.os) :
    ∃ H2, ExtN H1 H2 ∧ Tabs T H2 ∧ Inv X pins σ H2 s' := by
  rcases hps with e | ⟨pos, c', e, hgt, hlt, c2, oc, vs, t, e2, hoc, hd, hv⟩
  · refine ⟨H1, ExtN.refl H1, hT, ?_⟩
    have kp : Kp s1.heap s'.heap := fun b o z => by
      by_cases hbP : b = P
      · have h1 := I1.hok P _ hP
        have h1 : s1.heap.get? P = some { cls := .none, data := .fields ps } := h1
        rw [hbP, h1] at z
        cases z
        rw [hbP, hm, e]
      · exact k b o hbP z
    exact I1.call' (ch := []) ho (Un.kept kp) (I1.hok.kept kp) hb fun b z => absurd z (by simp)
  · cases e2
    have hge := Nat.le_of_lt hgt
    have nC : H1 c' = none := I1.hok.fresh hge
    have hPl : P < s1.heap.objs.size := I1.hok.lt hP
    have hcP : c' ≠ P := Nat.ne_of_gt (Nat.lt_of_lt_of_le hPl hge)
    have hoc' := k3 c' oc hlt hgt hoc
    have I2 := inv_table (h' := s'.heap) (t' := s'.toks) (c := c') (q := q) (more := #[rawInt pos.line, rawInt pos.col, .ref c']) I1 hP k (by rw [← e]; exact hm) hge ⟨oc, vs, t, hoc', hd, hv⟩
    have hE : ExtN H1 (upd (upd H1 P (.tbl (ps ++ #[rawInt pos.line, rawInt pos.col, .ref c']))) c' (CodeO c' q)) := fun b o e n => by
      rw [upd_ne (ne_of_none e nC), upd_ne (fun z => n ps (Option.some.inj (e.symm.trans (by rw [z]; exact hP))))]
      exact e
    have eL : (ps ++ #[rawInt pos.line, rawInt pos.col, .ref c']).toList = ps.toList ++ [rawInt pos.line, rawInt pos.col, .ref c'] := by simp
    refine ⟨_, hE, fun p hp => ?_, I2.call' (ch := []) ho (Un.kept fun _ _ z => z) (I2.hok.kept fun _ _ z => z) hb fun b z => absurd z (by simp)⟩
    by_cases hb2 : p.1 = P
    · rw [hu p hp hb2, hb2]
      refine ⟨_, by rw [upd_ne (ne_of_none hP nC), upd_same], by rw [eL]; exact PySem.TriplesOk_snoc _ _ _ _ ht, fun p' cv hcv => ?_⟩
      rw [eL] at hcv
      rcases among_app _ ht hcv with z | z
      · obtain ⟨c0, e1, e2⟩ := ha p' cv z
        exact ⟨c0, e1, hE _ _ e2 codeO_ne⟩
      · exact ⟨c', z, upd_same⟩
    · obtain ⟨ps', a1, a2, a3⟩ := hT p hp
      refine ⟨ps', by rw [upd_ne (ne_of_none a1 nC), upd_ne hb2]; exact a1, a2, fun p' cv hcv => ?_⟩
      obtain ⟨c0, e1, e2⟩ := a3 p' cv hcv
      exact ⟨c0, e1, hE _ _ e2 codeO_ne⟩
end
section
variable {X : Cx} {pins : List (Addr × Obj)} {σ : L2.St} {H : Hp} {s : Shared} {G : Gx}
/-- the frozen frame of the generator -/
theorem gen_pxok {scope : Scope} {x : Str} {slot : Nat} {ev : Env} {fw : W} {v : Value} {env : PySem.Env} {h₁ : Heap} {m : Str → Option Value} {ρ : List Addr} {h : List O} (I : Inv X pins σ H s) (hr : HR X.K G H ρ h) (sr : SR X.K H ρ σ ev) (L : GenP X.env.scope scope x) (hN : X.N.Nodup) (hi : X.N[slot]? = some x) (hd : (".0" : Str) ∉ X.N) (hv : WV h₁ v fw)
    (e1 : env.scope = scope) (e2 : env.cells = cloFrom X.env.cells scope.names []) (e3 : env.globals = mainGlobals) (e4 : env.builtins = builtinsNs) (k : ∀ b o, H b = none → s.heap.get? b = some o → h₁.get? b = some o) (hwm : ∀ u w, WV s.heap u w → WV h₁ u w) (hn : h₁.Ns env.locals m) (hm : m x = some v) :
    PxOk X.K X.mg X.N env h₁ ((frzE h ev).set slot (some fw)) := by
  have kb : ∀ b o, X.base.get? b = some o → h₁.get? b = some o := fun b o e => k b o (I.bs b o e).2 (I.bs b o e).1
  refine ⟨I.ok.mod.kin.keeps kb, by rw [e1]; exact L.kind, by rw [e3]; exact I.mod.glob.keeps kb, ?_, fun i y w hy hw hvis => ?_⟩
  · obtain ⟨mb, h1, h2⟩ := I.mod.blt
    exact ⟨mb, by rw [e4]; exact h1.keeps kb, h2⟩
  · rw [e1] at hvis
    have hki : ∀ y, env.kindOf y = scope.names.lookup y := fun y => by show env.scope.names.lookup y = _; rw [e1]
    by_cases his : slot = i
    · subst his
      rw [hi] at hy
      cases hy
      have hw2 : w = fw := by
        by_cases hl : slot < (frzE h ev).length
        · rw [List.getElem?_set_self hl] at hw
          exact (Option.some.inj (Option.some.inj hw)).symm
        · rw [List.getElem?_eq_none (by simpa using hl)] at hw; cases hw
      subst hw2
      exact ⟨v, hv, .inl ⟨by rw [hki]; exact L.loc, _, hn, hm⟩⟩
    · rw [List.getElem?_set_ne his] at hw
      have hyx : y ≠ x := fun z => by
        subst z
        obtain ⟨h1, q1⟩ := List.getElem?_eq_some_iff.mp hi
        obtain ⟨h2, q2⟩ := List.getElem?_eq_some_iff.mp hy
        exact his ((List.getElem_inj hN).mp (q1.trans q2.symm))
      have hyd : y ≠ (".0" : Str) := fun z => hd (by rw [← z]; exact List.mem_of_getElem? hy)
      have hf : scope.names.lookup y = some .free := by
        rcases hvis with z | z | z
        · rcases L.own y z with z | z
          · exact absurd z hyx
          · exact absurd z hyd
        · exact absurd rfl (L.cell _ (PySem.mem_of_lookup z))
        · exact z
      unfold frzE at hw
      rw [List.getElem?_map] at hw
      cases he : ev[i]? with
      | none => rw [he] at hw; cases hw
      | some ow =>
        rw [he] at hw
        cases ow with
        | none => simp at hw
        | some w0 =>
          have hw : frz h 6 w0 = some w := by simpa using hw
          obtain ⟨v0, hv0, r0⟩ := sr.at_ i w0 he
          have hX : Vis X.env.scope y := (L.free _ (PySem.mem_of_lookup hf) rfl).elim (fun z => .inr (.inl z)) fun z => .inr (.inr z)
          obtain ⟨m, hm, hl⟩ := I.loc
          obtain ⟨u, ru, q⟩ := hl i y v0 hy hv0 hX
          have hwv := frz_wv I hr 6 v0 u w0 w r0 ru hw
          refine ⟨u, hwm u w hwv, .inr ⟨by rw [hki]; exact hf, ?_⟩⟩
          rcases q with ⟨z, _⟩ | ⟨_, c, hc, hcell⟩
          · have z : X.env.scope.names.lookup y = some .local := z
            rcases L.free _ (PySem.mem_of_lookup hf) rfl with z2 | z2 <;> rw [show X.env.scope.names.lookup y = _ from z2] at z <;> cases z
          · obtain ⟨c2, h2⟩ := mem_lookup (cloFrom_has (cells := X.env.cells) (acc := []) (PySem.mem_of_lookup hf))
            have e5 : c2 = c := by
              rcases cloFrom_mem (PySem.mem_of_lookup h2) with hm | ⟨h3, h4⟩
              · cases hm
              · rw [h4, hc] <;> rfl
            subst e5
            obtain ⟨oc, q1, q2⟩ := hcell
            exact ⟨c2, by rw [e2]; exact h2, oc, k _ _ (I.freeC y c2 hc) q1, q2⟩
mutual
theorem WV.tab {P : Addr} {h h' : Heap} (k : ∀ b o, b ≠ P → h.get? b = some o → h'.get? b = some o) (hP : ∀ o, h.get? P = some o → ∃ fs, o.data = .fields fs) : ∀ {v : Value} {w : W}, WV h v w → WV h' v w
  | v, .non, x => x
  | v, .bl _, x => x
  | v, .int _, x => x
  | v, .str _, x => x
  | v, .tup xs, x => by
    unfold WV at x ⊢
    obtain ⟨a, vs, e, ⟨o, p, c, n, q⟩, z, r⟩ := x
    have hne : a ≠ P := fun z => by
      subst z
      obtain ⟨fs, h1⟩ := hP o p
      rw [h1] at q; cases q
    exact ⟨a, vs, e, ⟨o, k _ _ hne p, c, n, q⟩, z, WVs.tab k hP r⟩
  | v, .rol xs, x => by
    unfold WV at x ⊢
    obtain ⟨a, vs, e, ⟨o, p, c, n, q⟩, z, r⟩ := x
    have hne : a ≠ P := fun z => by
      subst z
      obtain ⟨fs, h1⟩ := hP o p
      rw [h1] at q; cases q
    exact ⟨a, vs, e, ⟨o, k _ _ hne p, c, n, q⟩, z, WVs.tab k hP r⟩
  | v, .ref n, x => x
theorem WVs.tab {P : Addr} {h h' : Heap} (k : ∀ b o, b ≠ P → h.get? b = some o → h'.get? b = some o) (hP : ∀ o, h.get? P = some o → ∃ fs, o.data = .fields fs) : ∀ {v : List Value} {w : List W}, WVs h v w → WVs h' v w
  | v, [], x => x
  | v, w :: ws, x => by
    unfold WVs at x ⊢
    obtain ⟨u, r, e, p, q⟩ := x
    exact ⟨u, r, e, WV.tab k hP p, WVs.tab k hP q⟩
end
theorem gen_px {c P : Addr} {elt iter : Expr} {x : Str} {px gpos : Pos} {scope : Scope} {slot k : Nat} {te : TE} {melt : M W} {Q' : Value → Shared → Prop} {R : List W → Hp → Prop}
    (hr : Room k X.A) (TB : TabB X.base X.mg c P) (hcode : X.env.code = .ref c) (hmT : (P, X.env.qual ++ "<genexpr>") ∈ G.T) (huT : ∀ p ∈ G.T, p.1 = P → p.2 = X.env.qual ++ "<genexpr>") (L : GenP X.env.scope scope x) (hN : X.N.Nodup) (hx : X.N[slot]? = some x) (hd : (".0" : Str) ∉ X.N)
    (hi : PE X iter te) (hel : SP X.K X.mg X.N scope elt melt) (hs : ∀ v, genFold iter X.env v = pure v) (I : Inv X pins σ H s)
    (h : te σ H fun v H1 => ∃ ρ1 h1 ev ws zs xs, GcV X.K H1 v xs ∧ VRs X.K H1 ρ1 xs ws ∧ HR X.K G H1 ρ1 h1 ∧ SR X.K H1 ρ1 σ ev ∧ mapO (eltOf h1 ev slot melt) ws = some zs ∧ R zs H1)
    (hQ : ∀ zs H1 g s5, R zs H1 → GReady X pins σ G.T H1 zs g s5 → Q' (.ref g) s5) :
    wpAny (model X.prog X.w) X.A (eval (.GeneratorExp elt [⟨.Name x px, iter, [], 0⟩] scope gpos) X.env) Q' X.xe s := by
  have hfree : ∀ y ∈ scope.names, y.2 = .free → ∃ c, X.env.cells.lookup y.1 = some c := fun y hy e => by
    rcases L.free y hy e with z | z
    · exact I.ok.has _ (.inl z)
    · exact I.ok.has _ (.inr z)
  refine wpAny_GeneratorExp_walksQ hr.hd L.co (closure_ok hfree) L.cell L.dot L.loc L.kind (by have := hr.dp; omega) ?_ hs
  refine thn (hi.run pins s σ H _ I h) fun xv s1 ⟨v, H1, I1, r1, ρ1, h1, ev, ws, zs, xs, gc, vx, hr1, sr1, hzs, q1⟩ => ?_
  obtain ⟨Pf, wk, hPf⟩ := gcv_wk I1 r1 gc
  have hlx : xs.length = ws.length := vx.length
  have hlz : ws.length = zs.length := mapO_len hzs
  refine wk.run _ _ _ hr.hd fun o fp St W hst hfp => ?_
  obtain ⟨ps, hP, ht, ha⟩ := hr1.tb _ hmT
  have hPs : s1.heap.get? P = some { cls := .none, data := .fields ps } := I1.hok P _ hP
  have hPlt : P < s1.heap.objs.size := Heap.lt_size hPs
  have hP2 : (s1.heap.push o).get? P = some { cls := .none, data := .fields ps } := Heap.get?_push_of_some _ hPs
  have cd : PySem.W.CodeHd (s1.heap.push o) c P := TB.code.keeps fun b u e => Heap.get?_push_of_some _ (I1.bk b u e)
  have lim2 : (s1.heap.push o).NoLimit := I1.nolimit.push o
  have hfpP : ∀ b ∈ fp, b ≠ P := fun b hb z => by
    obtain ⟨ob, h1, h2⟩ := hfp b hb
    rw [z, hPs] at h1
    cases h1
    exact h2 _ rfl
  have hfpl : ∀ b ∈ fp, b < s1.heap.objs.size := fun b hb => by
    obtain ⟨ob, h1, h2⟩ := hfp b hb
    exact Heap.lt_size h1
  have cont : ∀ (code : Value) (h3 : Heap) (tk : Nat) (ps' : Array Value), Heap.ExtBut P (s1.heap.push o) h3 → (s1.heap.push o).objs.size ≤ h3.objs.size → h3.get? P = some { cls := .none, data := .fields ps' } →
      (ps' = ps ∨ ∃ (pos : Pos) (c' : Addr), ps' = ps ++ #[rawInt pos.line, rawInt pos.col, .ref c'] ∧ s1.heap.objs.size < c' ∧ c' < h3.objs.size ∧ h3.CodeRec (.ref c') (X.env.qual ++ "<genexpr>")) →
      wpAny (model X.prog X.w) X.A (builtinsFor X.env.globals X.env.builtins) (fun bi s₄ =>
        ∃ Ia fp wr n₀ Pf St₀ pz F, Value.ref s1.heap.objs.size = .ref Ia ∧ (∀ A' : Around, A'.handled = none → Walks X.prog X.w A' Ia fp wr n₀ Pf St₀) ∧ St₀ 0 s₄.heap ∧ (∀ b ∈ fp, b < s₄.heap.objs.size) ∧ s₄.heap.NoLimit ∧ cStatics ∉ wr ∧
          (∀ href : Heap, (∀ b o, s₄.heap.get? b = some o → href.get? b = some o) →
            QuietGen X.prog X.w (genEnv scope (cloFrom X.env.cells scope.names []) s₄.heap.objs.size code bi X.env) x [] elt (List.range s₄.heap.objs.size) wr Pf pz F href) ∧
          (∀ a h₅ tk gs, gs.bare = true → s₄.heap.objs.size < a → h₅.objs.size = a + 1 → (∀ b o, s₄.heap.get? b = some o → h₅.get? b = some o) →
            WalksS X.prog X.w X.A.in4 a (a :: s₄.heap.objs.size :: List.range s₄.heap.objs.size) (s₄.heap.objs.size :: wr) (GenOnlyQ s₄.gens.size) (passing pz n₀ 0).length
              (fun j y => ∃ i, (passing pz n₀ 0)[j]? = some i ∧ F i y) (GenAt X.prog X.w X.A.in4 a s₄.gens.size s₄.heap.objs.size (List.range s₄.heap.objs.size) wr pz n₀ F) →
            GenAt X.prog X.w X.A.in4 a s₄.gens.size s₄.heap.objs.size (List.range s₄.heap.objs.size) wr pz n₀ F 0 { s₄ with gens := s₄.gens.push gs, toks := tk, heap := h₅ } →
            Q' (.ref a) { s₄ with gens := s₄.gens.push gs, toks := tk, heap := h₅ })) X.xe { s1 with heap := h3, toks := tk } := by
    intro code h3 tk ps' hx3 hsz hP3 hps
    obtain ⟨bm, ob, e1, e2, e3, e4, e5, e6, e7, e8⟩ := TB.bm
    have hcP : cStatics ≠ P := fun e => by
      obtain ⟨_, hns, _⟩ := I1.nolimit
      obtain ⟨o', es, ep, ho, hd, _⟩ := hns
      rw [e, hPs] at ho
      cases ho
      cases hd
    have hcl : cStatics < s1.heap.objs.size := let ⟨_, hns, _⟩ := I1.nolimit; hns.lt
    have sz2 : (s1.heap.push o).objs.size = s1.heap.objs.size + 1 := Heap.size_push ..
    have keep3 : ∀ b u, b ≠ P → s1.heap.get? b = some u → h3.get? b = some u := fun b u hb e => hx3 b u hb (Heap.get?_push_of_some _ e)
    refine wpAny_builtinsFor (m := X.mg) (by rw [I1.ok.glob]; exact ((I1.mod.glob.keeps I1.bk).push o).extBut hx3 TB.gP) e1 e2 (keep3 _ _ e4 (I1.bk _ _ e5)) e6 e7 e8 ?_
    refine ⟨s1.heap.objs.size, s1.heap.objs.size :: fp, [s1.heap.objs.size], xs.length, Pf, St, (fun _ => true), (fun i y => ∃ z, zs[i]? = some z ∧ ScV y z), rfl, W, ?_, ?_, lim2.extBut hx3 hcP, ?_, ?_, ?_⟩
    · refine (W X.A hr.hd).frame _ _ _ hst fun b hb u e => hx3 b u (fun z => ?_) e
      rcases List.mem_cons.mp hb with z2 | z2
      · exact Nat.ne_of_lt hPlt (z.symm.trans z2)
      · exact hfpP b z2 z
    · intro b hb
      rcases List.mem_cons.mp hb with z | z
      · rw [z]
        show s1.heap.objs.size < h3.objs.size
        omega
      · have := hfpl b z
        show b < h3.objs.size
        exact Nat.lt_of_lt_of_le this (by omega)
    · intro z
      rcases List.mem_cons.mp z with z | z
      · exact Nat.ne_of_lt hcl z
      · cases z
    · intro href hhref
      refine ⟨fun A' E' i v s₂ m₂ hA hPv hn hm hk => ?_, fun A' E' i v s₂ m₂ hA hPv hp hn hm hk => ?_⟩
      · simp only [List.forIn_nil]
        exact wpAny_pure ⟨rfl, keeps_rfl _⟩
      · obtain ⟨xi, hxi, rxi⟩ := hPf i v hPv
        have hil : i < ws.length := by rw [← hlx]; exact (List.getElem?_eq_some_iff.mp hxi).1
        obtain ⟨v2, hv2, rv2⟩ := vx.get (List.getElem?_eq_getElem hil)
        rw [hxi] at hv2
        cases hv2
        obtain ⟨z, hz1, hz2⟩ := mapO_each hzs i _ (List.getElem?_eq_getElem hil)
        unfold eltOf at hz2
        split at hz2
        · rename_i fw hfw
          split at hz2
          · rename_i z' hh hz3
            split at hz2
            · rename_i hsc
              have ezz : z' = z := Option.some.inj hz2
              subst ezz
              have hbz := hel.br _ _ _ hz3
              subst hbz
              -- what the element's frame sees
              have kS2 : ∀ b u, b ≠ P → s1.heap.get? b = some u → s₂.heap.get? b = some u := fun b u hb e => by
                have hb3 := keep3 b u hb e
                have hlt3 : b < h3.objs.size := Heap.lt_size hb3
                refine hk b (List.mem_range.mpr hlt3) (fun z => ?_) u (hhref b u hb3)
                have z : b = s1.heap.objs.size := by simpa using z
                exact Nat.ne_of_lt (Heap.lt_size e) z
              have hwm : ∀ u w, WV s1.heap u w → WV s₂.heap u w := fun u w q => WV.tab kS2 (fun o2 e => by
                rw [hPs] at e
                cases e
                exact ⟨_, rfl⟩) q
              have hwv := frz_wv I1 hr1 6 _ _ _ _ rv2 rxi hfw
              have ok := gen_pxok (env := genEnv scope (cloFrom X.env.cells scope.names []) h3.objs.size code builtinsNs X.env) (m := m₂) I1 hr1 sr1 L hN hx hd (hwm _ _ hwv) rfl rfl I1.ok.glob rfl (fun b o2 hb e => kS2 b o2 (fun z => by rw [z, hP] at hb; cases hb) e) hwm hn hm
              exact wpAny_mono (hel.px X.prog X.w _ s₂.heap _ _ rfl ok hz3 A' E' s₂ (fun b o z => z)) (fun y s3 r => ⟨⟨z', hz1, scv_of hsc r.1⟩, r.2⟩) fun _ _ e => e
            · cases hz2
          · cases hz2
        · cases hz2
    · intro g h5 tk5 gs hgb hag hsz5 hk5 W5 hat
      simp only [GxR.passing_true, List.length_range] at W5
      have hn5 : xs.length = zs.length := by omega
      rw [hn5] at W5 hat
      refine hQ zs H1 g _ q1 ⟨_, _, _, _, _, W5.in4_1, hat, ?_, ?_, fun s' hm => ?_⟩
      · intro b hb
        show b < h5.objs.size
        have e5 : h5.objs.size = g + 1 := hsz5
        have h8 : h3.objs.size < g := hag
        rw [e5]
        rcases List.mem_cons.mp hb with z | z
        · rw [z]
          exact Nat.lt_succ_self g
        · rcases List.mem_cons.mp z with z | z
          · rw [z]
            exact Nat.lt_succ_of_lt h8
          · have z2 := List.mem_range.mp z
            have h7 : b < h3.objs.size := z2
            exact Nat.lt_succ_of_lt (Nat.lt_trans h7 h8)
      · intro j y hy
        obtain ⟨i, hij, z, hz, e⟩ := hy
        obtain ⟨hj, ej⟩ := List.getElem?_eq_some_iff.mp hij
        simp only [GxR.passing_true, List.getElem_range] at ej
        subst ej
        exact ⟨z, hz, e⟩
      · have nwr : ∀ b u, s1.heap.get? b = some u → b ∉ h3.objs.size :: [s1.heap.objs.size] := fun b u e hb => by
          have hl := Heap.lt_size e
          rcases List.mem_cons.mp hb with z | z
          · rw [z] at hl
            have h9 : (h3.objs.size : Nat) < s1.heap.objs.size := hl
            omega
          · rcases List.mem_cons.mp z with z | z
            · rw [z] at hl
              exact Nat.lt_irrefl _ hl
            · cases z
        refine tab_fin (h3 := h3) (s' := s') I1 hr1.tb huT hP ht ha hps (fun b u hb e => hm.heap b u (nwr b u e) (hk5 b u (keep3 b u hb e))) (hm.heap P _ (nwr P _ hPs) (hk5 P _ hP3)) (fun b o2 hl hg e => hm.heap b o2 (fun z => ?_) (hk5 b o2 e)) (AllBare.movedS (I1.bare.push hgb) hm) hm.os
        rcases List.mem_cons.mp z with z | z
        · rw [z] at hl
          exact Nat.lt_irrefl _ hl
        · rcases List.mem_cons.mp z with z | z
          · rw [z] at hg
            exact Nat.lt_irrefl _ hg
          · cases z
  refine ⟨lim2, ?_⟩
  have sz2 : (s1.heap.push o).objs.size = s1.heap.objs.size + 1 := Heap.size_push ..
  cases hf : codeAmong gpos ps.toList with
  | none =>
    refine wpAny_genexprCodeX hcode (cd.code hP2 ht) (cd.tab hP2) hf fun c' h' tk hx hge hlt hco' hrec htab' _ => ?_
    have hgt : s1.heap.objs.size < c' := Nat.lt_of_lt_of_le (by show s1.heap.objs.size < (s1.heap.push o).objs.size; omega) hge
    exact cont _ h' tk _ hx (Nat.le_trans hge (Nat.le_of_lt hlt)) htab'.2 (.inr ⟨gpos, c', rfl, hgt, hlt, hrec⟩)
  | some cv =>
    refine wpAny_genexprCode_hit hcode (cd.code hP2 ht) hf ?_
    exact cont cv (s1.heap.push o) s1.toks ps (Heap.ExtBut.refl _ _) (Nat.le_refl _) hP2 (.inl rfl)
end
/-! ### any, all, sum -/
abbrev GcRel (K : PySem.W.Frag) : Hp → List Addr → V → List W → Prop := fun H ρ v ws => ∃ xs, GcV K H v xs ∧ VRs K H ρ xs ws
def SGen (G : Gx) (X : Cx) (e : Expr) (m : M (List W)) : Prop := ∀ Wx, Takes X Wx → PE X e (rd X.K G Wx (GcRel X.K) m)
/-- the items of a value that may be a text -/
def mGItems (m : M W) : M (List W) := fun e h => (m e h).bnd fun w h => match w with
  | .str s => .ok (s.map fun c => .str [c]) h
  | w => match sqA w h with
    | some xs => .ok xs h
    | none => .bad
def bools : List W → Option (List Bool)
  | [] => some []
  | .bl b :: r => (bools r).map (b :: ·)
  | _ :: _ => none
def mGenB (any : Bool) (slot : Nat) (mit : M (List W)) (melt : M W) : M W := fun e h => (mit e h).bnd fun ws h => match mapO (eltOf h e slot melt) ws with
  | some zs => match bools zs with
    | some bs => .ok (.bl (if any = true then bs.any id else bs.all id)) h
    | none => .bad
  | none => .bad
def mGenSum (slot : Nat) (mit : M (List W)) (melt : M W) : M W := fun e h => (mit e h).bnd fun ws h => match mapO (eltOf h e slot melt) ws with
  | some zs => match intsOf zs with
    | some is => .ok (.int is.sum) h
    | none => .bad
  | none => .bad
section
variable {G : Gx} {X : Cx} {e : Expr} {m : M W} {mit : M (List W)} {pos p : Pos}
theorem sg_seq (he : SE G X e m) : SGen G X e (mGItems m) := fun Wx tk => (he Wx tk).imp fun σ H Q p => rd.bnd (Rel := VRel X.K) p fun H0 ρ0 e sr x H1 ρ1 h1 wx x1 r1 vx p1 => by
  split at p1
  · rename_i s
    rw [vx.str]
    refine p1 ρ1 H1 _ (Ext.refl r1) r1 ⟨_, .inr ⟨s, rfl, rfl⟩, ?_⟩
    clear p1 vx
    induction s with
    | nil => exact .nil
    | cons c s ih => exact .cons vr_str ih
  · split at p1
    · rename_i xs hx
      obtain ⟨a, vs, rfl, q, z⟩ := sqA_ok r1 vx hx
      refine p1 ρ1 H1 _ (Ext.refl r1) r1 ⟨vs, .inl ⟨a, rfl, ?_⟩, z⟩
      rcases q with q | q
      · exact .inl q
      · exact .inr (.inl q)
    · exact p1.elim
theorem sg_items (he : SItems G X e mit) : SGen G X e mit := fun Wx tk => (he Wx tk).imp fun σ H Q p => by
  obtain ⟨ρ, e, h, hr, sr, p⟩ := p
  refine ⟨ρ, e, h, hr, sr, ?_⟩
  cases hm : mit e h with
  | ok ws h' =>
    rw [hm] at p
    exact fun ρ' H' v x r ⟨xs, c, q, _⟩ => p ρ' H' v x r ⟨xs, .inl c, q⟩
  | exc c q h' => rw [hm] at p; exact p
  | bad => rw [hm] at p; exact p
theorem bools_get : ∀ {zs : List W} {bs : List Bool}, bools zs = some bs → zs.length = bs.length ∧ ∀ (i : Nat) (b : W), zs[i]? = some b → ∃ c, bs[i]? = some c ∧ b = W.bl c
  | [], bs, e => by cases e; exact ⟨rfl, fun i b h => by simp at h⟩
  | .bl b :: r, bs, e => by
    unfold bools at e
    cases hr : bools r with
    | none => rw [hr] at e; cases e
    | some cs =>
      rw [hr] at e
      cases e
      obtain ⟨h1, h2⟩ := bools_get hr
      refine ⟨by simp [h1], fun i b' h => ?_⟩
      cases i with
      | zero =>
        have : W.bl b = b' := by simpa using h
        exact ⟨b, rfl, this.symm⟩
      | succ i =>
        obtain ⟨c, q1, q2⟩ := h2 i b' (by simpa using h)
        exact ⟨c, by simpa using q1, q2⟩
  | .non :: r, bs, e => by cases e
  | .int _ :: r, bs, e => by cases e
  | .str _ :: r, bs, e => by cases e
  | .tup _ :: r, bs, e => by cases e
  | .rol _ :: r, bs, e => by cases e
  | .ref _ :: r, bs, e => by cases e
theorem ints_get : ∀ {zs : List W} {bs : List Int}, intsOf zs = some bs → zs.length = bs.length ∧ ∀ (i : Nat) (b : W), zs[i]? = some b → ∃ c, bs[i]? = some c ∧ b = W.int c
  | [], bs, e => by cases e; exact ⟨rfl, fun i b h => by simp at h⟩
  | .int b :: r, bs, e => by
    unfold intsOf at e
    cases hr : intsOf r with
    | none => rw [hr] at e; cases e
    | some cs =>
      rw [hr] at e
      cases e
      obtain ⟨h1, h2⟩ := ints_get hr
      refine ⟨by simp [h1], fun i b' h => ?_⟩
      cases i with
      | zero =>
        have : W.int b = b' := by simpa using h
        exact ⟨b, rfl, this.symm⟩
      | succ i =>
        obtain ⟨c, q1, q2⟩ := h2 i b' (by simpa using h)
        exact ⟨c, by simpa using q1, q2⟩
  | .non :: r, bs, e => by cases e
  | .bl _ :: r, bs, e => by cases e
  | .str _ :: r, bs, e => by cases e
  | .tup _ :: r, bs, e => by cases e
  | .rol _ :: r, bs, e => by cases e
  | .ref _ :: r, bs, e => by cases e
theorem range_any (bs : List Bool) : (List.range bs.length).any (fun i => bs.getD i false) = bs.any id := by
  rw [Bool.eq_iff_iff, List.any_eq_true, List.any_eq_true]
  constructor
  · rintro ⟨i, hi, h⟩
    have hi := List.mem_range.mp hi
    rw [List.getD_eq_getElem?_getD, List.getElem?_eq_getElem hi] at h
    exact ⟨bs[i], List.getElem_mem hi, h⟩
  · rintro ⟨b, hb, h⟩
    obtain ⟨i, hi, e⟩ := List.getElem_of_mem hb
    refine ⟨i, List.mem_range.mpr hi, ?_⟩
    rw [List.getD_eq_getElem?_getD, List.getElem?_eq_getElem hi, e]
    exact h
theorem range_all (bs : List Bool) : (List.range bs.length).all (fun i => bs.getD i false) = bs.all id := by
  rw [Bool.eq_iff_iff, List.all_eq_true, List.all_eq_true]
  constructor
  · intro h b hb
    obtain ⟨i, hi, e⟩ := List.getElem_of_mem hb
    have := h i (List.mem_range.mpr hi)
    rw [List.getD_eq_getElem?_getD, List.getElem?_eq_getElem hi, e] at this
    exact this
  · intro h i hi
    have hi := List.mem_range.mp hi
    rw [List.getD_eq_getElem?_getD, List.getElem?_eq_getElem hi]
    exact h _ (List.getElem_mem hi)
theorem preSum_sum (l : List Int) : preSum (fun i => l.getD i 0) l.length = l.sum := by
  have key : ∀ (l : List Int) (n : Nat), n ≤ l.length → preSum (fun i => l.getD i 0) n = (l.take n).sum := by
    intro l n
    induction n with
    | zero => intro _; simp [preSum]
    | succ n ih =>
      intro hn
      have hn2 : n < l.length := hn
      rw [List.take_add_one, List.getElem?_eq_getElem hn2, List.sum_append]
      show preSum _ n + _ = _
      rw [ih (by omega)]
      show _ + l.getD n 0 = _
      rw [List.getD_eq_getElem?_getD, List.getElem?_eq_getElem hn2]
      simp
  rw [key l l.length (Nat.le_refl _), List.take_length]
theorem se_genB {any : Bool} {nm : Str} {c P : Addr} {elt iter : Expr} {x : Str} {px gpos : Pos} {scope : Scope} {slot k : Nat} {melt : M W} (hn : (any = true ∧ nm = "any") ∨ (any = false ∧ nm = "all"))
    (hi : SGen G X iter mit) (hr : Room k X.A) (hg : Gl X nm) (hm : X.mg nm = none) (hN : X.N.Nodup) (hx : X.N[slot]? = some x) (hd : (".0" : Str) ∉ X.N) (TB : TabB X.base X.mg c P) (hcode : X.env.code = .ref c) (hmT : (P, X.env.qual ++ "<genexpr>") ∈ G.T) (huT : ∀ p ∈ G.T, p.1 = P → p.2 = X.env.qual ++ "<genexpr>")
    (L : GenP X.env.scope scope x) (hel : SP X.K X.mg X.N scope elt melt) (hs : ∀ v, genFold iter X.env v = pure v := by intro _; rfl)
    (he : starEach [.GeneratorExp elt [⟨.Name x px, iter, [], 0⟩] scope gpos] X.env = (false, eval (.GeneratorExp elt [⟨.Name x px, iter, [], 0⟩] scope gpos) X.env) :: starEach [] X.env := by rfl) :
    SE G X (.Call (.Name nm p) [.GeneratorExp elt [⟨.Name x px, iter, [], 0⟩] scope gpos] [] pos) (mGenB any slot mit melt) := fun Wx tk => by
  refine ⟨fun pins s σ H Q I h => ?_⟩
  have hv : bootBuiltins nm = some (.builtin (if any = true then "any" else "all")) := by
    rcases hn with ⟨rfl, rfl⟩ | ⟨rfl, rfl⟩
    · exact boot_any
    · decide +kernel
  have hnn : nm ≠ "__name__" := by rcases hn with ⟨_, rfl⟩ | ⟨_, rfl⟩ <;> decide
  have hnd : (nm == ("__debug__" : Str)) = false := by rcases hn with ⟨_, rfl⟩ | ⟨_, rfl⟩ <;> decide
  refine wpAny_Call_Name_kw (ld_blt I hg hm hv ?_ hnn hnd)
  refine PyProof.Rows.callWith_builtin1 ?_ he (by rfl)
  rw [he]
  have h2 := rd.bnd (Rel := GcRel X.K) (Q' := fun v H1 => ∃ ρ1 h1 ev ws zs xs, GcV X.K H1 v xs ∧ VRs X.K H1 ρ1 xs ws ∧ HR X.K G H1 ρ1 h1 ∧ SR X.K H1 ρ1 σ ev ∧ mapO (eltOf h1 ev slot melt) ws = some zs ∧
      ∃ bs, bools zs = some bs ∧ ∀ H2, ExtN H1 H2 → Tabs G.T H2 → Q (.bl (if any = true then bs.any id else bs.all id)) H2) h fun H0 ρ0 e sr v H1 ρ1 h1 w x r q p1 => by
    obtain ⟨xs, gc, vx⟩ := q
    split at p1
    · rename_i zs hz
      split at p1
      · rename_i bs hb
        refine ⟨ρ1, h1, e, w, zs, xs, gc, vx, r, sr.mono x, hz, bs, hb, fun H2 eN T2 => ?_⟩
        have x12 : Ext H1 ρ1 H2 ρ1 := ⟨fun b o e t _ => eN b o e (by intro ps z; subst z; cases t), List.prefix_rfl, fun _ a b => absurd a b, r.mu, fun b o u e => eN b _ e (by intro ps z; cases z)⟩
        have r2 : HR X.K G H2 ρ1 h1 := ⟨r.len, r.nd, fun n a o e1 e2 => (r.ob n a o e1 e2).mono x12 (by
          obtain ⟨u, hu, hm⟩ := (r.ob n a o e1 e2).mut
          rw [hu]
          exact eN a u hu (by intro ps z; subst z; cases hm)), T2⟩
        exact p1 ρ1 H2 _ x12 r2 vr_bl
      · exact p1.elim
    · exact p1.elim
  show wpAny _ _ (spliced ((false, eval (.GeneratorExp elt [⟨.Name x px, iter, [], 0⟩] scope gpos) X.env) :: backTo pos (starEach [] X.env))) _ _ s
  refine Calls.spliced_cons (gen_px (G := G) (R := fun zs H1 => ∃ bs, bools zs = some bs ∧ ∀ H2, ExtN H1 H2 → Tabs G.T H2 → Q (.bl (if any = true then bs.any id else bs.all id)) H2) hr TB hcode hmT huT L hN hx hd (hi Wx tk) hel hs I h2 fun zs H1 g s5 hR hG => ?_)
  obtain ⟨fp, wr, Gs, F, St, W, hst, _, hF, hI⟩ := hG
  obtain ⟨bs, hb, hq⟩ := hR
  obtain ⟨hlen, hget⟩ := bools_get hb
  have htr : TruthOf X.prog X.w X.A.in1 F (fun i => bs.getD i false) := fun i y sj Qj Ej hy hQj => by
    obtain ⟨z, hz, sc⟩ := hF i y hy
    obtain ⟨c, hc, rfl⟩ := hget i z hz
    have e : y = .bool c := sc
    rw [e]
    refine wpAny_truthy_bool ?_
    have hQj : Qj (bs.getD i false) sj := hQj
    rw [List.getD_eq_getElem?_getD, hc] at hQj
    exact hQj
  refine Calls.spliced_nil ?_
  rcases hn with ⟨rfl, rfl⟩ | ⟨rfl, rfl⟩
  · refine call_any_walkS (W.self 0 _ _ _ hst ⟨g, fp, wr, Gs, _, F, St, _, rfl, W, hst, htr, fun s' hmv => ?_⟩)
    obtain ⟨H2, eN, T2, J⟩ := hI s' hmv
    refine ⟨.bl _, H2, J, rfl, ?_⟩
    rw [hlen, range_any]
    exact hq H2 eN T2
  · refine call_all_walkS (W.self 0 _ _ _ hst ⟨g, fp, wr, Gs, _, F, St, _, rfl, W, hst, htr, fun s' hmv => ?_⟩)
    obtain ⟨H2, eN, T2, J⟩ := hI s' hmv
    refine ⟨.bl _, H2, J, rfl, ?_⟩
    rw [hlen, range_all]
    exact hq H2 eN T2
theorem se_genSum {c P : Addr} {elt iter : Expr} {x : Str} {px gpos : Pos} {scope : Scope} {slot k : Nat} {melt : M W}
    (hi : SGen G X iter mit) (hr : Room k X.A) (hg : Gl X "sum") (hm : X.mg "sum" = none) (hN : X.N.Nodup) (hx : X.N[slot]? = some x) (hd : (".0" : Str) ∉ X.N) (TB : TabB X.base X.mg c P) (hcode : X.env.code = .ref c) (hmT : (P, X.env.qual ++ "<genexpr>") ∈ G.T) (huT : ∀ p ∈ G.T, p.1 = P → p.2 = X.env.qual ++ "<genexpr>")
    (L : GenP X.env.scope scope x) (hel : SP X.K X.mg X.N scope elt melt) (hs : ∀ v, genFold iter X.env v = pure v := by intro _; rfl)
    (hv : bootBuiltins "sum" = some (.builtin "sum") := by decide +kernel)
    (he : starEach [.GeneratorExp elt [⟨.Name x px, iter, [], 0⟩] scope gpos] X.env = (false, eval (.GeneratorExp elt [⟨.Name x px, iter, [], 0⟩] scope gpos) X.env) :: starEach [] X.env := by rfl) :
    SE G X (.Call (.Name "sum" p) [.GeneratorExp elt [⟨.Name x px, iter, [], 0⟩] scope gpos] [] pos) (mGenSum slot mit melt) := fun Wx tk => by
  refine ⟨fun pins s σ H Q I h => ?_⟩
  refine wpAny_Call_Name_kw (ld_blt I hg hm hv ?_ (by decide) (by decide))
  refine PyProof.Rows.callWith_builtin1 ?_ he (by rfl)
  rw [he]
  have h2 := rd.bnd (Rel := GcRel X.K) (Q' := fun v H1 => ∃ ρ1 h1 ev ws zs xs, GcV X.K H1 v xs ∧ VRs X.K H1 ρ1 xs ws ∧ HR X.K G H1 ρ1 h1 ∧ SR X.K H1 ρ1 σ ev ∧ mapO (eltOf h1 ev slot melt) ws = some zs ∧
      ∃ bs, intsOf zs = some bs ∧ ∀ H2, ExtN H1 H2 → Tabs G.T H2 → Q (.int bs.sum) H2) h fun H0 ρ0 e sr v H1 ρ1 h1 w x r q p1 => by
    obtain ⟨xs, gc, vx⟩ := q
    split at p1
    · rename_i zs hz
      split at p1
      · rename_i bs hb
        refine ⟨ρ1, h1, e, w, zs, xs, gc, vx, r, sr.mono x, hz, bs, hb, fun H2 eN T2 => ?_⟩
        have x12 : Ext H1 ρ1 H2 ρ1 := ⟨fun b o e t _ => eN b o e (by intro ps z; subst z; cases t), List.prefix_rfl, fun _ a b => absurd a b, r.mu, fun b o u e => eN b _ e (by intro ps z; cases z)⟩
        have r2 : HR X.K G H2 ρ1 h1 := ⟨r.len, r.nd, fun n a o e1 e2 => (r.ob n a o e1 e2).mono x12 (by
          obtain ⟨u, hu, hm⟩ := (r.ob n a o e1 e2).mut
          rw [hu]
          exact eN a u hu (by intro ps z; subst z; cases hm)), T2⟩
        exact p1 ρ1 H2 _ x12 r2 vr_int
      · exact p1.elim
    · exact p1.elim
  show wpAny _ _ (spliced ((false, eval (.GeneratorExp elt [⟨.Name x px, iter, [], 0⟩] scope gpos) X.env) :: backTo pos (starEach [] X.env))) _ _ s
  refine Calls.spliced_cons (gen_px (G := G) (R := fun zs H1 => ∃ bs, intsOf zs = some bs ∧ ∀ H2, ExtN H1 H2 → Tabs G.T H2 → Q (.int bs.sum) H2) hr TB hcode hmT huT L hN hx hd (hi Wx tk) hel hs I h2 fun zs H1 g s5 hR hG => ?_)
  obtain ⟨fp, wr, Gs, F, St, W, hst, hfp, hF, hI⟩ := hG
  obtain ⟨bs, hb, hq⟩ := hR
  obtain ⟨hlen, hget⟩ := ints_get hb
  refine Calls.spliced_nil ?_
  refine call_sum_walkAnyS (W.self 0 _ _ _ hst ⟨g, fp, wr, Gs, _, F, St, (fun i => bs.getD i 0), rfl, W, hst, hfp, fun i y hy => ?_, fun s' t' hmv => ?_⟩)
  · obtain ⟨z, hz, sc⟩ := hF i y hy
    obtain ⟨c, hc, rfl⟩ := hget i z hz
    obtain ⟨t, e⟩ := (show ∃ t, y = .int c t from sc)
    refine ⟨t, ?_⟩
    show y = .int (bs.getD i 0) t
    rw [e, List.getD_eq_getElem?_getD, hc]
    rfl
  · obtain ⟨H2, eN, T2, J⟩ := hI s' hmv
    refine ⟨.int bs.sum, H2, J, ⟨t', ?_⟩, hq H2 eN T2⟩
    rw [hlen, preSum_sum]
end
end Den
set_option maxRecDepth 100000
set_option maxHeartbeats 1000000
/-! Dicts with int and text keys. -/
namespace Den
open PySem L2 PyProof.Rows
def wKey : W → Option Key
  | .int i => some (.inl i)
  | .str s => some (.inr (mkS s))
  | _ => none
def keyB : W → W → Bool
  | .int i, .int j => i == j
  | .str a, .str b => a == b
  | _, _ => false
def valW : List (W × W) → W → Option W
  | [], _ => none
  | (k', v) :: r, k => if keyB k' k = true then some v else valW r k
def putGo : List (W × W) → W → W → List (W × W)
  | [], _, _ => []
  | (k', x) :: r, k, v => (if keyB k' k = true then (k', v) else (k', x)) :: putGo r k v
def putW (kvs : List (W × W)) (k v : W) : List (W × W) := if (valW kvs k).isSome = true then putGo kvs k v else kvs ++ [(k, v)]
def dropW : List (W × W) → W → List (W × W)
  | [], _ => []
  | (k', x) :: r, k => if keyB k' k = true then dropW r k else (k', x) :: dropW r k
/-- a dict's pairs, locked or not -/
def dicR (h : List O) (n : Nat) : Option (List (W × W)) := match h[n]? with
  | some (.dic x) => some x
  | some (.dik x) => some x
  | _ => none
section
variable {K : PySem.W.Frag} {G : Gx} {H : Hp} {ρ : List Addr} {h : List O} {v : V} {k w : W} {q : Key} {kvs : List (W × W)} {ps : List (Key × V)}
theorem key_vr (r : VR K H ρ (kV q) k) : wKey k = some q := by
  cases k with
  | int i =>
    have e := r.int
    cases q with
    | inl j => cases e; rfl
    | inr x => cases e
  | str s =>
    have e := r.str
    cases q with
    | inl j => cases e
    | inr x => cases e; rfl
  | non => have e := r.non; cases q <;> cases e
  | bl b => have e := r.bl; cases q <;> cases e
  | tup xs => obtain ⟨a, vs, e, _⟩ := sqT_ok (xs := xs) r rfl; cases q <;> cases e
  | rol xs => unfold VR at r; obtain ⟨a, vs, e, _⟩ := r; cases q <;> cases e
  | ref n => obtain ⟨a, e, _⟩ := r.ref; cases q <;> cases e
theorem vr_key (e : wKey k = some q) (r : VR K H ρ v k) : v = kV q := by
  cases k with
  | int i => cases e; exact r.int
  | str s => cases e; exact r.str
  | _ => cases e
theorem keyB_iff {k' : W} {q' : Key} (e : wKey k = some q) (e' : wKey k' = some q') : keyB k' k = decide (q' = q) := by
  cases k with
  | int i =>
    cases e
    cases k' with
    | int j => cases e'; show (j == i) = _; by_cases z : j = i <;> simp [z]
    | str t => cases e'; rfl
    | _ => cases e'
  | str s =>
    cases e
    cases k' with
    | int j => cases e'; rfl
    | str t =>
      cases e'
      show (t == s) = _
      by_cases z : t = s
      · subst z; simp
      · have : ¬ (Sum.inr (mkS t) : Key) = Sum.inr (mkS s) := fun y => z (by have := congrArg (fun z : Str => z.cps.toList) (Sum.inr.inj y); simpa using this)
        rw [decide_eq_false this, beq_eq_false_iff_ne.mpr z]
    | _ => cases e'
  | _ => cases e
theorem val_some : ∀ {ps : List (Key × V)} {kvs : List (W × W)}, KRs K H ρ ps kvs → wKey k = some q → valW kvs k = some w → ∃ v, valV ps q = some v ∧ VR K H ρ v w
  | ps, [], r, e, z => by cases z
  | ps, (k', x) :: kvs, r, e, z => by
    unfold KRs at r
    obtain ⟨q', v, r', rfl, h1, h2, h3⟩ := r
    have hk := keyB_iff e (key_vr h1)
    unfold valW at z
    by_cases hq : q' = q
    · rw [hk, decide_eq_true hq, if_pos rfl] at z
      cases z
      exact ⟨v, valV_pos hq, h2⟩
    · rw [hk, decide_eq_false hq, if_neg (by decide)] at z
      rw [valV_neg hq]
      exact val_some h3 e z
theorem val_none : ∀ {ps : List (Key × V)} {kvs : List (W × W)}, KRs K H ρ ps kvs → wKey k = some q → valW kvs k = none → valV ps q = none
  | ps, [], r, e, z => by unfold KRs at r; rw [r]; rfl
  | ps, (k', x) :: kvs, r, e, z => by
    unfold KRs at r
    obtain ⟨q', v, r', rfl, h1, h2, h3⟩ := r
    have hk := keyB_iff e (key_vr h1)
    unfold valW at z
    by_cases hq : q' = q
    · rw [hk, decide_eq_true hq, if_pos rfl] at z
      cases z
    · rw [hk, decide_eq_false hq, if_neg (by decide)] at z
      rw [valV_neg hq]
      exact val_none h3 e z
theorem val_is (r : KRs K H ρ ps kvs) (e : wKey k = some q) : (valV ps q).isSome = (valW kvs k).isSome := by
  cases z : valW kvs k with
  | none => rw [val_none r e z] <;> rfl
  | some w =>
    obtain ⟨v, h1, _⟩ := val_some r e z
    rw [h1]
    rfl
theorem putGo_kr {x : V} {xw : W} (rx : VR K H ρ x xw) (e : wKey k = some q) : ∀ {ps : List (Key × V)} {kvs : List (W × W)}, KRs K H ρ ps kvs → KRs K H ρ (ps.map fun kv => if kv.1 = q then (kv.1, x) else kv) (putGo kvs k xw)
  | ps, [], r => by unfold KRs at r; rw [r]; unfold putGo KRs; rfl
  | ps, (k', y) :: kvs, r => by
    unfold KRs at r
    obtain ⟨q', v, r', rfl, h1, h2, h3⟩ := r
    have hk := keyB_iff e (key_vr h1)
    rw [List.map_cons]
    unfold putGo
    by_cases hq : q' = q
    · rw [hk, decide_eq_true hq, if_pos (show (q', v).1 = q from hq), if_pos rfl]
      unfold KRs
      exact ⟨q', x, _, rfl, h1, rx, putGo_kr rx e h3⟩
    · rw [hk, decide_eq_false hq, if_neg (show ¬ (q', v).1 = q from hq), if_neg Bool.false_ne_true]
      unfold KRs
      exact ⟨q', v, _, rfl, h1, h2, putGo_kr rx e h3⟩
theorem KRs.snoc {x : V} {xw : W} {kk : W} (rk : VR K H ρ (kV q) kk) (rx : VR K H ρ x xw) : ∀ {ps : List (Key × V)} {kvs : List (W × W)}, KRs K H ρ ps kvs → KRs K H ρ (ps ++ [(q, x)]) (kvs ++ [(kk, xw)])
  | ps, [], r => by
    unfold KRs at r
    rw [r]
    show KRs K H ρ [(q, x)] [(kk, xw)]
    unfold KRs
    exact ⟨q, x, [], rfl, rk, rx, by unfold KRs; rfl⟩
  | ps, (k', y) :: kvs, r => by
    unfold KRs at r
    obtain ⟨q', v, r', rfl, h1, h2, h3⟩ := r
    show KRs K H ρ ((q', v) :: (r' ++ [(q, x)])) ((k', y) :: (kvs ++ [(kk, xw)]))
    unfold KRs
    exact ⟨q', v, _, rfl, h1, h2, KRs.snoc rk rx h3⟩
theorem put_kr {x : V} {xw : W} (r : KRs K H ρ ps kvs) (e : wKey k = some q) (rk : VR K H ρ (kV q) k) (rx : VR K H ρ x xw) : KRs K H ρ (putK ps q x) (putW kvs k xw) := by
  unfold putK putW
  rw [valV_any, val_is r e]
  split
  · exact putGo_kr rx e r
  · exact KRs.snoc rk rx r
theorem drop_kr (e : wKey k = some q) : ∀ {ps : List (Key × V)} {kvs : List (W × W)}, KRs K H ρ ps kvs → KRs K H ρ (dropK ps q) (dropW kvs k)
  | ps, [], r => by unfold KRs at r; rw [r]; unfold dropK dropW KRs; rfl
  | ps, (k', y) :: kvs, r => by
    unfold KRs at r
    obtain ⟨q', v, r', rfl, h1, h2, h3⟩ := r
    have hk := keyB_iff e (key_vr h1)
    have ih := drop_kr e h3
    unfold dropK at ih ⊢
    unfold dropW
    by_cases hq : q' = q
    · rw [hk, decide_eq_true hq, if_pos rfl, List.filter_cons_of_neg (by simp [hq])]
      exact ih
    · rw [hk, decide_eq_false hq, if_neg (by decide), List.filter_cons_of_pos (by simp [hq])]
      unfold KRs
      exact ⟨q', v, _, rfl, h1, h2, ih⟩
theorem dicR_ok {n : Nat} {a : Addr} (hr : HR K G H ρ h) (ea : ρ[n]? = some a) (e : dicR h n = some kvs) : ∃ ps, Rd H a (.dK ps) ∧ KRs K H ρ ps kvs := by
  unfold dicR at e
  split at e
  · rename_i x hx
    cases e
    obtain ⟨ps, q, z⟩ := hr.look ea hx
    exact ⟨ps, .inl q, z⟩
  · rename_i x hx
    cases e
    obtain ⟨o, ps, q, z⟩ := hr.look ea hx
    exact ⟨ps, .inr ⟨o, q⟩, z⟩
  · cases e
/-- reading at a key -/
theorem dget_some {n : Nat} {a : Addr} (hr : HR K G H ρ h) (ea : ρ[n]? = some a) (e : dicR h n = some kvs) (rk : VR K H ρ v k) (ek : wKey k = some q) (ew : valW kvs k = some w) : ∃ x, DGet H a v (some x) ∧ VR K H ρ x w := by
  obtain ⟨ps, rd, kr⟩ := dicR_ok hr ea e
  obtain ⟨x, h1, h2⟩ := val_some kr ek ew
  exact ⟨x, .inl ⟨ps, q, rd, vr_key ek rk, h1.symm⟩, h2⟩
theorem dget_none {n : Nat} {a : Addr} (hr : HR K G H ρ h) (ea : ρ[n]? = some a) (e : dicR h n = some kvs) (rk : VR K H ρ v k) (ek : wKey k = some q) (ew : valW kvs k = none) : DGet H a v none := by
  obtain ⟨ps, rd, kr⟩ := dicR_ok hr ea e
  exact .inl ⟨ps, q, rd, vr_key ek rk, (val_none kr ek ew).symm⟩
end
/-! ### {} -/
def mDict0 : M W := fun _ h => .ok (.ref h.length) (h ++ [.dic []])
section
variable {G : Gx} {X : Cx} {pos : Pos}
theorem KRs.nil {K : PySem.W.Frag} {H : Hp} {ρ : List Addr} : KRs K H ρ [] [] := by unfold KRs; rfl
theorem se_dict0 : SE G X (.Dict [] [] pos) mDict0 := fun Wx tk => pe_dnewK.imp fun σ H Q p => fun t ht => by
  obtain ⟨ρ, e, h, hr, sr, p⟩ := p
  obtain ⟨r1, x1⟩ := hr.new (o := .dK []) (u := .dic []) ht rfl fun x => ⟨[], upd_same, .nil⟩
  refine p _ _ _ x1 r1 ?_
  show VR X.K _ _ _ (.ref h.length)
  unfold VR
  exact ⟨t, rfl, hr.last⟩
/-! ### d[k] -/
def oDget (x y : W) (h : List O) : Out W := match x with
  | .ref n => match dicR h n with
    | some kvs => match wKey y with
      | some _ => match valW kvs y with
        | some w => .ok w h
        | none => .bad
      | none => .bad
    | none => .bad
  | _ => .bad
def rDget : R2 := fun x y H Q => ∃ a v, x = .ref a ∧ DGet H a y (some v) ∧ Q v H
theorem ix_dict (hu : X.A.units + 1 < cLine) : IxR X rDget := by
  intro value slice pins s σ H x y v u Q I rx ry h hs
  obtain ⟨a, w, rfl, g, q⟩ := h
  cases rx
  exact tail_any (dict_typeIs I g) PySem.F.slot_dict_getitem.lookup (d_getItem hu I g ry fun w' s' I' rw' => ⟨w, H, I', rw', q⟩) hs
theorem get_dict (hu : X.A.units + 1 < cLine) : PGet X rDget := by
  intro pins s σ H o i ov iv Q I ro ri h
  obtain ⟨a, w, rfl, g, q⟩ := h
  cases ro
  exact d_getItem hu I g ri fun w' s' I' rw' => ⟨w, H, I', rw', q⟩
theorem dget_serves {K : PySem.W.Frag} : Serves2 K G oDget rDget := fun E H ρ h x y wx wy Q hr rx ry p => by
  unfold oDget at p
  split at p
  · rename_i n
    obtain ⟨a, rfl, ea⟩ := rx.ref
    split at p
    · rename_i kvs hk
      split at p
      · rename_i q hq
        split at p
        · rename_i w hw
          obtain ⟨v, g, rv⟩ := dget_some hr ea hk ry hq hw
          exact ⟨a, v, rfl, g, p.here hr rv⟩
        · exact p.elim
      · exact p.elim
    · exact p.elim
  · exact p.elim
/-- x[i]: dicts too -/
def oIxD (x y : W) (h : List O) : Out W := match x with
  | .ref n => match dicR h n with
    | some _ => oDget x y h
    | none => oIx x y h
  | _ => oIx x y h
theorem se_ixD {a b : Expr} {ma mb : M W} (hu : X.A.units + 1 < cLine) (ha : SE G X a ma) (hb : SE G X b mb) (hs : PlainIx b := by exact fun _ _ => rfl) : SE G X (.Subscript a b pos) (mOp oIxD ma mb) := fun Wx tk =>
  (pe_ix (IxR.or ix_seq (ix_dict hu)) (ha Wx tk) (hb Wx tk) hs).imp fun σ H Q p => rd_op (fun E H ρ h x y wx wy Q hr rx ry p => by
    unfold oIxD at p
    split at p
    · split at p
      · exact .inr (dget_serves E H ρ h x y _ wy Q hr rx ry p)
      · exact .inl (ix_serves E H ρ h x y _ wy Q hr rx ry p)
    · exact .inl (ix_serves E H ρ h x y _ wy Q hr rx ry p)) p
/-! ### k in d -/
def oInD (x y : W) (h : List O) : Out W := match y with
  | .ref n => match dicR h n with
    | some kvs => match wKey x with
      | some _ => .ok (.bl (valW kvs x).isSome) h
      | none => .bad
    | none => oIn x y h
  | _ => oIn x y h
def oNotInD (x y : W) (h : List O) : Out W := match y with
  | .ref n => match dicR h n with
    | some kvs => match wKey x with
      | some _ => .ok (.bl (!(valW kvs x).isSome)) h
      | none => .bad
    | none => oNotIn x y h
  | _ => oNotIn x y h
theorem op_din (hu : X.A.units + 1 < cLine) : OpR X (compareOp .In) (fun y x H Q => ∃ a o, x = .ref a ∧ DGet H a y o ∧ Q (.bl o.isSome) H) := by
  intro pins s σ H x y v u Q I rx ry h
  obtain ⟨a, o, rfl, g, q⟩ := h
  cases ry
  exact d_in hu I g rx fun s' I' => ⟨.bl _, H, I', rfl, q⟩
theorem op_dnin (hu : X.A.units + 1 < cLine) : OpR X (compareOp .NotIn) (fun y x H Q => ∃ a o, x = .ref a ∧ DGet H a y o ∧ Q (.bl (!o.isSome)) H) := by
  intro pins s σ H x y v u Q I rx ry h
  obtain ⟨a, o, rfl, g, q⟩ := h
  cases ry
  exact d_notIn hu I g rx fun s' I' => ⟨.bl _, H, I', rfl, q⟩
theorem ops_inD (hu : X.A.units + 65 < cLine) : OpS G X (compareOp .In) oInD := by
  obtain ⟨r, ho, s⟩ := ops_in (G := G) hu
  refine ⟨_, OpR.or ho (op_din (by omega)), fun E H ρ h x y wx wy Q hr rx ry p => ?_⟩
  unfold oInD at p
  split at p
  · rename_i n
    split at p
    · rename_i kvs hk
      obtain ⟨a, rfl, ea⟩ := ry.ref
      split at p
      · rename_i q hq
        refine .inr ?_
        cases hw : valW kvs wx with
        | none => exact ⟨a, none, rfl, dget_none hr ea hk rx hq hw, by rw [hw] at p; exact p.here hr vr_bl⟩
        | some w =>
          obtain ⟨v, g, rv⟩ := dget_some hr ea hk rx hq hw
          exact ⟨a, some v, rfl, g, by rw [hw] at p; exact p.here hr vr_bl⟩
      · exact p.elim
    · exact .inl (s E H ρ h x y wx _ Q hr rx ry p)
  · exact .inl (s E H ρ h x y wx _ Q hr rx ry p)
theorem ops_notinD (hu : X.A.units + 65 < cLine) : OpS G X (compareOp .NotIn) oNotInD := by
  obtain ⟨r, ho, s⟩ := ops_notin (G := G) hu
  refine ⟨_, OpR.or ho (op_dnin (by omega)), fun E H ρ h x y wx wy Q hr rx ry p => ?_⟩
  unfold oNotInD at p
  split at p
  · rename_i n
    split at p
    · rename_i kvs hk
      obtain ⟨a, rfl, ea⟩ := ry.ref
      split at p
      · rename_i q hq
        refine .inr ?_
        cases hw : valW kvs wx with
        | none => exact ⟨a, none, rfl, dget_none hr ea hk rx hq hw, by rw [hw] at p; exact p.here hr vr_bl⟩
        | some w =>
          obtain ⟨v, g, rv⟩ := dget_some hr ea hk rx hq hw
          exact ⟨a, some v, rfl, g, by rw [hw] at p; exact p.here hr vr_bl⟩
      · exact p.elim
    · exact .inl (s E H ρ h x y wx _ Q hr rx ry p)
  · exact .inl (s E H ρ h x y wx _ Q hr rx ry p)
/-! ### d[k] = v -/
def oSetD (o i v : W) (h : List O) : Out Unit := match o with
  | .ref n => match dicAt h n with
    | some kvs => match wKey i with
      | some _ => if kvs.length < lim then .ok () (h.set n (.dic (putW kvs i v))) else .bad
      | none => .bad
    | none => oSet o i v h
  | _ => oSet o i v h
theorem set_dict (hu : X.A.units + 1 < cLine) : PSet X (fun o i v H Q => ∃ a H', o = .ref a ∧ DPut H a i v H' ∧ Q H') := by
  intro pins s σ H o i v ov iv u Q I ro ri rv h
  obtain ⟨a, H', rfl, g, q⟩ := h
  cases ro
  exact d_setItem hu I g ri rv fun s' I' => ⟨H', I', q⟩
theorem _root_.L2.PSet.or {t t' : TSet} (p : PSet X t) (p' : PSet X t') : PSet X (fun o i v H Q => t o i v H Q ∨ t' o i v H Q) := by
  intro pins s σ H o i v ov iv u Q I ro ri rv h
  rcases h with h | h
  · exact p pins s σ H o i v ov iv u Q I ro ri rv h
  · exact p' pins s σ H o i v ov iv u Q I ro ri rv h
theorem _root_.L2.PGet.or {t t' : V → V → Hp → VK → Prop} (p : PGet X t) (p' : PGet X t') : PGet X (fun o i H Q => t o i H Q ∨ t' o i H Q) := by
  intro pins s σ H o i ov iv Q I ro ri h
  rcases h with h | h
  · exact p pins s σ H o i ov iv Q I ro ri h
  · exact p' pins s σ H o i ov iv Q I ro ri h
theorem put_post {K : PySem.W.Frag} {E : XK} {H : Hp} {ρ : List Addr} {h : List O} {n : Nat} {a : Addr} {kvs : List (W × W)} {q : Key} {y x : V} {wy wx : W} {Q : Hp → Prop} (hr : HR K G H ρ h) (ea : ρ[n]? = some a) (hd : dicAt h n = some kvs) (ry : VR K H ρ y wy) (rx : VR K H ρ x wx) (hq : wKey wy = some q)
    (hl : kvs.length < lim) (p : Post K G E URel (fun _ H' => Q H') H ρ (.ok () (h.set n (.dic (putW kvs wy wx))))) : ∃ H', DPut H a y x H' ∧ Q H' := by
  obtain ⟨ps, e, kr⟩ := hr.look ea (dicAt_some hd)
  have ey := vr_key hq ry
  have hlp : ps.length = kvs.length := KRs.length kr
  refine ⟨_, .inl ⟨ps, q, e, ey, by rw [hlp]; exact Nat.lt_of_lt_of_le hl (lim_size (Nat.le_refl lim)), rfl⟩, ?_⟩
  obtain ⟨r1, x1⟩ := hr.write (n := n) (a := a) (o := .dK (putK ps q x)) (u := .dic (putW kvs wy wx)) ea (dicAt_nk hd) rfl fun x2 => ⟨_, upd_same, put_kr (kr.mono x2) hq (by rw [← ey]; exact ry.mono x2) (rx.mono x2)⟩
  exact p ρ _ () x1 r1 trivial
theorem sets_dict (hu : X.A.units + 1 < cLine) : SetS G X oSetD := by
  obtain ⟨r, ho, s⟩ := sets_list (G := G) (X := X)
  refine ⟨_, L2.PSet.or ho (set_dict hu), fun E H ρ h o i v wo wi wv Q hr ro ri rv p => ?_⟩
  unfold oSetD at p
  split at p
  · rename_i n
    split at p
    · rename_i kvs hk
      obtain ⟨a, rfl, ea⟩ := ro.ref
      split at p
      · rename_i q hq
        split at p
        · rename_i hl
          obtain ⟨H', g, q2⟩ := put_post hr ea hk ri rv hq hl p
          exact .inr ⟨a, H', rfl, g, q2⟩
        · exact p.elim
      · exact p.elim
    · exact .inl (s E H ρ h o i v _ wi wv Q hr ro ri rv p)
  · exact .inl (s E H ρ h o i v _ wi wv Q hr ro ri rv p)
def oGetD (x y : W) (h : List O) : Out W := match x with
  | .ref n => match dicR h n with
    | some _ => oDget x y h
    | none => oGetL x y h
  | _ => oGetL x y h
theorem gets_dict (hu : X.A.units + 1 < cLine) : GetS G X oGetD := by
  obtain ⟨r, ho, s⟩ := gets_list (G := G) (X := X)
  refine ⟨_, L2.PGet.or ho (get_dict hu), fun E H ρ h x y wx wy Q hr rx ry p => ?_⟩
  unfold oGetD at p
  split at p
  · split at p
    · exact .inr (dget_serves E H ρ h x y _ wy Q hr rx ry p)
    · exact .inl (s E H ρ h x y _ wy Q hr rx ry p)
  · exact .inl (s E H ρ h x y _ wy Q hr rx ry p)
end
end Den
set_option maxRecDepth 100000
/-! A dict that is walked: locked as long. -/
namespace Den
open PySem L2 PyProof.Rows
section
variable {K : PySem.W.Frag} {H H' : Hp} {ρ ρ' : List Addr}
mutual
theorem VR.via (t : ∀ a vs, SqT K H a vs → SqT K H' a vs) (l : ∀ a vs, ((Rd H a (.lst vs) ∧ a ∉ ρ) ∨ ∀ H' : Hp, SqL K H' a vs) → (Rd H' a (.lst vs) ∧ a ∉ ρ) ∨ ∀ H' : Hp, SqL K H' a vs) : ∀ {v : V} {w : W}, VR K H ρ v w → VR K H' ρ v w
  | v, .non, h => h
  | v, .bl _, h => h
  | v, .int _, h => h
  | v, .str _, h => h
  | v, .tup xs, h => by
    unfold VR at h ⊢
    obtain ⟨a, vs, e, q, r⟩ := h
    exact ⟨a, vs, e, t _ _ q, VRs.via t l r⟩
  | v, .rol xs, h => by
    unfold VR at h ⊢
    obtain ⟨a, vs, e, q, r⟩ := h
    exact ⟨a, vs, e, l _ _ q, VRs.via t l r⟩
  | v, .ref n, h => by
    unfold VR at h ⊢
    exact h
theorem VRs.via (t : ∀ a vs, SqT K H a vs → SqT K H' a vs) (l : ∀ a vs, ((Rd H a (.lst vs) ∧ a ∉ ρ) ∨ ∀ H' : Hp, SqL K H' a vs) → (Rd H' a (.lst vs) ∧ a ∉ ρ) ∨ ∀ H' : Hp, SqL K H' a vs) : ∀ {vs : List V} {ws : List W}, VRs K H ρ vs ws → VRs K H' ρ vs ws
  | vs, [], h => h
  | vs, w :: ws, h => by
    unfold VRs at h ⊢
    obtain ⟨v, r, e, q, z⟩ := h
    exact ⟨v, r, e, VR.via t l q, VRs.via t l z⟩
end
theorem KRs.via (f : ∀ v w, VR K H ρ v w → VR K H' ρ v w) : ∀ {ps : List (Key × V)} {ws : List (W × W)}, KRs K H ρ ps ws → KRs K H' ρ ps ws
  | vs, [], h => h
  | vs, (k, w) :: ws, h => by
    unfold KRs at h ⊢
    obtain ⟨q, v, r, e, a, b, c⟩ := h
    exact ⟨q, v, r, e, f _ _ a, f _ _ b, KRs.via f c⟩
theorem FRs.via (f : ∀ v w, VR K H ρ v w → VR K H' ρ v w) : ∀ {ps : List (Str × V)} {ws : List (Str × W)}, FRs K H ρ ps ws → FRs K H' ρ ps ws
  | vs, [], h => h
  | vs, (k, w) :: ws, h => by
    unfold FRs at h ⊢
    obtain ⟨v, r, e, b, c⟩ := h
    exact ⟨v, r, e, f _ _ b, FRs.via f c⟩
end
section
variable {G : Gx} {X : Cx} {K : PySem.W.Frag} {H H' : Hp} {ρ ρ' : List Addr} {h h' : List O} {n : Nat} {a : Addr} {kvs : List (W × W)} {ps : List (Key × V)} {od : Obj}
theorem HR.lock (hr : HR K G H ρ h) (ea : ρ[n]? = some a) (hk : dicAt h n = some kvs) (e : H a = some (.dK ps)) (kr : KRs K H ρ ps kvs) : HR K G (upd H a (.frz od (.dK ps))) ρ (h.set n (.dik kvs)) ∧ Ext H ρ (upd H a (.frz od (.dK ps))) ρ :=
  hr.write (o := .frz od (.dK ps)) (u := .dik kvs) ea (dicAt_nk hk) rfl fun x => ⟨od, ps, upd_same, kr.mono x⟩
def dikAt (h : List O) (n : Nat) : Option (List (W × W)) := match h[n]? with
  | some (.dik xs) => some xs
  | _ => none
theorem dikAt_some (e : dikAt h n = some kvs) : h[n]? = some (.dik kvs) := by
  unfold dikAt at e
  split at e
  · rename_i ys hy
    cases e
    exact hy
  · cases e
/-- the dict is free again -/
theorem HR.unlock (hr0 : HR K G H ρ h) (e0 : H a = some (.dK ps)) (ea : ρ[n]? = some a) (x : Ext (upd H a (.frz od (.dK ps))) ρ H' ρ') (hr : HR K G H' ρ' h') {kvs' : List (W × W)} (hk : dikAt h' n = some kvs') :
    H' a = some (.frz od (.dK ps)) ∧ HR K G (upd H' a (.dK ps)) ρ' (h'.set n (.dic kvs')) ∧ Ext H ρ (upd H' a (.dK ps)) ρ' ∧ ∀ v w, VR K H' ρ' v w → VR K (upd H' a (.dK ps)) ρ' v w := by
  have ha : a ∈ ρ := List.mem_of_getElem? ea
  have ea' : ρ'[n]? = some a := pre_get x.pre ea
  have ha' : a ∈ ρ' := List.mem_of_getElem? ea'
  have hl : H' a = some (.frz od (.dK ps)) := x.lk _ _ _ upd_same
  obtain ⟨od2, ps2, e2, kr⟩ := hr.look ea' (dikAt_some hk)
  rw [hl] at e2
  cases e2
  have ne : ∀ {a' : Addr} o, H' a' = some o → isM o = false → upd H' a (.dK ps) a' = some o := fun {a'} o e m => by
    have : a' ≠ a := fun z => by subst z; rw [hl] at e; cases e; cases m
    rw [upd_ne this]; exact e
  have nn : ∀ {a' : Addr}, a' ∉ ρ' → a' ≠ a := fun {a'} z e => z (by rw [e]; exact ha')
  have vr : ∀ (v : V) (w : W), VR K H' ρ' v w → VR K (upd H' a (.dK ps)) ρ' v w := fun v w r => VR.via (fun a' vs q => by
    rcases q with (q | ⟨o, q⟩) | q
    · exact .inl (.inl (ne _ q rfl))
    · exact .inl (.inr ⟨o, ne _ q rfl⟩)
    · exact .inr q) (fun a' vs q => by
    rcases q with ⟨q | ⟨o, q⟩, z⟩ | q
    · exact .inl ⟨.inl (by rw [upd_ne (nn z)]; exact q), z⟩
    · exact .inl ⟨.inr ⟨o, by rw [upd_ne (nn z)]; exact q⟩, z⟩
    · exact .inr q) r
  refine ⟨hl, ⟨by rw [List.length_set]; exact hr.len, hr.nd, fun m b u f1 f2 => ?_, tabs_upd hr.tb (.inr ⟨_, hl, rfl⟩)⟩, ⟨fun b o e t nb => ?_, x.pre, fun b hb nb => ?_, hr0.mu, fun b o u e => ?_⟩, vr⟩
  · by_cases hmn : n = m
    · subst hmn
      rw [ea'] at f1
      cases f1
      have hn : n < h'.length := by rw [← hr.len]; exact (List.getElem?_eq_some_iff.mp ea').1
      rw [List.getElem?_set_self hn] at f2
      cases f2
      exact ⟨ps, upd_same, kr.via vr⟩
    · rw [List.getElem?_set_ne hmn] at f2
      have nb : b ≠ a := fun z => by
        rw [z] at f1
        obtain ⟨h1, q1⟩ := List.getElem?_eq_some_iff.mp ea'
        obtain ⟨h2, q2⟩ := List.getElem?_eq_some_iff.mp f1
        exact hmn ((List.getElem_inj hr.nd).mp (q1.trans q2.symm))
      have q := hr.ob m b u f1 f2
      cases u with
      | lst xs => obtain ⟨vs, e, r⟩ := q; exact ⟨vs, by rw [upd_ne nb]; exact e, VRs.via (fun a' vs q => by
          rcases q with (q | ⟨o, q⟩) | q
          · exact .inl (.inl (ne _ q rfl))
          · exact .inl (.inr ⟨o, ne _ q rfl⟩)
          · exact .inr q) (fun a' vs q => by
          rcases q with ⟨q | ⟨o, q⟩, z⟩ | q
          · exact .inl ⟨.inl (by rw [upd_ne (nn z)]; exact q), z⟩
          · exact .inl ⟨.inr ⟨o, by rw [upd_ne (nn z)]; exact q⟩, z⟩
          · exact .inr q) r⟩
      | dic xs => obtain ⟨vs, e, r⟩ := q; exact ⟨vs, by rw [upd_ne nb]; exact e, r.via vr⟩
      | dik xs => obtain ⟨o, vs, e, r⟩ := q; exact ⟨o, vs, by rw [upd_ne nb]; exact e, r.via vr⟩
      | ins c fs => obtain ⟨C, dx, vs, c, e, r⟩ := q; exact ⟨C, dx, vs, c, by rw [upd_ne nb]; exact e, r.via vr⟩
  · have nba : b ≠ a := fun z => nb (z ▸ ha)
    rw [upd_ne nba]
    exact x.fr b o (by rw [upd_ne nba]; exact e) t nb
  · have nba : b ≠ a := fun z => nb (z ▸ ha)
    have := x.new b hb nb
    rw [upd_ne nba] at this
    exact this
  · have nba : b ≠ a := fun z => by subst z; rw [e0] at e; cases e
    rw [upd_ne nba]
    exact x.lk b o u (by rw [upd_ne nba]; exact e)
theorem sr_via {σ : L2.St} {e : Env} (f : ∀ v w, VR K H ρ v w → VR K H' ρ v w) (s : SR K H ρ σ e) : SR K H' ρ σ e := ⟨s.len, fun i w h => by
  obtain ⟨v, a, b⟩ := s.at_ i w h
  exact ⟨v, a, f _ _ b⟩⟩
/-- the dict that lk names is locked while m goes on -/
def mLock (lk : Env → List O → Option Nat) (m : M W) : M W := fun e h => match lk e h with
  | some n => match dicAt h n with
    | some kvs => match m e (h.set n (.dik kvs)) with
      | .ok w h' => match dikAt h' n with
        | some kvs' => .ok w (h'.set n (.dic kvs'))
        | none => .bad
      | .exc c p h' => .exc c p h'
      | .bad => .bad
    | none => .bad
  | none => .bad
/-- lk names an object of ours -/
def lkVar (i : Nat) : Env → List O → Option Nat := fun e _ => match e[i]? with
  | some (some (.ref n)) => some n
  | _ => none
def mLockS (lk : Env → List O → Option Nat) (m : Sm) : Sm := fun e h => match lk e h with
  | some n => match dicAt h n with
    | some kvs => match m e (h.set n (.dik kvs)) with
      | .nx e' h' => match dikAt h' n with
        | some kvs' => .nx e' (h'.set n (.dic kvs'))
        | none => .bad
      | .rt w h' => match dikAt h' n with
        | some kvs' => .rt w (h'.set n (.dic kvs'))
        | none => .bad
      | .bk e' h' => match dikAt h' n with
        | some kvs' => .bk e' (h'.set n (.dic kvs'))
        | none => .bad
      | .ct e' h' => match dikAt h' n with
        | some kvs' => .ct e' (h'.set n (.dic kvs'))
        | none => .bad
      | .exc c p e' h' => .exc c p e' h'
      | .bad => .bad
    | none => .bad
  | none => .bad
theorem lock_at (hr : HR K G H ρ h) (hn : n < h.length) : ∃ a, ρ[n]? = some a := by
  have : n < ρ.length := by rw [hr.len]; exact hn
  exact ⟨_, List.getElem?_eq_getElem this⟩
theorem dicAt_lt (e : dicAt h n = some kvs) : n < h.length := (List.getElem?_eq_some_iff.mp (dicAt_some e)).1
theorem se_lock {e : Expr} {m : M W} {lk : Env → List O → Option Nat} (he : SE G X e m) : SE G X e (mLock lk m) := fun Wx tk => (pe_lock (he Wx tk)).imp fun σ H Q p => by
  obtain ⟨ρ, e, h, hr, sr, p⟩ := p
  unfold mLock at p
  split at p
  · rename_i n hn
    split at p
    · rename_i kvs hk
      obtain ⟨a, ea⟩ := lock_at hr (dicAt_lt hk)
      obtain ⟨ps, eH, kr⟩ := hr.look ea (dicAt_some hk)
      refine ⟨a, _, eH, trivial, fun od => ?_⟩
      obtain ⟨r1, x1⟩ := hr.lock (od := od) ea hk eH kr
      refine ⟨ρ, e, _, r1, sr.mono x1, ?_⟩
      cases hm : m e (h.set n (.dik kvs)) with
      | bad => rw [hm] at p; exact p.elim
      | exc c q h' => rw [hm] at p; exact Post.ext x1 p
      | ok w h' =>
        rw [hm] at p
        dsimp only at p
        split at p
        · rename_i kvs' hk'
          intro ρ' H' v x r q
          obtain ⟨y1, y2, y3, y4⟩ := HR.unlock hr eH ea x r hk'
          exact ⟨y1, p ρ' _ v y3 y2 (y4 _ _ q)⟩
        · exact p.elim
    · exact p.elim
  · exact p.elim
theorem ss_lock {st : Stmt} {m : Sm} {lk : Env → List O → Option Nat} (he : SS G X st m) : SS G X st (mLockS lk m) := fun Wx tk => (ps_lock (he Wx tk)).imp fun D σ H p => by
  obtain ⟨ρ, e, h, hr, sr, p⟩ := p
  unfold mLockS at p
  split at p
  · rename_i n hn
    split at p
    · rename_i kvs hk
      obtain ⟨a, ea⟩ := lock_at hr (dicAt_lt hk)
      obtain ⟨ps, eH, kr⟩ := hr.look ea (dicAt_some hk)
      refine ⟨a, _, eH, trivial, fun od => ?_⟩
      obtain ⟨r1, x1⟩ := hr.lock (od := od) ea hk eH kr
      refine ⟨ρ, e, _, r1, sr.mono x1, ?_⟩
      cases hm : m e (h.set n (.dik kvs)) with
      | bad => rw [hm] at p; exact p.elim
      | exc c q e' h' => rw [hm] at p; exact PostS.ext x1 p
      | rt w h' =>
        rw [hm] at p
        dsimp only at p
        split at p
        · rename_i kvs' hk'
          intro ρ' H' v x r q
          obtain ⟨y1, y2, y3, y4⟩ := HR.unlock hr eH ea x r hk'
          exact ⟨y1, p ρ' _ v y3 y2 (y4 _ _ q)⟩
        · exact p.elim
      | nx e' h' =>
        rw [hm] at p
        dsimp only at p
        split at p
        · rename_i kvs' hk'
          intro ρ' H' v x r q
          obtain ⟨y1, y2, y3, y4⟩ := HR.unlock hr eH ea x r hk'
          exact ⟨y1, p ρ' _ v y3 y2 (sr_via y4 q)⟩
        · exact p.elim
      | bk e' h' =>
        rw [hm] at p
        dsimp only at p
        split at p
        · rename_i kvs' hk'
          intro ρ' H' v x r q
          obtain ⟨y1, y2, y3, y4⟩ := HR.unlock hr eH ea x r hk'
          exact ⟨y1, p ρ' _ v y3 y2 (sr_via y4 q)⟩
        · exact p.elim
      | ct e' h' =>
        rw [hm] at p
        dsimp only at p
        split at p
        · rename_i kvs' hk'
          intro ρ' H' v x r q
          obtain ⟨y1, y2, y3, y4⟩ := HR.unlock hr eH ea x r hk'
          exact ⟨y1, p ρ' _ v y3 y2 (sr_via y4 q)⟩
        · exact p.elim
    · exact p.elim
  · exact p.elim
/-! ### what a locked dict gives -/
def srcK (n : Nat) : Src := fun i h => (dikAt h n).map fun kvs => kvs[i]?.map Prod.fst
def srcD (n : Nat) : Src := fun i h => (dikAt h n).map fun kvs => kvs[i]?.map Prod.snd
def srcI (n : Nat) : Src := fun i h => (dikAt h n).map fun kvs => kvs[i]?.map fun p => .tup [p.1, p.2]
def mKeys (m : M W) : M Src := fun e h => (m e h).bnd fun w h => match w with
  | .ref n => match dikAt h n with
    | some _ => .ok (srcK n) h
    | none => .bad
  | _ => .bad
def mVals (m : M W) : M Src := fun e h => (m e h).bnd fun w h => match w with
  | .ref n => match dikAt h n with
    | some _ => .ok (srcD n) h
    | none => .bad
  | _ => .bad
def mItms (m : M W) : M Src := fun e h => (m e h).bnd fun w h => match w with
  | .ref n => match dikAt h n with
    | some _ => .ok (srcI n) h
    | none => .bad
  | _ => .bad
theorem KRs.get : ∀ {ps : List (Key × V)} {kvs : List (W × W)} {i : Nat} {k w : W}, KRs K H ρ ps kvs → kvs[i]? = some (k, w) → ∃ q v, ps[i]? = some (q, v) ∧ VR K H ρ (kV q) k ∧ VR K H ρ v w
  | ps, [], i, k, w, _, e => by simp at e
  | ps, (k', w') :: kvs, 0, k, w, h, e => by
    unfold KRs at h
    obtain ⟨q, v, r, rfl, a, b, _⟩ := h
    simp at e
    obtain ⟨rfl, rfl⟩ := e
    exact ⟨q, v, rfl, a, b⟩
  | ps, (k', w') :: kvs, i + 1, k, w, h, e => by
    unfold KRs at h
    obtain ⟨q, v, r, rfl, _, _, c⟩ := h
    obtain ⟨q', v', x, y, z⟩ := KRs.get (i := i) c (by simpa using e)
    exact ⟨q', v', by simpa using x, y, z⟩
theorem dik_at (x : Ext H ρ H' ρ') (r : HR K G H' ρ' h') (ea : ρ[n]? = some a) (hl : H a = some (.frz od (.dK ps))) (hk : dikAt h' n = some kvs) : H' a = some (.frz od (.dK ps)) ∧ KRs K H' ρ' ps kvs := by
  have e := x.lk _ _ _ hl
  obtain ⟨o2, p2, e2, kr⟩ := r.look (pre_get x.pre ea) (dikAt_some hk)
  rw [e] at e2
  cases e2
  exact ⟨e, kr⟩
theorem jrel_keys (ea : ρ[n]? = some a) (hl : H a = some (.frz od (.dK ps))) : JRel K G H ρ (Itk a od ps) (srcK n) := fun i H' ρ' h' x r => by
  refine ⟨fun e => ?_, fun w e => ?_⟩
  · unfold srcK at e
    cases hk : dikAt h' n with
    | none => rw [hk] at e; cases e
    | some kvs =>
      rw [hk] at e
      obtain ⟨y, kr⟩ := dik_at x r ea hl hk
      refine ⟨y, ?_⟩
      rw [KRs.length kr]
      have e2 := Option.some.inj e
      dsimp only at e2
      cases hx : kvs[i]? with
      | none => exact List.getElem?_eq_none_iff.mp hx
      | some p => rw [hx] at e2; cases e2
  · unfold srcK at e
    cases hk : dikAt h' n with
    | none => rw [hk] at e; cases e
    | some kvs =>
      rw [hk] at e
      obtain ⟨y, kr⟩ := dik_at x r ea hl hk
      have e2 := Option.some.inj e
      dsimp only at e2
      cases hx : kvs[i]? with
      | none => rw [hx] at e2; cases e2
      | some p =>
        rw [hx] at e2
        obtain ⟨k, w'⟩ := p
        cases e2
        obtain ⟨q, v, e3, y1, y2⟩ := kr.get hx
        refine ⟨⟨y, (List.getElem?_eq_some_iff.mp e3).1⟩, fun z H'' hz => ?_⟩
        obtain ⟨rfl, k', v', e4, rfl⟩ := hz
        rw [e3] at e4
        cases e4
        exact ⟨Ext.refl r, r, y1⟩
theorem jrel_vals (ea : ρ[n]? = some a) (hl : H a = some (.frz od (.dK ps))) : JRel K G H ρ (Itd a od ps) (srcD n) := fun i H' ρ' h' x r => by
  refine ⟨fun e => ?_, fun w e => ?_⟩
  · unfold srcD at e
    cases hk : dikAt h' n with
    | none => rw [hk] at e; cases e
    | some kvs =>
      rw [hk] at e
      obtain ⟨y, kr⟩ := dik_at x r ea hl hk
      refine ⟨y, ?_⟩
      rw [KRs.length kr]
      have e2 := Option.some.inj e
      dsimp only at e2
      cases hx : kvs[i]? with
      | none => exact List.getElem?_eq_none_iff.mp hx
      | some p => rw [hx] at e2; cases e2
  · unfold srcD at e
    cases hk : dikAt h' n with
    | none => rw [hk] at e; cases e
    | some kvs =>
      rw [hk] at e
      obtain ⟨y, kr⟩ := dik_at x r ea hl hk
      have e2 := Option.some.inj e
      dsimp only at e2
      cases hx : kvs[i]? with
      | none => rw [hx] at e2; cases e2
      | some p =>
        rw [hx] at e2
        obtain ⟨k, w'⟩ := p
        cases e2
        obtain ⟨q, v, e3, y1, y2⟩ := kr.get hx
        refine ⟨⟨y, (List.getElem?_eq_some_iff.mp e3).1⟩, fun z H'' hz => ?_⟩
        obtain ⟨rfl, k', e4⟩ := hz
        rw [e3] at e4
        cases e4
        exact ⟨Ext.refl r, r, y2⟩
theorem jrel_itms (ea : ρ[n]? = some a) (hl : H a = some (.frz od (.dK ps))) : JRel K G H ρ (Iti a od ps) (srcI n) := fun i H' ρ' h' x r => by
  refine ⟨fun e => ?_, fun w e => ?_⟩
  · unfold srcI at e
    cases hk : dikAt h' n with
    | none => rw [hk] at e; cases e
    | some kvs =>
      rw [hk] at e
      obtain ⟨y, kr⟩ := dik_at x r ea hl hk
      refine ⟨y, ?_⟩
      rw [KRs.length kr]
      have e2 := Option.some.inj e
      dsimp only at e2
      cases hx : kvs[i]? with
      | none => exact List.getElem?_eq_none_iff.mp hx
      | some p => rw [hx] at e2; cases e2
  · unfold srcI at e
    cases hk : dikAt h' n with
    | none => rw [hk] at e; cases e
    | some kvs =>
      rw [hk] at e
      obtain ⟨y, kr⟩ := dik_at x r ea hl hk
      have e2 := Option.some.inj e
      dsimp only at e2
      cases hx : kvs[i]? with
      | none => rw [hx] at e2; cases e2
      | some p =>
        rw [hx] at e2
        obtain ⟨k, w'⟩ := p
        cases e2
        obtain ⟨q, v, e3, y1, y2⟩ := kr.get hx
        refine ⟨⟨y, (List.getElem?_eq_some_iff.mp e3).1⟩, fun z H'' hz => ?_⟩
        obtain ⟨T, k', v', e4, rfl, hT, rfl⟩ := hz
        rw [e3] at e4
        cases e4
        obtain ⟨r2, x2⟩ := r.other (o := .tup [kV q, v]) hT
        refine ⟨x2, r2, ?_⟩
        unfold VR
        exact ⟨T, _, rfl, .inl (.inl upd_same), .cons (y1.mono x2) (.one (y2.mono x2))⟩
theorem keys_post {Wx : WX} {σ : L2.St} {m : M W} {src : Nat → Src} {J : Addr → Obj → List (Key × V) → It} {R : It → Hp → Prop} (jr : ∀ {H : Hp} {ρ : List Addr} {n : Nat} {a : Addr} {od : Obj} {ps : List (Key × V)}, ρ[n]? = some a → H a = some (.frz od (.dK ps)) → JRel K G H ρ (J a od ps) (src n))
    (p : rd K G Wx (JRel K G) (fun e h => (m e h).bnd fun w h => match w with
  | .ref n => match dikAt h n with
    | some _ => .ok (src n) h
    | none => .bad
  | _ => .bad) σ H R) : rd K G Wx (VRel K) m σ H fun x H1 => ∃ d o kvs, x = .ref d ∧ H1 d = some (.frz o (.dK kvs)) ∧ R (J d o kvs) H1 :=
  rd.bnd (Rel := VRel K) p fun H0 ρ0 e sr v H1 ρ1 h1 w x r q p1 => by
    split at p1
    · rename_i n
      split at p1
      · rename_i kvs hk
        have q : VR K H1 ρ1 v (.ref n) := q
        obtain ⟨a, rfl, ea⟩ := q.ref
        obtain ⟨od, ps, e, _⟩ := r.look ea (dikAt_some hk)
        exact ⟨a, od, ps, rfl, e, p1 ρ1 H1 _ (Ext.refl r) r (jr ea e)⟩
      · exact p1.elim
    · exact p1.elim
theorem si_keys {tg e : Expr} {m : M W} (he : SE G X e m) : SI G X tg e (mKeys m) := fun Wx tk => (pi_keys (he Wx tk)).imp fun σ H R p => (by
  obtain ⟨ρ, ev, h, hr, sr, q⟩ := keys_post (src := srcK) (J := Itk) jrel_keys p
  exact ⟨ρ, ev, h, hr, sr, q.imp fun v H' z => by
    obtain ⟨d, o, kvs, e, f, g⟩ := z
    exact ⟨d, o, e, .inl ⟨kvs, f, g⟩⟩⟩)
theorem si_vals {tg e : Expr} {m : M W} {apos cpos : Pos} (he : SE G X e m) (hbase : attributeBase e "values" X.env (eval e X.env) = eval e X.env := by rfl) (hline : (apos.endLine == cpos.line) = true := by rfl) : SI G X tg (.Call (.Attribute e "values" apos) [] [] cpos) (mVals m) := fun Wx tk =>
  (pi_values (he Wx tk) (hbase := hbase) (hline := hline)).imp fun σ H R p => keys_post (src := srcD) (J := Itd) jrel_vals p
theorem si_keysM {tg e : Expr} {m : M W} {apos cpos : Pos} (he : SE G X e m) (hbase : attributeBase e "keys" X.env (eval e X.env) = eval e X.env := by rfl) (hline : (apos.endLine == cpos.line) = true := by rfl) : SI G X tg (.Call (.Attribute e "keys" apos) [] [] cpos) (mKeys m) := fun Wx tk =>
  (pi_keysM (he Wx tk) (hbase := hbase) (hline := hline)).imp fun σ H R p => keys_post (src := srcK) (J := Itk) jrel_keys p
theorem si_itms {elts : List Expr} {kk : Nat} {tpos : Pos} {e : Expr} {m : M W} {apos cpos : Pos} (he : SE G X e m) (hbase : attributeBase e "items" X.env (eval e X.env) = eval e X.env := by rfl) (hline : (apos.endLine == cpos.line) = true := by rfl) : SI G X (.Tuple elts kk tpos) (.Call (.Attribute e "items" apos) [] [] cpos) (mItms m) := fun Wx tk =>
  (pi_items (he Wx tk) (hbase := hbase) (hline := hline)).imp fun σ H R p => keys_post (src := srcI) (J := Iti) jrel_itms p
end
end Den
set_option maxRecDepth 100000
/-! isinstance of what our values are; is None; what a dict's methods give. -/
namespace Den
open PySem L2 PyProof.Rows
section
variable {G : Gx} {X : Cx} {e a b : Expr} {m ma mb : M W} {pos p p2 : Pos}
theorem tyx {K : PySem.W.Frag} {H : Hp} {ρ : List Addr} {h : List O} {v : V} {w : W} {T : String} {b : Bool} (hr : HR K G H ρ h) (r : VR K H ρ v w) (ne : tyNm w h ≠ "?") (e : kitB (tyNm w h) T = some b) : ∃ t, TyX K H v t ∧ PySem.W.kitOne K t (.type T) = some b := by
  cases w with
  | non => rw [r.non]; exact ⟨_, .base .non, e⟩
  | bl y => rw [r.bl]; exact ⟨_, .base (.bl y), e⟩
  | int y => rw [r.int]; exact ⟨_, .base (.int y), e⟩
  | str y => rw [r.str]; exact ⟨_, .base (.str _), e⟩
  | tup xs =>
    unfold VR at r
    obtain ⟨a, vs, rfl, q, _⟩ := r
    rcases q with (q | ⟨o, q⟩) | ⟨o, its, n, q1, q2, _⟩
    · exact ⟨_, .base (.tup q), e⟩
    · exact ⟨_, .fTuple q, e⟩
    · exact ⟨_, .kTuple q1 q2, e⟩
  | rol xs =>
    obtain ⟨a, vs, rfl, q, z⟩ := sqL_ok (xs := xs) hr r rfl
    rcases q with (q | ⟨o, q⟩) | ⟨o, its, n, q1, q2, _⟩
    · exact ⟨_, .base (.lst q), e⟩
    · exact ⟨_, .base (.frz q), e⟩
    · exact ⟨_, .kList q1 q2, e⟩
  | ref n =>
    obtain ⟨a, rfl, ea⟩ := r.ref
    unfold tyNm at e ne
    dsimp only at e ne
    split at e
    · rename_i xs hx
      obtain ⟨vs, q, z⟩ := hr.look ea hx
      exact ⟨_, .base (.lst q), e⟩
    · rename_i xs hx
      obtain ⟨vs, q, z⟩ := hr.look ea hx
      exact ⟨_, .base (.dK q), e⟩
    · rename_i x1 x2
      cases hx : h[n]? with
      | none => rw [hx] at ne; exact absurd rfl ne
      | some o =>
        rw [hx] at ne
        cases o with
        | lst xs => exact absurd hx (x1 xs)
        | dic xs => exact absurd hx (x2 xs)
        | dik xs => exact absurd rfl ne
        | ins c fs => exact absurd rfl ne
/-- isinstance -/
def mIsiV (T : String) (m : M W) : M W := fun e h => (m e h).bnd fun x h => if tyNm x h = "?" then .bad else match kitB (tyNm x h) T with
  | some b => .ok (.bl b) h
  | none => .bad
theorem se_isi {T : Str} {Tn : String} (ha : SE G X a ma) (hg : Gl X "isinstance") (hm0 : X.mg "isinstance" = none) (hgT : Gl X T) (hmT : X.mg T = none) (hbT : bootBuiltins T = some (.type Tn) := by decide +kernel) (hnT : T ≠ "__name__" := by decide) (hdT : (T == ("__debug__" : Str)) = false := by decide)
    (hv : bootBuiltins "isinstance" = some (.builtin "isinstance") := by decide +kernel)
    (he : starEach [a, .Name T p2] X.env = (false, eval a X.env) :: starEach [.Name T p2] X.env := by rfl) (he2 : starEach [.Name T p2] X.env = (false, eval (.Name T p2) X.env) :: starEach [] X.env := by rfl) (hpl : (backTo pos (starEach [.Name T p2] X.env)).any (·.1) = false := by rfl) :
    SE G X (.Call (.Name "isinstance" p) [a, .Name T p2] [] pos) (mIsiV Tn ma) := fun Wx tk =>
  (pe_callB call_isi hg hm0 hv (pa_cons (ha Wx tk) (pa_cons (pe_bltn (v := .ty Tn) hgT hmT hbT rfl hnT hdT) pa_nil he2) he) (he := he) (hpl := hpl)).imp fun σ H Q p => rd.bnd (Rel := VRel X.K) p fun H0 ρ0 e sr x H1 ρ1 h1 wx x1 r1 vx p1 => by
    split at p1
    · exact p1.elim
    · rename_i hne
      split at p1
      · rename_i b hb
        obtain ⟨t, h1, h2⟩ := tyx r1 vx hne hb
        exact ⟨x, .ty Tn, t, _, b, rfl, .ty Tn, h1, h2, p1.here r1 vr_bl⟩
      · exact p1.elim
def isNonW : W → Bool
  | .non => true
  | _ => false
def oIsN (x y : W) (h : List O) : Out W := match y with
  | .non => .ok (.bl (isNonW x)) h
  | _ => .bad
def oNotN (x y : W) (h : List O) : Out W := match y with
  | .non => .ok (.bl (!isNonW x)) h
  | _ => .bad
theorem vr_non_iff {K : PySem.W.Frag} {H : Hp} {ρ : List Addr} {v : V} {w : W} (r : VR K H ρ v w) : decide (v = .non) = isNonW w := by
  cases w with
  | non => rw [r.non]; rfl
  | bl y => rw [r.bl]; rfl
  | int y => rw [r.int]; rfl
  | str y => rw [r.str]; rfl
  | tup xs => unfold VR at r; obtain ⟨a, vs, rfl, _⟩ := r; rfl
  | rol xs => unfold VR at r; obtain ⟨a, vs, rfl, _⟩ := r; rfl
  | ref n => obtain ⟨a, rfl, _⟩ := r.ref; rfl
theorem ops_isN : OpS G X (compareOp .Is) oIsN := ⟨_, op_isN, fun E H ρ h x y wx wy Q hr rx ry p => by
  unfold oIsN at p
  split at p
  · exact ⟨ry.non, by rw [vr_non_iff rx]; exact p.here hr vr_bl⟩
  · exact p.elim⟩
theorem ops_notN : OpS G X (compareOp .IsNot) oNotN := ⟨_, op_notN, fun E H ρ h x y wx wy Q hr rx ry p => by
  unfold oNotN at p
  split at p
  · exact ⟨ry.non, by rw [vr_non_iff rx]; exact p.here hr vr_bl⟩
  · exact p.elim⟩
/-! ### d.get(k, x), d.get(k) -/
def mDGet2 (md mk mx : M W) : M W := fun e h => (md e h).bnd fun d h => match d with
  | .ref n => match dicR h n with
    | some _ => (mk e h).bnd fun k h => (mx e h).bnd fun x h => match dicR h n with
      | some kvs => match wKey k with
        | some _ => .ok ((valW kvs k).getD x) h
        | none => .bad
      | none => .bad
    | none => .bad
  | _ => .bad
def mDGet1 (md mk : M W) : M W := fun e h => (md e h).bnd fun d h => match d with
  | .ref n => match dicR h n with
    | some _ => (mk e h).bnd fun k h => match dicR h n with
      | some kvs => match wKey k with
        | some _ => .ok ((valW kvs k).getD .non) h
        | none => .bad
      | none => .bad
    | none => .bad
  | _ => .bad
theorem isD_of {K : PySem.W.Frag} {H : Hp} {ρ : List Addr} {h : List O} {n : Nat} {a : Addr} {kvs : List (W × W)} (hr : HR K G H ρ h) (ea : ρ[n]? = some a) (e : dicR h n = some kvs) : IsD H a := by
  obtain ⟨ps, q, _⟩ := dicR_ok hr ea e
  exact .inl ⟨ps, q⟩
theorem se_dget2 {o k x : Expr} {md mk mx : M W} {apos cpos : Pos} (hu : X.A.units + 1 < cLine) (ho : SE G X o md) (hk : SE G X k mk) (hx : SE G X x mx) (m2 : M2 X o "get" apos k x cpos := by exact ⟨by rfl, by rfl, by rfl, by rfl⟩) : SE G X (.Call (.Attribute o "get" apos) [k, x] [] cpos) (mDGet2 md mk mx) := fun Wx tk =>
  (pe_dget2 hu (ho Wx tk) (hk Wx tk) (hx Wx tk) m2).imp fun σ H Q p => rd.bnd (Rel := VRel X.K) p fun H0 ρ0 e sr v H1 ρ1 h1 w x1 r1 vd p1 => by
    split at p1
    · rename_i n
      split at p1
      · rename_i kvs0 hk0
        have vd : VR X.K H1 ρ1 v (.ref n) := vd
        obtain ⟨a, rfl, ea⟩ := vd.ref
        refine ⟨a, rfl, isD_of r1 ea hk0, ρ1, e, h1, r1, sr.mono x1, (Post.bnd (Rel := VRel X.K) p1).imp fun y H2 q => ?_⟩
        obtain ⟨ρ2, h2, wk, x2, r2, vk, p2⟩ := q
        refine ⟨ρ2, e, h2, r2, (sr.mono x1).mono x2, (Post.bnd (Rel := VRel X.K) p2).imp fun z H3 q => ?_⟩
        obtain ⟨ρ3, h3, wx, x3, r3, vx, p3⟩ := q
        have ea3 : ρ3[n]? = some a := pre_get x3.pre (pre_get x2.pre ea)
        split at p3
        · rename_i kvs hk
          split at p3
          · rename_i q hq
            have vk3 := VR.mono x3 vk
            cases hv : valW kvs wk with
            | none =>
              rw [hv] at p3
              exact ⟨none, dget_none r3 ea3 hk vk3 hq hv, p3.here r3 vx⟩
            | some w' =>
              rw [hv] at p3
              obtain ⟨u, g, rv⟩ := dget_some r3 ea3 hk vk3 hq hv
              exact ⟨some u, g, p3.here r3 rv⟩
          · exact p3.elim
        · exact p3.elim
      · exact p1.elim
    · exact p1.elim
theorem se_dget1 {o k : Expr} {md mk : M W} {apos cpos : Pos} (hu : X.A.units + 1 < cLine) (ho : SE G X o md) (hk : SE G X k mk) (m1 : M1 X o "get" apos k cpos := by exact ⟨by rfl, by rfl, by rfl, by rfl⟩) : SE G X (.Call (.Attribute o "get" apos) [k] [] cpos) (mDGet1 md mk) := fun Wx tk =>
  (pe_dget1 hu (ho Wx tk) (hk Wx tk) m1).imp fun σ H Q p => rd.bnd (Rel := VRel X.K) p fun H0 ρ0 e sr v H1 ρ1 h1 w x1 r1 vd p1 => by
    split at p1
    · rename_i n
      split at p1
      · rename_i kvs0 hk0
        have vd : VR X.K H1 ρ1 v (.ref n) := vd
        obtain ⟨a, rfl, ea⟩ := vd.ref
        refine ⟨a, rfl, isD_of r1 ea hk0, ρ1, e, h1, r1, sr.mono x1, (Post.bnd (Rel := VRel X.K) p1).imp fun y H2 q => ?_⟩
        obtain ⟨ρ2, h2, wk, x2, r2, vk, p2⟩ := q
        have ea3 : ρ2[n]? = some a := pre_get x2.pre ea
        split at p2
        · rename_i kvs hk
          split at p2
          · rename_i q hq
            cases hv : valW kvs wk with
            | none =>
              rw [hv] at p2
              exact ⟨none, dget_none r2 ea3 hk vk hq hv, p2.here r2 vr_non⟩
            | some w' =>
              rw [hv] at p2
              obtain ⟨u, g, rv⟩ := dget_some r2 ea3 hk vk hq hv
              exact ⟨some u, g, p2.here r2 rv⟩
          · exact p2.elim
        · exact p2.elim
      · exact p1.elim
    · exact p1.elim
/-- what the plain reading never meets: anything is read by it -/
def mBad {α : Type} : M α := fun _ _ => .bad
def mBadS : Sm := fun _ _ => .bad
theorem se_bad {e : Expr} : SE G X e mBad := fun Wx tk => ⟨fun pins s σ H Q I h => by
  obtain ⟨ρ, e, h, hr, sr, p⟩ := h
  exact (show False from p).elim⟩
theorem ss_bad {s : Stmt} : SS G X s mBadS := fun Wx tk => ⟨fun pins s σ H Q I h => by
  obtain ⟨ρ, e, h, hr, sr, p⟩ := h
  exact (show False from p).elim⟩
end
theorem kit_tt : kitB "tuple" "tuple" = some true := by decide +kernel
theorem kit_nt : kitB "NoneType" "tuple" = some false := by decide +kernel
theorem kit_lt : kitB "list" "tuple" = some false := by decide +kernel
theorem kit_it : kitB "int" "tuple" = some false := by decide +kernel
theorem kit_st : kitB "str" "tuple" = some false := by decide +kernel
theorem kit_bt : kitB "bool" "tuple" = some false := by decide +kernel
theorem kit_ii : kitB "int" "int" = some true := by decide +kernel
theorem kit_bi : kitB "bool" "int" = some true := by decide +kernel
theorem kit_si : kitB "str" "int" = some false := by decide +kernel
theorem kit_ni : kitB "NoneType" "int" = some false := by decide +kernel
theorem kit_li : kitB "list" "int" = some false := by decide +kernel
theorem kit_ti : kitB "tuple" "int" = some false := by decide +kernel
theorem kit_ib : kitB "int" "bool" = some false := by decide +kernel
theorem kit_bb : kitB "bool" "bool" = some true := by decide +kernel
theorem kit_sb : kitB "str" "bool" = some false := by decide +kernel
theorem kit_ss : kitB "str" "str" = some true := by decide +kernel
theorem kit_is : kitB "int" "str" = some false := by decide +kernel
theorem kit_bs : kitB "bool" "str" = some false := by decide +kernel
theorem kit_ns : kitB "NoneType" "str" = some false := by decide +kernel
theorem kit_ls : kitB "list" "str" = some false := by decide +kernel
theorem kit_ts : kitB "tuple" "str" = some false := by decide +kernel
end Den
set_option maxRecDepth 100000
/-! list of a range; a def whose code object is known. -/
namespace Den
open PySem L2 PyProof.Rows
section
variable {G : Gx} {X : Cx} {e a b : Expr} {m ma mb : M W} {pos p p2 : Pos}
theorem units1 {A : Around} (h : A.units + 64 < cLine) : A.units + 1 < cLine := by omega
theorem rgV_vrs {K : PySem.W.Frag} {H : Hp} {ρ : List Addr} {lo hi : Int} : VRs K H ρ (rgV lo hi) (rgW lo hi) := by
  unfold rgV rgW
  exact rg_vrs _
def mListR1 (mb : M W) : M W := fun e h => (mb e h).bnd fun y h => match y with
  | .int j => if rgOkB 0 j = true then .ok (.ref h.length) (h ++ [.lst (rgW 0 j)]) else .bad
  | _ => .bad
def mListR2 (ma mb : M W) : M W := fun e h => (ma e h).bnd fun x h => (mb e h).bnd fun y h => match x, y with
  | .int i, .int j => if rgOkB i j = true then .ok (.ref h.length) (h ++ [.lst (rgW i j)]) else .bad
  | _, _ => .bad
theorem se_listR1 {p1 : Pos} {pi : Pos} (hc : X.calm = true) (hg : Gl X "list") (hm : X.mg "list" = none) (hgr : Gl X "range") (hmr : X.mg "range" = none) (hb : SE G X b mb)
    (nr : starEach [b] X.env = (false, eval b X.env) :: starEach [] X.env := by rfl)
    (na : starEach [.Call (.Name "range" p1) [b] [] pi] X.env = (false, eval (.Call (.Name "range" p1) [b] [] pi) X.env) :: starEach [] X.env := by rfl) :
    SE G X (.Call (.Name "list" p) [.Call (.Name "range" p1) [b] [] pi] [] pos) (mListR1 mb) := fun Wx tk =>
  (pe_listRg hc hg hm (prg_1 hgr hmr (hb Wx tk) nr) na).imp fun σ H Q p => rd.bnd (Rel := VRel X.K) p fun H0 ρ0 e sr y H2 ρ2 h2 wy x2 r2 vy p2 => by
      split at p2
      · rename_i j
        split at p2
        · rename_i ok
          have vy : VR X.K _ _ y (.int j) := vy
          obtain ⟨o1, o2, o3, o4, o5⟩ := rgOkB_ok ok
          exact ⟨j, vy.int, ⟨o1, o2, o3, o4, o5⟩, new_lst r2 rgV_vrs p2⟩
        · exact p2.elim
      · exact p2.elim
theorem se_listR2 {p1 : Pos} {pi : Pos} (hc : X.calm = true) (hg : Gl X "list") (hm : X.mg "list" = none) (hgr : Gl X "range") (hmr : X.mg "range" = none) (ha : SE G X a ma) (hb : SE G X b mb)
    (nr : starEach [a, b] X.env = (false, eval a X.env) :: starEach [b] X.env := by rfl) (nr2 : starEach [b] X.env = (false, eval b X.env) :: starEach [] X.env := by rfl) (hp : (backTo pi (starEach [b] X.env)).any (·.1) = false := by rfl)
    (na : starEach [.Call (.Name "range" p1) [a, b] [] pi] X.env = (false, eval (.Call (.Name "range" p1) [a, b] [] pi) X.env) :: starEach [] X.env := by rfl) :
    SE G X (.Call (.Name "list" p) [.Call (.Name "range" p1) [a, b] [] pi] [] pos) (mListR2 ma mb) := fun Wx tk =>
  (pe_listRg hc hg hm (prg_2 hgr hmr (ha Wx tk) (hb Wx tk) nr nr2 hp) na).imp fun σ H Q p => rd.bnd (Rel := VRel X.K) p fun H0 ρ0 e sr x H1 ρ1 h1 wx x1 r1 vx p1 => by
    refine ⟨ρ1, e, h1, r1, sr.mono x1, (Post.bnd (Rel := VRel X.K) p1).imp fun y H2 q => ?_⟩
    obtain ⟨ρ2, h2, wy, x2, r2, vy, p2⟩ := q
    split at p2
    · rename_i i j
      split at p2
      · rename_i ok
        have vx : VR X.K _ _ x (.int i) := vx
        have vy : VR X.K _ _ y (.int j) := vy
        obtain ⟨o1, o2, o3, o4, o5⟩ := rgOkB_ok ok
        exact ⟨i, j, vx.int, vy.int, ⟨o1, o2, o3, o4, o5⟩, new_lst r2 rgV_vrs p2⟩
      · exact p2.elim
    · exact p2.elim
end
/-- a def whose code object is known -/
theorem fn_denC {G : Gx} {P : Program} {w : World} {K : PySem.W.Frag} {mg : Str → Option Value} {base : Heap} {x : Str} {st : Stmt} {f c : Addr} {N ps : List Str} {k : Nat} {m : Sm} {oc : Value} {od an : Option Addr} {osl : Array (Option Value)} {kV doc pm ct : Value}
    (lk : K.lookup f = some ⟨oc, od, .func (PySem.W.fnOf x x (defArgs st) (defBody st) (defScope st) .none kV doc pm an (.ref c) ct), osl⟩) (hcd : PySem.W.codeIn K (.ref c) x = true) (kp : PySem.W.keepIn K (.ref f) = true) (S : FnScope N ps (defScope st)) (hm : mg x = some (.ref f))
    (hb : Binds K (PySem.W.fnOf x x (defArgs st) (defBody st) (defScope st) .none kV doc pm an (.ref c) ct) ps [])
    (body : ∀ (A : Around) (outer : List PySem.Env) (s : Shared) (H : Hp) (E : XK), Room k (A.deeper (envOfC x (defScope st) s.heap.objs.size f (.ref c))) → SSs G (cxOf (L2.CX P w) P w K mg base N x (defScope st) f (.ref c) A outer s H E) (defBody st) m) :
    FnD P w K mg base G (k + 1) x ps.length (mFun N.length m) := ⟨f, _, ps, law_den lk hcd S body, hm, kp, hb⟩
end Den
set_option maxRecDepth 100000
/-! Calculation rules of the later parts; rising rows. -/
namespace Den
open PySem L2
section
variable {h : List O} {e e0 : Env} {n : Nat}
theorem picks_congr {N : Nat} {c c' : Nat → Bool} {f f' : Nat → W} (hc : ∀ i, i < N → c i = c' i) (hf : ∀ i, i < N → f i = f' i) : picks N c f = picks N c' f' := by
  unfold picks
  have e1 : (List.range N).filter c = (List.range N).filter c' := List.filter_congr fun i hi => hc i (List.mem_range.1 hi)
  rw [e1]
  exact List.map_congr_left fun i hi => hf i (List.mem_range.1 (List.mem_filter.1 hi).1)
theorem picks_list {α : Type} [Inhabited α] (xs : List α) (c : α → Bool) (f : α → W) : picks xs.length (fun i => c (xs.getD i default)) (fun i => f (xs.getD i default)) = (xs.filter c).map f := by
  have key : ∀ k, k ≤ xs.length → picks k (fun i => c (xs.getD i default)) (fun i => f (xs.getD i default)) = ((xs.take k).filter c).map f := by
    intro k
    induction k with
    | zero => intro _; rfl
    | succ k ih =>
      intro hk
      have hx : xs.getD k default = xs[k] := by rw [List.getD_eq_getElem?_getD, List.getElem?_eq_getElem (by omega)]; rfl
      rw [picks_succ, ih (by omega), List.take_succ_eq_append_getElem (by omega), List.filter_append, List.map_append, hx]
      by_cases hc : c xs[k] = true
      · rw [if_pos hc]; simp [hc]
      · rw [if_neg hc]; simp [hc]
  have := key xs.length (Nat.le_refl _)
  rw [List.take_length] at this
  exact this
theorem getD_mem {α : Type} [Inhabited α] {xs : List α} {i : Nat} (hi : i < xs.length) : xs.getD i default ∈ xs := by
  rw [List.getD_eq_getElem?_getD, List.getElem?_eq_getElem hi]; exact List.getElem_mem hi
/-- a list made from what a row gives -/
theorem comp_row {α : Type} [Inhabited α] {Q : W → List O → Prop} {src : Src} {t : Tg} {cond : M Bool} {elt : M W} (xs : List α) (g : α → W) (e1 : α → Env) (hN : xs.length ≤ 1000000) (hn : xs.length < n) (c : α → Bool) (f : α → W)
    (hs : ∀ i, ∀ h', Gr h h' → src i h' = some ((xs.map g)[i]?)) (ht : ∀ x ∈ xs, t (g x) e0 = some (e1 x)) (hc : ∀ x ∈ xs, Pu h (cond (e1 x)) (c x)) (he : ∀ x ∈ xs, c x = true → Pu h (elt (e1 x)) (f x))
    (q : ∀ h', Gr (h ++ [.lst ((xs.filter c).map f)]) h' → Q (.ref h.length) h') : Ev (compGo src t cond elt h.length e0 n 0 (h ++ [.lst []])) Q := by
  refine comp_pure xs.length hN hn (fun i => c (xs.getD i default)) (fun i => f (xs.getD i default)) (fun i => g (xs.getD i default)) (fun i => e1 (xs.getD i default)) (fun i hi h' hg => ?_) (fun h' hg => ?_) (fun i hi => ht _ (getD_mem hi)) (fun i hi => hc _ (getD_mem hi)) (fun i hi hci => he _ (getD_mem hi) hci) (fun h' hg => q h' (by rw [picks_list] at hg; exact hg))
  · rw [hs i h' hg, List.getElem?_map, List.getElem?_eq_getElem hi, List.getD_eq_getElem?_getD, List.getElem?_eq_getElem hi]; rfl
  · rw [hs _ h' hg, List.getElem?_eq_none (by simp)]
theorem comp_tup {α : Type} [Inhabited α] {Q : W → List O → Prop} {v : Nat} {cond : M Bool} {elt : M W} (xs : List α) (g : α → W) (hN : xs.length ≤ 1000000) (hn : xs.length < n) (c : α → Bool) (f : α → W)
    (hc : ∀ x ∈ xs, Pu h (cond (e0.set v (some (g x)))) (c x)) (he : ∀ x ∈ xs, c x = true → Pu h (elt (e0.set v (some (g x)))) (f x))
    (q : ∀ h', Gr (h ++ [.lst ((xs.filter c).map f)]) h' → Q (.ref h.length) h') : Ev (compGo (srcL (xs.map g)) (tgN v) cond elt h.length e0 n 0 (h ++ [.lst []])) Q :=
  comp_row xs g (fun x => e0.set v (some (g x))) hN hn c f (fun i h' _ => rfl) (fun x hx => rfl) hc he q
theorem comp_ref {α : Type} [Inhabited α] {Q : W → List O → Prop} {v m : Nat} {cond : M Bool} {elt : M W} (xs : List α) (g : α → W) (hm : lstAt h m = some (xs.map g)) (hN : xs.length ≤ 1000000) (hn : xs.length < n) (c : α → Bool) (f : α → W)
    (hc : ∀ x ∈ xs, Pu h (cond (e0.set v (some (g x)))) (c x)) (he : ∀ x ∈ xs, c x = true → Pu h (elt (e0.set v (some (g x)))) (f x))
    (q : ∀ h', Gr (h ++ [.lst ((xs.filter c).map f)]) h' → Q (.ref h.length) h') : Ev (compGo (srcR m) (tgN v) cond elt h.length e0 n 0 (h ++ [.lst []])) Q :=
  comp_row xs g (fun x => e0.set v (some (g x))) hN hn c f (fun i h' hg => by unfold srcR; rw [hg.lst hm]; rfl) (fun x hx => rfl) hc he q
theorem comp_refT {α : Type} [Inhabited α] {Q : W → List O → Prop} {m : Nat} {is : List Nat} {cond : M Bool} {elt : M W} (xs : List α) (g : α → W) (e1 : α → Env) (hm : lstAt h m = some (xs.map g)) (hN : xs.length ≤ 1000000) (hn : xs.length < n) (c : α → Bool) (f : α → W) (ht : ∀ x ∈ xs, tgT is (g x) e0 = some (e1 x))
    (hc : ∀ x ∈ xs, Pu h (cond (e1 x)) (c x)) (he : ∀ x ∈ xs, c x = true → Pu h (elt (e1 x)) (f x))
    (q : ∀ h', Gr (h ++ [.lst ((xs.filter c).map f)]) h' → Q (.ref h.length) h') : Ev (compGo (srcR m) (tgT is) cond elt h.length e0 n 0 (h ++ [.lst []])) Q :=
  comp_row xs g e1 hN hn c f (fun i h' hg => by unfold srcR; rw [hg.lst hm]; rfl) ht hc he q
theorem in_it {z : Int} {l : List Int} : oIn (.int z) (.tup (l.map .int)) h = .ok (.bl (decide (z ∈ l))) h := by
  unfold oIn inW
  dsimp only
  rw [intsOf_map]
  rfl
theorem notin_it {z : Int} {l : List Int} : oNotIn (.int z) (.tup (l.map .int)) h = .ok (.bl (decide (z ∉ l))) h := by
  unfold oNotIn inW
  dsimp only
  rw [intsOf_map]
  simp
theorem ne_tt {l l' : List Int} : oNe (.tup (l.map .int)) (.tup (l'.map .int)) h = .ok (.bl (decide (l ≠ l'))) h := by
  unfold oNe
  rw [eqW_tt (dat_ints l) (dat_ints l'), eqvAll_ints]
  simp
theorem ap_IsN {x : W} : oIsN x .non h = .ok (.bl (isNonW x)) h := nrfl rfl
theorem isN_n : isNonW .non = true := nrfl rfl
theorem isN_i {i : Int} : isNonW (.int i) = false := nrfl rfl
theorem ap_ListR2 {ma mb : M W} : mListR2 ma mb e h = (ma e h).bnd fun x h => (mb e h).bnd fun y h => match x, y with
  | .int i, .int j => if rgOkB i j = true then .ok (.ref h.length) (h ++ [.lst (rgW i j)]) else .bad
  | _, _ => .bad := nrfl rfl
theorem list_t {xs : List W} : oList [.tup xs] h = .ok (.ref h.length) (h ++ [.lst xs]) := nrfl rfl
end
/-! ### rising rows -/
def Rsg (l : List Int) : Prop := l.Pairwise (· < ·)
abbrev T (l : List Int) : W := .tup (l.map .int)
theorem drop_get {l : List Int} {a : Nat} (h : a < l.length) : l.drop a = l.getD a 0 :: l.drop (a + 1) := by
  rw [List.drop_eq_getElem_cons h, List.getD_eq_getElem?_getD, List.getElem?_eq_getElem h]; rfl
theorem Rsg.drop {l : List Int} (r : Rsg l) (a : Nat) : Rsg (l.drop a) := List.Pairwise.sublist (List.drop_sublist a l) r
theorem Rsg.tail {x : Int} {l : List Int} (r : Rsg (x :: l)) : Rsg l := (List.pairwise_cons.1 r).2
theorem Rsg.head {x : Int} {l : List Int} (r : Rsg (x :: l)) : ∀ z ∈ l, x < z := (List.pairwise_cons.1 r).1
theorem Rsg.ext : ∀ {l l' : List Int}, Rsg l → Rsg l' → (∀ z, z ∈ l ↔ z ∈ l') → l = l'
  | [], [], _, _, _ => rfl
  | [], y :: l', _, _, h => absurd ((h y).2 List.mem_cons_self) (by simp)
  | x :: l, [], _, _, h => absurd ((h x).1 List.mem_cons_self) (by simp)
  | x :: l, y :: l', r, r', h => by
    have hx := (h x).1 List.mem_cons_self
    have hy := (h y).2 List.mem_cons_self
    have e : x = y := by
      rcases List.mem_cons.1 hx with e | e
      · exact e
      · rcases List.mem_cons.1 hy with e' | e'
        · exact e'.symm
        · have := r.head y e'
          have := r'.head x e
          omega
    subst e
    rw [Rsg.ext r.tail r'.tail fun z => ⟨fun hz => ?_, fun hz => ?_⟩]
    · have := r.head z hz
      rcases List.mem_cons.1 ((h z).1 (List.mem_cons_of_mem _ hz)) with e | e
      · omega
      · exact e
    · have := r'.head z hz
      rcases List.mem_cons.1 ((h z).2 (List.mem_cons_of_mem _ hz)) with e | e
      · omega
      · exact e
theorem Rsg.filter {l : List Int} (r : Rsg l) (c : Int → Bool) : Rsg (l.filter c) := List.Pairwise.sublist List.filter_sublist r
theorem Rsg.snoc {l : List Int} {x : Int} (r : Rsg l) (h : ∀ z ∈ l, z < x) : Rsg (l ++ [x]) := by
  unfold Rsg
  rw [List.pairwise_append]
  exact ⟨r, List.pairwise_singleton _ _, fun a ha b hb => by rw [List.mem_singleton.1 hb]; exact h a ha⟩
abbrev both2 (xs ys : List Int) : List Int := xs.filter fun z => decide (z ∈ ys)
theorem both_eq {x : Int} {xs ys : List Int} (r : Rsg (x :: xs)) (r' : Rsg (x :: ys)) : both2 (x :: xs) (x :: ys) = x :: both2 xs ys := by
  unfold both2
  rw [List.filter_cons_of_pos (by simp)]
  congr 1
  refine List.filter_congr fun z hz => ?_
  have := r.head z hz
  rw [decide_eq_decide, List.mem_cons]
  exact ⟨fun h => h.resolve_left (by omega), .inr⟩
theorem both_lt {x y : Int} {xs ys : List Int} (h : x < y) (r' : Rsg (y :: ys)) : both2 (x :: xs) (y :: ys) = both2 xs (y :: ys) := by
  unfold both2
  rw [List.filter_cons_of_neg]
  simp only [decide_eq_true_eq, List.mem_cons, not_or]
  exact ⟨by omega, fun hz => by have := r'.head x hz; omega⟩
theorem both_gt {x y : Int} {xs ys : List Int} (h : y < x) (r : Rsg (x :: xs)) : both2 (x :: xs) (y :: ys) = both2 (x :: xs) ys := by
  unfold both2
  refine List.filter_congr fun z hz => ?_
  have : x ≤ z := by
    rcases List.mem_cons.1 hz with e | e
    · omega
    · have := r.head z e; omega
  rw [decide_eq_decide, List.mem_cons]
  exact ⟨fun h => h.resolve_left (by omega), .inr⟩
theorem both_nil {xs : List Int} : both2 xs [] = [] := by simp [both2]
theorem lst1 {xs ys : List W} : lstAt [O.lst xs] 0 = some xs := nrfl rfl
/-! ### sorting, lists with a last one, pairs -/
theorem sort_ints (l : List Int) : sortBy (l.map W.int) (l.map PyData.int) = (l.mergeSort fun a b => decide (a ≤ b)).map W.int := by
  unfold sortBy
  have e : (l.map W.int).zip (l.map PyData.int) = l.map fun b => (W.int b, PyData.int b) := by
    induction l with
    | nil => rfl
    | cons x l ih => rw [List.map_cons, List.map_cons, List.zip_cons_cons, ih, List.map_cons]
  rw [e, sort_map2, List.map_map]
  have e2 := PySem.W.dataLe_int (fun b : Int => b)
  rw [e2]
  rfl
theorem sort_rsg {l : List Int} (h : l.Nodup) : Rsg (l.mergeSort fun a b => decide (a ≤ b)) := by
  have hs : (l.mergeSort fun a b => decide (a ≤ b)).Pairwise fun a b => decide (a ≤ b) = true := List.pairwise_mergeSort (fun a b c h1 h2 => by simp at *; omega) (fun a b => by simp; omega) l
  have hn : (l.mergeSort fun a b => decide (a ≤ b)).Nodup := (List.mergeSort_perm l _).nodup_iff.2 h
  have := hs.and hn
  exact this.imp fun {a b} ⟨h1, h2⟩ => by
    have h1 := of_decide_eq_true h1
    omega
theorem kind_ints (l : List Int) : kindOk (l.map PyData.int) = true := by
  unfold kindOk
  rw [List.all_eq_true]
  intro d hd
  obtain ⟨i, _, rfl⟩ := List.mem_map.1 hd
  simp only [Bool.and_eq_true, List.all_eq_true, decide_eq_true_eq]
  refine ⟨⟨fun e he => ?_, by unfold PyData.depth; omega⟩, trivial⟩
  obtain ⟨j, _, rfl⟩ := List.mem_map.1 he
  rfl
section
variable {h : List O} {e e0 : Env} {n : Nat}
theorem ixL_last {xs : List W} {w : W} : ixL (xs ++ [w]) (-1) h = .ok w h := by
  unfold ixL
  rw [atI_neg (by omega) (by simp; omega)]
  have e : ((-1 : Int) + ((xs ++ [w]).length : Nat)).toNat = xs.length := by simp; omega
  simp only [e]
  simp
theorem setL_last {xs : List W} {w w' : W} : setL n (xs ++ [w]) (-1) w' h = .ok () (h.set n (.lst (xs ++ [w']))) := by
  unfold setL L2.ixN
  rw [if_neg (by omega), if_pos (by simp; omega)]
  have e : ((-1 : Int) + ((xs ++ [w]).length : Nat)).toNat = xs.length := by simp; omega
  rw [e]
  dsimp only
  rw [List.set_append_right _ _ (Nat.le_refl _), Nat.sub_self]
  rfl
theorem add_rr {m : Nat} : oAdd (.ref n) (.ref m) h = withL (lstAt h n) fun a => withL (lstAt h m) fun b => if a.length + b.length ≤ 1000000 then .ok (.ref h.length) (h ++ [.lst (a ++ b)]) else .bad := by
  unfold oAdd withL
  dsimp only
  cases lstAt h n <;> cases lstAt h m <;> rfl
def pW (p : Int × Int) : W := .tup [.int p.1, .int p.2]
theorem dat_pairs {k : Nat} : ∀ l : List (Int × Int), mapO (dat h (k + 2)) (l.map pW) = some (l.map fun p => PyData.tuple [.int p.1, .int p.2])
  | [] => rfl
  | p :: l => by
    rw [List.map_cons]
    unfold mapO
    rw [dat_pairs l]
    rfl
theorem ne_pnil {m : Nat} {l : List (Int × Int)} (hn : lstAt h n = some (l.map pW)) (hm : lstAt h m = some []) : oNe (.ref n) (.ref m) h = .ok (.bl (decide (l ≠ []))) h := by
  unfold oNe
  rw [eqW_ll hn hm (dat_pairs l) (es := []) rfl]
  cases l <;> simp [PyData.eqvAll]
theorem ne_pnil' {xs : List W} {l : List (Int × Int)} (hx : xs = l.map pW) (hn : lstAt h n = some xs) : oNe (.ref n) (.ref h.length) (h ++ [.lst []]) = .ok (.bl (decide (l ≠ []))) (h ++ [.lst []]) := by
  subst hx
  exact ne_pnil (by rw [lst_old (lst_lt hn)]; exact hn) lst_last
theorem ixL_p {l : List (Int × Int)} {i : Int} (h0 : 0 ≤ i) (h1 : i < l.length) : ixL (l.map pW) i h = .ok (pW (l.getD i.toNat (0, 0))) h := by
  rw [ixL_ok h0 (by rw [List.length_map]; exact h1), List.getD_eq_getElem?_getD, List.getElem?_map, List.getElem?_eq_getElem (by omega), List.getD_eq_getElem?_getD, List.getElem?_eq_getElem (by omega)]
  rfl
theorem ix_p0 {p : Int × Int} : oIx (pW p) (.int 0) h = .ok (.int p.1) h := by unfold pW; rw [ix_tL, ixL_0]
theorem ix_p1 {p : Int × Int} : oIx (pW p) (.int 1) h = .ok (.int p.2) h := by unfold pW; rw [ix_tL, ixL_1]
theorem rgW_eq {i j : Int} : rgW i j = ((List.range (j - i).toNat).map fun k : Nat => i + (k : Int)).map W.int := by unfold rgW; rw [List.map_map]; rfl
theorem rgOkB_of {i j : Int} (h1 : -4611686018427387904 ≤ i ∧ i < 4611686018427387904) (h2 : -4611686018427387904 ≤ j ∧ j < 4611686018427387904) (h3 : (j - i).toNat ≤ 16777216) : rgOkB i j = true := by
  unfold rgOkB
  simp only [Bool.and_eq_true, decide_eq_true_eq]
  refine ⟨⟨⟨⟨?_, ?_⟩, ?_⟩, ?_⟩, h3⟩ <;> omega
theorem tgT_p {p : Int × Int} {i j : Nat} : tgT [i, j] (pW p) e = some ((e.set i (some (.int p.1))).set j (some (.int p.2))) := nrfl rfl
end
section
variable {h : List O} {e e0 : Env} {n : Nat} {body : Sm} {R : SOut → Prop} {m : M W}
theorem forGo_tupT (xs : List W) (is : List Nat) (I : Nat → Env → List O → Prop) (hn : xs.length < n) (h0 : I 0 e h) (step : ∀ i e h (hi : i < xs.length), I i e h → ∃ e1, tgT is xs[i] e = some e1 ∧ Sv (body e1 h) (rnd (I (i + 1)) R))
    (stop : ∀ e h, I xs.length e h → R (.nx e h)) : Sv (forGo (srcL xs) (tgT is) body n 0 e h) R :=
  forGo_sv xs.length I (fun i e h hi p => by
    obtain ⟨e1, h1, h2⟩ := step i e h hi p
    exact ⟨_, _, by unfold srcL; rw [List.getElem?_eq_getElem hi], h1, h2⟩) (fun e h p => ⟨by unfold srcL; rw [List.getElem?_eq_none (by omega)], stop e h p⟩) n 0 e h (by omega) (by omega) h0
theorem ne_picks0 {D N : Nat} {lo : Int} {c : Nat → Bool} (hn : lstAt h D = some (picks N c (fun i => .int (lo + i)))) (hc : ∀ i, i < N → c i = false) : oNe (.ref D) (.ref h.length) (h ++ [.lst []]) = .ok (.bl false) (h ++ [.lst []]) := by
  rw [picks_int] at hn
  rw [ne_ints (h := h ++ [O.lst []]) (n := D) (m := h.length) (l := picksI N lo c) (l' := []) (by rw [lst_old (lst_lt hn)]; exact hn) (by rw [lst_last]; rfl), picksI_nil.2 hc]
  rfl
/-! dicts -/
theorem ap_Dict0 : mDict0 e h = .ok (.ref h.length) (h ++ [.dic []]) := nrfl rfl
theorem dicR_last {kvs : List (W × W)} : dicR (h ++ [.dic kvs]) h.length = some kvs := by unfold dicR; rw [List.getElem?_append_right (Nat.le_refl _), Nat.sub_self]; rfl
theorem dicA_last {kvs : List (W × W)} : dicAt (h ++ [.dic kvs]) h.length = some kvs := by unfold dicAt; rw [List.getElem?_append_right (Nat.le_refl _), Nat.sub_self]; rfl
theorem dget2_eq {md mk mx : M W} {p : Nat} {kvs : List (W × W)} {z : Int} {x : W} (h1 : md e h = .ok (.ref p) h) (h2 : dicR h p = some kvs) (h3 : mk e h = .ok (.int z) h) (h4 : mx e h = .ok x h) : mDGet2 md mk mx e h = .ok ((valW kvs (.int z)).getD x) h := by
  unfold mDGet2
  rw [h1]
  dsimp only [Out.bnd]
  rw [h2]
  dsimp only
  rw [h3]
  dsimp only
  rw [h4]
  dsimp only
  rw [h2]
  rfl
theorem setD_eq {kvs : List (W × W)} {z : Int} {w : W} (hl : kvs.length < 1000000) : oSetD (.ref h.length) (.int z) w (h ++ [.dic kvs]) = .ok () (h ++ [.dic (putW kvs (.int z) w)]) := by
  unfold oSetD
  dsimp only
  rw [dicA_last]
  dsimp only [wKey]
  rw [if_pos hl, List.set_append_right _ _ (Nat.le_refl _), Nat.sub_self]
  rfl
theorem lock_ev {lk : Env → List O → Option Nat} {p : Nat} {kvs : List (W × W)} {Q : W → List O → Prop} (h1 : lk e h = some p) (h2 : dicAt h p = some kvs) (h3 : Ev (m e (h.set p (.dik kvs))) fun w h' => ∃ kvs', dikAt h' p = some kvs' ∧ Q w (h'.set p (.dic kvs'))) : Ev (mLock lk m e h) Q := by
  obtain ⟨w, h', e1, kvs', e2, q⟩ := ev_get h3
  unfold mLock
  rw [h1]
  dsimp only
  rw [h2]
  dsimp only
  rw [e1]
  dsimp only
  rw [e2]
  exact q
/-- a table of how often -/
def dk (L : List Int) (ks : List Int) : List (W × W) := ks.map fun z => (W.int z, W.int (L.count z : Nat))
theorem val_dk {L : List Int} {z : Int} : ∀ ks : List Int, valW (dk L ks) (.int z) = if z ∈ ks then some (.int (L.count z : Nat)) else none
  | [] => rfl
  | k :: ks => by
    unfold dk
    rw [List.map_cons]
    unfold valW keyB
    by_cases hk : k = z
    · subst hk; simp
    · rw [if_neg (by simpa using hk)]
      have := val_dk (L := L) (z := z) ks
      unfold dk at this
      rw [this]
      have hz : z ≠ k := fun e => hk e.symm
      simp [hz]
theorem putGo_dk {L : List Int} {z : Int} : ∀ ks : List Int, putGo (dk L ks) (.int z) (.int (L.count z + 1 : Nat)) = dk (L ++ [z]) ks
  | [] => rfl
  | k :: ks => by
    unfold dk
    rw [List.map_cons, List.map_cons]
    unfold putGo keyB
    have := putGo_dk (L := L) (z := z) ks
    unfold dk at this
    rw [this]
    by_cases hk : k = z
    · subst hk; simp
    · rw [if_neg (by simpa using hk)]
      have hz : z ≠ k := fun e => hk e.symm
      simp [List.count_append, hz]
theorem put_dk {L ks : List Int} {z : Int} (hm : ∀ z, z ∈ ks ↔ z ∈ L) : putW (dk L ks) (.int z) (.int (L.count z + 1 : Nat)) = dk (L ++ [z]) (if z ∈ ks then ks else ks ++ [z]) := by
  unfold putW
  rw [val_dk]
  by_cases hz : z ∈ ks
  · rw [if_pos hz, if_pos hz, if_pos (by rfl), putGo_dk]
  · rw [if_neg hz, if_neg hz, if_neg (by simp)]
    unfold dk
    rw [List.map_append]
    have hzL : z ∉ L := fun e => hz ((hm z).2 e)
    congr 1
    · refine List.map_congr_left fun k hk => ?_
      have : z ≠ k := fun e => hz (e ▸ hk)
      simp [List.count_append, this]
    · simp [List.count_append, List.count_eq_zero.2 hzL]
/-! sorted, keys -/
theorem sort_perm {xs : List W} {ds : List PyData} (hl : xs.length = ds.length) : (sortBy xs ds).Perm xs := by
  unfold sortBy
  refine ((List.mergeSort_perm _ _).map _).trans ?_
  rw [zip_fst hl]
theorem frz_ints {k : Nat} : ∀ l : List Int, mapO (frz h (k + 1)) (l.map W.int) = some (l.map W.int)
  | [] => rfl
  | i :: l => by rw [List.map_cons]; unfold mapO; rw [frz_ints l]; rfl
theorem frz_T {k : Nat} {l : List Int} : frz h (k + 2) (T l) = some (T l) := by
  unfold frz
  rw [frz_ints]
  rfl
theorem frz_Ts {k : Nat} : ∀ rs : List (List Int), mapO (frz h (k + 2)) (rs.map T) = some (rs.map T)
  | [] => rfl
  | r :: rs => by rw [List.map_cons]; unfold mapO; rw [frz_Ts rs, frz_T]
theorem ix_rol {xs : List W} {i : Int} : oIx (.rol xs) (.int i) h = ixL xs i h := nrfl rfl
theorem sorted_ev {Q : W → List O → Prop} {P : List Int → List O → Prop} (hm : Ev (m e h) fun w h' => ∃ q l, w = .ref q ∧ lstAt h' q = some (l.map W.int) ∧ l.length ≤ 1000000 ∧ P l h') (q : ∀ l h', P l h' → Q (.ref h'.length) (h' ++ [.lst ((l.mergeSort fun a b => decide (a ≤ b)).map .int)])) :
    Ev (mSorted (mItems m) e h) Q := by
  obtain ⟨w, h', e1, p, l, rfl, hl, hz, pp⟩ := ev_get hm
  unfold mSorted mItems
  rw [e1]
  dsimp only [Out.bnd, sqA]
  rw [hl]
  dsimp only
  rw [if_pos (by rw [List.length_map]; omega)]
  dsimp only
  rw [dat_ints]
  dsimp only
  rw [if_pos (kind_ints l), sort_ints]
  exact q l h' pp
theorem dikA_last {kvs : List (W × W)} : dikAt (h ++ [.dik kvs]) h.length = some kvs := by unfold dikAt; rw [List.getElem?_append_right (Nat.le_refl _), Nat.sub_self]; rfl
theorem dikA_gr {h' : List O} {kvs : List (W × W)} {p : Nat} (g : Gr h h') (e : dikAt h p = some kvs) : dikAt h' p = some kvs := by
  unfold dikAt
  rw [g.get (dikAt_some e)]
theorem keys_eq {m : M W} {p : Nat} {kvs : List (W × W)} (h1 : m e h = .ok (.ref p) h) (h2 : dikAt h p = some kvs) : mKeys m e h = .ok (srcK p) h := by
  unfold mKeys
  rw [h1]
  dsimp only [Out.bnd]
  rw [h2]
theorem set_lastO {o o' : O} : (h ++ [o]).set h.length o' = h ++ [o'] := by rw [List.set_append_right _ _ (Nat.le_refl _), Nat.sub_self]; rfl
theorem oixD_eq {kvs : List (W × W)} {p : Nat} {z : Int} {w : W} (h1 : dicR h p = some kvs) (h2 : valW kvs (.int z) = some w) : oIxD (.ref p) (.int z) h = .ok w h := by
  unfold oIxD
  dsimp only
  rw [h1]
  dsimp only [oDget, wKey]
  rw [h1]
  dsimp only
  rw [h2]
theorem dikR {kvs : List (W × W)} {p : Nat} (e : dikAt h p = some kvs) : dicR h p = some kvs := by
  unfold dicR
  rw [dikAt_some e]
theorem mapO_map {α β γ : Type} {f : β → Option γ} {g : α → β} {k : α → γ} : ∀ {l : List α}, (∀ x ∈ l, f (g x) = some (k x)) → mapO f (l.map g) = some (l.map k)
  | [], _ => rfl
  | x :: l, H => by
    rw [List.map_cons]
    unfold mapO
    rw [H x List.mem_cons_self, mapO_map fun y hy => H y (List.mem_cons_of_mem _ hy)]
    rfl
theorem kind_ii {α : Type} (l : List α) (x y : α → Int) : kindOk (l.map fun b => PyData.tuple [.int (x b), .int (y b)]) = true := by
  unfold kindOk
  rw [List.all_eq_true]
  intro d hd
  obtain ⟨i, _, rfl⟩ := List.mem_map.1 hd
  simp only [Bool.and_eq_true, List.all_eq_true, decide_eq_true_eq]
  refine ⟨⟨fun e he => ?_, by simp [PyData.depth, PyData.depthAll]⟩, trivial⟩
  obtain ⟨j, _, rfl⟩ := List.mem_map.1 he
  simp [PySem.W.alike, PySem.W.alikeAll]
theorem rgW_0 {n : Nat} : rgW 0 n = (List.range n).map nI := by
  unfold rgW
  rw [Int.sub_zero, Int.toNat_natCast]
  refine List.map_congr_left fun i _ => ?_
  unfold nI
  rw [Int.zero_add]
theorem perm_nats {order : List W} {ns : List Nat} (h : order.Perm (ns.map nI)) : ∃ ks : List Nat, order = ks.map nI ∧ ks.Perm ns := by
  have h1 : ∀ w ∈ order, ∃ k : Nat, w = nI k := fun w hw => by
    obtain ⟨k, _, e⟩ := List.mem_map.1 (h.mem_iff.1 hw)
    exact ⟨k, e.symm⟩
  obtain ⟨ks, hk, _⟩ := list_ex (f := nI) (P := fun _ => True) order fun i w hw => by
    obtain ⟨k, e⟩ := h1 w (List.mem_of_getElem? hw)
    exact ⟨k, e, trivial⟩
  subst hk
  refine ⟨ks, rfl, ?_⟩
  have h2 := h.map fun w => match w with | .int i => i.toNat | _ => 0
  rw [List.map_map, List.map_map] at h2
  have e : ∀ l : List Nat, l.map ((fun w => match w with | .int i => i.toNat | _ => 0) ∘ nI) = l := fun l => by
    have : ((fun w => match w with | .int i => i.toNat | _ => 0) ∘ nI) = (id : Nat → Nat) := by funext k; simp [nI]
    rw [this, List.map_id]
  rw [e, e] at h2
  exact h2
theorem ixL_T {rs : List (List Int)} {i : Int} (h0 : 0 ≤ i) (h1 : i < rs.length) : ixL (rs.map T) i h = .ok (T (rs.getD i.toNat [])) h := by
  rw [ixL_ok h0 (by rw [List.length_map]; exact h1), List.getD_eq_getElem?_getD, List.getElem?_map, List.getElem?_eq_getElem (by omega), List.getD_eq_getElem?_getD, List.getElem?_eq_getElem (by omega)]
  rfl
theorem ap_LenP {m : M W} : mLenP m e h = (m e h).bnd fun x h => match LenW x with
  | some n => .ok (.int n) h
  | none => .bad := nrfl rfl
theorem ap_Pair {a b : M W} : mPair a b e h = (a e h).bnd fun x h => (b e h).bnd fun y h => .ok (.tup [x, y]) h := nrfl rfl
theorem lenW_t {xs : List W} : LenW (.tup xs) = some xs.length := nrfl rfl
theorem ap_AndB {a b : M W} : mAndB a b e h = (a e h).bnd fun x h => (asB x h).bnd fun k h => if k = true then b e h else .ok (.bl false) h := nrfl rfl
theorem ap_OrB {a b : M W} : mOrB a b e h = (a e h).bnd fun x h => (asB x h).bnd fun k h => if k = true then .ok (.bl true) h else b e h := nrfl rfl
theorem ap_NotB {a : M W} : mNotB a e h = (a e h).bnd fun x h => (asB x h).bnd fun k h => .ok (.bl (!k)) h := nrfl rfl
theorem isi_of {Tn : String} {m : M W} {x : W} {b : Bool} (h1 : m e h = .ok x h) (h2 : kitB (tyNm x h) Tn = some b) : mIsi Tn m e h = .ok (.bl b) h := by
  unfold mIsi
  rw [h1]
  dsimp only [Out.bnd]
  rw [h2]
theorem isiV_of {Tn : String} {m : M W} {x : W} {b : Bool} (h1 : m e h = .ok x h) (h0 : tyNm x h ≠ "?") (h2 : kitB (tyNm x h) Tn = some b) : mIsiV Tn m e h = .ok (.bl b) h := by
  unfold mIsiV
  rw [h1]
  dsimp only [Out.bnd]
  rw [if_neg h0, h2]
theorem bools_map (bs : List Bool) : bools (bs.map .bl) = some bs := by
  induction bs with
  | nil => rfl
  | cons b bs ih => rw [List.map_cons]; unfold bools; rw [ih]; rfl
theorem genB_ev {any : Bool} {slot : Nat} {mit : M (List W)} {melt : M W} {α : Type} {l : List α} {g : α → W} {f : α → Bool} (h1 : mit e h = .ok (l.map g) h) (h2 : ∀ x ∈ l, eltOf h e slot melt (g x) = some (.bl (f x))) : mGenB any slot mit melt e h = .ok (.bl (if any = true then (l.map f).any id else (l.map f).all id)) h := by
  unfold mGenB
  rw [h1]
  dsimp only [Out.bnd]
  rw [mapO_map (k := fun x => W.bl (f x)) h2]
  dsimp only
  have : l.map (fun x => W.bl (f x)) = (l.map f).map .bl := by rw [List.map_map]; rfl
  rw [this, bools_map]
theorem ap_GI {m : M W} {xs : List W} (h1 : m e h = .ok (.tup xs) h) : mGItems m e h = .ok xs h := by
  unfold mGItems
  rw [h1]
  rfl
theorem ap_R1 {m : M (List W)} {j : Nat} (h1 : m e h = .ok [.int j] h) (hj : j ≤ 16777216) : mItemsR1 m e h = .ok ((List.range j).map nI) h := by
  have ok : rgOkB 0 (j : Int) = true := rgOkB_of (by omega) (by omega) (by omega)
  unfold mItemsR1
  rw [h1, ok_bnd]
  exact (if_pos ok).trans (by rw [rgW_0])
theorem ap_R1i {m : M (List W)} {j : Int} (h1 : m e h = .ok [.int j] h) (h2 : -1000000 ≤ j) (hj : j ≤ 16777216) : mItemsR1 m e h = .ok ((List.range j.toNat).map nI) h := by
  have ok : rgOkB 0 j = true := rgOkB_of (by omega) (by omega) (by omega)
  have e1 : rgW 0 j = (List.range j.toNat).map nI := by
    unfold rgW
    rw [Int.sub_zero]
    refine List.map_congr_left fun i _ => ?_
    unfold nI
    rw [Int.zero_add]
  unfold mItemsR1
  rw [h1, ok_bnd]
  exact (if_pos ok).trans (by rw [e1])
theorem gei_ii {i j : Int} : oGeI (.int i) (.int j) h = .ok (.bl (decide (j ≤ i))) h := nrfl rfl
theorem adds_ii {i j : Int} : oAddS (.int i) (.int j) h = .ok (.int (i + j)) h := nrfl rfl
theorem elt_of {slot : Nat} {melt : M W} {w fw : W} {b : Bool} {h' : List O} (h1 : frz h 6 w = some fw) (h2 : melt ((frzE h e).set slot (some fw)) [] = .ok (.bl b) h') : eltOf h e slot melt w = some (.bl b) := by
  unfold eltOf
  rw [h1]
  dsimp only
  rw [h2]
  rfl
theorem ap_TruB {m : M W} {b : Bool} (h1 : m e h = .ok (.bl b) h) : mTru m e h = .ok b h := by
  rw [ap_Tru, h1]
  rfl
theorem min_r {p : Nat} {l : List Int} (hn : lstAt h p = some (l.map .int)) {r : Int} (h1 : r ∈ l) (h2 : ∀ z ∈ l, r ≤ z) : oMin [.ref p] h = .ok (.int r) h := by
  unfold oMin
  dsimp only [sqL]
  rw [hn]
  dsimp only
  rw [intsOf_map]
  dsimp only
  rw [if_pos (List.length_pos_of_mem h1), ← minI_ok h1 h2]
theorem ne_nn : oNe .non .non h = .ok (.bl false) h := nrfl rfl
theorem told_exc {l : List (Nat × List Nat)} {m : M W} {c : Nat} {p : Option W} {r : List Nat} {h' : List O} (h1 : m e h = .exc c p h') (h2 : tellGo l c = some r) : mTold l m e h = .ok (.str r) h' := by
  rw [ap_Told, h1]
  dsimp only
  rw [h2]
theorem tru_bl {b : Bool} : truW (.bl b) h = .ok b h := nrfl rfl
theorem ap_SortK {slot : Nat} {mit : M (List W)} {mkey : M W} : mSortK slot mit mkey e h = (mit e h).bnd fun xs h => match mapO (keyOf h e slot mkey) xs with
  | some ds => if kindOk (ds.map Prod.snd) = true then .ok (.ref h.length) (h ++ [.lst (sortBy xs (ds.map Prod.snd))]) else .bad
  | none => .bad := nrfl rfl
end
end Den
set_option maxRecDepth 100000
set_option maxHeartbeats 4000000
/-! The plain functions of the text, and that the text does as they say. Printed by gen.py. -/
namespace Law_indexhall_k04_rising_rows
open PySem L2 Den PyProof.Rows
def top (i : Nat) : Stmt := PySem.Challenge.pw_indexhall_k04_rising_rows.main.body.getD i (.Pass ⟨0, 0, 0, 0⟩)
abbrev s_is_row : Stmt := top 5
abbrev s_check_row : Stmt := top 6
abbrev s_both : Stmt := top 7
abbrev s_either : Stmt := top 8
abbrev s_less : Stmt := top 9
abbrev s_place_of : Stmt := top 10
abbrev s_leaped : Stmt := top 11
abbrev s_both_by_leaps : Stmt := top 12
abbrev s_in_all : Stmt := top 13
abbrev s_in_some : Stmt := top 14
abbrev s_spans : Stmt := top 15
abbrev s_nearest_pair : Stmt := top 16
abbrev s_law_dice : Stmt := top 18
abbrev s_law_roll : Stmt := top 19
abbrev s_law_rounds : Stmt := top 20
abbrev s_law_told : Stmt := top 21
abbrev s_law_row : Stmt := top 22
abbrev s_law_spans : Stmt := top 23
abbrev s_law : Stmt := top 24
theorem sc_law_told : FnScope ["what"] ["what"] (defScope s_law_told) := ⟨rfl, rfl, rfl, by decide +kernel, rfl, by decide +kernel, by decide +kernel⟩
theorem n0_is_row : (".0" : Str) ∉ (["thing", "k", "one"] : List Str) := by decide +kernel
theorem sc_is_row : FnScope ["thing", "k", "one"] ["thing"] (defScope s_is_row) := ⟨rfl, rfl, rfl, by decide +kernel, rfl, by decide +kernel, by decide +kernel⟩
theorem n0_check_row : (".0" : Str) ∉ (["thing"] : List Str) := by decide +kernel
theorem sc_check_row : FnScope ["thing"] ["thing"] (defScope s_check_row) := ⟨rfl, rfl, rfl, by decide +kernel, rfl, by decide +kernel, by decide +kernel⟩
theorem n0_both : (".0" : Str) ∉ (["one", "other", "found", "a", "b"] : List Str) := by decide +kernel
theorem sc_both : FnScope ["one", "other", "found", "a", "b"] ["one", "other"] (defScope s_both) := ⟨rfl, rfl, rfl, by decide +kernel, rfl, by decide +kernel, by decide +kernel⟩
theorem n0_either : (".0" : Str) ∉ (["one", "other", "found", "a", "b"] : List Str) := by decide +kernel
theorem sc_either : FnScope ["one", "other", "found", "a", "b"] ["one", "other"] (defScope s_either) := ⟨rfl, rfl, rfl, by decide +kernel, rfl, by decide +kernel, by decide +kernel⟩
theorem n0_less : (".0" : Str) ∉ (["one", "other", "found", "b", "number"] : List Str) := by decide +kernel
theorem sc_less : FnScope ["one", "other", "found", "b", "number"] ["one", "other"] (defScope s_less) := ⟨rfl, rfl, rfl, by decide +kernel, rfl, by decide +kernel, by decide +kernel⟩
theorem n0_place_of : (".0" : Str) ∉ (["row", "number", "low", "high", "middle"] : List Str) := by decide +kernel
theorem sc_place_of : FnScope ["row", "number", "low", "high", "middle"] ["row", "number"] (defScope s_place_of) := ⟨rfl, rfl, rfl, by decide +kernel, rfl, by decide +kernel, by decide +kernel⟩
theorem n0_leaped : (".0" : Str) ∉ (["row", "first", "number", "step", "looked", "low", "high", "middle"] : List Str) := by decide +kernel
theorem sc_leaped : FnScope ["row", "first", "number", "step", "looked", "low", "high", "middle"] ["row", "first", "number"] (defScope s_leaped) := ⟨rfl, rfl, rfl, by decide +kernel, rfl, by decide +kernel, by decide +kernel⟩
theorem n0_both_by_leaps : (".0" : Str) ∉ (["one", "other", "short", "long", "found", "place", "number", "looked"] : List Str) := by decide +kernel
theorem sc_both_by_leaps : FnScope ["one", "other", "short", "long", "found", "place", "number", "looked"] ["one", "other"] (defScope s_both_by_leaps) := ⟨rfl, rfl, rfl, by decide +kernel, rfl, by decide +kernel, by decide +kernel⟩
theorem n0_in_all : (".0" : Str) ∉ (["rows", "order", "found", "k"] : List Str) := by decide +kernel
theorem sc_in_all : FnScope ["rows", "order", "found", "k"] ["rows"] (defScope s_in_all) := ⟨rfl, rfl, rfl, by decide +kernel, rfl, by decide +kernel, by decide +kernel⟩
theorem n0_in_some : (".0" : Str) ∉ (["rows", "many", "table", "row", "number"] : List Str) := by decide +kernel
theorem sc_in_some : FnScope ["rows", "many", "table", "row", "number"] ["rows", "many"] (defScope s_in_some) := ⟨rfl, rfl, rfl, by decide +kernel, rfl, by decide +kernel, by decide +kernel⟩
theorem n0_spans : (".0" : Str) ∉ (["row", "found", "number"] : List Str) := by decide +kernel
theorem sc_spans : FnScope ["row", "found", "number"] ["row"] (defScope s_spans) := ⟨rfl, rfl, rfl, by decide +kernel, rfl, by decide +kernel, by decide +kernel⟩
theorem n0_nearest_pair : (".0" : Str) ∉ (["one", "other", "best", "a", "b", "gap"] : List Str) := by decide +kernel
theorem sc_nearest_pair : FnScope ["one", "other", "best", "a", "b", "gap"] ["one", "other"] (defScope s_nearest_pair) := ⟨rfl, rfl, rfl, by decide +kernel, rfl, by decide +kernel, by decide +kernel⟩
theorem n0_law_dice : (".0" : Str) ∉ (["cell"] : List Str) := by decide +kernel
theorem sc_law_dice : FnScope ["cell"] ["cell"] (defScope s_law_dice) := ⟨rfl, rfl, rfl, by decide +kernel, rfl, by decide +kernel, by decide +kernel⟩
theorem n0_law_roll : (".0" : Str) ∉ (["dice", "many", "found"] : List Str) := by decide +kernel
theorem sc_law_roll : FnScope ["dice", "many", "found"] ["dice", "many"] (defScope s_law_roll) := ⟨rfl, rfl, rfl, by decide +kernel, rfl, by decide +kernel, by decide +kernel⟩
theorem n0_law_rounds : (".0" : Str) ∉ (["script", "most", "cells", "cell"] : List Str) := by decide +kernel
theorem sc_law_rounds : FnScope ["script", "most", "cells", "cell"] ["script", "most"] (defScope s_law_rounds) := ⟨rfl, rfl, rfl, by decide +kernel, rfl, by decide +kernel, by decide +kernel⟩
theorem n0_law_row : (".0" : Str) ∉ (["dice", "most", "many", "found", "number"] : List Str) := by decide +kernel
theorem sc_law_row : FnScope ["dice", "most", "many", "found", "number"] ["dice", "most", "many"] (defScope s_law_row) := ⟨rfl, rfl, rfl, by decide +kernel, rfl, by decide +kernel, by decide +kernel⟩
theorem n0_law_spans : (".0" : Str) ∉ (["one", "flat", "rows", "low", "high", "k"] : List Str) := by decide +kernel
theorem sc_law_spans : FnScope ["one", "flat", "rows", "low", "high", "k"] ["one"] (defScope s_law_spans) := ⟨rfl, rfl, rfl, by decide +kernel, rfl, by decide +kernel, by decide +kernel⟩
theorem n0_law : (".0" : Str) ∉ (["script", "dice", "one", "two", "three", "shared", "many", "counts", "number", "place", "first", "told", "looked", "gaps", "a", "bad", "each", "often", "b", "row"] : List Str) := by decide +kernel
theorem sc_law : FnScope ["script", "dice", "one", "two", "three", "shared", "many", "counts", "number", "place", "first", "told", "looked", "gaps", "a", "bad", "each", "often", "b", "row"] ["script"] (defScope s_law) := ⟨rfl, rfl, rfl, by decide +kernel, rfl, by decide +kernel, by decide +kernel⟩
/-! ### the plain functions -/
def body_is_row : Sm := mSeq (mIfS (mNot (mTru (mIsiV "tuple" (mVar 0)))) (mRet (mC (.bl false))) (mSkip)) (mSeq (mIfS (mNot (mTru (mGenB false 2 (mGItems (mVar 0)) (mAndB (mIsi "int" (mVar 2)) (mAndB (mNotB (mIsi "bool" (mVar 2))) (mOp oGeI (mVar 2) (mC (.int 0)))))))) (mRet (mC (.bl false))) (mSkip)) (mRet (mGenB false 1 (mItemsR1 (mCons (mOp oSub (mCB oLen (mCons (mVar 0) (mNil))) (mC (.int 1))) (mNil))) (mOp oLt (mOp oIx (mVar 0) (mVar 1)) (mOp oIx (mVar 0) (mOp oAddS (mVar 1) (mC (.int 1))))))))
def den_is_row : List W → List O → Out W := mFun 3 body_is_row
def body_check_row : Sm := mIfS (mNot (mTru (mCB (fun ws h => if ws.length = 1 then den_is_row ws h else .bad) (mCons (mVar 0) (mNil))))) (mRaise 1) (mSkip)
def den_check_row : List W → List O → Out W := mFun 1 body_check_row
def body_both : Sm := mSeq (mTs [2, 3, 4] (mCons (mLst (mNil)) (mCons (mC (.int 0)) (mCons (mC (.int 0)) (mNil))))) (mSeq (mWhile 100000 (mAnd (mB (mOp oLt (mVar 3) (mCB oLen (mCons (mVar 0) (mNil))))) (mB (mOp oLt (mVar 4) (mCB oLen (mCons (mVar 1) (mNil)))))) (mSeq (mIfS (mB (mOp oEq (mOp oIx (mVar 0) (mVar 3)) (mOp oIx (mVar 1) (mVar 4)))) (mDrop (mMeth "list" oAppend (mVar 2) (mCons (mOp oIx (mVar 0) (mVar 3)) (mNil)))) (mSkip)) (mTs [3, 4] (mCons (mOp oAdd (mVar 3) (mCB oInt (mCons (mOp oLe (mOp oIx (mVar 0) (mVar 3)) (mOp oIx (mVar 1) (mVar 4))) (mNil)))) (mCons (mOp oAdd (mVar 4) (mCB oInt (mCons (mOp oLe (mOp oIx (mVar 1) (mVar 4)) (mOp oIx (mVar 0) (mVar 3))) (mNil)))) (mNil)))))) (mRet (mCB oTuple (mCons (mVar 2) (mNil)))))
def den_both : List W → List O → Out W := mFun 5 body_both
def body_either : Sm := mSeq (mTs [2, 3, 4] (mCons (mLst (mNil)) (mCons (mC (.int 0)) (mCons (mC (.int 0)) (mNil))))) (mSeq (mWhile 100000 (mOr (mB (mOp oLt (mVar 3) (mCB oLen (mCons (mVar 0) (mNil))))) (mB (mOp oLt (mVar 4) (mCB oLen (mCons (mVar 1) (mNil)))))) (mIfS (mOr (mB (mOp oEq (mVar 4) (mCB oLen (mCons (mVar 1) (mNil))))) (mAnd (mB (mOp oLt (mVar 3) (mCB oLen (mCons (mVar 0) (mNil))))) (mB (mOp oLe (mOp oIx (mVar 0) (mVar 3)) (mOp oIx (mVar 1) (mVar 4)))))) (mSeq (mIfS (mAnd (mB (mOp oLt (mVar 4) (mCB oLen (mCons (mVar 1) (mNil))))) (mB (mOp oEq (mOp oIx (mVar 0) (mVar 3)) (mOp oIx (mVar 1) (mVar 4))))) (mAug 4 oIadd (mC (.int 1))) (mSkip)) (mSeq (mDrop (mMeth "list" oAppend (mVar 2) (mCons (mOp oIx (mVar 0) (mVar 3)) (mNil)))) (mAug 3 oIadd (mC (.int 1))))) (mSeq (mDrop (mMeth "list" oAppend (mVar 2) (mCons (mOp oIx (mVar 1) (mVar 4)) (mNil)))) (mAug 4 oIadd (mC (.int 1)))))) (mRet (mCB oTuple (mCons (mVar 2) (mNil)))))
def den_either : List W → List O → Out W := mFun 5 body_either
def body_less : Sm := mSeq (mTs [2, 3] (mCons (mLst (mNil)) (mCons (mC (.int 0)) (mNil)))) (mSeq (mFor 100000 (mIter (mVar 0)) (tgN 4) (mSeq (mWhile 100000 (mAnd (mB (mOp oLt (mVar 3) (mCB oLen (mCons (mVar 1) (mNil))))) (mB (mOp oLt (mOp oIx (mVar 1) (mVar 3)) (mVar 4)))) (mAug 3 oIadd (mC (.int 1)))) (mIfS (mOr (mB (mOp oEq (mVar 3) (mCB oLen (mCons (mVar 1) (mNil))))) (mB (mOp oNe (mOp oIx (mVar 1) (mVar 3)) (mVar 4)))) (mDrop (mMeth "list" oAppend (mVar 2) (mCons (mVar 4) (mNil)))) (mSkip)))) (mRet (mCB oTuple (mCons (mVar 2) (mNil)))))
def den_less : List W → List O → Out W := mFun 5 body_less
def body_place_of : Sm := mSeq (mTs [2, 3] (mCons (mC (.int 0)) (mCons (mCB oLen (mCons (mVar 0) (mNil))) (mNil)))) (mSeq (mWhile 100000 (mB (mOp oLt (mVar 2) (mVar 3))) (mSeq (mSet 4 (mOp oFdiv (mOp oAdd (mVar 2) (mVar 3)) (mC (.int 2)))) (mIfS (mB (mOp oLt (mOp oIx (mVar 0) (mVar 4)) (mVar 1))) (mSet 2 (mOp oAdd (mVar 4) (mC (.int 1)))) (mSet 3 (mVar 4))))) (mRet (mVar 2)))
def den_place_of : List W → List O → Out W := mFun 5 body_place_of
def body_leaped : Sm := mSeq (mTs [3, 4] (mCons (mC (.int 1)) (mCons (mC (.int 0)) (mNil)))) (mSeq (mTs [5, 6] (mCons (mVar 1) (mCons (mVar 1) (mNil)))) (mSeq (mWhile 100000 (mAnd (mB (mOp oLt (mVar 6) (mCB oLen (mCons (mVar 0) (mNil))))) (mB (mOp oLt (mOp oIx (mVar 0) (mVar 6)) (mVar 2)))) (mSeq (mAug 4 oIadd (mC (.int 1))) (mSeq (mTs [5, 6] (mCons (mOp oAdd (mVar 6) (mC (.int 1))) (mCons (mOp oAdd (mVar 6) (mVar 3)) (mNil)))) (mAug 3 oImul (mC (.int 2)))))) (mSeq (mSet 6 (mCB oMin (mCons (mVar 6) (mCons (mCB oLen (mCons (mVar 0) (mNil))) (mNil))))) (mSeq (mWhile 100000 (mB (mOp oLt (mVar 5) (mVar 6))) (mSeq (mSet 7 (mOp oFdiv (mOp oAdd (mVar 5) (mVar 6)) (mC (.int 2)))) (mSeq (mAug 4 oIadd (mC (.int 1))) (mIfS (mB (mOp oLt (mOp oIx (mVar 0) (mVar 7)) (mVar 2))) (mSet 5 (mOp oAdd (mVar 7) (mC (.int 1)))) (mSet 6 (mVar 7)))))) (mRet (mTup (mCons (mVar 5) (mCons (mVar 4) (mNil)))))))))
def den_leaped : List W → List O → Out W := mFun 8 body_leaped
def body_both_by_leaps : Sm := mSeq (mAsg (tgT [2, 3]) (mIf (mB (mOp oLe (mCB oLen (mCons (mVar 0) (mNil))) (mCB oLen (mCons (mVar 1) (mNil))))) (mTup (mCons (mVar 0) (mCons (mVar 1) (mNil)))) (mTup (mCons (mVar 1) (mCons (mVar 0) (mNil)))))) (mSeq (mTs [4, 5] (mCons (mLst (mNil)) (mCons (mC (.int 0)) (mNil)))) (mSeq (mFor 100000 (mIter (mVar 2)) (tgN 6) (mSeq (mAsg (tgT [5, 7]) (mCB (pureRun den_leaped 3) (mCons (mVar 3) (mCons (mVar 5) (mCons (mVar 6) (mNil)))))) (mSeq (mIfS (mB (mOp oEq (mVar 5) (mCB oLen (mCons (mVar 3) (mNil))))) (mBrk) (mSkip)) (mIfS (mB (mOp oEq (mOp oIx (mVar 3) (mVar 5)) (mVar 6))) (mDrop (mMeth "list" oAppend (mVar 4) (mCons (mVar 6) (mNil)))) (mSkip))))) (mRet (mCB oTuple (mCons (mVar 4) (mNil))))))
def den_both_by_leaps : List W → List O → Out W := mFun 8 body_both_by_leaps
def body_in_all : Sm := mSeq (mIfS (mB (mOp oEq (mCB oLen (mCons (mVar 0) (mNil))) (mC (.int 0)))) (mRaise 1) (mSkip)) (mSeq (mSet 1 (mSortK 3 (mItemsR1 (mCons (mCB oLen (mCons (mVar 0) (mNil))) (mNil))) (mPair (mLenP (mOp oIx (mVar 0) (mVar 3))) (mVar 3)))) (mSeq (mSet 2 (mOp oIx (mVar 0) (mOp oIx (mVar 1) (mC (.int 0))))) (mSeq (mFor 100000 (mIter (mSl (mVar 1) (mPart (mC (.int 1))) (mNoPart))) (tgN 3) (mSet 2 (mCB (pureRun den_both_by_leaps 2) (mCons (mVar 2) (mCons (mOp oIx (mVar 0) (mVar 3)) (mNil)))))) (mRet (mVar 2)))))
def den_in_all : List W → List O → Out W := mFun 4 body_in_all
def body_in_some : Sm := mSeq (mSet 2 (mDict0)) (mSeq (mFor 100000 (mIter (mVar 0)) (tgN 3) (mFor 100000 (mIter (mVar 3)) (tgN 4) (mSetI oSetD (mVar 2) (mVar 4) (mOp oAdd (mDGet2 (mVar 2) (mVar 4) (mC (.int 0))) (mC (.int 1)))))) (mRet (mCB oTuple (mCons (mSorted (mItems (mLock (lkVar 2) (mComp 100000 [4] (mKeys (mVar 2)) (tgN 4) (mB (mOp oGe (mOp oIxD (mVar 2) (mVar 4)) (mVar 1))) (mVar 4))))) (mNil)))))
def den_in_some : List W → List O → Out W := mFun 5 body_in_some
def body_spans : Sm := mSeq (mSet 1 (mLst (mNil))) (mSeq (mFor 100000 (mIter (mVar 0)) (tgN 2) (mIfS (mAnd (mB (mOp oNe (mVar 1) (mLst (mNil)))) (mB (mOp oEq (mOp oIx (mOp oIx (mVar 1) (mUn oNeg (mC (.int 1)))) (mC (.int 1))) (mVar 2)))) (mSetI oSet (mVar 1) (mUn oNeg (mC (.int 1))) (mTup (mCons (mOp oIx (mOp oIx (mVar 1) (mUn oNeg (mC (.int 1)))) (mC (.int 0))) (mCons (mOp oAdd (mVar 2) (mC (.int 1))) (mNil))))) (mDrop (mMeth "list" oAppend (mVar 1) (mCons (mTup (mCons (mVar 2) (mCons (mOp oAdd (mVar 2) (mC (.int 1))) (mNil)))) (mNil)))))) (mRet (mCB oTuple (mCons (mVar 1) (mNil)))))
def den_spans : List W → List O → Out W := mFun 3 body_spans
def body_nearest_pair : Sm := mSeq (mTs [2, 3, 4] (mCons (mC .non) (mCons (mC (.int 0)) (mCons (mC (.int 0)) (mNil))))) (mSeq (mWhile 100000 (mAnd (mB (mOp oLt (mVar 3) (mCB oLen (mCons (mVar 0) (mNil))))) (mB (mOp oLt (mVar 4) (mCB oLen (mCons (mVar 1) (mNil)))))) (mSeq (mSet 5 (mCB oAbs (mCons (mOp oSub (mOp oIx (mVar 0) (mVar 3)) (mOp oIx (mVar 1) (mVar 4))) (mNil)))) (mSeq (mIfS (mOr (mB (mOp oIsN (mVar 2) (mC .non))) (mB (mOp oLt (mVar 5) (mVar 2)))) (mSet 2 (mVar 5)) (mSkip)) (mIfS (mB (mOp oLt (mOp oIx (mVar 0) (mVar 3)) (mOp oIx (mVar 1) (mVar 4)))) (mAug 3 oIadd (mC (.int 1))) (mAug 4 oIadd (mC (.int 1))))))) (mRet (mVar 2)))
def den_nearest_pair : List W → List O → Out W := mFun 6 body_nearest_pair
def body_law_dice : Sm := mSeq (mIfS (mB (mChain oLt oLt (mOp oSub (mC (.int 0)) (mC (.int 10))) (mVar 0) (mC (.int 10)))) (mRet (mLst (mCons (mCB oAbs (mCons (mVar 0) (mNil))) (mCons (mC (.int 0)) (mCons (mC (.int 2)) (mNil)))))) (mSkip)) (mRet (mLst (mCons (mVar 0) (mCons (mOp oAdd (mC (.int 1)) (mOp oMod (mCB oInt (mCons (mVar 0) (mNil))) (mC (.int 1009)))) (mCons (mCB oInt (mCons (mOp oGe (mVar 0) (mOp oPow (mC (.int 10)) (mC (.int 18)))) (mNil))) (mNil))))))
def den_law_dice : List W → List O → Out W := mFun 1 body_law_dice
def body_law_roll : Sm := mSeq (mIfS (mOr (mB (mOp oEq (mOp oIx (mVar 0) (mC (.int 2))) (mC (.int 2)))) (mAnd (mB (mOp oEq (mOp oIx (mVar 0) (mC (.int 2))) (mC (.int 1)))) (mB (mOp oGt (mOp oIx (mVar 0) (mC (.int 0))) (mC (.int 0)))))) (mSeq (mSet 2 (mOp oMod (mCB oInt (mCons (mOp oIx (mVar 0) (mC (.int 0))) (mNil))) (mVar 1))) (mSeq (mSetI oSet (mVar 0) (mC (.int 0)) (mOp oFdiv (mOp oIx (mVar 0) (mC (.int 0))) (mVar 1))) (mRet (mVar 2)))) (mSkip)) (mSeq (mSetI oSet (mVar 0) (mC (.int 2)) (mC (.int 0))) (mSeq (mSetI oSet (mVar 0) (mC (.int 0)) (mOp oMod (mCB oInt (mCons (mOp oAdd (mOp oAdd (mOp oMul (mOp oIx (mVar 0) (mC (.int 0))) (mC (.int 48271))) (mOp oMul (mOp oIx (mVar 0) (mC (.int 1))) (mC (.int 69621)))) (mC (.int 11))) (mNil))) (mC (.int 2147483647)))) (mSeq (mSetI oSet (mVar 0) (mC (.int 1)) (mOp oAdd (mOp oIx (mVar 0) (mC (.int 1))) (mC (.int 1)))) (mRet (mOp oMod (mCB oInt (mCons (mOp oAdd (mOp oFdiv (mOp oIx (mVar 0) (mC (.int 0))) (mC (.int 7))) (mOp oIx (mVar 0) (mC (.int 0)))) (mNil))) (mVar 1))))))
def den_law_roll : List W → List O → Out W := mFun 3 body_law_roll
def body_law_rounds : Sm := mSeq (mSet 2 (mSl (mVar 0) (mNoPart) (mPart (mVar 1)))) (mSeq (mIfS (mB (mOp oEq (mVar 2) (mLst (mNil)))) (mSet 2 (mLst (mCons (mC (.int 0)) (mNil)))) (mSkip)) (mRet (mComp 100000 [3] (mIter (mVar 2)) (tgN 3) (mYes) (mCB (fun ws h => if ws.length = 1 then den_law_dice ws h else .bad) (mCons (mVar 3) (mNil))))))
def den_law_rounds : List W → List O → Out W := mFun 4 body_law_rounds
def body_law_row : Sm := mSeq (mSet 3 (mLst (mNil))) (mSeq (mFor 100000 (mRng1 (mCons (mVar 1) (mNil))) (tgN 4) (mIfS (mAnd (mB (mOp oLt (mCB oLen (mCons (mVar 3) (mNil))) (mVar 2))) (mB (mOp oEq (mCB (fun ws h => if ws.length = 2 then den_law_roll ws h else .bad) (mCons (mVar 0) (mCons (mC (.int 3)) (mNil)))) (mC (.int 0))))) (mDrop (mMeth "list" oAppend (mVar 3) (mCons (mVar 4) (mNil)))) (mSkip))) (mRet (mCB oTuple (mCons (mVar 3) (mNil)))))
def den_law_row : List W → List O → Out W := mFun 5 body_law_row
def body_law_spans : Sm := mSeq (mSet 1 (mLst (mNil))) (mSeq (mSet 2 (mCB (pureRun den_spans 1) (mCons (mVar 0) (mNil)))) (mSeq (mFor 100000 (mIter (mVar 2)) (tgT [3, 4]) (mSet 1 (mOp oAdd (mVar 1) (mListR2 (mVar 3) (mVar 4))))) (mSeq (mIfS (mOr (mB (mOp oNe (mVar 1) (mCB oList (mCons (mVar 0) (mNil))))) (mB (mOp oNe (mComp 100000 [5] (mRng2 (mCons (mC (.int 1)) (mCons (mCB oLen (mCons (mVar 2) (mNil))) (mNil)))) (tgN 5) (mB (mOp oLe (mOp oIx (mOp oIx (mVar 2) (mVar 5)) (mC (.int 0))) (mOp oIx (mOp oIx (mVar 2) (mOp oSub (mVar 5) (mC (.int 1)))) (mC (.int 1))))) (mVar 5)) (mLst (mNil))))) (mRet (mC (.bl false))) (mSkip)) (mRet (mC (.bl true))))))
def den_law_spans : List W → List O → Out W := mFun 6 body_law_spans
def body_law : Sm := mSeq (mFor 100000 (mIter (mCB (fun ws h => if ws.length = 2 then den_law_rounds ws h else .bad) (mCons (mVar 0) (mCons (mC (.int 4)) (mNil))))) (tgN 1) (mSeq (mTs [2, 3, 4] (mCons (mCB (fun ws h => if ws.length = 3 then den_law_row ws h else .bad) (mCons (mVar 1) (mCons (mC (.int 30)) (mCons (mC (.int 12)) (mNil))))) (mCons (mCB (fun ws h => if ws.length = 3 then den_law_row ws h else .bad) (mCons (mVar 1) (mCons (mC (.int 30)) (mCons (mC (.int 12)) (mNil))))) (mCons (mCB (fun ws h => if ws.length = 3 then den_law_row ws h else .bad) (mCons (mVar 1) (mCons (mC (.int 30)) (mCons (mC (.int 12)) (mNil))))) (mNil))))) (mSeq (mSet 5 (mCB oTuple (mCons (mComp 100000 [8] (mIter (mVar 2)) (tgN 8) (mB (mOp oIn (mVar 8) (mVar 3))) (mVar 8)) (mNil)))) (mSeq (mIfS (mOr (mNot (mTru (mCB (fun ws h => if ws.length = 1 then den_is_row ws h else .bad) (mCons (mVar 2) (mNil))))) (mOr (mB (mOp oNe (mCB (pureRun den_both 2) (mCons (mVar 2) (mCons (mVar 3) (mNil)))) (mVar 5))) (mB (mOp oNe (mCB (pureRun den_both_by_leaps 2) (mCons (mVar 2) (mCons (mVar 3) (mNil)))) (mVar 5))))) (mRet (mC (.bl false))) (mSkip)) (mSeq (mIfS (mB (mOp oNe (mCB (pureRun den_both_by_leaps 2) (mCons (mVar 3) (mCons (mVar 2) (mNil)))) (mVar 5))) (mRet (mC (.bl false))) (mSkip)) (mSeq (mIfS (mB (mOp oNe (mCB (pureRun den_either 2) (mCons (mVar 2) (mCons (mVar 3) (mNil)))) (mCB oTuple (mCons (mComp 100000 [8] (mRng1 (mCons (mC (.int 30)) (mNil))) (tgN 8) (mOr (mB (mOp oIn (mVar 8) (mVar 2))) (mB (mOp oIn (mVar 8) (mVar 3)))) (mVar 8)) (mNil))))) (mRet (mC (.bl false))) (mSkip)) (mSeq (mIfS (mB (mOp oNe (mCB (pureRun den_less 2) (mCons (mVar 2) (mCons (mVar 3) (mNil)))) (mCB oTuple (mCons (mComp 100000 [8] (mIter (mVar 2)) (tgN 8) (mB (mOp oNotIn (mVar 8) (mVar 3))) (mVar 8)) (mNil))))) (mRet (mC (.bl false))) (mSkip)) (mSeq (mIfS (mB (mOp oNe (mCB (fun ws h => if ws.length = 1 then den_in_all ws h else .bad) (mCons (mLst (mCons (mVar 2) (mCons (mVar 3) (mCons (mVar 4) (mNil))))) (mNil))) (mCB oTuple (mCons (mComp 100000 [8] (mIter (mVar 5)) (tgN 8) (mB (mOp oIn (mVar 8) (mVar 4))) (mVar 8)) (mNil))))) (mRet (mC (.bl false))) (mSkip)) (mSeq (mSet 6 (mOp oAdd (mC (.int 1)) (mCB (fun ws h => if ws.length = 2 then den_law_roll ws h else .bad) (mCons (mVar 1) (mCons (mC (.int 3)) (mNil)))))) (mSeq (mSet 7 (mComp 100000 [8] (mRng1 (mCons (mC (.int 30)) (mNil))) (tgN 8) (mYes) (mTup (mCons (mVar 8) (mCons (mCB oLen (mCons (mComp 100000 [19] (mIter (mLst (mCons (mVar 2) (mCons (mVar 3) (mCons (mVar 4) (mNil)))))) (tgN 19) (mB (mOp oIn (mVar 8) (mVar 19))) (mVar 19)) (mNil))) (mNil)))))) (mSeq (mIfS (mB (mOp oNe (mCB (fun ws h => if ws.length = 2 then den_in_some ws h else .bad) (mCons (mLst (mCons (mVar 2) (mCons (mVar 3) (mCons (mVar 4) (mNil))))) (mCons (mVar 6) (mNil)))) (mCB oTuple (mCons (mComp 100000 [8, 17] (mIter (mVar 7)) (tgT [8, 17]) (mB (mOp oGe (mVar 17) (mVar 6))) (mVar 8)) (mNil))))) (mRet (mC (.bl false))) (mSkip)) (mSeq (mSet 8 (mCB (fun ws h => if ws.length = 2 then den_law_roll ws h else .bad) (mCons (mVar 1) (mCons (mC (.int 32)) (mNil))))) (mSeq (mSet 9 (mCB oLen (mCons (mComp 100000 [16] (mIter (mVar 2)) (tgN 16) (mB (mOp oLt (mVar 16) (mVar 8))) (mVar 16)) (mNil)))) (mSeq (mSet 10 (mCB (fun ws h => if ws.length = 2 then den_law_roll ws h else .bad) (mCons (mVar 1) (mCons (mOp oAdd (mCB oLen (mCons (mVar 2) (mNil))) (mC (.int 1))) (mNil))))) (mSeq (mAsg (tgT [11, 12]) (mCB (pureRun den_leaped 3) (mCons (mVar 2) (mCons (mVar 10) (mCons (mVar 8) (mNil)))))) (mSeq (mIfS (mOr (mB (mOp oNe (mCB (pureRun den_place_of 2) (mCons (mVar 2) (mCons (mVar 8) (mNil)))) (mVar 9))) (mOr (mB (mOp oNe (mVar 11) (mCB oMax (mCons (mVar 9) (mCons (mVar 10) (mNil)))))) (mB (mOp oLt (mVar 12) (mC (.int 0)))))) (mRet (mC (.bl false))) (mSkip)) (mSeq (mSet 13 (mLst (mNil))) (mSeq (mFor 100000 (mIter (mVar 2)) (tgN 14) (mSet 13 (mOp oAdd (mVar 13) (mComp 100000 [18] (mIter (mVar 3)) (tgN 18) (mYes) (mCB oAbs (mCons (mOp oSub (mVar 14) (mVar 18)) (mNil))))))) (mSeq (mIfS (mB (mOp oNe (mCB (pureRun den_nearest_pair 2) (mCons (mVar 2) (mCons (mVar 3) (mNil)))) (mIf (mB (mOp oNe (mVar 13) (mLst (mNil)))) (mCB oMin (mCons (mVar 13) (mNil))) (mC .non)))) (mRet (mC (.bl false))) (mSkip)) (mSeq (mIfS (mNot (mTru (mCB (pureRun den_law_spans 1) (mCons (mVar 2) (mNil))))) (mRet (mC (.bl false))) (mSkip)) (mSeq (mFor 100000 (mIter (mLst (mCons (mTup (mCons (mC (.int 1)) (mCons (mC (.int 1)) (mNil)))) (mCons (mTup (mCons (mC (.int 2)) (mCons (mC (.int 1)) (mNil)))) (mCons (mTup (mCons (mOp oSub (mC (.int 0)) (mC (.int 1))) (mNil))) (mCons (mTup (mCons (mC (.bl true)) (mNil))) (mCons (mLst (mCons (mC (.int 1)) (mNil))) (mCons (mC .non) (mNil))))))))) (tgN 15) (mIfS (mOr (mTru (mCB (fun ws h => if ws.length = 1 then den_is_row ws h else .bad) (mCons (mVar 15) (mNil)))) (mB (mOp oNe (mTold [(1, [116, 101, 120, 116]), (2, [110, 111, 110, 101])] (mCB (fun ws h => if ws.length = 1 then den_check_row ws h else .bad) (mCons (mVar 15) (mNil)))) (mC (.str [116, 101, 120, 116]))))) (mRet (mC (.bl false))) (mSkip))) (mIfS (mB (mOp oNe (mTold [(1, [116, 101, 120, 116]), (2, [110, 111, 110, 101])] (mCB (fun ws h => if ws.length = 1 then den_in_all ws h else .bad) (mCons (mLst (mNil)) (mNil)))) (mC (.str [116, 101, 120, 116])))) (mRet (mC (.bl false))) (mSkip))))))))))))))))))))))) (mRet (mC (.bl true)))
def den_law : List W → List O → Out W := mFun 20 body_law
/-! ### what the top holds -/
structure Txt (K : PySem.W.Frag) (mg : Str → Option Value) (G : Gx) (C_BadText C_NoSuch : Addr) : Prop where
  b_abs : mg "abs" = none
  b_all : mg "all" = none
  b_bool : mg "bool" = none
  b_int : mg "int" = none
  b_isinstance : mg "isinstance" = none
  b_len : mg "len" = none
  b_list : mg "list" = none
  b_max : mg "max" = none
  b_min : mg "min" = none
  b_range : mg "range" = none
  b_sorted : mg "sorted" = none
  b_tuple : mg "tuple" = none
  x_BadText : ExD K mg G "BadText" 1 C_BadText
  x_NoSuch : ExD K mg G "NoSuch" 2 C_NoSuch
section
variable {P : Program} {w : World} {K : PySem.W.Frag} {mg : Str → Option Value} {base : Heap} {G : Gx} {C_BadText C_NoSuch : Addr}
def hds_law_told : List ExceptHandler := match (defBody s_law_told) with | [.Try _ hs _ _ _] => hs | _ => []
theorem tells_law_told (T : Txt K mg G C_BadText C_NoSuch) : Tells (defScope s_law_told) mg (hds_law_told) [(.ref C_BadText, "text"), (.ref C_NoSuch, "none")] := .cons rfl (by decide) T.x_BadText.mg (.cons rfl (by decide) T.x_NoSuch.mg (.nil))
theorem tellN_law_told (T : Txt K mg G C_BadText C_NoSuch) (X_ : ∀ c C, G.ca c = some C → ∀ c' C', G.ca c' = some C' → PySem.W.exmOne K (.ref C) (.ref C') = some (decide (c' = c))) : TellN K G [(.ref C_BadText, "text"), (.ref C_NoSuch, "none")] [(1, [116, 101, 120, 116]), (2, [110, 111, 110, 101])] := tellN_cons (by decide +kernel) (fun c C h => X_ c C h 1 C_BadText T.x_BadText.ca) (tellN_cons (by decide +kernel) (fun c C h => X_ c C h 2 C_NoSuch T.x_NoSuch.ca) (tellN_nil))
theorem d_is_row {f c_is_row P_is_row : Addr} {oc : Value} {od an : Option Addr} {osl : Array (Option Value)} {kV doc pm ct : Value} (T : Txt K mg G C_BadText C_NoSuch) (lk : K.lookup f = some ⟨oc, od, .func (PySem.W.fnOf "is_row" "is_row" (defArgs s_is_row) (defBody s_is_row) (defScope s_is_row) .none kV doc pm an (.ref c_is_row) ct), osl⟩) (hcd : PySem.W.codeIn K (.ref c_is_row) "is_row" = true) (kp : PySem.W.keepIn K (.ref f) = true) (g : mg "is_row" = some (.ref f))  (TB_is_row : LamX.TabB base mg c_is_row P_is_row) (hmT_is_row : (P_is_row, ("is_row" ++ ".<locals>.<genexpr>" : Str)) ∈ G.T) (huT_is_row : ∀ p ∈ G.T, p.1 = P_is_row → p.2 = ("is_row" ++ ".<locals>.<genexpr>" : Str))  : FnD P w K mg base G 1 "is_row" 1 den_is_row :=
  fn_denC (N := ["thing", "k", "one"]) (ps := ["thing"]) (k := 0) lk hcd kp sc_is_row g ((fun_mk lk hcd kp).binds (ps := ["thing"]) fun _ _ _ _ _ _ us hl => match us, hl with | [_], _ => rfl) fun A outer s H E hr0 => have hu0 := hr0.units; have hu1 := room65 hr0
    sss_cons (ss_if (st_not (st_tru (se_isi (se_var 0) rfl T.b_isinstance rfl T.b_tuple))) (sss_one (ss_ret (se_bl))) (sss_nil))
    (sss_cons (ss_if (st_not (st_tru (se_genB (slot := 2) (.inr ⟨rfl, rfl⟩) (sg_seq (se_var 0)) hr0 rfl T.b_all sc_is_row.nd rfl n0_is_row TB_is_row rfl hmT_is_row huT_is_row (genP_by (sc := defScope s_is_row) (by decide +kernel)) (sp_and (sp_isi (sp_var 2) rfl T.b_isinstance rfl T.b_int (by decide +kernel)) (sp_and (sp_not (sp_isi (sp_var 2) rfl T.b_isinstance rfl T.b_bool (by decide +kernel))) (sp_one (sp_cmp pxo_ge ob_ge (sp_var 2) (sp_int)))))))) (sss_one (ss_ret (se_bl))) (sss_nil))
    (sss_one (ss_ret (se_genB (slot := 1) (.inr ⟨rfl, rfl⟩) (sg_items (sit_rng1 (sa_cons (se_op ops_sub (se_callB cas_len rfl T.b_len (by decide +kernel) (sa_cons (se_var 0) (sa_nil))) (se_int)) (sa_nil)) rfl T.b_range)) hr0 rfl T.b_all sc_is_row.nd rfl n0_is_row TB_is_row rfl hmT_is_row huT_is_row (genP_by (sc := defScope s_is_row) (by decide +kernel)) (sp_cmp pxo_lt ob_lt (sp_ix (sp_var 0) (sp_var 1)) (sp_ix (sp_var 0) (sp_op pxo_add ob_add (sp_var 1) (sp_int))))))))
theorem d_check_row {f : Addr} {fd : FuncData} (T : Txt K mg G C_BadText C_NoSuch) (F : Fun K "check_row" "check_row" s_check_row f fd) (g : mg "check_row" = some (.ref f)) (D_is_row : FnD P w K mg base G 1 "is_row" 1 den_is_row) : FnD P w K mg base G 2 "check_row" 1 den_check_row :=
  fn_den (N := ["thing"]) (ps := ["thing"]) (k := 1) F sc_check_row g (F.binds (ps := ["thing"]) fun _ _ _ _ _ _ us hl => match us, hl with | [_], _ => rfl) fun cdv A outer s H E hr0 => have hu0 := hr0.units; have hu1 := room65 hr0
    sss_one (ss_if (st_not (st_tru (se_call D_is_row hr0 (by decide) rfl (sa_cons (se_var 0) (sa_nil))))) (sss_one (ss_raise T.x_BadText rfl)) (sss_nil))
theorem d_both {f : Addr} {fd : FuncData} (T : Txt K mg G C_BadText C_NoSuch) (F : Fun K "both" "both" s_both f fd) (g : mg "both" = some (.ref f))  : FnD P w K mg base G 1 "both" 2 den_both :=
  fn_den (N := ["one", "other", "found", "a", "b"]) (ps := ["one", "other"]) (k := 0) F sc_both g (F.binds (ps := ["one", "other"]) fun _ _ _ _ _ _ us hl => match us, hl with | [_, _], _ => rfl) fun cdv A outer s H E hr0 => have hu0 := hr0.units; have hu1 := room65 hr0
    sss_cons (ss_par3 rfl sc_both.nd rfl rfl rfl (by decide) (by decide) (by decide) rfl rfl rfl (sa_cons (se_lst (sa_nil)) (sa_cons (se_int) (sa_cons (se_int) (sa_nil)))) rfl)
    (sss_cons (ss_while (passes_of rfl) (st_w (sw_and (st_cmp ops_lt (se_var 3) (se_callB cas_len rfl T.b_len (by decide +kernel) (sa_cons (se_var 0) (sa_nil)))) (sw_and1 (st_cmp ops_lt (se_var 4) (se_callB cas_len rfl T.b_len (by decide +kernel) (sa_cons (se_var 1) (sa_nil))))))) (sss_cons (ss_if (st_cmp (ops_eq hu0) (se_ix (se_var 0) (se_var 3)) (se_ix (se_var 1) (se_var 4))) (sss_one (ss_expr (se_meth PySem.F.plainAttrs_list PySem.F.slot_list_append PySem.F.type_list_append mes_append (se_var 2) (sa_cons (se_ix (se_var 0) (se_var 3)) (sa_nil))))) (sss_nil))
    (sss_one (ss_par rfl sc_both.nd rfl rfl (by decide) rfl rfl (sa_cons (se_op ops_add (se_var 3) (se_callTy cas_int rfl T.b_int (by decide +kernel) (sa_cons (se_cmp ops_le (se_ix (se_var 0) (se_var 3)) (se_ix (se_var 1) (se_var 4))) (sa_nil)))) (sa_cons (se_op ops_add (se_var 4) (se_callTy cas_int rfl T.b_int (by decide +kernel) (sa_cons (se_cmp ops_le (se_ix (se_var 1) (se_var 4)) (se_ix (se_var 0) (se_var 3))) (sa_nil)))) (sa_nil))) rfl))))
    (sss_one (ss_ret (se_callTy cas_tuple rfl T.b_tuple (by decide +kernel) (sa_cons (se_var 2) (sa_nil))))))
theorem d_either {f : Addr} {fd : FuncData} (T : Txt K mg G C_BadText C_NoSuch) (F : Fun K "either" "either" s_either f fd) (g : mg "either" = some (.ref f))  : FnD P w K mg base G 1 "either" 2 den_either :=
  fn_den (N := ["one", "other", "found", "a", "b"]) (ps := ["one", "other"]) (k := 0) F sc_either g (F.binds (ps := ["one", "other"]) fun _ _ _ _ _ _ us hl => match us, hl with | [_, _], _ => rfl) fun cdv A outer s H E hr0 => have hu0 := hr0.units; have hu1 := room65 hr0
    sss_cons (ss_par3 rfl sc_either.nd rfl rfl rfl (by decide) (by decide) (by decide) rfl rfl rfl (sa_cons (se_lst (sa_nil)) (sa_cons (se_int) (sa_cons (se_int) (sa_nil)))) rfl)
    (sss_cons (ss_while (passes_of rfl) (st_w (sw_or (st_cmp ops_lt (se_var 3) (se_callB cas_len rfl T.b_len (by decide +kernel) (sa_cons (se_var 0) (sa_nil)))) (sw_or1 (st_cmp ops_lt (se_var 4) (se_callB cas_len rfl T.b_len (by decide +kernel) (sa_cons (se_var 1) (sa_nil))))))) (sss_one (ss_if (st_w (sw_or (st_cmp (ops_eq hu0) (se_var 4) (se_callB cas_len rfl T.b_len (by decide +kernel) (sa_cons (se_var 1) (sa_nil)))) (sw_or1 (st_w (sw_and (st_cmp ops_lt (se_var 3) (se_callB cas_len rfl T.b_len (by decide +kernel) (sa_cons (se_var 0) (sa_nil)))) (sw_and1 (st_cmp ops_le (se_ix (se_var 0) (se_var 3)) (se_ix (se_var 1) (se_var 4))))))))) (sss_cons (ss_if (st_w (sw_and (st_cmp ops_lt (se_var 4) (se_callB cas_len rfl T.b_len (by decide +kernel) (sa_cons (se_var 1) (sa_nil)))) (sw_and1 (st_cmp (ops_eq hu0) (se_ix (se_var 0) (se_var 3)) (se_ix (se_var 1) (se_var 4)))))) (sss_one (ss_aug (i := 4) sc_either.nd rfl (by first | exact Or.inl rfl | exact Or.inr rfl) ips_add (se_int))) (sss_nil))
    (sss_cons (ss_expr (se_meth PySem.F.plainAttrs_list PySem.F.slot_list_append PySem.F.type_list_append mes_append (se_var 2) (sa_cons (se_ix (se_var 0) (se_var 3)) (sa_nil))))
    (sss_one (ss_aug (i := 3) sc_either.nd rfl (by first | exact Or.inl rfl | exact Or.inr rfl) ips_add (se_int))))) (sss_cons (ss_expr (se_meth PySem.F.plainAttrs_list PySem.F.slot_list_append PySem.F.type_list_append mes_append (se_var 2) (sa_cons (se_ix (se_var 1) (se_var 4)) (sa_nil))))
    (sss_one (ss_aug (i := 4) sc_either.nd rfl (by first | exact Or.inl rfl | exact Or.inr rfl) ips_add (se_int)))))))
    (sss_one (ss_ret (se_callTy cas_tuple rfl T.b_tuple (by decide +kernel) (sa_cons (se_var 2) (sa_nil))))))
theorem d_less {f : Addr} {fd : FuncData} (T : Txt K mg G C_BadText C_NoSuch) (F : Fun K "less" "less" s_less f fd) (g : mg "less" = some (.ref f))  : FnD P w K mg base G 1 "less" 2 den_less :=
  fn_den (N := ["one", "other", "found", "b", "number"]) (ps := ["one", "other"]) (k := 0) F sc_less g (F.binds (ps := ["one", "other"]) fun _ _ _ _ _ _ us hl => match us, hl with | [_, _], _ => rfl) fun cdv A outer s H E hr0 => have hu0 := hr0.units; have hu1 := room65 hr0
    sss_cons (ss_par rfl sc_less.nd rfl rfl (by decide) rfl rfl (sa_cons (se_lst (sa_nil)) (sa_cons (se_int) (sa_nil))) rfl)
    (sss_cons (ss_for (passes_of rfl) (si_seq (se_var 0)) (pg_name (i := 4) sc_less.nd rfl (by first | exact Or.inl rfl | exact Or.inr rfl)) (tgk_name (i := 4) (vs := [4])) (sss_cons (ss_while (passes_of rfl) (st_w (sw_and (st_cmp ops_lt (se_var 3) (se_callB cas_len rfl T.b_len (by decide +kernel) (sa_cons (se_var 1) (sa_nil)))) (sw_and1 (st_cmp ops_lt (se_ix (se_var 1) (se_var 3)) (se_var 4))))) (sss_one (ss_aug (i := 3) sc_less.nd rfl (by first | exact Or.inl rfl | exact Or.inr rfl) ips_add (se_int))))
    (sss_one (ss_if (st_w (sw_or (st_cmp (ops_eq hu0) (se_var 3) (se_callB cas_len rfl T.b_len (by decide +kernel) (sa_cons (se_var 1) (sa_nil)))) (sw_or1 (st_cmp (ops_ne hu0) (se_ix (se_var 1) (se_var 3)) (se_var 4))))) (sss_one (ss_expr (se_meth PySem.F.plainAttrs_list PySem.F.slot_list_append PySem.F.type_list_append mes_append (se_var 2) (sa_cons (se_var 4) (sa_nil))))) (sss_nil)))))
    (sss_one (ss_ret (se_callTy cas_tuple rfl T.b_tuple (by decide +kernel) (sa_cons (se_var 2) (sa_nil))))))
theorem d_place_of {f : Addr} {fd : FuncData} (T : Txt K mg G C_BadText C_NoSuch) (F : Fun K "place_of" "place_of" s_place_of f fd) (g : mg "place_of" = some (.ref f))  : FnD P w K mg base G 1 "place_of" 2 den_place_of :=
  fn_den (N := ["row", "number", "low", "high", "middle"]) (ps := ["row", "number"]) (k := 0) F sc_place_of g (F.binds (ps := ["row", "number"]) fun _ _ _ _ _ _ us hl => match us, hl with | [_, _], _ => rfl) fun cdv A outer s H E hr0 => have hu0 := hr0.units; have hu1 := room65 hr0
    sss_cons (ss_par rfl sc_place_of.nd rfl rfl (by decide) rfl rfl (sa_cons (se_int) (sa_cons (se_callB cas_len rfl T.b_len (by decide +kernel) (sa_cons (se_var 0) (sa_nil))) (sa_nil))) rfl)
    (sss_cons (ss_while (passes_of rfl) (st_cmp ops_lt (se_var 2) (se_var 3)) (sss_cons (ss_set (i := 4) sc_place_of.nd rfl (by first | exact Or.inl rfl | exact Or.inr rfl) (se_op ops_fdiv (se_op ops_add (se_var 2) (se_var 3)) (se_int)))
    (sss_one (ss_if (st_cmp ops_lt (se_ix (se_var 0) (se_var 4)) (se_var 1)) (sss_one (ss_set (i := 2) sc_place_of.nd rfl (by first | exact Or.inl rfl | exact Or.inr rfl) (se_op ops_add (se_var 4) (se_int)))) (sss_one (ss_set (i := 3) sc_place_of.nd rfl (by first | exact Or.inl rfl | exact Or.inr rfl) (se_var 4)))))))
    (sss_one (ss_ret (se_var 2))))
theorem d_leaped {f : Addr} {fd : FuncData} (T : Txt K mg G C_BadText C_NoSuch) (F : Fun K "leaped" "leaped" s_leaped f fd) (g : mg "leaped" = some (.ref f))  : FnD P w K mg base G 1 "leaped" 3 den_leaped :=
  fn_den (N := ["row", "first", "number", "step", "looked", "low", "high", "middle"]) (ps := ["row", "first", "number"]) (k := 0) F sc_leaped g (F.binds (ps := ["row", "first", "number"]) fun _ _ _ _ _ _ us hl => match us, hl with | [_, _, _], _ => rfl) fun cdv A outer s H E hr0 => have hu0 := hr0.units; have hu1 := room65 hr0
    sss_cons (ss_asgT (is := [3, 4]) (se_tup (sa_cons (se_int) (sa_cons (se_int) (sa_nil)))) (pg_tup rfl (pgs_cons (pg_name (i := 3) sc_leaped.nd rfl (by first | exact Or.inl rfl | exact Or.inr rfl)) (pgs_cons (pg_name (i := 4) sc_leaped.nd rfl (by first | exact Or.inl rfl | exact Or.inr rfl)) (pgs_nil)))) (tgk_tups (is := [3, 4]) (vs := [3, 4])) (by decide))
    (sss_cons (ss_par rfl sc_leaped.nd rfl rfl (by decide) rfl rfl (sa_cons (se_var 1) (sa_cons (se_var 1) (sa_nil))) rfl)
    (sss_cons (ss_while (passes_of rfl) (st_w (sw_and (st_cmp ops_lt (se_var 6) (se_callB cas_len rfl T.b_len (by decide +kernel) (sa_cons (se_var 0) (sa_nil)))) (sw_and1 (st_cmp ops_lt (se_ix (se_var 0) (se_var 6)) (se_var 2))))) (sss_cons (ss_aug (i := 4) sc_leaped.nd rfl (by first | exact Or.inl rfl | exact Or.inr rfl) ips_add (se_int))
    (sss_cons (ss_par rfl sc_leaped.nd rfl rfl (by decide) rfl rfl (sa_cons (se_op ops_add (se_var 6) (se_int)) (sa_cons (se_op ops_add (se_var 6) (se_var 3)) (sa_nil))) rfl)
    (sss_one (ss_aug (i := 3) sc_leaped.nd rfl (by first | exact Or.inl rfl | exact Or.inr rfl) ips_mul (se_int))))))
    (sss_cons (ss_set (i := 6) sc_leaped.nd rfl (by first | exact Or.inl rfl | exact Or.inr rfl) (se_callB (cas_min rfl hu0) rfl T.b_min (by decide +kernel) (sa_cons (se_var 6) (sa_cons (se_callB cas_len rfl T.b_len (by decide +kernel) (sa_cons (se_var 0) (sa_nil))) (sa_nil)))))
    (sss_cons (ss_while (passes_of rfl) (st_cmp ops_lt (se_var 5) (se_var 6)) (sss_cons (ss_set (i := 7) sc_leaped.nd rfl (by first | exact Or.inl rfl | exact Or.inr rfl) (se_op ops_fdiv (se_op ops_add (se_var 5) (se_var 6)) (se_int)))
    (sss_cons (ss_aug (i := 4) sc_leaped.nd rfl (by first | exact Or.inl rfl | exact Or.inr rfl) ips_add (se_int))
    (sss_one (ss_if (st_cmp ops_lt (se_ix (se_var 0) (se_var 7)) (se_var 2)) (sss_one (ss_set (i := 5) sc_leaped.nd rfl (by first | exact Or.inl rfl | exact Or.inr rfl) (se_op ops_add (se_var 7) (se_int)))) (sss_one (ss_set (i := 6) sc_leaped.nd rfl (by first | exact Or.inl rfl | exact Or.inr rfl) (se_var 7))))))))
    (sss_one (ss_ret (se_tup (sa_cons (se_var 5) (sa_cons (se_var 4) (sa_nil))))))))))
theorem d_both_by_leaps {f : Addr} {fd : FuncData} (T : Txt K mg G C_BadText C_NoSuch) (F : Fun K "both_by_leaps" "both_by_leaps" s_both_by_leaps f fd) (g : mg "both_by_leaps" = some (.ref f)) (D_leaped : FnD P w K mg base G 1 "leaped" 3 den_leaped) : FnD P w K mg base G 2 "both_by_leaps" 2 den_both_by_leaps :=
  fn_den (N := ["one", "other", "short", "long", "found", "place", "number", "looked"]) (ps := ["one", "other"]) (k := 1) F sc_both_by_leaps g (F.binds (ps := ["one", "other"]) fun _ _ _ _ _ _ us hl => match us, hl with | [_, _], _ => rfl) fun cdv A outer s H E hr0 => have hu0 := hr0.units; have hu1 := room65 hr0
    sss_cons (ss_asg (se_ife (st_cmp ops_le (se_callB cas_len rfl T.b_len (by decide +kernel) (sa_cons (se_var 0) (sa_nil))) (se_callB cas_len rfl T.b_len (by decide +kernel) (sa_cons (se_var 1) (sa_nil)))) (se_tup (sa_cons (se_var 0) (sa_cons (se_var 1) (sa_nil)))) (se_tup (sa_cons (se_var 1) (sa_cons (se_var 0) (sa_nil))))) (pg_tup rfl (pgs_cons (pg_name (i := 2) sc_both_by_leaps.nd rfl (by first | exact Or.inl rfl | exact Or.inr rfl)) (pgs_cons (pg_name (i := 3) sc_both_by_leaps.nd rfl (by first | exact Or.inl rfl | exact Or.inr rfl)) (pgs_nil)))) (tgk_tups (is := [2, 3]) (vs := [2, 3])))
    (sss_cons (ss_par rfl sc_both_by_leaps.nd rfl rfl (by decide) rfl rfl (sa_cons (se_lst (sa_nil)) (sa_cons (se_int) (sa_nil))) rfl)
    (sss_cons (ss_for (passes_of rfl) (si_seq (se_var 2)) (pg_name (i := 6) sc_both_by_leaps.nd rfl (by first | exact Or.inl rfl | exact Or.inr rfl)) (tgk_name (i := 6) (vs := [6])) (sss_cons (ss_asg (se_callP D_leaped hr0 (by decide) rfl (sa_cons (se_var 3) (sa_cons (se_var 5) (sa_cons (se_var 6) (sa_nil))))) (pg_tup rfl (pgs_cons (pg_name (i := 5) sc_both_by_leaps.nd rfl (by first | exact Or.inl rfl | exact Or.inr rfl)) (pgs_cons (pg_name (i := 7) sc_both_by_leaps.nd rfl (by first | exact Or.inl rfl | exact Or.inr rfl)) (pgs_nil)))) (tgk_tups (is := [5, 7]) (vs := [5, 7])))
    (sss_cons (ss_if (st_cmp (ops_eq hu0) (se_var 5) (se_callB cas_len rfl T.b_len (by decide +kernel) (sa_cons (se_var 3) (sa_nil)))) (sss_one (ss_break)) (sss_nil))
    (sss_one (ss_if (st_cmp (ops_eq hu0) (se_ix (se_var 3) (se_var 5)) (se_var 6)) (sss_one (ss_expr (se_meth PySem.F.plainAttrs_list PySem.F.slot_list_append PySem.F.type_list_append mes_append (se_var 4) (sa_cons (se_var 6) (sa_nil))))) (sss_nil))))))
    (sss_one (ss_ret (se_callTy cas_tuple rfl T.b_tuple (by decide +kernel) (sa_cons (se_var 4) (sa_nil)))))))
theorem d_in_all {f c_in_all P_in_all : Addr} {oc : Value} {od an : Option Addr} {osl : Array (Option Value)} {kV doc pm ct : Value} (T : Txt K mg G C_BadText C_NoSuch) (lk : K.lookup f = some ⟨oc, od, .func (PySem.W.fnOf "in_all" "in_all" (defArgs s_in_all) (defBody s_in_all) (defScope s_in_all) .none kV doc pm an (.ref c_in_all) ct), osl⟩) (hcd : PySem.W.codeIn K (.ref c_in_all) "in_all" = true) (kp : PySem.W.keepIn K (.ref f) = true) (g : mg "in_all" = some (.ref f))  (TB_in_all : LamX.TabB base mg c_in_all P_in_all) (hmT_in_all : (P_in_all, ("in_all" ++ ".<locals>.<lambda>" : Str)) ∈ G.T) (huT_in_all : ∀ p ∈ G.T, p.1 = P_in_all → p.2 = ("in_all" ++ ".<locals>.<lambda>" : Str)) (D_both_by_leaps : FnD P w K mg base G 2 "both_by_leaps" 2 den_both_by_leaps) : FnD P w K mg base G 3 "in_all" 1 den_in_all :=
  fn_denC (N := ["rows", "order", "found", "k"]) (ps := ["rows"]) (k := 2) lk hcd kp sc_in_all g ((fun_mk lk hcd kp).binds (ps := ["rows"]) fun _ _ _ _ _ _ us hl => match us, hl with | [_], _ => rfl) fun A outer s H E hr0 => have hu0 := hr0.units; have hu1 := room65 hr0
    sss_cons (ss_if (st_cmp (ops_eq hu0) (se_callB cas_len rfl T.b_len (by decide +kernel) (sa_cons (se_var 0) (sa_nil))) (se_int)) (sss_one (ss_raise T.x_BadText rfl)) (sss_nil))
    (sss_cons (ss_set (i := 1) sc_in_all.nd rfl (by first | exact Or.inl rfl | exact Or.inr rfl) (se_sortK (slot := 3) (sit_rng1 (sa_cons (se_callB cas_len rfl T.b_len (by decide +kernel) (sa_cons (se_var 0) (sa_nil))) (sa_nil)) rfl T.b_range) rfl hr0 rfl T.b_sorted sc_in_all.nd rfl TB_in_all rfl hmT_in_all huT_in_all (lamP_by (sc := defScope s_in_all) (by decide +kernel)) rfl (fun _ _ _ _ _ _ => rfl) (sp_pair (sp_len (sp_ix (sp_var 0) (sp_var 3)) rfl T.b_len) (sp_var 3))))
    (sss_cons (ss_set (i := 2) sc_in_all.nd rfl (by first | exact Or.inl rfl | exact Or.inr rfl) (se_ix (se_var 0) (se_ix (se_var 1) (se_int))))
    (sss_cons (ss_for (passes_of rfl) (si_seq (se_sl (se_var 1) (so_some (se_int)) (so_none))) (pg_name (i := 3) sc_in_all.nd rfl (by first | exact Or.inl rfl | exact Or.inr rfl)) (tgk_name (i := 3) (vs := [3])) (sss_one (ss_set (i := 2) sc_in_all.nd rfl (by first | exact Or.inl rfl | exact Or.inr rfl) (se_callP D_both_by_leaps hr0 (by decide) rfl (sa_cons (se_var 2) (sa_cons (se_ix (se_var 0) (se_var 3)) (sa_nil)))))))
    (sss_one (ss_ret (se_var 2))))))
theorem d_in_some {f : Addr} {fd : FuncData} (T : Txt K mg G C_BadText C_NoSuch) (F : Fun K "in_some" "in_some" s_in_some f fd) (g : mg "in_some" = some (.ref f))  : FnD P w K mg base G 1 "in_some" 2 den_in_some :=
  fn_den (N := ["rows", "many", "table", "row", "number"]) (ps := ["rows", "many"]) (k := 0) F sc_in_some g (F.binds (ps := ["rows", "many"]) fun _ _ _ _ _ _ us hl => match us, hl with | [_, _], _ => rfl) fun cdv A outer s H E hr0 => have hu0 := hr0.units; have hu1 := room65 hr0
    sss_cons (ss_set (i := 2) sc_in_some.nd rfl (by first | exact Or.inl rfl | exact Or.inr rfl) (se_dict0))
    (sss_cons (ss_for (passes_of rfl) (si_seq (se_var 0)) (pg_name (i := 3) sc_in_some.nd rfl (by first | exact Or.inl rfl | exact Or.inr rfl)) (tgk_name (i := 3) (vs := [3])) (sss_one (ss_for (passes_of rfl) (si_seq (se_var 3)) (pg_name (i := 4) sc_in_some.nd rfl (by first | exact Or.inl rfl | exact Or.inr rfl)) (tgk_name (i := 4) (vs := [4])) (sss_one (ss_seti (sets_dict (units1 hu0)) (se_var 2) (se_var 4) (se_op ops_add (se_dget2 (units1 hu0) (se_var 2) (se_var 4) (se_int)) (se_int)))))))
    (sss_one (ss_ret (se_callTy cas_tuple rfl T.b_tuple (by decide +kernel) (sa_cons (se_sortedI (sit_seq (se_lock (se_lc (n := 100000) (own := [("number", 4)]) sc_in_some.nd (si_keys (se_var 2)) (blkOk_by (N := ["rows", "many", "table", "row", "number"]) (sc := (defScope s_in_some)) (by decide +kernel)) (fun _ _ _ _ _ => pg_name (i := 4) sc_in_some.nd rfl (by first | exact Or.inl rfl | exact Or.inr rfl)) (tgk_name (i := 4) (vs := [4])) (fun _ _ _ _ _ => sts_one (st_cmp ops_ge (se_ixD (units1 hu0) (se_var 2) (se_var 4)) (se_var 1))) (fun _ _ _ _ _ => se_var 4)))) rfl hu0 rfl T.b_sorted) (sa_nil))))))
theorem d_spans {f : Addr} {fd : FuncData} (T : Txt K mg G C_BadText C_NoSuch) (F : Fun K "spans" "spans" s_spans f fd) (g : mg "spans" = some (.ref f))  : FnD P w K mg base G 1 "spans" 1 den_spans :=
  fn_den (N := ["row", "found", "number"]) (ps := ["row"]) (k := 0) F sc_spans g (F.binds (ps := ["row"]) fun _ _ _ _ _ _ us hl => match us, hl with | [_], _ => rfl) fun cdv A outer s H E hr0 => have hu0 := hr0.units; have hu1 := room65 hr0
    sss_cons (ss_set (i := 1) sc_spans.nd rfl (by first | exact Or.inl rfl | exact Or.inr rfl) (se_lst (sa_nil)))
    (sss_cons (ss_for (passes_of rfl) (si_seq (se_var 0)) (pg_name (i := 2) sc_spans.nd rfl (by first | exact Or.inl rfl | exact Or.inr rfl)) (tgk_name (i := 2) (vs := [2])) (sss_one (ss_if (st_w (sw_and (st_cmp (ops_ne hu0) (se_var 1) (se_lst (sa_nil))) (sw_and1 (st_cmp (ops_eq hu0) (se_ix (se_ix (se_var 1) (se_un uns_neg (se_int))) (se_int)) (se_var 2))))) (sss_one (ss_seti sets_list (se_var 1) (se_un uns_neg (se_int)) (se_tup (sa_cons (se_ix (se_ix (se_var 1) (se_un uns_neg (se_int))) (se_int)) (sa_cons (se_op ops_add (se_var 2) (se_int)) (sa_nil)))))) (sss_one (ss_expr (se_meth PySem.F.plainAttrs_list PySem.F.slot_list_append PySem.F.type_list_append mes_append (se_var 1) (sa_cons (se_tup (sa_cons (se_var 2) (sa_cons (se_op ops_add (se_var 2) (se_int)) (sa_nil)))) (sa_nil))))))))
    (sss_one (ss_ret (se_callTy cas_tuple rfl T.b_tuple (by decide +kernel) (sa_cons (se_var 1) (sa_nil))))))
theorem d_nearest_pair {f : Addr} {fd : FuncData} (T : Txt K mg G C_BadText C_NoSuch) (F : Fun K "nearest_pair" "nearest_pair" s_nearest_pair f fd) (g : mg "nearest_pair" = some (.ref f))  : FnD P w K mg base G 1 "nearest_pair" 2 den_nearest_pair :=
  fn_den (N := ["one", "other", "best", "a", "b", "gap"]) (ps := ["one", "other"]) (k := 0) F sc_nearest_pair g (F.binds (ps := ["one", "other"]) fun _ _ _ _ _ _ us hl => match us, hl with | [_, _], _ => rfl) fun cdv A outer s H E hr0 => have hu0 := hr0.units; have hu1 := room65 hr0
    sss_cons (ss_asgT (is := [2, 3, 4]) (se_tup (sa_cons (se_non) (sa_cons (se_int) (sa_cons (se_int) (sa_nil))))) (pg_tup rfl (pgs_cons (pg_name (i := 2) sc_nearest_pair.nd rfl (by first | exact Or.inl rfl | exact Or.inr rfl)) (pgs_cons (pg_name (i := 3) sc_nearest_pair.nd rfl (by first | exact Or.inl rfl | exact Or.inr rfl)) (pgs_cons (pg_name (i := 4) sc_nearest_pair.nd rfl (by first | exact Or.inl rfl | exact Or.inr rfl)) (pgs_nil))))) (tgk_tups (is := [2, 3, 4]) (vs := [2, 3, 4])) (by decide))
    (sss_cons (ss_while (passes_of rfl) (st_w (sw_and (st_cmp ops_lt (se_var 3) (se_callB cas_len rfl T.b_len (by decide +kernel) (sa_cons (se_var 0) (sa_nil)))) (sw_and1 (st_cmp ops_lt (se_var 4) (se_callB cas_len rfl T.b_len (by decide +kernel) (sa_cons (se_var 1) (sa_nil))))))) (sss_cons (ss_set (i := 5) sc_nearest_pair.nd rfl (by first | exact Or.inl rfl | exact Or.inr rfl) (se_callB cas_abs rfl T.b_abs (by decide +kernel) (sa_cons (se_op ops_sub (se_ix (se_var 0) (se_var 3)) (se_ix (se_var 1) (se_var 4))) (sa_nil))))
    (sss_cons (ss_if (st_w (sw_or (st_cmp ops_isN (se_var 2) (se_non)) (sw_or1 (st_cmp ops_lt (se_var 5) (se_var 2))))) (sss_one (ss_set (i := 2) sc_nearest_pair.nd rfl (by first | exact Or.inl rfl | exact Or.inr rfl) (se_var 5))) (sss_nil))
    (sss_one (ss_if (st_cmp ops_lt (se_ix (se_var 0) (se_var 3)) (se_ix (se_var 1) (se_var 4))) (sss_one (ss_aug (i := 3) sc_nearest_pair.nd rfl (by first | exact Or.inl rfl | exact Or.inr rfl) ips_add (se_int))) (sss_one (ss_aug (i := 4) sc_nearest_pair.nd rfl (by first | exact Or.inl rfl | exact Or.inr rfl) ips_add (se_int))))))))
    (sss_one (ss_ret (se_var 2))))
theorem d_law_dice {f : Addr} {fd : FuncData} (T : Txt K mg G C_BadText C_NoSuch) (F : Fun K "_law_dice" "_law_dice" s_law_dice f fd) (g : mg "_law_dice" = some (.ref f))  : FnD P w K mg base G 1 "_law_dice" 1 den_law_dice :=
  fn_den (N := ["cell"]) (ps := ["cell"]) (k := 0) F sc_law_dice g (F.binds (ps := ["cell"]) fun _ _ _ _ _ _ us hl => match us, hl with | [_], _ => rfl) fun cdv A outer s H E hr0 => have hu0 := hr0.units; have hu1 := room65 hr0
    sss_cons (ss_if (st_chain ops_lt ops_lt (se_op ops_sub (se_int) (se_int)) (se_var 0) (se_int)) (sss_one (ss_ret (se_lst (sa_cons (se_callB cas_abs rfl T.b_abs (by decide +kernel) (sa_cons (se_var 0) (sa_nil))) (sa_cons (se_int) (sa_cons (se_int) (sa_nil))))))) (sss_nil))
    (sss_one (ss_ret (se_lst (sa_cons (se_var 0) (sa_cons (se_op ops_add (se_int) (se_op ops_mod (se_callTy cas_int rfl T.b_int (by decide +kernel) (sa_cons (se_var 0) (sa_nil))) (se_int))) (sa_cons (se_callTy cas_int rfl T.b_int (by decide +kernel) (sa_cons (se_cmp ops_ge (se_var 0) (se_op ops_pow (se_int) (se_int))) (sa_nil))) (sa_nil)))))))
theorem d_law_roll {f : Addr} {fd : FuncData} (T : Txt K mg G C_BadText C_NoSuch) (F : Fun K "_law_roll" "_law_roll" s_law_roll f fd) (g : mg "_law_roll" = some (.ref f))  : FnD P w K mg base G 1 "_law_roll" 2 den_law_roll :=
  fn_den (N := ["dice", "many", "found"]) (ps := ["dice", "many"]) (k := 0) F sc_law_roll g (F.binds (ps := ["dice", "many"]) fun _ _ _ _ _ _ us hl => match us, hl with | [_, _], _ => rfl) fun cdv A outer s H E hr0 => have hu0 := hr0.units; have hu1 := room65 hr0
    sss_cons (ss_if (st_w (sw_or (st_cmp (ops_eq hu0) (se_ix (se_var 0) (se_int)) (se_int)) (sw_or1 (st_w (sw_and (st_cmp (ops_eq hu0) (se_ix (se_var 0) (se_int)) (se_int)) (sw_and1 (st_cmp ops_gt (se_ix (se_var 0) (se_int)) (se_int)))))))) (sss_cons (ss_set (i := 2) sc_law_roll.nd rfl (by first | exact Or.inl rfl | exact Or.inr rfl) (se_op ops_mod (se_callTy cas_int rfl T.b_int (by decide +kernel) (sa_cons (se_ix (se_var 0) (se_int)) (sa_nil))) (se_var 1)))
    (sss_cons (ss_seti sets_list (se_var 0) (se_int) (se_op ops_fdiv (se_ix (se_var 0) (se_int)) (se_var 1)))
    (sss_one (ss_ret (se_var 2))))) (sss_nil))
    (sss_cons (ss_seti sets_list (se_var 0) (se_int) (se_int))
    (sss_cons (ss_seti sets_list (se_var 0) (se_int) (se_op ops_mod (se_callTy cas_int rfl T.b_int (by decide +kernel) (sa_cons (se_op ops_add (se_op ops_add (se_op ops_mul (se_ix (se_var 0) (se_int)) (se_int)) (se_op ops_mul (se_ix (se_var 0) (se_int)) (se_int))) (se_int)) (sa_nil))) (se_int)))
    (sss_cons (ss_seti sets_list (se_var 0) (se_int) (se_op ops_add (se_ix (se_var 0) (se_int)) (se_int)))
    (sss_one (ss_ret (se_op ops_mod (se_callTy cas_int rfl T.b_int (by decide +kernel) (sa_cons (se_op ops_add (se_op ops_fdiv (se_ix (se_var 0) (se_int)) (se_int)) (se_ix (se_var 0) (se_int))) (sa_nil))) (se_var 1)))))))
theorem d_law_rounds {f : Addr} {fd : FuncData} (T : Txt K mg G C_BadText C_NoSuch) (F : Fun K "_law_rounds" "_law_rounds" s_law_rounds f fd) (g : mg "_law_rounds" = some (.ref f)) (D_law_dice : FnD P w K mg base G 1 "_law_dice" 1 den_law_dice) : FnD P w K mg base G 2 "_law_rounds" 2 den_law_rounds :=
  fn_den (N := ["script", "most", "cells", "cell"]) (ps := ["script", "most"]) (k := 1) F sc_law_rounds g (F.binds (ps := ["script", "most"]) fun _ _ _ _ _ _ us hl => match us, hl with | [_, _], _ => rfl) fun cdv A outer s H E hr0 => have hu0 := hr0.units; have hu1 := room65 hr0
    sss_cons (ss_set (i := 2) sc_law_rounds.nd rfl (by first | exact Or.inl rfl | exact Or.inr rfl) (se_sl (se_var 0) (so_none) (so_some (se_var 1))))
    (sss_cons (ss_if (st_cmp (ops_eq hu0) (se_var 2) (se_lst (sa_nil))) (sss_one (ss_set (i := 2) sc_law_rounds.nd rfl (by first | exact Or.inl rfl | exact Or.inr rfl) (se_lst (sa_cons (se_int) (sa_nil))))) (sss_nil))
    (sss_one (ss_ret (se_lc (n := 100000) (own := [("cell", 3)]) sc_law_rounds.nd (si_seq (se_var 2)) (blkOk_by (N := ["script", "most", "cells", "cell"]) (sc := (defScope s_law_rounds)) (by decide +kernel)) (fun _ _ _ _ _ => pg_name (i := 3) sc_law_rounds.nd rfl (by first | exact Or.inl rfl | exact Or.inr rfl)) (tgk_name (i := 3) (vs := [3])) (fun _ _ _ _ _ => sts_nil) (fun _ _ _ _ _ => se_call D_law_dice hr0 (by decide) rfl (sa_cons (se_var 3) (sa_nil)))))))
theorem d_law_row {f : Addr} {fd : FuncData} (T : Txt K mg G C_BadText C_NoSuch) (F : Fun K "_law_row" "_law_row" s_law_row f fd) (g : mg "_law_row" = some (.ref f)) (D_law_roll : FnD P w K mg base G 1 "_law_roll" 2 den_law_roll) : FnD P w K mg base G 2 "_law_row" 3 den_law_row :=
  fn_den (N := ["dice", "most", "many", "found", "number"]) (ps := ["dice", "most", "many"]) (k := 1) F sc_law_row g (F.binds (ps := ["dice", "most", "many"]) fun _ _ _ _ _ _ us hl => match us, hl with | [_, _, _], _ => rfl) fun cdv A outer s H E hr0 => have hu0 := hr0.units; have hu1 := room65 hr0
    sss_cons (ss_set (i := 3) sc_law_row.nd rfl (by first | exact Or.inl rfl | exact Or.inr rfl) (se_lst (sa_nil)))
    (sss_cons (ss_for (passes_of rfl) (si_rng1 (sa_cons (se_var 1) (sa_nil)) rfl T.b_range) (pg_name (i := 4) sc_law_row.nd rfl (by first | exact Or.inl rfl | exact Or.inr rfl)) (tgk_name (i := 4) (vs := [4])) (sss_one (ss_if (st_w (sw_and (st_cmp ops_lt (se_callB cas_len rfl T.b_len (by decide +kernel) (sa_cons (se_var 3) (sa_nil))) (se_var 2)) (sw_and1 (st_cmp (ops_eq hu0) (se_call D_law_roll hr0 (by decide) rfl (sa_cons (se_var 0) (sa_cons (se_int) (sa_nil)))) (se_int))))) (sss_one (ss_expr (se_meth PySem.F.plainAttrs_list PySem.F.slot_list_append PySem.F.type_list_append mes_append (se_var 3) (sa_cons (se_var 4) (sa_nil))))) (sss_nil))))
    (sss_one (ss_ret (se_callTy cas_tuple rfl T.b_tuple (by decide +kernel) (sa_cons (se_var 3) (sa_nil))))))
theorem d_law_spans {f : Addr} {fd : FuncData} (T : Txt K mg G C_BadText C_NoSuch) (F : Fun K "_law_spans" "_law_spans" s_law_spans f fd) (g : mg "_law_spans" = some (.ref f)) (D_spans : FnD P w K mg base G 1 "spans" 1 den_spans) : FnD P w K mg base G 2 "_law_spans" 1 den_law_spans :=
  fn_den (N := ["one", "flat", "rows", "low", "high", "k"]) (ps := ["one"]) (k := 1) F sc_law_spans g (F.binds (ps := ["one"]) fun _ _ _ _ _ _ us hl => match us, hl with | [_], _ => rfl) fun cdv A outer s H E hr0 => have hu0 := hr0.units; have hu1 := room65 hr0
    sss_cons (ss_set (i := 1) sc_law_spans.nd rfl (by first | exact Or.inl rfl | exact Or.inr rfl) (se_lst (sa_nil)))
    (sss_cons (ss_set (i := 2) sc_law_spans.nd rfl (by first | exact Or.inl rfl | exact Or.inr rfl) (se_callP D_spans hr0 (by decide) rfl (sa_cons (se_var 0) (sa_nil))))
    (sss_cons (ss_for (passes_of rfl) (si_seq (se_var 2)) (pg_tup rfl (pgs_cons (pg_name (i := 3) sc_law_spans.nd rfl (by first | exact Or.inl rfl | exact Or.inr rfl)) (pgs_cons (pg_name (i := 4) sc_law_spans.nd rfl (by first | exact Or.inl rfl | exact Or.inr rfl)) (pgs_nil)))) (tgk_tups (is := [3, 4]) (vs := [3, 4])) (sss_one (ss_set (i := 1) sc_law_spans.nd rfl (by first | exact Or.inl rfl | exact Or.inr rfl) (se_op ops_add (se_var 1) (se_listR2 rfl rfl T.b_list rfl T.b_range (se_var 3) (se_var 4))))))
    (sss_cons (ss_if (st_w (sw_or (st_cmp (ops_ne hu0) (se_var 1) (se_callTy cas_list rfl T.b_list (by decide +kernel) (sa_cons (se_var 0) (sa_nil)))) (sw_or1 (st_cmp (ops_ne hu0) (se_lc (n := 100000) (own := [("k", 5)]) sc_law_spans.nd (si_rng2 (sa_cons (se_int) (sa_cons (se_callB cas_len rfl T.b_len (by decide +kernel) (sa_cons (se_var 2) (sa_nil))) (sa_nil))) rfl T.b_range) (blkOk_by (N := ["one", "flat", "rows", "low", "high", "k"]) (sc := (defScope s_law_spans)) (by decide +kernel)) (fun _ _ _ _ _ => pg_name (i := 5) sc_law_spans.nd rfl (by first | exact Or.inl rfl | exact Or.inr rfl)) (tgk_name (i := 5) (vs := [5])) (fun _ _ _ _ _ => sts_one (st_cmp ops_le (se_ix (se_ix (se_var 2) (se_var 5)) (se_int)) (se_ix (se_ix (se_var 2) (se_op ops_sub (se_var 5) (se_int))) (se_int)))) (fun _ _ _ _ _ => se_var 5)) (se_lst (sa_nil)))))) (sss_one (ss_ret (se_bl))) (sss_nil))
    (sss_one (ss_ret (se_bl))))))
theorem d_law {f c_law P_law : Addr} {oc : Value} {od an : Option Addr} {osl : Array (Option Value)} {kV doc pm ct : Value} (T : Txt K mg G C_BadText C_NoSuch) (lk : K.lookup f = some ⟨oc, od, .func (PySem.W.fnOf "law" "law" (defArgs s_law) (defBody s_law) (defScope s_law) .none kV doc pm an (.ref c_law) ct), osl⟩) (hcd : PySem.W.codeIn K (.ref c_law) "law" = true) (D_law_rounds : FnD P w K mg base G 2 "_law_rounds" 2 den_law_rounds) (D_law_row : FnD P w K mg base G 2 "_law_row" 3 den_law_row) (D_is_row : FnD P w K mg base G 1 "is_row" 1 den_is_row) (D_both : FnD P w K mg base G 1 "both" 2 den_both) (D_both_by_leaps : FnD P w K mg base G 2 "both_by_leaps" 2 den_both_by_leaps) (D_either : FnD P w K mg base G 1 "either" 2 den_either) (D_less : FnD P w K mg base G 1 "less" 2 den_less) (D_in_all : FnD P w K mg base G 3 "in_all" 1 den_in_all) (D_law_roll : FnD P w K mg base G 1 "_law_roll" 2 den_law_roll) (D_in_some : FnD P w K mg base G 1 "in_some" 2 den_in_some) (D_leaped : FnD P w K mg base G 1 "leaped" 3 den_leaped) (D_place_of : FnD P w K mg base G 1 "place_of" 2 den_place_of) (D_nearest_pair : FnD P w K mg base G 1 "nearest_pair" 2 den_nearest_pair) (D_law_spans : FnD P w K mg base G 2 "_law_spans" 1 den_law_spans) (D_check_row : FnD P w K mg base G 2 "check_row" 1 den_check_row) {a_law_told : Addr} {fd_law_told : FuncData} (F_law_told : Fun K "_law_told" "_law_told" s_law_told a_law_told fd_law_told) (B_law_told : L2.Binds K fd_law_told ["what"] []) (g_law_told : mg "_law_told" = some (.ref a_law_told)) (X_ : ∀ c C, G.ca c = some C → ∀ c' C', G.ca c' = some C' → PySem.W.exmOne K (.ref C) (.ref C') = some (decide (c' = c))) (TB_law : LamX.TabB base mg c_law P_law) (hmT_law : (P_law, ("law" ++ ".<locals>.<lambda>" : Str)) ∈ G.T) (huT_law : ∀ p ∈ G.T, p.1 = P_law → p.2 = ("law" ++ ".<locals>.<lambda>" : Str)) :
    FnOk P w K mg base (L2.CX P w) 7 f (PySem.W.fnOf "law" "law" (defArgs s_law) (defBody s_law) (defScope s_law) .none kV doc pm an (.ref c_law) ct) ["script"] (spOf K G 1 den_law) :=
  law_den (N := ["script", "dice", "one", "two", "three", "shared", "many", "counts", "number", "place", "first", "told", "looked", "gaps", "a", "bad", "each", "often", "b", "row"]) (ps := ["script"]) (k := 6) lk hcd sc_law fun A outer s H E hr0 => have hu0 := hr0.units; have hu1 := room65 hr0
    sss_cons (ss_for (passes_of rfl) (si_seq (se_call D_law_rounds hr0 (by decide) rfl (sa_cons (se_var 0) (sa_cons (se_int) (sa_nil))))) (pg_name (i := 1) sc_law.nd rfl (by first | exact Or.inl rfl | exact Or.inr rfl)) (tgk_name (i := 1) (vs := [1])) (sss_cons (ss_asgT (is := [2, 3, 4]) (se_tup (sa_cons (se_call D_law_row hr0 (by decide) rfl (sa_cons (se_var 1) (sa_cons (se_int) (sa_cons (se_int) (sa_nil))))) (sa_cons (se_call D_law_row hr0 (by decide) rfl (sa_cons (se_var 1) (sa_cons (se_int) (sa_cons (se_int) (sa_nil))))) (sa_cons (se_call D_law_row hr0 (by decide) rfl (sa_cons (se_var 1) (sa_cons (se_int) (sa_cons (se_int) (sa_nil))))) (sa_nil))))) (pg_tup rfl (pgs_cons (pg_name (i := 2) sc_law.nd rfl (by first | exact Or.inl rfl | exact Or.inr rfl)) (pgs_cons (pg_name (i := 3) sc_law.nd rfl (by first | exact Or.inl rfl | exact Or.inr rfl)) (pgs_cons (pg_name (i := 4) sc_law.nd rfl (by first | exact Or.inl rfl | exact Or.inr rfl)) (pgs_nil))))) (tgk_tups (is := [2, 3, 4]) (vs := [2, 3, 4])) (by decide))
    (sss_cons (ss_set (i := 5) sc_law.nd rfl (by first | exact Or.inl rfl | exact Or.inr rfl) (se_callTy cas_tuple rfl T.b_tuple (by decide +kernel) (sa_cons (se_lc (n := 100000) (own := [("number", 8)]) sc_law.nd (si_seq (se_var 2)) (blkOk_by (N := ["script", "dice", "one", "two", "three", "shared", "many", "counts", "number", "place", "first", "told", "looked", "gaps", "a", "bad", "each", "often", "b", "row"]) (sc := (defScope s_law)) (by decide +kernel)) (fun _ _ _ _ _ => pg_name (i := 8) sc_law.nd rfl (by first | exact Or.inl rfl | exact Or.inr rfl)) (tgk_name (i := 8) (vs := [8])) (fun _ _ _ _ _ => sts_one (st_cmp (ops_in hu1) (se_var 8) (se_var 3))) (fun _ _ _ _ _ => se_var 8)) (sa_nil))))
    (sss_cons (ss_if (st_w (sw_or (st_not (st_tru (se_call D_is_row hr0 (by decide) rfl (sa_cons (se_var 2) (sa_nil))))) (sw_or (st_cmp (ops_ne hu0) (se_callP D_both hr0 (by decide) rfl (sa_cons (se_var 2) (sa_cons (se_var 3) (sa_nil)))) (se_var 5)) (sw_or1 (st_cmp (ops_ne hu0) (se_callP D_both_by_leaps hr0 (by decide) rfl (sa_cons (se_var 2) (sa_cons (se_var 3) (sa_nil)))) (se_var 5)))))) (sss_one (ss_ret (se_bl))) (sss_nil))
    (sss_cons (ss_if (st_cmp (ops_ne hu0) (se_callP D_both_by_leaps hr0 (by decide) rfl (sa_cons (se_var 3) (sa_cons (se_var 2) (sa_nil)))) (se_var 5)) (sss_one (ss_ret (se_bl))) (sss_nil))
    (sss_cons (ss_if (st_cmp (ops_ne hu0) (se_callP D_either hr0 (by decide) rfl (sa_cons (se_var 2) (sa_cons (se_var 3) (sa_nil)))) (se_callTy cas_tuple rfl T.b_tuple (by decide +kernel) (sa_cons (se_lc (n := 100000) (own := [("number", 8)]) sc_law.nd (si_rng1 (sa_cons (se_int) (sa_nil)) rfl T.b_range) (blkOk_by (N := ["script", "dice", "one", "two", "three", "shared", "many", "counts", "number", "place", "first", "told", "looked", "gaps", "a", "bad", "each", "often", "b", "row"]) (sc := (defScope s_law)) (by decide +kernel)) (fun _ _ _ _ _ => pg_name (i := 8) sc_law.nd rfl (by first | exact Or.inl rfl | exact Or.inr rfl)) (tgk_name (i := 8) (vs := [8])) (fun _ _ _ _ _ => sts_one (st_w (sw_or (st_cmp (ops_in hu1) (se_var 8) (se_var 2)) (sw_or1 (st_cmp (ops_in hu1) (se_var 8) (se_var 3)))))) (fun _ _ _ _ _ => se_var 8)) (sa_nil)))) (sss_one (ss_ret (se_bl))) (sss_nil))
    (sss_cons (ss_if (st_cmp (ops_ne hu0) (se_callP D_less hr0 (by decide) rfl (sa_cons (se_var 2) (sa_cons (se_var 3) (sa_nil)))) (se_callTy cas_tuple rfl T.b_tuple (by decide +kernel) (sa_cons (se_lc (n := 100000) (own := [("number", 8)]) sc_law.nd (si_seq (se_var 2)) (blkOk_by (N := ["script", "dice", "one", "two", "three", "shared", "many", "counts", "number", "place", "first", "told", "looked", "gaps", "a", "bad", "each", "often", "b", "row"]) (sc := (defScope s_law)) (by decide +kernel)) (fun _ _ _ _ _ => pg_name (i := 8) sc_law.nd rfl (by first | exact Or.inl rfl | exact Or.inr rfl)) (tgk_name (i := 8) (vs := [8])) (fun _ _ _ _ _ => sts_one (st_cmp (ops_notin hu1) (se_var 8) (se_var 3))) (fun _ _ _ _ _ => se_var 8)) (sa_nil)))) (sss_one (ss_ret (se_bl))) (sss_nil))
    (sss_cons (ss_if (st_cmp (ops_ne hu0) (se_call D_in_all hr0 (by decide) rfl (sa_cons (se_lst (sa_cons (se_var 2) (sa_cons (se_var 3) (sa_cons (se_var 4) (sa_nil))))) (sa_nil))) (se_callTy cas_tuple rfl T.b_tuple (by decide +kernel) (sa_cons (se_lc (n := 100000) (own := [("number", 8)]) sc_law.nd (si_seq (se_var 5)) (blkOk_by (N := ["script", "dice", "one", "two", "three", "shared", "many", "counts", "number", "place", "first", "told", "looked", "gaps", "a", "bad", "each", "often", "b", "row"]) (sc := (defScope s_law)) (by decide +kernel)) (fun _ _ _ _ _ => pg_name (i := 8) sc_law.nd rfl (by first | exact Or.inl rfl | exact Or.inr rfl)) (tgk_name (i := 8) (vs := [8])) (fun _ _ _ _ _ => sts_one (st_cmp (ops_in hu1) (se_var 8) (se_var 4))) (fun _ _ _ _ _ => se_var 8)) (sa_nil)))) (sss_one (ss_ret (se_bl))) (sss_nil))
    (sss_cons (ss_set (i := 6) sc_law.nd rfl (by first | exact Or.inl rfl | exact Or.inr rfl) (se_op ops_add (se_int) (se_call D_law_roll hr0 (by decide) rfl (sa_cons (se_var 1) (sa_cons (se_int) (sa_nil))))))
    (sss_cons (ss_setLc (i := 7) (n := 100000) (own := [("number", 8)]) sc_law.nd rfl rfl (sw_true rfl rfl rfl (by decide +kernel)) (si_rng1 (sa_cons (se_int) (sa_nil)) rfl T.b_range) (blkOk_by (N := ["script", "dice", "one", "two", "three", "shared", "many", "counts", "number", "place", "first", "told", "looked", "gaps", "a", "bad", "each", "often", "b", "row"]) (sc := (defScope s_law)) (by decide +kernel)) (fun _ _ _ _ _ => pg_name (i := 8) sc_law.nd rfl (by first | exact Or.inl rfl | exact Or.inr rfl)) (tgk_name (i := 8) (vs := [8])) (fun _ _ _ _ _ => sts_nil) (fun _ _ _ _ _ => se_tup (sa_cons (se_var 8) (sa_cons (se_callB cas_len rfl T.b_len (by decide +kernel) (sa_cons (se_lc (n := 100000) (own := [("row", 19)]) sc_law.nd (si_seq (se_lst (sa_cons (se_var 2) (sa_cons (se_var 3) (sa_cons (se_var 4) (sa_nil)))))) (blkOk_by (N := ["script", "dice", "one", "two", "three", "shared", "many", "counts", "number", "place", "first", "told", "looked", "gaps", "a", "bad", "each", "often", "b", "row"]) (sc := (relS _ (defScope s_law))) (by decide +kernel)) (fun _ _ _ _ _ => pg_name (i := 19) sc_law.nd rfl (by first | exact Or.inl rfl | exact Or.inr rfl)) (tgk_name (i := 19) (vs := [19])) (fun _ _ _ _ _ => sts_one (st_cmp (ops_in hu1) (se_var 8) (se_var 19))) (fun _ _ _ _ _ => se_var 19)) (sa_nil))) (sa_nil)))))
    (sss_cons (ss_if (st_cmp (ops_ne hu0) (se_call D_in_some hr0 (by decide) rfl (sa_cons (se_lst (sa_cons (se_var 2) (sa_cons (se_var 3) (sa_cons (se_var 4) (sa_nil))))) (sa_cons (se_var 6) (sa_nil)))) (se_callTy cas_tuple rfl T.b_tuple (by decide +kernel) (sa_cons (se_lc (n := 100000) (own := [("number", 8), ("often", 17)]) sc_law.nd (si_seq (se_var 7)) (blkOk_by (N := ["script", "dice", "one", "two", "three", "shared", "many", "counts", "number", "place", "first", "told", "looked", "gaps", "a", "bad", "each", "often", "b", "row"]) (sc := (defScope s_law)) (by decide +kernel)) (fun _ _ _ _ _ => pg_tup (n := 2) rfl (pgs_cons (pg_name (i := 8) sc_law.nd rfl (by first | exact Or.inl rfl | exact Or.inr rfl)) (pgs_cons (pg_name (i := 17) sc_law.nd rfl (by first | exact Or.inl rfl | exact Or.inr rfl)) (pgs_nil)))) (tgk_tups (is := [8, 17]) (vs := [8, 17])) (fun _ _ _ _ _ => sts_one (st_cmp ops_ge (se_var 17) (se_var 6))) (fun _ _ _ _ _ => se_var 8)) (sa_nil)))) (sss_one (ss_ret (se_bl))) (sss_nil))
    (sss_cons (ss_set (i := 8) sc_law.nd rfl (by first | exact Or.inl rfl | exact Or.inr rfl) (se_call D_law_roll hr0 (by decide) rfl (sa_cons (se_var 1) (sa_cons (se_int) (sa_nil)))))
    (sss_cons (ss_set (i := 9) sc_law.nd rfl (by first | exact Or.inl rfl | exact Or.inr rfl) (se_callB cas_len rfl T.b_len (by decide +kernel) (sa_cons (se_lc (n := 100000) (own := [("each", 16)]) sc_law.nd (si_seq (se_var 2)) (blkOk_by (N := ["script", "dice", "one", "two", "three", "shared", "many", "counts", "number", "place", "first", "told", "looked", "gaps", "a", "bad", "each", "often", "b", "row"]) (sc := (defScope s_law)) (by decide +kernel)) (fun _ _ _ _ _ => pg_name (i := 16) sc_law.nd rfl (by first | exact Or.inl rfl | exact Or.inr rfl)) (tgk_name (i := 16) (vs := [16])) (fun _ _ _ _ _ => sts_one (st_cmp ops_lt (se_var 16) (se_var 8))) (fun _ _ _ _ _ => se_var 16)) (sa_nil))))
    (sss_cons (ss_set (i := 10) sc_law.nd rfl (by first | exact Or.inl rfl | exact Or.inr rfl) (se_call D_law_roll hr0 (by decide) rfl (sa_cons (se_var 1) (sa_cons (se_op ops_add (se_callB cas_len rfl T.b_len (by decide +kernel) (sa_cons (se_var 2) (sa_nil))) (se_int)) (sa_nil)))))
    (sss_cons (ss_asg (se_callP D_leaped hr0 (by decide) rfl (sa_cons (se_var 2) (sa_cons (se_var 10) (sa_cons (se_var 8) (sa_nil))))) (pg_tup rfl (pgs_cons (pg_name (i := 11) sc_law.nd rfl (by first | exact Or.inl rfl | exact Or.inr rfl)) (pgs_cons (pg_name (i := 12) sc_law.nd rfl (by first | exact Or.inl rfl | exact Or.inr rfl)) (pgs_nil)))) (tgk_tups (is := [11, 12]) (vs := [11, 12])))
    (sss_cons (ss_if (st_w (sw_or (st_cmp (ops_ne hu0) (se_callP D_place_of hr0 (by decide) rfl (sa_cons (se_var 2) (sa_cons (se_var 8) (sa_nil)))) (se_var 9)) (sw_or (st_cmp (ops_ne hu0) (se_var 11) (se_callB (cas_max rfl) rfl T.b_max (by decide +kernel) (sa_cons (se_var 9) (sa_cons (se_var 10) (sa_nil))))) (sw_or1 (st_cmp ops_lt (se_var 12) (se_int)))))) (sss_one (ss_ret (se_bl))) (sss_nil))
    (sss_cons (ss_set (i := 13) sc_law.nd rfl (by first | exact Or.inl rfl | exact Or.inr rfl) (se_lst (sa_nil)))
    (sss_cons (ss_for (passes_of rfl) (si_seq (se_var 2)) (pg_name (i := 14) sc_law.nd rfl (by first | exact Or.inl rfl | exact Or.inr rfl)) (tgk_name (i := 14) (vs := [14])) (sss_one (ss_set (i := 13) sc_law.nd rfl (by first | exact Or.inl rfl | exact Or.inr rfl) (se_op ops_add (se_var 13) (se_lc (n := 100000) (own := [("b", 18)]) sc_law.nd (si_seq (se_var 3)) (blkOk_by (N := ["script", "dice", "one", "two", "three", "shared", "many", "counts", "number", "place", "first", "told", "looked", "gaps", "a", "bad", "each", "often", "b", "row"]) (sc := (defScope s_law)) (by decide +kernel)) (fun _ _ _ _ _ => pg_name (i := 18) sc_law.nd rfl (by first | exact Or.inl rfl | exact Or.inr rfl)) (tgk_name (i := 18) (vs := [18])) (fun _ _ _ _ _ => sts_nil) (fun _ _ _ _ _ => se_callB cas_abs rfl T.b_abs (by decide +kernel) (sa_cons (se_op ops_sub (se_var 14) (se_var 18)) (sa_nil))))))))
    (sss_cons (ss_if (st_cmp (ops_ne hu0) (se_callP D_nearest_pair hr0 (by decide) rfl (sa_cons (se_var 2) (sa_cons (se_var 3) (sa_nil)))) (se_ife (st_cmp (ops_ne hu0) (se_var 13) (se_lst (sa_nil))) (se_callB (cas_min rfl hu0) rfl T.b_min (by decide +kernel) (sa_cons (se_var 13) (sa_nil))) (se_non))) (sss_one (ss_ret (se_bl))) (sss_nil))
    (sss_cons (ss_if (st_not (st_tru (se_callP D_law_spans hr0 (by decide) rfl (sa_cons (se_var 2) (sa_nil))))) (sss_one (ss_ret (se_bl))) (sss_nil))
    (sss_cons (ss_for (passes_of rfl) (si_seq (se_lst (sa_cons (se_tup (sa_cons (se_int) (sa_cons (se_int) (sa_nil)))) (sa_cons (se_tup (sa_cons (se_int) (sa_cons (se_int) (sa_nil)))) (sa_cons (se_tup (sa_cons (se_op ops_sub (se_int) (se_int)) (sa_nil))) (sa_cons (se_tup (sa_cons (se_bl) (sa_nil))) (sa_cons (se_lst (sa_cons (se_int) (sa_nil))) (sa_cons (se_non) (sa_nil))))))))) (pg_name (i := 15) sc_law.nd rfl (by first | exact Or.inl rfl | exact Or.inr rfl)) (tgk_name (i := 15) (vs := [15])) (sss_one (ss_if (st_w (sw_or (st_tru (se_call D_is_row hr0 (by decide) rfl (sa_cons (se_var 15) (sa_nil)))) (sw_or1 (st_cmp (ops_ne hu0) ((se_told (k := 4) (Ng := ["what"]) F_law_told B_law_told g_law_told sc_law_told rfl rfl (by exact Or.inl rfl) (fun _ => rfl) (by exact tells_law_told T) (tellN_law_told T X_) rfl TB_law rfl hmT_law huT_law hr0 (by decide) (LamX.lamS_by (sc := defScope s_law) (by decide +kernel)) rfl (fun _ _ _ _ _ => rfl) (fun A outer s H E f c' hr0 => have hu0 := hr0.units; se_call D_check_row hr0 (by decide) rfl (sa_cons (se_var 15) (sa_nil))))) (se_str))))) (sss_one (ss_ret (se_bl))) (sss_nil))))
    (sss_one (ss_if (st_cmp (ops_ne hu0) ((se_told (k := 4) (Ng := ["what"]) F_law_told B_law_told g_law_told sc_law_told rfl rfl (by exact Or.inl rfl) (fun _ => rfl) (by exact tells_law_told T) (tellN_law_told T X_) rfl TB_law rfl hmT_law huT_law hr0 (by decide) (LamX.lamS_by (sc := defScope s_law) (by decide +kernel)) rfl (fun _ _ _ _ _ => rfl) (fun A outer s H E f c' hr0 => have hu0 := hr0.units; se_call D_in_all hr0 (by decide) rfl (sa_cons (se_lst (sa_nil)) (sa_nil))))) (se_str)) (sss_one (ss_ret (se_bl))) (sss_nil))))))))))))))))))))))))
    (sss_one (ss_ret (se_bl)))
end
end Law_indexhall_k04_rising_rows
set_option maxRecDepth 100000
namespace Law_indexhall_k04_rising_rows
open PySem L2 Den
theorem both_ev (xs ys : List Int) (r : Rsg xs) (r' : Rsg ys) (hx : xs.length ≤ 1000) (hy : ys.length ≤ 1000) : Ev (den_both [T xs, T ys] []) fun w _ => pureW w = true ∧ w = T (both2 xs ys) := by
  refine fun_ev ?_
  unfold body_both
  simp only [startE, List.map_cons, List.map_nil, List.length_cons, List.length_nil, List.cons_append, List.nil_append, Nat.zero_add, Nat.reduceAdd, Nat.reduceSub, List.replicate_succ, List.replicate_zero]
  simp (disch := first | omega | (simp only [List.length_append, List.length_cons, List.length_nil, List.length_set, List.length_drop, List.length_take, List.length_map]; omega)) only [mVar_z, Nat.reduceAdd, Nat.zero_add, Int.zero_add, Int.reduceAdd, Int.reduceSub, Int.reduceNeg, ap_Lst, ap_Tup, nil_app, cons_app, List.length_append, lst_last, mVar_s, ok_bnd, ok_stm, exc_bnd, ev_okE, exc_stm, ap_C, ap_Op, ap_Un, ap_B, ap_Chain, ap_asB, ap_And, ap_Or, ap_Not, ap_AndV, ap_OrV, ap_NotV, ap_If, ap_Nil, ap_Cons, ap_CB, ap_Meth, ap_Part, ap_NoPart, ap_Sl, ap_Yes, add_ii, add_ss, sub_ii, neg_i, mul_ii, fdiv_ii, mod_ii, eq_ii, ne_ii, eq_ss, ne_ss, lt_ii, le_ii, gt_ii, ge_ii, lt_ss, gt_ss, le_ss, ge_ss, len_s, len_t, abs_i, int_i, int_b, max_ii, min_ii, ix_s, ixL_0, ixL_1, ixL_2, ixL_3, ixL_n, ixL_i, ixL_st, setL_n, setL_i, List.length_map, List.length_set, ix_r, getL_r, ix_tL, withL_s, setL_0, setL_1, setL_2, set_r, app_r, lst_z, lst_s, iadd_ii, tuple_r, mul_ri, sl_s, sl_rol, sl_t, sl_r, cut_from, cut_to, ap_Seq, nx_seq, rt_seq, ct_seq, bk_seq, exc_seq, ap_Raise, ap_Skip, ap_Brk, ap_Cnt, ap_Drop, ap_Ret, ap_IfS, ap_Set, ap_Ts, ap_AsgT, tgT_t, tgTs_n, tgTs_c, ap_Aug, ap_SetI, ap_AugI, mFor_ap, ap_Rng1, ap_Rng2, rng1_ok, rng2_ok, ap_Iter, src_t, src_s, src_rL, ap_Comp, wipe_n, wipe_c, len_cons, len_nil, zip_cc, zip_nn, foldl_c, foldl_n, set_z, set_s, ite_t, ite_f, ite_T, ite_F, sing_lt, sing_eq, ty_r, ty_s, isS, cut_mid, decide_eq_true_eq, if_pos, if_neg]
  refine sv_cut (R' := fun o => ∃ a b, o = SOut.nx [some (T xs), some (T ys), some (.ref 0), a, b] [.lst ((both2 xs ys).map .int)]) ?_ ?_
  · refine mWhile_sv (xs.length + ys.length) (fun m e h => ∃ (a b : Nat) (fd : List Int), a ≤ xs.length ∧ b ≤ ys.length ∧ fd.length ≤ a ∧ fd ++ both2 (xs.drop a) (ys.drop b) = both2 xs ys ∧ m = (xs.length - a) + (ys.length - b) ∧ e = [some (T xs), some (T ys), some (.ref 0), some (.int a), some (.int b)] ∧ h = [.lst (fd.map .int)]) (by omega) ⟨0, 0, [], by omega, by omega, by simp, by simp, by omega, rfl, rfl⟩ ?_
    rintro m e h ⟨a, b, fd, ha, hb, hf, hq, rfl, rfl, rfl⟩
    by_cases h1 : a < xs.length
    · by_cases h2 : b < ys.length
      · have rx := r.drop a
        have ry := r'.drop b
        rw [drop_get h1] at hq rx
        rw [drop_get h2] at hq ry
        generalize hxv : xs.getD a 0 = x at hq rx
        generalize hyv : ys.getD b 0 = y at hq ry
        rcases Int.lt_trichotomy x y with hlt | heq | hgt
        · rw [both_lt hlt ry] at hq
          simp (disch := first | omega | (simp only [List.length_append, List.length_cons, List.length_nil, List.length_set, List.length_drop, List.length_take, List.length_map]; omega)) only [hxv, hyv, sv_nx, sv_rt, sv_ct, rnd_nx, rnd_ct, Int.toNat_natCast, ne_eq, eq_self, not_true_eq_false, not_false_eq_true, mVar_z, Nat.reduceAdd, Nat.zero_add, Int.zero_add, Int.reduceAdd, Int.reduceSub, Int.reduceNeg, ap_Lst, ap_Tup, nil_app, cons_app, List.length_append, lst_last, mVar_s, ok_bnd, ok_stm, exc_bnd, ev_okE, exc_stm, ap_C, ap_Op, ap_Un, ap_B, ap_Chain, ap_asB, ap_And, ap_Or, ap_Not, ap_AndV, ap_OrV, ap_NotV, ap_If, ap_Nil, ap_Cons, ap_CB, ap_Meth, ap_Part, ap_NoPart, ap_Sl, ap_Yes, add_ii, add_ss, sub_ii, neg_i, mul_ii, fdiv_ii, mod_ii, eq_ii, ne_ii, eq_ss, ne_ss, lt_ii, le_ii, gt_ii, ge_ii, lt_ss, gt_ss, le_ss, ge_ss, len_s, len_t, abs_i, int_i, int_b, max_ii, min_ii, ix_s, ixL_0, ixL_1, ixL_2, ixL_3, ixL_n, ixL_i, ixL_st, setL_n, setL_i, List.length_map, List.length_set, ix_r, getL_r, ix_tL, withL_s, setL_0, setL_1, setL_2, set_r, app_r, lst_z, lst_s, iadd_ii, tuple_r, mul_ri, sl_s, sl_rol, sl_t, sl_r, cut_from, cut_to, ap_Seq, nx_seq, rt_seq, ct_seq, bk_seq, exc_seq, ap_Raise, ap_Skip, ap_Brk, ap_Cnt, ap_Drop, ap_Ret, ap_IfS, ap_Set, ap_Ts, ap_AsgT, tgT_t, tgTs_n, tgTs_c, ap_Aug, ap_SetI, ap_AugI, mFor_ap, ap_Rng1, ap_Rng2, rng1_ok, rng2_ok, ap_Iter, src_t, src_s, src_rL, ap_Comp, wipe_n, wipe_c, len_cons, len_nil, zip_cc, zip_nn, foldl_c, foldl_n, set_z, set_s, ite_t, ite_f, ite_T, ite_F, sing_lt, sing_eq, ty_r, ty_s, isS, cut_mid, decide_eq_true_eq, if_pos, if_neg]
          exact ⟨_, by omega, a + 1, b, fd, by omega, by omega, by omega, by rw [drop_get h2, hyv]; exact hq, rfl, by simp, rfl⟩
        · subst heq
          rw [both_eq rx ry] at hq
          simp (disch := first | omega | (simp only [List.length_append, List.length_cons, List.length_nil, List.length_set, List.length_drop, List.length_take, List.length_map]; omega)) only [hxv, hyv, sv_nx, sv_rt, sv_ct, rnd_nx, rnd_ct, Int.toNat_natCast, ne_eq, eq_self, not_true_eq_false, not_false_eq_true, mVar_z, Nat.reduceAdd, Nat.zero_add, Int.zero_add, Int.reduceAdd, Int.reduceSub, Int.reduceNeg, ap_Lst, ap_Tup, nil_app, cons_app, List.length_append, lst_last, mVar_s, ok_bnd, ok_stm, exc_bnd, ev_okE, exc_stm, ap_C, ap_Op, ap_Un, ap_B, ap_Chain, ap_asB, ap_And, ap_Or, ap_Not, ap_AndV, ap_OrV, ap_NotV, ap_If, ap_Nil, ap_Cons, ap_CB, ap_Meth, ap_Part, ap_NoPart, ap_Sl, ap_Yes, add_ii, add_ss, sub_ii, neg_i, mul_ii, fdiv_ii, mod_ii, eq_ii, ne_ii, eq_ss, ne_ss, lt_ii, le_ii, gt_ii, ge_ii, lt_ss, gt_ss, le_ss, ge_ss, len_s, len_t, abs_i, int_i, int_b, max_ii, min_ii, ix_s, ixL_0, ixL_1, ixL_2, ixL_3, ixL_n, ixL_i, ixL_st, setL_n, setL_i, List.length_map, List.length_set, ix_r, getL_r, ix_tL, withL_s, setL_0, setL_1, setL_2, set_r, app_r, lst_z, lst_s, iadd_ii, tuple_r, mul_ri, sl_s, sl_rol, sl_t, sl_r, cut_from, cut_to, ap_Seq, nx_seq, rt_seq, ct_seq, bk_seq, exc_seq, ap_Raise, ap_Skip, ap_Brk, ap_Cnt, ap_Drop, ap_Ret, ap_IfS, ap_Set, ap_Ts, ap_AsgT, tgT_t, tgTs_n, tgTs_c, ap_Aug, ap_SetI, ap_AugI, mFor_ap, ap_Rng1, ap_Rng2, rng1_ok, rng2_ok, ap_Iter, src_t, src_s, src_rL, ap_Comp, wipe_n, wipe_c, len_cons, len_nil, zip_cc, zip_nn, foldl_c, foldl_n, set_z, set_s, ite_t, ite_f, ite_T, ite_F, sing_lt, sing_eq, ty_r, ty_s, isS, cut_mid, decide_eq_true_eq, if_pos, if_neg]
          exact ⟨_, by omega, a + 1, b + 1, fd ++ [x], by omega, by omega, by simp; omega, by simpa using hq, rfl, by simp, by simp⟩
        · rw [both_gt hgt rx] at hq
          simp (disch := first | omega | (simp only [List.length_append, List.length_cons, List.length_nil, List.length_set, List.length_drop, List.length_take, List.length_map]; omega)) only [hxv, hyv, sv_nx, sv_rt, sv_ct, rnd_nx, rnd_ct, Int.toNat_natCast, ne_eq, eq_self, not_true_eq_false, not_false_eq_true, mVar_z, Nat.reduceAdd, Nat.zero_add, Int.zero_add, Int.reduceAdd, Int.reduceSub, Int.reduceNeg, ap_Lst, ap_Tup, nil_app, cons_app, List.length_append, lst_last, mVar_s, ok_bnd, ok_stm, exc_bnd, ev_okE, exc_stm, ap_C, ap_Op, ap_Un, ap_B, ap_Chain, ap_asB, ap_And, ap_Or, ap_Not, ap_AndV, ap_OrV, ap_NotV, ap_If, ap_Nil, ap_Cons, ap_CB, ap_Meth, ap_Part, ap_NoPart, ap_Sl, ap_Yes, add_ii, add_ss, sub_ii, neg_i, mul_ii, fdiv_ii, mod_ii, eq_ii, ne_ii, eq_ss, ne_ss, lt_ii, le_ii, gt_ii, ge_ii, lt_ss, gt_ss, le_ss, ge_ss, len_s, len_t, abs_i, int_i, int_b, max_ii, min_ii, ix_s, ixL_0, ixL_1, ixL_2, ixL_3, ixL_n, ixL_i, ixL_st, setL_n, setL_i, List.length_map, List.length_set, ix_r, getL_r, ix_tL, withL_s, setL_0, setL_1, setL_2, set_r, app_r, lst_z, lst_s, iadd_ii, tuple_r, mul_ri, sl_s, sl_rol, sl_t, sl_r, cut_from, cut_to, ap_Seq, nx_seq, rt_seq, ct_seq, bk_seq, exc_seq, ap_Raise, ap_Skip, ap_Brk, ap_Cnt, ap_Drop, ap_Ret, ap_IfS, ap_Set, ap_Ts, ap_AsgT, tgT_t, tgTs_n, tgTs_c, ap_Aug, ap_SetI, ap_AugI, mFor_ap, ap_Rng1, ap_Rng2, rng1_ok, rng2_ok, ap_Iter, src_t, src_s, src_rL, ap_Comp, wipe_n, wipe_c, len_cons, len_nil, zip_cc, zip_nn, foldl_c, foldl_n, set_z, set_s, ite_t, ite_f, ite_T, ite_F, sing_lt, sing_eq, ty_r, ty_s, isS, cut_mid, decide_eq_true_eq, if_pos, if_neg]
          exact ⟨_, by omega, a, b + 1, fd, by omega, by omega, by omega, by rw [drop_get h1, hxv]; exact hq, rfl, by simp, rfl⟩
      · simp (disch := first | omega | (simp only [List.length_append, List.length_cons, List.length_nil, List.length_set, List.length_drop, List.length_take, List.length_map]; omega)) only [sv_nx, sv_rt, sv_ct, rnd_nx, rnd_ct, Int.toNat_natCast, ne_eq, eq_self, not_true_eq_false, not_false_eq_true, mVar_z, Nat.reduceAdd, Nat.zero_add, Int.zero_add, Int.reduceAdd, Int.reduceSub, Int.reduceNeg, ap_Lst, ap_Tup, nil_app, cons_app, List.length_append, lst_last, mVar_s, ok_bnd, ok_stm, exc_bnd, ev_okE, exc_stm, ap_C, ap_Op, ap_Un, ap_B, ap_Chain, ap_asB, ap_And, ap_Or, ap_Not, ap_AndV, ap_OrV, ap_NotV, ap_If, ap_Nil, ap_Cons, ap_CB, ap_Meth, ap_Part, ap_NoPart, ap_Sl, ap_Yes, add_ii, add_ss, sub_ii, neg_i, mul_ii, fdiv_ii, mod_ii, eq_ii, ne_ii, eq_ss, ne_ss, lt_ii, le_ii, gt_ii, ge_ii, lt_ss, gt_ss, le_ss, ge_ss, len_s, len_t, abs_i, int_i, int_b, max_ii, min_ii, ix_s, ixL_0, ixL_1, ixL_2, ixL_3, ixL_n, ixL_i, ixL_st, setL_n, setL_i, List.length_map, List.length_set, ix_r, getL_r, ix_tL, withL_s, setL_0, setL_1, setL_2, set_r, app_r, lst_z, lst_s, iadd_ii, tuple_r, mul_ri, sl_s, sl_rol, sl_t, sl_r, cut_from, cut_to, ap_Seq, nx_seq, rt_seq, ct_seq, bk_seq, exc_seq, ap_Raise, ap_Skip, ap_Brk, ap_Cnt, ap_Drop, ap_Ret, ap_IfS, ap_Set, ap_Ts, ap_AsgT, tgT_t, tgTs_n, tgTs_c, ap_Aug, ap_SetI, ap_AugI, mFor_ap, ap_Rng1, ap_Rng2, rng1_ok, rng2_ok, ap_Iter, src_t, src_s, src_rL, ap_Comp, wipe_n, wipe_c, len_cons, len_nil, zip_cc, zip_nn, foldl_c, foldl_n, set_z, set_s, ite_t, ite_f, ite_T, ite_F, sing_lt, sing_eq, ty_r, ty_s, isS, cut_mid, decide_eq_true_eq, if_pos, if_neg]
        rw [List.drop_eq_nil_of_le (by omega : ys.length ≤ b), both_nil, List.append_nil] at hq
        rw [hq]
        exact ⟨_, _, rfl⟩
    · simp (disch := first | omega | (simp only [List.length_append, List.length_cons, List.length_nil, List.length_set, List.length_drop, List.length_take, List.length_map]; omega)) only [sv_nx, sv_rt, sv_ct, rnd_nx, rnd_ct, Int.toNat_natCast, ne_eq, eq_self, not_true_eq_false, not_false_eq_true, mVar_z, Nat.reduceAdd, Nat.zero_add, Int.zero_add, Int.reduceAdd, Int.reduceSub, Int.reduceNeg, ap_Lst, ap_Tup, nil_app, cons_app, List.length_append, lst_last, mVar_s, ok_bnd, ok_stm, exc_bnd, ev_okE, exc_stm, ap_C, ap_Op, ap_Un, ap_B, ap_Chain, ap_asB, ap_And, ap_Or, ap_Not, ap_AndV, ap_OrV, ap_NotV, ap_If, ap_Nil, ap_Cons, ap_CB, ap_Meth, ap_Part, ap_NoPart, ap_Sl, ap_Yes, add_ii, add_ss, sub_ii, neg_i, mul_ii, fdiv_ii, mod_ii, eq_ii, ne_ii, eq_ss, ne_ss, lt_ii, le_ii, gt_ii, ge_ii, lt_ss, gt_ss, le_ss, ge_ss, len_s, len_t, abs_i, int_i, int_b, max_ii, min_ii, ix_s, ixL_0, ixL_1, ixL_2, ixL_3, ixL_n, ixL_i, ixL_st, setL_n, setL_i, List.length_map, List.length_set, ix_r, getL_r, ix_tL, withL_s, setL_0, setL_1, setL_2, set_r, app_r, lst_z, lst_s, iadd_ii, tuple_r, mul_ri, sl_s, sl_rol, sl_t, sl_r, cut_from, cut_to, ap_Seq, nx_seq, rt_seq, ct_seq, bk_seq, exc_seq, ap_Raise, ap_Skip, ap_Brk, ap_Cnt, ap_Drop, ap_Ret, ap_IfS, ap_Set, ap_Ts, ap_AsgT, tgT_t, tgTs_n, tgTs_c, ap_Aug, ap_SetI, ap_AugI, mFor_ap, ap_Rng1, ap_Rng2, rng1_ok, rng2_ok, ap_Iter, src_t, src_s, src_rL, ap_Comp, wipe_n, wipe_c, len_cons, len_nil, zip_cc, zip_nn, foldl_c, foldl_n, set_z, set_s, ite_t, ite_f, ite_T, ite_F, sing_lt, sing_eq, ty_r, ty_s, isS, cut_mid, decide_eq_true_eq, if_pos, if_neg]
      rw [List.drop_eq_nil_of_le (by omega : xs.length ≤ a)] at hq
      rw [show fd = both2 xs ys by simpa using hq]
      exact ⟨_, _, rfl⟩
  · rintro o ⟨a, b, rfl⟩
    simp (disch := first | omega | (simp only [List.length_append, List.length_cons, List.length_nil, List.length_set, List.length_drop, List.length_take, List.length_map]; omega)) only [sv_nx, sv_rt, sv_ct, rnd_nx, rnd_ct, Int.toNat_natCast, ne_eq, eq_self, not_true_eq_false, not_false_eq_true, mVar_z, Nat.reduceAdd, Nat.zero_add, Int.zero_add, Int.reduceAdd, Int.reduceSub, Int.reduceNeg, ap_Lst, ap_Tup, nil_app, cons_app, List.length_append, lst_last, mVar_s, ok_bnd, ok_stm, exc_bnd, ev_okE, exc_stm, ap_C, ap_Op, ap_Un, ap_B, ap_Chain, ap_asB, ap_And, ap_Or, ap_Not, ap_AndV, ap_OrV, ap_NotV, ap_If, ap_Nil, ap_Cons, ap_CB, ap_Meth, ap_Part, ap_NoPart, ap_Sl, ap_Yes, add_ii, add_ss, sub_ii, neg_i, mul_ii, fdiv_ii, mod_ii, eq_ii, ne_ii, eq_ss, ne_ss, lt_ii, le_ii, gt_ii, ge_ii, lt_ss, gt_ss, le_ss, ge_ss, len_s, len_t, abs_i, int_i, int_b, max_ii, min_ii, ix_s, ixL_0, ixL_1, ixL_2, ixL_3, ixL_n, ixL_i, ixL_st, setL_n, setL_i, List.length_map, List.length_set, ix_r, getL_r, ix_tL, withL_s, setL_0, setL_1, setL_2, set_r, app_r, lst_z, lst_s, iadd_ii, tuple_r, mul_ri, sl_s, sl_rol, sl_t, sl_r, cut_from, cut_to, ap_Seq, nx_seq, rt_seq, ct_seq, bk_seq, exc_seq, ap_Raise, ap_Skip, ap_Brk, ap_Cnt, ap_Drop, ap_Ret, ap_IfS, ap_Set, ap_Ts, ap_AsgT, tgT_t, tgTs_n, tgTs_c, ap_Aug, ap_SetI, ap_AugI, mFor_ap, ap_Rng1, ap_Rng2, rng1_ok, rng2_ok, ap_Iter, src_t, src_s, src_rL, ap_Comp, wipe_n, wipe_c, len_cons, len_nil, zip_cc, zip_nn, foldl_c, foldl_n, set_z, set_s, ite_t, ite_f, ite_T, ite_F, sing_lt, sing_eq, ty_r, ty_s, isS, cut_mid, decide_eq_true_eq, if_pos, if_neg]
    exact ⟨pure_ints _, trivial⟩
theorem mem_drop {l : List Int} {a : Nat} (h : a < l.length) (z : Int) : z ∈ l.drop a ↔ z = l.getD a 0 ∨ z ∈ l.drop (a + 1) := by rw [drop_get h, List.mem_cons]
theorem head_drop {l : List Int} {a : Nat} (r : Rsg l) (h : a < l.length) : ∀ z ∈ l.drop (a + 1), l.getD a 0 < z := by
  have := r.drop a
  rw [drop_get h] at this
  exact this.head
structure EInv (xs ys fd : List Int) (a b : Nat) : Prop where
  ha : a ≤ xs.length
  hb : b ≤ ys.length
  hf : fd.length ≤ a + b
  rf : Rsg fd
  mem : ∀ z, (z ∈ xs ∨ z ∈ ys) ↔ (z ∈ fd ∨ z ∈ xs.drop a ∨ z ∈ ys.drop b)
  lx : ∀ z ∈ fd, ∀ w ∈ xs.drop a, z < w
  ly : ∀ z ∈ fd, ∀ w ∈ ys.drop b, z < w
/-- the next one of both goes on -/
theorem EInv.step {xs ys fd : List Int} {a b a' b' : Nat} {x : Int} (I : EInv xs ys fd a b) (hx : (∀ z, (z ∈ xs.drop a ∨ z ∈ ys.drop b) ↔ (z = x ∨ z ∈ xs.drop a' ∨ z ∈ ys.drop b'))) (h1 : a ≤ a') (h2 : b ≤ b') (h3 : a + b < a' + b') (h4 : a' ≤ xs.length) (h5 : b' ≤ ys.length) (hl : ∀ z ∈ xs.drop a', x < z) (hr : ∀ z ∈ ys.drop b', x < z) : EInv xs ys (fd ++ [x]) a' b' where
  ha := h4
  hb := h5
  hf := by have := I.hf; simp; omega
  rf := I.rf.snoc fun z hz => by
    rcases (hx x).2 (.inl rfl) with e | e
    · exact I.lx z hz x e
    · exact I.ly z hz x e
  mem := fun z => by
    rw [I.mem z, List.mem_append, List.mem_singleton]
    have := hx z
    grind
  lx := fun z hz w hw => by
    rcases List.mem_append.1 hz with e | e
    · exact I.lx z e w (List.mem_of_mem_drop (i := a' - a) (by rw [List.drop_drop, Nat.add_sub_cancel' h1]; exact hw))
    · rw [List.mem_singleton.1 e]; exact hl w hw
  ly := fun z hz w hw => by
    rcases List.mem_append.1 hz with e | e
    · exact I.ly z e w (List.mem_of_mem_drop (i := b' - b) (by rw [List.drop_drop, Nat.add_sub_cancel' h2]; exact hw))
    · rw [List.mem_singleton.1 e]; exact hr w hw
theorem either_ev (xs ys : List Int) (r : Rsg xs) (r' : Rsg ys) (hx : xs.length ≤ 1000) (hy : ys.length ≤ 1000) : Ev (den_either [T xs, T ys] []) fun w _ => pureW w = true ∧ ∃ zs, w = T zs ∧ Rsg zs ∧ ∀ z, z ∈ zs ↔ (z ∈ xs ∨ z ∈ ys) := by
  refine fun_ev ?_
  unfold body_either
  simp only [startE, List.map_cons, List.map_nil, List.length_cons, List.length_nil, List.cons_append, List.nil_append, Nat.zero_add, Nat.reduceAdd, Nat.reduceSub, List.replicate_succ, List.replicate_zero]
  simp (disch := first | omega | (simp only [List.length_append, List.length_cons, List.length_nil, List.length_set, List.length_drop, List.length_take, List.length_map]; omega)) only [mVar_z, Nat.reduceAdd, Nat.zero_add, Int.zero_add, Int.reduceAdd, Int.reduceSub, Int.reduceNeg, ap_Lst, ap_Tup, nil_app, cons_app, List.length_append, lst_last, mVar_s, ok_bnd, ok_stm, exc_bnd, ev_okE, exc_stm, ap_C, ap_Op, ap_Un, ap_B, ap_Chain, ap_asB, ap_And, ap_Or, ap_Not, ap_AndV, ap_OrV, ap_NotV, ap_If, ap_Nil, ap_Cons, ap_CB, ap_Meth, ap_Part, ap_NoPart, ap_Sl, ap_Yes, add_ii, add_ss, sub_ii, neg_i, mul_ii, fdiv_ii, mod_ii, eq_ii, ne_ii, eq_ss, ne_ss, lt_ii, le_ii, gt_ii, ge_ii, lt_ss, gt_ss, le_ss, ge_ss, len_s, len_t, abs_i, int_i, int_b, max_ii, min_ii, ix_s, ixL_0, ixL_1, ixL_2, ixL_3, ixL_n, ixL_i, ixL_st, setL_n, setL_i, List.length_map, List.length_set, ix_r, getL_r, ix_tL, withL_s, setL_0, setL_1, setL_2, set_r, app_r, lst_z, lst_s, iadd_ii, tuple_r, mul_ri, sl_s, sl_rol, sl_t, sl_r, cut_from, cut_to, ap_Seq, nx_seq, rt_seq, ct_seq, bk_seq, exc_seq, ap_Raise, ap_Skip, ap_Brk, ap_Cnt, ap_Drop, ap_Ret, ap_IfS, ap_Set, ap_Ts, ap_AsgT, tgT_t, tgTs_n, tgTs_c, ap_Aug, ap_SetI, ap_AugI, mFor_ap, ap_Rng1, ap_Rng2, rng1_ok, rng2_ok, ap_Iter, src_t, src_s, src_rL, ap_Comp, wipe_n, wipe_c, len_cons, len_nil, zip_cc, zip_nn, foldl_c, foldl_n, set_z, set_s, ite_t, ite_f, ite_T, ite_F, sing_lt, sing_eq, ty_r, ty_s, isS, cut_mid, decide_eq_true_eq, if_pos, if_neg]
  refine sv_cut (R' := fun o => ∃ (a b : Option W) (fd : List Int), o = SOut.nx [some (T xs), some (T ys), some (.ref 0), a, b] [.lst (fd.map .int)] ∧ Rsg fd ∧ ∀ z, z ∈ fd ↔ (z ∈ xs ∨ z ∈ ys)) ?_ ?_
  · refine mWhile_sv (xs.length + ys.length) (fun m e h => ∃ (a b : Nat) (fd : List Int), EInv xs ys fd a b ∧ m = (xs.length - a) + (ys.length - b) ∧ e = [some (T xs), some (T ys), some (.ref 0), some (.int a), some (.int b)] ∧ h = [.lst (fd.map .int)]) (by omega) ⟨0, 0, [], ⟨by omega, by omega, by simp, List.Pairwise.nil, fun z => by simp, by simp, by simp⟩, by omega, rfl, rfl⟩ ?_
    rintro m e h ⟨a, b, fd, I, rfl, rfl, rfl⟩
    have ha := I.ha
    have hb := I.hb
    have hf := I.hf
    by_cases h1 : a < xs.length
    · by_cases h2 : b < ys.length
      · have mx := mem_drop h1
        have my := mem_drop h2
        have lx := head_drop r h1
        have ly := head_drop r' h2
        generalize hxv : xs.getD a 0 = x at mx lx
        generalize hyv : ys.getD b 0 = y at my ly
        rcases Int.lt_trichotomy x y with hlt | heq | hgt
        · simp (disch := first | omega | (simp only [List.length_append, List.length_cons, List.length_nil, List.length_set, List.length_drop, List.length_take, List.length_map]; omega)) only [hxv, hyv, sv_nx, sv_rt, sv_ct, rnd_nx, rnd_ct, Int.toNat_natCast, ne_eq, eq_self, not_true_eq_false, not_false_eq_true, mVar_z, Nat.reduceAdd, Nat.zero_add, Int.zero_add, Int.reduceAdd, Int.reduceSub, Int.reduceNeg, ap_Lst, ap_Tup, nil_app, cons_app, List.length_append, lst_last, mVar_s, ok_bnd, ok_stm, exc_bnd, ev_okE, exc_stm, ap_C, ap_Op, ap_Un, ap_B, ap_Chain, ap_asB, ap_And, ap_Or, ap_Not, ap_AndV, ap_OrV, ap_NotV, ap_If, ap_Nil, ap_Cons, ap_CB, ap_Meth, ap_Part, ap_NoPart, ap_Sl, ap_Yes, add_ii, add_ss, sub_ii, neg_i, mul_ii, fdiv_ii, mod_ii, eq_ii, ne_ii, eq_ss, ne_ss, lt_ii, le_ii, gt_ii, ge_ii, lt_ss, gt_ss, le_ss, ge_ss, len_s, len_t, abs_i, int_i, int_b, max_ii, min_ii, ix_s, ixL_0, ixL_1, ixL_2, ixL_3, ixL_n, ixL_i, ixL_st, setL_n, setL_i, List.length_map, List.length_set, ix_r, getL_r, ix_tL, withL_s, setL_0, setL_1, setL_2, set_r, app_r, lst_z, lst_s, iadd_ii, tuple_r, mul_ri, sl_s, sl_rol, sl_t, sl_r, cut_from, cut_to, ap_Seq, nx_seq, rt_seq, ct_seq, bk_seq, exc_seq, ap_Raise, ap_Skip, ap_Brk, ap_Cnt, ap_Drop, ap_Ret, ap_IfS, ap_Set, ap_Ts, ap_AsgT, tgT_t, tgTs_n, tgTs_c, ap_Aug, ap_SetI, ap_AugI, mFor_ap, ap_Rng1, ap_Rng2, rng1_ok, rng2_ok, ap_Iter, src_t, src_s, src_rL, ap_Comp, wipe_n, wipe_c, len_cons, len_nil, zip_cc, zip_nn, foldl_c, foldl_n, set_z, set_s, ite_t, ite_f, ite_T, ite_F, sing_lt, sing_eq, ty_r, ty_s, isS, cut_mid, decide_eq_true_eq, if_pos, if_neg]
          refine ⟨_, by omega, a + 1, b, fd ++ [x], I.step (x := x) (fun z => by rw [mx]; grind) (by omega) (by omega) (by omega) (by omega) (by omega) lx (fun z hz => ?_), rfl, by simp, by simp⟩
          rcases (my z).1 hz with e | e
          · omega
          · have := ly z e; omega
        · subst heq
          simp (disch := first | omega | (simp only [List.length_append, List.length_cons, List.length_nil, List.length_set, List.length_drop, List.length_take, List.length_map]; omega)) only [hxv, hyv, sv_nx, sv_rt, sv_ct, rnd_nx, rnd_ct, Int.toNat_natCast, ne_eq, eq_self, not_true_eq_false, not_false_eq_true, mVar_z, Nat.reduceAdd, Nat.zero_add, Int.zero_add, Int.reduceAdd, Int.reduceSub, Int.reduceNeg, ap_Lst, ap_Tup, nil_app, cons_app, List.length_append, lst_last, mVar_s, ok_bnd, ok_stm, exc_bnd, ev_okE, exc_stm, ap_C, ap_Op, ap_Un, ap_B, ap_Chain, ap_asB, ap_And, ap_Or, ap_Not, ap_AndV, ap_OrV, ap_NotV, ap_If, ap_Nil, ap_Cons, ap_CB, ap_Meth, ap_Part, ap_NoPart, ap_Sl, ap_Yes, add_ii, add_ss, sub_ii, neg_i, mul_ii, fdiv_ii, mod_ii, eq_ii, ne_ii, eq_ss, ne_ss, lt_ii, le_ii, gt_ii, ge_ii, lt_ss, gt_ss, le_ss, ge_ss, len_s, len_t, abs_i, int_i, int_b, max_ii, min_ii, ix_s, ixL_0, ixL_1, ixL_2, ixL_3, ixL_n, ixL_i, ixL_st, setL_n, setL_i, List.length_map, List.length_set, ix_r, getL_r, ix_tL, withL_s, setL_0, setL_1, setL_2, set_r, app_r, lst_z, lst_s, iadd_ii, tuple_r, mul_ri, sl_s, sl_rol, sl_t, sl_r, cut_from, cut_to, ap_Seq, nx_seq, rt_seq, ct_seq, bk_seq, exc_seq, ap_Raise, ap_Skip, ap_Brk, ap_Cnt, ap_Drop, ap_Ret, ap_IfS, ap_Set, ap_Ts, ap_AsgT, tgT_t, tgTs_n, tgTs_c, ap_Aug, ap_SetI, ap_AugI, mFor_ap, ap_Rng1, ap_Rng2, rng1_ok, rng2_ok, ap_Iter, src_t, src_s, src_rL, ap_Comp, wipe_n, wipe_c, len_cons, len_nil, zip_cc, zip_nn, foldl_c, foldl_n, set_z, set_s, ite_t, ite_f, ite_T, ite_F, sing_lt, sing_eq, ty_r, ty_s, isS, cut_mid, decide_eq_true_eq, if_pos, if_neg]
          exact ⟨_, by omega, a + 1, b + 1, fd ++ [x], I.step (x := x) (fun z => by rw [mx, my]; grind) (by omega) (by omega) (by omega) (by omega) (by omega) lx ly, rfl, by simp, by simp⟩
        · simp (disch := first | omega | (simp only [List.length_append, List.length_cons, List.length_nil, List.length_set, List.length_drop, List.length_take, List.length_map]; omega)) only [hxv, hyv, sv_nx, sv_rt, sv_ct, rnd_nx, rnd_ct, Int.toNat_natCast, ne_eq, eq_self, not_true_eq_false, not_false_eq_true, mVar_z, Nat.reduceAdd, Nat.zero_add, Int.zero_add, Int.reduceAdd, Int.reduceSub, Int.reduceNeg, ap_Lst, ap_Tup, nil_app, cons_app, List.length_append, lst_last, mVar_s, ok_bnd, ok_stm, exc_bnd, ev_okE, exc_stm, ap_C, ap_Op, ap_Un, ap_B, ap_Chain, ap_asB, ap_And, ap_Or, ap_Not, ap_AndV, ap_OrV, ap_NotV, ap_If, ap_Nil, ap_Cons, ap_CB, ap_Meth, ap_Part, ap_NoPart, ap_Sl, ap_Yes, add_ii, add_ss, sub_ii, neg_i, mul_ii, fdiv_ii, mod_ii, eq_ii, ne_ii, eq_ss, ne_ss, lt_ii, le_ii, gt_ii, ge_ii, lt_ss, gt_ss, le_ss, ge_ss, len_s, len_t, abs_i, int_i, int_b, max_ii, min_ii, ix_s, ixL_0, ixL_1, ixL_2, ixL_3, ixL_n, ixL_i, ixL_st, setL_n, setL_i, List.length_map, List.length_set, ix_r, getL_r, ix_tL, withL_s, setL_0, setL_1, setL_2, set_r, app_r, lst_z, lst_s, iadd_ii, tuple_r, mul_ri, sl_s, sl_rol, sl_t, sl_r, cut_from, cut_to, ap_Seq, nx_seq, rt_seq, ct_seq, bk_seq, exc_seq, ap_Raise, ap_Skip, ap_Brk, ap_Cnt, ap_Drop, ap_Ret, ap_IfS, ap_Set, ap_Ts, ap_AsgT, tgT_t, tgTs_n, tgTs_c, ap_Aug, ap_SetI, ap_AugI, mFor_ap, ap_Rng1, ap_Rng2, rng1_ok, rng2_ok, ap_Iter, src_t, src_s, src_rL, ap_Comp, wipe_n, wipe_c, len_cons, len_nil, zip_cc, zip_nn, foldl_c, foldl_n, set_z, set_s, ite_t, ite_f, ite_T, ite_F, sing_lt, sing_eq, ty_r, ty_s, isS, cut_mid, decide_eq_true_eq, if_pos, if_neg]
          refine ⟨_, by omega, a, b + 1, fd ++ [y], I.step (x := y) (fun z => by rw [my]; grind) (by omega) (by omega) (by omega) (by omega) (by omega) (fun z hz => ?_) ly, rfl, by simp, by simp⟩
          rcases (mx z).1 hz with e | e
          · omega
          · have := lx z e; omega
      · have mx := mem_drop h1
        have lx := head_drop r h1
        generalize hxv : xs.getD a 0 = x at mx lx
        have hbe : b = ys.length := by omega
        subst hbe
        simp (disch := first | omega | (simp only [List.length_append, List.length_cons, List.length_nil, List.length_set, List.length_drop, List.length_take, List.length_map]; omega)) only [hxv, sv_nx, sv_rt, sv_ct, rnd_nx, rnd_ct, Int.toNat_natCast, ne_eq, eq_self, not_true_eq_false, not_false_eq_true, mVar_z, Nat.reduceAdd, Nat.zero_add, Int.zero_add, Int.reduceAdd, Int.reduceSub, Int.reduceNeg, ap_Lst, ap_Tup, nil_app, cons_app, List.length_append, lst_last, mVar_s, ok_bnd, ok_stm, exc_bnd, ev_okE, exc_stm, ap_C, ap_Op, ap_Un, ap_B, ap_Chain, ap_asB, ap_And, ap_Or, ap_Not, ap_AndV, ap_OrV, ap_NotV, ap_If, ap_Nil, ap_Cons, ap_CB, ap_Meth, ap_Part, ap_NoPart, ap_Sl, ap_Yes, add_ii, add_ss, sub_ii, neg_i, mul_ii, fdiv_ii, mod_ii, eq_ii, ne_ii, eq_ss, ne_ss, lt_ii, le_ii, gt_ii, ge_ii, lt_ss, gt_ss, le_ss, ge_ss, len_s, len_t, abs_i, int_i, int_b, max_ii, min_ii, ix_s, ixL_0, ixL_1, ixL_2, ixL_3, ixL_n, ixL_i, ixL_st, setL_n, setL_i, List.length_map, List.length_set, ix_r, getL_r, ix_tL, withL_s, setL_0, setL_1, setL_2, set_r, app_r, lst_z, lst_s, iadd_ii, tuple_r, mul_ri, sl_s, sl_rol, sl_t, sl_r, cut_from, cut_to, ap_Seq, nx_seq, rt_seq, ct_seq, bk_seq, exc_seq, ap_Raise, ap_Skip, ap_Brk, ap_Cnt, ap_Drop, ap_Ret, ap_IfS, ap_Set, ap_Ts, ap_AsgT, tgT_t, tgTs_n, tgTs_c, ap_Aug, ap_SetI, ap_AugI, mFor_ap, ap_Rng1, ap_Rng2, rng1_ok, rng2_ok, ap_Iter, src_t, src_s, src_rL, ap_Comp, wipe_n, wipe_c, len_cons, len_nil, zip_cc, zip_nn, foldl_c, foldl_n, set_z, set_s, ite_t, ite_f, ite_T, ite_F, sing_lt, sing_eq, ty_r, ty_s, isS, cut_mid, decide_eq_true_eq, if_pos, if_neg]
        exact ⟨_, by omega, a + 1, ys.length, fd ++ [x], I.step (x := x) (fun z => by rw [mx]; grind) (by omega) (by omega) (by omega) (by omega) (by omega) lx (by simp), rfl, by simp, by simp⟩
    · by_cases h2 : b < ys.length
      · have my := mem_drop h2
        have ly := head_drop r' h2
        generalize hyv : ys.getD b 0 = y at my ly
        have hae : a = xs.length := by omega
        subst hae
        simp (disch := first | omega | (simp only [List.length_append, List.length_cons, List.length_nil, List.length_set, List.length_drop, List.length_take, List.length_map]; omega)) only [hyv, sv_nx, sv_rt, sv_ct, rnd_nx, rnd_ct, Int.toNat_natCast, ne_eq, eq_self, not_true_eq_false, not_false_eq_true, mVar_z, Nat.reduceAdd, Nat.zero_add, Int.zero_add, Int.reduceAdd, Int.reduceSub, Int.reduceNeg, ap_Lst, ap_Tup, nil_app, cons_app, List.length_append, lst_last, mVar_s, ok_bnd, ok_stm, exc_bnd, ev_okE, exc_stm, ap_C, ap_Op, ap_Un, ap_B, ap_Chain, ap_asB, ap_And, ap_Or, ap_Not, ap_AndV, ap_OrV, ap_NotV, ap_If, ap_Nil, ap_Cons, ap_CB, ap_Meth, ap_Part, ap_NoPart, ap_Sl, ap_Yes, add_ii, add_ss, sub_ii, neg_i, mul_ii, fdiv_ii, mod_ii, eq_ii, ne_ii, eq_ss, ne_ss, lt_ii, le_ii, gt_ii, ge_ii, lt_ss, gt_ss, le_ss, ge_ss, len_s, len_t, abs_i, int_i, int_b, max_ii, min_ii, ix_s, ixL_0, ixL_1, ixL_2, ixL_3, ixL_n, ixL_i, ixL_st, setL_n, setL_i, List.length_map, List.length_set, ix_r, getL_r, ix_tL, withL_s, setL_0, setL_1, setL_2, set_r, app_r, lst_z, lst_s, iadd_ii, tuple_r, mul_ri, sl_s, sl_rol, sl_t, sl_r, cut_from, cut_to, ap_Seq, nx_seq, rt_seq, ct_seq, bk_seq, exc_seq, ap_Raise, ap_Skip, ap_Brk, ap_Cnt, ap_Drop, ap_Ret, ap_IfS, ap_Set, ap_Ts, ap_AsgT, tgT_t, tgTs_n, tgTs_c, ap_Aug, ap_SetI, ap_AugI, mFor_ap, ap_Rng1, ap_Rng2, rng1_ok, rng2_ok, ap_Iter, src_t, src_s, src_rL, ap_Comp, wipe_n, wipe_c, len_cons, len_nil, zip_cc, zip_nn, foldl_c, foldl_n, set_z, set_s, ite_t, ite_f, ite_T, ite_F, sing_lt, sing_eq, ty_r, ty_s, isS, cut_mid, decide_eq_true_eq, if_pos, if_neg]
        exact ⟨_, by omega, xs.length, b + 1, fd ++ [y], I.step (x := y) (fun z => by rw [my]; grind) (by omega) (by omega) (by omega) (by omega) (by omega) (by simp) ly, rfl, by simp, by simp⟩
      · simp (disch := first | omega | (simp only [List.length_append, List.length_cons, List.length_nil, List.length_set, List.length_drop, List.length_take, List.length_map]; omega)) only [sv_nx, sv_rt, sv_ct, rnd_nx, rnd_ct, Int.toNat_natCast, ne_eq, eq_self, not_true_eq_false, not_false_eq_true, mVar_z, Nat.reduceAdd, Nat.zero_add, Int.zero_add, Int.reduceAdd, Int.reduceSub, Int.reduceNeg, ap_Lst, ap_Tup, nil_app, cons_app, List.length_append, lst_last, mVar_s, ok_bnd, ok_stm, exc_bnd, ev_okE, exc_stm, ap_C, ap_Op, ap_Un, ap_B, ap_Chain, ap_asB, ap_And, ap_Or, ap_Not, ap_AndV, ap_OrV, ap_NotV, ap_If, ap_Nil, ap_Cons, ap_CB, ap_Meth, ap_Part, ap_NoPart, ap_Sl, ap_Yes, add_ii, add_ss, sub_ii, neg_i, mul_ii, fdiv_ii, mod_ii, eq_ii, ne_ii, eq_ss, ne_ss, lt_ii, le_ii, gt_ii, ge_ii, lt_ss, gt_ss, le_ss, ge_ss, len_s, len_t, abs_i, int_i, int_b, max_ii, min_ii, ix_s, ixL_0, ixL_1, ixL_2, ixL_3, ixL_n, ixL_i, ixL_st, setL_n, setL_i, List.length_map, List.length_set, ix_r, getL_r, ix_tL, withL_s, setL_0, setL_1, setL_2, set_r, app_r, lst_z, lst_s, iadd_ii, tuple_r, mul_ri, sl_s, sl_rol, sl_t, sl_r, cut_from, cut_to, ap_Seq, nx_seq, rt_seq, ct_seq, bk_seq, exc_seq, ap_Raise, ap_Skip, ap_Brk, ap_Cnt, ap_Drop, ap_Ret, ap_IfS, ap_Set, ap_Ts, ap_AsgT, tgT_t, tgTs_n, tgTs_c, ap_Aug, ap_SetI, ap_AugI, mFor_ap, ap_Rng1, ap_Rng2, rng1_ok, rng2_ok, ap_Iter, src_t, src_s, src_rL, ap_Comp, wipe_n, wipe_c, len_cons, len_nil, zip_cc, zip_nn, foldl_c, foldl_n, set_z, set_s, ite_t, ite_f, ite_T, ite_F, sing_lt, sing_eq, ty_r, ty_s, isS, cut_mid, decide_eq_true_eq, if_pos, if_neg]
        refine ⟨_, _, fd, rfl, I.rf, fun z => ?_⟩
        have := I.mem z
        rw [List.drop_eq_nil_of_le (by omega : xs.length ≤ a), List.drop_eq_nil_of_le (by omega : ys.length ≤ b)] at this
        simpa using this.symm
  · rintro o ⟨a, b, fd, rfl, rf, mf⟩
    simp (disch := first | omega | (simp only [List.length_append, List.length_cons, List.length_nil, List.length_set, List.length_drop, List.length_take, List.length_map]; omega)) only [sv_nx, sv_rt, sv_ct, rnd_nx, rnd_ct, Int.toNat_natCast, ne_eq, eq_self, not_true_eq_false, not_false_eq_true, mVar_z, Nat.reduceAdd, Nat.zero_add, Int.zero_add, Int.reduceAdd, Int.reduceSub, Int.reduceNeg, ap_Lst, ap_Tup, nil_app, cons_app, List.length_append, lst_last, mVar_s, ok_bnd, ok_stm, exc_bnd, ev_okE, exc_stm, ap_C, ap_Op, ap_Un, ap_B, ap_Chain, ap_asB, ap_And, ap_Or, ap_Not, ap_AndV, ap_OrV, ap_NotV, ap_If, ap_Nil, ap_Cons, ap_CB, ap_Meth, ap_Part, ap_NoPart, ap_Sl, ap_Yes, add_ii, add_ss, sub_ii, neg_i, mul_ii, fdiv_ii, mod_ii, eq_ii, ne_ii, eq_ss, ne_ss, lt_ii, le_ii, gt_ii, ge_ii, lt_ss, gt_ss, le_ss, ge_ss, len_s, len_t, abs_i, int_i, int_b, max_ii, min_ii, ix_s, ixL_0, ixL_1, ixL_2, ixL_3, ixL_n, ixL_i, ixL_st, setL_n, setL_i, List.length_map, List.length_set, ix_r, getL_r, ix_tL, withL_s, setL_0, setL_1, setL_2, set_r, app_r, lst_z, lst_s, iadd_ii, tuple_r, mul_ri, sl_s, sl_rol, sl_t, sl_r, cut_from, cut_to, ap_Seq, nx_seq, rt_seq, ct_seq, bk_seq, exc_seq, ap_Raise, ap_Skip, ap_Brk, ap_Cnt, ap_Drop, ap_Ret, ap_IfS, ap_Set, ap_Ts, ap_AsgT, tgT_t, tgTs_n, tgTs_c, ap_Aug, ap_SetI, ap_AugI, mFor_ap, ap_Rng1, ap_Rng2, rng1_ok, rng2_ok, ap_Iter, src_t, src_s, src_rL, ap_Comp, wipe_n, wipe_c, len_cons, len_nil, zip_cc, zip_nn, foldl_c, foldl_n, set_z, set_s, ite_t, ite_f, ite_T, ite_F, sing_lt, sing_eq, ty_r, ty_s, isS, cut_mid, decide_eq_true_eq, if_pos, if_neg]
    exact ⟨pure_ints _, fd, rfl, rf, mf⟩
theorem less_ev (xs ys : List Int) (r : Rsg xs) (r' : Rsg ys) (hx : xs.length ≤ 1000) (hy : ys.length ≤ 1000) : Ev (den_less [T xs, T ys] []) fun w _ => pureW w = true ∧ w = T (xs.filter fun z => decide (z ∉ ys)) := by
  refine fun_ev ?_
  unfold body_less
  simp only [startE, List.map_cons, List.map_nil, List.length_cons, List.length_nil, List.cons_append, List.nil_append, Nat.zero_add, Nat.reduceAdd, Nat.reduceSub, List.replicate_succ, List.replicate_zero]
  simp (disch := first | omega | (simp only [List.length_append, List.length_cons, List.length_nil, List.length_set, List.length_drop, List.length_take, List.length_map]; omega)) only [mVar_z, Nat.reduceAdd, Nat.zero_add, Int.zero_add, Int.reduceAdd, Int.reduceSub, Int.reduceNeg, ap_Lst, ap_Tup, nil_app, cons_app, List.length_append, lst_last, mVar_s, ok_bnd, ok_stm, exc_bnd, ev_okE, exc_stm, ap_C, ap_Op, ap_Un, ap_B, ap_Chain, ap_asB, ap_And, ap_Or, ap_Not, ap_AndV, ap_OrV, ap_NotV, ap_If, ap_Nil, ap_Cons, ap_CB, ap_Meth, ap_Part, ap_NoPart, ap_Sl, ap_Yes, add_ii, add_ss, sub_ii, neg_i, mul_ii, fdiv_ii, mod_ii, eq_ii, ne_ii, eq_ss, ne_ss, lt_ii, le_ii, gt_ii, ge_ii, lt_ss, gt_ss, le_ss, ge_ss, len_s, len_t, abs_i, int_i, int_b, max_ii, min_ii, ix_s, ixL_0, ixL_1, ixL_2, ixL_3, ixL_n, ixL_i, ixL_st, setL_n, setL_i, List.length_map, List.length_set, ix_r, getL_r, ix_tL, withL_s, setL_0, setL_1, setL_2, set_r, app_r, lst_z, lst_s, iadd_ii, tuple_r, mul_ri, sl_s, sl_rol, sl_t, sl_r, cut_from, cut_to, ap_Seq, nx_seq, rt_seq, ct_seq, bk_seq, exc_seq, ap_Raise, ap_Skip, ap_Brk, ap_Cnt, ap_Drop, ap_Ret, ap_IfS, ap_Set, ap_Ts, ap_AsgT, tgT_t, tgTs_n, tgTs_c, ap_Aug, ap_SetI, ap_AugI, mFor_ap, ap_Rng1, ap_Rng2, rng1_ok, rng2_ok, ap_Iter, src_t, src_s, src_rL, ap_Comp, wipe_n, wipe_c, len_cons, len_nil, zip_cc, zip_nn, foldl_c, foldl_n, set_z, set_s, ite_t, ite_f, ite_T, ite_F, sing_lt, sing_eq, ty_r, ty_s, isS, cut_mid, decide_eq_true_eq, if_pos, if_neg]
  refine sv_cut (R' := fun o => ∃ b c, o = SOut.nx [some (T xs), some (T ys), some (.ref 0), b, c] [.lst ((xs.filter fun z => decide (z ∉ ys)).map .int)]) ?_ ?_
  · refine forGo_tup (xs.map .int) 4 (fun i e h => ∃ (b : Nat) (c : Option W), b ≤ ys.length ∧ (∀ z ∈ ys.take b, ∀ w ∈ xs.drop i, z < w) ∧ e = [some (T xs), some (T ys), some (.ref 0), some (.int b), c] ∧ h = [.lst (((xs.take i).filter fun z => decide (z ∉ ys)).map .int)]) (by simp; omega) ⟨0, none, by omega, by simp, rfl, by simp⟩ ?_ ?_
    · rintro i e h hi ⟨b, c, hb, hz, rfl, rfl⟩
      have hi : i < xs.length := by simpa using hi
      have mx := mem_drop hi
      have lx := head_drop r hi
      have ht : xs.take (i + 1) = xs.take i ++ [xs.getD i 0] := by
        rw [List.take_succ_eq_append_getElem hi, List.getD_eq_getElem?_getD, List.getElem?_eq_getElem hi]; rfl
      have hgx : (xs.map W.int)[i] = W.int (xs.getD i 0) := by
        rw [List.getElem_map, List.getD_eq_getElem?_getD, List.getElem?_eq_getElem hi]; rfl
      have hfl : ((xs.take i).filter fun z => decide (z ∉ ys)).length ≤ i := Nat.le_trans (List.length_filter_le _ _) (by simp; omega)
      rw [hgx]
      generalize hxv : xs.getD i 0 = x at mx lx ht
      generalize hF : ((xs.take i).filter fun z => decide (z ∉ ys)) = fd at hfl
      rw [set_s, set_s, set_s, set_s, set_z]
      rw [ap_Seq]
      refine sv_cut (R' := fun o => ∃ (b : Nat), b ≤ ys.length ∧ (∀ z ∈ ys.take b, z < x) ∧ (b < ys.length → x ≤ ys.getD b 0) ∧ o = SOut.nx [some (T xs), some (T ys), some (.ref 0), some (.int b), some (.int x)] [.lst (fd.map .int)]) ?_ ?_
      · refine mWhile_sv (ys.length - b) (fun m e h => ∃ (b : Nat), b ≤ ys.length ∧ (∀ z ∈ ys.take b, z < x) ∧ m = ys.length - b ∧ e = [some (T xs), some (T ys), some (.ref 0), some (.int b), some (.int x)] ∧ h = [.lst (fd.map .int)]) (by omega) ?_ ?_
        · exact ⟨b, hb, fun z hz' => hz z hz' x ((mx x).2 (.inl rfl)), rfl, rfl, rfl⟩
        · rintro m e h ⟨b, hb, hz, rfl, rfl, rfl⟩
          by_cases h2 : b < ys.length
          · by_cases h3 : ys.getD b 0 < x
            · simp (disch := first | omega | (simp only [List.length_append, List.length_cons, List.length_nil, List.length_set, List.length_drop, List.length_take, List.length_map]; omega)) only [sv_nx, sv_rt, sv_ct, rnd_nx, rnd_ct, Int.toNat_natCast, ne_eq, eq_self, not_true_eq_false, not_false_eq_true, mVar_z, Nat.reduceAdd, Nat.zero_add, Int.zero_add, Int.reduceAdd, Int.reduceSub, Int.reduceNeg, ap_Lst, ap_Tup, nil_app, cons_app, List.length_append, lst_last, mVar_s, ok_bnd, ok_stm, exc_bnd, ev_okE, exc_stm, ap_C, ap_Op, ap_Un, ap_B, ap_Chain, ap_asB, ap_And, ap_Or, ap_Not, ap_AndV, ap_OrV, ap_NotV, ap_If, ap_Nil, ap_Cons, ap_CB, ap_Meth, ap_Part, ap_NoPart, ap_Sl, ap_Yes, add_ii, add_ss, sub_ii, neg_i, mul_ii, fdiv_ii, mod_ii, eq_ii, ne_ii, eq_ss, ne_ss, lt_ii, le_ii, gt_ii, ge_ii, lt_ss, gt_ss, le_ss, ge_ss, len_s, len_t, abs_i, int_i, int_b, max_ii, min_ii, ix_s, ixL_0, ixL_1, ixL_2, ixL_3, ixL_n, ixL_i, ixL_st, setL_n, setL_i, List.length_map, List.length_set, ix_r, getL_r, ix_tL, withL_s, setL_0, setL_1, setL_2, set_r, app_r, lst_z, lst_s, iadd_ii, tuple_r, mul_ri, sl_s, sl_rol, sl_t, sl_r, cut_from, cut_to, ap_Seq, nx_seq, rt_seq, ct_seq, bk_seq, exc_seq, ap_Raise, ap_Skip, ap_Brk, ap_Cnt, ap_Drop, ap_Ret, ap_IfS, ap_Set, ap_Ts, ap_AsgT, tgT_t, tgTs_n, tgTs_c, ap_Aug, ap_SetI, ap_AugI, mFor_ap, ap_Rng1, ap_Rng2, rng1_ok, rng2_ok, ap_Iter, src_t, src_s, src_rL, ap_Comp, wipe_n, wipe_c, len_cons, len_nil, zip_cc, zip_nn, foldl_c, foldl_n, set_z, set_s, ite_t, ite_f, ite_T, ite_F, sing_lt, sing_eq, ty_r, ty_s, isS, cut_mid, decide_eq_true_eq, if_pos, if_neg]
              refine ⟨_, by omega, b + 1, by omega, fun z hzm => ?_, rfl, by simp, trivial⟩
              rw [List.take_succ_eq_append_getElem h2, List.mem_append] at hzm
              rcases hzm with e | e
              · exact hz z e
              · rw [List.mem_singleton.1 e]
                rw [List.getD_eq_getElem?_getD, List.getElem?_eq_getElem h2] at h3
                exact h3
            · simp (disch := first | omega | (simp only [List.length_append, List.length_cons, List.length_nil, List.length_set, List.length_drop, List.length_take, List.length_map]; omega)) only [sv_nx, sv_rt, sv_ct, rnd_nx, rnd_ct, Int.toNat_natCast, ne_eq, eq_self, not_true_eq_false, not_false_eq_true, mVar_z, Nat.reduceAdd, Nat.zero_add, Int.zero_add, Int.reduceAdd, Int.reduceSub, Int.reduceNeg, ap_Lst, ap_Tup, nil_app, cons_app, List.length_append, lst_last, mVar_s, ok_bnd, ok_stm, exc_bnd, ev_okE, exc_stm, ap_C, ap_Op, ap_Un, ap_B, ap_Chain, ap_asB, ap_And, ap_Or, ap_Not, ap_AndV, ap_OrV, ap_NotV, ap_If, ap_Nil, ap_Cons, ap_CB, ap_Meth, ap_Part, ap_NoPart, ap_Sl, ap_Yes, add_ii, add_ss, sub_ii, neg_i, mul_ii, fdiv_ii, mod_ii, eq_ii, ne_ii, eq_ss, ne_ss, lt_ii, le_ii, gt_ii, ge_ii, lt_ss, gt_ss, le_ss, ge_ss, len_s, len_t, abs_i, int_i, int_b, max_ii, min_ii, ix_s, ixL_0, ixL_1, ixL_2, ixL_3, ixL_n, ixL_i, ixL_st, setL_n, setL_i, List.length_map, List.length_set, ix_r, getL_r, ix_tL, withL_s, setL_0, setL_1, setL_2, set_r, app_r, lst_z, lst_s, iadd_ii, tuple_r, mul_ri, sl_s, sl_rol, sl_t, sl_r, cut_from, cut_to, ap_Seq, nx_seq, rt_seq, ct_seq, bk_seq, exc_seq, ap_Raise, ap_Skip, ap_Brk, ap_Cnt, ap_Drop, ap_Ret, ap_IfS, ap_Set, ap_Ts, ap_AsgT, tgT_t, tgTs_n, tgTs_c, ap_Aug, ap_SetI, ap_AugI, mFor_ap, ap_Rng1, ap_Rng2, rng1_ok, rng2_ok, ap_Iter, src_t, src_s, src_rL, ap_Comp, wipe_n, wipe_c, len_cons, len_nil, zip_cc, zip_nn, foldl_c, foldl_n, set_z, set_s, ite_t, ite_f, ite_T, ite_F, sing_lt, sing_eq, ty_r, ty_s, isS, cut_mid, decide_eq_true_eq, if_pos, if_neg]
              exact ⟨b, by omega, hz, fun _ => by omega, rfl⟩
          · simp (disch := first | omega | (simp only [List.length_append, List.length_cons, List.length_nil, List.length_set, List.length_drop, List.length_take, List.length_map]; omega)) only [sv_nx, sv_rt, sv_ct, rnd_nx, rnd_ct, Int.toNat_natCast, ne_eq, eq_self, not_true_eq_false, not_false_eq_true, mVar_z, Nat.reduceAdd, Nat.zero_add, Int.zero_add, Int.reduceAdd, Int.reduceSub, Int.reduceNeg, ap_Lst, ap_Tup, nil_app, cons_app, List.length_append, lst_last, mVar_s, ok_bnd, ok_stm, exc_bnd, ev_okE, exc_stm, ap_C, ap_Op, ap_Un, ap_B, ap_Chain, ap_asB, ap_And, ap_Or, ap_Not, ap_AndV, ap_OrV, ap_NotV, ap_If, ap_Nil, ap_Cons, ap_CB, ap_Meth, ap_Part, ap_NoPart, ap_Sl, ap_Yes, add_ii, add_ss, sub_ii, neg_i, mul_ii, fdiv_ii, mod_ii, eq_ii, ne_ii, eq_ss, ne_ss, lt_ii, le_ii, gt_ii, ge_ii, lt_ss, gt_ss, le_ss, ge_ss, len_s, len_t, abs_i, int_i, int_b, max_ii, min_ii, ix_s, ixL_0, ixL_1, ixL_2, ixL_3, ixL_n, ixL_i, ixL_st, setL_n, setL_i, List.length_map, List.length_set, ix_r, getL_r, ix_tL, withL_s, setL_0, setL_1, setL_2, set_r, app_r, lst_z, lst_s, iadd_ii, tuple_r, mul_ri, sl_s, sl_rol, sl_t, sl_r, cut_from, cut_to, ap_Seq, nx_seq, rt_seq, ct_seq, bk_seq, exc_seq, ap_Raise, ap_Skip, ap_Brk, ap_Cnt, ap_Drop, ap_Ret, ap_IfS, ap_Set, ap_Ts, ap_AsgT, tgT_t, tgTs_n, tgTs_c, ap_Aug, ap_SetI, ap_AugI, mFor_ap, ap_Rng1, ap_Rng2, rng1_ok, rng2_ok, ap_Iter, src_t, src_s, src_rL, ap_Comp, wipe_n, wipe_c, len_cons, len_nil, zip_cc, zip_nn, foldl_c, foldl_n, set_z, set_s, ite_t, ite_f, ite_T, ite_F, sing_lt, sing_eq, ty_r, ty_s, isS, cut_mid, decide_eq_true_eq, if_pos, if_neg]
            exact ⟨b, by omega, hz, fun h => absurd h h2, rfl⟩
      · rintro o ⟨b, hb, hz2, hge, rfl⟩
        have hin : x ∈ ys ↔ b < ys.length ∧ ys.getD b 0 = x := by
          constructor
          · intro hm
            have hm2 : x ∈ ys.take b ++ ys.drop b := by rw [List.take_append_drop]; exact hm
            rcases List.mem_append.1 hm2 with e | e
            · have := hz2 x e; omega
            · have hbl : b < ys.length := by
                rcases Nat.lt_or_ge b ys.length with q | q
                · exact q
                · rw [List.drop_eq_nil_of_le q] at e; cases e
              refine ⟨hbl, ?_⟩
              rcases (mem_drop hbl x).1 e with e | e
              · exact e.symm
              · have := head_drop r' hbl x e
                have := hge hbl
                omega
          · rintro ⟨hbl, rfl⟩
            exact List.mem_of_mem_drop ((mem_drop hbl _).2 (.inl rfl))
        have hz3 : ∀ z ∈ ys.take b, ∀ w ∈ xs.drop (i + 1), z < w := fun z hz w hw => by
          have := hz2 z hz
          have := lx w hw
          omega
        by_cases hb1 : b < ys.length
        · by_cases hb2 : ys.getD b 0 = x
          · have hxi : x ∈ ys := hin.2 ⟨hb1, hb2⟩
            simp (disch := first | omega | (simp only [List.length_append, List.length_cons, List.length_nil, List.length_set, List.length_drop, List.length_take, List.length_map]; omega)) only [sv_nx, sv_rt, sv_ct, rnd_nx, rnd_ct, Int.toNat_natCast, ne_eq, eq_self, not_true_eq_false, not_false_eq_true, mVar_z, Nat.reduceAdd, Nat.zero_add, Int.zero_add, Int.reduceAdd, Int.reduceSub, Int.reduceNeg, ap_Lst, ap_Tup, nil_app, cons_app, List.length_append, lst_last, mVar_s, ok_bnd, ok_stm, exc_bnd, ev_okE, exc_stm, ap_C, ap_Op, ap_Un, ap_B, ap_Chain, ap_asB, ap_And, ap_Or, ap_Not, ap_AndV, ap_OrV, ap_NotV, ap_If, ap_Nil, ap_Cons, ap_CB, ap_Meth, ap_Part, ap_NoPart, ap_Sl, ap_Yes, add_ii, add_ss, sub_ii, neg_i, mul_ii, fdiv_ii, mod_ii, eq_ii, ne_ii, eq_ss, ne_ss, lt_ii, le_ii, gt_ii, ge_ii, lt_ss, gt_ss, le_ss, ge_ss, len_s, len_t, abs_i, int_i, int_b, max_ii, min_ii, ix_s, ixL_0, ixL_1, ixL_2, ixL_3, ixL_n, ixL_i, ixL_st, setL_n, setL_i, List.length_map, List.length_set, ix_r, getL_r, ix_tL, withL_s, setL_0, setL_1, setL_2, set_r, app_r, lst_z, lst_s, iadd_ii, tuple_r, mul_ri, sl_s, sl_rol, sl_t, sl_r, cut_from, cut_to, ap_Seq, nx_seq, rt_seq, ct_seq, bk_seq, exc_seq, ap_Raise, ap_Skip, ap_Brk, ap_Cnt, ap_Drop, ap_Ret, ap_IfS, ap_Set, ap_Ts, ap_AsgT, tgT_t, tgTs_n, tgTs_c, ap_Aug, ap_SetI, ap_AugI, mFor_ap, ap_Rng1, ap_Rng2, rng1_ok, rng2_ok, ap_Iter, src_t, src_s, src_rL, ap_Comp, wipe_n, wipe_c, len_cons, len_nil, zip_cc, zip_nn, foldl_c, foldl_n, set_z, set_s, ite_t, ite_f, ite_T, ite_F, sing_lt, sing_eq, ty_r, ty_s, isS, cut_mid, decide_eq_true_eq, if_pos, if_neg]
            exact ⟨b, some (.int x), hb, hz3, by simp, by rw [ht, List.filter_append, hF]; simp [hxi]⟩
          · have hxi : x ∉ ys := fun q => hb2 (hin.1 q).2
            simp (disch := first | omega | (simp only [List.length_append, List.length_cons, List.length_nil, List.length_set, List.length_drop, List.length_take, List.length_map]; omega)) only [sv_nx, sv_rt, sv_ct, rnd_nx, rnd_ct, Int.toNat_natCast, ne_eq, eq_self, not_true_eq_false, not_false_eq_true, mVar_z, Nat.reduceAdd, Nat.zero_add, Int.zero_add, Int.reduceAdd, Int.reduceSub, Int.reduceNeg, ap_Lst, ap_Tup, nil_app, cons_app, List.length_append, lst_last, mVar_s, ok_bnd, ok_stm, exc_bnd, ev_okE, exc_stm, ap_C, ap_Op, ap_Un, ap_B, ap_Chain, ap_asB, ap_And, ap_Or, ap_Not, ap_AndV, ap_OrV, ap_NotV, ap_If, ap_Nil, ap_Cons, ap_CB, ap_Meth, ap_Part, ap_NoPart, ap_Sl, ap_Yes, add_ii, add_ss, sub_ii, neg_i, mul_ii, fdiv_ii, mod_ii, eq_ii, ne_ii, eq_ss, ne_ss, lt_ii, le_ii, gt_ii, ge_ii, lt_ss, gt_ss, le_ss, ge_ss, len_s, len_t, abs_i, int_i, int_b, max_ii, min_ii, ix_s, ixL_0, ixL_1, ixL_2, ixL_3, ixL_n, ixL_i, ixL_st, setL_n, setL_i, List.length_map, List.length_set, ix_r, getL_r, ix_tL, withL_s, setL_0, setL_1, setL_2, set_r, app_r, lst_z, lst_s, iadd_ii, tuple_r, mul_ri, sl_s, sl_rol, sl_t, sl_r, cut_from, cut_to, ap_Seq, nx_seq, rt_seq, ct_seq, bk_seq, exc_seq, ap_Raise, ap_Skip, ap_Brk, ap_Cnt, ap_Drop, ap_Ret, ap_IfS, ap_Set, ap_Ts, ap_AsgT, tgT_t, tgTs_n, tgTs_c, ap_Aug, ap_SetI, ap_AugI, mFor_ap, ap_Rng1, ap_Rng2, rng1_ok, rng2_ok, ap_Iter, src_t, src_s, src_rL, ap_Comp, wipe_n, wipe_c, len_cons, len_nil, zip_cc, zip_nn, foldl_c, foldl_n, set_z, set_s, ite_t, ite_f, ite_T, ite_F, sing_lt, sing_eq, ty_r, ty_s, isS, cut_mid, decide_eq_true_eq, if_pos, if_neg]
            exact ⟨b, some (.int x), hb, hz3, by simp, by rw [ht, List.filter_append, hF]; simp [hxi]⟩
        · have hxi : x ∉ ys := fun q => hb1 (hin.1 q).1
          simp (disch := first | omega | (simp only [List.length_append, List.length_cons, List.length_nil, List.length_set, List.length_drop, List.length_take, List.length_map]; omega)) only [sv_nx, sv_rt, sv_ct, rnd_nx, rnd_ct, Int.toNat_natCast, ne_eq, eq_self, not_true_eq_false, not_false_eq_true, mVar_z, Nat.reduceAdd, Nat.zero_add, Int.zero_add, Int.reduceAdd, Int.reduceSub, Int.reduceNeg, ap_Lst, ap_Tup, nil_app, cons_app, List.length_append, lst_last, mVar_s, ok_bnd, ok_stm, exc_bnd, ev_okE, exc_stm, ap_C, ap_Op, ap_Un, ap_B, ap_Chain, ap_asB, ap_And, ap_Or, ap_Not, ap_AndV, ap_OrV, ap_NotV, ap_If, ap_Nil, ap_Cons, ap_CB, ap_Meth, ap_Part, ap_NoPart, ap_Sl, ap_Yes, add_ii, add_ss, sub_ii, neg_i, mul_ii, fdiv_ii, mod_ii, eq_ii, ne_ii, eq_ss, ne_ss, lt_ii, le_ii, gt_ii, ge_ii, lt_ss, gt_ss, le_ss, ge_ss, len_s, len_t, abs_i, int_i, int_b, max_ii, min_ii, ix_s, ixL_0, ixL_1, ixL_2, ixL_3, ixL_n, ixL_i, ixL_st, setL_n, setL_i, List.length_map, List.length_set, ix_r, getL_r, ix_tL, withL_s, setL_0, setL_1, setL_2, set_r, app_r, lst_z, lst_s, iadd_ii, tuple_r, mul_ri, sl_s, sl_rol, sl_t, sl_r, cut_from, cut_to, ap_Seq, nx_seq, rt_seq, ct_seq, bk_seq, exc_seq, ap_Raise, ap_Skip, ap_Brk, ap_Cnt, ap_Drop, ap_Ret, ap_IfS, ap_Set, ap_Ts, ap_AsgT, tgT_t, tgTs_n, tgTs_c, ap_Aug, ap_SetI, ap_AugI, mFor_ap, ap_Rng1, ap_Rng2, rng1_ok, rng2_ok, ap_Iter, src_t, src_s, src_rL, ap_Comp, wipe_n, wipe_c, len_cons, len_nil, zip_cc, zip_nn, foldl_c, foldl_n, set_z, set_s, ite_t, ite_f, ite_T, ite_F, sing_lt, sing_eq, ty_r, ty_s, isS, cut_mid, decide_eq_true_eq, if_pos, if_neg]
          exact ⟨b, some (.int x), hb, hz3, by simp, by rw [ht, List.filter_append, hF]; simp [hxi]⟩
    · rintro e h ⟨b, c, hb, hz, rfl, rfl⟩
      have e1 : xs.take (xs.map W.int).length = xs := by rw [List.length_map, List.take_length]
      rw [e1]
      exact ⟨_, _, rfl⟩
  · rintro o ⟨b, c, rfl⟩
    simp (disch := first | omega | (simp only [List.length_append, List.length_cons, List.length_nil, List.length_set, List.length_drop, List.length_take, List.length_map]; omega)) only [sv_nx, sv_rt, sv_ct, rnd_nx, rnd_ct, Int.toNat_natCast, ne_eq, eq_self, not_true_eq_false, not_false_eq_true, mVar_z, Nat.reduceAdd, Nat.zero_add, Int.zero_add, Int.reduceAdd, Int.reduceSub, Int.reduceNeg, ap_Lst, ap_Tup, nil_app, cons_app, List.length_append, lst_last, mVar_s, ok_bnd, ok_stm, exc_bnd, ev_okE, exc_stm, ap_C, ap_Op, ap_Un, ap_B, ap_Chain, ap_asB, ap_And, ap_Or, ap_Not, ap_AndV, ap_OrV, ap_NotV, ap_If, ap_Nil, ap_Cons, ap_CB, ap_Meth, ap_Part, ap_NoPart, ap_Sl, ap_Yes, add_ii, add_ss, sub_ii, neg_i, mul_ii, fdiv_ii, mod_ii, eq_ii, ne_ii, eq_ss, ne_ss, lt_ii, le_ii, gt_ii, ge_ii, lt_ss, gt_ss, le_ss, ge_ss, len_s, len_t, abs_i, int_i, int_b, max_ii, min_ii, ix_s, ixL_0, ixL_1, ixL_2, ixL_3, ixL_n, ixL_i, ixL_st, setL_n, setL_i, List.length_map, List.length_set, ix_r, getL_r, ix_tL, withL_s, setL_0, setL_1, setL_2, set_r, app_r, lst_z, lst_s, iadd_ii, tuple_r, mul_ri, sl_s, sl_rol, sl_t, sl_r, cut_from, cut_to, ap_Seq, nx_seq, rt_seq, ct_seq, bk_seq, exc_seq, ap_Raise, ap_Skip, ap_Brk, ap_Cnt, ap_Drop, ap_Ret, ap_IfS, ap_Set, ap_Ts, ap_AsgT, tgT_t, tgTs_n, tgTs_c, ap_Aug, ap_SetI, ap_AugI, mFor_ap, ap_Rng1, ap_Rng2, rng1_ok, rng2_ok, ap_Iter, src_t, src_s, src_rL, ap_Comp, wipe_n, wipe_c, len_cons, len_nil, zip_cc, zip_nn, foldl_c, foldl_n, set_z, set_s, ite_t, ite_f, ite_T, ite_F, sing_lt, sing_eq, ty_r, ty_s, isS, cut_mid, decide_eq_true_eq, if_pos, if_neg]
    exact ⟨pure_ints _, trivial⟩
end Law_indexhall_k04_rising_rows
set_option maxRecDepth 100000
namespace Law_indexhall_k04_rising_rows
open PySem L2 Den
/-- how many stand below n -/
def cntB (xs : List Int) (n : Int) : Nat := (xs.filter fun z => decide (z < n)).length
theorem cntB_le (xs : List Int) (n : Int) : cntB xs n ≤ xs.length := List.length_filter_le _ _
/-- the numbers below n stand first -/
theorem cntB_lt {xs : List Int} (r : Rsg xs) {n : Int} : ∀ {i : Nat}, i < xs.length → (i < cntB xs n ↔ xs.getD i 0 < n) := by
  induction xs with
  | nil => intro i hi; simp at hi
  | cons x xs ih =>
    intro i hi
    unfold cntB
    by_cases hx : x < n
    · rw [List.filter_cons_of_pos (by simp [hx]), List.length_cons]
      cases i with
      | zero => simpa using hx
      | succ i =>
        have := ih r.tail (i := i) (by simpa using hi)
        unfold cntB at this
        rw [List.getD_cons_succ, ← this]
        omega
    · rw [List.filter_cons_of_neg (by simp [hx])]
      have h0 : xs.filter (fun z => decide (z < n)) = [] := by
        rw [List.filter_eq_nil_iff]
        intro z hz
        have := r.head z hz
        simp; omega
      rw [h0]
      have : n ≤ (x :: xs).getD i 0 := by
        cases i with
        | zero => simp; omega
        | succ i =>
          rw [List.getD_cons_succ]
          have hi' : i < xs.length := by simpa using hi
          have := r.head (xs.getD i 0) (by rw [List.getD_eq_getElem?_getD, List.getElem?_eq_getElem hi']; exact List.getElem_mem hi')
          omega
      simp only [List.length_nil, Nat.not_lt_zero, false_iff, Int.not_lt]
      exact this
theorem place_ev (xs : List Int) (n : Int) (r : Rsg xs) (hx : xs.length ≤ 1000) : Ev (den_place_of [T xs, .int n] []) fun w _ => pureW w = true ∧ w = .int (cntB xs n) := by
  have hc := cntB_le xs n
  refine fun_ev ?_
  unfold body_place_of
  simp only [startE, List.map_cons, List.map_nil, List.length_cons, List.length_nil, List.cons_append, List.nil_append, Nat.zero_add, Nat.reduceAdd, Nat.reduceSub, List.replicate_succ, List.replicate_zero]
  simp (disch := first | omega | (simp only [List.length_append, List.length_cons, List.length_nil, List.length_set, List.length_drop, List.length_take, List.length_map]; omega)) only [mVar_z, Nat.reduceAdd, Nat.zero_add, Int.zero_add, Int.reduceAdd, Int.reduceSub, Int.reduceNeg, ap_Lst, ap_Tup, nil_app, cons_app, List.length_append, lst_last, mVar_s, ok_bnd, ok_stm, exc_bnd, ev_okE, exc_stm, ap_C, ap_Op, ap_Un, ap_B, ap_Chain, ap_asB, ap_And, ap_Or, ap_Not, ap_AndV, ap_OrV, ap_NotV, ap_If, ap_Nil, ap_Cons, ap_CB, ap_Meth, ap_Part, ap_NoPart, ap_Sl, ap_Yes, add_ii, add_ss, sub_ii, neg_i, mul_ii, fdiv_ii, mod_ii, eq_ii, ne_ii, eq_ss, ne_ss, lt_ii, le_ii, gt_ii, ge_ii, lt_ss, gt_ss, le_ss, ge_ss, len_s, len_t, abs_i, int_i, int_b, max_ii, min_ii, ix_s, ixL_0, ixL_1, ixL_2, ixL_3, ixL_n, ixL_i, ixL_st, setL_n, setL_i, List.length_map, List.length_set, ix_r, getL_r, ix_tL, withL_s, setL_0, setL_1, setL_2, set_r, app_r, lst_z, lst_s, iadd_ii, tuple_r, mul_ri, sl_s, sl_rol, sl_t, sl_r, cut_from, cut_to, ap_Seq, nx_seq, rt_seq, ct_seq, bk_seq, exc_seq, ap_Raise, ap_Skip, ap_Brk, ap_Cnt, ap_Drop, ap_Ret, ap_IfS, ap_Set, ap_Ts, ap_AsgT, tgT_t, tgTs_n, tgTs_c, ap_Aug, ap_SetI, ap_AugI, mFor_ap, ap_Rng1, ap_Rng2, rng1_ok, rng2_ok, ap_Iter, src_t, src_s, src_rL, ap_Comp, wipe_n, wipe_c, len_cons, len_nil, zip_cc, zip_nn, foldl_c, foldl_n, set_z, set_s, ite_t, ite_f, ite_T, ite_F, sing_lt, sing_eq, ty_r, ty_s, isS, cut_mid, decide_eq_true_eq, if_pos, if_neg]
  refine sv_cut (R' := fun o => ∃ (b c : Option W), o = SOut.nx [some (T xs), some (.int n), some (.int (cntB xs n)), b, c] []) ?_ ?_
  · refine mWhile_sv xs.length (fun m e h => ∃ (a b : Nat) (c : Option W), a ≤ cntB xs n ∧ cntB xs n ≤ b ∧ b ≤ xs.length ∧ m = b - a ∧ e = [some (T xs), some (.int n), some (.int a), some (.int b), c] ∧ h = []) (by omega) ⟨0, xs.length, none, by omega, hc, by omega, by omega, rfl, rfl⟩ ?_
    rintro m e h ⟨a, b, c, ha, hb, hl, rfl, rfl, rfl⟩
    by_cases h1 : a < b
    · have e1 : ((a : Int) + b) / 2 = (((a + b) / 2 : Nat) : Int) := by omega
      have hm : (a + b) / 2 < xs.length := by omega
      have hk := cntB_lt r (n := n) hm
      by_cases h2 : xs.getD ((a + b) / 2) 0 < n
      · simp (disch := first | omega | (simp only [List.length_append, List.length_cons, List.length_nil, List.length_set, List.length_drop, List.length_take, List.length_map]; omega)) only [e1, sv_nx, sv_rt, sv_ct, rnd_nx, rnd_ct, Int.toNat_natCast, ne_eq, eq_self, not_true_eq_false, not_false_eq_true, mVar_z, Nat.reduceAdd, Nat.zero_add, Int.zero_add, Int.reduceAdd, Int.reduceSub, Int.reduceNeg, ap_Lst, ap_Tup, nil_app, cons_app, List.length_append, lst_last, mVar_s, ok_bnd, ok_stm, exc_bnd, ev_okE, exc_stm, ap_C, ap_Op, ap_Un, ap_B, ap_Chain, ap_asB, ap_And, ap_Or, ap_Not, ap_AndV, ap_OrV, ap_NotV, ap_If, ap_Nil, ap_Cons, ap_CB, ap_Meth, ap_Part, ap_NoPart, ap_Sl, ap_Yes, add_ii, add_ss, sub_ii, neg_i, mul_ii, fdiv_ii, mod_ii, eq_ii, ne_ii, eq_ss, ne_ss, lt_ii, le_ii, gt_ii, ge_ii, lt_ss, gt_ss, le_ss, ge_ss, len_s, len_t, abs_i, int_i, int_b, max_ii, min_ii, ix_s, ixL_0, ixL_1, ixL_2, ixL_3, ixL_n, ixL_i, ixL_st, setL_n, setL_i, List.length_map, List.length_set, ix_r, getL_r, ix_tL, withL_s, setL_0, setL_1, setL_2, set_r, app_r, lst_z, lst_s, iadd_ii, tuple_r, mul_ri, sl_s, sl_rol, sl_t, sl_r, cut_from, cut_to, ap_Seq, nx_seq, rt_seq, ct_seq, bk_seq, exc_seq, ap_Raise, ap_Skip, ap_Brk, ap_Cnt, ap_Drop, ap_Ret, ap_IfS, ap_Set, ap_Ts, ap_AsgT, tgT_t, tgTs_n, tgTs_c, ap_Aug, ap_SetI, ap_AugI, mFor_ap, ap_Rng1, ap_Rng2, rng1_ok, rng2_ok, ap_Iter, src_t, src_s, src_rL, ap_Comp, wipe_n, wipe_c, len_cons, len_nil, zip_cc, zip_nn, foldl_c, foldl_n, set_z, set_s, ite_t, ite_f, ite_T, ite_F, sing_lt, sing_eq, ty_r, ty_s, isS, cut_mid, decide_eq_true_eq, if_pos, if_neg]
        exact ⟨_, by omega, (a + b) / 2 + 1, b, some (.int (((a + b) / 2 : Nat) : Int)), by omega, by omega, by omega, rfl, by simp, trivial⟩
      · simp (disch := first | omega | (simp only [List.length_append, List.length_cons, List.length_nil, List.length_set, List.length_drop, List.length_take, List.length_map]; omega)) only [e1, sv_nx, sv_rt, sv_ct, rnd_nx, rnd_ct, Int.toNat_natCast, ne_eq, eq_self, not_true_eq_false, not_false_eq_true, mVar_z, Nat.reduceAdd, Nat.zero_add, Int.zero_add, Int.reduceAdd, Int.reduceSub, Int.reduceNeg, ap_Lst, ap_Tup, nil_app, cons_app, List.length_append, lst_last, mVar_s, ok_bnd, ok_stm, exc_bnd, ev_okE, exc_stm, ap_C, ap_Op, ap_Un, ap_B, ap_Chain, ap_asB, ap_And, ap_Or, ap_Not, ap_AndV, ap_OrV, ap_NotV, ap_If, ap_Nil, ap_Cons, ap_CB, ap_Meth, ap_Part, ap_NoPart, ap_Sl, ap_Yes, add_ii, add_ss, sub_ii, neg_i, mul_ii, fdiv_ii, mod_ii, eq_ii, ne_ii, eq_ss, ne_ss, lt_ii, le_ii, gt_ii, ge_ii, lt_ss, gt_ss, le_ss, ge_ss, len_s, len_t, abs_i, int_i, int_b, max_ii, min_ii, ix_s, ixL_0, ixL_1, ixL_2, ixL_3, ixL_n, ixL_i, ixL_st, setL_n, setL_i, List.length_map, List.length_set, ix_r, getL_r, ix_tL, withL_s, setL_0, setL_1, setL_2, set_r, app_r, lst_z, lst_s, iadd_ii, tuple_r, mul_ri, sl_s, sl_rol, sl_t, sl_r, cut_from, cut_to, ap_Seq, nx_seq, rt_seq, ct_seq, bk_seq, exc_seq, ap_Raise, ap_Skip, ap_Brk, ap_Cnt, ap_Drop, ap_Ret, ap_IfS, ap_Set, ap_Ts, ap_AsgT, tgT_t, tgTs_n, tgTs_c, ap_Aug, ap_SetI, ap_AugI, mFor_ap, ap_Rng1, ap_Rng2, rng1_ok, rng2_ok, ap_Iter, src_t, src_s, src_rL, ap_Comp, wipe_n, wipe_c, len_cons, len_nil, zip_cc, zip_nn, foldl_c, foldl_n, set_z, set_s, ite_t, ite_f, ite_T, ite_F, sing_lt, sing_eq, ty_r, ty_s, isS, cut_mid, decide_eq_true_eq, if_pos, if_neg]
        exact ⟨_, by omega, a, (a + b) / 2, some (.int (((a + b) / 2 : Nat) : Int)), by omega, by omega, by omega, rfl, by simp, trivial⟩
    · simp (disch := first | omega | (simp only [List.length_append, List.length_cons, List.length_nil, List.length_set, List.length_drop, List.length_take, List.length_map]; omega)) only [sv_nx, sv_rt, sv_ct, rnd_nx, rnd_ct, Int.toNat_natCast, ne_eq, eq_self, not_true_eq_false, not_false_eq_true, mVar_z, Nat.reduceAdd, Nat.zero_add, Int.zero_add, Int.reduceAdd, Int.reduceSub, Int.reduceNeg, ap_Lst, ap_Tup, nil_app, cons_app, List.length_append, lst_last, mVar_s, ok_bnd, ok_stm, exc_bnd, ev_okE, exc_stm, ap_C, ap_Op, ap_Un, ap_B, ap_Chain, ap_asB, ap_And, ap_Or, ap_Not, ap_AndV, ap_OrV, ap_NotV, ap_If, ap_Nil, ap_Cons, ap_CB, ap_Meth, ap_Part, ap_NoPart, ap_Sl, ap_Yes, add_ii, add_ss, sub_ii, neg_i, mul_ii, fdiv_ii, mod_ii, eq_ii, ne_ii, eq_ss, ne_ss, lt_ii, le_ii, gt_ii, ge_ii, lt_ss, gt_ss, le_ss, ge_ss, len_s, len_t, abs_i, int_i, int_b, max_ii, min_ii, ix_s, ixL_0, ixL_1, ixL_2, ixL_3, ixL_n, ixL_i, ixL_st, setL_n, setL_i, List.length_map, List.length_set, ix_r, getL_r, ix_tL, withL_s, setL_0, setL_1, setL_2, set_r, app_r, lst_z, lst_s, iadd_ii, tuple_r, mul_ri, sl_s, sl_rol, sl_t, sl_r, cut_from, cut_to, ap_Seq, nx_seq, rt_seq, ct_seq, bk_seq, exc_seq, ap_Raise, ap_Skip, ap_Brk, ap_Cnt, ap_Drop, ap_Ret, ap_IfS, ap_Set, ap_Ts, ap_AsgT, tgT_t, tgTs_n, tgTs_c, ap_Aug, ap_SetI, ap_AugI, mFor_ap, ap_Rng1, ap_Rng2, rng1_ok, rng2_ok, ap_Iter, src_t, src_s, src_rL, ap_Comp, wipe_n, wipe_c, len_cons, len_nil, zip_cc, zip_nn, foldl_c, foldl_n, set_z, set_s, ite_t, ite_f, ite_T, ite_F, sing_lt, sing_eq, ty_r, ty_s, isS, cut_mid, decide_eq_true_eq, if_pos, if_neg]
      have : a = cntB xs n := by omega
      rw [this]
      exact ⟨_, _, rfl⟩
  · rintro o ⟨b, c, rfl⟩
    simp (disch := first | omega | (simp only [List.length_append, List.length_cons, List.length_nil, List.length_set, List.length_drop, List.length_take, List.length_map]; omega)) only [sv_nx, sv_rt, sv_ct, rnd_nx, rnd_ct, Int.toNat_natCast, ne_eq, eq_self, not_true_eq_false, not_false_eq_true, mVar_z, Nat.reduceAdd, Nat.zero_add, Int.zero_add, Int.reduceAdd, Int.reduceSub, Int.reduceNeg, ap_Lst, ap_Tup, nil_app, cons_app, List.length_append, lst_last, mVar_s, ok_bnd, ok_stm, exc_bnd, ev_okE, exc_stm, ap_C, ap_Op, ap_Un, ap_B, ap_Chain, ap_asB, ap_And, ap_Or, ap_Not, ap_AndV, ap_OrV, ap_NotV, ap_If, ap_Nil, ap_Cons, ap_CB, ap_Meth, ap_Part, ap_NoPart, ap_Sl, ap_Yes, add_ii, add_ss, sub_ii, neg_i, mul_ii, fdiv_ii, mod_ii, eq_ii, ne_ii, eq_ss, ne_ss, lt_ii, le_ii, gt_ii, ge_ii, lt_ss, gt_ss, le_ss, ge_ss, len_s, len_t, abs_i, int_i, int_b, max_ii, min_ii, ix_s, ixL_0, ixL_1, ixL_2, ixL_3, ixL_n, ixL_i, ixL_st, setL_n, setL_i, List.length_map, List.length_set, ix_r, getL_r, ix_tL, withL_s, setL_0, setL_1, setL_2, set_r, app_r, lst_z, lst_s, iadd_ii, tuple_r, mul_ri, sl_s, sl_rol, sl_t, sl_r, cut_from, cut_to, ap_Seq, nx_seq, rt_seq, ct_seq, bk_seq, exc_seq, ap_Raise, ap_Skip, ap_Brk, ap_Cnt, ap_Drop, ap_Ret, ap_IfS, ap_Set, ap_Ts, ap_AsgT, tgT_t, tgTs_n, tgTs_c, ap_Aug, ap_SetI, ap_AugI, mFor_ap, ap_Rng1, ap_Rng2, rng1_ok, rng2_ok, ap_Iter, src_t, src_s, src_rL, ap_Comp, wipe_n, wipe_c, len_cons, len_nil, zip_cc, zip_nn, foldl_c, foldl_n, set_z, set_s, ite_t, ite_f, ite_T, ite_F, sing_lt, sing_eq, ty_r, ty_s, isS, cut_mid, decide_eq_true_eq, if_pos, if_neg]
    exact ⟨rfl, trivial⟩
theorem leaped_ev (xs : List Int) (f : Nat) (n : Int) (r : Rsg xs) (hx : xs.length ≤ 1000) (hf : f ≤ xs.length) : Ev (den_leaped [T xs, .int f, .int n] []) fun w _ => pureW w = true ∧ ∃ k : Nat, w = .tup [.int (max (cntB xs n) f : Nat), .int k] := by
  have hc := cntB_le xs n
  refine fun_ev ?_
  unfold body_leaped
  simp only [startE, List.map_cons, List.map_nil, List.length_cons, List.length_nil, List.cons_append, List.nil_append, Nat.zero_add, Nat.reduceAdd, Nat.reduceSub, List.replicate_succ, List.replicate_zero]
  simp (disch := first | omega | (simp only [List.length_append, List.length_cons, List.length_nil, List.length_set, List.length_drop, List.length_take, List.length_map]; omega)) only [mVar_z, Nat.reduceAdd, Nat.zero_add, Int.zero_add, Int.reduceAdd, Int.reduceSub, Int.reduceNeg, ap_Lst, ap_Tup, nil_app, cons_app, List.length_append, lst_last, mVar_s, ok_bnd, ok_stm, exc_bnd, ev_okE, exc_stm, ap_C, ap_Op, ap_Un, ap_B, ap_Chain, ap_asB, ap_And, ap_Or, ap_Not, ap_AndV, ap_OrV, ap_NotV, ap_If, ap_Nil, ap_Cons, ap_CB, ap_Meth, ap_Part, ap_NoPart, ap_Sl, ap_Yes, add_ii, add_ss, sub_ii, neg_i, mul_ii, fdiv_ii, mod_ii, eq_ii, ne_ii, eq_ss, ne_ss, lt_ii, le_ii, gt_ii, ge_ii, lt_ss, gt_ss, le_ss, ge_ss, len_s, len_t, abs_i, int_i, int_b, max_ii, min_ii, ix_s, ixL_0, ixL_1, ixL_2, ixL_3, ixL_n, ixL_i, ixL_st, setL_n, setL_i, List.length_map, List.length_set, ix_r, getL_r, ix_tL, withL_s, setL_0, setL_1, setL_2, set_r, app_r, lst_z, lst_s, iadd_ii, tuple_r, mul_ri, sl_s, sl_rol, sl_t, sl_r, cut_from, cut_to, ap_Seq, nx_seq, rt_seq, ct_seq, bk_seq, exc_seq, ap_Raise, ap_Skip, ap_Brk, ap_Cnt, ap_Drop, ap_Ret, ap_IfS, ap_Set, ap_Ts, ap_AsgT, tgT_t, tgTs_n, tgTs_c, ap_Aug, ap_SetI, ap_AugI, mFor_ap, ap_Rng1, ap_Rng2, rng1_ok, rng2_ok, ap_Iter, src_t, src_s, src_rL, ap_Comp, wipe_n, wipe_c, len_cons, len_nil, zip_cc, zip_nn, foldl_c, foldl_n, set_z, set_s, ite_t, ite_f, ite_T, ite_F, sing_lt, sing_eq, ty_r, ty_s, isS, cut_mid, decide_eq_true_eq, if_pos, if_neg]
  have hM : max (cntB xs n) f ≤ xs.length := by omega
  refine sv_cut (R' := fun o => ∃ (a b k s : Nat) (c : Option W), f ≤ a ∧ a ≤ max (cntB xs n) f ∧ max (cntB xs n) f ≤ b ∧ b ≤ 3000 ∧ o = SOut.nx [some (T xs), some (.int f), some (.int n), some (.int s), some (.int k), some (.int a), some (.int b), c] []) ?_ ?_
  · refine mWhile_sv (xs.length - f) (fun m e h => ∃ (a b k s : Nat) (c : Option W), f ≤ a ∧ a ≤ max (cntB xs n) f ∧ f ≤ b ∧ s = b + 1 - f ∧ b ≤ 3000 ∧ m = xs.length - b ∧ e = [some (T xs), some (.int f), some (.int n), some (.int s), some (.int k), some (.int a), some (.int b), c] ∧ h = []) (by omega) ⟨f, f, 0, 1, none, by omega, by omega, by omega, by omega, by omega, rfl, rfl, rfl⟩ ?_
    rintro m e h ⟨a, b, k, s, c, hfa, ha, hfb, hs, hb, rfl, rfl, rfl⟩
    by_cases h1 : b < xs.length
    · have hk := cntB_lt r (n := n) h1
      by_cases h2 : xs.getD b 0 < n
      · simp (disch := first | omega | (simp only [List.length_append, List.length_cons, List.length_nil, List.length_set, List.length_drop, List.length_take, List.length_map]; omega)) only [sv_nx, sv_rt, sv_ct, rnd_nx, rnd_ct, Int.toNat_natCast, ne_eq, eq_self, not_true_eq_false, not_false_eq_true, mVar_z, Nat.reduceAdd, Nat.zero_add, Int.zero_add, Int.reduceAdd, Int.reduceSub, Int.reduceNeg, ap_Lst, ap_Tup, nil_app, cons_app, List.length_append, lst_last, mVar_s, ok_bnd, ok_stm, exc_bnd, ev_okE, exc_stm, ap_C, ap_Op, ap_Un, ap_B, ap_Chain, ap_asB, ap_And, ap_Or, ap_Not, ap_AndV, ap_OrV, ap_NotV, ap_If, ap_Nil, ap_Cons, ap_CB, ap_Meth, ap_Part, ap_NoPart, ap_Sl, ap_Yes, add_ii, add_ss, sub_ii, neg_i, mul_ii, fdiv_ii, mod_ii, eq_ii, ne_ii, eq_ss, ne_ss, lt_ii, le_ii, gt_ii, ge_ii, lt_ss, gt_ss, le_ss, ge_ss, len_s, len_t, abs_i, int_i, int_b, max_ii, min_ii, ix_s, ixL_0, ixL_1, ixL_2, ixL_3, ixL_n, ixL_i, ixL_st, setL_n, setL_i, List.length_map, List.length_set, ix_r, getL_r, ix_tL, withL_s, setL_0, setL_1, setL_2, set_r, app_r, lst_z, lst_s, iadd_ii, tuple_r, mul_ri, sl_s, sl_rol, sl_t, sl_r, cut_from, cut_to, ap_Seq, nx_seq, rt_seq, ct_seq, bk_seq, exc_seq, ap_Raise, ap_Skip, ap_Brk, ap_Cnt, ap_Drop, ap_Ret, ap_IfS, ap_Set, ap_Ts, ap_AsgT, tgT_t, tgTs_n, tgTs_c, ap_Aug, ap_SetI, ap_AugI, mFor_ap, ap_Rng1, ap_Rng2, rng1_ok, rng2_ok, ap_Iter, src_t, src_s, src_rL, ap_Comp, wipe_n, wipe_c, len_cons, len_nil, zip_cc, zip_nn, foldl_c, foldl_n, set_z, set_s, ite_t, ite_f, ite_T, ite_F, sing_lt, sing_eq, ty_r, ty_s, isS, cut_mid, decide_eq_true_eq, if_pos, if_neg]
        exact ⟨_, by omega, b + 1, b + s, k + 1, s * 2, c, by omega, by omega, by omega, by omega, by omega, rfl, by simp, rfl⟩
      · simp (disch := first | omega | (simp only [List.length_append, List.length_cons, List.length_nil, List.length_set, List.length_drop, List.length_take, List.length_map]; omega)) only [sv_nx, sv_rt, sv_ct, rnd_nx, rnd_ct, Int.toNat_natCast, ne_eq, eq_self, not_true_eq_false, not_false_eq_true, mVar_z, Nat.reduceAdd, Nat.zero_add, Int.zero_add, Int.reduceAdd, Int.reduceSub, Int.reduceNeg, ap_Lst, ap_Tup, nil_app, cons_app, List.length_append, lst_last, mVar_s, ok_bnd, ok_stm, exc_bnd, ev_okE, exc_stm, ap_C, ap_Op, ap_Un, ap_B, ap_Chain, ap_asB, ap_And, ap_Or, ap_Not, ap_AndV, ap_OrV, ap_NotV, ap_If, ap_Nil, ap_Cons, ap_CB, ap_Meth, ap_Part, ap_NoPart, ap_Sl, ap_Yes, add_ii, add_ss, sub_ii, neg_i, mul_ii, fdiv_ii, mod_ii, eq_ii, ne_ii, eq_ss, ne_ss, lt_ii, le_ii, gt_ii, ge_ii, lt_ss, gt_ss, le_ss, ge_ss, len_s, len_t, abs_i, int_i, int_b, max_ii, min_ii, ix_s, ixL_0, ixL_1, ixL_2, ixL_3, ixL_n, ixL_i, ixL_st, setL_n, setL_i, List.length_map, List.length_set, ix_r, getL_r, ix_tL, withL_s, setL_0, setL_1, setL_2, set_r, app_r, lst_z, lst_s, iadd_ii, tuple_r, mul_ri, sl_s, sl_rol, sl_t, sl_r, cut_from, cut_to, ap_Seq, nx_seq, rt_seq, ct_seq, bk_seq, exc_seq, ap_Raise, ap_Skip, ap_Brk, ap_Cnt, ap_Drop, ap_Ret, ap_IfS, ap_Set, ap_Ts, ap_AsgT, tgT_t, tgTs_n, tgTs_c, ap_Aug, ap_SetI, ap_AugI, mFor_ap, ap_Rng1, ap_Rng2, rng1_ok, rng2_ok, ap_Iter, src_t, src_s, src_rL, ap_Comp, wipe_n, wipe_c, len_cons, len_nil, zip_cc, zip_nn, foldl_c, foldl_n, set_z, set_s, ite_t, ite_f, ite_T, ite_F, sing_lt, sing_eq, ty_r, ty_s, isS, cut_mid, decide_eq_true_eq, if_pos, if_neg]
        exact ⟨a, b, k, s, c, hfa, ha, by omega, hb, rfl⟩
    · simp (disch := first | omega | (simp only [List.length_append, List.length_cons, List.length_nil, List.length_set, List.length_drop, List.length_take, List.length_map]; omega)) only [sv_nx, sv_rt, sv_ct, rnd_nx, rnd_ct, Int.toNat_natCast, ne_eq, eq_self, not_true_eq_false, not_false_eq_true, mVar_z, Nat.reduceAdd, Nat.zero_add, Int.zero_add, Int.reduceAdd, Int.reduceSub, Int.reduceNeg, ap_Lst, ap_Tup, nil_app, cons_app, List.length_append, lst_last, mVar_s, ok_bnd, ok_stm, exc_bnd, ev_okE, exc_stm, ap_C, ap_Op, ap_Un, ap_B, ap_Chain, ap_asB, ap_And, ap_Or, ap_Not, ap_AndV, ap_OrV, ap_NotV, ap_If, ap_Nil, ap_Cons, ap_CB, ap_Meth, ap_Part, ap_NoPart, ap_Sl, ap_Yes, add_ii, add_ss, sub_ii, neg_i, mul_ii, fdiv_ii, mod_ii, eq_ii, ne_ii, eq_ss, ne_ss, lt_ii, le_ii, gt_ii, ge_ii, lt_ss, gt_ss, le_ss, ge_ss, len_s, len_t, abs_i, int_i, int_b, max_ii, min_ii, ix_s, ixL_0, ixL_1, ixL_2, ixL_3, ixL_n, ixL_i, ixL_st, setL_n, setL_i, List.length_map, List.length_set, ix_r, getL_r, ix_tL, withL_s, setL_0, setL_1, setL_2, set_r, app_r, lst_z, lst_s, iadd_ii, tuple_r, mul_ri, sl_s, sl_rol, sl_t, sl_r, cut_from, cut_to, ap_Seq, nx_seq, rt_seq, ct_seq, bk_seq, exc_seq, ap_Raise, ap_Skip, ap_Brk, ap_Cnt, ap_Drop, ap_Ret, ap_IfS, ap_Set, ap_Ts, ap_AsgT, tgT_t, tgTs_n, tgTs_c, ap_Aug, ap_SetI, ap_AugI, mFor_ap, ap_Rng1, ap_Rng2, rng1_ok, rng2_ok, ap_Iter, src_t, src_s, src_rL, ap_Comp, wipe_n, wipe_c, len_cons, len_nil, zip_cc, zip_nn, foldl_c, foldl_n, set_z, set_s, ite_t, ite_f, ite_T, ite_F, sing_lt, sing_eq, ty_r, ty_s, isS, cut_mid, decide_eq_true_eq, if_pos, if_neg]
      exact ⟨a, b, k, s, c, hfa, ha, by omega, hb, rfl⟩
  · rintro o ⟨a, b, k, s, c, hfa, ha, hmb, hb, rfl⟩
    have e0 : (if (xs.length : Int) < b then (xs.length : Int) else (b : Int)) = ((min b xs.length : Nat) : Int) := by split <;> omega
    simp (disch := first | omega | (simp only [List.length_append, List.length_cons, List.length_nil, List.length_set, List.length_drop, List.length_take, List.length_map]; omega)) only [e0, sv_nx, sv_rt, sv_ct, rnd_nx, rnd_ct, Int.toNat_natCast, ne_eq, eq_self, not_true_eq_false, not_false_eq_true, mVar_z, Nat.reduceAdd, Nat.zero_add, Int.zero_add, Int.reduceAdd, Int.reduceSub, Int.reduceNeg, ap_Lst, ap_Tup, nil_app, cons_app, List.length_append, lst_last, mVar_s, ok_bnd, ok_stm, exc_bnd, ev_okE, exc_stm, ap_C, ap_Op, ap_Un, ap_B, ap_Chain, ap_asB, ap_And, ap_Or, ap_Not, ap_AndV, ap_OrV, ap_NotV, ap_If, ap_Nil, ap_Cons, ap_CB, ap_Meth, ap_Part, ap_NoPart, ap_Sl, ap_Yes, add_ii, add_ss, sub_ii, neg_i, mul_ii, fdiv_ii, mod_ii, eq_ii, ne_ii, eq_ss, ne_ss, lt_ii, le_ii, gt_ii, ge_ii, lt_ss, gt_ss, le_ss, ge_ss, len_s, len_t, abs_i, int_i, int_b, max_ii, min_ii, ix_s, ixL_0, ixL_1, ixL_2, ixL_3, ixL_n, ixL_i, ixL_st, setL_n, setL_i, List.length_map, List.length_set, ix_r, getL_r, ix_tL, withL_s, setL_0, setL_1, setL_2, set_r, app_r, lst_z, lst_s, iadd_ii, tuple_r, mul_ri, sl_s, sl_rol, sl_t, sl_r, cut_from, cut_to, ap_Seq, nx_seq, rt_seq, ct_seq, bk_seq, exc_seq, ap_Raise, ap_Skip, ap_Brk, ap_Cnt, ap_Drop, ap_Ret, ap_IfS, ap_Set, ap_Ts, ap_AsgT, tgT_t, tgTs_n, tgTs_c, ap_Aug, ap_SetI, ap_AugI, mFor_ap, ap_Rng1, ap_Rng2, rng1_ok, rng2_ok, ap_Iter, src_t, src_s, src_rL, ap_Comp, wipe_n, wipe_c, len_cons, len_nil, zip_cc, zip_nn, foldl_c, foldl_n, set_z, set_s, ite_t, ite_f, ite_T, ite_F, sing_lt, sing_eq, ty_r, ty_s, isS, cut_mid, decide_eq_true_eq, if_pos, if_neg]
    refine sv_cut (R' := fun o => ∃ (b k s : Option W) (d : Option W) (k : Nat), o = SOut.nx [some (T xs), some (.int f), some (.int n), s, some (.int k), some (.int (max (cntB xs n) f : Nat)), b, d] []) ?_ ?_
    · refine mWhile_sv (min b xs.length - a) (fun m e h => ∃ (a b k : Nat) (c : Option W), a ≤ max (cntB xs n) f ∧ max (cntB xs n) f ≤ b ∧ f ≤ a ∧ b ≤ xs.length ∧ m = b - a ∧ e = [some (T xs), some (.int f), some (.int n), some (.int s), some (.int k), some (.int a), some (.int b), c] ∧ h = []) (by omega) ⟨a, min b xs.length, k, c, ha, by omega, by omega, by omega, rfl, rfl, rfl⟩ ?_
      rintro m e h ⟨a, b, k, c, ha, hb, hfa, hl, rfl, rfl, rfl⟩
      by_cases h1 : a < b
      · have e1 : ((a : Int) + b) / 2 = (((a + b) / 2 : Nat) : Int) := by omega
        have hm : (a + b) / 2 < xs.length := by omega
        have hk := cntB_lt r (n := n) hm
        by_cases h2 : xs.getD ((a + b) / 2) 0 < n
        · simp (disch := first | omega | (simp only [List.length_append, List.length_cons, List.length_nil, List.length_set, List.length_drop, List.length_take, List.length_map]; omega)) only [e1, sv_nx, sv_rt, sv_ct, rnd_nx, rnd_ct, Int.toNat_natCast, ne_eq, eq_self, not_true_eq_false, not_false_eq_true, mVar_z, Nat.reduceAdd, Nat.zero_add, Int.zero_add, Int.reduceAdd, Int.reduceSub, Int.reduceNeg, ap_Lst, ap_Tup, nil_app, cons_app, List.length_append, lst_last, mVar_s, ok_bnd, ok_stm, exc_bnd, ev_okE, exc_stm, ap_C, ap_Op, ap_Un, ap_B, ap_Chain, ap_asB, ap_And, ap_Or, ap_Not, ap_AndV, ap_OrV, ap_NotV, ap_If, ap_Nil, ap_Cons, ap_CB, ap_Meth, ap_Part, ap_NoPart, ap_Sl, ap_Yes, add_ii, add_ss, sub_ii, neg_i, mul_ii, fdiv_ii, mod_ii, eq_ii, ne_ii, eq_ss, ne_ss, lt_ii, le_ii, gt_ii, ge_ii, lt_ss, gt_ss, le_ss, ge_ss, len_s, len_t, abs_i, int_i, int_b, max_ii, min_ii, ix_s, ixL_0, ixL_1, ixL_2, ixL_3, ixL_n, ixL_i, ixL_st, setL_n, setL_i, List.length_map, List.length_set, ix_r, getL_r, ix_tL, withL_s, setL_0, setL_1, setL_2, set_r, app_r, lst_z, lst_s, iadd_ii, tuple_r, mul_ri, sl_s, sl_rol, sl_t, sl_r, cut_from, cut_to, ap_Seq, nx_seq, rt_seq, ct_seq, bk_seq, exc_seq, ap_Raise, ap_Skip, ap_Brk, ap_Cnt, ap_Drop, ap_Ret, ap_IfS, ap_Set, ap_Ts, ap_AsgT, tgT_t, tgTs_n, tgTs_c, ap_Aug, ap_SetI, ap_AugI, mFor_ap, ap_Rng1, ap_Rng2, rng1_ok, rng2_ok, ap_Iter, src_t, src_s, src_rL, ap_Comp, wipe_n, wipe_c, len_cons, len_nil, zip_cc, zip_nn, foldl_c, foldl_n, set_z, set_s, ite_t, ite_f, ite_T, ite_F, sing_lt, sing_eq, ty_r, ty_s, isS, cut_mid, decide_eq_true_eq, if_pos, if_neg]
          exact ⟨_, by omega, (a + b) / 2 + 1, b, k + 1, some (.int (((a + b) / 2 : Nat) : Int)), by omega, by omega, by omega, by omega, rfl, by simp, trivial⟩
        · simp (disch := first | omega | (simp only [List.length_append, List.length_cons, List.length_nil, List.length_set, List.length_drop, List.length_take, List.length_map]; omega)) only [e1, sv_nx, sv_rt, sv_ct, rnd_nx, rnd_ct, Int.toNat_natCast, ne_eq, eq_self, not_true_eq_false, not_false_eq_true, mVar_z, Nat.reduceAdd, Nat.zero_add, Int.zero_add, Int.reduceAdd, Int.reduceSub, Int.reduceNeg, ap_Lst, ap_Tup, nil_app, cons_app, List.length_append, lst_last, mVar_s, ok_bnd, ok_stm, exc_bnd, ev_okE, exc_stm, ap_C, ap_Op, ap_Un, ap_B, ap_Chain, ap_asB, ap_And, ap_Or, ap_Not, ap_AndV, ap_OrV, ap_NotV, ap_If, ap_Nil, ap_Cons, ap_CB, ap_Meth, ap_Part, ap_NoPart, ap_Sl, ap_Yes, add_ii, add_ss, sub_ii, neg_i, mul_ii, fdiv_ii, mod_ii, eq_ii, ne_ii, eq_ss, ne_ss, lt_ii, le_ii, gt_ii, ge_ii, lt_ss, gt_ss, le_ss, ge_ss, len_s, len_t, abs_i, int_i, int_b, max_ii, min_ii, ix_s, ixL_0, ixL_1, ixL_2, ixL_3, ixL_n, ixL_i, ixL_st, setL_n, setL_i, List.length_map, List.length_set, ix_r, getL_r, ix_tL, withL_s, setL_0, setL_1, setL_2, set_r, app_r, lst_z, lst_s, iadd_ii, tuple_r, mul_ri, sl_s, sl_rol, sl_t, sl_r, cut_from, cut_to, ap_Seq, nx_seq, rt_seq, ct_seq, bk_seq, exc_seq, ap_Raise, ap_Skip, ap_Brk, ap_Cnt, ap_Drop, ap_Ret, ap_IfS, ap_Set, ap_Ts, ap_AsgT, tgT_t, tgTs_n, tgTs_c, ap_Aug, ap_SetI, ap_AugI, mFor_ap, ap_Rng1, ap_Rng2, rng1_ok, rng2_ok, ap_Iter, src_t, src_s, src_rL, ap_Comp, wipe_n, wipe_c, len_cons, len_nil, zip_cc, zip_nn, foldl_c, foldl_n, set_z, set_s, ite_t, ite_f, ite_T, ite_F, sing_lt, sing_eq, ty_r, ty_s, isS, cut_mid, decide_eq_true_eq, if_pos, if_neg]
          exact ⟨_, by omega, a, (a + b) / 2, k + 1, some (.int (((a + b) / 2 : Nat) : Int)), by omega, by omega, by omega, by omega, rfl, by simp, trivial⟩
      · simp (disch := first | omega | (simp only [List.length_append, List.length_cons, List.length_nil, List.length_set, List.length_drop, List.length_take, List.length_map]; omega)) only [sv_nx, sv_rt, sv_ct, rnd_nx, rnd_ct, Int.toNat_natCast, ne_eq, eq_self, not_true_eq_false, not_false_eq_true, mVar_z, Nat.reduceAdd, Nat.zero_add, Int.zero_add, Int.reduceAdd, Int.reduceSub, Int.reduceNeg, ap_Lst, ap_Tup, nil_app, cons_app, List.length_append, lst_last, mVar_s, ok_bnd, ok_stm, exc_bnd, ev_okE, exc_stm, ap_C, ap_Op, ap_Un, ap_B, ap_Chain, ap_asB, ap_And, ap_Or, ap_Not, ap_AndV, ap_OrV, ap_NotV, ap_If, ap_Nil, ap_Cons, ap_CB, ap_Meth, ap_Part, ap_NoPart, ap_Sl, ap_Yes, add_ii, add_ss, sub_ii, neg_i, mul_ii, fdiv_ii, mod_ii, eq_ii, ne_ii, eq_ss, ne_ss, lt_ii, le_ii, gt_ii, ge_ii, lt_ss, gt_ss, le_ss, ge_ss, len_s, len_t, abs_i, int_i, int_b, max_ii, min_ii, ix_s, ixL_0, ixL_1, ixL_2, ixL_3, ixL_n, ixL_i, ixL_st, setL_n, setL_i, List.length_map, List.length_set, ix_r, getL_r, ix_tL, withL_s, setL_0, setL_1, setL_2, set_r, app_r, lst_z, lst_s, iadd_ii, tuple_r, mul_ri, sl_s, sl_rol, sl_t, sl_r, cut_from, cut_to, ap_Seq, nx_seq, rt_seq, ct_seq, bk_seq, exc_seq, ap_Raise, ap_Skip, ap_Brk, ap_Cnt, ap_Drop, ap_Ret, ap_IfS, ap_Set, ap_Ts, ap_AsgT, tgT_t, tgTs_n, tgTs_c, ap_Aug, ap_SetI, ap_AugI, mFor_ap, ap_Rng1, ap_Rng2, rng1_ok, rng2_ok, ap_Iter, src_t, src_s, src_rL, ap_Comp, wipe_n, wipe_c, len_cons, len_nil, zip_cc, zip_nn, foldl_c, foldl_n, set_z, set_s, ite_t, ite_f, ite_T, ite_F, sing_lt, sing_eq, ty_r, ty_s, isS, cut_mid, decide_eq_true_eq, if_pos, if_neg]
        have : a = max (cntB xs n) f := by omega
        rw [this]
        exact ⟨_, none, _, _, k, rfl⟩
    · rintro o ⟨b, k0, s, d, k, rfl⟩
      simp (disch := first | omega | (simp only [List.length_append, List.length_cons, List.length_nil, List.length_set, List.length_drop, List.length_take, List.length_map]; omega)) only [sv_nx, sv_rt, sv_ct, rnd_nx, rnd_ct, Int.toNat_natCast, ne_eq, eq_self, not_true_eq_false, not_false_eq_true, mVar_z, Nat.reduceAdd, Nat.zero_add, Int.zero_add, Int.reduceAdd, Int.reduceSub, Int.reduceNeg, ap_Lst, ap_Tup, nil_app, cons_app, List.length_append, lst_last, mVar_s, ok_bnd, ok_stm, exc_bnd, ev_okE, exc_stm, ap_C, ap_Op, ap_Un, ap_B, ap_Chain, ap_asB, ap_And, ap_Or, ap_Not, ap_AndV, ap_OrV, ap_NotV, ap_If, ap_Nil, ap_Cons, ap_CB, ap_Meth, ap_Part, ap_NoPart, ap_Sl, ap_Yes, add_ii, add_ss, sub_ii, neg_i, mul_ii, fdiv_ii, mod_ii, eq_ii, ne_ii, eq_ss, ne_ss, lt_ii, le_ii, gt_ii, ge_ii, lt_ss, gt_ss, le_ss, ge_ss, len_s, len_t, abs_i, int_i, int_b, max_ii, min_ii, ix_s, ixL_0, ixL_1, ixL_2, ixL_3, ixL_n, ixL_i, ixL_st, setL_n, setL_i, List.length_map, List.length_set, ix_r, getL_r, ix_tL, withL_s, setL_0, setL_1, setL_2, set_r, app_r, lst_z, lst_s, iadd_ii, tuple_r, mul_ri, sl_s, sl_rol, sl_t, sl_r, cut_from, cut_to, ap_Seq, nx_seq, rt_seq, ct_seq, bk_seq, exc_seq, ap_Raise, ap_Skip, ap_Brk, ap_Cnt, ap_Drop, ap_Ret, ap_IfS, ap_Set, ap_Ts, ap_AsgT, tgT_t, tgTs_n, tgTs_c, ap_Aug, ap_SetI, ap_AugI, mFor_ap, ap_Rng1, ap_Rng2, rng1_ok, rng2_ok, ap_Iter, src_t, src_s, src_rL, ap_Comp, wipe_n, wipe_c, len_cons, len_nil, zip_cc, zip_nn, foldl_c, foldl_n, set_z, set_s, ite_t, ite_f, ite_T, ite_F, sing_lt, sing_eq, ty_r, ty_s, isS, cut_mid, decide_eq_true_eq, if_pos, if_neg]
      exact ⟨rfl, k, rfl⟩
theorem leaped_all (xs : List Int) (f : Nat) (n : Int) (r : Rsg xs) (hx : xs.length ≤ 1000) (hf : f ≤ xs.length) : ∃ k : Nat, ∀ h, pureRun den_leaped 3 [T xs, .int f, .int n] h = .ok (.tup [.int (max (cntB xs n) f : Nat), .int k]) h := by
  obtain ⟨w, ⟨k, rfl⟩, hw⟩ := pure_all (P := fun w => ∃ k : Nat, w = .tup [.int (max (cntB xs n) f : Nat), .int k]) rfl (by unfold pureWs pureW; rw [pure_ints]; rfl) (leaped_ev xs f n r hx hf)
  exact ⟨k, hw⟩
theorem cntB_mem {ys : List Int} (r : Rsg ys) {n : Int} : n ∈ ys ↔ cntB ys n < ys.length ∧ ys.getD (cntB ys n) 0 = n := by
  constructor
  · intro h
    obtain ⟨j, hj, e⟩ := List.getElem_of_mem h
    have e' : ys.getD j 0 = n := by rw [List.getD_eq_getElem?_getD, List.getElem?_eq_getElem hj]; exact e
    have h1 := cntB_lt r (n := n) hj
    have hjc : j = cntB ys n := by
      have h2 : cntB ys n ≤ j := by omega
      rcases Nat.lt_or_ge (cntB ys n) j with q | q
      · have h3 := cntB_lt r (n := n) (i := cntB ys n) (by omega)
        have h4 : ys.getD (cntB ys n) 0 < ys.getD j 0 := by
          have := List.pairwise_iff_getElem.1 r (cntB ys n) j (by omega) hj q
          rw [List.getD_eq_getElem?_getD, List.getElem?_eq_getElem (by omega), List.getD_eq_getElem?_getD, List.getElem?_eq_getElem hj]
          exact this
        omega
      · omega
    rw [← hjc]
    exact ⟨hj, e'⟩
  · rintro ⟨h1, h2⟩
    rw [← h2, List.getD_eq_getElem?_getD, List.getElem?_eq_getElem h1]
    exact List.getElem_mem h1
theorem cntB_mono {ys : List Int} {n m : Int} (h : n ≤ m) : cntB ys n ≤ cntB ys m := by
  induction ys with
  | nil => exact Nat.le_refl _
  | cons y ys ih =>
    unfold cntB at ih ⊢
    rw [List.filter_cons, List.filter_cons]
    by_cases h1 : y < n
    · rw [if_pos (by simp [h1]), if_pos (by simp; omega), List.length_cons, List.length_cons]; omega
    · rw [if_neg (by simp [h1])]
      split
      · rw [List.length_cons]; omega
      · exact ih
/-- the two rows, the shorter one first -/
theorem leaps_loop (xs ys s : List Int) (a0 a1 a5 : Option W) (r : Rsg xs) (r' : Rsg ys) (hx : xs.length ≤ 1000) (hy : ys.length ≤ 1000) {R : SOut → Prop} (hR : ∀ a5 a6 a7, R (SOut.nx [a0, a1, some (T xs), some (T ys), some (.ref 0), a5, a6, a7] [.lst ((both2 xs ys).map .int)])) :
    Sv (forGo (srcL (xs.map .int)) (tgN 6) (mSeq (mAsg (tgT [5, 7]) (mCB (pureRun den_leaped 3) (mCons (mVar 3) (mCons (mVar 5) (mCons (mVar 6) (mNil)))))) (mSeq (mIfS (mB (mOp oEq (mVar 5) (mCB oLen (mCons (mVar 3) (mNil))))) (mBrk) (mSkip)) (mIfS (mB (mOp oEq (mOp oIx (mVar 3) (mVar 5)) (mVar 6))) (mDrop (mMeth "list" oAppend (mVar 4) (mCons (mVar 6) (mNil)))) (mSkip)))) 100000 0 [a0, a1, some (T xs), some (T ys), some (.ref 0), some (.int 0), none, none] [.lst []]) R := by
  refine forGo_tup (xs.map .int) 6 (fun i e h => ∃ (b : Nat) (a6 a7 : Option W), b ≤ ys.length ∧ (∀ z ∈ xs.drop i, b ≤ cntB ys z) ∧ e = [a0, a1, some (T xs), some (T ys), some (.ref 0), some (.int b), a6, a7] ∧ h = [.lst ((both2 (xs.take i) ys).map .int)]) (by simp; omega) ⟨0, none, none, by omega, by simp, rfl, by simp [both2]⟩ ?_ ?_
  · rintro i e h hi ⟨b, a6, a7, hb, hz, rfl, rfl⟩
    have hi : i < xs.length := by simpa using hi
    have mx := mem_drop hi
    have lx := head_drop r hi
    have ht : xs.take (i + 1) = xs.take i ++ [xs.getD i 0] := by
      rw [List.take_succ_eq_append_getElem hi, List.getD_eq_getElem?_getD, List.getElem?_eq_getElem hi]; rfl
    have hgx : (xs.map W.int)[i] = W.int (xs.getD i 0) := by
      rw [List.getElem_map, List.getD_eq_getElem?_getD, List.getElem?_eq_getElem hi]; rfl
    have hfl : (both2 (xs.take i) ys).length ≤ i := Nat.le_trans (List.length_filter_le _ _) (by simp; omega)
    have hall : xs = xs.take i ++ xs.drop i := (List.take_append_drop i xs).symm
    rw [hgx]
    generalize hxv : xs.getD i 0 = x at mx lx ht
    have hbx := hz x ((mx x).2 (.inl rfl))
    have hcl := cntB_le ys x
    have hmem := cntB_mem r' (n := x)
    obtain ⟨k, hk⟩ := leaped_all ys b x r' hy hb
    rw [Nat.max_eq_left hbx] at hk
    have hz2 : ∀ z ∈ xs.drop (i + 1), cntB ys x ≤ cntB ys z := fun z hzm => cntB_mono (by have := lx z hzm; omega)
    by_cases h1 : cntB ys x = ys.length
    · simp (disch := first | omega | (simp only [List.length_append, List.length_cons, List.length_nil, List.length_set, List.length_drop, List.length_take, List.length_map]; omega)) only [hk, sv_nx, sv_rt, sv_ct, rnd_nx, rnd_ct, Int.toNat_natCast, ne_eq, eq_self, not_true_eq_false, not_false_eq_true, mVar_z, Nat.reduceAdd, Nat.zero_add, Int.zero_add, Int.reduceAdd, Int.reduceSub, Int.reduceNeg, ap_Lst, ap_Tup, nil_app, cons_app, List.length_append, lst_last, mVar_s, ok_bnd, ok_stm, exc_bnd, ev_okE, exc_stm, ap_C, ap_Op, ap_Un, ap_B, ap_Chain, ap_asB, ap_And, ap_Or, ap_Not, ap_AndV, ap_OrV, ap_NotV, ap_If, ap_Nil, ap_Cons, ap_CB, ap_Meth, ap_Part, ap_NoPart, ap_Sl, ap_Yes, add_ii, add_ss, sub_ii, neg_i, mul_ii, fdiv_ii, mod_ii, eq_ii, ne_ii, eq_ss, ne_ss, lt_ii, le_ii, gt_ii, ge_ii, lt_ss, gt_ss, le_ss, ge_ss, len_s, len_t, abs_i, int_i, int_b, max_ii, min_ii, ix_s, ixL_0, ixL_1, ixL_2, ixL_3, ixL_n, ixL_i, ixL_st, setL_n, setL_i, List.length_map, List.length_set, ix_r, getL_r, ix_tL, withL_s, setL_0, setL_1, setL_2, set_r, app_r, lst_z, lst_s, iadd_ii, tuple_r, mul_ri, sl_s, sl_rol, sl_t, sl_r, cut_from, cut_to, ap_Seq, nx_seq, rt_seq, ct_seq, bk_seq, exc_seq, ap_Raise, ap_Skip, ap_Brk, ap_Cnt, ap_Drop, ap_Ret, ap_IfS, ap_Set, ap_Ts, ap_AsgT, tgT_t, tgTs_n, tgTs_c, ap_Aug, ap_SetI, ap_AugI, mFor_ap, ap_Rng1, ap_Rng2, rng1_ok, rng2_ok, ap_Iter, src_t, src_s, src_rL, ap_Comp, wipe_n, wipe_c, len_cons, len_nil, zip_cc, zip_nn, foldl_c, foldl_n, set_z, set_s, ite_t, ite_f, ite_T, ite_F, sing_lt, sing_eq, ty_r, ty_s, isS, cut_mid, decide_eq_true_eq, if_pos, if_neg]
      have hno : both2 (xs.drop i) ys = [] := by
        unfold both2
        rw [List.filter_eq_nil_iff]
        intro z hzm
        simp only [decide_eq_true_eq]
        intro hzy
        have h2 := (cntB_mem r' (n := z)).1 hzy
        have h3 : cntB ys x ≤ cntB ys z := by
          rcases (mx z).1 hzm with e | e
          · rw [e]; exact Nat.le_refl _
          · exact hz2 z e
        omega
      have e1 : both2 xs ys = both2 (xs.take i) ys := by
        conv => lhs; rw [hall]
        unfold both2 at hno ⊢
        rw [List.filter_append, hno, List.append_nil]
      rw [e1] at hR
      exact hR _ _ _
    · by_cases h2 : ys.getD (cntB ys x) 0 = x
      · have hxi : x ∈ ys := hmem.2 ⟨by omega, h2⟩
        simp (disch := first | omega | (simp only [List.length_append, List.length_cons, List.length_nil, List.length_set, List.length_drop, List.length_take, List.length_map]; omega)) only [hk, sv_nx, sv_rt, sv_ct, rnd_nx, rnd_ct, Int.toNat_natCast, ne_eq, eq_self, not_true_eq_false, not_false_eq_true, mVar_z, Nat.reduceAdd, Nat.zero_add, Int.zero_add, Int.reduceAdd, Int.reduceSub, Int.reduceNeg, ap_Lst, ap_Tup, nil_app, cons_app, List.length_append, lst_last, mVar_s, ok_bnd, ok_stm, exc_bnd, ev_okE, exc_stm, ap_C, ap_Op, ap_Un, ap_B, ap_Chain, ap_asB, ap_And, ap_Or, ap_Not, ap_AndV, ap_OrV, ap_NotV, ap_If, ap_Nil, ap_Cons, ap_CB, ap_Meth, ap_Part, ap_NoPart, ap_Sl, ap_Yes, add_ii, add_ss, sub_ii, neg_i, mul_ii, fdiv_ii, mod_ii, eq_ii, ne_ii, eq_ss, ne_ss, lt_ii, le_ii, gt_ii, ge_ii, lt_ss, gt_ss, le_ss, ge_ss, len_s, len_t, abs_i, int_i, int_b, max_ii, min_ii, ix_s, ixL_0, ixL_1, ixL_2, ixL_3, ixL_n, ixL_i, ixL_st, setL_n, setL_i, List.length_map, List.length_set, ix_r, getL_r, ix_tL, withL_s, setL_0, setL_1, setL_2, set_r, app_r, lst_z, lst_s, iadd_ii, tuple_r, mul_ri, sl_s, sl_rol, sl_t, sl_r, cut_from, cut_to, ap_Seq, nx_seq, rt_seq, ct_seq, bk_seq, exc_seq, ap_Raise, ap_Skip, ap_Brk, ap_Cnt, ap_Drop, ap_Ret, ap_IfS, ap_Set, ap_Ts, ap_AsgT, tgT_t, tgTs_n, tgTs_c, ap_Aug, ap_SetI, ap_AugI, mFor_ap, ap_Rng1, ap_Rng2, rng1_ok, rng2_ok, ap_Iter, src_t, src_s, src_rL, ap_Comp, wipe_n, wipe_c, len_cons, len_nil, zip_cc, zip_nn, foldl_c, foldl_n, set_z, set_s, ite_t, ite_f, ite_T, ite_F, sing_lt, sing_eq, ty_r, ty_s, isS, cut_mid, decide_eq_true_eq, if_pos, if_neg]
        exact ⟨cntB ys x, some (.int x), some (.int k), hcl, hz2, by simp, by unfold both2; rw [ht, List.filter_append]; simp [hxi]⟩
      · have hxi : x ∉ ys := fun q => h2 (hmem.1 q).2
        simp (disch := first | omega | (simp only [List.length_append, List.length_cons, List.length_nil, List.length_set, List.length_drop, List.length_take, List.length_map]; omega)) only [hk, sv_nx, sv_rt, sv_ct, rnd_nx, rnd_ct, Int.toNat_natCast, ne_eq, eq_self, not_true_eq_false, not_false_eq_true, mVar_z, Nat.reduceAdd, Nat.zero_add, Int.zero_add, Int.reduceAdd, Int.reduceSub, Int.reduceNeg, ap_Lst, ap_Tup, nil_app, cons_app, List.length_append, lst_last, mVar_s, ok_bnd, ok_stm, exc_bnd, ev_okE, exc_stm, ap_C, ap_Op, ap_Un, ap_B, ap_Chain, ap_asB, ap_And, ap_Or, ap_Not, ap_AndV, ap_OrV, ap_NotV, ap_If, ap_Nil, ap_Cons, ap_CB, ap_Meth, ap_Part, ap_NoPart, ap_Sl, ap_Yes, add_ii, add_ss, sub_ii, neg_i, mul_ii, fdiv_ii, mod_ii, eq_ii, ne_ii, eq_ss, ne_ss, lt_ii, le_ii, gt_ii, ge_ii, lt_ss, gt_ss, le_ss, ge_ss, len_s, len_t, abs_i, int_i, int_b, max_ii, min_ii, ix_s, ixL_0, ixL_1, ixL_2, ixL_3, ixL_n, ixL_i, ixL_st, setL_n, setL_i, List.length_map, List.length_set, ix_r, getL_r, ix_tL, withL_s, setL_0, setL_1, setL_2, set_r, app_r, lst_z, lst_s, iadd_ii, tuple_r, mul_ri, sl_s, sl_rol, sl_t, sl_r, cut_from, cut_to, ap_Seq, nx_seq, rt_seq, ct_seq, bk_seq, exc_seq, ap_Raise, ap_Skip, ap_Brk, ap_Cnt, ap_Drop, ap_Ret, ap_IfS, ap_Set, ap_Ts, ap_AsgT, tgT_t, tgTs_n, tgTs_c, ap_Aug, ap_SetI, ap_AugI, mFor_ap, ap_Rng1, ap_Rng2, rng1_ok, rng2_ok, ap_Iter, src_t, src_s, src_rL, ap_Comp, wipe_n, wipe_c, len_cons, len_nil, zip_cc, zip_nn, foldl_c, foldl_n, set_z, set_s, ite_t, ite_f, ite_T, ite_F, sing_lt, sing_eq, ty_r, ty_s, isS, cut_mid, decide_eq_true_eq, if_pos, if_neg]
        exact ⟨cntB ys x, some (.int x), some (.int k), hcl, hz2, by simp, by unfold both2; rw [ht, List.filter_append]; simp [hxi]⟩
  · rintro e h ⟨b, a6, a7, hb, hz, rfl, rfl⟩
    have e1 : xs.take (xs.map W.int).length = xs := by rw [List.length_map, List.take_length]
    rw [e1]
    exact hR _ _ _
theorem both_comm {xs ys : List Int} (r : Rsg xs) (r' : Rsg ys) : both2 xs ys = both2 ys xs := by
  refine Rsg.ext (r.filter _) (r'.filter _) fun z => ?_
  simp [both2, and_comm]
theorem leaps_ev (xs ys : List Int) (r : Rsg xs) (r' : Rsg ys) (hx : xs.length ≤ 1000) (hy : ys.length ≤ 1000) : Ev (den_both_by_leaps [T xs, T ys] []) fun w _ => pureW w = true ∧ w = T (both2 xs ys) := by
  refine fun_ev ?_
  unfold body_both_by_leaps
  simp only [startE, List.map_cons, List.map_nil, List.length_cons, List.length_nil, List.cons_append, List.nil_append, Nat.zero_add, Nat.reduceAdd, Nat.reduceSub, List.replicate_succ, List.replicate_zero]
  by_cases hl : xs.length ≤ ys.length
  · simp (disch := first | omega | (simp only [List.length_append, List.length_cons, List.length_nil, List.length_set, List.length_drop, List.length_take, List.length_map]; omega)) only [mVar_z, Nat.reduceAdd, Nat.zero_add, Int.zero_add, Int.reduceAdd, Int.reduceSub, Int.reduceNeg, ap_Lst, ap_Tup, nil_app, cons_app, List.length_append, lst_last, mVar_s, ok_bnd, ok_stm, exc_bnd, ev_okE, exc_stm, ap_C, ap_Op, ap_Un, ap_B, ap_Chain, ap_asB, ap_And, ap_Or, ap_Not, ap_AndV, ap_OrV, ap_NotV, ap_If, ap_Nil, ap_Cons, ap_CB, ap_Meth, ap_Part, ap_NoPart, ap_Sl, ap_Yes, add_ii, add_ss, sub_ii, neg_i, mul_ii, fdiv_ii, mod_ii, eq_ii, ne_ii, eq_ss, ne_ss, lt_ii, le_ii, gt_ii, ge_ii, lt_ss, gt_ss, le_ss, ge_ss, len_s, len_t, abs_i, int_i, int_b, max_ii, min_ii, ix_s, ixL_0, ixL_1, ixL_2, ixL_3, ixL_n, ixL_i, ixL_st, setL_n, setL_i, List.length_map, List.length_set, ix_r, getL_r, ix_tL, withL_s, setL_0, setL_1, setL_2, set_r, app_r, lst_z, lst_s, iadd_ii, tuple_r, mul_ri, sl_s, sl_rol, sl_t, sl_r, cut_from, cut_to, ap_Seq, nx_seq, rt_seq, ct_seq, bk_seq, exc_seq, ap_Raise, ap_Skip, ap_Brk, ap_Cnt, ap_Drop, ap_Ret, ap_IfS, ap_Set, ap_Ts, ap_AsgT, tgT_t, tgTs_n, tgTs_c, ap_Aug, ap_SetI, ap_AugI, mFor_ap, ap_Rng1, ap_Rng2, rng1_ok, rng2_ok, ap_Iter, src_t, src_s, src_rL, ap_Comp, wipe_n, wipe_c, len_cons, len_nil, zip_cc, zip_nn, foldl_c, foldl_n, set_z, set_s, ite_t, ite_f, ite_T, ite_F, sing_lt, sing_eq, ty_r, ty_s, isS, cut_mid, decide_eq_true_eq, if_pos, if_neg]
    refine sv_cut (R' := fun o => ∃ a5 a6 a7, o = SOut.nx [some (T xs), some (T ys), some (T xs), some (T ys), some (.ref 0), a5, a6, a7] [.lst ((both2 xs ys).map .int)]) (leaps_loop xs ys [] _ _ none r r' hx hy fun a5 a6 a7 => ⟨a5, a6, a7, rfl⟩) ?_
    rintro o ⟨a5, a6, a7, rfl⟩
    simp (disch := first | omega | (simp only [List.length_append, List.length_cons, List.length_nil, List.length_set, List.length_drop, List.length_take, List.length_map]; omega)) only [sv_nx, sv_rt, sv_ct, rnd_nx, rnd_ct, Int.toNat_natCast, ne_eq, eq_self, not_true_eq_false, not_false_eq_true, mVar_z, Nat.reduceAdd, Nat.zero_add, Int.zero_add, Int.reduceAdd, Int.reduceSub, Int.reduceNeg, ap_Lst, ap_Tup, nil_app, cons_app, List.length_append, lst_last, mVar_s, ok_bnd, ok_stm, exc_bnd, ev_okE, exc_stm, ap_C, ap_Op, ap_Un, ap_B, ap_Chain, ap_asB, ap_And, ap_Or, ap_Not, ap_AndV, ap_OrV, ap_NotV, ap_If, ap_Nil, ap_Cons, ap_CB, ap_Meth, ap_Part, ap_NoPart, ap_Sl, ap_Yes, add_ii, add_ss, sub_ii, neg_i, mul_ii, fdiv_ii, mod_ii, eq_ii, ne_ii, eq_ss, ne_ss, lt_ii, le_ii, gt_ii, ge_ii, lt_ss, gt_ss, le_ss, ge_ss, len_s, len_t, abs_i, int_i, int_b, max_ii, min_ii, ix_s, ixL_0, ixL_1, ixL_2, ixL_3, ixL_n, ixL_i, ixL_st, setL_n, setL_i, List.length_map, List.length_set, ix_r, getL_r, ix_tL, withL_s, setL_0, setL_1, setL_2, set_r, app_r, lst_z, lst_s, iadd_ii, tuple_r, mul_ri, sl_s, sl_rol, sl_t, sl_r, cut_from, cut_to, ap_Seq, nx_seq, rt_seq, ct_seq, bk_seq, exc_seq, ap_Raise, ap_Skip, ap_Brk, ap_Cnt, ap_Drop, ap_Ret, ap_IfS, ap_Set, ap_Ts, ap_AsgT, tgT_t, tgTs_n, tgTs_c, ap_Aug, ap_SetI, ap_AugI, mFor_ap, ap_Rng1, ap_Rng2, rng1_ok, rng2_ok, ap_Iter, src_t, src_s, src_rL, ap_Comp, wipe_n, wipe_c, len_cons, len_nil, zip_cc, zip_nn, foldl_c, foldl_n, set_z, set_s, ite_t, ite_f, ite_T, ite_F, sing_lt, sing_eq, ty_r, ty_s, isS, cut_mid, decide_eq_true_eq, if_pos, if_neg]
    exact ⟨pure_ints _, trivial⟩
  · simp (disch := first | omega | (simp only [List.length_append, List.length_cons, List.length_nil, List.length_set, List.length_drop, List.length_take, List.length_map]; omega)) only [mVar_z, Nat.reduceAdd, Nat.zero_add, Int.zero_add, Int.reduceAdd, Int.reduceSub, Int.reduceNeg, ap_Lst, ap_Tup, nil_app, cons_app, List.length_append, lst_last, mVar_s, ok_bnd, ok_stm, exc_bnd, ev_okE, exc_stm, ap_C, ap_Op, ap_Un, ap_B, ap_Chain, ap_asB, ap_And, ap_Or, ap_Not, ap_AndV, ap_OrV, ap_NotV, ap_If, ap_Nil, ap_Cons, ap_CB, ap_Meth, ap_Part, ap_NoPart, ap_Sl, ap_Yes, add_ii, add_ss, sub_ii, neg_i, mul_ii, fdiv_ii, mod_ii, eq_ii, ne_ii, eq_ss, ne_ss, lt_ii, le_ii, gt_ii, ge_ii, lt_ss, gt_ss, le_ss, ge_ss, len_s, len_t, abs_i, int_i, int_b, max_ii, min_ii, ix_s, ixL_0, ixL_1, ixL_2, ixL_3, ixL_n, ixL_i, ixL_st, setL_n, setL_i, List.length_map, List.length_set, ix_r, getL_r, ix_tL, withL_s, setL_0, setL_1, setL_2, set_r, app_r, lst_z, lst_s, iadd_ii, tuple_r, mul_ri, sl_s, sl_rol, sl_t, sl_r, cut_from, cut_to, ap_Seq, nx_seq, rt_seq, ct_seq, bk_seq, exc_seq, ap_Raise, ap_Skip, ap_Brk, ap_Cnt, ap_Drop, ap_Ret, ap_IfS, ap_Set, ap_Ts, ap_AsgT, tgT_t, tgTs_n, tgTs_c, ap_Aug, ap_SetI, ap_AugI, mFor_ap, ap_Rng1, ap_Rng2, rng1_ok, rng2_ok, ap_Iter, src_t, src_s, src_rL, ap_Comp, wipe_n, wipe_c, len_cons, len_nil, zip_cc, zip_nn, foldl_c, foldl_n, set_z, set_s, ite_t, ite_f, ite_T, ite_F, sing_lt, sing_eq, ty_r, ty_s, isS, cut_mid, decide_eq_true_eq, if_pos, if_neg]
    refine sv_cut (R' := fun o => ∃ a5 a6 a7, o = SOut.nx [some (T xs), some (T ys), some (T ys), some (T xs), some (.ref 0), a5, a6, a7] [.lst ((both2 ys xs).map .int)]) (leaps_loop ys xs [] _ _ none r' r hy hx fun a5 a6 a7 => ⟨a5, a6, a7, rfl⟩) ?_
    rintro o ⟨a5, a6, a7, rfl⟩
    simp (disch := first | omega | (simp only [List.length_append, List.length_cons, List.length_nil, List.length_set, List.length_drop, List.length_take, List.length_map]; omega)) only [sv_nx, sv_rt, sv_ct, rnd_nx, rnd_ct, Int.toNat_natCast, ne_eq, eq_self, not_true_eq_false, not_false_eq_true, mVar_z, Nat.reduceAdd, Nat.zero_add, Int.zero_add, Int.reduceAdd, Int.reduceSub, Int.reduceNeg, ap_Lst, ap_Tup, nil_app, cons_app, List.length_append, lst_last, mVar_s, ok_bnd, ok_stm, exc_bnd, ev_okE, exc_stm, ap_C, ap_Op, ap_Un, ap_B, ap_Chain, ap_asB, ap_And, ap_Or, ap_Not, ap_AndV, ap_OrV, ap_NotV, ap_If, ap_Nil, ap_Cons, ap_CB, ap_Meth, ap_Part, ap_NoPart, ap_Sl, ap_Yes, add_ii, add_ss, sub_ii, neg_i, mul_ii, fdiv_ii, mod_ii, eq_ii, ne_ii, eq_ss, ne_ss, lt_ii, le_ii, gt_ii, ge_ii, lt_ss, gt_ss, le_ss, ge_ss, len_s, len_t, abs_i, int_i, int_b, max_ii, min_ii, ix_s, ixL_0, ixL_1, ixL_2, ixL_3, ixL_n, ixL_i, ixL_st, setL_n, setL_i, List.length_map, List.length_set, ix_r, getL_r, ix_tL, withL_s, setL_0, setL_1, setL_2, set_r, app_r, lst_z, lst_s, iadd_ii, tuple_r, mul_ri, sl_s, sl_rol, sl_t, sl_r, cut_from, cut_to, ap_Seq, nx_seq, rt_seq, ct_seq, bk_seq, exc_seq, ap_Raise, ap_Skip, ap_Brk, ap_Cnt, ap_Drop, ap_Ret, ap_IfS, ap_Set, ap_Ts, ap_AsgT, tgT_t, tgTs_n, tgTs_c, ap_Aug, ap_SetI, ap_AugI, mFor_ap, ap_Rng1, ap_Rng2, rng1_ok, rng2_ok, ap_Iter, src_t, src_s, src_rL, ap_Comp, wipe_n, wipe_c, len_cons, len_nil, zip_cc, zip_nn, foldl_c, foldl_n, set_z, set_s, ite_t, ite_f, ite_T, ite_F, sing_lt, sing_eq, ty_r, ty_s, isS, cut_mid, decide_eq_true_eq, if_pos, if_neg]
    rw [both_comm r r']
    exact ⟨pure_ints _, rfl⟩
end Law_indexhall_k04_rising_rows
set_option maxRecDepth 100000
namespace Law_indexhall_k04_rising_rows
open PySem L2 Den
def gp (x y : Int) : Int := if x - y < 0 then -(x - y) else x - y
def bW : Option Int → W
  | none => .non
  | some m => .int m
structure NInv (xs ys : List Int) (a b : Nat) (o : Option Int) : Prop where
  ha : a ≤ xs.length
  hb : b ≤ ys.length
  is : ∀ m, o = some m → ∃ x ∈ xs, ∃ y ∈ ys, m = gp x y
  le : ∀ x ∈ xs, ∀ y ∈ ys, (∃ m, o = some m ∧ m ≤ gp x y) ∨ (x ∈ xs.drop a ∧ y ∈ ys.drop b)
theorem NInv.next {xs ys : List Int} {a b a' b' : Nat} {o : Option Int} (I : NInv xs ys a b o) (ha : a' ≤ xs.length) (hb : b' ≤ ys.length) {x y : Int} (hx : x ∈ xs) (hy : y ∈ ys)
    (h : ∀ x' ∈ xs.drop a, ∀ y' ∈ ys.drop b, gp x y ≤ gp x' y' ∨ (x' ∈ xs.drop a' ∧ y' ∈ ys.drop b')) {m : Int} (h1 : m ≤ gp x y) (h2 : ∀ k, o = some k → m ≤ k) (h3 : m = gp x y ∨ o = some m) : NInv xs ys a' b' (some m) where
  ha := ha
  hb := hb
  is := fun k hk => by
    cases hk
    rcases h3 with e | e
    · exact ⟨x, hx, y, hy, e⟩
    · exact I.is m e
  le := fun x' hx' y' hy' => by
    rcases I.le x' hx' y' hy' with ⟨k, e, hk⟩ | ⟨e1, e2⟩
    · exact .inl ⟨m, rfl, by have := h2 k e; omega⟩
    · rcases h x' e1 y' e2 with q | q
      · exact .inl ⟨m, rfl, by omega⟩
      · exact .inr q
theorem nearest_ev (xs ys : List Int) (r : Rsg xs) (r' : Rsg ys) (hx : xs.length ≤ 1000) (hy : ys.length ≤ 1000) : Ev (den_nearest_pair [T xs, T ys] []) fun w _ => pureW w = true ∧ ∃ o, w = bW o ∧ (∀ m, o = some m → ∃ x ∈ xs, ∃ y ∈ ys, m = gp x y) ∧ ∀ x ∈ xs, ∀ y ∈ ys, ∃ m, o = some m ∧ m ≤ gp x y := by
  refine fun_ev ?_
  unfold body_nearest_pair
  simp only [startE, List.map_cons, List.map_nil, List.length_cons, List.length_nil, List.cons_append, List.nil_append, Nat.zero_add, Nat.reduceAdd, Nat.reduceSub, List.replicate_succ, List.replicate_zero]
  simp (disch := first | omega | (simp only [List.length_append, List.length_cons, List.length_nil, List.length_set, List.length_drop, List.length_take, List.length_map]; omega)) only [mVar_z, Nat.reduceAdd, Nat.zero_add, Int.zero_add, Int.reduceAdd, Int.reduceSub, Int.reduceNeg, ap_Lst, ap_Tup, nil_app, cons_app, List.length_append, lst_last, mVar_s, ok_bnd, ok_stm, exc_bnd, ev_okE, exc_stm, ap_C, ap_Op, ap_Un, ap_B, ap_Chain, ap_asB, ap_And, ap_Or, ap_Not, ap_AndV, ap_OrV, ap_NotV, ap_If, ap_Nil, ap_Cons, ap_CB, ap_Meth, ap_Part, ap_NoPart, ap_Sl, ap_Yes, add_ii, add_ss, sub_ii, neg_i, mul_ii, fdiv_ii, mod_ii, eq_ii, ne_ii, eq_ss, ne_ss, lt_ii, le_ii, gt_ii, ge_ii, lt_ss, gt_ss, le_ss, ge_ss, len_s, len_t, abs_i, int_i, int_b, max_ii, min_ii, ix_s, ixL_0, ixL_1, ixL_2, ixL_3, ixL_n, ixL_i, ixL_st, setL_n, setL_i, List.length_map, List.length_set, ix_r, getL_r, ix_tL, withL_s, setL_0, setL_1, setL_2, set_r, app_r, lst_z, lst_s, iadd_ii, tuple_r, mul_ri, sl_s, sl_rol, sl_t, sl_r, cut_from, cut_to, ap_Seq, nx_seq, rt_seq, ct_seq, bk_seq, exc_seq, ap_Raise, ap_Skip, ap_Brk, ap_Cnt, ap_Drop, ap_Ret, ap_IfS, ap_Set, ap_Ts, ap_AsgT, tgT_t, tgTs_n, tgTs_c, ap_Aug, ap_SetI, ap_AugI, mFor_ap, ap_Rng1, ap_Rng2, rng1_ok, rng2_ok, ap_Iter, src_t, src_s, src_rL, ap_Comp, wipe_n, wipe_c, len_cons, len_nil, zip_cc, zip_nn, foldl_c, foldl_n, set_z, set_s, ite_t, ite_f, ite_T, ite_F, sing_lt, sing_eq, ty_r, ty_s, isS, cut_mid, decide_eq_true_eq, if_pos, if_neg]
  refine sv_cut (R' := fun s => ∃ (o : Option Int) (a b c : Option W), s = SOut.nx [some (T xs), some (T ys), some (bW o), a, b, c] [] ∧ (∀ m, o = some m → ∃ x ∈ xs, ∃ y ∈ ys, m = gp x y) ∧ ∀ x ∈ xs, ∀ y ∈ ys, ∃ m, o = some m ∧ m ≤ gp x y) ?_ ?_
  · refine mWhile_sv (xs.length + ys.length) (fun m e h => ∃ (a b : Nat) (o : Option Int) (c : Option W), NInv xs ys a b o ∧ m = (xs.length - a) + (ys.length - b) ∧ e = [some (T xs), some (T ys), some (bW o), some (.int a), some (.int b), c] ∧ h = []) (by omega) ⟨0, 0, none, none, ⟨by omega, by omega, by simp, fun x hx y hy => .inr ⟨hx, hy⟩⟩, by omega, rfl, rfl⟩ ?_
    rintro m e h ⟨a, b, o, c, I, rfl, rfl, rfl⟩
    have ha := I.ha
    have hb := I.hb
    have fin : a = xs.length ∨ b = ys.length → ∀ x ∈ xs, ∀ y ∈ ys, ∃ m, o = some m ∧ m ≤ gp x y := fun h x hx y hy => by
      rcases I.le x hx y hy with q | ⟨q1, q2⟩
      · exact q
      · rcases h with h | h
        · rw [h, List.drop_length] at q1; cases q1
        · rw [h, List.drop_length] at q2; cases q2
    by_cases h1 : a < xs.length
    · by_cases h2 : b < ys.length
      · have mx := mem_drop h1
        have my := mem_drop h2
        have lx := head_drop r h1
        have ly := head_drop r' h2
        generalize hxv : xs.getD a 0 = x at mx lx
        generalize hyv : ys.getD b 0 = y at my ly
        have hxm : x ∈ xs := List.mem_of_mem_drop ((mx x).2 (.inl rfl))
        have hym : y ∈ ys := List.mem_of_mem_drop ((my y).2 (.inl rfl))
        have hg : (if x - y < 0 then -(x - y) else x - y) = gp x y := rfl
        by_cases h3 : x < y
        · have key : ∀ x' ∈ xs.drop a, ∀ y' ∈ ys.drop b, gp x y ≤ gp x' y' ∨ (x' ∈ xs.drop (a + 1) ∧ y' ∈ ys.drop b) := fun x' hx' y' hy' => by
            rcases (mx x').1 hx' with e | e
            · left
              subst e
              have : y ≤ y' := by
                rcases (my y').1 hy' with e | e
                · omega
                · have := ly y' e; omega
              unfold gp
              split <;> split <;> omega
            · exact .inr ⟨e, hy'⟩
          cases o with
          | none =>
            simp (disch := first | omega | (simp only [List.length_append, List.length_cons, List.length_nil, List.length_set, List.length_drop, List.length_take, List.length_map]; omega)) only [hxv, hyv, hg, bW, ap_IsN, isN_n, sv_nx, sv_rt, sv_ct, rnd_nx, rnd_ct, Int.toNat_natCast, ne_eq, eq_self, not_true_eq_false, not_false_eq_true, mVar_z, Nat.reduceAdd, Nat.zero_add, Int.zero_add, Int.reduceAdd, Int.reduceSub, Int.reduceNeg, ap_Lst, ap_Tup, nil_app, cons_app, List.length_append, lst_last, mVar_s, ok_bnd, ok_stm, exc_bnd, ev_okE, exc_stm, ap_C, ap_Op, ap_Un, ap_B, ap_Chain, ap_asB, ap_And, ap_Or, ap_Not, ap_AndV, ap_OrV, ap_NotV, ap_If, ap_Nil, ap_Cons, ap_CB, ap_Meth, ap_Part, ap_NoPart, ap_Sl, ap_Yes, add_ii, add_ss, sub_ii, neg_i, mul_ii, fdiv_ii, mod_ii, eq_ii, ne_ii, eq_ss, ne_ss, lt_ii, le_ii, gt_ii, ge_ii, lt_ss, gt_ss, le_ss, ge_ss, len_s, len_t, abs_i, int_i, int_b, max_ii, min_ii, ix_s, ixL_0, ixL_1, ixL_2, ixL_3, ixL_n, ixL_i, ixL_st, setL_n, setL_i, List.length_map, List.length_set, ix_r, getL_r, ix_tL, withL_s, setL_0, setL_1, setL_2, set_r, app_r, lst_z, lst_s, iadd_ii, tuple_r, mul_ri, sl_s, sl_rol, sl_t, sl_r, cut_from, cut_to, ap_Seq, nx_seq, rt_seq, ct_seq, bk_seq, exc_seq, ap_Raise, ap_Skip, ap_Brk, ap_Cnt, ap_Drop, ap_Ret, ap_IfS, ap_Set, ap_Ts, ap_AsgT, tgT_t, tgTs_n, tgTs_c, ap_Aug, ap_SetI, ap_AugI, mFor_ap, ap_Rng1, ap_Rng2, rng1_ok, rng2_ok, ap_Iter, src_t, src_s, src_rL, ap_Comp, wipe_n, wipe_c, len_cons, len_nil, zip_cc, zip_nn, foldl_c, foldl_n, set_z, set_s, ite_t, ite_f, ite_T, ite_F, sing_lt, sing_eq, ty_r, ty_s, isS, cut_mid, decide_eq_true_eq, if_pos, if_neg]
            exact ⟨_, by omega, a + 1, b, some (gp x y), some (.int (gp x y)), I.next (by omega) hb hxm hym key (Int.le_refl _) (by simp) (.inl rfl), rfl, by simp [bW], trivial⟩
          | some k =>
            by_cases h4 : gp x y < k
            · simp (disch := first | omega | (simp only [List.length_append, List.length_cons, List.length_nil, List.length_set, List.length_drop, List.length_take, List.length_map]; omega)) only [hxv, hyv, hg, bW, ap_IsN, isN_i, sv_nx, sv_rt, sv_ct, rnd_nx, rnd_ct, Int.toNat_natCast, ne_eq, eq_self, not_true_eq_false, not_false_eq_true, mVar_z, Nat.reduceAdd, Nat.zero_add, Int.zero_add, Int.reduceAdd, Int.reduceSub, Int.reduceNeg, ap_Lst, ap_Tup, nil_app, cons_app, List.length_append, lst_last, mVar_s, ok_bnd, ok_stm, exc_bnd, ev_okE, exc_stm, ap_C, ap_Op, ap_Un, ap_B, ap_Chain, ap_asB, ap_And, ap_Or, ap_Not, ap_AndV, ap_OrV, ap_NotV, ap_If, ap_Nil, ap_Cons, ap_CB, ap_Meth, ap_Part, ap_NoPart, ap_Sl, ap_Yes, add_ii, add_ss, sub_ii, neg_i, mul_ii, fdiv_ii, mod_ii, eq_ii, ne_ii, eq_ss, ne_ss, lt_ii, le_ii, gt_ii, ge_ii, lt_ss, gt_ss, le_ss, ge_ss, len_s, len_t, abs_i, int_i, int_b, max_ii, min_ii, ix_s, ixL_0, ixL_1, ixL_2, ixL_3, ixL_n, ixL_i, ixL_st, setL_n, setL_i, List.length_map, List.length_set, ix_r, getL_r, ix_tL, withL_s, setL_0, setL_1, setL_2, set_r, app_r, lst_z, lst_s, iadd_ii, tuple_r, mul_ri, sl_s, sl_rol, sl_t, sl_r, cut_from, cut_to, ap_Seq, nx_seq, rt_seq, ct_seq, bk_seq, exc_seq, ap_Raise, ap_Skip, ap_Brk, ap_Cnt, ap_Drop, ap_Ret, ap_IfS, ap_Set, ap_Ts, ap_AsgT, tgT_t, tgTs_n, tgTs_c, ap_Aug, ap_SetI, ap_AugI, mFor_ap, ap_Rng1, ap_Rng2, rng1_ok, rng2_ok, ap_Iter, src_t, src_s, src_rL, ap_Comp, wipe_n, wipe_c, len_cons, len_nil, zip_cc, zip_nn, foldl_c, foldl_n, set_z, set_s, ite_t, ite_f, ite_T, ite_F, sing_lt, sing_eq, ty_r, ty_s, isS, cut_mid, decide_eq_true_eq, if_pos, if_neg]
              exact ⟨_, by omega, a + 1, b, some (gp x y), some (.int (gp x y)), I.next (by omega) hb hxm hym key (Int.le_refl _) (fun k' e => by cases e; omega) (.inl rfl), rfl, by simp [bW], trivial⟩
            · simp (disch := first | omega | (simp only [List.length_append, List.length_cons, List.length_nil, List.length_set, List.length_drop, List.length_take, List.length_map]; omega)) only [hxv, hyv, hg, bW, ap_IsN, isN_i, sv_nx, sv_rt, sv_ct, rnd_nx, rnd_ct, Int.toNat_natCast, ne_eq, eq_self, not_true_eq_false, not_false_eq_true, mVar_z, Nat.reduceAdd, Nat.zero_add, Int.zero_add, Int.reduceAdd, Int.reduceSub, Int.reduceNeg, ap_Lst, ap_Tup, nil_app, cons_app, List.length_append, lst_last, mVar_s, ok_bnd, ok_stm, exc_bnd, ev_okE, exc_stm, ap_C, ap_Op, ap_Un, ap_B, ap_Chain, ap_asB, ap_And, ap_Or, ap_Not, ap_AndV, ap_OrV, ap_NotV, ap_If, ap_Nil, ap_Cons, ap_CB, ap_Meth, ap_Part, ap_NoPart, ap_Sl, ap_Yes, add_ii, add_ss, sub_ii, neg_i, mul_ii, fdiv_ii, mod_ii, eq_ii, ne_ii, eq_ss, ne_ss, lt_ii, le_ii, gt_ii, ge_ii, lt_ss, gt_ss, le_ss, ge_ss, len_s, len_t, abs_i, int_i, int_b, max_ii, min_ii, ix_s, ixL_0, ixL_1, ixL_2, ixL_3, ixL_n, ixL_i, ixL_st, setL_n, setL_i, List.length_map, List.length_set, ix_r, getL_r, ix_tL, withL_s, setL_0, setL_1, setL_2, set_r, app_r, lst_z, lst_s, iadd_ii, tuple_r, mul_ri, sl_s, sl_rol, sl_t, sl_r, cut_from, cut_to, ap_Seq, nx_seq, rt_seq, ct_seq, bk_seq, exc_seq, ap_Raise, ap_Skip, ap_Brk, ap_Cnt, ap_Drop, ap_Ret, ap_IfS, ap_Set, ap_Ts, ap_AsgT, tgT_t, tgTs_n, tgTs_c, ap_Aug, ap_SetI, ap_AugI, mFor_ap, ap_Rng1, ap_Rng2, rng1_ok, rng2_ok, ap_Iter, src_t, src_s, src_rL, ap_Comp, wipe_n, wipe_c, len_cons, len_nil, zip_cc, zip_nn, foldl_c, foldl_n, set_z, set_s, ite_t, ite_f, ite_T, ite_F, sing_lt, sing_eq, ty_r, ty_s, isS, cut_mid, decide_eq_true_eq, if_pos, if_neg]
              exact ⟨_, by omega, a + 1, b, some k, some (.int (gp x y)), I.next (by omega) hb hxm hym key (by omega) (fun k' e => by cases e; omega) (.inr rfl), rfl, by simp [bW], trivial⟩
        · have key : ∀ x' ∈ xs.drop a, ∀ y' ∈ ys.drop b, gp x y ≤ gp x' y' ∨ (x' ∈ xs.drop a ∧ y' ∈ ys.drop (b + 1)) := fun x' hx' y' hy' => by
            rcases (my y').1 hy' with e | e
            · left
              subst e
              have : x ≤ x' := by
                rcases (mx x').1 hx' with e | e
                · omega
                · have := lx x' e; omega
              unfold gp
              split <;> split <;> omega
            · exact .inr ⟨hx', e⟩
          cases o with
          | none =>
            simp (disch := first | omega | (simp only [List.length_append, List.length_cons, List.length_nil, List.length_set, List.length_drop, List.length_take, List.length_map]; omega)) only [hxv, hyv, hg, bW, ap_IsN, isN_n, sv_nx, sv_rt, sv_ct, rnd_nx, rnd_ct, Int.toNat_natCast, ne_eq, eq_self, not_true_eq_false, not_false_eq_true, mVar_z, Nat.reduceAdd, Nat.zero_add, Int.zero_add, Int.reduceAdd, Int.reduceSub, Int.reduceNeg, ap_Lst, ap_Tup, nil_app, cons_app, List.length_append, lst_last, mVar_s, ok_bnd, ok_stm, exc_bnd, ev_okE, exc_stm, ap_C, ap_Op, ap_Un, ap_B, ap_Chain, ap_asB, ap_And, ap_Or, ap_Not, ap_AndV, ap_OrV, ap_NotV, ap_If, ap_Nil, ap_Cons, ap_CB, ap_Meth, ap_Part, ap_NoPart, ap_Sl, ap_Yes, add_ii, add_ss, sub_ii, neg_i, mul_ii, fdiv_ii, mod_ii, eq_ii, ne_ii, eq_ss, ne_ss, lt_ii, le_ii, gt_ii, ge_ii, lt_ss, gt_ss, le_ss, ge_ss, len_s, len_t, abs_i, int_i, int_b, max_ii, min_ii, ix_s, ixL_0, ixL_1, ixL_2, ixL_3, ixL_n, ixL_i, ixL_st, setL_n, setL_i, List.length_map, List.length_set, ix_r, getL_r, ix_tL, withL_s, setL_0, setL_1, setL_2, set_r, app_r, lst_z, lst_s, iadd_ii, tuple_r, mul_ri, sl_s, sl_rol, sl_t, sl_r, cut_from, cut_to, ap_Seq, nx_seq, rt_seq, ct_seq, bk_seq, exc_seq, ap_Raise, ap_Skip, ap_Brk, ap_Cnt, ap_Drop, ap_Ret, ap_IfS, ap_Set, ap_Ts, ap_AsgT, tgT_t, tgTs_n, tgTs_c, ap_Aug, ap_SetI, ap_AugI, mFor_ap, ap_Rng1, ap_Rng2, rng1_ok, rng2_ok, ap_Iter, src_t, src_s, src_rL, ap_Comp, wipe_n, wipe_c, len_cons, len_nil, zip_cc, zip_nn, foldl_c, foldl_n, set_z, set_s, ite_t, ite_f, ite_T, ite_F, sing_lt, sing_eq, ty_r, ty_s, isS, cut_mid, decide_eq_true_eq, if_pos, if_neg]
            exact ⟨_, by omega, a, b + 1, some (gp x y), some (.int (gp x y)), I.next ha (by omega) hxm hym key (Int.le_refl _) (by simp) (.inl rfl), rfl, by simp [bW], trivial⟩
          | some k =>
            by_cases h4 : gp x y < k
            · simp (disch := first | omega | (simp only [List.length_append, List.length_cons, List.length_nil, List.length_set, List.length_drop, List.length_take, List.length_map]; omega)) only [hxv, hyv, hg, bW, ap_IsN, isN_i, sv_nx, sv_rt, sv_ct, rnd_nx, rnd_ct, Int.toNat_natCast, ne_eq, eq_self, not_true_eq_false, not_false_eq_true, mVar_z, Nat.reduceAdd, Nat.zero_add, Int.zero_add, Int.reduceAdd, Int.reduceSub, Int.reduceNeg, ap_Lst, ap_Tup, nil_app, cons_app, List.length_append, lst_last, mVar_s, ok_bnd, ok_stm, exc_bnd, ev_okE, exc_stm, ap_C, ap_Op, ap_Un, ap_B, ap_Chain, ap_asB, ap_And, ap_Or, ap_Not, ap_AndV, ap_OrV, ap_NotV, ap_If, ap_Nil, ap_Cons, ap_CB, ap_Meth, ap_Part, ap_NoPart, ap_Sl, ap_Yes, add_ii, add_ss, sub_ii, neg_i, mul_ii, fdiv_ii, mod_ii, eq_ii, ne_ii, eq_ss, ne_ss, lt_ii, le_ii, gt_ii, ge_ii, lt_ss, gt_ss, le_ss, ge_ss, len_s, len_t, abs_i, int_i, int_b, max_ii, min_ii, ix_s, ixL_0, ixL_1, ixL_2, ixL_3, ixL_n, ixL_i, ixL_st, setL_n, setL_i, List.length_map, List.length_set, ix_r, getL_r, ix_tL, withL_s, setL_0, setL_1, setL_2, set_r, app_r, lst_z, lst_s, iadd_ii, tuple_r, mul_ri, sl_s, sl_rol, sl_t, sl_r, cut_from, cut_to, ap_Seq, nx_seq, rt_seq, ct_seq, bk_seq, exc_seq, ap_Raise, ap_Skip, ap_Brk, ap_Cnt, ap_Drop, ap_Ret, ap_IfS, ap_Set, ap_Ts, ap_AsgT, tgT_t, tgTs_n, tgTs_c, ap_Aug, ap_SetI, ap_AugI, mFor_ap, ap_Rng1, ap_Rng2, rng1_ok, rng2_ok, ap_Iter, src_t, src_s, src_rL, ap_Comp, wipe_n, wipe_c, len_cons, len_nil, zip_cc, zip_nn, foldl_c, foldl_n, set_z, set_s, ite_t, ite_f, ite_T, ite_F, sing_lt, sing_eq, ty_r, ty_s, isS, cut_mid, decide_eq_true_eq, if_pos, if_neg]
              exact ⟨_, by omega, a, b + 1, some (gp x y), some (.int (gp x y)), I.next ha (by omega) hxm hym key (Int.le_refl _) (fun k' e => by cases e; omega) (.inl rfl), rfl, by simp [bW], trivial⟩
            · simp (disch := first | omega | (simp only [List.length_append, List.length_cons, List.length_nil, List.length_set, List.length_drop, List.length_take, List.length_map]; omega)) only [hxv, hyv, hg, bW, ap_IsN, isN_i, sv_nx, sv_rt, sv_ct, rnd_nx, rnd_ct, Int.toNat_natCast, ne_eq, eq_self, not_true_eq_false, not_false_eq_true, mVar_z, Nat.reduceAdd, Nat.zero_add, Int.zero_add, Int.reduceAdd, Int.reduceSub, Int.reduceNeg, ap_Lst, ap_Tup, nil_app, cons_app, List.length_append, lst_last, mVar_s, ok_bnd, ok_stm, exc_bnd, ev_okE, exc_stm, ap_C, ap_Op, ap_Un, ap_B, ap_Chain, ap_asB, ap_And, ap_Or, ap_Not, ap_AndV, ap_OrV, ap_NotV, ap_If, ap_Nil, ap_Cons, ap_CB, ap_Meth, ap_Part, ap_NoPart, ap_Sl, ap_Yes, add_ii, add_ss, sub_ii, neg_i, mul_ii, fdiv_ii, mod_ii, eq_ii, ne_ii, eq_ss, ne_ss, lt_ii, le_ii, gt_ii, ge_ii, lt_ss, gt_ss, le_ss, ge_ss, len_s, len_t, abs_i, int_i, int_b, max_ii, min_ii, ix_s, ixL_0, ixL_1, ixL_2, ixL_3, ixL_n, ixL_i, ixL_st, setL_n, setL_i, List.length_map, List.length_set, ix_r, getL_r, ix_tL, withL_s, setL_0, setL_1, setL_2, set_r, app_r, lst_z, lst_s, iadd_ii, tuple_r, mul_ri, sl_s, sl_rol, sl_t, sl_r, cut_from, cut_to, ap_Seq, nx_seq, rt_seq, ct_seq, bk_seq, exc_seq, ap_Raise, ap_Skip, ap_Brk, ap_Cnt, ap_Drop, ap_Ret, ap_IfS, ap_Set, ap_Ts, ap_AsgT, tgT_t, tgTs_n, tgTs_c, ap_Aug, ap_SetI, ap_AugI, mFor_ap, ap_Rng1, ap_Rng2, rng1_ok, rng2_ok, ap_Iter, src_t, src_s, src_rL, ap_Comp, wipe_n, wipe_c, len_cons, len_nil, zip_cc, zip_nn, foldl_c, foldl_n, set_z, set_s, ite_t, ite_f, ite_T, ite_F, sing_lt, sing_eq, ty_r, ty_s, isS, cut_mid, decide_eq_true_eq, if_pos, if_neg]
              exact ⟨_, by omega, a, b + 1, some k, some (.int (gp x y)), I.next ha (by omega) hxm hym key (by omega) (fun k' e => by cases e; omega) (.inr rfl), rfl, by simp [bW], trivial⟩
      · simp (disch := first | omega | (simp only [List.length_append, List.length_cons, List.length_nil, List.length_set, List.length_drop, List.length_take, List.length_map]; omega)) only [sv_nx, sv_rt, sv_ct, rnd_nx, rnd_ct, Int.toNat_natCast, ne_eq, eq_self, not_true_eq_false, not_false_eq_true, mVar_z, Nat.reduceAdd, Nat.zero_add, Int.zero_add, Int.reduceAdd, Int.reduceSub, Int.reduceNeg, ap_Lst, ap_Tup, nil_app, cons_app, List.length_append, lst_last, mVar_s, ok_bnd, ok_stm, exc_bnd, ev_okE, exc_stm, ap_C, ap_Op, ap_Un, ap_B, ap_Chain, ap_asB, ap_And, ap_Or, ap_Not, ap_AndV, ap_OrV, ap_NotV, ap_If, ap_Nil, ap_Cons, ap_CB, ap_Meth, ap_Part, ap_NoPart, ap_Sl, ap_Yes, add_ii, add_ss, sub_ii, neg_i, mul_ii, fdiv_ii, mod_ii, eq_ii, ne_ii, eq_ss, ne_ss, lt_ii, le_ii, gt_ii, ge_ii, lt_ss, gt_ss, le_ss, ge_ss, len_s, len_t, abs_i, int_i, int_b, max_ii, min_ii, ix_s, ixL_0, ixL_1, ixL_2, ixL_3, ixL_n, ixL_i, ixL_st, setL_n, setL_i, List.length_map, List.length_set, ix_r, getL_r, ix_tL, withL_s, setL_0, setL_1, setL_2, set_r, app_r, lst_z, lst_s, iadd_ii, tuple_r, mul_ri, sl_s, sl_rol, sl_t, sl_r, cut_from, cut_to, ap_Seq, nx_seq, rt_seq, ct_seq, bk_seq, exc_seq, ap_Raise, ap_Skip, ap_Brk, ap_Cnt, ap_Drop, ap_Ret, ap_IfS, ap_Set, ap_Ts, ap_AsgT, tgT_t, tgTs_n, tgTs_c, ap_Aug, ap_SetI, ap_AugI, mFor_ap, ap_Rng1, ap_Rng2, rng1_ok, rng2_ok, ap_Iter, src_t, src_s, src_rL, ap_Comp, wipe_n, wipe_c, len_cons, len_nil, zip_cc, zip_nn, foldl_c, foldl_n, set_z, set_s, ite_t, ite_f, ite_T, ite_F, sing_lt, sing_eq, ty_r, ty_s, isS, cut_mid, decide_eq_true_eq, if_pos, if_neg]
        exact ⟨o, _, _, _, rfl, I.is, fin (.inr (by omega))⟩
    · simp (disch := first | omega | (simp only [List.length_append, List.length_cons, List.length_nil, List.length_set, List.length_drop, List.length_take, List.length_map]; omega)) only [sv_nx, sv_rt, sv_ct, rnd_nx, rnd_ct, Int.toNat_natCast, ne_eq, eq_self, not_true_eq_false, not_false_eq_true, mVar_z, Nat.reduceAdd, Nat.zero_add, Int.zero_add, Int.reduceAdd, Int.reduceSub, Int.reduceNeg, ap_Lst, ap_Tup, nil_app, cons_app, List.length_append, lst_last, mVar_s, ok_bnd, ok_stm, exc_bnd, ev_okE, exc_stm, ap_C, ap_Op, ap_Un, ap_B, ap_Chain, ap_asB, ap_And, ap_Or, ap_Not, ap_AndV, ap_OrV, ap_NotV, ap_If, ap_Nil, ap_Cons, ap_CB, ap_Meth, ap_Part, ap_NoPart, ap_Sl, ap_Yes, add_ii, add_ss, sub_ii, neg_i, mul_ii, fdiv_ii, mod_ii, eq_ii, ne_ii, eq_ss, ne_ss, lt_ii, le_ii, gt_ii, ge_ii, lt_ss, gt_ss, le_ss, ge_ss, len_s, len_t, abs_i, int_i, int_b, max_ii, min_ii, ix_s, ixL_0, ixL_1, ixL_2, ixL_3, ixL_n, ixL_i, ixL_st, setL_n, setL_i, List.length_map, List.length_set, ix_r, getL_r, ix_tL, withL_s, setL_0, setL_1, setL_2, set_r, app_r, lst_z, lst_s, iadd_ii, tuple_r, mul_ri, sl_s, sl_rol, sl_t, sl_r, cut_from, cut_to, ap_Seq, nx_seq, rt_seq, ct_seq, bk_seq, exc_seq, ap_Raise, ap_Skip, ap_Brk, ap_Cnt, ap_Drop, ap_Ret, ap_IfS, ap_Set, ap_Ts, ap_AsgT, tgT_t, tgTs_n, tgTs_c, ap_Aug, ap_SetI, ap_AugI, mFor_ap, ap_Rng1, ap_Rng2, rng1_ok, rng2_ok, ap_Iter, src_t, src_s, src_rL, ap_Comp, wipe_n, wipe_c, len_cons, len_nil, zip_cc, zip_nn, foldl_c, foldl_n, set_z, set_s, ite_t, ite_f, ite_T, ite_F, sing_lt, sing_eq, ty_r, ty_s, isS, cut_mid, decide_eq_true_eq, if_pos, if_neg]
      exact ⟨o, _, _, _, rfl, I.is, fin (.inl (by omega))⟩
  · rintro s ⟨o, a, b, c, rfl, h1, h2⟩
    simp (disch := first | omega | (simp only [List.length_append, List.length_cons, List.length_nil, List.length_set, List.length_drop, List.length_take, List.length_map]; omega)) only [sv_nx, sv_rt, sv_ct, rnd_nx, rnd_ct, Int.toNat_natCast, ne_eq, eq_self, not_true_eq_false, not_false_eq_true, mVar_z, Nat.reduceAdd, Nat.zero_add, Int.zero_add, Int.reduceAdd, Int.reduceSub, Int.reduceNeg, ap_Lst, ap_Tup, nil_app, cons_app, List.length_append, lst_last, mVar_s, ok_bnd, ok_stm, exc_bnd, ev_okE, exc_stm, ap_C, ap_Op, ap_Un, ap_B, ap_Chain, ap_asB, ap_And, ap_Or, ap_Not, ap_AndV, ap_OrV, ap_NotV, ap_If, ap_Nil, ap_Cons, ap_CB, ap_Meth, ap_Part, ap_NoPart, ap_Sl, ap_Yes, add_ii, add_ss, sub_ii, neg_i, mul_ii, fdiv_ii, mod_ii, eq_ii, ne_ii, eq_ss, ne_ss, lt_ii, le_ii, gt_ii, ge_ii, lt_ss, gt_ss, le_ss, ge_ss, len_s, len_t, abs_i, int_i, int_b, max_ii, min_ii, ix_s, ixL_0, ixL_1, ixL_2, ixL_3, ixL_n, ixL_i, ixL_st, setL_n, setL_i, List.length_map, List.length_set, ix_r, getL_r, ix_tL, withL_s, setL_0, setL_1, setL_2, set_r, app_r, lst_z, lst_s, iadd_ii, tuple_r, mul_ri, sl_s, sl_rol, sl_t, sl_r, cut_from, cut_to, ap_Seq, nx_seq, rt_seq, ct_seq, bk_seq, exc_seq, ap_Raise, ap_Skip, ap_Brk, ap_Cnt, ap_Drop, ap_Ret, ap_IfS, ap_Set, ap_Ts, ap_AsgT, tgT_t, tgTs_n, tgTs_c, ap_Aug, ap_SetI, ap_AugI, mFor_ap, ap_Rng1, ap_Rng2, rng1_ok, rng2_ok, ap_Iter, src_t, src_s, src_rL, ap_Comp, wipe_n, wipe_c, len_cons, len_nil, zip_cc, zip_nn, foldl_c, foldl_n, set_z, set_s, ite_t, ite_f, ite_T, ite_F, sing_lt, sing_eq, ty_r, ty_s, isS, cut_mid, decide_eq_true_eq, if_pos, if_neg]
    exact ⟨by cases o <;> rfl, o, rfl, h1, h2⟩
/-! ### spans -/
/-- what the spans cover -/
def cover (ps : List (Int × Int)) : List Int := ps.flatMap fun p => (List.range (p.2 - p.1).toNat).map fun k : Nat => p.1 + (k : Int)
structure SInv (l : List Int) (ps : List (Int × Int)) : Prop where
  cov : cover ps = l
  lt : ∀ p ∈ ps, p.1 < p.2
  up : ps.Pairwise fun p q => p.2 < q.1
theorem SInv.bound {l : List Int} {ps : List (Int × Int)} (I : SInv l ps) : ∀ p ∈ ps, p.1 ∈ l ∧ p.2 - 1 ∈ l := fun p hp => by
  have h := I.lt p hp
  rw [← I.cov]
  unfold cover
  refine ⟨List.mem_flatMap.2 ⟨p, hp, List.mem_map.2 ⟨0, List.mem_range.2 (by omega), by omega⟩⟩, List.mem_flatMap.2 ⟨p, hp, List.mem_map.2 ⟨(p.2 - p.1 - 1).toNat, List.mem_range.2 (by omega), by omega⟩⟩⟩
theorem SInv.join {l : List Int} {ps : List (Int × Int)} {p : Int × Int} {x : Int} (I : SInv l (ps ++ [p])) (e : p.2 = x) : SInv (l ++ [x]) (ps ++ [(p.1, x + 1)]) where
  cov := by
    have h := I.lt p (by simp)
    rw [← I.cov]
    unfold cover
    rw [List.flatMap_append, List.flatMap_append, List.append_assoc]
    congr 1
    simp only [List.flatMap_cons, List.flatMap_nil, List.append_nil]
    have e1 : (x + 1 - p.1).toNat = (p.2 - p.1).toNat + 1 := by omega
    rw [e1, List.range_succ, List.map_append]
    congr 1
    simp
    omega
  lt := fun q hq => by
    rcases List.mem_append.1 hq with e' | e'
    · exact I.lt q (by simp [e'])
    · rw [List.mem_singleton.1 e']
      have h := I.lt p (by simp)
      show p.1 < x + 1
      omega
  up := by
    have := I.up
    rw [List.pairwise_append] at this ⊢
    exact ⟨this.1, List.pairwise_singleton _ _, fun a ha b hb => by
      rw [List.mem_singleton.1 hb]
      exact this.2.2 a ha p (by simp)⟩
theorem SInv.new {l : List Int} {ps : List (Int × Int)} {x : Int} (I : SInv l ps) (h : ∀ p ∈ ps, p.2 < x) : SInv (l ++ [x]) (ps ++ [(x, x + 1)]) where
  cov := by
    rw [← I.cov]
    unfold cover
    rw [List.flatMap_append]
    congr 1
    have e1 : (x + 1 - x).toNat = 1 := by omega
    simp [e1]
  lt := fun q hq => by
    rcases List.mem_append.1 hq with e' | e'
    · exact I.lt q e'
    · rw [List.mem_singleton.1 e']
      show x < x + 1
      omega
  up := by
    rw [List.pairwise_append]
    exact ⟨I.up, List.pairwise_singleton _ _, fun a ha b hb => by rw [List.mem_singleton.1 hb]; exact h a ha⟩
theorem spans_ev (xs : List Int) (r : Rsg xs) (hx : xs.length ≤ 1000) : Ev (den_spans [T xs] []) fun w _ => pureW w = true ∧ ∃ ps, w = .tup (ps.map pW) ∧ SInv xs ps := by
  refine fun_ev ?_
  unfold body_spans
  simp only [startE, List.map_cons, List.map_nil, List.length_cons, List.length_nil, List.cons_append, List.nil_append, Nat.zero_add, Nat.reduceAdd, Nat.reduceSub, List.replicate_succ, List.replicate_zero]
  simp (disch := first | omega | (simp only [List.length_append, List.length_cons, List.length_nil, List.length_set, List.length_drop, List.length_take, List.length_map]; omega)) only [mVar_z, Nat.reduceAdd, Nat.zero_add, Int.zero_add, Int.reduceAdd, Int.reduceSub, Int.reduceNeg, ap_Lst, ap_Tup, nil_app, cons_app, List.length_append, lst_last, mVar_s, ok_bnd, ok_stm, exc_bnd, ev_okE, exc_stm, ap_C, ap_Op, ap_Un, ap_B, ap_Chain, ap_asB, ap_And, ap_Or, ap_Not, ap_AndV, ap_OrV, ap_NotV, ap_If, ap_Nil, ap_Cons, ap_CB, ap_Meth, ap_Part, ap_NoPart, ap_Sl, ap_Yes, add_ii, add_ss, sub_ii, neg_i, mul_ii, fdiv_ii, mod_ii, eq_ii, ne_ii, eq_ss, ne_ss, lt_ii, le_ii, gt_ii, ge_ii, lt_ss, gt_ss, le_ss, ge_ss, len_s, len_t, abs_i, int_i, int_b, max_ii, min_ii, ix_s, ixL_0, ixL_1, ixL_2, ixL_3, ixL_n, ixL_i, ixL_st, setL_n, setL_i, List.length_map, List.length_set, ix_r, getL_r, ix_tL, withL_s, setL_0, setL_1, setL_2, set_r, app_r, lst_z, lst_s, iadd_ii, tuple_r, mul_ri, sl_s, sl_rol, sl_t, sl_r, cut_from, cut_to, ap_Seq, nx_seq, rt_seq, ct_seq, bk_seq, exc_seq, ap_Raise, ap_Skip, ap_Brk, ap_Cnt, ap_Drop, ap_Ret, ap_IfS, ap_Set, ap_Ts, ap_AsgT, tgT_t, tgTs_n, tgTs_c, ap_Aug, ap_SetI, ap_AugI, mFor_ap, ap_Rng1, ap_Rng2, rng1_ok, rng2_ok, ap_Iter, src_t, src_s, src_rL, ap_Comp, wipe_n, wipe_c, len_cons, len_nil, zip_cc, zip_nn, foldl_c, foldl_n, set_z, set_s, ite_t, ite_f, ite_T, ite_F, sing_lt, sing_eq, ty_r, ty_s, isS, cut_mid, decide_eq_true_eq, if_pos, if_neg]
  refine sv_cut (R' := fun s => ∃ (ps : List (Int × Int)) (c : Option W) (h : List O), s = SOut.nx [some (T xs), some (.ref 0), c] h ∧ lstAt h 0 = some (ps.map pW) ∧ SInv xs ps) ?_ ?_
  · refine forGo_tup (xs.map .int) 2 (fun i e h => ∃ (ps : List (Int × Int)) (c : Option W), e = [some (T xs), some (.ref 0), c] ∧ lstAt h 0 = some (ps.map pW) ∧ ps.length ≤ i ∧ SInv (xs.take i) ps) (by simp; omega) ⟨[], none, rfl, rfl, by simp, ⟨by simp [cover], by simp, List.Pairwise.nil⟩⟩ ?_ ?_
    · rintro i e h hi ⟨ps, c, rfl, hl, hps, I⟩
      have hi : i < xs.length := by simpa using hi
      have ht : xs.take (i + 1) = xs.take i ++ [xs.getD i 0] := by
        rw [List.take_succ_eq_append_getElem hi, List.getD_eq_getElem?_getD, List.getElem?_eq_getElem hi]; rfl
      have hgx : (xs.map W.int)[i] = W.int (xs.getD i 0) := by
        rw [List.getElem_map, List.getD_eq_getElem?_getD, List.getElem?_eq_getElem hi]; rfl
      have hbel : ∀ z ∈ xs.take i, z < xs.getD i 0 := fun z hz => by
        have := r
        rw [← List.take_append_drop i xs, drop_get hi] at this
        unfold Rsg at this
        rw [List.pairwise_append] at this
        exact this.2.2 z hz _ List.mem_cons_self
      rw [hgx]
      generalize hxv : xs.getD i 0 = x at ht hbel
      have hb2 : ∀ p ∈ ps, p.2 ≤ x := fun p hp => by
        have := hbel _ (I.bound p hp).2
        omega
      have h0 := lst_lt hl
      have e1 := ne_pnil' (h := h) (n := 0) (l := ps) rfl hl
      have l1 : lstAt (h ++ [O.lst []]) 0 = some (ps.map pW) := by rw [lst_old h0]; exact hl
      rcases List.eq_nil_or_concat ps with rfl | ⟨ps', p, rfl⟩
      · simp (disch := first | omega | (simp only [List.length_append, List.length_cons, List.length_nil, List.length_set, List.length_drop, List.length_take, List.length_map]; omega)) only [e1, sv_nx, sv_rt, sv_ct, rnd_nx, rnd_ct, Int.toNat_natCast, ne_eq, eq_self, not_true_eq_false, not_false_eq_true, mVar_z, Nat.reduceAdd, Nat.zero_add, Int.zero_add, Int.reduceAdd, Int.reduceSub, Int.reduceNeg, ap_Lst, ap_Tup, nil_app, cons_app, List.length_append, lst_last, mVar_s, ok_bnd, ok_stm, exc_bnd, ev_okE, exc_stm, ap_C, ap_Op, ap_Un, ap_B, ap_Chain, ap_asB, ap_And, ap_Or, ap_Not, ap_AndV, ap_OrV, ap_NotV, ap_If, ap_Nil, ap_Cons, ap_CB, ap_Meth, ap_Part, ap_NoPart, ap_Sl, ap_Yes, add_ii, add_ss, sub_ii, neg_i, mul_ii, fdiv_ii, mod_ii, eq_ii, ne_ii, eq_ss, ne_ss, lt_ii, le_ii, gt_ii, ge_ii, lt_ss, gt_ss, le_ss, ge_ss, len_s, len_t, abs_i, int_i, int_b, max_ii, min_ii, ix_s, ixL_0, ixL_1, ixL_2, ixL_3, ixL_n, ixL_i, ixL_st, setL_n, setL_i, List.length_map, List.length_set, ix_r, getL_r, ix_tL, withL_s, setL_0, setL_1, setL_2, set_r, app_r, lst_z, lst_s, iadd_ii, tuple_r, mul_ri, sl_s, sl_rol, sl_t, sl_r, cut_from, cut_to, ap_Seq, nx_seq, rt_seq, ct_seq, bk_seq, exc_seq, ap_Raise, ap_Skip, ap_Brk, ap_Cnt, ap_Drop, ap_Ret, ap_IfS, ap_Set, ap_Ts, ap_AsgT, tgT_t, tgTs_n, tgTs_c, ap_Aug, ap_SetI, ap_AugI, mFor_ap, ap_Rng1, ap_Rng2, rng1_ok, rng2_ok, ap_Iter, src_t, src_s, src_rL, ap_Comp, wipe_n, wipe_c, len_cons, len_nil, zip_cc, zip_nn, foldl_c, foldl_n, set_z, set_s, ite_t, ite_f, ite_T, ite_F, sing_lt, sing_eq, ty_r, ty_s, isS, cut_mid, decide_eq_true_eq, if_pos, if_neg]
        have l2 : lstAt (h ++ [O.lst []]) 0 = some [] := l1
        rw [l2]
        simp (disch := first | omega | (simp only [List.length_append, List.length_cons, List.length_nil, List.length_set, List.length_drop, List.length_take, List.length_map]; omega)) only [sv_nx, sv_rt, sv_ct, rnd_nx, rnd_ct, Int.toNat_natCast, ne_eq, eq_self, not_true_eq_false, not_false_eq_true, mVar_z, Nat.reduceAdd, Nat.zero_add, Int.zero_add, Int.reduceAdd, Int.reduceSub, Int.reduceNeg, ap_Lst, ap_Tup, nil_app, cons_app, List.length_append, lst_last, mVar_s, ok_bnd, ok_stm, exc_bnd, ev_okE, exc_stm, ap_C, ap_Op, ap_Un, ap_B, ap_Chain, ap_asB, ap_And, ap_Or, ap_Not, ap_AndV, ap_OrV, ap_NotV, ap_If, ap_Nil, ap_Cons, ap_CB, ap_Meth, ap_Part, ap_NoPart, ap_Sl, ap_Yes, add_ii, add_ss, sub_ii, neg_i, mul_ii, fdiv_ii, mod_ii, eq_ii, ne_ii, eq_ss, ne_ss, lt_ii, le_ii, gt_ii, ge_ii, lt_ss, gt_ss, le_ss, ge_ss, len_s, len_t, abs_i, int_i, int_b, max_ii, min_ii, ix_s, ixL_0, ixL_1, ixL_2, ixL_3, ixL_n, ixL_i, ixL_st, setL_n, setL_i, List.length_map, List.length_set, ix_r, getL_r, ix_tL, withL_s, setL_0, setL_1, setL_2, set_r, app_r, lst_z, lst_s, iadd_ii, tuple_r, mul_ri, sl_s, sl_rol, sl_t, sl_r, cut_from, cut_to, ap_Seq, nx_seq, rt_seq, ct_seq, bk_seq, exc_seq, ap_Raise, ap_Skip, ap_Brk, ap_Cnt, ap_Drop, ap_Ret, ap_IfS, ap_Set, ap_Ts, ap_AsgT, tgT_t, tgTs_n, tgTs_c, ap_Aug, ap_SetI, ap_AugI, mFor_ap, ap_Rng1, ap_Rng2, rng1_ok, rng2_ok, ap_Iter, src_t, src_s, src_rL, ap_Comp, wipe_n, wipe_c, len_cons, len_nil, zip_cc, zip_nn, foldl_c, foldl_n, set_z, set_s, ite_t, ite_f, ite_T, ite_F, sing_lt, sing_eq, ty_r, ty_s, isS, cut_mid, decide_eq_true_eq, if_pos, if_neg]
        refine ⟨[(x, x + 1)], some (.int x), rfl, ?_, by simp, ?_⟩
        · rw [lst_set (by simp)]; rfl
        · rw [ht]; exact I.new (x := x) (by simp)
      · rw [List.concat_eq_append] at *
        have l2 : lstAt (h ++ [O.lst []]) 0 = some (ps'.map pW ++ [pW p]) := by rw [l1, List.map_append]; rfl
        have hne : (ps' ++ [p] ≠ []) := by simp
        have hps' : ps'.length + 1 ≤ i := by simpa using hps
        by_cases hj : p.2 = x
        · simp (disch := first | omega | (simp only [List.length_append, List.length_cons, List.length_nil, List.length_set, List.length_drop, List.length_take, List.length_map]; omega)) only [e1, hne, l2, ixL_last, ix_p1, ix_p0, setL_last, sv_nx, sv_rt, sv_ct, rnd_nx, rnd_ct, Int.toNat_natCast, ne_eq, eq_self, not_true_eq_false, not_false_eq_true, mVar_z, Nat.reduceAdd, Nat.zero_add, Int.zero_add, Int.reduceAdd, Int.reduceSub, Int.reduceNeg, ap_Lst, ap_Tup, nil_app, cons_app, List.length_append, lst_last, mVar_s, ok_bnd, ok_stm, exc_bnd, ev_okE, exc_stm, ap_C, ap_Op, ap_Un, ap_B, ap_Chain, ap_asB, ap_And, ap_Or, ap_Not, ap_AndV, ap_OrV, ap_NotV, ap_If, ap_Nil, ap_Cons, ap_CB, ap_Meth, ap_Part, ap_NoPart, ap_Sl, ap_Yes, add_ii, add_ss, sub_ii, neg_i, mul_ii, fdiv_ii, mod_ii, eq_ii, ne_ii, eq_ss, ne_ss, lt_ii, le_ii, gt_ii, ge_ii, lt_ss, gt_ss, le_ss, ge_ss, len_s, len_t, abs_i, int_i, int_b, max_ii, min_ii, ix_s, ixL_0, ixL_1, ixL_2, ixL_3, ixL_n, ixL_i, ixL_st, setL_n, setL_i, List.length_map, List.length_set, ix_r, getL_r, ix_tL, withL_s, setL_0, setL_1, setL_2, set_r, app_r, lst_z, lst_s, iadd_ii, tuple_r, mul_ri, sl_s, sl_rol, sl_t, sl_r, cut_from, cut_to, ap_Seq, nx_seq, rt_seq, ct_seq, bk_seq, exc_seq, ap_Raise, ap_Skip, ap_Brk, ap_Cnt, ap_Drop, ap_Ret, ap_IfS, ap_Set, ap_Ts, ap_AsgT, tgT_t, tgTs_n, tgTs_c, ap_Aug, ap_SetI, ap_AugI, mFor_ap, ap_Rng1, ap_Rng2, rng1_ok, rng2_ok, ap_Iter, src_t, src_s, src_rL, ap_Comp, wipe_n, wipe_c, len_cons, len_nil, zip_cc, zip_nn, foldl_c, foldl_n, set_z, set_s, ite_t, ite_f, ite_T, ite_F, sing_lt, sing_eq, ty_r, ty_s, isS, cut_mid, decide_eq_true_eq, if_pos, if_neg]
          refine ⟨ps' ++ [(p.1, x + 1)], some (.int x), rfl, ?_, by simp; omega, ?_⟩
          · rw [lst_set (by simp), List.map_append]; rfl
          · rw [ht]; exact I.join hj
        · simp (disch := first | omega | (simp only [List.length_append, List.length_cons, List.length_nil, List.length_set, List.length_drop, List.length_take, List.length_map]; omega)) only [e1, hne, l2, ixL_last, ix_p1, ix_p0, sv_nx, sv_rt, sv_ct, rnd_nx, rnd_ct, Int.toNat_natCast, ne_eq, eq_self, not_true_eq_false, not_false_eq_true, mVar_z, Nat.reduceAdd, Nat.zero_add, Int.zero_add, Int.reduceAdd, Int.reduceSub, Int.reduceNeg, ap_Lst, ap_Tup, nil_app, cons_app, List.length_append, lst_last, mVar_s, ok_bnd, ok_stm, exc_bnd, ev_okE, exc_stm, ap_C, ap_Op, ap_Un, ap_B, ap_Chain, ap_asB, ap_And, ap_Or, ap_Not, ap_AndV, ap_OrV, ap_NotV, ap_If, ap_Nil, ap_Cons, ap_CB, ap_Meth, ap_Part, ap_NoPart, ap_Sl, ap_Yes, add_ii, add_ss, sub_ii, neg_i, mul_ii, fdiv_ii, mod_ii, eq_ii, ne_ii, eq_ss, ne_ss, lt_ii, le_ii, gt_ii, ge_ii, lt_ss, gt_ss, le_ss, ge_ss, len_s, len_t, abs_i, int_i, int_b, max_ii, min_ii, ix_s, ixL_0, ixL_1, ixL_2, ixL_3, ixL_n, ixL_i, ixL_st, setL_n, setL_i, List.length_map, List.length_set, ix_r, getL_r, ix_tL, withL_s, setL_0, setL_1, setL_2, set_r, app_r, lst_z, lst_s, iadd_ii, tuple_r, mul_ri, sl_s, sl_rol, sl_t, sl_r, cut_from, cut_to, ap_Seq, nx_seq, rt_seq, ct_seq, bk_seq, exc_seq, ap_Raise, ap_Skip, ap_Brk, ap_Cnt, ap_Drop, ap_Ret, ap_IfS, ap_Set, ap_Ts, ap_AsgT, tgT_t, tgTs_n, tgTs_c, ap_Aug, ap_SetI, ap_AugI, mFor_ap, ap_Rng1, ap_Rng2, rng1_ok, rng2_ok, ap_Iter, src_t, src_s, src_rL, ap_Comp, wipe_n, wipe_c, len_cons, len_nil, zip_cc, zip_nn, foldl_c, foldl_n, set_z, set_s, ite_t, ite_f, ite_T, ite_F, sing_lt, sing_eq, ty_r, ty_s, isS, cut_mid, decide_eq_true_eq, if_pos, if_neg]
          refine ⟨ps' ++ [p] ++ [(x, x + 1)], some (.int x), rfl, ?_, by simp; omega, ?_⟩
          · rw [lst_set (by simp), List.map_append, List.map_append]; rfl
          · rw [ht]
            refine I.new fun q hq => ?_
            rcases List.mem_append.1 hq with e' | e'
            · have h1 := I.up
              rw [List.pairwise_append] at h1
              have h2 := h1.2.2 q e' p (by simp)
              have h3 := I.lt p (by simp)
              have h4 := hb2 p (by simp)
              omega
            · rw [List.mem_singleton.1 e']
              have h4 := hb2 p (by simp)
              omega
    · rintro e h ⟨ps, c, rfl, hl, hps, I⟩
      refine ⟨ps, c, h, rfl, hl, ?_⟩
      rw [List.length_map, List.take_length] at I
      exact I
  · rintro s ⟨ps, c, h, rfl, hl, I⟩
    simp (disch := first | omega | (simp only [List.length_append, List.length_cons, List.length_nil, List.length_set, List.length_drop, List.length_take, List.length_map]; omega)) only [hl, sv_nx, sv_rt, sv_ct, rnd_nx, rnd_ct, Int.toNat_natCast, ne_eq, eq_self, not_true_eq_false, not_false_eq_true, mVar_z, Nat.reduceAdd, Nat.zero_add, Int.zero_add, Int.reduceAdd, Int.reduceSub, Int.reduceNeg, ap_Lst, ap_Tup, nil_app, cons_app, List.length_append, lst_last, mVar_s, ok_bnd, ok_stm, exc_bnd, ev_okE, exc_stm, ap_C, ap_Op, ap_Un, ap_B, ap_Chain, ap_asB, ap_And, ap_Or, ap_Not, ap_AndV, ap_OrV, ap_NotV, ap_If, ap_Nil, ap_Cons, ap_CB, ap_Meth, ap_Part, ap_NoPart, ap_Sl, ap_Yes, add_ii, add_ss, sub_ii, neg_i, mul_ii, fdiv_ii, mod_ii, eq_ii, ne_ii, eq_ss, ne_ss, lt_ii, le_ii, gt_ii, ge_ii, lt_ss, gt_ss, le_ss, ge_ss, len_s, len_t, abs_i, int_i, int_b, max_ii, min_ii, ix_s, ixL_0, ixL_1, ixL_2, ixL_3, ixL_n, ixL_i, ixL_st, setL_n, setL_i, List.length_map, List.length_set, ix_r, getL_r, ix_tL, withL_s, setL_0, setL_1, setL_2, set_r, app_r, lst_z, lst_s, iadd_ii, tuple_r, mul_ri, sl_s, sl_rol, sl_t, sl_r, cut_from, cut_to, ap_Seq, nx_seq, rt_seq, ct_seq, bk_seq, exc_seq, ap_Raise, ap_Skip, ap_Brk, ap_Cnt, ap_Drop, ap_Ret, ap_IfS, ap_Set, ap_Ts, ap_AsgT, tgT_t, tgTs_n, tgTs_c, ap_Aug, ap_SetI, ap_AugI, mFor_ap, ap_Rng1, ap_Rng2, rng1_ok, rng2_ok, ap_Iter, src_t, src_s, src_rL, ap_Comp, wipe_n, wipe_c, len_cons, len_nil, zip_cc, zip_nn, foldl_c, foldl_n, set_z, set_s, ite_t, ite_f, ite_T, ite_F, sing_lt, sing_eq, ty_r, ty_s, isS, cut_mid, decide_eq_true_eq, if_pos, if_neg]
    refine ⟨?_, ps, rfl, I⟩
    unfold pureW
    clear hl I
    induction ps with
    | nil => rfl
    | cons p ps ih => rw [List.map_cons]; unfold pureWs; rw [ih]; rfl
end Law_indexhall_k04_rising_rows
set_option maxRecDepth 100000
namespace Law_indexhall_k04_rising_rows
open PySem L2 Den
theorem spans_all (xs : List Int) (r : Rsg xs) (hx : xs.length ≤ 1000) : ∃ ps, SInv xs ps ∧ ∀ h, pureRun den_spans 1 [T xs] h = .ok (.tup (ps.map pW)) h := by
  obtain ⟨w, ⟨ps, rfl, I⟩, hw⟩ := pure_all (P := fun w => ∃ ps, w = .tup (ps.map pW) ∧ SInv xs ps) rfl (by unfold pureWs pureW; rw [pure_ints]; rfl) (spans_ev xs r hx)
  exact ⟨ps, I, hw⟩
theorem cover_append (a b : List (Int × Int)) : cover (a ++ b) = cover a ++ cover b := by unfold cover; rw [List.flatMap_append]
theorem cover_one (p : Int × Int) : cover [p] = (List.range (p.2 - p.1).toNat).map fun k : Nat => p.1 + (k : Int) := by simp [cover]
theorem lspans_ev (xs : List Int) (r : Rsg xs) (hx : xs.length ≤ 1000) (hb : ∀ z ∈ xs, 0 ≤ z ∧ z < 30) : Ev (den_law_spans [T xs] []) fun w _ => pureW w = true ∧ w = .bl true := by
  obtain ⟨ps, I, hs⟩ := spans_all xs r hx
  have hpl : ps.length ≤ xs.length := by
    rw [← I.cov]
    have hlt := I.lt
    clear hs I
    induction ps with
    | nil => simp
    | cons p ps ih =>
      have h1 := hlt p List.mem_cons_self
      have h2 := ih fun q hq => hlt q (List.mem_cons_of_mem _ hq)
      have e : cover (p :: ps) = cover [p] ++ cover ps := cover_append [p] ps
      rw [e, List.length_append, cover_one, List.length_map, List.length_range, List.length_cons]
      omega
  refine fun_ev ?_
  unfold body_law_spans
  simp only [startE, List.map_cons, List.map_nil, List.length_cons, List.length_nil, List.cons_append, List.nil_append, Nat.zero_add, Nat.reduceAdd, Nat.reduceSub, List.replicate_succ, List.replicate_zero]
  simp (disch := first | omega | (simp only [List.length_append, List.length_cons, List.length_nil, List.length_set, List.length_drop, List.length_take, List.length_map]; omega)) only [hs, mVar_z, Nat.reduceAdd, Nat.zero_add, Int.zero_add, Int.reduceAdd, Int.reduceSub, Int.reduceNeg, ap_Lst, ap_Tup, nil_app, cons_app, List.length_append, lst_last, mVar_s, ok_bnd, ok_stm, exc_bnd, ev_okE, exc_stm, ap_C, ap_Op, ap_Un, ap_B, ap_Chain, ap_asB, ap_And, ap_Or, ap_Not, ap_AndV, ap_OrV, ap_NotV, ap_If, ap_Nil, ap_Cons, ap_CB, ap_Meth, ap_Part, ap_NoPart, ap_Sl, ap_Yes, add_ii, add_ss, sub_ii, neg_i, mul_ii, fdiv_ii, mod_ii, eq_ii, ne_ii, eq_ss, ne_ss, lt_ii, le_ii, gt_ii, ge_ii, lt_ss, gt_ss, le_ss, ge_ss, len_s, len_t, abs_i, int_i, int_b, max_ii, min_ii, ix_s, ixL_0, ixL_1, ixL_2, ixL_3, ixL_n, ixL_i, ixL_st, setL_n, setL_i, List.length_map, List.length_set, ix_r, getL_r, ix_tL, withL_s, setL_0, setL_1, setL_2, set_r, app_r, lst_z, lst_s, iadd_ii, tuple_r, mul_ri, sl_s, sl_rol, sl_t, sl_r, cut_from, cut_to, ap_Seq, nx_seq, rt_seq, ct_seq, bk_seq, exc_seq, ap_Raise, ap_Skip, ap_Brk, ap_Cnt, ap_Drop, ap_Ret, ap_IfS, ap_Set, ap_Ts, ap_AsgT, tgT_t, tgTs_n, tgTs_c, ap_Aug, ap_SetI, ap_AugI, mFor_ap, ap_Rng1, ap_Rng2, rng1_ok, rng2_ok, ap_Iter, src_t, src_s, src_rL, ap_Comp, wipe_n, wipe_c, len_cons, len_nil, zip_cc, zip_nn, foldl_c, foldl_n, set_z, set_s, ite_t, ite_f, ite_T, ite_F, sing_lt, sing_eq, ty_r, ty_s, isS, cut_mid, decide_eq_true_eq, if_pos, if_neg]
  refine sv_cut (R' := fun o => ∃ (n : Nat) (a b : Option W) (h : List O), o = SOut.nx [some (T xs), some (.ref n), some (.tup (ps.map pW)), a, b, none] h ∧ lstAt h n = some ((cover ps).map .int)) ?_ ?_
  · refine forGo_tupT (ps.map pW) [3, 4] (fun i e h => ∃ (n : Nat) (a b : Option W), e = [some (T xs), some (.ref n), some (.tup (ps.map pW)), a, b, none] ∧ lstAt h n = some ((cover (ps.take i)).map .int)) (by simp; omega) ⟨0, none, none, rfl, rfl⟩ ?_ ?_
    · rintro i e h hi ⟨n, a, b, rfl, hl⟩
      have hi : i < ps.length := by simpa using hi
      have hp := List.getElem_mem hi
      have ht : cover (ps.take (i + 1)) = cover (ps.take i) ++ cover [ps[i]] := by rw [List.take_succ_eq_append_getElem hi, cover_append]
      have hlen : (cover (ps.take i)).length + (cover [ps[i]]).length ≤ 1000 := by
        rw [← List.length_append, ← ht]
        have : cover ps = cover (ps.take (i + 1)) ++ cover (ps.drop (i + 1)) := by rw [← cover_append, List.take_append_drop]
        have h2 := congrArg List.length (this.symm.trans I.cov)
        rw [List.length_append] at h2
        omega
      obtain ⟨b1, b2⟩ := I.bound _ hp
      have c1 := hb _ b1
      have c2 := hb _ b2
      have c3 := I.lt _ hp
      refine ⟨_, by rw [List.getElem_map]; exact tgT_p, ?_⟩
      generalize ps[i] = p at *
      have ok : rgOkB p.1 p.2 = true := rgOkB_of (by omega) (by omega) (by omega)
      have e1 : rgW p.1 p.2 = (cover [p]).map .int := by rw [rgW_eq, cover_one]
      have l1 : lstAt (h ++ [O.lst ((cover [p]).map .int)]) n = some ((cover (ps.take i)).map .int) := by rw [lst_old (lst_lt hl)]; exact hl
      simp (disch := first | omega | (simp only [List.length_append, List.length_cons, List.length_nil, List.length_set, List.length_drop, List.length_take, List.length_map]; omega)) only [ap_ListR2, ok, e1, add_rr, l1, sv_nx, sv_rt, sv_ct, rnd_nx, rnd_ct, Int.toNat_natCast, ne_eq, eq_self, not_true_eq_false, not_false_eq_true, mVar_z, Nat.reduceAdd, Nat.zero_add, Int.zero_add, Int.reduceAdd, Int.reduceSub, Int.reduceNeg, ap_Lst, ap_Tup, nil_app, cons_app, List.length_append, lst_last, mVar_s, ok_bnd, ok_stm, exc_bnd, ev_okE, exc_stm, ap_C, ap_Op, ap_Un, ap_B, ap_Chain, ap_asB, ap_And, ap_Or, ap_Not, ap_AndV, ap_OrV, ap_NotV, ap_If, ap_Nil, ap_Cons, ap_CB, ap_Meth, ap_Part, ap_NoPart, ap_Sl, ap_Yes, add_ii, add_ss, sub_ii, neg_i, mul_ii, fdiv_ii, mod_ii, eq_ii, ne_ii, eq_ss, ne_ss, lt_ii, le_ii, gt_ii, ge_ii, lt_ss, gt_ss, le_ss, ge_ss, len_s, len_t, abs_i, int_i, int_b, max_ii, min_ii, ix_s, ixL_0, ixL_1, ixL_2, ixL_3, ixL_n, ixL_i, ixL_st, setL_n, setL_i, List.length_map, List.length_set, ix_r, getL_r, ix_tL, withL_s, setL_0, setL_1, setL_2, set_r, app_r, lst_z, lst_s, iadd_ii, tuple_r, mul_ri, sl_s, sl_rol, sl_t, sl_r, cut_from, cut_to, ap_Seq, nx_seq, rt_seq, ct_seq, bk_seq, exc_seq, ap_Raise, ap_Skip, ap_Brk, ap_Cnt, ap_Drop, ap_Ret, ap_IfS, ap_Set, ap_Ts, ap_AsgT, tgT_t, tgTs_n, tgTs_c, ap_Aug, ap_SetI, ap_AugI, mFor_ap, ap_Rng1, ap_Rng2, rng1_ok, rng2_ok, ap_Iter, src_t, src_s, src_rL, ap_Comp, wipe_n, wipe_c, len_cons, len_nil, zip_cc, zip_nn, foldl_c, foldl_n, set_z, set_s, ite_t, ite_f, ite_T, ite_F, sing_lt, sing_eq, ty_r, ty_s, isS, cut_mid, decide_eq_true_eq, if_pos, if_neg]
      refine ⟨_, some (.int p.1), some (.int p.2), rfl, ?_⟩
      rw [ht, List.map_append]
      have e2 : (h ++ [O.lst (List.map W.int (cover [p]))]).length = h.length + 1 := by simp
      rw [← e2]
      exact lst_last
    · rintro e h ⟨n, a, b, rfl, hl⟩
      refine ⟨n, a, b, h, rfl, ?_⟩
      rw [List.length_map, List.take_length] at hl
      exact hl
  · rintro o ⟨n, a, b, h, rfl, hl⟩
    rw [I.cov] at hl
    have n1 : oNe (.ref n) (.ref h.length) (h ++ [O.lst (xs.map .int)]) = .ok (.bl false) (h ++ [O.lst (xs.map .int)]) := by
      rw [ne_ints (l := xs) (l' := xs) (by rw [lst_old (lst_lt hl)]; exact hl) lst_last]
      simp
    have hN : ((ps.length : Int) - 1).toNat = ps.length - 1 := by omega
    simp (disch := first | omega | (simp only [List.length_append, List.length_cons, List.length_nil, List.length_set, List.length_drop, List.length_take, List.length_map]; omega)) only [list_t, n1, hN, sv_nx, sv_rt, sv_ct, rnd_nx, rnd_ct, Int.toNat_natCast, ne_eq, eq_self, not_true_eq_false, not_false_eq_true, mVar_z, Nat.reduceAdd, Nat.zero_add, Int.zero_add, Int.reduceAdd, Int.reduceSub, Int.reduceNeg, ap_Lst, ap_Tup, nil_app, cons_app, List.length_append, lst_last, mVar_s, ok_bnd, ok_stm, exc_bnd, ev_okE, exc_stm, ap_C, ap_Op, ap_Un, ap_B, ap_Chain, ap_asB, ap_And, ap_Or, ap_Not, ap_AndV, ap_OrV, ap_NotV, ap_If, ap_Nil, ap_Cons, ap_CB, ap_Meth, ap_Part, ap_NoPart, ap_Sl, ap_Yes, add_ii, add_ss, sub_ii, neg_i, mul_ii, fdiv_ii, mod_ii, eq_ii, ne_ii, eq_ss, ne_ss, lt_ii, le_ii, gt_ii, ge_ii, lt_ss, gt_ss, le_ss, ge_ss, len_s, len_t, abs_i, int_i, int_b, max_ii, min_ii, ix_s, ixL_0, ixL_1, ixL_2, ixL_3, ixL_n, ixL_i, ixL_st, setL_n, setL_i, List.length_map, List.length_set, ix_r, getL_r, ix_tL, withL_s, setL_0, setL_1, setL_2, set_r, app_r, lst_z, lst_s, iadd_ii, tuple_r, mul_ri, sl_s, sl_rol, sl_t, sl_r, cut_from, cut_to, ap_Seq, nx_seq, rt_seq, ct_seq, bk_seq, exc_seq, ap_Raise, ap_Skip, ap_Brk, ap_Cnt, ap_Drop, ap_Ret, ap_IfS, ap_Set, ap_Ts, ap_AsgT, tgT_t, tgTs_n, tgTs_c, ap_Aug, ap_SetI, ap_AugI, mFor_ap, ap_Rng1, ap_Rng2, rng1_ok, rng2_ok, ap_Iter, src_t, src_s, src_rL, ap_Comp, wipe_n, wipe_c, len_cons, len_nil, zip_cc, zip_nn, foldl_c, foldl_n, set_z, set_s, ite_t, ite_f, ite_T, ite_F, sing_lt, sing_eq, ty_r, ty_s, isS, cut_mid, decide_eq_true_eq, if_pos, if_neg]
    repeat (first | with_reducible apply sv_seq | with_reducible apply sv_stm | with_reducible apply ev_bnd)
    have e9 : h.length + 1 = (h ++ [O.lst (xs.map .int)]).length := by simp
    rw [e9]
    refine comp_rng (ps.length - 1) 1 5 (by omega) (by omega) (fun _ => false) (fun i => .int (1 + i)) (fun i hi h3 G3 => ?_) (fun i hi hc h3 G3 => absurd hc (by simp)) (fun h3 G3 => ?_)
    · have e1 : (1 + (i : Int)).toNat = i + 1 := by omega
      have e2 : (1 + (i : Int) - 1).toNat = i := by omega
      have hup : ¬ ((ps.getD (i + 1) (0, 0)).1 ≤ (ps.getD i (0, 0)).2) := by
        have := List.pairwise_iff_getElem.1 I.up i (i + 1) (by omega) (by omega) (by omega)
        rw [List.getD_eq_getElem?_getD, List.getElem?_eq_getElem (by omega), List.getD_eq_getElem?_getD, List.getElem?_eq_getElem (by omega)]
        show ¬ (ps[i + 1].1 ≤ ps[i].2)
        omega
      simp (disch := first | omega | (simp only [List.length_append, List.length_cons, List.length_nil, List.length_set, List.length_drop, List.length_take, List.length_map]; omega)) only [ixL_p, ix_p0, ix_p1, e1, e2, sv_nx, sv_rt, sv_ct, rnd_nx, rnd_ct, Int.toNat_natCast, ne_eq, eq_self, not_true_eq_false, not_false_eq_true, mVar_z, Nat.reduceAdd, Nat.zero_add, Int.zero_add, Int.reduceAdd, Int.reduceSub, Int.reduceNeg, ap_Lst, ap_Tup, nil_app, cons_app, List.length_append, lst_last, mVar_s, ok_bnd, ok_stm, exc_bnd, ev_okE, exc_stm, ap_C, ap_Op, ap_Un, ap_B, ap_Chain, ap_asB, ap_And, ap_Or, ap_Not, ap_AndV, ap_OrV, ap_NotV, ap_If, ap_Nil, ap_Cons, ap_CB, ap_Meth, ap_Part, ap_NoPart, ap_Sl, ap_Yes, add_ii, add_ss, sub_ii, neg_i, mul_ii, fdiv_ii, mod_ii, eq_ii, ne_ii, eq_ss, ne_ss, lt_ii, le_ii, gt_ii, ge_ii, lt_ss, gt_ss, le_ss, ge_ss, len_s, len_t, abs_i, int_i, int_b, max_ii, min_ii, ix_s, ixL_0, ixL_1, ixL_2, ixL_3, ixL_n, ixL_i, ixL_st, setL_n, setL_i, List.length_map, List.length_set, ix_r, getL_r, ix_tL, withL_s, setL_0, setL_1, setL_2, set_r, app_r, lst_z, lst_s, iadd_ii, tuple_r, mul_ri, sl_s, sl_rol, sl_t, sl_r, cut_from, cut_to, ap_Seq, nx_seq, rt_seq, ct_seq, bk_seq, exc_seq, ap_Raise, ap_Skip, ap_Brk, ap_Cnt, ap_Drop, ap_Ret, ap_IfS, ap_Set, ap_Ts, ap_AsgT, tgT_t, tgTs_n, tgTs_c, ap_Aug, ap_SetI, ap_AugI, mFor_ap, ap_Rng1, ap_Rng2, rng1_ok, rng2_ok, ap_Iter, src_t, src_s, src_rL, ap_Comp, wipe_n, wipe_c, len_cons, len_nil, zip_cc, zip_nn, foldl_c, foldl_n, set_z, set_s, ite_t, ite_f, ite_T, ite_F, sing_lt, sing_eq, ty_r, ty_s, isS, cut_mid, decide_eq_true_eq, if_pos, if_neg]
      exact ⟨by simpa using hup, Gr.refl⟩
    · have n2 := ne_picks0 (h := h3) G3.lastL (fun i hi => rfl)
      rw [← e9] at n2 ⊢
      simp (disch := first | omega | (simp only [List.length_append, List.length_cons, List.length_nil, List.length_set, List.length_drop, List.length_take, List.length_map]; omega)) only [n2, sv_nx, sv_rt, sv_ct, rnd_nx, rnd_ct, Int.toNat_natCast, ne_eq, eq_self, not_true_eq_false, not_false_eq_true, mVar_z, Nat.reduceAdd, Nat.zero_add, Int.zero_add, Int.reduceAdd, Int.reduceSub, Int.reduceNeg, ap_Lst, ap_Tup, nil_app, cons_app, List.length_append, lst_last, mVar_s, ok_bnd, ok_stm, exc_bnd, ev_okE, exc_stm, ap_C, ap_Op, ap_Un, ap_B, ap_Chain, ap_asB, ap_And, ap_Or, ap_Not, ap_AndV, ap_OrV, ap_NotV, ap_If, ap_Nil, ap_Cons, ap_CB, ap_Meth, ap_Part, ap_NoPart, ap_Sl, ap_Yes, add_ii, add_ss, sub_ii, neg_i, mul_ii, fdiv_ii, mod_ii, eq_ii, ne_ii, eq_ss, ne_ss, lt_ii, le_ii, gt_ii, ge_ii, lt_ss, gt_ss, le_ss, ge_ss, len_s, len_t, abs_i, int_i, int_b, max_ii, min_ii, ix_s, ixL_0, ixL_1, ixL_2, ixL_3, ixL_n, ixL_i, ixL_st, setL_n, setL_i, List.length_map, List.length_set, ix_r, getL_r, ix_tL, withL_s, setL_0, setL_1, setL_2, set_r, app_r, lst_z, lst_s, iadd_ii, tuple_r, mul_ri, sl_s, sl_rol, sl_t, sl_r, cut_from, cut_to, ap_Seq, nx_seq, rt_seq, ct_seq, bk_seq, exc_seq, ap_Raise, ap_Skip, ap_Brk, ap_Cnt, ap_Drop, ap_Ret, ap_IfS, ap_Set, ap_Ts, ap_AsgT, tgT_t, tgTs_n, tgTs_c, ap_Aug, ap_SetI, ap_AugI, mFor_ap, ap_Rng1, ap_Rng2, rng1_ok, rng2_ok, ap_Iter, src_t, src_s, src_rL, ap_Comp, wipe_n, wipe_c, len_cons, len_nil, zip_cc, zip_nn, foldl_c, foldl_n, set_z, set_s, ite_t, ite_f, ite_T, ite_F, sing_lt, sing_eq, ty_r, ty_s, isS, cut_mid, decide_eq_true_eq, if_pos, if_neg]
      exact ⟨rfl, trivial⟩
/-! ### in_some -/
structure KInv (L ks : List Int) : Prop where
  nd : ks.Nodup
  mem : ∀ z, z ∈ ks ↔ z ∈ L
  len : ks.length ≤ L.length
theorem KInv.put {L ks : List Int} {z : Int} (I : KInv L ks) : KInv (L ++ [z]) (if z ∈ ks then ks else ks ++ [z]) := by
  by_cases hz : z ∈ ks
  · rw [if_pos hz]
    exact ⟨I.nd, fun y => by rw [I.mem, List.mem_append, List.mem_singleton]; exact ⟨.inl, fun h => h.elim id fun e => by rw [e]; exact (I.mem z).1 hz⟩, by have := I.len; simp; omega⟩
  · rw [if_neg hz]
    refine ⟨?_, fun y => by rw [List.mem_append, List.mem_append, I.mem], by have := I.len; simp; omega⟩
    rw [List.nodup_append]
    exact ⟨I.nd, by simp, fun a ha b hb e => hz (by rw [List.mem_singleton] at hb; rw [← hb, ← e]; exact ha)⟩
theorem some_ev (h : List O) (p : Nat) (rs : List (List Int)) (many : Int) (hp : lstAt h p = some (rs.map T)) (hr : rs.length ≤ 3) (hx : ∀ r ∈ rs, r.length ≤ 1000) : Ev (den_in_some [.ref p, .int many] h) fun w h' => Gr h h' ∧ ∃ zs, w = T zs ∧ Rsg zs ∧ ∀ z, z ∈ zs ↔ z ∈ rs.flatten ∧ many ≤ (rs.flatten.count z : Nat) := by
  have hpl := lst_lt hp
  have hflat : ∀ i, (rs.take i).flatten.length ≤ 3000 := fun i => by
    have h1 : ∀ l : List (List Int), l.length ≤ 3 → (∀ r ∈ l, r.length ≤ 1000) → l.flatten.length ≤ 1000 * l.length := fun l hl hr => by
      clear hl
      induction l with
      | nil => simp
      | cons r l ih =>
        have := ih fun q hq => hr q (List.mem_cons_of_mem _ hq)
        have := hr r List.mem_cons_self
        simp only [List.flatten_cons, List.length_append, List.length_cons]
        omega
    have := h1 (rs.take i) (by simp; omega) fun r hr => hx r (List.mem_of_mem_take hr)
    have h2 : (rs.take i).length ≤ 3 := by simp; omega
    omega
  refine fun_ev ?_
  unfold body_in_some
  simp only [startE, List.map_cons, List.map_nil, List.length_cons, List.length_nil, List.cons_append, List.nil_append, Nat.zero_add, Nat.reduceAdd, Nat.reduceSub, List.replicate_succ, List.replicate_zero]
  simp (disch := first | omega | (simp only [List.length_append, List.length_cons, List.length_nil, List.length_set, List.length_drop, List.length_take, List.length_map]; omega)) only [ap_Dict0, mVar_z, Nat.reduceAdd, Nat.zero_add, Int.zero_add, Int.reduceAdd, Int.reduceSub, Int.reduceNeg, ap_Lst, ap_Tup, nil_app, cons_app, List.length_append, lst_last, mVar_s, ok_bnd, ok_stm, exc_bnd, ev_okE, exc_stm, ap_C, ap_Op, ap_Un, ap_B, ap_Chain, ap_asB, ap_And, ap_Or, ap_Not, ap_AndV, ap_OrV, ap_NotV, ap_If, ap_Nil, ap_Cons, ap_CB, ap_Meth, ap_Part, ap_NoPart, ap_Sl, ap_Yes, add_ii, add_ss, sub_ii, neg_i, mul_ii, fdiv_ii, mod_ii, eq_ii, ne_ii, eq_ss, ne_ss, lt_ii, le_ii, gt_ii, ge_ii, lt_ss, gt_ss, le_ss, ge_ss, len_s, len_t, abs_i, int_i, int_b, max_ii, min_ii, ix_s, ixL_0, ixL_1, ixL_2, ixL_3, ixL_n, ixL_i, ixL_st, setL_n, setL_i, List.length_map, List.length_set, ix_r, getL_r, ix_tL, withL_s, setL_0, setL_1, setL_2, set_r, app_r, lst_z, lst_s, iadd_ii, tuple_r, mul_ri, sl_s, sl_rol, sl_t, sl_r, cut_from, cut_to, ap_Seq, nx_seq, rt_seq, ct_seq, bk_seq, exc_seq, ap_Raise, ap_Skip, ap_Brk, ap_Cnt, ap_Drop, ap_Ret, ap_IfS, ap_Set, ap_Ts, ap_AsgT, tgT_t, tgTs_n, tgTs_c, ap_Aug, ap_SetI, ap_AugI, mFor_ap, ap_Rng1, ap_Rng2, rng1_ok, rng2_ok, ap_Iter, src_t, src_s, src_rL, ap_Comp, wipe_n, wipe_c, len_cons, len_nil, zip_cc, zip_nn, foldl_c, foldl_n, set_z, set_s, ite_t, ite_f, ite_T, ite_F, sing_lt, sing_eq, ty_r, ty_s, isS, cut_mid, decide_eq_true_eq, if_pos, if_neg]
  have hp2 : ∀ kvs, lstAt (h ++ [O.dic kvs]) p = some (rs.map T) := fun kvs => by rw [lst_old hpl]; exact hp
  rw [hp2]
  simp (disch := first | omega | (simp only [List.length_append, List.length_cons, List.length_nil, List.length_set, List.length_drop, List.length_take, List.length_map]; omega)) only [sv_nx, sv_rt, sv_ct, rnd_nx, rnd_ct, Int.toNat_natCast, ne_eq, eq_self, not_true_eq_false, not_false_eq_true, mVar_z, Nat.reduceAdd, Nat.zero_add, Int.zero_add, Int.reduceAdd, Int.reduceSub, Int.reduceNeg, ap_Lst, ap_Tup, nil_app, cons_app, List.length_append, lst_last, mVar_s, ok_bnd, ok_stm, exc_bnd, ev_okE, exc_stm, ap_C, ap_Op, ap_Un, ap_B, ap_Chain, ap_asB, ap_And, ap_Or, ap_Not, ap_AndV, ap_OrV, ap_NotV, ap_If, ap_Nil, ap_Cons, ap_CB, ap_Meth, ap_Part, ap_NoPart, ap_Sl, ap_Yes, add_ii, add_ss, sub_ii, neg_i, mul_ii, fdiv_ii, mod_ii, eq_ii, ne_ii, eq_ss, ne_ss, lt_ii, le_ii, gt_ii, ge_ii, lt_ss, gt_ss, le_ss, ge_ss, len_s, len_t, abs_i, int_i, int_b, max_ii, min_ii, ix_s, ixL_0, ixL_1, ixL_2, ixL_3, ixL_n, ixL_i, ixL_st, setL_n, setL_i, List.length_map, List.length_set, ix_r, getL_r, ix_tL, withL_s, setL_0, setL_1, setL_2, set_r, app_r, lst_z, lst_s, iadd_ii, tuple_r, mul_ri, sl_s, sl_rol, sl_t, sl_r, cut_from, cut_to, ap_Seq, nx_seq, rt_seq, ct_seq, bk_seq, exc_seq, ap_Raise, ap_Skip, ap_Brk, ap_Cnt, ap_Drop, ap_Ret, ap_IfS, ap_Set, ap_Ts, ap_AsgT, tgT_t, tgTs_n, tgTs_c, ap_Aug, ap_SetI, ap_AugI, mFor_ap, ap_Rng1, ap_Rng2, rng1_ok, rng2_ok, ap_Iter, src_t, src_s, src_rL, ap_Comp, wipe_n, wipe_c, len_cons, len_nil, zip_cc, zip_nn, foldl_c, foldl_n, set_z, set_s, ite_t, ite_f, ite_T, ite_F, sing_lt, sing_eq, ty_r, ty_s, isS, cut_mid, decide_eq_true_eq, if_pos, if_neg]
  refine sv_cut (R' := fun o => ∃ (ks : List Int) (a b : Option W), KInv rs.flatten ks ∧ o = SOut.nx [some (.ref p), some (.int many), some (.ref h.length), a, b] (h ++ [.dic (dk rs.flatten ks)])) ?_ ?_
  · refine forGo_ref p (rs.map T) 3 (fun i e hh => ∃ (ks : List Int) (a b : Option W), KInv (rs.take i).flatten ks ∧ e = [some (.ref p), some (.int many), some (.ref h.length), a, b] ∧ hh = h ++ [.dic (dk (rs.take i).flatten ks)]) (by simp; omega) ⟨[], none, none, ⟨by simp, by simp, by simp⟩, rfl, by simp [dk]⟩ ?_ ?_ ?_
    · rintro i e hh ⟨ks, a, b, I, rfl, rfl⟩
      exact hp2 _
    · rintro i e hh hi ⟨ks, a, b, I, rfl, rfl⟩
      have hi : i < rs.length := by simpa using hi
      have ht : (rs.take (i + 1)).flatten = (rs.take i).flatten ++ rs[i] := by rw [List.take_succ_eq_append_getElem hi, List.flatten_append]; simp
      have hri := hx _ (List.getElem_mem hi)
      have hfi := hflat i
      rw [List.getElem_map, set_s, set_s, set_s, set_z]
      generalize rs[i] = row at *
      simp (disch := first | omega | (simp only [List.length_append, List.length_cons, List.length_nil, List.length_set, List.length_drop, List.length_take, List.length_map]; omega)) only [mVar_z, Nat.reduceAdd, Nat.zero_add, Int.zero_add, Int.reduceAdd, Int.reduceSub, Int.reduceNeg, ap_Lst, ap_Tup, nil_app, cons_app, List.length_append, lst_last, mVar_s, ok_bnd, ok_stm, exc_bnd, ev_okE, exc_stm, ap_C, ap_Op, ap_Un, ap_B, ap_Chain, ap_asB, ap_And, ap_Or, ap_Not, ap_AndV, ap_OrV, ap_NotV, ap_If, ap_Nil, ap_Cons, ap_CB, ap_Meth, ap_Part, ap_NoPart, ap_Sl, ap_Yes, add_ii, add_ss, sub_ii, neg_i, mul_ii, fdiv_ii, mod_ii, eq_ii, ne_ii, eq_ss, ne_ss, lt_ii, le_ii, gt_ii, ge_ii, lt_ss, gt_ss, le_ss, ge_ss, len_s, len_t, abs_i, int_i, int_b, max_ii, min_ii, ix_s, ixL_0, ixL_1, ixL_2, ixL_3, ixL_n, ixL_i, ixL_st, setL_n, setL_i, List.length_map, List.length_set, ix_r, getL_r, ix_tL, withL_s, setL_0, setL_1, setL_2, set_r, app_r, lst_z, lst_s, iadd_ii, tuple_r, mul_ri, sl_s, sl_rol, sl_t, sl_r, cut_from, cut_to, ap_Seq, nx_seq, rt_seq, ct_seq, bk_seq, exc_seq, ap_Raise, ap_Skip, ap_Brk, ap_Cnt, ap_Drop, ap_Ret, ap_IfS, ap_Set, ap_Ts, ap_AsgT, tgT_t, tgTs_n, tgTs_c, ap_Aug, ap_SetI, ap_AugI, mFor_ap, ap_Rng1, ap_Rng2, rng1_ok, rng2_ok, ap_Iter, src_t, src_s, src_rL, ap_Comp, wipe_n, wipe_c, len_cons, len_nil, zip_cc, zip_nn, foldl_c, foldl_n, set_z, set_s, ite_t, ite_f, ite_T, ite_F, sing_lt, sing_eq, ty_r, ty_s, isS, cut_mid, decide_eq_true_eq, if_pos, if_neg]
      refine forGo_tup (row.map .int) 4 (fun j e hh => ∃ (ks : List Int) (b : Option W), KInv ((rs.take i).flatten ++ row.take j) ks ∧ e = [some (.ref p), some (.int many), some (.ref h.length), some (T row), b] ∧ hh = h ++ [.dic (dk ((rs.take i).flatten ++ row.take j) ks)]) (by simp; omega) ⟨ks, b, by simpa using I, rfl, by simp⟩ ?_ ?_
      · rintro j e hh hj ⟨ks, b, I, rfl, rfl⟩
        have hj : j < row.length := by simpa using hj
        have hjt : (rs.take i).flatten ++ row.take (j + 1) = ((rs.take i).flatten ++ row.take j) ++ [row[j]] := by rw [List.take_succ_eq_append_getElem hj, List.append_assoc]
        have hL : ((rs.take i).flatten ++ row.take j).length ≤ 4000 := by
          rw [List.length_append, List.length_take]; omega
        rw [List.getElem_map, set_s, set_s, set_s, set_s, set_z]
        generalize row[j] = z at *
        generalize (rs.take i).flatten ++ row.take j = L at *
        have hk := I.len
        have hv : (valW (dk L ks) (.int z)).getD (.int 0) = .int (L.count z : Nat) := by
          rw [val_dk]
          by_cases hz : z ∈ ks
          · rw [if_pos hz]; rfl
          · rw [if_neg hz]
            have : z ∉ L := fun e => hz ((I.mem z).2 e)
            rw [List.count_eq_zero.2 this]; rfl
        have g1 := dget2_eq (md := mVar 2) (mk := mVar 4) (mx := mC (.int 0)) (e := [some (.ref p), some (.int many), some (.ref h.length), some (T row), some (.int z)]) (h := h ++ [O.dic (dk L ks)]) (p := h.length) (z := z) (x := .int 0) rfl dicR_last rfl rfl
        rw [hv] at g1
        have s1 := setD_eq (h := h) (kvs := dk L ks) (z := z) (w := .int ((L.count z : Nat) + 1)) (by unfold dk; rw [List.length_map]; omega)
        have s2 := put_dk (L := L) (ks := ks) (z := z) I.mem
        have e3 : ((L.count z + 1 : Nat) : Int) = (L.count z : Nat) + 1 := by omega
        rw [e3] at s2
        rw [s2] at s1
        simp (disch := first | omega | (simp only [List.length_append, List.length_cons, List.length_nil, List.length_set, List.length_drop, List.length_take, List.length_map]; omega)) only [g1, s1, sv_nx, sv_rt, sv_ct, rnd_nx, rnd_ct, Int.toNat_natCast, ne_eq, eq_self, not_true_eq_false, not_false_eq_true, mVar_z, Nat.reduceAdd, Nat.zero_add, Int.zero_add, Int.reduceAdd, Int.reduceSub, Int.reduceNeg, ap_Lst, ap_Tup, nil_app, cons_app, List.length_append, lst_last, mVar_s, ok_bnd, ok_stm, exc_bnd, ev_okE, exc_stm, ap_C, ap_Op, ap_Un, ap_B, ap_Chain, ap_asB, ap_And, ap_Or, ap_Not, ap_AndV, ap_OrV, ap_NotV, ap_If, ap_Nil, ap_Cons, ap_CB, ap_Meth, ap_Part, ap_NoPart, ap_Sl, ap_Yes, add_ii, add_ss, sub_ii, neg_i, mul_ii, fdiv_ii, mod_ii, eq_ii, ne_ii, eq_ss, ne_ss, lt_ii, le_ii, gt_ii, ge_ii, lt_ss, gt_ss, le_ss, ge_ss, len_s, len_t, abs_i, int_i, int_b, max_ii, min_ii, ix_s, ixL_0, ixL_1, ixL_2, ixL_3, ixL_n, ixL_i, ixL_st, setL_n, setL_i, List.length_map, List.length_set, ix_r, getL_r, ix_tL, withL_s, setL_0, setL_1, setL_2, set_r, app_r, lst_z, lst_s, iadd_ii, tuple_r, mul_ri, sl_s, sl_rol, sl_t, sl_r, cut_from, cut_to, ap_Seq, nx_seq, rt_seq, ct_seq, bk_seq, exc_seq, ap_Raise, ap_Skip, ap_Brk, ap_Cnt, ap_Drop, ap_Ret, ap_IfS, ap_Set, ap_Ts, ap_AsgT, tgT_t, tgTs_n, tgTs_c, ap_Aug, ap_SetI, ap_AugI, mFor_ap, ap_Rng1, ap_Rng2, rng1_ok, rng2_ok, ap_Iter, src_t, src_s, src_rL, ap_Comp, wipe_n, wipe_c, len_cons, len_nil, zip_cc, zip_nn, foldl_c, foldl_n, set_z, set_s, ite_t, ite_f, ite_T, ite_F, sing_lt, sing_eq, ty_r, ty_s, isS, cut_mid, decide_eq_true_eq, if_pos, if_neg]
        exact ⟨_, some (.int z), by rw [hjt]; exact I.put, rfl, by rw [hjt]⟩
      · rintro e hh ⟨ks, b, I, rfl, rfl⟩
        rw [List.length_map, List.take_length, ← ht] at I
        refine ⟨ks, _, b, I, rfl, ?_⟩
        rw [List.length_map, List.take_length, ← ht]
    · rintro e hh ⟨ks, a, b, I, rfl, rfl⟩
      rw [List.length_map, List.take_length] at I
      refine ⟨ks, a, b, I, ?_⟩
      rw [List.length_map, List.take_length]
  · rintro o ⟨ks, a, b, I, rfl⟩
    have hL : rs.flatten.length ≤ 3000 := by have := hflat rs.length; rwa [List.take_length] at this
    have hk := I.len
    generalize hLL : rs.flatten = L at *
    simp (disch := first | omega | (simp only [List.length_append, List.length_cons, List.length_nil, List.length_set, List.length_drop, List.length_take, List.length_map]; omega)) only [mVar_z, Nat.reduceAdd, Nat.zero_add, Int.zero_add, Int.reduceAdd, Int.reduceSub, Int.reduceNeg, ap_Lst, ap_Tup, nil_app, cons_app, List.length_append, lst_last, mVar_s, ok_bnd, ok_stm, exc_bnd, ev_okE, exc_stm, ap_C, ap_Op, ap_Un, ap_B, ap_Chain, ap_asB, ap_And, ap_Or, ap_Not, ap_AndV, ap_OrV, ap_NotV, ap_If, ap_Nil, ap_Cons, ap_CB, ap_Meth, ap_Part, ap_NoPart, ap_Sl, ap_Yes, add_ii, add_ss, sub_ii, neg_i, mul_ii, fdiv_ii, mod_ii, eq_ii, ne_ii, eq_ss, ne_ss, lt_ii, le_ii, gt_ii, ge_ii, lt_ss, gt_ss, le_ss, ge_ss, len_s, len_t, abs_i, int_i, int_b, max_ii, min_ii, ix_s, ixL_0, ixL_1, ixL_2, ixL_3, ixL_n, ixL_i, ixL_st, setL_n, setL_i, List.length_map, List.length_set, ix_r, getL_r, ix_tL, withL_s, setL_0, setL_1, setL_2, set_r, app_r, lst_z, lst_s, iadd_ii, tuple_r, mul_ri, sl_s, sl_rol, sl_t, sl_r, cut_from, cut_to, ap_Seq, nx_seq, rt_seq, ct_seq, bk_seq, exc_seq, ap_Raise, ap_Skip, ap_Brk, ap_Cnt, ap_Drop, ap_Ret, ap_IfS, ap_Set, ap_Ts, ap_AsgT, tgT_t, tgTs_n, tgTs_c, ap_Aug, ap_SetI, ap_AugI, mFor_ap, ap_Rng1, ap_Rng2, rng1_ok, rng2_ok, ap_Iter, src_t, src_s, src_rL, ap_Comp, wipe_n, wipe_c, len_cons, len_nil, zip_cc, zip_nn, foldl_c, foldl_n, set_z, set_s, ite_t, ite_f, ite_T, ite_F, sing_lt, sing_eq, ty_r, ty_s, isS, cut_mid, decide_eq_true_eq, if_pos, if_neg]
    have hlk : Ev (mLock (lkVar 2) (mComp 100000 [4] (mKeys (mVar 2)) (tgN 4) (mB (mOp oGe (mOp oIxD (mVar 2) (mVar 4)) (mVar 1))) (mVar 4)) [some (W.ref p), some (W.int many), some (W.ref h.length), a, b] (h ++ [O.dic (dk L ks)]))
        fun w h' => ∃ q l, w = .ref q ∧ lstAt h' q = some (l.map W.int) ∧ l.length ≤ 1000000 ∧ (Gr h h' ∧ l = ks.filter fun z => decide (many ≤ (L.count z : Nat))) := by
      refine lock_ev (p := h.length) rfl dicA_last ?_
      rw [set_lastO, ap_Comp, keys_eq (p := h.length) (kvs := dk L ks) rfl dikA_last, ok_bnd]
      refine comp_row ks .int (fun z => [some (W.ref p), some (W.int many), some (W.ref h.length), a, some (.int z)]) (by omega) (by omega) (fun z => decide (many ≤ (L.count z : Nat))) .int (fun i h' g => ?_) (fun z hz => rfl) (fun z hz h' g => ?_) (fun z hz hc h' g => ?_) (fun h' g => ?_)
      · unfold srcK
        rw [dikA_gr g dikA_last]
        unfold dk
        rw [Option.map_some, List.getElem?_map, List.getElem?_map, Option.map_map]
        rfl
      · have hv : valW (dk L ks) (.int z) = some (.int (L.count z : Nat)) := by rw [val_dk, if_pos hz]
        have e1 := oixD_eq (h := h') (p := h.length) (kvs := dk L ks) (dikR (dikA_gr g dikA_last)) hv
        simp (disch := first | omega | (simp only [List.length_append, List.length_cons, List.length_nil, List.length_set, List.length_drop, List.length_take, List.length_map]; omega)) only [e1, sv_nx, sv_rt, sv_ct, rnd_nx, rnd_ct, Int.toNat_natCast, ne_eq, eq_self, not_true_eq_false, not_false_eq_true, mVar_z, Nat.reduceAdd, Nat.zero_add, Int.zero_add, Int.reduceAdd, Int.reduceSub, Int.reduceNeg, ap_Lst, ap_Tup, nil_app, cons_app, List.length_append, lst_last, mVar_s, ok_bnd, ok_stm, exc_bnd, ev_okE, exc_stm, ap_C, ap_Op, ap_Un, ap_B, ap_Chain, ap_asB, ap_And, ap_Or, ap_Not, ap_AndV, ap_OrV, ap_NotV, ap_If, ap_Nil, ap_Cons, ap_CB, ap_Meth, ap_Part, ap_NoPart, ap_Sl, ap_Yes, add_ii, add_ss, sub_ii, neg_i, mul_ii, fdiv_ii, mod_ii, eq_ii, ne_ii, eq_ss, ne_ss, lt_ii, le_ii, gt_ii, ge_ii, lt_ss, gt_ss, le_ss, ge_ss, len_s, len_t, abs_i, int_i, int_b, max_ii, min_ii, ix_s, ixL_0, ixL_1, ixL_2, ixL_3, ixL_n, ixL_i, ixL_st, setL_n, setL_i, List.length_map, List.length_set, ix_r, getL_r, ix_tL, withL_s, setL_0, setL_1, setL_2, set_r, app_r, lst_z, lst_s, iadd_ii, tuple_r, mul_ri, sl_s, sl_rol, sl_t, sl_r, cut_from, cut_to, ap_Seq, nx_seq, rt_seq, ct_seq, bk_seq, exc_seq, ap_Raise, ap_Skip, ap_Brk, ap_Cnt, ap_Drop, ap_Ret, ap_IfS, ap_Set, ap_Ts, ap_AsgT, tgT_t, tgTs_n, tgTs_c, ap_Aug, ap_SetI, ap_AugI, mFor_ap, ap_Rng1, ap_Rng2, rng1_ok, rng2_ok, ap_Iter, src_t, src_s, src_rL, ap_Comp, wipe_n, wipe_c, len_cons, len_nil, zip_cc, zip_nn, foldl_c, foldl_n, set_z, set_s, ite_t, ite_f, ite_T, ite_F, sing_lt, sing_eq, ty_r, ty_s, isS, cut_mid, decide_eq_true_eq, if_pos, if_neg]
        exact ⟨trivial, Gr.refl⟩
      · simp (disch := first | omega | (simp only [List.length_append, List.length_cons, List.length_nil, List.length_set, List.length_drop, List.length_take, List.length_map]; omega)) only [sv_nx, sv_rt, sv_ct, rnd_nx, rnd_ct, Int.toNat_natCast, ne_eq, eq_self, not_true_eq_false, not_false_eq_true, mVar_z, Nat.reduceAdd, Nat.zero_add, Int.zero_add, Int.reduceAdd, Int.reduceSub, Int.reduceNeg, ap_Lst, ap_Tup, nil_app, cons_app, List.length_append, lst_last, mVar_s, ok_bnd, ok_stm, exc_bnd, ev_okE, exc_stm, ap_C, ap_Op, ap_Un, ap_B, ap_Chain, ap_asB, ap_And, ap_Or, ap_Not, ap_AndV, ap_OrV, ap_NotV, ap_If, ap_Nil, ap_Cons, ap_CB, ap_Meth, ap_Part, ap_NoPart, ap_Sl, ap_Yes, add_ii, add_ss, sub_ii, neg_i, mul_ii, fdiv_ii, mod_ii, eq_ii, ne_ii, eq_ss, ne_ss, lt_ii, le_ii, gt_ii, ge_ii, lt_ss, gt_ss, le_ss, ge_ss, len_s, len_t, abs_i, int_i, int_b, max_ii, min_ii, ix_s, ixL_0, ixL_1, ixL_2, ixL_3, ixL_n, ixL_i, ixL_st, setL_n, setL_i, List.length_map, List.length_set, ix_r, getL_r, ix_tL, withL_s, setL_0, setL_1, setL_2, set_r, app_r, lst_z, lst_s, iadd_ii, tuple_r, mul_ri, sl_s, sl_rol, sl_t, sl_r, cut_from, cut_to, ap_Seq, nx_seq, rt_seq, ct_seq, bk_seq, exc_seq, ap_Raise, ap_Skip, ap_Brk, ap_Cnt, ap_Drop, ap_Ret, ap_IfS, ap_Set, ap_Ts, ap_AsgT, tgT_t, tgTs_n, tgTs_c, ap_Aug, ap_SetI, ap_AugI, mFor_ap, ap_Rng1, ap_Rng2, rng1_ok, rng2_ok, ap_Iter, src_t, src_s, src_rL, ap_Comp, wipe_n, wipe_c, len_cons, len_nil, zip_cc, zip_nn, foldl_c, foldl_n, set_z, set_s, ite_t, ite_f, ite_T, ite_F, sing_lt, sing_eq, ty_r, ty_s, isS, cut_mid, decide_eq_true_eq, if_pos, if_neg]
        exact ⟨trivial, Gr.refl⟩
      · obtain ⟨j, rfl⟩ := g
        refine ⟨dk L ks, dikA_gr (h := h ++ [.dik (dk L ks)]) ⟨_, by rw [List.append_assoc]⟩ dikA_last, _, ks.filter fun z => decide (many ≤ (L.count z : Nat)), rfl, ?_, ?_, ?_, rfl⟩
        · rw [lst_ne (by simp)]
          have : Gr (h ++ [O.dik (dk L ks)] ++ [.lst ((ks.filter fun z => decide (many ≤ (L.count z : Nat))).map W.int)]) (h ++ [O.dik (dk L ks)] ++ [.lst ((ks.filter fun z => decide (many ≤ (L.count z : Nat))).map W.int)] ++ j) := ⟨j, rfl⟩
          exact this.lastL
        · have := List.length_filter_le (fun z => decide (many ≤ (L.count z : Nat))) ks
          omega
        · refine ⟨[O.dic (dk L ks)] ++ [.lst ((ks.filter fun z => decide (many ≤ (L.count z : Nat))).map W.int)] ++ j, ?_⟩
          rw [List.append_assoc, List.append_assoc, List.set_append_right _ _ (Nat.le_refl _), Nat.sub_self]
          simp
    refine sv_stm (ev_bnd (ev_bnd (sorted_ev hlk fun l h' ⟨g, hl⟩ => ?_)))
    subst hl
    simp (disch := first | omega | (simp only [List.length_append, List.length_cons, List.length_nil, List.length_set, List.length_drop, List.length_take, List.length_map]; omega)) only [sv_nx, sv_rt, sv_ct, rnd_nx, rnd_ct, Int.toNat_natCast, ne_eq, eq_self, not_true_eq_false, not_false_eq_true, mVar_z, Nat.reduceAdd, Nat.zero_add, Int.zero_add, Int.reduceAdd, Int.reduceSub, Int.reduceNeg, ap_Lst, ap_Tup, nil_app, cons_app, List.length_append, lst_last, mVar_s, ok_bnd, ok_stm, exc_bnd, ev_okE, exc_stm, ap_C, ap_Op, ap_Un, ap_B, ap_Chain, ap_asB, ap_And, ap_Or, ap_Not, ap_AndV, ap_OrV, ap_NotV, ap_If, ap_Nil, ap_Cons, ap_CB, ap_Meth, ap_Part, ap_NoPart, ap_Sl, ap_Yes, add_ii, add_ss, sub_ii, neg_i, mul_ii, fdiv_ii, mod_ii, eq_ii, ne_ii, eq_ss, ne_ss, lt_ii, le_ii, gt_ii, ge_ii, lt_ss, gt_ss, le_ss, ge_ss, len_s, len_t, abs_i, int_i, int_b, max_ii, min_ii, ix_s, ixL_0, ixL_1, ixL_2, ixL_3, ixL_n, ixL_i, ixL_st, setL_n, setL_i, List.length_map, List.length_set, ix_r, getL_r, ix_tL, withL_s, setL_0, setL_1, setL_2, set_r, app_r, lst_z, lst_s, iadd_ii, tuple_r, mul_ri, sl_s, sl_rol, sl_t, sl_r, cut_from, cut_to, ap_Seq, nx_seq, rt_seq, ct_seq, bk_seq, exc_seq, ap_Raise, ap_Skip, ap_Brk, ap_Cnt, ap_Drop, ap_Ret, ap_IfS, ap_Set, ap_Ts, ap_AsgT, tgT_t, tgTs_n, tgTs_c, ap_Aug, ap_SetI, ap_AugI, mFor_ap, ap_Rng1, ap_Rng2, rng1_ok, rng2_ok, ap_Iter, src_t, src_s, src_rL, ap_Comp, wipe_n, wipe_c, len_cons, len_nil, zip_cc, zip_nn, foldl_c, foldl_n, set_z, set_s, ite_t, ite_f, ite_T, ite_F, sing_lt, sing_eq, ty_r, ty_s, isS, cut_mid, decide_eq_true_eq, if_pos, if_neg]
    refine ⟨g.trans Gr.app, _, rfl, sort_rsg (List.Nodup.sublist List.filter_sublist I.nd), fun z => ?_⟩
    rw [(List.mergeSort_perm _ _).mem_iff, List.mem_filter, I.mem]
    simp
end Law_indexhall_k04_rising_rows
set_option maxRecDepth 100000
namespace Law_indexhall_k04_rising_rows
open PySem L2 Den
theorem leaps_all (xs ys : List Int) (r : Rsg xs) (r' : Rsg ys) (hx : xs.length ≤ 1000) (hy : ys.length ≤ 1000) : ∀ h, pureRun den_both_by_leaps 2 [T xs, T ys] h = .ok (T (both2 xs ys)) h := by
  obtain ⟨w, rfl, hw⟩ := pure_all (P := fun w => w = T (both2 xs ys)) rfl (by simp [pureWs, pureW, pure_ints]) (leaps_ev xs ys r r' hx hy)
  exact hw
theorem inall_ev (h : List O) (p : Nat) (rs : List (List Int)) (hp : lstAt h p = some (rs.map T)) (hr : rs.length ≤ 3) (h0 : 0 < rs.length) (hx : ∀ r ∈ rs, Rsg r ∧ r.length ≤ 1000) : Ev (den_in_all [.ref p] h) fun w h' => Gr h h' ∧ ∃ zs, w = T zs ∧ Rsg zs ∧ ∀ z, z ∈ zs ↔ ∀ r ∈ rs, z ∈ r := by
  have hpl := lst_lt hp
  refine fun_ev ?_
  unfold body_in_all
  simp only [startE, List.map_cons, List.map_nil, List.length_cons, List.length_nil, List.cons_append, List.nil_append, Nat.zero_add, Nat.reduceAdd, Nat.reduceSub, List.replicate_succ, List.replicate_zero]
  have hl1 := len_r hp
  rw [List.length_map] at hl1
  have hne : ¬ ((rs.length : Int) = 0) := by omega
  have hkey : ∀ k ∈ List.range rs.length, Den.keyOf h [some (.ref p), none, none, none] 3 (mPair (mLenP (mOp oIx (mVar 0) (mVar 3))) (mVar 3)) (nI k) = some (nI k, PyData.tuple [.int (rs.getD k []).length, .int k]) := fun k hk => by
    have hk := List.mem_range.1 hk
    have e1 : frz h 6 (.ref p) = some (.rol (rs.map T)) := by
      unfold frz
      rw [hp]
      show (mapO (frz h (3 + 2)) (rs.map T)).map W.rol = _
      rw [frz_Ts]
      rfl
    have e2 : (frzE h [some (W.ref p), none, none, none]) = [some (.rol (rs.map T)), none, none, none] := by
      unfold frzE
      rw [List.map_cons]
      show [(frz h 6 (W.ref p)), none, none, none] = _
      rw [e1]
    unfold Den.keyOf
    show (match (frz h 6 (W.int k)) with | some fw => _ | none => none) = _
    have e3 : frz h 6 (W.int k) = some (.int k) := rfl
    rw [e3]
    dsimp only
    rw [e2]
    simp (disch := first | omega | (simp only [List.length_append, List.length_cons, List.length_nil, List.length_set, List.length_drop, List.length_take, List.length_map]; omega)) only [ap_Pair, ap_LenP, ix_rol, ixL_T, lenW_t, sv_nx, sv_rt, sv_ct, rnd_nx, rnd_ct, Int.toNat_natCast, ne_eq, eq_self, not_true_eq_false, not_false_eq_true, mVar_z, Nat.reduceAdd, Nat.zero_add, Int.zero_add, Int.reduceAdd, Int.reduceSub, Int.reduceNeg, ap_Lst, ap_Tup, nil_app, cons_app, List.length_append, lst_last, mVar_s, ok_bnd, ok_stm, exc_bnd, ev_okE, exc_stm, ap_C, ap_Op, ap_Un, ap_B, ap_Chain, ap_asB, ap_And, ap_Or, ap_Not, ap_AndV, ap_OrV, ap_NotV, ap_If, ap_Nil, ap_Cons, ap_CB, ap_Meth, ap_Part, ap_NoPart, ap_Sl, ap_Yes, add_ii, add_ss, sub_ii, neg_i, mul_ii, fdiv_ii, mod_ii, eq_ii, ne_ii, eq_ss, ne_ss, lt_ii, le_ii, gt_ii, ge_ii, lt_ss, gt_ss, le_ss, ge_ss, len_s, len_t, abs_i, int_i, int_b, max_ii, min_ii, ix_s, ixL_0, ixL_1, ixL_2, ixL_3, ixL_n, ixL_i, ixL_st, setL_n, setL_i, List.length_map, List.length_set, ix_r, getL_r, ix_tL, withL_s, setL_0, setL_1, setL_2, set_r, app_r, lst_z, lst_s, iadd_ii, tuple_r, mul_ri, sl_s, sl_rol, sl_t, sl_r, cut_from, cut_to, ap_Seq, nx_seq, rt_seq, ct_seq, bk_seq, exc_seq, ap_Raise, ap_Skip, ap_Brk, ap_Cnt, ap_Drop, ap_Ret, ap_IfS, ap_Set, ap_Ts, ap_AsgT, tgT_t, tgTs_n, tgTs_c, ap_Aug, ap_SetI, ap_AugI, mFor_ap, ap_Rng1, ap_Rng2, rng1_ok, rng2_ok, ap_Iter, src_t, src_s, src_rL, ap_Comp, wipe_n, wipe_c, len_cons, len_nil, zip_cc, zip_nn, foldl_c, foldl_n, set_z, set_s, ite_t, ite_f, ite_T, ite_F, sing_lt, sing_eq, ty_r, ty_s, isS, cut_mid, decide_eq_true_eq, if_pos, if_neg]
    rfl
  have hR : mItemsR1 (mCons (mCB oLen (mCons (mVar 0) (mNil))) (mNil)) [some (.ref p), none, none, none] h = .ok ((List.range rs.length).map nI) h := ap_R1 (by simp (disch := first | omega | (simp only [List.length_append, List.length_cons, List.length_nil, List.length_set, List.length_drop, List.length_take, List.length_map]; omega)) only [hl1, mVar_z, Nat.reduceAdd, Nat.zero_add, Int.zero_add, Int.reduceAdd, Int.reduceSub, Int.reduceNeg, ap_Lst, ap_Tup, nil_app, cons_app, List.length_append, lst_last, mVar_s, ok_bnd, ok_stm, exc_bnd, ev_okE, exc_stm, ap_C, ap_Op, ap_Un, ap_B, ap_Chain, ap_asB, ap_And, ap_Or, ap_Not, ap_AndV, ap_OrV, ap_NotV, ap_If, ap_Nil, ap_Cons, ap_CB, ap_Meth, ap_Part, ap_NoPart, ap_Sl, ap_Yes, add_ii, add_ss, sub_ii, neg_i, mul_ii, fdiv_ii, mod_ii, eq_ii, ne_ii, eq_ss, ne_ss, lt_ii, le_ii, gt_ii, ge_ii, lt_ss, gt_ss, le_ss, ge_ss, len_s, len_t, abs_i, int_i, int_b, max_ii, min_ii, ix_s, ixL_0, ixL_1, ixL_2, ixL_3, ixL_n, ixL_i, ixL_st, setL_n, setL_i, List.length_map, List.length_set, ix_r, getL_r, ix_tL, withL_s, setL_0, setL_1, setL_2, set_r, app_r, lst_z, lst_s, iadd_ii, tuple_r, mul_ri, sl_s, sl_rol, sl_t, sl_r, cut_from, cut_to, ap_Seq, nx_seq, rt_seq, ct_seq, bk_seq, exc_seq, ap_Raise, ap_Skip, ap_Brk, ap_Cnt, ap_Drop, ap_Ret, ap_IfS, ap_Set, ap_Ts, ap_AsgT, tgT_t, tgTs_n, tgTs_c, ap_Aug, ap_SetI, ap_AugI, mFor_ap, ap_Rng1, ap_Rng2, rng1_ok, rng2_ok, ap_Iter, src_t, src_s, src_rL, ap_Comp, wipe_n, wipe_c, len_cons, len_nil, zip_cc, zip_nn, foldl_c, foldl_n, set_z, set_s, ite_t, ite_f, ite_T, ite_F, sing_lt, sing_eq, ty_r, ty_s, isS, cut_mid, decide_eq_true_eq, if_pos, if_neg]) (by omega)
  have hds := mapO_map hkey
  simp (disch := first | omega | (simp only [List.length_append, List.length_cons, List.length_nil, List.length_set, List.length_drop, List.length_take, List.length_map]; omega)) only [hl1, ap_SortK, hR, hds, mVar_z, Nat.reduceAdd, Nat.zero_add, Int.zero_add, Int.reduceAdd, Int.reduceSub, Int.reduceNeg, ap_Lst, ap_Tup, nil_app, cons_app, List.length_append, lst_last, mVar_s, ok_bnd, ok_stm, exc_bnd, ev_okE, exc_stm, ap_C, ap_Op, ap_Un, ap_B, ap_Chain, ap_asB, ap_And, ap_Or, ap_Not, ap_AndV, ap_OrV, ap_NotV, ap_If, ap_Nil, ap_Cons, ap_CB, ap_Meth, ap_Part, ap_NoPart, ap_Sl, ap_Yes, add_ii, add_ss, sub_ii, neg_i, mul_ii, fdiv_ii, mod_ii, eq_ii, ne_ii, eq_ss, ne_ss, lt_ii, le_ii, gt_ii, ge_ii, lt_ss, gt_ss, le_ss, ge_ss, len_s, len_t, abs_i, int_i, int_b, max_ii, min_ii, ix_s, ixL_0, ixL_1, ixL_2, ixL_3, ixL_n, ixL_i, ixL_st, setL_n, setL_i, List.length_map, List.length_set, ix_r, getL_r, ix_tL, withL_s, setL_0, setL_1, setL_2, set_r, app_r, lst_z, lst_s, iadd_ii, tuple_r, mul_ri, sl_s, sl_rol, sl_t, sl_r, cut_from, cut_to, ap_Seq, nx_seq, rt_seq, ct_seq, bk_seq, exc_seq, ap_Raise, ap_Skip, ap_Brk, ap_Cnt, ap_Drop, ap_Ret, ap_IfS, ap_Set, ap_Ts, ap_AsgT, tgT_t, tgTs_n, tgTs_c, ap_Aug, ap_SetI, ap_AugI, mFor_ap, ap_Rng1, ap_Rng2, rng1_ok, rng2_ok, ap_Iter, src_t, src_s, src_rL, ap_Comp, wipe_n, wipe_c, len_cons, len_nil, zip_cc, zip_nn, foldl_c, foldl_n, set_z, set_s, ite_t, ite_f, ite_T, ite_F, sing_lt, sing_eq, ty_r, ty_s, isS, cut_mid, decide_eq_true_eq, if_pos, if_neg]
  have e5 : ((List.range rs.length).map fun k => (nI k, PyData.tuple [.int (rs.getD k []).length, .int k])).map Prod.snd = (List.range rs.length).map fun k => PyData.tuple [.int ((rs.getD k []).length : Nat), .int (k : Nat)] := by rw [List.map_map]; rfl
  rw [e5, if_pos (kind_ii (List.range rs.length) (fun k => ((rs.getD k []).length : Nat)) fun k => (k : Nat))]
  obtain ⟨ks, hks, hperm⟩ := perm_nats (sort_perm (xs := (List.range rs.length).map nI) (ds := (List.range rs.length).map fun k => PyData.tuple [.int ((rs.getD k []).length : Nat), .int (k : Nat)]) (by simp))
  rw [hks]
  have hkl : ks.length = rs.length := by rw [hperm.length_eq, List.length_range]
  have hkm : ∀ k, k ∈ ks ↔ k < rs.length := fun k => by rw [hperm.mem_iff, List.mem_range]
  have hp2 : ∀ j, lstAt (h ++ j) p = some (rs.map T) := fun j => by rw [lst_old hpl]; exact hp
  have hrs : ∀ k, k < rs.length → Rsg (rs.getD k []) ∧ (rs.getD k []).length ≤ 1000 := fun k hk => by
    rw [List.getD_eq_getElem?_getD, List.getElem?_eq_getElem hk]
    exact hx _ (List.getElem_mem hk)
  cases ks with
  | nil => simp at hkl; omega
  | cons k0 ks =>
    have hk0 := (hkm k0).1 List.mem_cons_self
    have hp3 : lstAt (h ++ [O.lst ((k0 :: ks).map nI)]) p = some (rs.map T) := hp2 _
    have hp4 : ∀ x, lstAt (h ++ [O.lst ((k0 :: ks).map nI), x]) p = some (rs.map T) := fun x => hp2 _
    simp (disch := first | omega | (simp only [List.length_append, List.length_cons, List.length_nil, List.length_set, List.length_drop, List.length_take, List.length_map]; omega)) only [hp3, ixL_n, ixL_T, List.getD_cons_zero, Int.toNat_zero, sv_nx, sv_rt, sv_ct, rnd_nx, rnd_ct, Int.toNat_natCast, ne_eq, eq_self, not_true_eq_false, not_false_eq_true, mVar_z, Nat.reduceAdd, Nat.zero_add, Int.zero_add, Int.reduceAdd, Int.reduceSub, Int.reduceNeg, ap_Lst, ap_Tup, nil_app, cons_app, List.length_append, lst_last, mVar_s, ok_bnd, ok_stm, exc_bnd, ev_okE, exc_stm, ap_C, ap_Op, ap_Un, ap_B, ap_Chain, ap_asB, ap_And, ap_Or, ap_Not, ap_AndV, ap_OrV, ap_NotV, ap_If, ap_Nil, ap_Cons, ap_CB, ap_Meth, ap_Part, ap_NoPart, ap_Sl, ap_Yes, add_ii, add_ss, sub_ii, neg_i, mul_ii, fdiv_ii, mod_ii, eq_ii, ne_ii, eq_ss, ne_ss, lt_ii, le_ii, gt_ii, ge_ii, lt_ss, gt_ss, le_ss, ge_ss, len_s, len_t, abs_i, int_i, int_b, max_ii, min_ii, ix_s, ixL_0, ixL_1, ixL_2, ixL_3, ixL_n, ixL_i, ixL_st, setL_n, setL_i, List.length_map, List.length_set, ix_r, getL_r, ix_tL, withL_s, setL_0, setL_1, setL_2, set_r, app_r, lst_z, lst_s, iadd_ii, tuple_r, mul_ri, sl_s, sl_rol, sl_t, sl_r, cut_from, cut_to, ap_Seq, nx_seq, rt_seq, ct_seq, bk_seq, exc_seq, ap_Raise, ap_Skip, ap_Brk, ap_Cnt, ap_Drop, ap_Ret, ap_IfS, ap_Set, ap_Ts, ap_AsgT, tgT_t, tgTs_n, tgTs_c, ap_Aug, ap_SetI, ap_AugI, mFor_ap, ap_Rng1, ap_Rng2, rng1_ok, rng2_ok, ap_Iter, src_t, src_s, src_rL, ap_Comp, wipe_n, wipe_c, len_cons, len_nil, zip_cc, zip_nn, foldl_c, foldl_n, set_z, set_s, ite_t, ite_f, ite_T, ite_F, sing_lt, sing_eq, ty_r, ty_s, isS, cut_mid, decide_eq_true_eq, if_pos, if_neg]
    have ed : List.drop (Int.toNat 1) (List.map nI (k0 :: ks)) = ks.map nI := rfl
    rw [ed]
    have hlq : lstAt (h ++ [O.lst (List.map nI (k0 :: ks))] ++ [O.lst (ks.map nI)]) (h.length + 1) = some (ks.map nI) := by
      have e9 : h.length + 1 = (h ++ [O.lst (List.map nI (k0 :: ks))]).length := by simp
      rw [e9]; exact lst_last
    have hpq : lstAt (h ++ [O.lst (List.map nI (k0 :: ks))] ++ [O.lst (ks.map nI)]) p = some (rs.map T) := by
      rw [lst_old (by simp; omega), lst_old hpl]; exact hp
    have hG : Gr h (h ++ [O.lst (List.map nI (k0 :: ks))] ++ [O.lst (ks.map nI)]) := ⟨_, List.append_assoc _ _ _⟩
    generalize h ++ [O.lst (List.map nI (k0 :: ks))] ++ [O.lst (ks.map nI)] = H2 at *
    rw [hlq]
    simp (disch := first | omega | (simp only [List.length_append, List.length_cons, List.length_nil, List.length_set, List.length_drop, List.length_take, List.length_map]; omega)) only [sv_nx, sv_rt, sv_ct, rnd_nx, rnd_ct, Int.toNat_natCast, ne_eq, eq_self, not_true_eq_false, not_false_eq_true, mVar_z, Nat.reduceAdd, Nat.zero_add, Int.zero_add, Int.reduceAdd, Int.reduceSub, Int.reduceNeg, ap_Lst, ap_Tup, nil_app, cons_app, List.length_append, lst_last, mVar_s, ok_bnd, ok_stm, exc_bnd, ev_okE, exc_stm, ap_C, ap_Op, ap_Un, ap_B, ap_Chain, ap_asB, ap_And, ap_Or, ap_Not, ap_AndV, ap_OrV, ap_NotV, ap_If, ap_Nil, ap_Cons, ap_CB, ap_Meth, ap_Part, ap_NoPart, ap_Sl, ap_Yes, add_ii, add_ss, sub_ii, neg_i, mul_ii, fdiv_ii, mod_ii, eq_ii, ne_ii, eq_ss, ne_ss, lt_ii, le_ii, gt_ii, ge_ii, lt_ss, gt_ss, le_ss, ge_ss, len_s, len_t, abs_i, int_i, int_b, max_ii, min_ii, ix_s, ixL_0, ixL_1, ixL_2, ixL_3, ixL_n, ixL_i, ixL_st, setL_n, setL_i, List.length_map, List.length_set, ix_r, getL_r, ix_tL, withL_s, setL_0, setL_1, setL_2, set_r, app_r, lst_z, lst_s, iadd_ii, tuple_r, mul_ri, sl_s, sl_rol, sl_t, sl_r, cut_from, cut_to, ap_Seq, nx_seq, rt_seq, ct_seq, bk_seq, exc_seq, ap_Raise, ap_Skip, ap_Brk, ap_Cnt, ap_Drop, ap_Ret, ap_IfS, ap_Set, ap_Ts, ap_AsgT, tgT_t, tgTs_n, tgTs_c, ap_Aug, ap_SetI, ap_AugI, mFor_ap, ap_Rng1, ap_Rng2, rng1_ok, rng2_ok, ap_Iter, src_t, src_s, src_rL, ap_Comp, wipe_n, wipe_c, len_cons, len_nil, zip_cc, zip_nn, foldl_c, foldl_n, set_z, set_s, ite_t, ite_f, ite_T, ite_F, sing_lt, sing_eq, ty_r, ty_s, isS, cut_mid, decide_eq_true_eq, if_pos, if_neg]
    refine sv_cut (R' := fun o => ∃ (zs : List Int) (a : Option W), Rsg zs ∧ (∀ z, z ∈ zs ↔ ∀ k ∈ k0 :: ks, z ∈ rs.getD k []) ∧ o = SOut.nx [some (.ref p), some (.ref h.length), some (T zs), a] H2) ?_ ?_
    · refine forGo_ref (h.length + 1) (ks.map nI) 3 (fun i e hh => ∃ (zs : List Int) (a : Option W), Rsg zs ∧ zs.length ≤ 1000 ∧ (∀ z, z ∈ zs ↔ ∀ k ∈ (k0 :: ks).take (i + 1), z ∈ rs.getD k []) ∧ e = [some (.ref p), some (.ref h.length), some (T zs), a] ∧ hh = H2) (by simp at hkl ⊢; omega) ⟨_, none, (hrs k0 hk0).1, (hrs k0 hk0).2, by simp, rfl, rfl⟩ ?_ ?_ ?_
      · rintro i e hh ⟨zs, a, r, hz, hm, rfl, rfl⟩
        exact hlq
      · rintro i e hh hi ⟨zs, a, r, hz, hm, rfl, rfl⟩
        have hi : i < ks.length := by simpa using hi
        have hk := (hkm ks[i]).1 (List.mem_cons_of_mem _ (List.getElem_mem hi))
        have ht : (k0 :: ks).take (i + 1 + 1) = (k0 :: ks).take (i + 1) ++ [ks[i]] := by
          rw [List.take_succ_eq_append_getElem (by simp; omega)]; rfl
        rw [List.getElem_map]
        generalize ks[i] = k at *
        obtain ⟨rk, lk⟩ := hrs k hk
        have el := leaps_all zs (rs.getD k []) r rk hz lk
        have e1 : nI k = W.int k := rfl
        rw [e1]
        simp (disch := first | omega | (simp only [List.length_append, List.length_cons, List.length_nil, List.length_set, List.length_drop, List.length_take, List.length_map]; omega)) only [hpq, ixL_T, el, sv_nx, sv_rt, sv_ct, rnd_nx, rnd_ct, Int.toNat_natCast, ne_eq, eq_self, not_true_eq_false, not_false_eq_true, mVar_z, Nat.reduceAdd, Nat.zero_add, Int.zero_add, Int.reduceAdd, Int.reduceSub, Int.reduceNeg, ap_Lst, ap_Tup, nil_app, cons_app, List.length_append, lst_last, mVar_s, ok_bnd, ok_stm, exc_bnd, ev_okE, exc_stm, ap_C, ap_Op, ap_Un, ap_B, ap_Chain, ap_asB, ap_And, ap_Or, ap_Not, ap_AndV, ap_OrV, ap_NotV, ap_If, ap_Nil, ap_Cons, ap_CB, ap_Meth, ap_Part, ap_NoPart, ap_Sl, ap_Yes, add_ii, add_ss, sub_ii, neg_i, mul_ii, fdiv_ii, mod_ii, eq_ii, ne_ii, eq_ss, ne_ss, lt_ii, le_ii, gt_ii, ge_ii, lt_ss, gt_ss, le_ss, ge_ss, len_s, len_t, abs_i, int_i, int_b, max_ii, min_ii, ix_s, ixL_0, ixL_1, ixL_2, ixL_3, ixL_n, ixL_i, ixL_st, setL_n, setL_i, List.length_map, List.length_set, ix_r, getL_r, ix_tL, withL_s, setL_0, setL_1, setL_2, set_r, app_r, lst_z, lst_s, iadd_ii, tuple_r, mul_ri, sl_s, sl_rol, sl_t, sl_r, cut_from, cut_to, ap_Seq, nx_seq, rt_seq, ct_seq, bk_seq, exc_seq, ap_Raise, ap_Skip, ap_Brk, ap_Cnt, ap_Drop, ap_Ret, ap_IfS, ap_Set, ap_Ts, ap_AsgT, tgT_t, tgTs_n, tgTs_c, ap_Aug, ap_SetI, ap_AugI, mFor_ap, ap_Rng1, ap_Rng2, rng1_ok, rng2_ok, ap_Iter, src_t, src_s, src_rL, ap_Comp, wipe_n, wipe_c, len_cons, len_nil, zip_cc, zip_nn, foldl_c, foldl_n, set_z, set_s, ite_t, ite_f, ite_T, ite_F, sing_lt, sing_eq, ty_r, ty_s, isS, cut_mid, decide_eq_true_eq, if_pos, if_neg]
        refine ⟨both2 zs (rs.getD k []), some (.int k), r.filter _, Nat.le_trans (List.length_filter_le _ _) hz, fun z => ?_, rfl, trivial⟩
        rw [ht]
        simp only [both2, List.mem_filter, decide_eq_true_eq, hm, List.forall_mem_append, List.forall_mem_singleton]
      · rintro e hh ⟨zs, a, r, hz, hm, rfl, rfl⟩
        refine ⟨zs, a, r, fun z => ?_, rfl⟩
        rw [hm, List.take_of_length_le (by simp)]
    · rintro o ⟨zs, a, r, hm, rfl⟩
      simp (disch := first | omega | (simp only [List.length_append, List.length_cons, List.length_nil, List.length_set, List.length_drop, List.length_take, List.length_map]; omega)) only [sv_nx, sv_rt, sv_ct, rnd_nx, rnd_ct, Int.toNat_natCast, ne_eq, eq_self, not_true_eq_false, not_false_eq_true, mVar_z, Nat.reduceAdd, Nat.zero_add, Int.zero_add, Int.reduceAdd, Int.reduceSub, Int.reduceNeg, ap_Lst, ap_Tup, nil_app, cons_app, List.length_append, lst_last, mVar_s, ok_bnd, ok_stm, exc_bnd, ev_okE, exc_stm, ap_C, ap_Op, ap_Un, ap_B, ap_Chain, ap_asB, ap_And, ap_Or, ap_Not, ap_AndV, ap_OrV, ap_NotV, ap_If, ap_Nil, ap_Cons, ap_CB, ap_Meth, ap_Part, ap_NoPart, ap_Sl, ap_Yes, add_ii, add_ss, sub_ii, neg_i, mul_ii, fdiv_ii, mod_ii, eq_ii, ne_ii, eq_ss, ne_ss, lt_ii, le_ii, gt_ii, ge_ii, lt_ss, gt_ss, le_ss, ge_ss, len_s, len_t, abs_i, int_i, int_b, max_ii, min_ii, ix_s, ixL_0, ixL_1, ixL_2, ixL_3, ixL_n, ixL_i, ixL_st, setL_n, setL_i, List.length_map, List.length_set, ix_r, getL_r, ix_tL, withL_s, setL_0, setL_1, setL_2, set_r, app_r, lst_z, lst_s, iadd_ii, tuple_r, mul_ri, sl_s, sl_rol, sl_t, sl_r, cut_from, cut_to, ap_Seq, nx_seq, rt_seq, ct_seq, bk_seq, exc_seq, ap_Raise, ap_Skip, ap_Brk, ap_Cnt, ap_Drop, ap_Ret, ap_IfS, ap_Set, ap_Ts, ap_AsgT, tgT_t, tgTs_n, tgTs_c, ap_Aug, ap_SetI, ap_AugI, mFor_ap, ap_Rng1, ap_Rng2, rng1_ok, rng2_ok, ap_Iter, src_t, src_s, src_rL, ap_Comp, wipe_n, wipe_c, len_cons, len_nil, zip_cc, zip_nn, foldl_c, foldl_n, set_z, set_s, ite_t, ite_f, ite_T, ite_F, sing_lt, sing_eq, ty_r, ty_s, isS, cut_mid, decide_eq_true_eq, if_pos, if_neg]
      refine ⟨hG, zs, rfl, r, fun z => ?_⟩
      rw [hm]
      constructor
      · intro H q hq
        obtain ⟨j, hj, rfl⟩ := List.getElem_of_mem hq
        have := H j ((hkm j).2 hj)
        rw [List.getD_eq_getElem?_getD, List.getElem?_eq_getElem hj] at this
        exact this
      · intro H k hk
        have hk := (hkm k).1 hk
        rw [List.getD_eq_getElem?_getD, List.getElem?_eq_getElem hk]
        exact H _ (List.getElem_mem hk)
theorem inall_none (h : List O) (p : Nat) (hp : lstAt h p = some []) : den_in_all [.ref p] h = .exc 1 none h := by
  unfold den_in_all mFun body_in_all
  have hl1 := len_r hp
  simp only [startE, List.map_cons, List.map_nil, List.length_cons, List.length_nil, List.cons_append, List.nil_append, Nat.zero_add, Nat.reduceAdd, Nat.reduceSub, List.replicate_succ, List.replicate_zero]
  simp (disch := first | omega | (simp only [List.length_append, List.length_cons, List.length_nil, List.length_set, List.length_drop, List.length_take, List.length_map]; omega)) only [hl1, mVar_z, Nat.reduceAdd, Nat.zero_add, Int.zero_add, Int.reduceAdd, Int.reduceSub, Int.reduceNeg, ap_Lst, ap_Tup, nil_app, cons_app, List.length_append, lst_last, mVar_s, ok_bnd, ok_stm, exc_bnd, ev_okE, exc_stm, ap_C, ap_Op, ap_Un, ap_B, ap_Chain, ap_asB, ap_And, ap_Or, ap_Not, ap_AndV, ap_OrV, ap_NotV, ap_If, ap_Nil, ap_Cons, ap_CB, ap_Meth, ap_Part, ap_NoPart, ap_Sl, ap_Yes, add_ii, add_ss, sub_ii, neg_i, mul_ii, fdiv_ii, mod_ii, eq_ii, ne_ii, eq_ss, ne_ss, lt_ii, le_ii, gt_ii, ge_ii, lt_ss, gt_ss, le_ss, ge_ss, len_s, len_t, abs_i, int_i, int_b, max_ii, min_ii, ix_s, ixL_0, ixL_1, ixL_2, ixL_3, ixL_n, ixL_i, ixL_st, setL_n, setL_i, List.length_map, List.length_set, ix_r, getL_r, ix_tL, withL_s, setL_0, setL_1, setL_2, set_r, app_r, lst_z, lst_s, iadd_ii, tuple_r, mul_ri, sl_s, sl_rol, sl_t, sl_r, cut_from, cut_to, ap_Seq, nx_seq, rt_seq, ct_seq, bk_seq, exc_seq, ap_Raise, ap_Skip, ap_Brk, ap_Cnt, ap_Drop, ap_Ret, ap_IfS, ap_Set, ap_Ts, ap_AsgT, tgT_t, tgTs_n, tgTs_c, ap_Aug, ap_SetI, ap_AugI, mFor_ap, ap_Rng1, ap_Rng2, rng1_ok, rng2_ok, ap_Iter, src_t, src_s, src_rL, ap_Comp, wipe_n, wipe_c, len_cons, len_nil, zip_cc, zip_nn, foldl_c, foldl_n, set_z, set_s, ite_t, ite_f, ite_T, ite_F, sing_lt, sing_eq, ty_r, ty_s, isS, cut_mid, decide_eq_true_eq, if_pos, if_neg]
/-! ### is_row -/
def rowB (xs : List Int) : Bool := (xs.map fun z => decide (0 ≤ z)).all id && ((List.range ((xs.length : Int) - 1).toNat).map fun k => decide (xs.getD k 0 < xs.getD (k + 1) 0)).all id
theorem isrow_ev (xs : List Int) (h : List O) (hx : xs.length ≤ 1000) : den_is_row [T xs] h = .ok (.bl (rowB xs)) h := by
  have eF : frzE h [some (T xs), none, none] = [some (T xs), none, none] := by
    unfold frzE
    rw [List.map_cons]
    show [(frz h 6 (T xs)), none, none] = _
    rw [frz_T]
  have g0 : mIsiV "tuple" (mVar 0) [some (T xs), none, none] h = .ok (.bl true) h := isiV_of (x := T xs) rfl (by show ("tuple" : String) ≠ "?"; decide) kit_tt
  have g1 : mGenB false 2 (mGItems (mVar 0)) (mAndB (mIsi "int" (mVar 2)) (mAndB (mNotB (mIsi "bool" (mVar 2))) (mOp oGeI (mVar 2) (mC (.int 0))))) [some (T xs), none, none] h = .ok (.bl ((xs.map fun z => decide (0 ≤ z)).all id)) h := by
    refine genB_ev (any := false) (ap_GI rfl) fun z hz => elt_of (fw := .int z) (h' := []) rfl ?_
    rw [eF]
    have i1 : mIsi "int" (mVar 2) [some (T xs), none, some (W.int z)] [] = .ok (.bl true) [] := isi_of (x := .int z) rfl kit_ii
    have i2 : mIsi "bool" (mVar 2) [some (T xs), none, some (W.int z)] [] = .ok (.bl false) [] := isi_of (x := .int z) rfl kit_ib
    show mAndB _ _ [some (T xs), none, some (W.int z)] [] = _
    simp (disch := first | omega | (simp only [List.length_append, List.length_cons, List.length_nil, List.length_set, List.length_drop, List.length_take, List.length_map]; omega)) only [ap_AndB, ap_NotB, i1, i2, Bool.not_false, gei_ii, sv_nx, sv_rt, sv_ct, rnd_nx, rnd_ct, Int.toNat_natCast, ne_eq, eq_self, not_true_eq_false, not_false_eq_true, mVar_z, Nat.reduceAdd, Nat.zero_add, Int.zero_add, Int.reduceAdd, Int.reduceSub, Int.reduceNeg, ap_Lst, ap_Tup, nil_app, cons_app, List.length_append, lst_last, mVar_s, ok_bnd, ok_stm, exc_bnd, ev_okE, exc_stm, ap_C, ap_Op, ap_Un, ap_B, ap_Chain, ap_asB, ap_And, ap_Or, ap_Not, ap_AndV, ap_OrV, ap_NotV, ap_If, ap_Nil, ap_Cons, ap_CB, ap_Meth, ap_Part, ap_NoPart, ap_Sl, ap_Yes, add_ii, add_ss, sub_ii, neg_i, mul_ii, fdiv_ii, mod_ii, eq_ii, ne_ii, eq_ss, ne_ss, lt_ii, le_ii, gt_ii, ge_ii, lt_ss, gt_ss, le_ss, ge_ss, len_s, len_t, abs_i, int_i, int_b, max_ii, min_ii, ix_s, ixL_0, ixL_1, ixL_2, ixL_3, ixL_n, ixL_i, ixL_st, setL_n, setL_i, List.length_map, List.length_set, ix_r, getL_r, ix_tL, withL_s, setL_0, setL_1, setL_2, set_r, app_r, lst_z, lst_s, iadd_ii, tuple_r, mul_ri, sl_s, sl_rol, sl_t, sl_r, cut_from, cut_to, ap_Seq, nx_seq, rt_seq, ct_seq, bk_seq, exc_seq, ap_Raise, ap_Skip, ap_Brk, ap_Cnt, ap_Drop, ap_Ret, ap_IfS, ap_Set, ap_Ts, ap_AsgT, tgT_t, tgTs_n, tgTs_c, ap_Aug, ap_SetI, ap_AugI, mFor_ap, ap_Rng1, ap_Rng2, rng1_ok, rng2_ok, ap_Iter, src_t, src_s, src_rL, ap_Comp, wipe_n, wipe_c, len_cons, len_nil, zip_cc, zip_nn, foldl_c, foldl_n, set_z, set_s, ite_t, ite_f, ite_T, ite_F, sing_lt, sing_eq, ty_r, ty_s, isS, cut_mid, decide_eq_true_eq, if_pos, if_neg]
  have g2 : mGenB false 1 (mItemsR1 (mCons (mOp oSub (mCB oLen (mCons (mVar 0) (mNil))) (mC (.int 1))) (mNil))) (mOp oLt (mOp oIx (mVar 0) (mVar 1)) (mOp oIx (mVar 0) (mOp oAddS (mVar 1) (mC (.int 1))))) [some (T xs), none, none] h = .ok (.bl (((List.range ((xs.length : Int) - 1).toNat).map fun k => decide (xs.getD k 0 < xs.getD (k + 1) 0)).all id)) h := by
    refine genB_ev (any := false) (ap_R1i (j := (xs.length : Int) - 1) (by simp (disch := first | omega | (simp only [List.length_append, List.length_cons, List.length_nil, List.length_set, List.length_drop, List.length_take, List.length_map]; omega)) only [mVar_z, Nat.reduceAdd, Nat.zero_add, Int.zero_add, Int.reduceAdd, Int.reduceSub, Int.reduceNeg, ap_Lst, ap_Tup, nil_app, cons_app, List.length_append, lst_last, mVar_s, ok_bnd, ok_stm, exc_bnd, ev_okE, exc_stm, ap_C, ap_Op, ap_Un, ap_B, ap_Chain, ap_asB, ap_And, ap_Or, ap_Not, ap_AndV, ap_OrV, ap_NotV, ap_If, ap_Nil, ap_Cons, ap_CB, ap_Meth, ap_Part, ap_NoPart, ap_Sl, ap_Yes, add_ii, add_ss, sub_ii, neg_i, mul_ii, fdiv_ii, mod_ii, eq_ii, ne_ii, eq_ss, ne_ss, lt_ii, le_ii, gt_ii, ge_ii, lt_ss, gt_ss, le_ss, ge_ss, len_s, len_t, abs_i, int_i, int_b, max_ii, min_ii, ix_s, ixL_0, ixL_1, ixL_2, ixL_3, ixL_n, ixL_i, ixL_st, setL_n, setL_i, List.length_map, List.length_set, ix_r, getL_r, ix_tL, withL_s, setL_0, setL_1, setL_2, set_r, app_r, lst_z, lst_s, iadd_ii, tuple_r, mul_ri, sl_s, sl_rol, sl_t, sl_r, cut_from, cut_to, ap_Seq, nx_seq, rt_seq, ct_seq, bk_seq, exc_seq, ap_Raise, ap_Skip, ap_Brk, ap_Cnt, ap_Drop, ap_Ret, ap_IfS, ap_Set, ap_Ts, ap_AsgT, tgT_t, tgTs_n, tgTs_c, ap_Aug, ap_SetI, ap_AugI, mFor_ap, ap_Rng1, ap_Rng2, rng1_ok, rng2_ok, ap_Iter, src_t, src_s, src_rL, ap_Comp, wipe_n, wipe_c, len_cons, len_nil, zip_cc, zip_nn, foldl_c, foldl_n, set_z, set_s, ite_t, ite_f, ite_T, ite_F, sing_lt, sing_eq, ty_r, ty_s, isS, cut_mid, decide_eq_true_eq, if_pos, if_neg]) (by omega) (by omega)) fun k hk => elt_of (fw := .int k) (h' := []) rfl ?_
    have hk := List.mem_range.1 hk
    rw [eF]
    show mOp _ _ _ [some (T xs), some (W.int k), none] [] = _
    have e1 : ((k : Int) + 1).toNat = k + 1 := by omega
    simp (disch := first | omega | (simp only [List.length_append, List.length_cons, List.length_nil, List.length_set, List.length_drop, List.length_take, List.length_map]; omega)) only [adds_ii, e1, sv_nx, sv_rt, sv_ct, rnd_nx, rnd_ct, Int.toNat_natCast, ne_eq, eq_self, not_true_eq_false, not_false_eq_true, mVar_z, Nat.reduceAdd, Nat.zero_add, Int.zero_add, Int.reduceAdd, Int.reduceSub, Int.reduceNeg, ap_Lst, ap_Tup, nil_app, cons_app, List.length_append, lst_last, mVar_s, ok_bnd, ok_stm, exc_bnd, ev_okE, exc_stm, ap_C, ap_Op, ap_Un, ap_B, ap_Chain, ap_asB, ap_And, ap_Or, ap_Not, ap_AndV, ap_OrV, ap_NotV, ap_If, ap_Nil, ap_Cons, ap_CB, ap_Meth, ap_Part, ap_NoPart, ap_Sl, ap_Yes, add_ii, add_ss, sub_ii, neg_i, mul_ii, fdiv_ii, mod_ii, eq_ii, ne_ii, eq_ss, ne_ss, lt_ii, le_ii, gt_ii, ge_ii, lt_ss, gt_ss, le_ss, ge_ss, len_s, len_t, abs_i, int_i, int_b, max_ii, min_ii, ix_s, ixL_0, ixL_1, ixL_2, ixL_3, ixL_n, ixL_i, ixL_st, setL_n, setL_i, List.length_map, List.length_set, ix_r, getL_r, ix_tL, withL_s, setL_0, setL_1, setL_2, set_r, app_r, lst_z, lst_s, iadd_ii, tuple_r, mul_ri, sl_s, sl_rol, sl_t, sl_r, cut_from, cut_to, ap_Seq, nx_seq, rt_seq, ct_seq, bk_seq, exc_seq, ap_Raise, ap_Skip, ap_Brk, ap_Cnt, ap_Drop, ap_Ret, ap_IfS, ap_Set, ap_Ts, ap_AsgT, tgT_t, tgTs_n, tgTs_c, ap_Aug, ap_SetI, ap_AugI, mFor_ap, ap_Rng1, ap_Rng2, rng1_ok, rng2_ok, ap_Iter, src_t, src_s, src_rL, ap_Comp, wipe_n, wipe_c, len_cons, len_nil, zip_cc, zip_nn, foldl_c, foldl_n, set_z, set_s, ite_t, ite_f, ite_T, ite_F, sing_lt, sing_eq, ty_r, ty_s, isS, cut_mid, decide_eq_true_eq, if_pos, if_neg]
  unfold den_is_row mFun body_is_row
  simp only [startE, List.map_cons, List.map_nil, List.length_cons, List.length_nil, List.cons_append, List.nil_append, Nat.zero_add, Nat.reduceAdd, Nat.reduceSub, List.replicate_succ, List.replicate_zero]
  have t0 := ap_TruB g0
  have t1 := ap_TruB g1
  unfold rowB
  cases hb : (xs.map fun z => decide (0 ≤ z)).all id with
  | false =>
    rw [hb] at t1
    simp (disch := first | omega | (simp only [List.length_append, List.length_cons, List.length_nil, List.length_set, List.length_drop, List.length_take, List.length_map]; omega)) only [t0, t1, Bool.not_true, Bool.not_false, Bool.false_and, mVar_z, Nat.reduceAdd, Nat.zero_add, Int.zero_add, Int.reduceAdd, Int.reduceSub, Int.reduceNeg, ap_Lst, ap_Tup, nil_app, cons_app, List.length_append, lst_last, mVar_s, ok_bnd, ok_stm, exc_bnd, ev_okE, exc_stm, ap_C, ap_Op, ap_Un, ap_B, ap_Chain, ap_asB, ap_And, ap_Or, ap_Not, ap_AndV, ap_OrV, ap_NotV, ap_If, ap_Nil, ap_Cons, ap_CB, ap_Meth, ap_Part, ap_NoPart, ap_Sl, ap_Yes, add_ii, add_ss, sub_ii, neg_i, mul_ii, fdiv_ii, mod_ii, eq_ii, ne_ii, eq_ss, ne_ss, lt_ii, le_ii, gt_ii, ge_ii, lt_ss, gt_ss, le_ss, ge_ss, len_s, len_t, abs_i, int_i, int_b, max_ii, min_ii, ix_s, ixL_0, ixL_1, ixL_2, ixL_3, ixL_n, ixL_i, ixL_st, setL_n, setL_i, List.length_map, List.length_set, ix_r, getL_r, ix_tL, withL_s, setL_0, setL_1, setL_2, set_r, app_r, lst_z, lst_s, iadd_ii, tuple_r, mul_ri, sl_s, sl_rol, sl_t, sl_r, cut_from, cut_to, ap_Seq, nx_seq, rt_seq, ct_seq, bk_seq, exc_seq, ap_Raise, ap_Skip, ap_Brk, ap_Cnt, ap_Drop, ap_Ret, ap_IfS, ap_Set, ap_Ts, ap_AsgT, tgT_t, tgTs_n, tgTs_c, ap_Aug, ap_SetI, ap_AugI, mFor_ap, ap_Rng1, ap_Rng2, rng1_ok, rng2_ok, ap_Iter, src_t, src_s, src_rL, ap_Comp, wipe_n, wipe_c, len_cons, len_nil, zip_cc, zip_nn, foldl_c, foldl_n, set_z, set_s, ite_t, ite_f, ite_T, ite_F, sing_lt, sing_eq, ty_r, ty_s, isS, cut_mid, decide_eq_true_eq, if_pos, if_neg]
  | true =>
    rw [hb] at t1
    simp (disch := first | omega | (simp only [List.length_append, List.length_cons, List.length_nil, List.length_set, List.length_drop, List.length_take, List.length_map]; omega)) only [t0, t1, Bool.not_true, Bool.not_false, g2, Bool.true_and, mVar_z, Nat.reduceAdd, Nat.zero_add, Int.zero_add, Int.reduceAdd, Int.reduceSub, Int.reduceNeg, ap_Lst, ap_Tup, nil_app, cons_app, List.length_append, lst_last, mVar_s, ok_bnd, ok_stm, exc_bnd, ev_okE, exc_stm, ap_C, ap_Op, ap_Un, ap_B, ap_Chain, ap_asB, ap_And, ap_Or, ap_Not, ap_AndV, ap_OrV, ap_NotV, ap_If, ap_Nil, ap_Cons, ap_CB, ap_Meth, ap_Part, ap_NoPart, ap_Sl, ap_Yes, add_ii, add_ss, sub_ii, neg_i, mul_ii, fdiv_ii, mod_ii, eq_ii, ne_ii, eq_ss, ne_ss, lt_ii, le_ii, gt_ii, ge_ii, lt_ss, gt_ss, le_ss, ge_ss, len_s, len_t, abs_i, int_i, int_b, max_ii, min_ii, ix_s, ixL_0, ixL_1, ixL_2, ixL_3, ixL_n, ixL_i, ixL_st, setL_n, setL_i, List.length_map, List.length_set, ix_r, getL_r, ix_tL, withL_s, setL_0, setL_1, setL_2, set_r, app_r, lst_z, lst_s, iadd_ii, tuple_r, mul_ri, sl_s, sl_rol, sl_t, sl_r, cut_from, cut_to, ap_Seq, nx_seq, rt_seq, ct_seq, bk_seq, exc_seq, ap_Raise, ap_Skip, ap_Brk, ap_Cnt, ap_Drop, ap_Ret, ap_IfS, ap_Set, ap_Ts, ap_AsgT, tgT_t, tgTs_n, tgTs_c, ap_Aug, ap_SetI, ap_AugI, mFor_ap, ap_Rng1, ap_Rng2, rng1_ok, rng2_ok, ap_Iter, src_t, src_s, src_rL, ap_Comp, wipe_n, wipe_c, len_cons, len_nil, zip_cc, zip_nn, foldl_c, foldl_n, set_z, set_s, ite_t, ite_f, ite_T, ite_F, sing_lt, sing_eq, ty_r, ty_s, isS, cut_mid, decide_eq_true_eq, if_pos, if_neg]
theorem rowB_ris {xs : List Int} (r : Rsg xs) (hb : ∀ z ∈ xs, 0 ≤ z) : rowB xs = true := by
  unfold rowB
  rw [Bool.and_eq_true, List.all_eq_true, List.all_eq_true]
  refine ⟨fun b hm => ?_, fun b hm => ?_⟩
  · obtain ⟨z, hz, rfl⟩ := List.mem_map.1 hm
    simpa using hb z hz
  · obtain ⟨k, hk, rfl⟩ := List.mem_map.1 hm
    have hk := List.mem_range.1 hk
    have := List.pairwise_iff_getElem.1 r k (k + 1) (by omega) (by omega) (by omega)
    rw [List.getD_eq_getElem?_getD, List.getElem?_eq_getElem (by omega), List.getD_eq_getElem?_getD, List.getElem?_eq_getElem (by omega)]
    simpa using this
theorem isrow_b (h : List O) : den_is_row [.tup [.bl true]] h = .ok (.bl false) h := by
  have eF : frzE h [some (.tup [.bl true]), none, none] = [some (.tup [.bl true]), none, none] := rfl
  have g0 : mIsiV "tuple" (mVar 0) [some (.tup [.bl true]), none, none] h = .ok (.bl true) h := isiV_of (x := .tup [.bl true]) rfl (by show ("tuple" : String) ≠ "?"; decide) kit_tt
  have g1 : mGenB false 2 (mGItems (mVar 0)) (mAndB (mIsi "int" (mVar 2)) (mAndB (mNotB (mIsi "bool" (mVar 2))) (mOp oGeI (mVar 2) (mC (.int 0))))) [some (.tup [.bl true]), none, none] h = .ok (.bl false) h := by
    refine genB_ev (any := false) (α := Bool) (l := [true]) (g := W.bl) (f := fun _ => false) (ap_GI rfl) fun z hz => elt_of (fw := .bl z) (h' := []) rfl ?_
    rw [eF]
    have i1 : mIsi "int" (mVar 2) [some (.tup [.bl true]), none, some (W.bl z)] [] = .ok (.bl true) [] := isi_of (x := .bl z) rfl kit_bi
    have i2 : mIsi "bool" (mVar 2) [some (.tup [.bl true]), none, some (W.bl z)] [] = .ok (.bl true) [] := isi_of (x := .bl z) rfl kit_bb
    show mAndB _ _ [some (.tup [.bl true]), none, some (W.bl z)] [] = _
    simp (disch := first | omega | (simp only [List.length_append, List.length_cons, List.length_nil, List.length_set, List.length_drop, List.length_take, List.length_map]; omega)) only [ap_AndB, ap_NotB, i1, i2, Bool.not_true, sv_nx, sv_rt, sv_ct, rnd_nx, rnd_ct, Int.toNat_natCast, ne_eq, eq_self, not_true_eq_false, not_false_eq_true, mVar_z, Nat.reduceAdd, Nat.zero_add, Int.zero_add, Int.reduceAdd, Int.reduceSub, Int.reduceNeg, ap_Lst, ap_Tup, nil_app, cons_app, List.length_append, lst_last, mVar_s, ok_bnd, ok_stm, exc_bnd, ev_okE, exc_stm, ap_C, ap_Op, ap_Un, ap_B, ap_Chain, ap_asB, ap_And, ap_Or, ap_Not, ap_AndV, ap_OrV, ap_NotV, ap_If, ap_Nil, ap_Cons, ap_CB, ap_Meth, ap_Part, ap_NoPart, ap_Sl, ap_Yes, add_ii, add_ss, sub_ii, neg_i, mul_ii, fdiv_ii, mod_ii, eq_ii, ne_ii, eq_ss, ne_ss, lt_ii, le_ii, gt_ii, ge_ii, lt_ss, gt_ss, le_ss, ge_ss, len_s, len_t, abs_i, int_i, int_b, max_ii, min_ii, ix_s, ixL_0, ixL_1, ixL_2, ixL_3, ixL_n, ixL_i, ixL_st, setL_n, setL_i, List.length_map, List.length_set, ix_r, getL_r, ix_tL, withL_s, setL_0, setL_1, setL_2, set_r, app_r, lst_z, lst_s, iadd_ii, tuple_r, mul_ri, sl_s, sl_rol, sl_t, sl_r, cut_from, cut_to, ap_Seq, nx_seq, rt_seq, ct_seq, bk_seq, exc_seq, ap_Raise, ap_Skip, ap_Brk, ap_Cnt, ap_Drop, ap_Ret, ap_IfS, ap_Set, ap_Ts, ap_AsgT, tgT_t, tgTs_n, tgTs_c, ap_Aug, ap_SetI, ap_AugI, mFor_ap, ap_Rng1, ap_Rng2, rng1_ok, rng2_ok, ap_Iter, src_t, src_s, src_rL, ap_Comp, wipe_n, wipe_c, len_cons, len_nil, zip_cc, zip_nn, foldl_c, foldl_n, set_z, set_s, ite_t, ite_f, ite_T, ite_F, sing_lt, sing_eq, ty_r, ty_s, isS, cut_mid, decide_eq_true_eq, if_pos, if_neg]
  have t0 := ap_TruB g0
  have t1 := ap_TruB g1
  unfold den_is_row mFun body_is_row
  simp only [startE, List.map_cons, List.map_nil, List.length_cons, List.length_nil, List.cons_append, List.nil_append, Nat.zero_add, Nat.reduceAdd, Nat.reduceSub, List.replicate_succ, List.replicate_zero]
  simp (disch := first | omega | (simp only [List.length_append, List.length_cons, List.length_nil, List.length_set, List.length_drop, List.length_take, List.length_map]; omega)) only [t0, t1, Bool.not_true, Bool.not_false, mVar_z, Nat.reduceAdd, Nat.zero_add, Int.zero_add, Int.reduceAdd, Int.reduceSub, Int.reduceNeg, ap_Lst, ap_Tup, nil_app, cons_app, List.length_append, lst_last, mVar_s, ok_bnd, ok_stm, exc_bnd, ev_okE, exc_stm, ap_C, ap_Op, ap_Un, ap_B, ap_Chain, ap_asB, ap_And, ap_Or, ap_Not, ap_AndV, ap_OrV, ap_NotV, ap_If, ap_Nil, ap_Cons, ap_CB, ap_Meth, ap_Part, ap_NoPart, ap_Sl, ap_Yes, add_ii, add_ss, sub_ii, neg_i, mul_ii, fdiv_ii, mod_ii, eq_ii, ne_ii, eq_ss, ne_ss, lt_ii, le_ii, gt_ii, ge_ii, lt_ss, gt_ss, le_ss, ge_ss, len_s, len_t, abs_i, int_i, int_b, max_ii, min_ii, ix_s, ixL_0, ixL_1, ixL_2, ixL_3, ixL_n, ixL_i, ixL_st, setL_n, setL_i, List.length_map, List.length_set, ix_r, getL_r, ix_tL, withL_s, setL_0, setL_1, setL_2, set_r, app_r, lst_z, lst_s, iadd_ii, tuple_r, mul_ri, sl_s, sl_rol, sl_t, sl_r, cut_from, cut_to, ap_Seq, nx_seq, rt_seq, ct_seq, bk_seq, exc_seq, ap_Raise, ap_Skip, ap_Brk, ap_Cnt, ap_Drop, ap_Ret, ap_IfS, ap_Set, ap_Ts, ap_AsgT, tgT_t, tgTs_n, tgTs_c, ap_Aug, ap_SetI, ap_AugI, mFor_ap, ap_Rng1, ap_Rng2, rng1_ok, rng2_ok, ap_Iter, src_t, src_s, src_rL, ap_Comp, wipe_n, wipe_c, len_cons, len_nil, zip_cc, zip_nn, foldl_c, foldl_n, set_z, set_s, ite_t, ite_f, ite_T, ite_F, sing_lt, sing_eq, ty_r, ty_s, isS, cut_mid, decide_eq_true_eq, if_pos, if_neg]
theorem isrow_l (h : List O) (q : Nat) (xs : List W) (hq : lstAt h q = some xs) : den_is_row [.ref q] h = .ok (.bl false) h := by
  have e1 : tyNm (.ref q) h = "list" := by unfold tyNm; dsimp only; rw [lstAt_some hq]
  have g0 : mIsiV "tuple" (mVar 0) [some (.ref q), none, none] h = .ok (.bl false) h := isiV_of (x := .ref q) rfl (by rw [e1]; decide) (by rw [e1]; exact kit_lt)
  have t0 := ap_TruB g0
  unfold den_is_row mFun body_is_row
  simp only [startE, List.map_cons, List.map_nil, List.length_cons, List.length_nil, List.cons_append, List.nil_append, Nat.zero_add, Nat.reduceAdd, Nat.reduceSub, List.replicate_succ, List.replicate_zero]
  simp (disch := first | omega | (simp only [List.length_append, List.length_cons, List.length_nil, List.length_set, List.length_drop, List.length_take, List.length_map]; omega)) only [t0, Bool.not_true, Bool.not_false, mVar_z, Nat.reduceAdd, Nat.zero_add, Int.zero_add, Int.reduceAdd, Int.reduceSub, Int.reduceNeg, ap_Lst, ap_Tup, nil_app, cons_app, List.length_append, lst_last, mVar_s, ok_bnd, ok_stm, exc_bnd, ev_okE, exc_stm, ap_C, ap_Op, ap_Un, ap_B, ap_Chain, ap_asB, ap_And, ap_Or, ap_Not, ap_AndV, ap_OrV, ap_NotV, ap_If, ap_Nil, ap_Cons, ap_CB, ap_Meth, ap_Part, ap_NoPart, ap_Sl, ap_Yes, add_ii, add_ss, sub_ii, neg_i, mul_ii, fdiv_ii, mod_ii, eq_ii, ne_ii, eq_ss, ne_ss, lt_ii, le_ii, gt_ii, ge_ii, lt_ss, gt_ss, le_ss, ge_ss, len_s, len_t, abs_i, int_i, int_b, max_ii, min_ii, ix_s, ixL_0, ixL_1, ixL_2, ixL_3, ixL_n, ixL_i, ixL_st, setL_n, setL_i, List.length_map, List.length_set, ix_r, getL_r, ix_tL, withL_s, setL_0, setL_1, setL_2, set_r, app_r, lst_z, lst_s, iadd_ii, tuple_r, mul_ri, sl_s, sl_rol, sl_t, sl_r, cut_from, cut_to, ap_Seq, nx_seq, rt_seq, ct_seq, bk_seq, exc_seq, ap_Raise, ap_Skip, ap_Brk, ap_Cnt, ap_Drop, ap_Ret, ap_IfS, ap_Set, ap_Ts, ap_AsgT, tgT_t, tgTs_n, tgTs_c, ap_Aug, ap_SetI, ap_AugI, mFor_ap, ap_Rng1, ap_Rng2, rng1_ok, rng2_ok, ap_Iter, src_t, src_s, src_rL, ap_Comp, wipe_n, wipe_c, len_cons, len_nil, zip_cc, zip_nn, foldl_c, foldl_n, set_z, set_s, ite_t, ite_f, ite_T, ite_F, sing_lt, sing_eq, ty_r, ty_s, isS, cut_mid, decide_eq_true_eq, if_pos, if_neg]
theorem isrow_n (h : List O) : den_is_row [.non] h = .ok (.bl false) h := by
  have g0 : mIsiV "tuple" (mVar 0) [some .non, none, none] h = .ok (.bl false) h := isiV_of (x := .non) rfl (by show ("NoneType" : String) ≠ "?"; decide) kit_nt
  have t0 := ap_TruB g0
  unfold den_is_row mFun body_is_row
  simp only [startE, List.map_cons, List.map_nil, List.length_cons, List.length_nil, List.cons_append, List.nil_append, Nat.zero_add, Nat.reduceAdd, Nat.reduceSub, List.replicate_succ, List.replicate_zero]
  simp (disch := first | omega | (simp only [List.length_append, List.length_cons, List.length_nil, List.length_set, List.length_drop, List.length_take, List.length_map]; omega)) only [t0, Bool.not_true, Bool.not_false, mVar_z, Nat.reduceAdd, Nat.zero_add, Int.zero_add, Int.reduceAdd, Int.reduceSub, Int.reduceNeg, ap_Lst, ap_Tup, nil_app, cons_app, List.length_append, lst_last, mVar_s, ok_bnd, ok_stm, exc_bnd, ev_okE, exc_stm, ap_C, ap_Op, ap_Un, ap_B, ap_Chain, ap_asB, ap_And, ap_Or, ap_Not, ap_AndV, ap_OrV, ap_NotV, ap_If, ap_Nil, ap_Cons, ap_CB, ap_Meth, ap_Part, ap_NoPart, ap_Sl, ap_Yes, add_ii, add_ss, sub_ii, neg_i, mul_ii, fdiv_ii, mod_ii, eq_ii, ne_ii, eq_ss, ne_ss, lt_ii, le_ii, gt_ii, ge_ii, lt_ss, gt_ss, le_ss, ge_ss, len_s, len_t, abs_i, int_i, int_b, max_ii, min_ii, ix_s, ixL_0, ixL_1, ixL_2, ixL_3, ixL_n, ixL_i, ixL_st, setL_n, setL_i, List.length_map, List.length_set, ix_r, getL_r, ix_tL, withL_s, setL_0, setL_1, setL_2, set_r, app_r, lst_z, lst_s, iadd_ii, tuple_r, mul_ri, sl_s, sl_rol, sl_t, sl_r, cut_from, cut_to, ap_Seq, nx_seq, rt_seq, ct_seq, bk_seq, exc_seq, ap_Raise, ap_Skip, ap_Brk, ap_Cnt, ap_Drop, ap_Ret, ap_IfS, ap_Set, ap_Ts, ap_AsgT, tgT_t, tgTs_n, tgTs_c, ap_Aug, ap_SetI, ap_AugI, mFor_ap, ap_Rng1, ap_Rng2, rng1_ok, rng2_ok, ap_Iter, src_t, src_s, src_rL, ap_Comp, wipe_n, wipe_c, len_cons, len_nil, zip_cc, zip_nn, foldl_c, foldl_n, set_z, set_s, ite_t, ite_f, ite_T, ite_F, sing_lt, sing_eq, ty_r, ty_s, isS, cut_mid, decide_eq_true_eq, if_pos, if_neg]
theorem check_bad {w : W} {h : List O} (e : den_is_row [w] h = .ok (.bl false) h) : den_check_row [w] h = .exc 1 none h := by
  have t0 : mTru (mCB (fun ws h => if ws.length = 1 then den_is_row ws h else .bad) (mCons (mVar 0) (mNil))) [some w] h = .ok false h := ap_TruB (by simp (disch := first | omega | (simp only [List.length_append, List.length_cons, List.length_nil, List.length_set, List.length_drop, List.length_take, List.length_map]; omega)) only [e, mVar_z, Nat.reduceAdd, Nat.zero_add, Int.zero_add, Int.reduceAdd, Int.reduceSub, Int.reduceNeg, ap_Lst, ap_Tup, nil_app, cons_app, List.length_append, lst_last, mVar_s, ok_bnd, ok_stm, exc_bnd, ev_okE, exc_stm, ap_C, ap_Op, ap_Un, ap_B, ap_Chain, ap_asB, ap_And, ap_Or, ap_Not, ap_AndV, ap_OrV, ap_NotV, ap_If, ap_Nil, ap_Cons, ap_CB, ap_Meth, ap_Part, ap_NoPart, ap_Sl, ap_Yes, add_ii, add_ss, sub_ii, neg_i, mul_ii, fdiv_ii, mod_ii, eq_ii, ne_ii, eq_ss, ne_ss, lt_ii, le_ii, gt_ii, ge_ii, lt_ss, gt_ss, le_ss, ge_ss, len_s, len_t, abs_i, int_i, int_b, max_ii, min_ii, ix_s, ixL_0, ixL_1, ixL_2, ixL_3, ixL_n, ixL_i, ixL_st, setL_n, setL_i, List.length_map, List.length_set, ix_r, getL_r, ix_tL, withL_s, setL_0, setL_1, setL_2, set_r, app_r, lst_z, lst_s, iadd_ii, tuple_r, mul_ri, sl_s, sl_rol, sl_t, sl_r, cut_from, cut_to, ap_Seq, nx_seq, rt_seq, ct_seq, bk_seq, exc_seq, ap_Raise, ap_Skip, ap_Brk, ap_Cnt, ap_Drop, ap_Ret, ap_IfS, ap_Set, ap_Ts, ap_AsgT, tgT_t, tgTs_n, tgTs_c, ap_Aug, ap_SetI, ap_AugI, mFor_ap, ap_Rng1, ap_Rng2, rng1_ok, rng2_ok, ap_Iter, src_t, src_s, src_rL, ap_Comp, wipe_n, wipe_c, len_cons, len_nil, zip_cc, zip_nn, foldl_c, foldl_n, set_z, set_s, ite_t, ite_f, ite_T, ite_F, sing_lt, sing_eq, ty_r, ty_s, isS, cut_mid, decide_eq_true_eq, if_pos, if_neg])
  unfold den_check_row mFun body_check_row
  simp only [startE, List.map_cons, List.map_nil, List.length_cons, List.length_nil, List.cons_append, List.nil_append, Nat.zero_add, Nat.reduceAdd, Nat.reduceSub, List.replicate_succ, List.replicate_zero]
  simp (disch := first | omega | (simp only [List.length_append, List.length_cons, List.length_nil, List.length_set, List.length_drop, List.length_take, List.length_map]; omega)) only [t0, Bool.not_false, mVar_z, Nat.reduceAdd, Nat.zero_add, Int.zero_add, Int.reduceAdd, Int.reduceSub, Int.reduceNeg, ap_Lst, ap_Tup, nil_app, cons_app, List.length_append, lst_last, mVar_s, ok_bnd, ok_stm, exc_bnd, ev_okE, exc_stm, ap_C, ap_Op, ap_Un, ap_B, ap_Chain, ap_asB, ap_And, ap_Or, ap_Not, ap_AndV, ap_OrV, ap_NotV, ap_If, ap_Nil, ap_Cons, ap_CB, ap_Meth, ap_Part, ap_NoPart, ap_Sl, ap_Yes, add_ii, add_ss, sub_ii, neg_i, mul_ii, fdiv_ii, mod_ii, eq_ii, ne_ii, eq_ss, ne_ss, lt_ii, le_ii, gt_ii, ge_ii, lt_ss, gt_ss, le_ss, ge_ss, len_s, len_t, abs_i, int_i, int_b, max_ii, min_ii, ix_s, ixL_0, ixL_1, ixL_2, ixL_3, ixL_n, ixL_i, ixL_st, setL_n, setL_i, List.length_map, List.length_set, ix_r, getL_r, ix_tL, withL_s, setL_0, setL_1, setL_2, set_r, app_r, lst_z, lst_s, iadd_ii, tuple_r, mul_ri, sl_s, sl_rol, sl_t, sl_r, cut_from, cut_to, ap_Seq, nx_seq, rt_seq, ct_seq, bk_seq, exc_seq, ap_Raise, ap_Skip, ap_Brk, ap_Cnt, ap_Drop, ap_Ret, ap_IfS, ap_Set, ap_Ts, ap_AsgT, tgT_t, tgTs_n, tgTs_c, ap_Aug, ap_SetI, ap_AugI, mFor_ap, ap_Rng1, ap_Rng2, rng1_ok, rng2_ok, ap_Iter, src_t, src_s, src_rL, ap_Comp, wipe_n, wipe_c, len_cons, len_nil, zip_cc, zip_nn, foldl_c, foldl_n, set_z, set_s, ite_t, ite_f, ite_T, ite_F, sing_lt, sing_eq, ty_r, ty_s, isS, cut_mid, decide_eq_true_eq, if_pos, if_neg]
end Law_indexhall_k04_rising_rows
set_option maxRecDepth 100000
namespace Law_indexhall_k04_rising_rows
open PySem L2 Den
theorem rounds_eq {ws : List W} {h : List O} : den_law_rounds ws h = mFun 4 bodyRounds ws h := rfl
theorem roll_eq {ws : List W} {h : List O} : den_law_roll ws h = mFun 3 bodyRoll ws h := rfl
/-- a drawn row -/
def Row (xs : List Int) : Prop := Rsg xs ∧ xs.length ≤ 12 ∧ ∀ z ∈ xs, 0 ≤ z ∧ z < 30
theorem Row.le {xs : List Int} (R : Row xs) : xs.length ≤ 1000 := by have := R.2.1; omega
theorem row_Ev {N : Nat} {h : List O} {ps : List Nat} {q : Nat} (D : DH N h ps) (hq : q ∈ ps) (hN : N < 1000000) : Ev (den_law_row [.ref q, .int 30, .int 12] h) fun w h' => ∃ xs, w = T xs ∧ Row xs ∧ DH (N + 30) h' ps ∧ Fr ps h h' := by
  have hlp : h.length ∉ ps := fun x => by have := D.lt x; omega
  refine fun_ev ?_
  unfold body_law_row
  simp only [startE, List.map_cons, List.map_nil, List.length_cons, List.length_nil, List.cons_append, List.nil_append, Nat.zero_add, Nat.reduceAdd, Nat.reduceSub, List.replicate_succ, List.replicate_zero]
  simp (disch := first | omega | (simp only [List.length_append, List.length_cons, List.length_nil, List.length_set, List.length_drop, List.length_take, List.length_map]; omega)) only [mVar_z, Nat.reduceAdd, Nat.zero_add, Int.zero_add, Int.reduceAdd, Int.reduceSub, Int.reduceNeg, ap_Lst, ap_Tup, nil_app, cons_app, List.length_append, lst_last, mVar_s, ok_bnd, ok_stm, exc_bnd, ev_okE, exc_stm, ap_C, ap_Op, ap_Un, ap_B, ap_Chain, ap_asB, ap_And, ap_Or, ap_Not, ap_AndV, ap_OrV, ap_NotV, ap_If, ap_Nil, ap_Cons, ap_CB, ap_Meth, ap_Part, ap_NoPart, ap_Sl, ap_Yes, add_ii, add_ss, sub_ii, neg_i, mul_ii, fdiv_ii, mod_ii, eq_ii, ne_ii, eq_ss, ne_ss, lt_ii, le_ii, gt_ii, ge_ii, lt_ss, gt_ss, le_ss, ge_ss, len_s, len_t, abs_i, int_i, int_b, max_ii, min_ii, ix_s, ixL_0, ixL_1, ixL_2, ixL_3, ixL_n, ixL_i, ixL_st, setL_n, setL_i, List.length_map, List.length_set, ix_r, getL_r, ix_tL, withL_s, setL_0, setL_1, setL_2, set_r, app_r, lst_z, lst_s, iadd_ii, tuple_r, mul_ri, sl_s, sl_rol, sl_t, sl_r, cut_from, cut_to, ap_Seq, nx_seq, rt_seq, ct_seq, bk_seq, exc_seq, ap_Raise, ap_Skip, ap_Brk, ap_Cnt, ap_Drop, ap_Ret, ap_IfS, ap_Set, ap_Ts, ap_AsgT, tgT_t, tgTs_n, tgTs_c, ap_Aug, ap_SetI, ap_AugI, mFor_ap, ap_Rng1, ap_Rng2, rng1_ok, rng2_ok, ap_Iter, src_t, src_s, src_rL, ap_Comp, wipe_n, wipe_c, len_cons, len_nil, zip_cc, zip_nn, foldl_c, foldl_n, set_z, set_s, ite_t, ite_f, ite_T, ite_F, sing_lt, sing_eq, ty_r, ty_s, isS, cut_mid, decide_eq_true_eq, if_pos, if_neg]
  refine sv_cut (R' := fun o => ∃ (fd : List Int) (a : Option W) (hh : List O), o = SOut.nx [some (.ref q), some (.int 30), some (.int 12), some (.ref h.length), a] hh ∧ lstAt hh h.length = some (fd.map .int) ∧ Row fd ∧ DH (N + 30) hh ps ∧ Fr ps h hh) ?_ ?_
  · refine forGo_rng 30 0 4 (fun i e hh => ∃ (fd : List Int) (a : Option W), e = [some (.ref q), some (.int 30), some (.int 12), some (.ref h.length), a] ∧ lstAt hh h.length = some (fd.map .int) ∧ Rsg fd ∧ (∀ z ∈ fd, 0 ≤ z ∧ z < i) ∧ fd.length ≤ 12 ∧ DH (N + i) hh ps ∧ Fr ps h hh) (by omega) ⟨[], none, rfl, lst_last, List.Pairwise.nil, by simp, by simp, by simpa using D.gr Gr.app, Fr.of Gr.app⟩ ?_ ?_
    · rintro i e hh hi ⟨fd, a, rfl, hl, r, hz, hf, D1, F1⟩
      have hlen := len_r hl
      rw [List.length_map] at hlen
      by_cases h1 : fd.length < 12
      · obtain ⟨w1, h2, e1, x, rfl, x0, x1, D2, F2⟩ := ev_get (roll_Ev (many := 3) D1 hq (by omega) (by omega) (by omega))
        rw [← roll_eq] at e1
        have hl2 := F2.lst hlp hl
        by_cases hx : x = 0
        · simp (disch := first | omega | (simp only [List.length_append, List.length_cons, List.length_nil, List.length_set, List.length_drop, List.length_take, List.length_map]; omega)) only [hlen, e1, hl2, sv_nx, sv_rt, sv_ct, rnd_nx, rnd_ct, Int.toNat_natCast, ne_eq, eq_self, not_true_eq_false, not_false_eq_true, mVar_z, Nat.reduceAdd, Nat.zero_add, Int.zero_add, Int.reduceAdd, Int.reduceSub, Int.reduceNeg, ap_Lst, ap_Tup, nil_app, cons_app, List.length_append, lst_last, mVar_s, ok_bnd, ok_stm, exc_bnd, ev_okE, exc_stm, ap_C, ap_Op, ap_Un, ap_B, ap_Chain, ap_asB, ap_And, ap_Or, ap_Not, ap_AndV, ap_OrV, ap_NotV, ap_If, ap_Nil, ap_Cons, ap_CB, ap_Meth, ap_Part, ap_NoPart, ap_Sl, ap_Yes, add_ii, add_ss, sub_ii, neg_i, mul_ii, fdiv_ii, mod_ii, eq_ii, ne_ii, eq_ss, ne_ss, lt_ii, le_ii, gt_ii, ge_ii, lt_ss, gt_ss, le_ss, ge_ss, len_s, len_t, abs_i, int_i, int_b, max_ii, min_ii, ix_s, ixL_0, ixL_1, ixL_2, ixL_3, ixL_n, ixL_i, ixL_st, setL_n, setL_i, List.length_map, List.length_set, ix_r, getL_r, ix_tL, withL_s, setL_0, setL_1, setL_2, set_r, app_r, lst_z, lst_s, iadd_ii, tuple_r, mul_ri, sl_s, sl_rol, sl_t, sl_r, cut_from, cut_to, ap_Seq, nx_seq, rt_seq, ct_seq, bk_seq, exc_seq, ap_Raise, ap_Skip, ap_Brk, ap_Cnt, ap_Drop, ap_Ret, ap_IfS, ap_Set, ap_Ts, ap_AsgT, tgT_t, tgTs_n, tgTs_c, ap_Aug, ap_SetI, ap_AugI, mFor_ap, ap_Rng1, ap_Rng2, rng1_ok, rng2_ok, ap_Iter, src_t, src_s, src_rL, ap_Comp, wipe_n, wipe_c, len_cons, len_nil, zip_cc, zip_nn, foldl_c, foldl_n, set_z, set_s, ite_t, ite_f, ite_T, ite_F, sing_lt, sing_eq, ty_r, ty_s, isS, cut_mid, decide_eq_true_eq, if_pos, if_neg]
          refine ⟨fd ++ [(i : Int)], some (.int i), by simp, ?_, r.snoc fun z hzm => (hz z hzm).2, fun z hzm => ?_, by simp; omega, ?_, ?_⟩
          · rw [lst_set (lst_lt hl2), List.map_append]; rfl
          · rcases List.mem_append.1 hzm with e | e
            · have := hz z e; omega
            · rw [List.mem_singleton.1 e]; omega
          · exact D2.set hlp
          · exact (F1.trans F2).set (Nat.le_refl _)
        · simp (disch := first | omega | (simp only [List.length_append, List.length_cons, List.length_nil, List.length_set, List.length_drop, List.length_take, List.length_map]; omega)) only [hlen, e1, hl2, sv_nx, sv_rt, sv_ct, rnd_nx, rnd_ct, Int.toNat_natCast, ne_eq, eq_self, not_true_eq_false, not_false_eq_true, mVar_z, Nat.reduceAdd, Nat.zero_add, Int.zero_add, Int.reduceAdd, Int.reduceSub, Int.reduceNeg, ap_Lst, ap_Tup, nil_app, cons_app, List.length_append, lst_last, mVar_s, ok_bnd, ok_stm, exc_bnd, ev_okE, exc_stm, ap_C, ap_Op, ap_Un, ap_B, ap_Chain, ap_asB, ap_And, ap_Or, ap_Not, ap_AndV, ap_OrV, ap_NotV, ap_If, ap_Nil, ap_Cons, ap_CB, ap_Meth, ap_Part, ap_NoPart, ap_Sl, ap_Yes, add_ii, add_ss, sub_ii, neg_i, mul_ii, fdiv_ii, mod_ii, eq_ii, ne_ii, eq_ss, ne_ss, lt_ii, le_ii, gt_ii, ge_ii, lt_ss, gt_ss, le_ss, ge_ss, len_s, len_t, abs_i, int_i, int_b, max_ii, min_ii, ix_s, ixL_0, ixL_1, ixL_2, ixL_3, ixL_n, ixL_i, ixL_st, setL_n, setL_i, List.length_map, List.length_set, ix_r, getL_r, ix_tL, withL_s, setL_0, setL_1, setL_2, set_r, app_r, lst_z, lst_s, iadd_ii, tuple_r, mul_ri, sl_s, sl_rol, sl_t, sl_r, cut_from, cut_to, ap_Seq, nx_seq, rt_seq, ct_seq, bk_seq, exc_seq, ap_Raise, ap_Skip, ap_Brk, ap_Cnt, ap_Drop, ap_Ret, ap_IfS, ap_Set, ap_Ts, ap_AsgT, tgT_t, tgTs_n, tgTs_c, ap_Aug, ap_SetI, ap_AugI, mFor_ap, ap_Rng1, ap_Rng2, rng1_ok, rng2_ok, ap_Iter, src_t, src_s, src_rL, ap_Comp, wipe_n, wipe_c, len_cons, len_nil, zip_cc, zip_nn, foldl_c, foldl_n, set_z, set_s, ite_t, ite_f, ite_T, ite_F, sing_lt, sing_eq, ty_r, ty_s, isS, cut_mid, decide_eq_true_eq, if_pos, if_neg]
          exact ⟨fd, some (.int i), by simp, by first | exact hl2 | rfl, r, fun z hzm => by have := hz z hzm; omega, hf, D2, F1.trans F2⟩
      · simp (disch := first | omega | (simp only [List.length_append, List.length_cons, List.length_nil, List.length_set, List.length_drop, List.length_take, List.length_map]; omega)) only [hlen, sv_nx, sv_rt, sv_ct, rnd_nx, rnd_ct, Int.toNat_natCast, ne_eq, eq_self, not_true_eq_false, not_false_eq_true, mVar_z, Nat.reduceAdd, Nat.zero_add, Int.zero_add, Int.reduceAdd, Int.reduceSub, Int.reduceNeg, ap_Lst, ap_Tup, nil_app, cons_app, List.length_append, lst_last, mVar_s, ok_bnd, ok_stm, exc_bnd, ev_okE, exc_stm, ap_C, ap_Op, ap_Un, ap_B, ap_Chain, ap_asB, ap_And, ap_Or, ap_Not, ap_AndV, ap_OrV, ap_NotV, ap_If, ap_Nil, ap_Cons, ap_CB, ap_Meth, ap_Part, ap_NoPart, ap_Sl, ap_Yes, add_ii, add_ss, sub_ii, neg_i, mul_ii, fdiv_ii, mod_ii, eq_ii, ne_ii, eq_ss, ne_ss, lt_ii, le_ii, gt_ii, ge_ii, lt_ss, gt_ss, le_ss, ge_ss, len_s, len_t, abs_i, int_i, int_b, max_ii, min_ii, ix_s, ixL_0, ixL_1, ixL_2, ixL_3, ixL_n, ixL_i, ixL_st, setL_n, setL_i, List.length_map, List.length_set, ix_r, getL_r, ix_tL, withL_s, setL_0, setL_1, setL_2, set_r, app_r, lst_z, lst_s, iadd_ii, tuple_r, mul_ri, sl_s, sl_rol, sl_t, sl_r, cut_from, cut_to, ap_Seq, nx_seq, rt_seq, ct_seq, bk_seq, exc_seq, ap_Raise, ap_Skip, ap_Brk, ap_Cnt, ap_Drop, ap_Ret, ap_IfS, ap_Set, ap_Ts, ap_AsgT, tgT_t, tgTs_n, tgTs_c, ap_Aug, ap_SetI, ap_AugI, mFor_ap, ap_Rng1, ap_Rng2, rng1_ok, rng2_ok, ap_Iter, src_t, src_s, src_rL, ap_Comp, wipe_n, wipe_c, len_cons, len_nil, zip_cc, zip_nn, foldl_c, foldl_n, set_z, set_s, ite_t, ite_f, ite_T, ite_F, sing_lt, sing_eq, ty_r, ty_s, isS, cut_mid, decide_eq_true_eq, if_pos, if_neg]
        exact ⟨fd, some (.int i), by simp, hl, r, fun z hzm => by have := hz z hzm; omega, hf, D1.mono (by omega), F1⟩
    · rintro e hh ⟨fd, a, rfl, hl, r, hz, hf, D1, F1⟩
      exact ⟨fd, a, hh, rfl, hl, ⟨r, by omega, fun z hzm => by have := hz z hzm; omega⟩, D1, F1⟩
  · rintro o ⟨fd, a, hh, rfl, hl, R, D1, F1⟩
    simp (disch := first | omega | (simp only [List.length_append, List.length_cons, List.length_nil, List.length_set, List.length_drop, List.length_take, List.length_map]; omega)) only [hl, sv_nx, sv_rt, sv_ct, rnd_nx, rnd_ct, Int.toNat_natCast, ne_eq, eq_self, not_true_eq_false, not_false_eq_true, mVar_z, Nat.reduceAdd, Nat.zero_add, Int.zero_add, Int.reduceAdd, Int.reduceSub, Int.reduceNeg, ap_Lst, ap_Tup, nil_app, cons_app, List.length_append, lst_last, mVar_s, ok_bnd, ok_stm, exc_bnd, ev_okE, exc_stm, ap_C, ap_Op, ap_Un, ap_B, ap_Chain, ap_asB, ap_And, ap_Or, ap_Not, ap_AndV, ap_OrV, ap_NotV, ap_If, ap_Nil, ap_Cons, ap_CB, ap_Meth, ap_Part, ap_NoPart, ap_Sl, ap_Yes, add_ii, add_ss, sub_ii, neg_i, mul_ii, fdiv_ii, mod_ii, eq_ii, ne_ii, eq_ss, ne_ss, lt_ii, le_ii, gt_ii, ge_ii, lt_ss, gt_ss, le_ss, ge_ss, len_s, len_t, abs_i, int_i, int_b, max_ii, min_ii, ix_s, ixL_0, ixL_1, ixL_2, ixL_3, ixL_n, ixL_i, ixL_st, setL_n, setL_i, List.length_map, List.length_set, ix_r, getL_r, ix_tL, withL_s, setL_0, setL_1, setL_2, set_r, app_r, lst_z, lst_s, iadd_ii, tuple_r, mul_ri, sl_s, sl_rol, sl_t, sl_r, cut_from, cut_to, ap_Seq, nx_seq, rt_seq, ct_seq, bk_seq, exc_seq, ap_Raise, ap_Skip, ap_Brk, ap_Cnt, ap_Drop, ap_Ret, ap_IfS, ap_Set, ap_Ts, ap_AsgT, tgT_t, tgTs_n, tgTs_c, ap_Aug, ap_SetI, ap_AugI, mFor_ap, ap_Rng1, ap_Rng2, rng1_ok, rng2_ok, ap_Iter, src_t, src_s, src_rL, ap_Comp, wipe_n, wipe_c, len_cons, len_nil, zip_cc, zip_nn, foldl_c, foldl_n, set_z, set_s, ite_t, ite_f, ite_T, ite_F, sing_lt, sing_eq, ty_r, ty_s, isS, cut_mid, decide_eq_true_eq, if_pos, if_neg]
    exact ⟨fd, rfl, R, D1, F1⟩
theorem picksI_rsg (N : Nat) (lo : Int) (c : Nat → Bool) : Rsg (picksI N lo c) := by
  unfold picksI Rsg
  rw [List.pairwise_map]
  refine List.Pairwise.imp (R := (· < ·)) (fun {a b} h => by omega) ?_
  exact List.Pairwise.sublist List.filter_sublist List.pairwise_lt_range
def cnt3 (xs ys zs : List Int) (z : Int) : Nat := ([xs, ys, zs].filter fun r => decide (z ∈ r)).length
theorem Rsg.count {l : List Int} (r : Rsg l) (z : Int) : l.count z = if z ∈ l then 1 else 0 := by
  have hn : l.Nodup := r.imp fun h => by omega
  by_cases hz : z ∈ l
  · rw [if_pos hz]
    have h1 := List.nodup_iff_count.1 hn z
    have h2 := List.count_pos_iff.2 hz
    omega
  · rw [if_neg hz, List.count_eq_zero.2 hz]
theorem count3 {xs ys zs : List Int} (R1 : Row xs) (R2 : Row ys) (R3 : Row zs) (z : Int) : [xs, ys, zs].flatten.count z = cnt3 xs ys zs z := by
  simp only [List.flatten_cons, List.flatten_nil, List.append_nil, List.count_append]
  rw [Rsg.count R1.1, Rsg.count R2.1, Rsg.count R3.1]
  unfold cnt3
  by_cases h1 : z ∈ xs <;> by_cases h2 : z ∈ ys <;> by_cases h3 : z ∈ zs <;> simp [h1, h2, h3]
def gaps (xs ys : List Int) : List Int := xs.flatMap fun a => ys.map fun b => gp a b
theorem mem_gaps {xs ys : List Int} {g : Int} : g ∈ gaps xs ys ↔ ∃ x ∈ xs, ∃ y ∈ ys, g = gp x y := by
  unfold gaps
  simp only [List.mem_flatMap, List.mem_map]
  exact ⟨fun ⟨x, hx, y, hy, e⟩ => ⟨x, hx, y, hy, e.symm⟩, fun ⟨x, hx, y, hy, e⟩ => ⟨x, hx, y, hy, e.symm⟩⟩
theorem T_pure (l : List Int) : pureW (T l) = true := pure_ints l
theorem both_all {xs ys : List Int} (R : Row xs) (R' : Row ys) : ∀ h, pureRun den_both 2 [T xs, T ys] h = .ok (T (both2 xs ys)) h := by
  obtain ⟨w, rfl, hw⟩ := pure_all (P := fun w => w = T (both2 xs ys)) rfl (by simp [pureWs, pureW, pure_ints]) (both_ev xs ys R.1 R'.1 R.le R'.le)
  exact hw
theorem either_all {xs ys : List Int} (R : Row xs) (R' : Row ys) : ∃ zs, (Rsg zs ∧ ∀ z, z ∈ zs ↔ (z ∈ xs ∨ z ∈ ys)) ∧ ∀ h, pureRun den_either 2 [T xs, T ys] h = .ok (T zs) h := by
  obtain ⟨w, ⟨zs, rfl, h1⟩, hw⟩ := pure_all (P := fun w => ∃ zs, w = T zs ∧ (Rsg zs ∧ ∀ z, z ∈ zs ↔ (z ∈ xs ∨ z ∈ ys))) rfl (by simp [pureWs, pureW, pure_ints]) (either_ev xs ys R.1 R'.1 R.le R'.le)
  exact ⟨zs, h1, hw⟩
theorem less_all {xs ys : List Int} (R : Row xs) (R' : Row ys) : ∀ h, pureRun den_less 2 [T xs, T ys] h = .ok (T (xs.filter fun z => decide (z ∉ ys))) h := by
  obtain ⟨w, rfl, hw⟩ := pure_all (P := fun w => w = T (xs.filter fun z => decide (z ∉ ys))) rfl (by simp [pureWs, pureW, pure_ints]) (less_ev xs ys R.1 R'.1 R.le R'.le)
  exact hw
theorem place_all {xs : List Int} (R : Row xs) (n : Int) : ∀ h, pureRun den_place_of 2 [T xs, .int n] h = .ok (.int (cntB xs n)) h := by
  obtain ⟨w, rfl, hw⟩ := pure_all (P := fun w => w = .int (cntB xs n)) rfl (by simp [pureWs, pureW, pure_ints]) (place_ev xs n R.1 R.le)
  exact hw
theorem near_all {xs ys : List Int} (R : Row xs) (R' : Row ys) : ∃ o, ((∀ m, o = some m → ∃ x ∈ xs, ∃ y ∈ ys, m = gp x y) ∧ ∀ x ∈ xs, ∀ y ∈ ys, ∃ m, o = some m ∧ m ≤ gp x y) ∧ ∀ h, pureRun den_nearest_pair 2 [T xs, T ys] h = .ok (bW o) h := by
  obtain ⟨w, ⟨o, rfl, h1⟩, hw⟩ := pure_all (P := fun w => ∃ o, w = bW o ∧ ((∀ m, o = some m → ∃ x ∈ xs, ∃ y ∈ ys, m = gp x y) ∧ ∀ x ∈ xs, ∀ y ∈ ys, ∃ m, o = some m ∧ m ≤ gp x y)) rfl (by simp [pureWs, pureW, pure_ints]) (nearest_ev xs ys R.1 R'.1 R.le R'.le)
  exact ⟨o, h1, hw⟩
theorem lspans_all {xs : List Int} (R : Row xs) : ∀ h, pureRun den_law_spans 1 [T xs] h = .ok (.bl true) h := by
  obtain ⟨w, rfl, hw⟩ := pure_all (P := fun w => w = .bl true) rfl (by simp [pureWs, pureW, pure_ints]) (lspans_ev xs R.1 R.le R.2.2)
  exact hw
theorem isrow_all {xs : List Int} (R : Row xs) : ∀ h, den_is_row [T xs] h = .ok (.bl true) h := fun h => by
  rw [isrow_ev xs h R.le, rowB_ris R.1 fun z hz => (R.2.2 z hz).1]
theorem main2 (ns : List Int) (hl : ns.length ≤ 63) (hb : ∀ z ∈ ns, Builtin.Int.intBits z ≤ 1048576) : ∃ h', den_law [scriptW ns] [] = .ok (.bl true) h' := by
  suffices hS : Ev (den_law [scriptW ns] []) fun w _ => w = .bl true by
    obtain ⟨w, h', e, rfl⟩ := ev_get hS
    exact ⟨h', e⟩
  refine fun_ev ?_
  unfold body_law
  simp only [startE, List.map_cons, List.map_nil, List.length_cons, List.length_nil, List.cons_append, List.nil_append, Nat.zero_add, Nat.reduceAdd, Nat.reduceSub, List.replicate_succ, List.replicate_zero]
  obtain ⟨w0, h0, e0, p, ps, rfl, hp, hne, hpl, hpp, D0⟩ := ev_get (rounds_Ev (most := 4) (by omega) hl (fun z hz => bits_AB (hb z hz)))
  rw [← rounds_eq] at e0
  simp (disch := first | omega | (simp only [List.length_append, List.length_cons, List.length_nil, List.length_set, List.length_drop, List.length_take, List.length_map]; omega)) only [e0, hpp, mVar_z, Nat.reduceAdd, Nat.zero_add, Int.zero_add, Int.reduceAdd, Int.reduceSub, Int.reduceNeg, ap_Lst, ap_Tup, nil_app, cons_app, List.length_append, lst_last, mVar_s, ok_bnd, ok_stm, exc_bnd, ev_okE, exc_stm, ap_C, ap_Op, ap_Un, ap_B, ap_Chain, ap_asB, ap_And, ap_Or, ap_Not, ap_AndV, ap_OrV, ap_NotV, ap_If, ap_Nil, ap_Cons, ap_CB, ap_Meth, ap_Part, ap_NoPart, ap_Sl, ap_Yes, add_ii, add_ss, sub_ii, neg_i, mul_ii, fdiv_ii, mod_ii, eq_ii, ne_ii, eq_ss, ne_ss, lt_ii, le_ii, gt_ii, ge_ii, lt_ss, gt_ss, le_ss, ge_ss, len_s, len_t, abs_i, int_i, int_b, max_ii, min_ii, ix_s, ixL_0, ixL_1, ixL_2, ixL_3, ixL_n, ixL_i, ixL_st, setL_n, setL_i, List.length_map, List.length_set, ix_r, getL_r, ix_tL, withL_s, setL_0, setL_1, setL_2, set_r, app_r, lst_z, lst_s, iadd_ii, tuple_r, mul_ri, sl_s, sl_rol, sl_t, sl_r, cut_from, cut_to, ap_Seq, nx_seq, rt_seq, ct_seq, bk_seq, exc_seq, ap_Raise, ap_Skip, ap_Brk, ap_Cnt, ap_Drop, ap_Ret, ap_IfS, ap_Set, ap_Ts, ap_AsgT, tgT_t, tgTs_n, tgTs_c, ap_Aug, ap_SetI, ap_AugI, mFor_ap, ap_Rng1, ap_Rng2, rng1_ok, rng2_ok, ap_Iter, src_t, src_s, src_rL, ap_Comp, wipe_n, wipe_c, len_cons, len_nil, zip_cc, zip_nn, foldl_c, foldl_n, set_z, set_s, ite_t, ite_f, ite_T, ite_F, sing_lt, sing_eq, ty_r, ty_s, isS, cut_mid, decide_eq_true_eq, if_pos, if_neg]
  refine sv_cut (R' := fun o => ∃ e h, o = SOut.nx e h) ?_ ?_
  · refine forGo_ref p (ps.map .ref) 1 (fun i e h => (∃ a1 a2 a3 a4 a5 a6 a7 a8 a9 a10 a11 a12 a13 a14 a15 a16 a17 a18 a19, e = [some (scriptW ns), a1, a2, a3, a4, a5, a6, a7, a8, a9, a10, a11, a12, a13, a14, a15, a16, a17, a18, a19]) ∧ Fr ps h0 h ∧ DH (i * 1000) h ps) (by simp; omega) ⟨⟨_, _, _, _, _, _, _, _, _, _, _, _, _, _, _, _, _, _, _, rfl⟩, Fr.refl, by rw [Nat.zero_mul]; exact D0⟩ (fun i e h I => I.2.1.lst hp hpp) ?_ (fun e h I => ⟨e, h, rfl⟩)
    rintro i e h hi ⟨⟨a1, a2, a3, a4, a5, a6, a7, a8, a9, a10, a11, a12, a13, a14, a15, a16, a17, a18, a19, rfl⟩, F, D⟩
    have hil : i < ps.length := by simpa using hi
    have hq : ps[i] ∈ ps := List.getElem_mem hil
    rw [List.getElem_map]
    generalize ps[i] = q at hq
    obtain ⟨w1, h1, e1, xs, rfl, R1, D1, F1⟩ := ev_get (row_Ev D hq (by omega))
    obtain ⟨w2, h2, e2, ys, rfl, R2, D2, F2⟩ := ev_get (row_Ev D1 hq (by omega))
    obtain ⟨w3, h3, e3, zs, rfl, R3, D3, F3⟩ := ev_get (row_Ev D2 hq (by omega))
    simp (disch := first | omega | (simp only [List.length_append, List.length_cons, List.length_nil, List.length_set, List.length_drop, List.length_take, List.length_map]; omega)) only [e1, e2, e3, mVar_z, Nat.reduceAdd, Nat.zero_add, Int.zero_add, Int.reduceAdd, Int.reduceSub, Int.reduceNeg, ap_Lst, ap_Tup, nil_app, cons_app, List.length_append, lst_last, mVar_s, ok_bnd, ok_stm, exc_bnd, ev_okE, exc_stm, ap_C, ap_Op, ap_Un, ap_B, ap_Chain, ap_asB, ap_And, ap_Or, ap_Not, ap_AndV, ap_OrV, ap_NotV, ap_If, ap_Nil, ap_Cons, ap_CB, ap_Meth, ap_Part, ap_NoPart, ap_Sl, ap_Yes, add_ii, add_ss, sub_ii, neg_i, mul_ii, fdiv_ii, mod_ii, eq_ii, ne_ii, eq_ss, ne_ss, lt_ii, le_ii, gt_ii, ge_ii, lt_ss, gt_ss, le_ss, ge_ss, len_s, len_t, abs_i, int_i, int_b, max_ii, min_ii, ix_s, ixL_0, ixL_1, ixL_2, ixL_3, ixL_n, ixL_i, ixL_st, setL_n, setL_i, List.length_map, List.length_set, ix_r, getL_r, ix_tL, withL_s, setL_0, setL_1, setL_2, set_r, app_r, lst_z, lst_s, iadd_ii, tuple_r, mul_ri, sl_s, sl_rol, sl_t, sl_r, cut_from, cut_to, ap_Seq, nx_seq, rt_seq, ct_seq, bk_seq, exc_seq, ap_Raise, ap_Skip, ap_Brk, ap_Cnt, ap_Drop, ap_Ret, ap_IfS, ap_Set, ap_Ts, ap_AsgT, tgT_t, tgTs_n, tgTs_c, ap_Aug, ap_SetI, ap_AugI, mFor_ap, ap_Rng1, ap_Rng2, rng1_ok, rng2_ok, ap_Iter, src_t, src_s, src_rL, ap_Comp, wipe_n, wipe_c, len_cons, len_nil, zip_cc, zip_nn, foldl_c, foldl_n, set_z, set_s, ite_t, ite_f, ite_T, ite_F, sing_lt, sing_eq, ty_r, ty_s, isS, cut_mid, decide_eq_true_eq, if_pos, if_neg]
    have F3' := F.trans (F1.trans (F2.trans F3))
    clear e1 e2 e3 F1 F2 F3 D1 D2 D F
    repeat (first | with_reducible apply sv_seq | with_reducible apply sv_stm | with_reducible apply ev_bnd)
    refine comp_tup xs .int (by have := R1.2.1; omega) (by have := R1.2.1; omega) (fun z => decide (z ∈ ys)) .int (fun z hz h' G => ?_) (fun z hz hc h' G => ?_) (fun h4 G4 => ?_)
    · simp (disch := first | omega | (simp only [List.length_append, List.length_cons, List.length_nil, List.length_set, List.length_drop, List.length_take, List.length_map]; omega)) only [in_it, sv_nx, sv_rt, sv_ct, rnd_nx, rnd_ct, Int.toNat_natCast, ne_eq, eq_self, not_true_eq_false, not_false_eq_true, mVar_z, Nat.reduceAdd, Nat.zero_add, Int.zero_add, Int.reduceAdd, Int.reduceSub, Int.reduceNeg, ap_Lst, ap_Tup, nil_app, cons_app, List.length_append, lst_last, mVar_s, ok_bnd, ok_stm, exc_bnd, ev_okE, exc_stm, ap_C, ap_Op, ap_Un, ap_B, ap_Chain, ap_asB, ap_And, ap_Or, ap_Not, ap_AndV, ap_OrV, ap_NotV, ap_If, ap_Nil, ap_Cons, ap_CB, ap_Meth, ap_Part, ap_NoPart, ap_Sl, ap_Yes, add_ii, add_ss, sub_ii, neg_i, mul_ii, fdiv_ii, mod_ii, eq_ii, ne_ii, eq_ss, ne_ss, lt_ii, le_ii, gt_ii, ge_ii, lt_ss, gt_ss, le_ss, ge_ss, len_s, len_t, abs_i, int_i, int_b, max_ii, min_ii, ix_s, ixL_0, ixL_1, ixL_2, ixL_3, ixL_n, ixL_i, ixL_st, setL_n, setL_i, List.length_map, List.length_set, ix_r, getL_r, ix_tL, withL_s, setL_0, setL_1, setL_2, set_r, app_r, lst_z, lst_s, iadd_ii, tuple_r, mul_ri, sl_s, sl_rol, sl_t, sl_r, cut_from, cut_to, ap_Seq, nx_seq, rt_seq, ct_seq, bk_seq, exc_seq, ap_Raise, ap_Skip, ap_Brk, ap_Cnt, ap_Drop, ap_Ret, ap_IfS, ap_Set, ap_Ts, ap_AsgT, tgT_t, tgTs_n, tgTs_c, ap_Aug, ap_SetI, ap_AugI, mFor_ap, ap_Rng1, ap_Rng2, rng1_ok, rng2_ok, ap_Iter, src_t, src_s, src_rL, ap_Comp, wipe_n, wipe_c, len_cons, len_nil, zip_cc, zip_nn, foldl_c, foldl_n, set_z, set_s, ite_t, ite_f, ite_T, ite_F, sing_lt, sing_eq, ty_r, ty_s, isS, cut_mid, decide_eq_true_eq, if_pos, if_neg]
      exact ⟨trivial, Gr.refl⟩
    · simp (disch := first | omega | (simp only [List.length_append, List.length_cons, List.length_nil, List.length_set, List.length_drop, List.length_take, List.length_map]; omega)) only [sv_nx, sv_rt, sv_ct, rnd_nx, rnd_ct, Int.toNat_natCast, ne_eq, eq_self, not_true_eq_false, not_false_eq_true, mVar_z, Nat.reduceAdd, Nat.zero_add, Int.zero_add, Int.reduceAdd, Int.reduceSub, Int.reduceNeg, ap_Lst, ap_Tup, nil_app, cons_app, List.length_append, lst_last, mVar_s, ok_bnd, ok_stm, exc_bnd, ev_okE, exc_stm, ap_C, ap_Op, ap_Un, ap_B, ap_Chain, ap_asB, ap_And, ap_Or, ap_Not, ap_AndV, ap_OrV, ap_NotV, ap_If, ap_Nil, ap_Cons, ap_CB, ap_Meth, ap_Part, ap_NoPart, ap_Sl, ap_Yes, add_ii, add_ss, sub_ii, neg_i, mul_ii, fdiv_ii, mod_ii, eq_ii, ne_ii, eq_ss, ne_ss, lt_ii, le_ii, gt_ii, ge_ii, lt_ss, gt_ss, le_ss, ge_ss, len_s, len_t, abs_i, int_i, int_b, max_ii, min_ii, ix_s, ixL_0, ixL_1, ixL_2, ixL_3, ixL_n, ixL_i, ixL_st, setL_n, setL_i, List.length_map, List.length_set, ix_r, getL_r, ix_tL, withL_s, setL_0, setL_1, setL_2, set_r, app_r, lst_z, lst_s, iadd_ii, tuple_r, mul_ri, sl_s, sl_rol, sl_t, sl_r, cut_from, cut_to, ap_Seq, nx_seq, rt_seq, ct_seq, bk_seq, exc_seq, ap_Raise, ap_Skip, ap_Brk, ap_Cnt, ap_Drop, ap_Ret, ap_IfS, ap_Set, ap_Ts, ap_AsgT, tgT_t, tgTs_n, tgTs_c, ap_Aug, ap_SetI, ap_AugI, mFor_ap, ap_Rng1, ap_Rng2, rng1_ok, rng2_ok, ap_Iter, src_t, src_s, src_rL, ap_Comp, wipe_n, wipe_c, len_cons, len_nil, zip_cc, zip_nn, foldl_c, foldl_n, set_z, set_s, ite_t, ite_f, ite_T, ite_F, sing_lt, sing_eq, ty_r, ty_s, isS, cut_mid, decide_eq_true_eq, if_pos, if_neg]
      exact ⟨trivial, Gr.refl⟩
    have hsh : (xs.filter fun z => decide (z ∈ ys)) = both2 xs ys := rfl
    have lx := R1.le
    have ly := R2.le
    have lz := R3.le
    have i1 := isrow_all R1
    have b1 := both_all R1 R2
    have b2 := leaps_all xs ys R1.1 R2.1 lx ly
    have b3 := leaps_all ys xs R2.1 R1.1 ly lx
    rw [both_comm R2.1 R1.1] at b3
    have l4 := G4.lastL
    simp (disch := first | omega | (simp only [List.length_append, List.length_cons, List.length_nil, List.length_set, List.length_drop, List.length_take, List.length_map]; omega)) only [l4, hsh, ap_Tru, tru_bl, i1, b1, b2, b3, ne_tt, Bool.not_true, decide_false, decide_true, sv_nx, sv_rt, sv_ct, rnd_nx, rnd_ct, Int.toNat_natCast, ne_eq, eq_self, not_true_eq_false, not_false_eq_true, mVar_z, Nat.reduceAdd, Nat.zero_add, Int.zero_add, Int.reduceAdd, Int.reduceSub, Int.reduceNeg, ap_Lst, ap_Tup, nil_app, cons_app, List.length_append, lst_last, mVar_s, ok_bnd, ok_stm, exc_bnd, ev_okE, exc_stm, ap_C, ap_Op, ap_Un, ap_B, ap_Chain, ap_asB, ap_And, ap_Or, ap_Not, ap_AndV, ap_OrV, ap_NotV, ap_If, ap_Nil, ap_Cons, ap_CB, ap_Meth, ap_Part, ap_NoPart, ap_Sl, ap_Yes, add_ii, add_ss, sub_ii, neg_i, mul_ii, fdiv_ii, mod_ii, eq_ii, ne_ii, eq_ss, ne_ss, lt_ii, le_ii, gt_ii, ge_ii, lt_ss, gt_ss, le_ss, ge_ss, len_s, len_t, abs_i, int_i, int_b, max_ii, min_ii, ix_s, ixL_0, ixL_1, ixL_2, ixL_3, ixL_n, ixL_i, ixL_st, setL_n, setL_i, List.length_map, List.length_set, ix_r, getL_r, ix_tL, withL_s, setL_0, setL_1, setL_2, set_r, app_r, lst_z, lst_s, iadd_ii, tuple_r, mul_ri, sl_s, sl_rol, sl_t, sl_r, cut_from, cut_to, ap_Seq, nx_seq, rt_seq, ct_seq, bk_seq, exc_seq, ap_Raise, ap_Skip, ap_Brk, ap_Cnt, ap_Drop, ap_Ret, ap_IfS, ap_Set, ap_Ts, ap_AsgT, tgT_t, tgTs_n, tgTs_c, ap_Aug, ap_SetI, ap_AugI, mFor_ap, ap_Rng1, ap_Rng2, rng1_ok, rng2_ok, ap_Iter, src_t, src_s, src_rL, ap_Comp, wipe_n, wipe_c, len_cons, len_nil, zip_cc, zip_nn, foldl_c, foldl_n, set_z, set_s, ite_t, ite_f, ite_T, ite_F, sing_lt, sing_eq, ty_r, ty_s, isS, cut_mid, decide_eq_true_eq, if_pos, if_neg]
    have D4 : DH (i * 1000 + 90) h4 ps := D3.gr G4.left
    have F4 : Fr ps h0 h4 := F3'.trans (Fr.of G4.left)
    clear l4 G4 F3' D3 b1 b2 b3
    obtain ⟨us, ⟨ur, um⟩, b4⟩ := either_all R1 R2
    have b5 := less_all R1 R2
    simp (disch := first | omega | (simp only [List.length_append, List.length_cons, List.length_nil, List.length_set, List.length_drop, List.length_take, List.length_map]; omega)) only [b4, sv_nx, sv_rt, sv_ct, rnd_nx, rnd_ct, Int.toNat_natCast, ne_eq, eq_self, not_true_eq_false, not_false_eq_true, mVar_z, Nat.reduceAdd, Nat.zero_add, Int.zero_add, Int.reduceAdd, Int.reduceSub, Int.reduceNeg, ap_Lst, ap_Tup, nil_app, cons_app, List.length_append, lst_last, mVar_s, ok_bnd, ok_stm, exc_bnd, ev_okE, exc_stm, ap_C, ap_Op, ap_Un, ap_B, ap_Chain, ap_asB, ap_And, ap_Or, ap_Not, ap_AndV, ap_OrV, ap_NotV, ap_If, ap_Nil, ap_Cons, ap_CB, ap_Meth, ap_Part, ap_NoPart, ap_Sl, ap_Yes, add_ii, add_ss, sub_ii, neg_i, mul_ii, fdiv_ii, mod_ii, eq_ii, ne_ii, eq_ss, ne_ss, lt_ii, le_ii, gt_ii, ge_ii, lt_ss, gt_ss, le_ss, ge_ss, len_s, len_t, abs_i, int_i, int_b, max_ii, min_ii, ix_s, ixL_0, ixL_1, ixL_2, ixL_3, ixL_n, ixL_i, ixL_st, setL_n, setL_i, List.length_map, List.length_set, ix_r, getL_r, ix_tL, withL_s, setL_0, setL_1, setL_2, set_r, app_r, lst_z, lst_s, iadd_ii, tuple_r, mul_ri, sl_s, sl_rol, sl_t, sl_r, cut_from, cut_to, ap_Seq, nx_seq, rt_seq, ct_seq, bk_seq, exc_seq, ap_Raise, ap_Skip, ap_Brk, ap_Cnt, ap_Drop, ap_Ret, ap_IfS, ap_Set, ap_Ts, ap_AsgT, tgT_t, tgTs_n, tgTs_c, ap_Aug, ap_SetI, ap_AugI, mFor_ap, ap_Rng1, ap_Rng2, rng1_ok, rng2_ok, ap_Iter, src_t, src_s, src_rL, ap_Comp, wipe_n, wipe_c, len_cons, len_nil, zip_cc, zip_nn, foldl_c, foldl_n, set_z, set_s, ite_t, ite_f, ite_T, ite_F, sing_lt, sing_eq, ty_r, ty_s, isS, cut_mid, decide_eq_true_eq, if_pos, if_neg]
    repeat (first | with_reducible apply sv_seq | with_reducible apply sv_stm | with_reducible apply ev_bnd)
    refine comp_rng 30 0 8 (by omega) (by omega) (fun i => decide ((i : Int) ∈ xs) || decide ((i : Int) ∈ ys)) (fun i => .int (0 + i)) (fun i hi h' G => ?_) (fun i hi hc h' G => ?_) (fun h5 G5 => ?_)
    · by_cases hz : (i : Int) ∈ xs
      · simp (disch := first | omega | (simp only [List.length_append, List.length_cons, List.length_nil, List.length_set, List.length_drop, List.length_take, List.length_map]; omega)) only [in_it, hz, decide_true, Bool.true_or, sv_nx, sv_rt, sv_ct, rnd_nx, rnd_ct, Int.toNat_natCast, ne_eq, eq_self, not_true_eq_false, not_false_eq_true, mVar_z, Nat.reduceAdd, Nat.zero_add, Int.zero_add, Int.reduceAdd, Int.reduceSub, Int.reduceNeg, ap_Lst, ap_Tup, nil_app, cons_app, List.length_append, lst_last, mVar_s, ok_bnd, ok_stm, exc_bnd, ev_okE, exc_stm, ap_C, ap_Op, ap_Un, ap_B, ap_Chain, ap_asB, ap_And, ap_Or, ap_Not, ap_AndV, ap_OrV, ap_NotV, ap_If, ap_Nil, ap_Cons, ap_CB, ap_Meth, ap_Part, ap_NoPart, ap_Sl, ap_Yes, add_ii, add_ss, sub_ii, neg_i, mul_ii, fdiv_ii, mod_ii, eq_ii, ne_ii, eq_ss, ne_ss, lt_ii, le_ii, gt_ii, ge_ii, lt_ss, gt_ss, le_ss, ge_ss, len_s, len_t, abs_i, int_i, int_b, max_ii, min_ii, ix_s, ixL_0, ixL_1, ixL_2, ixL_3, ixL_n, ixL_i, ixL_st, setL_n, setL_i, List.length_map, List.length_set, ix_r, getL_r, ix_tL, withL_s, setL_0, setL_1, setL_2, set_r, app_r, lst_z, lst_s, iadd_ii, tuple_r, mul_ri, sl_s, sl_rol, sl_t, sl_r, cut_from, cut_to, ap_Seq, nx_seq, rt_seq, ct_seq, bk_seq, exc_seq, ap_Raise, ap_Skip, ap_Brk, ap_Cnt, ap_Drop, ap_Ret, ap_IfS, ap_Set, ap_Ts, ap_AsgT, tgT_t, tgTs_n, tgTs_c, ap_Aug, ap_SetI, ap_AugI, mFor_ap, ap_Rng1, ap_Rng2, rng1_ok, rng2_ok, ap_Iter, src_t, src_s, src_rL, ap_Comp, wipe_n, wipe_c, len_cons, len_nil, zip_cc, zip_nn, foldl_c, foldl_n, set_z, set_s, ite_t, ite_f, ite_T, ite_F, sing_lt, sing_eq, ty_r, ty_s, isS, cut_mid, decide_eq_true_eq, if_pos, if_neg]
        exact ⟨trivial, Gr.refl⟩
      · simp (disch := first | omega | (simp only [List.length_append, List.length_cons, List.length_nil, List.length_set, List.length_drop, List.length_take, List.length_map]; omega)) only [in_it, hz, decide_false, Bool.false_or, sv_nx, sv_rt, sv_ct, rnd_nx, rnd_ct, Int.toNat_natCast, ne_eq, eq_self, not_true_eq_false, not_false_eq_true, mVar_z, Nat.reduceAdd, Nat.zero_add, Int.zero_add, Int.reduceAdd, Int.reduceSub, Int.reduceNeg, ap_Lst, ap_Tup, nil_app, cons_app, List.length_append, lst_last, mVar_s, ok_bnd, ok_stm, exc_bnd, ev_okE, exc_stm, ap_C, ap_Op, ap_Un, ap_B, ap_Chain, ap_asB, ap_And, ap_Or, ap_Not, ap_AndV, ap_OrV, ap_NotV, ap_If, ap_Nil, ap_Cons, ap_CB, ap_Meth, ap_Part, ap_NoPart, ap_Sl, ap_Yes, add_ii, add_ss, sub_ii, neg_i, mul_ii, fdiv_ii, mod_ii, eq_ii, ne_ii, eq_ss, ne_ss, lt_ii, le_ii, gt_ii, ge_ii, lt_ss, gt_ss, le_ss, ge_ss, len_s, len_t, abs_i, int_i, int_b, max_ii, min_ii, ix_s, ixL_0, ixL_1, ixL_2, ixL_3, ixL_n, ixL_i, ixL_st, setL_n, setL_i, List.length_map, List.length_set, ix_r, getL_r, ix_tL, withL_s, setL_0, setL_1, setL_2, set_r, app_r, lst_z, lst_s, iadd_ii, tuple_r, mul_ri, sl_s, sl_rol, sl_t, sl_r, cut_from, cut_to, ap_Seq, nx_seq, rt_seq, ct_seq, bk_seq, exc_seq, ap_Raise, ap_Skip, ap_Brk, ap_Cnt, ap_Drop, ap_Ret, ap_IfS, ap_Set, ap_Ts, ap_AsgT, tgT_t, tgTs_n, tgTs_c, ap_Aug, ap_SetI, ap_AugI, mFor_ap, ap_Rng1, ap_Rng2, rng1_ok, rng2_ok, ap_Iter, src_t, src_s, src_rL, ap_Comp, wipe_n, wipe_c, len_cons, len_nil, zip_cc, zip_nn, foldl_c, foldl_n, set_z, set_s, ite_t, ite_f, ite_T, ite_F, sing_lt, sing_eq, ty_r, ty_s, isS, cut_mid, decide_eq_true_eq, if_pos, if_neg]
        exact ⟨trivial, Gr.refl⟩
    · simp (disch := first | omega | (simp only [List.length_append, List.length_cons, List.length_nil, List.length_set, List.length_drop, List.length_take, List.length_map]; omega)) only [sv_nx, sv_rt, sv_ct, rnd_nx, rnd_ct, Int.toNat_natCast, ne_eq, eq_self, not_true_eq_false, not_false_eq_true, mVar_z, Nat.reduceAdd, Nat.zero_add, Int.zero_add, Int.reduceAdd, Int.reduceSub, Int.reduceNeg, ap_Lst, ap_Tup, nil_app, cons_app, List.length_append, lst_last, mVar_s, ok_bnd, ok_stm, exc_bnd, ev_okE, exc_stm, ap_C, ap_Op, ap_Un, ap_B, ap_Chain, ap_asB, ap_And, ap_Or, ap_Not, ap_AndV, ap_OrV, ap_NotV, ap_If, ap_Nil, ap_Cons, ap_CB, ap_Meth, ap_Part, ap_NoPart, ap_Sl, ap_Yes, add_ii, add_ss, sub_ii, neg_i, mul_ii, fdiv_ii, mod_ii, eq_ii, ne_ii, eq_ss, ne_ss, lt_ii, le_ii, gt_ii, ge_ii, lt_ss, gt_ss, le_ss, ge_ss, len_s, len_t, abs_i, int_i, int_b, max_ii, min_ii, ix_s, ixL_0, ixL_1, ixL_2, ixL_3, ixL_n, ixL_i, ixL_st, setL_n, setL_i, List.length_map, List.length_set, ix_r, getL_r, ix_tL, withL_s, setL_0, setL_1, setL_2, set_r, app_r, lst_z, lst_s, iadd_ii, tuple_r, mul_ri, sl_s, sl_rol, sl_t, sl_r, cut_from, cut_to, ap_Seq, nx_seq, rt_seq, ct_seq, bk_seq, exc_seq, ap_Raise, ap_Skip, ap_Brk, ap_Cnt, ap_Drop, ap_Ret, ap_IfS, ap_Set, ap_Ts, ap_AsgT, tgT_t, tgTs_n, tgTs_c, ap_Aug, ap_SetI, ap_AugI, mFor_ap, ap_Rng1, ap_Rng2, rng1_ok, rng2_ok, ap_Iter, src_t, src_s, src_rL, ap_Comp, wipe_n, wipe_c, len_cons, len_nil, zip_cc, zip_nn, foldl_c, foldl_n, set_z, set_s, ite_t, ite_f, ite_T, ite_F, sing_lt, sing_eq, ty_r, ty_s, isS, cut_mid, decide_eq_true_eq, if_pos, if_neg]
      exact ⟨by simp, Gr.refl⟩
    have l5 := G5.lastL
    rw [picks_int] at l5
    have e5 : us = picksI 30 0 (fun i => decide ((i : Int) ∈ xs) || decide ((i : Int) ∈ ys)) := by
      refine Rsg.ext ur (picksI_rsg _ _ _) fun z => ?_
      rw [um, mem_picksI]
      constructor
      · intro h
        have hz : 0 ≤ z ∧ z < 30 := h.elim (fun h => R1.2.2 z h) fun h => R2.2.2 z h
        refine ⟨z.toNat, by omega, ?_, by omega⟩
        have : (z.toNat : Int) = z := by omega
        simpa [this] using h
      · rintro ⟨j, hj, hc, rfl⟩
        simpa using hc
    rw [← e5] at l5
    simp (disch := first | omega | (simp only [List.length_append, List.length_cons, List.length_nil, List.length_set, List.length_drop, List.length_take, List.length_map]; omega)) only [l5, ne_tt, decide_false, decide_true, sv_nx, sv_rt, sv_ct, rnd_nx, rnd_ct, Int.toNat_natCast, ne_eq, eq_self, not_true_eq_false, not_false_eq_true, mVar_z, Nat.reduceAdd, Nat.zero_add, Int.zero_add, Int.reduceAdd, Int.reduceSub, Int.reduceNeg, ap_Lst, ap_Tup, nil_app, cons_app, List.length_append, lst_last, mVar_s, ok_bnd, ok_stm, exc_bnd, ev_okE, exc_stm, ap_C, ap_Op, ap_Un, ap_B, ap_Chain, ap_asB, ap_And, ap_Or, ap_Not, ap_AndV, ap_OrV, ap_NotV, ap_If, ap_Nil, ap_Cons, ap_CB, ap_Meth, ap_Part, ap_NoPart, ap_Sl, ap_Yes, add_ii, add_ss, sub_ii, neg_i, mul_ii, fdiv_ii, mod_ii, eq_ii, ne_ii, eq_ss, ne_ss, lt_ii, le_ii, gt_ii, ge_ii, lt_ss, gt_ss, le_ss, ge_ss, len_s, len_t, abs_i, int_i, int_b, max_ii, min_ii, ix_s, ixL_0, ixL_1, ixL_2, ixL_3, ixL_n, ixL_i, ixL_st, setL_n, setL_i, List.length_map, List.length_set, ix_r, getL_r, ix_tL, withL_s, setL_0, setL_1, setL_2, set_r, app_r, lst_z, lst_s, iadd_ii, tuple_r, mul_ri, sl_s, sl_rol, sl_t, sl_r, cut_from, cut_to, ap_Seq, nx_seq, rt_seq, ct_seq, bk_seq, exc_seq, ap_Raise, ap_Skip, ap_Brk, ap_Cnt, ap_Drop, ap_Ret, ap_IfS, ap_Set, ap_Ts, ap_AsgT, tgT_t, tgTs_n, tgTs_c, ap_Aug, ap_SetI, ap_AugI, mFor_ap, ap_Rng1, ap_Rng2, rng1_ok, rng2_ok, ap_Iter, src_t, src_s, src_rL, ap_Comp, wipe_n, wipe_c, len_cons, len_nil, zip_cc, zip_nn, foldl_c, foldl_n, set_z, set_s, ite_t, ite_f, ite_T, ite_F, sing_lt, sing_eq, ty_r, ty_s, isS, cut_mid, decide_eq_true_eq, if_pos, if_neg]
    have D5 : DH (i * 1000 + 90) h5 ps := D4.gr G5.left
    have F5 : Fr ps h0 h5 := F4.trans (Fr.of G5.left)
    clear l5 G5 e5 D4 F4
    simp (disch := first | omega | (simp only [List.length_append, List.length_cons, List.length_nil, List.length_set, List.length_drop, List.length_take, List.length_map]; omega)) only [b5, sv_nx, sv_rt, sv_ct, rnd_nx, rnd_ct, Int.toNat_natCast, ne_eq, eq_self, not_true_eq_false, not_false_eq_true, mVar_z, Nat.reduceAdd, Nat.zero_add, Int.zero_add, Int.reduceAdd, Int.reduceSub, Int.reduceNeg, ap_Lst, ap_Tup, nil_app, cons_app, List.length_append, lst_last, mVar_s, ok_bnd, ok_stm, exc_bnd, ev_okE, exc_stm, ap_C, ap_Op, ap_Un, ap_B, ap_Chain, ap_asB, ap_And, ap_Or, ap_Not, ap_AndV, ap_OrV, ap_NotV, ap_If, ap_Nil, ap_Cons, ap_CB, ap_Meth, ap_Part, ap_NoPart, ap_Sl, ap_Yes, add_ii, add_ss, sub_ii, neg_i, mul_ii, fdiv_ii, mod_ii, eq_ii, ne_ii, eq_ss, ne_ss, lt_ii, le_ii, gt_ii, ge_ii, lt_ss, gt_ss, le_ss, ge_ss, len_s, len_t, abs_i, int_i, int_b, max_ii, min_ii, ix_s, ixL_0, ixL_1, ixL_2, ixL_3, ixL_n, ixL_i, ixL_st, setL_n, setL_i, List.length_map, List.length_set, ix_r, getL_r, ix_tL, withL_s, setL_0, setL_1, setL_2, set_r, app_r, lst_z, lst_s, iadd_ii, tuple_r, mul_ri, sl_s, sl_rol, sl_t, sl_r, cut_from, cut_to, ap_Seq, nx_seq, rt_seq, ct_seq, bk_seq, exc_seq, ap_Raise, ap_Skip, ap_Brk, ap_Cnt, ap_Drop, ap_Ret, ap_IfS, ap_Set, ap_Ts, ap_AsgT, tgT_t, tgTs_n, tgTs_c, ap_Aug, ap_SetI, ap_AugI, mFor_ap, ap_Rng1, ap_Rng2, rng1_ok, rng2_ok, ap_Iter, src_t, src_s, src_rL, ap_Comp, wipe_n, wipe_c, len_cons, len_nil, zip_cc, zip_nn, foldl_c, foldl_n, set_z, set_s, ite_t, ite_f, ite_T, ite_F, sing_lt, sing_eq, ty_r, ty_s, isS, cut_mid, decide_eq_true_eq, if_pos, if_neg]
    repeat (first | with_reducible apply sv_seq | with_reducible apply sv_stm | with_reducible apply ev_bnd)
    refine comp_tup xs .int (by omega) (by omega) (fun z => decide (z ∉ ys)) .int (fun z hz h' G => ?_) (fun z hz hc h' G => ?_) (fun h6 G6 => ?_)
    · simp (disch := first | omega | (simp only [List.length_append, List.length_cons, List.length_nil, List.length_set, List.length_drop, List.length_take, List.length_map]; omega)) only [notin_it, sv_nx, sv_rt, sv_ct, rnd_nx, rnd_ct, Int.toNat_natCast, ne_eq, eq_self, not_true_eq_false, not_false_eq_true, mVar_z, Nat.reduceAdd, Nat.zero_add, Int.zero_add, Int.reduceAdd, Int.reduceSub, Int.reduceNeg, ap_Lst, ap_Tup, nil_app, cons_app, List.length_append, lst_last, mVar_s, ok_bnd, ok_stm, exc_bnd, ev_okE, exc_stm, ap_C, ap_Op, ap_Un, ap_B, ap_Chain, ap_asB, ap_And, ap_Or, ap_Not, ap_AndV, ap_OrV, ap_NotV, ap_If, ap_Nil, ap_Cons, ap_CB, ap_Meth, ap_Part, ap_NoPart, ap_Sl, ap_Yes, add_ii, add_ss, sub_ii, neg_i, mul_ii, fdiv_ii, mod_ii, eq_ii, ne_ii, eq_ss, ne_ss, lt_ii, le_ii, gt_ii, ge_ii, lt_ss, gt_ss, le_ss, ge_ss, len_s, len_t, abs_i, int_i, int_b, max_ii, min_ii, ix_s, ixL_0, ixL_1, ixL_2, ixL_3, ixL_n, ixL_i, ixL_st, setL_n, setL_i, List.length_map, List.length_set, ix_r, getL_r, ix_tL, withL_s, setL_0, setL_1, setL_2, set_r, app_r, lst_z, lst_s, iadd_ii, tuple_r, mul_ri, sl_s, sl_rol, sl_t, sl_r, cut_from, cut_to, ap_Seq, nx_seq, rt_seq, ct_seq, bk_seq, exc_seq, ap_Raise, ap_Skip, ap_Brk, ap_Cnt, ap_Drop, ap_Ret, ap_IfS, ap_Set, ap_Ts, ap_AsgT, tgT_t, tgTs_n, tgTs_c, ap_Aug, ap_SetI, ap_AugI, mFor_ap, ap_Rng1, ap_Rng2, rng1_ok, rng2_ok, ap_Iter, src_t, src_s, src_rL, ap_Comp, wipe_n, wipe_c, len_cons, len_nil, zip_cc, zip_nn, foldl_c, foldl_n, set_z, set_s, ite_t, ite_f, ite_T, ite_F, sing_lt, sing_eq, ty_r, ty_s, isS, cut_mid, decide_eq_true_eq, if_pos, if_neg]
      exact ⟨trivial, Gr.refl⟩
    · simp (disch := first | omega | (simp only [List.length_append, List.length_cons, List.length_nil, List.length_set, List.length_drop, List.length_take, List.length_map]; omega)) only [sv_nx, sv_rt, sv_ct, rnd_nx, rnd_ct, Int.toNat_natCast, ne_eq, eq_self, not_true_eq_false, not_false_eq_true, mVar_z, Nat.reduceAdd, Nat.zero_add, Int.zero_add, Int.reduceAdd, Int.reduceSub, Int.reduceNeg, ap_Lst, ap_Tup, nil_app, cons_app, List.length_append, lst_last, mVar_s, ok_bnd, ok_stm, exc_bnd, ev_okE, exc_stm, ap_C, ap_Op, ap_Un, ap_B, ap_Chain, ap_asB, ap_And, ap_Or, ap_Not, ap_AndV, ap_OrV, ap_NotV, ap_If, ap_Nil, ap_Cons, ap_CB, ap_Meth, ap_Part, ap_NoPart, ap_Sl, ap_Yes, add_ii, add_ss, sub_ii, neg_i, mul_ii, fdiv_ii, mod_ii, eq_ii, ne_ii, eq_ss, ne_ss, lt_ii, le_ii, gt_ii, ge_ii, lt_ss, gt_ss, le_ss, ge_ss, len_s, len_t, abs_i, int_i, int_b, max_ii, min_ii, ix_s, ixL_0, ixL_1, ixL_2, ixL_3, ixL_n, ixL_i, ixL_st, setL_n, setL_i, List.length_map, List.length_set, ix_r, getL_r, ix_tL, withL_s, setL_0, setL_1, setL_2, set_r, app_r, lst_z, lst_s, iadd_ii, tuple_r, mul_ri, sl_s, sl_rol, sl_t, sl_r, cut_from, cut_to, ap_Seq, nx_seq, rt_seq, ct_seq, bk_seq, exc_seq, ap_Raise, ap_Skip, ap_Brk, ap_Cnt, ap_Drop, ap_Ret, ap_IfS, ap_Set, ap_Ts, ap_AsgT, tgT_t, tgTs_n, tgTs_c, ap_Aug, ap_SetI, ap_AugI, mFor_ap, ap_Rng1, ap_Rng2, rng1_ok, rng2_ok, ap_Iter, src_t, src_s, src_rL, ap_Comp, wipe_n, wipe_c, len_cons, len_nil, zip_cc, zip_nn, foldl_c, foldl_n, set_z, set_s, ite_t, ite_f, ite_T, ite_F, sing_lt, sing_eq, ty_r, ty_s, isS, cut_mid, decide_eq_true_eq, if_pos, if_neg]
      exact ⟨trivial, Gr.refl⟩
    have l6 := G6.lastL
    simp (disch := first | omega | (simp only [List.length_append, List.length_cons, List.length_nil, List.length_set, List.length_drop, List.length_take, List.length_map]; omega)) only [l6, ne_tt, decide_false, decide_true, sv_nx, sv_rt, sv_ct, rnd_nx, rnd_ct, Int.toNat_natCast, ne_eq, eq_self, not_true_eq_false, not_false_eq_true, mVar_z, Nat.reduceAdd, Nat.zero_add, Int.zero_add, Int.reduceAdd, Int.reduceSub, Int.reduceNeg, ap_Lst, ap_Tup, nil_app, cons_app, List.length_append, lst_last, mVar_s, ok_bnd, ok_stm, exc_bnd, ev_okE, exc_stm, ap_C, ap_Op, ap_Un, ap_B, ap_Chain, ap_asB, ap_And, ap_Or, ap_Not, ap_AndV, ap_OrV, ap_NotV, ap_If, ap_Nil, ap_Cons, ap_CB, ap_Meth, ap_Part, ap_NoPart, ap_Sl, ap_Yes, add_ii, add_ss, sub_ii, neg_i, mul_ii, fdiv_ii, mod_ii, eq_ii, ne_ii, eq_ss, ne_ss, lt_ii, le_ii, gt_ii, ge_ii, lt_ss, gt_ss, le_ss, ge_ss, len_s, len_t, abs_i, int_i, int_b, max_ii, min_ii, ix_s, ixL_0, ixL_1, ixL_2, ixL_3, ixL_n, ixL_i, ixL_st, setL_n, setL_i, List.length_map, List.length_set, ix_r, getL_r, ix_tL, withL_s, setL_0, setL_1, setL_2, set_r, app_r, lst_z, lst_s, iadd_ii, tuple_r, mul_ri, sl_s, sl_rol, sl_t, sl_r, cut_from, cut_to, ap_Seq, nx_seq, rt_seq, ct_seq, bk_seq, exc_seq, ap_Raise, ap_Skip, ap_Brk, ap_Cnt, ap_Drop, ap_Ret, ap_IfS, ap_Set, ap_Ts, ap_AsgT, tgT_t, tgTs_n, tgTs_c, ap_Aug, ap_SetI, ap_AugI, mFor_ap, ap_Rng1, ap_Rng2, rng1_ok, rng2_ok, ap_Iter, src_t, src_s, src_rL, ap_Comp, wipe_n, wipe_c, len_cons, len_nil, zip_cc, zip_nn, foldl_c, foldl_n, set_z, set_s, ite_t, ite_f, ite_T, ite_F, sing_lt, sing_eq, ty_r, ty_s, isS, cut_mid, decide_eq_true_eq, if_pos, if_neg]
    have D6 : DH (i * 1000 + 90) h6 ps := D5.gr G6.left
    have F6 : Fr ps h0 h6 := F5.trans (Fr.of G6.left)
    clear l6 G6 D5 F5
    obtain ⟨w7, h7, e7, G7, ts, rfl, tr, tm⟩ := ev_get (inall_ev (h6 ++ [O.lst [T xs, T ys, T zs]]) h6.length [xs, ys, zs] lst_last (by simp) (by simp) (by
      intro r hr
      simp only [List.mem_cons, List.not_mem_nil, or_false] at hr
      rcases hr with rfl | rfl | rfl
      · exact ⟨R1.1, lx⟩
      · exact ⟨R2.1, ly⟩
      · exact ⟨R3.1, lz⟩))
    simp (disch := first | omega | (simp only [List.length_append, List.length_cons, List.length_nil, List.length_set, List.length_drop, List.length_take, List.length_map]; omega)) only [e7, sv_nx, sv_rt, sv_ct, rnd_nx, rnd_ct, Int.toNat_natCast, ne_eq, eq_self, not_true_eq_false, not_false_eq_true, mVar_z, Nat.reduceAdd, Nat.zero_add, Int.zero_add, Int.reduceAdd, Int.reduceSub, Int.reduceNeg, ap_Lst, ap_Tup, nil_app, cons_app, List.length_append, lst_last, mVar_s, ok_bnd, ok_stm, exc_bnd, ev_okE, exc_stm, ap_C, ap_Op, ap_Un, ap_B, ap_Chain, ap_asB, ap_And, ap_Or, ap_Not, ap_AndV, ap_OrV, ap_NotV, ap_If, ap_Nil, ap_Cons, ap_CB, ap_Meth, ap_Part, ap_NoPart, ap_Sl, ap_Yes, add_ii, add_ss, sub_ii, neg_i, mul_ii, fdiv_ii, mod_ii, eq_ii, ne_ii, eq_ss, ne_ss, lt_ii, le_ii, gt_ii, ge_ii, lt_ss, gt_ss, le_ss, ge_ss, len_s, len_t, abs_i, int_i, int_b, max_ii, min_ii, ix_s, ixL_0, ixL_1, ixL_2, ixL_3, ixL_n, ixL_i, ixL_st, setL_n, setL_i, List.length_map, List.length_set, ix_r, getL_r, ix_tL, withL_s, setL_0, setL_1, setL_2, set_r, app_r, lst_z, lst_s, iadd_ii, tuple_r, mul_ri, sl_s, sl_rol, sl_t, sl_r, cut_from, cut_to, ap_Seq, nx_seq, rt_seq, ct_seq, bk_seq, exc_seq, ap_Raise, ap_Skip, ap_Brk, ap_Cnt, ap_Drop, ap_Ret, ap_IfS, ap_Set, ap_Ts, ap_AsgT, tgT_t, tgTs_n, tgTs_c, ap_Aug, ap_SetI, ap_AugI, mFor_ap, ap_Rng1, ap_Rng2, rng1_ok, rng2_ok, ap_Iter, src_t, src_s, src_rL, ap_Comp, wipe_n, wipe_c, len_cons, len_nil, zip_cc, zip_nn, foldl_c, foldl_n, set_z, set_s, ite_t, ite_f, ite_T, ite_F, sing_lt, sing_eq, ty_r, ty_s, isS, cut_mid, decide_eq_true_eq, if_pos, if_neg]
    have lb : (both2 xs ys).length ≤ 1000 := Nat.le_trans (List.length_filter_le _ _) lx
    have D7 : DH (i * 1000 + 90) h7 ps := D6.gr G7.left
    have F7 : Fr ps h0 h7 := F6.trans (Fr.of G7.left)
    clear e7 G7 D6 F6
    repeat (first | with_reducible apply sv_seq | with_reducible apply sv_stm | with_reducible apply ev_bnd)
    refine comp_tup (both2 xs ys) .int (by omega) (by omega) (fun z => decide (z ∈ zs)) .int (fun z hz h' G => ?_) (fun z hz hc h' G => ?_) (fun h8 G8 => ?_)
    · simp (disch := first | omega | (simp only [List.length_append, List.length_cons, List.length_nil, List.length_set, List.length_drop, List.length_take, List.length_map]; omega)) only [in_it, sv_nx, sv_rt, sv_ct, rnd_nx, rnd_ct, Int.toNat_natCast, ne_eq, eq_self, not_true_eq_false, not_false_eq_true, mVar_z, Nat.reduceAdd, Nat.zero_add, Int.zero_add, Int.reduceAdd, Int.reduceSub, Int.reduceNeg, ap_Lst, ap_Tup, nil_app, cons_app, List.length_append, lst_last, mVar_s, ok_bnd, ok_stm, exc_bnd, ev_okE, exc_stm, ap_C, ap_Op, ap_Un, ap_B, ap_Chain, ap_asB, ap_And, ap_Or, ap_Not, ap_AndV, ap_OrV, ap_NotV, ap_If, ap_Nil, ap_Cons, ap_CB, ap_Meth, ap_Part, ap_NoPart, ap_Sl, ap_Yes, add_ii, add_ss, sub_ii, neg_i, mul_ii, fdiv_ii, mod_ii, eq_ii, ne_ii, eq_ss, ne_ss, lt_ii, le_ii, gt_ii, ge_ii, lt_ss, gt_ss, le_ss, ge_ss, len_s, len_t, abs_i, int_i, int_b, max_ii, min_ii, ix_s, ixL_0, ixL_1, ixL_2, ixL_3, ixL_n, ixL_i, ixL_st, setL_n, setL_i, List.length_map, List.length_set, ix_r, getL_r, ix_tL, withL_s, setL_0, setL_1, setL_2, set_r, app_r, lst_z, lst_s, iadd_ii, tuple_r, mul_ri, sl_s, sl_rol, sl_t, sl_r, cut_from, cut_to, ap_Seq, nx_seq, rt_seq, ct_seq, bk_seq, exc_seq, ap_Raise, ap_Skip, ap_Brk, ap_Cnt, ap_Drop, ap_Ret, ap_IfS, ap_Set, ap_Ts, ap_AsgT, tgT_t, tgTs_n, tgTs_c, ap_Aug, ap_SetI, ap_AugI, mFor_ap, ap_Rng1, ap_Rng2, rng1_ok, rng2_ok, ap_Iter, src_t, src_s, src_rL, ap_Comp, wipe_n, wipe_c, len_cons, len_nil, zip_cc, zip_nn, foldl_c, foldl_n, set_z, set_s, ite_t, ite_f, ite_T, ite_F, sing_lt, sing_eq, ty_r, ty_s, isS, cut_mid, decide_eq_true_eq, if_pos, if_neg]
      exact ⟨trivial, Gr.refl⟩
    · simp (disch := first | omega | (simp only [List.length_append, List.length_cons, List.length_nil, List.length_set, List.length_drop, List.length_take, List.length_map]; omega)) only [sv_nx, sv_rt, sv_ct, rnd_nx, rnd_ct, Int.toNat_natCast, ne_eq, eq_self, not_true_eq_false, not_false_eq_true, mVar_z, Nat.reduceAdd, Nat.zero_add, Int.zero_add, Int.reduceAdd, Int.reduceSub, Int.reduceNeg, ap_Lst, ap_Tup, nil_app, cons_app, List.length_append, lst_last, mVar_s, ok_bnd, ok_stm, exc_bnd, ev_okE, exc_stm, ap_C, ap_Op, ap_Un, ap_B, ap_Chain, ap_asB, ap_And, ap_Or, ap_Not, ap_AndV, ap_OrV, ap_NotV, ap_If, ap_Nil, ap_Cons, ap_CB, ap_Meth, ap_Part, ap_NoPart, ap_Sl, ap_Yes, add_ii, add_ss, sub_ii, neg_i, mul_ii, fdiv_ii, mod_ii, eq_ii, ne_ii, eq_ss, ne_ss, lt_ii, le_ii, gt_ii, ge_ii, lt_ss, gt_ss, le_ss, ge_ss, len_s, len_t, abs_i, int_i, int_b, max_ii, min_ii, ix_s, ixL_0, ixL_1, ixL_2, ixL_3, ixL_n, ixL_i, ixL_st, setL_n, setL_i, List.length_map, List.length_set, ix_r, getL_r, ix_tL, withL_s, setL_0, setL_1, setL_2, set_r, app_r, lst_z, lst_s, iadd_ii, tuple_r, mul_ri, sl_s, sl_rol, sl_t, sl_r, cut_from, cut_to, ap_Seq, nx_seq, rt_seq, ct_seq, bk_seq, exc_seq, ap_Raise, ap_Skip, ap_Brk, ap_Cnt, ap_Drop, ap_Ret, ap_IfS, ap_Set, ap_Ts, ap_AsgT, tgT_t, tgTs_n, tgTs_c, ap_Aug, ap_SetI, ap_AugI, mFor_ap, ap_Rng1, ap_Rng2, rng1_ok, rng2_ok, ap_Iter, src_t, src_s, src_rL, ap_Comp, wipe_n, wipe_c, len_cons, len_nil, zip_cc, zip_nn, foldl_c, foldl_n, set_z, set_s, ite_t, ite_f, ite_T, ite_F, sing_lt, sing_eq, ty_r, ty_s, isS, cut_mid, decide_eq_true_eq, if_pos, if_neg]
      exact ⟨trivial, Gr.refl⟩
    have e8 : ts = (both2 xs ys).filter fun z => decide (z ∈ zs) := by
      refine Rsg.ext tr ((R1.1.filter _).filter _) fun z => ?_
      rw [tm, List.mem_filter, List.mem_filter]
      simp
      exact ⟨fun ⟨a, b, c⟩ => ⟨⟨a, b⟩, c⟩, fun ⟨⟨a, b⟩, c⟩ => ⟨a, b, c⟩⟩
    have l8 := G8.lastL
    rw [← e8] at l8
    simp (disch := first | omega | (simp only [List.length_append, List.length_cons, List.length_nil, List.length_set, List.length_drop, List.length_take, List.length_map]; omega)) only [l8, ne_tt, decide_false, decide_true, sv_nx, sv_rt, sv_ct, rnd_nx, rnd_ct, Int.toNat_natCast, ne_eq, eq_self, not_true_eq_false, not_false_eq_true, mVar_z, Nat.reduceAdd, Nat.zero_add, Int.zero_add, Int.reduceAdd, Int.reduceSub, Int.reduceNeg, ap_Lst, ap_Tup, nil_app, cons_app, List.length_append, lst_last, mVar_s, ok_bnd, ok_stm, exc_bnd, ev_okE, exc_stm, ap_C, ap_Op, ap_Un, ap_B, ap_Chain, ap_asB, ap_And, ap_Or, ap_Not, ap_AndV, ap_OrV, ap_NotV, ap_If, ap_Nil, ap_Cons, ap_CB, ap_Meth, ap_Part, ap_NoPart, ap_Sl, ap_Yes, add_ii, add_ss, sub_ii, neg_i, mul_ii, fdiv_ii, mod_ii, eq_ii, ne_ii, eq_ss, ne_ss, lt_ii, le_ii, gt_ii, ge_ii, lt_ss, gt_ss, le_ss, ge_ss, len_s, len_t, abs_i, int_i, int_b, max_ii, min_ii, ix_s, ixL_0, ixL_1, ixL_2, ixL_3, ixL_n, ixL_i, ixL_st, setL_n, setL_i, List.length_map, List.length_set, ix_r, getL_r, ix_tL, withL_s, setL_0, setL_1, setL_2, set_r, app_r, lst_z, lst_s, iadd_ii, tuple_r, mul_ri, sl_s, sl_rol, sl_t, sl_r, cut_from, cut_to, ap_Seq, nx_seq, rt_seq, ct_seq, bk_seq, exc_seq, ap_Raise, ap_Skip, ap_Brk, ap_Cnt, ap_Drop, ap_Ret, ap_IfS, ap_Set, ap_Ts, ap_AsgT, tgT_t, tgTs_n, tgTs_c, ap_Aug, ap_SetI, ap_AugI, mFor_ap, ap_Rng1, ap_Rng2, rng1_ok, rng2_ok, ap_Iter, src_t, src_s, src_rL, ap_Comp, wipe_n, wipe_c, len_cons, len_nil, zip_cc, zip_nn, foldl_c, foldl_n, set_z, set_s, ite_t, ite_f, ite_T, ite_F, sing_lt, sing_eq, ty_r, ty_s, isS, cut_mid, decide_eq_true_eq, if_pos, if_neg]
    have D8 : DH (i * 1000 + 90) h8 ps := D7.gr G8.left
    have F8 : Fr ps h0 h8 := F7.trans (Fr.of G8.left)
    clear l8 G8 e8 D7 F7
    obtain ⟨w9, h9, e9, m0, rfl, m1, m2, D9, F9⟩ := ev_get (roll_Ev (many := 3) D8 hq (by omega) (by omega) (by omega))
    rw [← roll_eq] at e9
    simp (disch := first | omega | (simp only [List.length_append, List.length_cons, List.length_nil, List.length_set, List.length_drop, List.length_take, List.length_map]; omega)) only [e9, sv_nx, sv_rt, sv_ct, rnd_nx, rnd_ct, Int.toNat_natCast, ne_eq, eq_self, not_true_eq_false, not_false_eq_true, mVar_z, Nat.reduceAdd, Nat.zero_add, Int.zero_add, Int.reduceAdd, Int.reduceSub, Int.reduceNeg, ap_Lst, ap_Tup, nil_app, cons_app, List.length_append, lst_last, mVar_s, ok_bnd, ok_stm, exc_bnd, ev_okE, exc_stm, ap_C, ap_Op, ap_Un, ap_B, ap_Chain, ap_asB, ap_And, ap_Or, ap_Not, ap_AndV, ap_OrV, ap_NotV, ap_If, ap_Nil, ap_Cons, ap_CB, ap_Meth, ap_Part, ap_NoPart, ap_Sl, ap_Yes, add_ii, add_ss, sub_ii, neg_i, mul_ii, fdiv_ii, mod_ii, eq_ii, ne_ii, eq_ss, ne_ss, lt_ii, le_ii, gt_ii, ge_ii, lt_ss, gt_ss, le_ss, ge_ss, len_s, len_t, abs_i, int_i, int_b, max_ii, min_ii, ix_s, ixL_0, ixL_1, ixL_2, ixL_3, ixL_n, ixL_i, ixL_st, setL_n, setL_i, List.length_map, List.length_set, ix_r, getL_r, ix_tL, withL_s, setL_0, setL_1, setL_2, set_r, app_r, lst_z, lst_s, iadd_ii, tuple_r, mul_ri, sl_s, sl_rol, sl_t, sl_r, cut_from, cut_to, ap_Seq, nx_seq, rt_seq, ct_seq, bk_seq, exc_seq, ap_Raise, ap_Skip, ap_Brk, ap_Cnt, ap_Drop, ap_Ret, ap_IfS, ap_Set, ap_Ts, ap_AsgT, tgT_t, tgTs_n, tgTs_c, ap_Aug, ap_SetI, ap_AugI, mFor_ap, ap_Rng1, ap_Rng2, rng1_ok, rng2_ok, ap_Iter, src_t, src_s, src_rL, ap_Comp, wipe_n, wipe_c, len_cons, len_nil, zip_cc, zip_nn, foldl_c, foldl_n, set_z, set_s, ite_t, ite_f, ite_T, ite_F, sing_lt, sing_eq, ty_r, ty_s, isS, cut_mid, decide_eq_true_eq, if_pos, if_neg]
    have F9' := F8.trans F9
    clear e9 F9 D8 F8
    repeat (first | with_reducible apply sv_seq | with_reducible apply sv_stm | with_reducible apply ev_bnd)
    refine comp_rng 30 0 8 (by omega) (by omega) (fun _ => true) (fun i => pW ((i : Int), ((([xs, ys, zs].filter fun r => decide ((i : Int) ∈ r)).length : Nat) : Int))) (fun i hi h' G => ?_) (fun i hi hc h' G => ?_) (fun h10 G10 => ?_)
    · simp (disch := first | omega | (simp only [List.length_append, List.length_cons, List.length_nil, List.length_set, List.length_drop, List.length_take, List.length_map]; omega)) only [sv_nx, sv_rt, sv_ct, rnd_nx, rnd_ct, Int.toNat_natCast, ne_eq, eq_self, not_true_eq_false, not_false_eq_true, mVar_z, Nat.reduceAdd, Nat.zero_add, Int.zero_add, Int.reduceAdd, Int.reduceSub, Int.reduceNeg, ap_Lst, ap_Tup, nil_app, cons_app, List.length_append, lst_last, mVar_s, ok_bnd, ok_stm, exc_bnd, ev_okE, exc_stm, ap_C, ap_Op, ap_Un, ap_B, ap_Chain, ap_asB, ap_And, ap_Or, ap_Not, ap_AndV, ap_OrV, ap_NotV, ap_If, ap_Nil, ap_Cons, ap_CB, ap_Meth, ap_Part, ap_NoPart, ap_Sl, ap_Yes, add_ii, add_ss, sub_ii, neg_i, mul_ii, fdiv_ii, mod_ii, eq_ii, ne_ii, eq_ss, ne_ss, lt_ii, le_ii, gt_ii, ge_ii, lt_ss, gt_ss, le_ss, ge_ss, len_s, len_t, abs_i, int_i, int_b, max_ii, min_ii, ix_s, ixL_0, ixL_1, ixL_2, ixL_3, ixL_n, ixL_i, ixL_st, setL_n, setL_i, List.length_map, List.length_set, ix_r, getL_r, ix_tL, withL_s, setL_0, setL_1, setL_2, set_r, app_r, lst_z, lst_s, iadd_ii, tuple_r, mul_ri, sl_s, sl_rol, sl_t, sl_r, cut_from, cut_to, ap_Seq, nx_seq, rt_seq, ct_seq, bk_seq, exc_seq, ap_Raise, ap_Skip, ap_Brk, ap_Cnt, ap_Drop, ap_Ret, ap_IfS, ap_Set, ap_Ts, ap_AsgT, tgT_t, tgTs_n, tgTs_c, ap_Aug, ap_SetI, ap_AugI, mFor_ap, ap_Rng1, ap_Rng2, rng1_ok, rng2_ok, ap_Iter, src_t, src_s, src_rL, ap_Comp, wipe_n, wipe_c, len_cons, len_nil, zip_cc, zip_nn, foldl_c, foldl_n, set_z, set_s, ite_t, ite_f, ite_T, ite_F, sing_lt, sing_eq, ty_r, ty_s, isS, cut_mid, decide_eq_true_eq, if_pos, if_neg]
      exact ⟨trivial, Gr.refl⟩
    · simp (disch := first | omega | (simp only [List.length_append, List.length_cons, List.length_nil, List.length_set, List.length_drop, List.length_take, List.length_map]; omega)) only [sv_nx, sv_rt, sv_ct, rnd_nx, rnd_ct, Int.toNat_natCast, ne_eq, eq_self, not_true_eq_false, not_false_eq_true, mVar_z, Nat.reduceAdd, Nat.zero_add, Int.zero_add, Int.reduceAdd, Int.reduceSub, Int.reduceNeg, ap_Lst, ap_Tup, nil_app, cons_app, List.length_append, lst_last, mVar_s, ok_bnd, ok_stm, exc_bnd, ev_okE, exc_stm, ap_C, ap_Op, ap_Un, ap_B, ap_Chain, ap_asB, ap_And, ap_Or, ap_Not, ap_AndV, ap_OrV, ap_NotV, ap_If, ap_Nil, ap_Cons, ap_CB, ap_Meth, ap_Part, ap_NoPart, ap_Sl, ap_Yes, add_ii, add_ss, sub_ii, neg_i, mul_ii, fdiv_ii, mod_ii, eq_ii, ne_ii, eq_ss, ne_ss, lt_ii, le_ii, gt_ii, ge_ii, lt_ss, gt_ss, le_ss, ge_ss, len_s, len_t, abs_i, int_i, int_b, max_ii, min_ii, ix_s, ixL_0, ixL_1, ixL_2, ixL_3, ixL_n, ixL_i, ixL_st, setL_n, setL_i, List.length_map, List.length_set, ix_r, getL_r, ix_tL, withL_s, setL_0, setL_1, setL_2, set_r, app_r, lst_z, lst_s, iadd_ii, tuple_r, mul_ri, sl_s, sl_rol, sl_t, sl_r, cut_from, cut_to, ap_Seq, nx_seq, rt_seq, ct_seq, bk_seq, exc_seq, ap_Raise, ap_Skip, ap_Brk, ap_Cnt, ap_Drop, ap_Ret, ap_IfS, ap_Set, ap_Ts, ap_AsgT, tgT_t, tgTs_n, tgTs_c, ap_Aug, ap_SetI, ap_AugI, mFor_ap, ap_Rng1, ap_Rng2, rng1_ok, rng2_ok, ap_Iter, src_t, src_s, src_rL, ap_Comp, wipe_n, wipe_c, len_cons, len_nil, zip_cc, zip_nn, foldl_c, foldl_n, set_z, set_s, ite_t, ite_f, ite_T, ite_F, sing_lt, sing_eq, ty_r, ty_s, isS, cut_mid, decide_eq_true_eq, if_pos, if_neg]
      repeat (first | with_reducible apply sv_seq | with_reducible apply sv_stm | with_reducible apply ev_bnd)
      have el : (h' ++ [O.lst [T xs, T ys, T zs]]).length = h'.length + 1 := by simp
      rw [← el]
      refine comp_ref [xs, ys, zs] T (by exact lst_last) (by simp) (by simp) (fun r => decide ((i : Int) ∈ r)) T (fun r hr h'' G' => ?_) (fun r hr hc h'' G' => ?_) (fun h'' G' => ?_)
      · simp (disch := first | omega | (simp only [List.length_append, List.length_cons, List.length_nil, List.length_set, List.length_drop, List.length_take, List.length_map]; omega)) only [in_it, sv_nx, sv_rt, sv_ct, rnd_nx, rnd_ct, Int.toNat_natCast, ne_eq, eq_self, not_true_eq_false, not_false_eq_true, mVar_z, Nat.reduceAdd, Nat.zero_add, Int.zero_add, Int.reduceAdd, Int.reduceSub, Int.reduceNeg, ap_Lst, ap_Tup, nil_app, cons_app, List.length_append, lst_last, mVar_s, ok_bnd, ok_stm, exc_bnd, ev_okE, exc_stm, ap_C, ap_Op, ap_Un, ap_B, ap_Chain, ap_asB, ap_And, ap_Or, ap_Not, ap_AndV, ap_OrV, ap_NotV, ap_If, ap_Nil, ap_Cons, ap_CB, ap_Meth, ap_Part, ap_NoPart, ap_Sl, ap_Yes, add_ii, add_ss, sub_ii, neg_i, mul_ii, fdiv_ii, mod_ii, eq_ii, ne_ii, eq_ss, ne_ss, lt_ii, le_ii, gt_ii, ge_ii, lt_ss, gt_ss, le_ss, ge_ss, len_s, len_t, abs_i, int_i, int_b, max_ii, min_ii, ix_s, ixL_0, ixL_1, ixL_2, ixL_3, ixL_n, ixL_i, ixL_st, setL_n, setL_i, List.length_map, List.length_set, ix_r, getL_r, ix_tL, withL_s, setL_0, setL_1, setL_2, set_r, app_r, lst_z, lst_s, iadd_ii, tuple_r, mul_ri, sl_s, sl_rol, sl_t, sl_r, cut_from, cut_to, ap_Seq, nx_seq, rt_seq, ct_seq, bk_seq, exc_seq, ap_Raise, ap_Skip, ap_Brk, ap_Cnt, ap_Drop, ap_Ret, ap_IfS, ap_Set, ap_Ts, ap_AsgT, tgT_t, tgTs_n, tgTs_c, ap_Aug, ap_SetI, ap_AugI, mFor_ap, ap_Rng1, ap_Rng2, rng1_ok, rng2_ok, ap_Iter, src_t, src_s, src_rL, ap_Comp, wipe_n, wipe_c, len_cons, len_nil, zip_cc, zip_nn, foldl_c, foldl_n, set_z, set_s, ite_t, ite_f, ite_T, ite_F, sing_lt, sing_eq, ty_r, ty_s, isS, cut_mid, decide_eq_true_eq, if_pos, if_neg]
        exact ⟨trivial, Gr.refl⟩
      · simp (disch := first | omega | (simp only [List.length_append, List.length_cons, List.length_nil, List.length_set, List.length_drop, List.length_take, List.length_map]; omega)) only [sv_nx, sv_rt, sv_ct, rnd_nx, rnd_ct, Int.toNat_natCast, ne_eq, eq_self, not_true_eq_false, not_false_eq_true, mVar_z, Nat.reduceAdd, Nat.zero_add, Int.zero_add, Int.reduceAdd, Int.reduceSub, Int.reduceNeg, ap_Lst, ap_Tup, nil_app, cons_app, List.length_append, lst_last, mVar_s, ok_bnd, ok_stm, exc_bnd, ev_okE, exc_stm, ap_C, ap_Op, ap_Un, ap_B, ap_Chain, ap_asB, ap_And, ap_Or, ap_Not, ap_AndV, ap_OrV, ap_NotV, ap_If, ap_Nil, ap_Cons, ap_CB, ap_Meth, ap_Part, ap_NoPart, ap_Sl, ap_Yes, add_ii, add_ss, sub_ii, neg_i, mul_ii, fdiv_ii, mod_ii, eq_ii, ne_ii, eq_ss, ne_ss, lt_ii, le_ii, gt_ii, ge_ii, lt_ss, gt_ss, le_ss, ge_ss, len_s, len_t, abs_i, int_i, int_b, max_ii, min_ii, ix_s, ixL_0, ixL_1, ixL_2, ixL_3, ixL_n, ixL_i, ixL_st, setL_n, setL_i, List.length_map, List.length_set, ix_r, getL_r, ix_tL, withL_s, setL_0, setL_1, setL_2, set_r, app_r, lst_z, lst_s, iadd_ii, tuple_r, mul_ri, sl_s, sl_rol, sl_t, sl_r, cut_from, cut_to, ap_Seq, nx_seq, rt_seq, ct_seq, bk_seq, exc_seq, ap_Raise, ap_Skip, ap_Brk, ap_Cnt, ap_Drop, ap_Ret, ap_IfS, ap_Set, ap_Ts, ap_AsgT, tgT_t, tgTs_n, tgTs_c, ap_Aug, ap_SetI, ap_AugI, mFor_ap, ap_Rng1, ap_Rng2, rng1_ok, rng2_ok, ap_Iter, src_t, src_s, src_rL, ap_Comp, wipe_n, wipe_c, len_cons, len_nil, zip_cc, zip_nn, foldl_c, foldl_n, set_z, set_s, ite_t, ite_f, ite_T, ite_F, sing_lt, sing_eq, ty_r, ty_s, isS, cut_mid, decide_eq_true_eq, if_pos, if_neg]
        exact ⟨trivial, Gr.refl⟩
      · have hlen := len_r G'.lastL
        rw [el] at hlen
        simp (disch := first | omega | (simp only [List.length_append, List.length_cons, List.length_nil, List.length_set, List.length_drop, List.length_take, List.length_map]; omega)) only [hlen, sv_nx, sv_rt, sv_ct, rnd_nx, rnd_ct, Int.toNat_natCast, ne_eq, eq_self, not_true_eq_false, not_false_eq_true, mVar_z, Nat.reduceAdd, Nat.zero_add, Int.zero_add, Int.reduceAdd, Int.reduceSub, Int.reduceNeg, ap_Lst, ap_Tup, nil_app, cons_app, List.length_append, lst_last, mVar_s, ok_bnd, ok_stm, exc_bnd, ev_okE, exc_stm, ap_C, ap_Op, ap_Un, ap_B, ap_Chain, ap_asB, ap_And, ap_Or, ap_Not, ap_AndV, ap_OrV, ap_NotV, ap_If, ap_Nil, ap_Cons, ap_CB, ap_Meth, ap_Part, ap_NoPart, ap_Sl, ap_Yes, add_ii, add_ss, sub_ii, neg_i, mul_ii, fdiv_ii, mod_ii, eq_ii, ne_ii, eq_ss, ne_ss, lt_ii, le_ii, gt_ii, ge_ii, lt_ss, gt_ss, le_ss, ge_ss, len_s, len_t, abs_i, int_i, int_b, max_ii, min_ii, ix_s, ixL_0, ixL_1, ixL_2, ixL_3, ixL_n, ixL_i, ixL_st, setL_n, setL_i, List.length_map, List.length_set, ix_r, getL_r, ix_tL, withL_s, setL_0, setL_1, setL_2, set_r, app_r, lst_z, lst_s, iadd_ii, tuple_r, mul_ri, sl_s, sl_rol, sl_t, sl_r, cut_from, cut_to, ap_Seq, nx_seq, rt_seq, ct_seq, bk_seq, exc_seq, ap_Raise, ap_Skip, ap_Brk, ap_Cnt, ap_Drop, ap_Ret, ap_IfS, ap_Set, ap_Ts, ap_AsgT, tgT_t, tgTs_n, tgTs_c, ap_Aug, ap_SetI, ap_AugI, mFor_ap, ap_Rng1, ap_Rng2, rng1_ok, rng2_ok, ap_Iter, src_t, src_s, src_rL, ap_Comp, wipe_n, wipe_c, len_cons, len_nil, zip_cc, zip_nn, foldl_c, foldl_n, set_z, set_s, ite_t, ite_f, ite_T, ite_F, sing_lt, sing_eq, ty_r, ty_s, isS, cut_mid, decide_eq_true_eq, if_pos, if_neg]
        exact ⟨rfl, Gr.left (Gr.left G')⟩
    have l10 := G10.lastL
    rw [picks_all] at l10
    have l10' : lstAt h10 h9.length = some (((List.range 30).map fun i : Nat => ((i : Int), ((([xs, ys, zs].filter fun r => decide ((i : Int) ∈ r)).length : Nat) : Int))).map pW) := by rw [l10, List.map_map]; rfl
    clear l10
    have D10 : DH (i * 1000 + 91) h10 ps := D9.gr G10.left
    have F10 : Fr ps h0 h10 := F9'.trans (Fr.of G10.left)
    have hlt10 := lst_lt l10'
    clear G10 D9 F9'
    generalize hcl : ((List.range 30).map fun i : Nat => ((i : Int), ((([xs, ys, zs].filter fun r => decide ((i : Int) ∈ r)).length : Nat) : Int))) = cl at l10'
    generalize h9.length = c9 at *
    simp (disch := first | omega | (simp only [List.length_append, List.length_cons, List.length_nil, List.length_set, List.length_drop, List.length_take, List.length_map]; omega)) only [sv_nx, sv_rt, sv_ct, rnd_nx, rnd_ct, Int.toNat_natCast, ne_eq, eq_self, not_true_eq_false, not_false_eq_true, mVar_z, Nat.reduceAdd, Nat.zero_add, Int.zero_add, Int.reduceAdd, Int.reduceSub, Int.reduceNeg, ap_Lst, ap_Tup, nil_app, cons_app, List.length_append, lst_last, mVar_s, ok_bnd, ok_stm, exc_bnd, ev_okE, exc_stm, ap_C, ap_Op, ap_Un, ap_B, ap_Chain, ap_asB, ap_And, ap_Or, ap_Not, ap_AndV, ap_OrV, ap_NotV, ap_If, ap_Nil, ap_Cons, ap_CB, ap_Meth, ap_Part, ap_NoPart, ap_Sl, ap_Yes, add_ii, add_ss, sub_ii, neg_i, mul_ii, fdiv_ii, mod_ii, eq_ii, ne_ii, eq_ss, ne_ss, lt_ii, le_ii, gt_ii, ge_ii, lt_ss, gt_ss, le_ss, ge_ss, len_s, len_t, abs_i, int_i, int_b, max_ii, min_ii, ix_s, ixL_0, ixL_1, ixL_2, ixL_3, ixL_n, ixL_i, ixL_st, setL_n, setL_i, List.length_map, List.length_set, ix_r, getL_r, ix_tL, withL_s, setL_0, setL_1, setL_2, set_r, app_r, lst_z, lst_s, iadd_ii, tuple_r, mul_ri, sl_s, sl_rol, sl_t, sl_r, cut_from, cut_to, ap_Seq, nx_seq, rt_seq, ct_seq, bk_seq, exc_seq, ap_Raise, ap_Skip, ap_Brk, ap_Cnt, ap_Drop, ap_Ret, ap_IfS, ap_Set, ap_Ts, ap_AsgT, tgT_t, tgTs_n, tgTs_c, ap_Aug, ap_SetI, ap_AugI, mFor_ap, ap_Rng1, ap_Rng2, rng1_ok, rng2_ok, ap_Iter, src_t, src_s, src_rL, ap_Comp, wipe_n, wipe_c, len_cons, len_nil, zip_cc, zip_nn, foldl_c, foldl_n, set_z, set_s, ite_t, ite_f, ite_T, ite_F, sing_lt, sing_eq, ty_r, ty_s, isS, cut_mid, decide_eq_true_eq, if_pos, if_neg]
    obtain ⟨w11, h11, e11, G11, vs, rfl, vr, vm⟩ := ev_get (some_ev (h10 ++ [O.lst [T xs, T ys, T zs]]) h10.length [xs, ys, zs] (1 + m0) lst_last (by simp) (by
      intro r hr
      simp only [List.mem_cons, List.not_mem_nil, or_false] at hr
      rcases hr with rfl | rfl | rfl
      · exact lx
      · exact ly
      · exact lz))
    have l11 : lstAt h11 c9 = some (cl.map pW) := G11.left.lst l10'
    simp (disch := first | omega | (simp only [List.length_append, List.length_cons, List.length_nil, List.length_set, List.length_drop, List.length_take, List.length_map]; omega)) only [e11, l11, sv_nx, sv_rt, sv_ct, rnd_nx, rnd_ct, Int.toNat_natCast, ne_eq, eq_self, not_true_eq_false, not_false_eq_true, mVar_z, Nat.reduceAdd, Nat.zero_add, Int.zero_add, Int.reduceAdd, Int.reduceSub, Int.reduceNeg, ap_Lst, ap_Tup, nil_app, cons_app, List.length_append, lst_last, mVar_s, ok_bnd, ok_stm, exc_bnd, ev_okE, exc_stm, ap_C, ap_Op, ap_Un, ap_B, ap_Chain, ap_asB, ap_And, ap_Or, ap_Not, ap_AndV, ap_OrV, ap_NotV, ap_If, ap_Nil, ap_Cons, ap_CB, ap_Meth, ap_Part, ap_NoPart, ap_Sl, ap_Yes, add_ii, add_ss, sub_ii, neg_i, mul_ii, fdiv_ii, mod_ii, eq_ii, ne_ii, eq_ss, ne_ss, lt_ii, le_ii, gt_ii, ge_ii, lt_ss, gt_ss, le_ss, ge_ss, len_s, len_t, abs_i, int_i, int_b, max_ii, min_ii, ix_s, ixL_0, ixL_1, ixL_2, ixL_3, ixL_n, ixL_i, ixL_st, setL_n, setL_i, List.length_map, List.length_set, ix_r, getL_r, ix_tL, withL_s, setL_0, setL_1, setL_2, set_r, app_r, lst_z, lst_s, iadd_ii, tuple_r, mul_ri, sl_s, sl_rol, sl_t, sl_r, cut_from, cut_to, ap_Seq, nx_seq, rt_seq, ct_seq, bk_seq, exc_seq, ap_Raise, ap_Skip, ap_Brk, ap_Cnt, ap_Drop, ap_Ret, ap_IfS, ap_Set, ap_Ts, ap_AsgT, tgT_t, tgTs_n, tgTs_c, ap_Aug, ap_SetI, ap_AugI, mFor_ap, ap_Rng1, ap_Rng2, rng1_ok, rng2_ok, ap_Iter, src_t, src_s, src_rL, ap_Comp, wipe_n, wipe_c, len_cons, len_nil, zip_cc, zip_nn, foldl_c, foldl_n, set_z, set_s, ite_t, ite_f, ite_T, ite_F, sing_lt, sing_eq, ty_r, ty_s, isS, cut_mid, decide_eq_true_eq, if_pos, if_neg]
    have D11 : DH (i * 1000 + 91) h11 ps := D10.gr G11.left
    have F11 : Fr ps h0 h11 := F10.trans (Fr.of G11.left)
    clear e11 G11 D10 F10
    have hcl30 : cl.length = 30 := by rw [← hcl]; simp
    repeat (first | with_reducible apply sv_seq | with_reducible apply sv_stm | with_reducible apply ev_bnd)
    refine comp_refT cl pW _ l11 (by omega) (by omega) (fun p => decide (1 + m0 ≤ p.2)) (fun p => .int p.1) (fun p hp => tgT_p) (fun p hp h' G => ?_) (fun p hp hc h' G => ?_) (fun h12 G12 => ?_)
    · simp (disch := first | omega | (simp only [List.length_append, List.length_cons, List.length_nil, List.length_set, List.length_drop, List.length_take, List.length_map]; omega)) only [sv_nx, sv_rt, sv_ct, rnd_nx, rnd_ct, Int.toNat_natCast, ne_eq, eq_self, not_true_eq_false, not_false_eq_true, mVar_z, Nat.reduceAdd, Nat.zero_add, Int.zero_add, Int.reduceAdd, Int.reduceSub, Int.reduceNeg, ap_Lst, ap_Tup, nil_app, cons_app, List.length_append, lst_last, mVar_s, ok_bnd, ok_stm, exc_bnd, ev_okE, exc_stm, ap_C, ap_Op, ap_Un, ap_B, ap_Chain, ap_asB, ap_And, ap_Or, ap_Not, ap_AndV, ap_OrV, ap_NotV, ap_If, ap_Nil, ap_Cons, ap_CB, ap_Meth, ap_Part, ap_NoPart, ap_Sl, ap_Yes, add_ii, add_ss, sub_ii, neg_i, mul_ii, fdiv_ii, mod_ii, eq_ii, ne_ii, eq_ss, ne_ss, lt_ii, le_ii, gt_ii, ge_ii, lt_ss, gt_ss, le_ss, ge_ss, len_s, len_t, abs_i, int_i, int_b, max_ii, min_ii, ix_s, ixL_0, ixL_1, ixL_2, ixL_3, ixL_n, ixL_i, ixL_st, setL_n, setL_i, List.length_map, List.length_set, ix_r, getL_r, ix_tL, withL_s, setL_0, setL_1, setL_2, set_r, app_r, lst_z, lst_s, iadd_ii, tuple_r, mul_ri, sl_s, sl_rol, sl_t, sl_r, cut_from, cut_to, ap_Seq, nx_seq, rt_seq, ct_seq, bk_seq, exc_seq, ap_Raise, ap_Skip, ap_Brk, ap_Cnt, ap_Drop, ap_Ret, ap_IfS, ap_Set, ap_Ts, ap_AsgT, tgT_t, tgTs_n, tgTs_c, ap_Aug, ap_SetI, ap_AugI, mFor_ap, ap_Rng1, ap_Rng2, rng1_ok, rng2_ok, ap_Iter, src_t, src_s, src_rL, ap_Comp, wipe_n, wipe_c, len_cons, len_nil, zip_cc, zip_nn, foldl_c, foldl_n, set_z, set_s, ite_t, ite_f, ite_T, ite_F, sing_lt, sing_eq, ty_r, ty_s, isS, cut_mid, decide_eq_true_eq, if_pos, if_neg]
      exact ⟨trivial, Gr.refl⟩
    · simp (disch := first | omega | (simp only [List.length_append, List.length_cons, List.length_nil, List.length_set, List.length_drop, List.length_take, List.length_map]; omega)) only [sv_nx, sv_rt, sv_ct, rnd_nx, rnd_ct, Int.toNat_natCast, ne_eq, eq_self, not_true_eq_false, not_false_eq_true, mVar_z, Nat.reduceAdd, Nat.zero_add, Int.zero_add, Int.reduceAdd, Int.reduceSub, Int.reduceNeg, ap_Lst, ap_Tup, nil_app, cons_app, List.length_append, lst_last, mVar_s, ok_bnd, ok_stm, exc_bnd, ev_okE, exc_stm, ap_C, ap_Op, ap_Un, ap_B, ap_Chain, ap_asB, ap_And, ap_Or, ap_Not, ap_AndV, ap_OrV, ap_NotV, ap_If, ap_Nil, ap_Cons, ap_CB, ap_Meth, ap_Part, ap_NoPart, ap_Sl, ap_Yes, add_ii, add_ss, sub_ii, neg_i, mul_ii, fdiv_ii, mod_ii, eq_ii, ne_ii, eq_ss, ne_ss, lt_ii, le_ii, gt_ii, ge_ii, lt_ss, gt_ss, le_ss, ge_ss, len_s, len_t, abs_i, int_i, int_b, max_ii, min_ii, ix_s, ixL_0, ixL_1, ixL_2, ixL_3, ixL_n, ixL_i, ixL_st, setL_n, setL_i, List.length_map, List.length_set, ix_r, getL_r, ix_tL, withL_s, setL_0, setL_1, setL_2, set_r, app_r, lst_z, lst_s, iadd_ii, tuple_r, mul_ri, sl_s, sl_rol, sl_t, sl_r, cut_from, cut_to, ap_Seq, nx_seq, rt_seq, ct_seq, bk_seq, exc_seq, ap_Raise, ap_Skip, ap_Brk, ap_Cnt, ap_Drop, ap_Ret, ap_IfS, ap_Set, ap_Ts, ap_AsgT, tgT_t, tgTs_n, tgTs_c, ap_Aug, ap_SetI, ap_AugI, mFor_ap, ap_Rng1, ap_Rng2, rng1_ok, rng2_ok, ap_Iter, src_t, src_s, src_rL, ap_Comp, wipe_n, wipe_c, len_cons, len_nil, zip_cc, zip_nn, foldl_c, foldl_n, set_z, set_s, ite_t, ite_f, ite_T, ite_F, sing_lt, sing_eq, ty_r, ty_s, isS, cut_mid, decide_eq_true_eq, if_pos, if_neg]
      exact ⟨trivial, Gr.refl⟩
    have l12 := G12.lastL
    have l12' : lstAt h12 h11.length = some (((cl.filter fun p => decide (1 + m0 ≤ p.2)).map Prod.fst).map .int) := by rw [l12, List.map_map]; rfl
    have e12 : vs = (cl.filter fun p => decide (1 + m0 ≤ p.2)).map Prod.fst := by
      have hc : (cl.filter fun p => decide (1 + m0 ≤ p.2)).map Prod.fst = ((List.range 30).filter fun i : Nat => decide (1 + m0 ≤ (cnt3 xs ys zs i : Nat))).map fun i : Nat => (i : Int) := by
        rw [← hcl, List.filter_map, List.map_map]; rfl
      rw [hc]
      refine Rsg.ext vr ?_ fun z => ?_
      · unfold Rsg
        rw [List.pairwise_map]
        refine List.Pairwise.imp (R := (· < ·)) (fun {a b} h => by omega) ?_
        exact List.Pairwise.sublist List.filter_sublist List.pairwise_lt_range
      · rw [vm, count3 R1 R2 R3, List.mem_map]
        constructor
        · rintro ⟨hz, hcz⟩
          have hz3 : 0 ≤ z ∧ z < 30 := by
            simp only [List.flatten_cons, List.flatten_nil, List.append_nil, List.mem_append] at hz
            rcases hz with h | h | h
            · exact R1.2.2 z h
            · exact R2.2.2 z h
            · exact R3.2.2 z h
          have hzz : (z.toNat : Int) = z := by omega
          exact ⟨z.toNat, by rw [List.mem_filter, List.mem_range]; exact ⟨by omega, by rw [hzz]; exact decide_eq_true hcz⟩, hzz⟩
        · rintro ⟨j, hj, rfl⟩
          rw [List.mem_filter] at hj
          have hc := of_decide_eq_true hj.2
          refine ⟨?_, hc⟩
          have hpos : 0 < [xs, ys, zs].flatten.count (j : Int) := by rw [count3 R1 R2 R3]; omega
          exact List.count_pos_iff.1 hpos
    rw [← e12] at l12'
    simp (disch := first | omega | (simp only [List.length_append, List.length_cons, List.length_nil, List.length_set, List.length_drop, List.length_take, List.length_map]; omega)) only [l12', ne_tt, decide_false, decide_true, sv_nx, sv_rt, sv_ct, rnd_nx, rnd_ct, Int.toNat_natCast, ne_eq, eq_self, not_true_eq_false, not_false_eq_true, mVar_z, Nat.reduceAdd, Nat.zero_add, Int.zero_add, Int.reduceAdd, Int.reduceSub, Int.reduceNeg, ap_Lst, ap_Tup, nil_app, cons_app, List.length_append, lst_last, mVar_s, ok_bnd, ok_stm, exc_bnd, ev_okE, exc_stm, ap_C, ap_Op, ap_Un, ap_B, ap_Chain, ap_asB, ap_And, ap_Or, ap_Not, ap_AndV, ap_OrV, ap_NotV, ap_If, ap_Nil, ap_Cons, ap_CB, ap_Meth, ap_Part, ap_NoPart, ap_Sl, ap_Yes, add_ii, add_ss, sub_ii, neg_i, mul_ii, fdiv_ii, mod_ii, eq_ii, ne_ii, eq_ss, ne_ss, lt_ii, le_ii, gt_ii, ge_ii, lt_ss, gt_ss, le_ss, ge_ss, len_s, len_t, abs_i, int_i, int_b, max_ii, min_ii, ix_s, ixL_0, ixL_1, ixL_2, ixL_3, ixL_n, ixL_i, ixL_st, setL_n, setL_i, List.length_map, List.length_set, ix_r, getL_r, ix_tL, withL_s, setL_0, setL_1, setL_2, set_r, app_r, lst_z, lst_s, iadd_ii, tuple_r, mul_ri, sl_s, sl_rol, sl_t, sl_r, cut_from, cut_to, ap_Seq, nx_seq, rt_seq, ct_seq, bk_seq, exc_seq, ap_Raise, ap_Skip, ap_Brk, ap_Cnt, ap_Drop, ap_Ret, ap_IfS, ap_Set, ap_Ts, ap_AsgT, tgT_t, tgTs_n, tgTs_c, ap_Aug, ap_SetI, ap_AugI, mFor_ap, ap_Rng1, ap_Rng2, rng1_ok, rng2_ok, ap_Iter, src_t, src_s, src_rL, ap_Comp, wipe_n, wipe_c, len_cons, len_nil, zip_cc, zip_nn, foldl_c, foldl_n, set_z, set_s, ite_t, ite_f, ite_T, ite_F, sing_lt, sing_eq, ty_r, ty_s, isS, cut_mid, decide_eq_true_eq, if_pos, if_neg]
    have D12 : DH (i * 1000 + 91) h12 ps := D11.gr G12.left
    have F12 : Fr ps h0 h12 := F11.trans (Fr.of G12.left)
    clear l12 l12' G12 e12 D11 F11 l11 l10' hlt10
    obtain ⟨w13, h13, e13, n, rfl, n1, n2, D13, F13⟩ := ev_get (roll_Ev (many := 32) D12 hq (by omega) (by omega) (by omega))
    rw [← roll_eq] at e13
    simp (disch := first | omega | (simp only [List.length_append, List.length_cons, List.length_nil, List.length_set, List.length_drop, List.length_take, List.length_map]; omega)) only [e13, sv_nx, sv_rt, sv_ct, rnd_nx, rnd_ct, Int.toNat_natCast, ne_eq, eq_self, not_true_eq_false, not_false_eq_true, mVar_z, Nat.reduceAdd, Nat.zero_add, Int.zero_add, Int.reduceAdd, Int.reduceSub, Int.reduceNeg, ap_Lst, ap_Tup, nil_app, cons_app, List.length_append, lst_last, mVar_s, ok_bnd, ok_stm, exc_bnd, ev_okE, exc_stm, ap_C, ap_Op, ap_Un, ap_B, ap_Chain, ap_asB, ap_And, ap_Or, ap_Not, ap_AndV, ap_OrV, ap_NotV, ap_If, ap_Nil, ap_Cons, ap_CB, ap_Meth, ap_Part, ap_NoPart, ap_Sl, ap_Yes, add_ii, add_ss, sub_ii, neg_i, mul_ii, fdiv_ii, mod_ii, eq_ii, ne_ii, eq_ss, ne_ss, lt_ii, le_ii, gt_ii, ge_ii, lt_ss, gt_ss, le_ss, ge_ss, len_s, len_t, abs_i, int_i, int_b, max_ii, min_ii, ix_s, ixL_0, ixL_1, ixL_2, ixL_3, ixL_n, ixL_i, ixL_st, setL_n, setL_i, List.length_map, List.length_set, ix_r, getL_r, ix_tL, withL_s, setL_0, setL_1, setL_2, set_r, app_r, lst_z, lst_s, iadd_ii, tuple_r, mul_ri, sl_s, sl_rol, sl_t, sl_r, cut_from, cut_to, ap_Seq, nx_seq, rt_seq, ct_seq, bk_seq, exc_seq, ap_Raise, ap_Skip, ap_Brk, ap_Cnt, ap_Drop, ap_Ret, ap_IfS, ap_Set, ap_Ts, ap_AsgT, tgT_t, tgTs_n, tgTs_c, ap_Aug, ap_SetI, ap_AugI, mFor_ap, ap_Rng1, ap_Rng2, rng1_ok, rng2_ok, ap_Iter, src_t, src_s, src_rL, ap_Comp, wipe_n, wipe_c, len_cons, len_nil, zip_cc, zip_nn, foldl_c, foldl_n, set_z, set_s, ite_t, ite_f, ite_T, ite_F, sing_lt, sing_eq, ty_r, ty_s, isS, cut_mid, decide_eq_true_eq, if_pos, if_neg]
    have F13' := F12.trans F13
    clear e13 F13 D12 F12
    repeat (first | with_reducible apply sv_seq | with_reducible apply sv_stm | with_reducible apply ev_bnd)
    refine comp_tup xs .int (by omega) (by omega) (fun z => decide (z < n)) .int (fun z hz h' G => ?_) (fun z hz hc h' G => ?_) (fun h14 G14 => ?_)
    · simp (disch := first | omega | (simp only [List.length_append, List.length_cons, List.length_nil, List.length_set, List.length_drop, List.length_take, List.length_map]; omega)) only [sv_nx, sv_rt, sv_ct, rnd_nx, rnd_ct, Int.toNat_natCast, ne_eq, eq_self, not_true_eq_false, not_false_eq_true, mVar_z, Nat.reduceAdd, Nat.zero_add, Int.zero_add, Int.reduceAdd, Int.reduceSub, Int.reduceNeg, ap_Lst, ap_Tup, nil_app, cons_app, List.length_append, lst_last, mVar_s, ok_bnd, ok_stm, exc_bnd, ev_okE, exc_stm, ap_C, ap_Op, ap_Un, ap_B, ap_Chain, ap_asB, ap_And, ap_Or, ap_Not, ap_AndV, ap_OrV, ap_NotV, ap_If, ap_Nil, ap_Cons, ap_CB, ap_Meth, ap_Part, ap_NoPart, ap_Sl, ap_Yes, add_ii, add_ss, sub_ii, neg_i, mul_ii, fdiv_ii, mod_ii, eq_ii, ne_ii, eq_ss, ne_ss, lt_ii, le_ii, gt_ii, ge_ii, lt_ss, gt_ss, le_ss, ge_ss, len_s, len_t, abs_i, int_i, int_b, max_ii, min_ii, ix_s, ixL_0, ixL_1, ixL_2, ixL_3, ixL_n, ixL_i, ixL_st, setL_n, setL_i, List.length_map, List.length_set, ix_r, getL_r, ix_tL, withL_s, setL_0, setL_1, setL_2, set_r, app_r, lst_z, lst_s, iadd_ii, tuple_r, mul_ri, sl_s, sl_rol, sl_t, sl_r, cut_from, cut_to, ap_Seq, nx_seq, rt_seq, ct_seq, bk_seq, exc_seq, ap_Raise, ap_Skip, ap_Brk, ap_Cnt, ap_Drop, ap_Ret, ap_IfS, ap_Set, ap_Ts, ap_AsgT, tgT_t, tgTs_n, tgTs_c, ap_Aug, ap_SetI, ap_AugI, mFor_ap, ap_Rng1, ap_Rng2, rng1_ok, rng2_ok, ap_Iter, src_t, src_s, src_rL, ap_Comp, wipe_n, wipe_c, len_cons, len_nil, zip_cc, zip_nn, foldl_c, foldl_n, set_z, set_s, ite_t, ite_f, ite_T, ite_F, sing_lt, sing_eq, ty_r, ty_s, isS, cut_mid, decide_eq_true_eq, if_pos, if_neg]
      exact ⟨trivial, Gr.refl⟩
    · simp (disch := first | omega | (simp only [List.length_append, List.length_cons, List.length_nil, List.length_set, List.length_drop, List.length_take, List.length_map]; omega)) only [sv_nx, sv_rt, sv_ct, rnd_nx, rnd_ct, Int.toNat_natCast, ne_eq, eq_self, not_true_eq_false, not_false_eq_true, mVar_z, Nat.reduceAdd, Nat.zero_add, Int.zero_add, Int.reduceAdd, Int.reduceSub, Int.reduceNeg, ap_Lst, ap_Tup, nil_app, cons_app, List.length_append, lst_last, mVar_s, ok_bnd, ok_stm, exc_bnd, ev_okE, exc_stm, ap_C, ap_Op, ap_Un, ap_B, ap_Chain, ap_asB, ap_And, ap_Or, ap_Not, ap_AndV, ap_OrV, ap_NotV, ap_If, ap_Nil, ap_Cons, ap_CB, ap_Meth, ap_Part, ap_NoPart, ap_Sl, ap_Yes, add_ii, add_ss, sub_ii, neg_i, mul_ii, fdiv_ii, mod_ii, eq_ii, ne_ii, eq_ss, ne_ss, lt_ii, le_ii, gt_ii, ge_ii, lt_ss, gt_ss, le_ss, ge_ss, len_s, len_t, abs_i, int_i, int_b, max_ii, min_ii, ix_s, ixL_0, ixL_1, ixL_2, ixL_3, ixL_n, ixL_i, ixL_st, setL_n, setL_i, List.length_map, List.length_set, ix_r, getL_r, ix_tL, withL_s, setL_0, setL_1, setL_2, set_r, app_r, lst_z, lst_s, iadd_ii, tuple_r, mul_ri, sl_s, sl_rol, sl_t, sl_r, cut_from, cut_to, ap_Seq, nx_seq, rt_seq, ct_seq, bk_seq, exc_seq, ap_Raise, ap_Skip, ap_Brk, ap_Cnt, ap_Drop, ap_Ret, ap_IfS, ap_Set, ap_Ts, ap_AsgT, tgT_t, tgTs_n, tgTs_c, ap_Aug, ap_SetI, ap_AugI, mFor_ap, ap_Rng1, ap_Rng2, rng1_ok, rng2_ok, ap_Iter, src_t, src_s, src_rL, ap_Comp, wipe_n, wipe_c, len_cons, len_nil, zip_cc, zip_nn, foldl_c, foldl_n, set_z, set_s, ite_t, ite_f, ite_T, ite_F, sing_lt, sing_eq, ty_r, ty_s, isS, cut_mid, decide_eq_true_eq, if_pos, if_neg]
      exact ⟨trivial, Gr.refl⟩
    have hlen14 := len_r G14.lastL
    rw [List.length_map] at hlen14
    have hcnt : (xs.filter fun z => decide (z < n)).length = cntB xs n := rfl
    rw [hcnt] at hlen14
    have D14 : DH (i * 1000 + 92) h14 ps := D13.gr G14.left
    have F14 : Fr ps h0 h14 := F13'.trans (Fr.of G14.left)
    obtain ⟨w15, h15, e15, f0, rfl, f1, f2, D15, F15⟩ := ev_get (roll_Ev (many := (xs.length : Int) + 1) D14 hq (by omega) (by omega) (by omega))
    rw [← roll_eq] at e15
    have hf0 : f0 = ((f0.toNat : Nat) : Int) := by omega
    generalize f0.toNat = f at hf0
    subst hf0
    obtain ⟨k, hk⟩ := leaped_all xs f n R1.1 lx (by omega)
    have hplc := place_all R1 n
    have hmx : (if (f : Int) > (cntB xs n : Nat) then (f : Int) else (cntB xs n : Nat)) = ((max (cntB xs n) f : Nat) : Int) := by split <;> omega
    have hk0 : ¬ ((k : Int) < 0) := by omega
    simp (disch := first | omega | (simp only [List.length_append, List.length_cons, List.length_nil, List.length_set, List.length_drop, List.length_take, List.length_map]; omega)) only [hlen14, e15, hk, hplc, hmx, hk0, decide_false, decide_true, sv_nx, sv_rt, sv_ct, rnd_nx, rnd_ct, Int.toNat_natCast, ne_eq, eq_self, not_true_eq_false, not_false_eq_true, mVar_z, Nat.reduceAdd, Nat.zero_add, Int.zero_add, Int.reduceAdd, Int.reduceSub, Int.reduceNeg, ap_Lst, ap_Tup, nil_app, cons_app, List.length_append, lst_last, mVar_s, ok_bnd, ok_stm, exc_bnd, ev_okE, exc_stm, ap_C, ap_Op, ap_Un, ap_B, ap_Chain, ap_asB, ap_And, ap_Or, ap_Not, ap_AndV, ap_OrV, ap_NotV, ap_If, ap_Nil, ap_Cons, ap_CB, ap_Meth, ap_Part, ap_NoPart, ap_Sl, ap_Yes, add_ii, add_ss, sub_ii, neg_i, mul_ii, fdiv_ii, mod_ii, eq_ii, ne_ii, eq_ss, ne_ss, lt_ii, le_ii, gt_ii, ge_ii, lt_ss, gt_ss, le_ss, ge_ss, len_s, len_t, abs_i, int_i, int_b, max_ii, min_ii, ix_s, ixL_0, ixL_1, ixL_2, ixL_3, ixL_n, ixL_i, ixL_st, setL_n, setL_i, List.length_map, List.length_set, ix_r, getL_r, ix_tL, withL_s, setL_0, setL_1, setL_2, set_r, app_r, lst_z, lst_s, iadd_ii, tuple_r, mul_ri, sl_s, sl_rol, sl_t, sl_r, cut_from, cut_to, ap_Seq, nx_seq, rt_seq, ct_seq, bk_seq, exc_seq, ap_Raise, ap_Skip, ap_Brk, ap_Cnt, ap_Drop, ap_Ret, ap_IfS, ap_Set, ap_Ts, ap_AsgT, tgT_t, tgTs_n, tgTs_c, ap_Aug, ap_SetI, ap_AugI, mFor_ap, ap_Rng1, ap_Rng2, rng1_ok, rng2_ok, ap_Iter, src_t, src_s, src_rL, ap_Comp, wipe_n, wipe_c, len_cons, len_nil, zip_cc, zip_nn, foldl_c, foldl_n, set_z, set_s, ite_t, ite_f, ite_T, ite_F, sing_lt, sing_eq, ty_r, ty_s, isS, cut_mid, decide_eq_true_eq, if_pos, if_neg]
    have F15' := F14.trans F15
    clear e15 F15 D14 F14 G14 D13 F13' hlen14
    refine sv_cut (R' := fun o => ∃ (g : Nat) (a b : Option W) (hh : List O), o = SOut.nx [some (scriptW ns), some (W.ref q), some (T xs), some (T ys), some (T zs), some (W.tup (List.map W.int (both2 xs ys))), some (W.int (1 + m0)), some (W.ref c9), some (W.int n),
            some (W.int ↑(cntB xs n)), some (W.int ↑f), some (W.int ↑(max (cntB xs n) f)), some (W.int ↑k), some (W.ref g), a, a15, a16, a17, b, a19] hh ∧ lstAt hh g = some ((gaps xs ys).map .int) ∧ Gr h15 hh) ?_ ?_
    · refine forGo_tup (xs.map .int) 14 (fun j e hh => ∃ (g : Nat) (a b : Option W), e = [some (scriptW ns), some (W.ref q), some (T xs), some (T ys), some (T zs), some (W.tup (List.map W.int (both2 xs ys))), some (W.int (1 + m0)), some (W.ref c9), some (W.int n),
            some (W.int ↑(cntB xs n)), some (W.int ↑f), some (W.int ↑(max (cntB xs n) f)), some (W.int ↑k), some (W.ref g), a, a15, a16, a17, b, a19] ∧ lstAt hh g = some ((gaps (xs.take j) ys).map .int) ∧ (gaps (xs.take j) ys).length ≤ 12 * j ∧ Gr h15 hh) (by simp; omega) ⟨h15.length, _, _, rfl, lst_last, by simp [gaps], Gr.app⟩ ?_ ?_
      · rintro j e hh hj ⟨g, a, b, rfl, hg, hgl, G⟩
        have hj : j < xs.length := by simpa using hj
        have ht : gaps (xs.take (j + 1)) ys = gaps (xs.take j) ys ++ ys.map fun b => gp xs[j] b := by
          unfold gaps
          rw [List.take_succ_eq_append_getElem hj, List.flatMap_append]
          simp
        have ly12 := R2.2.1
        have lx12 := R1.2.1
        rw [List.getElem_map]
        generalize xs[j] = x at ht
        simp (disch := first | omega | (simp only [List.length_append, List.length_cons, List.length_nil, List.length_set, List.length_drop, List.length_take, List.length_map]; omega)) only [sv_nx, sv_rt, sv_ct, rnd_nx, rnd_ct, Int.toNat_natCast, ne_eq, eq_self, not_true_eq_false, not_false_eq_true, mVar_z, Nat.reduceAdd, Nat.zero_add, Int.zero_add, Int.reduceAdd, Int.reduceSub, Int.reduceNeg, ap_Lst, ap_Tup, nil_app, cons_app, List.length_append, lst_last, mVar_s, ok_bnd, ok_stm, exc_bnd, ev_okE, exc_stm, ap_C, ap_Op, ap_Un, ap_B, ap_Chain, ap_asB, ap_And, ap_Or, ap_Not, ap_AndV, ap_OrV, ap_NotV, ap_If, ap_Nil, ap_Cons, ap_CB, ap_Meth, ap_Part, ap_NoPart, ap_Sl, ap_Yes, add_ii, add_ss, sub_ii, neg_i, mul_ii, fdiv_ii, mod_ii, eq_ii, ne_ii, eq_ss, ne_ss, lt_ii, le_ii, gt_ii, ge_ii, lt_ss, gt_ss, le_ss, ge_ss, len_s, len_t, abs_i, int_i, int_b, max_ii, min_ii, ix_s, ixL_0, ixL_1, ixL_2, ixL_3, ixL_n, ixL_i, ixL_st, setL_n, setL_i, List.length_map, List.length_set, ix_r, getL_r, ix_tL, withL_s, setL_0, setL_1, setL_2, set_r, app_r, lst_z, lst_s, iadd_ii, tuple_r, mul_ri, sl_s, sl_rol, sl_t, sl_r, cut_from, cut_to, ap_Seq, nx_seq, rt_seq, ct_seq, bk_seq, exc_seq, ap_Raise, ap_Skip, ap_Brk, ap_Cnt, ap_Drop, ap_Ret, ap_IfS, ap_Set, ap_Ts, ap_AsgT, tgT_t, tgTs_n, tgTs_c, ap_Aug, ap_SetI, ap_AugI, mFor_ap, ap_Rng1, ap_Rng2, rng1_ok, rng2_ok, ap_Iter, src_t, src_s, src_rL, ap_Comp, wipe_n, wipe_c, len_cons, len_nil, zip_cc, zip_nn, foldl_c, foldl_n, set_z, set_s, ite_t, ite_f, ite_T, ite_F, sing_lt, sing_eq, ty_r, ty_s, isS, cut_mid, decide_eq_true_eq, if_pos, if_neg]
        repeat (first | with_reducible apply sv_seq | with_reducible apply sv_stm | with_reducible apply ev_bnd)
        refine comp_tup ys .int (by omega) (by omega) (fun _ => true) (fun y => .int (gp x y)) (fun y hy h' G' => ?_) (fun y hy hc h' G' => ?_) (fun h' G' => ?_)
        · simp (disch := first | omega | (simp only [List.length_append, List.length_cons, List.length_nil, List.length_set, List.length_drop, List.length_take, List.length_map]; omega)) only [sv_nx, sv_rt, sv_ct, rnd_nx, rnd_ct, Int.toNat_natCast, ne_eq, eq_self, not_true_eq_false, not_false_eq_true, mVar_z, Nat.reduceAdd, Nat.zero_add, Int.zero_add, Int.reduceAdd, Int.reduceSub, Int.reduceNeg, ap_Lst, ap_Tup, nil_app, cons_app, List.length_append, lst_last, mVar_s, ok_bnd, ok_stm, exc_bnd, ev_okE, exc_stm, ap_C, ap_Op, ap_Un, ap_B, ap_Chain, ap_asB, ap_And, ap_Or, ap_Not, ap_AndV, ap_OrV, ap_NotV, ap_If, ap_Nil, ap_Cons, ap_CB, ap_Meth, ap_Part, ap_NoPart, ap_Sl, ap_Yes, add_ii, add_ss, sub_ii, neg_i, mul_ii, fdiv_ii, mod_ii, eq_ii, ne_ii, eq_ss, ne_ss, lt_ii, le_ii, gt_ii, ge_ii, lt_ss, gt_ss, le_ss, ge_ss, len_s, len_t, abs_i, int_i, int_b, max_ii, min_ii, ix_s, ixL_0, ixL_1, ixL_2, ixL_3, ixL_n, ixL_i, ixL_st, setL_n, setL_i, List.length_map, List.length_set, ix_r, getL_r, ix_tL, withL_s, setL_0, setL_1, setL_2, set_r, app_r, lst_z, lst_s, iadd_ii, tuple_r, mul_ri, sl_s, sl_rol, sl_t, sl_r, cut_from, cut_to, ap_Seq, nx_seq, rt_seq, ct_seq, bk_seq, exc_seq, ap_Raise, ap_Skip, ap_Brk, ap_Cnt, ap_Drop, ap_Ret, ap_IfS, ap_Set, ap_Ts, ap_AsgT, tgT_t, tgTs_n, tgTs_c, ap_Aug, ap_SetI, ap_AugI, mFor_ap, ap_Rng1, ap_Rng2, rng1_ok, rng2_ok, ap_Iter, src_t, src_s, src_rL, ap_Comp, wipe_n, wipe_c, len_cons, len_nil, zip_cc, zip_nn, foldl_c, foldl_n, set_z, set_s, ite_t, ite_f, ite_T, ite_F, sing_lt, sing_eq, ty_r, ty_s, isS, cut_mid, decide_eq_true_eq, if_pos, if_neg]
          exact ⟨trivial, Gr.refl⟩
        · simp (disch := first | omega | (simp only [List.length_append, List.length_cons, List.length_nil, List.length_set, List.length_drop, List.length_take, List.length_map]; omega)) only [sv_nx, sv_rt, sv_ct, rnd_nx, rnd_ct, Int.toNat_natCast, ne_eq, eq_self, not_true_eq_false, not_false_eq_true, mVar_z, Nat.reduceAdd, Nat.zero_add, Int.zero_add, Int.reduceAdd, Int.reduceSub, Int.reduceNeg, ap_Lst, ap_Tup, nil_app, cons_app, List.length_append, lst_last, mVar_s, ok_bnd, ok_stm, exc_bnd, ev_okE, exc_stm, ap_C, ap_Op, ap_Un, ap_B, ap_Chain, ap_asB, ap_And, ap_Or, ap_Not, ap_AndV, ap_OrV, ap_NotV, ap_If, ap_Nil, ap_Cons, ap_CB, ap_Meth, ap_Part, ap_NoPart, ap_Sl, ap_Yes, add_ii, add_ss, sub_ii, neg_i, mul_ii, fdiv_ii, mod_ii, eq_ii, ne_ii, eq_ss, ne_ss, lt_ii, le_ii, gt_ii, ge_ii, lt_ss, gt_ss, le_ss, ge_ss, len_s, len_t, abs_i, int_i, int_b, max_ii, min_ii, ix_s, ixL_0, ixL_1, ixL_2, ixL_3, ixL_n, ixL_i, ixL_st, setL_n, setL_i, List.length_map, List.length_set, ix_r, getL_r, ix_tL, withL_s, setL_0, setL_1, setL_2, set_r, app_r, lst_z, lst_s, iadd_ii, tuple_r, mul_ri, sl_s, sl_rol, sl_t, sl_r, cut_from, cut_to, ap_Seq, nx_seq, rt_seq, ct_seq, bk_seq, exc_seq, ap_Raise, ap_Skip, ap_Brk, ap_Cnt, ap_Drop, ap_Ret, ap_IfS, ap_Set, ap_Ts, ap_AsgT, tgT_t, tgTs_n, tgTs_c, ap_Aug, ap_SetI, ap_AugI, mFor_ap, ap_Rng1, ap_Rng2, rng1_ok, rng2_ok, ap_Iter, src_t, src_s, src_rL, ap_Comp, wipe_n, wipe_c, len_cons, len_nil, zip_cc, zip_nn, foldl_c, foldl_n, set_z, set_s, ite_t, ite_f, ite_T, ite_F, sing_lt, sing_eq, ty_r, ty_s, isS, cut_mid, decide_eq_true_eq, if_pos, if_neg]
          exact ⟨rfl, Gr.refl⟩
        · have l1 := G'.left.lst hg
          have l2 : lstAt h' hh.length = some ((ys.map fun y => gp x y).map .int) := by
            rw [G'.lastL, List.filter_eq_self.2 (by simp), List.map_map]; rfl
          simp (disch := first | omega | (simp only [List.length_append, List.length_cons, List.length_nil, List.length_set, List.length_drop, List.length_take, List.length_map]; omega)) only [add_rr, l1, l2, sv_nx, sv_rt, sv_ct, rnd_nx, rnd_ct, Int.toNat_natCast, ne_eq, eq_self, not_true_eq_false, not_false_eq_true, mVar_z, Nat.reduceAdd, Nat.zero_add, Int.zero_add, Int.reduceAdd, Int.reduceSub, Int.reduceNeg, ap_Lst, ap_Tup, nil_app, cons_app, List.length_append, lst_last, mVar_s, ok_bnd, ok_stm, exc_bnd, ev_okE, exc_stm, ap_C, ap_Op, ap_Un, ap_B, ap_Chain, ap_asB, ap_And, ap_Or, ap_Not, ap_AndV, ap_OrV, ap_NotV, ap_If, ap_Nil, ap_Cons, ap_CB, ap_Meth, ap_Part, ap_NoPart, ap_Sl, ap_Yes, add_ii, add_ss, sub_ii, neg_i, mul_ii, fdiv_ii, mod_ii, eq_ii, ne_ii, eq_ss, ne_ss, lt_ii, le_ii, gt_ii, ge_ii, lt_ss, gt_ss, le_ss, ge_ss, len_s, len_t, abs_i, int_i, int_b, max_ii, min_ii, ix_s, ixL_0, ixL_1, ixL_2, ixL_3, ixL_n, ixL_i, ixL_st, setL_n, setL_i, List.length_map, List.length_set, ix_r, getL_r, ix_tL, withL_s, setL_0, setL_1, setL_2, set_r, app_r, lst_z, lst_s, iadd_ii, tuple_r, mul_ri, sl_s, sl_rol, sl_t, sl_r, cut_from, cut_to, ap_Seq, nx_seq, rt_seq, ct_seq, bk_seq, exc_seq, ap_Raise, ap_Skip, ap_Brk, ap_Cnt, ap_Drop, ap_Ret, ap_IfS, ap_Set, ap_Ts, ap_AsgT, tgT_t, tgTs_n, tgTs_c, ap_Aug, ap_SetI, ap_AugI, mFor_ap, ap_Rng1, ap_Rng2, rng1_ok, rng2_ok, ap_Iter, src_t, src_s, src_rL, ap_Comp, wipe_n, wipe_c, len_cons, len_nil, zip_cc, zip_nn, foldl_c, foldl_n, set_z, set_s, ite_t, ite_f, ite_T, ite_F, sing_lt, sing_eq, ty_r, ty_s, isS, cut_mid, decide_eq_true_eq, if_pos, if_neg]
          refine ⟨h'.length, some (.int x), _, rfl, ?_, ?_, (G.trans G'.left).trans Gr.app⟩
          · rw [ht, List.map_append]; exact lst_last
          · rw [ht, List.length_append, List.length_map]; omega
      · rintro e hh ⟨g, a, b, rfl, hg, hgl, G⟩
        rw [List.length_map, List.take_length] at hg
        exact ⟨g, a, b, hh, rfl, hg, G⟩
    rintro o ⟨g, a, b, h16, rfl, hg, G16⟩
    have D16 : DH (i * 1000 + 93) h16 ps := D15.gr G16
    have F16 : Fr ps h0 h16 := F15'.trans (Fr.of G16)
    clear G16 D15 F15'
    obtain ⟨o, ⟨o1, o2⟩, hn⟩ := near_all R1 R2
    have hsp := lspans_all R1
    have hg1 : lstAt (h16 ++ [O.lst []]) g = some ((gaps xs ys).map .int) := by rw [lst_old (lst_lt hg)]; exact hg
    have ng := ne_ints (h := h16 ++ [O.lst []]) (n := g) (m := h16.length) (l := gaps xs ys) (l' := []) hg1 lst_last
    have hnear : ∀ (R : SOut → Prop) (e : Den.Env), e[2]? = some (some (T xs)) → e[3]? = some (some (T ys)) → e[13]? = some (some (.ref g)) → R (SOut.nx e (h16 ++ [O.lst []])) → Sv (mIfS (mB (mOp oNe (mCB (pureRun den_nearest_pair 2) (mCons (mVar 2) (mCons (mVar 3) mNil))) (mIf (mB (mOp oNe (mVar 13) (mLst mNil))) (mCB oMin (mCons (mVar 13) mNil)) (mC W.non)))) (mRet (mC (W.bl false))) mSkip e h16) R := fun R e v2 v3 v13 hR => by
      have w2 : ∀ h, mVar 2 e h = .ok (T xs) h := fun h => by unfold mVar; rw [v2]
      have w3 : ∀ h, mVar 3 e h = .ok (T ys) h := fun h => by unfold mVar; rw [v3]
      have w13 : ∀ h, mVar 13 e h = .ok (.ref g) h := fun h => by unfold mVar; rw [v13]
      by_cases hgn : gaps xs ys = []
      · have on : o = none := by
          cases o with
          | none => rfl
          | some m =>
            have := mem_gaps.2 (o1 m rfl)
            rw [hgn] at this
            cases this
        subst on
        rw [hgn] at ng
        simp (disch := first | omega | (simp only [List.length_append, List.length_cons, List.length_nil, List.length_set, List.length_drop, List.length_take, List.length_map]; omega)) only [w2, w3, w13, hn, ng, bW, ne_nn, decide_false, decide_true, sv_nx, sv_rt, sv_ct, rnd_nx, rnd_ct, Int.toNat_natCast, ne_eq, eq_self, not_true_eq_false, not_false_eq_true, mVar_z, Nat.reduceAdd, Nat.zero_add, Int.zero_add, Int.reduceAdd, Int.reduceSub, Int.reduceNeg, ap_Lst, ap_Tup, nil_app, cons_app, List.length_append, lst_last, mVar_s, ok_bnd, ok_stm, exc_bnd, ev_okE, exc_stm, ap_C, ap_Op, ap_Un, ap_B, ap_Chain, ap_asB, ap_And, ap_Or, ap_Not, ap_AndV, ap_OrV, ap_NotV, ap_If, ap_Nil, ap_Cons, ap_CB, ap_Meth, ap_Part, ap_NoPart, ap_Sl, ap_Yes, add_ii, add_ss, sub_ii, neg_i, mul_ii, fdiv_ii, mod_ii, eq_ii, ne_ii, eq_ss, ne_ss, lt_ii, le_ii, gt_ii, ge_ii, lt_ss, gt_ss, le_ss, ge_ss, len_s, len_t, abs_i, int_i, int_b, max_ii, min_ii, ix_s, ixL_0, ixL_1, ixL_2, ixL_3, ixL_n, ixL_i, ixL_st, setL_n, setL_i, List.length_map, List.length_set, ix_r, getL_r, ix_tL, withL_s, setL_0, setL_1, setL_2, set_r, app_r, lst_z, lst_s, iadd_ii, tuple_r, mul_ri, sl_s, sl_rol, sl_t, sl_r, cut_from, cut_to, ap_Seq, nx_seq, rt_seq, ct_seq, bk_seq, exc_seq, ap_Raise, ap_Skip, ap_Brk, ap_Cnt, ap_Drop, ap_Ret, ap_IfS, ap_Set, ap_Ts, ap_AsgT, tgT_t, tgTs_n, tgTs_c, ap_Aug, ap_SetI, ap_AugI, mFor_ap, ap_Rng1, ap_Rng2, rng1_ok, rng2_ok, ap_Iter, src_t, src_s, src_rL, ap_Comp, wipe_n, wipe_c, len_cons, len_nil, zip_cc, zip_nn, foldl_c, foldl_n, set_z, set_s, ite_t, ite_f, ite_T, ite_F, sing_lt, sing_eq, ty_r, ty_s, isS, cut_mid, decide_eq_true_eq, if_pos, if_neg]
        exact hR
      · obtain ⟨g0, hg0⟩ := List.exists_mem_of_ne_nil _ hgn
        obtain ⟨x, hx, y, hy, rfl⟩ := mem_gaps.1 hg0
        obtain ⟨m, rfl, _⟩ := o2 x hx y hy
        have hmin := min_r (h := h16 ++ [O.lst []]) (p := g) (l := gaps xs ys) hg1 (r := m) (mem_gaps.2 (o1 m rfl)) (fun z hz => by
          obtain ⟨x, hx, y, hy, rfl⟩ := mem_gaps.1 hz
          obtain ⟨m', e, hm⟩ := o2 x hx y hy
          cases e
          exact hm)
        simp (disch := first | omega | (simp only [List.length_append, List.length_cons, List.length_nil, List.length_set, List.length_drop, List.length_take, List.length_map]; omega)) only [w2, w3, w13, hn, ng, bW, hgn, hmin, decide_false, decide_true, sv_nx, sv_rt, sv_ct, rnd_nx, rnd_ct, Int.toNat_natCast, ne_eq, eq_self, not_true_eq_false, not_false_eq_true, mVar_z, Nat.reduceAdd, Nat.zero_add, Int.zero_add, Int.reduceAdd, Int.reduceSub, Int.reduceNeg, ap_Lst, ap_Tup, nil_app, cons_app, List.length_append, lst_last, mVar_s, ok_bnd, ok_stm, exc_bnd, ev_okE, exc_stm, ap_C, ap_Op, ap_Un, ap_B, ap_Chain, ap_asB, ap_And, ap_Or, ap_Not, ap_AndV, ap_OrV, ap_NotV, ap_If, ap_Nil, ap_Cons, ap_CB, ap_Meth, ap_Part, ap_NoPart, ap_Sl, ap_Yes, add_ii, add_ss, sub_ii, neg_i, mul_ii, fdiv_ii, mod_ii, eq_ii, ne_ii, eq_ss, ne_ss, lt_ii, le_ii, gt_ii, ge_ii, lt_ss, gt_ss, le_ss, ge_ss, len_s, len_t, abs_i, int_i, int_b, max_ii, min_ii, ix_s, ixL_0, ixL_1, ixL_2, ixL_3, ixL_n, ixL_i, ixL_st, setL_n, setL_i, List.length_map, List.length_set, ix_r, getL_r, ix_tL, withL_s, setL_0, setL_1, setL_2, set_r, app_r, lst_z, lst_s, iadd_ii, tuple_r, mul_ri, sl_s, sl_rol, sl_t, sl_r, cut_from, cut_to, ap_Seq, nx_seq, rt_seq, ct_seq, bk_seq, exc_seq, ap_Raise, ap_Skip, ap_Brk, ap_Cnt, ap_Drop, ap_Ret, ap_IfS, ap_Set, ap_Ts, ap_AsgT, tgT_t, tgTs_n, tgTs_c, ap_Aug, ap_SetI, ap_AugI, mFor_ap, ap_Rng1, ap_Rng2, rng1_ok, rng2_ok, ap_Iter, src_t, src_s, src_rL, ap_Comp, wipe_n, wipe_c, len_cons, len_nil, zip_cc, zip_nn, foldl_c, foldl_n, set_z, set_s, ite_t, ite_f, ite_T, ite_F, sing_lt, sing_eq, ty_r, ty_s, isS, cut_mid, decide_eq_true_eq, if_pos, if_neg]
        exact hR
    rw [nx_seq, ap_Seq]
    refine sv_cut (R' := fun o => o = SOut.nx _ (h16 ++ [O.lst []])) (hnear _ _ rfl rfl rfl rfl) ?_
    rintro o rfl
    have D17 : DH (i * 1000 + 93) (h16 ++ [O.lst []]) ps := D16.gr Gr.app
    have F17 : Fr ps h0 (h16 ++ [O.lst []]) := F16.trans (Fr.of Gr.app)
    clear hg hg1 ng hnear D16 F16
    generalize h16 ++ [O.lst []] = h17 at *
    simp (disch := first | omega | (simp only [List.length_append, List.length_cons, List.length_nil, List.length_set, List.length_drop, List.length_take, List.length_map]; omega)) only [hsp, ap_Tru, tru_bl, Bool.not_true, sv_nx, sv_rt, sv_ct, rnd_nx, rnd_ct, Int.toNat_natCast, ne_eq, eq_self, not_true_eq_false, not_false_eq_true, mVar_z, Nat.reduceAdd, Nat.zero_add, Int.zero_add, Int.reduceAdd, Int.reduceSub, Int.reduceNeg, ap_Lst, ap_Tup, nil_app, cons_app, List.length_append, lst_last, mVar_s, ok_bnd, ok_stm, exc_bnd, ev_okE, exc_stm, ap_C, ap_Op, ap_Un, ap_B, ap_Chain, ap_asB, ap_And, ap_Or, ap_Not, ap_AndV, ap_OrV, ap_NotV, ap_If, ap_Nil, ap_Cons, ap_CB, ap_Meth, ap_Part, ap_NoPart, ap_Sl, ap_Yes, add_ii, add_ss, sub_ii, neg_i, mul_ii, fdiv_ii, mod_ii, eq_ii, ne_ii, eq_ss, ne_ss, lt_ii, le_ii, gt_ii, ge_ii, lt_ss, gt_ss, le_ss, ge_ss, len_s, len_t, abs_i, int_i, int_b, max_ii, min_ii, ix_s, ixL_0, ixL_1, ixL_2, ixL_3, ixL_n, ixL_i, ixL_st, setL_n, setL_i, List.length_map, List.length_set, ix_r, getL_r, ix_tL, withL_s, setL_0, setL_1, setL_2, set_r, app_r, lst_z, lst_s, iadd_ii, tuple_r, mul_ri, sl_s, sl_rol, sl_t, sl_r, cut_from, cut_to, ap_Seq, nx_seq, rt_seq, ct_seq, bk_seq, exc_seq, ap_Raise, ap_Skip, ap_Brk, ap_Cnt, ap_Drop, ap_Ret, ap_IfS, ap_Set, ap_Ts, ap_AsgT, tgT_t, tgTs_n, tgTs_c, ap_Aug, ap_SetI, ap_AugI, mFor_ap, ap_Rng1, ap_Rng2, rng1_ok, rng2_ok, ap_Iter, src_t, src_s, src_rL, ap_Comp, wipe_n, wipe_c, len_cons, len_nil, zip_cc, zip_nn, foldl_c, foldl_n, set_z, set_s, ite_t, ite_f, ite_T, ite_F, sing_lt, sing_eq, ty_r, ty_s, isS, cut_mid, decide_eq_true_eq, if_pos, if_neg]
    have q0 : lstAt (h17 ++ [O.lst [W.int 1]] ++ [O.lst [W.tup [W.int 1, W.int 1], W.tup [W.int 2, W.int 1], W.tup [W.int (-1)], W.tup [W.bl true], W.ref h17.length, W.non]]) h17.length = some [W.int 1] := by
      rw [lst_old (by simp)]; exact lst_last
    have q1 : lstAt (h17 ++ [O.lst [W.int 1]] ++ [O.lst [W.tup [W.int 1, W.int 1], W.tup [W.int 2, W.int 1], W.tup [W.int (-1)], W.tup [W.bl true], W.ref h17.length, W.non]]) (h17.length + 1) = some [W.tup [W.int 1, W.int 1], W.tup [W.int 2, W.int 1], W.tup [W.int (-1)], W.tup [W.bl true], W.ref h17.length, W.non] := by
      have e9 : h17.length + 1 = (h17 ++ [O.lst [W.int 1]]).length := by simp
      rw [e9]; exact lst_last
    have gH : Gr h17 (h17 ++ [O.lst [W.int 1]] ++ [O.lst [W.tup [W.int 1, W.int 1], W.tup [W.int 2, W.int 1], W.tup [W.int (-1)], W.tup [W.bl true], W.ref h17.length, W.non]]) := ⟨_, List.append_assoc _ _ _⟩
    generalize (h17 ++ [O.lst [W.int 1]] ++ [O.lst [W.tup [W.int 1, W.int 1], W.tup [W.int 2, W.int 1], W.tup [W.int (-1)], W.tup [W.bl true], W.ref h17.length, W.non]]) = H at *
    rw [q1]
    have hbad : ∀ w ∈ [W.tup [W.int 1, W.int 1], W.tup [W.int 2, W.int 1], W.tup [W.int (-1)], W.tup [W.bl true], W.ref h17.length, W.non], den_is_row [w] H = .ok (.bl false) H := by
      intro w hw
      simp only [List.mem_cons, List.not_mem_nil, or_false] at hw
      rcases hw with rfl | rfl | rfl | rfl | rfl | rfl
      · exact (isrow_ev [1, 1] H (by simp)).trans (by rw [show rowB [1, 1] = false by decide])
      · exact (isrow_ev [2, 1] H (by simp)).trans (by rw [show rowB [2, 1] = false by decide])
      · exact (isrow_ev [-1] H (by simp)).trans (by rw [show rowB [-1] = false by decide])
      · exact isrow_b H
      · exact isrow_l H _ _ q0
      · exact isrow_n H
    simp (disch := first | omega | (simp only [List.length_append, List.length_cons, List.length_nil, List.length_set, List.length_drop, List.length_take, List.length_map]; omega)) only [sv_nx, sv_rt, sv_ct, rnd_nx, rnd_ct, Int.toNat_natCast, ne_eq, eq_self, not_true_eq_false, not_false_eq_true, mVar_z, Nat.reduceAdd, Nat.zero_add, Int.zero_add, Int.reduceAdd, Int.reduceSub, Int.reduceNeg, ap_Lst, ap_Tup, nil_app, cons_app, List.length_append, lst_last, mVar_s, ok_bnd, ok_stm, exc_bnd, ev_okE, exc_stm, ap_C, ap_Op, ap_Un, ap_B, ap_Chain, ap_asB, ap_And, ap_Or, ap_Not, ap_AndV, ap_OrV, ap_NotV, ap_If, ap_Nil, ap_Cons, ap_CB, ap_Meth, ap_Part, ap_NoPart, ap_Sl, ap_Yes, add_ii, add_ss, sub_ii, neg_i, mul_ii, fdiv_ii, mod_ii, eq_ii, ne_ii, eq_ss, ne_ss, lt_ii, le_ii, gt_ii, ge_ii, lt_ss, gt_ss, le_ss, ge_ss, len_s, len_t, abs_i, int_i, int_b, max_ii, min_ii, ix_s, ixL_0, ixL_1, ixL_2, ixL_3, ixL_n, ixL_i, ixL_st, setL_n, setL_i, List.length_map, List.length_set, ix_r, getL_r, ix_tL, withL_s, setL_0, setL_1, setL_2, set_r, app_r, lst_z, lst_s, iadd_ii, tuple_r, mul_ri, sl_s, sl_rol, sl_t, sl_r, cut_from, cut_to, ap_Seq, nx_seq, rt_seq, ct_seq, bk_seq, exc_seq, ap_Raise, ap_Skip, ap_Brk, ap_Cnt, ap_Drop, ap_Ret, ap_IfS, ap_Set, ap_Ts, ap_AsgT, tgT_t, tgTs_n, tgTs_c, ap_Aug, ap_SetI, ap_AugI, mFor_ap, ap_Rng1, ap_Rng2, rng1_ok, rng2_ok, ap_Iter, src_t, src_s, src_rL, ap_Comp, wipe_n, wipe_c, len_cons, len_nil, zip_cc, zip_nn, foldl_c, foldl_n, set_z, set_s, ite_t, ite_f, ite_T, ite_F, sing_lt, sing_eq, ty_r, ty_s, isS, cut_mid, decide_eq_true_eq, if_pos, if_neg]
    have DH' : DH (i * 1000 + 93) H ps := D17.gr gH
    have FH : Fr ps h0 H := F17.trans (Fr.of gH)
    clear gH D17 F17
    refine sv_cut (R' := fun o => ∃ (c : Option W), o = SOut.nx [some (scriptW ns), some (W.ref q), some (T xs), some (T ys), some (T zs), some (W.tup (List.map W.int (both2 xs ys))), some (W.int (1 + m0)), some (W.ref c9), some (W.int n),
            some (W.int ↑(cntB xs n)), some (W.int ↑f), some (W.int ↑(max (cntB xs n) f)), some (W.int ↑k), some (W.ref g), a, c, a16, a17, b, a19] H) ?_ ?_
    · refine forGo_ref (h17.length + 1) [W.tup [W.int 1, W.int 1], W.tup [W.int 2, W.int 1], W.tup [W.int (-1)], W.tup [W.bl true], W.ref h17.length, W.non] 15 (fun j e hh => ∃ (c : Option W), e = [some (scriptW ns), some (W.ref q), some (T xs), some (T ys), some (T zs), some (W.tup (List.map W.int (both2 xs ys))), some (W.int (1 + m0)), some (W.ref c9), some (W.int n),
            some (W.int ↑(cntB xs n)), some (W.int ↑f), some (W.int ↑(max (cntB xs n) f)), some (W.int ↑k), some (W.ref g), a, c, a16, a17, b, a19] ∧ hh = H) (by show (6 : Nat) < 100000; omega) ⟨_, rfl, rfl⟩ (fun j e hh I => by obtain ⟨c, rfl, rfl⟩ := I; exact q1) ?_ ?_
      · rintro j e hh hj ⟨c, rfl, rfl⟩
        have hw := hbad _ (List.getElem_mem hj)
        generalize ([W.tup [W.int 1, W.int 1], W.tup [W.int 2, W.int 1], W.tup [W.int (-1)], W.tup [W.bl true], W.ref h17.length, W.non])[j] = w at hw
        have hc := check_bad hw
        have ht : ∀ e : Den.Env, e[15]? = some (some w) → mTold [(1, [116, 101, 120, 116]), (2, [110, 111, 110, 101])] (mCB (fun ws h => if ws.length = 1 then den_check_row ws h else Out.bad) (mCons (mVar 15) mNil)) e hh = .ok (.str [116, 101, 120, 116]) hh := fun e he => by
          have w15 : mVar 15 e hh = .ok w hh := by unfold mVar; rw [he]
          exact told_exc (c := 1) (p := none) (by simp (disch := first | omega | (simp only [List.length_append, List.length_cons, List.length_nil, List.length_set, List.length_drop, List.length_take, List.length_map]; omega)) only [w15, hc, mVar_z, Nat.reduceAdd, Nat.zero_add, Int.zero_add, Int.reduceAdd, Int.reduceSub, Int.reduceNeg, ap_Lst, ap_Tup, nil_app, cons_app, List.length_append, lst_last, mVar_s, ok_bnd, ok_stm, exc_bnd, ev_okE, exc_stm, ap_C, ap_Op, ap_Un, ap_B, ap_Chain, ap_asB, ap_And, ap_Or, ap_Not, ap_AndV, ap_OrV, ap_NotV, ap_If, ap_Nil, ap_Cons, ap_CB, ap_Meth, ap_Part, ap_NoPart, ap_Sl, ap_Yes, add_ii, add_ss, sub_ii, neg_i, mul_ii, fdiv_ii, mod_ii, eq_ii, ne_ii, eq_ss, ne_ss, lt_ii, le_ii, gt_ii, ge_ii, lt_ss, gt_ss, le_ss, ge_ss, len_s, len_t, abs_i, int_i, int_b, max_ii, min_ii, ix_s, ixL_0, ixL_1, ixL_2, ixL_3, ixL_n, ixL_i, ixL_st, setL_n, setL_i, List.length_map, List.length_set, ix_r, getL_r, ix_tL, withL_s, setL_0, setL_1, setL_2, set_r, app_r, lst_z, lst_s, iadd_ii, tuple_r, mul_ri, sl_s, sl_rol, sl_t, sl_r, cut_from, cut_to, ap_Seq, nx_seq, rt_seq, ct_seq, bk_seq, exc_seq, ap_Raise, ap_Skip, ap_Brk, ap_Cnt, ap_Drop, ap_Ret, ap_IfS, ap_Set, ap_Ts, ap_AsgT, tgT_t, tgTs_n, tgTs_c, ap_Aug, ap_SetI, ap_AugI, mFor_ap, ap_Rng1, ap_Rng2, rng1_ok, rng2_ok, ap_Iter, src_t, src_s, src_rL, ap_Comp, wipe_n, wipe_c, len_cons, len_nil, zip_cc, zip_nn, foldl_c, foldl_n, set_z, set_s, ite_t, ite_f, ite_T, ite_F, sing_lt, sing_eq, ty_r, ty_s, isS, cut_mid, decide_eq_true_eq, if_pos, if_neg]) rfl
        have ht' := ht ([some (scriptW ns), some (W.ref q), some (T xs), some (T ys), some (T zs), some (W.tup (List.map W.int (both2 xs ys))), some (W.int (1 + m0)), some (W.ref c9), some (W.int n),
            some (W.int ↑(cntB xs n)), some (W.int ↑f), some (W.int ↑(max (cntB xs n) f)), some (W.int ↑k), some (W.ref g), a, some w, a16, a17, b, a19]) rfl
        simp (disch := first | omega | (simp only [List.length_append, List.length_cons, List.length_nil, List.length_set, List.length_drop, List.length_take, List.length_map]; omega)) only [hw, ap_Tru, tru_bl, ht', decide_false, decide_true, sv_nx, sv_rt, sv_ct, rnd_nx, rnd_ct, Int.toNat_natCast, ne_eq, eq_self, not_true_eq_false, not_false_eq_true, mVar_z, Nat.reduceAdd, Nat.zero_add, Int.zero_add, Int.reduceAdd, Int.reduceSub, Int.reduceNeg, ap_Lst, ap_Tup, nil_app, cons_app, List.length_append, lst_last, mVar_s, ok_bnd, ok_stm, exc_bnd, ev_okE, exc_stm, ap_C, ap_Op, ap_Un, ap_B, ap_Chain, ap_asB, ap_And, ap_Or, ap_Not, ap_AndV, ap_OrV, ap_NotV, ap_If, ap_Nil, ap_Cons, ap_CB, ap_Meth, ap_Part, ap_NoPart, ap_Sl, ap_Yes, add_ii, add_ss, sub_ii, neg_i, mul_ii, fdiv_ii, mod_ii, eq_ii, ne_ii, eq_ss, ne_ss, lt_ii, le_ii, gt_ii, ge_ii, lt_ss, gt_ss, le_ss, ge_ss, len_s, len_t, abs_i, int_i, int_b, max_ii, min_ii, ix_s, ixL_0, ixL_1, ixL_2, ixL_3, ixL_n, ixL_i, ixL_st, setL_n, setL_i, List.length_map, List.length_set, ix_r, getL_r, ix_tL, withL_s, setL_0, setL_1, setL_2, set_r, app_r, lst_z, lst_s, iadd_ii, tuple_r, mul_ri, sl_s, sl_rol, sl_t, sl_r, cut_from, cut_to, ap_Seq, nx_seq, rt_seq, ct_seq, bk_seq, exc_seq, ap_Raise, ap_Skip, ap_Brk, ap_Cnt, ap_Drop, ap_Ret, ap_IfS, ap_Set, ap_Ts, ap_AsgT, tgT_t, tgTs_n, tgTs_c, ap_Aug, ap_SetI, ap_AugI, mFor_ap, ap_Rng1, ap_Rng2, rng1_ok, rng2_ok, ap_Iter, src_t, src_s, src_rL, ap_Comp, wipe_n, wipe_c, len_cons, len_nil, zip_cc, zip_nn, foldl_c, foldl_n, set_z, set_s, ite_t, ite_f, ite_T, ite_F, sing_lt, sing_eq, ty_r, ty_s, isS, cut_mid, decide_eq_true_eq, if_pos, if_neg]
        exact ⟨_, rfl, trivial⟩
      · rintro e hh ⟨c, rfl, rfl⟩
        exact ⟨c, rfl⟩
    · rintro o ⟨c, rfl⟩
      have hn0 := inall_none (H ++ [O.lst []]) H.length lst_last
      have ht : mTold [(1, [116, 101, 120, 116]), (2, [110, 111, 110, 101])] (mCB (fun ws h => if ws.length = 1 then den_in_all ws h else Out.bad) (mCons (mLst mNil) mNil)) [some (scriptW ns), some (W.ref q), some (T xs), some (T ys), some (T zs), some (W.tup (List.map W.int (both2 xs ys))), some (W.int (1 + m0)), some (W.ref c9), some (W.int n),
            some (W.int ↑(cntB xs n)), some (W.int ↑f), some (W.int ↑(max (cntB xs n) f)), some (W.int ↑k), some (W.ref g), a, c, a16, a17, b, a19] H = .ok (.str [116, 101, 120, 116]) (H ++ [O.lst []]) := told_exc (c := 1) (p := none) (by simp (disch := first | omega | (simp only [List.length_append, List.length_cons, List.length_nil, List.length_set, List.length_drop, List.length_take, List.length_map]; omega)) only [hn0, mVar_z, Nat.reduceAdd, Nat.zero_add, Int.zero_add, Int.reduceAdd, Int.reduceSub, Int.reduceNeg, ap_Lst, ap_Tup, nil_app, cons_app, List.length_append, lst_last, mVar_s, ok_bnd, ok_stm, exc_bnd, ev_okE, exc_stm, ap_C, ap_Op, ap_Un, ap_B, ap_Chain, ap_asB, ap_And, ap_Or, ap_Not, ap_AndV, ap_OrV, ap_NotV, ap_If, ap_Nil, ap_Cons, ap_CB, ap_Meth, ap_Part, ap_NoPart, ap_Sl, ap_Yes, add_ii, add_ss, sub_ii, neg_i, mul_ii, fdiv_ii, mod_ii, eq_ii, ne_ii, eq_ss, ne_ss, lt_ii, le_ii, gt_ii, ge_ii, lt_ss, gt_ss, le_ss, ge_ss, len_s, len_t, abs_i, int_i, int_b, max_ii, min_ii, ix_s, ixL_0, ixL_1, ixL_2, ixL_3, ixL_n, ixL_i, ixL_st, setL_n, setL_i, List.length_map, List.length_set, ix_r, getL_r, ix_tL, withL_s, setL_0, setL_1, setL_2, set_r, app_r, lst_z, lst_s, iadd_ii, tuple_r, mul_ri, sl_s, sl_rol, sl_t, sl_r, cut_from, cut_to, ap_Seq, nx_seq, rt_seq, ct_seq, bk_seq, exc_seq, ap_Raise, ap_Skip, ap_Brk, ap_Cnt, ap_Drop, ap_Ret, ap_IfS, ap_Set, ap_Ts, ap_AsgT, tgT_t, tgTs_n, tgTs_c, ap_Aug, ap_SetI, ap_AugI, mFor_ap, ap_Rng1, ap_Rng2, rng1_ok, rng2_ok, ap_Iter, src_t, src_s, src_rL, ap_Comp, wipe_n, wipe_c, len_cons, len_nil, zip_cc, zip_nn, foldl_c, foldl_n, set_z, set_s, ite_t, ite_f, ite_T, ite_F, sing_lt, sing_eq, ty_r, ty_s, isS, cut_mid, decide_eq_true_eq, if_pos, if_neg]) rfl
      simp (disch := first | omega | (simp only [List.length_append, List.length_cons, List.length_nil, List.length_set, List.length_drop, List.length_take, List.length_map]; omega)) only [ht, decide_false, decide_true, sv_nx, sv_rt, sv_ct, rnd_nx, rnd_ct, Int.toNat_natCast, ne_eq, eq_self, not_true_eq_false, not_false_eq_true, mVar_z, Nat.reduceAdd, Nat.zero_add, Int.zero_add, Int.reduceAdd, Int.reduceSub, Int.reduceNeg, ap_Lst, ap_Tup, nil_app, cons_app, List.length_append, lst_last, mVar_s, ok_bnd, ok_stm, exc_bnd, ev_okE, exc_stm, ap_C, ap_Op, ap_Un, ap_B, ap_Chain, ap_asB, ap_And, ap_Or, ap_Not, ap_AndV, ap_OrV, ap_NotV, ap_If, ap_Nil, ap_Cons, ap_CB, ap_Meth, ap_Part, ap_NoPart, ap_Sl, ap_Yes, add_ii, add_ss, sub_ii, neg_i, mul_ii, fdiv_ii, mod_ii, eq_ii, ne_ii, eq_ss, ne_ss, lt_ii, le_ii, gt_ii, ge_ii, lt_ss, gt_ss, le_ss, ge_ss, len_s, len_t, abs_i, int_i, int_b, max_ii, min_ii, ix_s, ixL_0, ixL_1, ixL_2, ixL_3, ixL_n, ixL_i, ixL_st, setL_n, setL_i, List.length_map, List.length_set, ix_r, getL_r, ix_tL, withL_s, setL_0, setL_1, setL_2, set_r, app_r, lst_z, lst_s, iadd_ii, tuple_r, mul_ri, sl_s, sl_rol, sl_t, sl_r, cut_from, cut_to, ap_Seq, nx_seq, rt_seq, ct_seq, bk_seq, exc_seq, ap_Raise, ap_Skip, ap_Brk, ap_Cnt, ap_Drop, ap_Ret, ap_IfS, ap_Set, ap_Ts, ap_AsgT, tgT_t, tgTs_n, tgTs_c, ap_Aug, ap_SetI, ap_AugI, mFor_ap, ap_Rng1, ap_Rng2, rng1_ok, rng2_ok, ap_Iter, src_t, src_s, src_rL, ap_Comp, wipe_n, wipe_c, len_cons, len_nil, zip_cc, zip_nn, foldl_c, foldl_n, set_z, set_s, ite_t, ite_f, ite_T, ite_F, sing_lt, sing_eq, ty_r, ty_s, isS, cut_mid, decide_eq_true_eq, if_pos, if_neg]
      exact ⟨⟨_, _, _, _, _, _, _, _, _, _, _, _, _, _, _, _, _, _, _, rfl⟩, FH.trans (Fr.of Gr.app), (DH'.gr Gr.app).mono (by omega)⟩
  · rintro o ⟨e, h, rfl⟩
    simp (disch := first | omega | (simp only [List.length_append, List.length_cons, List.length_nil, List.length_set, List.length_drop, List.length_take, List.length_map]; omega)) only [sv_nx, sv_rt, sv_ct, rnd_nx, rnd_ct, Int.toNat_natCast, ne_eq, eq_self, not_true_eq_false, not_false_eq_true, mVar_z, Nat.reduceAdd, Nat.zero_add, Int.zero_add, Int.reduceAdd, Int.reduceSub, Int.reduceNeg, ap_Lst, ap_Tup, nil_app, cons_app, List.length_append, lst_last, mVar_s, ok_bnd, ok_stm, exc_bnd, ev_okE, exc_stm, ap_C, ap_Op, ap_Un, ap_B, ap_Chain, ap_asB, ap_And, ap_Or, ap_Not, ap_AndV, ap_OrV, ap_NotV, ap_If, ap_Nil, ap_Cons, ap_CB, ap_Meth, ap_Part, ap_NoPart, ap_Sl, ap_Yes, add_ii, add_ss, sub_ii, neg_i, mul_ii, fdiv_ii, mod_ii, eq_ii, ne_ii, eq_ss, ne_ss, lt_ii, le_ii, gt_ii, ge_ii, lt_ss, gt_ss, le_ss, ge_ss, len_s, len_t, abs_i, int_i, int_b, max_ii, min_ii, ix_s, ixL_0, ixL_1, ixL_2, ixL_3, ixL_n, ixL_i, ixL_st, setL_n, setL_i, List.length_map, List.length_set, ix_r, getL_r, ix_tL, withL_s, setL_0, setL_1, setL_2, set_r, app_r, lst_z, lst_s, iadd_ii, tuple_r, mul_ri, sl_s, sl_rol, sl_t, sl_r, cut_from, cut_to, ap_Seq, nx_seq, rt_seq, ct_seq, bk_seq, exc_seq, ap_Raise, ap_Skip, ap_Brk, ap_Cnt, ap_Drop, ap_Ret, ap_IfS, ap_Set, ap_Ts, ap_AsgT, tgT_t, tgTs_n, tgTs_c, ap_Aug, ap_SetI, ap_AugI, mFor_ap, ap_Rng1, ap_Rng2, rng1_ok, rng2_ok, ap_Iter, src_t, src_s, src_rL, ap_Comp, wipe_n, wipe_c, len_cons, len_nil, zip_cc, zip_nn, foldl_c, foldl_n, set_z, set_s, ite_t, ite_f, ite_T, ite_F, sing_lt, sing_eq, ty_r, ty_s, isS, cut_mid, decide_eq_true_eq, if_pos, if_neg]
end Law_indexhall_k04_rising_rows
namespace Law_indexhall_k04_rising_rows
open PySem L2 Den PyProof.Rows
theorem main : ∀ ns : List Int, ns.length ≤ 63 → (∀ z ∈ ns, Builtin.Int.intBits z ≤ 1048576) → ∃ h', den_law [scriptW ns] [] = .ok (.bl true) h' := fun ns hl hb => main2 ns hl hb
def gx (C_BadText C_NoSuch P_is_row P_in_all P_law : Addr) : Gx := { T := [(P_is_row, ("is_row" ++ ".<locals>.<genexpr>" : Str)), (P_in_all, ("in_all" ++ ".<locals>.<lambda>" : Str)), (P_law, ("law" ++ ".<locals>.<lambda>" : Str))], ca := fun c => if c = 1 then some C_BadText else if c = 2 then some C_NoSuch else none }
theorem fin {l : PySem.W.OpenLaw} {w : World} {K : PySem.W.Frag} {h : Heap} {mg : Str → Option Value} {C_BadText C_NoSuch a_is_row a_check_row a_both a_either a_less a_place_of a_leaped a_both_by_leaps a_in_all a_in_some a_spans a_nearest_pair a_law_dice a_law_roll a_law_rounds a_law_row a_law_spans a_law_told fa a_law c_is_row c_in_all c_law P_is_row P_in_all P_law : Addr}
    {od_is_row an_is_row od_check_row an_check_row od_both an_both od_either an_either od_less an_less od_place_of an_place_of od_leaped an_leaped od_both_by_leaps an_both_by_leaps od_in_all an_in_all od_in_some an_in_some od_spans an_spans od_nearest_pair an_nearest_pair od_law_dice an_law_dice od_law_roll an_law_roll od_law_rounds an_law_rounds od_law_row an_law_row od_law_spans an_law_spans od_law_told an_law_told od_law an_law : Option Addr} {sl_is_row sl_check_row sl_both sl_either sl_less sl_place_of sl_leaped sl_both_by_leaps sl_in_all sl_in_some sl_spans sl_nearest_pair sl_law_dice sl_law_roll sl_law_rounds sl_law_row sl_law_spans sl_law_told sl_law : Array (Option Value)} {oc_is_row kV_is_row dc_is_row pm_is_row ct_is_row oc_check_row kV_check_row dc_check_row pm_check_row ct_check_row cd_check_row oc_both kV_both dc_both pm_both ct_both cd_both oc_either kV_either dc_either pm_either ct_either cd_either oc_less kV_less dc_less pm_less ct_less cd_less oc_place_of kV_place_of dc_place_of pm_place_of ct_place_of cd_place_of oc_leaped kV_leaped dc_leaped pm_leaped ct_leaped cd_leaped oc_both_by_leaps kV_both_by_leaps dc_both_by_leaps pm_both_by_leaps ct_both_by_leaps cd_both_by_leaps oc_in_all kV_in_all dc_in_all pm_in_all ct_in_all oc_in_some kV_in_some dc_in_some pm_in_some ct_in_some cd_in_some oc_spans kV_spans dc_spans pm_spans ct_spans cd_spans oc_nearest_pair kV_nearest_pair dc_nearest_pair pm_nearest_pair ct_nearest_pair cd_nearest_pair oc_law_dice kV_law_dice dc_law_dice pm_law_dice ct_law_dice cd_law_dice oc_law_roll kV_law_roll dc_law_roll pm_law_roll ct_law_roll cd_law_roll oc_law_rounds kV_law_rounds dc_law_rounds pm_law_rounds ct_law_rounds cd_law_rounds oc_law_row kV_law_row dc_law_row pm_law_row ct_law_row cd_law_row oc_law_spans kV_law_spans dc_law_spans pm_law_spans ct_law_spans cd_law_spans oc_law_told kV_law_told dc_law_told pm_law_told ct_law_told cd_law_told oc_law kV_law dc_law pm_law ct_law : Value}
    (main : ∀ ns : List Int, ns.length ≤ 63 → (∀ z ∈ ns, Builtin.Int.intBits z ≤ 1048576) → ∃ h', den_law [scriptW ns] [] = .ok (.bl true) h')
    (X : K.In h) (G : h.Ns mainGlobals mg) (hfa : mg "law" = some (.ref fa))
    (m_BadText : PySem.W.nsIn K mainGlobals "BadText" = some (some (.ref C_BadText)))
    (e_BadText : PySem.W.excIn K C_BadText [.type "ValueError", .type "Exception", .type "BaseException", .type "object"] "ValueError.__new__" = true)
    (k_BadText : PySem.W.keepIn K (.ref C_BadText) = true)
    (s_BadText : PySem.W.subIn K (.ref C_BadText) (.type "BaseException") = some true)
    (t_BadText : PySem.W.typeIn K (.ref C_BadText) = some (.type "type"))
    (m_NoSuch : PySem.W.nsIn K mainGlobals "NoSuch" = some (some (.ref C_NoSuch)))
    (e_NoSuch : PySem.W.excIn K C_NoSuch [.type "ValueError", .type "Exception", .type "BaseException", .type "object"] "ValueError.__new__" = true)
    (k_NoSuch : PySem.W.keepIn K (.ref C_NoSuch) = true)
    (s_NoSuch : PySem.W.subIn K (.ref C_NoSuch) (.type "BaseException") = some true)
    (t_NoSuch : PySem.W.typeIn K (.ref C_NoSuch) = some (.type "type"))
    (i_BadText : PySem.W.isClsIn K C_BadText = true)
    (i_NoSuch : PySem.W.isClsIn K C_NoSuch = true)
    (x_BadText_BadText : PySem.W.subIn K (.ref C_BadText) (.ref C_BadText) = some true)
    (x_BadText_NoSuch : PySem.W.subIn K (.ref C_BadText) (.ref C_NoSuch) = some false)
    (x_NoSuch_BadText : PySem.W.subIn K (.ref C_NoSuch) (.ref C_BadText) = some false)
    (x_NoSuch_NoSuch : PySem.W.subIn K (.ref C_NoSuch) (.ref C_NoSuch) = some true)
    (n_is_row : PySem.W.nsIn K mainGlobals "is_row" = some (some (.ref a_is_row)))
    (l_is_row : K.lookup a_is_row = some ⟨oc_is_row, od_is_row, .func (PySem.W.fnOf "is_row" "is_row" (defArgs s_is_row) (defBody s_is_row) (defScope s_is_row) .none kV_is_row dc_is_row pm_is_row an_is_row (.ref c_is_row) ct_is_row), sl_is_row⟩)
    (cc_is_row : PySem.W.codeIn K (.ref c_is_row) "is_row" = true)
    (k_is_row : PySem.W.keepIn K (.ref a_is_row) = true)
    (n_check_row : PySem.W.nsIn K mainGlobals "check_row" = some (some (.ref a_check_row)))
    (l_check_row : K.lookup a_check_row = some ⟨oc_check_row, od_check_row, .func (PySem.W.fnOf "check_row" "check_row" (defArgs s_check_row) (defBody s_check_row) (defScope s_check_row) .none kV_check_row dc_check_row pm_check_row an_check_row cd_check_row ct_check_row), sl_check_row⟩)
    (cc_check_row : PySem.W.codeIn K cd_check_row "check_row" = true)
    (k_check_row : PySem.W.keepIn K (.ref a_check_row) = true)
    (n_both : PySem.W.nsIn K mainGlobals "both" = some (some (.ref a_both)))
    (l_both : K.lookup a_both = some ⟨oc_both, od_both, .func (PySem.W.fnOf "both" "both" (defArgs s_both) (defBody s_both) (defScope s_both) .none kV_both dc_both pm_both an_both cd_both ct_both), sl_both⟩)
    (cc_both : PySem.W.codeIn K cd_both "both" = true)
    (k_both : PySem.W.keepIn K (.ref a_both) = true)
    (n_either : PySem.W.nsIn K mainGlobals "either" = some (some (.ref a_either)))
    (l_either : K.lookup a_either = some ⟨oc_either, od_either, .func (PySem.W.fnOf "either" "either" (defArgs s_either) (defBody s_either) (defScope s_either) .none kV_either dc_either pm_either an_either cd_either ct_either), sl_either⟩)
    (cc_either : PySem.W.codeIn K cd_either "either" = true)
    (k_either : PySem.W.keepIn K (.ref a_either) = true)
    (n_less : PySem.W.nsIn K mainGlobals "less" = some (some (.ref a_less)))
    (l_less : K.lookup a_less = some ⟨oc_less, od_less, .func (PySem.W.fnOf "less" "less" (defArgs s_less) (defBody s_less) (defScope s_less) .none kV_less dc_less pm_less an_less cd_less ct_less), sl_less⟩)
    (cc_less : PySem.W.codeIn K cd_less "less" = true)
    (k_less : PySem.W.keepIn K (.ref a_less) = true)
    (n_place_of : PySem.W.nsIn K mainGlobals "place_of" = some (some (.ref a_place_of)))
    (l_place_of : K.lookup a_place_of = some ⟨oc_place_of, od_place_of, .func (PySem.W.fnOf "place_of" "place_of" (defArgs s_place_of) (defBody s_place_of) (defScope s_place_of) .none kV_place_of dc_place_of pm_place_of an_place_of cd_place_of ct_place_of), sl_place_of⟩)
    (cc_place_of : PySem.W.codeIn K cd_place_of "place_of" = true)
    (k_place_of : PySem.W.keepIn K (.ref a_place_of) = true)
    (n_leaped : PySem.W.nsIn K mainGlobals "leaped" = some (some (.ref a_leaped)))
    (l_leaped : K.lookup a_leaped = some ⟨oc_leaped, od_leaped, .func (PySem.W.fnOf "leaped" "leaped" (defArgs s_leaped) (defBody s_leaped) (defScope s_leaped) .none kV_leaped dc_leaped pm_leaped an_leaped cd_leaped ct_leaped), sl_leaped⟩)
    (cc_leaped : PySem.W.codeIn K cd_leaped "leaped" = true)
    (k_leaped : PySem.W.keepIn K (.ref a_leaped) = true)
    (n_both_by_leaps : PySem.W.nsIn K mainGlobals "both_by_leaps" = some (some (.ref a_both_by_leaps)))
    (l_both_by_leaps : K.lookup a_both_by_leaps = some ⟨oc_both_by_leaps, od_both_by_leaps, .func (PySem.W.fnOf "both_by_leaps" "both_by_leaps" (defArgs s_both_by_leaps) (defBody s_both_by_leaps) (defScope s_both_by_leaps) .none kV_both_by_leaps dc_both_by_leaps pm_both_by_leaps an_both_by_leaps cd_both_by_leaps ct_both_by_leaps), sl_both_by_leaps⟩)
    (cc_both_by_leaps : PySem.W.codeIn K cd_both_by_leaps "both_by_leaps" = true)
    (k_both_by_leaps : PySem.W.keepIn K (.ref a_both_by_leaps) = true)
    (n_in_all : PySem.W.nsIn K mainGlobals "in_all" = some (some (.ref a_in_all)))
    (l_in_all : K.lookup a_in_all = some ⟨oc_in_all, od_in_all, .func (PySem.W.fnOf "in_all" "in_all" (defArgs s_in_all) (defBody s_in_all) (defScope s_in_all) .none kV_in_all dc_in_all pm_in_all an_in_all (.ref c_in_all) ct_in_all), sl_in_all⟩)
    (cc_in_all : PySem.W.codeIn K (.ref c_in_all) "in_all" = true)
    (k_in_all : PySem.W.keepIn K (.ref a_in_all) = true)
    (n_in_some : PySem.W.nsIn K mainGlobals "in_some" = some (some (.ref a_in_some)))
    (l_in_some : K.lookup a_in_some = some ⟨oc_in_some, od_in_some, .func (PySem.W.fnOf "in_some" "in_some" (defArgs s_in_some) (defBody s_in_some) (defScope s_in_some) .none kV_in_some dc_in_some pm_in_some an_in_some cd_in_some ct_in_some), sl_in_some⟩)
    (cc_in_some : PySem.W.codeIn K cd_in_some "in_some" = true)
    (k_in_some : PySem.W.keepIn K (.ref a_in_some) = true)
    (n_spans : PySem.W.nsIn K mainGlobals "spans" = some (some (.ref a_spans)))
    (l_spans : K.lookup a_spans = some ⟨oc_spans, od_spans, .func (PySem.W.fnOf "spans" "spans" (defArgs s_spans) (defBody s_spans) (defScope s_spans) .none kV_spans dc_spans pm_spans an_spans cd_spans ct_spans), sl_spans⟩)
    (cc_spans : PySem.W.codeIn K cd_spans "spans" = true)
    (k_spans : PySem.W.keepIn K (.ref a_spans) = true)
    (n_nearest_pair : PySem.W.nsIn K mainGlobals "nearest_pair" = some (some (.ref a_nearest_pair)))
    (l_nearest_pair : K.lookup a_nearest_pair = some ⟨oc_nearest_pair, od_nearest_pair, .func (PySem.W.fnOf "nearest_pair" "nearest_pair" (defArgs s_nearest_pair) (defBody s_nearest_pair) (defScope s_nearest_pair) .none kV_nearest_pair dc_nearest_pair pm_nearest_pair an_nearest_pair cd_nearest_pair ct_nearest_pair), sl_nearest_pair⟩)
    (cc_nearest_pair : PySem.W.codeIn K cd_nearest_pair "nearest_pair" = true)
    (k_nearest_pair : PySem.W.keepIn K (.ref a_nearest_pair) = true)
    (n_law_dice : PySem.W.nsIn K mainGlobals "_law_dice" = some (some (.ref a_law_dice)))
    (l_law_dice : K.lookup a_law_dice = some ⟨oc_law_dice, od_law_dice, .func (PySem.W.fnOf "_law_dice" "_law_dice" (defArgs s_law_dice) (defBody s_law_dice) (defScope s_law_dice) .none kV_law_dice dc_law_dice pm_law_dice an_law_dice cd_law_dice ct_law_dice), sl_law_dice⟩)
    (cc_law_dice : PySem.W.codeIn K cd_law_dice "_law_dice" = true)
    (k_law_dice : PySem.W.keepIn K (.ref a_law_dice) = true)
    (n_law_roll : PySem.W.nsIn K mainGlobals "_law_roll" = some (some (.ref a_law_roll)))
    (l_law_roll : K.lookup a_law_roll = some ⟨oc_law_roll, od_law_roll, .func (PySem.W.fnOf "_law_roll" "_law_roll" (defArgs s_law_roll) (defBody s_law_roll) (defScope s_law_roll) .none kV_law_roll dc_law_roll pm_law_roll an_law_roll cd_law_roll ct_law_roll), sl_law_roll⟩)
    (cc_law_roll : PySem.W.codeIn K cd_law_roll "_law_roll" = true)
    (k_law_roll : PySem.W.keepIn K (.ref a_law_roll) = true)
    (n_law_rounds : PySem.W.nsIn K mainGlobals "_law_rounds" = some (some (.ref a_law_rounds)))
    (l_law_rounds : K.lookup a_law_rounds = some ⟨oc_law_rounds, od_law_rounds, .func (PySem.W.fnOf "_law_rounds" "_law_rounds" (defArgs s_law_rounds) (defBody s_law_rounds) (defScope s_law_rounds) .none kV_law_rounds dc_law_rounds pm_law_rounds an_law_rounds cd_law_rounds ct_law_rounds), sl_law_rounds⟩)
    (cc_law_rounds : PySem.W.codeIn K cd_law_rounds "_law_rounds" = true)
    (k_law_rounds : PySem.W.keepIn K (.ref a_law_rounds) = true)
    (n_law_row : PySem.W.nsIn K mainGlobals "_law_row" = some (some (.ref a_law_row)))
    (l_law_row : K.lookup a_law_row = some ⟨oc_law_row, od_law_row, .func (PySem.W.fnOf "_law_row" "_law_row" (defArgs s_law_row) (defBody s_law_row) (defScope s_law_row) .none kV_law_row dc_law_row pm_law_row an_law_row cd_law_row ct_law_row), sl_law_row⟩)
    (cc_law_row : PySem.W.codeIn K cd_law_row "_law_row" = true)
    (k_law_row : PySem.W.keepIn K (.ref a_law_row) = true)
    (n_law_spans : PySem.W.nsIn K mainGlobals "_law_spans" = some (some (.ref a_law_spans)))
    (l_law_spans : K.lookup a_law_spans = some ⟨oc_law_spans, od_law_spans, .func (PySem.W.fnOf "_law_spans" "_law_spans" (defArgs s_law_spans) (defBody s_law_spans) (defScope s_law_spans) .none kV_law_spans dc_law_spans pm_law_spans an_law_spans cd_law_spans ct_law_spans), sl_law_spans⟩)
    (cc_law_spans : PySem.W.codeIn K cd_law_spans "_law_spans" = true)
    (k_law_spans : PySem.W.keepIn K (.ref a_law_spans) = true)
    (n_law_told : PySem.W.nsIn K mainGlobals "_law_told" = some (some (.ref a_law_told)))
    (l_law_told : K.lookup a_law_told = some ⟨oc_law_told, od_law_told, .func (PySem.W.fnOf "_law_told" "_law_told" (defArgs s_law_told) (defBody s_law_told) (defScope s_law_told) .none kV_law_told dc_law_told pm_law_told an_law_told cd_law_told ct_law_told), sl_law_told⟩)
    (cc_law_told : PySem.W.codeIn K cd_law_told "_law_told" = true)
    (k_law_told : PySem.W.keepIn K (.ref a_law_told) = true)
    (n_law : PySem.W.nsIn K mainGlobals "law" = some (some (.ref a_law)))
    (l_law : K.lookup a_law = some ⟨oc_law, od_law, .func (PySem.W.fnOf "law" "law" (defArgs s_law) (defBody s_law) (defScope s_law) .none kV_law dc_law pm_law an_law (.ref c_law) ct_law), sl_law⟩)
    (cc_law : PySem.W.codeIn K (.ref c_law) "law" = true)
    (b_abs : PySem.W.nsIn K mainGlobals "abs" = some none)
    (b_all : PySem.W.nsIn K mainGlobals "all" = some none)
    (b_bool : PySem.W.nsIn K mainGlobals "bool" = some none)
    (b_int : PySem.W.nsIn K mainGlobals "int" = some none)
    (b_isinstance : PySem.W.nsIn K mainGlobals "isinstance" = some none)
    (b_len : PySem.W.nsIn K mainGlobals "len" = some none)
    (b_list : PySem.W.nsIn K mainGlobals "list" = some none)
    (b_max : PySem.W.nsIn K mainGlobals "max" = some none)
    (b_min : PySem.W.nsIn K mainGlobals "min" = some none)
    (b_range : PySem.W.nsIn K mainGlobals "range" = some none)
    (b_sorted : PySem.W.nsIn K mainGlobals "sorted" = some none)
    (b_tuple : PySem.W.nsIn K mainGlobals "tuple" = some none)
    (ht_is_row : h.get? P_is_row = some { cls := .none, data := .fields #[] })
    (hh_is_row : PySem.W.codeHdIn K c_is_row P_is_row = true)
    (hn_is_row : K.lookup P_is_row = none)
    (ht_in_all : h.get? P_in_all = some { cls := .none, data := .fields #[] })
    (hh_in_all : PySem.W.codeHdIn K c_in_all P_in_all = true)
    (hn_in_all : K.lookup P_in_all = none)
    (ht_law : h.get? P_law = some { cls := .none, data := .fields #[] })
    (hh_law : PySem.W.codeHdIn K c_law P_law = true)
    (hn_law : K.lookup P_law = none)
    (ne_in_all_is_row : P_in_all ≠ P_is_row)
    (ne_law_is_row : P_law ≠ P_is_row)
    (ne_law_in_all : P_law ≠ P_in_all)
    : LamX.LawAtS l w K (L2.CX l.prog w) 7 63 "script" mg fa h := by
  have e := hfa.symm.trans (PySem.W.mg_of X G n_law)
  cases e
  have F_check_row := fun_mk (st := s_check_row) l_check_row cc_check_row k_check_row
  have F_both := fun_mk (st := s_both) l_both cc_both k_both
  have F_either := fun_mk (st := s_either) l_either cc_either k_either
  have F_less := fun_mk (st := s_less) l_less cc_less k_less
  have F_place_of := fun_mk (st := s_place_of) l_place_of cc_place_of k_place_of
  have F_leaped := fun_mk (st := s_leaped) l_leaped cc_leaped k_leaped
  have F_both_by_leaps := fun_mk (st := s_both_by_leaps) l_both_by_leaps cc_both_by_leaps k_both_by_leaps
  have F_in_some := fun_mk (st := s_in_some) l_in_some cc_in_some k_in_some
  have F_spans := fun_mk (st := s_spans) l_spans cc_spans k_spans
  have F_nearest_pair := fun_mk (st := s_nearest_pair) l_nearest_pair cc_nearest_pair k_nearest_pair
  have F_law_dice := fun_mk (st := s_law_dice) l_law_dice cc_law_dice k_law_dice
  have F_law_roll := fun_mk (st := s_law_roll) l_law_roll cc_law_roll k_law_roll
  have F_law_rounds := fun_mk (st := s_law_rounds) l_law_rounds cc_law_rounds k_law_rounds
  have F_law_row := fun_mk (st := s_law_row) l_law_row cc_law_row k_law_row
  have F_law_spans := fun_mk (st := s_law_spans) l_law_spans cc_law_spans k_law_spans
  have F_law_told := fun_mk (st := s_law_told) l_law_told cc_law_told k_law_told
  have T : Txt K mg (gx C_BadText C_NoSuch P_is_row P_in_all P_law) C_BadText C_NoSuch := ⟨PySem.W.mg_none_of X G b_abs, PySem.W.mg_none_of X G b_all, PySem.W.mg_none_of X G b_bool, PySem.W.mg_none_of X G b_int, PySem.W.mg_none_of X G b_isinstance, PySem.W.mg_none_of X G b_len, PySem.W.mg_none_of X G b_list, PySem.W.mg_none_of X G b_max, PySem.W.mg_none_of X G b_min, PySem.W.mg_none_of X G b_range, PySem.W.mg_none_of X G b_sorted, PySem.W.mg_none_of X G b_tuple, ⟨rfl, e_BadText, PySem.W.mg_of X G m_BadText, k_BadText, s_BadText, t_BadText⟩, ⟨rfl, e_NoSuch, PySem.W.mg_of X G m_NoSuch, k_NoSuch, s_NoSuch, t_NoSuch⟩⟩
  have X_ : ∀ c C, (gx C_BadText C_NoSuch P_is_row P_in_all P_law).ca c = some C → ∀ c' C', (gx C_BadText C_NoSuch P_is_row P_in_all P_law).ca c' = some C' → PySem.W.exmOne K (.ref C) (.ref C') = some (decide (c' = c)) := by
    intro c C h c' C' h'
    unfold gx at h h'
    dsimp only at h h'
    repeat' split at h
    all_goals repeat' split at h'
    all_goals first | (cases h; done) | (cases h'; done) | skip
    all_goals (cases h; cases h'; subst_vars)
    · exact exm_mk s_BadText i_BadText t_BadText x_BadText_BadText
    · exact exm_mk s_NoSuch i_NoSuch t_NoSuch x_BadText_NoSuch
    · exact exm_mk s_BadText i_BadText t_BadText x_NoSuch_BadText
    · exact exm_mk s_NoSuch i_NoSuch t_NoSuch x_NoSuch_NoSuch
  have hm_is_row : (P_is_row, ("is_row" ++ ".<locals>.<genexpr>" : Str)) ∈ (gx C_BadText C_NoSuch P_is_row P_in_all P_law).T := by unfold gx; simp
  have hu_is_row : ∀ p ∈ (gx C_BadText C_NoSuch P_is_row P_in_all P_law).T, p.1 = P_is_row → p.2 = ("is_row" ++ ".<locals>.<genexpr>" : Str) := by
    intro p hp he
    unfold gx at hp
    simp only [List.mem_cons, List.not_mem_nil, or_false] at hp
    rcases hp with hp | hp
    · rw [hp]
    rcases hp with hp | hp
    · rw [hp] at he; exact absurd he ne_in_all_is_row
    rw [hp] at he; exact absurd he ne_law_is_row
  have hm_in_all : (P_in_all, ("in_all" ++ ".<locals>.<lambda>" : Str)) ∈ (gx C_BadText C_NoSuch P_is_row P_in_all P_law).T := by unfold gx; simp
  have hu_in_all : ∀ p ∈ (gx C_BadText C_NoSuch P_is_row P_in_all P_law).T, p.1 = P_in_all → p.2 = ("in_all" ++ ".<locals>.<lambda>" : Str) := by
    intro p hp he
    unfold gx at hp
    simp only [List.mem_cons, List.not_mem_nil, or_false] at hp
    rcases hp with hp | hp
    · rw [hp] at he; exact absurd he (Ne.symm ne_in_all_is_row)
    rcases hp with hp | hp
    · rw [hp]
    rw [hp] at he; exact absurd he ne_law_in_all
  have hm_law : (P_law, ("law" ++ ".<locals>.<lambda>" : Str)) ∈ (gx C_BadText C_NoSuch P_is_row P_in_all P_law).T := by unfold gx; simp
  have hu_law : ∀ p ∈ (gx C_BadText C_NoSuch P_is_row P_in_all P_law).T, p.1 = P_law → p.2 = ("law" ++ ".<locals>.<lambda>" : Str) := by
    intro p hp he
    unfold gx at hp
    simp only [List.mem_cons, List.not_mem_nil, or_false] at hp
    rcases hp with hp | hp
    · rw [hp] at he; exact absurd he (Ne.symm ne_law_is_row)
    rcases hp with hp | hp
    · rw [hp] at he; exact absurd he (Ne.symm ne_law_in_all)
    rw [hp]
  refine ⟨PySem.W.fnOf "law" "law" (defArgs s_law) (defBody s_law) (defScope s_law) .none kV_law dc_law pm_law an_law (.ref c_law) ct_law, [(c_is_row, P_is_row), (c_in_all, P_in_all), (c_law, P_law)], spOf K (gx C_BadText C_NoSuch P_is_row P_in_all P_law) 1 den_law, ?_, ?_, ?_, fun s v => .of_eq rfl, fun H a ns hl hb hT hs => ?_, fun base Kb Nb TB => ?_⟩
  · intro p hp
    simp only [List.mem_cons, List.not_mem_nil, or_false] at hp
    rcases hp with hp | hp
    · rw [hp]; exact ht_is_row
    rcases hp with hp | hp
    · rw [hp]; exact ht_in_all
    rw [hp]; exact ht_law
  · intro p hp
    simp only [List.mem_cons, List.not_mem_nil, or_false] at hp
    rcases hp with hp | hp
    · rw [hp]; exact hn_is_row
    rcases hp with hp | hp
    · rw [hp]; exact hn_in_all
    rw [hp]; exact hn_law
  · intro p hp
    simp only [List.mem_cons, List.not_mem_nil, or_false] at hp
    rcases hp with hp | hp
    · rw [hp]; exact PySem.W.codeHd_of_K X hh_is_row
    rcases hp with hp | hp
    · rw [hp]; exact PySem.W.codeHd_of_K X hh_in_all
    rw [hp]; exact PySem.W.codeHd_of_K X hh_law
  · obtain ⟨h', hd⟩ := main ns hl hb
    refine law_sp (fun p hp => ?_) hs hd
    unfold gx at hp
    simp only [List.mem_cons, List.not_mem_nil, or_false] at hp
    rcases hp with hp | hp
    · rw [hp]; exact LamX.TabS.nil (hT (c_is_row, P_is_row) (by simp))
    rcases hp with hp | hp
    · rw [hp]; exact LamX.TabS.nil (hT (c_in_all, P_in_all) (by simp))
    rw [hp]; exact LamX.TabS.nil (hT (c_law, P_law) (by simp))
  · have B_law_told := F_law_told.binds (ps := ["what"]) fun _ _ _ _ _ _ us hl => match us, hl with | [_], _ => rfl
    have D_is_row : FnD l.prog w K mg base (gx C_BadText C_NoSuch P_is_row P_in_all P_law) 1 "is_row" 1 den_is_row := d_is_row T l_is_row cc_is_row k_is_row (PySem.W.mg_of X G n_is_row) (TB (c_is_row, P_is_row) (by simp)) hm_is_row hu_is_row 
    have D_check_row : FnD l.prog w K mg base (gx C_BadText C_NoSuch P_is_row P_in_all P_law) 2 "check_row" 1 den_check_row := d_check_row T F_check_row (PySem.W.mg_of X G n_check_row) D_is_row
    have D_both : FnD l.prog w K mg base (gx C_BadText C_NoSuch P_is_row P_in_all P_law) 1 "both" 2 den_both := d_both T F_both (PySem.W.mg_of X G n_both) 
    have D_either : FnD l.prog w K mg base (gx C_BadText C_NoSuch P_is_row P_in_all P_law) 1 "either" 2 den_either := d_either T F_either (PySem.W.mg_of X G n_either) 
    have D_less : FnD l.prog w K mg base (gx C_BadText C_NoSuch P_is_row P_in_all P_law) 1 "less" 2 den_less := d_less T F_less (PySem.W.mg_of X G n_less) 
    have D_place_of : FnD l.prog w K mg base (gx C_BadText C_NoSuch P_is_row P_in_all P_law) 1 "place_of" 2 den_place_of := d_place_of T F_place_of (PySem.W.mg_of X G n_place_of) 
    have D_leaped : FnD l.prog w K mg base (gx C_BadText C_NoSuch P_is_row P_in_all P_law) 1 "leaped" 3 den_leaped := d_leaped T F_leaped (PySem.W.mg_of X G n_leaped) 
    have D_both_by_leaps : FnD l.prog w K mg base (gx C_BadText C_NoSuch P_is_row P_in_all P_law) 2 "both_by_leaps" 2 den_both_by_leaps := d_both_by_leaps T F_both_by_leaps (PySem.W.mg_of X G n_both_by_leaps) D_leaped
    have D_in_all : FnD l.prog w K mg base (gx C_BadText C_NoSuch P_is_row P_in_all P_law) 3 "in_all" 1 den_in_all := d_in_all T l_in_all cc_in_all k_in_all (PySem.W.mg_of X G n_in_all) (TB (c_in_all, P_in_all) (by simp)) hm_in_all hu_in_all D_both_by_leaps
    have D_in_some : FnD l.prog w K mg base (gx C_BadText C_NoSuch P_is_row P_in_all P_law) 1 "in_some" 2 den_in_some := d_in_some T F_in_some (PySem.W.mg_of X G n_in_some) 
    have D_spans : FnD l.prog w K mg base (gx C_BadText C_NoSuch P_is_row P_in_all P_law) 1 "spans" 1 den_spans := d_spans T F_spans (PySem.W.mg_of X G n_spans) 
    have D_nearest_pair : FnD l.prog w K mg base (gx C_BadText C_NoSuch P_is_row P_in_all P_law) 1 "nearest_pair" 2 den_nearest_pair := d_nearest_pair T F_nearest_pair (PySem.W.mg_of X G n_nearest_pair) 
    have D_law_dice : FnD l.prog w K mg base (gx C_BadText C_NoSuch P_is_row P_in_all P_law) 1 "_law_dice" 1 den_law_dice := d_law_dice T F_law_dice (PySem.W.mg_of X G n_law_dice) 
    have D_law_roll : FnD l.prog w K mg base (gx C_BadText C_NoSuch P_is_row P_in_all P_law) 1 "_law_roll" 2 den_law_roll := d_law_roll T F_law_roll (PySem.W.mg_of X G n_law_roll) 
    have D_law_rounds : FnD l.prog w K mg base (gx C_BadText C_NoSuch P_is_row P_in_all P_law) 2 "_law_rounds" 2 den_law_rounds := d_law_rounds T F_law_rounds (PySem.W.mg_of X G n_law_rounds) D_law_dice
    have D_law_row : FnD l.prog w K mg base (gx C_BadText C_NoSuch P_is_row P_in_all P_law) 2 "_law_row" 3 den_law_row := d_law_row T F_law_row (PySem.W.mg_of X G n_law_row) D_law_roll
    have D_law_spans : FnD l.prog w K mg base (gx C_BadText C_NoSuch P_is_row P_in_all P_law) 2 "_law_spans" 1 den_law_spans := d_law_spans T F_law_spans (PySem.W.mg_of X G n_law_spans) D_spans
    exact d_law T l_law cc_law D_law_rounds D_law_row D_is_row D_both D_both_by_leaps D_either D_less D_in_all D_law_roll D_in_some D_leaped D_place_of D_nearest_pair D_law_spans D_check_row F_law_told B_law_told (PySem.W.mg_of X G n_law_told) X_ (TB (c_law, P_law) (by simp)) hm_law hu_law
end Law_indexhall_k04_rising_rows
open PySem PySem.W PyProof.Rows
set_option maxHeartbeats 0 in
set_option maxRecDepth 100000 in
open_top hd0 for PySem.Challenge.rw_indexhall_k04_rising_rows
set_option maxRecDepth 100000 in
set_option maxHeartbeats 0 in
theorem PySem.Challenge.cw_indexhall_k04_rising_rows_holds : PySem.Challenge.rw_indexhall_k04_rising_rows.Holds :=
by
  w_on; o_law; o_head (PySem.W.kmHook hd0.heap_39 [2, 3, 15, 22, 23, 24, 25, 28, 35, 36, 37, 40, 47, 48, 49, 52, 54, 55, 57, 58, 59, 61, 62, 64, 65, 66, 68, 69, 71, 72, 73, 75, 76, 78, 79, 80, 82, 83, 85, 86, 87, 89, 90, 92, 93, 94, 96, 97, 99, 100, 101, 103, 104, 106, 107, 108, 110, 111, 113, 114, 115, 118, 119, 120, 122, 123, 125, 126, 127, 129, 130, 132, 133, 134, 136, 137, 139, 140, 141, 143, 144, 146, 147, 148, 151, 152, 153, 155, 156, 158, 159, 160, 162, 163, 165, 166, 167, 170, 171, 172, 175, 176] (fun _ => by kernel_rfl) [53, 109, 173]); (case hw => w_witness2)
  k_fill
  refine LamX.walk_ofTs (l := PySem.Challenge.rw_indexhall_k04_rising_rows) (n := 63) (k := 7) (x := "script") (CX := fun w => L2.CX (PySem.Challenge.rw_indexhall_k04_rising_rows).prog w) rfl (by decide) rfl ⟨rfl, by decide, by decide⟩ (fun w h Y => PySem.W.km_in_of Y) ?F (fun w H s e s' z => by obtain ⟨_, _, _, _, _, _, _, _, _, _, _, _, z⟩ := z; exact z)
  case F =>
    intro w mg fa h Y KX G hmg
    have hT8 := PySem.W.km_tabs_of Y
    refine' Law_indexhall_k04_rising_rows.fin (l := PySem.Challenge.rw_indexhall_k04_rising_rows) Law_indexhall_k04_rising_rows.main KX G hmg ?m_BadText ?e_BadText ?k_BadText ?s_BadText ?t_BadText ?m_NoSuch ?e_NoSuch ?k_NoSuch ?s_NoSuch ?t_NoSuch ?i_BadText ?i_NoSuch ?x_BadText_BadText ?x_BadText_NoSuch ?x_NoSuch_BadText ?x_NoSuch_NoSuch ?n_is_row ?l_is_row ?cc_is_row ?k_is_row ?n_check_row ?l_check_row ?cc_check_row ?k_check_row ?n_both ?l_both ?cc_both ?k_both ?n_either ?l_either ?cc_either ?k_either ?n_less ?l_less ?cc_less ?k_less ?n_place_of ?l_place_of ?cc_place_of ?k_place_of ?n_leaped ?l_leaped ?cc_leaped ?k_leaped ?n_both_by_leaps ?l_both_by_leaps ?cc_both_by_leaps ?k_both_by_leaps ?n_in_all ?l_in_all ?cc_in_all ?k_in_all ?n_in_some ?l_in_some ?cc_in_some ?k_in_some ?n_spans ?l_spans ?cc_spans ?k_spans ?n_nearest_pair ?l_nearest_pair ?cc_nearest_pair ?k_nearest_pair ?n_law_dice ?l_law_dice ?cc_law_dice ?k_law_dice ?n_law_roll ?l_law_roll ?cc_law_roll ?k_law_roll ?n_law_rounds ?l_law_rounds ?cc_law_rounds ?k_law_rounds ?n_law_row ?l_law_row ?cc_law_row ?k_law_row ?n_law_spans ?l_law_spans ?cc_law_spans ?k_law_spans ?n_law_told ?l_law_told ?cc_law_told ?k_law_told ?n_law ?l_law ?cc_law ?b_abs ?b_all ?b_bool ?b_int ?b_isinstance ?b_len ?b_list ?b_max ?b_min ?b_range ?b_sorted ?b_tuple ?ht_is_row ?hh_is_row ?hn_is_row ?ht_in_all ?hh_in_all ?hn_in_all ?ht_law ?hh_law ?hn_law ?ne_in_all_is_row ?ne_law_is_row ?ne_law_in_all
    (case m_BadText => k_is)
    (case e_BadText => k_exc)
    (case k_BadText => k_is)
    (case s_BadText => k_is)
    (case t_BadText => k_is)
    (case m_NoSuch => k_is)
    (case e_NoSuch => k_exc)
    (case k_NoSuch => k_is)
    (case s_NoSuch => k_is)
    (case t_NoSuch => k_is)
    (case i_BadText => k_is)
    (case i_NoSuch => k_is)
    (case x_BadText_BadText => first | rfl | k_is)
    (case x_BadText_NoSuch => first | rfl | k_is)
    (case x_NoSuch_BadText => first | rfl | k_is)
    (case x_NoSuch_NoSuch => first | rfl | k_is)
    (case n_is_row => k_is)
    (case l_is_row => k_is)
    (case cc_is_row => k_is)
    (case k_is_row => k_is)
    (case n_check_row => k_is)
    (case l_check_row => k_is)
    (case cc_check_row => k_is)
    (case k_check_row => k_is)
    (case n_both => k_is)
    (case l_both => k_is)
    (case cc_both => k_is)
    (case k_both => k_is)
    (case n_either => k_is)
    (case l_either => k_is)
    (case cc_either => k_is)
    (case k_either => k_is)
    (case n_less => k_is)
    (case l_less => k_is)
    (case cc_less => k_is)
    (case k_less => k_is)
    (case n_place_of => k_is)
    (case l_place_of => k_is)
    (case cc_place_of => k_is)
    (case k_place_of => k_is)
    (case n_leaped => k_is)
    (case l_leaped => k_is)
    (case cc_leaped => k_is)
    (case k_leaped => k_is)
    (case n_both_by_leaps => k_is)
    (case l_both_by_leaps => k_is)
    (case cc_both_by_leaps => k_is)
    (case k_both_by_leaps => k_is)
    (case n_in_all => k_is)
    (case l_in_all => k_is)
    (case cc_in_all => k_is)
    (case k_in_all => k_is)
    (case n_in_some => k_is)
    (case l_in_some => k_is)
    (case cc_in_some => k_is)
    (case k_in_some => k_is)
    (case n_spans => k_is)
    (case l_spans => k_is)
    (case cc_spans => k_is)
    (case k_spans => k_is)
    (case n_nearest_pair => k_is)
    (case l_nearest_pair => k_is)
    (case cc_nearest_pair => k_is)
    (case k_nearest_pair => k_is)
    (case n_law_dice => k_is)
    (case l_law_dice => k_is)
    (case cc_law_dice => k_is)
    (case k_law_dice => k_is)
    (case n_law_roll => k_is)
    (case l_law_roll => k_is)
    (case cc_law_roll => k_is)
    (case k_law_roll => k_is)
    (case n_law_rounds => k_is)
    (case l_law_rounds => k_is)
    (case cc_law_rounds => k_is)
    (case k_law_rounds => k_is)
    (case n_law_row => k_is)
    (case l_law_row => k_is)
    (case cc_law_row => k_is)
    (case k_law_row => k_is)
    (case n_law_spans => k_is)
    (case l_law_spans => k_is)
    (case cc_law_spans => k_is)
    (case k_law_spans => k_is)
    (case n_law_told => k_is)
    (case l_law_told => k_is)
    (case cc_law_told => k_is)
    (case k_law_told => k_is)
    (case n_law => k_is)
    (case l_law => k_is)
    (case cc_law => k_is)
    (case b_abs => k_is)
    (case b_all => k_is)
    (case b_bool => k_is)
    (case b_int => k_is)
    (case b_isinstance => k_is)
    (case b_len => k_is)
    (case b_list => k_is)
    (case b_max => k_is)
    (case b_min => k_is)
    (case b_range => k_is)
    (case b_sorted => k_is)
    (case b_tuple => k_is)
    (case ht_is_row => exact hT8 53 (by decide))
    (case hh_is_row => kernel_rfl)
    (case hn_is_row => kernel_rfl)
    (case ht_in_all => exact hT8 109 (by decide))
    (case hh_in_all => kernel_rfl)
    (case hn_in_all => kernel_rfl)
    (case ht_law => exact hT8 173 (by decide))
    (case hh_law => kernel_rfl)
    (case hn_law => kernel_rfl)
    (case ne_in_all_is_row => exact (by decide))
    (case ne_law_is_row => exact (by decide))
    (case ne_law_in_all => exact (by decide))
