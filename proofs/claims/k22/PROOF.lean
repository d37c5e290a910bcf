import PyProof.Rows.All
import Wide.All
import OpenK.AllK
import Wide.FinOn
import HandS.ForMost
import HandS.Exc
import HandS.ExcOwn
import HandS.WordsExc
import HandS.TryMany
import HandS.Flow
import HandS.Lambda
import HandS.EndTab
import HandS.Small
import HandS.TupAny
import HandS.Deep
import HandS.Wide
import HandS.Conv
import KE.KNestM
import HandS.Style
import KE.DataMinMax
import KE.DatumOrd
import KE.SortData
import PySem.Challenge.RW_indexhall_k22_words_turned_and_cut
set_option Elab.async false
set_option linter.all false
set_option maxRecDepth 100000
/-! A second reading of defs over the hand layer: plain functions on plain data with a small heap of their own; each rule once. -/
namespace L2
open PySem
theorem PE.imp {X : Cx} {e : Expr} {t t' : TE} (p : PE X e t) (i : ∀ σ H Q, t' σ H Q → t σ H Q) : PE X e t' := ⟨fun pins s σ H Q I q => p.run pins s σ H Q I (i σ H Q q)⟩
theorem PT.imp {X : Cx} {e : Expr} {t t' : TT} (p : PT X e t) (i : ∀ σ H Q, t' σ H Q → t σ H Q) : PT X e t' := ⟨fun pins s σ H Q I q => p.run pins s σ H Q I (i σ H Q q)⟩
theorem PW.imp {X : Cx} {e : Expr} {t t' : TT} (p : PW X e t) (i : ∀ σ H Q, t' σ H Q → t σ H Q) : PW X e t' := ⟨fun wh pins s σ H Q I q => p.run wh pins s σ H Q I (i σ H Q q)⟩
theorem PA.imp {X : Cx} {e : List Expr} {t t' : TA} (p : PA X e t) (i : ∀ σ H Q, t' σ H Q → t σ H Q) : PA X e t' := ⟨fun pos pins s σ H Q I q => p.run pos pins s σ H Q I (i σ H Q q)⟩
theorem PS.imp {X : Cx} {e : Stmt} {t t' : TS} (p : PS X e t) (i : ∀ D σ H, t' D σ H → t D σ H) : PS X e t' := ⟨fun pins s σ H D I q => p.run pins s σ H D I (i D σ H q)⟩
theorem PSs.imp {X : Cx} {e : List Stmt} {t t' : TS} (p : PSs X e t) (i : ∀ D σ H, t' D σ H → t D σ H) : PSs X e t' := ⟨fun pins s σ H D I q => p.run pins s σ H D I (i D σ H q)⟩
end L2
namespace Den
open PySem L2

/-- values as plain data: tuples by what is in them; ref n: the n-th object of the small heap; rol: a list that nobody changes -/
inductive W where
  | non | bl (b : Bool) | int (i : Int) | str (s : List Nat) | tup (xs : List W) | rol (xs : List W) | ref (n : Nat)
  deriving Inhabited
/-- objects of the small heap -/
inductive O where
  | lst (xs : List W)
  | dic (kvs : List (W × W))
  | ins (c : Nat) (fs : List (Str × W))
  deriving Inhabited
/-- what the text's own classes and tables are called -/
structure Gx where
  T : List (Addr × Str)
  ca : Nat → Option Addr

/-! ### values and data -/
mutual
def VR (K : PySem.W.Frag) (H : Hp) (ρ : List Addr) : V → W → Prop
  | v, .non => v = .non
  | v, .bl b => v = .bl b
  | v, .int i => v = .int i
  | v, .str s => v = .str ⟨s.toArray⟩
  | v, .tup xs => ∃ a vs, v = .ref a ∧ SqT K H a vs ∧ VRs K H ρ vs xs
  | v, .rol xs => ∃ a vs, v = .ref a ∧ ((Rd H a (.lst vs) ∧ a ∉ ρ) ∨ ∀ H' : Hp, SqL K H' a vs) ∧ VRs K H ρ vs xs
  | v, .ref n => ∃ a, v = .ref a ∧ ρ[n]? = some a
def VRs (K : PySem.W.Frag) (H : Hp) (ρ : List Addr) : List V → List W → Prop
  | vs, [] => vs = []
  | vs, x :: xs => ∃ v r, vs = v :: r ∧ VR K H ρ v x ∧ VRs K H ρ r xs
end
def KRs (K : PySem.W.Frag) (H : Hp) (ρ : List Addr) : List (Key × V) → List (W × W) → Prop
  | ps, [] => ps = []
  | ps, (k, x) :: xs => ∃ q v r, ps = (q, v) :: r ∧ VR K H ρ (kV q) k ∧ VR K H ρ v x ∧ KRs K H ρ r xs
def FRs (K : PySem.W.Frag) (H : Hp) (ρ : List Addr) : List (Str × V) → List (Str × W) → Prop
  | ps, [] => ps = []
  | ps, (k, x) :: xs => ∃ v r, ps = (k, v) :: r ∧ VR K H ρ v x ∧ FRs K H ρ r xs
/-- what object stands at a -/
def OR (K : PySem.W.Frag) (G : Gx) (H : Hp) (ρ : List Addr) (a : Addr) : O → Prop
  | .lst xs => ∃ vs, H a = some (.lst vs) ∧ VRs K H ρ vs xs
  | .dic kvs => ∃ ps, H a = some (.dK ps) ∧ KRs K H ρ ps kvs
  | .ins c fs => ∃ C dx ps, G.ca c = some C ∧ H a = some (.ins C dx ps) ∧ FRs K H ρ ps fs
/-- what may be in the small heap -/
def isM : HO → Bool
  | .lst _ => true
  | .dK _ => true
  | .ins _ _ _ => true
  | _ => false
def isTbl : HO → Bool
  | .tbl _ => true
  | _ => false
structure HR (K : PySem.W.Frag) (G : Gx) (H : Hp) (ρ : List Addr) (h : List O) : Prop where
  len : ρ.length = h.length
  nd : ρ.Nodup
  ob : ∀ (n : Nat) (a : Addr) (o : O), ρ[n]? = some a → h[n]? = some o → OR K G H ρ a o
  tb : LamX.Tabs G.T H
/-- the slots -/
abbrev Env := List (Option W)
structure SR (K : PySem.W.Frag) (H : Hp) (ρ : List Addr) (σ : L2.St) (e : Env) : Prop where
  len : σ.length = e.length
  at_ : ∀ (i : Nat) (w : W), e[i]? = some (some w) → ∃ v, σ[i]? = some (some v) ∧ VR K H ρ v w
/-- all that is not ours stays; what is new was not there -/
structure Ext (H : Hp) (ρ : List Addr) (H' : Hp) (ρ' : List Addr) : Prop where
  fr : ∀ a o, H a = some o → isTbl o = false → a ∉ ρ → H' a = some o
  pre : ρ <+: ρ'
  new : ∀ a, a ∈ ρ' → a ∉ ρ → H a = none ∨ ∃ o, H a = some o ∧ isTbl o = true
  mu : ∀ a, a ∈ ρ → ∃ o, H a = some o ∧ isM o = true

theorem OR.mut {K : PySem.W.Frag} {G : Gx} {H : Hp} {ρ : List Addr} {a : Addr} {o : O} (x : OR K G H ρ a o) : ∃ u, H a = some u ∧ isM u = true := by
  cases o with
  | lst xs => obtain ⟨vs, e, _⟩ := x; exact ⟨_, e, rfl⟩
  | dic xs => obtain ⟨vs, e, _⟩ := x; exact ⟨_, e, rfl⟩
  | ins c fs => obtain ⟨C, dx, ps, _, e, _⟩ := x; exact ⟨_, e, rfl⟩
section
variable {K : PySem.W.Frag} {G : Gx} {H H' H1 H2 : Hp} {ρ ρ' ρ1 ρ2 : List Addr} {h : List O}
theorem HR.mu (r : HR K G H ρ h) : ∀ a, a ∈ ρ → ∃ o, H a = some o ∧ isM o = true := fun a ha => by
  obtain ⟨n, hn, e⟩ := List.getElem_of_mem ha
  have hn2 : n < h.length := by rw [← r.len]; exact hn
  exact (r.ob n a h[n] (by rw [List.getElem?_eq_getElem hn, e]) (List.getElem?_eq_getElem hn2)).mut
theorem Ext.refl (r : HR K G H ρ h) : Ext H ρ H ρ := ⟨fun _ _ e _ _ => e, List.prefix_rfl, fun _ a b => absurd a b, r.mu⟩
theorem Ext.trans (a : Ext H ρ H1 ρ1) (b : Ext H1 ρ1 H2 ρ2) : Ext H ρ H2 ρ2 where
  fr := fun x o e t n => by
    refine b.fr x o (a.fr x o e t n) t fun hx => ?_
    rcases a.new x hx n with z | ⟨u, z, q⟩
    · rw [e] at z; cases z
    · rw [e] at z; cases z; rw [t] at q; cases q
  pre := a.pre.trans b.pre
  new := fun x hx n => by
    by_cases h1 : x ∈ ρ1
    · exact a.new x h1 n
    · cases q : H x with
      | none => exact .inl rfl
      | some o =>
        cases t : isTbl o with
        | true => exact .inr ⟨o, rfl, t⟩
        | false =>
          have z := a.fr x o q t n
          rcases b.new x hx h1 with z2 | ⟨u, z2, q2⟩
          · rw [z] at z2; cases z2
          · rw [z] at z2; cases z2; rw [t] at q2; cases q2
  mu := a.mu
theorem pre_get {α : Type} {l l' : List α} (h : l <+: l') {n : Nat} {a : α} (e : l[n]? = some a) : l'[n]? = some a := by
  obtain ⟨t, rfl⟩ := h
  obtain ⟨hn, e2⟩ := List.getElem?_eq_some_iff.mp e
  rw [List.getElem?_append_left hn]
  exact e
theorem Ext.tup (x : Ext H ρ H' ρ') {a : Addr} {vs : List V} (h : SqT K H a vs) : SqT K H' a vs := by
  have key : ∀ o, H a = some o → isM o = false → isTbl o = false → H' a = some o := fun o e m t =>
    x.fr a o e t fun ha => by
      obtain ⟨u, e2, m2⟩ := x.mu a ha
      rw [e] at e2; cases e2; rw [m] at m2; cases m2
  rcases h with (h | ⟨o, h⟩) | h
  · exact .inl (.inl (key _ h rfl rfl))
  · exact .inl (.inr ⟨o, key _ h rfl rfl⟩)
  · exact .inr h
theorem Ext.rol (x : Ext H ρ H' ρ') {a : Addr} {vs : List V} (h : (Rd H a (.lst vs) ∧ a ∉ ρ) ∨ ∀ H' : Hp, SqL K H' a vs) : (Rd H' a (.lst vs) ∧ a ∉ ρ') ∨ ∀ H' : Hp, SqL K H' a vs := by
  have key : ∀ o, H a = some o → isTbl o = false → a ∉ ρ → H' a = some o ∧ a ∉ ρ' := fun o e t n => ⟨x.fr a o e t n, fun ha => by
    rcases x.new a ha n with z | ⟨u, z, q⟩
    · rw [e] at z; cases z
    · rw [e] at z; cases z; rw [t] at q; cases q⟩
  rcases h with ⟨h | ⟨o, h⟩, n⟩ | h
  · obtain ⟨a1, a2⟩ := key _ h rfl n
    exact .inl ⟨.inl a1, a2⟩
  · obtain ⟨a1, a2⟩ := key _ h rfl n
    exact .inl ⟨.inr ⟨o, a1⟩, a2⟩
  · exact .inr h
mutual
theorem VR.mono (x : Ext H ρ H' ρ') : ∀ {v : V} {w : W}, VR K H ρ v w → VR K H' ρ' v w
  | v, .non, h => h
  | v, .bl _, h => h
  | v, .int _, h => h
  | v, .str _, h => h
  | v, .tup xs, h => by
    unfold VR at h ⊢
    obtain ⟨a, vs, e, q, r⟩ := h
    exact ⟨a, vs, e, x.tup q, VRs.mono x r⟩
  | v, .rol xs, h => by
    unfold VR at h ⊢
    obtain ⟨a, vs, e, q, r⟩ := h
    exact ⟨a, vs, e, x.rol q, VRs.mono x r⟩
  | v, .ref n, h => by
    unfold VR at h ⊢
    obtain ⟨a, e, q⟩ := h
    exact ⟨a, e, pre_get x.pre q⟩
theorem VRs.mono (x : Ext H ρ H' ρ') : ∀ {vs : List V} {ws : List W}, VRs K H ρ vs ws → VRs K H' ρ' vs ws
  | vs, [], h => h
  | vs, w :: ws, h => by
    unfold VRs at h ⊢
    obtain ⟨v, r, e, q, z⟩ := h
    exact ⟨v, r, e, VR.mono x q, VRs.mono x z⟩
end
theorem KRs.mono (x : Ext H ρ H' ρ') : ∀ {ps : List (Key × V)} {ws : List (W × W)}, KRs K H ρ ps ws → KRs K H' ρ' ps ws
  | vs, [], h => h
  | vs, (k, w) :: ws, h => by
    unfold KRs at h ⊢
    obtain ⟨q, v, r, e, a, b, c⟩ := h
    exact ⟨q, v, r, e, a.mono x, b.mono x, KRs.mono x c⟩
theorem FRs.mono (x : Ext H ρ H' ρ') : ∀ {ps : List (Str × V)} {ws : List (Str × W)}, FRs K H ρ ps ws → FRs K H' ρ' ps ws
  | vs, [], h => h
  | vs, (k, w) :: ws, h => by
    unfold FRs at h ⊢
    obtain ⟨v, r, e, b, c⟩ := h
    exact ⟨v, r, e, b.mono x, FRs.mono x c⟩
theorem SR.mono {σ : L2.St} {e : Env} (x : Ext H ρ H' ρ') (s : SR K H ρ σ e) : SR K H' ρ' σ e := ⟨s.len, fun i w h => by
  obtain ⟨v, a, b⟩ := s.at_ i w h
  exact ⟨v, a, b.mono x⟩⟩
theorem SR.set {σ : L2.St} {e : Env} {v : V} {w : W} (s : SR K H ρ σ e) (i : Nat) (r : VR K H ρ v w) : SR K H ρ (σ.set i (some v)) (e.set i (some w)) := by
  refine ⟨by rw [List.length_set, List.length_set]; exact s.len, fun j x hx => ?_⟩
  by_cases hj : i = j
  · subst hj
    by_cases hl : i < e.length
    · rw [List.getElem?_set_self hl] at hx
      cases hx
      exact ⟨v, List.getElem?_set_self (by rw [s.len]; exact hl), r⟩
    · rw [List.getElem?_eq_none (by simpa using hl)] at hx; cases hx
  · rw [List.getElem?_set_ne hj] at hx
    rw [List.getElem?_set_ne hj]
    exact s.at_ j x hx
theorem VRs.length : ∀ {vs : List V} {ws : List W}, VRs K H ρ vs ws → vs.length = ws.length
  | vs, [], h => by unfold VRs at h; rw [h]; rfl
  | vs, w :: ws, h => by
    unfold VRs at h
    obtain ⟨v, r, e, _, z⟩ := h
    rw [e, List.length_cons, List.length_cons, VRs.length z]
theorem VRs.get : ∀ {vs : List V} {ws : List W} {i : Nat} {w : W}, VRs K H ρ vs ws → ws[i]? = some w → ∃ v, vs[i]? = some v ∧ VR K H ρ v w
  | vs, [], i, w, _, e => by simp at e
  | vs, x :: ws, 0, w, h, e => by
    unfold VRs at h
    obtain ⟨v, r, rfl, q, _⟩ := h
    simp at e
    subst e
    exact ⟨v, rfl, q⟩
  | vs, x :: ws, i + 1, w, h, e => by
    unfold VRs at h
    obtain ⟨v, r, rfl, _, z⟩ := h
    obtain ⟨u, a, b⟩ := VRs.get (i := i) z (by simpa using e)
    exact ⟨u, by simpa using a, b⟩
theorem VRs.set {v : V} {w : W} (q : VR K H ρ v w) : ∀ {vs : List V} {ws : List W} (i : Nat), VRs K H ρ vs ws → VRs K H ρ (vs.set i v) (ws.set i w)
  | vs, [], i, h => by unfold VRs at h ⊢; rw [h]; rfl
  | vs, x :: ws, 0, h => by
    unfold VRs at h
    obtain ⟨u, r, rfl, _, z⟩ := h
    show VRs K H ρ (v :: r) (w :: ws)
    unfold VRs
    exact ⟨v, r, rfl, q, z⟩
  | vs, x :: ws, i + 1, h => by
    unfold VRs at h
    obtain ⟨u, r, rfl, q', z⟩ := h
    show VRs K H ρ (u :: r.set i v) (x :: ws.set i w)
    unfold VRs
    exact ⟨u, _, rfl, q', VRs.set q i z⟩
theorem VRs.append : ∀ {vs us : List V} {ws xs : List W}, VRs K H ρ vs ws → VRs K H ρ us xs → VRs K H ρ (vs ++ us) (ws ++ xs)
  | vs, us, [], xs, h, h2 => by unfold VRs at h; rw [h]; exact h2
  | vs, us, x :: ws, xs, h, h2 => by
    unfold VRs at h
    obtain ⟨u, r, rfl, q', z⟩ := h
    show VRs K H ρ (u :: (r ++ us)) (x :: (ws ++ xs))
    unfold VRs
    exact ⟨u, _, rfl, q', VRs.append z h2⟩
theorem VRs.one {v : V} {w : W} (h : VR K H ρ v w) : VRs K H ρ [v] [w] := by
  unfold VRs
  exact ⟨v, [], rfl, h, by unfold VRs; rfl⟩
theorem VRs.nil : VRs K H ρ [] [] := by unfold VRs; rfl
theorem VRs.cons {v : V} {w : W} {vs : List V} {ws : List W} (h : VR K H ρ v w) (r : VRs K H ρ vs ws) : VRs K H ρ (v :: vs) (w :: ws) := by
  unfold VRs
  exact ⟨v, vs, rfl, h, r⟩
theorem VRs.take : ∀ {vs : List V} {ws : List W} (n : Nat), VRs K H ρ vs ws → VRs K H ρ (vs.take n) (ws.take n)
  | vs, ws, 0, h => by rw [List.take_zero, List.take_zero]; exact .nil
  | vs, [], n + 1, h => by unfold VRs at h; rw [h]; exact .nil
  | vs, x :: ws, n + 1, h => by
    unfold VRs at h
    obtain ⟨u, r, rfl, q', z⟩ := h
    exact .cons q' (VRs.take n z)
theorem VRs.drop : ∀ {vs : List V} {ws : List W} (n : Nat), VRs K H ρ vs ws → VRs K H ρ (vs.drop n) (ws.drop n)
  | vs, ws, 0, h => h
  | vs, [], n + 1, h => by unfold VRs at h; rw [h]; exact .nil
  | vs, x :: ws, n + 1, h => by
    unfold VRs at h
    obtain ⟨u, r, rfl, q', z⟩ := h
    exact VRs.drop n z
theorem OR.mono {a : Addr} {o : O} (x : Ext H ρ H' ρ') (s : H' a = H a) (h : OR K G H ρ a o) : OR K G H' ρ' a o := by
  cases o with
  | lst xs =>
    obtain ⟨vs, e, r⟩ := h
    exact ⟨vs, s.trans e, r.mono x⟩
  | dic xs =>
    obtain ⟨vs, e, r⟩ := h
    exact ⟨vs, s.trans e, r.mono x⟩
  | ins c fs =>
    obtain ⟨C, dx, ps, c, e, r⟩ := h
    exact ⟨C, dx, ps, c, s.trans e, r.mono x⟩
theorem tabs_upd {T : List (Addr × Str)} {a : Addr} {o : HO} (h : LamX.Tabs T H) (n : H a = none ∨ ∃ u, H a = some u ∧ isM u = true) : LamX.Tabs T (upd H a o) := fun p hp => by
  obtain ⟨ps, e1, e2, e3⟩ := h p hp
  have ne : ∀ b u, H b = some u → isM u = false → b ≠ a := fun b u e m z => by
    subst z
    rcases n with n | ⟨u2, n, m2⟩
    · rw [e] at n; cases n
    · rw [e] at n; cases n; rw [m] at m2; cases m2
  refine ⟨ps, by rw [upd_ne (ne _ _ e1 rfl)]; exact e1, e2, fun pos cv hc => ?_⟩
  obtain ⟨c, e, q⟩ := e3 pos cv hc
  exact ⟨c, e, by rw [upd_ne (ne _ _ q rfl)]; exact q⟩
/-- a new object that is not ours (a tuple, an iterator ..) -/
theorem HR.other {p : Addr} {o : HO} (r : HR K G H ρ h) (hp : H p = none) : HR K G (upd H p o) ρ h ∧ Ext H ρ (upd H p o) ρ := by
  have x : Ext H ρ (upd H p o) ρ := ⟨fun a u e _ _ => by rw [upd_ne (ne_of_none e hp)]; exact e, List.prefix_rfl, fun _ a b => absurd a b, r.mu⟩
  refine ⟨⟨r.len, r.nd, fun n a u e1 e2 => (r.ob n a u e1 e2).mono x ?_, tabs_upd r.tb (.inl hp)⟩, x⟩
  obtain ⟨w, hw, _⟩ := (r.ob n a u e1 e2).mut
  exact upd_ne (ne_of_none hw hp)
theorem app_get {α : Type} {l : List α} {x y : α} {n : Nat} (h : (l ++ [x])[n]? = some y) : l[n]? = some y ∨ (n = l.length ∧ y = x) := by
  by_cases hn : n < l.length
  · rw [List.getElem?_append_left hn] at h; exact .inl h
  · by_cases h2 : n = l.length
    · subst h2; simp at h; exact .inr ⟨rfl, h.symm⟩
    · rw [List.getElem?_eq_none (by simp; omega)] at h; cases h
/-- a new object of ours -/
theorem HR.new {p : Addr} {o : HO} {u : O} (r : HR K G H ρ h) (hp : H p = none) (hm : isM o = true) (hu : Ext H ρ (upd H p o) (ρ ++ [p]) → OR K G (upd H p o) (ρ ++ [p]) p u) :
    HR K G (upd H p o) (ρ ++ [p]) (h ++ [u]) ∧ Ext H ρ (upd H p o) (ρ ++ [p]) := by
  have np : p ∉ ρ := fun z => by
    obtain ⟨w, hw, _⟩ := r.mu p z
    rw [hp] at hw; cases hw
  have x : Ext H ρ (upd H p o) (ρ ++ [p]) := ⟨fun a u e _ _ => by rw [upd_ne (ne_of_none e hp)]; exact e, List.prefix_append _ _, fun a ha n => by
    rcases List.mem_append.mp ha with z | z
    · exact absurd z n
    · have e : a = p := by simpa using z
      rw [e]; exact .inl hp, r.mu⟩
  refine ⟨⟨by simp [r.len], ?_, fun n a w e1 e2 => ?_, tabs_upd r.tb (.inl hp)⟩, x⟩
  · rw [List.nodup_append]
    refine ⟨r.nd, by simp, fun a ha b hb => ?_⟩
    have e : b = p := by simpa using hb
    subst e
    exact fun z => np (z ▸ ha)
  · rcases app_get e1 with z1 | ⟨z1, z2⟩
    · have hn : n < ρ.length := (List.getElem?_eq_some_iff.mp z1).1
      rw [List.getElem?_append_left (by rw [← r.len]; exact hn)] at e2
      have q := r.ob n a w z1 e2
      obtain ⟨w', hw, _⟩ := q.mut
      exact q.mono x (upd_ne (ne_of_none hw hp))
    · rcases app_get e2 with y1 | ⟨y1, y2⟩
      · have hn : n < h.length := (List.getElem?_eq_some_iff.mp y1).1
        rw [← r.len] at hn
        omega
      · rw [z2, y2]; exact hu x
/-- an object of ours is changed -/
theorem HR.write {n : Nat} {a : Addr} {o : HO} {u : O} (r : HR K G H ρ h) (e1 : ρ[n]? = some a) (hm : isM o = true) (hu : Ext H ρ (upd H a o) ρ → OR K G (upd H a o) ρ a u) :
    HR K G (upd H a o) ρ (h.set n u) ∧ Ext H ρ (upd H a o) ρ := by
  have ha : a ∈ ρ := List.mem_of_getElem? e1
  have x : Ext H ρ (upd H a o) ρ := ⟨fun b u e _ n => by rw [upd_ne (fun z => n (by rw [z]; exact ha))]; exact e, List.prefix_rfl, fun _ a b => absurd a b, r.mu⟩
  refine ⟨⟨by rw [List.length_set]; exact r.len, r.nd, fun m b w f1 f2 => ?_, tabs_upd r.tb (.inr (r.mu a ha))⟩, x⟩
  by_cases hmn : n = m
  · subst hmn
    rw [e1] at f1
    cases f1
    have hn : n < h.length := by rw [← r.len]; exact (List.getElem?_eq_some_iff.mp e1).1
    rw [List.getElem?_set_self hn] at f2
    cases f2
    exact hu x
  · rw [List.getElem?_set_ne hmn] at f2
    have nb : b ≠ a := fun z => by
      rw [z] at f1
      obtain ⟨h1, q1⟩ := List.getElem?_eq_some_iff.mp e1
      obtain ⟨h2, q2⟩ := List.getElem?_eq_some_iff.mp f1
      exact hmn ((List.getElem_inj r.nd).mp (q1.trans q2.symm))
    exact (r.ob m b w f1 f2).mono x (upd_ne nb)
end

/-! ### what comes out -/
inductive Out (α : Type) where
  | ok (a : α) (h : List O)
  | exc (c : Nat) (p : Option W) (h : List O)
  | bad
def Out.bnd {α β : Type} (o : Out α) (f : α → List O → Out β) : Out β :=
  match o with
  | .ok a h => f a h
  | .exc c p h => .exc c p h
  | .bad => .bad
@[simp] theorem Out.bnd_ok {α β : Type} (a : α) (h : List O) (f : α → List O → Out β) : (Out.ok a h).bnd f = f a h := rfl
@[simp] theorem Out.bnd_exc {α β : Type} (c : Nat) (p : Option W) (h : List O) (f : α → List O → Out β) : (Out.exc c p h : Out α).bnd f = .exc c p h := rfl
@[simp] theorem Out.bnd_bad {α β : Type} (f : α → List O → Out β) : (Out.bad : Out α).bnd f = .bad := rfl
abbrev M (α : Type) := Env → List O → Out α
/-- an exception: its class by name, its field 'place' -/
def ER (K : PySem.W.Frag) (G : Gx) (H : Hp) (ρ : List Addr) (cls : Value) (d : Option Addr) (c : Nat) (p : Option W) : Prop :=
  ∃ C, G.ca c = some C ∧ cls = .ref C ∧ match p with
    | none => d = none
    | some w => ∃ dd v, d = some dd ∧ H dd = some (.xd [("place", v)]) ∧ VR K H ρ v w
def Post (K : PySem.W.Frag) (G : Gx) (E : XK) {α β : Type} (Rel : Hp → List Addr → β → α → Prop) (Q : β → Hp → Prop) (H : Hp) (ρ : List Addr) : Out α → Prop
  | .ok w h' => ∀ ρ' H' v, Ext H ρ H' ρ' → HR K G H' ρ' h' → Rel H' ρ' v w → Q v H'
  | .exc c p h' => ∀ ρ' H' cls d, Ext H ρ H' ρ' → HR K G H' ρ' h' → ER K G H' ρ' cls d c p → E cls d H'
  | .bad => False
section
variable {K : PySem.W.Frag} {G : Gx} {H H' H1 H2 : Hp} {ρ ρ' ρ1 ρ2 : List Addr} {h : List O} {E : XK}
theorem Post.ext {α β : Type} {Rel : Hp → List Addr → β → α → Prop} {Q : β → Hp → Prop} {o : Out α} (x : Ext H ρ H1 ρ1) (p : Post K G E Rel Q H ρ o) : Post K G E Rel Q H1 ρ1 o := by
  cases o with
  | ok w h' => exact fun ρ' H' v x' r q => p ρ' H' v (x.trans x') r q
  | exc c q h' => exact fun ρ' H' cls d x' r q => p ρ' H' cls d (x.trans x') r q
  | bad => exact p
theorem Post.bnd {α β γ δ : Type} {Rel : Hp → List Addr → β → α → Prop} {Rel2 : Hp → List Addr → δ → γ → Prop} {Q : δ → Hp → Prop} {o : Out α} {f : α → List O → Out γ} (p : Post K G E Rel2 Q H ρ (o.bnd f)) :
    Post K G E Rel (fun v H1 => ∃ ρ1 h1 w, Ext H ρ H1 ρ1 ∧ HR K G H1 ρ1 h1 ∧ Rel H1 ρ1 v w ∧ Post K G E Rel2 Q H1 ρ1 (f w h1)) H ρ o := by
  cases o with
  | ok w h' => exact fun ρ' H' v x r q => ⟨ρ', h', w, x, r, q, Post.ext x p⟩
  | exc c q h' => exact p
  | bad => exact p
theorem Post.imp {α β : Type} {Rel : Hp → List Addr → β → α → Prop} {Q Q' : β → Hp → Prop} {o : Out α} (p : Post K G E Rel Q H ρ o) (i : ∀ v H', Q v H' → Q' v H') : Post K G E Rel Q' H ρ o := by
  cases o with
  | ok w h' => exact fun ρ' H' v x r q => i _ _ (p ρ' H' v x r q)
  | exc c q h' => exact p
  | bad => exact p
end
abbrev VRel (K : PySem.W.Frag) : Hp → List Addr → V → W → Prop := fun H ρ v w => VR K H ρ v w
abbrev VsRel (K : PySem.W.Frag) : Hp → List Addr → List V → List W → Prop := fun H ρ v w => VRs K H ρ v w
abbrev BRel : Hp → List Addr → Bool → Bool → Prop := fun _ _ a b => a = b
/-- an expression's reading by its plain function -/
def rd (K : PySem.W.Frag) (G : Gx) (Wx : WX) {α β : Type} (Rel : Hp → List Addr → β → α → Prop) (m : M α) : L2.St → Hp → (β → Hp → Prop) → Prop := fun σ H Q =>
  ∃ ρ e h, HR K G H ρ h ∧ SR K H ρ σ e ∧ Post K G (fun cls d H' => Wx cls d σ H') Rel Q H ρ (m e h)
/-- e is read by m -/
def SE (G : Gx) (X : Cx) (e : Expr) (m : M W) : Prop := ∀ Wx, Takes X Wx → PE X e (rd X.K G Wx (VRel X.K) m)
def ST (G : Gx) (X : Cx) (e : Expr) (m : M Bool) : Prop := ∀ Wx, Takes X Wx → PT X e (rd X.K G Wx BRel m)
def SW (G : Gx) (X : Cx) (e : Expr) (m : M Bool) : Prop := ∀ Wx, Takes X Wx → PW X e (rd X.K G Wx BRel m)
def SA (G : Gx) (X : Cx) (es : List Expr) (m : M (List W)) : Prop := ∀ Wx, Takes X Wx → PA X es (rd X.K G Wx (VsRel X.K) m)
/-- go on behind a part -/
theorem rd.bnd {K : PySem.W.Frag} {G : Gx} {Wx : WX} {α β γ δ : Type} {Rel : Hp → List Addr → β → α → Prop} {Rel2 : Hp → List Addr → δ → γ → Prop} {m : M α} {f : Env → α → List O → Out γ} {σ : L2.St} {H : Hp} {Q : δ → Hp → Prop}
    {Q' : β → Hp → Prop} (p : rd K G Wx Rel2 (fun e h => (m e h).bnd (f e)) σ H Q)
    (k : ∀ H0 ρ0 e, SR K H0 ρ0 σ e → ∀ v H1 ρ1 h1 w, Ext H0 ρ0 H1 ρ1 → HR K G H1 ρ1 h1 → Rel H1 ρ1 v w → Post K G (fun cls d H' => Wx cls d σ H') Rel2 Q H1 ρ1 (f e w h1) → Q' v H1) :
    rd K G Wx Rel m σ H Q' := by
  obtain ⟨ρ, e, h, hr, sr, p⟩ := p
  refine ⟨ρ, e, h, hr, sr, (Post.bnd (Rel := Rel) p).imp fun v H1 q => ?_⟩
  obtain ⟨ρ1, h1, w, x, r1, q1, p1⟩ := q
  exact k H ρ e sr v H1 ρ1 h1 w x r1 q1 p1
end Den
set_option maxRecDepth 100000
/-! Expressions: names, constants, operators, comparisons, tests, displays, subscripts, slices, calls. -/
namespace Den
open PySem L2
/-- sizes that we let pass -/
abbrev lim : Nat := 1000000
theorem lim_size {n : Nat} (h : n ≤ lim) : n ≤ sizeLine := by rw [PySem.sizeLine_eq]; exact Nat.le_trans h (by decide)

/-! ### names, constants -/
def mVar (i : Nat) : M W := fun e h => match e[i]? with
  | some (some w) => .ok w h
  | _ => .bad
def mC (w : W) : M W := fun _ h => .ok w h
section
variable {G : Gx} {X : Cx}
theorem se_var (i : Nat) {x : Str} {pos : Pos} (hN : X.N[i]? = some x := by rfl) (hv : Vis X.env.scope x := by first | exact Or.inl rfl | exact Or.inr (Or.inl rfl) | exact Or.inr (Or.inr rfl)) (hd : (x == ("__debug__" : Str)) = false := by decide)
    (hcd : (x == ("__classdict__" : Str)) = false := by decide) : SE G X (.Name x pos) (mVar i) := fun Wx tk => (pe_var hN hv hd hcd).imp fun σ H Q p => by
  obtain ⟨ρ, e, h, hr, sr, p⟩ := p
  unfold mVar at p
  split at p
  · rename_i w hw
    obtain ⟨v, hv, r⟩ := sr.at_ _ _ hw
    exact ⟨v, hv, p ρ H v (Ext.refl hr) hr r⟩
  · exact p.elim
theorem rd_c {K : PySem.W.Frag} {Wx : WX} {v : V} {w : W} {σ : L2.St} {H : Hp} {Q : VK} (hw : ∀ H ρ, VR K H ρ v w) (p : rd K G Wx (VRel K) (mC w) σ H Q) : Q v H := by
  obtain ⟨ρ, e, h, hr, sr, p⟩ := p
  exact p ρ H v (Ext.refl hr) hr (hw _ _)
theorem se_int {i : Int} {j : Nat} {pos : Pos} : SE G X (.Constant (.int i) j pos) (mC (.int i)) := fun Wx tk => pe_int.imp fun σ H Q p => rd_c (v := .int i) (fun _ _ => by unfold VR; rfl) p
theorem se_bl {b : Bool} {j : Nat} {pos : Pos} : SE G X (.Constant (.bool b) j pos) (mC (.bl b)) := fun Wx tk => pe_bl.imp fun σ H Q p => rd_c (v := .bl b) (fun _ _ => by unfold VR; rfl) p
theorem se_non {j : Nat} {pos : Pos} : SE G X (.Constant .none j pos) (mC .non) := fun Wx tk => pe_non.imp fun σ H Q p => rd_c (v := .non) (fun _ _ => by unfold VR; rfl) p
theorem se_str {x : Str} {l : List Nat} {j : Nat} {pos : Pos} (hx : x = ⟨l.toArray⟩ := by decide +kernel) : SE G X (.Constant (.str x) j pos) (mC (.str l)) := fun Wx tk => pe_str.imp fun σ H Q p => rd_c (v := .str x) (fun _ _ => by unfold VR; rw [hx]) p
/-- a module's constant -/
theorem se_glob {x : Str} {v : V} {u : Value} {w : W} {pos : Pos} (hg : Gl X x) (hm : X.mg x = some u) (r : RelV v u) (hw : ∀ H ρ, VR X.K H ρ v w) (hd : (x == ("__debug__" : Str)) = false := by decide) : SE G X (.Name x pos) (mC w) :=
  fun Wx tk => (pe_glob hg hm r hd).imp fun σ H Q p => rd_c hw p
end

/-! ### two operands -/
def mOp (op : W → W → List O → Out W) (a b : M W) : M W := fun e h => (a e h).bnd fun x h => (b e h).bnd fun y h => op x y h
def mUn (op : W → List O → Out W) (a : M W) : M W := fun e h => (a e h).bnd fun x h => op x h
/-- r serves op -/
def Serves2 (K : PySem.W.Frag) (G : Gx) (op : W → W → List O → Out W) (r : R2) : Prop := ∀ (E : XK) (H : Hp) (ρ : List Addr) (h : List O) (x y : V) (wx wy : W) (Q : VK),
  HR K G H ρ h → VR K H ρ x wx → VR K H ρ y wy → Post K G E (VRel K) Q H ρ (op wx wy h) → r x y H Q
def Serves1 (K : PySem.W.Frag) (G : Gx) (op : W → List O → Out W) (r : V → Hp → VK → Prop) : Prop := ∀ (E : XK) (H : Hp) (ρ : List Addr) (h : List O) (x : V) (wx : W) (Q : VK),
  HR K G H ρ h → VR K H ρ x wx → Post K G E (VRel K) Q H ρ (op wx h) → r x H Q
def OpS (G : Gx) (X : Cx) (f : Value → Value → Sem Value) (op : W → W → List O → Out W) : Prop := ∃ r, OpR X f r ∧ Serves2 X.K G op r
def UnS (G : Gx) (X : Cx) (f : Value → Sem Value) (op : W → List O → Out W) : Prop := ∃ r, UnR X f r ∧ Serves1 X.K G op r
section
variable {G : Gx} {X : Cx} {a b c : Expr} {ma mb mc : M W} {op : W → W → List O → Out W} {pos : Pos}
/-- the reading of two parts and an operation -/
theorem rd_op {K : PySem.W.Frag} {Wx : WX} {r : R2} (s : Serves2 K G op r) {σ : L2.St} {H : Hp} {Q : VK} (p : rd K G Wx (VRel K) (mOp op ma mb) σ H Q) : tOp r (rd K G Wx (VRel K) ma) (rd K G Wx (VRel K) mb) σ H Q := by
  refine rd.bnd (Rel := VRel K) p fun H0 ρ0 e sr x H1 ρ1 h1 wx x1 r1 vx p1 => ?_
  have sr1 := sr.mono x1
  refine ⟨ρ1, e, h1, r1, sr1, (Post.bnd (Rel := VRel K) p1).imp fun y H2 q => ?_⟩
  obtain ⟨ρ2, h2, wy, x2, r2, vy, p2⟩ := q
  exact s _ H2 ρ2 h2 x y wx wy Q r2 (vx.mono x2) vy p2
theorem se_op {o : Operator} (s : OpS G X (binaryOp o) op) (ha : SE G X a ma) (hb : SE G X b mb) : SE G X (.BinOp a o b pos) (mOp op ma mb) := fun Wx tk => by
  obtain ⟨r, ho, s⟩ := s
  exact (pe_op ho (ha Wx tk) (hb Wx tk)).imp fun σ H Q p => rd_op s p
theorem se_cmp {o : CmpOp} (s : OpS G X (compareOp o) op) (ha : SE G X a ma) (hb : SE G X b mb) (hm : behindInMarks o b = false := by first | exact nomark _ (by decide) (by decide) | rfl | (with_unfolding_all rfl)) :
    SE G X (.Compare a [o] [b] pos) (mOp op ma mb) := fun Wx tk => by
  obtain ⟨r, ho, s⟩ := s
  exact (pe_cmpR ho (ha Wx tk) (hb Wx tk) hm).imp fun σ H Q p => rd_op s p
theorem se_un {o : UnaryOp} {op : W → List O → Out W} (s : UnS G X (unaryOp o) op) (ha : SE G X a ma) : SE G X (.UnaryOp o a pos) (mUn op ma) := fun Wx tk => by
  obtain ⟨r, ho, s⟩ := s
  refine (pe_un ho (ha Wx tk)).imp fun σ H Q p => ?_
  refine rd.bnd (Rel := VRel X.K) p fun H0 ρ0 e sr x H1 ρ1 h1 wx x1 r1 vx p1 => ?_
  exact s _ H1 ρ1 h1 x wx Q r1 vx p1
end
/-- a bool as a test's answer -/
def asB : W → List O → Out Bool
  | .bl b, h => .ok b h
  | _, _ => .bad
def mB (m : M W) : M Bool := fun e h => (m e h).bnd asB
section
variable {G : Gx} {X : Cx} {a b c : Expr} {ma mb mc : M W} {op op' : W → W → List O → Out W} {pos : Pos}
theorem asB_post {K : PySem.W.Frag} {E : XK} {H : Hp} {ρ : List Addr} {h : List O} {v : V} {w : W} {Q : Bool → Hp → Prop} (hr : HR K G H ρ h) (r : VR K H ρ v w) (p : Post K G E BRel Q H ρ (asB w h)) : ∃ k, v = .bl k ∧ Q k H := by
  cases w with
  | bl b =>
    unfold VR at r
    exact ⟨b, r, p ρ H b (Ext.refl hr) hr rfl⟩
  | non => exact p.elim
  | int i => exact p.elim
  | str i => exact p.elim
  | tup i => exact p.elim
  | rol i => exact p.elim
  | ref i => exact p.elim
theorem st_cmp {o : CmpOp} (s : OpS G X (compareOp o) op) (ha : SE G X a ma) (hb : SE G X b mb) (hm : behindInMarks o b = false := by first | exact nomark _ (by decide) (by decide) | rfl | (with_unfolding_all rfl)) :
    ST G X (.Compare a [o] [b] pos) (mB (mOp op ma mb)) := fun Wx tk => by
  obtain ⟨r, ho, s⟩ := s
  refine (pt_cmpR ho (ha Wx tk) (hb Wx tk) hm).imp fun σ H Q p => ?_
  refine rd_op (G := G) (Wx := Wx) (K := X.K) (Q := fun x H' => ∃ k, x = .bl k ∧ Q k H') s ?_
  refine rd.bnd (Rel := VRel X.K) p fun H0 ρ0 e sr x H1 ρ1 h1 wx x1 r1 vx p1 => ?_
  exact asB_post r1 vx p1
/-- a op b op' c -/
def mChain (op op' : W → W → List O → Out W) (a b c : M W) : M W := fun e h => (a e h).bnd fun x h => (b e h).bnd fun y h => (op x y h).bnd fun z h => (asB z h).bnd fun k h => if k = true then (c e h).bnd fun w h => op' y w h else .ok (.bl false) h
theorem rd_chain {K : PySem.W.Frag} {Wx : WX} {r r' : R2} (s : Serves2 K G op r) (s' : Serves2 K G op' r') {σ : L2.St} {H : Hp} {Q : VK} (p : rd K G Wx (VRel K) (mChain op op' ma mb mc) σ H Q) :
    tChain r r' (rd K G Wx (VRel K) ma) (rd K G Wx (VRel K) mb) (rd K G Wx (VRel K) mc) σ H Q := by
  refine rd.bnd (Rel := VRel K) p fun H0 ρ0 e sr x H1 ρ1 h1 wx x1 r1 vx p1 => ?_
  have sr1 := sr.mono x1
  refine ⟨ρ1, e, h1, r1, sr1, (Post.bnd (Rel := VRel K) p1).imp fun y H2 q => ?_⟩
  obtain ⟨ρ2, h2, wy, x2, r2, vy, p2⟩ := q
  refine s (fun cls d H' => Wx cls d σ H') H2 ρ2 h2 x y wx wy _ r2 (vx.mono x2) vy ((Post.bnd (Rel := VRel K) p2).imp fun z H3 q => ?_)
  obtain ⟨ρ3, h3, wz, x3, r3, vz, p3⟩ := q
  obtain ⟨k, ek, q3⟩ := asB_post (Q := fun k H3 => if k = true then rd K G Wx (VRel K) mc σ H3 (fun w' H4 => r' y w' H4 Q) else Q (.bl false) H3) r3 vz ((Post.bnd (Rel := BRel) p3).imp fun k H4 q => by
    obtain ⟨ρ4, h4, k', x4, r4, ek, p4⟩ := q
    cases ek
    cases k with
    | false => exact iteF (p4 ρ4 H4 (.bl false) (Ext.refl r4) r4 (by unfold VR; rfl))
    | true =>
      refine iteT ⟨ρ4, e, h4, r4, ((sr1.mono x2).mono x3).mono x4, (Post.bnd (Rel := VRel K) p4).imp fun w' H5 q => ?_⟩
      obtain ⟨ρ5, h5, ww, x5, r5, vw, p5⟩ := q
      exact s' _ H5 ρ5 h5 y w' wy ww Q r5 (((vy.mono x3).mono x4).mono x5) vw p5)
  exact ⟨k, ek, q3⟩
theorem se_chain {o o' : CmpOp} (s : OpS G X (compareOp o) op) (s' : OpS G X (compareOp o') op') (ha : SE G X a ma) (hb : SE G X b mb) (hc : SE G X c mc) (hm : lastMarks [o, o'] [b, c] = false := by with_unfolding_all rfl) :
    SE G X (.Compare a [o, o'] [b, c] pos) (mChain op op' ma mb mc) := fun Wx tk => by
  obtain ⟨r, ho, s⟩ := s
  obtain ⟨r', ho', s'⟩ := s'
  exact (pe_chain ho ho' (ha Wx tk) (hb Wx tk) (hc Wx tk) hm).imp fun σ H Q p => rd_chain s s' p
theorem st_chain {o o' : CmpOp} (s : OpS G X (compareOp o) op) (s' : OpS G X (compareOp o') op') (ha : SE G X a ma) (hb : SE G X b mb) (hc : SE G X c mc) (hm : lastMarks [o, o'] [b, c] = false := by with_unfolding_all rfl) :
    ST G X (.Compare a [o, o'] [b, c] pos) (mB (mChain op op' ma mb mc)) := fun Wx tk => by
  obtain ⟨r, ho, s⟩ := s
  obtain ⟨r', ho', s'⟩ := s'
  refine (pt_chain ho ho' (ha Wx tk) (hb Wx tk) (hc Wx tk) hm).imp fun σ H Q p => ?_
  refine rd_chain (G := G) (Wx := Wx) (K := X.K) (Q := fun x H' => ∃ k, x = .bl k ∧ Q k H') s s' ?_
  refine rd.bnd (Rel := VRel X.K) p fun H0 ρ0 e sr x H1 ρ1 h1 wx x1 r1 vx p1 => ?_
  exact asB_post r1 vx p1

/-! ### truth, and, or, not -/
def truW : W → List O → Out Bool
  | .non, h => .ok false h
  | .bl b, h => .ok b h
  | .int i, h => .ok (i != 0) h
  | .str s, h => if s.length ≤ lim then .ok (!s.isEmpty) h else .bad
  | .tup xs, h => .ok (!xs.isEmpty) h
  | .rol xs, h => .ok (!xs.isEmpty) h
  | .ref n, h => match h[n]? with
    | some (.lst xs) => .ok (!xs.isEmpty) h
    | some (.dic xs) => .ok (!xs.isEmpty) h
    | _ => .bad
theorem VRs.isEmpty {K : PySem.W.Frag} {H : Hp} {ρ : List Addr} {vs : List V} {ws : List W} (h : VRs K H ρ vs ws) : vs.isEmpty = ws.isEmpty := by
  have e := h.length
  cases vs <;> cases ws <;> first | rfl | (simp at e)
theorem KRs.length {K : PySem.W.Frag} {H : Hp} {ρ : List Addr} : ∀ {vs : List (Key × V)} {ws : List (W × W)}, KRs K H ρ vs ws → vs.length = ws.length
  | vs, [], h => by unfold KRs at h; rw [h]; rfl
  | vs, (k, w) :: ws, h => by
    unfold KRs at h
    obtain ⟨q, v, r, e, _, _, z⟩ := h
    rw [e, List.length_cons, List.length_cons, KRs.length z]
theorem KRs.isEmpty {K : PySem.W.Frag} {H : Hp} {ρ : List Addr} {vs : List (Key × V)} {ws : List (W × W)} (h : KRs K H ρ vs ws) : vs.isEmpty = ws.isEmpty := by
  have e := h.length
  cases vs <;> cases ws <;> first | rfl | (simp at e)
theorem HR.look {K : PySem.W.Frag} {H : Hp} {ρ : List Addr} {h : List O} {n : Nat} {a : Addr} {o : O} (r : HR K G H ρ h) (e : ρ[n]? = some a) (q : h[n]? = some o) : OR K G H ρ a o := r.ob n a o e q
theorem tru_post {K : PySem.W.Frag} {E : XK} {H : Hp} {ρ : List Addr} {h : List O} {v : V} {w : W} {Q : Bool → Hp → Prop} (hr : HR K G H ρ h) (r : VR K H ρ v w) (p : Post K G E BRel Q H ρ (truW w h)) : ∃ k, TruV K v H k ∧ Q k H := by
  cases w with
  | non => unfold VR at r; rw [r]; exact ⟨false, rfl, p ρ H _ (Ext.refl hr) hr rfl⟩
  | bl b => unfold VR at r; rw [r]; exact ⟨b, rfl, p ρ H _ (Ext.refl hr) hr rfl⟩
  | int i => unfold VR at r; rw [r]; exact ⟨_, rfl, p ρ H _ (Ext.refl hr) hr rfl⟩
  | str s =>
    unfold VR at r
    rw [r]
    have p : Post K G E BRel Q H ρ (if s.length ≤ lim then .ok (!s.isEmpty) h else .bad) := p
    by_cases hl : s.length ≤ lim
    · rw [if_pos hl] at p
      refine ⟨_, ⟨?_, rfl⟩, p ρ H _ (Ext.refl hr) hr ?_⟩
      · exact lim_size (by show s.toArray.size ≤ lim; simpa using hl)
      · show (((s.toArray.size : Nat) : Int) != 0) = _
        cases s with
        | nil => rfl
        | cons x l =>
          have e : (((x :: l).toArray.size : Nat) : Int) ≠ 0 := by simp; omega
          simp [bne, e]
          omega
    · rw [if_neg hl] at p
      exact p.elim
  | tup xs =>
    unfold VR at r
    obtain ⟨a, vs, rfl, hs, q⟩ := r
    exact ⟨_, .inr (.inl ⟨vs, hs, rfl⟩), p ρ H _ (Ext.refl hr) hr (by rw [q.isEmpty])⟩
  | rol xs =>
    unfold VR at r
    obtain ⟨a, vs, rfl, hs, q⟩ := r
    refine ⟨_, .inl ⟨vs, ?_, rfl⟩, p ρ H _ (Ext.refl hr) hr (by rw [q.isEmpty])⟩
    rcases hs with hs | hs
    · exact .inl hs.1
    · exact hs H
  | ref n =>
    unfold VR at r
    obtain ⟨a, rfl, ha⟩ := r
    simp only [truW] at p
    cases hx : h[n]? with
    | none => rw [hx] at p; exact p.elim
    | some o =>
      rw [hx] at p
      have q := hr.look ha hx
      cases o with
      | lst xs =>
        obtain ⟨vs, e, q⟩ := q
        exact ⟨_, .inl ⟨vs, .inl (.inl e), rfl⟩, p ρ H _ (Ext.refl hr) hr (by rw [q.isEmpty])⟩
      | dic xs =>
        obtain ⟨vs, e, q⟩ := q
        exact ⟨_, .inr (.inr ⟨vs, e, rfl⟩), p ρ H _ (Ext.refl hr) hr (by rw [q.isEmpty])⟩
      | ins c fs => exact p.elim
def mTru (m : M W) : M Bool := fun e h => (m e h).bnd truW
theorem st_tru (ha : SE G X a ma) (he : ∀ whole, isTrue a X.env whole = (do let v ← whole; standAt a.pos; holding [v] (truthy v)) := by intro _; rfl) : ST G X a (mTru ma) := fun Wx tk =>
  (pt_truth (ha Wx tk) he).imp fun σ H Q p => rd.bnd (Rel := VRel X.K) p fun H0 ρ0 e sr x H1 ρ1 h1 wx x1 r1 vx p1 => tru_post r1 vx p1
variable {ta tb : M Bool} {rest : List Expr}
def mAnd (t u : M Bool) : M Bool := fun e h => (t e h).bnd fun c h => if c = true then u e h else .ok false h
def mOr (t u : M Bool) : M Bool := fun e h => (t e h).bnd fun c h => if c = true then .ok true h else u e h
def mNot (t : M Bool) : M Bool := fun e h => (t e h).bnd fun c h => .ok (!c) h
theorem sw_and1 (ha : ST G X a ta) : SW G X (.BoolOp .And [a] pos) ta := fun Wx tk => pw_and1 (ha Wx tk)
theorem sw_or1 (ha : ST G X a ta) : SW G X (.BoolOp .Or [a] pos) ta := fun Wx tk => pw_or1 (ha Wx tk)
theorem sw_and (ha : ST G X a ta) (hb : SW G X (.BoolOp .And (b :: rest) pos) tb) : SW G X (.BoolOp .And (a :: b :: rest) pos) (mAnd ta tb) := fun Wx tk =>
  (pw_and (ha Wx tk) (hb Wx tk)).imp fun σ H Q p => rd.bnd (Rel := BRel) p fun H0 ρ0 e sr x H1 ρ1 h1 wx x1 r1 vx p1 => by
    cases vx
    cases x with
    | true => exact iteT ⟨ρ1, e, h1, r1, sr.mono x1, p1⟩
    | false => exact iteF (p1 ρ1 H1 false (Ext.refl r1) r1 rfl)
theorem sw_or (ha : ST G X a ta) (hb : SW G X (.BoolOp .Or (b :: rest) pos) tb) : SW G X (.BoolOp .Or (a :: b :: rest) pos) (mOr ta tb) := fun Wx tk =>
  (pw_or (ha Wx tk) (hb Wx tk)).imp fun σ H Q p => rd.bnd (Rel := BRel) p fun H0 ρ0 e sr x H1 ρ1 h1 wx x1 r1 vx p1 => by
    cases vx
    cases x with
    | true => exact iteT (p1 ρ1 H1 true (Ext.refl r1) r1 rfl)
    | false => exact iteF ⟨ρ1, e, h1, r1, sr.mono x1, p1⟩
theorem st_w (h : SW G X a ta) : ST G X a ta := fun Wx tk => (h Wx tk).pt
theorem st_not (ha : ST G X a ta) : ST G X (.UnaryOp .Not a pos) (mNot ta) := fun Wx tk =>
  (pt_not (ha Wx tk)).imp fun σ H Q p => rd.bnd (Rel := BRel) p fun H0 ρ0 e sr x H1 ρ1 h1 wx x1 r1 vx p1 => by
    cases vx
    exact p1 ρ1 H1 _ (Ext.refl r1) r1 rfl
/-- .. as values -/
def mAndV (a b : M W) : M W := fun e h => (a e h).bnd fun x h => (truW x h).bnd fun k h => if k = true then b e h else .ok x h
def mOrV (a b : M W) : M W := fun e h => (a e h).bnd fun x h => (truW x h).bnd fun k h => if k = true then .ok x h else b e h
def mNotV (a : M W) : M W := fun e h => (a e h).bnd fun x h => (truW x h).bnd fun k h => .ok (.bl (!k)) h
theorem se_one {o : BoolOp} (ha : SE G X a ma) : SE G X (.BoolOp o [a] pos) ma := fun Wx tk => pe_one (ha Wx tk)
theorem se_and (ha : SE G X a ma) (hb : SE G X (.BoolOp .And (b :: rest) pos) mb) : SE G X (.BoolOp .And (a :: b :: rest) pos) (mAndV ma mb) := fun Wx tk =>
  (pe_andT (ha Wx tk) (hb Wx tk)).imp fun σ H Q p => rd.bnd (Rel := VRel X.K) p fun H0 ρ0 e sr x H1 ρ1 h1 wx x1 r1 vx p1 => by
    refine tru_post (Q := fun k H1 => if k = true then rd X.K G Wx (VRel X.K) mb σ H1 Q else Q x H1) r1 vx ((Post.bnd (Rel := BRel) p1).imp fun k H2 q => ?_)
    obtain ⟨ρ2, h2, k', x2, r2, ek, p2⟩ := q
    cases ek
    cases k with
    | true => exact iteT ⟨ρ2, e, h2, r2, (sr.mono x1).mono x2, p2⟩
    | false => exact iteF (p2 ρ2 H2 x (Ext.refl r2) r2 (vx.mono x2))
theorem se_or (ha : SE G X a ma) (hb : SE G X (.BoolOp .Or (b :: rest) pos) mb) : SE G X (.BoolOp .Or (a :: b :: rest) pos) (mOrV ma mb) := fun Wx tk =>
  (pe_orT (ha Wx tk) (hb Wx tk)).imp fun σ H Q p => rd.bnd (Rel := VRel X.K) p fun H0 ρ0 e sr x H1 ρ1 h1 wx x1 r1 vx p1 => by
    refine tru_post (Q := fun k H1 => if k = true then Q x H1 else rd X.K G Wx (VRel X.K) mb σ H1 Q) r1 vx ((Post.bnd (Rel := BRel) p1).imp fun k H2 q => ?_)
    obtain ⟨ρ2, h2, k', x2, r2, ek, p2⟩ := q
    cases ek
    cases k with
    | true => exact iteT (p2 ρ2 H2 x (Ext.refl r2) r2 (vx.mono x2))
    | false => exact iteF ⟨ρ2, e, h2, r2, (sr.mono x1).mono x2, p2⟩
theorem se_not (ha : SE G X a ma) : SE G X (.UnaryOp .Not a pos) (mNotV ma) := fun Wx tk =>
  (pe_notT (ha Wx tk)).imp fun σ H Q p => rd.bnd (Rel := VRel X.K) p fun H0 ρ0 e sr x H1 ρ1 h1 wx x1 r1 vx p1 => by
    refine tru_post (Q := fun k H1 => Q (.bl (!k)) H1) r1 vx ((Post.bnd (Rel := BRel) p1).imp fun k H2 q => ?_)
    obtain ⟨ρ2, h2, k', x2, r2, ek, p2⟩ := q
    cases ek
    exact p2 ρ2 H2 _ (Ext.refl r2) r2 (by unfold VR; rfl)
def mIf (t : M Bool) (a b : M W) : M W := fun e h => (t e h).bnd fun c h => if c = true then a e h else b e h
theorem se_ife {tc : M Bool} (hc : ST G X c tc) (ha : SE G X a ma) (hb : SE G X b mb) : SE G X (.IfExp c a b pos) (mIf tc ma mb) := fun Wx tk =>
  (pe_ifExp (hc Wx tk) (ha Wx tk) (hb Wx tk)).imp fun σ H Q p => rd.bnd (Rel := BRel) p fun H0 ρ0 e sr x H1 ρ1 h1 wx x1 r1 vx p1 => by
    cases vx
    cases x with
    | true => exact iteT ⟨ρ1, e, h1, r1, sr.mono x1, p1⟩
    | false => exact iteF ⟨ρ1, e, h1, r1, sr.mono x1, p1⟩

/-! ### argument lists, displays -/
def mNil : M (List W) := fun _ h => .ok [] h
def mCons (a : M W) (r : M (List W)) : M (List W) := fun e h => (a e h).bnd fun x h => (r e h).bnd fun xs h => .ok (x :: xs) h
theorem sa_nil : SA G X [] mNil := fun Wx tk => pa_nil.imp fun σ H Q p => by
  obtain ⟨ρ, e, h, hr, sr, p⟩ := p
  exact p ρ H [] (Ext.refl hr) hr .nil
theorem sa_cons {es : List Expr} {mr : M (List W)} (ha : SE G X a ma) (hr : SA G X es mr) (hs : starEach (a :: es) X.env = (false, eval a X.env) :: starEach es X.env := by rfl) : SA G X (a :: es) (mCons ma mr) := fun Wx tk =>
  (pa_cons (ha Wx tk) (hr Wx tk) hs).imp fun σ H Q p => rd.bnd (Rel := VRel X.K) p fun H0 ρ0 e sr x H1 ρ1 h1 wx x1 r1 vx p1 => by
    refine ⟨ρ1, e, h1, r1, sr.mono x1, (Post.bnd (Rel := VsRel X.K) p1).imp fun ys H2 q => ?_⟩
    obtain ⟨ρ2, h2, wys, x2, r2, vys, p2⟩ := q
    exact p2 ρ2 H2 _ (Ext.refl r2) r2 (.cons (vx.mono x2) vys)
def mTup (m : M (List W)) : M W := fun e h => (m e h).bnd fun xs h => if xs.length ≤ lim then .ok (.tup xs) h else .bad
def mLst (m : M (List W)) : M W := fun e h => (m e h).bnd fun xs h => if xs.length ≤ lim then .ok (.ref h.length) (h ++ [.lst xs]) else .bad
section
variable {K : PySem.W.Frag} {H : Hp} {ρ : List Addr} {h : List O} {E : XK} {vs : List V} {ws : List W} {Q : VK}
theorem HR.last (hr : HR K G H ρ h) {p : Addr} : (ρ ++ [p])[h.length]? = some p := by rw [← hr.len]; simp
/-- a new tuple -/
theorem new_tup (hr : HR K G H ρ h) (r : VRs K H ρ vs ws) (p : Post K G E (VRel K) Q H ρ (.ok (.tup ws) h)) : ∀ t, H t = none → Q (.ref t) (upd H t (.tup vs)) := fun t ht => by
  obtain ⟨r1, x1⟩ := hr.other (o := .tup vs) ht
  refine p ρ _ _ x1 r1 ?_
  show VR K _ ρ _ (.tup ws)
  unfold VR
  exact ⟨t, vs, rfl, .inl (.inl upd_same), r.mono x1⟩
/-- a new list -/
theorem new_lst (hr : HR K G H ρ h) (r : VRs K H ρ vs ws) (p : Post K G E (VRel K) Q H ρ (.ok (.ref h.length) (h ++ [.lst ws]))) : ∀ t, H t = none → Q (.ref t) (upd H t (.lst vs)) := fun t ht => by
  obtain ⟨r1, x1⟩ := hr.new (o := .lst vs) (u := .lst ws) ht rfl fun x => ⟨vs, upd_same, r.mono x⟩
  refine p _ _ _ x1 r1 ?_
  show VR K _ _ _ (.ref h.length)
  unfold VR
  exact ⟨t, rfl, hr.last⟩
end
theorem se_tup {es : List Expr} {mr : M (List W)} {x1 : Nat} (h : SA G X es mr) : SE G X (.Tuple es x1 pos) (mTup mr) := fun Wx tk =>
  (pe_tup (h Wx tk)).imp fun σ H Q p => rd.bnd (Rel := VsRel X.K) p fun H0 ρ0 e sr x H1 ρ1 h1 wx x1 r1 vx p1 => by
    split at p1
    · rename_i hl
      exact ⟨by rw [vx.length]; exact lim_size hl, new_tup r1 vx p1⟩
    · exact p1.elim
theorem se_lst {es : List Expr} {mr : M (List W)} (h : SA G X es mr) : SE G X (.List es pos) (mLst mr) := fun Wx tk =>
  (pe_lst (h Wx tk)).imp fun σ H Q p => rd.bnd (Rel := VsRel X.K) p fun H0 ρ0 e sr x H1 ρ1 h1 wx x1 r1 vx p1 => by
    split at p1
    · rename_i hl
      exact ⟨by rw [vx.length]; exact lim_size hl, new_lst r1 vx p1⟩
    · exact p1.elim
end
end Den
set_option maxRecDepth 100000
/-! Operators, comparisons, subscripts, slices. -/
namespace Den
open PySem L2 PyProof.Rows
def lstAt (h : List O) (n : Nat) : Option (List W) := match h[n]? with
  | some (.lst xs) => some xs
  | _ => none
def dicAt (h : List O) (n : Nat) : Option (List (W × W)) := match h[n]? with
  | some (.dic xs) => some xs
  | _ => none
def insAt (h : List O) (n : Nat) : Option (Nat × List (Str × W)) := match h[n]? with
  | some (.ins c fs) => some (c, fs)
  | _ => none
theorem lstAt_some {h : List O} {n : Nat} {xs : List W} (e : lstAt h n = some xs) : h[n]? = some (.lst xs) := by
  unfold lstAt at e
  split at e
  · rename_i ys hy
    cases e
    exact hy
  · cases e
theorem dicAt_some {h : List O} {n : Nat} {xs : List (W × W)} (e : dicAt h n = some xs) : h[n]? = some (.dic xs) := by
  unfold dicAt at e
  split at e
  · rename_i ys hy
    cases e
    exact hy
  · cases e
theorem insAt_some {h : List O} {n : Nat} {c : Nat} {xs : List (Str × W)} (e : insAt h n = some (c, xs)) : h[n]? = some (.ins c xs) := by
  unfold insAt at e
  split at e
  · rename_i ys zs hy
    cases e
    exact hy
  · cases e
/-- a list's items -/
def sqL (w : W) (h : List O) : Option (List W) := match w with
  | .rol xs => some xs
  | .ref n => lstAt h n
  | _ => none
def sqT (w : W) : Option (List W) := match w with
  | .tup xs => some xs
  | _ => none
def sqA (w : W) (h : List O) : Option (List W) := match w with
  | .tup xs => some xs
  | .rol xs => some xs
  | .ref n => lstAt h n
  | _ => none
section
variable {K : PySem.W.Frag} {G : Gx} {H : Hp} {ρ : List Addr} {h : List O} {v : V} {w : W} {xs : List W}
theorem sqL_ok (hr : HR K G H ρ h) (r : VR K H ρ v w) (e : sqL w h = some xs) : ∃ a vs, v = .ref a ∧ SqL K H a vs ∧ VRs K H ρ vs xs := by
  cases w with
  | rol ys =>
    cases e
    unfold VR at r
    obtain ⟨a, vs, e, q, z⟩ := r
    refine ⟨a, vs, e, ?_, z⟩
    rcases q with q | q
    · exact .inl q.1
    · exact q H
  | ref n =>
    unfold VR at r
    obtain ⟨a, e2, ha⟩ := r
    obtain ⟨vs, q, z⟩ := hr.look ha (lstAt_some e)
    exact ⟨a, vs, e2, .inl (.inl q), z⟩
  | _ => cases e
theorem sqT_ok (r : VR K H ρ v w) (e : sqT w = some xs) : ∃ a vs, v = .ref a ∧ SqT K H a vs ∧ VRs K H ρ vs xs := by
  cases w with
  | tup ys =>
    cases e
    unfold VR at r
    exact r
  | _ => cases e
theorem sqA_ok (hr : HR K G H ρ h) (r : VR K H ρ v w) (e : sqA w h = some xs) : ∃ a vs, v = .ref a ∧ (SqL K H a vs ∨ SqT K H a vs) ∧ VRs K H ρ vs xs := by
  cases w with
  | tup ys =>
    cases e
    unfold VR at r
    obtain ⟨a, vs, e, q, z⟩ := r
    exact ⟨a, vs, e, .inr q, z⟩
  | rol ys =>
    obtain ⟨a, vs, e, q, z⟩ := sqL_ok hr r (w := .rol ys) e
    exact ⟨a, vs, e, .inl q, z⟩
  | ref n =>
    obtain ⟨a, vs, e, q, z⟩ := sqL_ok hr r (w := .ref n) e
    exact ⟨a, vs, e, .inl q, z⟩
  | _ => cases e
theorem VR.int {i : Int} (r : VR K H ρ v (.int i)) : v = .int i := by unfold VR at r; exact r
theorem VR.bl {i : Bool} (r : VR K H ρ v (.bl i)) : v = .bl i := by unfold VR at r; exact r
theorem VR.non (r : VR K H ρ v .non) : v = .non := by unfold VR at r; exact r
theorem VR.str {l : List Nat} (r : VR K H ρ v (.str l)) : v = .str ⟨l.toArray⟩ := by unfold VR at r; exact r
theorem VR.ref {n : Nat} (r : VR K H ρ v (.ref n)) : ∃ a, v = .ref a ∧ ρ[n]? = some a := by unfold VR at r; exact r
theorem vr_int {i : Int} : VR K H ρ (.int i) (.int i) := by unfold VR; rfl
theorem vr_bl {i : Bool} : VR K H ρ (.bl i) (.bl i) := by unfold VR; rfl
theorem vr_non : VR K H ρ .non .non := by unfold VR; rfl
theorem vr_str {l : List Nat} : VR K H ρ (.str ⟨l.toArray⟩) (.str l) := by unfold VR; rfl
theorem vr_str' {l : List Nat} {x : Str} (e : x = ⟨l.toArray⟩) : VR K H ρ (.str x) (.str l) := by unfold VR; rw [e]
/-- the plain end -/
theorem Post.here {E : XK} {α β : Type} {Rel : Hp → List Addr → β → α → Prop} {Q : β → Hp → Prop} {b : β} {a : α} (hr : HR K G H ρ h) (p : Post K G E Rel Q H ρ (.ok a h)) (r : Rel H ρ b a) : Q b H := p ρ H b (Ext.refl hr) hr r
end
theorem Str_length (l : List Nat) : (Str.length ⟨l.toArray⟩) = l.length := by show l.toArray.size = l.length; simp
theorem Str_app (a b : List Nat) : (⟨a.toArray⟩ ++ ⟨b.toArray⟩ : Str) = ⟨(a ++ b).toArray⟩ := by
  show (⟨a.toArray ++ b.toArray⟩ : Str) = _
  simp
theorem len_le {l : List Nat} (h : l.length ≤ lim) : Str.length ⟨l.toArray⟩ ≤ sizeLine := by rw [Str_length]; exact lim_size h

/-! ### + -/
def oAdd (x y : W) (h : List O) : Out W := match x, y with
  | .int i, .int j => .ok (.int (i + j)) h
  | .int i, .bl b => .ok (.int (i + if b then 1 else 0)) h
  | .str a, .str b => if a.length + b.length ≤ lim then .ok (.str (a ++ b)) h else .bad
  | .tup a, .tup b => if a.length + b.length ≤ lim then .ok (.tup (a ++ b)) h else .bad
  | .ref n, .ref m => match lstAt h n, lstAt h m with
    | some a, some b => if a.length + b.length ≤ lim then .ok (.ref h.length) (h ++ [.lst (a ++ b)]) else .bad
    | _, _ => .bad
  | _, _ => .bad
section
variable {G : Gx} {X : Cx}
theorem vr_tup {K : PySem.W.Frag} {H : Hp} {ρ : List Addr} {a : Addr} {vs : List V} {ws : List W} (h : SqT K H a vs) (r : VRs K H ρ vs ws) : VR K H ρ (.ref a) (.tup ws) := by unfold VR; exact ⟨a, vs, rfl, h, r⟩
theorem ops_add : OpS G X (binaryOp .Add) oAdd := ⟨_, OpR.or op_add (OpR.or op_add_str (OpR.or op_catA (OpR.or op_cat op_add_ib))), fun E H ρ h x y wx wy Q hr rx ry p => by
  unfold oAdd at p
  split at p
  · exact .inl ⟨_, _, rx.int, ry.int, p.here hr vr_int⟩
  · exact .inr (.inr (.inr (.inr ⟨_, _, rx.int, ry.bl, p.here hr vr_int⟩)))
  · rename_i a b
    split at p
    · rename_i hl
      exact .inr (.inl ⟨_, _, rx.str, ry.str, by rw [Str_length, Str_length]; exact lim_size hl, p.here hr (vr_str' (Str_app a b))⟩)
    · exact False.elim p
  · rename_i a b
    split at p
    · rename_i hl
      unfold VR at rx ry
      obtain ⟨a1, v1, rfl, q1, z1⟩ := rx
      obtain ⟨a2, v2, rfl, q2, z2⟩ := ry
      refine .inr (.inr (.inl ⟨a1, a2, v1, v2, rfl, rfl, q1, q2, by rw [z1.length, z2.length]; exact lim_size hl, fun e => ?_, fun e e2 => ?_, fun e e2 => ?_⟩))
      · subst e
        cases a with
        | nil => exact p.here hr (vr_tup q2 z2)
        | cons y l => have := z1.length; simp at this
      · subst e2
        cases b with
        | nil => exact p.here hr (vr_tup q1 (by rw [List.append_nil]; exact z1))
        | cons y l => have := z2.length; simp at this
      · exact new_tup hr (z1.append z2) p
    · exact False.elim p
  · rename_i n m
    split at p
    · rename_i a b ha hb
      split at p
      · rename_i hl
        obtain ⟨a1, rfl, e1⟩ := rx.ref
        obtain ⟨a2, rfl, e2⟩ := ry.ref
        obtain ⟨v1, q1, z1⟩ := hr.look e1 (lstAt_some ha)
        obtain ⟨v2, q2, z2⟩ := hr.look e2 (lstAt_some hb)
        exact .inr (.inr (.inr (.inl ⟨a1, a2, v1, v2, rfl, rfl, q1, q2, by rw [z1.length, z2.length]; exact lim_size hl, new_lst hr (z1.append z2) p⟩)))
      · exact False.elim p
    · exact False.elim p
  · exact False.elim p⟩

/-! ### -, *, //, %, ** of ints; a list times an int -/
def oSub (x y : W) (h : List O) : Out W := match x, y with
  | .int i, .int j => .ok (.int (i - j)) h
  | _, _ => .bad
theorem ops_sub : OpS G X (binaryOp .Sub) oSub := ⟨_, op_sub, fun E H ρ h x y wx wy Q hr rx ry p => by
  unfold oSub at p
  split at p
  · exact ⟨_, _, rx.int, ry.int, p.here hr vr_int⟩
  · exact False.elim p⟩
def mulOk (i j : Int) : Bool := decide (i.natAbs.log2 + j.natAbs.log2 < 100000000)
theorem mulOk_ok {i j : Int} (h : mulOk i j = true) : IntMulOk i j := by
  have b : ∀ x : Int, Builtin.Int.intBits x ≤ x.natAbs.log2 + 1 := fun x => by
    unfold Builtin.Int.intBits
    split <;> omega
  have h1 := b i
  have h2 := b j
  have h3 : i.natAbs.log2 + j.natAbs.log2 < 100000000 := of_decide_eq_true h
  have e : bitsLine = 134217728 := by decide
  unfold IntMulOk
  intro z
  rw [Bool.and_eq_true] at z
  have z2 := z.2
  unfold Builtin.Int.intTooBig at z2
  have z3 := of_decide_eq_true z2
  rw [e] at z3
  omega
theorem op_mulX : OpR X (binaryOp .Mult) (rI (fun i j => mulOk i j = true) fun i j => .int (i * j)) := opI fun _ _ _ _ _ _ _ hc q => PyProof.Rows.mul_int q (mulOk_ok hc)
theorem iop_mulX : OpR X (inplaceOp .Mult) (rI CMul fun i j => .int (i * j)) := iop_mul
def oMul (x y : W) (h : List O) : Out W := match x, y with
  | .int i, .int j => if mulOk i j = true then .ok (.int (i * j)) h else .bad
  | .ref n, .int k => match lstAt h n with
    | some a => if -(2 ^ 63) ≤ k ∧ k < 2 ^ 63 ∧ a.length * k.toNat ≤ lim then .ok (.ref h.length) (h ++ [.lst (List.replicate k.toNat a).flatten]) else .bad
    | _ => .bad
  | _, _ => .bad
theorem VRs.rep {K : PySem.W.Frag} {H : Hp} {ρ : List Addr} {vs : List V} {ws : List W} (r : VRs K H ρ vs ws) : ∀ n : Nat, VRs K H ρ (List.replicate n vs).flatten (List.replicate n ws).flatten
  | 0 => .nil
  | n + 1 => by
    rw [List.replicate_succ, List.replicate_succ, List.flatten_cons, List.flatten_cons]
    exact r.append (VRs.rep r n)
theorem ops_mul : OpS G X (binaryOp .Mult) oMul := ⟨_, OpR.or op_mulX op_rep, fun E H ρ h x y wx wy Q hr rx ry p => by
  unfold oMul at p
  split at p
  · split at p
    · rename_i hc
      exact .inl ⟨_, _, rx.int, ry.int, hc, p.here hr vr_int⟩
    · exact False.elim p
  · split at p
    · rename_i a ha
      split at p
      · rename_i hl
        obtain ⟨a1, rfl, e1⟩ := rx.ref
        obtain ⟨v1, q1, z1⟩ := hr.look e1 (lstAt_some ha)
        exact .inr ⟨a1, _, v1, rfl, ry.int, q1, hl.1, hl.2.1, by rw [z1.length]; exact lim_size hl.2.2, new_lst hr (z1.rep _) p⟩
      · exact False.elim p
    · exact False.elim p
  · exact False.elim p⟩
def oFdiv (x y : W) (h : List O) : Out W := match x, y with
  | .int i, .int j => if 0 < j ∧ j.natAbs.log2 < 9000 then .ok (.int (i / j)) h else .bad
  | _, _ => .bad
theorem ops_fdiv : OpS G X (binaryOp .FloorDiv) oFdiv := ⟨_, op_fdivW, fun E H ρ h x y wx wy Q hr rx ry p => by
  unfold oFdiv at p
  split at p
  · split at p
    · rename_i hc
      exact ⟨_, _, rx.int, ry.int, hc, p.here hr vr_int⟩
    · exact False.elim p
  · exact False.elim p⟩
def oMod (x y : W) (h : List O) : Out W := match x, y with
  | .int i, .int j => if 0 < j then .ok (.int (i % j)) h else .bad
  | _, _ => .bad
theorem ops_mod : OpS G X (binaryOp .Mod) oMod := ⟨_, op_mod, fun E H ρ h x y wx wy Q hr rx ry p => by
  unfold oMod at p
  split at p
  · split at p
    · rename_i hc
      exact ⟨_, _, rx.int, ry.int, hc, p.here hr vr_int⟩
    · exact False.elim p
  · exact False.elim p⟩
def oPow (x y : W) (h : List O) : Out W := match x, y with
  | .int i, .int j => if 0 ≤ j ∧ j ≤ 1000 ∧ i.natAbs < 1000 then .ok (.int (i ^ j.toNat)) h else .bad
  | _, _ => .bad
theorem ops_pow : OpS G X (binaryOp .Pow) oPow := ⟨_, op_pow, fun E H ρ h x y wx wy Q hr rx ry p => by
  unfold oPow at p
  split at p
  · split at p
    · rename_i hc
      exact ⟨_, _, rx.int, ry.int, ⟨hc.1, by have := hc.2.1; omega, by have := hc.2.2; have e : (1000 : Nat) < 2 ^ 64 := (by decide); omega⟩, p.here hr vr_int⟩
    · exact False.elim p
  · exact False.elim p⟩
def oNeg (x : W) (h : List O) : Out W := match x with
  | .int i => .ok (.int (-i)) h
  | _ => .bad
theorem uns_neg : UnS G X (unaryOp .USub) oNeg := ⟨_, un_neg, fun E H ρ h x wx Q hr rx p => by
  unfold oNeg at p
  split at p
  · exact ⟨_, rx.int, p.here hr vr_int⟩
  · exact False.elim p⟩

/-! ### == and != -/
/-- what a value is as data, n deep -/
def strFit (s : List Nat) : Bool := s.all fun c => decide (c < 1114112)
def mapO {α β : Type} (f : α → Option β) : List α → Option (List β)
  | [] => some []
  | x :: xs => match f x with
    | some y => match mapO f xs with
      | some ys => some (y :: ys)
      | none => none
    | none => none
def dat (h : List O) : Nat → W → Option PyData
  | 0, _ => none
  | n + 1, .non => some .none
  | n + 1, .bl b => some (.bool b)
  | n + 1, .int i => some (.int i)
  | n + 1, .str s => if strFit s = true then some (.str ⟨s.toArray⟩) else none
  | n + 1, .tup xs => (mapO (dat h n) xs).map .tuple
  | n + 1, .rol xs => (mapO (dat h n) xs).map .list
  | n + 1, .ref k => (lstAt h k).bind fun xs => (mapO (dat h n) xs).map .list
theorem mapO_dp {K : PySem.W.Frag} {H : Hp} {ρ : List Addr} {f : W → Option PyData} (hf : ∀ v w d, VR K H ρ v w → f w = some d → Dp K H v d) : ∀ {ws : List W} {vs : List V} {ds : List PyData}, VRs K H ρ vs ws → mapO f ws = some ds → DpAll K H vs ds
  | [], vs, ds, r, e => by
    unfold VRs at r
    cases e
    rw [r]
    exact .nil
  | w :: ws, vs, ds, r, e => by
    unfold VRs at r
    obtain ⟨v, l, rfl, q, z⟩ := r
    unfold mapO at e
    split at e
    · rename_i d hd
      split at e
      · rename_i ds' hds
        cases e
        exact .cons (hf v w d q hd) (mapO_dp hf z hds)
      · cases e
    · cases e
theorem dat_dp {K : PySem.W.Frag} {H : Hp} {ρ : List Addr} {h : List O} (hr : HR K G H ρ h) : ∀ (n : Nat) (v : V) (w : W) (d : PyData), VR K H ρ v w → dat h n w = some d → Dp K H v d
  | 0, v, w, d, r, e => by cases e
  | n + 1, v, .non, d, r, e => by cases e; rw [r.non]; exact .non
  | n + 1, v, .bl b, d, r, e => by cases e; rw [r.bl]; exact .bl b
  | n + 1, v, .int i, d, r, e => by cases e; rw [r.int]; exact .int i
  | n + 1, v, .str s, d, r, e => by
    unfold dat at e
    split at e
    · cases e; rw [r.str]; exact .str _
    · cases e
  | n + 1, v, .tup xs, d, r, e => by
    unfold dat at e
    obtain ⟨a, vs, rfl, q, z⟩ := sqT_ok (xs := xs) r rfl
    cases hm : mapO (dat h n) xs with
    | none => rw [hm] at e; cases e
    | some ds =>
      rw [hm] at e
      cases e
      exact .tup q (mapO_dp (fun v w d => dat_dp hr n v w d) z hm)
  | n + 1, v, .rol xs, d, r, e => by
    unfold dat at e
    obtain ⟨a, vs, rfl, q, z⟩ := sqL_ok (xs := xs) hr r rfl
    cases hm : mapO (dat h n) xs with
    | none => rw [hm] at e; cases e
    | some ds =>
      rw [hm] at e
      cases e
      exact .lst q (mapO_dp (fun v w d => dat_dp hr n v w d) z hm)
  | n + 1, v, .ref k, d, r, e => by
    unfold dat at e
    cases hl : lstAt h k with
    | none => rw [hl] at e; cases e
    | some xs =>
      rw [hl] at e
      obtain ⟨a, vs, rfl, q, z⟩ := sqL_ok (w := .ref k) (xs := xs) hr r hl
      cases hm : mapO (dat h n) xs with
      | none => simp only [Option.bind, hm] at e; cases e
      | some ds =>
        simp only [Option.bind, hm] at e
        cases e
        exact .lst q (mapO_dp (fun v w d => dat_dp hr n v w d) z hm)
theorem mapO_lay {f : W → Option PyData} (hf : ∀ w d, f w = some d → d.canLay0 = true) : ∀ {ws : List W} {ds : List PyData}, mapO f ws = some ds → PyData.canLayAll0 ds = true
  | [], ds, e => by cases e; rfl
  | w :: ws, ds, e => by
    unfold mapO at e
    split at e
    · rename_i d hd
      split at e
      · rename_i ds' hds
        cases e
        unfold PyData.canLayAll0
        rw [hf w d hd, mapO_lay hf hds]
        rfl
      · cases e
    · cases e
theorem mapO_depth {f : W → Option PyData} {n : Nat} (hf : ∀ w d, f w = some d → d.depth ≤ n) : ∀ {ws : List W} {ds : List PyData}, mapO f ws = some ds → PyData.depthAll ds ≤ n
  | [], ds, e => by cases e; exact Nat.zero_le _
  | w :: ws, ds, e => by
    unfold mapO at e
    split at e
    · rename_i d hd
      split at e
      · rename_i ds' hds
        cases e
        unfold PyData.depthAll
        exact Nat.max_le.mpr ⟨hf w d hd, mapO_depth hf hds⟩
      · cases e
    · cases e
theorem strOk_fit {s : List Nat} (h : strFit s = true) : PyData.strOk ⟨s.toArray⟩ = true := by
  unfold PyData.strOk
  unfold strFit at h
  simpa using h
theorem dat_lay {h : List O} : ∀ (n : Nat) (w : W) (d : PyData), dat h n w = some d → d.canLay0 = true ∧ d.depth ≤ n
  | 0, w, d, e => by cases e
  | n + 1, .non, d, e => by cases e; exact ⟨rfl, by unfold PyData.depth; omega⟩
  | n + 1, .bl b, d, e => by cases e; exact ⟨rfl, by unfold PyData.depth; omega⟩
  | n + 1, .int i, d, e => by cases e; exact ⟨rfl, by unfold PyData.depth; omega⟩
  | n + 1, .str s, d, e => by
    unfold dat at e
    split at e
    · rename_i hs
      cases e; exact ⟨by unfold PyData.canLay0; exact strOk_fit hs, by unfold PyData.depth; omega⟩
    · cases e
  | n + 1, .tup xs, d, e => by
    unfold dat at e
    cases hm : mapO (dat h n) xs with
    | none => rw [hm] at e; cases e
    | some ds =>
      rw [hm] at e
      cases e
      have h1 := mapO_lay (fun w d e => (dat_lay n w d e).1) hm
      have h2 := mapO_depth (fun w d e => (dat_lay n w d e).2) hm
      exact ⟨by unfold PyData.canLay0; exact h1, by unfold PyData.depth; omega⟩
  | n + 1, .rol xs, d, e => by
    unfold dat at e
    cases hm : mapO (dat h n) xs with
    | none => rw [hm] at e; cases e
    | some ds =>
      rw [hm] at e
      cases e
      have h1 := mapO_lay (fun w d e => (dat_lay n w d e).1) hm
      have h2 := mapO_depth (fun w d e => (dat_lay n w d e).2) hm
      exact ⟨by unfold PyData.canLay0; exact h1, by unfold PyData.depth; omega⟩
  | n + 1, .ref k, d, e => by
    unfold dat at e
    cases hl : lstAt h k with
    | none => rw [hl] at e; cases e
    | some xs =>
      rw [hl] at e
      cases hm : mapO (dat h n) xs with
      | none => simp only [Option.bind, hm] at e; cases e
      | some ds =>
        simp only [Option.bind, hm] at e
        cases e
        have h1 := mapO_lay (fun w d e => (dat_lay n w d e).1) hm
        have h2 := mapO_depth (fun w d e => (dat_lay n w d e).2) hm
        exact ⟨by unfold PyData.canLay0; exact h1, by unfold PyData.depth; omega⟩
theorem dat_shaped {h : List O} {w : W} {d : PyData} (e : dat h 8 w = some d) : SeqAt.shaped d = true := by
  obtain ⟨h1, h2⟩ := dat_lay 8 w d e
  unfold SeqAt.shaped
  rw [h1, Bool.true_and]
  exact decide_eq_true (Nat.le_trans h2 (by decide))
/-- == of two values: none where we can't tell -/
def eqW (h : List O) (x y : W) : Option Bool := match x, y with
  | .int i, .int j => some (i == j)
  | .str a, .str b => some (a == b)
  | .bl a, .bl b => some (a == b)
  | .non, .non => some true
  | .non, .int _ => some false
  | .int _, .non => some false
  | .non, .str _ => some false
  | .str _, .non => some false
  | x, y => match dat h 8 x, dat h 8 y with
    | some d, some e => some (PyData.eqv d e)
    | _, _ => none
def oEq (x y : W) (h : List O) : Out W := match eqW h x y with
  | some b => .ok (.bl b) h
  | none => .bad
def oNe (x y : W) (h : List O) : Out W := match eqW h x y with
  | some b => .ok (.bl !b) h
  | none => .bad
theorem str_eq_dec (a b : List Nat) : decide (V.str ⟨a.toArray⟩ = V.str ⟨b.toArray⟩) = (a == b) := by
  by_cases e : a = b
  · subst e; simp
  · rw [decide_eq_false, beq_eq_false_iff_ne.mpr e]
    intro z
    apply e
    have z1 : (⟨a.toArray⟩ : Str) = ⟨b.toArray⟩ := V.str.inj z
    have z2 : a.toArray = b.toArray := congrArg Str.cps z1
    simpa using congrArg Array.toList z2
theorem eqW_ok {K : PySem.W.Frag} {H : Hp} {ρ : List Addr} {h : List O} {x y : V} {wx wy : W} {b : Bool} (hr : HR K G H ρ h) (rx : VR K H ρ x wx) (ry : VR K H ρ y wy) (e : eqW h wx wy = some b) :
    (scal x y = true ∧ decide (x = y) = b) ∨ ∃ d d', Dp K H x d ∧ Dp K H y d' ∧ SeqAt.shaped d = true ∧ SeqAt.shaped d' = true ∧ PyData.eqv d d' = b := by
  unfold eqW at e
  split at e
  · cases e; rw [rx.int, ry.int]; refine .inl ⟨rfl, ?_⟩
    simp [Bool.beq_eq_decide_eq]
  · cases e; rw [rx.str, ry.str]; exact .inl ⟨rfl, str_eq_dec _ _⟩
  · cases e; rw [rx.bl, ry.bl]; refine .inl ⟨rfl, ?_⟩
    simp [Bool.beq_eq_decide_eq]
  · cases e; rw [rx.non, ry.non]; exact .inl ⟨rfl, decide_eq_true rfl⟩
  · cases e; rw [rx.non, ry.int]; exact .inl ⟨rfl, decide_eq_false (by intro z; cases z)⟩
  · cases e; rw [rx.int, ry.non]; exact .inl ⟨rfl, decide_eq_false (by intro z; cases z)⟩
  · cases e; rw [rx.non, ry.str]; exact .inl ⟨rfl, decide_eq_false (by intro z; cases z)⟩
  · cases e; rw [rx.str, ry.non]; exact .inl ⟨rfl, decide_eq_false (by intro z; cases z)⟩
  · split at e
    · rename_i d d' hd hd'
      cases e
      exact .inr ⟨d, d', dat_dp hr 8 _ _ _ rx hd, dat_dp hr 8 _ _ _ ry hd', dat_shaped hd, dat_shaped hd', rfl⟩
    · cases e
theorem ops_eq (hu : X.A.units + 64 < cLine) : OpS G X (compareOp .Eq) oEq := ⟨_, OpR.or op_eq (op_eqD hu), fun E H ρ h x y wx wy Q hr rx ry p => by
  unfold oEq at p
  split at p
  · rename_i b hb
    have q : Q (.bl b) H := p.here hr vr_bl
    rcases eqW_ok hr rx ry hb with ⟨h1, h2⟩ | ⟨d, d', h1, h2, h3, h4, h5⟩
    · exact .inl ⟨h1, by rw [h2]; exact q⟩
    · exact .inr ⟨d, d', h1, h2, h3, h4, by rw [h5]; exact q⟩
  · exact False.elim p⟩
theorem ops_ne (hu : X.A.units + 64 < cLine) : OpS G X (compareOp .NotEq) oNe := ⟨_, OpR.or op_ne (op_neD hu), fun E H ρ h x y wx wy Q hr rx ry p => by
  unfold oNe at p
  split at p
  · rename_i b hb
    have q : Q (.bl !b) H := p.here hr vr_bl
    rcases eqW_ok hr rx ry hb with ⟨h1, h2⟩ | ⟨d, d', h1, h2, h3, h4, h5⟩
    · exact .inl ⟨h1, by rw [h2]; exact q⟩
    · exact .inr ⟨d, d', h1, h2, h3, h4, by rw [h5]; exact q⟩
  · exact False.elim p⟩

/-! ### the order of ints and of texts -/
def oLt (x y : W) (h : List O) : Out W := match x, y with
  | .int i, .int j => .ok (.bl (decide (i < j))) h
  | .str a, .str b => .ok (.bl (decide (a < b))) h
  | _, _ => .bad
def oLe (x y : W) (h : List O) : Out W := match x, y with
  | .int i, .int j => .ok (.bl (decide (i ≤ j))) h
  | .str a, .str b => .ok (.bl (!decide (b < a))) h
  | _, _ => .bad
def oGt (x y : W) (h : List O) : Out W := match x, y with
  | .int i, .int j => .ok (.bl (decide (j < i))) h
  | .str a, .str b => .ok (.bl (decide (b < a))) h
  | _, _ => .bad
def oGe (x y : W) (h : List O) : Out W := match x, y with
  | .int i, .int j => .ok (.bl (decide (j ≤ i))) h
  | .str a, .str b => .ok (.bl (!decide (a < b))) h
  | _, _ => .bad
theorem ops_lt : OpS G X (compareOp .Lt) oLt := ⟨_, OpR.or op_lt op_lt_str, fun E H ρ h x y wx wy Q hr rx ry p => by
  unfold oLt at p
  split at p
  · exact .inl ⟨_, _, rx.int, ry.int, p.here hr vr_bl⟩
  · exact .inr ⟨_, _, rx.str, ry.str, p.here hr vr_bl⟩
  · exact False.elim p⟩
theorem ops_le : OpS G X (compareOp .LtE) oLe := ⟨_, OpR.or op_le op_le_str, fun E H ρ h x y wx wy Q hr rx ry p => by
  unfold oLe at p
  split at p
  · exact .inl ⟨_, _, rx.int, ry.int, p.here hr vr_bl⟩
  · exact .inr ⟨_, _, rx.str, ry.str, p.here hr vr_bl⟩
  · exact False.elim p⟩
theorem ops_gt : OpS G X (compareOp .Gt) oGt := ⟨_, OpR.or op_gt op_gt_str, fun E H ρ h x y wx wy Q hr rx ry p => by
  unfold oGt at p
  split at p
  · exact .inl ⟨_, _, rx.int, ry.int, p.here hr vr_bl⟩
  · exact .inr ⟨_, _, rx.str, ry.str, p.here hr vr_bl⟩
  · exact False.elim p⟩
theorem ops_ge : OpS G X (compareOp .GtE) oGe := ⟨_, OpR.or op_ge op_ge_str, fun E H ρ h x y wx wy Q hr rx ry p => by
  unfold oGe at p
  split at p
  · exact .inl ⟨_, _, rx.int, ry.int, p.here hr vr_bl⟩
  · exact .inr ⟨_, _, rx.str, ry.str, p.here hr vr_bl⟩
  · exact False.elim p⟩
end
end Den
set_option maxRecDepth 100000
/-! Subscripts, slices, stores, built-ins, methods, calls of defs. -/
namespace Den
open PySem L2 PyProof.Rows
section
variable {K : PySem.W.Frag} {G : Gx} {H : Hp} {ρ : List Addr} {h : List O}
theorem VRs.atI {vs : List V} {ws : List W} {i : Int} {w : W} (r : VRs K H ρ vs ws) (e : L2.atI ws i = some w) : ∃ v, L2.atI vs i = some v ∧ VR K H ρ v w := by
  unfold L2.atI at e ⊢
  rw [r.length]
  cases hx : ixN ws.length i with
  | none => rw [hx] at e; cases e
  | some j =>
    rw [hx] at e
    exact r.get e
end
def oIx (x y : W) (h : List O) : Out W := match y with
  | .int i => match x with
    | .str s => if s.length ≤ lim then match L2.atI s i with
      | some c => .ok (.str [c]) h
      | none => .bad else .bad
    | x => match sqA x h with
      | some xs => match L2.atI xs i with
        | some w => .ok w h
        | none => .bad
      | none => .bad
  | _ => .bad
def cutW {α : Type} (xs : List α) (lo hi : Option Int) : List α := (xs.drop (HT.sIx xs.length 0 lo)).take (HT.sIx xs.length xs.length hi - HT.sIx xs.length 0 lo)
def oSl (x : W) (lo hi : Option Int) (h : List O) : Out W := match x with
  | .str s => if s.length ≤ lim then .ok (.str (cutW s lo hi)) h else .bad
  | .tup xs => .ok (.tup (cutW xs lo hi)) h
  | x => match sqL x h with
    | some xs => .ok (.ref h.length) (h ++ [.lst (cutW xs lo hi)])
    | none => .bad
def mPart (m : M W) : M (Option Int) := fun e h => (m e h).bnd fun w h => match w with
  | .int i => .ok (some i) h
  | _ => .bad
def mNoPart : M (Option Int) := fun _ h => .ok none h
def mSl (m : M W) (lo hi : M (Option Int)) : M W := fun e h => (m e h).bnd fun x h => (lo e h).bnd fun l h => (hi e h).bnd fun u h => oSl x l u h
abbrev ORel : Hp → List Addr → Option Int → Option Int → Prop := fun _ _ a b => a = b
def SO (G : Gx) (X : Cx) (o : Option Expr) (m : M (Option Int)) : Prop := ∀ Wx, Takes X Wx → PO X o (rd X.K G Wx ORel m)
theorem _root_.L2.PO.imp {X : Cx} {e : Option Expr} {t t' : TO} (p : PO X e t) (i : ∀ σ H Q, t' σ H Q → t σ H Q) : PO X e t' := ⟨fun pins s σ H Q I q => p.run pins s σ H Q I (i σ H Q q)⟩
section
variable {G : Gx} {X : Cx} {a b c e : Expr} {ma mb mc m : M W} {pos p2 : Pos}
theorem ix_serves : Serves2 X.K G oIx (rIx X.K) := fun E H ρ h x y wx wy Q hr rx ry p => by
  unfold oIx at p
  split at p
  · rename_i i
    split at p
    · rename_i s
      split at p
      · rename_i hl
        split at p
        · rename_i cc hc
          exact .inr (.inr ⟨_, i, cc, rx.str, ry.int, len_le hl, by simpa using hc, p.here hr (vr_str' (l := [cc]) rfl)⟩)
        · exact False.elim p
      · exact False.elim p
    · split at p
      · rename_i xs hx
        split at p
        · rename_i w hw
          obtain ⟨a, vs, rfl, q, z⟩ := sqA_ok hr rx hx
          obtain ⟨v, hv, rv⟩ := z.atI hw
          rcases q with q | q
          · exact .inl ⟨a, vs, i, v, rfl, ry.int, q, hv, p.here hr rv⟩
          · exact .inr (.inl ⟨a, vs, i, v, rfl, ry.int, q, hv, p.here hr rv⟩)
        · exact False.elim p
      · exact False.elim p
  · exact False.elim p
theorem se_ix (ha : SE G X a ma) (hb : SE G X b mb) (hs : PlainIx b := by exact fun _ _ => rfl) : SE G X (.Subscript a b pos) (mOp oIx ma mb) := fun Wx tk =>
  (pe_ix ix_seq (ha Wx tk) (hb Wx tk) hs).imp fun σ H Q p => rd_op ix_serves p
theorem so_none : SO G X none mNoPart := fun Wx tk => po_none.imp fun σ H Q p => by
  obtain ⟨ρ, e, h, hr, sr, p⟩ := p
  exact p.here hr rfl
theorem so_some (ha : SE G X a ma) : SO G X (some a) (mPart ma) := fun Wx tk => (po_some (ha Wx tk)).imp fun σ H Q p => rd.bnd (Rel := VRel X.K) p fun H0 ρ0 e sr x H1 ρ1 h1 wx x1 r1 vx p1 => by
  split at p1
  · rename_i i
    exact ⟨i, vx.int, p1.here r1 rfl⟩
  · exact False.elim p1
theorem cutV_cut (vs : List V) (lo hi : Option Int) : cutV vs lo hi = cutW vs lo hi := rfl
theorem VRs.cut {K : PySem.W.Frag} {H : Hp} {ρ : List Addr} {vs : List V} {ws : List W} (r : VRs K H ρ vs ws) (lo hi : Option Int) : VRs K H ρ (cutV vs lo hi) (cutW ws lo hi) := by
  unfold cutV cutW
  rw [r.length]
  exact (r.drop _).take _
theorem cutS_cut (s : List Nat) (lo hi : Option Int) : cutS ⟨s.toArray⟩ lo hi = ⟨(cutW s lo hi).toArray⟩ := by
  unfold cutS cutW
  rw [Str_length]
def rSlAll (K : PySem.W.Frag) : V → Option Int → Option Int → Hp → VK → Prop := fun x lo hi H Q => rSlS x lo hi H Q ∨ (rSlA K x lo hi H Q ∨ rSlL K x lo hi H Q)
theorem sl_all : SlR X (rSlAll X.K) := SlR.or sl_str (SlR.or sl_tupA sl_list)
theorem sl_serves (E : XK) {H : Hp} {ρ : List Addr} {h : List O} {x : V} {wx : W} {lo hi : Option Int} {Q : VK} (hr : HR X.K G H ρ h) (rx : VR X.K H ρ x wx) (p : Post X.K G E (VRel X.K) Q H ρ (oSl wx lo hi h)) : rSlAll X.K x lo hi H Q := by
  unfold oSl at p
  split at p
  · rename_i s
    split at p
    · rename_i hl
      exact .inl ⟨_, rx.str, len_le hl, p.here hr (vr_str' (cutS_cut s lo hi))⟩
    · exact False.elim p
  · rename_i xs
    unfold VR at rx
    obtain ⟨a, vs, rfl, q, z⟩ := rx
    refine .inr (.inl ⟨a, vs, rfl, q, fun e => p.here hr (vr_tup q ?_), fun _ => new_tup hr (z.cut lo hi) p⟩)
    have e2 : cutV vs lo hi = vs := by
      unfold cutV
      rw [e.1, e.2]
      simp
    have := z.cut lo hi
    rw [e2] at this
    exact this
  · split at p
    · rename_i xs hx
      obtain ⟨a, vs, rfl, q, z⟩ := sqL_ok hr rx hx
      exact .inr (.inr ⟨a, vs, rfl, q, new_lst hr (z.cut lo hi) p⟩)
    · exact False.elim p
theorem se_sl {lo hi : Option Expr} {ml mh : M (Option Int)} (ha : SE G X a ma) (hl : SO G X lo ml) (hh : SO G X hi mh) : SE G X (.Subscript a (.Slice lo hi none p2) pos) (mSl ma ml mh) := fun Wx tk =>
  (pe_slice sl_all (ha Wx tk) (hl Wx tk) (hh Wx tk)).imp fun σ H Q p => rd.bnd (Rel := VRel X.K) p fun H0 ρ0 e sr x H1 ρ1 h1 wx x1 r1 vx p1 => by
    refine ⟨ρ1, e, h1, r1, sr.mono x1, (Post.bnd (Rel := ORel) p1).imp fun l H2 q => ?_⟩
    obtain ⟨ρ2, h2, wl, x2, r2, el, p2⟩ := q
    cases el
    refine ⟨ρ2, e, h2, r2, (sr.mono x1).mono x2, (Post.bnd (Rel := ORel) p2).imp fun u H3 q => ?_⟩
    obtain ⟨ρ3, h3, wu, x3, r3, eu, p3⟩ := q
    cases eu
    exact sl_serves _ r3 ((vx.mono x2).mono x3) p3

/-! ### calls of what is built in -/
def mCB (op : List W → List O → Out W) (m : M (List W)) : M W := fun e h => (m e h).bnd fun ws h => op ws h
def ServesC (K : PySem.W.Frag) (G : Gx) (op : List W → List O → Out W) (r : List V → Hp → VK → Prop) : Prop := ∀ (E : XK) (H : Hp) (ρ : List Addr) (h : List O) (vs : List V) (ws : List W) (Q : VK),
  HR K G H ρ h → VRs K H ρ vs ws → Post K G E (VRel K) Q H ρ (op ws h) → r vs H Q
def CaS (G : Gx) (X : Cx) (f : Value) (op : List W → List O → Out W) : Prop := ∃ r, CallR X f r ∧ ServesC X.K G op r
theorem se_callB {id : String} {x : Str} {es : List Expr} {op : List W → List O → Out W} {mr : M (List W)} {p : Pos} (s : CaS G X (.builtin id) op) (hg : Gl X x) (hm : X.mg x = none) (hv : bootBuiltins x = some (.builtin id)) (ha : SA G X (e :: es) mr)
    (hn : x ≠ "__name__" := by decide) (hdb : (x == ("__debug__" : Str)) = false := by decide)
    (he : starEach (e :: es) X.env = (false, eval e X.env) :: starEach es X.env := by rfl) (hpl : (backTo pos (starEach es X.env)).any (·.1) = false := by rfl) : SE G X (.Call (.Name x p) (e :: es) [] pos) (mCB op mr) := fun Wx tk => by
  obtain ⟨r, hc, s⟩ := s
  exact (pe_callB hc hg hm hv (ha Wx tk) hn hdb he hpl).imp fun σ H Q p => rd.bnd (Rel := VsRel X.K) p fun H0 ρ0 e sr x H1 ρ1 h1 wx x1 r1 vx p1 => s _ _ _ _ _ _ _ r1 vx p1
theorem se_callTy {T : String} {x : Str} {es : List Expr} {op : List W → List O → Out W} {mr : M (List W)} {p : Pos} (s : CaS G X (.type T) op) (hg : Gl X x) (hm : X.mg x = none) (hv : bootBuiltins x = some (.type T)) (ha : SA G X (e :: es) mr)
    (hn : x ≠ "__name__" := by decide) (hdb : (x == ("__debug__" : Str)) = false := by decide)
    (he : starEach (e :: es) X.env = (false, eval e X.env) :: starEach es X.env := by rfl) (hpl : (backTo pos (starEach es X.env)).any (·.1) = false := by rfl) : SE G X (.Call (.Name x p) (e :: es) [] pos) (mCB op mr) := fun Wx tk => by
  obtain ⟨r, hc, s⟩ := s
  exact (pe_callTy hc hg hm hv (ha Wx tk) hn hdb he hpl).imp fun σ H Q p => rd.bnd (Rel := VsRel X.K) p fun H0 ρ0 e sr x H1 ρ1 h1 wx x1 r1 vx p1 => s _ _ _ _ _ _ _ r1 vx p1
theorem VRs.inv1 {K : PySem.W.Frag} {H : Hp} {ρ : List Addr} {vs : List V} {w : W} (r : VRs K H ρ vs [w]) : ∃ v, vs = [v] ∧ VR K H ρ v w := by
  unfold VRs at r
  obtain ⟨v, l, rfl, q, z⟩ := r
  unfold VRs at z
  exact ⟨v, by rw [z], q⟩
theorem VRs.inv2 {K : PySem.W.Frag} {H : Hp} {ρ : List Addr} {vs : List V} {w w' : W} (r : VRs K H ρ vs [w, w']) : ∃ v v', vs = [v, v'] ∧ VR K H ρ v w ∧ VR K H ρ v' w' := by
  unfold VRs at r
  obtain ⟨v, l, rfl, q, z⟩ := r
  obtain ⟨v', rfl, q'⟩ := VRs.inv1 z
  exact ⟨v, v', rfl, q, q'⟩
theorem VRs.inv0 {K : PySem.W.Frag} {H : Hp} {ρ : List Addr} {vs : List V} (r : VRs K H ρ vs []) : vs = [] := by unfold VRs at r; exact r
def oLen (ws : List W) (h : List O) : Out W := match ws with
  | [.str s] => if s.length ≤ lim then .ok (.int s.length) h else .bad
  | [.ref n] => match h[n]? with
    | some (.lst xs) => .ok (.int xs.length) h
    | some (.dic xs) => .ok (.int xs.length) h
    | _ => .bad
  | [.tup xs] => .ok (.int xs.length) h
  | [.rol xs] => .ok (.int xs.length) h
  | _ => .bad
theorem cas_len : CaS G X (.builtin "len") oLen := ⟨_, CallR.or call_len_str (CallR.or call_len_seq call_lenD), fun E H ρ h vs ws Q hr r p => by
  unfold oLen at p
  split at p
  · rename_i s
    split at p
    · rename_i hl
      obtain ⟨v, rfl, q⟩ := r.inv1
      exact .inl ⟨_, by rw [q.str], len_le hl, by rw [Str_length]; exact p.here hr vr_int⟩
    · exact False.elim p
  · rename_i n
    obtain ⟨v, rfl, q⟩ := r.inv1
    obtain ⟨a, rfl, ea⟩ := q.ref
    split at p
    · rename_i xs hx
      obtain ⟨vs, e, z⟩ := hr.look ea hx
      exact .inr (.inl ⟨a, vs, rfl, .inl (.inl (.inl e)), by rw [z.length]; exact p.here hr vr_int⟩)
    · rename_i xs hx
      obtain ⟨vs, e, z⟩ := hr.look ea hx
      exact .inr (.inr ⟨a, vs, rfl, e, by rw [KRs.length z]; exact p.here hr vr_int⟩)
    · exact False.elim p
  · rename_i xs
    obtain ⟨v, rfl, q⟩ := r.inv1
    obtain ⟨a, vs, rfl, q, z⟩ := sqA_ok (xs := xs) hr q rfl
    exact .inr (.inl ⟨a, vs, rfl, q, by rw [z.length]; exact p.here hr vr_int⟩)
  · rename_i xs
    obtain ⟨v, rfl, q⟩ := r.inv1
    obtain ⟨a, vs, rfl, q, z⟩ := sqA_ok (xs := xs) hr q rfl
    exact .inr (.inl ⟨a, vs, rfl, q, by rw [z.length]; exact p.here hr vr_int⟩)
  · exact False.elim p⟩
def oAbs (ws : List W) (h : List O) : Out W := match ws with
  | [.int i] => .ok (.int (if i < 0 then -i else i)) h
  | _ => .bad
theorem cas_abs : CaS G X (.builtin "abs") oAbs := ⟨_, call_abs, fun E H ρ h vs ws Q hr r p => by
  unfold oAbs at p
  split at p
  · obtain ⟨v, rfl, q⟩ := r.inv1
    exact ⟨_, by rw [q.int], p.here hr vr_int⟩
  · exact False.elim p⟩
def oInt (ws : List W) (h : List O) : Out W := match ws with
  | [.int i] => .ok (.int i) h
  | [.bl b] => .ok (.int (if b then 1 else 0)) h
  | _ => .bad
theorem cas_int : CaS G X (.type "int") oInt := ⟨_, call_int1, fun E H ρ h vs ws Q hr r p => by
  unfold oInt at p
  split at p
  · obtain ⟨v, rfl, q⟩ := r.inv1
    exact .inl ⟨_, by rw [q.int], p.here hr vr_int⟩
  · obtain ⟨v, rfl, q⟩ := r.inv1
    exact .inr ⟨_, by rw [q.bl], p.here hr vr_int⟩
  · exact False.elim p⟩
/-- ints of a row -/
def intsOf : List W → Option (List Int)
  | [] => some []
  | .int i :: r => (intsOf r).map fun l => i :: l
  | _ :: _ => none
theorem intsOf_ok {K : PySem.W.Frag} {H : Hp} {ρ : List Addr} : ∀ {ws : List W} {vs : List V} {l : List Int}, VRs K H ρ vs ws → intsOf ws = some l → vs = l.map V.int
  | [], vs, l, r, e => by cases e; exact r.inv0
  | .int i :: r, vs, l, q, e => by
    unfold intsOf at e
    unfold VRs at q
    obtain ⟨v, t, rfl, q1, z⟩ := q
    cases hi : intsOf r with
    | none => rw [hi] at e; cases e
    | some l' =>
      rw [hi] at e
      cases e
      rw [q1.int, intsOf_ok z hi, List.map_cons]
  | .non :: r, vs, l, q, e => by cases e
  | .bl _ :: r, vs, l, q, e => by cases e
  | .str _ :: r, vs, l, q, e => by cases e
  | .tup _ :: r, vs, l, q, e => by cases e
  | .rol _ :: r, vs, l, q, e => by cases e
  | .ref _ :: r, vs, l, q, e => by cases e
def maxI : List Int → Int
  | [] => 0
  | [x] => x
  | x :: y :: r => let m := maxI (y :: r); if m > x then m else x
def minI : List Int → Int
  | [] => 0
  | [x] => x
  | x :: y :: r => let m := minI (y :: r); if m < x then m else x
theorem maxI_ok : ∀ {l : List Int} {m : Int}, m ∈ l → (∀ y, y ∈ l → y ≤ m) → m = maxI l
  | [], m, h, _ => by cases h
  | [x], m, h, _ => by simpa [maxI] using h
  | x :: y :: r, m, h, hm => by
    have ih : ∀ {m : Int}, m ∈ y :: r → (∀ z, z ∈ y :: r → z ≤ m) → m = maxI (y :: r) := fun a b => maxI_ok a b
    have hin : ∀ (l : List Int), l ≠ [] → maxI l ∈ l ∧ ∀ z ∈ l, z ≤ maxI l := by
      intro l
      induction l with
      | nil => intro h; exact absurd rfl h
      | cons a t ih =>
        intro _
        cases t with
        | nil => exact ⟨by simp [maxI], by simp [maxI]⟩
        | cons b t =>
          obtain ⟨i1, i2⟩ := ih (by simp)
          unfold maxI
          dsimp only
          split
          · exact ⟨List.mem_cons_of_mem _ i1, fun z hz => by
              rcases List.mem_cons.mp hz with e | e
              · omega
              · exact i2 z e⟩
          · exact ⟨List.mem_cons_self, fun z hz => by
              rcases List.mem_cons.mp hz with e | e
              · omega
              · have := i2 z e; omega⟩
    obtain ⟨i1, i2⟩ := hin (x :: y :: r) (by simp)
    have h1 := hm _ i1
    have h2 := i2 _ h
    omega
theorem minI_ok : ∀ {l : List Int} {m : Int}, m ∈ l → (∀ y, y ∈ l → m ≤ y) → m = minI l := by
  intro l m h hm
  have hin : ∀ (l : List Int), l ≠ [] → minI l ∈ l ∧ ∀ z ∈ l, minI l ≤ z := by
    intro l
    induction l with
    | nil => intro h; exact absurd rfl h
    | cons a t ih =>
      intro _
      cases t with
      | nil => exact ⟨by simp [minI], by simp [minI]⟩
      | cons b t =>
        obtain ⟨i1, i2⟩ := ih (by simp)
        unfold minI
        dsimp only
        split
        · exact ⟨List.mem_cons_of_mem _ i1, fun z hz => by
            rcases List.mem_cons.mp hz with e | e
            · omega
            · exact i2 z e⟩
        · exact ⟨List.mem_cons_self, fun z hz => by
            rcases List.mem_cons.mp hz with e | e
            · omega
            · have := i2 z e; omega⟩
  obtain ⟨i1, i2⟩ := hin l (List.ne_nil_of_mem h)
  have h1 := hm _ i1
  have h2 := i2 _ h
  omega
def oMax (ws : List W) (h : List O) : Out W := match ws with
  | [.int i, .int j] => .ok (.int (if j > i then j else i)) h
  | [x] => match sqL x h with
    | some xs => match intsOf xs with
      | some l => if 0 < l.length then .ok (.int (maxI l)) h else .bad
      | none => .bad
    | none => .bad
  | _ => .bad
theorem cas_max (hc : X.calm = true) : CaS G X (.builtin "max") oMax := ⟨_, CallR.or (call_max2 hc) (cr_max hc), fun E H ρ h vs ws Q hr r p => by
  unfold oMax at p
  split at p
  · obtain ⟨v, v', rfl, q, q'⟩ := r.inv2
    exact .inl ⟨_, _, by rw [q.int, q'.int], p.here hr vr_int⟩
  · obtain ⟨v, rfl, q⟩ := r.inv1
    split at p
    · rename_i xs hx
      obtain ⟨a, vs, rfl, q, z⟩ := sqL_ok hr q hx
      split at p
      · rename_i l hl
        split at p
        · rename_i h0
          refine .inr ⟨a, l, rfl, by rw [← intsOf_ok z hl]; exact q, h0, fun m h1 h2 => ?_⟩
          rw [maxI_ok h1 h2]
          exact p.here hr vr_int
        · exact False.elim p
      · exact False.elim p
    · exact False.elim p
  · exact False.elim p⟩
/-- the texts of a row -/
def strsOf : List W → Option (List (List Nat))
  | [] => some []
  | .str s :: r => (strsOf r).map fun l => s :: l
  | _ :: _ => none
abbrev mkS (l : List Nat) : Str := ⟨l.toArray⟩
theorem strsOf_ok {K : PySem.W.Frag} {H : Hp} {ρ : List Addr} : ∀ {ws : List W} {vs : List V} {l : List (List Nat)}, VRs K H ρ vs ws → strsOf ws = some l → vs = (l.map mkS).map V.str
  | [], vs, l, r, e => by cases e; exact r.inv0
  | .str i :: r, vs, l, q, e => by
    unfold strsOf at e
    unfold VRs at q
    obtain ⟨v, t, rfl, q1, z⟩ := q
    cases hi : strsOf r with
    | none => rw [hi] at e; cases e
    | some l' =>
      rw [hi] at e
      cases e
      rw [q1.str, strsOf_ok z hi, List.map_cons, List.map_cons]
  | .non :: r, vs, l, q, e => by cases e
  | .bl _ :: r, vs, l, q, e => by cases e
  | .int _ :: r, vs, l, q, e => by cases e
  | .tup _ :: r, vs, l, q, e => by cases e
  | .rol _ :: r, vs, l, q, e => by cases e
  | .ref _ :: r, vs, l, q, e => by cases e
def oTuple (ws : List W) (h : List O) : Out W := match ws with
  | [.tup xs] => .ok (.tup xs) h
  | [x] => match sqL x h with
    | some xs => .ok (.tup xs) h
    | none => .bad
  | _ => .bad
theorem cas_tuple : CaS G X (.type "tuple") oTuple := ⟨_, call_tuple_of, fun E H ρ h vs ws Q hr r p => by
  unfold oTuple at p
  split at p
  · obtain ⟨v, rfl, q⟩ := r.inv1
    unfold VR at q
    obtain ⟨a, vs, rfl, q, z⟩ := q
    exact ⟨a, vs, rfl, .inr ⟨q, p.here hr (vr_tup q z)⟩⟩
  · obtain ⟨v, rfl, q⟩ := r.inv1
    split at p
    · rename_i xs hx
      obtain ⟨a, vs, rfl, q, z⟩ := sqL_ok hr q hx
      exact ⟨a, vs, rfl, .inl ⟨q, new_tup hr z p⟩⟩
    · exact False.elim p
  · exact False.elim p⟩
def oList (ws : List W) (h : List O) : Out W := match ws with
  | [x] => match sqA x h with
    | some xs => .ok (.ref h.length) (h ++ [.lst xs])
    | none => .bad
  | _ => .bad
theorem cas_list : CaS G X (.type "list") oList := ⟨_, call_list_of, fun E H ρ h vs ws Q hr r p => by
  unfold oList at p
  split at p
  · obtain ⟨v, rfl, q⟩ := r.inv1
    split at p
    · rename_i xs hx
      obtain ⟨a, vs, rfl, q, z⟩ := sqA_ok hr q hx
      exact ⟨a, vs, rfl, q, new_lst hr z p⟩
    · exact False.elim p
  · exact False.elim p⟩

/-! ### methods of what is built in -/
def tyW (T : String) (w : W) (h : List O) : Bool := match w with
  | .str _ => T == "str"
  | .rol _ => T == "list"
  | .ref n => match h[n]? with
    | some (.lst _) => T == "list"
    | some (.dic _) => T == "dict"
    | _ => false
  | _ => false
theorem tyW_ok {K : PySem.W.Frag} {H : Hp} {ρ : List Addr} {h : List O} {T : String} {v : V} {w : W} (hr : HR K G H ρ h) (r : VR K H ρ v w) (e : tyW T w h = true) : tyV K T v H := by
  cases w with
  | str s => rw [r.str]; exact eq_of_beq e
  | rol xs =>
    obtain ⟨a, vs, rfl, q, z⟩ := sqL_ok (xs := xs) hr r rfl
    exact .inl ⟨eq_of_beq e, vs, q⟩
  | ref n =>
    obtain ⟨a, rfl, ea⟩ := r.ref
    unfold tyW at e
    dsimp only at e
    split at e
    · rename_i xs hx
      obtain ⟨vs, q, z⟩ := hr.look ea hx
      exact .inl ⟨eq_of_beq e, vs, .inl (.inl q)⟩
    · rename_i xs hx
      obtain ⟨vs, q, z⟩ := hr.look ea hx
      exact .inr (.inr (.inl ⟨eq_of_beq e, .inl ⟨vs, q⟩⟩))
    · cases e
  | _ => cases e
def mMeth (T : String) (op : W → List W → List O → Out W) (o : M W) (m : M (List W)) : M W := fun e h => (o e h).bnd fun x h => if tyW T x h = true then (m e h).bnd fun ws h => op x ws h else .bad
def ServesM (K : PySem.W.Frag) (G : Gx) (op : W → List W → List O → Out W) (r : V → List V → Hp → VK → Prop) : Prop := ∀ (E : XK) (H : Hp) (ρ : List Addr) (h : List O) (x : V) (wx : W) (vs : List V) (ws : List W) (Q : VK),
  HR K G H ρ h → VR K H ρ x wx → VRs K H ρ vs ws → Post K G E (VRel K) Q H ρ (op wx ws h) → r x vs H Q
def MeS (G : Gx) (X : Cx) (id : String) (op : W → List W → List O → Out W) : Prop := ∃ r, MtR X id r ∧ ServesM X.K G op r
theorem se_meth {T : String} {id : String} {name : Str} {o e : Expr} {es : List Expr} {op : W → List W → List O → Out W} {mo : M W} {mr : M (List W)} {apos cpos : Pos} (pa : PlainAttrs T) (slot : Slot T name id) (hty : typeOf (.builtin id) = pure (.type "method_descriptor")) (s : MeS G X id op)
    (ho : SE G X o mo) (ha : SA G X (e :: es) mr) (hbase : attributeBase o name X.env (eval o X.env) = eval o X.env := by rfl)
    (hfew : ((backTo cpos (starEach (e :: es) X.env)).all (fun x => !x.1) && (backToKw cpos (keywordEach [] X.env)).all (fun x => x.1.isSome)
      && decide ((e :: es).length + ([] : List Keyword).length + (if ([] : List Keyword).isEmpty then 0 else 1) < 30)) = true := by rfl)
    (hline : (apos.endLine == cpos.line) = true := by rfl) (hs : starEach (e :: es) X.env = (false, eval e X.env) :: starEach es X.env := by rfl) (hplain : (backTo cpos (starEach es X.env)).any (·.1) = false := by rfl) :
    SE G X (.Call (.Attribute o name apos) (e :: es) [] cpos) (mMeth T op mo mr) := fun Wx tk => by
  obtain ⟨r, hm, s⟩ := s
  refine (pe_bm pa slot hty hm (ho Wx tk) (ha Wx tk) hbase hfew hline hs hplain).imp fun σ H Q p => rd.bnd (Rel := VRel X.K) p fun H0 ρ0 e sr x H1 ρ1 h1 wx x1 r1 vx p1 => ?_
  split at p1
  · rename_i hty
    refine ⟨tyW_ok r1 vx hty, ρ1, e, h1, r1, sr.mono x1, (Post.bnd (Rel := VsRel X.K) p1).imp fun ys H2 q => ?_⟩
    obtain ⟨ρ2, h2, wys, x2, r2, vys, p2⟩ := q
    exact s _ _ _ _ _ _ _ _ _ r2 (vx.mono x2) vys p2
  · exact False.elim p1
theorem se_meth0 {T : String} {id : String} {name : Str} {o : Expr} {op : W → List W → List O → Out W} {mo : M W} {apos cpos : Pos} (pa : PlainAttrs T) (slot : Slot T name id) (hty : typeOf (.builtin id) = pure (.type "method_descriptor")) (s : MeS G X id op)
    (ho : SE G X o mo) (hbase : attributeBase o name X.env (eval o X.env) = eval o X.env := by rfl) (hline : (apos.endLine == cpos.line) = true := by rfl) :
    SE G X (.Call (.Attribute o name apos) [] [] cpos) (mMeth T op mo mNil) := fun Wx tk => by
  obtain ⟨r, hm, s⟩ := s
  refine (pe_bm0 pa slot hty hm (ho Wx tk) hbase hline).imp fun σ H Q p => rd.bnd (Rel := VRel X.K) p fun H0 ρ0 e sr x H1 ρ1 h1 wx x1 r1 vx p1 => ?_
  split at p1
  · rename_i hty
    exact ⟨tyW_ok r1 vx hty, s _ _ _ _ _ _ _ _ _ r1 vx .nil p1⟩
  · exact False.elim p1
section
variable {K : PySem.W.Frag} {H : Hp} {ρ : List Addr} {h : List O} {E : XK} {vs : List V} {ws : List W} {Q : VK} {n : Nat} {a : Addr}
/-- a list is changed -/
theorem put_lst {w : W} {v : V} (hr : HR K G H ρ h) (ea : ρ[n]? = some a) (r : VRs K H ρ vs ws) (rv : ∀ H', VR K H' ρ v w) (p : Post K G E (VRel K) Q H ρ (.ok w (h.set n (.lst ws)))) : Q v (upd H a (.lst vs)) := by
  obtain ⟨r1, x1⟩ := hr.write (o := .lst vs) (u := .lst ws) ea rfl fun x => ⟨vs, upd_same, r.mono x⟩
  exact p _ _ _ x1 r1 (rv _)
end
def oAppend (x : W) (ws : List W) (h : List O) : Out W := match x, ws with
  | .ref n, [y] => match lstAt h n with
    | some xs => if xs.length < lim then .ok .non (h.set n (.lst (xs ++ [y]))) else .bad
    | none => .bad
  | _, _ => .bad
theorem mes_append : MeS G X "list.append" oAppend := ⟨_, mt_append, fun E H ρ h x wx vs ws Q hr rx r p => by
  unfold oAppend at p
  split at p
  · split at p
    · rename_i xs hx
      split at p
      · rename_i hl
        obtain ⟨a, rfl, ea⟩ := rx.ref
        obtain ⟨y, rfl, ry⟩ := r.inv1
        obtain ⟨vs, q, z⟩ := hr.look ea (lstAt_some hx)
        exact ⟨a, vs, y, rfl, rfl, q, by rw [z.length]; exact Nat.lt_of_lt_of_le hl (lim_size (Nat.le_refl _)), put_lst hr ea (z.append (.one ry)) (fun _ => vr_non) p⟩
      · exact False.elim p
    · exact False.elim p
  · exact False.elim p⟩
def joinW (s : List Nat) : List (List Nat) → List Nat
  | [] => []
  | [x] => x
  | x :: y :: r => x ++ (s ++ joinW s (y :: r))
theorem join_ok' (s : List Nat) (l : List (List Nat)) : PySem.Str.join (mkS s) (l.map mkS) = mkS (joinW s l) := by
  induction l with
  | nil => rfl
  | cons x r ih =>
    cases r with
    | nil => rfl
    | cons y r =>
      show mkS x ++ mkS s ++ PySem.Str.join (mkS s) ((y :: r).map mkS) = _
      rw [ih]
      show (⟨x.toArray⟩ ++ ⟨s.toArray⟩ ++ ⟨(joinW s (y :: r)).toArray⟩ : Str) = ⟨(x ++ (s ++ joinW s (y :: r))).toArray⟩
      rw [Str_app, Str_app, List.append_assoc]
theorem join_ok (s : List Nat) (l : List (List Nat)) : Txt.join (mkS s) (l.map mkS) = mkS (joinW s l) := by
  unfold Txt.join
  rw [StrLaws.glued_eq_join]
  exact join_ok' s l
def oJoin (x : W) (ws : List W) (h : List O) : Out W := match x, ws with
  | .str s, [y] => match sqA y h with
    | some xs => match strsOf xs with
      | some l => if (l.map List.length).sum + l.length * s.length ≤ lim then .ok (.str (joinW s l)) h else .bad
      | none => .bad
    | none => .bad
  | _, _ => .bad
theorem mes_join : MeS G X "str.join" oJoin := ⟨_, mt_join, fun E H ρ h x wx vs ws Q hr rx r p => by
  unfold oJoin at p
  split at p
  · rename_i s y
    split at p
    · rename_i xs hx
      split at p
      · rename_i l hl
        split at p
        · rename_i hz
          obtain ⟨y, rfl, ry⟩ := r.inv1
          obtain ⟨a, vs, rfl, q, z⟩ := sqA_ok hr ry hx
          rw [strsOf_ok z hl] at q
          refine ⟨_, a, l.map mkS, rx.str, rfl, q, ?_, p.here hr (vr_str' (join_ok s l))⟩
          have e1 : ((l.map mkS).map fun x => x.length) = l.map List.length := by
            rw [List.map_map]
            exact List.map_congr_left fun x _ => Str_length x
          rw [e1, List.length_map, Str_length]
          exact Nat.le_trans hz (by decide)
        · exact False.elim p
      · exact False.elim p
    · exact False.elim p
  · exact False.elim p⟩
end
end Den
set_option maxRecDepth 100000
/-! Statements, loops, comprehensions, calls of defs. -/
namespace Den
open PySem L2 PyProof.Rows
inductive SOut where
  | nx (e : Env) (h : List O)
  | rt (w : W) (h : List O)
  | bk (e : Env) (h : List O)
  | ct (e : Env) (h : List O)
  | exc (c : Nat) (p : Option W) (e : Env) (h : List O)
  | bad
abbrev Sm := Env → List O → SOut
def Out.stm {α : Type} (o : Out α) (e : Env) (f : α → List O → SOut) : SOut := match o with
  | .ok a h => f a h
  | .exc c p h => .exc c p e h
  | .bad => .bad
@[simp] theorem Out.stm_ok {α : Type} (a : α) (h : List O) (e : Env) (f : α → List O → SOut) : (Out.ok a h).stm e f = f a h := rfl
@[simp] theorem Out.stm_exc {α : Type} (c : Nat) (p : Option W) (h : List O) (e : Env) (f : α → List O → SOut) : (Out.exc c p h : Out α).stm e f = .exc c p e h := rfl
@[simp] theorem Out.stm_bad {α : Type} (e : Env) (f : α → List O → SOut) : (Out.bad : Out α).stm e f = .bad := rfl
def PostS (K : PySem.W.Frag) (G : Gx) (Wx : WX) (D : Ends) (H : Hp) (ρ : List Addr) : SOut → Prop
  | .nx e h => ∀ ρ' H' σ', Ext H ρ H' ρ' → HR K G H' ρ' h → SR K H' ρ' σ' e → D.nx σ' H'
  | .bk e h => ∀ ρ' H' σ', Ext H ρ H' ρ' → HR K G H' ρ' h → SR K H' ρ' σ' e → D.bk σ' H'
  | .ct e h => ∀ ρ' H' σ', Ext H ρ H' ρ' → HR K G H' ρ' h → SR K H' ρ' σ' e → D.ct σ' H'
  | .rt w h => ∀ ρ' H' v, Ext H ρ H' ρ' → HR K G H' ρ' h → VR K H' ρ' v w → D.rt v H'
  | .exc c p e h => ∀ ρ' H' σ' cls d, Ext H ρ H' ρ' → HR K G H' ρ' h → SR K H' ρ' σ' e → ER K G H' ρ' cls d c p → Wx cls d σ' H'
  | .bad => False
def rdS (K : PySem.W.Frag) (G : Gx) (Wx : WX) (m : Sm) : TS := fun D σ H => ∃ ρ e h, HR K G H ρ h ∧ SR K H ρ σ e ∧ PostS K G Wx D H ρ (m e h)
def SS (G : Gx) (X : Cx) (s : Stmt) (m : Sm) : Prop := ∀ Wx, Takes X Wx → PS X s (rdS X.K G Wx m)
def SSs (G : Gx) (X : Cx) (s : List Stmt) (m : Sm) : Prop := ∀ Wx, Takes X Wx → PSs X s (rdS X.K G Wx m)
section
variable {K : PySem.W.Frag} {G : Gx} {Wx : WX} {D : Ends} {H H1 : Hp} {ρ ρ1 : List Addr} {h : List O} {σ : L2.St} {e : Env}
theorem PostS.ext {o : SOut} (x : Ext H ρ H1 ρ1) (p : PostS K G Wx D H ρ o) : PostS K G Wx D H1 ρ1 o := by
  cases o with
  | nx e h => exact fun ρ' H' v x' r q => p ρ' H' v (x.trans x') r q
  | rt e h => exact fun ρ' H' v x' r q => p ρ' H' v (x.trans x') r q
  | bk e h => exact fun ρ' H' v x' r q => p ρ' H' v (x.trans x') r q
  | ct e h => exact fun ρ' H' v x' r q => p ρ' H' v (x.trans x') r q
  | exc c q e h' => exact fun ρ' H' σ' cls d x' r s q => p ρ' H' σ' cls d (x.trans x') r s q
  | bad => exact p
theorem PostS.stm {α β : Type} {Rel : Hp → List Addr → β → α → Prop} {o : Out α} {f : α → List O → SOut} (sr : SR K H ρ σ e) (p : PostS K G Wx D H ρ (o.stm e f)) :
    Post K G (fun cls d H' => Wx cls d σ H') Rel (fun v H1 => ∃ ρ1 h1 w, Ext H ρ H1 ρ1 ∧ HR K G H1 ρ1 h1 ∧ Rel H1 ρ1 v w ∧ PostS K G Wx D H1 ρ1 (f w h1)) H ρ o := by
  cases o with
  | ok w h' => exact fun ρ' H' v x r q => ⟨ρ', h', w, x, r, q, PostS.ext x p⟩
  | exc c q h' => exact fun ρ' H' cls d x r q => p ρ' H' σ cls d x r (sr.mono x) q
  | bad => exact p
/-- go on behind an expression -/
theorem rdS.stm {α β : Type} {Rel : Hp → List Addr → β → α → Prop} {m : M α} {f : Env → α → List O → SOut} {Q' : β → Hp → Prop} (p : rdS K G Wx (fun e h => (m e h).stm e (f e)) D σ H)
    (k : ∀ H0 ρ0 e, SR K H0 ρ0 σ e → ∀ v H1 ρ1 h1 w, Ext H0 ρ0 H1 ρ1 → HR K G H1 ρ1 h1 → Rel H1 ρ1 v w → PostS K G Wx D H1 ρ1 (f e w h1) → Q' v H1) : rd K G Wx Rel m σ H Q' := by
  obtain ⟨ρ, e, h, hr, sr, p⟩ := p
  refine ⟨ρ, e, h, hr, sr, (PostS.stm (Rel := Rel) sr p).imp fun v H1 q => ?_⟩
  obtain ⟨ρ1, h1, w, x, r1, q1, p1⟩ := q
  exact k H ρ e sr v H1 ρ1 h1 w x r1 q1 p1
end

/-! ### blocks -/
def mSkip : Sm := fun e h => .nx e h
def mSeq (a b : Sm) : Sm := fun e h => match a e h with
  | .nx e h => b e h
  | .rt w h => .rt w h
  | .bk e h => .bk e h
  | .ct e h => .ct e h
  | .exc c p e h => .exc c p e h
  | .bad => .bad
section
variable {G : Gx} {X : Cx} {s : Stmt} {sts : List Stmt} {a b c : Sm} {e : Expr} {m : M W} {pos : Pos}
theorem sss_nil : SSs G X [] mSkip := fun Wx tk => pss_nil.imp fun D σ H p => by
  obtain ⟨ρ, e, h, hr, sr, p⟩ := p
  exact p ρ H σ (Ext.refl hr) hr sr
theorem sss_one (h : SS G X s a) : SSs G X [s] a := fun Wx tk => pss_one (h Wx tk)
theorem sss_cons (h1 : SS G X s a) (h2 : SSs G X sts b) : SSs G X (s :: sts) (mSeq a b) := fun Wx tk => (pss_cons (h1 Wx tk) (h2 Wx tk)).imp fun D σ H p => by
  obtain ⟨ρ, e, h, hr, sr, p⟩ := p
  refine ⟨ρ, e, h, hr, sr, ?_⟩
  unfold mSeq at p
  cases hm : a e h with
  | nx e1 h1 => rw [hm] at p; exact fun ρ' H' σ' x r q => ⟨ρ', e1, h1, r, q, p.ext x⟩
  | rt w h1 => rw [hm] at p; exact p
  | bk e1 h1 => rw [hm] at p; exact p
  | ct e1 h1 => rw [hm] at p; exact p
  | exc c q e1 h1 => rw [hm] at p; exact p
  | bad => rw [hm] at p; exact p
theorem ss_pass : SS G X (.Pass pos) mSkip := fun Wx tk => ps_pass.imp fun D σ H p => by
  obtain ⟨ρ, e, h, hr, sr, p⟩ := p
  exact p ρ H σ (Ext.refl hr) hr sr
def mBrk : Sm := fun e h => .bk e h
def mCnt : Sm := fun e h => .ct e h
theorem ss_break : SS G X (.Break pos) mBrk := fun Wx tk => ps_break.imp fun D σ H p => by
  obtain ⟨ρ, e, h, hr, sr, p⟩ := p
  exact p ρ H σ (Ext.refl hr) hr sr
theorem ss_continue : SS G X (.Continue pos) mCnt := fun Wx tk => ps_continue.imp fun D σ H p => by
  obtain ⟨ρ, e, h, hr, sr, p⟩ := p
  exact p ρ H σ (Ext.refl hr) hr sr
def mDrop (m : M W) : Sm := fun e h => (m e h).stm e fun _ h => .nx e h
theorem ss_expr (he : SE G X e m) (hs : swapsWith e none pos.line X.env = pure false := by rfl) : SS G X (.Expr e pos) (mDrop m) := fun Wx tk => (ps_expr (he Wx tk) hs).imp fun D σ H p =>
  rdS.stm (Rel := VRel X.K) p fun H0 ρ0 e sr v H1 ρ1 h1 w x r q p1 => p1 ρ1 H1 σ (Ext.refl r) r (sr.mono x)
def mRet (m : M W) : Sm := fun e h => (m e h).stm e fun w h => .rt w h
theorem ss_ret (he : SE G X e m) : SS G X (.Return (some e) pos) (mRet m) := fun Wx tk => (ps_ret (he Wx tk)).imp fun D σ H p =>
  rdS.stm (Rel := VRel X.K) p fun H0 ρ0 e sr v H1 ρ1 h1 w x r q p1 => p1 ρ1 H1 v (Ext.refl r) r q
def mRetN : Sm := fun e h => .rt .non h
theorem ss_retN : SS G X (.Return none pos) mRetN := fun Wx tk => ps_retN.imp fun D σ H p => by
  obtain ⟨ρ, e, h, hr, sr, p⟩ := p
  exact p ρ H .non (Ext.refl hr) hr vr_non
def mIfS (t : M Bool) (a b : Sm) : Sm := fun e h => (t e h).stm e fun c h => if c = true then a e h else b e h
theorem ss_if {ce : Expr} {A B : List Stmt} {t : M Bool} (hc : ST G X ce t) (ha : SSs G X A a) (hb : SSs G X B b) : SS G X (.If ce A B pos) (mIfS t a b) := fun Wx tk =>
  (ps_if (hc Wx tk) (ha Wx tk) (hb Wx tk)).imp fun D σ H p => rdS.stm (Rel := BRel) p fun H0 ρ0 e sr v H1 ρ1 h1 w x r q p1 => by
    cases q
    cases v with
    | true => exact iteT ⟨ρ1, e, h1, r, sr.mono x, p1⟩
    | false => exact iteF ⟨ρ1, e, h1, r, sr.mono x, p1⟩
/-- name = value -/
def mSet (i : Nat) (m : M W) : Sm := fun e h => (m e h).stm e fun w h => .nx (e.set i (some w)) h
theorem asg_name {i : Nat} {Wx : WX} {D : Ends} {σ : L2.St} {H : Hp} (p : rdS X.K G Wx (mSet i m) D σ H) : tAsg (rd X.K G Wx (VRel X.K) m) (gName i) D σ H :=
  rdS.stm (Rel := VRel X.K) p fun H0 ρ0 e sr v H1 ρ1 h1 w x r q p1 => p1 ρ1 H1 _ (Ext.refl r) r ((sr.mono x).set i q)
theorem ss_set {i : Nat} {x : Str} {pos' : Pos} (hN : X.N.Nodup) (hi : X.N[i]? = some x) (hx : Loc X.env.scope x) (he : SE G X e m) (hs : swapsWith e (some (.Name x pos')) pos.line X.env = pure false := by rfl)
    (hf : X.fn x = true ∨ X.env.scope.names.lookup x = some .local := by first | exact .inl rfl | exact .inr rfl | assumption) : SS G X (.Assign [.Name x pos'] e pos) (mSet i m) := fun Wx tk =>
  (ps_set hN hi hx (he Wx tk) hs hf).imp fun D σ H p => asg_name p
/-- targets of names: what they set -/
def mT2 (i j : Nat) (ma mb : M W) : Sm := fun e h => (ma e h).stm e fun x h => (mb e h).stm e fun y h => .nx ((e.set i (some x)).set j (some y)) h
def mTs (is : List Nat) (m : M (List W)) : Sm := fun e h => (m e h).stm e fun ws h => if is.length = ws.length then .nx ((is.zip ws).foldl (fun e p => e.set p.1 (some p.2)) e) h else .bad
theorem ss_par {i j : Nat} {x y : Str} {a b : Expr} {mr : M (List W)} {px py pt : Pos} {kt k2 pt2} (hc : X.calm = true) (hN : X.N.Nodup) (hi : X.N[i]? = some x) (hj : X.N[j]? = some y) (hij : i ≠ j)
    (hx : X.env.scope.names.lookup x = some .local) (hy : X.env.scope.names.lookup y = some .local) (ha : SA G X [a, b] mr)
    (hw : swappedStores [.Tuple [.Name x px, .Name y py] kt pt] (.Tuple [a, b] k2 pt2) X.env = pure (some [x, y]))
    (hs : swapsWithSole [.Tuple [.Name x px, .Name y py] kt pt] (.Tuple [a, b] k2 pt2) pos.line X.env = pure false := by rfl) :
    SS G X (.Assign [.Tuple [.Name x px, .Name y py] kt pt] (.Tuple [a, b] k2 pt2) pos) (mTs [i, j] mr) := fun Wx tk =>
  (ps_par hc hN hi hj hij hx hy (ha Wx tk) hw hs).imp fun D σ H p => rdS.stm (Rel := VsRel X.K) p fun H0 ρ0 e sr v H1 ρ1 h1 w x r q p1 => by
    split at p1
    · rename_i hl
      match w, hl, q, p1 with
      | [w1, w2], hl, q, p1 =>
        obtain ⟨v1, v2, rfl, q1, q2⟩ := q.inv2
        exact ⟨v1, v2, rfl, p1 ρ1 H1 _ (Ext.refl r) r (((sr.mono x).set i q1).set j q2)⟩
    · exact False.elim p1

theorem ss_doc {x : Str} {j : Nat} {pos' : Pos} : SS G X (.Expr (.Constant (.str x) j pos) pos') mSkip := fun Wx tk => ps_doc.imp fun D σ H p => by
  obtain ⟨ρ, e, h, hr, sr, p⟩ := p
  exact p ρ H σ (Ext.refl hr) hr sr

/-! ### targets: names, tuples of names -/
abbrev Tg := W → Env → Option Env
/-- what a target sets: slots among vs alone -/
def TgOk (K : PySem.W.Frag) (G : Gx) (vs : List Nat) (g : TG) (t : Tg) : Prop := ∀ (H : Hp) (ρ : List Addr) (h : List O) (σ : L2.St) (e e1 : Env) (v : V) (w : W) (Q : L2.St → Hp → Prop),
  HR K G H ρ h → SR K H ρ σ e → VR K H ρ v w → t w e = some e1 → (∀ σ1, SR K H ρ σ1 e1 → wipe σ1 vs = wipe σ vs → Q σ1 H) → g v σ H Q
def tgN (i : Nat) : Tg := fun w e => some (e.set i (some w))
def tgTs : List Nat → List W → Env → Option Env
  | [], [], e => some e
  | i :: is, w :: ws, e => tgTs is ws (e.set i (some w))
  | _, _, _ => none
def tgT (is : List Nat) : Tg := fun w e => match w with
  | .tup ws => tgTs is ws e
  | _ => none
theorem wipe_get {σ : L2.St} {j : Nat} : ∀ {vs : List Nat}, j ∉ vs → (wipe σ vs)[j]? = σ[j]?
  | [], _ => rfl
  | v :: vs, h => by
    have h1 : v ≠ j := fun z => h (by rw [z]; exact List.mem_cons_self)
    have h2 : j ∉ vs := fun z => h (List.mem_cons_of_mem _ z)
    unfold wipe
    rw [List.getElem?_set_ne h1]
    exact wipe_get h2
theorem wipe_in {σ : L2.St} {j : Nat} : ∀ {vs : List Nat}, j ∈ vs → (wipe σ vs)[j]? = if j < σ.length then some none else none
  | v :: vs, h => by
    unfold wipe
    by_cases hv : v = j
    · subst hv
      by_cases hl : v < σ.length
      · rw [if_pos hl, List.getElem?_set_self (by rw [wipe_length]; exact hl)]
      · rw [if_neg hl, List.getElem?_eq_none (by rw [List.length_set, wipe_length]; omega)]
    · rw [List.getElem?_set_ne hv]
      exact wipe_in (by rcases List.mem_cons.mp h with z | z; exact absurd z.symm hv; exact z)
theorem wipe_set {σ : L2.St} {i : Nat} {x : Option V} {vs : List Nat} (h : i ∈ vs) : wipe (σ.set i x) vs = wipe σ vs := by
  apply List.ext_getElem?
  intro j
  by_cases hj : j ∈ vs
  · rw [wipe_in hj, wipe_in hj, List.length_set]
  · rw [wipe_get hj, wipe_get hj]
    exact List.getElem?_set_ne (fun z : i = j => hj (by rw [← z]; exact h))
theorem tgk_name {K : PySem.W.Frag} {vs : List Nat} {i : Nat} (hi : i ∈ vs := by decide) : TgOk K G vs (gName i) (tgN i) := fun H ρ h σ e e1 v w Q hr sr rv ht k => by
  cases ht
  exact k _ (sr.set i rv) (wipe_set hi)
theorem tgk_tup {K : PySem.W.Frag} {vs : List Nat} : ∀ {is : List Nat}, (∀ i ∈ is, i ∈ vs) → ∀ {H : Hp} {ρ : List Addr} {h : List O} {σ : L2.St} {e e1 : Env} {xs : List V} {ws : List W} {Q : L2.St → Hp → Prop},
    HR K G H ρ h → SR K H ρ σ e → VRs K H ρ xs ws → tgTs is ws e = some e1 → (∀ σ1, SR K H ρ σ1 e1 → wipe σ1 vs = wipe σ vs → Q σ1 H) → (is.foldr (fun i g => gCons (gName i) g) gNil) xs σ H Q
  | [], hi, H, ρ, h, σ, e, e1, xs, ws, Q, hr, sr, rv, ht, k => by
    cases ws with
    | nil => cases ht; exact ⟨rv.inv0, k _ sr rfl⟩
    | cons w ws => cases ht
  | i :: is, hi, H, ρ, h, σ, e, e1, xs, ws, Q, hr, sr, rv, ht, k => by
    cases ws with
    | nil => cases ht
    | cons w ws =>
      unfold VRs at rv
      obtain ⟨v, r, rfl, q, z⟩ := rv
      refine ⟨v, r, rfl, ?_⟩
      exact tgk_tup (fun j hj => hi j (List.mem_cons_of_mem _ hj)) hr (sr.set i q) z ht fun σ1 s1 e1 => k σ1 s1 (e1.trans (wipe_set (hi i List.mem_cons_self)))
theorem tgk_tups {K : PySem.W.Frag} {vs is : List Nat} {n : Nat} (hn : is.length = n := by rfl) (hi : ∀ i ∈ is, i ∈ vs := by decide) : TgOk K G vs (gTup K n (is.foldr (fun i g => gCons (gName i) g) gNil)) (tgT is) := fun H ρ h σ e e1 v w Q hr sr rv ht k => by
  unfold tgT at ht
  split at ht
  · rename_i ws
    unfold VR at rv
    obtain ⟨a, vs', rfl, q, z⟩ := rv
    have hl : ∀ (is : List Nat) (ws : List W) (e : Env), tgTs is ws e = some e1 → is.length = ws.length := by
      intro is
      induction is with
      | nil => intro ws e h; cases ws with
        | nil => rfl
        | cons w ws => cases h
      | cons i is ih => intro ws e h; cases ws with
        | nil => cases h
        | cons w ws => rw [List.length_cons, List.length_cons, ih ws _ h]
    exact ⟨a, vs', rfl, q, by rw [z.length, ← hl _ _ _ ht, hn], tgk_tup hi hr sr z ht k⟩
  · cases ht
/-- target = value -/
def mAsg (t : Tg) (m : M W) : Sm := fun e h => (m e h).stm e fun w h => match t w e with
  | some e => .nx e h
  | none => .bad
theorem ss_asg {tg : Expr} {g : TG} {t : Tg} {vs : List Nat} (he : SE G X e m) (hg : PG X tg g) (ht : TgOk X.K G vs g t) (hs : swapsWithSole [tg] e pos.line X.env = pure false := by rfl) (hw : swappedStores [tg] e X.env = pure none := by rfl)
    (h1 : (assignEach [tg] X.env).map (·.2) = [assign tg X.env] := by rfl) : SS G X (.Assign [tg] e pos) (mAsg t m) := fun Wx tk =>
  (ps_asg (he Wx tk) hg hs hw h1).imp fun D σ H p => rdS.stm (Rel := VRel X.K) p fun H0 ρ0 e sr v H1 ρ1 h1 w x r q p1 => by
    split at p1
    · rename_i e1 he1
      exact ht H1 ρ1 h1 σ e e1 v w _ r (sr.mono x) q he1 fun σ1 s1 _ => p1 ρ1 H1 σ1 (Ext.refl r) r s1
    · exact False.elim p1

/-! ### op= -/
def oIadd (x y : W) (h : List O) : Out W := match x, y with
  | .int i, .int j => .ok (.int (i + j)) h
  | .str a, .str b => if a.length + b.length ≤ lim then .ok (.str (a ++ b)) h else .bad
  | _, _ => .bad
theorem _root_.L2.PIp.or {op : Operator} {r r' : TIp} (a : PIp X op r) (b : PIp X op r') : PIp X op (fun x y H Q => r x y H Q ∨ r' x y H Q) := fun pins s σ H x y v u Q I rx ry h => by
  rcases h with h | h
  · exact a pins s σ H x y v u Q I rx ry h
  · exact b pins s σ H x y v u Q I rx ry h
theorem pip_of {op : Operator} {r : R2} (h : OpR X (inplaceOp op) r) : PIp X op r := fun pins s σ H x y v u Q I rx ry q => h pins s σ H x y v u Q I rx ry q
def IpS (G : Gx) (X : Cx) (op : Operator) (f : W → W → List O → Out W) : Prop := ∃ r, PIp X op r ∧ Serves2 X.K G f r
theorem ips_add : IpS G X .Add oIadd := ⟨_, L2.PIp.or (pip_of iop_add) (pip_of iop_add_str), fun E H ρ h x y wx wy Q hr rx ry p => by
  unfold oIadd at p
  split at p
  · exact .inl ⟨_, _, rx.int, ry.int, p.here hr vr_int⟩
  · split at p
    · rename_i hl
      exact .inr ⟨_, _, rx.str, ry.str, by rw [Str_length, Str_length]; exact lim_size hl, p.here hr (vr_str' (Str_app _ _))⟩
    · exact False.elim p
  · exact False.elim p⟩
theorem ips_sub : IpS G X .Sub oSub := ⟨_, pip_of iop_sub, fun E H ρ h x y wx wy Q hr rx ry p => by
  unfold oSub at p
  split at p
  · exact ⟨_, _, rx.int, ry.int, p.here hr vr_int⟩
  · exact False.elim p⟩
def oImul (x y : W) (h : List O) : Out W := match x, y with
  | .int i, .int j => if (-(2 ^ 64) < j ∧ j < 2 ^ 64) then .ok (.int (i * j)) h else .bad
  | _, _ => .bad
theorem ips_mul : IpS G X .Mult oImul := ⟨_, pip_of iop_mul, fun E H ρ h x y wx wy Q hr rx ry p => by
  unfold oImul at p
  split at p
  · split at p
    · rename_i hc
      exact ⟨_, _, rx.int, ry.int, .inr hc, p.here hr vr_int⟩
    · exact False.elim p
  · exact False.elim p⟩
def oIfdiv (x y : W) (h : List O) : Out W := match x, y with
  | .int i, .int j => if 0 < j ∧ j < 1073741824 then .ok (.int (i / j)) h else .bad
  | _, _ => .bad
theorem ips_fdiv : IpS G X .FloorDiv oIfdiv := ⟨_, pip_of iop_fdiv, fun E H ρ h x y wx wy Q hr rx ry p => by
  unfold oIfdiv at p
  split at p
  · split at p
    · rename_i hc
      exact ⟨_, _, rx.int, ry.int, hc, p.here hr vr_int⟩
    · exact False.elim p
  · exact False.elim p⟩
def mAug (i : Nat) (f : W → W → List O → Out W) (m : M W) : Sm := fun e h => match e[i]? with
  | some (some x) => (m e h).stm e fun y h => (f x y h).stm e fun z h => .nx (e.set i (some z)) h
  | _ => .bad
theorem ss_aug {i : Nat} {x : Str} {op : Operator} {f : W → W → List O → Out W} {pos' : Pos} (hN : X.N.Nodup) (hi : X.N[i]? = some x) (hx : Loc X.env.scope x) (s : IpS G X op f) (he : SE G X e m)
    (hf : X.fn x = true ∨ X.env.scope.names.lookup x = some .local := by first | exact .inl rfl | exact .inr rfl | assumption) : SS G X (.AugAssign (.Name x pos') op e pos) (mAug i f m) := fun Wx tk => by
  obtain ⟨r, ho, s⟩ := s
  refine (ps_aug hN hi hx (he Wx tk) ho hf).imp fun D σ H p => ?_
  obtain ⟨ρ, e, h, hr, sr, p⟩ := p
  unfold mAug at p
  split at p
  · rename_i w hw
    obtain ⟨v, hv, rv⟩ := sr.at_ _ _ hw
    refine ⟨v, hv, ρ, e, h, hr, sr, (PostS.stm (Rel := VRel X.K) sr p).imp fun y H1 q => ?_⟩
    obtain ⟨ρ1, h1, wy, x1, r1, vy, p1⟩ := q
    refine s (fun cls d H' => Wx cls d σ H') H1 ρ1 h1 v y w wy _ r1 (rv.mono x1) vy ((PostS.stm (Rel := VRel X.K) (sr.mono x1) p1).imp fun z H2 q => ?_)
    obtain ⟨ρ2, h2, wz, x2, r2, vz, p2⟩ := q
    exact p2 ρ2 H2 _ (Ext.refl r2) r2 (((sr.mono x1).mono x2).set i vz)
  · exact False.elim p

/-! ### o[i] = v, o[i] op= v of lists -/
def oSet (o i v : W) (h : List O) : Out Unit := match o, i with
  | .ref n, .int k => match lstAt h n with
    | some xs => match ixN xs.length k with
      | some j => .ok () (h.set n (.lst (xs.set j v)))
      | none => .bad
    | none => .bad
  | _, _ => .bad
abbrev URel : Hp → List Addr → Unit → Unit → Prop := fun _ _ _ _ => True
def ServesS (K : PySem.W.Frag) (G : Gx) (op : W → W → W → List O → Out Unit) (r : TSet) : Prop := ∀ (E : XK) (H : Hp) (ρ : List Addr) (h : List O) (o i v : V) (wo wi wv : W) (Q : Hp → Prop),
  HR K G H ρ h → VR K H ρ o wo → VR K H ρ i wi → VR K H ρ v wv → Post K G E URel (fun _ H' => Q H') H ρ (op wo wi wv h) → r o i v H Q
def SetS (G : Gx) (X : Cx) (op : W → W → W → List O → Out Unit) : Prop := ∃ r, PSet X r ∧ ServesS X.K G op r
theorem sets_list : SetS G X oSet := ⟨_, set_list, fun E H ρ h o i v wo wi wv Q hr ro ri rv p => by
  unfold oSet at p
  split at p
  · split at p
    · rename_i xs hx
      split at p
      · rename_i j hj
        obtain ⟨a, rfl, ea⟩ := ro.ref
        obtain ⟨vs, q, z⟩ := hr.look ea (lstAt_some hx)
        refine ⟨a, vs, _, j, rfl, ri.int, q, by rw [z.length]; exact hj, ?_⟩
        obtain ⟨r1, x1⟩ := hr.write (o := .lst (vs.set j v)) (u := .lst (xs.set j wv)) ea rfl fun x => ⟨_, upd_same, (VRs.set rv j z).mono x⟩
        exact p ρ _ () x1 r1 trivial
      · exact False.elim p
    · exact False.elim p
  · exact False.elim p⟩
/-- ov[iv] = value: the value first -/
def mSetI (f : W → W → W → List O → Out Unit) (mo mi m : M W) : Sm := fun e h => (m e h).stm e fun v h => (mo e h).stm e fun o h => (mi e h).stm e fun i h => (f o i v h).stm e fun _ h => .nx e h
theorem ss_seti {oe ie : Expr} {mo mi : M W} {f : W → W → W → List O → Out Unit} {tpos : Pos} (s : SetS G X f) (ho : SE G X oe mo) (hi : SE G X ie mi) (he : SE G X e m)
    (ha : ∀ v, assign (.Subscript oe ie tpos) X.env v = (do
      let ov ← holding [v] (eval oe X.env)
      let iv ← holding [v, ov] (eval ie X.env)
      standAt tpos
      holding [v, ov, iv] (setItem ov iv v)
      release [v, ov, iv] []) := by intro _; rfl)
    (hs : swapsWithSole [.Subscript oe ie tpos] e pos.line X.env = pure false := by rfl) (hw : swappedStores [.Subscript oe ie tpos] e X.env = pure none := by rfl)
    (h1 : (assignEach [.Subscript oe ie tpos] X.env).map (·.2) = [assign (.Subscript oe ie tpos) X.env] := by rfl) : SS G X (.Assign [.Subscript oe ie tpos] e pos) (mSetI f mo mi m) := fun Wx tk => by
  obtain ⟨r, hp, s⟩ := s
  refine (ps_asg (he Wx tk) (pg_sub (ho Wx tk) (hi Wx tk) hp ha) hs hw h1).imp fun D σ H p => rdS.stm (Rel := VRel X.K) p fun H0 ρ0 e sr v H1 ρ1 h1 w x r q p1 => ?_
  have sr1 := sr.mono x
  refine ⟨ρ1, e, h1, r, sr1, (PostS.stm (Rel := VRel X.K) sr1 p1).imp fun o H2 q2 => ?_⟩
  obtain ⟨ρ2, h2, wo, x2, r2, vo, p2⟩ := q2
  have sr2 := sr1.mono x2
  refine ⟨ρ2, e, h2, r2, sr2, (PostS.stm (Rel := VRel X.K) sr2 p2).imp fun i H3 q3 => ?_⟩
  obtain ⟨ρ3, h3, wi, x3, r3, vi, p3⟩ := q3
  have sr3 := sr2.mono x3
  refine s (fun cls d H' => Wx cls d σ H') H3 ρ3 h3 o i v wo wi w _ r3 (vo.mono x3) vi ((q.mono x2).mono x3) ((PostS.stm (Rel := URel) sr3 p3).imp fun _ H4 q4 => ?_)
  obtain ⟨ρ4, h4, _, x4, r4, _, p4⟩ := q4
  exact p4 ρ4 H4 σ (Ext.refl r4) r4 (sr3.mono x4)
/-- o[i], by values -/
def GetS (G : Gx) (X : Cx) (f : W → W → List O → Out W) : Prop := ∃ r, PGet X r ∧ Serves2 X.K G f r
theorem pget_of {r : R2} (h : ∀ (pins : List (Addr × Obj)) (s : Shared) (σ : L2.St) (H : Hp) (x y : V) (v u : Value) (Q : VK), Inv X pins σ H s → RelV x v → RelV y u → r x y H Q → wpAny (model X.prog X.w) X.A (getItem v u) (EP X pins σ Q) X.xe s) : PGet X r :=
  fun pins s σ H o i ov iv Q I ro ri q => h pins s σ H o i ov iv Q I ro ri q
def mAugI (g : W → W → List O → Out W) (f : W → W → List O → Out W) (s : W → W → W → List O → Out Unit) (mo mi m : M W) : Sm := fun e h => (mo e h).stm e fun o h => (mi e h).stm e fun i h => (g o i h).stm e fun x h =>
  (m e h).stm e fun y h => (f x y h).stm e fun z h => (s o i z h).stm e fun _ h => .nx e h
theorem ss_augi {oe ie : Expr} {mo mi : M W} {g f : W → W → List O → Out W} {st : W → W → W → List O → Out Unit} {op : Operator} {tpos : Pos} (hg : GetS G X g) (hf : IpS G X op f) (hs : SetS G X st) (ho : SE G X oe mo) (hi : SE G X ie mi) (he : SE G X e m)
    (ha : ∀ ov iv new, augStore ie ov iv new = (do holding [new, ov, iv] (setItem ov iv new); release [new, ov, iv] []; pure .next) := by intros; rfl) : SS G X (.AugAssign (.Subscript oe ie tpos) op e pos) (mAugI g f st mo mi m) := fun Wx tk => by
  obtain ⟨rg, hg, sg⟩ := hg
  obtain ⟨rf, hf, sf⟩ := hf
  obtain ⟨rs, hs, ss⟩ := hs
  refine (ps_augS (ho Wx tk) (hi Wx tk) hg (he Wx tk) hf hs ha).imp fun D σ H p => rdS.stm (Rel := VRel X.K) p fun H0 ρ0 e sr o H1 ρ1 h1 wo x1 r1 vo p1 => ?_
  have sr1 := sr.mono x1
  refine ⟨ρ1, e, h1, r1, sr1, (PostS.stm (Rel := VRel X.K) sr1 p1).imp fun i H2 q2 => ?_⟩
  obtain ⟨ρ2, h2, wi, x2, r2, vi, p2⟩ := q2
  have sr2 := sr1.mono x2
  refine sg (fun cls d H' => Wx cls d σ H') H2 ρ2 h2 o i wo wi _ r2 (vo.mono x2) vi ((PostS.stm (Rel := VRel X.K) sr2 p2).imp fun xv H3 q3 => ?_)
  obtain ⟨ρ3, h3, wx, x3, r3, vx, p3⟩ := q3
  have sr3 := sr2.mono x3
  refine ⟨ρ3, e, h3, r3, sr3, (PostS.stm (Rel := VRel X.K) sr3 p3).imp fun y H4 q4 => ?_⟩
  obtain ⟨ρ4, h4, wy, x4, r4, vy, p4⟩ := q4
  have sr4 := sr3.mono x4
  refine sf (fun cls d H' => Wx cls d σ H') H4 ρ4 h4 xv y wx wy _ r4 (vx.mono x4) vy ((PostS.stm (Rel := VRel X.K) sr4 p4).imp fun z H5 q5 => ?_)
  obtain ⟨ρ5, h5, wz, x5, r5, vz, p5⟩ := q5
  have sr5 := sr4.mono x5
  refine ss (fun cls d H' => Wx cls d σ H') H5 ρ5 h5 o i z wo wi wz _ r5 ((((vo.mono x2).mono x3).mono x4).mono x5) (((vi.mono x3).mono x4).mono x5) vz ((PostS.stm (Rel := URel) sr5 p5).imp fun _ H6 q6 => ?_)
  obtain ⟨ρ6, h6, _, x6, r6, _, p6⟩ := q6
  exact p6 ρ6 H6 σ (Ext.refl r6) r6 (sr5.mono x6)
end
end Den
set_option maxRecDepth 100000
/-! Loops, comprehensions, calls of defs, defs. -/
namespace Den
open PySem L2 PyProof.Rows
section
variable {G : Gx} {X : Cx}
theorem get_list : PGet X (rIxL X.K) := by
  intro pins s σ H x y v u Q I rx ry h
  obtain ⟨p, xs, i, z, rfl, rfl, hq, he, q⟩ := h
  cases rx
  obtain ⟨t, rfl⟩ := ry
  obtain ⟨its, r, pl, hz⟩ := I.list hq
  obtain ⟨j, h1, h2, h3, h4, h5⟩ := atI_get he
  obtain ⟨w, ew, rw'⟩ := r.get h2
  have hl := r.length
  have hn := line63
  have fin : EP X pins σ Q w s := ⟨z, H, I, rw', q⟩
  by_cases h0 : 0 ≤ i
  · have hj : i.toNat = j := by
      rw [seqIndex_of h0 h5] at h1
      exact Option.some.inj h1
    exact wpAny_getItem_list pl.isList h0 (by omega) (by rw [hj]; simpa using ew) fin
  · have hj : (i + (its.toArray.size : Int)).toNat = j := by
      rw [seqIndex_neg (by omega) h4] at h1
      rw [List.size_toArray, ← hl]
      exact Option.some.inj h1
    exact wpAny_getItem_list_neg pl.isList (by omega) (by rw [List.size_toArray] <;> omega) (by omega) (by rw [hj]; simpa using ew) fin
def oGetL (x y : W) (h : List O) : Out W := match y with
  | .int i => match sqL x h with
    | some xs => match L2.atI xs i with
      | some w => .ok w h
      | none => .bad
    | none => .bad
  | _ => .bad
theorem gets_list : GetS G X oGetL := ⟨_, get_list, fun E H ρ h x y wx wy Q hr rx ry p => by
  unfold oGetL at p
  split at p
  · rename_i i
    split at p
    · rename_i xs hx
      split at p
      · rename_i w hw
        obtain ⟨a, vs, rfl, q, z⟩ := sqL_ok hr rx hx
        obtain ⟨v, hv, rv⟩ := z.atI hw
        exact ⟨a, vs, i, v, rfl, ry.int, q, hv, p.here hr rv⟩
      · exact False.elim p
    · exact False.elim p
  · exact False.elim p⟩

/-! ### while -/
def whileGo (c : M Bool) (body : Sm) : Nat → Env → List O → SOut
  | 0, _, _ => .bad
  | n + 1, e, h => (c e h).stm e fun b h1 => if b = true then match body e h1 with
      | .nx e2 h2 => whileGo c body n e2 h2
      | .ct e2 h2 => whileGo c body n e2 h2
      | .bk e2 h2 => .nx e2 h2
      | .rt w h2 => .rt w h2
      | .exc cc p e2 h2 => .exc cc p e2 h2
      | .bad => .bad
    else .nx e h1
def mWhile (n : Nat) (c : M Bool) (body : Sm) : Sm := fun e h => whileGo c body n e h
theorem ss_while {n : Nat} {ce : Expr} {B : List Stmt} {c : M Bool} {body : Sm} {pos : Pos} (hp : PassesOwn (model X.prog X.w) X.A X.env X.xe) (hc : ST G X ce c) (hb : SSs G X B body) : SS G X (.While ce B [] pos) (mWhile n c body) := fun Wx tk =>
  (ps_while hp (hc Wx tk) (hb Wx tk)).imp fun D σ H p => by
    refine ⟨fun m σ H => rdS X.K G Wx (fun e h => whileGo c body m e h) D σ H, ⟨n, p⟩, fun m σ H p => ?_⟩
    cases m with
    | zero =>
      obtain ⟨ρ, e, h, hr, sr, p⟩ := p
      exact False.elim p
    | succ m =>
      refine rdS.stm (m := c) (f := fun e b h1 => if b = true then match body e h1 with
        | .nx e2 h2 => whileGo c body m e2 h2
        | .ct e2 h2 => whileGo c body m e2 h2
        | .bk e2 h2 => .nx e2 h2
        | .rt w h2 => .rt w h2
        | .exc cc p e2 h2 => .exc cc p e2 h2
        | .bad => .bad
      else .nx e h1) (Rel := BRel) p fun H0 ρ0 e sr b H1 ρ1 h1 w x r q p1 => ?_
      cases q
      have sr1 := sr.mono x
      cases b with
      | false => exact iteF (p1 ρ1 H1 σ (Ext.refl r) r sr1)
      | true =>
        refine iteT ⟨fun σ' H' => rdS X.K G Wx (fun e h => whileGo c body m e h) D σ' H', fun σ' H' p => ⟨m, Nat.lt_succ_self m, p⟩, ρ1, e, h1, r, sr1, ?_⟩
        rw [if_pos rfl] at p1
        cases hm : body e h1 with
        | nx e2 h2 => rw [hm] at p1; exact fun ρ' H' σ' x' r' s' => ⟨ρ', e2, h2, r', s', p1.ext x'⟩
        | ct e2 h2 => rw [hm] at p1; exact fun ρ' H' σ' x' r' s' => ⟨ρ', e2, h2, r', s', p1.ext x'⟩
        | bk e2 h2 => rw [hm] at p1; exact p1
        | rt w h2 => rw [hm] at p1; exact p1
        | exc cc q e2 h2 => rw [hm] at p1; exact p1
        | bad => rw [hm] at p1; exact p1

/-! ### what is walked -/
abbrev Src := Nat → List O → Option (Option W)
def JRel (K : PySem.W.Frag) (G : Gx) (H0 : Hp) (ρ0 : List Addr) (J : It) (src : Src) : Prop := ∀ (i : Nat) (H : Hp) (ρ : List Addr) (h : List O), Ext H0 ρ0 H ρ → HR K G H ρ h →
  (src i h = some none → J.stop i H) ∧ ∀ w, src i h = some (some w) → J.go i H ∧ ∀ x H', J.yld i H x H' → Ext H ρ H' ρ ∧ HR K G H' ρ h ∧ VR K H' ρ x w
def SI (G : Gx) (X : Cx) (tg iter : Expr) (m : M Src) : Prop := ∀ Wx, Takes X Wx → PI X tg iter (rd X.K G Wx (JRel X.K G) m)
theorem _root_.L2.PI.imp {X : Cx} {tg e : Expr} {t t' : TI} (p : PI X tg e t) (i : ∀ σ H R, t' σ H R → t σ H R) : PI X tg e t' := ⟨fun pins s σ H Q I q => p.run pins s σ H Q I (i σ H Q q)⟩
theorem _root_.L2.PI.or {X : Cx} {tg e : Expr} {t t' : TI} (p : PI X tg e t) (p' : PI X tg e t') : PI X tg e (fun σ H R => t σ H R ∨ t' σ H R) := ⟨fun pins s σ H Q I q => by
  rcases q with q | q
  · exact p.run pins s σ H Q I q
  · exact p'.run pins s σ H Q I q⟩
def srcL (xs : List W) : Src := fun i _ => some xs[i]?
def srcR (n : Nat) : Src := fun i h => (lstAt h n).map fun xs => xs[i]?
def srcS (s : List Nat) : Src := fun i _ => some (s[i]?.map fun c => .str [c])
def srcN (lo : Int) (n : Nat) : Src := fun i _ => if i < n then some (some (.int (lo + i))) else some none
def toSrc (w : W) (h : List O) : Out Src := match w with
  | .str s => .ok (srcS s) h
  | .tup xs => .ok (srcL xs) h
  | .rol xs => .ok (srcL xs) h
  | .ref n => match lstAt h n with
    | some _ => .ok (srcR n) h
    | none => .bad
  | _ => .bad
def mIter (m : M W) : M Src := fun e h => (m e h).bnd toSrc
section
variable {K : PySem.W.Frag} {H : Hp} {ρ : List Addr} {h : List O}
theorem jrel_lst {a : Addr} {n : Nat} (ea : ρ[n]? = some a) : JRel K G H ρ (Itl K a) (srcR n) := fun i H' ρ' h' x r => by
  have ea' : ρ'[n]? = some a := pre_get x.pre ea
  refine ⟨fun e => ?_, fun w e => ?_⟩
  · unfold srcR at e
    cases hl : lstAt h' n with
    | none => rw [hl] at e; cases e
    | some xs =>
      rw [hl] at e
      obtain ⟨vs, q, z⟩ := r.look ea' (lstAt_some hl)
      have e2 : xs[i]? = none := Option.some.inj e
      exact ⟨vs, .inl (.inl q), by rw [z.length]; exact List.getElem?_eq_none_iff.mp e2⟩
  · unfold srcR at e
    cases hl : lstAt h' n with
    | none => rw [hl] at e; cases e
    | some xs =>
      rw [hl] at e
      obtain ⟨vs, q, z⟩ := r.look ea' (lstAt_some hl)
      have e2 : xs[i]? = some w := Option.some.inj e
      obtain ⟨v, hv, rv⟩ := z.get e2
      have sq : SqL K H' a vs := .inl (.inl q)
      refine ⟨⟨vs, v, sq, hv⟩, fun y H'' hy => ?_⟩
      obtain ⟨rfl, hy⟩ := hy
      have e3 : v = y := Option.some.inj (hv.symm.trans (hy vs sq))
      rw [← e3]
      exact ⟨Ext.refl r, r, rv⟩
theorem jrel_rol {a : Addr} {vs : List V} {xs : List W} (hs : (Rd H a (.lst vs) ∧ a ∉ ρ) ∨ ∀ H' : Hp, SqL K H' a vs) (z : VRs K H ρ vs xs) : JRel K G H ρ (Itl K a) (srcL xs) := fun i H' ρ' h' x r => by
  have sq : SqL K H' a vs := by
    rcases x.rol hs with q | q
    · exact .inl q.1
    · exact q H'
  refine ⟨fun e => ⟨vs, sq, by rw [z.length]; exact List.getElem?_eq_none_iff.mp (Option.some.inj e)⟩, fun w e => ?_⟩
  obtain ⟨v, hv, rv⟩ := z.get (Option.some.inj e)
  refine ⟨⟨vs, v, sq, hv⟩, fun y H'' hy => ?_⟩
  obtain ⟨rfl, hy⟩ := hy
  have e3 : v = y := Option.some.inj (hv.symm.trans (hy vs sq))
  rw [← e3]
  exact ⟨Ext.refl r, r, rv.mono x⟩
theorem jrel_tup {a : Addr} {vs : List V} {xs : List W} (hs : SqT K H a vs) (z : VRs K H ρ vs xs) : JRel K G H ρ (Itt K a) (srcL xs) := fun i H' ρ' h' x r => by
  have sq : SqT K H' a vs := x.tup hs
  refine ⟨fun e => ⟨vs, sq, by rw [z.length]; exact List.getElem?_eq_none_iff.mp (Option.some.inj e)⟩, fun w e => ?_⟩
  obtain ⟨v, hv, rv⟩ := z.get (Option.some.inj e)
  refine ⟨⟨vs, v, sq, hv⟩, fun y H'' hy => ?_⟩
  obtain ⟨rfl, hy⟩ := hy
  have e3 : v = y := Option.some.inj (hv.symm.trans (hy vs sq))
  rw [← e3]
  exact ⟨Ext.refl r, r, rv.mono x⟩
end
end
end Den
set_option maxRecDepth 100000
/-! What a for walks; for; comprehensions; calls of defs; defs. -/
namespace Den
open PySem L2 PyProof.Rows
section
variable {G : Gx} {X : Cx} {e : Expr} {m : M W} {pos : Pos}
theorem jrel_str {K : PySem.W.Frag} {H : Hp} {ρ : List Addr} {s : List Nat} : JRel K G H ρ (Its ⟨s.toArray⟩) (srcS s) := fun i H' ρ' h' x r => by
  have hsz : (⟨s.toArray⟩ : Str).cps.size = s.length := by simp
  refine ⟨fun e => ?_, fun w e => ?_⟩
  · have e2 : s[i]? = none := by
      have := Option.some.inj e
      cases hx : s[i]? with
      | none => rfl
      | some c => rw [hx] at this; cases this
    show (⟨s.toArray⟩ : Str).cps.size ≤ i
    rw [hsz]
    exact List.getElem?_eq_none_iff.mp e2
  · have e1 := Option.some.inj e
    cases hx : s[i]? with
    | none => rw [hx] at e1; cases e1
    | some c =>
      rw [hx] at e1
      have e2 : W.str [c] = w := Option.some.inj e1
      refine ⟨?_, fun y H'' hy => ?_⟩
      · show i < (⟨s.toArray⟩ : Str).cps.size
        rw [hsz]
        exact (List.getElem?_eq_some_iff.mp hx).1
      · obtain ⟨rfl, c', hc, rfl⟩ := hy
        have e3 : c' = c := by
          have : s[i]? = some c' := by simpa using hc
          rw [hx] at this
          exact (Option.some.inj this).symm
        subst e3
        rw [← e2]
        exact ⟨Ext.refl r, r, vr_str' (l := [c']) rfl⟩
/-- over a list, a tuple, a text -/
theorem si_seq {tg : Expr} (he : SE G X e m) : SI G X tg e (mIter m) := fun Wx tk =>
  ((pi_list (he Wx tk)).or ((pi_tup (he Wx tk)).or (pi_str (he Wx tk)))).imp fun σ H R p => by
    obtain ⟨ρ, e, h, hr, sr, p⟩ := p
    unfold mIter at p
    cases hm : m e h with
    | bad => rw [hm] at p; exact False.elim p
    | exc c q h' => rw [hm] at p; exact .inl ⟨ρ, e, h, hr, sr, by rw [hm]; exact p⟩
    | ok w h' =>
      rw [hm, Out.bnd_ok] at p
      cases w with
      | str s => exact .inr (.inr ⟨ρ, e, h, hr, sr, by rw [hm]; exact fun ρ' H' v x r q => ⟨_, q.str, p ρ' H' _ x r jrel_str⟩⟩)
      | tup xs =>
        refine .inr (.inl ⟨ρ, e, h, hr, sr, ?_⟩)
        rw [hm]
        intro ρ' H' v x r q
        have q : VR X.K H' ρ' v (.tup xs) := q
        unfold VR at q
        obtain ⟨a, vs, rfl, q, z⟩ := q
        exact ⟨a, rfl, ⟨vs, q⟩, p ρ' H' _ x r (jrel_tup q z)⟩
      | rol xs =>
        refine .inl ⟨ρ, e, h, hr, sr, ?_⟩
        rw [hm]
        intro ρ' H' v x r q
        have q : VR X.K H' ρ' v (.rol xs) := q
        unfold VR at q
        obtain ⟨a, vs, rfl, q, z⟩ := q
        exact ⟨a, rfl, ⟨vs, by
          rcases q with q | q
          · exact .inl q.1
          · exact q H'⟩, p ρ' H' _ x r (jrel_rol q z)⟩
      | ref n =>
        unfold toSrc at p
        dsimp only at p
        cases hl : lstAt h' n with
        | none => rw [hl] at p; exact False.elim p
        | some xs =>
          rw [hl] at p
          refine .inl ⟨ρ, e, h, hr, sr, ?_⟩
          rw [hm]
          intro ρ' H' v x r q
          have q : VR X.K H' ρ' v (.ref n) := q
          obtain ⟨a, rfl, ea⟩ := q.ref
          obtain ⟨vs, q, z⟩ := r.look ea (lstAt_some hl)
          exact ⟨a, rfl, ⟨vs, .inl (.inl q)⟩, p ρ' H' _ x r (jrel_lst ea)⟩
      | non => exact False.elim p
      | bl b => exact False.elim p
      | int i => exact False.elim p
/-- range -/
def mRng1 (m : M (List W)) : M Src := fun e h => (m e h).bnd fun ws h => match ws with
  | [.int j] => if -(2 ^ 62) ≤ j ∧ j < 2 ^ 62 then .ok (srcN 0 j.toNat) h else .bad
  | _ => .bad
def mRng2 (m : M (List W)) : M Src := fun e h => (m e h).bnd fun ws h => match ws with
  | [.int i, .int j] => if -(2 ^ 62) ≤ i ∧ i < 2 ^ 62 ∧ -(2 ^ 62) ≤ j ∧ j < 2 ^ 62 then .ok (srcN i (j - i).toNat) h else .bad
  | _ => .bad
theorem jrel_rng {K : PySem.W.Frag} {H : Hp} {ρ : List Addr} {lo : Int} {n : Nat} : JRel K G H ρ (Itr lo n) (srcN lo n) := fun i H' ρ' h' x r => by
  refine ⟨fun e => ?_, fun w e => ?_⟩
  · unfold srcN at e
    split at e
    · cases e
    · show n ≤ i
      omega
  · unfold srcN at e
    split at e
    · rename_i hi
      cases e
      refine ⟨hi, fun y H'' hy => ?_⟩
      obtain ⟨rfl, rfl⟩ := hy
      exact ⟨Ext.refl r, r, vr_int⟩
    · cases e
theorem si_rng1 {tg a : Expr} {mr : M (List W)} {p : Pos} (ha : SA G X [a] mr) (hg : Gl X "range") (hm : X.mg "range" = none)
    (hs : starEach [a] X.env = [(false, eval a X.env)] := by rfl) : SI G X tg (.Call (.Name "range" p) [a] [] pos) (mRng1 mr) := fun Wx tk =>
  (pi_range1 hg hm (ha Wx tk) (hs := hs)).imp fun σ H R p => rd.bnd (Rel := VsRel X.K) p fun H0 ρ0 e sr v H1 ρ1 h1 w x r q p1 => by
    split at p1
    · split at p1
      · rename_i j hj
        obtain ⟨v, rfl, q'⟩ := VRs.inv1 q
        exact ⟨_, by rw [q'.int], hj.1, hj.2, p1 ρ1 H1 _ (Ext.refl r) r jrel_rng⟩
      · exact False.elim p1
    · exact False.elim p1
theorem si_rng2 {tg a b : Expr} {mr : M (List W)} {p : Pos} (ha : SA G X [a, b] mr) (hg : Gl X "range") (hm : X.mg "range" = none)
    (hs : starEach [a, b] X.env = [(false, eval a X.env), (false, eval b X.env)] := by rfl) (hs2 : starEach [b] X.env = [(false, eval b X.env)] := by rfl) : SI G X tg (.Call (.Name "range" p) [a, b] [] pos) (mRng2 mr) := fun Wx tk =>
  (pi_range2 hg hm (ha Wx tk) (hs := hs) (hs2 := hs2)).imp fun σ H R p => rd.bnd (Rel := VsRel X.K) p fun H0 ρ0 e sr v H1 ρ1 h1 w x r q p1 => by
    split at p1
    · split at p1
      · rename_i i j hj
        obtain ⟨v, v', rfl, q1, q'⟩ := VRs.inv2 q
        exact ⟨_, _, by rw [q1.int, q'.int], ⟨hj.1, hj.2.1, hj.2.2.1, hj.2.2.2⟩, p1 ρ1 H1 _ (Ext.refl r) r jrel_rng⟩
      · exact False.elim p1
    · exact False.elim p1

/-! ### for -/
def forGo (src : Src) (t : Tg) (body : Sm) : Nat → Nat → Env → List O → SOut
  | 0, _, _, _ => .bad
  | n + 1, i, e, h => match src i h with
    | some (some w) => match t w e with
      | some e1 => match body e1 h with
        | .nx e2 h2 => forGo src t body n (i + 1) e2 h2
        | .ct e2 h2 => forGo src t body n (i + 1) e2 h2
        | .bk e2 h2 => .nx e2 h2
        | .rt w h2 => .rt w h2
        | .exc cc p e2 h2 => .exc cc p e2 h2
        | .bad => .bad
      | none => .bad
    | some none => .nx e h
    | none => .bad
def mFor (n : Nat) (it : M Src) (t : Tg) (body : Sm) : Sm := fun e h => (it e h).stm e fun src h => forGo src t body n 0 e h
theorem ss_for {n : Nat} {tg iter : Expr} {B : List Stmt} {it : M Src} {t : Tg} {g : TG} {vs : List Nat} {body : Sm} (hp : PassesOwn (model X.prog X.w) X.A X.env X.xe) (hi : SI G X tg iter it) (hg : PG X tg g) (ht : TgOk X.K G vs g t) (hb : SSs G X B body) (hc : X.calm = true := by rfl) (hs : ∀ x, foldedSetIterable iter X.env x = pure x := by intro _; rfl) :
    SS G X (.For tg iter B [] pos) (mFor n it t body) := fun Wx tk => by
  refine (ps_for hp hc (hi Wx tk) hg (hb Wx tk) (hs := hs)).imp fun D σ H p => ?_
  refine rdS.stm (Rel := JRel X.K G) p fun H0 ρ0 e sr J H1 ρ1 h1 src x r q p1 => ?_
  refine ⟨fun i m σ H => ∃ ρ e h, Ext H1 ρ1 H ρ ∧ HR X.K G H ρ h ∧ SR X.K H ρ σ e ∧ PostS X.K G Wx D H ρ (forGo src t body m i e h), ⟨n, ρ1, e, h1, Ext.refl r, r, sr.mono x, p1⟩, fun i m σ H p => ?_⟩
  obtain ⟨ρ, e, h, x1, hr, sr, p⟩ := p
  obtain ⟨j1, j2⟩ := q i H ρ h x1 hr
  cases m with
  | zero => exact False.elim p
  | succ m =>
    unfold forGo at p
    cases hs : src i h with
    | none => rw [hs] at p; exact False.elim p
    | some o =>
      rw [hs] at p
      cases o with
      | none => exact .inl ⟨j1 hs, p ρ H σ (Ext.refl hr) hr sr⟩
      | some w =>
        obtain ⟨k1, k2⟩ := j2 w hs
        refine .inr ⟨k1, fun σ' H' => ∃ ρ e h, Ext H1 ρ1 H' ρ ∧ HR X.K G H' ρ h ∧ SR X.K H' ρ σ' e ∧ PostS X.K G Wx D H' ρ (forGo src t body m (i + 1) e h), fun σ' H' p => ⟨m, Nat.lt_succ_self m, p⟩, fun y H' hy => ?_⟩
        obtain ⟨x2, r2, vy⟩ := k2 y H' hy
        dsimp only at p
        cases hte : t w e with
        | none => rw [hte] at p; exact False.elim p
        | some e1 =>
          rw [hte] at p
          refine ht H' ρ h σ e e1 y w _ r2 (sr.mono x2) vy hte fun σ2 s2 _ => ⟨ρ, e1, h, r2, s2, ?_⟩
          dsimp only at p
          have p := p.ext x2
          cases hm : body e1 h with
          | nx e2 h2 => rw [hm] at p; exact fun ρ' H' σ' x' r' s' => ⟨ρ', e2, h2, (x1.trans x2).trans x', r', s', p.ext x'⟩
          | ct e2 h2 => rw [hm] at p; exact fun ρ' H' σ' x' r' s' => ⟨ρ', e2, h2, (x1.trans x2).trans x', r', s', p.ext x'⟩
          | bk e2 h2 => rw [hm] at p; exact p
          | rt w h2 => rw [hm] at p; exact p
          | exc cc q e2 h2 => rw [hm] at p; exact p
          | bad => rw [hm] at p; exact p

/-! ### comprehensions -/
def wipeE : Env → List Nat → Env
  | e, [] => e
  | e, v :: vs => (wipeE e vs).set v none
theorem SR.wipe {K : PySem.W.Frag} {H : Hp} {ρ : List Addr} {σ : L2.St} {e : Env} (s : SR K H ρ σ e) : ∀ vs : List Nat, SR K H ρ (L2.wipe σ vs) (wipeE e vs)
  | [] => s
  | v :: vs => by
    have ih := SR.wipe s vs
    refine ⟨by unfold L2.wipe wipeE; rw [List.length_set, List.length_set]; exact ih.len, fun i w hi => ?_⟩
    unfold wipeE at hi
    by_cases hv : v = i
    · subst hv
      by_cases hl : v < (wipeE e vs).length
      · rw [List.getElem?_set_self hl] at hi; cases hi
      · rw [List.getElem?_eq_none (by simpa using hl)] at hi; cases hi
    · rw [List.getElem?_set_ne hv] at hi
      unfold L2.wipe
      rw [List.getElem?_set_ne hv]
      exact ih.at_ i w hi
def compGo (src : Src) (t : Tg) (cond : M Bool) (elt : M W) (D : Nat) (e0 : Env) : Nat → Nat → List O → Out W
  | 0, _, _ => .bad
  | n + 1, i, h => match src i h with
    | some (some w) => match t w e0 with
      | some e1 => match cond e1 h with
        | .ok b h2 => if b = true then match elt e1 h2 with
            | .ok y h3 => match lstAt h3 D with
              | some acc => if acc.length < lim then compGo src t cond elt D e0 n (i + 1) (h3.set D (.lst (acc ++ [y]))) else .bad
              | none => .bad
            | _ => .bad
          else compGo src t cond elt D e0 n (i + 1) h2
        | _ => .bad
      | none => .bad
    | some none => .ok (.ref D) h
    | none => .bad
def mComp (n : Nat) (own : List Nat) (it : M Src) (t : Tg) (cond : M Bool) (elt : M W) : M W := fun e h => (it e h).bnd fun src h => compGo src t cond elt h.length (wipeE e own) n 0 (h ++ [.lst []])
def mYes : M Bool := fun _ h => .ok true h
abbrev noW : WX := fun _ _ _ _ => False
/-- a block's part is read without a raise -/
theorem rd_pure {K : PySem.W.Frag} {α β : Type} {Rel : Hp → List Addr → β → α → Prop} {m : M α} {σ : L2.St} {H : Hp} {ρ : List Addr} {h : List O} {e : Env} {Q : β → Hp → Prop} {a : α} {h' : List O} (hr : HR K G H ρ h) (sr : SR K H ρ σ e) (hm : m e h = .ok a h')
    (k : ∀ ρ' H' v, Ext H ρ H' ρ' → HR K G H' ρ' h' → Rel H' ρ' v a → Q v H') : rd K G noW Rel m σ H Q := ⟨ρ, e, h, hr, sr, by rw [hm]; exact k⟩
theorem lc_post {K : PySem.W.Frag} {Wx : WX} {n : Nat} {own : List Nat} {it : M Src} {t : Tg} {g : TG} {cond : M Bool} {elt : M W} (ht : TgOk K G own g t) {σ : L2.St} {H : Hp} {Q : VK} (p : rd K G Wx (VRel K) (mComp n own it t cond elt) σ H Q) :
    tLc (rd K G Wx (JRel K G) it) g (rd K G noW BRel cond) (rd K G noW (VRel K) elt) own σ H Q := by
  refine rd.bnd (Rel := JRel K G) p fun H0 ρ0 e sr J H1 ρ1 h1 src x r q p1 => ?_
  intro D hD
  obtain ⟨r2, x2⟩ := r.new (o := .lst []) (u := .lst []) hD rfl fun _ => ⟨[], upd_same, .nil⟩
  have eD : (ρ1 ++ [D])[h1.length]? = some D := r.last
  have sr2 := (sr.mono x).mono x2
  refine ⟨fun i m H => ∃ ρ h, Ext (upd H1 D (.lst [])) (ρ1 ++ [D]) H ρ ∧ HR K G H ρ h ∧ Post K G (fun cls d H' => Wx cls d σ H') (VRel K) Q H ρ (compGo src t cond elt h1.length (wipeE e own) m i h), ⟨n, ρ1 ++ [D], h1 ++ [.lst []], Ext.refl r2, r2, p1.ext x2⟩, fun i m H p => ?_⟩
  obtain ⟨ρ, h, x1, hr, p⟩ := p
  obtain ⟨j1, j2⟩ := q i H ρ h (x2.trans x1) hr
  have srw := (sr2.mono x1).wipe own
  cases m with
  | zero => exact False.elim p
  | succ m =>
    unfold compGo at p
    cases hs : src i h with
    | none => rw [hs] at p; exact False.elim p
    | some o =>
      rw [hs] at p
      cases o with
      | none => exact .inl ⟨j1 hs, p ρ H _ (Ext.refl hr) hr (by show VR K H ρ (.ref D) (.ref h1.length); unfold VR; exact ⟨D, rfl, pre_get x1.pre eD⟩)⟩
      | some w =>
        obtain ⟨k1, k2⟩ := j2 w hs
        refine .inr ⟨k1, fun H' => ∃ ρ h, Ext (upd H1 D (.lst [])) (ρ1 ++ [D]) H' ρ ∧ HR K G H' ρ h ∧ Post K G (fun cls d H' => Wx cls d σ H') (VRel K) Q H' ρ (compGo src t cond elt h1.length (wipeE e own) m (i + 1) h), fun H' p => ⟨m, Nat.lt_succ_self m, p⟩, fun y H' hy => ?_⟩
        obtain ⟨x3, r3, vy⟩ := k2 y H' hy
        dsimp only at p
        cases hte : t w (wipeE e own) with
        | none => rw [hte] at p; exact False.elim p
        | some e1 =>
          rw [hte] at p
          refine ht H' ρ h _ _ e1 y w _ r3 (srw.mono x3) vy hte fun σ2 s2 hw => ⟨?_, ?_⟩
          · rw [hw]
            apply List.ext_getElem?
            intro j
            by_cases hj : j ∈ own
            · rw [wipe_in hj, wipe_in hj, L2.wipe_length]
            · rw [wipe_get hj]
          · dsimp only at p
            have p := p.ext x3
            cases hc : cond e1 h with
            | bad => rw [hc] at p; exact False.elim p
            | exc c q h' => rw [hc] at p; exact False.elim p
            | ok b h2 =>
              rw [hc] at p
              refine rd_pure r3 s2 hc fun ρ4 H4 b' x4 r4 eb => ?_
              cases eb
              cases b with
              | false => exact iteF ⟨ρ4, h2, (x1.trans x3).trans x4, r4, p.ext x4⟩
              | true =>
                dsimp only at p
                rw [if_pos rfl] at p
                refine iteT ?_
                cases he : elt e1 h2 with
                | bad => rw [he] at p; exact False.elim p
                | exc c q h' => rw [he] at p; exact False.elim p
                | ok y h3 =>
                  rw [he] at p
                  refine rd_pure r4 (s2.mono x4) he fun ρ5 H5 v x5 r5 rv => ?_
                  dsimp only at p
                  cases hl : lstAt h3 h1.length with
                  | none => rw [hl] at p; exact False.elim p
                  | some acc =>
                    rw [hl] at p
                    dsimp only at p
                    split at p
                    · rename_i hz
                      have xx := ((x1.trans x3).trans x4).trans x5
                      have eD5 : ρ5[h1.length]? = some D := pre_get xx.pre eD
                      obtain ⟨vs, q, z⟩ := r5.look eD5 (lstAt_some hl)
                      refine ⟨vs, q, by rw [z.length]; exact Nat.lt_of_lt_of_le hz (lim_size (Nat.le_refl _)), ?_⟩
                      obtain ⟨r6, x6⟩ := r5.write (o := .lst (vs ++ [v])) (u := .lst (acc ++ [y])) eD5 rfl fun x => ⟨_, upd_same, (z.append (.one rv)).mono x⟩
                      exact ⟨ρ5, _, xx.trans x6, r6, ((p.ext x4).ext x5).ext x6⟩
                    · exact False.elim p
end
end Den
set_option maxRecDepth 100000
/-! Comprehensions as expressions; calls of defs, defs, raise, a def handed a lambda that tells. -/
namespace Den
open PySem L2 PyProof.Rows
section
variable {G : Gx} {X : Cx} {e : Expr} {m : M W} {pos : Pos}
/-- a clause's tests -/
def STs (G : Gx) (X : Cx) (ifs : List Expr) (m : M Bool) : Prop := ∀ Wx, Takes X Wx → PTs X ifs (rd X.K G Wx BRel m)
theorem _root_.L2.PTs.imp {X : Cx} {e : List Expr} {t t' : TT} (p : PTs X e t) (i : ∀ σ H Q, t' σ H Q → t σ H Q) : PTs X e t' := ⟨fun pins s σ H Q I q => p.run pins s σ H Q I (i σ H Q q)⟩
theorem sts_nil : STs G X [] mYes := fun Wx tk => pts_nil.imp fun σ H Q p => by
  obtain ⟨ρ, e, h, hr, sr, p⟩ := p
  exact p.here hr rfl
theorem sts_one {c : Expr} {m : M Bool} (h : ST G X c m) : STs G X [c] m := fun Wx tk => pts_one (h Wx tk)
theorem se_lc {n : Nat} {elt tg iter : Expr} {ifs : List Expr} {scope : Scope} {own : List (Str × Nat)} {it : M Src} {t : Tg} {g : TG} {cond : M Bool} {melt : M W} (hN : X.N.Nodup) (hi : SI G X tg iter it) (ok : BlkOk X.N X.env.scope scope own)
    (hg : ∀ (s : Shared) (H : Hp) (C : Addr) (cl : List (Str × Addr)) (fp : List Addr), PG (X.blk s H scope (compEnvC scope cl C X.env) fp) tg g) (ht : TgOk X.K G (own.map (·.2)) g t)
    (hc : ∀ (s : Shared) (H : Hp) (C : Addr) (cl : List (Str × Addr)) (fp : List Addr), STs G (X.blk s H scope (compEnvC scope cl C X.env) fp) ifs cond)
    (he : ∀ (s : Shared) (H : Hp) (C : Addr) (cl : List (Str × Addr)) (fp : List Addr), SE G (X.blk s H scope (compEnvC scope cl C X.env) fp) elt melt)
    (hcalm : X.calm = true := by rfl) (hs : ∀ x, foldedSetIterable iter X.env x = pure x := by intro _; rfl) : SE G X (.ListComp elt [⟨tg, iter, ifs, 0⟩] scope pos) (mComp n (own.map (·.2)) it t cond melt) := fun Wx tk =>
  (pe_lc hcalm hN (hi Wx tk) ok hg (fun s H C cl fp => hc s H C cl fp noW L2.takes0) (fun s H C cl fp => he s H C cl fp noW L2.takes0) hs).imp fun σ H Q p => lc_post ht p
theorem ss_setLc {i n : Nat} {y : Str} {py spos : Pos} {elt tg iter : Expr} {ifs : List Expr} {scope : Scope} {own : List (Str × Nat)} {it : M Src} {t : Tg} {g : TG} {cond : M Bool} {melt : M W} (hN : X.N.Nodup) (hy : X.N[i]? = some y) (hyl : X.env.scope.names.lookup y = some .local)
    (hsw : swapsWith (.ListComp elt [⟨tg, iter, ifs, 0⟩] scope pos) (some (.Name y py)) spos.line X.env = pure true) (hi : SI G X tg iter it) (ok : BlkOk X.N X.env.scope scope own)
    (hg : ∀ (s : Shared) (H : Hp) (C : Addr) (cl : List (Str × Addr)) (fp : List Addr), PG (X.blk s H scope (compEnvC scope cl C X.env) fp) tg g) (ht : TgOk X.K G (own.map (·.2)) g t)
    (hc : ∀ (s : Shared) (H : Hp) (C : Addr) (cl : List (Str × Addr)) (fp : List Addr), STs G (X.blk s H scope (compEnvC scope cl C X.env) fp) ifs cond)
    (he : ∀ (s : Shared) (H : Hp) (C : Addr) (cl : List (Str × Addr)) (fp : List Addr), SE G (X.blk s H scope (compEnvC scope cl C X.env) fp) elt melt)
    (hcalm : X.calm = true := by rfl) (hs : ∀ x, foldedSetIterable iter X.env x = pure x := by intro _; rfl) : SS G X (.Assign [.Name y py] (.ListComp elt [⟨tg, iter, ifs, 0⟩] scope pos) spos) (mSet i (mComp n (own.map (·.2)) it t cond melt)) := fun Wx tk =>
  (ps_setLc hcalm hN hy hyl hsw (hi Wx tk) ok hg (fun s H C cl fp => hc s H C cl fp noW L2.takes0) (fun s H C cl fp => he s H C cl fp noW L2.takes0) hs).imp fun D σ H p =>
    lc_post ht (rdS.stm (Rel := VRel X.K) p fun H0 ρ0 e sr v H1 ρ1 h1 w x r q p1 => p1 ρ1 H1 _ (Ext.refl r) r ((sr.mono x).set i q))

/-! ### values without objects -/
mutual
def pureW : W → Bool
  | .ref _ => false
  | .rol _ => false
  | .tup xs => pureWs xs
  | _ => true
def pureWs : List W → Bool
  | [] => true
  | x :: xs => pureW x && pureWs xs
end
mutual
theorem VR.any {K : PySem.W.Frag} {H : Hp} {ρ ρ' : List Addr} : ∀ {v : V} {w : W}, pureW w = true → VR K H ρ v w → VR K H ρ' v w
  | v, .non, _, h => h
  | v, .bl _, _, h => h
  | v, .int _, _, h => h
  | v, .str _, _, h => h
  | v, .tup xs, p, h => by
    unfold VR at h ⊢
    obtain ⟨a, vs, e, q, r⟩ := h
    exact ⟨a, vs, e, q, VRs.any (by unfold pureW at p; exact p) r⟩
  | v, .rol xs, p, h => by unfold pureW at p; cases p
  | v, .ref n, p, h => by unfold pureW at p; cases p
theorem VRs.any {K : PySem.W.Frag} {H : Hp} {ρ ρ' : List Addr} : ∀ {vs : List V} {ws : List W}, pureWs ws = true → VRs K H ρ vs ws → VRs K H ρ' vs ws
  | vs, [], _, h => h
  | vs, w :: ws, p, h => by
    unfold pureWs at p
    rw [Bool.and_eq_true] at p
    unfold VRs at h ⊢
    obtain ⟨v, r, e, q, z⟩ := h
    exact ⟨v, r, e, VR.any p.1 q, VRs.any p.2 z⟩
end

/-! ### defs -/
def spOf (K : PySem.W.Frag) (G : Gx) (ar : Nat) (den : List W → List O → Out W) : Sp := fun vs H Q E => vs.length = ar ∧ ∃ ρ h ws, HR K G H ρ h ∧ VRs K H ρ vs ws ∧ Post K G E (VRel K) Q H ρ (den ws h)
/-- the def x does as den says -/
structure FnD (P : Program) (w : World) (K : PySem.W.Frag) (mg : Str → Option Value) (base : Heap) (G : Gx) (k : Nat) (x : Str) (ar : Nat) (den : List W → List O → Out W) : Prop where
  ex : ∃ f fd ps, FnOk P w K mg base (L2.CX P w) k f fd ps (spOf K G ar den) ∧ mg x = some (.ref f) ∧ PySem.W.keepIn K (.ref f) = true ∧ Binds K fd ps []
theorem FnD.mono {P : Program} {w : World} {K : PySem.W.Frag} {mg : Str → Option Value} {base : Heap} {k j ar : Nat} {x : Str} {den : List W → List O → Out W} (F : FnD P w K mg base G k x ar den) (h : k ≤ j) : FnD P w K mg base G j x ar den := by
  obtain ⟨f, fd, ps, F, a, b, c⟩ := F.ex
  exact ⟨f, fd, ps, F.mono h, a, b, c⟩
theorem se_call {k j ar : Nat} {x : Str} {den : List W → List O → Out W} {es : List Expr} {mr : M (List W)} {p : Pos} (F : FnD X.prog X.w X.K X.mg X.base G k x ar den) (hr : Room j X.A) (hk : k ≤ j) (hg : Gl X x) (ha : SA G X (e :: es) mr)
    (hdb : (x == ("__debug__" : Str)) = false := by decide) (he : starEach (e :: es) X.env = (false, eval e X.env) :: starEach es X.env := by rfl) (hpl : (backTo pos (starEach es X.env)).any (·.1) = false := by rfl)
    (hl : (e :: es).length = ar := by rfl) : SE G X (.Call (.Name x p) (e :: es) [] pos) (mCB (fun ws h => if ws.length = ar then den ws h else .bad) mr) := fun Wx tk => by
  obtain ⟨f, fd, ps, F, hm, hkp, hb⟩ := F.ex
  refine (pe_callS F (hr.mono hk) hg hm hkp hb (fun σ => passAt tk σ) (ha Wx tk) hdb he hpl).imp fun σ H Q p => rd.bnd (Rel := VsRel X.K) p fun H0 ρ0 e sr v H1 ρ1 h1 w x r q p1 => ?_
  dsimp only at p1
  split at p1
  · rename_i hw
    exact ⟨(VRs.length q).trans hw, ρ1, h1, w, r, q, p1⟩
  · exact False.elim p1
/-- the same where neither arguments nor the answer are objects: on a heap of its own -/
def pureRun (den : List W → List O → Out W) (ar : Nat) (ws : List W) (h : List O) : Out W :=
  if ws.length = ar ∧ pureWs ws = true then match den ws [] with
    | .ok w _ => if pureW w = true then .ok w h else .bad
    | .exc c none _ => .exc c none h
    | _ => .bad
  else .bad
theorem HR.sub {K : PySem.W.Frag} {H H' : Hp} {ρ ρ' : List Addr} {h h' : List O} (hr : HR K G H ρ h) (x : Ext H [] H' ρ') (r : HR K G H' ρ' h') : HR K G H' ρ h ∧ Ext H ρ H' ρ := by
  have x2 : Ext H ρ H' ρ := ⟨fun a o e t _ => x.fr a o e t (by simp), List.prefix_rfl, fun _ a b => absurd a b, hr.mu⟩
  refine ⟨⟨hr.len, hr.nd, fun n a o e1 e2 => (hr.ob n a o e1 e2).mono x2 ?_, r.tb⟩, x2⟩
  obtain ⟨u, hu, hm⟩ := (hr.ob n a o e1 e2).mut
  rw [hu]
  exact x.fr a u hu (by cases u <;> first | rfl | cases hm) (by simp)
theorem HR.none {K : PySem.W.Frag} {H : Hp} {ρ : List Addr} {h : List O} (hr : HR K G H ρ h) : HR K G H [] [] := ⟨rfl, by simp, fun n a o e => by simp at e, hr.tb⟩
theorem se_callP {k j ar : Nat} {x : Str} {den : List W → List O → Out W} {es : List Expr} {mr : M (List W)} {p : Pos} (F : FnD X.prog X.w X.K X.mg X.base G k x ar den) (hr : Room j X.A) (hk : k ≤ j) (hg : Gl X x) (ha : SA G X (e :: es) mr)
    (hdb : (x == ("__debug__" : Str)) = false := by decide) (he : starEach (e :: es) X.env = (false, eval e X.env) :: starEach es X.env := by rfl) (hpl : (backTo pos (starEach es X.env)).any (·.1) = false := by rfl) :
    SE G X (.Call (.Name x p) (e :: es) [] pos) (mCB (pureRun den ar) mr) := fun Wx tk => by
  obtain ⟨f, fd, ps, F, hm, hkp, hb⟩ := F.ex
  refine (pe_callS F (hr.mono hk) hg hm hkp hb (fun σ => passAt tk σ) (ha Wx tk) hdb he hpl).imp fun σ H Q p => rd.bnd (Rel := VsRel X.K) p fun H0 ρ0 e sr v H1 ρ1 h1 w x r q p1 => ?_
  unfold pureRun at p1
  split at p1
  · rename_i hw
    refine ⟨(VRs.length q).trans hw.1, [], [], w, r.none, VRs.any hw.2 q, ?_⟩
    cases hd : den w [] with
    | bad => rw [hd] at p1; exact False.elim p1
    | ok z h' =>
      rw [hd] at p1
      dsimp only at p1
      split at p1
      · rename_i hz
        intro ρ' H' v' x' r' q'
        obtain ⟨r2, x2⟩ := r.sub x' r'
        exact p1 ρ1 H' v' x2 r2 (VR.any hz q')
      · exact False.elim p1
    | exc c pl h' =>
      rw [hd] at p1
      cases pl with
      | some z => exact False.elim p1
      | none =>
        intro ρ' H' cls d x' r' q'
        obtain ⟨r2, x2⟩ := r.sub x' r'
        exact p1 ρ1 H' cls d x2 r2 q'
  · exact False.elim p1
/-- a def's body -/
def startE (n : Nat) (ws : List W) : Env := ws.map some ++ List.replicate (n - ws.length) none
def mFun (n : Nat) (m : Sm) (ws : List W) (h : List O) : Out W := match m (startE n ws) h with
  | .nx _ h' => .ok .non h'
  | .rt w h' => .ok w h'
  | .exc c p _ h' => .exc c p h'
  | _ => .bad
theorem sr_start {K : PySem.W.Frag} {H : Hp} {ρ : List Addr} {N : List Str} {vs : List V} {ws : List W} (r : VRs K H ρ vs ws) : SR K H ρ (L2.start N vs) (startE N.length ws) := by
  refine ⟨by unfold L2.start startE; simp [r.length], fun i w h => ?_⟩
  unfold startE at h
  by_cases hi : i < ws.length
  · rw [List.getElem?_append_left (by simpa using hi), List.getElem?_map] at h
    cases hw : ws[i]? with
    | none => rw [hw] at h; cases h
    | some w' =>
      rw [hw] at h
      have e : w' = w := Option.some.inj (Option.some.inj h)
      subst e
      obtain ⟨v, hv, rv⟩ := r.get hw
      refine ⟨v, ?_, rv⟩
      unfold L2.start
      rw [List.getElem?_append_left (by rw [List.length_map, r.length]; exact hi), List.getElem?_map, hv]
      rfl
  · rw [List.getElem?_append_right (by simpa using hi)] at h
    have h2 := List.mem_of_getElem? h
    have := (List.mem_replicate.mp h2).2
    cases this
theorem fn_den {P : Program} {w : World} {K : PySem.W.Frag} {mg : Str → Option Value} {base : Heap} {x qual : Str} {st : Stmt} {f : Addr} {fd : FuncData} {N ps : List Str} {k : Nat} {m : Sm} (F : Fun K x qual st f fd) (S : FnScope N ps (defScope st)) (hm : mg x = some (.ref f)) (hb : Binds K fd ps [])
    (body : ∀ (cdv : Value) (A : Around) (outer : List PySem.Env) (s : Shared) (H : Hp) (E : XK), Room k (A.deeper (envOfC qual (defScope st) s.heap.objs.size f cdv)) → SSs G (cxOf (L2.CX P w) P w K mg base N qual (defScope st) f cdv A outer s H E) (defBody st) m) :
    FnD P w K mg base G (k + 1) x ps.length (mFun N.length m) := ⟨f, fd, ps, F.okX S (fun vs H Q E h => h.1) (fun cdv A outer s H vs Q E hr h => by
  obtain ⟨hl, ρ, h, ws, h1, h2, p⟩ := h
  refine ⟨_, body cdv A outer s H E hr (fun cls d _ H => E cls d H) (takes_of rfl rfl rfl rfl), ρ, _, h, h1, sr_start h2, ?_⟩
  unfold mFun at p
  cases hm : m (startE N.length ws) h with
  | nx e h' => rw [hm] at p; exact fun ρ' H' σ' x r s => p ρ' H' .non x r vr_non
  | rt w h' => rw [hm] at p; exact p
  | exc c q e h' => rw [hm] at p; exact fun ρ' H' σ' cls d x r s => p ρ' H' cls d x r
  | bk e h' => rw [hm] at p; exact False.elim p
  | ct e h' => rw [hm] at p; exact False.elim p
  | bad => rw [hm] at p; exact False.elim p), hm, F.kp, hb⟩

/-! ### raise of an own class without __init__ -/
structure ExD (K : PySem.W.Frag) (mg : Str → Option Value) (G : Gx) (x : Str) (c : Nat) (C : Addr) : Prop where
  ca : G.ca c = some C
  ex : PySem.W.excIn K C [.type "ValueError", .type "Exception", .type "BaseException", .type "object"] "ValueError.__new__" = true
  mg : mg x = some (.ref C)
  kp : PySem.W.keepIn K (.ref C) = true
  sb : PySem.W.subIn K (.ref C) (.type "BaseException") = some true
  ty : PySem.W.typeIn K (.ref C) = some (.type "type")
def mRaise (c : Nat) : Sm := fun e h => .exc c none e h
theorem ss_raise {x msg : Str} {c : Nat} {C : Addr} {j : Nat} {p1 p2 p3 : Pos} (T : ExD X.K X.mg G x c C) (hg : Gl X x) (hc : X.calm = true := by rfl) (hdb : (x == ("__debug__" : Str)) = false := by decide) :
    SS G X (.Raise (some (.Call (.Name x p1) [.Constant (.str msg) j p2] [] p3)) none pos) (mRaise c) := fun Wx tk =>
  (ps_raise hc tk (pmk_own PySem.F.excBase_ValueError T.ex T.mg T.kp (raises_own T.sb T.ty) hg hdb)).imp fun D σ H p => by
    obtain ⟨ρ, e, h, hr, sr, p⟩ := p
    exact p ρ H σ (.ref C) none (Ext.refl hr) hr sr ⟨C, T.ca, rfl, rfl⟩
end
end Den
set_option maxRecDepth 100000
/-! x(lambda: e), x a def that calls what it got and tells what was raised; a law's end. -/
namespace Den
open PySem L2 PyProof.Rows LamX
/-- what the clauses wish: the text of the first that fits -/
def wTell (K : PySem.W.Frag) (Q : VK) : List (Value × Str) → XK
  | [] => fun _ _ _ => False
  | (c, ret) :: r => fun cls d H => ∃ b, PySem.W.exmOne K cls c = some b ∧ (b = true → Q (.str ret) H) ∧ (b = false → wTell K Q r cls d H)
def TTell (K : PySem.W.Frag) (l : List (Value × Str)) : (XK → Hp → VK → Prop) → Hp → VK → Prop := fun tl H Q => tl (wTell K Q l) H Q
/-- the clauses of such a def -/
inductive Tells (sg : Scope) (mg : Str → Option Value) : List ExceptHandler → List (Value × Str) → Prop
  | nil : Tells sg mg [] []
  | cons {x ret : Str} {c : Value} {np p1 p2 p3 : Pos} {j : Nat} {hds : List ExceptHandler} {l : List (Value × Str)} (hg : sg.names.lookup x = some .globalImplicit) (hd : (x == ("__debug__" : Str)) = false) (hm : mg x = some c) (r : Tells sg mg hds l) :
      Tells sg mg (.ExceptHandler (some (.Name x np)) none [.Return (some (.Constant (.str ret) j p1)) p2] p3 :: hds) ((c, ret) :: l)
section
variable {G : Gx} {X : Cx}
theorem tells_ok {sg : Scope} {Y : Cx} (hY : Y.env.scope = sg) : ∀ {hds : List ExceptHandler} {l : List (Value × Str)}, Tells sg Y.mg hds l → HdsOk Y hds (l.map fun p => (p.1, fun _ _ _ => tRet (tC (.str p.2))))
  | _, _, .nil => .nil
  | _, _, .cons hg hd hm r => .cons ⟨by show Y.env.scope.names.lookup _ = _; rw [hY]; exact hg, hd, .inl hm⟩ (fun a oe cls d pn _ _ => pss_one (ps_ret pe_str)) (tells_ok hY r)
theorem wTell_many {K : PySem.W.Frag} {D : Ends} {cls : Value} {d : Option Addr} {σ : L2.St} {H : Hp} : ∀ (l : List (Value × Str)), wTell K D.rt l cls d H → wMany K (fun _ _ _ _ => False) D (l.map fun p => (p.1, fun _ _ _ => tRet (tC (.str p.2)))) cls d σ H
  | [], h => h.elim
  | (c, ret) :: l, h => by
    obtain ⟨b, e, h1, h2⟩ := h
    exact ⟨b, e, fun hb a _ => h1 hb, fun hb => wTell_many l (h2 hb)⟩
theorem tell_gives {Ng : List Str} {x a q : Str} {sg : Scope} {g : Addr} {cdg : Value} {p1 p2 p3 p8 : Pos} {h₀ : ExceptHandler} {hds : List ExceptHandler} {l : List (Value × Str)} (ht : Tells sg X.mg (h₀ :: hds) l) (h0 : ∀ f : Addr, (L2.start Ng [V.ref f])[0]? = some (some (V.ref f))) :
    GivesTo X Ng x sg g cdg [.Try [.Return (some (.Call (.Name a p1) [] [] p2)) p3] (h₀ :: hds) [] [] p8] a q (TTell X.K l) := by
  intro f c' s H Q tl act hc h
  refine ⟨_, pss_one (ps_try_many (X := (cxOf C8.CX0 X.prog X.w X.K X.mg X.base Ng x sg g cdg X.A X.stack s H C8.E0).nox)
      (tb := fun W D σ H => ∃ Ech : XK, (∀ cls d σ' H', Ech cls d H' → W cls d σ' H') ∧ σ[0]? = some (some (.ref f)) ∧ H c' = some (CodeO c' q) ∧ tl Ech H D.rt)
      rfl rfl LamX.takes0 (fun W pn xe tk _ => ?_) (tells_ok (sg := sg) rfl ht)), ?_⟩
  · refine ⟨fun pins s' σ H' D I h' => ?_⟩
    obtain ⟨Ech, hW, h1, h2, h3⟩ := h'
    have hp := act W pn xe Ech p1 p2 tk hW
    have hq := pss_one (ps_ret (pos := p3) hp)
    exact hq.run pins s' σ H' D I ⟨h1, h2, h3⟩
  · exact ⟨wTell X.K Q l, fun cls d σ' H' hw => wTell_many (D := { nx := fun _ H' => Q .non H', rt := Q }) l hw, h0 f, hc, h⟩
def tellGo : List (Nat × List Nat) → Nat → Option (List Nat)
  | [], _ => none
  | (c', r) :: l, c => if c' = c then some r else tellGo l c
def mTold (l : List (Nat × List Nat)) (m : M W) : M W := fun e h => match m e h with
  | .ok w h' => .ok w h'
  | .exc c _ h' => match tellGo l c with
    | some r => .ok (.str r) h'
    | none => .bad
  | .bad => .bad
/-- the clauses by number -/
def TellN (K : PySem.W.Frag) (G : Gx) (l : List (Value × Str)) (ln : List (Nat × List Nat)) : Prop := ∀ (c : Nat) (C : Addr) (r : List Nat), G.ca c = some C → tellGo ln c = some r → ∀ (d : Option Addr) (H : Hp) (Q : VK), Q (.str (mkS r)) H → wTell K Q l (.ref C) d H
theorem tellN_nil {K : PySem.W.Frag} : TellN K G [] [] := fun c C r h e => by cases e
theorem tellN_cons {K : PySem.W.Frag} {C' : Addr} {c' : Nat} {r' : List Nat} {ret : Str} {l : List (Value × Str)} {ln : List (Nat × List Nat)} (hr : ret = mkS r') (hx : ∀ c C, G.ca c = some C → PySem.W.exmOne K (.ref C) (.ref C') = some (decide (c' = c))) (h : TellN K G l ln) :
    TellN K G ((.ref C', ret) :: l) ((c', r') :: ln) := fun c C r hC e d H Q q => by
  refine ⟨_, hx c C hC, fun hb => ?_, fun hb => ?_⟩
  · have e2 := of_decide_eq_true hb
    unfold tellGo at e
    rw [if_pos e2] at e
    cases e
    rw [hr]
    exact q
  · have e2 := of_decide_eq_false hb
    unfold tellGo at e
    rw [if_neg e2] at e
    exact h c C r hC e d H Q q
/-- x(lambda: body) -/
theorem se_told {x a : Str} {st : Stmt} {g : Addr} {fd : FuncData} {Ng : List Str} {c P : Addr} {k j : Nat} {params : Arguments} {body : Expr} {scope : Scope} {mb : M W} {l : List (Value × Str)} {ln : List (Nat × List Nat)} {p lpos pos : Pos} {p1 p2 p3 p8 : Pos} {h₀ : ExceptHandler} {hds : List ExceptHandler}
    (F : Fun X.K x x st g fd) (hb : L2.Binds X.K fd [a] []) (hm : X.mg x = some (.ref g)) (Sg : FnScope Ng [a] (defScope st)) (hbody0 : defBody st = [.Try [.Return (some (.Call (.Name a p1) [] [] p2)) p3] (h₀ :: hds) [] [] p8])
    (hNg : Ng[0]? = some a) (hva : Vis (defScope st) a) (h0 : ∀ f : Addr, (L2.start Ng [V.ref f])[0]? = some (some (V.ref f))) (ht : Tells (defScope st) X.mg (h₀ :: hds) l) (hN : TellN X.K G l ln)
    (hg : Gl X x) (TB : TabB X.base X.mg c P) (hcode : X.env.code = .ref c) (hmT : (P, X.env.qual ++ "<lambda>") ∈ G.T) (hu : ∀ p ∈ G.T, p.1 = P → p.2 = X.env.qual ++ "<lambda>") (hr : Room j X.A) (hk : k + 2 ≤ j) (L : LamS X.env.scope scope) (hdef : defaultsOf params X.env = ([], []))
    (hbind : ∀ (q : Str) (cl : List (Str × Addr)) (pm cv ctv : Value), bindArgs (PySem.W.kla_fn "<lambda>" q params body scope cl pm cv ctv) ⟨[], []⟩ = pure [])
    (hbody : ∀ (A : Around) (outer : List PySem.Env) (s : Shared) (H : Hp) (E : XK) (f c' : Addr), Room k (A.deeper (lamEnv X scope s.heap.objs.size f c')) → SE G (lamCx X A outer s H E scope f c') body mb)
    (hdb : (x == ("__debug__" : Str)) = false := by decide) (hd : (a == ("__debug__" : Str)) = false := by decide) (hcd : (a == ("__classdict__" : Str)) = false := by decide) :
    SE G X (.Call (.Name x p) [.Lambda params body scope lpos] [] pos) (mTold ln mb) := fun Wx tk => by
  obtain ⟨oc, od, kV, doc, pm, an, cdv, ct, osl, rfl, lk, hcd'⟩ := F.ex
  refine (pe_lamcall (T := G.T) (k := k) (t := fun E => rd X.K G (fun cls d _ H => E cls d H) (VRel X.K) mb) (TT := TTell X.K l) hg hm F.kp lk hcd' hb Sg hNg hva (by rw [hbody0]; exact tell_gives ht h0) TB hcode hmT hu (hr.mono hk) L hdef hbind
    (fun A outer s H E f c' hr' => hbody A outer s H E f c' hr' _ (takes_of rfl rfl rfl rfl)) hdb hd hcd).imp fun σ H Q p => ?_
  obtain ⟨ρ, e, h, h1, sr, p⟩ := p
  refine ⟨h1.tb, fun H1 eN T1 => ?_⟩
  have x : Ext H ρ H1 ρ := ⟨fun b o e t _ => eN b o e (by intro ps z; subst z; cases t), List.prefix_rfl, fun _ a b => absurd a b, h1.mu⟩
  have r1 : HR X.K G H1 ρ h := ⟨h1.len, h1.nd, fun n a o e1 e2 => (h1.ob n a o e1 e2).mono x (by
    obtain ⟨u, hu, hm⟩ := (h1.ob n a o e1 e2).mut
    rw [hu]
    exact eN a u hu (by intro ps z; subst z; cases hm)), T1⟩
  refine ⟨ρ, e, h, r1, sr.mono x, ?_⟩
  have p := p.ext x
  unfold mTold at p
  cases hb : mb e h with
  | bad => rw [hb] at p; exact False.elim p
  | ok w h' => rw [hb] at p; exact p
  | exc c pl h' =>
    rw [hb] at p
    dsimp only at p
    split at p
    · rename_i r hr'
      intro ρ' H' cls d x' r' q'
      obtain ⟨C, hC, rfl, _⟩ := q'
      exact hN c C r hC hr' d H' Q (p ρ' H' _ x' r' vr_str)
    · exact False.elim p
end

/-! ### the law's def, its code object known -/
theorem law_den {G : Gx} {P : Program} {w : World} {K : PySem.W.Frag} {mg : Str → Option Value} {base : Heap} {x : Str} {st : Stmt} {f c : Addr} {N ps : List Str} {k : Nat} {m : Sm} {oc : Value} {od an : Option Addr} {osl : Array (Option Value)} {kV doc pm ct : Value}
    (lk : K.lookup f = some ⟨oc, od, .func (PySem.W.fnOf x x (defArgs st) (defBody st) (defScope st) .none kV doc pm an (.ref c) ct), osl⟩) (hcd : PySem.W.codeIn K (.ref c) x = true) (S : FnScope N ps (defScope st))
    (body : ∀ (A : Around) (outer : List PySem.Env) (s : Shared) (H : Hp) (E : XK), Room k (A.deeper (envOfC x (defScope st) s.heap.objs.size f (.ref c))) → SSs G (cxOf (L2.CX P w) P w K mg base N x (defScope st) f (.ref c) A outer s H E) (defBody st) m) :
    FnOk P w K mg base (L2.CX P w) (k + 1) f (PySem.W.fnOf x x (defArgs st) (defBody st) (defScope st) .none kV doc pm an (.ref c) ct) ps (spOf K G ps.length (mFun N.length m)) :=
  fn_of lk hcd S (fun vs H Q E h => h.1) fun A outer s H vs Q E hr h => by
    obtain ⟨hl, ρ, h, ws, h1, h2, p⟩ := h
    refine ⟨_, body A outer s H E hr (fun cls d _ H => E cls d H) (takes_of rfl rfl rfl rfl), ρ, _, h, h1, sr_start h2, ?_⟩
    unfold mFun at p
    cases hm : m (startE N.length ws) h with
    | nx e h' => rw [hm] at p; exact fun ρ' H' σ' x r s => p ρ' H' .non x r vr_non
    | rt w h' => rw [hm] at p; exact p
    | exc c q e h' => rw [hm] at p; exact fun ρ' H' σ' cls d x r s => p ρ' H' cls d x r
    | bk e h' => rw [hm] at p; exact False.elim p
    | ct e h' => rw [hm] at p; exact False.elim p
    | bad => rw [hm] at p; exact False.elim p
/-- the script is handed in -/
def scriptW (ns : List Int) : W := .rol (ns.map W.int)
theorem ints_vrs {K : PySem.W.Frag} {H : Hp} {ρ : List Addr} : ∀ ns : List Int, VRs K H ρ (ns.map V.int) (ns.map W.int)
  | [] => .nil
  | n :: ns => .cons vr_int (ints_vrs ns)
theorem law_sp {G : Gx} {K : PySem.W.Frag} {H : Hp} {a : Addr} {ns : List Int} {den : List W → List O → Out W} (hT : LamX.Tabs G.T H) (hs : SqL K H a (ns.map V.int)) {h' : List O} (hd : den [scriptW ns] [] = .ok (.bl true) h') :
    spOf K G 1 den [.ref a] H (fun v _ => v = .bl true) fun _ _ _ => False := by
  refine ⟨rfl, [], [], [scriptW ns], ⟨rfl, by simp, fun n a o e => by simp at e, hT⟩, .one ?_, ?_⟩
  · unfold scriptW VR
    refine ⟨a, _, rfl, ?_, ints_vrs ns⟩
    rcases hs with hs | hs
    · exact .inl ⟨hs, by simp⟩
    · exact .inr fun H' => .inr hs
  · rw [hd]
    exact fun ρ' H' v x r q => VR.bl q
end Den
set_option maxRecDepth 100000
/-! More operations: tuples of names, min over texts, index, in. -/
namespace Den
open PySem L2 PyProof.Rows
/-- whether an error of the class at S is what «except S'» names -/
theorem exm_mk {K : PySem.W.Frag} {S S' : Addr} {b : Bool} (h1 : PySem.W.subIn K (.ref S') (.type "BaseException") = some true) (h2 : PySem.W.isClsIn K S' = true) (h3 : PySem.W.typeIn K (.ref S') = some (.type "type")) (h4 : PySem.W.subIn K (.ref S) (.ref S') = some b) :
    PySem.W.exmOne K (.ref S) (.ref S') = some b := by
  have e1 : (PySem.W.subIn K (.ref S') (.type "BaseException") == some true) = true := by rw [h1] <;> rfl
  have e2 : ((PySem.W.clsIn K S').isSome && PySem.W.typeIn K (.ref S') == some (.type "type")) = true := by
    have h2' : (PySem.W.clsIn K S').isSome = true := h2
    rw [h2', h3] <;> rfl
  show (if (PySem.W.subIn K (.ref S') (.type "BaseException") == some true) = true then (if ((PySem.W.clsIn K S').isSome && PySem.W.typeIn K (.ref S') == some (.type "type")) = true then PySem.W.subIn K (.ref S) (.ref S') else none) else none) = some b
  rw [if_pos e1, if_pos e2]
  exact h4
theorem room65 {k : Nat} {A : Around} (r : Room k A) : A.units + 65 < cLine := by have := r.un; omega
section
variable {G : Gx} {X : Cx}
theorem VRs.inv3 {K : PySem.W.Frag} {H : Hp} {ρ : List Addr} {vs : List V} {w w' w'' : W} (r : VRs K H ρ vs [w, w', w'']) : ∃ v v' v'', vs = [v, v', v''] ∧ VR K H ρ v w ∧ VR K H ρ v' w' ∧ VR K H ρ v'' w'' := by
  unfold VRs at r
  obtain ⟨v, l, rfl, q, z⟩ := r
  obtain ⟨v', v'', rfl, q', q''⟩ := VRs.inv2 z
  exact ⟨v, v', v'', rfl, q, q', q''⟩
theorem ss_par3 {i j l : Nat} {x y z : Str} {a b c : Expr} {mr : M (List W)} {px py pz pt pos : Pos} {kt k2 pt2} (hc : X.calm = true) (hN : X.N.Nodup) (hi : X.N[i]? = some x) (hj : X.N[j]? = some y) (hl : X.N[l]? = some z) (hij : i ≠ j) (hil : i ≠ l) (hjl : j ≠ l)
    (hx : X.env.scope.names.lookup x = some .local) (hy : X.env.scope.names.lookup y = some .local) (hz : X.env.scope.names.lookup z = some .local) (ha : SA G X [a, b, c] mr)
    (hw : swappedStores [.Tuple [.Name x px, .Name y py, .Name z pz] kt pt] (.Tuple [a, b, c] k2 pt2) X.env = pure (some [x, y, z]))
    (hs : swapsWithSole [.Tuple [.Name x px, .Name y py, .Name z pz] kt pt] (.Tuple [a, b, c] k2 pt2) pos.line X.env = pure false := by rfl) :
    SS G X (.Assign [.Tuple [.Name x px, .Name y py, .Name z pz] kt pt] (.Tuple [a, b, c] k2 pt2) pos) (mTs [i, j, l] mr) := fun Wx tk =>
  (ps_par3 hc hN hi hj hl hij hil hjl hx hy hz (ha Wx tk) hw hs).imp fun D σ H p => rdS.stm (Rel := VsRel X.K) p fun H0 ρ0 e sr v H1 ρ1 h1 w x r q p1 => by
    split at p1
    · rename_i hl
      match w, hl, q, p1 with
      | [w1, w2, w3], hl, q, p1 =>
        obtain ⟨v1, v2, v3, rfl, q1, q2, q3⟩ := VRs.inv3 q
        exact ⟨v1, v2, v3, rfl, p1 ρ1 H1 _ (Ext.refl r) r ((((sr.mono x).set i q1).set j q2).set l q3)⟩
    · exact False.elim p1
theorem tgTs_fold : ∀ (is : List Nat) (ws : List W) (e : Den.Env), is.length = ws.length → tgTs is ws e = some ((is.zip ws).foldl (fun e p => e.set p.1 (some p.2)) e)
  | [], [], e, _ => rfl
  | i :: is, w :: ws, e, h => by
    show tgTs is ws (e.set i (some w)) = _
    rw [tgTs_fold is ws _ (by simpa using h)]
    rfl
  | [], _ :: _, _, h => by cases h
  | _ :: _, [], _, h => by cases h
theorem ss_asgT {is : List Nat} {tg e : Expr} {g : TG} {vs : List Nat} {mr : M (List W)} {pos : Pos} (he : SE G X e (mTup mr)) (hg : PG X tg g) (ht : TgOk X.K G vs g (tgT is)) (hl : is.length ≤ lim)
    (hs : swapsWithSole [tg] e pos.line X.env = pure false := by rfl) (hw : swappedStores [tg] e X.env = pure none := by rfl)
    (h1 : (assignEach [tg] X.env).map (·.2) = [assign tg X.env] := by rfl) : SS G X (.Assign [tg] e pos) (mTs is mr) := fun Wx tk =>
  (ss_asg he hg ht hs hw h1 Wx tk).imp fun D σ H p => by
    obtain ⟨ρ, e, h, hr, sr, p⟩ := p
    refine ⟨ρ, e, h, hr, sr, ?_⟩
    unfold mTs at p
    unfold mAsg mTup
    cases hm : mr e h with
    | bad => rw [hm] at p; exact False.elim p
    | exc c q h' => rw [hm] at p; exact p
    | ok ws h' =>
      rw [hm] at p
      simp only [Out.bnd_ok, Out.stm_ok] at p ⊢
      split at p
      · rename_i hw
        rw [if_pos (by rw [← hw]; exact hl), Out.stm_ok]
        show PostS X.K G Wx D H ρ (match tgTs is ws e with | some e => .nx e h' | none => .bad)
        rw [tgTs_fold is ws e hw]
        exact p
      · exact False.elim p

/-! ### min -/
def minS : List (List Nat) → List Nat
  | [] => []
  | x :: r => r.foldl (fun a y => if y < a then y else a) x
theorem reads_str {h : Heap} {x : Str} {t : Tok} {d : PyData} {as : List Addr} (r : Reads h (.str x t) d as) : d = .str x := by
  cases r
  rfl
theorem minD_strs (x : List Nat) (r : List (List Nat)) : PySem.W.minD (.str (mkS x)) (r.map fun y => .str (mkS y)) = .str (mkS (minS (x :: r))) := by
  unfold PySem.W.minD
  show _ = PyData.str (mkS (r.foldl (fun a y => if y < a then y else a) x))
  induction r generalizing x with
  | nil => rfl
  | cons y r ih =>
    rw [List.map_cons, List.foldl_cons, List.foldl_cons]
    have e : (if PySem.W.dataLt (.str (mkS y)) (.str (mkS x)) = true then (PyData.str (mkS y)) else .str (mkS x)) = .str (mkS (if y < x then y else x)) := by
      rw [PySem.W.dataLt_str]
      have e2 : (mkS y).cps.toList = y := by simp
      have e3 : (mkS x).cps.toList = x := by simp
      rw [e2, e3]
      by_cases h : y < x
      · simp [h]
      · simp [h]
    rw [e]
    exact ih _
theorem strs_reads {h : Heap} : ∀ {l : List (List Nat)} {us : List Value}, Vals ((l.map mkS).map V.str) us → ∃ as, ReadsAll h us (l.map fun y => .str (mkS y)) as
  | [], us, r => by cases r; exact ⟨_, .nil⟩
  | x :: l, us, r => by
    cases r with
    | cons r1 r2 =>
      obtain ⟨t, rfl⟩ := r1
      obtain ⟨as, q⟩ := strs_reads (h := h) r2
      exact ⟨_, .cons (.str _ t) q⟩
theorem strs_alike (l : List (List Nat)) : PySem.W.AlikeAll (l.map fun y => .str (mkS y)) := by
  refine ⟨fun x hx y hy => ?_, fun x hx => ?_⟩
  · obtain ⟨a, _, rfl⟩ := List.mem_map.mp hx
    obtain ⟨b, _, rfl⟩ := List.mem_map.mp hy
    unfold PySem.W.alike
    rfl
  · obtain ⟨a, _, rfl⟩ := List.mem_map.mp hx
    intro z
    cases z
theorem strs_depth (l : List (List Nat)) : PyData.depthAll (l.map fun y => .str (mkS y)) = 0 := by
  induction l with
  | nil => rfl
  | cons x l ih =>
    rw [List.map_cons]
    unfold PyData.depthAll
    rw [ih]
    rfl
def rMinS (K : PySem.W.Frag) : List V → Hp → VK → Prop := fun vs H Q => ∃ (a : Addr) (l : List (List Nat)), vs = [V.ref a] ∧ SqL K H a ((l.map mkS).map V.str) ∧ l ≠ [] ∧ Q (.str (mkS (minS l))) H
theorem cr_minS (hc : X.calm = true) (hu : X.A.units + 64 < cLine) : CallR X (.builtin "min") (rMinS X.K) := by
  intro pins s σ H vs us Q I r h
  obtain ⟨a, l, rfl, hs, hne, q⟩ := h
  obtain ⟨its, rv, hl, _⟩ := I.list hs
  rw [Vals.ref1 r]
  cases l with
  | nil => exact absurd rfl hne
  | cons x l =>
    obtain ⟨as, rd⟩ := strs_reads (h := s.heap) rv
    have hu2 : X.A.units + 1 + PyData.depthAll ((x :: l).map fun y => .str (mkS y)) < cLine := by rw [strs_depth]; omega
    refine PySem.W.min_list_data (I.ok.hd hc) hl.isList (by simpa using rd) (by simpa using strs_alike (x :: l)) (by simpa using hu2) fun i v h' tk bs hv hr hk => ?_
    rw [minD_strs] at hr
    have hv2 : its[i]? = some v := by simpa using hv
    have hlen : (x :: l).length = its.length := by have := rv.length; simpa using this
    obtain ⟨hi, e⟩ := List.getElem?_eq_some_iff.mp hv2
    have e3 : (((x :: l).map mkS).map V.str)[i]? = some (V.str (mkS ((x :: l)[i]'(by rw [hlen]; exact hi)))) := by
      rw [List.getElem?_map, List.getElem?_map, List.getElem?_eq_getElem (by rw [hlen]; exact hi)]
      rfl
    obtain ⟨u, e4, ru⟩ := rv.get e3
    rw [hv2] at e4
    cases e4
    obtain ⟨t, rfl⟩ := ru
    have e5 := PyData.str.inj (reads_str hr)
    refine ⟨.str (mkS (minS (x :: l))), H, I.kept hk, ?_, q⟩
    rw [e5]
    exact ⟨t, rfl⟩
def oMin (ws : List W) (h : List O) : Out W := match ws with
  | [.int i, .int j] => .ok (.int (if j < i then j else i)) h
  | [x] => match sqL x h with
    | some xs => match intsOf xs with
      | some l => if 0 < l.length then .ok (.int (minI l)) h else .bad
      | none => match strsOf xs with
        | some l => if 0 < l.length then .ok (.str (minS l)) h else .bad
        | none => .bad
    | none => .bad
  | _ => .bad
theorem cas_min (hc : X.calm = true) (hu : X.A.units + 64 < cLine) : CaS G X (.builtin "min") oMin := ⟨_, CallR.or (call_min2 hc) (CallR.or (cr_min hc) (cr_minS hc hu)), fun E H ρ h vs ws Q hr r p => by
  unfold oMin at p
  split at p
  · obtain ⟨v, v', rfl, q, q'⟩ := r.inv2
    exact .inl ⟨_, _, by rw [q.int, q'.int], p.here hr vr_int⟩
  · obtain ⟨v, rfl, q⟩ := r.inv1
    split at p
    · rename_i xs hx
      obtain ⟨a, vs, rfl, q, z⟩ := sqL_ok hr q hx
      split at p
      · rename_i l hl
        split at p
        · rename_i h0
          refine .inr (.inl ⟨a, l, rfl, by rw [← intsOf_ok z hl]; exact q, h0, fun m h1 h2 => ?_⟩)
          rw [minI_ok h1 h2]
          exact p.here hr vr_int
        · exact False.elim p
      · split at p
        · rename_i l hl
          split at p
          · rename_i h0
            exact .inr (.inr ⟨a, l, rfl, by rw [← strsOf_ok z hl]; exact q, (by intro e; subst e; exact Nat.lt_irrefl _ h0), p.here hr vr_str⟩)
          · exact False.elim p
        · exact False.elim p
    · exact False.elim p
  · exact False.elim p⟩

/-! ### index, in -/
def idxOf {α : Type} [BEq α] (x : α) : List α → Option Nat
  | [] => none
  | y :: r => if y == x then some 0 else (idxOf x r).map (· + 1)
theorem idxOf_ok {α : Type} [BEq α] {x : α} : ∀ {l : List α} {j : Nat}, idxOf x l = some j → (∃ y, l[j]? = some y ∧ (y == x) = true) ∧ ∀ m y, m < j → l[m]? = some y → (y == x) = false
  | [], j, e => by cases e
  | y :: r, j, e => by
    unfold idxOf at e
    split at e
    · rename_i h
      cases e
      exact ⟨⟨y, rfl, h⟩, fun m z hm => by omega⟩
    · rename_i h
      cases hi : idxOf x r with
      | none => rw [hi] at e; cases e
      | some k =>
        rw [hi] at e
        cases e
        obtain ⟨⟨z, h1, h2⟩, h3⟩ := idxOf_ok hi
        refine ⟨⟨z, by simpa using h1, h2⟩, fun m w hm hw => ?_⟩
        cases m with
        | zero =>
          simp at hw
          subst hw
          simpa using h
        | succ m => exact h3 m w (Nat.lt_of_succ_lt_succ hm) (by simpa using hw)
def oIndex (x : W) (ws : List W) (h : List O) : Out W := match ws with
  | [.str s] => match sqL x h with
    | some xs => match strsOf xs with
      | some l => match idxOf s l with
        | some j => .ok (.int j) h
        | none => .bad
      | none => .bad
    | none => .bad
  | [.int i] => match sqL x h with
    | some xs => match intsOf xs with
      | some l => match idxOf i l with
        | some j => .ok (.int j) h
        | none => .bad
      | none => .bad
    | none => .bad
  | _ => .bad
theorem mkS_beq (a b : List Nat) : (mkS a == mkS b) = (a == b) := by
  by_cases e : a = b
  · subst e; simp
  · rw [beq_eq_false_iff_ne.mpr e, beq_eq_false_iff_ne]
    intro z
    exact e (by simpa using congrArg (fun s : Str => s.cps.toList) z)
theorem flat_strs (l : List (List Nat)) : ((l.map mkS).map V.str).all flatV = true := by
  rw [List.all_eq_true]
  intro v hv
  obtain ⟨s, _, rfl⟩ := List.mem_map.mp hv
  rfl
theorem flat_ints (l : List Int) : (l.map V.int).all flatV = true := by
  rw [List.all_eq_true]
  intro v hv
  obtain ⟨s, _, rfl⟩ := List.mem_map.mp hv
  rfl
theorem mes_index : MeS G X "list.index" oIndex := ⟨_, mt_index, fun E H ρ h x wx vs ws Q hr rx r p => by
  unfold oIndex at p
  split at p
  · rename_i s
    split at p
    · rename_i xs hx
      split at p
      · rename_i l hl
        split at p
        · rename_i j hj
          obtain ⟨y, rfl, ry⟩ := r.inv1
          obtain ⟨a, vs, rfl, q, z⟩ := sqL_ok hr rx hx
          obtain ⟨⟨t, h1, h2⟩, h3⟩ := idxOf_ok hj
          rw [strsOf_ok z hl] at q
          refine ⟨a, _, _, j, V.str (mkS t), rfl, by rw [ry.str], q, rfl, flat_strs l, by rw [List.getElem?_map, List.getElem?_map, h1]; rfl, ?_, fun m z' hm hz => ?_, p.here hr vr_int⟩
          · show (mkS t == mkS s) = true
            rw [mkS_beq]; exact h2
          · rw [List.getElem?_map, List.getElem?_map] at hz
            cases hm2 : l[m]? with
            | none => rw [hm2] at hz; cases hz
            | some u =>
              rw [hm2] at hz
              cases hz
              show (mkS u == mkS s) = false
              rw [mkS_beq]
              exact h3 m u hm hm2
        · exact False.elim p
      · exact False.elim p
    · exact False.elim p
  · rename_i s
    split at p
    · rename_i xs hx
      split at p
      · rename_i l hl
        split at p
        · rename_i j hj
          obtain ⟨y, rfl, ry⟩ := r.inv1
          obtain ⟨a, vs, rfl, q, z⟩ := sqL_ok hr rx hx
          obtain ⟨⟨t, h1, h2⟩, h3⟩ := idxOf_ok hj
          rw [intsOf_ok z hl] at q
          refine ⟨a, _, _, j, V.int t, rfl, by rw [ry.int], q, rfl, flat_ints l, by rw [List.getElem?_map, h1]; rfl, ?_, fun m z' hm hz => ?_, p.here hr vr_int⟩
          · exact h2
          · rw [List.getElem?_map] at hz
            cases hm2 : l[m]? with
            | none => rw [hm2] at hz; cases hz
            | some u =>
              rw [hm2] at hz
              cases hz
              exact h3 m u hm hm2
        · exact False.elim p
      · exact False.elim p
    · exact False.elim p
  · exact False.elim p⟩
end
end Den
set_option maxRecDepth 100000
/-! The plain functions, calculated: what each part gives, rules for loops. -/
namespace Den
open PySem L2
theorem nrfl {α : Sort u} {a b : α} (h : a = b) : a = b := h
section
variable {α : Type}
theorem cons_app {a : α} {as bs : List α} : (a :: as) ++ bs = a :: (as ++ bs) := nrfl rfl
theorem nil_app {as : List α} : [] ++ as = as := nrfl rfl
theorem len_cons {a : α} {as : List α} : (a :: as).length = as.length + 1 := nrfl rfl
theorem len_nil : ([] : List α).length = 0 := nrfl rfl
theorem set_z {a b : α} {as : List α} : (a :: as).set 0 b = b :: as := nrfl rfl
theorem set_s {a b : α} {as : List α} {n : Nat} : (a :: as).set (n + 1) b = a :: as.set n b := nrfl rfl
theorem zip_cc {β : Type} {a : α} {b : β} {as : List α} {bs : List β} : (a :: as).zip (b :: bs) = (a, b) :: as.zip bs := nrfl rfl
theorem zip_nn {β : Type} : ([] : List α).zip ([] : List β) = [] := nrfl rfl
theorem foldl_c {β : Type} {f : β → α → β} {b : β} {a : α} {as : List α} : (a :: as).foldl f b = as.foldl f (f b a) := nrfl rfl
theorem foldl_n {β : Type} {f : β → α → β} {b : β} : ([] : List α).foldl f b = b := nrfl rfl
theorem ite_t {a b : α} : (if true = true then a else b) = a := nrfl rfl
theorem ite_T {a b : α} {d : Decidable True} : @ite α True d a b = a := if_pos trivial
theorem ite_F {a b : α} {d : Decidable False} : @ite α False d a b = b := if_neg id
theorem ite_f {a b : α} : (if false = true then a else b) = b := nrfl rfl
end
section
variable {α β : Type} {a b c : M W} {t u : M Bool} {op op' : W → W → List O → Out W} {e : Env} {h : List O} {i j k : Int} {w : W}
theorem mVar_z {r : Env} : mVar 0 (some w :: r) h = .ok w h := nrfl rfl
theorem mVar_s {n : Nat} {x : Option W} {r : Env} : mVar (n + 1) (x :: r) h = mVar n r h := by simp [mVar]
theorem ok_bnd {x : α} {f : α → List O → Out β} : (Out.ok x h).bnd f = f x h := nrfl rfl
theorem ok_stm {x : α} {f : α → List O → SOut} : (Out.ok x h).stm e f = f x h := nrfl rfl
theorem exc_bnd {n : Nat} {p : Option W} {f : α → List O → Out β} : (Out.exc n p h).bnd f = .exc n p h := nrfl rfl
theorem exc_stm {n : Nat} {p : Option W} {f : α → List O → SOut} : (Out.exc n p h).stm e f = .exc n p e h := nrfl rfl
theorem ap_C : mC w e h = .ok w h := nrfl rfl
theorem ap_Op : mOp op a b e h = (a e h).bnd fun x h => (b e h).bnd fun y h => op x y h := nrfl rfl
theorem ap_Un {op : W → List O → Out W} : mUn op a e h = (a e h).bnd fun x h => op x h := nrfl rfl
theorem ap_B : mB a e h = (a e h).bnd asB := nrfl rfl
theorem ap_Chain : mChain op op' a b c e h = (a e h).bnd fun x h => (b e h).bnd fun y h => (op x y h).bnd fun z h => (asB z h).bnd fun k h => if k = true then (c e h).bnd fun w h => op' y w h else .ok (.bl false) h := nrfl rfl
theorem ap_asB {x : Bool} : asB (.bl x) h = .ok x h := nrfl rfl
theorem ap_Tru : mTru a e h = (a e h).bnd truW := nrfl rfl
theorem ap_And : mAnd t u e h = (t e h).bnd fun c h => if c = true then u e h else .ok false h := nrfl rfl
theorem ap_Or : mOr t u e h = (t e h).bnd fun c h => if c = true then .ok true h else u e h := nrfl rfl
theorem ap_Not : mNot t e h = (t e h).bnd fun c h => .ok (!c) h := nrfl rfl
theorem ap_AndV : mAndV a b e h = (a e h).bnd fun x h => (truW x h).bnd fun k h => if k = true then b e h else .ok x h := nrfl rfl
theorem ap_OrV : mOrV a b e h = (a e h).bnd fun x h => (truW x h).bnd fun k h => if k = true then .ok x h else b e h := nrfl rfl
theorem ap_NotV : mNotV a e h = (a e h).bnd fun x h => (truW x h).bnd fun k h => .ok (.bl (!k)) h := nrfl rfl
theorem ap_If : mIf t a b e h = (t e h).bnd fun c h => if c = true then a e h else b e h := nrfl rfl
theorem ap_Nil : mNil e h = .ok [] h := nrfl rfl
theorem ap_Cons {r : M (List W)} : mCons a r e h = (a e h).bnd fun x h => (r e h).bnd fun xs h => .ok (x :: xs) h := nrfl rfl
theorem ap_Tup {m : M (List W)} : mTup m e h = (m e h).bnd fun xs h => if xs.length ≤ 1000000 then .ok (.tup xs) h else .bad := nrfl rfl
theorem ap_Lst {m : M (List W)} : mLst m e h = (m e h).bnd fun xs h => if xs.length ≤ 1000000 then .ok (.ref h.length) (h ++ [.lst xs]) else .bad := nrfl rfl
theorem ap_CB {f : List W → List O → Out W} {m : M (List W)} : mCB f m e h = (m e h).bnd fun ws h => f ws h := nrfl rfl
theorem ap_Meth {T : String} {f : W → List W → List O → Out W} {m : M (List W)} : mMeth T f a m e h = (a e h).bnd fun x h => if tyW T x h = true then (m e h).bnd fun ws h => f x ws h else .bad := nrfl rfl
theorem ap_Part : mPart a e h = (a e h).bnd fun w h => match w with
  | .int i => .ok (some i) h
  | _ => .bad := nrfl rfl
theorem ap_NoPart : mNoPart e h = .ok none h := nrfl rfl
theorem ap_Sl {lo hi : M (Option Int)} : mSl a lo hi e h = (a e h).bnd fun x h => (lo e h).bnd fun l h => (hi e h).bnd fun u h => oSl x l u h := nrfl rfl
theorem ap_Yes : mYes e h = .ok true h := nrfl rfl
theorem ap_Told {l : List (Nat × List Nat)} : mTold l a e h = match a e h with
  | .ok w h' => .ok w h'
  | .exc c _ h' => match tellGo l c with
    | some r => .ok (.str r) h'
    | none => .bad
  | .bad => .bad := nrfl rfl
/-! operations -/
theorem add_ii : oAdd (.int i) (.int j) h = .ok (.int (i + j)) h := nrfl rfl
theorem add_ss {s r : List Nat} (hl : s.length + r.length ≤ 1000000) : oAdd (.str s) (.str r) h = .ok (.str (s ++ r)) h := by unfold oAdd; exact if_pos hl
theorem sub_ii : oSub (.int i) (.int j) h = .ok (.int (i - j)) h := nrfl rfl
theorem neg_i : oNeg (.int i) h = .ok (.int (-i)) h := nrfl rfl
set_option exponentiation.threshold 100 in
theorem mulOk_of (h1 : i.natAbs < 2 ^ 50000000) (h2 : j.natAbs < 2 ^ 49999999) : mulOk i j = true := by
  unfold mulOk
  have l1 : i.natAbs.log2 < 50000000 := by
    by_cases z : i.natAbs = 0
    · rw [z]; decide
    · exact (Nat.log2_lt z).2 h1
  have l2 : j.natAbs.log2 < 49999999 := by
    by_cases z : j.natAbs = 0
    · rw [z]; decide
    · exact (Nat.log2_lt z).2 h2
  exact decide_eq_true (by omega)
theorem small_pow {n m : Nat} (h : n < 2 ^ 64) (hm : 64 ≤ m) : n < 2 ^ m := Nat.lt_of_lt_of_le h (Nat.pow_le_pow_right (by decide) hm)
theorem mul_ii (h1 : -18446744073709551616 < i ∧ i < 18446744073709551616) (h2 : -18446744073709551616 < j ∧ j < 18446744073709551616) : oMul (.int i) (.int j) h = .ok (.int (i * j)) h := by
  unfold oMul
  exact if_pos (mulOk_of (small_pow (by omega) (by decide)) (small_pow (by omega) (by decide)))
theorem fdiv_ii (h1 : 0 < j) (h2 : j < 18446744073709551616) : oFdiv (.int i) (.int j) h = .ok (.int (i / j)) h := by
  unfold oFdiv
  refine if_pos ⟨h1, ?_⟩
  have z : j.natAbs ≠ 0 := by omega
  exact (Nat.log2_lt z).2 (small_pow (by omega) (by decide))
theorem mod_ii (h1 : 0 < j) : oMod (.int i) (.int j) h = .ok (.int (i % j)) h := by unfold oMod; exact if_pos h1
theorem beq_dec {α : Type} [DecidableEq α] (x y : α) : (x == y) = decide (x = y) := by
  by_cases e : x = y <;> simp [e]
theorem eq_ii : oEq (.int i) (.int j) h = .ok (.bl (decide (i = j))) h := by show Out.ok (W.bl (i == j)) h = _; rw [beq_dec]
theorem ne_ii : oNe (.int i) (.int j) h = .ok (.bl (decide (i ≠ j))) h := by show Out.ok (W.bl (!(i == j))) h = _; rw [beq_dec, decide_not]
theorem eq_ss {s r : List Nat} : oEq (.str s) (.str r) h = .ok (.bl (decide (s = r))) h := by show Out.ok (W.bl (s == r)) h = _; by_cases e : s = r <;> simp [e]
theorem ne_ss {s r : List Nat} : oNe (.str s) (.str r) h = .ok (.bl (decide (s ≠ r))) h := by show Out.ok (W.bl (!(s == r))) h = _; by_cases e : s = r <;> simp [e]
theorem lt_ii : oLt (.int i) (.int j) h = .ok (.bl (decide (i < j))) h := nrfl rfl
theorem le_ii : oLe (.int i) (.int j) h = .ok (.bl (decide (i ≤ j))) h := nrfl rfl
theorem gt_ii : oGt (.int i) (.int j) h = .ok (.bl (decide (j < i))) h := nrfl rfl
theorem ge_ii : oGe (.int i) (.int j) h = .ok (.bl (decide (j ≤ i))) h := nrfl rfl
theorem lt_ss {s r : List Nat} : oLt (.str s) (.str r) h = .ok (.bl (decide (s < r))) h := nrfl rfl
theorem gt_ss {s r : List Nat} : oGt (.str s) (.str r) h = .ok (.bl (decide (r < s))) h := nrfl rfl
theorem le_ss {s r : List Nat} : oLe (.str s) (.str r) h = .ok (.bl (decide (¬ r < s))) h := by show Out.ok (W.bl (!decide (r < s))) h = _; rw [decide_not]
theorem ge_ss {s r : List Nat} : oGe (.str s) (.str r) h = .ok (.bl (decide (¬ s < r))) h := by show Out.ok (W.bl (!decide (s < r))) h = _; rw [decide_not]
theorem len_s {s : List Nat} (hl : s.length ≤ 1000000) : oLen [.str s] h = .ok (.int s.length) h := by unfold oLen; exact if_pos hl
theorem len_t {xs : List W} : oLen [.tup xs] h = .ok (.int xs.length) h := nrfl rfl
def withL {α : Type} (o : Option (List W)) (f : List W → Out α) : Out α := match o with
  | some xs => f xs
  | none => .bad
theorem withL_s {α : Type} {xs : List W} {f : List W → Out α} : withL (some xs) f = f xs := nrfl rfl
theorem len_r {n : Nat} {xs : List W} (hn : lstAt h n = some xs) : oLen [.ref n] h = .ok (.int xs.length) h := by unfold oLen; dsimp only; rw [lstAt_some hn]
theorem abs_i : oAbs [.int i] h = .ok (.int (if i < 0 then -i else i)) h := nrfl rfl
theorem int_i : oInt [.int i] h = .ok (.int i) h := nrfl rfl
theorem int_b {x : Bool} : oInt [.bl x] h = .ok (.int (if x then 1 else 0)) h := nrfl rfl
theorem max_ii : oMax [.int i, .int j] h = .ok (.int (if j > i then j else i)) h := nrfl rfl
theorem min_ii : oMin [.int i, .int j] h = .ok (.int (if j < i then j else i)) h := nrfl rfl
theorem atI_nat {α : Type} {xs : List α} {i : Int} (h0 : 0 ≤ i) (h1 : i < xs.length) : L2.atI xs i = some (xs[i.toNat]'(by omega)) := by
  unfold L2.atI L2.ixN
  rw [if_pos h0, if_pos h1]
  show xs[i.toNat]? = _
  exact List.getElem?_eq_getElem (by omega)
theorem atI_neg {α : Type} {xs : List α} {i : Int} (h0 : i < 0) (h1 : -(xs.length : Int) ≤ i) : L2.atI xs i = some (xs[(i + xs.length).toNat]'(by omega)) := by
  unfold L2.atI L2.ixN
  rw [if_neg (by omega), if_pos h1]
  show xs[(i + xs.length).toNat]? = _
  exact List.getElem?_eq_getElem (by omega)
theorem ix_s {s : List Nat} (h0 : 0 ≤ i) (h1 : i < s.length) (hl : s.length ≤ 1000000) : oIx (.str s) (.int i) h = .ok (.str [s.getD i.toNat 0]) h := by
  unfold oIx
  dsimp only
  rw [if_pos hl, atI_nat h0 h1]
  rw [List.getD_eq_getElem?_getD, List.getElem?_eq_getElem (by omega)]
  rfl
def ixL (xs : List W) (i : Int) (h : List O) : Out W := match L2.atI xs i with
  | some w => .ok w h
  | none => .bad
theorem ixL_ok {xs : List W} (h0 : 0 ≤ i) (h1 : i < xs.length) : ixL xs i h = .ok (xs.getD i.toNat .non) h := by
  unfold ixL
  rw [atI_nat h0 h1, List.getD_eq_getElem?_getD, List.getElem?_eq_getElem (by omega)]
  rfl
theorem ixL_0 {x : W} {r : List W} : ixL (x :: r) 0 h = .ok x h := by rw [ixL_ok (by omega) (by simp)]; rfl
theorem ixL_1 {x y : W} {r : List W} : ixL (x :: y :: r) 1 h = .ok y h := by rw [ixL_ok (by omega) (by simp; omega)]; rfl
theorem ixL_2 {x y z : W} {r : List W} : ixL (x :: y :: z :: r) 2 h = .ok z h := by rw [ixL_ok (by omega) (by simp; omega)]; rfl
theorem ixL_3 {x y z u : W} {r : List W} : ixL (x :: y :: z :: u :: r) 3 h = .ok u h := by rw [ixL_ok (by omega) (by simp; omega)]; rfl
theorem ix_r {n : Nat} : oIx (.ref n) (.int i) h = withL (lstAt h n) fun xs => ixL xs i h := by
  unfold oIx withL
  dsimp only [sqA]
  all_goals (cases lstAt h n <;> rfl)
theorem getL_r {n : Nat} : oGetL (.ref n) (.int i) h = withL (lstAt h n) fun xs => ixL xs i h := by
  unfold oGetL withL
  dsimp only [sqL]
  all_goals (cases lstAt h n <;> rfl)
theorem ix_tL {xs : List W} : oIx (.tup xs) (.int i) h = ixL xs i h := nrfl rfl
theorem ix_t {xs : List W} (h0 : 0 ≤ i) (h1 : i < xs.length) : oIx (.tup xs) (.int i) h = .ok (xs.getD i.toNat .non) h := by
  unfold oIx
  dsimp only [sqA]
  rw [atI_nat h0 h1, List.getD_eq_getElem?_getD, List.getElem?_eq_getElem (by omega)]
  rfl
def setL (n : Nat) (xs : List W) (i : Int) (w : W) (h : List O) : Out Unit := match L2.ixN xs.length i with
  | some j => .ok () (h.set n (.lst (xs.set j w)))
  | none => .bad
theorem setL_ok {n : Nat} {xs : List W} (h0 : 0 ≤ i) (h1 : i < xs.length) : setL n xs i w h = .ok () (h.set n (.lst (xs.set i.toNat w))) := by
  unfold setL L2.ixN
  rw [if_pos h0, if_pos h1]
theorem setL_0 {n : Nat} {x : W} {r : List W} : setL n (x :: r) 0 w h = .ok () (h.set n (.lst (w :: r))) := by rw [setL_ok (by omega) (by simp)]; rfl
theorem setL_1 {n : Nat} {x y : W} {r : List W} : setL n (x :: y :: r) 1 w h = .ok () (h.set n (.lst (x :: w :: r))) := by rw [setL_ok (by omega) (by simp; omega)]; rfl
theorem setL_2 {n : Nat} {x y z : W} {r : List W} : setL n (x :: y :: z :: r) 2 w h = .ok () (h.set n (.lst (x :: y :: w :: r))) := by rw [setL_ok (by omega) (by simp; omega)]; rfl
theorem set_r {n : Nat} : oSet (.ref n) (.int i) w h = withL (lstAt h n) fun xs => setL n xs i w h := by
  unfold oSet withL
  dsimp only
  all_goals (cases lstAt h n <;> rfl)
theorem app_r {n : Nat} : oAppend (.ref n) [w] h = withL (lstAt h n) fun xs => if xs.length < 1000000 then .ok .non (h.set n (.lst (xs ++ [w]))) else .bad := by
  unfold oAppend withL
  dsimp only
  all_goals (cases lstAt h n <;> rfl)
theorem lst_z {xs : List W} {r : List O} : lstAt (.lst xs :: r) 0 = some xs := nrfl rfl
theorem lst_s {o : O} {r : List O} {n : Nat} : lstAt (o :: r) (n + 1) = lstAt r n := by unfold lstAt; rw [List.getElem?_cons_succ]
theorem lst_last {xs : List W} : lstAt (h ++ [.lst xs]) h.length = some xs := by unfold lstAt; rw [List.getElem?_append_right (Nat.le_refl _), Nat.sub_self]; rfl
theorem lst_old {n : Nat} {r : List O} (hl : n < h.length) : lstAt (h ++ r) n = lstAt h n := by unfold lstAt; rw [List.getElem?_append_left hl]
theorem lst_set {n : Nat} {xs : List W} (hl : n < h.length) : lstAt (h.set n (.lst xs)) n = some xs := by unfold lstAt; rw [List.getElem?_set_self hl]
theorem lst_ne {n m : Nat} {o : O} (hl : n ≠ m) : lstAt (h.set n o) m = lstAt h m := by unfold lstAt; rw [List.getElem?_set_ne hl]
theorem lst_lt {n : Nat} {xs : List W} (e : lstAt h n = some xs) : n < h.length := by
  rcases Nat.lt_or_ge n h.length with x | x
  · exact x
  · have e2 := lstAt_some e
    rw [List.getElem?_eq_none x] at e2; cases e2
theorem iadd_ii : oIadd (.int i) (.int j) h = .ok (.int (i + j)) h := nrfl rfl
theorem tuple_r {n : Nat} : oTuple [.ref n] h = withL (lstAt h n) fun xs => .ok (.tup xs) h := by
  unfold oTuple withL
  dsimp only [sqL]
  all_goals (cases lstAt h n <;> rfl)
theorem mul_ri {n : Nat} {k : Int} (h1 : -4611686018427387904 ≤ k) (h2 : k < 4611686018427387904) : oMul (.ref n) (.int k) h = withL (lstAt h n) fun a => if a.length * k.toNat ≤ 1000000 then .ok (.ref h.length) (h ++ [.lst (List.replicate k.toNat a).flatten]) else .bad := by
  unfold oMul withL
  dsimp only
  cases lstAt h n with
  | none => rfl
  | some a =>
    dsimp only
    by_cases hl : a.length * k.toNat ≤ 1000000
    · rw [if_pos hl, if_pos ⟨by omega, by omega, hl⟩]
    · rw [if_neg hl, if_neg (fun x => hl x.2.2)]
theorem sl_s {s : List Nat} {lo hi : Option Int} (hl : s.length ≤ 1000000) : oSl (.str s) lo hi h = .ok (.str (cutW s lo hi)) h := by unfold oSl; exact if_pos hl
theorem cut_from {α : Type} {xs : List α} {i : Int} (h0 : 0 ≤ i) : cutW xs (some i) none = xs.drop i.toNat := by
  unfold cutW HT.sIx
  dsimp only
  rw [if_neg (by omega)]
  by_cases hl : i.toNat ≤ xs.length
  · rw [Nat.min_eq_left hl, List.take_of_length_le (by simp)]
  · rw [Nat.min_eq_right (by omega), Nat.sub_self, List.take_zero, List.drop_eq_nil_of_le (by omega)]
theorem cut_to {α : Type} {xs : List α} {i : Int} (h0 : 0 ≤ i) : cutW xs none (some i) = xs.take i.toNat := by
  unfold cutW HT.sIx
  dsimp only
  rw [if_neg (by omega)]
  rw [List.drop_zero, Nat.sub_zero]
  by_cases hl : i.toNat ≤ xs.length
  · rw [Nat.min_eq_left hl]
  · rw [Nat.min_eq_right (by omega), List.take_of_length_le (Nat.le_refl _), List.take_of_length_le (by omega)]
theorem cut_mid {α : Type} {xs : List α} {i j : Int} (h0 : 0 ≤ i) (h1 : i ≤ j) (h2 : j ≤ xs.length) : cutW xs (some i) (some j) = (xs.drop i.toNat).take (j - i).toNat := by
  unfold cutW HT.sIx
  dsimp only
  rw [if_neg (by omega), if_neg (by omega), Nat.min_eq_left (by omega), Nat.min_eq_left (by omega)]
  congr 1
  omega
end
/-! ### statements -/
def SOut.seq (o : SOut) (b : Sm) : SOut := match o with
  | .nx e h => b e h
  | .rt w h => .rt w h
  | .bk e h => .bk e h
  | .ct e h => .ct e h
  | .exc c p e h => .exc c p e h
  | .bad => .bad
section
variable {s b : Sm} {e : Env} {h : List O} {m : M W} {t : M Bool} {ml : M (List W)} {w : W}
theorem ap_Seq : mSeq s b e h = (s e h).seq b := nrfl rfl
theorem nx_seq : (SOut.nx e h).seq b = b e h := nrfl rfl
theorem rt_seq : (SOut.rt w h).seq b = .rt w h := nrfl rfl
theorem ct_seq : (SOut.ct e h).seq b = .ct e h := nrfl rfl
theorem bk_seq : (SOut.bk e h).seq b = .bk e h := nrfl rfl
theorem exc_seq {c : Nat} {p : Option W} : (SOut.exc c p e h).seq b = .exc c p e h := nrfl rfl
theorem ap_Raise {c : Nat} : mRaise c e h = .exc c none e h := nrfl rfl
theorem ap_Skip : mSkip e h = .nx e h := nrfl rfl
theorem ap_Brk : mBrk e h = .bk e h := nrfl rfl
theorem ap_Cnt : mCnt e h = .ct e h := nrfl rfl
theorem ap_Drop : mDrop m e h = (m e h).stm e fun _ h => .nx e h := nrfl rfl
theorem ap_Ret : mRet m e h = (m e h).stm e fun w h => .rt w h := nrfl rfl
theorem ap_IfS : mIfS t s b e h = (t e h).stm e fun c h => if c = true then s e h else b e h := nrfl rfl
theorem ap_Set {i : Nat} : mSet i m e h = (m e h).stm e fun w h => .nx (e.set i (some w)) h := nrfl rfl
theorem ap_Ts {is : List Nat} : mTs is ml e h = (ml e h).stm e fun ws h => if is.length = ws.length then .nx ((is.zip ws).foldl (fun e p => e.set p.1 (some p.2)) e) h else .bad := nrfl rfl
theorem ap_AsgT {is : List Nat} : mAsg (tgT is) m e h = (m e h).stm e fun w h => match tgT is w e with
  | some e => .nx e h
  | none => .bad := nrfl rfl
theorem tgT_t {is : List Nat} {ws : List W} : tgT is (.tup ws) e = tgTs is ws e := nrfl rfl
theorem tgTs_n : tgTs [] [] e = some e := nrfl rfl
theorem tgTs_c {i : Nat} {is : List Nat} {ws : List W} : tgTs (i :: is) (w :: ws) e = tgTs is ws (e.set i (some w)) := nrfl rfl
theorem ap_Aug {i : Nat} {f : W → W → List O → Out W} : mAug i f m e h = (mVar i e h).stm e fun x _ => (m e h).stm e fun y h => (f x y h).stm e fun z h => .nx (e.set i (some z)) h := by
  unfold mAug mVar
  rcases hx : e[i]? with _ | (_ | x) <;> rfl
theorem ap_SetI {f : W → W → W → List O → Out Unit} {mo mi : M W} : mSetI f mo mi m e h = (m e h).stm e fun v h => (mo e h).stm e fun o h => (mi e h).stm e fun i h => (f o i v h).stm e fun _ h => .nx e h := nrfl rfl
theorem ap_AugI {g f : W → W → List O → Out W} {st : W → W → W → List O → Out Unit} {mo mi : M W} : mAugI g f st mo mi m e h = (mo e h).stm e fun o h => (mi e h).stm e fun i h => (g o i h).stm e fun x h =>
  (m e h).stm e fun y h => (f x y h).stm e fun z h => (st o i z h).stm e fun _ h => .nx e h := nrfl rfl
end
/-! ### reading on: what is asked of the rest -/
def Ev {α : Type} (o : Out α) (Q : α → List O → Prop) : Prop := match o with
  | .ok a h => Q a h
  | _ => False
def Sv (o : SOut) (Q : SOut → Prop) : Prop := Q o
section
variable {α β : Type} {o : Out α} {f : α → List O → Out β} {g : α → List O → SOut} {Q : β → List O → Prop} {R : SOut → Prop} {e : Env} {h : List O} {s : SOut} {b : Sm}
theorem ev_ok {x : α} {Q : α → List O → Prop} (q : Q x h) : Ev (.ok x h) Q := q
theorem ev_okE {x : α} {Q : α → List O → Prop} : Ev (.ok x h) Q = Q x h := nrfl rfl
theorem ev_bnd (p : Ev o fun a h => Ev (f a h) Q) : Ev (o.bnd f) Q := by
  cases o with
  | ok a h => exact p
  | exc c q h => exact p.elim
  | bad => exact p.elim
theorem sv_stm (p : Ev o fun a h => Sv (g a h) R) : Sv (o.stm e g) R := by
  cases o with
  | ok a h => exact p
  | exc c q h => exact p.elim
  | bad => exact p.elim
theorem sv_seq (p : Sv s fun o => Sv (o.seq b) R) : Sv (s.seq b) R := p
theorem ev_imp {Q Q' : α → List O → Prop} (p : Ev o Q) (i : ∀ a h, Q a h → Q' a h) : Ev o Q' := by
  cases o with
  | ok a h => exact i a h p
  | exc c q h => exact p.elim
  | bad => exact p.elim
theorem sv_cut {R' : SOut → Prop} (p : Sv s R') (i : ∀ o, R' o → Sv (o.seq b) R) : Sv (s.seq b) R := i _ p
theorem sv_imp {R R' : SOut → Prop} (p : Sv s R) (i : ∀ o, R o → R' o) : Sv s R' := i _ p
theorem ev_eq {x : α} {Q : α → List O → Prop} (hE : o = .ok x h) (q : Q x h) : Ev o Q := by rw [hE]; exact q
theorem ev_get {Q : α → List O → Prop} (p : Ev o Q) : ∃ a h, o = .ok a h ∧ Q a h := by
  cases o with
  | ok a h => exact ⟨a, h, rfl, p⟩
  | exc c q h => exact p.elim
  | bad => exact p.elim
end
section
variable {body : Sm} {e : Env} {h : List O} {R : SOut → Prop} {n : Nat} {src : Src} {t : Tg}
/-- what a round of a loop hands on -/
def rnd (I : Env → List O → Prop) (R : SOut → Prop) : SOut → Prop
  | .nx e h => I e h
  | .ct e h => I e h
  | .bk e h => R (.nx e h)
  | .rt w h => R (.rt w h)
  | .exc c p e h => R (.exc c p e h)
  | .bad => False
theorem forGo_sv (N : Nat) (I : Nat → Env → List O → Prop) (step : ∀ i e h, i < N → I i e h → ∃ w e1, src i h = some (some w) ∧ t w e = some e1 ∧ Sv (body e1 h) (rnd (I (i + 1)) R))
    (stop : ∀ e h, I N e h → src N h = some none ∧ R (.nx e h)) : ∀ (k i : Nat) (e : Env) (h : List O), N - i < k → i ≤ N → I i e h → Sv (forGo src t body k i e h) R
  | 0, i, e, h, hk, _, _ => by omega
  | k + 1, i, e, h, hk, hi, p => by
    by_cases hN : i = N
    · subst hN
      obtain ⟨h1, h2⟩ := stop e h p
      show R _
      unfold forGo
      rw [h1]
      exact h2
    · obtain ⟨w, e1, h1, h2, h3⟩ := step i e h (by omega) p
      have ih := forGo_sv N I step stop k (i + 1)
      show R _
      unfold forGo
      rw [h1]
      dsimp only
      rw [h2]
      dsimp only
      change rnd (I (i + 1)) R (body e1 h) at h3
      cases hb : body e1 h with
      | nx e2 h2 => rw [hb] at h3; exact ih e2 h2 (by omega) (by omega) h3
      | ct e2 h2 => rw [hb] at h3; exact ih e2 h2 (by omega) (by omega) h3
      | bk e2 h2 => rw [hb] at h3; exact h3
      | rt w h2 => rw [hb] at h3; exact h3
      | exc c p e2 h2 => rw [hb] at h3; exact h3
      | bad => rw [hb] at h3; exact h3.elim
theorem mFor_ap {it : M Src} : mFor n it t body e h = (it e h).stm e fun src h => forGo src t body n 0 e h := nrfl rfl
theorem ap_Rng1 {ml : M (List W)} : mRng1 ml e h = (ml e h).bnd fun ws h => match ws with
  | [.int j] => if -(2 ^ 62) ≤ j ∧ j < 2 ^ 62 then .ok (srcN 0 j.toNat) h else .bad
  | _ => .bad := nrfl rfl
theorem ap_Rng2 {ml : M (List W)} : mRng2 ml e h = (ml e h).bnd fun ws h => match ws with
  | [.int i, .int j] => if -(2 ^ 62) ≤ i ∧ i < 2 ^ 62 ∧ -(2 ^ 62) ≤ j ∧ j < 2 ^ 62 then .ok (srcN i (j - i).toNat) h else .bad
  | _ => .bad := nrfl rfl
theorem ap_Iter {m : M W} : mIter m e h = (m e h).bnd toSrc := nrfl rfl
theorem src_t {xs : List W} : toSrc (.tup xs) h = .ok (srcL xs) h := nrfl rfl
theorem src_s {xs : List Nat} : toSrc (.str xs) h = .ok (srcS xs) h := nrfl rfl
theorem src_r {m : Nat} {xs : List W} (hm : lstAt h m = some xs) : toSrc (.ref m) h = .ok (srcR m) h := by
  unfold toSrc
  dsimp only
  rw [hm]
theorem src_rL {m : Nat} : toSrc (.ref m) h = withL (lstAt h m) fun _ => .ok (srcR m) h := by
  unfold toSrc withL
  dsimp only
  all_goals (cases lstAt h m <;> rfl)
theorem rng1_ok {j : Int} (h1 : -4611686018427387904 ≤ j) (h2 : j < 4611686018427387904) : (if -(2 ^ 62) ≤ j ∧ j < 2 ^ 62 then Out.ok (srcN 0 j.toNat) h else .bad) = .ok (srcN 0 j.toNat) h := if_pos ⟨by omega, by omega⟩
theorem rng2_ok {i j : Int} (h0 : -4611686018427387904 ≤ i ∧ i < 4611686018427387904) (h1 : -4611686018427387904 ≤ j) (h2 : j < 4611686018427387904) : (if -(2 ^ 62) ≤ i ∧ i < 2 ^ 62 ∧ -(2 ^ 62) ≤ j ∧ j < 2 ^ 62 then Out.ok (srcN i (j - i).toNat) h else .bad) = .ok (srcN i (j - i).toNat) h := if_pos ⟨by omega, by omega, by omega, by omega⟩
theorem forGo_rng (N : Nat) (lo : Int) (v : Nat) (I : Nat → Env → List O → Prop) (hn : N < n) (h0 : I 0 e h) (step : ∀ i e h, i < N → I i e h → Sv (body (e.set v (some (.int (lo + i)))) h) (rnd (I (i + 1)) R))
    (stop : ∀ e h, I N e h → R (.nx e h)) : Sv (forGo (srcN lo N) (tgN v) body n 0 e h) R :=
  forGo_sv N I (fun i e h hi p => ⟨_, _, by unfold srcN; exact if_pos hi, rfl, step i e h hi p⟩) (fun e h p => ⟨by unfold srcN; exact if_neg (by omega), stop e h p⟩) n 0 e h (by omega) (by omega) h0
theorem forGo_tup (xs : List W) (v : Nat) (I : Nat → Env → List O → Prop) (hn : xs.length < n) (h0 : I 0 e h) (step : ∀ i e h (hi : i < xs.length), I i e h → Sv (body (e.set v (some xs[i])) h) (rnd (I (i + 1)) R))
    (stop : ∀ e h, I xs.length e h → R (.nx e h)) : Sv (forGo (srcL xs) (tgN v) body n 0 e h) R :=
  forGo_sv xs.length I (fun i e h hi p => ⟨_, _, by unfold srcL; rw [List.getElem?_eq_getElem hi], rfl, step i e h hi p⟩) (fun e h p => ⟨by unfold srcL; rw [List.getElem?_eq_none (by omega)], stop e h p⟩) n 0 e h (by omega) (by omega) h0
/-- over a list on the heap that stays -/
theorem forGo_ref (m : Nat) (xs : List W) (v : Nat) (I : Nat → Env → List O → Prop) (hn : xs.length < n) (h0 : I 0 e h) (keep : ∀ i e h, I i e h → lstAt h m = some xs) (step : ∀ i e h (hi : i < xs.length), I i e h → Sv (body (e.set v (some xs[i])) h) (rnd (I (i + 1)) R))
    (stop : ∀ e h, I xs.length e h → R (.nx e h)) : Sv (forGo (srcR m) (tgN v) body n 0 e h) R :=
  forGo_sv xs.length I (fun i e h hi p => ⟨_, _, by unfold srcR; rw [keep i e h p]; show some xs[i]? = _; rw [List.getElem?_eq_getElem hi], rfl, step i e h hi p⟩)
    (fun e h p => ⟨by unfold srcR; rw [keep _ e h p]; show some xs[xs.length]? = _; rw [List.getElem?_eq_none (by omega)], stop e h p⟩) n 0 e h (by omega) (by omega) h0
theorem while_sv {c : M Bool} (I : Nat → Env → List O → Prop) (step : ∀ m e h, I m e h → Ev (c e h) fun b h1 => if b = true then Sv (body e h1) (rnd (fun e2 h2 => ∃ m2, m2 < m ∧ I m2 e2 h2) R) else R (.nx e h1)) :
    ∀ (k m : Nat) (e : Env) (h : List O), m < k → I m e h → Sv (whileGo c body k e h) R
  | 0, m, e, h, hk, _ => by omega
  | k + 1, m, e, h, hk, p => by
    obtain ⟨b, h1, hc, p1⟩ := ev_get (step m e h p)
    show R _
    unfold whileGo
    rw [hc]
    show R (if b = true then _ else _)
    cases b with
    | false => exact p1
    | true =>
      rw [if_pos rfl] at p1 ⊢
      change rnd _ R (body e h1) at p1
      cases hb : body e h1 with
      | nx e2 h2 => rw [hb] at p1; obtain ⟨m2, hm, q⟩ := p1; exact while_sv I step k m2 e2 h2 (by omega) q
      | ct e2 h2 => rw [hb] at p1; obtain ⟨m2, hm, q⟩ := p1; exact while_sv I step k m2 e2 h2 (by omega) q
      | bk e2 h2 => rw [hb] at p1; exact p1
      | rt w h2 => rw [hb] at p1; exact p1
      | exc c p e2 h2 => rw [hb] at p1; exact p1
      | bad => rw [hb] at p1; exact p1.elim
theorem mWhile_sv {c : M Bool} (m : Nat) (I : Nat → Env → List O → Prop) (hm : m < n) (h0 : I m e h) (step : ∀ m e h, I m e h → Ev (c e h) fun b h1 => if b = true then Sv (body e h1) (rnd (fun e2 h2 => ∃ m2, m2 < m ∧ I m2 e2 h2) R) else R (.nx e h1)) :
    Sv (mWhile n c body e h) R := while_sv I step n m e h hm h0
end
/-! ### lists made in place -/
section
variable {e e0 : Env} {h : List O} {n D : Nat} {src : Src} {t : Tg} {cond : M Bool} {elt : M W} {Q : W → List O → Prop} {own : List Nat} {it : M Src}
theorem ap_Comp : mComp n own it t cond elt e h = (it e h).bnd fun src h => compGo src t cond elt h.length (wipeE e own) n 0 (h ++ [.lst []]) := nrfl rfl
theorem compGo_ev (N : Nat) (hN : N ≤ 1000000) (I : Nat → List W → List O → Prop)
    (step : ∀ i acc h, i < N → acc.length ≤ i → h[D]? = some (.lst acc) → I i acc h → ∃ w e1, src i h = some (some w) ∧ t w e0 = some e1 ∧
      Ev (cond e1 h) fun b h2 => if b = true then Ev (elt e1 h2) fun y h3 => h3[D]? = some (.lst acc) ∧ I (i + 1) (acc ++ [y]) (h3.set D (.lst (acc ++ [y]))) else h2[D]? = some (.lst acc) ∧ I (i + 1) acc h2)
    (stop : ∀ acc h, h[D]? = some (.lst acc) → I N acc h → src N h = some none ∧ Q (.ref D) h) :
    ∀ (k i : Nat) (acc : List W) (h : List O), N - i < k → i ≤ N → acc.length ≤ i → h[D]? = some (.lst acc) → I i acc h → Ev (compGo src t cond elt D e0 k i h) Q
  | 0, i, acc, h, hk, _, _, _, _ => by omega
  | k + 1, i, acc, h, hk, hi, ha, hD, p => by
    by_cases hN' : i = N
    · subst hN'
      obtain ⟨h1, h2⟩ := stop acc h hD p
      unfold compGo
      rw [h1]
      exact h2
    · obtain ⟨w, e1, h1, h2, h3⟩ := step i acc h (by omega) ha hD p
      obtain ⟨b, hc, hb, h3⟩ := ev_get h3
      unfold compGo
      rw [h1]
      dsimp only
      rw [h2]
      dsimp only
      rw [hb]
      dsimp only
      cases b with
      | false =>
        rw [if_neg (by decide)] at h3 ⊢
        exact compGo_ev N hN I step stop k (i + 1) acc hc (by omega) (by omega) (by omega) h3.1 h3.2
      | true =>
        rw [if_pos rfl] at h3 ⊢
        obtain ⟨y, hy, e2, h4, h5⟩ := ev_get h3
        rw [e2]
        dsimp only [lstAt]
        rw [h4]
        dsimp only
        rw [if_pos (by show acc.length < 1000000; omega)]
        have hl : D < hy.length := by
          rcases Nat.lt_or_ge D hy.length with x | x
          · exact x
          · rw [List.getElem?_eq_none x] at h4; cases h4
        exact compGo_ev N hN I step stop k (i + 1) (acc ++ [y]) _ (by omega) (by omega) (by simp; omega) (by rw [List.getElem?_set_self hl]) h5
/-- h' is h and some more -/
def Gr (h h' : List O) : Prop := ∃ j, h' = h ++ j
theorem Gr.refl : Gr h h := ⟨[], by simp⟩
theorem Gr.trans {h1 h2 h3 : List O} (a : Gr h1 h2) (b : Gr h2 h3) : Gr h1 h3 := by
  obtain ⟨j, rfl⟩ := a
  obtain ⟨k, rfl⟩ := b
  exact ⟨j ++ k, by simp⟩
theorem Gr.app {h1 h2 : List O} : Gr h1 (h1 ++ h2) := ⟨_, rfl⟩
theorem Gr.get {h1 h2 : List O} {n : Nat} {o : O} (g : Gr h1 h2) (e : h1[n]? = some o) : h2[n]? = some o := by
  obtain ⟨j, rfl⟩ := g
  have hl : n < h1.length := by
    rcases Nat.lt_or_ge n h1.length with x | x
    · exact x
    · rw [List.getElem?_eq_none x] at e; cases e
  rw [List.getElem?_append_left hl]
  exact e
theorem Gr.lst {h1 h2 : List O} {n : Nat} {xs : List W} (g : Gr h1 h2) (e : lstAt h1 n = some xs) : lstAt h2 n = some xs := by
  unfold lstAt
  rw [g.get (lstAt_some e)]
theorem Gr.lastL {h1 h2 : List O} {xs : List W} (g : Gr (h1 ++ [.lst xs]) h2) : lstAt h2 h1.length = some xs := g.lst lst_last
theorem Gr.last {h1 h2 : List O} {o : O} (g : Gr (h1 ++ [o]) h2) : h2[h1.length]? = some o := g.get (by simp)
theorem Gr.left {h1 h2 h3 : List O} (g : Gr (h1 ++ h2) h3) : Gr h1 h3 := Gr.app.trans g
/-- a part that leaves the heap as it is, but for new things -/
def Pu {α : Type} (h0 : List O) (o : List O → Out α) (w : α) : Prop := ∀ h, Gr h0 h → Ev (o h) fun x h' => x = w ∧ Gr h h'
/-- the list of what the wanted ones give -/
def picks (N : Nat) (c : Nat → Bool) (f : Nat → W) : List W := ((List.range N).filter c).map f
theorem picks_succ {N : Nat} {c : Nat → Bool} {f : Nat → W} : picks (N + 1) c f = if c N = true then picks N c f ++ [f N] else picks N c f := by
  unfold picks
  rw [List.range_succ, List.filter_append]
  by_cases hc : c N = true
  · rw [if_pos hc]; simp [hc]
  · rw [if_neg hc]; simp [hc]
theorem picks_len {N : Nat} {c : Nat → Bool} {f : Nat → W} : (picks N c f).length ≤ N := by
  unfold picks
  rw [List.length_map]
  exact Nat.le_trans (List.length_filter_le _ _) (by simp)
theorem comp_pure (N : Nat) (hN : N ≤ 1000000) (hn : N < n) (c : Nat → Bool) (f : Nat → W) (v : Nat → W) (e1 : Nat → Env) (hs : ∀ i, i < N → ∀ h', Gr h h' → src i h' = some (some (v i))) (hs2 : ∀ h', Gr h h' → src N h' = some none) (ht : ∀ i, i < N → t (v i) e0 = some (e1 i))
    (hc : ∀ i, i < N → Pu h (cond (e1 i)) (c i)) (he : ∀ i, i < N → c i = true → Pu h (elt (e1 i)) (f i))
    (q : ∀ h', Gr (h ++ [.lst (picks N c f)]) h' → Q (.ref h.length) h') : Ev (compGo src t cond elt h.length e0 n 0 (h ++ [.lst []])) Q := by
  refine compGo_ev N hN (fun i acc h' => acc = picks i c f ∧ Gr (h ++ [.lst acc]) h') (fun i acc h' hi ha hD p => ?_) (fun acc h' hD p => ?_) n 0 [] _ (by omega) (by omega) (by simp) (by simp) ⟨rfl, Gr.refl⟩
  · obtain ⟨pa, pg⟩ := p
    refine ⟨_, _, hs i hi h' pg.left, ht i hi, ev_imp (hc i hi h' pg.left) fun b h2 ⟨hb, g2⟩ => ?_⟩
    subst hb
    by_cases hci : c i = true
    · rw [if_pos hci]
      refine ev_imp (he i hi hci h2 (pg.left.trans g2)) fun y h3 ⟨hy, g3⟩ => ?_
      subst hy
      have g : Gr (h ++ [.lst acc]) h3 := pg.trans (g2.trans g3)
      refine ⟨g.last, by rw [picks_succ, if_pos hci, pa], ?_⟩
      obtain ⟨j, rfl⟩ := g
      refine ⟨j, ?_⟩
      rw [List.append_assoc, List.set_append_right _ _ (Nat.le_refl _), Nat.sub_self]
      simp
    · rw [if_neg hci]
      have g : Gr (h ++ [.lst acc]) h2 := pg.trans g2
      exact ⟨g.last, by rw [picks_succ, if_neg hci, pa], g⟩
  · obtain ⟨pa, pg⟩ := p
    subst pa
    exact ⟨hs2 h' pg.left, q h' pg⟩
theorem comp_rng (N : Nat) (lo : Int) (v : Nat) (hN : N ≤ 1000000) (hn : N < n) (c : Nat → Bool) (f : Nat → W)
    (hc : ∀ i, i < N → Pu h (cond (e0.set v (some (.int (lo + i))))) (c i)) (he : ∀ i, i < N → c i = true → Pu h (elt (e0.set v (some (.int (lo + i))))) (f i))
    (q : ∀ h', Gr (h ++ [.lst (picks N c f)]) h' → Q (.ref h.length) h') : Ev (compGo (srcN lo N) (tgN v) cond elt h.length e0 n 0 (h ++ [.lst []])) Q :=
  comp_pure N hN hn c f (fun i => .int (lo + i)) (fun i => e0.set v (some (.int (lo + i)))) (fun i hi h' _ => by unfold srcN; exact if_pos hi) (fun h' _ => by unfold srcN; exact if_neg (by omega)) (fun i hi => rfl) hc he q
theorem wipe_n : wipeE e [] = e := nrfl rfl
theorem wipe_c {v : Nat} {vs : List Nat} : wipeE e (v :: vs) = (wipeE e vs).set v none := nrfl rfl
end
/-! ### calls -/
theorem pure_ok {den : List W → List O → Out W} {ar : Nat} {ws : List W} {h : List O} {w : W} (hl : ws.length = ar) (hp : pureWs ws = true) (hw : pureW w = true) (hd : Ev (den ws []) fun x _ => x = w) : pureRun den ar ws h = .ok w h := by
  obtain ⟨x, h', e, rfl⟩ := ev_get hd
  unfold pureRun
  rw [if_pos ⟨hl, hp⟩, e]
  dsimp only
  rw [if_pos hw]
theorem fun_ev {n : Nat} {m : Sm} {ws : List W} {h : List O} {Q : W → List O → Prop} (p : Sv (m (startE n ws) h) fun o => match o with
  | .nx _ h' => Q .non h'
  | .rt w h' => Q w h'
  | _ => False) : Ev (mFun n m ws h) Q := by
  unfold mFun
  change (match m (startE n ws) h with | .nx _ h' => Q .non h' | .rt w h' => Q w h' | _ => False) at p
  cases hm : m (startE n ws) h with
  | nx e h' => rw [hm] at p; exact p
  | rt w h' => rw [hm] at p; exact p
  | bk e h' => rw [hm] at p; exact p.elim
  | ct e h' => rw [hm] at p; exact p.elim
  | exc c q e h' => rw [hm] at p; exact p.elim
  | bad => rw [hm] at p; exact p.elim

/-! ### equality -/
section
variable {h : List O}
theorem dat_ints {k : Nat} : ∀ l : List Int, mapO (dat h (k + 1)) (l.map W.int) = some (l.map PyData.int)
  | [] => rfl
  | i :: l => by
    rw [List.map_cons]
    unfold mapO
    rw [dat_ints l]
    rfl
theorem dat_strs {k : Nat} : ∀ l : List (List Nat), (∀ s ∈ l, strFit s = true) → mapO (dat h (k + 1)) (l.map W.str) = some (l.map fun s => PyData.str ⟨s.toArray⟩)
  | [], _ => rfl
  | s :: l, hf => by
    rw [List.map_cons]
    unfold mapO
    rw [dat_strs l fun s hs => hf s (List.mem_cons_of_mem _ hs)]
    unfold dat
    rw [if_pos (hf s List.mem_cons_self)]
    rfl
theorem eqvAll_ints : ∀ l l' : List Int, PyData.eqvAll (l.map PyData.int) (l'.map PyData.int) = decide (l = l')
  | [], [] => rfl
  | [], _ :: _ => by simp [PyData.eqvAll]
  | _ :: _, [] => by simp [PyData.eqvAll]
  | i :: l, j :: l' => by
    rw [List.map_cons, List.map_cons]
    unfold PyData.eqvAll
    rw [eqvAll_ints l l']
    by_cases h1 : i = j <;> by_cases h2 : l = l' <;> simp [PyData.eqv, h1, h2]
theorem eqW_ll {n m : Nat} {xs ys : List W} {ds es : List PyData} (hn : lstAt h n = some xs) (hm : lstAt h m = some ys) (hx : mapO (dat h 7) xs = some ds) (hy : mapO (dat h 7) ys = some es) : eqW h (.ref n) (.ref m) = some (PyData.eqvAll ds es) := by
  have e1 : dat h 8 (.ref n) = some (.list ds) := by unfold dat; rw [hn]; show (mapO (dat h 7) xs).map _ = _; rw [hx]; rfl
  have e2 : dat h 8 (.ref m) = some (.list es) := by unfold dat; rw [hm]; show (mapO (dat h 7) ys).map _ = _; rw [hy]; rfl
  unfold eqW
  dsimp only
  rw [e1, e2]
  dsimp only
  rw [show PyData.eqv (.list ds) (.list es) = PyData.eqvAll ds es by unfold PyData.eqv; rfl]
theorem eqW_tt {xs ys : List W} {ds es : List PyData} (hx : mapO (dat h 7) xs = some ds) (hy : mapO (dat h 7) ys = some es) : eqW h (.tup xs) (.tup ys) = some (PyData.eqvAll ds es) := by
  have e1 : dat h 8 (.tup xs) = some (.tuple ds) := by unfold dat; rw [hx]; rfl
  have e2 : dat h 8 (.tup ys) = some (.tuple es) := by unfold dat; rw [hy]; rfl
  unfold eqW
  dsimp only
  rw [e1, e2]
  dsimp only
  rw [show PyData.eqv (.tuple ds) (.tuple es) = PyData.eqvAll ds es by unfold PyData.eqv; rfl]
theorem eqW_ints {n m : Nat} {l l' : List Int} (hn : lstAt h n = some (l.map .int)) (hm : lstAt h m = some (l'.map .int)) : eqW h (.ref n) (.ref m) = some (decide (l = l')) := by
  rw [eqW_ll hn hm (dat_ints l) (dat_ints l'), eqvAll_ints]
theorem eq_ints {n m : Nat} {l l' : List Int} (hn : lstAt h n = some (l.map .int)) (hm : lstAt h m = some (l'.map .int)) : oEq (.ref n) (.ref m) h = .ok (.bl (decide (l = l'))) h := by unfold oEq; rw [eqW_ints hn hm]
theorem ne_ints {n m : Nat} {l l' : List Int} (hn : lstAt h n = some (l.map .int)) (hm : lstAt h m = some (l'.map .int)) : oNe (.ref n) (.ref m) h = .ok (.bl (decide (l ≠ l'))) h := by unfold oNe; rw [eqW_ints hn hm]; simp
theorem sl_rol {xs : List W} {lo hi : Option Int} : oSl (.rol xs) lo hi h = .ok (.ref h.length) (h ++ [.lst (cutW xs lo hi)]) := nrfl rfl
theorem sl_t {xs : List W} {lo hi : Option Int} : oSl (.tup xs) lo hi h = .ok (.tup (cutW xs lo hi)) h := nrfl rfl
theorem sl_r {n : Nat} {lo hi : Option Int} : oSl (.ref n) lo hi h = withL (lstAt h n) fun xs => .ok (.ref h.length) (h ++ [.lst (cutW xs lo hi)]) := by
  unfold oSl withL
  dsimp only [sqL]
  all_goals (cases lstAt h n <;> rfl)
end
/-! the order of texts -/
theorem lex_of : ∀ (k : Nat) (a b : List Nat), k < a.length → k < b.length → (∀ t, t < k → a.getD t 0 = b.getD t 0) → a.getD k 0 < b.getD k 0 → a < b
  | 0, x :: a, y :: b, _, _, _, h => List.cons_lt_cons_iff.2 (.inl h)
  | k + 1, x :: a, y :: b, h1, h2, he, h => by
    refine List.cons_lt_cons_iff.2 (.inr ⟨he 0 (by omega), lex_of k a b (by simpa using h1) (by simpa using h2) (fun t ht => he (t + 1) (by omega)) h⟩)
  | _, [], _, h1, _, _, _ => by simp at h1
  | _, _ :: _, [], _, h2, _, _ => by simp at h2
theorem sing_lt {a b : Nat} : ([a] < [b]) = (a < b) := by
  apply propext
  constructor
  · intro h
    rcases List.cons_lt_cons_iff.1 h with h | h
    · exact h
    · exact absurd h.2 (List.lt_irrefl _)
  · intro h
    exact List.cons_lt_cons_iff.2 (.inl h)
theorem sing_eq {a b : Nat} : ([a] = [b]) = (a = b) := by simp
theorem ty_r {n : Nat} {h : List O} : tyW "list" (.ref n) h = (lstAt h n).isSome := by
  unfold tyW lstAt
  cases hx : h[n]? with
  | none => simp [hx]
  | some o => cases o <;> simp [hx]
theorem ty_s {s : List Nat} {h : List O} : tyW "str" (.str s) h = true := nrfl rfl
theorem isS {α : Type} {x : α} : (some x).isSome = true := nrfl rfl
/-! lists of numbers -/
theorem getD_set_eq {α : Type} {l : List α} {i : Nat} {v d : α} (h : i < l.length) : (l.set i v).getD i d = v := by
  rw [List.getD_eq_getElem?_getD, List.getElem?_set_self h]; rfl
theorem set_getD {α : Type} {l : List α} {i : Nat} {d : α} (h : i < l.length) : l.set i (l.getD i d) = l := by
  rw [List.getD_eq_getElem?_getD, List.getElem?_eq_getElem h]
  exact List.set_getElem_self h
theorem getD_set_ne {α : Type} {l : List α} {i k : Nat} {v d : α} (h : i ≠ k) : (l.set i v).getD k d = l.getD k d := by
  rw [List.getD_eq_getElem?_getD, List.getElem?_set_ne h, List.getD_eq_getElem?_getD]
section
variable {h : List O} {i : Int} {n : Nat}
def nI (r : Nat) : W := .int r
theorem nI_def {r : Nat} : nI r = .int r := nrfl rfl
theorem ixL_n {rs : List Nat} (h0 : 0 ≤ i) (h1 : i < rs.length) : ixL (rs.map nI) i h = .ok (.int (rs.getD i.toNat 0)) h := by
  rw [ixL_ok h0 (by rw [List.length_map]; exact h1), List.getD_eq_getElem?_getD, List.getElem?_map, List.getElem?_eq_getElem (by omega), List.getD_eq_getElem?_getD, List.getElem?_eq_getElem (by omega)]
  rfl
theorem ixL_i {rs : List Int} (h0 : 0 ≤ i) (h1 : i < rs.length) : ixL (rs.map .int) i h = .ok (.int (rs.getD i.toNat 0)) h := by
  rw [ixL_ok h0 (by rw [List.length_map]; exact h1), List.getD_eq_getElem?_getD, List.getElem?_map, List.getElem?_eq_getElem (by omega), List.getD_eq_getElem?_getD, List.getElem?_eq_getElem (by omega)]
  rfl
theorem ixL_st {rs : List (List Nat)} (h0 : 0 ≤ i) (h1 : i < rs.length) : ixL (rs.map .str) i h = .ok (.str (rs.getD i.toNat [])) h := by
  rw [ixL_ok h0 (by rw [List.length_map]; exact h1), List.getD_eq_getElem?_getD, List.getElem?_map, List.getElem?_eq_getElem (by omega), List.getD_eq_getElem?_getD, List.getElem?_eq_getElem (by omega)]
  rfl
theorem setL_n {rs : List Nat} {v : Nat} (h0 : 0 ≤ i) (h1 : i < rs.length) : setL n (rs.map nI) i (.int v) h = .ok () (h.set n (.lst ((rs.set i.toNat v).map nI))) := by
  rw [setL_ok h0 (by rw [List.length_map]; exact h1), List.map_set, nI_def]
theorem setL_i {rs : List Int} {v : Int} (h0 : 0 ≤ i) (h1 : i < rs.length) : setL n (rs.map .int) i (.int v) h = .ok () (h.set n (.lst ((rs.set i.toNat v).map .int))) := by
  rw [setL_ok h0 (by rw [List.length_map]; exact h1), List.map_set]
theorem pure_all {den : List W → List O → Out W} {ar : Nat} {ws : List W} {P : W → Prop} (hl : ws.length = ar) (hp : pureWs ws = true) (hd : Ev (den ws []) fun x _ => pureW x = true ∧ P x) : ∃ w, P w ∧ ∀ h, pureRun den ar ws h = .ok w h := by
  obtain ⟨x, h', e, h1, h2⟩ := ev_get hd
  refine ⟨x, h2, fun h => ?_⟩
  unfold pureRun
  rw [if_pos ⟨hl, hp⟩, e]
  dsimp only
  rw [if_pos h1]
theorem pure_ints : ∀ l : List Int, pureWs (l.map .int) = true
  | [] => rfl
  | i :: l => by rw [List.map_cons]; unfold pureWs; rw [pure_ints l]; rfl
theorem pure_nats : ∀ l : List Nat, pureWs (l.map nI) = true
  | [] => rfl
  | i :: l => by rw [List.map_cons]; unfold pureWs; rw [pure_nats l]; rfl
theorem pure_strs : ∀ l : List (List Nat), pureWs (l.map .str) = true
  | [] => rfl
  | i :: l => by rw [List.map_cons]; unfold pureWs; rw [pure_strs l]; rfl
end
end Den
set_option maxRecDepth 100000
/-! The dice. -/
namespace Den
open PySem L2
def bodyDice : Sm := mSeq (mIfS (mB (mChain oLt oLt (mOp oSub (mC (.int 0)) (mC (.int 10))) (mVar 0) (mC (.int 10)))) (mRet (mLst (mCons (mCB oAbs (mCons (mVar 0) (mNil))) (mCons (mC (.int 0)) (mCons (mC (.int 2)) (mNil)))))) (mSkip)) (mRet (mLst (mCons (mVar 0) (mCons (mOp oAdd (mC (.int 1)) (mOp oMod (mCB oInt (mCons (mVar 0) (mNil))) (mC (.int 1009)))) (mCons (mCB oInt (mCons (mOp oGe (mVar 0) (mOp oPow (mC (.int 10)) (mC (.int 18)))) (mNil))) (mNil))))))
def bodyRoll : Sm := mSeq (mIfS (mOr (mB (mOp oEq (mOp oIx (mVar 0) (mC (.int 2))) (mC (.int 2)))) (mAnd (mB (mOp oEq (mOp oIx (mVar 0) (mC (.int 2))) (mC (.int 1)))) (mB (mOp oGt (mOp oIx (mVar 0) (mC (.int 0))) (mC (.int 0)))))) (mSeq (mSet 2 (mOp oMod (mCB oInt (mCons (mOp oIx (mVar 0) (mC (.int 0))) (mNil))) (mVar 1))) (mSeq (mSetI oSet (mVar 0) (mC (.int 0)) (mOp oFdiv (mOp oIx (mVar 0) (mC (.int 0))) (mVar 1))) (mRet (mVar 2)))) (mSkip)) (mSeq (mSetI oSet (mVar 0) (mC (.int 2)) (mC (.int 0))) (mSeq (mSetI oSet (mVar 0) (mC (.int 0)) (mOp oMod (mCB oInt (mCons (mOp oAdd (mOp oAdd (mOp oMul (mOp oIx (mVar 0) (mC (.int 0))) (mC (.int 48271))) (mOp oMul (mOp oIx (mVar 0) (mC (.int 1))) (mC (.int 69621)))) (mC (.int 11))) (mNil))) (mC (.int 2147483647)))) (mSeq (mSetI oSet (mVar 0) (mC (.int 1)) (mOp oAdd (mOp oIx (mVar 0) (mC (.int 1))) (mC (.int 1)))) (mRet (mOp oMod (mCB oInt (mCons (mOp oAdd (mOp oFdiv (mOp oIx (mVar 0) (mC (.int 0))) (mC (.int 7))) (mOp oIx (mVar 0) (mC (.int 0)))) (mNil))) (mVar 1))))))
/-- a line for the size of a script's number -/
@[irreducible] def AB : Nat := 2 ^ 1048577

theorem AB_ge : 2147483648 ≤ AB := by
  unfold AB
  exact Nat.le_trans (by decide : 2147483648 ≤ 2 ^ 31) (Nat.pow_le_pow_right (by decide) (by decide))
theorem AB_lt : AB < 2 ^ 50000000 := by
  unfold AB
  exact Nat.pow_lt_pow_right (by decide) (by decide)
theorem bits_AB {z : Int} (h : Builtin.Int.intBits z ≤ 1048576) : z.natAbs < AB := by
  unfold Builtin.Int.intBits at h
  unfold AB
  split at h
  · rename_i e
    have e2 : z = 0 := by simpa using e
    rw [e2]
    exact Nat.pow_pos (by decide)
  · rename_i e
    have h1 : z.natAbs.log2 < 1048577 := by omega
    have e2 : z.natAbs ≠ 0 := fun x => e (by simpa using Int.natAbs_eq_zero.1 x)
    exact (Nat.log2_lt e2).1 h1
/-- three numbers of a die that has been rolled N times -/
structure DG (N : Nat) (a b : Int) : Prop where
  a : a.natAbs < AB
  b0 : 0 ≤ b
  b1 : b ≤ 2000 + N
theorem mul_AB {i j : Int} {h : List O} (h1 : i.natAbs < AB) (h2 : -4611686018427387904 < j ∧ j < 4611686018427387904) : oMul (.int i) (.int j) h = .ok (.int (i * j)) h := by
  unfold oMul
  exact if_pos (mulOk_of (Nat.lt_trans h1 AB_lt) (small_pow (by omega) (by decide)))
theorem dice_ev {z : Int} {h : List O} (hz : z.natAbs < AB) : ∃ a b c : Int, DG 0 a b ∧ mFun 1 bodyDice [.int z] h = .ok (.ref h.length) (h ++ [.lst [.int a, .int b, .int c]]) := by
  have hAB := AB_ge
  have e2 : oPow (.int 10) (.int 18) h = .ok (.int (10 ^ 18)) h := by unfold oPow; exact if_pos (by decide)
  by_cases e1 : -10 < z
  · by_cases e3 : z < 10
    · refine ⟨if z < 0 then -z else z, 0, 2, ⟨by split <;> omega, by omega, by omega⟩, ?_⟩
      unfold mFun bodyDice startE
      simp [e1, e2, e3, ap_asB, ok_bnd, ok_stm, ap_Ret, ap_Lst, ap_Cons, ap_Nil, ap_CB, mVar_z, ap_C, abs_i, rt_seq, ap_Seq, ap_IfS, ap_B, ap_Chain, ap_Op, lt_ii, sub_ii, ap_Skip, nx_seq, add_ii, mod_ii, int_i, ge_ii, int_b]
    · refine ⟨z, 1 + z % 1009, if 10 ^ 18 ≤ z then 1 else 0, ⟨hz, by omega, by omega⟩, ?_⟩
      unfold mFun bodyDice startE
      simp [e1, e2, e3, ap_asB, ok_bnd, ok_stm, ap_Ret, ap_Lst, ap_Cons, ap_Nil, ap_CB, mVar_z, ap_C, abs_i, rt_seq, ap_Seq, ap_IfS, ap_B, ap_Chain, ap_Op, lt_ii, sub_ii, ap_Skip, nx_seq, add_ii, mod_ii, int_i, ge_ii, int_b]
  · refine ⟨z, 1 + z % 1009, if 10 ^ 18 ≤ z then 1 else 0, ⟨hz, by omega, by omega⟩, ?_⟩
    unfold mFun bodyDice startE
    simp [e1, e2, ap_asB, ok_bnd, ok_stm, ap_Ret, ap_Lst, ap_Cons, ap_Nil, ap_CB, mVar_z, ap_C, abs_i, rt_seq, ap_Seq, ap_IfS, ap_B, ap_Chain, ap_Op, lt_ii, sub_ii, ap_Skip, nx_seq, add_ii, mod_ii, int_i, ge_ii, int_b]
theorem div_le_AB {a m : Int} (ha : a.natAbs < AB) (hm : 0 < m) : (a / m).natAbs < AB := by
  have h1 : (a / m).natAbs ≤ a.natAbs := Int.natAbs_ediv_le_natAbs a m
  omega
theorem roll_ev {h : List O} {p N : Nat} {a b c many : Int} (hp : lstAt h p = some [.int a, .int b, .int c]) (g : DG N a b) (hm : 0 < many) (hM : many < 4611686018427387904) (hN : N < 1000000000000) :
    ∃ r a' b' c' : Int, mFun 3 bodyRoll [.ref p, .int many] h = .ok (.int r) (h.set p (.lst [.int a', .int b', .int c'])) ∧ 0 ≤ r ∧ r < many ∧ DG (N + 1) a' b' := by
  have hAB := AB_ge
  have hl := lst_lt hp
  have ha := g.a
  have hb0 := g.b0
  have hb1 := g.b1
  have hr : ∀ x : Int, 0 ≤ x % many ∧ x % many < many := fun x => ⟨Int.emod_nonneg _ (by omega), Int.emod_lt_of_pos _ hm⟩
  by_cases hc : c = 2 ∨ (c = 1 ∧ 0 < a)
  · refine ⟨a % many, a / many, b, c, ?_, (hr a).1, (hr a).2, ⟨div_le_AB ha hm, hb0, by omega⟩⟩
    unfold mFun bodyRoll startE
    by_cases h2 : c = 2
    · subst h2
      simp (disch := first | omega | (simp only [List.length_append, List.length_cons, List.length_nil, List.length_set, List.length_drop, List.length_take, List.length_map]; omega)) only [mVar_z, Nat.reduceAdd, Nat.zero_add, Int.zero_add, Int.reduceAdd, Int.reduceSub, Int.reduceNeg, ap_Lst, ap_Tup, nil_app, cons_app, List.length_append, lst_last, mVar_s, ok_bnd, ok_stm, exc_bnd, ev_okE, exc_stm, ap_C, ap_Op, ap_Un, ap_B, ap_Chain, ap_asB, ap_And, ap_Or, ap_Not, ap_AndV, ap_OrV, ap_NotV, ap_If, ap_Nil, ap_Cons, ap_CB, ap_Meth, ap_Part, ap_NoPart, ap_Sl, ap_Yes, add_ii, add_ss, sub_ii, neg_i, mul_ii, fdiv_ii, mod_ii, eq_ii, ne_ii, eq_ss, ne_ss, lt_ii, le_ii, gt_ii, ge_ii, lt_ss, gt_ss, le_ss, ge_ss, len_s, len_t, abs_i, int_i, int_b, max_ii, min_ii, ix_s, ixL_0, ixL_1, ixL_2, ixL_3, ixL_n, ixL_i, ixL_st, setL_n, setL_i, List.length_map, List.length_set, ix_r, getL_r, ix_tL, withL_s, setL_0, setL_1, setL_2, set_r, app_r, lst_z, lst_s, iadd_ii, tuple_r, mul_ri, sl_s, sl_rol, sl_t, sl_r, cut_from, cut_to, ap_Seq, nx_seq, rt_seq, ct_seq, bk_seq, exc_seq, ap_Raise, ap_Skip, ap_Brk, ap_Cnt, ap_Drop, ap_Ret, ap_IfS, ap_Set, ap_Ts, ap_AsgT, tgT_t, tgTs_n, tgTs_c, ap_Aug, ap_SetI, ap_AugI, mFor_ap, ap_Rng1, ap_Rng2, rng1_ok, rng2_ok, ap_Iter, src_t, src_s, src_rL, ap_Comp, wipe_n, wipe_c, len_cons, len_nil, zip_cc, zip_nn, foldl_c, foldl_n, set_z, set_s, ite_t, ite_f, ite_T, ite_F, sing_lt, sing_eq, ty_r, ty_s, isS, cut_mid, decide_eq_true_eq, if_pos, if_neg]
      simp (disch := omega) [hp, lst_set hl, ok_bnd, ok_stm, ap_Ret, ap_Cons, ap_Nil, ap_CB, mVar_z, mVar_s, ap_C, rt_seq, ap_Seq, ap_IfS, ap_B, ap_Or, ap_asB, ap_Op, eq_ii, ap_Skip, nx_seq, mod_ii, fdiv_ii, int_i, ap_Set, ap_SetI, set_r, ix_r, withL_s, ixL_0, ixL_2, setL_0, ap_And, gt_ii]
    · have h1 : c = 1 := by omega
      have h3 : 0 < a := by omega
      subst h1
      simp (disch := first | omega | (simp only [List.length_append, List.length_cons, List.length_nil, List.length_set, List.length_drop, List.length_take, List.length_map]; omega)) only [mVar_z, Nat.reduceAdd, Nat.zero_add, Int.zero_add, Int.reduceAdd, Int.reduceSub, Int.reduceNeg, ap_Lst, ap_Tup, nil_app, cons_app, List.length_append, lst_last, mVar_s, ok_bnd, ok_stm, exc_bnd, ev_okE, exc_stm, ap_C, ap_Op, ap_Un, ap_B, ap_Chain, ap_asB, ap_And, ap_Or, ap_Not, ap_AndV, ap_OrV, ap_NotV, ap_If, ap_Nil, ap_Cons, ap_CB, ap_Meth, ap_Part, ap_NoPart, ap_Sl, ap_Yes, add_ii, add_ss, sub_ii, neg_i, mul_ii, fdiv_ii, mod_ii, eq_ii, ne_ii, eq_ss, ne_ss, lt_ii, le_ii, gt_ii, ge_ii, lt_ss, gt_ss, le_ss, ge_ss, len_s, len_t, abs_i, int_i, int_b, max_ii, min_ii, ix_s, ixL_0, ixL_1, ixL_2, ixL_3, ixL_n, ixL_i, ixL_st, setL_n, setL_i, List.length_map, List.length_set, ix_r, getL_r, ix_tL, withL_s, setL_0, setL_1, setL_2, set_r, app_r, lst_z, lst_s, iadd_ii, tuple_r, mul_ri, sl_s, sl_rol, sl_t, sl_r, cut_from, cut_to, ap_Seq, nx_seq, rt_seq, ct_seq, bk_seq, exc_seq, ap_Raise, ap_Skip, ap_Brk, ap_Cnt, ap_Drop, ap_Ret, ap_IfS, ap_Set, ap_Ts, ap_AsgT, tgT_t, tgTs_n, tgTs_c, ap_Aug, ap_SetI, ap_AugI, mFor_ap, ap_Rng1, ap_Rng2, rng1_ok, rng2_ok, ap_Iter, src_t, src_s, src_rL, ap_Comp, wipe_n, wipe_c, len_cons, len_nil, zip_cc, zip_nn, foldl_c, foldl_n, set_z, set_s, ite_t, ite_f, ite_T, ite_F, sing_lt, sing_eq, ty_r, ty_s, isS, cut_mid, decide_eq_true_eq, if_pos, if_neg]
      simp (disch := omega) [hp, h3, lst_set hl, ok_bnd, ok_stm, ap_Ret, ap_Cons, ap_Nil, ap_CB, mVar_z, mVar_s, ap_C, rt_seq, ap_Seq, ap_IfS, ap_B, ap_Or, ap_asB, ap_Op, eq_ii, ap_Skip, nx_seq, mod_ii, fdiv_ii, int_i, ap_Set, ap_SetI, set_r, ix_r, withL_s, ixL_0, ixL_2, setL_0, ap_And, gt_ii]
  · have hx : (a * 48271 + b * 69621 + 11) % 2147483647 < 2147483647 := Int.emod_lt_of_pos _ (by omega)
    have hx0 : 0 ≤ (a * 48271 + b * 69621 + 11) % 2147483647 := Int.emod_nonneg _ (by omega)
    have hbb : b.natAbs < AB ∨ AB ≤ b.natAbs := by omega
    have m1 : ∀ h, oMul (.int a) (.int 48271) h = .ok (.int (a * 48271)) h := fun h => mul_AB ha (by omega)
    have m2 : ∀ h, oMul (.int b) (.int 69621) h = .ok (.int (b * 69621)) h := fun h => mul_ii (by omega) (by omega)
    generalize hz : (a * 48271 + b * 69621 + 11) % 2147483647 = z at hx hx0
    refine ⟨(z / 7 + z) % many, z, b + 1, 0, ?_, (hr _).1, (hr _).2, ⟨by omega, by omega, by omega⟩⟩
    unfold mFun bodyRoll startE
    have hc2 : ¬ c = 2 := fun x => hc (.inl x)
    have hc3 : c = 1 → ¬ 0 < a := fun x y => hc (.inr ⟨x, y⟩)
    by_cases h1 : c = 1
    · have h3 := hc3 h1
      simp (disch := first | omega | (simp only [List.length_append, List.length_cons, List.length_nil, List.length_set, List.length_drop, List.length_take, List.length_map]; omega)) only [mVar_z, Nat.reduceAdd, Nat.zero_add, Int.zero_add, Int.reduceAdd, Int.reduceSub, Int.reduceNeg, ap_Lst, ap_Tup, nil_app, cons_app, List.length_append, lst_last, mVar_s, ok_bnd, ok_stm, exc_bnd, ev_okE, exc_stm, ap_C, ap_Op, ap_Un, ap_B, ap_Chain, ap_asB, ap_And, ap_Or, ap_Not, ap_AndV, ap_OrV, ap_NotV, ap_If, ap_Nil, ap_Cons, ap_CB, ap_Meth, ap_Part, ap_NoPart, ap_Sl, ap_Yes, add_ii, add_ss, sub_ii, neg_i, mul_ii, fdiv_ii, mod_ii, eq_ii, ne_ii, eq_ss, ne_ss, lt_ii, le_ii, gt_ii, ge_ii, lt_ss, gt_ss, le_ss, ge_ss, len_s, len_t, abs_i, int_i, int_b, max_ii, min_ii, ix_s, ixL_0, ixL_1, ixL_2, ixL_3, ixL_n, ixL_i, ixL_st, setL_n, setL_i, List.length_map, List.length_set, ix_r, getL_r, ix_tL, withL_s, setL_0, setL_1, setL_2, set_r, app_r, lst_z, lst_s, iadd_ii, tuple_r, mul_ri, sl_s, sl_rol, sl_t, sl_r, cut_from, cut_to, ap_Seq, nx_seq, rt_seq, ct_seq, bk_seq, exc_seq, ap_Raise, ap_Skip, ap_Brk, ap_Cnt, ap_Drop, ap_Ret, ap_IfS, ap_Set, ap_Ts, ap_AsgT, tgT_t, tgTs_n, tgTs_c, ap_Aug, ap_SetI, ap_AugI, mFor_ap, ap_Rng1, ap_Rng2, rng1_ok, rng2_ok, ap_Iter, src_t, src_s, src_rL, ap_Comp, wipe_n, wipe_c, len_cons, len_nil, zip_cc, zip_nn, foldl_c, foldl_n, set_z, set_s, ite_t, ite_f, ite_T, ite_F, sing_lt, sing_eq, ty_r, ty_s, isS, cut_mid, decide_eq_true_eq, if_pos, if_neg]
      simp (disch := omega) [hp, h1, h3, hz, m1, m2, hc2, lst_set hl, ok_bnd, ok_stm, ap_Ret, ap_Cons, ap_Nil, ap_CB, mVar_z, mVar_s, ap_C, rt_seq, ap_Seq, ap_IfS, ap_B, ap_Or, ap_asB, ap_Op, eq_ii, ap_Skip, nx_seq, mod_ii, fdiv_ii, int_i, ap_Set, ap_SetI, set_r, ix_r, withL_s, ixL_0, ixL_1, ixL_2, setL_0, setL_1, setL_2, ap_And, gt_ii, add_ii]
    · simp (disch := first | omega | (simp only [List.length_append, List.length_cons, List.length_nil, List.length_set, List.length_drop, List.length_take, List.length_map]; omega)) only [mVar_z, Nat.reduceAdd, Nat.zero_add, Int.zero_add, Int.reduceAdd, Int.reduceSub, Int.reduceNeg, ap_Lst, ap_Tup, nil_app, cons_app, List.length_append, lst_last, mVar_s, ok_bnd, ok_stm, exc_bnd, ev_okE, exc_stm, ap_C, ap_Op, ap_Un, ap_B, ap_Chain, ap_asB, ap_And, ap_Or, ap_Not, ap_AndV, ap_OrV, ap_NotV, ap_If, ap_Nil, ap_Cons, ap_CB, ap_Meth, ap_Part, ap_NoPart, ap_Sl, ap_Yes, add_ii, add_ss, sub_ii, neg_i, mul_ii, fdiv_ii, mod_ii, eq_ii, ne_ii, eq_ss, ne_ss, lt_ii, le_ii, gt_ii, ge_ii, lt_ss, gt_ss, le_ss, ge_ss, len_s, len_t, abs_i, int_i, int_b, max_ii, min_ii, ix_s, ixL_0, ixL_1, ixL_2, ixL_3, ixL_n, ixL_i, ixL_st, setL_n, setL_i, List.length_map, List.length_set, ix_r, getL_r, ix_tL, withL_s, setL_0, setL_1, setL_2, set_r, app_r, lst_z, lst_s, iadd_ii, tuple_r, mul_ri, sl_s, sl_rol, sl_t, sl_r, cut_from, cut_to, ap_Seq, nx_seq, rt_seq, ct_seq, bk_seq, exc_seq, ap_Raise, ap_Skip, ap_Brk, ap_Cnt, ap_Drop, ap_Ret, ap_IfS, ap_Set, ap_Ts, ap_AsgT, tgT_t, tgTs_n, tgTs_c, ap_Aug, ap_SetI, ap_AugI, mFor_ap, ap_Rng1, ap_Rng2, rng1_ok, rng2_ok, ap_Iter, src_t, src_s, src_rL, ap_Comp, wipe_n, wipe_c, len_cons, len_nil, zip_cc, zip_nn, foldl_c, foldl_n, set_z, set_s, ite_t, ite_f, ite_T, ite_F, sing_lt, sing_eq, ty_r, ty_s, isS, cut_mid, decide_eq_true_eq, if_pos, if_neg]
      simp (disch := omega) [hp, h1, hz, m1, m2, hc2, lst_set hl, ok_bnd, ok_stm, ap_Ret, ap_Cons, ap_Nil, ap_CB, mVar_z, mVar_s, ap_C, rt_seq, ap_Seq, ap_IfS, ap_B, ap_Or, ap_asB, ap_Op, eq_ii, ap_Skip, nx_seq, mod_ii, fdiv_ii, int_i, ap_Set, ap_SetI, set_r, ix_r, withL_s, ixL_0, ixL_1, ixL_2, setL_0, setL_1, setL_2, ap_And, gt_ii, add_ii]

/-! ### many dice -/
def DH (N : Nat) (h : List O) (ps : List Nat) : Prop := ∀ q ∈ ps, ∃ a b c : Int, lstAt h q = some [.int a, .int b, .int c] ∧ DG N a b
/-- h' is h, but for the dice and for new things -/
def Fr (ps : List Nat) (h h' : List O) : Prop := h.length ≤ h'.length ∧ ∀ q, q < h.length → q ∉ ps → h'[q]? = h[q]?
section
variable {N N2 : Nat} {h h1 h2 h3 : List O} {ps : List Nat}
theorem DG.mono {a b : Int} (g : DG N a b) (hm : N ≤ N2) : DG N2 a b := ⟨g.a, g.b0, by have := g.b1; omega⟩
theorem DH.mono (d : DH N h ps) (hm : N ≤ N2) : DH N2 h ps := fun q hq => by
  obtain ⟨a, b, c, e, g⟩ := d q hq
  exact ⟨a, b, c, e, g.mono hm⟩
theorem DH.gr (d : DH N h1 ps) (g : Gr h1 h2) : DH N h2 ps := fun q hq => by
  obtain ⟨a, b, c, e, g2⟩ := d q hq
  exact ⟨a, b, c, g.lst e, g2⟩
theorem DH.lt (d : DH N h ps) {q : Nat} (hq : q ∈ ps) : q < h.length := by
  obtain ⟨a, b, c, e, _⟩ := d q hq
  exact lst_lt e
theorem DH.set (d : DH N h ps) {n : Nat} {o : O} (hn : n ∉ ps) : DH N (h.set n o) ps := fun q hq => by
  obtain ⟨a, b, c, e, g2⟩ := d q hq
  exact ⟨a, b, c, by rw [lst_ne (fun x => hn (by rw [x]; exact hq))]; exact e, g2⟩
theorem Fr.refl : Fr ps h h := ⟨Nat.le_refl _, fun _ _ _ => rfl⟩
theorem Fr.trans (a : Fr ps h1 h2) (b : Fr ps h2 h3) : Fr ps h1 h3 := ⟨Nat.le_trans a.1 b.1, fun q hq hn => by rw [b.2 q (Nat.lt_of_lt_of_le hq a.1) hn, a.2 q hq hn]⟩
theorem Fr.of (g : Gr h1 h2) : Fr ps h1 h2 := by
  obtain ⟨j, rfl⟩ := g
  exact ⟨by simp, fun q hq _ => List.getElem?_append_left hq⟩
theorem Fr.lst (f : Fr ps h1 h2) {n : Nat} {xs : List W} (hn : n ∉ ps) (e : lstAt h1 n = some xs) : lstAt h2 n = some xs := by
  have hl := lst_lt e
  unfold lstAt
  rw [f.2 n hl hn, lstAt_some e]
theorem Fr.set (f : Fr ps h1 h2) {n : Nat} {o : O} (hn : h1.length ≤ n) : Fr ps h1 (h2.set n o) := ⟨by rw [List.length_set]; exact f.1, fun q hq hm => by rw [List.getElem?_set_ne (by omega)]; exact f.2 q hq hm⟩
theorem roll_Ev {p : Nat} {many : Int} (d : DH N h ps) (hp : p ∈ ps) (hm : 0 < many) (hM : many < 4611686018427387904) (hN : N < 1000000000000) :
    Ev (mFun 3 bodyRoll [.ref p, .int many] h) fun w h' => ∃ r : Int, w = .int r ∧ 0 ≤ r ∧ r < many ∧ DH (N + 1) h' ps ∧ Fr ps h h' := by
  obtain ⟨a, b, c, e, g⟩ := d p hp
  obtain ⟨r, a', b', c', e1, h0, h1, g1⟩ := roll_ev e g hm hM hN
  refine ev_eq e1 ⟨r, rfl, h0, h1, fun q hq => ?_, by simp, fun q hq hn => List.getElem?_set_ne fun x => hn (by rw [← x]; exact hp)⟩
  by_cases hqp : p = q
  · subst hqp
    exact ⟨a', b', c', lst_set (lst_lt e), g1⟩
  · obtain ⟨a2, b2, c2, e2, g2⟩ := d q hq
    exact ⟨a2, b2, c2, by rw [lst_ne hqp]; exact e2, g2.mono (by omega)⟩
/-- a list made with rolls -/
theorem comp_dice {n L K0 : Nat} {e0 : Env} {elt : M W} {Q : W → List O → Prop} {src : Src} {t : Tg} (len : Nat) (hL : len ≤ 1000000) (hn : len < n) (v : Nat → W) (e1 : Nat → Env) (hs : ∀ i, i < len → ∀ h', src i h' = some (some (v i))) (hs2 : ∀ h', src len h' = some none) (ht : ∀ i, i < len → t (v i) e0 = some (e1 i))
    (P : Nat → W → Prop) (d : DH N h ps) (he : ∀ i, i < len → ∀ h', Fr ps h h' → DH (N + i * K0) h' ps → Ev (elt (e1 i) h') fun y h2 => P i y ∧ Fr ps h' h2 ∧ DH (N + (i + 1) * K0) h2 ps)
    (q : ∀ h' acc, lstAt h' h.length = some acc → acc.length = len → (∀ i w, acc[i]? = some w → P i w) → Fr ps h h' → DH (N + len * K0) h' ps → Q (.ref h.length) h') : Ev (compGo src t mYes elt h.length e0 n 0 (h ++ [.lst []])) Q := by
  have hps : h.length ∉ ps := fun x => by have := d.lt x; omega
  refine compGo_ev len hL (fun i acc h' => acc.length = i ∧ (∀ j w, acc[j]? = some w → P j w) ∧ Fr ps h h' ∧ DH (N + i * K0) h' ps) (fun i acc h' hi ha hD p => ?_) (fun acc h' hD p => ?_) n 0 [] _ (by omega) (by omega) (by simp) (by simp) ⟨rfl, by simp, Fr.of Gr.app, by rw [Nat.zero_mul]; exact d.gr Gr.app⟩
  · obtain ⟨pl, pp, pf, pd⟩ := p
    refine ⟨_, _, hs i hi h', ht i hi, ?_⟩
    show Ev (Out.ok true h') _
    refine ev_ok ?_
    rw [if_pos rfl]
    refine ev_imp (he i hi h' pf pd) fun y h3 ⟨py, pf3, pd3⟩ => ?_
    have hl : h.length < h'.length := by
      rcases Nat.lt_or_ge h.length h'.length with x | x
      · exact x
      · rw [List.getElem?_eq_none x] at hD; cases hD
    refine ⟨by rw [pf3.2 _ hl hps]; exact hD, by simp [pl], fun j w hj => ?_, (pf.trans pf3).set (Nat.le_refl _), pd3.set hps⟩
    rcases Nat.lt_or_ge j acc.length with x | x
    · rw [List.getElem?_append_left x] at hj
      exact pp j w hj
    · rw [List.getElem?_append_right x] at hj
      have hj0 : j = acc.length := by
        by_cases hz : j - acc.length = 0
        · omega
        · rw [List.getElem?_eq_none (by simp; omega)] at hj; cases hj
      subst hj0
      rw [Nat.sub_self] at hj
      cases hj
      rw [pl]
      exact py
  · obtain ⟨pl, pp, pf, pd⟩ := p
    exact ⟨hs2 h', q h' acc (by unfold lstAt; rw [hD]) pl pp pf pd⟩
theorem comp_dice_rng {n K0 len : Nat} {lo : Int} {vv : Nat} {e0 : Env} {elt : M W} {Q : W → List O → Prop} (hL : len ≤ 1000000) (hn : len < n)
    (P : Nat → W → Prop) (d : DH N h ps) (he : ∀ i, i < len → ∀ h', Fr ps h h' → DH (N + i * K0) h' ps → Ev (elt (e0.set vv (some (.int (lo + i)))) h') fun y h2 => P i y ∧ Fr ps h' h2 ∧ DH (N + (i + 1) * K0) h2 ps)
    (q : ∀ h' acc, lstAt h' h.length = some acc → acc.length = len → (∀ i w, acc[i]? = some w → P i w) → Fr ps h h' → DH (N + len * K0) h' ps → Q (.ref h.length) h') : Ev (compGo (srcN lo len) (tgN vv) mYes elt h.length e0 n 0 (h ++ [.lst []])) Q :=
  comp_dice (L := 0) len hL hn (fun i => .int (lo + i)) (fun i => e0.set vv (some (.int (lo + i)))) (fun i hi h' => by unfold srcN; exact if_pos hi) (fun h' => by unfold srcN; exact if_neg (by omega)) (fun i hi => rfl) P d he q
end
def bodyRounds : Sm := mSeq (mSet 2 (mSl (mVar 0) (mNoPart) (mPart (mVar 1)))) (mSeq (mIfS (mB (mOp oEq (mVar 2) (mLst (mNil)))) (mSet 2 (mLst (mCons (mC (.int 0)) (mNil)))) (mSkip)) (mRet (mComp 100000 [3] (mIter (mVar 2)) (tgN 3) (mYes) (mCB (fun ws h => if ws.length = 1 then mFun 1 bodyDice ws h else .bad) (mCons (mVar 3) (mNil))))))
theorem mapInt_rol {ns : List Int} {lo hi : Option Int} : cutW (ns.map W.int) lo hi = (cutW ns lo hi).map W.int := by
  unfold cutW
  rw [List.length_map, List.map_take, List.map_drop]
/-- the dice of a law -/
theorem rounds_Ev {ns : List Int} {most : Int} (h0 : 0 ≤ most) (hl : ns.length ≤ 63) (hb : ∀ z ∈ ns, z.natAbs < AB) : Ev (mFun 4 bodyRounds [scriptW ns, .int most] []) fun w h => ∃ p ps, w = .ref p ∧ p ∉ ps ∧ ps ≠ [] ∧ ps.length ≤ 63 ∧ lstAt h p = some (ps.map W.ref) ∧ DH 0 h ps := by
  refine fun_ev ?_
  unfold bodyRounds scriptW
  simp only [startE, List.map_cons, List.map_nil, List.length_cons, List.length_nil, List.cons_append, List.nil_append, Nat.zero_add, Nat.reduceAdd, Nat.reduceSub, List.replicate_succ, List.replicate_zero]
  have main : ∀ (h : List O) (e : Env) (p : Nat) (zs : List Int), lstAt h p = some (zs.map W.int) → zs ≠ [] → zs.length ≤ 63 → (∀ z ∈ zs, z.natAbs < AB) → 
      Ev (compGo (srcR p) (tgN 3) mYes (mCB (fun ws h => if ws.length = 1 then mFun 1 bodyDice ws h else .bad) (mCons (mVar 3) mNil)) h.length [some (scriptW ns), some (.int most), some (.ref p), none] 100000 0 (h ++ [.lst []]))
       fun w h => ∃ p ps, w = .ref p ∧ p ∉ ps ∧ ps ≠ [] ∧ ps.length ≤ 63 ∧ lstAt h p = some (ps.map W.ref) ∧ DH 0 h ps := by
    intro h e p zs hp hz hzl hzb
    have hpl := lst_lt hp
    refine compGo_ev zs.length (by omega) (fun i acc h' => ∃ ps : List Nat, ps.length = i ∧ acc = ps.map W.ref ∧ (∀ q ∈ ps, h.length < q) ∧ Gr h (h'.take h.length) ∧ h.length < h'.length ∧ DH 0 h' ps) (fun i acc h' hi ha hD pp => ?_) (fun acc h' hD pp => ?_) 100000 0 [] _ (by omega) (by omega) (by simp) (by simp) ⟨[], rfl, rfl, by simp, ⟨[], by simp⟩, by simp, fun q hq => by cases hq⟩
    · obtain ⟨ps, hl1, rfl, hq, hg, hh, hd⟩ := pp
      have hp' : lstAt h' p = some (zs.map W.int) := by
        have e2 := lstAt_some (hg.lst hp)
        rw [List.getElem?_take_of_lt hpl] at e2
        unfold lstAt
        rw [e2]
      refine ⟨.int zs[i], _, by unfold srcR; rw [hp']; simp [hi], rfl, ?_⟩
      refine ev_ok ?_
      rw [if_pos rfl]
      simp (disch := first | omega | (simp only [List.length_append, List.length_cons, List.length_nil, List.length_set, List.length_drop, List.length_take, List.length_map]; omega)) only [mVar_z, Nat.reduceAdd, Nat.zero_add, Int.zero_add, Int.reduceAdd, Int.reduceSub, Int.reduceNeg, ap_Lst, ap_Tup, nil_app, cons_app, List.length_append, lst_last, mVar_s, ok_bnd, ok_stm, exc_bnd, ev_okE, exc_stm, ap_C, ap_Op, ap_Un, ap_B, ap_Chain, ap_asB, ap_And, ap_Or, ap_Not, ap_AndV, ap_OrV, ap_NotV, ap_If, ap_Nil, ap_Cons, ap_CB, ap_Meth, ap_Part, ap_NoPart, ap_Sl, ap_Yes, add_ii, add_ss, sub_ii, neg_i, mul_ii, fdiv_ii, mod_ii, eq_ii, ne_ii, eq_ss, ne_ss, lt_ii, le_ii, gt_ii, ge_ii, lt_ss, gt_ss, le_ss, ge_ss, len_s, len_t, abs_i, int_i, int_b, max_ii, min_ii, ix_s, ixL_0, ixL_1, ixL_2, ixL_3, ixL_n, ixL_i, ixL_st, setL_n, setL_i, List.length_map, List.length_set, ix_r, getL_r, ix_tL, withL_s, setL_0, setL_1, setL_2, set_r, app_r, lst_z, lst_s, iadd_ii, tuple_r, mul_ri, sl_s, sl_rol, sl_t, sl_r, cut_from, cut_to, ap_Seq, nx_seq, rt_seq, ct_seq, bk_seq, exc_seq, ap_Raise, ap_Skip, ap_Brk, ap_Cnt, ap_Drop, ap_Ret, ap_IfS, ap_Set, ap_Ts, ap_AsgT, tgT_t, tgTs_n, tgTs_c, ap_Aug, ap_SetI, ap_AugI, mFor_ap, ap_Rng1, ap_Rng2, rng1_ok, rng2_ok, ap_Iter, src_t, src_s, src_rL, ap_Comp, wipe_n, wipe_c, len_cons, len_nil, zip_cc, zip_nn, foldl_c, foldl_n, set_z, set_s, ite_t, ite_f, ite_T, ite_F, sing_lt, sing_eq, ty_r, ty_s, isS, cut_mid, decide_eq_true_eq, if_pos, if_neg]
      obtain ⟨a, b, c, g, e1⟩ := dice_ev (z := zs[i]) (h := h') (hzb _ (List.getElem_mem hi))
      refine ev_eq e1 ⟨by rw [List.getElem?_append_left hh]; exact hD, ps ++ [h'.length], by simp [hl1], by simp, fun q hq2 => ?_, ?_, by simp; omega, ?_⟩
      · rcases List.mem_append.1 hq2 with x | x
        · exact hq q x
        · have := List.mem_singleton.1 x
          omega
      · rw [List.take_set_of_le (Nat.le_refl _), List.take_append_of_le_length (by omega)]
        exact hg
      · refine DH.set (fun q hq2 => ?_) (fun x => ?_)
        · rcases List.mem_append.1 hq2 with x | x
          · exact hd.gr Gr.app q x
          · have := List.mem_singleton.1 x
            subst this
            exact ⟨a, b, c, lst_last, g⟩
        · rcases List.mem_append.1 x with x | x
          · have := hq _ x
            omega
          · have := List.mem_singleton.1 x
            omega
    · obtain ⟨ps, hl1, rfl, hq, hg, hh, hd⟩ := pp
      have hp' : lstAt h' p = some (zs.map W.int) := by
        have e2 := lstAt_some (hg.lst hp)
        rw [List.getElem?_take_of_lt hpl] at e2
        unfold lstAt
        rw [e2]
      refine ⟨by unfold srcR; rw [hp']; simp, _, ps, rfl, fun x => by have := hq _ x; omega, fun x => ?_, by omega, by unfold lstAt; rw [hD], hd⟩
      rw [x] at hl1
      exact hz (List.eq_nil_of_length_eq_zero hl1.symm)
  simp (disch := first | omega | (simp only [List.length_append, List.length_cons, List.length_nil, List.length_set, List.length_drop, List.length_take, List.length_map]; omega)) only [mVar_z, Nat.reduceAdd, Nat.zero_add, Int.zero_add, Int.reduceAdd, Int.reduceSub, Int.reduceNeg, ap_Lst, ap_Tup, nil_app, cons_app, List.length_append, lst_last, mVar_s, ok_bnd, ok_stm, exc_bnd, ev_okE, exc_stm, ap_C, ap_Op, ap_Un, ap_B, ap_Chain, ap_asB, ap_And, ap_Or, ap_Not, ap_AndV, ap_OrV, ap_NotV, ap_If, ap_Nil, ap_Cons, ap_CB, ap_Meth, ap_Part, ap_NoPart, ap_Sl, ap_Yes, add_ii, add_ss, sub_ii, neg_i, mul_ii, fdiv_ii, mod_ii, eq_ii, ne_ii, eq_ss, ne_ss, lt_ii, le_ii, gt_ii, ge_ii, lt_ss, gt_ss, le_ss, ge_ss, len_s, len_t, abs_i, int_i, int_b, max_ii, min_ii, ix_s, ixL_0, ixL_1, ixL_2, ixL_3, ixL_n, ixL_i, ixL_st, setL_n, setL_i, List.length_map, List.length_set, ix_r, getL_r, ix_tL, withL_s, setL_0, setL_1, setL_2, set_r, app_r, lst_z, lst_s, iadd_ii, tuple_r, mul_ri, sl_s, sl_rol, sl_t, sl_r, cut_from, cut_to, ap_Seq, nx_seq, rt_seq, ct_seq, bk_seq, exc_seq, ap_Raise, ap_Skip, ap_Brk, ap_Cnt, ap_Drop, ap_Ret, ap_IfS, ap_Set, ap_Ts, ap_AsgT, tgT_t, tgTs_n, tgTs_c, ap_Aug, ap_SetI, ap_AugI, mFor_ap, ap_Rng1, ap_Rng2, rng1_ok, rng2_ok, ap_Iter, src_t, src_s, src_rL, ap_Comp, wipe_n, wipe_c, len_cons, len_nil, zip_cc, zip_nn, foldl_c, foldl_n, set_z, set_s, ite_t, ite_f, ite_T, ite_F, sing_lt, sing_eq, ty_r, ty_s, isS, cut_mid, decide_eq_true_eq, if_pos, if_neg]
  have e1 := cut_to (xs := ns) h0
  have e2 := mapInt_rol (ns := ns) (lo := none) (hi := some most)
  rw [cut_to h0, e1] at e2
  rw [e2]
  have e3 := eq_ints (n := 0) (m := 1) (l := ns.take most.toNat) (l' := []) (h := [O.lst ((ns.take most.toNat).map W.int), O.lst []]) rfl rfl
  rw [e3]
  by_cases hz : ns.take most.toNat = []
  · rw [decide_eq_true hz]
    simp (disch := first | omega | (simp only [List.length_append, List.length_cons, List.length_nil, List.length_set, List.length_drop, List.length_take, List.length_map]; omega)) only [mVar_z, Nat.reduceAdd, Nat.zero_add, Int.zero_add, Int.reduceAdd, Int.reduceSub, Int.reduceNeg, ap_Lst, ap_Tup, nil_app, cons_app, List.length_append, lst_last, mVar_s, ok_bnd, ok_stm, exc_bnd, ev_okE, exc_stm, ap_C, ap_Op, ap_Un, ap_B, ap_Chain, ap_asB, ap_And, ap_Or, ap_Not, ap_AndV, ap_OrV, ap_NotV, ap_If, ap_Nil, ap_Cons, ap_CB, ap_Meth, ap_Part, ap_NoPart, ap_Sl, ap_Yes, add_ii, add_ss, sub_ii, neg_i, mul_ii, fdiv_ii, mod_ii, eq_ii, ne_ii, eq_ss, ne_ss, lt_ii, le_ii, gt_ii, ge_ii, lt_ss, gt_ss, le_ss, ge_ss, len_s, len_t, abs_i, int_i, int_b, max_ii, min_ii, ix_s, ixL_0, ixL_1, ixL_2, ixL_3, ixL_n, ixL_i, ixL_st, setL_n, setL_i, List.length_map, List.length_set, ix_r, getL_r, ix_tL, withL_s, setL_0, setL_1, setL_2, set_r, app_r, lst_z, lst_s, iadd_ii, tuple_r, mul_ri, sl_s, sl_rol, sl_t, sl_r, cut_from, cut_to, ap_Seq, nx_seq, rt_seq, ct_seq, bk_seq, exc_seq, ap_Raise, ap_Skip, ap_Brk, ap_Cnt, ap_Drop, ap_Ret, ap_IfS, ap_Set, ap_Ts, ap_AsgT, tgT_t, tgTs_n, tgTs_c, ap_Aug, ap_SetI, ap_AugI, mFor_ap, ap_Rng1, ap_Rng2, rng1_ok, rng2_ok, ap_Iter, src_t, src_s, src_rL, ap_Comp, wipe_n, wipe_c, len_cons, len_nil, zip_cc, zip_nn, foldl_c, foldl_n, set_z, set_s, ite_t, ite_f, ite_T, ite_F, sing_lt, sing_eq, ty_r, ty_s, isS, cut_mid, decide_eq_true_eq, if_pos, if_neg]
    have m1 := main [O.lst ((ns.take most.toNat).map W.int), O.lst [], O.lst [W.int 0]] [] 2 [0] rfl (by simp) (by simp) (by simp; exact Nat.lt_of_lt_of_le (by decide) AB_ge)
    unfold scriptW at m1
    simp only [cons_app, nil_app, len_cons, len_nil, Nat.reduceAdd] at m1
    refine sv_stm ?_
    refine ev_imp m1 fun w h p => ?_
    exact p
  · rw [decide_eq_false hz]
    simp (disch := first | omega | (simp only [List.length_append, List.length_cons, List.length_nil, List.length_set, List.length_drop, List.length_take, List.length_map]; omega)) only [mVar_z, Nat.reduceAdd, Nat.zero_add, Int.zero_add, Int.reduceAdd, Int.reduceSub, Int.reduceNeg, ap_Lst, ap_Tup, nil_app, cons_app, List.length_append, lst_last, mVar_s, ok_bnd, ok_stm, exc_bnd, ev_okE, exc_stm, ap_C, ap_Op, ap_Un, ap_B, ap_Chain, ap_asB, ap_And, ap_Or, ap_Not, ap_AndV, ap_OrV, ap_NotV, ap_If, ap_Nil, ap_Cons, ap_CB, ap_Meth, ap_Part, ap_NoPart, ap_Sl, ap_Yes, add_ii, add_ss, sub_ii, neg_i, mul_ii, fdiv_ii, mod_ii, eq_ii, ne_ii, eq_ss, ne_ss, lt_ii, le_ii, gt_ii, ge_ii, lt_ss, gt_ss, le_ss, ge_ss, len_s, len_t, abs_i, int_i, int_b, max_ii, min_ii, ix_s, ixL_0, ixL_1, ixL_2, ixL_3, ixL_n, ixL_i, ixL_st, setL_n, setL_i, List.length_map, List.length_set, ix_r, getL_r, ix_tL, withL_s, setL_0, setL_1, setL_2, set_r, app_r, lst_z, lst_s, iadd_ii, tuple_r, mul_ri, sl_s, sl_rol, sl_t, sl_r, cut_from, cut_to, ap_Seq, nx_seq, rt_seq, ct_seq, bk_seq, exc_seq, ap_Raise, ap_Skip, ap_Brk, ap_Cnt, ap_Drop, ap_Ret, ap_IfS, ap_Set, ap_Ts, ap_AsgT, tgT_t, tgTs_n, tgTs_c, ap_Aug, ap_SetI, ap_AugI, mFor_ap, ap_Rng1, ap_Rng2, rng1_ok, rng2_ok, ap_Iter, src_t, src_s, src_rL, ap_Comp, wipe_n, wipe_c, len_cons, len_nil, zip_cc, zip_nn, foldl_c, foldl_n, set_z, set_s, ite_t, ite_f, ite_T, ite_F, sing_lt, sing_eq, ty_r, ty_s, isS, cut_mid, decide_eq_true_eq, if_pos, if_neg]
    have m1 := main [O.lst ((ns.take most.toNat).map W.int), O.lst []] [] 0 (ns.take most.toNat) rfl hz (by simp; omega) (fun z hz => hb z (List.mem_of_mem_take hz))
    unfold scriptW at m1
    simp only [cons_app, nil_app, len_cons, len_nil, Nat.reduceAdd] at m1
    refine sv_stm ?_
    refine ev_imp m1 fun w h p => ?_
    exact p

/-! ### lists of numbers and of texts -/
def picksI (N : Nat) (lo : Int) (c : Nat → Bool) : List Int := ((List.range N).filter c).map fun i : Nat => lo + (i : Int)
theorem picks_int {N : Nat} {lo : Int} {c : Nat → Bool} : picks N c (fun i => .int (lo + i)) = (picksI N lo c).map .int := by
  unfold picks picksI
  rw [List.map_map]
  rfl
theorem picksI_nil {N : Nat} {lo : Int} {c : Nat → Bool} : picksI N lo c = [] ↔ ∀ i, i < N → c i = false := by
  unfold picksI
  rw [List.map_eq_nil_iff, List.filter_eq_nil_iff]
  constructor
  · intro h i hi
    simpa using h i (List.mem_range.2 hi)
  · intro h i hi
    simpa using h i (List.mem_range.1 hi)
theorem mem_picksI {N : Nat} {lo : Int} {c : Nat → Bool} {z : Int} : z ∈ picksI N lo c ↔ ∃ i, i < N ∧ c i = true ∧ z = lo + i := by
  unfold picksI
  rw [List.mem_map]
  constructor
  · rintro ⟨i, hi, rfl⟩
    rw [List.mem_filter, List.mem_range] at hi
    exact ⟨i, hi.1, hi.2, rfl⟩
  · rintro ⟨i, h1, h2, rfl⟩
    exact ⟨i, by rw [List.mem_filter, List.mem_range]; exact ⟨h1, h2⟩, rfl⟩
theorem intsOf_map : ∀ l : List Int, intsOf (l.map .int) = some l
  | [] => rfl
  | i :: l => by rw [List.map_cons]; unfold intsOf; rw [intsOf_map l]; rfl
theorem strsOf_map : ∀ l : List (List Nat), strsOf (l.map .str) = some l
  | [] => rfl
  | i :: l => by rw [List.map_cons]; unfold strsOf; rw [strsOf_map l]; rfl
theorem max_r {h : List O} {n : Nat} {l : List Int} (hn : lstAt h n = some (l.map .int)) {r : Int} (h1 : r ∈ l) (h2 : ∀ z ∈ l, z ≤ r) : oMax [.ref n] h = .ok (.int r) h := by
  unfold oMax
  dsimp only [sqL]
  rw [hn]
  dsimp only
  rw [intsOf_map]
  dsimp only
  rw [if_pos (List.length_pos_of_mem h1), ← maxI_ok h1 h2]
theorem joinW_nil : ∀ l : List (List Nat), joinW [] l = l.flatten
  | [] => rfl
  | [x] => by simp [joinW]
  | x :: y :: r => by
    unfold joinW
    rw [joinW_nil (y :: r)]
    simp
theorem join_t {h : List O} {l : List (List Nat)} (hs : l.flatten.length ≤ 1000000) : oJoin (.str []) [.tup (l.map .str)] h = .ok (.str l.flatten) h := by
  unfold oJoin
  dsimp only [sqA]
  rw [strsOf_map]
  dsimp only
  rw [if_pos (by rw [← List.length_flatten]; simpa using hs), joinW_nil]
theorem join_r {h : List O} {n : Nat} {l : List (List Nat)} (hn : lstAt h n = some (l.map .str)) (hs : l.flatten.length ≤ 1000000) : oJoin (.str []) [.ref n] h = .ok (.str l.flatten) h := by
  unfold oJoin
  dsimp only [sqA]
  rw [hn]
  dsimp only
  rw [strsOf_map]
  dsimp only
  rw [if_pos (by rw [← List.length_flatten]; simpa using hs), joinW_nil]
theorem list_ex {α : Type} {f : α → W} {P : α → Prop} : ∀ acc : List W, (∀ (i : Nat) (w : W), acc[i]? = some w → ∃ c, w = f c ∧ P c) → ∃ cs : List α, acc = cs.map f ∧ ∀ c ∈ cs, P c
  | [], _ => ⟨[], rfl, by simp⟩
  | w :: acc, h => by
    obtain ⟨c, rfl, hc⟩ := h 0 w rfl
    obtain ⟨cs, rfl, hcs⟩ := list_ex acc fun i w hw => h (i + 1) w hw
    exact ⟨c :: cs, rfl, fun x hx => by
      rcases List.mem_cons.1 hx with rfl | hx
      · exact hc
      · exact hcs x hx⟩
theorem flat_one : ∀ cs : List Nat, (cs.map fun c => [c]).flatten = cs
  | [] => rfl
  | c :: cs => by rw [List.map_cons, List.flatten_cons, flat_one cs]; rfl
theorem minS_fold (r : List (List Nat)) : ∀ x : List Nat, (r.foldl (fun a y => if y < a then y else a) x ∈ x :: r) ∧ ∀ z ∈ x :: r, ¬ z < r.foldl (fun a y => if y < a then y else a) x := by
  induction r with
  | nil => intro x; exact ⟨List.mem_cons_self, fun z hz => by rw [List.mem_singleton.1 hz]; exact List.lt_irrefl _⟩
  | cons y r ih =>
    intro x
    rw [List.foldl_cons]
    by_cases hyx : y < x
    · rw [if_pos hyx]
      obtain ⟨a, b⟩ := ih y
      refine ⟨List.mem_cons_of_mem _ a, fun z hz => ?_⟩
      rcases List.mem_cons.1 hz with rfl | hz
      · intro hlt
        exact b y List.mem_cons_self (List.lt_trans hyx hlt)
      · exact b z hz
    · rw [if_neg hyx]
      obtain ⟨a, b⟩ := ih x
      refine ⟨?_, fun z hz => ?_⟩
      · rcases List.mem_cons.1 a with e | e
        · rw [e]; exact List.mem_cons_self
        · exact List.mem_cons_of_mem _ (List.mem_cons_of_mem _ e)
      · rcases List.mem_cons.1 hz with rfl | hz
        · exact b _ List.mem_cons_self
        · rcases List.mem_cons.1 hz with rfl | hz
          · intro hlt
            have h1 := b x List.mem_cons_self
            have h2 : ¬ z < x := hyx
            have h3 : x ≤ z := h2
            exact h1 (List.lt_of_le_of_lt h3 hlt)
          · exact b z (List.mem_cons_of_mem _ hz)
theorem minS_ok {l : List (List Nat)} {m : List Nat} (hm : m ∈ l) (h : ∀ z ∈ l, ¬ z < m) : minS l = m := by
  cases l with
  | nil => cases hm
  | cons x r =>
    obtain ⟨a, b⟩ := minS_fold r x
    have h1 := b m hm
    have h2 := h _ a
    exact List.le_antisymm h1 h2
theorem min_rs {h : List O} {n : Nat} {l : List (List Nat)} (hn : lstAt h n = some (l.map .str)) {m : List Nat} (h1 : m ∈ l) (h2 : ∀ z ∈ l, ¬ z < m) : oMin [.ref n] h = .ok (.str m) h := by
  unfold oMin
  dsimp only [sqL]
  rw [hn]
  dsimp only
  have e : intsOf (l.map .str) = none := by
    cases l with
    | nil => cases h1
    | cons x r => rfl
  rw [e]
  dsimp only
  rw [strsOf_map]
  dsimp only
  rw [if_pos (List.length_pos_of_mem h1), minS_ok h1 h2]
theorem idxOf_is {α : Type} [BEq α] [LawfulBEq α] {x : α} : ∀ {l : List α} {j : Nat}, l[j]? = some x → (∀ m, m < j → l[m]? ≠ some x) → idxOf x l = some j
  | [], j, h, _ => by cases h
  | y :: r, 0, h, _ => by
    cases h
    unfold idxOf
    rw [if_pos (by simp)]
  | y :: r, j + 1, h, hm => by
    unfold idxOf
    rw [if_neg, idxOf_is (l := r) (j := j) h fun m hmj => hm (m + 1) (by omega)]
    · rfl
    · intro e
      have e2 : y = x := by simpa using e
      subst e2
      exact hm 0 (by omega) rfl
theorem index_s {h : List O} {n : Nat} {l : List (List Nat)} {s : List Nat} {j : Nat} (hn : lstAt h n = some (l.map .str)) (h1 : l[j]? = some s) (h2 : ∀ m, m < j → l[m]? ≠ some s) : oIndex (.ref n) [.str s] h = .ok (.int j) h := by
  unfold oIndex
  dsimp only [sqL]
  rw [hn]
  dsimp only
  rw [strsOf_map]
  dsimp only
  rw [idxOf_is h1 h2]
theorem picks_all {N : Nat} {f : Nat → W} : picks N (fun _ => true) f = (List.range N).map f := by
  unfold picks
  rw [List.filter_eq_self.2 (by simp)]
theorem sv_nx {e : Env} {h : List O} {R : SOut → Prop} : Sv (.nx e h) R = R (.nx e h) := nrfl rfl
theorem sv_rt {w : W} {h : List O} {R : SOut → Prop} : Sv (.rt w h) R = R (.rt w h) := nrfl rfl
theorem sv_ct {e : Env} {h : List O} {R : SOut → Prop} : Sv (.ct e h) R = R (.ct e h) := nrfl rfl
theorem rnd_nx {e : Env} {h : List O} {I : Env → List O → Prop} {R : SOut → Prop} : rnd I R (.nx e h) = I e h := nrfl rfl
theorem rnd_ct {e : Env} {h : List O} {I : Env → List O → Prop} {R : SOut → Prop} : rnd I R (.ct e h) = I e h := nrfl rfl
end Den
set_option maxRecDepth 100000
set_option maxHeartbeats 4000000
/-! The plain functions of the text, and that the text does as they say. Printed by gen.py. -/
namespace Law_indexhall_k22_words_turned_and_cut
open PySem L2 Den PyProof.Rows
def top (i : Nat) : Stmt := PySem.Challenge.pw_indexhall_k22_words_turned_and_cut.main.body.getD i (.Pass ⟨0, 0, 0, 0⟩)
abbrev s_own_ways_back : Stmt := top 5
abbrev s_least_turn : Stmt := top 6
abbrev s_falling_words : Stmt := top 7
abbrev s_law_dice : Stmt := top 9
abbrev s_law_roll : Stmt := top 10
abbrev s_law_rounds : Stmt := top 11
abbrev s_law_told : Stmt := top 12
abbrev s_law : Stmt := top 13
theorem sc_law_told : FnScope ["what"] ["what"] (defScope s_law_told) := ⟨rfl, rfl, rfl, by decide +kernel, rfl, by decide +kernel, by decide +kernel⟩
theorem sc_own_ways_back : FnScope ["text", "found", "middle", "high", "k"] ["text"] (defScope s_own_ways_back) := ⟨rfl, rfl, rfl, by decide +kernel, rfl, by decide +kernel, by decide +kernel⟩
theorem sc_least_turn : FnScope ["word", "one", "other", "same", "many", "a", "b"] ["word"] (defScope s_least_turn) := ⟨rfl, rfl, rfl, by decide +kernel, rfl, by decide +kernel, by decide +kernel⟩
theorem sc_falling_words : FnScope ["text", "found", "k", "j", "same"] ["text"] (defScope s_falling_words) := ⟨rfl, rfl, rfl, by decide +kernel, rfl, by decide +kernel, by decide +kernel⟩
theorem sc_law_dice : FnScope ["cell"] ["cell"] (defScope s_law_dice) := ⟨rfl, rfl, rfl, by decide +kernel, rfl, by decide +kernel, by decide +kernel⟩
theorem sc_law_roll : FnScope ["dice", "many", "found"] ["dice", "many"] (defScope s_law_roll) := ⟨rfl, rfl, rfl, by decide +kernel, rfl, by decide +kernel, by decide +kernel⟩
theorem sc_law_rounds : FnScope ["script", "most", "cells", "cell"] ["script", "most"] (defScope s_law_rounds) := ⟨rfl, rfl, rfl, by decide +kernel, rfl, by decide +kernel, by decide +kernel⟩
theorem sc_law : FnScope ["script", "dice", "text", "many", "k", "parts_there", "part", "good", "turns", "j", "i"] ["script"] (defScope s_law) := ⟨rfl, rfl, rfl, by decide +kernel, rfl, by decide +kernel, by decide +kernel⟩
/-! ### the plain functions -/
def body_own_ways_back : Sm := mSeq (mTs [1, 2, 3] (mCons (mOp oMul (mLst (mCons (mC (.int 0)) (mNil))) (mCB oLen (mCons (mVar 0) (mNil)))) (mCons (mC (.int 0)) (mCons (mUn oNeg (mC (.int 1))) (mNil))))) (mSeq (mFor 100000 (mRng1 (mCons (mCB oLen (mCons (mVar 0) (mNil))) (mNil))) (tgN 4) (mSeq (mIfS (mB (mOp oLe (mVar 4) (mVar 3))) (mSetI oSet (mVar 1) (mVar 4) (mCB oMin (mCons (mOp oIx (mVar 1) (mOp oSub (mOp oMul (mC (.int 2)) (mVar 2)) (mVar 4))) (mCons (mOp oSub (mVar 3) (mVar 4)) (mNil))))) (mSkip)) (mSeq (mWhile 100000 (mAnd (mB (mOp oGt (mOp oSub (mVar 4) (mOp oIx (mVar 1) (mVar 4))) (mC (.int 0)))) (mAnd (mB (mOp oLt (mOp oAdd (mOp oAdd (mVar 4) (mOp oIx (mVar 1) (mVar 4))) (mC (.int 1))) (mCB oLen (mCons (mVar 0) (mNil))))) (mB (mOp oEq (mOp oIx (mVar 0) (mOp oSub (mOp oSub (mVar 4) (mOp oIx (mVar 1) (mVar 4))) (mC (.int 1)))) (mOp oIx (mVar 0) (mOp oAdd (mOp oAdd (mVar 4) (mOp oIx (mVar 1) (mVar 4))) (mC (.int 1)))))))) (mAugI oGetL oIadd oSet (mVar 1) (mVar 4) (mC (.int 1)))) (mIfS (mB (mOp oGt (mOp oAdd (mVar 4) (mOp oIx (mVar 1) (mVar 4))) (mVar 3))) (mTs [2, 3] (mCons (mVar 4) (mCons (mOp oAdd (mVar 4) (mOp oIx (mVar 1) (mVar 4))) (mNil)))) (mSkip))))) (mRet (mCB oTuple (mCons (mVar 1) (mNil)))))
def den_own_ways_back : List W → List O → Out W := mFun 5 body_own_ways_back
def body_least_turn : Sm := mSeq (mIfS (mB (mOp oEq (mVar 0) (mC (.str [])))) (mRaise 1) (mSkip)) (mSeq (mTs [1, 2, 3] (mCons (mC (.int 0)) (mCons (mC (.int 1)) (mCons (mC (.int 0)) (mNil))))) (mSeq (mSet 4 (mCB oLen (mCons (mVar 0) (mNil)))) (mSeq (mWhile 100000 (mAnd (mB (mOp oLt (mVar 1) (mVar 4))) (mAnd (mB (mOp oLt (mVar 2) (mVar 4))) (mB (mOp oLt (mVar 3) (mVar 4))))) (mSeq (mTs [5, 6] (mCons (mOp oIx (mVar 0) (mOp oMod (mOp oAdd (mVar 1) (mVar 3)) (mVar 4))) (mCons (mOp oIx (mVar 0) (mOp oMod (mOp oAdd (mVar 2) (mVar 3)) (mVar 4))) (mNil)))) (mSeq (mIfS (mB (mOp oEq (mVar 5) (mVar 6))) (mSeq (mAug 3 oIadd (mC (.int 1))) (mCnt)) (mSkip)) (mSeq (mIfS (mB (mOp oGt (mVar 5) (mVar 6))) (mAug 1 oIadd (mOp oAdd (mVar 3) (mC (.int 1)))) (mAug 2 oIadd (mOp oAdd (mVar 3) (mC (.int 1))))) (mSeq (mIfS (mB (mOp oEq (mVar 1) (mVar 2))) (mAug 2 oIadd (mC (.int 1))) (mSkip)) (mSet 3 (mC (.int 0)))))))) (mRet (mCB oMin (mCons (mVar 1) (mCons (mVar 2) (mNil))))))))
def den_least_turn : List W → List O → Out W := mFun 7 body_least_turn
def body_falling_words : Sm := mSeq (mTs [1, 2] (mCons (mLst (mNil)) (mCons (mC (.int 0)) (mNil)))) (mSeq (mWhile 100000 (mB (mOp oLt (mVar 2) (mCB oLen (mCons (mVar 0) (mNil))))) (mSeq (mTs [3, 4] (mCons (mOp oAdd (mVar 2) (mC (.int 1))) (mCons (mVar 2) (mNil)))) (mSeq (mWhile 100000 (mAnd (mB (mOp oLt (mVar 3) (mCB oLen (mCons (mVar 0) (mNil))))) (mB (mOp oLe (mOp oIx (mVar 0) (mVar 4)) (mOp oIx (mVar 0) (mVar 3))))) (mSeq (mSet 4 (mIf (mB (mOp oLt (mOp oIx (mVar 0) (mVar 4)) (mOp oIx (mVar 0) (mVar 3)))) (mVar 2) (mOp oAdd (mVar 4) (mC (.int 1))))) (mAug 3 oIadd (mC (.int 1))))) (mWhile 100000 (mB (mOp oLe (mVar 2) (mVar 4))) (mSeq (mDrop (mMeth "list" oAppend (mVar 1) (mCons (mSl (mVar 0) (mPart (mVar 2)) (mPart (mOp oSub (mOp oAdd (mVar 2) (mVar 3)) (mVar 4)))) (mNil)))) (mAug 2 oIadd (mOp oSub (mVar 3) (mVar 4)))))))) (mRet (mCB oTuple (mCons (mVar 1) (mNil)))))
def den_falling_words : List W → List O → Out W := mFun 5 body_falling_words
def body_law_dice : Sm := mSeq (mIfS (mB (mChain oLt oLt (mOp oSub (mC (.int 0)) (mC (.int 10))) (mVar 0) (mC (.int 10)))) (mRet (mLst (mCons (mCB oAbs (mCons (mVar 0) (mNil))) (mCons (mC (.int 0)) (mCons (mC (.int 2)) (mNil)))))) (mSkip)) (mRet (mLst (mCons (mVar 0) (mCons (mOp oAdd (mC (.int 1)) (mOp oMod (mCB oInt (mCons (mVar 0) (mNil))) (mC (.int 1009)))) (mCons (mCB oInt (mCons (mOp oGe (mVar 0) (mOp oPow (mC (.int 10)) (mC (.int 18)))) (mNil))) (mNil))))))
def den_law_dice : List W → List O → Out W := mFun 1 body_law_dice
def body_law_roll : Sm := mSeq (mIfS (mOr (mB (mOp oEq (mOp oIx (mVar 0) (mC (.int 2))) (mC (.int 2)))) (mAnd (mB (mOp oEq (mOp oIx (mVar 0) (mC (.int 2))) (mC (.int 1)))) (mB (mOp oGt (mOp oIx (mVar 0) (mC (.int 0))) (mC (.int 0)))))) (mSeq (mSet 2 (mOp oMod (mCB oInt (mCons (mOp oIx (mVar 0) (mC (.int 0))) (mNil))) (mVar 1))) (mSeq (mSetI oSet (mVar 0) (mC (.int 0)) (mOp oFdiv (mOp oIx (mVar 0) (mC (.int 0))) (mVar 1))) (mRet (mVar 2)))) (mSkip)) (mSeq (mSetI oSet (mVar 0) (mC (.int 2)) (mC (.int 0))) (mSeq (mSetI oSet (mVar 0) (mC (.int 0)) (mOp oMod (mCB oInt (mCons (mOp oAdd (mOp oAdd (mOp oMul (mOp oIx (mVar 0) (mC (.int 0))) (mC (.int 48271))) (mOp oMul (mOp oIx (mVar 0) (mC (.int 1))) (mC (.int 69621)))) (mC (.int 11))) (mNil))) (mC (.int 2147483647)))) (mSeq (mSetI oSet (mVar 0) (mC (.int 1)) (mOp oAdd (mOp oIx (mVar 0) (mC (.int 1))) (mC (.int 1)))) (mRet (mOp oMod (mCB oInt (mCons (mOp oAdd (mOp oFdiv (mOp oIx (mVar 0) (mC (.int 0))) (mC (.int 7))) (mOp oIx (mVar 0) (mC (.int 0)))) (mNil))) (mVar 1))))))
def den_law_roll : List W → List O → Out W := mFun 3 body_law_roll
def body_law_rounds : Sm := mSeq (mSet 2 (mSl (mVar 0) (mNoPart) (mPart (mVar 1)))) (mSeq (mIfS (mB (mOp oEq (mVar 2) (mLst (mNil)))) (mSet 2 (mLst (mCons (mC (.int 0)) (mNil)))) (mSkip)) (mRet (mComp 100000 [3] (mIter (mVar 2)) (tgN 3) (mYes) (mCB (fun ws h => if ws.length = 1 then den_law_dice ws h else .bad) (mCons (mVar 3) (mNil))))))
def den_law_rounds : List W → List O → Out W := mFun 4 body_law_rounds
def body_law : Sm := mSeq (mFor 100000 (mIter (mCB (fun ws h => if ws.length = 2 then den_law_rounds ws h else .bad) (mCons (mVar 0) (mCons (mC (.int 4)) (mNil))))) (tgN 1) (mSeq (mSet 2 (mMeth "str" oJoin (mC (.str [])) (mCons (mComp 100000 [4] (mRng1 (mCons (mCB (fun ws h => if ws.length = 2 then den_law_roll ws h else .bad) (mCons (mVar 1) (mCons (mC (.int 13)) (mNil)))) (mNil))) (tgN 4) (mYes) (mOp oIx (mC (.str [97, 98])) (mCB (fun ws h => if ws.length = 2 then den_law_roll ws h else .bad) (mCons (mVar 1) (mCons (mC (.int 2)) (mNil)))))) (mNil)))) (mSeq (mSet 3 (mCB oLen (mCons (mVar 2) (mNil)))) (mSeq (mFor 100000 (mRng1 (mCons (mVar 3) (mNil))) (tgN 4) (mSeq (mSet 7 (mComp 100000 [9] (mRng1 (mCons (mOp oAdd (mCB oMin (mCons (mVar 4) (mCons (mOp oSub (mOp oSub (mVar 3) (mC (.int 1))) (mVar 4)) (mNil)))) (mC (.int 1))) (mNil))) (tgN 9) (mB (mOp oEq (mComp 100000 [10] (mRng1 (mCons (mOp oAdd (mVar 9) (mC (.int 1))) (mNil))) (tgN 10) (mB (mOp oNe (mOp oIx (mVar 2) (mOp oSub (mVar 4) (mVar 10))) (mOp oIx (mVar 2) (mOp oAdd (mVar 4) (mVar 10))))) (mVar 10)) (mLst (mNil)))) (mVar 9))) (mIfS (mB (mOp oNe (mOp oIx (mCB (pureRun den_own_ways_back 1) (mCons (mVar 2) (mNil))) (mVar 4)) (mCB oMax (mCons (mVar 7) (mNil))))) (mRet (mC (.bl false))) (mSkip)))) (mSeq (mIfS (mB (mOp oNe (mVar 2) (mC (.str [])))) (mSeq (mSet 8 (mComp 100000 [4] (mRng1 (mCons (mVar 3) (mNil))) (tgN 4) (mYes) (mOp oAdd (mSl (mVar 2) (mPart (mVar 4)) (mNoPart)) (mSl (mVar 2) (mNoPart) (mPart (mVar 4)))))) (mIfS (mB (mOp oNe (mCB (pureRun den_least_turn 1) (mCons (mVar 2) (mNil))) (mMeth "list" oIndex (mVar 8) (mCons (mCB oMin (mCons (mVar 8) (mNil))) (mNil))))) (mRet (mC (.bl false))) (mSkip))) (mSkip)) (mSeq (mSet 5 (mCB (pureRun den_falling_words 1) (mCons (mVar 2) (mNil)))) (mSeq (mIfS (mB (mOp oNe (mMeth "str" oJoin (mC (.str [])) (mCons (mVar 5) (mNil))) (mVar 2))) (mRet (mC (.bl false))) (mSkip)) (mSeq (mIfS (mB (mOp oNe (mComp 100000 [4] (mRng2 (mCons (mC (.int 1)) (mCons (mCB oLen (mCons (mVar 5) (mNil))) (mNil)))) (tgN 4) (mB (mOp oLt (mOp oIx (mVar 5) (mOp oSub (mVar 4) (mC (.int 1)))) (mOp oIx (mVar 5) (mVar 4)))) (mVar 4)) (mLst (mNil)))) (mRet (mC (.bl false))) (mSkip)) (mSeq (mFor 100000 (mIter (mVar 5)) (tgN 6) (mIfS (mOr (mB (mOp oEq (mVar 6) (mC (.str [])))) (mB (mOp oNe (mComp 100000 [4] (mRng2 (mCons (mC (.int 1)) (mCons (mCB oLen (mCons (mVar 6) (mNil))) (mNil)))) (tgN 4) (mB (mOp oLe (mOp oAdd (mSl (mVar 6) (mPart (mVar 4)) (mNoPart)) (mSl (mVar 6) (mNoPart) (mPart (mVar 4)))) (mVar 6))) (mVar 4)) (mLst (mNil))))) (mRet (mC (.bl false))) (mSkip))) (mIfS (mOr (mB (mOp oNe (mCB oLen (mCons (mCB (pureRun den_own_ways_back 1) (mCons (mVar 2) (mNil))) (mNil))) (mVar 3))) (mB (mOp oNe (mTold [(1, [116, 101, 120, 116]), (2, [110, 111, 110, 101])] (mCB (pureRun den_least_turn 1) (mCons (mC (.str [])) (mNil)))) (mC (.str [116, 101, 120, 116]))))) (mRet (mC (.bl false))) (mSkip))))))))))) (mRet (mC (.bl true)))
def den_law : List W → List O → Out W := mFun 11 body_law
/-! ### what the top holds -/
structure Txt (K : PySem.W.Frag) (mg : Str → Option Value) (G : Gx) (C_BadText C_NoSuch : Addr) : Prop where
  b_abs : mg "abs" = none
  b_int : mg "int" = none
  b_len : mg "len" = none
  b_max : mg "max" = none
  b_min : mg "min" = none
  b_range : mg "range" = none
  b_tuple : mg "tuple" = none
  x_BadText : ExD K mg G "BadText" 1 C_BadText
  x_NoSuch : ExD K mg G "NoSuch" 2 C_NoSuch
section
variable {P : Program} {w : World} {K : PySem.W.Frag} {mg : Str → Option Value} {base : Heap} {G : Gx} {C_BadText C_NoSuch : Addr}
def hds_law_told : List ExceptHandler := match (defBody s_law_told) with | [.Try _ hs _ _ _] => hs | _ => []
theorem tells_law_told (T : Txt K mg G C_BadText C_NoSuch) : Tells (defScope s_law_told) mg (hds_law_told) [(.ref C_BadText, "text"), (.ref C_NoSuch, "none")] := .cons rfl (by decide) T.x_BadText.mg (.cons rfl (by decide) T.x_NoSuch.mg (.nil))
theorem tellN_law_told (T : Txt K mg G C_BadText C_NoSuch) (X_ : ∀ c C, G.ca c = some C → ∀ c' C', G.ca c' = some C' → PySem.W.exmOne K (.ref C) (.ref C') = some (decide (c' = c))) : TellN K G [(.ref C_BadText, "text"), (.ref C_NoSuch, "none")] [(1, [116, 101, 120, 116]), (2, [110, 111, 110, 101])] := tellN_cons (by decide +kernel) (fun c C h => X_ c C h 1 C_BadText T.x_BadText.ca) (tellN_cons (by decide +kernel) (fun c C h => X_ c C h 2 C_NoSuch T.x_NoSuch.ca) (tellN_nil))
theorem d_own_ways_back {f : Addr} {fd : FuncData} (T : Txt K mg G C_BadText C_NoSuch) (F : Fun K "own_ways_back" "own_ways_back" s_own_ways_back f fd) (g : mg "own_ways_back" = some (.ref f))  : FnD P w K mg base G 1 "own_ways_back" 1 den_own_ways_back :=
  fn_den (N := ["text", "found", "middle", "high", "k"]) (ps := ["text"]) (k := 0) F sc_own_ways_back g (F.binds (ps := ["text"]) fun _ _ _ _ _ _ us hl => match us, hl with | [_], _ => rfl) fun cdv A outer s H E hr0 => have hu0 := hr0.units; have hu1 := room65 hr0
    sss_cons (ss_par3 rfl sc_own_ways_back.nd rfl rfl rfl (by decide) (by decide) (by decide) rfl rfl rfl (sa_cons (se_op ops_mul (se_lst (sa_cons (se_int) (sa_nil))) (se_callB cas_len rfl T.b_len (by decide +kernel) (sa_cons (se_var 0) (sa_nil)))) (sa_cons (se_int) (sa_cons (se_un uns_neg (se_int)) (sa_nil)))) rfl)
    (sss_cons (ss_for (passes_of rfl) (si_rng1 (sa_cons (se_callB cas_len rfl T.b_len (by decide +kernel) (sa_cons (se_var 0) (sa_nil))) (sa_nil)) rfl T.b_range) (pg_name (i := 4) sc_own_ways_back.nd rfl (by first | exact Or.inl rfl | exact Or.inr rfl)) (tgk_name (i := 4) (vs := [4])) (sss_cons (ss_if (st_cmp ops_le (se_var 4) (se_var 3)) (sss_one (ss_seti sets_list (se_var 1) (se_var 4) (se_callB (cas_min rfl hu0) rfl T.b_min (by decide +kernel) (sa_cons (se_ix (se_var 1) (se_op ops_sub (se_op ops_mul (se_int) (se_var 2)) (se_var 4))) (sa_cons (se_op ops_sub (se_var 3) (se_var 4)) (sa_nil)))))) (sss_nil))
    (sss_cons (ss_while (passes_of rfl) (st_w (sw_and (st_cmp ops_gt (se_op ops_sub (se_var 4) (se_ix (se_var 1) (se_var 4))) (se_int)) (sw_and (st_cmp ops_lt (se_op ops_add (se_op ops_add (se_var 4) (se_ix (se_var 1) (se_var 4))) (se_int)) (se_callB cas_len rfl T.b_len (by decide +kernel) (sa_cons (se_var 0) (sa_nil)))) (sw_and1 (st_cmp (ops_eq hu0) (se_ix (se_var 0) (se_op ops_sub (se_op ops_sub (se_var 4) (se_ix (se_var 1) (se_var 4))) (se_int))) (se_ix (se_var 0) (se_op ops_add (se_op ops_add (se_var 4) (se_ix (se_var 1) (se_var 4))) (se_int)))))))) (sss_one (ss_augi gets_list ips_add sets_list (se_var 1) (se_var 4) (se_int))))
    (sss_one (ss_if (st_cmp ops_gt (se_op ops_add (se_var 4) (se_ix (se_var 1) (se_var 4))) (se_var 3)) (sss_one (ss_par rfl sc_own_ways_back.nd rfl rfl (by decide) rfl rfl (sa_cons (se_var 4) (sa_cons (se_op ops_add (se_var 4) (se_ix (se_var 1) (se_var 4))) (sa_nil))) rfl)) (sss_nil))))))
    (sss_one (ss_ret (se_callTy cas_tuple rfl T.b_tuple (by decide +kernel) (sa_cons (se_var 1) (sa_nil))))))
theorem d_least_turn {f : Addr} {fd : FuncData} (T : Txt K mg G C_BadText C_NoSuch) (F : Fun K "least_turn" "least_turn" s_least_turn f fd) (g : mg "least_turn" = some (.ref f))  : FnD P w K mg base G 1 "least_turn" 1 den_least_turn :=
  fn_den (N := ["word", "one", "other", "same", "many", "a", "b"]) (ps := ["word"]) (k := 0) F sc_least_turn g (F.binds (ps := ["word"]) fun _ _ _ _ _ _ us hl => match us, hl with | [_], _ => rfl) fun cdv A outer s H E hr0 => have hu0 := hr0.units; have hu1 := room65 hr0
    sss_cons (ss_if (st_cmp (ops_eq hu0) (se_var 0) (se_str)) (sss_one (ss_raise T.x_BadText rfl)) (sss_nil))
    (sss_cons (ss_asgT (is := [1, 2, 3]) (se_tup (sa_cons (se_int) (sa_cons (se_int) (sa_cons (se_int) (sa_nil))))) (pg_tup rfl (pgs_cons (pg_name (i := 1) sc_least_turn.nd rfl (by first | exact Or.inl rfl | exact Or.inr rfl)) (pgs_cons (pg_name (i := 2) sc_least_turn.nd rfl (by first | exact Or.inl rfl | exact Or.inr rfl)) (pgs_cons (pg_name (i := 3) sc_least_turn.nd rfl (by first | exact Or.inl rfl | exact Or.inr rfl)) (pgs_nil))))) (tgk_tups (is := [1, 2, 3]) (vs := [1, 2, 3])) (by decide))
    (sss_cons (ss_set (i := 4) sc_least_turn.nd rfl (by first | exact Or.inl rfl | exact Or.inr rfl) (se_callB cas_len rfl T.b_len (by decide +kernel) (sa_cons (se_var 0) (sa_nil))))
    (sss_cons (ss_while (passes_of rfl) (st_w (sw_and (st_cmp ops_lt (se_var 1) (se_var 4)) (sw_and (st_cmp ops_lt (se_var 2) (se_var 4)) (sw_and1 (st_cmp ops_lt (se_var 3) (se_var 4)))))) (sss_cons (ss_par rfl sc_least_turn.nd rfl rfl (by decide) rfl rfl (sa_cons (se_ix (se_var 0) (se_op ops_mod (se_op ops_add (se_var 1) (se_var 3)) (se_var 4))) (sa_cons (se_ix (se_var 0) (se_op ops_mod (se_op ops_add (se_var 2) (se_var 3)) (se_var 4))) (sa_nil))) rfl)
    (sss_cons (ss_if (st_cmp (ops_eq hu0) (se_var 5) (se_var 6)) (sss_cons (ss_aug (i := 3) sc_least_turn.nd rfl (by first | exact Or.inl rfl | exact Or.inr rfl) ips_add (se_int))
    (sss_one (ss_continue))) (sss_nil))
    (sss_cons (ss_if (st_cmp ops_gt (se_var 5) (se_var 6)) (sss_one (ss_aug (i := 1) sc_least_turn.nd rfl (by first | exact Or.inl rfl | exact Or.inr rfl) ips_add (se_op ops_add (se_var 3) (se_int)))) (sss_one (ss_aug (i := 2) sc_least_turn.nd rfl (by first | exact Or.inl rfl | exact Or.inr rfl) ips_add (se_op ops_add (se_var 3) (se_int)))))
    (sss_cons (ss_if (st_cmp (ops_eq hu0) (se_var 1) (se_var 2)) (sss_one (ss_aug (i := 2) sc_least_turn.nd rfl (by first | exact Or.inl rfl | exact Or.inr rfl) ips_add (se_int))) (sss_nil))
    (sss_one (ss_set (i := 3) sc_least_turn.nd rfl (by first | exact Or.inl rfl | exact Or.inr rfl) (se_int))))))))
    (sss_one (ss_ret (se_callB (cas_min rfl hu0) rfl T.b_min (by decide +kernel) (sa_cons (se_var 1) (sa_cons (se_var 2) (sa_nil)))))))))
theorem d_falling_words {f : Addr} {fd : FuncData} (T : Txt K mg G C_BadText C_NoSuch) (F : Fun K "falling_words" "falling_words" s_falling_words f fd) (g : mg "falling_words" = some (.ref f))  : FnD P w K mg base G 1 "falling_words" 1 den_falling_words :=
  fn_den (N := ["text", "found", "k", "j", "same"]) (ps := ["text"]) (k := 0) F sc_falling_words g (F.binds (ps := ["text"]) fun _ _ _ _ _ _ us hl => match us, hl with | [_], _ => rfl) fun cdv A outer s H E hr0 => have hu0 := hr0.units; have hu1 := room65 hr0
    sss_cons (ss_par rfl sc_falling_words.nd rfl rfl (by decide) rfl rfl (sa_cons (se_lst (sa_nil)) (sa_cons (se_int) (sa_nil))) rfl)
    (sss_cons (ss_while (passes_of rfl) (st_cmp ops_lt (se_var 2) (se_callB cas_len rfl T.b_len (by decide +kernel) (sa_cons (se_var 0) (sa_nil)))) (sss_cons (ss_par rfl sc_falling_words.nd rfl rfl (by decide) rfl rfl (sa_cons (se_op ops_add (se_var 2) (se_int)) (sa_cons (se_var 2) (sa_nil))) rfl)
    (sss_cons (ss_while (passes_of rfl) (st_w (sw_and (st_cmp ops_lt (se_var 3) (se_callB cas_len rfl T.b_len (by decide +kernel) (sa_cons (se_var 0) (sa_nil)))) (sw_and1 (st_cmp ops_le (se_ix (se_var 0) (se_var 4)) (se_ix (se_var 0) (se_var 3)))))) (sss_cons (ss_set (i := 4) sc_falling_words.nd rfl (by first | exact Or.inl rfl | exact Or.inr rfl) (se_ife (st_cmp ops_lt (se_ix (se_var 0) (se_var 4)) (se_ix (se_var 0) (se_var 3))) (se_var 2) (se_op ops_add (se_var 4) (se_int))))
    (sss_one (ss_aug (i := 3) sc_falling_words.nd rfl (by first | exact Or.inl rfl | exact Or.inr rfl) ips_add (se_int)))))
    (sss_one (ss_while (passes_of rfl) (st_cmp ops_le (se_var 2) (se_var 4)) (sss_cons (ss_expr (se_meth PySem.F.plainAttrs_list PySem.F.slot_list_append PySem.F.type_list_append mes_append (se_var 1) (sa_cons (se_sl (se_var 0) (so_some (se_var 2)) (so_some (se_op ops_sub (se_op ops_add (se_var 2) (se_var 3)) (se_var 4)))) (sa_nil))))
    (sss_one (ss_aug (i := 2) sc_falling_words.nd rfl (by first | exact Or.inl rfl | exact Or.inr rfl) ips_add (se_op ops_sub (se_var 3) (se_var 4))))))))))
    (sss_one (ss_ret (se_callTy cas_tuple rfl T.b_tuple (by decide +kernel) (sa_cons (se_var 1) (sa_nil))))))
theorem d_law_dice {f : Addr} {fd : FuncData} (T : Txt K mg G C_BadText C_NoSuch) (F : Fun K "_law_dice" "_law_dice" s_law_dice f fd) (g : mg "_law_dice" = some (.ref f))  : FnD P w K mg base G 1 "_law_dice" 1 den_law_dice :=
  fn_den (N := ["cell"]) (ps := ["cell"]) (k := 0) F sc_law_dice g (F.binds (ps := ["cell"]) fun _ _ _ _ _ _ us hl => match us, hl with | [_], _ => rfl) fun cdv A outer s H E hr0 => have hu0 := hr0.units; have hu1 := room65 hr0
    sss_cons (ss_if (st_chain ops_lt ops_lt (se_op ops_sub (se_int) (se_int)) (se_var 0) (se_int)) (sss_one (ss_ret (se_lst (sa_cons (se_callB cas_abs rfl T.b_abs (by decide +kernel) (sa_cons (se_var 0) (sa_nil))) (sa_cons (se_int) (sa_cons (se_int) (sa_nil))))))) (sss_nil))
    (sss_one (ss_ret (se_lst (sa_cons (se_var 0) (sa_cons (se_op ops_add (se_int) (se_op ops_mod (se_callTy cas_int rfl T.b_int (by decide +kernel) (sa_cons (se_var 0) (sa_nil))) (se_int))) (sa_cons (se_callTy cas_int rfl T.b_int (by decide +kernel) (sa_cons (se_cmp ops_ge (se_var 0) (se_op ops_pow (se_int) (se_int))) (sa_nil))) (sa_nil)))))))
theorem d_law_roll {f : Addr} {fd : FuncData} (T : Txt K mg G C_BadText C_NoSuch) (F : Fun K "_law_roll" "_law_roll" s_law_roll f fd) (g : mg "_law_roll" = some (.ref f))  : FnD P w K mg base G 1 "_law_roll" 2 den_law_roll :=
  fn_den (N := ["dice", "many", "found"]) (ps := ["dice", "many"]) (k := 0) F sc_law_roll g (F.binds (ps := ["dice", "many"]) fun _ _ _ _ _ _ us hl => match us, hl with | [_, _], _ => rfl) fun cdv A outer s H E hr0 => have hu0 := hr0.units; have hu1 := room65 hr0
    sss_cons (ss_if (st_w (sw_or (st_cmp (ops_eq hu0) (se_ix (se_var 0) (se_int)) (se_int)) (sw_or1 (st_w (sw_and (st_cmp (ops_eq hu0) (se_ix (se_var 0) (se_int)) (se_int)) (sw_and1 (st_cmp ops_gt (se_ix (se_var 0) (se_int)) (se_int)))))))) (sss_cons (ss_set (i := 2) sc_law_roll.nd rfl (by first | exact Or.inl rfl | exact Or.inr rfl) (se_op ops_mod (se_callTy cas_int rfl T.b_int (by decide +kernel) (sa_cons (se_ix (se_var 0) (se_int)) (sa_nil))) (se_var 1)))
    (sss_cons (ss_seti sets_list (se_var 0) (se_int) (se_op ops_fdiv (se_ix (se_var 0) (se_int)) (se_var 1)))
    (sss_one (ss_ret (se_var 2))))) (sss_nil))
    (sss_cons (ss_seti sets_list (se_var 0) (se_int) (se_int))
    (sss_cons (ss_seti sets_list (se_var 0) (se_int) (se_op ops_mod (se_callTy cas_int rfl T.b_int (by decide +kernel) (sa_cons (se_op ops_add (se_op ops_add (se_op ops_mul (se_ix (se_var 0) (se_int)) (se_int)) (se_op ops_mul (se_ix (se_var 0) (se_int)) (se_int))) (se_int)) (sa_nil))) (se_int)))
    (sss_cons (ss_seti sets_list (se_var 0) (se_int) (se_op ops_add (se_ix (se_var 0) (se_int)) (se_int)))
    (sss_one (ss_ret (se_op ops_mod (se_callTy cas_int rfl T.b_int (by decide +kernel) (sa_cons (se_op ops_add (se_op ops_fdiv (se_ix (se_var 0) (se_int)) (se_int)) (se_ix (se_var 0) (se_int))) (sa_nil))) (se_var 1)))))))
theorem d_law_rounds {f : Addr} {fd : FuncData} (T : Txt K mg G C_BadText C_NoSuch) (F : Fun K "_law_rounds" "_law_rounds" s_law_rounds f fd) (g : mg "_law_rounds" = some (.ref f)) (D_law_dice : FnD P w K mg base G 1 "_law_dice" 1 den_law_dice) : FnD P w K mg base G 2 "_law_rounds" 2 den_law_rounds :=
  fn_den (N := ["script", "most", "cells", "cell"]) (ps := ["script", "most"]) (k := 1) F sc_law_rounds g (F.binds (ps := ["script", "most"]) fun _ _ _ _ _ _ us hl => match us, hl with | [_, _], _ => rfl) fun cdv A outer s H E hr0 => have hu0 := hr0.units; have hu1 := room65 hr0
    sss_cons (ss_set (i := 2) sc_law_rounds.nd rfl (by first | exact Or.inl rfl | exact Or.inr rfl) (se_sl (se_var 0) (so_none) (so_some (se_var 1))))
    (sss_cons (ss_if (st_cmp (ops_eq hu0) (se_var 2) (se_lst (sa_nil))) (sss_one (ss_set (i := 2) sc_law_rounds.nd rfl (by first | exact Or.inl rfl | exact Or.inr rfl) (se_lst (sa_cons (se_int) (sa_nil))))) (sss_nil))
    (sss_one (ss_ret (se_lc (n := 100000) (own := [("cell", 3)]) sc_law_rounds.nd (si_seq (se_var 2)) (blkOk_by (N := ["script", "most", "cells", "cell"]) (sc := (defScope s_law_rounds)) (by decide +kernel)) (fun _ _ _ _ _ => pg_name (i := 3) sc_law_rounds.nd rfl (by first | exact Or.inl rfl | exact Or.inr rfl)) (tgk_name (i := 3) (vs := [3])) (fun _ _ _ _ _ => sts_nil) (fun _ _ _ _ _ => se_call D_law_dice hr0 (by decide) rfl (sa_cons (se_var 3) (sa_nil)))))))
theorem d_law {f c Pt : Addr} {oc : Value} {od an : Option Addr} {osl : Array (Option Value)} {kV doc pm ct : Value} (T : Txt K mg G C_BadText C_NoSuch) (lk : K.lookup f = some ⟨oc, od, .func (PySem.W.fnOf "law" "law" (defArgs s_law) (defBody s_law) (defScope s_law) .none kV doc pm an (.ref c) ct), osl⟩) (hcd : PySem.W.codeIn K (.ref c) "law" = true) (D_law_rounds : FnD P w K mg base G 2 "_law_rounds" 2 den_law_rounds) (D_law_roll : FnD P w K mg base G 1 "_law_roll" 2 den_law_roll) (D_own_ways_back : FnD P w K mg base G 1 "own_ways_back" 1 den_own_ways_back) (D_least_turn : FnD P w K mg base G 1 "least_turn" 1 den_least_turn) (D_falling_words : FnD P w K mg base G 1 "falling_words" 1 den_falling_words) {a_law_told : Addr} {fd_law_told : FuncData} (F_law_told : Fun K "_law_told" "_law_told" s_law_told a_law_told fd_law_told) (B_law_told : L2.Binds K fd_law_told ["what"] []) (g_law_told : mg "_law_told" = some (.ref a_law_told)) (TB : LamX.TabB base mg c Pt) (hmT : (Pt, ("law" ++ ".<locals>.<lambda>" : Str)) ∈ G.T) (huT : ∀ p ∈ G.T, p.1 = Pt → p.2 = ("law" ++ ".<locals>.<lambda>" : Str)) (X_ : ∀ c C, G.ca c = some C → ∀ c' C', G.ca c' = some C' → PySem.W.exmOne K (.ref C) (.ref C') = some (decide (c' = c))) :
    FnOk P w K mg base (L2.CX P w) 6 f (PySem.W.fnOf "law" "law" (defArgs s_law) (defBody s_law) (defScope s_law) .none kV doc pm an (.ref c) ct) ["script"] (spOf K G 1 den_law) :=
  law_den (N := ["script", "dice", "text", "many", "k", "parts_there", "part", "good", "turns", "j", "i"]) (ps := ["script"]) (k := 5) lk hcd sc_law fun A outer s H E hr0 => have hu0 := hr0.units; have hu1 := room65 hr0
    sss_cons (ss_for (passes_of rfl) (si_seq (se_call D_law_rounds hr0 (by decide) rfl (sa_cons (se_var 0) (sa_cons (se_int) (sa_nil))))) (pg_name (i := 1) sc_law.nd rfl (by first | exact Or.inl rfl | exact Or.inr rfl)) (tgk_name (i := 1) (vs := [1])) (sss_cons (ss_set (i := 2) sc_law.nd rfl (by first | exact Or.inl rfl | exact Or.inr rfl) (se_meth PySem.F.plainAttrs_str PySem.F.slot_str_join PySem.F.type_str_join mes_join (se_str) (sa_cons (se_lc (n := 100000) (own := [("k", 4)]) sc_law.nd (si_rng1 (sa_cons (se_call D_law_roll hr0 (by decide) rfl (sa_cons (se_var 1) (sa_cons (se_int) (sa_nil)))) (sa_nil)) rfl T.b_range) (blkOk_by (N := ["script", "dice", "text", "many", "k", "parts_there", "part", "good", "turns", "j", "i"]) (sc := (defScope s_law)) (by decide +kernel)) (fun _ _ _ _ _ => pg_name (i := 4) sc_law.nd rfl (by first | exact Or.inl rfl | exact Or.inr rfl)) (tgk_name (i := 4) (vs := [4])) (fun _ _ _ _ _ => sts_nil) (fun _ _ _ _ _ => se_ix (se_str) (se_call D_law_roll hr0 (by decide) rfl (sa_cons (se_var 1) (sa_cons (se_int) (sa_nil)))))) (sa_nil))))
    (sss_cons (ss_set (i := 3) sc_law.nd rfl (by first | exact Or.inl rfl | exact Or.inr rfl) (se_callB cas_len rfl T.b_len (by decide +kernel) (sa_cons (se_var 2) (sa_nil))))
    (sss_cons (ss_for (passes_of rfl) (si_rng1 (sa_cons (se_var 3) (sa_nil)) rfl T.b_range) (pg_name (i := 4) sc_law.nd rfl (by first | exact Or.inl rfl | exact Or.inr rfl)) (tgk_name (i := 4) (vs := [4])) (sss_cons (ss_setLc (i := 7) (n := 100000) (own := [("j", 9)]) sc_law.nd rfl rfl (sw_true rfl rfl rfl (by decide +kernel)) (si_rng1 (sa_cons (se_op ops_add (se_callB (cas_min rfl hu0) rfl T.b_min (by decide +kernel) (sa_cons (se_var 4) (sa_cons (se_op ops_sub (se_op ops_sub (se_var 3) (se_int)) (se_var 4)) (sa_nil)))) (se_int)) (sa_nil)) rfl T.b_range) (blkOk_by (N := ["script", "dice", "text", "many", "k", "parts_there", "part", "good", "turns", "j", "i"]) (sc := (defScope s_law)) (by decide +kernel)) (fun _ _ _ _ _ => pg_name (i := 9) sc_law.nd rfl (by first | exact Or.inl rfl | exact Or.inr rfl)) (tgk_name (i := 9) (vs := [9])) (fun _ _ _ _ _ => sts_one (st_cmp (ops_eq hu0) (se_lc (n := 100000) (own := [("i", 10)]) sc_law.nd (si_rng1 (sa_cons (se_op ops_add (se_var 9) (se_int)) (sa_nil)) rfl T.b_range) (blkOk_by (N := ["script", "dice", "text", "many", "k", "parts_there", "part", "good", "turns", "j", "i"]) (sc := (relS _ (defScope s_law))) (by decide +kernel)) (fun _ _ _ _ _ => pg_name (i := 10) sc_law.nd rfl (by first | exact Or.inl rfl | exact Or.inr rfl)) (tgk_name (i := 10) (vs := [10])) (fun _ _ _ _ _ => sts_one (st_cmp (ops_ne hu0) (se_ix (se_var 2) (se_op ops_sub (se_var 4) (se_var 10))) (se_ix (se_var 2) (se_op ops_add (se_var 4) (se_var 10))))) (fun _ _ _ _ _ => se_var 10)) (se_lst (sa_nil)))) (fun _ _ _ _ _ => se_var 9))
    (sss_one (ss_if (st_cmp (ops_ne hu0) (se_ix (se_callP D_own_ways_back hr0 (by decide) rfl (sa_cons (se_var 2) (sa_nil))) (se_var 4)) (se_callB (cas_max rfl) rfl T.b_max (by decide +kernel) (sa_cons (se_var 7) (sa_nil)))) (sss_one (ss_ret (se_bl))) (sss_nil)))))
    (sss_cons (ss_if (st_cmp (ops_ne hu0) (se_var 2) (se_str)) (sss_cons (ss_setLc (i := 8) (n := 100000) (own := [("k", 4)]) sc_law.nd rfl rfl (sw_true rfl rfl rfl (by decide +kernel)) (si_rng1 (sa_cons (se_var 3) (sa_nil)) rfl T.b_range) (blkOk_by (N := ["script", "dice", "text", "many", "k", "parts_there", "part", "good", "turns", "j", "i"]) (sc := (defScope s_law)) (by decide +kernel)) (fun _ _ _ _ _ => pg_name (i := 4) sc_law.nd rfl (by first | exact Or.inl rfl | exact Or.inr rfl)) (tgk_name (i := 4) (vs := [4])) (fun _ _ _ _ _ => sts_nil) (fun _ _ _ _ _ => se_op ops_add (se_sl (se_var 2) (so_some (se_var 4)) (so_none)) (se_sl (se_var 2) (so_none) (so_some (se_var 4)))))
    (sss_one (ss_if (st_cmp (ops_ne hu0) (se_callP D_least_turn hr0 (by decide) rfl (sa_cons (se_var 2) (sa_nil))) (se_meth PySem.F.plainAttrs_list PySem.F.slot_list_index PySem.F.type_list_index mes_index (se_var 8) (sa_cons (se_callB (cas_min rfl hu0) rfl T.b_min (by decide +kernel) (sa_cons (se_var 8) (sa_nil))) (sa_nil)))) (sss_one (ss_ret (se_bl))) (sss_nil)))) (sss_nil))
    (sss_cons (ss_set (i := 5) sc_law.nd rfl (by first | exact Or.inl rfl | exact Or.inr rfl) (se_callP D_falling_words hr0 (by decide) rfl (sa_cons (se_var 2) (sa_nil))))
    (sss_cons (ss_if (st_cmp (ops_ne hu0) (se_meth PySem.F.plainAttrs_str PySem.F.slot_str_join PySem.F.type_str_join mes_join (se_str) (sa_cons (se_var 5) (sa_nil))) (se_var 2)) (sss_one (ss_ret (se_bl))) (sss_nil))
    (sss_cons (ss_if (st_cmp (ops_ne hu0) (se_lc (n := 100000) (own := [("k", 4)]) sc_law.nd (si_rng2 (sa_cons (se_int) (sa_cons (se_callB cas_len rfl T.b_len (by decide +kernel) (sa_cons (se_var 5) (sa_nil))) (sa_nil))) rfl T.b_range) (blkOk_by (N := ["script", "dice", "text", "many", "k", "parts_there", "part", "good", "turns", "j", "i"]) (sc := (defScope s_law)) (by decide +kernel)) (fun _ _ _ _ _ => pg_name (i := 4) sc_law.nd rfl (by first | exact Or.inl rfl | exact Or.inr rfl)) (tgk_name (i := 4) (vs := [4])) (fun _ _ _ _ _ => sts_one (st_cmp ops_lt (se_ix (se_var 5) (se_op ops_sub (se_var 4) (se_int))) (se_ix (se_var 5) (se_var 4)))) (fun _ _ _ _ _ => se_var 4)) (se_lst (sa_nil))) (sss_one (ss_ret (se_bl))) (sss_nil))
    (sss_cons (ss_for (passes_of rfl) (si_seq (se_var 5)) (pg_name (i := 6) sc_law.nd rfl (by first | exact Or.inl rfl | exact Or.inr rfl)) (tgk_name (i := 6) (vs := [6])) (sss_one (ss_if (st_w (sw_or (st_cmp (ops_eq hu0) (se_var 6) (se_str)) (sw_or1 (st_cmp (ops_ne hu0) (se_lc (n := 100000) (own := [("k", 4)]) sc_law.nd (si_rng2 (sa_cons (se_int) (sa_cons (se_callB cas_len rfl T.b_len (by decide +kernel) (sa_cons (se_var 6) (sa_nil))) (sa_nil))) rfl T.b_range) (blkOk_by (N := ["script", "dice", "text", "many", "k", "parts_there", "part", "good", "turns", "j", "i"]) (sc := (defScope s_law)) (by decide +kernel)) (fun _ _ _ _ _ => pg_name (i := 4) sc_law.nd rfl (by first | exact Or.inl rfl | exact Or.inr rfl)) (tgk_name (i := 4) (vs := [4])) (fun _ _ _ _ _ => sts_one (st_cmp ops_le (se_op ops_add (se_sl (se_var 6) (so_some (se_var 4)) (so_none)) (se_sl (se_var 6) (so_none) (so_some (se_var 4)))) (se_var 6))) (fun _ _ _ _ _ => se_var 4)) (se_lst (sa_nil)))))) (sss_one (ss_ret (se_bl))) (sss_nil))))
    (sss_one (ss_if (st_w (sw_or (st_cmp (ops_ne hu0) (se_callB cas_len rfl T.b_len (by decide +kernel) (sa_cons (se_callP D_own_ways_back hr0 (by decide) rfl (sa_cons (se_var 2) (sa_nil))) (sa_nil))) (se_var 3)) (sw_or1 (st_cmp (ops_ne hu0) ((se_told (k := 3) (Ng := ["what"]) F_law_told B_law_told g_law_told sc_law_told rfl rfl (by exact Or.inl rfl) (fun _ => rfl) (by exact tells_law_told T) (tellN_law_told T X_) rfl TB rfl hmT huT hr0 (by decide) (LamX.lamS_by (sc := defScope s_law) (by decide +kernel)) rfl (fun _ _ _ _ _ => rfl) (fun A outer s H E f c' hr0 => have hu0 := hr0.units; se_callP D_least_turn hr0 (by decide) rfl (sa_cons (se_str) (sa_nil))))) (se_str))))) (sss_one (ss_ret (se_bl))) (sss_nil))))))))))))
    (sss_one (ss_ret (se_bl)))
end
end Law_indexhall_k22_words_turned_and_cut
set_option maxRecDepth 100000
namespace Law_indexhall_k22_words_turned_and_cut
open PySem L2 Den
/-! ### palindromes -/
def pal (s : List Nat) (k r : Nat) : Prop := r ≤ k ∧ k + r < s.length ∧ ∀ i, i ≤ r → s.getD (k - i) 0 = s.getD (k + i) 0
theorem pal_le {s : List Nat} {k r q : Nat} (p : pal s k r) (h : q ≤ r) : pal s k q := ⟨by have := p.1; omega, by have := p.2.1; omega, fun i hi => p.2.2 i (by omega)⟩
theorem pal_zero {s : List Nat} {k : Nat} (h : k < s.length) : pal s k 0 := ⟨by omega, by omega, fun i hi => by rw [show i = 0 by omega]; rfl⟩
theorem pal_succ {s : List Nat} {k r : Nat} (p : pal s k r) : pal s k (r + 1) ↔ (r < k ∧ k + r + 1 < s.length ∧ s.getD (k - r - 1) 0 = s.getD (k + r + 1) 0) := by
  constructor
  · intro q
    exact ⟨by have := q.1; omega, by have := q.2.1; omega, q.2.2 (r + 1) (by omega)⟩
  · rintro ⟨h1, h2, h3⟩
    refine ⟨by omega, by omega, fun i hi => ?_⟩
    by_cases hr : i = r + 1
    · subst hr; exact h3
    · exact p.2.2 i (by omega)
/-- the mirror -/
theorem pal_mirror {s : List Nat} {c R k q : Nat} (hc : pal s c R) (hk : c < k) (hk2 : k ≤ c + R) (hq : pal s (2 * c - k) q) (hl : k + q ≤ c + R) : pal s k q := by
  have c1 := hc.1
  have c2 := hc.2.1
  have q1 := hq.1
  refine ⟨by omega, by omega, fun i hi => ?_⟩
  have h1 : s.getD (k + i) 0 = s.getD (2 * c - k - i) 0 := by
    have := hc.2.2 (k + i - c) (by omega)
    rw [show c - (k + i - c) = 2 * c - k - i by omega, show c + (k + i - c) = k + i by omega] at this
    exact this.symm
  have h2 : s.getD (k - i) 0 = s.getD (2 * c - k + i) 0 := by
    by_cases hki : c ≤ k - i
    · have := hc.2.2 (k - i - c) (by omega)
      rw [show c - (k - i - c) = 2 * c - k + i by omega, show c + (k - i - c) = k - i by omega] at this
      exact this.symm
    · have := hc.2.2 (c - (k - i)) (by omega)
      rw [show c - (c - (k - i)) = k - i by omega, show c + (c - (k - i)) = 2 * c - k + i by omega] at this
      exact this
  rw [h1, h2]
  exact (hq.2.2 i hi).symm
def isR (s : List Nat) (k r : Nat) : Prop := pal s k r ∧ ¬ pal s k (r + 1)
structure OInv (s : List Nat) (i : Nat) (rs : List Nat) (mid high : Int) : Prop where
  len : rs.length = s.length
  done : ∀ k, k < i → isR s k (rs.getD k 0)
  zero : ∀ k, i ≤ k → rs.getD k 0 = 0
  mh : (mid = 0 ∧ high = -1) ∨ ∃ c : Nat, c < i ∧ c < s.length ∧ mid = c ∧ high = c + rs.getD c 0
theorem owb_ev (s : List Nat) (hs : s.length ≤ 1000) : Ev (den_own_ways_back [.str s] []) fun w _ => pureW w = true ∧ ∃ rs : List Nat, w = .tup (rs.map nI) ∧ rs.length = s.length ∧ ∀ k, k < s.length → isR s k (rs.getD k 0) := by
  refine fun_ev ?_
  unfold body_own_ways_back
  simp only [startE, List.map_cons, List.map_nil, List.length_cons, List.length_nil, List.cons_append, List.nil_append, Nat.zero_add, Nat.reduceAdd, Nat.reduceSub, List.replicate_succ, List.replicate_zero]
  simp (disch := first | omega | (simp only [List.length_append, List.length_cons, List.length_nil, List.length_set, List.length_drop, List.length_take, List.length_map]; omega)) only [mVar_z, Nat.reduceAdd, Nat.zero_add, Int.zero_add, Int.reduceAdd, Int.reduceSub, Int.reduceNeg, ap_Lst, ap_Tup, nil_app, cons_app, List.length_append, lst_last, mVar_s, ok_bnd, ok_stm, exc_bnd, ev_okE, exc_stm, ap_C, ap_Op, ap_Un, ap_B, ap_Chain, ap_asB, ap_And, ap_Or, ap_Not, ap_AndV, ap_OrV, ap_NotV, ap_If, ap_Nil, ap_Cons, ap_CB, ap_Meth, ap_Part, ap_NoPart, ap_Sl, ap_Yes, add_ii, add_ss, sub_ii, neg_i, mul_ii, fdiv_ii, mod_ii, eq_ii, ne_ii, eq_ss, ne_ss, lt_ii, le_ii, gt_ii, ge_ii, lt_ss, gt_ss, le_ss, ge_ss, len_s, len_t, abs_i, int_i, int_b, max_ii, min_ii, ix_s, ixL_0, ixL_1, ixL_2, ixL_3, ixL_n, ixL_i, ixL_st, setL_n, setL_i, List.length_map, List.length_set, ix_r, getL_r, ix_tL, withL_s, setL_0, setL_1, setL_2, set_r, app_r, lst_z, lst_s, iadd_ii, tuple_r, mul_ri, sl_s, sl_rol, sl_t, sl_r, cut_from, cut_to, ap_Seq, nx_seq, rt_seq, ct_seq, bk_seq, exc_seq, ap_Raise, ap_Skip, ap_Brk, ap_Cnt, ap_Drop, ap_Ret, ap_IfS, ap_Set, ap_Ts, ap_AsgT, tgT_t, tgTs_n, tgTs_c, ap_Aug, ap_SetI, ap_AugI, mFor_ap, ap_Rng1, ap_Rng2, rng1_ok, rng2_ok, ap_Iter, src_t, src_s, src_rL, ap_Comp, wipe_n, wipe_c, len_cons, len_nil, zip_cc, zip_nn, foldl_c, foldl_n, set_z, set_s, ite_t, ite_f, ite_T, ite_F, sing_lt, sing_eq, ty_r, ty_s, isS, cut_mid, decide_eq_true_eq, if_pos, if_neg]
  refine sv_seq (forGo_rng (s.length) 0 4 (fun i e h => ∃ (rs : List Nat) (mid high : Int) (z : Option W), OInv s i rs mid high ∧ e = [some (.str s), some (.ref 1), some (.int mid), some (.int high), z] ∧ h = [O.lst [.int 0], O.lst (rs.map nI)]) (by omega) ?_ ?_ ?_)
  · refine ⟨List.replicate s.length 0, 0, -1, none, ⟨by simp, fun k hk => by omega, fun k _ => ?_, .inl ⟨rfl, rfl⟩⟩, ?_, ?_⟩
    · rw [List.getD_eq_getElem?_getD, List.getElem?_replicate]; split <;> rfl
    · rfl
    · congr 2
      simp [nI_def]
  · rintro i e h hi ⟨rs, mid, high, z, I, rfl, rfl⟩
    simp (disch := first | omega | (simp only [List.length_append, List.length_cons, List.length_nil, List.length_set, List.length_drop, List.length_take, List.length_map]; omega)) only [mVar_z, Nat.reduceAdd, Nat.zero_add, Int.zero_add, Int.reduceAdd, Int.reduceSub, Int.reduceNeg, ap_Lst, ap_Tup, nil_app, cons_app, List.length_append, lst_last, mVar_s, ok_bnd, ok_stm, exc_bnd, ev_okE, exc_stm, ap_C, ap_Op, ap_Un, ap_B, ap_Chain, ap_asB, ap_And, ap_Or, ap_Not, ap_AndV, ap_OrV, ap_NotV, ap_If, ap_Nil, ap_Cons, ap_CB, ap_Meth, ap_Part, ap_NoPart, ap_Sl, ap_Yes, add_ii, add_ss, sub_ii, neg_i, mul_ii, fdiv_ii, mod_ii, eq_ii, ne_ii, eq_ss, ne_ss, lt_ii, le_ii, gt_ii, ge_ii, lt_ss, gt_ss, le_ss, ge_ss, len_s, len_t, abs_i, int_i, int_b, max_ii, min_ii, ix_s, ixL_0, ixL_1, ixL_2, ixL_3, ixL_n, ixL_i, ixL_st, setL_n, setL_i, List.length_map, List.length_set, ix_r, getL_r, ix_tL, withL_s, setL_0, setL_1, setL_2, set_r, app_r, lst_z, lst_s, iadd_ii, tuple_r, mul_ri, sl_s, sl_rol, sl_t, sl_r, cut_from, cut_to, ap_Seq, nx_seq, rt_seq, ct_seq, bk_seq, exc_seq, ap_Raise, ap_Skip, ap_Brk, ap_Cnt, ap_Drop, ap_Ret, ap_IfS, ap_Set, ap_Ts, ap_AsgT, tgT_t, tgTs_n, tgTs_c, ap_Aug, ap_SetI, ap_AugI, mFor_ap, ap_Rng1, ap_Rng2, rng1_ok, rng2_ok, ap_Iter, src_t, src_s, src_rL, ap_Comp, wipe_n, wipe_c, len_cons, len_nil, zip_cc, zip_nn, foldl_c, foldl_n, set_z, set_s, ite_t, ite_f, ite_T, ite_F, sing_lt, sing_eq, ty_r, ty_s, isS, cut_mid, decide_eq_true_eq, if_pos, if_neg]
    have hlen := I.len
    refine sv_cut (R' := fun o => ∃ rs0 : List Nat, rs0.length = s.length ∧ (∀ k, k < i → isR s k (rs0.getD k 0)) ∧ (∀ k, i < k → rs0.getD k 0 = 0) ∧ pal s i (rs0.getD i 0) ∧ ((mid = 0 ∧ high = -1) ∨ ∃ c : Nat, c < i ∧ c < s.length ∧ mid = c ∧ high = c + rs0.getD c 0) ∧
      o = SOut.nx [some (.str s), some (.ref 1), some (.int mid), some (.int high), some (.int i)] [O.lst [.int 0], O.lst (rs0.map nI)]) ?_ ?_
    · by_cases hk : (i : Int) ≤ high
      · rcases I.mh with ⟨rfl, rfl⟩ | ⟨c, c1, c2, rfl, rfl⟩
        · omega
        · obtain ⟨p1, p2⟩ := I.done c c1
          have hR := p1.1
          have hR2 := p1.2.1
          have hq : ∃ q : Nat, (if (c : Int) + ↑(rs.getD c 0) - ↑i < ↑(rs.getD (2 * (c : Int) - ↑i).toNat 0) then (c : Int) + ↑(rs.getD c 0) - ↑i else ↑(rs.getD (2 * (c : Int) - ↑i).toNat 0)) = (q : Int) ∧ q ≤ rs.getD (2 * c - i) 0 ∧ i + q ≤ c + rs.getD c 0 := by
            rw [show (2 * (c : Int) - ↑i).toNat = 2 * c - i by omega]
            split
            · exact ⟨c + rs.getD c 0 - i, by omega, by omega, by omega⟩
            · exact ⟨rs.getD (2 * c - i) 0, rfl, by omega, by omega⟩
          obtain ⟨q, hq, q1, q2⟩ := hq
          simp (disch := first | omega | (simp only [List.length_append, List.length_cons, List.length_nil, List.length_set, List.length_drop, List.length_take, List.length_map]; omega)) only [mVar_z, Nat.reduceAdd, Nat.zero_add, Int.zero_add, Int.reduceAdd, Int.reduceSub, Int.reduceNeg, ap_Lst, ap_Tup, nil_app, cons_app, List.length_append, lst_last, mVar_s, ok_bnd, ok_stm, exc_bnd, ev_okE, exc_stm, ap_C, ap_Op, ap_Un, ap_B, ap_Chain, ap_asB, ap_And, ap_Or, ap_Not, ap_AndV, ap_OrV, ap_NotV, ap_If, ap_Nil, ap_Cons, ap_CB, ap_Meth, ap_Part, ap_NoPart, ap_Sl, ap_Yes, add_ii, add_ss, sub_ii, neg_i, mul_ii, fdiv_ii, mod_ii, eq_ii, ne_ii, eq_ss, ne_ss, lt_ii, le_ii, gt_ii, ge_ii, lt_ss, gt_ss, le_ss, ge_ss, len_s, len_t, abs_i, int_i, int_b, max_ii, min_ii, ix_s, ixL_0, ixL_1, ixL_2, ixL_3, ixL_n, ixL_i, ixL_st, setL_n, setL_i, List.length_map, List.length_set, ix_r, getL_r, ix_tL, withL_s, setL_0, setL_1, setL_2, set_r, app_r, lst_z, lst_s, iadd_ii, tuple_r, mul_ri, sl_s, sl_rol, sl_t, sl_r, cut_from, cut_to, ap_Seq, nx_seq, rt_seq, ct_seq, bk_seq, exc_seq, ap_Raise, ap_Skip, ap_Brk, ap_Cnt, ap_Drop, ap_Ret, ap_IfS, ap_Set, ap_Ts, ap_AsgT, tgT_t, tgTs_n, tgTs_c, ap_Aug, ap_SetI, ap_AugI, mFor_ap, ap_Rng1, ap_Rng2, rng1_ok, rng2_ok, ap_Iter, src_t, src_s, src_rL, ap_Comp, wipe_n, wipe_c, len_cons, len_nil, zip_cc, zip_nn, foldl_c, foldl_n, set_z, set_s, ite_t, ite_f, ite_T, ite_F, sing_lt, sing_eq, ty_r, ty_s, isS, cut_mid, decide_eq_true_eq, if_pos, if_neg]
          rw [hq]
          simp (disch := first | omega | (simp only [List.length_append, List.length_cons, List.length_nil, List.length_set, List.length_drop, List.length_take, List.length_map]; omega)) only [mVar_z, Nat.reduceAdd, Nat.zero_add, Int.zero_add, Int.reduceAdd, Int.reduceSub, Int.reduceNeg, ap_Lst, ap_Tup, nil_app, cons_app, List.length_append, lst_last, mVar_s, ok_bnd, ok_stm, exc_bnd, ev_okE, exc_stm, ap_C, ap_Op, ap_Un, ap_B, ap_Chain, ap_asB, ap_And, ap_Or, ap_Not, ap_AndV, ap_OrV, ap_NotV, ap_If, ap_Nil, ap_Cons, ap_CB, ap_Meth, ap_Part, ap_NoPart, ap_Sl, ap_Yes, add_ii, add_ss, sub_ii, neg_i, mul_ii, fdiv_ii, mod_ii, eq_ii, ne_ii, eq_ss, ne_ss, lt_ii, le_ii, gt_ii, ge_ii, lt_ss, gt_ss, le_ss, ge_ss, len_s, len_t, abs_i, int_i, int_b, max_ii, min_ii, ix_s, ixL_0, ixL_1, ixL_2, ixL_3, ixL_n, ixL_i, ixL_st, setL_n, setL_i, List.length_map, List.length_set, ix_r, getL_r, ix_tL, withL_s, setL_0, setL_1, setL_2, set_r, app_r, lst_z, lst_s, iadd_ii, tuple_r, mul_ri, sl_s, sl_rol, sl_t, sl_r, cut_from, cut_to, ap_Seq, nx_seq, rt_seq, ct_seq, bk_seq, exc_seq, ap_Raise, ap_Skip, ap_Brk, ap_Cnt, ap_Drop, ap_Ret, ap_IfS, ap_Set, ap_Ts, ap_AsgT, tgT_t, tgTs_n, tgTs_c, ap_Aug, ap_SetI, ap_AugI, mFor_ap, ap_Rng1, ap_Rng2, rng1_ok, rng2_ok, ap_Iter, src_t, src_s, src_rL, ap_Comp, wipe_n, wipe_c, len_cons, len_nil, zip_cc, zip_nn, foldl_c, foldl_n, set_z, set_s, ite_t, ite_f, ite_T, ite_F, sing_lt, sing_eq, ty_r, ty_s, isS, cut_mid, decide_eq_true_eq, if_pos, if_neg]
          refine ⟨rs.set i q, by simp [hlen], fun k hk2 => ?_, fun k hk2 => ?_, ?_, .inr ⟨c, c1, c2, rfl, ?_⟩, rfl⟩
          · rw [getD_set_ne (by omega)]; exact I.done k hk2
          · rw [getD_set_ne (by omega)]; exact I.zero k (by omega)
          · rw [getD_set_eq (by omega)]
            exact pal_mirror p1 c1 (by omega) (pal_le (I.done (2 * c - i) (by omega)).1 q1) q2
          · rw [getD_set_ne (by omega)]
      · simp (disch := first | omega | (simp only [List.length_append, List.length_cons, List.length_nil, List.length_set, List.length_drop, List.length_take, List.length_map]; omega)) only [mVar_z, Nat.reduceAdd, Nat.zero_add, Int.zero_add, Int.reduceAdd, Int.reduceSub, Int.reduceNeg, ap_Lst, ap_Tup, nil_app, cons_app, List.length_append, lst_last, mVar_s, ok_bnd, ok_stm, exc_bnd, ev_okE, exc_stm, ap_C, ap_Op, ap_Un, ap_B, ap_Chain, ap_asB, ap_And, ap_Or, ap_Not, ap_AndV, ap_OrV, ap_NotV, ap_If, ap_Nil, ap_Cons, ap_CB, ap_Meth, ap_Part, ap_NoPart, ap_Sl, ap_Yes, add_ii, add_ss, sub_ii, neg_i, mul_ii, fdiv_ii, mod_ii, eq_ii, ne_ii, eq_ss, ne_ss, lt_ii, le_ii, gt_ii, ge_ii, lt_ss, gt_ss, le_ss, ge_ss, len_s, len_t, abs_i, int_i, int_b, max_ii, min_ii, ix_s, ixL_0, ixL_1, ixL_2, ixL_3, ixL_n, ixL_i, ixL_st, setL_n, setL_i, List.length_map, List.length_set, ix_r, getL_r, ix_tL, withL_s, setL_0, setL_1, setL_2, set_r, app_r, lst_z, lst_s, iadd_ii, tuple_r, mul_ri, sl_s, sl_rol, sl_t, sl_r, cut_from, cut_to, ap_Seq, nx_seq, rt_seq, ct_seq, bk_seq, exc_seq, ap_Raise, ap_Skip, ap_Brk, ap_Cnt, ap_Drop, ap_Ret, ap_IfS, ap_Set, ap_Ts, ap_AsgT, tgT_t, tgTs_n, tgTs_c, ap_Aug, ap_SetI, ap_AugI, mFor_ap, ap_Rng1, ap_Rng2, rng1_ok, rng2_ok, ap_Iter, src_t, src_s, src_rL, ap_Comp, wipe_n, wipe_c, len_cons, len_nil, zip_cc, zip_nn, foldl_c, foldl_n, set_z, set_s, ite_t, ite_f, ite_T, ite_F, sing_lt, sing_eq, ty_r, ty_s, isS, cut_mid, decide_eq_true_eq, if_pos, if_neg]
        exact ⟨rs, hlen, I.done, fun k hk => I.zero k (by omega), by rw [I.zero i (Nat.le_refl _)]; exact pal_zero hi, I.mh, rfl⟩
    · rintro o ⟨rs0, hl0, hd0, hz0, hp0, hm0, rfl⟩
      simp (disch := first | omega | (simp only [List.length_append, List.length_cons, List.length_nil, List.length_set, List.length_drop, List.length_take, List.length_map]; omega)) only [mVar_z, Nat.reduceAdd, Nat.zero_add, Int.zero_add, Int.reduceAdd, Int.reduceSub, Int.reduceNeg, ap_Lst, ap_Tup, nil_app, cons_app, List.length_append, lst_last, mVar_s, ok_bnd, ok_stm, exc_bnd, ev_okE, exc_stm, ap_C, ap_Op, ap_Un, ap_B, ap_Chain, ap_asB, ap_And, ap_Or, ap_Not, ap_AndV, ap_OrV, ap_NotV, ap_If, ap_Nil, ap_Cons, ap_CB, ap_Meth, ap_Part, ap_NoPart, ap_Sl, ap_Yes, add_ii, add_ss, sub_ii, neg_i, mul_ii, fdiv_ii, mod_ii, eq_ii, ne_ii, eq_ss, ne_ss, lt_ii, le_ii, gt_ii, ge_ii, lt_ss, gt_ss, le_ss, ge_ss, len_s, len_t, abs_i, int_i, int_b, max_ii, min_ii, ix_s, ixL_0, ixL_1, ixL_2, ixL_3, ixL_n, ixL_i, ixL_st, setL_n, setL_i, List.length_map, List.length_set, ix_r, getL_r, ix_tL, withL_s, setL_0, setL_1, setL_2, set_r, app_r, lst_z, lst_s, iadd_ii, tuple_r, mul_ri, sl_s, sl_rol, sl_t, sl_r, cut_from, cut_to, ap_Seq, nx_seq, rt_seq, ct_seq, bk_seq, exc_seq, ap_Raise, ap_Skip, ap_Brk, ap_Cnt, ap_Drop, ap_Ret, ap_IfS, ap_Set, ap_Ts, ap_AsgT, tgT_t, tgTs_n, tgTs_c, ap_Aug, ap_SetI, ap_AugI, mFor_ap, ap_Rng1, ap_Rng2, rng1_ok, rng2_ok, ap_Iter, src_t, src_s, src_rL, ap_Comp, wipe_n, wipe_c, len_cons, len_nil, zip_cc, zip_nn, foldl_c, foldl_n, set_z, set_s, ite_t, ite_f, ite_T, ite_F, sing_lt, sing_eq, ty_r, ty_s, isS, cut_mid, decide_eq_true_eq, if_pos, if_neg]
      refine sv_cut (R' := fun o => ∃ r : Nat, isR s i r ∧ o = SOut.nx [some (.str s), some (.ref 1), some (.int mid), some (.int high), some (.int i)] [O.lst [.int 0], O.lst ((rs0.set i r).map nI)]) ?_ ?_
      · refine mWhile_sv (s.length - rs0.getD i 0) (fun m e h => ∃ r : Nat, pal s i r ∧ m = s.length - r ∧ e = [some (.str s), some (.ref 1), some (.int mid), some (.int high), some (.int i)] ∧ h = [O.lst [.int 0], O.lst ((rs0.set i r).map nI)]) (by omega) ⟨rs0.getD i 0, hp0, rfl, rfl, ?_⟩ ?_
        · rw [set_getD (by omega)]
        · rintro m e h ⟨r, pr, rfl, rfl, rfl⟩
          have pr1 := pr.1
          have pr2 := pr.2.1
          have e1 : (rs0.set i r).getD i 0 = r := getD_set_eq (by omega)
          have e2 : ((i : Int)).toNat = i := by omega
          simp (disch := first | omega | (simp only [List.length_append, List.length_cons, List.length_nil, List.length_set, List.length_drop, List.length_take, List.length_map]; omega)) only [mVar_z, Nat.reduceAdd, Nat.zero_add, Int.zero_add, Int.reduceAdd, Int.reduceSub, Int.reduceNeg, ap_Lst, ap_Tup, nil_app, cons_app, List.length_append, lst_last, mVar_s, ok_bnd, ok_stm, exc_bnd, ev_okE, exc_stm, ap_C, ap_Op, ap_Un, ap_B, ap_Chain, ap_asB, ap_And, ap_Or, ap_Not, ap_AndV, ap_OrV, ap_NotV, ap_If, ap_Nil, ap_Cons, ap_CB, ap_Meth, ap_Part, ap_NoPart, ap_Sl, ap_Yes, add_ii, add_ss, sub_ii, neg_i, mul_ii, fdiv_ii, mod_ii, eq_ii, ne_ii, eq_ss, ne_ss, lt_ii, le_ii, gt_ii, ge_ii, lt_ss, gt_ss, le_ss, ge_ss, len_s, len_t, abs_i, int_i, int_b, max_ii, min_ii, ix_s, ixL_0, ixL_1, ixL_2, ixL_3, ixL_n, ixL_i, ixL_st, setL_n, setL_i, List.length_map, List.length_set, ix_r, getL_r, ix_tL, withL_s, setL_0, setL_1, setL_2, set_r, app_r, lst_z, lst_s, iadd_ii, tuple_r, mul_ri, sl_s, sl_rol, sl_t, sl_r, cut_from, cut_to, ap_Seq, nx_seq, rt_seq, ct_seq, bk_seq, exc_seq, ap_Raise, ap_Skip, ap_Brk, ap_Cnt, ap_Drop, ap_Ret, ap_IfS, ap_Set, ap_Ts, ap_AsgT, tgT_t, tgTs_n, tgTs_c, ap_Aug, ap_SetI, ap_AugI, mFor_ap, ap_Rng1, ap_Rng2, rng1_ok, rng2_ok, ap_Iter, src_t, src_s, src_rL, ap_Comp, wipe_n, wipe_c, len_cons, len_nil, zip_cc, zip_nn, foldl_c, foldl_n, set_z, set_s, ite_t, ite_f, ite_T, ite_F, sing_lt, sing_eq, ty_r, ty_s, isS, cut_mid, decide_eq_true_eq, if_pos, if_neg]
          simp only [e1, e2]
          rw [show ((i : Int) - r - 1).toNat = i - r - 1 by omega, show ((i : Int) + r + 1).toNat = i + r + 1 by omega]
          by_cases hc : r < i ∧ i + r + 1 < s.length ∧ s.getD (i - r - 1) 0 = s.getD (i + r + 1) 0
          · obtain ⟨h1, h2, h3⟩ := hc
            simp (disch := first | omega | (simp only [List.length_append, List.length_cons, List.length_nil, List.length_set, List.length_drop, List.length_take, List.length_map]; omega)) only [e1, e2, mVar_z, Nat.reduceAdd, Nat.zero_add, Int.zero_add, Int.reduceAdd, Int.reduceSub, Int.reduceNeg, ap_Lst, ap_Tup, nil_app, cons_app, List.length_append, lst_last, mVar_s, ok_bnd, ok_stm, exc_bnd, ev_okE, exc_stm, ap_C, ap_Op, ap_Un, ap_B, ap_Chain, ap_asB, ap_And, ap_Or, ap_Not, ap_AndV, ap_OrV, ap_NotV, ap_If, ap_Nil, ap_Cons, ap_CB, ap_Meth, ap_Part, ap_NoPart, ap_Sl, ap_Yes, add_ii, add_ss, sub_ii, neg_i, mul_ii, fdiv_ii, mod_ii, eq_ii, ne_ii, eq_ss, ne_ss, lt_ii, le_ii, gt_ii, ge_ii, lt_ss, gt_ss, le_ss, ge_ss, len_s, len_t, abs_i, int_i, int_b, max_ii, min_ii, ix_s, ixL_0, ixL_1, ixL_2, ixL_3, ixL_n, ixL_i, ixL_st, setL_n, setL_i, List.length_map, List.length_set, ix_r, getL_r, ix_tL, withL_s, setL_0, setL_1, setL_2, set_r, app_r, lst_z, lst_s, iadd_ii, tuple_r, mul_ri, sl_s, sl_rol, sl_t, sl_r, cut_from, cut_to, ap_Seq, nx_seq, rt_seq, ct_seq, bk_seq, exc_seq, ap_Raise, ap_Skip, ap_Brk, ap_Cnt, ap_Drop, ap_Ret, ap_IfS, ap_Set, ap_Ts, ap_AsgT, tgT_t, tgTs_n, tgTs_c, ap_Aug, ap_SetI, ap_AugI, mFor_ap, ap_Rng1, ap_Rng2, rng1_ok, rng2_ok, ap_Iter, src_t, src_s, src_rL, ap_Comp, wipe_n, wipe_c, len_cons, len_nil, zip_cc, zip_nn, foldl_c, foldl_n, set_z, set_s, ite_t, ite_f, ite_T, ite_F, sing_lt, sing_eq, ty_r, ty_s, isS, cut_mid, decide_eq_true_eq, if_pos, if_neg]
            rw [show (r : Int) + 1 = ((r + 1 : Nat) : Int) by omega]
            simp (disch := first | omega | (simp only [List.length_append, List.length_cons, List.length_nil, List.length_set, List.length_drop, List.length_take, List.length_map]; omega)) only [mVar_z, Nat.reduceAdd, Nat.zero_add, Int.zero_add, Int.reduceAdd, Int.reduceSub, Int.reduceNeg, ap_Lst, ap_Tup, nil_app, cons_app, List.length_append, lst_last, mVar_s, ok_bnd, ok_stm, exc_bnd, ev_okE, exc_stm, ap_C, ap_Op, ap_Un, ap_B, ap_Chain, ap_asB, ap_And, ap_Or, ap_Not, ap_AndV, ap_OrV, ap_NotV, ap_If, ap_Nil, ap_Cons, ap_CB, ap_Meth, ap_Part, ap_NoPart, ap_Sl, ap_Yes, add_ii, add_ss, sub_ii, neg_i, mul_ii, fdiv_ii, mod_ii, eq_ii, ne_ii, eq_ss, ne_ss, lt_ii, le_ii, gt_ii, ge_ii, lt_ss, gt_ss, le_ss, ge_ss, len_s, len_t, abs_i, int_i, int_b, max_ii, min_ii, ix_s, ixL_0, ixL_1, ixL_2, ixL_3, ixL_n, ixL_i, ixL_st, setL_n, setL_i, List.length_map, List.length_set, ix_r, getL_r, ix_tL, withL_s, setL_0, setL_1, setL_2, set_r, app_r, lst_z, lst_s, iadd_ii, tuple_r, mul_ri, sl_s, sl_rol, sl_t, sl_r, cut_from, cut_to, ap_Seq, nx_seq, rt_seq, ct_seq, bk_seq, exc_seq, ap_Raise, ap_Skip, ap_Brk, ap_Cnt, ap_Drop, ap_Ret, ap_IfS, ap_Set, ap_Ts, ap_AsgT, tgT_t, tgTs_n, tgTs_c, ap_Aug, ap_SetI, ap_AugI, mFor_ap, ap_Rng1, ap_Rng2, rng1_ok, rng2_ok, ap_Iter, src_t, src_s, src_rL, ap_Comp, wipe_n, wipe_c, len_cons, len_nil, zip_cc, zip_nn, foldl_c, foldl_n, set_z, set_s, ite_t, ite_f, ite_T, ite_F, sing_lt, sing_eq, ty_r, ty_s, isS, cut_mid, decide_eq_true_eq, if_pos, if_neg]
            exact ⟨s.length - (r + 1), by omega, r + 1, (pal_succ pr).2 ⟨h1, h2, h3⟩, rfl, rfl, by rw [e2, List.set_set]⟩
          · have hn : ¬ pal s i (r + 1) := fun x => hc ((pal_succ pr).1 x)
            have hf : (if 0 < (i : Int) - r then if (i : Int) + r + 1 < s.length then Out.ok (decide (s.getD (i - r - 1) 0 = s.getD (i + r + 1) 0)) [O.lst [.int 0], O.lst (List.map nI (rs0.set i r))] else Out.ok false [O.lst [.int 0], O.lst (List.map nI (rs0.set i r))] else Out.ok false [O.lst [.int 0], O.lst (List.map nI (rs0.set i r))]) = Out.ok false [O.lst [.int 0], O.lst (List.map nI (rs0.set i r))] := by
              split
              · split
                · rw [decide_eq_false]
                  intro x
                  exact hc ⟨by omega, by omega, x⟩
                · rfl
              · rfl
            rw [hf]
            refine ev_ok ?_
            rw [if_neg (by decide)]
            exact ⟨r, ⟨pr, hn⟩, rfl⟩
      · rintro o ⟨r, hr, rfl⟩
        have pr1 := hr.1.1
        have pr2 := hr.1.2.1
        have e1 : (rs0.set i r).getD i 0 = r := getD_set_eq (by omega)
        have e2 : ((i : Int)).toNat = i := by omega
        simp (disch := first | omega | (simp only [List.length_append, List.length_cons, List.length_nil, List.length_set, List.length_drop, List.length_take, List.length_map]; omega)) only [mVar_z, Nat.reduceAdd, Nat.zero_add, Int.zero_add, Int.reduceAdd, Int.reduceSub, Int.reduceNeg, ap_Lst, ap_Tup, nil_app, cons_app, List.length_append, lst_last, mVar_s, ok_bnd, ok_stm, exc_bnd, ev_okE, exc_stm, ap_C, ap_Op, ap_Un, ap_B, ap_Chain, ap_asB, ap_And, ap_Or, ap_Not, ap_AndV, ap_OrV, ap_NotV, ap_If, ap_Nil, ap_Cons, ap_CB, ap_Meth, ap_Part, ap_NoPart, ap_Sl, ap_Yes, add_ii, add_ss, sub_ii, neg_i, mul_ii, fdiv_ii, mod_ii, eq_ii, ne_ii, eq_ss, ne_ss, lt_ii, le_ii, gt_ii, ge_ii, lt_ss, gt_ss, le_ss, ge_ss, len_s, len_t, abs_i, int_i, int_b, max_ii, min_ii, ix_s, ixL_0, ixL_1, ixL_2, ixL_3, ixL_n, ixL_i, ixL_st, setL_n, setL_i, List.length_map, List.length_set, ix_r, getL_r, ix_tL, withL_s, setL_0, setL_1, setL_2, set_r, app_r, lst_z, lst_s, iadd_ii, tuple_r, mul_ri, sl_s, sl_rol, sl_t, sl_r, cut_from, cut_to, ap_Seq, nx_seq, rt_seq, ct_seq, bk_seq, exc_seq, ap_Raise, ap_Skip, ap_Brk, ap_Cnt, ap_Drop, ap_Ret, ap_IfS, ap_Set, ap_Ts, ap_AsgT, tgT_t, tgTs_n, tgTs_c, ap_Aug, ap_SetI, ap_AugI, mFor_ap, ap_Rng1, ap_Rng2, rng1_ok, rng2_ok, ap_Iter, src_t, src_s, src_rL, ap_Comp, wipe_n, wipe_c, len_cons, len_nil, zip_cc, zip_nn, foldl_c, foldl_n, set_z, set_s, ite_t, ite_f, ite_T, ite_F, sing_lt, sing_eq, ty_r, ty_s, isS, cut_mid, decide_eq_true_eq, if_pos, if_neg]
        simp only [e1, e2]
        have hd : ∀ k, k < i + 1 → isR s k ((rs0.set i r).getD k 0) := fun k hk => by
          by_cases hki : k = i
          · subst hki; rw [e1]; exact hr
          · rw [getD_set_ne (by omega)]; exact hd0 k (by omega)
        have hz : ∀ k, i + 1 ≤ k → (rs0.set i r).getD k 0 = 0 := fun k hk => by rw [getD_set_ne (by omega)]; exact hz0 k (by omega)
        by_cases hh : high < (i : Int) + r
        · rw [if_pos hh]
          exact ⟨_, _, _, _, ⟨by simp [hl0], hd, hz, .inr ⟨i, by omega, hi, rfl, by rw [e1]⟩⟩, rfl, rfl⟩
        · rw [if_neg hh]
          refine ⟨_, _, _, _, ⟨by simp [hl0], hd, hz, ?_⟩, rfl, rfl⟩
          rcases hm0 with h | ⟨c, c1, c2, h1, h2⟩
          · exact .inl h
          · exact .inr ⟨c, by omega, c2, h1, by rw [getD_set_ne (by omega)]; exact h2⟩
  · rintro e h ⟨rs, mid, high, z, I, rfl, rfl⟩
    simp (disch := first | omega | (simp only [List.length_append, List.length_cons, List.length_nil, List.length_set, List.length_drop, List.length_take, List.length_map]; omega)) only [mVar_z, Nat.reduceAdd, Nat.zero_add, Int.zero_add, Int.reduceAdd, Int.reduceSub, Int.reduceNeg, ap_Lst, ap_Tup, nil_app, cons_app, List.length_append, lst_last, mVar_s, ok_bnd, ok_stm, exc_bnd, ev_okE, exc_stm, ap_C, ap_Op, ap_Un, ap_B, ap_Chain, ap_asB, ap_And, ap_Or, ap_Not, ap_AndV, ap_OrV, ap_NotV, ap_If, ap_Nil, ap_Cons, ap_CB, ap_Meth, ap_Part, ap_NoPart, ap_Sl, ap_Yes, add_ii, add_ss, sub_ii, neg_i, mul_ii, fdiv_ii, mod_ii, eq_ii, ne_ii, eq_ss, ne_ss, lt_ii, le_ii, gt_ii, ge_ii, lt_ss, gt_ss, le_ss, ge_ss, len_s, len_t, abs_i, int_i, int_b, max_ii, min_ii, ix_s, ixL_0, ixL_1, ixL_2, ixL_3, ixL_n, ixL_i, ixL_st, setL_n, setL_i, List.length_map, List.length_set, ix_r, getL_r, ix_tL, withL_s, setL_0, setL_1, setL_2, set_r, app_r, lst_z, lst_s, iadd_ii, tuple_r, mul_ri, sl_s, sl_rol, sl_t, sl_r, cut_from, cut_to, ap_Seq, nx_seq, rt_seq, ct_seq, bk_seq, exc_seq, ap_Raise, ap_Skip, ap_Brk, ap_Cnt, ap_Drop, ap_Ret, ap_IfS, ap_Set, ap_Ts, ap_AsgT, tgT_t, tgTs_n, tgTs_c, ap_Aug, ap_SetI, ap_AugI, mFor_ap, ap_Rng1, ap_Rng2, rng1_ok, rng2_ok, ap_Iter, src_t, src_s, src_rL, ap_Comp, wipe_n, wipe_c, len_cons, len_nil, zip_cc, zip_nn, foldl_c, foldl_n, set_z, set_s, ite_t, ite_f, ite_T, ite_F, sing_lt, sing_eq, ty_r, ty_s, isS, cut_mid, decide_eq_true_eq, if_pos, if_neg]
    exact ⟨by unfold pureW; exact pure_nats rs, rs, rfl, I.len, fun k hk => I.done k hk⟩
end Law_indexhall_k22_words_turned_and_cut
set_option maxRecDepth 100000
namespace Law_indexhall_k22_words_turned_and_cut
open PySem L2 Den
/-! ### turns -/
def rotL (s : List Nat) (p : Nat) : List Nat := s.drop p ++ s.take p
def Rt (s : List Nat) (p t : Nat) : Nat := s.getD ((p + t) % s.length) 0
theorem rot_len {s : List Nat} {p : Nat} (h : p ≤ s.length) : (rotL s p).length = s.length := by unfold rotL; simp; omega
theorem rot_get {s : List Nat} {p t : Nat} (h : p < s.length) (ht : t < s.length) : (rotL s p).getD t 0 = Rt s p t := by
  unfold rotL Rt
  rw [List.getD_eq_getElem?_getD, List.getD_eq_getElem?_getD]
  by_cases hh : t < s.length - p
  · rw [List.getElem?_append_left (by simpa using hh), List.getElem?_drop, Nat.mod_eq_of_lt (by omega)]
  · rw [List.getElem?_append_right (by simp; omega), List.length_drop, List.getElem?_take_of_lt (by omega)]
    rw [show (p + t) % s.length = t - (s.length - p) by rw [Nat.mod_eq_sub_mod (by omega), Nat.mod_eq_of_lt (by omega)]; omega]
theorem Rt_mod {s : List Nat} {p t : Nat} : Rt s (p % s.length) t = Rt s p t := by unfold Rt; rw [Nat.mod_add_mod]
theorem Rt_add {s : List Nat} {p t u : Nat} : Rt s (p + t) u = Rt s p (t + u) := by unfold Rt; rw [Nat.add_assoc]
def Beaten (s : List Nat) (p : Nat) : Prop := ∃ q, q < s.length ∧ (rotL s q < rotL s p ∨ (rotL s q = rotL s p ∧ q < p))
theorem beaten_of {s : List Nat} {i j k t : Nat} (hk : ∀ u, u < k → Rt s i u = Rt s j u) (hlt : Rt s j k < Rt s i k) (ht : t ≤ k) (hkn : k < s.length) (hp : i + t < s.length) : Beaten s (i + t) := by
  have hq : (j + t) % s.length < s.length := Nat.mod_lt _ (by omega)
  refine ⟨(j + t) % s.length, hq, .inl ?_⟩
  refine lex_of (k - t) _ _ (by rw [rot_len (by omega)]; omega) (by rw [rot_len (by omega)]; omega) (fun u hu => ?_) ?_
  · rw [rot_get hq (by omega), rot_get hp (by omega), Rt_mod, Rt_add, Rt_add]
    exact (hk _ (by omega)).symm
  · rw [rot_get hq (by omega), rot_get hp (by omega), Rt_mod, Rt_add, Rt_add, show t + (k - t) = k by omega]
    exact hlt
theorem rot_ext {s : List Nat} {p q : Nat} (hp : p < s.length) (hq : q < s.length) (h : ∀ t, Rt s p t = Rt s q t) : rotL s p = rotL s q := by
  apply List.ext_getElem
  · rw [rot_len (by omega), rot_len (by omega)]
  · intro t h1 h2
    have ht : t < s.length := by rw [rot_len (by omega)] at h1; exact h1
    have e := h t
    rw [← rot_get hp ht, ← rot_get hq ht, List.getD_eq_getElem?_getD, List.getD_eq_getElem?_getD, List.getElem?_eq_getElem h1, List.getElem?_eq_getElem h2] at e
    exact e
/-- there is one that none beats -/
theorem unbeaten {s : List Nat} : ∀ n, n < s.length → ∃ m, m ≤ n ∧ ∀ q, q ≤ n → ¬ (rotL s q < rotL s m ∨ (rotL s q = rotL s m ∧ q < m))
  | 0, h => ⟨0, by omega, fun q hq x => by
    have : q = 0 := by omega
    subst this
    rcases x with x | x
    · exact List.lt_irrefl _ x
    · omega⟩
  | n + 1, h => by
    obtain ⟨m, hm, hb⟩ := unbeaten (s := s) n (by omega)
    by_cases hx : rotL s (n + 1) < rotL s m
    · refine ⟨n + 1, by omega, fun q hq x => ?_⟩
      by_cases hqn : q = n + 1
      · subst hqn
        rcases x with x | x
        · exact List.lt_irrefl _ x
        · omega
      · rcases x with x | x
        · exact hb q (by omega) (.inl (List.lt_trans x hx))
        · exact hb q (by omega) (.inl (by rw [x.1]; exact hx))
    · refine ⟨m, by omega, fun q hq x => ?_⟩
      by_cases hqn : q = n + 1
      · subst hqn
        rcases x with x | x
        · exact hx x
        · omega
      · exact hb q (by omega) x
theorem least_one {s : List Nat} (h : s ≠ []) {r : Nat} (hr : ∀ p, p < s.length → p ≠ r → Beaten s p) : r < s.length ∧ ¬ Beaten s r := by
  have hl : 0 < s.length := List.length_pos_iff.2 h
  obtain ⟨m, hm, hb⟩ := unbeaten (s := s) (s.length - 1) (by omega)
  have hnb : ¬ Beaten s m := fun ⟨q, h1, h2⟩ => hb q (by omega) h2
  by_cases hmr : m = r
  · subst hmr
    exact ⟨by omega, hnb⟩
  · exact absurd (hr m (by omega) hmr) hnb
structure LInv (s : List Nat) (i j k : Nat) : Prop where
  ne : i ≠ j
  eq : ∀ t, t < k → Rt s i t = Rt s j t
  kn : k ≤ s.length
  k0 : 0 < k → i < s.length ∧ j < s.length
  bt : ∀ p, p < max i j → p ≠ i → p ≠ j → p < s.length → Beaten s p
theorem linv_end {s : List Nat} {i j k : Nat} (I : LInv s i j k) (hx : ¬ (i < s.length ∧ j < s.length ∧ k < s.length)) : ∀ p, p < s.length → p ≠ min i j → Beaten s p := by
  intro p hp hne
  have hij := I.ne
  by_cases hk : k < s.length
  · exact I.bt p (by omega) (by omega) (by omega) hp
  · have hkn := I.kn
    obtain ⟨h1, h2⟩ := I.k0 (by omega)
    have per : ∀ x, Rt s i x = Rt s j x := fun x => by
      have := I.eq (x % s.length) (by have := Nat.mod_lt x (show 0 < s.length by omega); omega)
      unfold Rt at this ⊢
      rw [Nat.add_mod_mod, Nat.add_mod_mod] at this
      exact this
    by_cases hpm : p < max i j
    · exact I.bt p hpm (by omega) (by omega) hp
    · rcases Nat.lt_or_gt_of_ne hij with hlt | hlt
      · refine ⟨p - (j - i), by omega, .inr ⟨?_, by omega⟩⟩
        refine rot_ext (by omega) hp fun t => ?_
        have e1 : p - (j - i) = i + (p - j) := by omega
        have e2 : p = j + (p - j) := by omega
        rw [e1, Rt_add]
        conv => rhs; rw [e2, Rt_add]
        exact per _
      · refine ⟨p - (i - j), by omega, .inr ⟨?_, by omega⟩⟩
        refine rot_ext (by omega) hp fun t => ?_
        have e1 : p - (i - j) = j + (p - i) := by omega
        have e2 : p = i + (p - i) := by omega
        rw [e1, Rt_add]
        conv => rhs; rw [e2, Rt_add]
        exact (per _).symm
theorem linv_gt {s : List Nat} {i j k : Nat} (I : LInv s i j k) (hi : i < s.length) (hj : j < s.length) (hk : k < s.length) (h : Rt s j k < Rt s i k) : LInv s (i + (k + 1)) (if i + (k + 1) = j then j + 1 else j) 0 := by
  have hij := I.ne
  refine ⟨by split <;> omega, fun t ht => by omega, by omega, fun h => by omega, fun p h1 h2 h3 h4 => ?_⟩
  by_cases hp : i ≤ p ∧ p ≤ i + k
  · have := beaten_of (t := p - i) I.eq h (by omega) hk (by omega)
    rw [show i + (p - i) = p by omega] at this
    exact this
  · refine I.bt p ?_ ?_ ?_ h4 <;> (split at h1 <;> split at h3 <;> omega)
theorem linv_lt {s : List Nat} {i j k : Nat} (I : LInv s i j k) (hi : i < s.length) (hj : j < s.length) (hk : k < s.length) (h : Rt s i k < Rt s j k) : LInv s i (if i = j + (k + 1) then j + (k + 1) + 1 else j + (k + 1)) 0 := by
  have hij := I.ne
  refine ⟨by split <;> omega, fun t ht => by omega, by omega, fun h => by omega, fun p h1 h2 h3 h4 => ?_⟩
  by_cases hp : j ≤ p ∧ p ≤ j + k
  · have := beaten_of (t := p - j) (fun u hu => (I.eq u hu).symm) h (by omega) hk (by omega)
    rw [show j + (p - j) = p by omega] at this
    exact this
  · refine I.bt p ?_ ?_ ?_ h4 <;> (split at h1 <;> split at h3 <;> omega)
theorem linv_eq {s : List Nat} {i j k : Nat} (I : LInv s i j k) (hi : i < s.length) (hj : j < s.length) (hk : k < s.length) (h : Rt s i k = Rt s j k) : LInv s i j (k + 1) :=
  ⟨I.ne, fun t ht => by
    by_cases htk : t = k
    · subst htk; exact h
    · exact I.eq t (by omega), by omega, fun _ => ⟨hi, hj⟩, I.bt⟩
theorem lt_ev (s : List Nat) (hs : s.length ≤ 1000) (h0 : s ≠ []) : Ev (den_least_turn [.str s] []) fun w _ => pureW w = true ∧ ∃ r : Nat, w = .int r ∧ r < s.length ∧ ¬ Beaten s r := by
  have hl : 0 < s.length := List.length_pos_iff.2 h0
  refine fun_ev ?_
  unfold body_least_turn
  simp only [startE, List.map_cons, List.map_nil, List.length_cons, List.length_nil, List.cons_append, List.nil_append, Nat.zero_add, Nat.reduceAdd, Nat.reduceSub, List.replicate_succ, List.replicate_zero]
  simp (disch := first | omega | (simp only [List.length_append, List.length_cons, List.length_nil, List.length_set, List.length_drop, List.length_take, List.length_map]; omega)) only [mVar_z, Nat.reduceAdd, Nat.zero_add, Int.zero_add, Int.reduceAdd, Int.reduceSub, Int.reduceNeg, ap_Lst, ap_Tup, nil_app, cons_app, List.length_append, lst_last, mVar_s, ok_bnd, ok_stm, exc_bnd, ev_okE, exc_stm, ap_C, ap_Op, ap_Un, ap_B, ap_Chain, ap_asB, ap_And, ap_Or, ap_Not, ap_AndV, ap_OrV, ap_NotV, ap_If, ap_Nil, ap_Cons, ap_CB, ap_Meth, ap_Part, ap_NoPart, ap_Sl, ap_Yes, add_ii, add_ss, sub_ii, neg_i, mul_ii, fdiv_ii, mod_ii, eq_ii, ne_ii, eq_ss, ne_ss, lt_ii, le_ii, gt_ii, ge_ii, lt_ss, gt_ss, le_ss, ge_ss, len_s, len_t, abs_i, int_i, int_b, max_ii, min_ii, ix_s, ixL_0, ixL_1, ixL_2, ixL_3, ixL_n, ixL_i, ixL_st, setL_n, setL_i, List.length_map, List.length_set, ix_r, getL_r, ix_tL, withL_s, setL_0, setL_1, setL_2, set_r, app_r, lst_z, lst_s, iadd_ii, tuple_r, mul_ri, sl_s, sl_rol, sl_t, sl_r, cut_from, cut_to, ap_Seq, nx_seq, rt_seq, ct_seq, bk_seq, exc_seq, ap_Raise, ap_Skip, ap_Brk, ap_Cnt, ap_Drop, ap_Ret, ap_IfS, ap_Set, ap_Ts, ap_AsgT, tgT_t, tgTs_n, tgTs_c, ap_Aug, ap_SetI, ap_AugI, mFor_ap, ap_Rng1, ap_Rng2, rng1_ok, rng2_ok, ap_Iter, src_t, src_s, src_rL, ap_Comp, wipe_n, wipe_c, len_cons, len_nil, zip_cc, zip_nn, foldl_c, foldl_n, set_z, set_s, ite_t, ite_f, ite_T, ite_F, sing_lt, sing_eq, ty_r, ty_s, isS, cut_mid, decide_eq_true_eq, if_pos, if_neg]
  refine sv_cut (R' := fun o => ∃ (i j : Nat) (z y x : Option W), (∀ p, p < s.length → p ≠ min i j → Beaten s p) ∧ o = SOut.nx [some (.str s), some (.int i), some (.int j), z, some (.int s.length), y, x] []) ?_ ?_
  · refine mWhile_sv (3 * s.length + 2) (fun m e h => ∃ (i j k : Nat) (y x : Option W), LInv s i j k ∧ m = 3 * s.length + 3 - (i + j + k) ∧ e = [some (.str s), some (.int i), some (.int j), some (.int k), some (.int s.length), y, x] ∧ h = []) (by omega) ⟨0, 1, 0, none, none, ⟨by omega, fun t ht => by omega, by omega, fun h => by omega, fun p h1 h2 h3 => by omega⟩, by omega, rfl, rfl⟩ ?_
    rintro m e h ⟨i, j, k, y, x, I, rfl, rfl, rfl⟩
    have kn := I.kn
    have e1 : ((i : Int) + k) % (s.length : Int) = (((i + k) % s.length : Nat) : Int) := by simp
    have e2 : ((j : Int) + k) % (s.length : Int) = (((j + k) % s.length : Nat) : Int) := by simp
    have l1 : (i + k) % s.length < s.length := Nat.mod_lt _ hl
    have l2 : (j + k) % s.length < s.length := Nat.mod_lt _ hl
    have f1 : s.getD ((i + k) % s.length) 0 = Rt s i k := rfl
    have f2 : s.getD ((j + k) % s.length) 0 = Rt s j k := rfl
    by_cases hc : i < s.length ∧ j < s.length ∧ k < s.length
    · obtain ⟨h1, h2, h3⟩ := hc
      by_cases he : Rt s i k = Rt s j k
      · simp (disch := first | omega | (simp only [List.length_append, List.length_cons, List.length_nil, List.length_set, List.length_drop, List.length_take, List.length_map]; omega)) only [e1, e2, Int.toNat_natCast, f1, f2, mVar_z, Nat.reduceAdd, Nat.zero_add, Int.zero_add, Int.reduceAdd, Int.reduceSub, Int.reduceNeg, ap_Lst, ap_Tup, nil_app, cons_app, List.length_append, lst_last, mVar_s, ok_bnd, ok_stm, exc_bnd, ev_okE, exc_stm, ap_C, ap_Op, ap_Un, ap_B, ap_Chain, ap_asB, ap_And, ap_Or, ap_Not, ap_AndV, ap_OrV, ap_NotV, ap_If, ap_Nil, ap_Cons, ap_CB, ap_Meth, ap_Part, ap_NoPart, ap_Sl, ap_Yes, add_ii, add_ss, sub_ii, neg_i, mul_ii, fdiv_ii, mod_ii, eq_ii, ne_ii, eq_ss, ne_ss, lt_ii, le_ii, gt_ii, ge_ii, lt_ss, gt_ss, le_ss, ge_ss, len_s, len_t, abs_i, int_i, int_b, max_ii, min_ii, ix_s, ixL_0, ixL_1, ixL_2, ixL_3, ixL_n, ixL_i, ixL_st, setL_n, setL_i, List.length_map, List.length_set, ix_r, getL_r, ix_tL, withL_s, setL_0, setL_1, setL_2, set_r, app_r, lst_z, lst_s, iadd_ii, tuple_r, mul_ri, sl_s, sl_rol, sl_t, sl_r, cut_from, cut_to, ap_Seq, nx_seq, rt_seq, ct_seq, bk_seq, exc_seq, ap_Raise, ap_Skip, ap_Brk, ap_Cnt, ap_Drop, ap_Ret, ap_IfS, ap_Set, ap_Ts, ap_AsgT, tgT_t, tgTs_n, tgTs_c, ap_Aug, ap_SetI, ap_AugI, mFor_ap, ap_Rng1, ap_Rng2, rng1_ok, rng2_ok, ap_Iter, src_t, src_s, src_rL, ap_Comp, wipe_n, wipe_c, len_cons, len_nil, zip_cc, zip_nn, foldl_c, foldl_n, set_z, set_s, ite_t, ite_f, ite_T, ite_F, sing_lt, sing_eq, ty_r, ty_s, isS, cut_mid, decide_eq_true_eq, if_pos, if_neg]
        exact ⟨_, by omega, i, j, k + 1, some (.str [Rt s i k]), some (.str [Rt s j k]), linv_eq I h1 h2 h3 he, rfl, by simp, rfl⟩
      · by_cases hg : Rt s j k < Rt s i k
        · have J := linv_gt I h1 h2 h3 hg
          by_cases hm : i + (k + 1) = j
          · rw [if_pos hm] at J
            simp (disch := first | omega | (simp only [List.length_append, List.length_cons, List.length_nil, List.length_set, List.length_drop, List.length_take, List.length_map]; omega)) only [e1, e2, Int.toNat_natCast, f1, f2, mVar_z, Nat.reduceAdd, Nat.zero_add, Int.zero_add, Int.reduceAdd, Int.reduceSub, Int.reduceNeg, ap_Lst, ap_Tup, nil_app, cons_app, List.length_append, lst_last, mVar_s, ok_bnd, ok_stm, exc_bnd, ev_okE, exc_stm, ap_C, ap_Op, ap_Un, ap_B, ap_Chain, ap_asB, ap_And, ap_Or, ap_Not, ap_AndV, ap_OrV, ap_NotV, ap_If, ap_Nil, ap_Cons, ap_CB, ap_Meth, ap_Part, ap_NoPart, ap_Sl, ap_Yes, add_ii, add_ss, sub_ii, neg_i, mul_ii, fdiv_ii, mod_ii, eq_ii, ne_ii, eq_ss, ne_ss, lt_ii, le_ii, gt_ii, ge_ii, lt_ss, gt_ss, le_ss, ge_ss, len_s, len_t, abs_i, int_i, int_b, max_ii, min_ii, ix_s, ixL_0, ixL_1, ixL_2, ixL_3, ixL_n, ixL_i, ixL_st, setL_n, setL_i, List.length_map, List.length_set, ix_r, getL_r, ix_tL, withL_s, setL_0, setL_1, setL_2, set_r, app_r, lst_z, lst_s, iadd_ii, tuple_r, mul_ri, sl_s, sl_rol, sl_t, sl_r, cut_from, cut_to, ap_Seq, nx_seq, rt_seq, ct_seq, bk_seq, exc_seq, ap_Raise, ap_Skip, ap_Brk, ap_Cnt, ap_Drop, ap_Ret, ap_IfS, ap_Set, ap_Ts, ap_AsgT, tgT_t, tgTs_n, tgTs_c, ap_Aug, ap_SetI, ap_AugI, mFor_ap, ap_Rng1, ap_Rng2, rng1_ok, rng2_ok, ap_Iter, src_t, src_s, src_rL, ap_Comp, wipe_n, wipe_c, len_cons, len_nil, zip_cc, zip_nn, foldl_c, foldl_n, set_z, set_s, ite_t, ite_f, ite_T, ite_F, sing_lt, sing_eq, ty_r, ty_s, isS, cut_mid, decide_eq_true_eq, if_pos, if_neg]
            exact ⟨_, by omega, _, _, 0, some (.str [Rt s i k]), some (.str [Rt s j k]), J, rfl, by simp, rfl⟩
          · rw [if_neg hm] at J
            simp (disch := first | omega | (simp only [List.length_append, List.length_cons, List.length_nil, List.length_set, List.length_drop, List.length_take, List.length_map]; omega)) only [e1, e2, Int.toNat_natCast, f1, f2, mVar_z, Nat.reduceAdd, Nat.zero_add, Int.zero_add, Int.reduceAdd, Int.reduceSub, Int.reduceNeg, ap_Lst, ap_Tup, nil_app, cons_app, List.length_append, lst_last, mVar_s, ok_bnd, ok_stm, exc_bnd, ev_okE, exc_stm, ap_C, ap_Op, ap_Un, ap_B, ap_Chain, ap_asB, ap_And, ap_Or, ap_Not, ap_AndV, ap_OrV, ap_NotV, ap_If, ap_Nil, ap_Cons, ap_CB, ap_Meth, ap_Part, ap_NoPart, ap_Sl, ap_Yes, add_ii, add_ss, sub_ii, neg_i, mul_ii, fdiv_ii, mod_ii, eq_ii, ne_ii, eq_ss, ne_ss, lt_ii, le_ii, gt_ii, ge_ii, lt_ss, gt_ss, le_ss, ge_ss, len_s, len_t, abs_i, int_i, int_b, max_ii, min_ii, ix_s, ixL_0, ixL_1, ixL_2, ixL_3, ixL_n, ixL_i, ixL_st, setL_n, setL_i, List.length_map, List.length_set, ix_r, getL_r, ix_tL, withL_s, setL_0, setL_1, setL_2, set_r, app_r, lst_z, lst_s, iadd_ii, tuple_r, mul_ri, sl_s, sl_rol, sl_t, sl_r, cut_from, cut_to, ap_Seq, nx_seq, rt_seq, ct_seq, bk_seq, exc_seq, ap_Raise, ap_Skip, ap_Brk, ap_Cnt, ap_Drop, ap_Ret, ap_IfS, ap_Set, ap_Ts, ap_AsgT, tgT_t, tgTs_n, tgTs_c, ap_Aug, ap_SetI, ap_AugI, mFor_ap, ap_Rng1, ap_Rng2, rng1_ok, rng2_ok, ap_Iter, src_t, src_s, src_rL, ap_Comp, wipe_n, wipe_c, len_cons, len_nil, zip_cc, zip_nn, foldl_c, foldl_n, set_z, set_s, ite_t, ite_f, ite_T, ite_F, sing_lt, sing_eq, ty_r, ty_s, isS, cut_mid, decide_eq_true_eq, if_pos, if_neg]
            exact ⟨_, by omega, _, _, 0, some (.str [Rt s i k]), some (.str [Rt s j k]), J, rfl, by simp, rfl⟩
        · have J := linv_lt I h1 h2 h3 (by omega)
          by_cases hm : i = j + (k + 1)
          · rw [if_pos hm] at J
            simp (disch := first | omega | (simp only [List.length_append, List.length_cons, List.length_nil, List.length_set, List.length_drop, List.length_take, List.length_map]; omega)) only [e1, e2, Int.toNat_natCast, f1, f2, mVar_z, Nat.reduceAdd, Nat.zero_add, Int.zero_add, Int.reduceAdd, Int.reduceSub, Int.reduceNeg, ap_Lst, ap_Tup, nil_app, cons_app, List.length_append, lst_last, mVar_s, ok_bnd, ok_stm, exc_bnd, ev_okE, exc_stm, ap_C, ap_Op, ap_Un, ap_B, ap_Chain, ap_asB, ap_And, ap_Or, ap_Not, ap_AndV, ap_OrV, ap_NotV, ap_If, ap_Nil, ap_Cons, ap_CB, ap_Meth, ap_Part, ap_NoPart, ap_Sl, ap_Yes, add_ii, add_ss, sub_ii, neg_i, mul_ii, fdiv_ii, mod_ii, eq_ii, ne_ii, eq_ss, ne_ss, lt_ii, le_ii, gt_ii, ge_ii, lt_ss, gt_ss, le_ss, ge_ss, len_s, len_t, abs_i, int_i, int_b, max_ii, min_ii, ix_s, ixL_0, ixL_1, ixL_2, ixL_3, ixL_n, ixL_i, ixL_st, setL_n, setL_i, List.length_map, List.length_set, ix_r, getL_r, ix_tL, withL_s, setL_0, setL_1, setL_2, set_r, app_r, lst_z, lst_s, iadd_ii, tuple_r, mul_ri, sl_s, sl_rol, sl_t, sl_r, cut_from, cut_to, ap_Seq, nx_seq, rt_seq, ct_seq, bk_seq, exc_seq, ap_Raise, ap_Skip, ap_Brk, ap_Cnt, ap_Drop, ap_Ret, ap_IfS, ap_Set, ap_Ts, ap_AsgT, tgT_t, tgTs_n, tgTs_c, ap_Aug, ap_SetI, ap_AugI, mFor_ap, ap_Rng1, ap_Rng2, rng1_ok, rng2_ok, ap_Iter, src_t, src_s, src_rL, ap_Comp, wipe_n, wipe_c, len_cons, len_nil, zip_cc, zip_nn, foldl_c, foldl_n, set_z, set_s, ite_t, ite_f, ite_T, ite_F, sing_lt, sing_eq, ty_r, ty_s, isS, cut_mid, decide_eq_true_eq, if_pos, if_neg]
            exact ⟨_, by omega, _, _, 0, some (.str [Rt s i k]), some (.str [Rt s j k]), J, rfl, by simp, rfl⟩
          · rw [if_neg hm] at J
            simp (disch := first | omega | (simp only [List.length_append, List.length_cons, List.length_nil, List.length_set, List.length_drop, List.length_take, List.length_map]; omega)) only [e1, e2, Int.toNat_natCast, f1, f2, mVar_z, Nat.reduceAdd, Nat.zero_add, Int.zero_add, Int.reduceAdd, Int.reduceSub, Int.reduceNeg, ap_Lst, ap_Tup, nil_app, cons_app, List.length_append, lst_last, mVar_s, ok_bnd, ok_stm, exc_bnd, ev_okE, exc_stm, ap_C, ap_Op, ap_Un, ap_B, ap_Chain, ap_asB, ap_And, ap_Or, ap_Not, ap_AndV, ap_OrV, ap_NotV, ap_If, ap_Nil, ap_Cons, ap_CB, ap_Meth, ap_Part, ap_NoPart, ap_Sl, ap_Yes, add_ii, add_ss, sub_ii, neg_i, mul_ii, fdiv_ii, mod_ii, eq_ii, ne_ii, eq_ss, ne_ss, lt_ii, le_ii, gt_ii, ge_ii, lt_ss, gt_ss, le_ss, ge_ss, len_s, len_t, abs_i, int_i, int_b, max_ii, min_ii, ix_s, ixL_0, ixL_1, ixL_2, ixL_3, ixL_n, ixL_i, ixL_st, setL_n, setL_i, List.length_map, List.length_set, ix_r, getL_r, ix_tL, withL_s, setL_0, setL_1, setL_2, set_r, app_r, lst_z, lst_s, iadd_ii, tuple_r, mul_ri, sl_s, sl_rol, sl_t, sl_r, cut_from, cut_to, ap_Seq, nx_seq, rt_seq, ct_seq, bk_seq, exc_seq, ap_Raise, ap_Skip, ap_Brk, ap_Cnt, ap_Drop, ap_Ret, ap_IfS, ap_Set, ap_Ts, ap_AsgT, tgT_t, tgTs_n, tgTs_c, ap_Aug, ap_SetI, ap_AugI, mFor_ap, ap_Rng1, ap_Rng2, rng1_ok, rng2_ok, ap_Iter, src_t, src_s, src_rL, ap_Comp, wipe_n, wipe_c, len_cons, len_nil, zip_cc, zip_nn, foldl_c, foldl_n, set_z, set_s, ite_t, ite_f, ite_T, ite_F, sing_lt, sing_eq, ty_r, ty_s, isS, cut_mid, decide_eq_true_eq, if_pos, if_neg]
            exact ⟨_, by omega, _, _, 0, some (.str [Rt s i k]), some (.str [Rt s j k]), J, rfl, by simp, rfl⟩
    · have hf := linv_end I hc
      have hr : (∃ (i_1 j_1 : Nat) (z y_1 x_1 : Option W), (∀ p, p < s.length → p ≠ min i_1 j_1 → Beaten s p) ∧
          SOut.nx [some (W.str s), some (W.int ↑i), some (W.int ↑j), some (W.int ↑k), some (W.int ↑s.length), y, x] [] =
            SOut.nx [some (W.str s), some (W.int ↑i_1), some (W.int ↑j_1), z, some (W.int ↑s.length), y_1, x_1] []) := ⟨i, j, _, _, _, hf, rfl⟩
      by_cases c1 : i < s.length
      · by_cases c2 : j < s.length
        · simp (disch := first | omega | (simp only [List.length_append, List.length_cons, List.length_nil, List.length_set, List.length_drop, List.length_take, List.length_map]; omega)) only [mVar_z, Nat.reduceAdd, Nat.zero_add, Int.zero_add, Int.reduceAdd, Int.reduceSub, Int.reduceNeg, ap_Lst, ap_Tup, nil_app, cons_app, List.length_append, lst_last, mVar_s, ok_bnd, ok_stm, exc_bnd, ev_okE, exc_stm, ap_C, ap_Op, ap_Un, ap_B, ap_Chain, ap_asB, ap_And, ap_Or, ap_Not, ap_AndV, ap_OrV, ap_NotV, ap_If, ap_Nil, ap_Cons, ap_CB, ap_Meth, ap_Part, ap_NoPart, ap_Sl, ap_Yes, add_ii, add_ss, sub_ii, neg_i, mul_ii, fdiv_ii, mod_ii, eq_ii, ne_ii, eq_ss, ne_ss, lt_ii, le_ii, gt_ii, ge_ii, lt_ss, gt_ss, le_ss, ge_ss, len_s, len_t, abs_i, int_i, int_b, max_ii, min_ii, ix_s, ixL_0, ixL_1, ixL_2, ixL_3, ixL_n, ixL_i, ixL_st, setL_n, setL_i, List.length_map, List.length_set, ix_r, getL_r, ix_tL, withL_s, setL_0, setL_1, setL_2, set_r, app_r, lst_z, lst_s, iadd_ii, tuple_r, mul_ri, sl_s, sl_rol, sl_t, sl_r, cut_from, cut_to, ap_Seq, nx_seq, rt_seq, ct_seq, bk_seq, exc_seq, ap_Raise, ap_Skip, ap_Brk, ap_Cnt, ap_Drop, ap_Ret, ap_IfS, ap_Set, ap_Ts, ap_AsgT, tgT_t, tgTs_n, tgTs_c, ap_Aug, ap_SetI, ap_AugI, mFor_ap, ap_Rng1, ap_Rng2, rng1_ok, rng2_ok, ap_Iter, src_t, src_s, src_rL, ap_Comp, wipe_n, wipe_c, len_cons, len_nil, zip_cc, zip_nn, foldl_c, foldl_n, set_z, set_s, ite_t, ite_f, ite_T, ite_F, sing_lt, sing_eq, ty_r, ty_s, isS, cut_mid, decide_eq_true_eq, if_pos, if_neg]
          exact hr
        · simp (disch := first | omega | (simp only [List.length_append, List.length_cons, List.length_nil, List.length_set, List.length_drop, List.length_take, List.length_map]; omega)) only [mVar_z, Nat.reduceAdd, Nat.zero_add, Int.zero_add, Int.reduceAdd, Int.reduceSub, Int.reduceNeg, ap_Lst, ap_Tup, nil_app, cons_app, List.length_append, lst_last, mVar_s, ok_bnd, ok_stm, exc_bnd, ev_okE, exc_stm, ap_C, ap_Op, ap_Un, ap_B, ap_Chain, ap_asB, ap_And, ap_Or, ap_Not, ap_AndV, ap_OrV, ap_NotV, ap_If, ap_Nil, ap_Cons, ap_CB, ap_Meth, ap_Part, ap_NoPart, ap_Sl, ap_Yes, add_ii, add_ss, sub_ii, neg_i, mul_ii, fdiv_ii, mod_ii, eq_ii, ne_ii, eq_ss, ne_ss, lt_ii, le_ii, gt_ii, ge_ii, lt_ss, gt_ss, le_ss, ge_ss, len_s, len_t, abs_i, int_i, int_b, max_ii, min_ii, ix_s, ixL_0, ixL_1, ixL_2, ixL_3, ixL_n, ixL_i, ixL_st, setL_n, setL_i, List.length_map, List.length_set, ix_r, getL_r, ix_tL, withL_s, setL_0, setL_1, setL_2, set_r, app_r, lst_z, lst_s, iadd_ii, tuple_r, mul_ri, sl_s, sl_rol, sl_t, sl_r, cut_from, cut_to, ap_Seq, nx_seq, rt_seq, ct_seq, bk_seq, exc_seq, ap_Raise, ap_Skip, ap_Brk, ap_Cnt, ap_Drop, ap_Ret, ap_IfS, ap_Set, ap_Ts, ap_AsgT, tgT_t, tgTs_n, tgTs_c, ap_Aug, ap_SetI, ap_AugI, mFor_ap, ap_Rng1, ap_Rng2, rng1_ok, rng2_ok, ap_Iter, src_t, src_s, src_rL, ap_Comp, wipe_n, wipe_c, len_cons, len_nil, zip_cc, zip_nn, foldl_c, foldl_n, set_z, set_s, ite_t, ite_f, ite_T, ite_F, sing_lt, sing_eq, ty_r, ty_s, isS, cut_mid, decide_eq_true_eq, if_pos, if_neg]
          exact hr
      · simp (disch := first | omega | (simp only [List.length_append, List.length_cons, List.length_nil, List.length_set, List.length_drop, List.length_take, List.length_map]; omega)) only [mVar_z, Nat.reduceAdd, Nat.zero_add, Int.zero_add, Int.reduceAdd, Int.reduceSub, Int.reduceNeg, ap_Lst, ap_Tup, nil_app, cons_app, List.length_append, lst_last, mVar_s, ok_bnd, ok_stm, exc_bnd, ev_okE, exc_stm, ap_C, ap_Op, ap_Un, ap_B, ap_Chain, ap_asB, ap_And, ap_Or, ap_Not, ap_AndV, ap_OrV, ap_NotV, ap_If, ap_Nil, ap_Cons, ap_CB, ap_Meth, ap_Part, ap_NoPart, ap_Sl, ap_Yes, add_ii, add_ss, sub_ii, neg_i, mul_ii, fdiv_ii, mod_ii, eq_ii, ne_ii, eq_ss, ne_ss, lt_ii, le_ii, gt_ii, ge_ii, lt_ss, gt_ss, le_ss, ge_ss, len_s, len_t, abs_i, int_i, int_b, max_ii, min_ii, ix_s, ixL_0, ixL_1, ixL_2, ixL_3, ixL_n, ixL_i, ixL_st, setL_n, setL_i, List.length_map, List.length_set, ix_r, getL_r, ix_tL, withL_s, setL_0, setL_1, setL_2, set_r, app_r, lst_z, lst_s, iadd_ii, tuple_r, mul_ri, sl_s, sl_rol, sl_t, sl_r, cut_from, cut_to, ap_Seq, nx_seq, rt_seq, ct_seq, bk_seq, exc_seq, ap_Raise, ap_Skip, ap_Brk, ap_Cnt, ap_Drop, ap_Ret, ap_IfS, ap_Set, ap_Ts, ap_AsgT, tgT_t, tgTs_n, tgTs_c, ap_Aug, ap_SetI, ap_AugI, mFor_ap, ap_Rng1, ap_Rng2, rng1_ok, rng2_ok, ap_Iter, src_t, src_s, src_rL, ap_Comp, wipe_n, wipe_c, len_cons, len_nil, zip_cc, zip_nn, foldl_c, foldl_n, set_z, set_s, ite_t, ite_f, ite_T, ite_F, sing_lt, sing_eq, ty_r, ty_s, isS, cut_mid, decide_eq_true_eq, if_pos, if_neg]
        exact hr
  · rintro o ⟨i, j, z, y, x, hb, rfl⟩
    simp (disch := first | omega | (simp only [List.length_append, List.length_cons, List.length_nil, List.length_set, List.length_drop, List.length_take, List.length_map]; omega)) only [mVar_z, Nat.reduceAdd, Nat.zero_add, Int.zero_add, Int.reduceAdd, Int.reduceSub, Int.reduceNeg, ap_Lst, ap_Tup, nil_app, cons_app, List.length_append, lst_last, mVar_s, ok_bnd, ok_stm, exc_bnd, ev_okE, exc_stm, ap_C, ap_Op, ap_Un, ap_B, ap_Chain, ap_asB, ap_And, ap_Or, ap_Not, ap_AndV, ap_OrV, ap_NotV, ap_If, ap_Nil, ap_Cons, ap_CB, ap_Meth, ap_Part, ap_NoPart, ap_Sl, ap_Yes, add_ii, add_ss, sub_ii, neg_i, mul_ii, fdiv_ii, mod_ii, eq_ii, ne_ii, eq_ss, ne_ss, lt_ii, le_ii, gt_ii, ge_ii, lt_ss, gt_ss, le_ss, ge_ss, len_s, len_t, abs_i, int_i, int_b, max_ii, min_ii, ix_s, ixL_0, ixL_1, ixL_2, ixL_3, ixL_n, ixL_i, ixL_st, setL_n, setL_i, List.length_map, List.length_set, ix_r, getL_r, ix_tL, withL_s, setL_0, setL_1, setL_2, set_r, app_r, lst_z, lst_s, iadd_ii, tuple_r, mul_ri, sl_s, sl_rol, sl_t, sl_r, cut_from, cut_to, ap_Seq, nx_seq, rt_seq, ct_seq, bk_seq, exc_seq, ap_Raise, ap_Skip, ap_Brk, ap_Cnt, ap_Drop, ap_Ret, ap_IfS, ap_Set, ap_Ts, ap_AsgT, tgT_t, tgTs_n, tgTs_c, ap_Aug, ap_SetI, ap_AugI, mFor_ap, ap_Rng1, ap_Rng2, rng1_ok, rng2_ok, ap_Iter, src_t, src_s, src_rL, ap_Comp, wipe_n, wipe_c, len_cons, len_nil, zip_cc, zip_nn, foldl_c, foldl_n, set_z, set_s, ite_t, ite_f, ite_T, ite_F, sing_lt, sing_eq, ty_r, ty_s, isS, cut_mid, decide_eq_true_eq, if_pos, if_neg]
    have e : (if (j : Int) < i then (j : Int) else i) = ((min i j : Nat) : Int) := by split <;> omega
    rw [e]
    exact ⟨rfl, _, rfl, least_one h0 hb⟩
end Law_indexhall_k22_words_turned_and_cut
set_option maxRecDepth 100000
namespace Law_indexhall_k22_words_turned_and_cut
open PySem L2 Den
/-! ### falling words -/
def wd (s : List Nat) (k L : Nat) : List Nat := (s.drop k).take L
theorem wd_len {s : List Nat} {k L : Nat} (h : k + L ≤ s.length) : (wd s k L).length = L := by unfold wd; simp; omega
theorem wd_get {s : List Nat} {k L t : Nat} (ht : t < L) : (wd s k L).getD t 0 = s.getD (k + t) 0 := by
  unfold wd
  rw [List.getD_eq_getElem?_getD, List.getElem?_take_of_lt ht, List.getElem?_drop, List.getD_eq_getElem?_getD]
/-- the first L letters from k on are before all their ends -/
def Lyn (s : List Nat) (k L : Nat) : Prop := ∀ d, 0 < d → d < L → ∃ e, d + e < L ∧ (∀ t, t < e → s.getD (k + d + t) 0 = s.getD (k + t) 0) ∧ s.getD (k + e) 0 < s.getD (k + d + e) 0
def Per (s : List Nat) (k L j : Nat) : Prop := ∀ i, k + L ≤ i → i < j → s.getD i 0 = s.getD (i - L) 0
theorem per_mul {s : List Nat} {k L j : Nat} (P : Per s k L j) : ∀ (q x : Nat), k + q * L + x < j → s.getD (k + q * L + x) 0 = s.getD (k + x) 0
  | 0, x, h => by rw [Nat.zero_mul, Nat.add_zero]
  | q + 1, x, h => by
    rw [Nat.succ_mul] at h ⊢
    rw [P (k + (q * L + L) + x) (by omega) h, show k + (q * L + L) + x - L = k + q * L + x by omega]
    exact per_mul P q x (by omega)
theorem lyn_grow {s : List Nat} {k L j : Nat} (hL : 0 < L) (hj : k + L ≤ j) (Y : Lyn s k L) (P : Per s k L j) (h : s.getD (j - L) 0 < s.getD j 0) : Lyn s k (j + 1 - k) := by
  intro d d0 d1
  have hd : d = (d / L) * L + d % L := by rw [Nat.mul_comm]; exact (Nat.div_add_mod d L).symm
  have hr : d % L < L := Nat.mod_lt _ hL
  generalize hq : d / L = q at hd
  generalize hrr : d % L = r at hd hr
  subst hd
  by_cases r0 : r = 0
  · subst r0
    have hjl : s.getD (j - L) 0 = s.getD (k + (j - k - q * L)) 0 := by
      cases q with
      | zero => simp at d0
      | succ q =>
        have := per_mul P q (j - k - (q + 1) * L) (by rw [Nat.succ_mul] at *; omega)
        rw [← this]
        congr 1
        rw [Nat.succ_mul] at *
        omega
    refine ⟨j - k - q * L, by omega, fun t ht => ?_, ?_⟩
    · rw [show k + (q * L + 0) + t = k + q * L + t by omega]
      exact per_mul P q t (by omega)
    · rw [show k + (q * L + 0) + (j - k - q * L) = j by omega, ← hjl]
      exact h
  · obtain ⟨e, e1, e2, e3⟩ := Y r (by omega) hr
    by_cases he : k + (q * L + r) + e < j
    · refine ⟨e, by omega, fun t ht => ?_, ?_⟩
      · rw [show k + (q * L + r) + t = k + q * L + (r + t) by omega, per_mul P q (r + t) (by omega), show k + (r + t) = k + r + t by omega]
        exact e2 t ht
      · rw [show k + (q * L + r) + e = k + q * L + (r + e) by omega, per_mul P q (r + e) (by omega), show k + (r + e) = k + r + e by omega]
        exact e3
    · refine ⟨j - k - (q * L + r), by omega, fun t ht => ?_, ?_⟩
      · rw [show k + (q * L + r) + t = k + q * L + (r + t) by omega, per_mul P q (r + t) (by omega), show k + (r + t) = k + r + t by omega]
        exact e2 t (by omega)
      · rw [show k + (q * L + r) + (j - k - (q * L + r)) = j by omega]
        refine Nat.lt_of_le_of_lt ?_ h
        have hjl : s.getD (j - L) 0 = s.getD (k + r + (j - k - (q * L + r))) 0 := by
          match q with
          | 0 => exfalso; rw [Nat.zero_mul] at *; omega
          | q + 1 =>
            have := per_mul P q (r + (j - k - ((q + 1) * L + r))) (by rw [Nat.succ_mul] at *; omega)
            rw [show k + r + (j - k - ((q + 1) * L + r)) = k + (r + (j - k - ((q + 1) * L + r))) by omega, ← this]
            congr 1
            rw [Nat.succ_mul] at *
            omega
        rw [hjl]
        by_cases hee : j - k - (q * L + r) < e
        · rw [e2 _ hee]
          exact Nat.le_refl _
        · rw [show j - k - (q * L + r) = e by omega]
          omega
def Good (w : List Nat) : Prop := w ≠ [] ∧ ∀ d, 0 < d → d < w.length → w < rotL w d
theorem lyn_good {s : List Nat} {k L : Nat} (h0 : 0 < L) (hl : k + L ≤ s.length) (Y : Lyn s k L) : Good (wd s k L) := by
  have hw := wd_len hl
  refine ⟨fun e => by rw [e] at hw; simp at hw; omega, fun d d0 d1 => ?_⟩
  rw [hw] at d1
  obtain ⟨e, e1, e2, e3⟩ := Y d d0 d1
  have hg : ∀ t, t < L → d + t < L → (rotL (wd s k L) d).getD t 0 = s.getD (k + d + t) 0 := fun t ht hdt => by
    rw [rot_get (by omega) (by omega)]
    unfold Rt
    rw [hw, Nat.mod_eq_of_lt hdt, wd_get hdt, Nat.add_assoc]
  refine lex_of e _ _ (by omega) (by rw [rot_len (by omega)]; omega) (fun t ht => ?_) ?_
  · rw [hg t (by omega) (by omega), wd_get (by omega)]
    exact (e2 t ht).symm
  · rw [hg e (by omega) (by omega), wd_get (by omega)]
    exact e3
def NI (s : List Nat) (w : List Nat) (k : Nat) : Prop := ∀ len, ¬ w < wd s k len
theorem take_not_lt : ∀ (w : List Nat) (m : Nat), ¬ w < w.take m
  | [], m => by rw [List.take_nil]; exact List.lt_irrefl _
  | x :: w, 0 => by rw [List.take_zero]; exact List.not_lt_nil _
  | x :: w, m + 1 => by
    rw [List.take_succ_cons]
    intro h
    rcases List.cons_lt_cons_iff.1 h with h | h
    · exact Nat.lt_irrefl _ h
    · exact take_not_lt w m h.2
theorem ni_end {s : List Nat} {k k1 L j : Nat} (hk : k1 < k + L + s.length) (hw : k + L ≤ s.length) (h1 : k1 ≤ j) (h2 : j < k1 + L) (hj : j ≤ s.length) (hp : ∀ x, k1 + x < j → s.getD (k1 + x) 0 = s.getD (k + x) 0) (hx : j = s.length ∨ s.getD j 0 < s.getD (k + (j - k1)) 0) : NI s (wd s k L) k1 := by
  intro len hlt
  have hwl := wd_len hw
  by_cases hl : len ≤ j - k1
  · have e : wd s k1 len = (wd s k L).take len := by
      apply List.ext_getElem
      · rw [wd_len (by omega), List.length_take, hwl]; omega
      · intro t a b
        have ht : t < len := by rw [wd_len (by omega)] at a; exact a
        have e1 := wd_get (s := s) (k := k1) ht
        have e2 := wd_get (s := s) (k := k) (show t < L by omega)
        rw [List.getD_eq_getElem?_getD, List.getElem?_eq_getElem a] at e1
        rw [List.getD_eq_getElem?_getD, List.getElem?_eq_getElem (by omega)] at e2
        rw [List.getElem_take]
        simp only [Option.getD_some] at e1 e2
        rw [e1, e2]
        exact hp t (by omega)
    rw [e] at hlt
    exact take_not_lt _ _ hlt
  · rcases hx with hx | hx
    · have e : wd s k1 len = wd s k1 (j - k1) := by
        unfold wd
        rw [List.take_of_length_le (by simp; omega), List.take_of_length_le (by simp; omega)]
      rw [e] at hlt
      have e : wd s k1 (j - k1) = (wd s k L).take (j - k1) := by
        apply List.ext_getElem
        · rw [wd_len (by omega), List.length_take, hwl]; omega
        · intro t a b
          have ht : t < j - k1 := by rw [wd_len (by omega)] at a; exact a
          have e1 := wd_get (s := s) (k := k1) ht
          have e2 := wd_get (s := s) (k := k) (show t < L by omega)
          rw [List.getD_eq_getElem?_getD, List.getElem?_eq_getElem a] at e1
          rw [List.getD_eq_getElem?_getD, List.getElem?_eq_getElem (by omega)] at e2
          rw [List.getElem_take]
          simp only [Option.getD_some] at e1 e2
          rw [e1, e2]
          exact hp t (by omega)
      rw [e] at hlt
      exact take_not_lt _ _ hlt
    · by_cases hjs : j < s.length
      · have : wd s k1 len < wd s k L := by
          refine lex_of (j - k1) _ _ (by unfold wd; simp; omega) (by omega) (fun t ht => ?_) ?_
          · rw [wd_get (by omega), wd_get (by omega)]
            exact hp t (by omega)
          · rw [wd_get (by omega), wd_get (by omega), show k1 + (j - k1) = j by omega]
            exact hx
        exact List.lt_irrefl _ (List.lt_trans this hlt)
      · have e : wd s k1 len = wd s k1 (j - k1) := by
          unfold wd
          rw [List.take_of_length_le (by simp; omega), List.take_of_length_le (by simp; omega)]
        have e2 : wd s k1 (j - k1) = (wd s k L).take (j - k1) := by
          apply List.ext_getElem
          · rw [wd_len (by omega), List.length_take, hwl]; omega
          · intro t a b
            have ht : t < j - k1 := by rw [wd_len (by omega)] at a; exact a
            have e1 := wd_get (s := s) (k := k1) ht
            have e2 := wd_get (s := s) (k := k) (show t < L by omega)
            rw [List.getD_eq_getElem?_getD, List.getElem?_eq_getElem a] at e1
            rw [List.getD_eq_getElem?_getD, List.getElem?_eq_getElem (by omega)] at e2
            rw [List.getElem_take]
            simp only [Option.getD_some] at e1 e2
            rw [e1, e2]
            exact hp t (by omega)
        rw [e, e2] at hlt
        exact take_not_lt _ _ hlt
theorem gd_left {α : Type} {l r : List α} {i : Nat} {d : α} (h : i < l.length) : (l ++ r).getD i d = l.getD i d := by
  rw [List.getD_eq_getElem?_getD, List.getElem?_append_left h, List.getD_eq_getElem?_getD]
theorem gd_last {α : Type} {l : List α} {x d : α} : (l ++ [x]).getD l.length d = x := by
  rw [List.getD_eq_getElem?_getD, List.getElem?_append_right (Nat.le_refl _), Nat.sub_self]; rfl
/-- the parts so far -/
structure Parts (s : List Nat) (k : Nat) (ps : List (List Nat)) : Prop where
  fl : ps.flatten = s.take k
  good : ∀ w ∈ ps, Good w
  ch : ∀ m, m + 1 < ps.length → ¬ ps.getD m [] < ps.getD (m + 1) []
  len : ps.length ≤ k
theorem parts_add {s : List Nat} {k L : Nat} {ps : List (List Nat)} (P : Parts s k ps) (h0 : 0 < L) (hl : k + L ≤ s.length) (hg : Good (wd s k L)) (hlast : ∀ w, ps.getLast? = some w → ¬ w < wd s k L) : Parts s (k + L) (ps ++ [wd s k L]) := by
  refine ⟨?_, fun w hw => ?_, fun m hm => ?_, by have := P.len; simp; omega⟩
  · rw [List.flatten_append, P.fl, List.flatten_cons, List.flatten_nil, List.append_nil]
    unfold wd
    rw [List.take_add]
  · rcases List.mem_append.1 hw with x | x
    · exact P.good w x
    · rw [List.mem_singleton.1 x]; exact hg
  · by_cases hm2 : m + 1 < ps.length
    · rw [gd_left (by omega), gd_left hm2]
      exact P.ch m hm2
    · have hml : m + 1 = ps.length := by simp at hm; omega
      rw [gd_left (by omega), hml, gd_last]
      refine hlast _ ?_
      rw [List.getLast?_eq_getElem?, List.getD_eq_getElem?_getD, show ps.length - 1 = m by omega, List.getElem?_eq_getElem (by omega)]
      rfl
theorem fw_ev (s : List Nat) (hs : s.length ≤ 1000) : Ev (den_falling_words [.str s] []) fun w _ => pureW w = true ∧ ∃ ps : List (List Nat), w = .tup (ps.map .str) ∧ Parts s s.length ps := by
  refine fun_ev ?_
  unfold body_falling_words
  simp only [startE, List.map_cons, List.map_nil, List.length_cons, List.length_nil, List.cons_append, List.nil_append, Nat.zero_add, Nat.reduceAdd, Nat.reduceSub, List.replicate_succ, List.replicate_zero]
  simp (disch := first | omega | (simp only [List.length_append, List.length_cons, List.length_nil, List.length_set, List.length_drop, List.length_take, List.length_map]; omega)) only [mVar_z, Nat.reduceAdd, Nat.zero_add, Int.zero_add, Int.reduceAdd, Int.reduceSub, Int.reduceNeg, ap_Lst, ap_Tup, nil_app, cons_app, List.length_append, lst_last, mVar_s, ok_bnd, ok_stm, exc_bnd, ev_okE, exc_stm, ap_C, ap_Op, ap_Un, ap_B, ap_Chain, ap_asB, ap_And, ap_Or, ap_Not, ap_AndV, ap_OrV, ap_NotV, ap_If, ap_Nil, ap_Cons, ap_CB, ap_Meth, ap_Part, ap_NoPart, ap_Sl, ap_Yes, add_ii, add_ss, sub_ii, neg_i, mul_ii, fdiv_ii, mod_ii, eq_ii, ne_ii, eq_ss, ne_ss, lt_ii, le_ii, gt_ii, ge_ii, lt_ss, gt_ss, le_ss, ge_ss, len_s, len_t, abs_i, int_i, int_b, max_ii, min_ii, ix_s, ixL_0, ixL_1, ixL_2, ixL_3, ixL_n, ixL_i, ixL_st, setL_n, setL_i, List.length_map, List.length_set, ix_r, getL_r, ix_tL, withL_s, setL_0, setL_1, setL_2, set_r, app_r, lst_z, lst_s, iadd_ii, tuple_r, mul_ri, sl_s, sl_rol, sl_t, sl_r, cut_from, cut_to, ap_Seq, nx_seq, rt_seq, ct_seq, bk_seq, exc_seq, ap_Raise, ap_Skip, ap_Brk, ap_Cnt, ap_Drop, ap_Ret, ap_IfS, ap_Set, ap_Ts, ap_AsgT, tgT_t, tgTs_n, tgTs_c, ap_Aug, ap_SetI, ap_AugI, mFor_ap, ap_Rng1, ap_Rng2, rng1_ok, rng2_ok, ap_Iter, src_t, src_s, src_rL, ap_Comp, wipe_n, wipe_c, len_cons, len_nil, zip_cc, zip_nn, foldl_c, foldl_n, set_z, set_s, ite_t, ite_f, ite_T, ite_F, sing_lt, sing_eq, ty_r, ty_s, isS, cut_mid, decide_eq_true_eq, if_pos, if_neg]
  refine sv_cut (R' := fun o => ∃ (ps : List (List Nat)) (z y x : Option W), Parts s s.length ps ∧ o = SOut.nx [some (.str s), some (.ref 0), z, y, x] [O.lst (ps.map .str)]) ?_ ?_
  · refine mWhile_sv s.length (fun m e h => ∃ (ps : List (List Nat)) (k : Nat) (y x : Option W), k ≤ s.length ∧ Parts s k ps ∧ (∀ w, ps.getLast? = some w → NI s w k) ∧ m = s.length - k ∧ e = [some (.str s), some (.ref 0), some (.int k), y, x] ∧ h = [O.lst (ps.map .str)]) (by omega)
      ⟨[], 0, none, none, by omega, ⟨by simp, by simp, by simp, by simp⟩, by simp, by omega, rfl, rfl⟩ ?_
    rintro m e h ⟨ps, k, y, x, hk, P, N, rfl, rfl, rfl⟩
    have hpl := P.len
    by_cases hkn : k < s.length
    · simp (disch := first | omega | (simp only [List.length_append, List.length_cons, List.length_nil, List.length_set, List.length_drop, List.length_take, List.length_map]; omega)) only [mVar_z, Nat.reduceAdd, Nat.zero_add, Int.zero_add, Int.reduceAdd, Int.reduceSub, Int.reduceNeg, ap_Lst, ap_Tup, nil_app, cons_app, List.length_append, lst_last, mVar_s, ok_bnd, ok_stm, exc_bnd, ev_okE, exc_stm, ap_C, ap_Op, ap_Un, ap_B, ap_Chain, ap_asB, ap_And, ap_Or, ap_Not, ap_AndV, ap_OrV, ap_NotV, ap_If, ap_Nil, ap_Cons, ap_CB, ap_Meth, ap_Part, ap_NoPart, ap_Sl, ap_Yes, add_ii, add_ss, sub_ii, neg_i, mul_ii, fdiv_ii, mod_ii, eq_ii, ne_ii, eq_ss, ne_ss, lt_ii, le_ii, gt_ii, ge_ii, lt_ss, gt_ss, le_ss, ge_ss, len_s, len_t, abs_i, int_i, int_b, max_ii, min_ii, ix_s, ixL_0, ixL_1, ixL_2, ixL_3, ixL_n, ixL_i, ixL_st, setL_n, setL_i, List.length_map, List.length_set, ix_r, getL_r, ix_tL, withL_s, setL_0, setL_1, setL_2, set_r, app_r, lst_z, lst_s, iadd_ii, tuple_r, mul_ri, sl_s, sl_rol, sl_t, sl_r, cut_from, cut_to, ap_Seq, nx_seq, rt_seq, ct_seq, bk_seq, exc_seq, ap_Raise, ap_Skip, ap_Brk, ap_Cnt, ap_Drop, ap_Ret, ap_IfS, ap_Set, ap_Ts, ap_AsgT, tgT_t, tgTs_n, tgTs_c, ap_Aug, ap_SetI, ap_AugI, mFor_ap, ap_Rng1, ap_Rng2, rng1_ok, rng2_ok, ap_Iter, src_t, src_s, src_rL, ap_Comp, wipe_n, wipe_c, len_cons, len_nil, zip_cc, zip_nn, foldl_c, foldl_n, set_z, set_s, ite_t, ite_f, ite_T, ite_F, sing_lt, sing_eq, ty_r, ty_s, isS, cut_mid, decide_eq_true_eq, if_pos, if_neg]
      refine sv_cut (R' := fun o => ∃ j same : Nat, k ≤ same ∧ same < j ∧ j ≤ s.length ∧ Lyn s k (j - same) ∧ Per s k (j - same) j ∧ (j = s.length ∨ s.getD j 0 < s.getD same 0) ∧ o = SOut.nx [some (.str s), some (.ref 0), some (.int k), some (.int j), some (.int same)] [O.lst (ps.map .str)]) ?_ ?_
      · refine mWhile_sv (s.length - (k + 1)) (fun m e h => ∃ j same : Nat, k ≤ same ∧ same < j ∧ j ≤ s.length ∧ Lyn s k (j - same) ∧ Per s k (j - same) j ∧ m = s.length - j ∧ e = [some (.str s), some (.ref 0), some (.int k), some (.int j), some (.int same)] ∧ h = [O.lst (ps.map .str)]) (by omega)
          ⟨k + 1, k, by omega, by omega, by omega, fun d d0 d1 => by omega, fun i h1 h2 => by omega, by omega, by simp, rfl⟩ ?_
        rintro m e h ⟨j, same, h1, h2, h3, Y, Q, rfl, rfl, rfl⟩
        by_cases hj : j < s.length
        · by_cases hle : s.getD same 0 ≤ s.getD j 0
          · by_cases hlt : s.getD same 0 < s.getD j 0
            · simp (disch := first | omega | (simp only [List.length_append, List.length_cons, List.length_nil, List.length_set, List.length_drop, List.length_take, List.length_map]; omega)) only [Int.toNat_natCast, mVar_z, Nat.reduceAdd, Nat.zero_add, Int.zero_add, Int.reduceAdd, Int.reduceSub, Int.reduceNeg, ap_Lst, ap_Tup, nil_app, cons_app, List.length_append, lst_last, mVar_s, ok_bnd, ok_stm, exc_bnd, ev_okE, exc_stm, ap_C, ap_Op, ap_Un, ap_B, ap_Chain, ap_asB, ap_And, ap_Or, ap_Not, ap_AndV, ap_OrV, ap_NotV, ap_If, ap_Nil, ap_Cons, ap_CB, ap_Meth, ap_Part, ap_NoPart, ap_Sl, ap_Yes, add_ii, add_ss, sub_ii, neg_i, mul_ii, fdiv_ii, mod_ii, eq_ii, ne_ii, eq_ss, ne_ss, lt_ii, le_ii, gt_ii, ge_ii, lt_ss, gt_ss, le_ss, ge_ss, len_s, len_t, abs_i, int_i, int_b, max_ii, min_ii, ix_s, ixL_0, ixL_1, ixL_2, ixL_3, ixL_n, ixL_i, ixL_st, setL_n, setL_i, List.length_map, List.length_set, ix_r, getL_r, ix_tL, withL_s, setL_0, setL_1, setL_2, set_r, app_r, lst_z, lst_s, iadd_ii, tuple_r, mul_ri, sl_s, sl_rol, sl_t, sl_r, cut_from, cut_to, ap_Seq, nx_seq, rt_seq, ct_seq, bk_seq, exc_seq, ap_Raise, ap_Skip, ap_Brk, ap_Cnt, ap_Drop, ap_Ret, ap_IfS, ap_Set, ap_Ts, ap_AsgT, tgT_t, tgTs_n, tgTs_c, ap_Aug, ap_SetI, ap_AugI, mFor_ap, ap_Rng1, ap_Rng2, rng1_ok, rng2_ok, ap_Iter, src_t, src_s, src_rL, ap_Comp, wipe_n, wipe_c, len_cons, len_nil, zip_cc, zip_nn, foldl_c, foldl_n, set_z, set_s, ite_t, ite_f, ite_T, ite_F, sing_lt, sing_eq, ty_r, ty_s, isS, cut_mid, decide_eq_true_eq, if_pos, if_neg]
              refine ⟨_, ?_, j + 1, k, by omega, by omega, by omega, lyn_grow (L := j - same) (by omega) (by omega) Y Q (by rw [show j - (j - same) = same by omega]; exact hlt), fun i a b => by omega, rfl, by simp, rfl⟩
              omega
            · simp (disch := first | omega | (simp only [List.length_append, List.length_cons, List.length_nil, List.length_set, List.length_drop, List.length_take, List.length_map]; omega)) only [Int.toNat_natCast, mVar_z, Nat.reduceAdd, Nat.zero_add, Int.zero_add, Int.reduceAdd, Int.reduceSub, Int.reduceNeg, ap_Lst, ap_Tup, nil_app, cons_app, List.length_append, lst_last, mVar_s, ok_bnd, ok_stm, exc_bnd, ev_okE, exc_stm, ap_C, ap_Op, ap_Un, ap_B, ap_Chain, ap_asB, ap_And, ap_Or, ap_Not, ap_AndV, ap_OrV, ap_NotV, ap_If, ap_Nil, ap_Cons, ap_CB, ap_Meth, ap_Part, ap_NoPart, ap_Sl, ap_Yes, add_ii, add_ss, sub_ii, neg_i, mul_ii, fdiv_ii, mod_ii, eq_ii, ne_ii, eq_ss, ne_ss, lt_ii, le_ii, gt_ii, ge_ii, lt_ss, gt_ss, le_ss, ge_ss, len_s, len_t, abs_i, int_i, int_b, max_ii, min_ii, ix_s, ixL_0, ixL_1, ixL_2, ixL_3, ixL_n, ixL_i, ixL_st, setL_n, setL_i, List.length_map, List.length_set, ix_r, getL_r, ix_tL, withL_s, setL_0, setL_1, setL_2, set_r, app_r, lst_z, lst_s, iadd_ii, tuple_r, mul_ri, sl_s, sl_rol, sl_t, sl_r, cut_from, cut_to, ap_Seq, nx_seq, rt_seq, ct_seq, bk_seq, exc_seq, ap_Raise, ap_Skip, ap_Brk, ap_Cnt, ap_Drop, ap_Ret, ap_IfS, ap_Set, ap_Ts, ap_AsgT, tgT_t, tgTs_n, tgTs_c, ap_Aug, ap_SetI, ap_AugI, mFor_ap, ap_Rng1, ap_Rng2, rng1_ok, rng2_ok, ap_Iter, src_t, src_s, src_rL, ap_Comp, wipe_n, wipe_c, len_cons, len_nil, zip_cc, zip_nn, foldl_c, foldl_n, set_z, set_s, ite_t, ite_f, ite_T, ite_F, sing_lt, sing_eq, ty_r, ty_s, isS, cut_mid, decide_eq_true_eq, if_pos, if_neg]
              refine ⟨_, ?_, j + 1, same + 1, by omega, by omega, by omega, ?_, fun i a b => ?_, rfl, by simp, rfl⟩
              · omega
              · rw [show j + 1 - (same + 1) = j - same by omega]; exact Y
              · rw [show j + 1 - (same + 1) = j - same by omega] at a ⊢
                by_cases hij : i = j
                · subst hij
                  rw [show i - (i - same) = same by omega]
                  omega
                · exact Q i a (by omega)
          · simp (disch := first | omega | (simp only [List.length_append, List.length_cons, List.length_nil, List.length_set, List.length_drop, List.length_take, List.length_map]; omega)) only [Int.toNat_natCast, mVar_z, Nat.reduceAdd, Nat.zero_add, Int.zero_add, Int.reduceAdd, Int.reduceSub, Int.reduceNeg, ap_Lst, ap_Tup, nil_app, cons_app, List.length_append, lst_last, mVar_s, ok_bnd, ok_stm, exc_bnd, ev_okE, exc_stm, ap_C, ap_Op, ap_Un, ap_B, ap_Chain, ap_asB, ap_And, ap_Or, ap_Not, ap_AndV, ap_OrV, ap_NotV, ap_If, ap_Nil, ap_Cons, ap_CB, ap_Meth, ap_Part, ap_NoPart, ap_Sl, ap_Yes, add_ii, add_ss, sub_ii, neg_i, mul_ii, fdiv_ii, mod_ii, eq_ii, ne_ii, eq_ss, ne_ss, lt_ii, le_ii, gt_ii, ge_ii, lt_ss, gt_ss, le_ss, ge_ss, len_s, len_t, abs_i, int_i, int_b, max_ii, min_ii, ix_s, ixL_0, ixL_1, ixL_2, ixL_3, ixL_n, ixL_i, ixL_st, setL_n, setL_i, List.length_map, List.length_set, ix_r, getL_r, ix_tL, withL_s, setL_0, setL_1, setL_2, set_r, app_r, lst_z, lst_s, iadd_ii, tuple_r, mul_ri, sl_s, sl_rol, sl_t, sl_r, cut_from, cut_to, ap_Seq, nx_seq, rt_seq, ct_seq, bk_seq, exc_seq, ap_Raise, ap_Skip, ap_Brk, ap_Cnt, ap_Drop, ap_Ret, ap_IfS, ap_Set, ap_Ts, ap_AsgT, tgT_t, tgTs_n, tgTs_c, ap_Aug, ap_SetI, ap_AugI, mFor_ap, ap_Rng1, ap_Rng2, rng1_ok, rng2_ok, ap_Iter, src_t, src_s, src_rL, ap_Comp, wipe_n, wipe_c, len_cons, len_nil, zip_cc, zip_nn, foldl_c, foldl_n, set_z, set_s, ite_t, ite_f, ite_T, ite_F, sing_lt, sing_eq, ty_r, ty_s, isS, cut_mid, decide_eq_true_eq, if_pos, if_neg]
            exact ⟨j, same, h1, h2, h3, Y, Q, .inr (by omega), rfl⟩
        · simp (disch := first | omega | (simp only [List.length_append, List.length_cons, List.length_nil, List.length_set, List.length_drop, List.length_take, List.length_map]; omega)) only [mVar_z, Nat.reduceAdd, Nat.zero_add, Int.zero_add, Int.reduceAdd, Int.reduceSub, Int.reduceNeg, ap_Lst, ap_Tup, nil_app, cons_app, List.length_append, lst_last, mVar_s, ok_bnd, ok_stm, exc_bnd, ev_okE, exc_stm, ap_C, ap_Op, ap_Un, ap_B, ap_Chain, ap_asB, ap_And, ap_Or, ap_Not, ap_AndV, ap_OrV, ap_NotV, ap_If, ap_Nil, ap_Cons, ap_CB, ap_Meth, ap_Part, ap_NoPart, ap_Sl, ap_Yes, add_ii, add_ss, sub_ii, neg_i, mul_ii, fdiv_ii, mod_ii, eq_ii, ne_ii, eq_ss, ne_ss, lt_ii, le_ii, gt_ii, ge_ii, lt_ss, gt_ss, le_ss, ge_ss, len_s, len_t, abs_i, int_i, int_b, max_ii, min_ii, ix_s, ixL_0, ixL_1, ixL_2, ixL_3, ixL_n, ixL_i, ixL_st, setL_n, setL_i, List.length_map, List.length_set, ix_r, getL_r, ix_tL, withL_s, setL_0, setL_1, setL_2, set_r, app_r, lst_z, lst_s, iadd_ii, tuple_r, mul_ri, sl_s, sl_rol, sl_t, sl_r, cut_from, cut_to, ap_Seq, nx_seq, rt_seq, ct_seq, bk_seq, exc_seq, ap_Raise, ap_Skip, ap_Brk, ap_Cnt, ap_Drop, ap_Ret, ap_IfS, ap_Set, ap_Ts, ap_AsgT, tgT_t, tgTs_n, tgTs_c, ap_Aug, ap_SetI, ap_AugI, mFor_ap, ap_Rng1, ap_Rng2, rng1_ok, rng2_ok, ap_Iter, src_t, src_s, src_rL, ap_Comp, wipe_n, wipe_c, len_cons, len_nil, zip_cc, zip_nn, foldl_c, foldl_n, set_z, set_s, ite_t, ite_f, ite_T, ite_F, sing_lt, sing_eq, ty_r, ty_s, isS, cut_mid, decide_eq_true_eq, if_pos, if_neg]
          exact ⟨j, same, h1, h2, h3, Y, Q, .inl (by omega), rfl⟩
      · rintro o ⟨j, same, h1, h2, h3, Y, Q, hx, rfl⟩
        simp (disch := first | omega | (simp only [List.length_append, List.length_cons, List.length_nil, List.length_set, List.length_drop, List.length_take, List.length_map]; omega)) only [mVar_z, Nat.reduceAdd, Nat.zero_add, Int.zero_add, Int.reduceAdd, Int.reduceSub, Int.reduceNeg, ap_Lst, ap_Tup, nil_app, cons_app, List.length_append, lst_last, mVar_s, ok_bnd, ok_stm, exc_bnd, ev_okE, exc_stm, ap_C, ap_Op, ap_Un, ap_B, ap_Chain, ap_asB, ap_And, ap_Or, ap_Not, ap_AndV, ap_OrV, ap_NotV, ap_If, ap_Nil, ap_Cons, ap_CB, ap_Meth, ap_Part, ap_NoPart, ap_Sl, ap_Yes, add_ii, add_ss, sub_ii, neg_i, mul_ii, fdiv_ii, mod_ii, eq_ii, ne_ii, eq_ss, ne_ss, lt_ii, le_ii, gt_ii, ge_ii, lt_ss, gt_ss, le_ss, ge_ss, len_s, len_t, abs_i, int_i, int_b, max_ii, min_ii, ix_s, ixL_0, ixL_1, ixL_2, ixL_3, ixL_n, ixL_i, ixL_st, setL_n, setL_i, List.length_map, List.length_set, ix_r, getL_r, ix_tL, withL_s, setL_0, setL_1, setL_2, set_r, app_r, lst_z, lst_s, iadd_ii, tuple_r, mul_ri, sl_s, sl_rol, sl_t, sl_r, cut_from, cut_to, ap_Seq, nx_seq, rt_seq, ct_seq, bk_seq, exc_seq, ap_Raise, ap_Skip, ap_Brk, ap_Cnt, ap_Drop, ap_Ret, ap_IfS, ap_Set, ap_Ts, ap_AsgT, tgT_t, tgTs_n, tgTs_c, ap_Aug, ap_SetI, ap_AugI, mFor_ap, ap_Rng1, ap_Rng2, rng1_ok, rng2_ok, ap_Iter, src_t, src_s, src_rL, ap_Comp, wipe_n, wipe_c, len_cons, len_nil, zip_cc, zip_nn, foldl_c, foldl_n, set_z, set_s, ite_t, ite_f, ite_T, ite_F, sing_lt, sing_eq, ty_r, ty_s, isS, cut_mid, decide_eq_true_eq, if_pos, if_neg]
        refine mWhile_sv (j - k) (fun m e h => ∃ (qs : List (List Nat)) (K : Nat), k ≤ K ∧ K ≤ j ∧ Parts s K qs ∧ (∀ x, K + x < j → s.getD (K + x) 0 = s.getD (k + x) 0) ∧ (∀ w, qs.getLast? = some w → (K = k ∧ NI s w k) ∨ (k < K ∧ w = wd s k (j - same))) ∧ (k < K → k + (j - same) ≤ K ∧ ∀ x, K + x < j + (j - same) → s.getD (K - (j - same) + x) 0 = s.getD (k + x) 0) ∧ m = j - K ∧ e = [some (.str s), some (.ref 0), some (.int K), some (.int j), some (.int same)] ∧ h = [O.lst (qs.map .str)]) (by omega)
          ⟨ps, k, by omega, by omega, P, fun x hx => rfl, fun w hw => .inl ⟨rfl, N w hw⟩, fun h => by omega, rfl, rfl, rfl⟩ ?_
        rintro m e h ⟨qs, K, k1, k2, P2, A, N2, A2, rfl, rfl, rfl⟩
        have hpl2 := P2.len
        by_cases hK : K ≤ same
        · simp (disch := first | omega | (simp only [List.length_append, List.length_cons, List.length_nil, List.length_set, List.length_drop, List.length_take, List.length_map]; omega)) only [mVar_z, Nat.reduceAdd, Nat.zero_add, Int.zero_add, Int.reduceAdd, Int.reduceSub, Int.reduceNeg, ap_Lst, ap_Tup, nil_app, cons_app, List.length_append, lst_last, mVar_s, ok_bnd, ok_stm, exc_bnd, ev_okE, exc_stm, ap_C, ap_Op, ap_Un, ap_B, ap_Chain, ap_asB, ap_And, ap_Or, ap_Not, ap_AndV, ap_OrV, ap_NotV, ap_If, ap_Nil, ap_Cons, ap_CB, ap_Meth, ap_Part, ap_NoPart, ap_Sl, ap_Yes, add_ii, add_ss, sub_ii, neg_i, mul_ii, fdiv_ii, mod_ii, eq_ii, ne_ii, eq_ss, ne_ss, lt_ii, le_ii, gt_ii, ge_ii, lt_ss, gt_ss, le_ss, ge_ss, len_s, len_t, abs_i, int_i, int_b, max_ii, min_ii, ix_s, ixL_0, ixL_1, ixL_2, ixL_3, ixL_n, ixL_i, ixL_st, setL_n, setL_i, List.length_map, List.length_set, ix_r, getL_r, ix_tL, withL_s, setL_0, setL_1, setL_2, set_r, app_r, lst_z, lst_s, iadd_ii, tuple_r, mul_ri, sl_s, sl_rol, sl_t, sl_r, cut_from, cut_to, ap_Seq, nx_seq, rt_seq, ct_seq, bk_seq, exc_seq, ap_Raise, ap_Skip, ap_Brk, ap_Cnt, ap_Drop, ap_Ret, ap_IfS, ap_Set, ap_Ts, ap_AsgT, tgT_t, tgTs_n, tgTs_c, ap_Aug, ap_SetI, ap_AugI, mFor_ap, ap_Rng1, ap_Rng2, rng1_ok, rng2_ok, ap_Iter, src_t, src_s, src_rL, ap_Comp, wipe_n, wipe_c, len_cons, len_nil, zip_cc, zip_nn, foldl_c, foldl_n, set_z, set_s, ite_t, ite_f, ite_T, ite_F, sing_lt, sing_eq, ty_r, ty_s, isS, cut_mid, decide_eq_true_eq, if_pos, if_neg]
          have hw : wd s K (j - same) = wd s k (j - same) := by
            apply List.ext_getElem
            · rw [wd_len (by omega), wd_len (by omega)]
            · intro t a b
              have ht : t < j - same := by rw [wd_len (by omega)] at a; exact a
              have e1 := wd_get (s := s) (k := K) ht
              have e2 := wd_get (s := s) (k := k) ht
              rw [List.getD_eq_getElem?_getD, List.getElem?_eq_getElem a] at e1
              rw [List.getD_eq_getElem?_getD, List.getElem?_eq_getElem b] at e2
              simp only [Option.getD_some] at e1 e2
              rw [e1, e2]
              exact A t (by omega)
          have hc : List.take ((K : Int) + j - same - K).toNat (List.drop (K : Int).toNat s) = wd s K (j - same) := by
            unfold wd
            rw [Int.toNat_natCast, show ((K : Int) + j - same - K).toNat = j - same by omega]
          rw [hc]
          have hP := parts_add (L := j - same) P2 (by omega) (by omega) (by rw [hw]; exact lyn_good (by omega) (by omega) Y) (fun w hwl => by
            rcases N2 w hwl with ⟨a, b⟩ | ⟨a, b⟩
            · rw [hw]; exact b _
            · rw [hw, b]; exact List.lt_irrefl _)
          refine ⟨j - (K + (j - same)), by omega, qs ++ [wd s K (j - same)], K + (j - same), by omega, by omega, hP, fun x hx => ?_, fun w hwl => .inr ⟨by omega, ?_⟩, fun _ => ⟨by omega, fun x hx => by rw [show K + (j - same) - (j - same) + x = K + x by omega]; exact A x (by omega)⟩, rfl, ?_, ?_⟩
          · have q1 := Q (K + (j - same) + x) (by omega) hx
            rw [q1, show K + (j - same) + x - (j - same) = K + x by omega]
            exact A x (by omega)
          · rw [List.getLast?_append] at hwl
            simp at hwl
            rw [← hwl, hw]
          · have : (K : Int) + (j - same) = ((K + (j - same) : Nat) : Int) := by omega
            rw [this]
          · rw [List.map_append]; rfl
        · simp (disch := first | omega | (simp only [List.length_append, List.length_cons, List.length_nil, List.length_set, List.length_drop, List.length_take, List.length_map]; omega)) only [mVar_z, Nat.reduceAdd, Nat.zero_add, Int.zero_add, Int.reduceAdd, Int.reduceSub, Int.reduceNeg, ap_Lst, ap_Tup, nil_app, cons_app, List.length_append, lst_last, mVar_s, ok_bnd, ok_stm, exc_bnd, ev_okE, exc_stm, ap_C, ap_Op, ap_Un, ap_B, ap_Chain, ap_asB, ap_And, ap_Or, ap_Not, ap_AndV, ap_OrV, ap_NotV, ap_If, ap_Nil, ap_Cons, ap_CB, ap_Meth, ap_Part, ap_NoPart, ap_Sl, ap_Yes, add_ii, add_ss, sub_ii, neg_i, mul_ii, fdiv_ii, mod_ii, eq_ii, ne_ii, eq_ss, ne_ss, lt_ii, le_ii, gt_ii, ge_ii, lt_ss, gt_ss, le_ss, ge_ss, len_s, len_t, abs_i, int_i, int_b, max_ii, min_ii, ix_s, ixL_0, ixL_1, ixL_2, ixL_3, ixL_n, ixL_i, ixL_st, setL_n, setL_i, List.length_map, List.length_set, ix_r, getL_r, ix_tL, withL_s, setL_0, setL_1, setL_2, set_r, app_r, lst_z, lst_s, iadd_ii, tuple_r, mul_ri, sl_s, sl_rol, sl_t, sl_r, cut_from, cut_to, ap_Seq, nx_seq, rt_seq, ct_seq, bk_seq, exc_seq, ap_Raise, ap_Skip, ap_Brk, ap_Cnt, ap_Drop, ap_Ret, ap_IfS, ap_Set, ap_Ts, ap_AsgT, tgT_t, tgTs_n, tgTs_c, ap_Aug, ap_SetI, ap_AugI, mFor_ap, ap_Rng1, ap_Rng2, rng1_ok, rng2_ok, ap_Iter, src_t, src_s, src_rL, ap_Comp, wipe_n, wipe_c, len_cons, len_nil, zip_cc, zip_nn, foldl_c, foldl_n, set_z, set_s, ite_t, ite_f, ite_T, ite_F, sing_lt, sing_eq, ty_r, ty_s, isS, cut_mid, decide_eq_true_eq, if_pos, if_neg]
          refine ⟨s.length - K, by omega, qs, K, _, _, by omega, P2, fun w hw => ?_, rfl, rfl, rfl⟩
          rcases N2 w hw with ⟨a, b⟩ | ⟨a, b⟩
          · omega
          · rw [b]
            refine ni_end (j := j) (by omega) (by omega) (by omega) (by omega) (by omega) A ?_
            rcases hx with hx | hx
            · exact .inl hx
            · refine .inr ?_
              have hjk : s.getD same 0 = s.getD (k + (j - K)) 0 := by
                obtain ⟨a1, a2⟩ := A2 (by omega)
                have := a2 (j - K) (by omega)
                rw [show K - (j - same) + (j - K) = same by omega] at this
                exact this
              rw [← hjk]
              exact hx
    · have e : k = s.length := by omega
      subst e
      simp (disch := first | omega | (simp only [List.length_append, List.length_cons, List.length_nil, List.length_set, List.length_drop, List.length_take, List.length_map]; omega)) only [mVar_z, Nat.reduceAdd, Nat.zero_add, Int.zero_add, Int.reduceAdd, Int.reduceSub, Int.reduceNeg, ap_Lst, ap_Tup, nil_app, cons_app, List.length_append, lst_last, mVar_s, ok_bnd, ok_stm, exc_bnd, ev_okE, exc_stm, ap_C, ap_Op, ap_Un, ap_B, ap_Chain, ap_asB, ap_And, ap_Or, ap_Not, ap_AndV, ap_OrV, ap_NotV, ap_If, ap_Nil, ap_Cons, ap_CB, ap_Meth, ap_Part, ap_NoPart, ap_Sl, ap_Yes, add_ii, add_ss, sub_ii, neg_i, mul_ii, fdiv_ii, mod_ii, eq_ii, ne_ii, eq_ss, ne_ss, lt_ii, le_ii, gt_ii, ge_ii, lt_ss, gt_ss, le_ss, ge_ss, len_s, len_t, abs_i, int_i, int_b, max_ii, min_ii, ix_s, ixL_0, ixL_1, ixL_2, ixL_3, ixL_n, ixL_i, ixL_st, setL_n, setL_i, List.length_map, List.length_set, ix_r, getL_r, ix_tL, withL_s, setL_0, setL_1, setL_2, set_r, app_r, lst_z, lst_s, iadd_ii, tuple_r, mul_ri, sl_s, sl_rol, sl_t, sl_r, cut_from, cut_to, ap_Seq, nx_seq, rt_seq, ct_seq, bk_seq, exc_seq, ap_Raise, ap_Skip, ap_Brk, ap_Cnt, ap_Drop, ap_Ret, ap_IfS, ap_Set, ap_Ts, ap_AsgT, tgT_t, tgTs_n, tgTs_c, ap_Aug, ap_SetI, ap_AugI, mFor_ap, ap_Rng1, ap_Rng2, rng1_ok, rng2_ok, ap_Iter, src_t, src_s, src_rL, ap_Comp, wipe_n, wipe_c, len_cons, len_nil, zip_cc, zip_nn, foldl_c, foldl_n, set_z, set_s, ite_t, ite_f, ite_T, ite_F, sing_lt, sing_eq, ty_r, ty_s, isS, cut_mid, decide_eq_true_eq, if_pos, if_neg]
      exact ⟨ps, _, _, _, P, rfl⟩
  · rintro o ⟨ps, z, y, x, P, rfl⟩
    simp (disch := first | omega | (simp only [List.length_append, List.length_cons, List.length_nil, List.length_set, List.length_drop, List.length_take, List.length_map]; omega)) only [mVar_z, Nat.reduceAdd, Nat.zero_add, Int.zero_add, Int.reduceAdd, Int.reduceSub, Int.reduceNeg, ap_Lst, ap_Tup, nil_app, cons_app, List.length_append, lst_last, mVar_s, ok_bnd, ok_stm, exc_bnd, ev_okE, exc_stm, ap_C, ap_Op, ap_Un, ap_B, ap_Chain, ap_asB, ap_And, ap_Or, ap_Not, ap_AndV, ap_OrV, ap_NotV, ap_If, ap_Nil, ap_Cons, ap_CB, ap_Meth, ap_Part, ap_NoPart, ap_Sl, ap_Yes, add_ii, add_ss, sub_ii, neg_i, mul_ii, fdiv_ii, mod_ii, eq_ii, ne_ii, eq_ss, ne_ss, lt_ii, le_ii, gt_ii, ge_ii, lt_ss, gt_ss, le_ss, ge_ss, len_s, len_t, abs_i, int_i, int_b, max_ii, min_ii, ix_s, ixL_0, ixL_1, ixL_2, ixL_3, ixL_n, ixL_i, ixL_st, setL_n, setL_i, List.length_map, List.length_set, ix_r, getL_r, ix_tL, withL_s, setL_0, setL_1, setL_2, set_r, app_r, lst_z, lst_s, iadd_ii, tuple_r, mul_ri, sl_s, sl_rol, sl_t, sl_r, cut_from, cut_to, ap_Seq, nx_seq, rt_seq, ct_seq, bk_seq, exc_seq, ap_Raise, ap_Skip, ap_Brk, ap_Cnt, ap_Drop, ap_Ret, ap_IfS, ap_Set, ap_Ts, ap_AsgT, tgT_t, tgTs_n, tgTs_c, ap_Aug, ap_SetI, ap_AugI, mFor_ap, ap_Rng1, ap_Rng2, rng1_ok, rng2_ok, ap_Iter, src_t, src_s, src_rL, ap_Comp, wipe_n, wipe_c, len_cons, len_nil, zip_cc, zip_nn, foldl_c, foldl_n, set_z, set_s, ite_t, ite_f, ite_T, ite_F, sing_lt, sing_eq, ty_r, ty_s, isS, cut_mid, decide_eq_true_eq, if_pos, if_neg]
    exact ⟨by unfold pureW; exact pure_strs ps, ps, rfl, P⟩
end Law_indexhall_k22_words_turned_and_cut
set_option maxRecDepth 100000
namespace Law_indexhall_k22_words_turned_and_cut
open PySem L2 Den
theorem rounds_eq {ws : List W} {h : List O} : den_law_rounds ws h = mFun 4 bodyRounds ws h := rfl
theorem roll_eq {ws : List W} {h : List O} : den_law_roll ws h = mFun 3 bodyRoll ws h := rfl
theorem owb_all (t : List Nat) (ht : t.length ≤ 1000) : ∃ w, (∃ rs : List Nat, w = .tup (rs.map nI) ∧ rs.length = t.length ∧ ∀ k, k < t.length → isR t k (rs.getD k 0)) ∧ ∀ h, pureRun den_own_ways_back 1 [.str t] h = .ok w h := pure_all rfl rfl (owb_ev t ht)
theorem lt_all (t : List Nat) (ht : t.length ≤ 1000) (h0 : t ≠ []) : ∃ w, (∃ r : Nat, w = .int r ∧ r < t.length ∧ ¬ Beaten t r) ∧ ∀ h, pureRun den_least_turn 1 [.str t] h = .ok w h := pure_all rfl rfl (lt_ev t ht h0)
theorem fw_all (t : List Nat) (ht : t.length ≤ 1000) : ∃ w, (∃ ps : List (List Nat), w = .tup (ps.map .str) ∧ Parts t t.length ps) ∧ ∀ h, pureRun den_falling_words 1 [.str t] h = .ok w h := pure_all rfl rfl (fw_ev t ht)
theorem lt_none (h : List O) : pureRun den_least_turn 1 [.str []] h = .exc 1 none h := by
  have e : den_least_turn [.str []] [] = .exc 1 none [] := by
    unfold den_least_turn mFun body_least_turn
    simp only [startE, List.map_cons, List.map_nil, List.length_cons, List.length_nil, List.cons_append, List.nil_append, Nat.zero_add, Nat.reduceAdd, Nat.reduceSub, List.replicate_succ, List.replicate_zero]
    simp (disch := first | omega | (simp only [List.length_append, List.length_cons, List.length_nil, List.length_set, List.length_drop, List.length_take, List.length_map]; omega)) only [mVar_z, Nat.reduceAdd, Nat.zero_add, Int.zero_add, Int.reduceAdd, Int.reduceSub, Int.reduceNeg, ap_Lst, ap_Tup, nil_app, cons_app, List.length_append, lst_last, mVar_s, ok_bnd, ok_stm, exc_bnd, ev_okE, exc_stm, ap_C, ap_Op, ap_Un, ap_B, ap_Chain, ap_asB, ap_And, ap_Or, ap_Not, ap_AndV, ap_OrV, ap_NotV, ap_If, ap_Nil, ap_Cons, ap_CB, ap_Meth, ap_Part, ap_NoPart, ap_Sl, ap_Yes, add_ii, add_ss, sub_ii, neg_i, mul_ii, fdiv_ii, mod_ii, eq_ii, ne_ii, eq_ss, ne_ss, lt_ii, le_ii, gt_ii, ge_ii, lt_ss, gt_ss, le_ss, ge_ss, len_s, len_t, abs_i, int_i, int_b, max_ii, min_ii, ix_s, ixL_0, ixL_1, ixL_2, ixL_3, ixL_n, ixL_i, ixL_st, setL_n, setL_i, List.length_map, List.length_set, ix_r, getL_r, ix_tL, withL_s, setL_0, setL_1, setL_2, set_r, app_r, lst_z, lst_s, iadd_ii, tuple_r, mul_ri, sl_s, sl_rol, sl_t, sl_r, cut_from, cut_to, ap_Seq, nx_seq, rt_seq, ct_seq, bk_seq, exc_seq, ap_Raise, ap_Skip, ap_Brk, ap_Cnt, ap_Drop, ap_Ret, ap_IfS, ap_Set, ap_Ts, ap_AsgT, tgT_t, tgTs_n, tgTs_c, ap_Aug, ap_SetI, ap_AugI, mFor_ap, ap_Rng1, ap_Rng2, rng1_ok, rng2_ok, ap_Iter, src_t, src_s, src_rL, ap_Comp, wipe_n, wipe_c, len_cons, len_nil, zip_cc, zip_nn, foldl_c, foldl_n, set_z, set_s, ite_t, ite_f, ite_T, ite_F, sing_lt, sing_eq, ty_r, ty_s, isS, cut_mid, decide_eq_true_eq, if_pos, if_neg]
  unfold pureRun
  rw [if_pos ⟨rfl, rfl⟩, e]
theorem eq_picks {h4 : List O} {D N : Nat} {lo : Int} {c : Nat → Bool} (hn : lstAt h4 D = some (picks N c (fun i => .int (lo + i)))) : oEq (.ref D) (.ref h4.length) (h4 ++ [.lst []]) = .ok (.bl (decide (∀ i, i < N → c i = false))) (h4 ++ [.lst []]) := by
  rw [picks_int] at hn
  rw [eq_ints (h := h4 ++ [O.lst []]) (n := D) (m := h4.length) (l := picksI N lo c) (l' := []) (by rw [lst_old (lst_lt hn)]; exact hn) (by rw [lst_last]; rfl)]
  have e : decide (picksI N lo c = []) = decide (∀ i, i < N → c i = false) := by
    rw [decide_eq_decide]
    exact picksI_nil
  rw [e]
theorem ne_picks {h4 : List O} {D N : Nat} {lo : Int} {c : Nat → Bool} (hn : lstAt h4 D = some (picks N c (fun i => .int (lo + i)))) (hc : ∀ i, i < N → c i = false) : oNe (.ref D) (.ref h4.length) (h4 ++ [.lst []]) = .ok (.bl false) (h4 ++ [.lst []]) := by
  rw [picks_int] at hn
  rw [ne_ints (h := h4 ++ [O.lst []]) (n := D) (m := h4.length) (l := picksI N lo c) (l' := []) (by rw [lst_old (lst_lt hn)]; exact hn) (by rw [lst_last]; rfl), picksI_nil.2 hc]
  rfl
/-- what the law asks of one text -/
def St (sw q : Option W) (t : List Nat) (h0 : List O) (o : SOut) : Prop := ∃ a4 a5 a6 a7 a8 a9 a10 h, o = SOut.nx [sw, q, some (.str t), some (.int t.length), a4, a5, a6, a7, a8, a9, a10] h ∧ Gr h0 h
theorem st_mk {sw q : Option W} {t : List Nat} {h0 h : List O} {a4 a5 a6 a7 a8 a9 a10 : Option W} (g : Gr h0 h) : St sw q t h0 (SOut.nx [sw, q, some (.str t), some (.int t.length), a4, a5, a6, a7, a8, a9, a10] h) := ⟨_, _, _, _, _, _, _, _, rfl, g⟩
def St5 (sw q : Option W) (t : List Nat) (fs : List (List Nat)) (h0 : List O) (o : SOut) : Prop := ∃ a4 a6 a7 a8 a9 a10 h, o = SOut.nx [sw, q, some (.str t), some (.int t.length), a4, some (.tup (fs.map .str)), a6, a7, a8, a9, a10] h ∧ Gr h0 h
theorem st5_mk {sw q : Option W} {t : List Nat} {fs : List (List Nat)} {h0 h : List O} {a4 a6 a7 a8 a9 a10 : Option W} (g : Gr h0 h) : St5 sw q t fs h0 (SOut.nx [sw, q, some (.str t), some (.int t.length), a4, some (.tup (fs.map .str)), a6, a7, a8, a9, a10] h) := ⟨_, _, _, _, _, _, _, rfl, g⟩
noncomputable instance palDec {s : List Nat} {k r : Nat} : Decidable (pal s k r) := Classical.propDecidable _
theorem main2 (ns : List Int) (hl : ns.length ≤ 63) (hb : ∀ z ∈ ns, Builtin.Int.intBits z ≤ 1048576) : ∃ h', den_law [scriptW ns] [] = .ok (.bl true) h' := by
  suffices hS : Ev (den_law [scriptW ns] []) fun w _ => w = .bl true by
    obtain ⟨w, h', e, rfl⟩ := ev_get hS
    exact ⟨h', e⟩
  refine fun_ev ?_
  unfold body_law
  simp only [startE, List.map_cons, List.map_nil, List.length_cons, List.length_nil, List.cons_append, List.nil_append, Nat.zero_add, Nat.reduceAdd, Nat.reduceSub, List.replicate_succ, List.replicate_zero]
  obtain ⟨w0, h0, e0, p, ps, rfl, hp, hne, hpl, hpp, D0⟩ := ev_get (rounds_Ev (most := 4) (by omega) hl (fun z hz => bits_AB (hb z hz)))
  rw [← rounds_eq] at e0
  simp (disch := first | omega | (simp only [List.length_append, List.length_cons, List.length_nil, List.length_set, List.length_drop, List.length_take, List.length_map]; omega)) only [e0, hpp, mVar_z, Nat.reduceAdd, Nat.zero_add, Int.zero_add, Int.reduceAdd, Int.reduceSub, Int.reduceNeg, ap_Lst, ap_Tup, nil_app, cons_app, List.length_append, lst_last, mVar_s, ok_bnd, ok_stm, exc_bnd, ev_okE, exc_stm, ap_C, ap_Op, ap_Un, ap_B, ap_Chain, ap_asB, ap_And, ap_Or, ap_Not, ap_AndV, ap_OrV, ap_NotV, ap_If, ap_Nil, ap_Cons, ap_CB, ap_Meth, ap_Part, ap_NoPart, ap_Sl, ap_Yes, add_ii, add_ss, sub_ii, neg_i, mul_ii, fdiv_ii, mod_ii, eq_ii, ne_ii, eq_ss, ne_ss, lt_ii, le_ii, gt_ii, ge_ii, lt_ss, gt_ss, le_ss, ge_ss, len_s, len_t, abs_i, int_i, int_b, max_ii, min_ii, ix_s, ixL_0, ixL_1, ixL_2, ixL_3, ixL_n, ixL_i, ixL_st, setL_n, setL_i, List.length_map, List.length_set, ix_r, getL_r, ix_tL, withL_s, setL_0, setL_1, setL_2, set_r, app_r, lst_z, lst_s, iadd_ii, tuple_r, mul_ri, sl_s, sl_rol, sl_t, sl_r, cut_from, cut_to, ap_Seq, nx_seq, rt_seq, ct_seq, bk_seq, exc_seq, ap_Raise, ap_Skip, ap_Brk, ap_Cnt, ap_Drop, ap_Ret, ap_IfS, ap_Set, ap_Ts, ap_AsgT, tgT_t, tgTs_n, tgTs_c, ap_Aug, ap_SetI, ap_AugI, mFor_ap, ap_Rng1, ap_Rng2, rng1_ok, rng2_ok, ap_Iter, src_t, src_s, src_rL, ap_Comp, wipe_n, wipe_c, len_cons, len_nil, zip_cc, zip_nn, foldl_c, foldl_n, set_z, set_s, ite_t, ite_f, ite_T, ite_F, sing_lt, sing_eq, ty_r, ty_s, isS, cut_mid, decide_eq_true_eq, if_pos, if_neg]
  refine sv_cut (R' := fun o => ∃ e h, o = SOut.nx e h) ?_ ?_
  · refine forGo_ref p (ps.map .ref) 1 (fun i e h => (∃ a1 a2 a3 a4 a5 a6 a7 a8 a9 a10, e = [some (scriptW ns), a1, a2, a3, a4, a5, a6, a7, a8, a9, a10]) ∧ Fr ps h0 h ∧ DH (i * 100) h ps) (by simp; omega) ⟨⟨_, _, _, _, _, _, _, _, _, _, rfl⟩, Fr.refl, by rw [Nat.zero_mul]; exact D0⟩ (fun i e h I => I.2.1.lst hp hpp) ?_ (fun e h I => ⟨e, h, rfl⟩)
    rintro i e h hi ⟨⟨a1, a2, a3, a4, a5, a6, a7, a8, a9, a10, rfl⟩, F, D⟩
    have hil : i < ps.length := by simpa using hi
    have hq : ps[i] ∈ ps := List.getElem_mem hil
    rw [List.getElem_map]
    generalize ps[i] = q at hq
    obtain ⟨w1, h1, e1, r, rfl, r0, r1, D1, F1⟩ := ev_get (roll_Ev (many := 13) D hq (by omega) (by omega) (by omega))
    rw [← roll_eq] at e1
    simp (disch := first | omega | (simp only [List.length_append, List.length_cons, List.length_nil, List.length_set, List.length_drop, List.length_take, List.length_map]; omega)) only [e1, mVar_z, Nat.reduceAdd, Nat.zero_add, Int.zero_add, Int.reduceAdd, Int.reduceSub, Int.reduceNeg, ap_Lst, ap_Tup, nil_app, cons_app, List.length_append, lst_last, mVar_s, ok_bnd, ok_stm, exc_bnd, ev_okE, exc_stm, ap_C, ap_Op, ap_Un, ap_B, ap_Chain, ap_asB, ap_And, ap_Or, ap_Not, ap_AndV, ap_OrV, ap_NotV, ap_If, ap_Nil, ap_Cons, ap_CB, ap_Meth, ap_Part, ap_NoPart, ap_Sl, ap_Yes, add_ii, add_ss, sub_ii, neg_i, mul_ii, fdiv_ii, mod_ii, eq_ii, ne_ii, eq_ss, ne_ss, lt_ii, le_ii, gt_ii, ge_ii, lt_ss, gt_ss, le_ss, ge_ss, len_s, len_t, abs_i, int_i, int_b, max_ii, min_ii, ix_s, ixL_0, ixL_1, ixL_2, ixL_3, ixL_n, ixL_i, ixL_st, setL_n, setL_i, List.length_map, List.length_set, ix_r, getL_r, ix_tL, withL_s, setL_0, setL_1, setL_2, set_r, app_r, lst_z, lst_s, iadd_ii, tuple_r, mul_ri, sl_s, sl_rol, sl_t, sl_r, cut_from, cut_to, ap_Seq, nx_seq, rt_seq, ct_seq, bk_seq, exc_seq, ap_Raise, ap_Skip, ap_Brk, ap_Cnt, ap_Drop, ap_Ret, ap_IfS, ap_Set, ap_Ts, ap_AsgT, tgT_t, tgTs_n, tgTs_c, ap_Aug, ap_SetI, ap_AugI, mFor_ap, ap_Rng1, ap_Rng2, rng1_ok, rng2_ok, ap_Iter, src_t, src_s, src_rL, ap_Comp, wipe_n, wipe_c, len_cons, len_nil, zip_cc, zip_nn, foldl_c, foldl_n, set_z, set_s, ite_t, ite_f, ite_T, ite_F, sing_lt, sing_eq, ty_r, ty_s, isS, cut_mid, decide_eq_true_eq, if_pos, if_neg]
    repeat (first | with_reducible apply sv_seq | with_reducible apply sv_stm | with_reducible apply ev_bnd)
    refine comp_dice_rng (K0 := 1) (by omega) (by omega) (fun i w => ∃ c : Nat, w = .str [c] ∧ (c = 97 ∨ c = 98)) D1 (fun k hk h' F' D' => ?_) (fun h' acc hacc hlen hP F' D' => ?_)
    · obtain ⟨w2, h2, e2, x, rfl, x0, x1, D2, F2⟩ := ev_get (roll_Ev (many := 2) D' hq (by omega) (by omega) (by omega))
      rw [← roll_eq] at e2
      simp (disch := first | omega | (simp only [List.length_append, List.length_cons, List.length_nil, List.length_set, List.length_drop, List.length_take, List.length_map]; omega)) only [e2, mVar_z, Nat.reduceAdd, Nat.zero_add, Int.zero_add, Int.reduceAdd, Int.reduceSub, Int.reduceNeg, ap_Lst, ap_Tup, nil_app, cons_app, List.length_append, lst_last, mVar_s, ok_bnd, ok_stm, exc_bnd, ev_okE, exc_stm, ap_C, ap_Op, ap_Un, ap_B, ap_Chain, ap_asB, ap_And, ap_Or, ap_Not, ap_AndV, ap_OrV, ap_NotV, ap_If, ap_Nil, ap_Cons, ap_CB, ap_Meth, ap_Part, ap_NoPart, ap_Sl, ap_Yes, add_ii, add_ss, sub_ii, neg_i, mul_ii, fdiv_ii, mod_ii, eq_ii, ne_ii, eq_ss, ne_ss, lt_ii, le_ii, gt_ii, ge_ii, lt_ss, gt_ss, le_ss, ge_ss, len_s, len_t, abs_i, int_i, int_b, max_ii, min_ii, ix_s, ixL_0, ixL_1, ixL_2, ixL_3, ixL_n, ixL_i, ixL_st, setL_n, setL_i, List.length_map, List.length_set, ix_r, getL_r, ix_tL, withL_s, setL_0, setL_1, setL_2, set_r, app_r, lst_z, lst_s, iadd_ii, tuple_r, mul_ri, sl_s, sl_rol, sl_t, sl_r, cut_from, cut_to, ap_Seq, nx_seq, rt_seq, ct_seq, bk_seq, exc_seq, ap_Raise, ap_Skip, ap_Brk, ap_Cnt, ap_Drop, ap_Ret, ap_IfS, ap_Set, ap_Ts, ap_AsgT, tgT_t, tgTs_n, tgTs_c, ap_Aug, ap_SetI, ap_AugI, mFor_ap, ap_Rng1, ap_Rng2, rng1_ok, rng2_ok, ap_Iter, src_t, src_s, src_rL, ap_Comp, wipe_n, wipe_c, len_cons, len_nil, zip_cc, zip_nn, foldl_c, foldl_n, set_z, set_s, ite_t, ite_f, ite_T, ite_F, sing_lt, sing_eq, ty_r, ty_s, isS, cut_mid, decide_eq_true_eq, if_pos, if_neg]
      have hx : [97, 98].getD x.toNat 0 = 97 ∨ [97, 98].getD x.toNat 0 = 98 := by
        have : x = 0 ∨ x = 1 := by omega
        rcases this with rfl | rfl
        · exact .inl rfl
        · exact .inr rfl
      exact ⟨⟨_, rfl, hx⟩, F2, D2.mono (by omega)⟩
    · obtain ⟨t, rfl, hcs⟩ := list_ex acc hP
      have hj : oJoin (.str []) [.ref h1.length] h' = .ok (.str t) h' := by
        have := join_r (l := t.map fun c => [c]) (h := h') (n := h1.length) (by rw [hacc, List.map_map]; rfl) (by rw [flat_one]; simp at hlen; omega)
        rw [flat_one] at this
        exact this
      have htl : t.length ≤ 13 := by simp at hlen; omega
      simp (disch := first | omega | (simp only [List.length_append, List.length_cons, List.length_nil, List.length_set, List.length_drop, List.length_take, List.length_map]; omega)) only [hj, sv_nx, sv_rt, sv_ct, rnd_nx, rnd_ct, Int.toNat_natCast, ne_eq, eq_self, not_true_eq_false, not_false_eq_true, mVar_z, Nat.reduceAdd, Nat.zero_add, Int.zero_add, Int.reduceAdd, Int.reduceSub, Int.reduceNeg, ap_Lst, ap_Tup, nil_app, cons_app, List.length_append, lst_last, mVar_s, ok_bnd, ok_stm, exc_bnd, ev_okE, exc_stm, ap_C, ap_Op, ap_Un, ap_B, ap_Chain, ap_asB, ap_And, ap_Or, ap_Not, ap_AndV, ap_OrV, ap_NotV, ap_If, ap_Nil, ap_Cons, ap_CB, ap_Meth, ap_Part, ap_NoPart, ap_Sl, ap_Yes, add_ii, add_ss, sub_ii, neg_i, mul_ii, fdiv_ii, mod_ii, eq_ii, ne_ii, eq_ss, ne_ss, lt_ii, le_ii, gt_ii, ge_ii, lt_ss, gt_ss, le_ss, ge_ss, len_s, len_t, abs_i, int_i, int_b, max_ii, min_ii, ix_s, ixL_0, ixL_1, ixL_2, ixL_3, ixL_n, ixL_i, ixL_st, setL_n, setL_i, List.length_map, List.length_set, ix_r, getL_r, ix_tL, withL_s, setL_0, setL_1, setL_2, set_r, app_r, lst_z, lst_s, iadd_ii, tuple_r, mul_ri, sl_s, sl_rol, sl_t, sl_r, cut_from, cut_to, ap_Seq, nx_seq, rt_seq, ct_seq, bk_seq, exc_seq, ap_Raise, ap_Skip, ap_Brk, ap_Cnt, ap_Drop, ap_Ret, ap_IfS, ap_Set, ap_Ts, ap_AsgT, tgT_t, tgTs_n, tgTs_c, ap_Aug, ap_SetI, ap_AugI, mFor_ap, ap_Rng1, ap_Rng2, rng1_ok, rng2_ok, ap_Iter, src_t, src_s, src_rL, ap_Comp, wipe_n, wipe_c, len_cons, len_nil, zip_cc, zip_nn, foldl_c, foldl_n, set_z, set_s, ite_t, ite_f, ite_T, ite_F, sing_lt, sing_eq, ty_r, ty_s, isS, cut_mid, decide_eq_true_eq, if_pos, if_neg]
      have F2 : Fr ps h0 h' := F.trans (F1.trans F')
      have D2 : DH ((i + 1) * 100) h' ps := D'.mono (by omega)
      clear hj hacc hlen hP D' F' e1 F1 D1 F D
      obtain ⟨wo, ⟨rs, rfl, hrl, hR⟩, ho⟩ := owb_all t (by omega)
      refine sv_cut (R' := St (some (scriptW ns)) (some (.ref q)) t h') ?_ ?_
      · refine forGo_rng t.length 0 4 (fun k e h => St (some (scriptW ns)) (some (.ref q)) t h' (.nx e h)) (by omega) (st_mk Gr.refl) ?_ (fun e h I => I)
        rintro k e h hk ⟨a4, a5, a6, a7, a8, a9, a10, h2, heq, G⟩
        cases heq
        obtain ⟨R1, R2⟩ := hR k hk
        simp (disch := first | omega | (simp only [List.length_append, List.length_cons, List.length_nil, List.length_set, List.length_drop, List.length_take, List.length_map]; omega)) only [sv_nx, sv_rt, sv_ct, rnd_nx, rnd_ct, Int.toNat_natCast, ne_eq, eq_self, not_true_eq_false, not_false_eq_true, mVar_z, Nat.reduceAdd, Nat.zero_add, Int.zero_add, Int.reduceAdd, Int.reduceSub, Int.reduceNeg, ap_Lst, ap_Tup, nil_app, cons_app, List.length_append, lst_last, mVar_s, ok_bnd, ok_stm, exc_bnd, ev_okE, exc_stm, ap_C, ap_Op, ap_Un, ap_B, ap_Chain, ap_asB, ap_And, ap_Or, ap_Not, ap_AndV, ap_OrV, ap_NotV, ap_If, ap_Nil, ap_Cons, ap_CB, ap_Meth, ap_Part, ap_NoPart, ap_Sl, ap_Yes, add_ii, add_ss, sub_ii, neg_i, mul_ii, fdiv_ii, mod_ii, eq_ii, ne_ii, eq_ss, ne_ss, lt_ii, le_ii, gt_ii, ge_ii, lt_ss, gt_ss, le_ss, ge_ss, len_s, len_t, abs_i, int_i, int_b, max_ii, min_ii, ix_s, ixL_0, ixL_1, ixL_2, ixL_3, ixL_n, ixL_i, ixL_st, setL_n, setL_i, List.length_map, List.length_set, ix_r, getL_r, ix_tL, withL_s, setL_0, setL_1, setL_2, set_r, app_r, lst_z, lst_s, iadd_ii, tuple_r, mul_ri, sl_s, sl_rol, sl_t, sl_r, cut_from, cut_to, ap_Seq, nx_seq, rt_seq, ct_seq, bk_seq, exc_seq, ap_Raise, ap_Skip, ap_Brk, ap_Cnt, ap_Drop, ap_Ret, ap_IfS, ap_Set, ap_Ts, ap_AsgT, tgT_t, tgTs_n, tgTs_c, ap_Aug, ap_SetI, ap_AugI, mFor_ap, ap_Rng1, ap_Rng2, rng1_ok, rng2_ok, ap_Iter, src_t, src_s, src_rL, ap_Comp, wipe_n, wipe_c, len_cons, len_nil, zip_cc, zip_nn, foldl_c, foldl_n, set_z, set_s, ite_t, ite_f, ite_T, ite_F, sing_lt, sing_eq, ty_r, ty_s, isS, cut_mid, decide_eq_true_eq, if_pos, if_neg]
        repeat (first | with_reducible apply sv_seq | with_reducible apply sv_stm | with_reducible apply ev_bnd)
        have hN : ((if (t.length : Int) - 1 - k < k then (t.length : Int) - 1 - k else (k : Int)) + 1).toNat = min k (t.length - 1 - k) + 1 := by split <;> omega
        rw [hN]
        refine comp_rng (min k (t.length - 1 - k) + 1) 0 9 (by omega) (by omega) (fun j => decide (pal t k j)) (fun j => .int (0 + j)) (fun j hj h3 G3 => ?_) (fun j hj _ h3 G3 => ?_) (fun h3 G3 => ?_)
        · simp (disch := first | omega | (simp only [List.length_append, List.length_cons, List.length_nil, List.length_set, List.length_drop, List.length_take, List.length_map]; omega)) only [sv_nx, sv_rt, sv_ct, rnd_nx, rnd_ct, Int.toNat_natCast, ne_eq, eq_self, not_true_eq_false, not_false_eq_true, mVar_z, Nat.reduceAdd, Nat.zero_add, Int.zero_add, Int.reduceAdd, Int.reduceSub, Int.reduceNeg, ap_Lst, ap_Tup, nil_app, cons_app, List.length_append, lst_last, mVar_s, ok_bnd, ok_stm, exc_bnd, ev_okE, exc_stm, ap_C, ap_Op, ap_Un, ap_B, ap_Chain, ap_asB, ap_And, ap_Or, ap_Not, ap_AndV, ap_OrV, ap_NotV, ap_If, ap_Nil, ap_Cons, ap_CB, ap_Meth, ap_Part, ap_NoPart, ap_Sl, ap_Yes, add_ii, add_ss, sub_ii, neg_i, mul_ii, fdiv_ii, mod_ii, eq_ii, ne_ii, eq_ss, ne_ss, lt_ii, le_ii, gt_ii, ge_ii, lt_ss, gt_ss, le_ss, ge_ss, len_s, len_t, abs_i, int_i, int_b, max_ii, min_ii, ix_s, ixL_0, ixL_1, ixL_2, ixL_3, ixL_n, ixL_i, ixL_st, setL_n, setL_i, List.length_map, List.length_set, ix_r, getL_r, ix_tL, withL_s, setL_0, setL_1, setL_2, set_r, app_r, lst_z, lst_s, iadd_ii, tuple_r, mul_ri, sl_s, sl_rol, sl_t, sl_r, cut_from, cut_to, ap_Seq, nx_seq, rt_seq, ct_seq, bk_seq, exc_seq, ap_Raise, ap_Skip, ap_Brk, ap_Cnt, ap_Drop, ap_Ret, ap_IfS, ap_Set, ap_Ts, ap_AsgT, tgT_t, tgTs_n, tgTs_c, ap_Aug, ap_SetI, ap_AugI, mFor_ap, ap_Rng1, ap_Rng2, rng1_ok, rng2_ok, ap_Iter, src_t, src_s, src_rL, ap_Comp, wipe_n, wipe_c, len_cons, len_nil, zip_cc, zip_nn, foldl_c, foldl_n, set_z, set_s, ite_t, ite_f, ite_T, ite_F, sing_lt, sing_eq, ty_r, ty_s, isS, cut_mid, decide_eq_true_eq, if_pos, if_neg]
          repeat (first | with_reducible apply sv_seq | with_reducible apply sv_stm | with_reducible apply ev_bnd)
          refine comp_rng (j + 1) 0 10 (by omega) (by omega) (fun i => decide (t.getD (k - i) 0 ≠ t.getD (k + i) 0)) (fun i => .int (0 + i)) (fun i hi h4 G4 => ?_) (fun i hi _ h4 G4 => ?_) (fun h4 G4 => ?_)
          · simp (disch := first | omega | (simp only [List.length_append, List.length_cons, List.length_nil, List.length_set, List.length_drop, List.length_take, List.length_map]; omega)) only [sv_nx, sv_rt, sv_ct, rnd_nx, rnd_ct, Int.toNat_natCast, ne_eq, eq_self, not_true_eq_false, not_false_eq_true, mVar_z, Nat.reduceAdd, Nat.zero_add, Int.zero_add, Int.reduceAdd, Int.reduceSub, Int.reduceNeg, ap_Lst, ap_Tup, nil_app, cons_app, List.length_append, lst_last, mVar_s, ok_bnd, ok_stm, exc_bnd, ev_okE, exc_stm, ap_C, ap_Op, ap_Un, ap_B, ap_Chain, ap_asB, ap_And, ap_Or, ap_Not, ap_AndV, ap_OrV, ap_NotV, ap_If, ap_Nil, ap_Cons, ap_CB, ap_Meth, ap_Part, ap_NoPart, ap_Sl, ap_Yes, add_ii, add_ss, sub_ii, neg_i, mul_ii, fdiv_ii, mod_ii, eq_ii, ne_ii, eq_ss, ne_ss, lt_ii, le_ii, gt_ii, ge_ii, lt_ss, gt_ss, le_ss, ge_ss, len_s, len_t, abs_i, int_i, int_b, max_ii, min_ii, ix_s, ixL_0, ixL_1, ixL_2, ixL_3, ixL_n, ixL_i, ixL_st, setL_n, setL_i, List.length_map, List.length_set, ix_r, getL_r, ix_tL, withL_s, setL_0, setL_1, setL_2, set_r, app_r, lst_z, lst_s, iadd_ii, tuple_r, mul_ri, sl_s, sl_rol, sl_t, sl_r, cut_from, cut_to, ap_Seq, nx_seq, rt_seq, ct_seq, bk_seq, exc_seq, ap_Raise, ap_Skip, ap_Brk, ap_Cnt, ap_Drop, ap_Ret, ap_IfS, ap_Set, ap_Ts, ap_AsgT, tgT_t, tgTs_n, tgTs_c, ap_Aug, ap_SetI, ap_AugI, mFor_ap, ap_Rng1, ap_Rng2, rng1_ok, rng2_ok, ap_Iter, src_t, src_s, src_rL, ap_Comp, wipe_n, wipe_c, len_cons, len_nil, zip_cc, zip_nn, foldl_c, foldl_n, set_z, set_s, ite_t, ite_f, ite_T, ite_F, sing_lt, sing_eq, ty_r, ty_s, isS, cut_mid, decide_eq_true_eq, if_pos, if_neg]
            refine ⟨?_, Gr.refl⟩
            rw [show ((k : Int) - i).toNat = k - i by omega, show ((k : Int) + i).toNat = k + i by omega]
          · simp (disch := first | omega | (simp only [List.length_append, List.length_cons, List.length_nil, List.length_set, List.length_drop, List.length_take, List.length_map]; omega)) only [sv_nx, sv_rt, sv_ct, rnd_nx, rnd_ct, Int.toNat_natCast, ne_eq, eq_self, not_true_eq_false, not_false_eq_true, mVar_z, Nat.reduceAdd, Nat.zero_add, Int.zero_add, Int.reduceAdd, Int.reduceSub, Int.reduceNeg, ap_Lst, ap_Tup, nil_app, cons_app, List.length_append, lst_last, mVar_s, ok_bnd, ok_stm, exc_bnd, ev_okE, exc_stm, ap_C, ap_Op, ap_Un, ap_B, ap_Chain, ap_asB, ap_And, ap_Or, ap_Not, ap_AndV, ap_OrV, ap_NotV, ap_If, ap_Nil, ap_Cons, ap_CB, ap_Meth, ap_Part, ap_NoPart, ap_Sl, ap_Yes, add_ii, add_ss, sub_ii, neg_i, mul_ii, fdiv_ii, mod_ii, eq_ii, ne_ii, eq_ss, ne_ss, lt_ii, le_ii, gt_ii, ge_ii, lt_ss, gt_ss, le_ss, ge_ss, len_s, len_t, abs_i, int_i, int_b, max_ii, min_ii, ix_s, ixL_0, ixL_1, ixL_2, ixL_3, ixL_n, ixL_i, ixL_st, setL_n, setL_i, List.length_map, List.length_set, ix_r, getL_r, ix_tL, withL_s, setL_0, setL_1, setL_2, set_r, app_r, lst_z, lst_s, iadd_ii, tuple_r, mul_ri, sl_s, sl_rol, sl_t, sl_r, cut_from, cut_to, ap_Seq, nx_seq, rt_seq, ct_seq, bk_seq, exc_seq, ap_Raise, ap_Skip, ap_Brk, ap_Cnt, ap_Drop, ap_Ret, ap_IfS, ap_Set, ap_Ts, ap_AsgT, tgT_t, tgTs_n, tgTs_c, ap_Aug, ap_SetI, ap_AugI, mFor_ap, ap_Rng1, ap_Rng2, rng1_ok, rng2_ok, ap_Iter, src_t, src_s, src_rL, ap_Comp, wipe_n, wipe_c, len_cons, len_nil, zip_cc, zip_nn, foldl_c, foldl_n, set_z, set_s, ite_t, ite_f, ite_T, ite_F, sing_lt, sing_eq, ty_r, ty_s, isS, cut_mid, decide_eq_true_eq, if_pos, if_neg]
            exact ⟨by simp, Gr.refl⟩
          · have e5 := eq_picks G4.lastL
            simp (disch := first | omega | (simp only [List.length_append, List.length_cons, List.length_nil, List.length_set, List.length_drop, List.length_take, List.length_map]; omega)) only [e5, sv_nx, sv_rt, sv_ct, rnd_nx, rnd_ct, Int.toNat_natCast, ne_eq, eq_self, not_true_eq_false, not_false_eq_true, mVar_z, Nat.reduceAdd, Nat.zero_add, Int.zero_add, Int.reduceAdd, Int.reduceSub, Int.reduceNeg, ap_Lst, ap_Tup, nil_app, cons_app, List.length_append, lst_last, mVar_s, ok_bnd, ok_stm, exc_bnd, ev_okE, exc_stm, ap_C, ap_Op, ap_Un, ap_B, ap_Chain, ap_asB, ap_And, ap_Or, ap_Not, ap_AndV, ap_OrV, ap_NotV, ap_If, ap_Nil, ap_Cons, ap_CB, ap_Meth, ap_Part, ap_NoPart, ap_Sl, ap_Yes, add_ii, add_ss, sub_ii, neg_i, mul_ii, fdiv_ii, mod_ii, eq_ii, ne_ii, eq_ss, ne_ss, lt_ii, le_ii, gt_ii, ge_ii, lt_ss, gt_ss, le_ss, ge_ss, len_s, len_t, abs_i, int_i, int_b, max_ii, min_ii, ix_s, ixL_0, ixL_1, ixL_2, ixL_3, ixL_n, ixL_i, ixL_st, setL_n, setL_i, List.length_map, List.length_set, ix_r, getL_r, ix_tL, withL_s, setL_0, setL_1, setL_2, set_r, app_r, lst_z, lst_s, iadd_ii, tuple_r, mul_ri, sl_s, sl_rol, sl_t, sl_r, cut_from, cut_to, ap_Seq, nx_seq, rt_seq, ct_seq, bk_seq, exc_seq, ap_Raise, ap_Skip, ap_Brk, ap_Cnt, ap_Drop, ap_Ret, ap_IfS, ap_Set, ap_Ts, ap_AsgT, tgT_t, tgTs_n, tgTs_c, ap_Aug, ap_SetI, ap_AugI, mFor_ap, ap_Rng1, ap_Rng2, rng1_ok, rng2_ok, ap_Iter, src_t, src_s, src_rL, ap_Comp, wipe_n, wipe_c, len_cons, len_nil, zip_cc, zip_nn, foldl_c, foldl_n, set_z, set_s, ite_t, ite_f, ite_T, ite_F, sing_lt, sing_eq, ty_r, ty_s, isS, cut_mid, decide_eq_true_eq, if_pos, if_neg]
            refine ⟨?_, (Gr.app.trans G4).trans Gr.app⟩
            by_cases hpj : pal t k j
            · rw [decide_eq_true hpj]
              refine decide_eq_true fun i hi => ?_
              exact decide_eq_false fun hne => hne (hpj.2.2 i (by omega))
            · rw [decide_eq_false hpj]
              refine decide_eq_false fun hall => hpj ⟨by omega, by omega, fun i hi => ?_⟩
              exact Classical.byContradiction fun hne => of_decide_eq_false (hall i (by omega)) hne
        · simp (disch := first | omega | (simp only [List.length_append, List.length_cons, List.length_nil, List.length_set, List.length_drop, List.length_take, List.length_map]; omega)) only [sv_nx, sv_rt, sv_ct, rnd_nx, rnd_ct, Int.toNat_natCast, ne_eq, eq_self, not_true_eq_false, not_false_eq_true, mVar_z, Nat.reduceAdd, Nat.zero_add, Int.zero_add, Int.reduceAdd, Int.reduceSub, Int.reduceNeg, ap_Lst, ap_Tup, nil_app, cons_app, List.length_append, lst_last, mVar_s, ok_bnd, ok_stm, exc_bnd, ev_okE, exc_stm, ap_C, ap_Op, ap_Un, ap_B, ap_Chain, ap_asB, ap_And, ap_Or, ap_Not, ap_AndV, ap_OrV, ap_NotV, ap_If, ap_Nil, ap_Cons, ap_CB, ap_Meth, ap_Part, ap_NoPart, ap_Sl, ap_Yes, add_ii, add_ss, sub_ii, neg_i, mul_ii, fdiv_ii, mod_ii, eq_ii, ne_ii, eq_ss, ne_ss, lt_ii, le_ii, gt_ii, ge_ii, lt_ss, gt_ss, le_ss, ge_ss, len_s, len_t, abs_i, int_i, int_b, max_ii, min_ii, ix_s, ixL_0, ixL_1, ixL_2, ixL_3, ixL_n, ixL_i, ixL_st, setL_n, setL_i, List.length_map, List.length_set, ix_r, getL_r, ix_tL, withL_s, setL_0, setL_1, setL_2, set_r, app_r, lst_z, lst_s, iadd_ii, tuple_r, mul_ri, sl_s, sl_rol, sl_t, sl_r, cut_from, cut_to, ap_Seq, nx_seq, rt_seq, ct_seq, bk_seq, exc_seq, ap_Raise, ap_Skip, ap_Brk, ap_Cnt, ap_Drop, ap_Ret, ap_IfS, ap_Set, ap_Ts, ap_AsgT, tgT_t, tgTs_n, tgTs_c, ap_Aug, ap_SetI, ap_AugI, mFor_ap, ap_Rng1, ap_Rng2, rng1_ok, rng2_ok, ap_Iter, src_t, src_s, src_rL, ap_Comp, wipe_n, wipe_c, len_cons, len_nil, zip_cc, zip_nn, foldl_c, foldl_n, set_z, set_s, ite_t, ite_f, ite_T, ite_F, sing_lt, sing_eq, ty_r, ty_s, isS, cut_mid, decide_eq_true_eq, if_pos, if_neg]
          exact ⟨by simp, Gr.refl⟩
        · have R11 := R1.1
          have R12 := R1.2.1
          have hmax : oMax [.ref h.length] h3 = .ok (.int (rs.getD k 0 : Nat)) h3 := max_r (by rw [G3.lastL, picks_int]) (mem_picksI.2 ⟨rs.getD k 0, by omega, decide_eq_true R1, by omega⟩) (fun z hz => by
            obtain ⟨j, hj, hpj, rfl⟩ := mem_picksI.1 hz
            have hpj := of_decide_eq_true hpj
            by_cases hjr : j ≤ rs.getD k 0
            · omega
            · exact absurd (pal_le hpj (by omega)) R2)
          simp (disch := first | omega | (simp only [List.length_append, List.length_cons, List.length_nil, List.length_set, List.length_drop, List.length_take, List.length_map]; omega)) only [ho, hmax, sv_nx, sv_rt, sv_ct, rnd_nx, rnd_ct, Int.toNat_natCast, ne_eq, eq_self, not_true_eq_false, not_false_eq_true, mVar_z, Nat.reduceAdd, Nat.zero_add, Int.zero_add, Int.reduceAdd, Int.reduceSub, Int.reduceNeg, ap_Lst, ap_Tup, nil_app, cons_app, List.length_append, lst_last, mVar_s, ok_bnd, ok_stm, exc_bnd, ev_okE, exc_stm, ap_C, ap_Op, ap_Un, ap_B, ap_Chain, ap_asB, ap_And, ap_Or, ap_Not, ap_AndV, ap_OrV, ap_NotV, ap_If, ap_Nil, ap_Cons, ap_CB, ap_Meth, ap_Part, ap_NoPart, ap_Sl, ap_Yes, add_ii, add_ss, sub_ii, neg_i, mul_ii, fdiv_ii, mod_ii, eq_ii, ne_ii, eq_ss, ne_ss, lt_ii, le_ii, gt_ii, ge_ii, lt_ss, gt_ss, le_ss, ge_ss, len_s, len_t, abs_i, int_i, int_b, max_ii, min_ii, ix_s, ixL_0, ixL_1, ixL_2, ixL_3, ixL_n, ixL_i, ixL_st, setL_n, setL_i, List.length_map, List.length_set, ix_r, getL_r, ix_tL, withL_s, setL_0, setL_1, setL_2, set_r, app_r, lst_z, lst_s, iadd_ii, tuple_r, mul_ri, sl_s, sl_rol, sl_t, sl_r, cut_from, cut_to, ap_Seq, nx_seq, rt_seq, ct_seq, bk_seq, exc_seq, ap_Raise, ap_Skip, ap_Brk, ap_Cnt, ap_Drop, ap_Ret, ap_IfS, ap_Set, ap_Ts, ap_AsgT, tgT_t, tgTs_n, tgTs_c, ap_Aug, ap_SetI, ap_AugI, mFor_ap, ap_Rng1, ap_Rng2, rng1_ok, rng2_ok, ap_Iter, src_t, src_s, src_rL, ap_Comp, wipe_n, wipe_c, len_cons, len_nil, zip_cc, zip_nn, foldl_c, foldl_n, set_z, set_s, ite_t, ite_f, ite_T, ite_F, sing_lt, sing_eq, ty_r, ty_s, isS, cut_mid, decide_eq_true_eq, if_pos, if_neg]
          exact st_mk (G.trans (Gr.app.trans G3))
      · rintro o ⟨a4, a5, a6, a7, a8, a9, a10, h2, rfl, G⟩
        simp (disch := first | omega | (simp only [List.length_append, List.length_cons, List.length_nil, List.length_set, List.length_drop, List.length_take, List.length_map]; omega)) only [sv_nx, sv_rt, sv_ct, rnd_nx, rnd_ct, Int.toNat_natCast, ne_eq, eq_self, not_true_eq_false, not_false_eq_true, mVar_z, Nat.reduceAdd, Nat.zero_add, Int.zero_add, Int.reduceAdd, Int.reduceSub, Int.reduceNeg, ap_Lst, ap_Tup, nil_app, cons_app, List.length_append, lst_last, mVar_s, ok_bnd, ok_stm, exc_bnd, ev_okE, exc_stm, ap_C, ap_Op, ap_Un, ap_B, ap_Chain, ap_asB, ap_And, ap_Or, ap_Not, ap_AndV, ap_OrV, ap_NotV, ap_If, ap_Nil, ap_Cons, ap_CB, ap_Meth, ap_Part, ap_NoPart, ap_Sl, ap_Yes, add_ii, add_ss, sub_ii, neg_i, mul_ii, fdiv_ii, mod_ii, eq_ii, ne_ii, eq_ss, ne_ss, lt_ii, le_ii, gt_ii, ge_ii, lt_ss, gt_ss, le_ss, ge_ss, len_s, len_t, abs_i, int_i, int_b, max_ii, min_ii, ix_s, ixL_0, ixL_1, ixL_2, ixL_3, ixL_n, ixL_i, ixL_st, setL_n, setL_i, List.length_map, List.length_set, ix_r, getL_r, ix_tL, withL_s, setL_0, setL_1, setL_2, set_r, app_r, lst_z, lst_s, iadd_ii, tuple_r, mul_ri, sl_s, sl_rol, sl_t, sl_r, cut_from, cut_to, ap_Seq, nx_seq, rt_seq, ct_seq, bk_seq, exc_seq, ap_Raise, ap_Skip, ap_Brk, ap_Cnt, ap_Drop, ap_Ret, ap_IfS, ap_Set, ap_Ts, ap_AsgT, tgT_t, tgTs_n, tgTs_c, ap_Aug, ap_SetI, ap_AugI, mFor_ap, ap_Rng1, ap_Rng2, rng1_ok, rng2_ok, ap_Iter, src_t, src_s, src_rL, ap_Comp, wipe_n, wipe_c, len_cons, len_nil, zip_cc, zip_nn, foldl_c, foldl_n, set_z, set_s, ite_t, ite_f, ite_T, ite_F, sing_lt, sing_eq, ty_r, ty_s, isS, cut_mid, decide_eq_true_eq, if_pos, if_neg]
        refine sv_cut (R' := St (some (scriptW ns)) (some (.ref q)) t h') ?_ ?_
        · by_cases ht0 : t = []
          · rw [if_neg (by simp [ht0])]
            exact st_mk G
          · rw [if_pos ht0]
            obtain ⟨wl, ⟨r2, rfl, hr2, hnb⟩, hlt⟩ := lt_all t (by omega) ht0
            repeat (first | with_reducible apply sv_seq | with_reducible apply sv_stm | with_reducible apply ev_bnd)
            refine comp_rng t.length 0 4 (by omega) (by omega) (fun _ => true) (fun j => .str (rotL t j)) (fun j hj h3 G3 => ?_) (fun j hj _ h3 G3 => ?_) (fun h3 G3 => ?_)
            · exact ⟨rfl, Gr.refl⟩
            · simp (disch := first | omega | (simp only [List.length_append, List.length_cons, List.length_nil, List.length_set, List.length_drop, List.length_take, List.length_map]; omega)) only [sv_nx, sv_rt, sv_ct, rnd_nx, rnd_ct, Int.toNat_natCast, ne_eq, eq_self, not_true_eq_false, not_false_eq_true, mVar_z, Nat.reduceAdd, Nat.zero_add, Int.zero_add, Int.reduceAdd, Int.reduceSub, Int.reduceNeg, ap_Lst, ap_Tup, nil_app, cons_app, List.length_append, lst_last, mVar_s, ok_bnd, ok_stm, exc_bnd, ev_okE, exc_stm, ap_C, ap_Op, ap_Un, ap_B, ap_Chain, ap_asB, ap_And, ap_Or, ap_Not, ap_AndV, ap_OrV, ap_NotV, ap_If, ap_Nil, ap_Cons, ap_CB, ap_Meth, ap_Part, ap_NoPart, ap_Sl, ap_Yes, add_ii, add_ss, sub_ii, neg_i, mul_ii, fdiv_ii, mod_ii, eq_ii, ne_ii, eq_ss, ne_ss, lt_ii, le_ii, gt_ii, ge_ii, lt_ss, gt_ss, le_ss, ge_ss, len_s, len_t, abs_i, int_i, int_b, max_ii, min_ii, ix_s, ixL_0, ixL_1, ixL_2, ixL_3, ixL_n, ixL_i, ixL_st, setL_n, setL_i, List.length_map, List.length_set, ix_r, getL_r, ix_tL, withL_s, setL_0, setL_1, setL_2, set_r, app_r, lst_z, lst_s, iadd_ii, tuple_r, mul_ri, sl_s, sl_rol, sl_t, sl_r, cut_from, cut_to, ap_Seq, nx_seq, rt_seq, ct_seq, bk_seq, exc_seq, ap_Raise, ap_Skip, ap_Brk, ap_Cnt, ap_Drop, ap_Ret, ap_IfS, ap_Set, ap_Ts, ap_AsgT, tgT_t, tgTs_n, tgTs_c, ap_Aug, ap_SetI, ap_AugI, mFor_ap, ap_Rng1, ap_Rng2, rng1_ok, rng2_ok, ap_Iter, src_t, src_s, src_rL, ap_Comp, wipe_n, wipe_c, len_cons, len_nil, zip_cc, zip_nn, foldl_c, foldl_n, set_z, set_s, ite_t, ite_f, ite_T, ite_F, sing_lt, sing_eq, ty_r, ty_s, isS, cut_mid, decide_eq_true_eq, if_pos, if_neg]
              exact ⟨rfl, Gr.refl⟩
            · have hst : lstAt h3 h2.length = some (((List.range t.length).map (rotL t)).map .str) := by
                rw [G3.lastL, picks_all, List.map_map]; rfl
              have hmn : ∀ z ∈ (List.range t.length).map (rotL t), ¬ z < rotL t r2 := fun z hz hlt2 => by
                obtain ⟨m, hm, rfl⟩ := List.mem_map.1 hz
                exact hnb ⟨m, List.mem_range.1 hm, .inl hlt2⟩
              have hmin : oMin [.ref h2.length] h3 = .ok (.str (rotL t r2)) h3 := min_rs hst (List.mem_map.2 ⟨r2, List.mem_range.2 hr2, rfl⟩) hmn
              have hidx : oIndex (.ref h2.length) [.str (rotL t r2)] h3 = .ok (.int r2) h3 := index_s hst (by rw [List.getElem?_map, List.getElem?_range hr2]; rfl) (fun m hm he => by
                rw [List.getElem?_map, List.getElem?_range (by omega)] at he
                exact hnb ⟨m, by omega, .inr ⟨Option.some.inj he, hm⟩⟩)
              simp (disch := first | omega | (simp only [List.length_append, List.length_cons, List.length_nil, List.length_set, List.length_drop, List.length_take, List.length_map]; omega)) only [hlt, hmin, hidx, hst, sv_nx, sv_rt, sv_ct, rnd_nx, rnd_ct, Int.toNat_natCast, ne_eq, eq_self, not_true_eq_false, not_false_eq_true, mVar_z, Nat.reduceAdd, Nat.zero_add, Int.zero_add, Int.reduceAdd, Int.reduceSub, Int.reduceNeg, ap_Lst, ap_Tup, nil_app, cons_app, List.length_append, lst_last, mVar_s, ok_bnd, ok_stm, exc_bnd, ev_okE, exc_stm, ap_C, ap_Op, ap_Un, ap_B, ap_Chain, ap_asB, ap_And, ap_Or, ap_Not, ap_AndV, ap_OrV, ap_NotV, ap_If, ap_Nil, ap_Cons, ap_CB, ap_Meth, ap_Part, ap_NoPart, ap_Sl, ap_Yes, add_ii, add_ss, sub_ii, neg_i, mul_ii, fdiv_ii, mod_ii, eq_ii, ne_ii, eq_ss, ne_ss, lt_ii, le_ii, gt_ii, ge_ii, lt_ss, gt_ss, le_ss, ge_ss, len_s, len_t, abs_i, int_i, int_b, max_ii, min_ii, ix_s, ixL_0, ixL_1, ixL_2, ixL_3, ixL_n, ixL_i, ixL_st, setL_n, setL_i, List.length_map, List.length_set, ix_r, getL_r, ix_tL, withL_s, setL_0, setL_1, setL_2, set_r, app_r, lst_z, lst_s, iadd_ii, tuple_r, mul_ri, sl_s, sl_rol, sl_t, sl_r, cut_from, cut_to, ap_Seq, nx_seq, rt_seq, ct_seq, bk_seq, exc_seq, ap_Raise, ap_Skip, ap_Brk, ap_Cnt, ap_Drop, ap_Ret, ap_IfS, ap_Set, ap_Ts, ap_AsgT, tgT_t, tgTs_n, tgTs_c, ap_Aug, ap_SetI, ap_AugI, mFor_ap, ap_Rng1, ap_Rng2, rng1_ok, rng2_ok, ap_Iter, src_t, src_s, src_rL, ap_Comp, wipe_n, wipe_c, len_cons, len_nil, zip_cc, zip_nn, foldl_c, foldl_n, set_z, set_s, ite_t, ite_f, ite_T, ite_F, sing_lt, sing_eq, ty_r, ty_s, isS, cut_mid, decide_eq_true_eq, if_pos, if_neg]
              exact st_mk (G.trans (Gr.app.trans G3))
        · rintro o ⟨a4, a5, a6, a7, a8, a9, a10, h3, rfl, G3⟩
          obtain ⟨wf, ⟨fs, rfl, PF⟩, hf⟩ := fw_all t (by omega)
          have hfl := PF.len
          have hjn : ∀ h, oJoin (.str []) [.tup (fs.map .str)] h = .ok (.str t) h := fun h => by
            have e := PF.fl
            rw [List.take_length] at e
            have := join_t (l := fs) (h := h) (by rw [e]; omega)
            rw [e] at this
            exact this
          simp (disch := first | omega | (simp only [List.length_append, List.length_cons, List.length_nil, List.length_set, List.length_drop, List.length_take, List.length_map]; omega)) only [hf, hjn, sv_nx, sv_rt, sv_ct, rnd_nx, rnd_ct, Int.toNat_natCast, ne_eq, eq_self, not_true_eq_false, not_false_eq_true, mVar_z, Nat.reduceAdd, Nat.zero_add, Int.zero_add, Int.reduceAdd, Int.reduceSub, Int.reduceNeg, ap_Lst, ap_Tup, nil_app, cons_app, List.length_append, lst_last, mVar_s, ok_bnd, ok_stm, exc_bnd, ev_okE, exc_stm, ap_C, ap_Op, ap_Un, ap_B, ap_Chain, ap_asB, ap_And, ap_Or, ap_Not, ap_AndV, ap_OrV, ap_NotV, ap_If, ap_Nil, ap_Cons, ap_CB, ap_Meth, ap_Part, ap_NoPart, ap_Sl, ap_Yes, add_ii, add_ss, sub_ii, neg_i, mul_ii, fdiv_ii, mod_ii, eq_ii, ne_ii, eq_ss, ne_ss, lt_ii, le_ii, gt_ii, ge_ii, lt_ss, gt_ss, le_ss, ge_ss, len_s, len_t, abs_i, int_i, int_b, max_ii, min_ii, ix_s, ixL_0, ixL_1, ixL_2, ixL_3, ixL_n, ixL_i, ixL_st, setL_n, setL_i, List.length_map, List.length_set, ix_r, getL_r, ix_tL, withL_s, setL_0, setL_1, setL_2, set_r, app_r, lst_z, lst_s, iadd_ii, tuple_r, mul_ri, sl_s, sl_rol, sl_t, sl_r, cut_from, cut_to, ap_Seq, nx_seq, rt_seq, ct_seq, bk_seq, exc_seq, ap_Raise, ap_Skip, ap_Brk, ap_Cnt, ap_Drop, ap_Ret, ap_IfS, ap_Set, ap_Ts, ap_AsgT, tgT_t, tgTs_n, tgTs_c, ap_Aug, ap_SetI, ap_AugI, mFor_ap, ap_Rng1, ap_Rng2, rng1_ok, rng2_ok, ap_Iter, src_t, src_s, src_rL, ap_Comp, wipe_n, wipe_c, len_cons, len_nil, zip_cc, zip_nn, foldl_c, foldl_n, set_z, set_s, ite_t, ite_f, ite_T, ite_F, sing_lt, sing_eq, ty_r, ty_s, isS, cut_mid, decide_eq_true_eq, if_pos, if_neg]
          refine sv_cut (R' := St5 (some (scriptW ns)) (some (.ref q)) t fs h') ?_ ?_
          · repeat (first | with_reducible apply sv_seq | with_reducible apply sv_stm | with_reducible apply ev_bnd)
            rw [show ((fs.length : Int) - 1).toNat = fs.length - 1 by omega]
            refine comp_rng (fs.length - 1) 1 4 (by omega) (by omega) (fun _ => false) (fun j => .int (1 + j)) (fun j hj h4 G4 => ?_) (fun j hj hf _ _ => by cases hf) (fun h4 G4 => ?_)
            · simp (disch := first | omega | (simp only [List.length_append, List.length_cons, List.length_nil, List.length_set, List.length_drop, List.length_take, List.length_map]; omega)) only [sv_nx, sv_rt, sv_ct, rnd_nx, rnd_ct, Int.toNat_natCast, ne_eq, eq_self, not_true_eq_false, not_false_eq_true, mVar_z, Nat.reduceAdd, Nat.zero_add, Int.zero_add, Int.reduceAdd, Int.reduceSub, Int.reduceNeg, ap_Lst, ap_Tup, nil_app, cons_app, List.length_append, lst_last, mVar_s, ok_bnd, ok_stm, exc_bnd, ev_okE, exc_stm, ap_C, ap_Op, ap_Un, ap_B, ap_Chain, ap_asB, ap_And, ap_Or, ap_Not, ap_AndV, ap_OrV, ap_NotV, ap_If, ap_Nil, ap_Cons, ap_CB, ap_Meth, ap_Part, ap_NoPart, ap_Sl, ap_Yes, add_ii, add_ss, sub_ii, neg_i, mul_ii, fdiv_ii, mod_ii, eq_ii, ne_ii, eq_ss, ne_ss, lt_ii, le_ii, gt_ii, ge_ii, lt_ss, gt_ss, le_ss, ge_ss, len_s, len_t, abs_i, int_i, int_b, max_ii, min_ii, ix_s, ixL_0, ixL_1, ixL_2, ixL_3, ixL_n, ixL_i, ixL_st, setL_n, setL_i, List.length_map, List.length_set, ix_r, getL_r, ix_tL, withL_s, setL_0, setL_1, setL_2, set_r, app_r, lst_z, lst_s, iadd_ii, tuple_r, mul_ri, sl_s, sl_rol, sl_t, sl_r, cut_from, cut_to, ap_Seq, nx_seq, rt_seq, ct_seq, bk_seq, exc_seq, ap_Raise, ap_Skip, ap_Brk, ap_Cnt, ap_Drop, ap_Ret, ap_IfS, ap_Set, ap_Ts, ap_AsgT, tgT_t, tgTs_n, tgTs_c, ap_Aug, ap_SetI, ap_AugI, mFor_ap, ap_Rng1, ap_Rng2, rng1_ok, rng2_ok, ap_Iter, src_t, src_s, src_rL, ap_Comp, wipe_n, wipe_c, len_cons, len_nil, zip_cc, zip_nn, foldl_c, foldl_n, set_z, set_s, ite_t, ite_f, ite_T, ite_F, sing_lt, sing_eq, ty_r, ty_s, isS, cut_mid, decide_eq_true_eq, if_pos, if_neg]
              refine ⟨?_, Gr.refl⟩
              have := PF.ch j (by omega)
              rw [show ((1 : Int) + j - 1).toNat = j by omega, show ((1 : Int) + j).toNat = j + 1 by omega]
              exact decide_eq_false this
            · have e5 := ne_picks G4.lastL (fun i hi => rfl)
              simp (disch := first | omega | (simp only [List.length_append, List.length_cons, List.length_nil, List.length_set, List.length_drop, List.length_take, List.length_map]; omega)) only [e5, sv_nx, sv_rt, sv_ct, rnd_nx, rnd_ct, Int.toNat_natCast, ne_eq, eq_self, not_true_eq_false, not_false_eq_true, mVar_z, Nat.reduceAdd, Nat.zero_add, Int.zero_add, Int.reduceAdd, Int.reduceSub, Int.reduceNeg, ap_Lst, ap_Tup, nil_app, cons_app, List.length_append, lst_last, mVar_s, ok_bnd, ok_stm, exc_bnd, ev_okE, exc_stm, ap_C, ap_Op, ap_Un, ap_B, ap_Chain, ap_asB, ap_And, ap_Or, ap_Not, ap_AndV, ap_OrV, ap_NotV, ap_If, ap_Nil, ap_Cons, ap_CB, ap_Meth, ap_Part, ap_NoPart, ap_Sl, ap_Yes, add_ii, add_ss, sub_ii, neg_i, mul_ii, fdiv_ii, mod_ii, eq_ii, ne_ii, eq_ss, ne_ss, lt_ii, le_ii, gt_ii, ge_ii, lt_ss, gt_ss, le_ss, ge_ss, len_s, len_t, abs_i, int_i, int_b, max_ii, min_ii, ix_s, ixL_0, ixL_1, ixL_2, ixL_3, ixL_n, ixL_i, ixL_st, setL_n, setL_i, List.length_map, List.length_set, ix_r, getL_r, ix_tL, withL_s, setL_0, setL_1, setL_2, set_r, app_r, lst_z, lst_s, iadd_ii, tuple_r, mul_ri, sl_s, sl_rol, sl_t, sl_r, cut_from, cut_to, ap_Seq, nx_seq, rt_seq, ct_seq, bk_seq, exc_seq, ap_Raise, ap_Skip, ap_Brk, ap_Cnt, ap_Drop, ap_Ret, ap_IfS, ap_Set, ap_Ts, ap_AsgT, tgT_t, tgTs_n, tgTs_c, ap_Aug, ap_SetI, ap_AugI, mFor_ap, ap_Rng1, ap_Rng2, rng1_ok, rng2_ok, ap_Iter, src_t, src_s, src_rL, ap_Comp, wipe_n, wipe_c, len_cons, len_nil, zip_cc, zip_nn, foldl_c, foldl_n, set_z, set_s, ite_t, ite_f, ite_T, ite_F, sing_lt, sing_eq, ty_r, ty_s, isS, cut_mid, decide_eq_true_eq, if_pos, if_neg]
              exact st5_mk ((G3.trans (Gr.app.trans G4)).trans Gr.app)
          · rintro o ⟨a4, a6, a7, a8, a9, a10, h4, rfl, G4⟩
            simp (disch := first | omega | (simp only [List.length_append, List.length_cons, List.length_nil, List.length_set, List.length_drop, List.length_take, List.length_map]; omega)) only [sv_nx, sv_rt, sv_ct, rnd_nx, rnd_ct, Int.toNat_natCast, ne_eq, eq_self, not_true_eq_false, not_false_eq_true, mVar_z, Nat.reduceAdd, Nat.zero_add, Int.zero_add, Int.reduceAdd, Int.reduceSub, Int.reduceNeg, ap_Lst, ap_Tup, nil_app, cons_app, List.length_append, lst_last, mVar_s, ok_bnd, ok_stm, exc_bnd, ev_okE, exc_stm, ap_C, ap_Op, ap_Un, ap_B, ap_Chain, ap_asB, ap_And, ap_Or, ap_Not, ap_AndV, ap_OrV, ap_NotV, ap_If, ap_Nil, ap_Cons, ap_CB, ap_Meth, ap_Part, ap_NoPart, ap_Sl, ap_Yes, add_ii, add_ss, sub_ii, neg_i, mul_ii, fdiv_ii, mod_ii, eq_ii, ne_ii, eq_ss, ne_ss, lt_ii, le_ii, gt_ii, ge_ii, lt_ss, gt_ss, le_ss, ge_ss, len_s, len_t, abs_i, int_i, int_b, max_ii, min_ii, ix_s, ixL_0, ixL_1, ixL_2, ixL_3, ixL_n, ixL_i, ixL_st, setL_n, setL_i, List.length_map, List.length_set, ix_r, getL_r, ix_tL, withL_s, setL_0, setL_1, setL_2, set_r, app_r, lst_z, lst_s, iadd_ii, tuple_r, mul_ri, sl_s, sl_rol, sl_t, sl_r, cut_from, cut_to, ap_Seq, nx_seq, rt_seq, ct_seq, bk_seq, exc_seq, ap_Raise, ap_Skip, ap_Brk, ap_Cnt, ap_Drop, ap_Ret, ap_IfS, ap_Set, ap_Ts, ap_AsgT, tgT_t, tgTs_n, tgTs_c, ap_Aug, ap_SetI, ap_AugI, mFor_ap, ap_Rng1, ap_Rng2, rng1_ok, rng2_ok, ap_Iter, src_t, src_s, src_rL, ap_Comp, wipe_n, wipe_c, len_cons, len_nil, zip_cc, zip_nn, foldl_c, foldl_n, set_z, set_s, ite_t, ite_f, ite_T, ite_F, sing_lt, sing_eq, ty_r, ty_s, isS, cut_mid, decide_eq_true_eq, if_pos, if_neg]
            refine sv_cut (R' := St5 (some (scriptW ns)) (some (.ref q)) t fs h') ?_ ?_
            · refine forGo_tup (fs.map .str) 6 (fun k e h => St5 (some (scriptW ns)) (some (.ref q)) t fs h' (.nx e h)) (by simp; omega) (st5_mk G4) ?_ (fun e h I => I)
              rintro k e h hk ⟨a4, a6, a7, a8, a9, a10, h5, heq, G5⟩
              cases heq
              have hkl : k < fs.length := by simpa using hk
              rw [List.getElem_map]
              have hmem : fs[k] ∈ fs := List.getElem_mem hkl
              generalize fs[k] = part at hmem
              obtain ⟨g1, g2⟩ := PF.good part hmem
              have hpl2 : part.length ≤ t.length := by
                have e := PF.fl
                rw [List.take_length] at e
                rw [← e]
                exact (List.sublist_flatten_of_mem hmem).length_le
              simp (disch := first | omega | (simp only [List.length_append, List.length_cons, List.length_nil, List.length_set, List.length_drop, List.length_take, List.length_map]; omega)) only [g1, sv_nx, sv_rt, sv_ct, rnd_nx, rnd_ct, Int.toNat_natCast, ne_eq, eq_self, not_true_eq_false, not_false_eq_true, mVar_z, Nat.reduceAdd, Nat.zero_add, Int.zero_add, Int.reduceAdd, Int.reduceSub, Int.reduceNeg, ap_Lst, ap_Tup, nil_app, cons_app, List.length_append, lst_last, mVar_s, ok_bnd, ok_stm, exc_bnd, ev_okE, exc_stm, ap_C, ap_Op, ap_Un, ap_B, ap_Chain, ap_asB, ap_And, ap_Or, ap_Not, ap_AndV, ap_OrV, ap_NotV, ap_If, ap_Nil, ap_Cons, ap_CB, ap_Meth, ap_Part, ap_NoPart, ap_Sl, ap_Yes, add_ii, add_ss, sub_ii, neg_i, mul_ii, fdiv_ii, mod_ii, eq_ii, ne_ii, eq_ss, ne_ss, lt_ii, le_ii, gt_ii, ge_ii, lt_ss, gt_ss, le_ss, ge_ss, len_s, len_t, abs_i, int_i, int_b, max_ii, min_ii, ix_s, ixL_0, ixL_1, ixL_2, ixL_3, ixL_n, ixL_i, ixL_st, setL_n, setL_i, List.length_map, List.length_set, ix_r, getL_r, ix_tL, withL_s, setL_0, setL_1, setL_2, set_r, app_r, lst_z, lst_s, iadd_ii, tuple_r, mul_ri, sl_s, sl_rol, sl_t, sl_r, cut_from, cut_to, ap_Seq, nx_seq, rt_seq, ct_seq, bk_seq, exc_seq, ap_Raise, ap_Skip, ap_Brk, ap_Cnt, ap_Drop, ap_Ret, ap_IfS, ap_Set, ap_Ts, ap_AsgT, tgT_t, tgTs_n, tgTs_c, ap_Aug, ap_SetI, ap_AugI, mFor_ap, ap_Rng1, ap_Rng2, rng1_ok, rng2_ok, ap_Iter, src_t, src_s, src_rL, ap_Comp, wipe_n, wipe_c, len_cons, len_nil, zip_cc, zip_nn, foldl_c, foldl_n, set_z, set_s, ite_t, ite_f, ite_T, ite_F, sing_lt, sing_eq, ty_r, ty_s, isS, cut_mid, decide_eq_true_eq, if_pos, if_neg]
              repeat (first | with_reducible apply sv_seq | with_reducible apply sv_stm | with_reducible apply ev_bnd)
              rw [show ((part.length : Int) - 1).toNat = part.length - 1 by omega]
              refine comp_rng (part.length - 1) 1 4 (by omega) (by omega) (fun _ => false) (fun j => .int (1 + j)) (fun j hj h4 G4 => ?_) (fun j hj hf _ _ => by cases hf) (fun h6 G6 => ?_)
              · simp (disch := first | omega | (simp only [List.length_append, List.length_cons, List.length_nil, List.length_set, List.length_drop, List.length_take, List.length_map]; omega)) only [sv_nx, sv_rt, sv_ct, rnd_nx, rnd_ct, Int.toNat_natCast, ne_eq, eq_self, not_true_eq_false, not_false_eq_true, mVar_z, Nat.reduceAdd, Nat.zero_add, Int.zero_add, Int.reduceAdd, Int.reduceSub, Int.reduceNeg, ap_Lst, ap_Tup, nil_app, cons_app, List.length_append, lst_last, mVar_s, ok_bnd, ok_stm, exc_bnd, ev_okE, exc_stm, ap_C, ap_Op, ap_Un, ap_B, ap_Chain, ap_asB, ap_And, ap_Or, ap_Not, ap_AndV, ap_OrV, ap_NotV, ap_If, ap_Nil, ap_Cons, ap_CB, ap_Meth, ap_Part, ap_NoPart, ap_Sl, ap_Yes, add_ii, add_ss, sub_ii, neg_i, mul_ii, fdiv_ii, mod_ii, eq_ii, ne_ii, eq_ss, ne_ss, lt_ii, le_ii, gt_ii, ge_ii, lt_ss, gt_ss, le_ss, ge_ss, len_s, len_t, abs_i, int_i, int_b, max_ii, min_ii, ix_s, ixL_0, ixL_1, ixL_2, ixL_3, ixL_n, ixL_i, ixL_st, setL_n, setL_i, List.length_map, List.length_set, ix_r, getL_r, ix_tL, withL_s, setL_0, setL_1, setL_2, set_r, app_r, lst_z, lst_s, iadd_ii, tuple_r, mul_ri, sl_s, sl_rol, sl_t, sl_r, cut_from, cut_to, ap_Seq, nx_seq, rt_seq, ct_seq, bk_seq, exc_seq, ap_Raise, ap_Skip, ap_Brk, ap_Cnt, ap_Drop, ap_Ret, ap_IfS, ap_Set, ap_Ts, ap_AsgT, tgT_t, tgTs_n, tgTs_c, ap_Aug, ap_SetI, ap_AugI, mFor_ap, ap_Rng1, ap_Rng2, rng1_ok, rng2_ok, ap_Iter, src_t, src_s, src_rL, ap_Comp, wipe_n, wipe_c, len_cons, len_nil, zip_cc, zip_nn, foldl_c, foldl_n, set_z, set_s, ite_t, ite_f, ite_T, ite_F, sing_lt, sing_eq, ty_r, ty_s, isS, cut_mid, decide_eq_true_eq, if_pos, if_neg]
                refine ⟨?_, Gr.refl⟩
                have := g2 (j + 1) (by omega) (by omega)
                unfold rotL at this
                rw [show ((1 : Int) + j).toNat = j + 1 by omega]
                exact decide_eq_false (fun x => x this)
              · have e5 := ne_picks G6.lastL (fun i hi => rfl)
                simp (disch := first | omega | (simp only [List.length_append, List.length_cons, List.length_nil, List.length_set, List.length_drop, List.length_take, List.length_map]; omega)) only [e5, sv_nx, sv_rt, sv_ct, rnd_nx, rnd_ct, Int.toNat_natCast, ne_eq, eq_self, not_true_eq_false, not_false_eq_true, mVar_z, Nat.reduceAdd, Nat.zero_add, Int.zero_add, Int.reduceAdd, Int.reduceSub, Int.reduceNeg, ap_Lst, ap_Tup, nil_app, cons_app, List.length_append, lst_last, mVar_s, ok_bnd, ok_stm, exc_bnd, ev_okE, exc_stm, ap_C, ap_Op, ap_Un, ap_B, ap_Chain, ap_asB, ap_And, ap_Or, ap_Not, ap_AndV, ap_OrV, ap_NotV, ap_If, ap_Nil, ap_Cons, ap_CB, ap_Meth, ap_Part, ap_NoPart, ap_Sl, ap_Yes, add_ii, add_ss, sub_ii, neg_i, mul_ii, fdiv_ii, mod_ii, eq_ii, ne_ii, eq_ss, ne_ss, lt_ii, le_ii, gt_ii, ge_ii, lt_ss, gt_ss, le_ss, ge_ss, len_s, len_t, abs_i, int_i, int_b, max_ii, min_ii, ix_s, ixL_0, ixL_1, ixL_2, ixL_3, ixL_n, ixL_i, ixL_st, setL_n, setL_i, List.length_map, List.length_set, ix_r, getL_r, ix_tL, withL_s, setL_0, setL_1, setL_2, set_r, app_r, lst_z, lst_s, iadd_ii, tuple_r, mul_ri, sl_s, sl_rol, sl_t, sl_r, cut_from, cut_to, ap_Seq, nx_seq, rt_seq, ct_seq, bk_seq, exc_seq, ap_Raise, ap_Skip, ap_Brk, ap_Cnt, ap_Drop, ap_Ret, ap_IfS, ap_Set, ap_Ts, ap_AsgT, tgT_t, tgTs_n, tgTs_c, ap_Aug, ap_SetI, ap_AugI, mFor_ap, ap_Rng1, ap_Rng2, rng1_ok, rng2_ok, ap_Iter, src_t, src_s, src_rL, ap_Comp, wipe_n, wipe_c, len_cons, len_nil, zip_cc, zip_nn, foldl_c, foldl_n, set_z, set_s, ite_t, ite_f, ite_T, ite_F, sing_lt, sing_eq, ty_r, ty_s, isS, cut_mid, decide_eq_true_eq, if_pos, if_neg]
                exact st5_mk ((G5.trans (Gr.app.trans G6)).trans Gr.app)
            · rintro o ⟨a4, a6, a7, a8, a9, a10, h5, rfl, G5⟩
              simp (disch := first | omega | (simp only [List.length_append, List.length_cons, List.length_nil, List.length_set, List.length_drop, List.length_take, List.length_map]; omega)) only [ho, lt_none, ap_Told, tellGo, hrl, sv_nx, sv_rt, sv_ct, rnd_nx, rnd_ct, Int.toNat_natCast, ne_eq, eq_self, not_true_eq_false, not_false_eq_true, mVar_z, Nat.reduceAdd, Nat.zero_add, Int.zero_add, Int.reduceAdd, Int.reduceSub, Int.reduceNeg, ap_Lst, ap_Tup, nil_app, cons_app, List.length_append, lst_last, mVar_s, ok_bnd, ok_stm, exc_bnd, ev_okE, exc_stm, ap_C, ap_Op, ap_Un, ap_B, ap_Chain, ap_asB, ap_And, ap_Or, ap_Not, ap_AndV, ap_OrV, ap_NotV, ap_If, ap_Nil, ap_Cons, ap_CB, ap_Meth, ap_Part, ap_NoPart, ap_Sl, ap_Yes, add_ii, add_ss, sub_ii, neg_i, mul_ii, fdiv_ii, mod_ii, eq_ii, ne_ii, eq_ss, ne_ss, lt_ii, le_ii, gt_ii, ge_ii, lt_ss, gt_ss, le_ss, ge_ss, len_s, len_t, abs_i, int_i, int_b, max_ii, min_ii, ix_s, ixL_0, ixL_1, ixL_2, ixL_3, ixL_n, ixL_i, ixL_st, setL_n, setL_i, List.length_map, List.length_set, ix_r, getL_r, ix_tL, withL_s, setL_0, setL_1, setL_2, set_r, app_r, lst_z, lst_s, iadd_ii, tuple_r, mul_ri, sl_s, sl_rol, sl_t, sl_r, cut_from, cut_to, ap_Seq, nx_seq, rt_seq, ct_seq, bk_seq, exc_seq, ap_Raise, ap_Skip, ap_Brk, ap_Cnt, ap_Drop, ap_Ret, ap_IfS, ap_Set, ap_Ts, ap_AsgT, tgT_t, tgTs_n, tgTs_c, ap_Aug, ap_SetI, ap_AugI, mFor_ap, ap_Rng1, ap_Rng2, rng1_ok, rng2_ok, ap_Iter, src_t, src_s, src_rL, ap_Comp, wipe_n, wipe_c, len_cons, len_nil, zip_cc, zip_nn, foldl_c, foldl_n, set_z, set_s, ite_t, ite_f, ite_T, ite_F, sing_lt, sing_eq, ty_r, ty_s, isS, cut_mid, decide_eq_true_eq, if_pos, if_neg]
              exact ⟨⟨_, _, _, _, _, _, _, _, _, _, rfl⟩, F2.trans (Fr.of G5), D2.gr G5⟩
  · rintro o ⟨e, h, rfl⟩
    simp (disch := first | omega | (simp only [List.length_append, List.length_cons, List.length_nil, List.length_set, List.length_drop, List.length_take, List.length_map]; omega)) only [sv_nx, sv_rt, sv_ct, rnd_nx, rnd_ct, Int.toNat_natCast, ne_eq, eq_self, not_true_eq_false, not_false_eq_true, mVar_z, Nat.reduceAdd, Nat.zero_add, Int.zero_add, Int.reduceAdd, Int.reduceSub, Int.reduceNeg, ap_Lst, ap_Tup, nil_app, cons_app, List.length_append, lst_last, mVar_s, ok_bnd, ok_stm, exc_bnd, ev_okE, exc_stm, ap_C, ap_Op, ap_Un, ap_B, ap_Chain, ap_asB, ap_And, ap_Or, ap_Not, ap_AndV, ap_OrV, ap_NotV, ap_If, ap_Nil, ap_Cons, ap_CB, ap_Meth, ap_Part, ap_NoPart, ap_Sl, ap_Yes, add_ii, add_ss, sub_ii, neg_i, mul_ii, fdiv_ii, mod_ii, eq_ii, ne_ii, eq_ss, ne_ss, lt_ii, le_ii, gt_ii, ge_ii, lt_ss, gt_ss, le_ss, ge_ss, len_s, len_t, abs_i, int_i, int_b, max_ii, min_ii, ix_s, ixL_0, ixL_1, ixL_2, ixL_3, ixL_n, ixL_i, ixL_st, setL_n, setL_i, List.length_map, List.length_set, ix_r, getL_r, ix_tL, withL_s, setL_0, setL_1, setL_2, set_r, app_r, lst_z, lst_s, iadd_ii, tuple_r, mul_ri, sl_s, sl_rol, sl_t, sl_r, cut_from, cut_to, ap_Seq, nx_seq, rt_seq, ct_seq, bk_seq, exc_seq, ap_Raise, ap_Skip, ap_Brk, ap_Cnt, ap_Drop, ap_Ret, ap_IfS, ap_Set, ap_Ts, ap_AsgT, tgT_t, tgTs_n, tgTs_c, ap_Aug, ap_SetI, ap_AugI, mFor_ap, ap_Rng1, ap_Rng2, rng1_ok, rng2_ok, ap_Iter, src_t, src_s, src_rL, ap_Comp, wipe_n, wipe_c, len_cons, len_nil, zip_cc, zip_nn, foldl_c, foldl_n, set_z, set_s, ite_t, ite_f, ite_T, ite_F, sing_lt, sing_eq, ty_r, ty_s, isS, cut_mid, decide_eq_true_eq, if_pos, if_neg]
end Law_indexhall_k22_words_turned_and_cut
namespace Law_indexhall_k22_words_turned_and_cut
open PySem L2 Den PyProof.Rows
theorem main : ∀ ns : List Int, ns.length ≤ 63 → (∀ z ∈ ns, Builtin.Int.intBits z ≤ 1048576) → ∃ h', den_law [scriptW ns] [] = .ok (.bl true) h' := fun ns hl hb => main2 ns hl hb
def gx (C_BadText C_NoSuch Pt : Addr) : Gx := { T := [(Pt, ("law" ++ ".<locals>.<lambda>" : Str))], ca := fun c => if c = 1 then some C_BadText else if c = 2 then some C_NoSuch else none }
theorem fin {l : PySem.W.OpenLaw} {w : World} {K : PySem.W.Frag} {h : Heap} {mg : Str → Option Value} {C_BadText C_NoSuch a_own_ways_back a_least_turn a_falling_words a_law_dice a_law_roll a_law_rounds a_law_told fa a_law c_law Pt : Addr}
    {od_own_ways_back an_own_ways_back od_least_turn an_least_turn od_falling_words an_falling_words od_law_dice an_law_dice od_law_roll an_law_roll od_law_rounds an_law_rounds od_law_told an_law_told od_law an_law : Option Addr} {sl_own_ways_back sl_least_turn sl_falling_words sl_law_dice sl_law_roll sl_law_rounds sl_law_told sl_law : Array (Option Value)} {oc_own_ways_back kV_own_ways_back dc_own_ways_back pm_own_ways_back ct_own_ways_back cd_own_ways_back oc_least_turn kV_least_turn dc_least_turn pm_least_turn ct_least_turn cd_least_turn oc_falling_words kV_falling_words dc_falling_words pm_falling_words ct_falling_words cd_falling_words oc_law_dice kV_law_dice dc_law_dice pm_law_dice ct_law_dice cd_law_dice oc_law_roll kV_law_roll dc_law_roll pm_law_roll ct_law_roll cd_law_roll oc_law_rounds kV_law_rounds dc_law_rounds pm_law_rounds ct_law_rounds cd_law_rounds oc_law_told kV_law_told dc_law_told pm_law_told ct_law_told cd_law_told oc_law kV_law dc_law pm_law ct_law : Value}
    (main : ∀ ns : List Int, ns.length ≤ 63 → (∀ z ∈ ns, Builtin.Int.intBits z ≤ 1048576) → ∃ h', den_law [scriptW ns] [] = .ok (.bl true) h')
    (X : K.In h) (G : h.Ns mainGlobals mg) (hfa : mg "law" = some (.ref fa))
    (m_BadText : PySem.W.nsIn K mainGlobals "BadText" = some (some (.ref C_BadText)))
    (e_BadText : PySem.W.excIn K C_BadText [.type "ValueError", .type "Exception", .type "BaseException", .type "object"] "ValueError.__new__" = true)
    (k_BadText : PySem.W.keepIn K (.ref C_BadText) = true)
    (s_BadText : PySem.W.subIn K (.ref C_BadText) (.type "BaseException") = some true)
    (t_BadText : PySem.W.typeIn K (.ref C_BadText) = some (.type "type"))
    (m_NoSuch : PySem.W.nsIn K mainGlobals "NoSuch" = some (some (.ref C_NoSuch)))
    (e_NoSuch : PySem.W.excIn K C_NoSuch [.type "ValueError", .type "Exception", .type "BaseException", .type "object"] "ValueError.__new__" = true)
    (k_NoSuch : PySem.W.keepIn K (.ref C_NoSuch) = true)
    (s_NoSuch : PySem.W.subIn K (.ref C_NoSuch) (.type "BaseException") = some true)
    (t_NoSuch : PySem.W.typeIn K (.ref C_NoSuch) = some (.type "type"))
    (i_BadText : PySem.W.isClsIn K C_BadText = true)
    (i_NoSuch : PySem.W.isClsIn K C_NoSuch = true)
    (x_BadText_BadText : PySem.W.subIn K (.ref C_BadText) (.ref C_BadText) = some true)
    (x_BadText_NoSuch : PySem.W.subIn K (.ref C_BadText) (.ref C_NoSuch) = some false)
    (x_NoSuch_BadText : PySem.W.subIn K (.ref C_NoSuch) (.ref C_BadText) = some false)
    (x_NoSuch_NoSuch : PySem.W.subIn K (.ref C_NoSuch) (.ref C_NoSuch) = some true)
    (n_own_ways_back : PySem.W.nsIn K mainGlobals "own_ways_back" = some (some (.ref a_own_ways_back)))
    (l_own_ways_back : K.lookup a_own_ways_back = some ⟨oc_own_ways_back, od_own_ways_back, .func (PySem.W.fnOf "own_ways_back" "own_ways_back" (defArgs s_own_ways_back) (defBody s_own_ways_back) (defScope s_own_ways_back) .none kV_own_ways_back dc_own_ways_back pm_own_ways_back an_own_ways_back cd_own_ways_back ct_own_ways_back), sl_own_ways_back⟩)
    (c_own_ways_back : PySem.W.codeIn K cd_own_ways_back "own_ways_back" = true)
    (k_own_ways_back : PySem.W.keepIn K (.ref a_own_ways_back) = true)
    (n_least_turn : PySem.W.nsIn K mainGlobals "least_turn" = some (some (.ref a_least_turn)))
    (l_least_turn : K.lookup a_least_turn = some ⟨oc_least_turn, od_least_turn, .func (PySem.W.fnOf "least_turn" "least_turn" (defArgs s_least_turn) (defBody s_least_turn) (defScope s_least_turn) .none kV_least_turn dc_least_turn pm_least_turn an_least_turn cd_least_turn ct_least_turn), sl_least_turn⟩)
    (c_least_turn : PySem.W.codeIn K cd_least_turn "least_turn" = true)
    (k_least_turn : PySem.W.keepIn K (.ref a_least_turn) = true)
    (n_falling_words : PySem.W.nsIn K mainGlobals "falling_words" = some (some (.ref a_falling_words)))
    (l_falling_words : K.lookup a_falling_words = some ⟨oc_falling_words, od_falling_words, .func (PySem.W.fnOf "falling_words" "falling_words" (defArgs s_falling_words) (defBody s_falling_words) (defScope s_falling_words) .none kV_falling_words dc_falling_words pm_falling_words an_falling_words cd_falling_words ct_falling_words), sl_falling_words⟩)
    (c_falling_words : PySem.W.codeIn K cd_falling_words "falling_words" = true)
    (k_falling_words : PySem.W.keepIn K (.ref a_falling_words) = true)
    (n_law_dice : PySem.W.nsIn K mainGlobals "_law_dice" = some (some (.ref a_law_dice)))
    (l_law_dice : K.lookup a_law_dice = some ⟨oc_law_dice, od_law_dice, .func (PySem.W.fnOf "_law_dice" "_law_dice" (defArgs s_law_dice) (defBody s_law_dice) (defScope s_law_dice) .none kV_law_dice dc_law_dice pm_law_dice an_law_dice cd_law_dice ct_law_dice), sl_law_dice⟩)
    (c_law_dice : PySem.W.codeIn K cd_law_dice "_law_dice" = true)
    (k_law_dice : PySem.W.keepIn K (.ref a_law_dice) = true)
    (n_law_roll : PySem.W.nsIn K mainGlobals "_law_roll" = some (some (.ref a_law_roll)))
    (l_law_roll : K.lookup a_law_roll = some ⟨oc_law_roll, od_law_roll, .func (PySem.W.fnOf "_law_roll" "_law_roll" (defArgs s_law_roll) (defBody s_law_roll) (defScope s_law_roll) .none kV_law_roll dc_law_roll pm_law_roll an_law_roll cd_law_roll ct_law_roll), sl_law_roll⟩)
    (c_law_roll : PySem.W.codeIn K cd_law_roll "_law_roll" = true)
    (k_law_roll : PySem.W.keepIn K (.ref a_law_roll) = true)
    (n_law_rounds : PySem.W.nsIn K mainGlobals "_law_rounds" = some (some (.ref a_law_rounds)))
    (l_law_rounds : K.lookup a_law_rounds = some ⟨oc_law_rounds, od_law_rounds, .func (PySem.W.fnOf "_law_rounds" "_law_rounds" (defArgs s_law_rounds) (defBody s_law_rounds) (defScope s_law_rounds) .none kV_law_rounds dc_law_rounds pm_law_rounds an_law_rounds cd_law_rounds ct_law_rounds), sl_law_rounds⟩)
    (c_law_rounds : PySem.W.codeIn K cd_law_rounds "_law_rounds" = true)
    (k_law_rounds : PySem.W.keepIn K (.ref a_law_rounds) = true)
    (n_law_told : PySem.W.nsIn K mainGlobals "_law_told" = some (some (.ref a_law_told)))
    (l_law_told : K.lookup a_law_told = some ⟨oc_law_told, od_law_told, .func (PySem.W.fnOf "_law_told" "_law_told" (defArgs s_law_told) (defBody s_law_told) (defScope s_law_told) .none kV_law_told dc_law_told pm_law_told an_law_told cd_law_told ct_law_told), sl_law_told⟩)
    (c_law_told : PySem.W.codeIn K cd_law_told "_law_told" = true)
    (k_law_told : PySem.W.keepIn K (.ref a_law_told) = true)
    (n_law : PySem.W.nsIn K mainGlobals "law" = some (some (.ref a_law)))
    (l_law : K.lookup a_law = some ⟨oc_law, od_law, .func (PySem.W.fnOf "law" "law" (defArgs s_law) (defBody s_law) (defScope s_law) .none kV_law dc_law pm_law an_law (.ref c_law) ct_law), sl_law⟩)
    (c_lawc : PySem.W.codeIn K (.ref c_law) "law" = true)
    (b_abs : PySem.W.nsIn K mainGlobals "abs" = some none)
    (b_int : PySem.W.nsIn K mainGlobals "int" = some none)
    (b_len : PySem.W.nsIn K mainGlobals "len" = some none)
    (b_max : PySem.W.nsIn K mainGlobals "max" = some none)
    (b_min : PySem.W.nsIn K mainGlobals "min" = some none)
    (b_range : PySem.W.nsIn K mainGlobals "range" = some none)
    (b_tuple : PySem.W.nsIn K mainGlobals "tuple" = some none)
    (h_Pt : h.get? Pt = some { cls := .none, data := .fields #[] })
    (h_hd : PySem.W.codeHdIn K c_law Pt = true)
    (h_no : K.lookup Pt = none)
    : LamX.LawAtS l w K (L2.CX l.prog w) 6 63 "script" mg fa h := by
  have e := hfa.symm.trans (PySem.W.mg_of X G n_law)
  cases e
  have F_own_ways_back := fun_mk (st := s_own_ways_back) l_own_ways_back c_own_ways_back k_own_ways_back
  have F_least_turn := fun_mk (st := s_least_turn) l_least_turn c_least_turn k_least_turn
  have F_falling_words := fun_mk (st := s_falling_words) l_falling_words c_falling_words k_falling_words
  have F_law_dice := fun_mk (st := s_law_dice) l_law_dice c_law_dice k_law_dice
  have F_law_roll := fun_mk (st := s_law_roll) l_law_roll c_law_roll k_law_roll
  have F_law_rounds := fun_mk (st := s_law_rounds) l_law_rounds c_law_rounds k_law_rounds
  have F_law_told := fun_mk (st := s_law_told) l_law_told c_law_told k_law_told
  have T : Txt K mg (gx C_BadText C_NoSuch Pt) C_BadText C_NoSuch := ⟨PySem.W.mg_none_of X G b_abs, PySem.W.mg_none_of X G b_int, PySem.W.mg_none_of X G b_len, PySem.W.mg_none_of X G b_max, PySem.W.mg_none_of X G b_min, PySem.W.mg_none_of X G b_range, PySem.W.mg_none_of X G b_tuple, ⟨rfl, e_BadText, PySem.W.mg_of X G m_BadText, k_BadText, s_BadText, t_BadText⟩, ⟨rfl, e_NoSuch, PySem.W.mg_of X G m_NoSuch, k_NoSuch, s_NoSuch, t_NoSuch⟩⟩
  have X_ : ∀ c C, (gx C_BadText C_NoSuch Pt).ca c = some C → ∀ c' C', (gx C_BadText C_NoSuch Pt).ca c' = some C' → PySem.W.exmOne K (.ref C) (.ref C') = some (decide (c' = c)) := by
    intro c C h c' C' h'
    unfold gx at h h'
    dsimp only at h h'
    repeat' split at h
    all_goals repeat' split at h'
    all_goals first | (cases h; done) | (cases h'; done) | skip
    all_goals (cases h; cases h'; subst_vars)
    · exact exm_mk s_BadText i_BadText t_BadText x_BadText_BadText
    · exact exm_mk s_NoSuch i_NoSuch t_NoSuch x_BadText_NoSuch
    · exact exm_mk s_BadText i_BadText t_BadText x_NoSuch_BadText
    · exact exm_mk s_NoSuch i_NoSuch t_NoSuch x_NoSuch_NoSuch
  refine ⟨PySem.W.fnOf "law" "law" (defArgs s_law) (defBody s_law) (defScope s_law) .none kV_law dc_law pm_law an_law (.ref c_law) ct_law, [(c_law, Pt)], spOf K (gx C_BadText C_NoSuch Pt) 1 den_law, ?_, ?_, ?_, fun s v => .of_eq rfl, fun H a ns hl hb hT hs => ?_, fun base Kb Nb TB => ?_⟩
  · intro p hp
    have e : p = (c_law, Pt) := by simpa using hp
    rw [e]; exact h_Pt
  · intro p hp
    have e : p = (c_law, Pt) := by simpa using hp
    rw [e]; exact h_no
  · intro p hp
    have e : p = (c_law, Pt) := by simpa using hp
    rw [e]; exact PySem.W.codeHd_of_K X h_hd
  · obtain ⟨h', hd⟩ := main ns hl hb
    refine law_sp (fun p hp => ?_) hs hd
    have e : p = (Pt, ("law" ++ ".<locals>.<lambda>" : Str)) := by simpa [gx] using hp
    rw [e]
    exact LamX.TabS.nil (hT (c_law, Pt) (by simp))
  · have D_own_ways_back : FnD l.prog w K mg base (gx C_BadText C_NoSuch Pt) 1 "own_ways_back" 1 den_own_ways_back := d_own_ways_back T F_own_ways_back (PySem.W.mg_of X G n_own_ways_back) 
    have D_least_turn : FnD l.prog w K mg base (gx C_BadText C_NoSuch Pt) 1 "least_turn" 1 den_least_turn := d_least_turn T F_least_turn (PySem.W.mg_of X G n_least_turn) 
    have D_falling_words : FnD l.prog w K mg base (gx C_BadText C_NoSuch Pt) 1 "falling_words" 1 den_falling_words := d_falling_words T F_falling_words (PySem.W.mg_of X G n_falling_words) 
    have D_law_dice : FnD l.prog w K mg base (gx C_BadText C_NoSuch Pt) 1 "_law_dice" 1 den_law_dice := d_law_dice T F_law_dice (PySem.W.mg_of X G n_law_dice) 
    have D_law_roll : FnD l.prog w K mg base (gx C_BadText C_NoSuch Pt) 1 "_law_roll" 2 den_law_roll := d_law_roll T F_law_roll (PySem.W.mg_of X G n_law_roll) 
    have D_law_rounds : FnD l.prog w K mg base (gx C_BadText C_NoSuch Pt) 2 "_law_rounds" 2 den_law_rounds := d_law_rounds T F_law_rounds (PySem.W.mg_of X G n_law_rounds) D_law_dice
    have B_law_told := F_law_told.binds (ps := ["what"]) fun _ _ _ _ _ _ us hl => match us, hl with | [_], _ => rfl
    exact d_law T l_law c_lawc D_law_rounds D_law_roll D_own_ways_back D_least_turn D_falling_words F_law_told B_law_told (PySem.W.mg_of X G n_law_told) (TB (c_law, Pt) (by simp)) (by simp [gx]) (fun p hp _ => by have e : p = (Pt, ("law" ++ ".<locals>.<lambda>" : Str)) := (by simpa [gx] using hp); rw [e]) X_
end Law_indexhall_k22_words_turned_and_cut
open PySem PySem.W PyProof.Rows
set_option maxRecDepth 100000 in
set_option maxHeartbeats 0 in
theorem PySem.Challenge.cw_indexhall_k22_words_turned_and_cut_holds : PySem.Challenge.rw_indexhall_k22_words_turned_and_cut.Holds :=
by
  w_on; o_law; k_head; (case hw => w_witness2)
  k_fill
  refine LamX.walk_ofTs (l := PySem.Challenge.rw_indexhall_k22_words_turned_and_cut) (n := 63) (k := 6) (x := "script") (CX := fun w => L2.CX (PySem.Challenge.rw_indexhall_k22_words_turned_and_cut).prog w) rfl (by decide) rfl ⟨rfl, by decide, by decide⟩ (fun w h Y => PySem.W.km_in_of Y) ?F (fun w H s e s' z => by obtain ⟨_, _, _, _, _, _, _, _, _, _, _, _, z⟩ := z; exact z)
  case F =>
    intro w mg fa h Y KX G hmg
    have hT8 := PySem.W.km_tabs_of Y
    refine' Law_indexhall_k22_words_turned_and_cut.fin (l := PySem.Challenge.rw_indexhall_k22_words_turned_and_cut) Law_indexhall_k22_words_turned_and_cut.main KX G hmg ?m_BadText ?e_BadText ?k_BadText ?s_BadText ?t_BadText ?m_NoSuch ?e_NoSuch ?k_NoSuch ?s_NoSuch ?t_NoSuch ?i_BadText ?i_NoSuch ?x_BadText_BadText ?x_BadText_NoSuch ?x_NoSuch_BadText ?x_NoSuch_NoSuch ?n_own_ways_back ?l_own_ways_back ?c_own_ways_back ?k_own_ways_back ?n_least_turn ?l_least_turn ?c_least_turn ?k_least_turn ?n_falling_words ?l_falling_words ?c_falling_words ?k_falling_words ?n_law_dice ?l_law_dice ?c_law_dice ?k_law_dice ?n_law_roll ?l_law_roll ?c_law_roll ?k_law_roll ?n_law_rounds ?l_law_rounds ?c_law_rounds ?k_law_rounds ?n_law_told ?l_law_told ?c_law_told ?k_law_told ?n_law ?l_law ?c_lawc ?b_abs ?b_int ?b_len ?b_max ?b_min ?b_range ?b_tuple ?h_Pt ?h_hd ?h_no
    (case m_BadText => k_is)
    (case e_BadText => k_exc)
    (case k_BadText => k_is)
    (case s_BadText => k_is)
    (case t_BadText => k_is)
    (case m_NoSuch => k_is)
    (case e_NoSuch => k_exc)
    (case k_NoSuch => k_is)
    (case s_NoSuch => k_is)
    (case t_NoSuch => k_is)
    (case i_BadText => k_is)
    (case i_NoSuch => k_is)
    (case x_BadText_BadText => first | rfl | k_is)
    (case x_BadText_NoSuch => first | rfl | k_is)
    (case x_NoSuch_BadText => first | rfl | k_is)
    (case x_NoSuch_NoSuch => first | rfl | k_is)
    (case n_own_ways_back => k_is)
    (case l_own_ways_back => k_is)
    (case c_own_ways_back => k_is)
    (case k_own_ways_back => k_is)
    (case n_least_turn => k_is)
    (case l_least_turn => k_is)
    (case c_least_turn => k_is)
    (case k_least_turn => k_is)
    (case n_falling_words => k_is)
    (case l_falling_words => k_is)
    (case c_falling_words => k_is)
    (case k_falling_words => k_is)
    (case n_law_dice => k_is)
    (case l_law_dice => k_is)
    (case c_law_dice => k_is)
    (case k_law_dice => k_is)
    (case n_law_roll => k_is)
    (case l_law_roll => k_is)
    (case c_law_roll => k_is)
    (case k_law_roll => k_is)
    (case n_law_rounds => k_is)
    (case l_law_rounds => k_is)
    (case c_law_rounds => k_is)
    (case k_law_rounds => k_is)
    (case n_law_told => k_is)
    (case l_law_told => k_is)
    (case c_law_told => k_is)
    (case k_law_told => k_is)
    (case n_law => k_is)
    (case l_law => k_is)
    (case c_lawc => k_is)
    (case b_abs => k_is)
    (case b_int => k_is)
    (case b_len => k_is)
    (case b_max => k_is)
    (case b_min => k_is)
    (case b_range => k_is)
    (case b_tuple => k_is)
    (case h_Pt => exact hT8 _ List.mem_cons_self)
    (case h_hd => kernel_rfl)
    (case h_no => kernel_rfl)
