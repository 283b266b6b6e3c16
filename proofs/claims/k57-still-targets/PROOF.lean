import PyProof.Rows.All
import Wide.All
import OpenK.AllK
import Wide.FinOn
import HandS.ForMost
import HandS.Wide
import HandS.WideBits
import HandS.Gcd
import HandS.IsInst
import HandS.SortKw
import HandS.SortInts
import HandS.Style
import HandS.TupAny
import HandS.Zip
import HandS.Walk
import KE.GoesMore
import HandS.Sort
import PyProof.ReprLen
import HandS.Ends
import PySem.Challenge.RW_partedcolumns_k57_whole_still_targets
set_option Elab.async false
set_option linter.all false
set_option maxRecDepth 100000
set_option maxHeartbeats 4000000
set_option exponentiation.threshold 100000
namespace DL
open PySem PySem.Spec PyProof.Rows L2

/-! ## data, without any heap -/
inductive D where
  | non | bl (b : Bool) | int (i : Int) | str (s : Str) | tup (xs : List D) | rol (xs : List D)
/-- what a name holds: a datum, the k-th list of the store, a built-in type -/
inductive W where
  | d (x : D) | l (k : Nat) | ty (n : String)
abbrev DEnv := List (Option W)
abbrev Sto := List (List D)

def RoL (K : PySem.W.Frag) (H : Hp) (p : Addr) (vs : List V) : Prop := (∃ o, H p = some (.frz o (.lst vs))) ∨ SqL K (fun _ => none) p vs
mutual
def rep (K : PySem.W.Frag) (H : Hp) : D → V → Prop
  | .non, v => v = .non
  | .bl b, v => v = .bl b
  | .int i, v => v = .int i
  | .str s, v => v = .str s
  | .tup xs, v => ∃ p vs, v = .ref p ∧ SqT K H p vs ∧ reps K H xs vs
  | .rol xs, v => ∃ p vs, v = .ref p ∧ RoL K H p vs ∧ reps K H xs vs
def reps (K : PySem.W.Frag) (H : Hp) : List D → List V → Prop
  | [], vs => vs = []
  | d :: ds, vs => ∃ v r, vs = v :: r ∧ rep K H d v ∧ reps K H ds r
end
def Fix : HO → Prop
  | .tup _ => True
  | .frz _ _ => True
  | _ => False
def KeepF (H H' : Hp) : Prop := ∀ p o, Fix o → H p = some o → H' p = some o
section
variable {K : PySem.W.Frag} {H H' H1 H2 : Hp}
theorem SqT.keepF {p : Addr} {vs : List V} (k : KeepF H H') (h : SqT K H p vs) : SqT K H' p vs := by
  rcases h with (h | ⟨o, h⟩) | h
  · exact .inl (.inl (k _ _ trivial h))
  · exact .inl (.inr ⟨o, k _ _ trivial h⟩)
  · exact .inr h
theorem RoL.keepF {p : Addr} {vs : List V} (k : KeepF H H') (h : RoL K H p vs) : RoL K H' p vs := by
  rcases h with ⟨o, h⟩ | h
  · exact .inl ⟨o, k _ _ trivial h⟩
  · exact .inr h
theorem RoL.sq {p : Addr} {vs : List V} (h : RoL K H p vs) : SqL K H p vs := by
  rcases h with ⟨o, h⟩ | (h | ⟨o, h⟩) | h
  · exact .inl (.inr ⟨o, h⟩)
  · cases h
  · cases h
  · exact .inr h
mutual
theorem rep.mono (k : KeepF H H') : ∀ (d : D) (v : V), rep K H d v → rep K H' d v
  | .non, _, h => by simpa [rep] using h
  | .bl _, _, h => by simpa [rep] using h
  | .int _, _, h => by simpa [rep] using h
  | .str _, _, h => by simpa [rep] using h
  | .tup xs, v, h => by
    unfold rep at h ⊢
    obtain ⟨p, vs, e, hs, hr⟩ := h
    exact ⟨p, vs, e, SqT.keepF k hs, reps.mono k xs vs hr⟩
  | .rol xs, v, h => by
    unfold rep at h ⊢
    obtain ⟨p, vs, e, hs, hr⟩ := h
    exact ⟨p, vs, e, hs.keepF k, reps.mono k xs vs hr⟩
theorem reps.mono (k : KeepF H H') : ∀ (ds : List D) (vs : List V), reps K H ds vs → reps K H' ds vs
  | [], _, h => by simpa [reps] using h
  | d :: ds, vs, h => by
    unfold reps at h ⊢
    obtain ⟨v, r, e, h1, h2⟩ := h
    exact ⟨v, r, e, rep.mono k d v h1, reps.mono k ds r h2⟩
end
theorem reps.nil {vs : List V} (h : reps K H [] vs) : vs = [] := by simpa [reps] using h
theorem reps.length : ∀ {ds : List D} {vs : List V}, reps K H ds vs → ds.length = vs.length
  | [], vs, h => by rw [reps.nil h]; rfl
  | d :: ds, vs, h => by
    unfold reps at h
    obtain ⟨v, r, rfl, _, h2⟩ := h
    simp [reps.length h2]
theorem reps.get : ∀ {ds : List D} {vs : List V} {i : Nat} {d : D}, reps K H ds vs → ds[i]? = some d → ∃ v, vs[i]? = some v ∧ rep K H d v
  | [], _, _, _, _, e => by simp at e
  | a :: ds, vs, i, d, h, e => by
    unfold reps at h
    obtain ⟨v, r, rfl, h1, h2⟩ := h
    cases i with
    | zero =>
      simp only [List.getElem?_cons_zero, Option.some.injEq] at e
      subst e
      exact ⟨v, by simp, h1⟩
    | succ i =>
      simp only [List.getElem?_cons_succ] at e
      obtain ⟨w, q1, q2⟩ := reps.get h2 e
      exact ⟨w, by simpa using q1, q2⟩
theorem reps.getV : ∀ {ds : List D} {vs : List V} {i : Nat} {v : V}, reps K H ds vs → vs[i]? = some v → ∃ d, ds[i]? = some d ∧ rep K H d v := fun {ds vs i v} h e => by
  have hl := h.length
  have hi : i < vs.length := (List.getElem?_eq_some_iff.mp e).1
  have q : ds[i]? = some ds[i] := List.getElem?_eq_getElem (by omega)
  obtain ⟨w, q1, q2⟩ := h.get q
  rw [e] at q1
  cases q1
  exact ⟨_, q, q2⟩
theorem reps.cons {d : D} {ds : List D} {v : V} {vs : List V} (h : rep K H d v) (r : reps K H ds vs) : reps K H (d :: ds) (v :: vs) := by
  unfold reps
  exact ⟨v, vs, rfl, h, r⟩
theorem reps.of_nil : reps K H [] [] := by simp [reps]
theorem reps.append : ∀ {ds es : List D} {vs us : List V}, reps K H ds vs → reps K H es us → reps K H (ds ++ es) (vs ++ us)
  | [], _, vs, _, h, q => by rw [reps.nil h]; exact q
  | d :: ds, es, vs, us, h, q => by
    unfold reps at h
    obtain ⟨v, r, rfl, h1, h2⟩ := h
    exact reps.cons h1 (reps.append h2 q)
theorem reps.drop : ∀ {ds : List D} {vs : List V} (n : Nat), reps K H ds vs → reps K H (ds.drop n) (vs.drop n)
  | ds, vs, 0, h => h
  | [], vs, n + 1, h => by rw [reps.nil h]; simpa [reps] using h.symm ▸ rfl
  | d :: ds, vs, n + 1, h => by
    unfold reps at h
    obtain ⟨v, r, rfl, h1, h2⟩ := h
    exact reps.drop n h2
theorem reps.take : ∀ {ds : List D} {vs : List V} (n : Nat), reps K H ds vs → reps K H (ds.take n) (vs.take n)
  | ds, vs, 0, h => by simp [reps]
  | [], vs, n + 1, h => by rw [reps.nil h]; simp [reps]
  | d :: ds, vs, n + 1, h => by
    unfold reps at h
    obtain ⟨v, r, rfl, h1, h2⟩ := h
    exact reps.cons h1 (reps.take n h2)
theorem reps.set : ∀ {ds : List D} {vs : List V} {d : D} {v : V} (n : Nat), reps K H ds vs → rep K H d v → reps K H (ds.set n d) (vs.set n v)
  | [], vs, _, _, n, h, _ => by rw [reps.nil h]; simp [reps]
  | a :: ds, vs, d, v, n, h, q => by
    unfold reps at h
    obtain ⟨w, r, rfl, h1, h2⟩ := h
    cases n with
    | zero => exact reps.cons q h2
    | succ n => exact reps.cons h1 (reps.set n h2 q)
theorem reps.eraseIdx : ∀ {ds : List D} {vs : List V} (n : Nat), reps K H ds vs → reps K H (ds.eraseIdx n) (vs.eraseIdx n)
  | [], vs, n, h => by rw [reps.nil h]; simp [reps]
  | a :: ds, vs, n, h => by
    unfold reps at h
    obtain ⟨w, r, rfl, h1, h2⟩ := h
    cases n with
    | zero => exact h2
    | succ n => exact reps.cons h1 (reps.eraseIdx n h2)
theorem reps.ints : ∀ {ns : List Int} {vs : List V}, reps K H (ns.map D.int) vs → vs = ns.map V.int
  | [], vs, h => reps.nil h
  | n :: ns, vs, h => by
    rw [List.map_cons] at h
    unfold reps at h
    obtain ⟨v, r, rfl, h1, h2⟩ := h
    have e : v = .int n := by simpa [rep] using h1
    rw [e, reps.ints h2]
    rfl
theorem reps.of_ints : ∀ {ns : List Int}, reps K H (ns.map D.int) (ns.map V.int)
  | [] => reps.of_nil
  | n :: ns => reps.cons (by simp [rep]) reps.of_ints
theorem reps.bls : ∀ {ns : List Bool} {vs : List V}, reps K H (ns.map D.bl) vs → vs = ns.map V.bl
  | [], vs, h => reps.nil h
  | n :: ns, vs, h => by
    rw [List.map_cons] at h
    unfold reps at h
    obtain ⟨v, r, rfl, h1, h2⟩ := h
    have e : v = .bl n := by simpa [rep] using h1
    rw [e, reps.bls h2]
    rfl
end

/-! ## the store, the names -/
def repW (K : PySem.W.Frag) (H : Hp) (μ : List Addr) : W → V → Prop
  | .d x, v => rep K H x v
  | .l k, v => ∃ p, v = .ref p ∧ μ[k]? = some p
  | .ty n, v => v = .ty n
structure StoR (K : PySem.W.Frag) (H : Hp) (μ : List Addr) (τ : Sto) : Prop where
  len : μ.length = τ.length
  nd : μ.Nodup
  ap : ∀ (k : Nat) (p : Addr), μ[k]? = some p → ∃ ds vs, τ[k]? = some ds ∧ H p = some (.lst vs) ∧ reps K H ds vs
structure EnvR (K : PySem.W.Frag) (H : Hp) (μ : List Addr) (σ : L2.St) (ρ : DEnv) : Prop where
  len : ρ.length = σ.length
  ap : ∀ (i : Nat) (w : W), ρ[i]? = some (some w) → ∃ v, σ[i]? = some (some v) ∧ repW K H μ w v
structure Evo (μ : List Addr) (H : Hp) (μ' : List Addr) (H' : Hp) : Prop where
  grow : ∃ ν, μ' = μ ++ ν
  keep : ∀ p o, p ∉ μ → H p = some o → H' p = some o
  new : ∀ p, p ∈ μ' → p ∉ μ → H p = none
section
variable {K : PySem.W.Frag} {H H' H1 H2 : Hp} {μ μ' μ1 μ2 : List Addr} {τ τ' τ1 : Sto} {σ : L2.St} {ρ : DEnv}
theorem Evo.refl : Evo μ H μ H := ⟨⟨[], by simp⟩, fun _ _ _ h => h, fun p a b => absurd a b⟩
theorem Evo.trans (a : Evo μ H μ1 H1) (b : Evo μ1 H1 μ2 H2) : Evo μ H μ2 H2 := by
  obtain ⟨ν, e⟩ := a.grow
  obtain ⟨ν', e'⟩ := b.grow
  refine ⟨⟨ν ++ ν', by rw [e', e, List.append_assoc]⟩, fun p o hp h => ?_, fun p hp hn => ?_⟩
  · refine b.keep p o (fun q => ?_) (a.keep p o hp h)
    have := a.new p q hp
    rw [h] at this
    cases this
  · by_cases h1 : p ∈ μ1
    · exact a.new p h1 hn
    · cases e2 : H p with
      | none => rfl
      | some o =>
        have := b.new p hp h1
        rw [a.keep p o hn e2] at this
        cases this
theorem StoR.lst (S : StoR K H μ τ) {p : Addr} (h : p ∈ μ) : ∃ vs, H p = some (.lst vs) := by
  obtain ⟨k, e⟩ := List.mem_iff_getElem?.mp h
  obtain ⟨_, vs, _, q, _⟩ := S.ap k p e
  exact ⟨vs, q⟩
theorem StoR.notIn (S : StoR K H μ τ) {p : Addr} {o : HO} (h : H p = some o) (f : Fix o) : p ∉ μ := fun q => by
  obtain ⟨vs, e⟩ := S.lst q
  rw [h] at e
  cases e
  exact f
theorem StoR.fresh (S : StoR K H μ τ) {p : Addr} (h : H p = none) : p ∉ μ := fun q => by
  obtain ⟨vs, e⟩ := S.lst q
  rw [h] at e
  cases e
theorem StoR.keepF (S : StoR K H μ τ) (e : Evo μ H μ' H') : KeepF H H' := fun p o f h => e.keep p o (S.notIn h f) h
theorem repW.evo (S : StoR K H μ τ) (e : Evo μ H μ' H') : ∀ {w : W} {v : V}, repW K H μ w v → repW K H' μ' w v
  | .d x, v, h => rep.mono (S.keepF e) x v h
  | .l k, v, h => by
    obtain ⟨p, e1, e2⟩ := h
    obtain ⟨ν, e3⟩ := e.grow
    exact ⟨p, e1, by rw [e3, List.getElem?_append_left (List.getElem?_eq_some_iff.mp e2).1]; exact e2⟩
  | .ty n, v, h => h
theorem EnvR.evo (E : EnvR K H μ σ ρ) (S : StoR K H μ τ) (e : Evo μ H μ' H') : EnvR K H' μ' σ ρ := ⟨E.len, fun i w h => by
  obtain ⟨v, h1, h2⟩ := E.ap i w h
  exact ⟨v, h1, h2.evo S e⟩⟩
theorem EnvR.set (E : EnvR K H μ σ ρ) {w : W} {v : V} (h : repW K H μ w v) (i : Nat) : EnvR K H μ (σ.set i (some v)) (ρ.set i (some w)) := ⟨by simp [E.len], fun j u hj => by
  rw [List.getElem?_set] at hj ⊢
  by_cases e : i = j
  · subst e
    rw [if_pos rfl] at hj ⊢
    by_cases l : i < ρ.length
    · rw [if_pos l] at hj
      cases hj
      rw [if_pos (by rw [← E.len]; exact l)]
      exact ⟨v, rfl, h⟩
    · rw [if_neg l] at hj
      cases hj
  · rw [if_neg e] at hj ⊢
    exact E.ap j u hj⟩
/-- a new object that is no list of the store -/
theorem Evo.new1 {p : Addr} {o : HO} (h : H p = none) : Evo μ H μ (upd H p o) := ⟨⟨[], by simp⟩, fun q u _ e => by rw [upd_ne (ne_of_none e h)]; exact e, fun q a b => absurd a b⟩
theorem StoR.new1 (S : StoR K H μ τ) {p : Addr} {o : HO} (h : H p = none) : StoR K (upd H p o) μ τ := ⟨S.len, S.nd, fun k q e => by
  obtain ⟨ds, vs, h1, h2, h3⟩ := S.ap k q e
  exact ⟨ds, vs, h1, by rw [upd_ne (ne_of_none h2 h)]; exact h2, reps.mono (S.keepF (Evo.new1 h)) ds vs h3⟩⟩
/-- a new list -/
theorem Evo.newL {p : Addr} {vs : List V} (h : H p = none) : Evo μ H (μ ++ [p]) (upd H p (.lst vs)) := ⟨⟨[p], rfl⟩, fun q u _ e => by rw [upd_ne (ne_of_none e h)]; exact e, fun q a b => by
  rcases List.mem_append.mp a with z | z
  · exact absurd z b
  · rw [List.mem_singleton.mp z]
    exact h⟩
theorem StoR.newL (S : StoR K H μ τ) {p : Addr} {ds : List D} {vs : List V} (h : H p = none) (r : reps K H ds vs) : StoR K (upd H p (.lst vs)) (μ ++ [p]) (τ ++ [ds]) := by
  have kf : KeepF H (upd H p (.lst vs)) := S.keepF (μ' := μ ++ [p]) (Evo.newL h)
  refine ⟨by simp [S.len], ?_, fun k q e => ?_⟩
  · rw [List.nodup_append]
    refine ⟨S.nd, by simp, fun a ha b hb => ?_⟩
    rw [List.mem_singleton.mp hb]
    intro z
    rw [z] at ha
    exact S.fresh h ha
  · by_cases hk : k < μ.length
    · rw [List.getElem?_append_left hk] at e
      obtain ⟨ds', vs', h1, h2, h3⟩ := S.ap k q e
      exact ⟨ds', vs', by rw [List.getElem?_append_left (by rw [← S.len]; exact hk)]; exact h1, by rw [upd_ne (ne_of_none h2 h)]; exact h2, reps.mono kf _ _ h3⟩
    · rw [List.getElem?_append_right (by omega)] at e
      have k0 : k - μ.length = 0 := by
        have := (List.getElem?_eq_some_iff.mp e).1
        simp at this
        omega
      rw [k0] at e
      have e' : p = q := by simpa using e
      subst e'
      exact ⟨ds, vs, by rw [List.getElem?_append_right (by rw [← S.len]; omega), ← S.len, k0]; rfl, upd_same, reps.mono kf _ _ r⟩
/-- the k-th list written -/
theorem Evo.wr {p : Addr} {o : HO} (h : p ∈ μ) : Evo μ H μ (upd H p o) := ⟨⟨[], by simp⟩, fun q u hq e => by
  rw [upd_ne (fun z => hq (by rw [z]; exact h))]
  exact e, fun q a b => absurd a b⟩
theorem StoR.wr (S : StoR K H μ τ) {p : Addr} {k : Nat} {ds : List D} {vs : List V} (h : μ[k]? = some p) (r : reps K H ds vs) : StoR K (upd H p (.lst vs)) μ (τ.set k ds) := by
  have hp : p ∈ μ := List.mem_iff_getElem?.mpr ⟨k, h⟩
  have kf : KeepF H (upd H p (.lst vs)) := S.keepF (μ' := μ) (Evo.wr hp)
  refine ⟨by simp [S.len], S.nd, fun j q e => ?_⟩
  by_cases hj : k = j
  · subst hj
    rw [h] at e
    cases e
    have hk : k < τ.length := by rw [← S.len]; exact (List.getElem?_eq_some_iff.mp h).1
    exact ⟨ds, vs, by rw [List.getElem?_set, if_pos rfl, if_pos hk], upd_same, reps.mono kf _ _ r⟩
  · obtain ⟨ds', vs', h1, h2, h3⟩ := S.ap j q e
    have nq : q ≠ p := fun z => by
      rw [z] at e
      exact hj (nd_ix S.nd h e)
    exact ⟨ds', vs', by rw [List.getElem?_set_ne hj]; exact h1, by rw [upd_ne nq]; exact h2, reps.mono kf _ _ h3⟩
end

/-! ## readings over data -/
abbrev XK1 := W → Sto → Prop
abbrev XE := DEnv → Sto → XK1 → Prop
abbrev XT := DEnv → Sto → (Bool → Sto → Prop) → Prop
abbrev XA := DEnv → Sto → (List W → Sto → Prop) → Prop
structure XEnds where
  nx : DEnv → Sto → Prop
  rt : XK1
  bk : DEnv → Sto → Prop := fun _ _ => False
  ct : DEnv → Sto → Prop := fun _ _ => False
abbrev XS := XEnds → DEnv → Sto → Prop
/-- what follows -/
def Kont (K : PySem.W.Frag) (μ : List Addr) (H : Hp) (R : XK1) (Q : VK) : Prop := ∀ w τ', R w τ' → ∀ v μ' H', Evo μ H μ' H' → StoR K H' μ' τ' → repW K H' μ' w v → Q v H'
def KontB (K : PySem.W.Frag) (μ : List Addr) (H : Hp) (R : Bool → Sto → Prop) (Q : Bool → Hp → Prop) : Prop := ∀ b τ', R b τ' → ∀ μ' H', Evo μ H μ' H' → StoR K H' μ' τ' → Q b H'
def repWs (K : PySem.W.Frag) (H : Hp) (μ : List Addr) : List W → List V → Prop
  | [], vs => vs = []
  | w :: ws, vs => ∃ v r, vs = v :: r ∧ repW K H μ w v ∧ repWs K H μ ws r
def KontA (K : PySem.W.Frag) (μ : List Addr) (H : Hp) (R : List W → Sto → Prop) (Q : List V → Hp → Prop) : Prop := ∀ ws τ', R ws τ' → ∀ vs μ' H', Evo μ H μ' H' → StoR K H' μ' τ' → repWs K H' μ' ws vs → Q vs H'
def KontN (K : PySem.W.Frag) (μ : List Addr) (H : Hp) (R : DEnv → Sto → Prop) (Q : L2.St → Hp → Prop) : Prop := ∀ ρ' τ', R ρ' τ' → ∀ σ' μ' H', Evo μ H μ' H' → StoR K H' μ' τ' → EnvR K H' μ' σ' ρ' → Q σ' H'
structure KontS (K : PySem.W.Frag) (μ : List Addr) (H : Hp) (O : XEnds) (D : Ends) : Prop where
  nx : KontN K μ H O.nx D.nx
  rt : Kont K μ H O.rt D.rt
  bk : KontN K μ H O.bk D.bk
  ct : KontN K μ H O.ct D.ct
def liftE (K : PySem.W.Frag) (t : XE) : TE := fun σ H Q => ∃ μ ρ τ R, EnvR K H μ σ ρ ∧ StoR K H μ τ ∧ t ρ τ R ∧ Kont K μ H R Q
def liftT (K : PySem.W.Frag) (t : XT) : TT := fun σ H Q => ∃ μ ρ τ R, EnvR K H μ σ ρ ∧ StoR K H μ τ ∧ t ρ τ R ∧ KontB K μ H R Q
def liftA (K : PySem.W.Frag) (t : XA) : TA := fun σ H Q => ∃ μ ρ τ R, EnvR K H μ σ ρ ∧ StoR K H μ τ ∧ t ρ τ R ∧ KontA K μ H R Q
def liftS (K : PySem.W.Frag) (t : XS) : TS := fun D σ H => ∃ μ ρ τ O, EnvR K H μ σ ρ ∧ StoR K H μ τ ∧ t O ρ τ ∧ KontS K μ H O D
abbrev DE (X : Cx) (e : Expr) (t : XE) : Prop := PE X e (liftE X.K t)
abbrev DT (X : Cx) (e : Expr) (t : XT) : Prop := PT X e (liftT X.K t)
abbrev DA (X : Cx) (es : List Expr) (t : XA) : Prop := PA X es (liftA X.K t)
abbrev DSt (X : Cx) (s : Stmt) (t : XS) : Prop := PS X s (liftS X.K t)
abbrev DSs (X : Cx) (ss : List Stmt) (t : XS) : Prop := PSs X ss (liftS X.K t)
section
variable {K : PySem.W.Frag} {H H' H1 : Hp} {μ μ' μ1 : List Addr} {τ τ' : Sto} {σ : L2.St} {ρ : DEnv}
theorem Kont.evo {R : XK1} {Q : VK} (k : Kont K μ H R Q) (e : Evo μ H μ1 H1) : Kont K μ1 H1 R Q := fun w τ' r v μ' H' e' => k w τ' r v μ' H' (e.trans e')
theorem KontB.evo {R : Bool → Sto → Prop} {Q : Bool → Hp → Prop} (k : KontB K μ H R Q) (e : Evo μ H μ1 H1) : KontB K μ1 H1 R Q := fun w τ' r μ' H' e' => k w τ' r μ' H' (e.trans e')
theorem KontA.evo {R : List W → Sto → Prop} {Q : List V → Hp → Prop} (k : KontA K μ H R Q) (e : Evo μ H μ1 H1) : KontA K μ1 H1 R Q := fun w τ' r v μ' H' e' => k w τ' r v μ' H' (e.trans e')
theorem KontN.evo {R : DEnv → Sto → Prop} {Q : L2.St → Hp → Prop} (k : KontN K μ H R Q) (e : Evo μ H μ1 H1) : KontN K μ1 H1 R Q := fun w τ' r v μ' H' e' => k w τ' r v μ' H' (e.trans e')
theorem KontS.evo {O : XEnds} {D : Ends} (k : KontS K μ H O D) (e : Evo μ H μ1 H1) : KontS K μ1 H1 O D := ⟨k.nx.evo e, k.rt.evo e, k.bk.evo e, k.ct.evo e⟩
theorem Kont.now {R : XK1} {Q : VK} {w : W} {v : V} (k : Kont K μ H R Q) (S : StoR K H μ τ) (r : R w τ) (h : repW K H μ w v) : Q v H := k w τ r v μ H Evo.refl S h
theorem KontB.now {R : Bool → Sto → Prop} {Q : Bool → Hp → Prop} {b : Bool} (k : KontB K μ H R Q) (S : StoR K H μ τ) (r : R b τ) : Q b H := k b τ r μ H Evo.refl S
theorem KontA.now {R : List W → Sto → Prop} {Q : List V → Hp → Prop} {ws : List W} {vs : List V} (k : KontA K μ H R Q) (S : StoR K H μ τ) (r : R ws τ) (h : repWs K H μ ws vs) : Q vs H := k ws τ r vs μ H Evo.refl S h
theorem KontN.now {R : DEnv → Sto → Prop} {Q : L2.St → Hp → Prop} (k : KontN K μ H R Q) (S : StoR K H μ τ) (E : EnvR K H μ σ ρ) (r : R ρ τ) : Q σ H := k ρ τ r σ μ H Evo.refl S E
/-- a datum given -/
theorem Kont.nowD {R : XK1} {Q : VK} {x : D} {v : V} (k : Kont K μ H R Q) (S : StoR K H μ τ) (r : R (.d x) τ) (h : rep K H x v) : Q v H := k.now S r h
/-- a new tuple -/
theorem Kont.newT {R : XK1} {Q : VK} {xs : List D} {vs : List V} {p : Addr} (k : Kont K μ H R Q) (S : StoR K H μ τ) (r : R (.d (.tup xs)) τ) (h : reps K H xs vs) (hp : H p = none) : Q (.ref p) (upd H p (.tup vs)) :=
  k _ τ r _ μ _ (Evo.new1 hp) (S.new1 hp) (by
    show rep K _ (.tup xs) (.ref p)
    unfold rep
    exact ⟨p, vs, rfl, SqT.of upd_same, reps.mono (S.keepF (Evo.new1 hp)) _ _ h⟩)
/-- a new list -/
theorem Kont.newL {R : XK1} {Q : VK} {xs : List D} {vs : List V} {p : Addr} (k : Kont K μ H R Q) (S : StoR K H μ τ) (r : R (.l τ.length) (τ ++ [xs])) (h : reps K H xs vs) (hp : H p = none) : Q (.ref p) (upd H p (.lst vs)) :=
  k _ (τ ++ [xs]) r _ (μ ++ [p]) _ (Evo.newL hp) (S.newL hp h) ⟨p, rfl, by rw [← S.len]; simp⟩
/-- the k-th list written, None told -/
theorem Kont.wr {R : XK1} {Q : VK} {xs : List D} {vs : List V} {p : Addr} {j : Nat} {w : W} {v : V} (k : Kont K μ H R Q) (S : StoR K H μ τ) (hj : μ[j]? = some p) (r : R w (τ.set j xs)) (h : reps K H xs vs) (hw : repW K H μ w v) : Q v (upd H p (.lst vs)) :=
  k _ _ r _ μ _ (Evo.wr (List.mem_iff_getElem?.mpr ⟨j, hj⟩)) (S.wr hj h) (hw.evo S (Evo.wr (List.mem_iff_getElem?.mpr ⟨j, hj⟩)))
theorem StoR.at' (S : StoR K H μ τ) {k : Nat} {p : Addr} {ds : List D} (h : μ[k]? = some p) (e : τ[k]? = some ds) : ∃ vs, H p = some (.lst vs) ∧ reps K H ds vs := by
  obtain ⟨ds', vs, h1, h2, h3⟩ := S.ap k p h
  rw [e] at h1
  cases h1
  exact ⟨vs, h2, h3⟩
end
/-! ## weaker readings -/
section
variable {X : Cx}
theorem pe_imp {e : Expr} {t t' : TE} (h : PE X e t) (i : ∀ σ H Q, t' σ H Q → t σ H Q) : PE X e t' := ⟨fun pins s σ H Q I q => h.run pins s σ H Q I (i σ H Q q)⟩
theorem pt_imp {e : Expr} {t t' : TT} (h : PT X e t) (i : ∀ σ H Q, t' σ H Q → t σ H Q) : PT X e t' := ⟨fun pins s σ H Q I q => h.run pins s σ H Q I (i σ H Q q)⟩
theorem pw_imp {e : Expr} {t t' : TT} (h : PW X e t) (i : ∀ σ H Q, t' σ H Q → t σ H Q) : PW X e t' := ⟨fun wh pins s σ H Q I q => h.run wh pins s σ H Q I (i σ H Q q)⟩
theorem pa_imp {es : List Expr} {t t' : TA} (h : PA X es t) (i : ∀ σ H Q, t' σ H Q → t σ H Q) : PA X es t' := ⟨fun pos pins s σ H Q I q => h.run pos pins s σ H Q I (i σ H Q q)⟩
theorem ps_imp {s : Stmt} {t t' : TS} (h : PS X s t) (i : ∀ D σ H, t' D σ H → t D σ H) : PS X s t' := ⟨fun pins s σ H D I q => h.run pins s σ H D I (i D σ H q)⟩
theorem pss_imp {s : List Stmt} {t t' : TS} (h : PSs X s t) (i : ∀ D σ H, t' D σ H → t D σ H) : PSs X s t' := ⟨fun pins s σ H D I q => h.run pins s σ H D I (i D σ H q)⟩
end
end DL

namespace DL
open PySem PySem.Spec PyProof.Rows L2
/-! ## names, constants, operators -/
def xVar (i : Nat) : XE := fun ρ τ R => match ρ[i]? with
  | some (some w) => R w τ
  | _ => False
def xC (w : W) : XE := fun _ τ R => R w τ
def xOp (q : W → W → Sto → XK1 → Prop) (ta tb : XE) : XE := fun ρ τ R => ta ρ τ fun x τ1 => tb ρ τ1 fun y τ2 => q x y τ2 R
def xUn (q : W → Sto → XK1 → Prop) (ta : XE) : XE := fun ρ τ R => ta ρ τ fun x τ1 => q x τ1 R
def OpL (K : PySem.W.Frag) (r : R2) (q : W → W → Sto → XK1 → Prop) : Prop := ∀ {H : Hp} {μ : List Addr} {τ : Sto} {x y : W} {vx vy : V} {R : XK1} {Q : VK},
  StoR K H μ τ → repW K H μ x vx → repW K H μ y vy → q x y τ R → Kont K μ H R Q → r vx vy H Q
def UnL (K : PySem.W.Frag) (r : V → Hp → VK → Prop) (q : W → Sto → XK1 → Prop) : Prop := ∀ {H : Hp} {μ : List Addr} {τ : Sto} {x : W} {vx : V} {R : XK1} {Q : VK},
  StoR K H μ τ → repW K H μ x vx → q x τ R → Kont K μ H R Q → r vx H Q
section
variable {X : Cx} {K : PySem.W.Frag} {a b e : Expr} {ta tb te : XE} {pos : Pos} {q : W → W → Sto → XK1 → Prop} {r : R2}
theorem d_var (i : Nat) {x : Str} (hN : X.N[i]? = some x := by rfl)
    (hv : Vis X.env.scope x := by first | exact Or.inl rfl | exact Or.inr (Or.inl rfl) | exact Or.inr (Or.inr rfl)) (h1 : (x == ("__debug__" : Str)) = false := by decide)
    (h2 : (x == ("__classdict__" : Str)) = false := by decide) : DE X (.Name x pos) (xVar i) :=
  pe_imp (pe_var hN hv h1 h2) fun σ H Q ⟨μ, ρ, τ, R, E, S, h, k⟩ => by
    unfold xVar at h
    split at h
    · rename_i w e
      obtain ⟨v, e1, e2⟩ := E.ap i w e
      exact ⟨v, e1, k.now S h e2⟩
    · exact h.elim
theorem lift_C {w : W} {v : V} (hr : ∀ H μ, repW K H μ w v) {σ : L2.St} {H : Hp} {Q : VK} : liftE K (xC w) σ H Q → tC v σ H Q := fun ⟨μ, ρ, τ, R, E, S, h, k⟩ => k.now S h (hr H μ)
theorem d_int {i : Int} {j : Nat} : DE X (.Constant (.int i) j pos) (xC (.d (.int i))) := pe_imp pe_int fun _ _ _ => lift_C fun _ _ => by show rep _ _ _ _; simp [rep]
theorem d_bl {i : Bool} {j : Nat} : DE X (.Constant (.bool i) j pos) (xC (.d (.bl i))) := pe_imp pe_bl fun _ _ _ => lift_C fun _ _ => by show rep _ _ _ _; simp [rep]
theorem d_str {i : Str} {j : Nat} : DE X (.Constant (.str i) j pos) (xC (.d (.str i))) := pe_imp pe_str fun _ _ _ => lift_C fun _ _ => by show rep _ _ _ _; simp [rep]
theorem d_non {j : Nat} : DE X (.Constant .none j pos) (xC (.d .non)) := pe_imp pe_non fun _ _ _ => lift_C fun _ _ => by show rep _ _ _ _; simp [rep]
/-- a module's constant -/
structure GlobD (K : PySem.W.Frag) (mg : Str → Option Value) (x : Str) (d : D) : Prop where
  ex : ∃ u v, mg x = some u ∧ RelV v u ∧ rep K (fun _ => none) d v
theorem rep.any {H : Hp} {d : D} {v : V} (h : rep K (fun _ => none) d v) : rep K H d v := rep.mono (fun p o _ e => by cases e) d v h
theorem d_glob {x : Str} {d : D} (hg : Gl X x) (G : GlobD X.K X.mg x d) (hd : (x == ("__debug__" : Str)) = false := by decide) : DE X (.Name x pos) (xC (.d d)) := by
  obtain ⟨u, v, h1, h2, h3⟩ := G.ex
  exact pe_imp (pe_glob hg h1 h2 hd) fun _ _ _ => lift_C fun H _ => by
    show rep _ _ _ _
    exact rep.any h3
theorem d_ty {x : Str} {n : String} (hg : Gl X x) (hm : X.mg x = none) (hv : bootBuiltins x = some (.type n)) (hn : x ≠ "__name__" := by decide) (hd : (x == ("__debug__" : Str)) = false := by decide) :
    DE X (.Name x pos) (xC (.ty n)) := pe_imp (pe_bltn (v := .ty n) hg hm hv rfl hn hd) fun _ _ _ => lift_C (v := .ty n) fun _ _ => by show V.ty n = V.ty n; rfl
theorem lift_op (hl : OpL K r q) {σ : L2.St} {H : Hp} {Q : VK} : liftE K (xOp q ta tb) σ H Q → tOp r (liftE K ta) (liftE K tb) σ H Q := fun ⟨μ, ρ, τ, R, E, S, h, k⟩ =>
  ⟨μ, ρ, τ, _, E, S, h, fun x τ1 hx vx μ1 H1 e1 S1 r1 => ⟨μ1, ρ, τ1, _, E.evo S e1, S1, hx, fun y τ2 hy vy μ2 H2 e2 S2 r2 => hl S2 (r1.evo S1 e2) r2 hy (k.evo (e1.trans e2))⟩⟩
theorem d_op {op : Operator} (ho : OpR X (binaryOp op) r) (hl : OpL X.K r q) (ha : DE X a ta) (hb : DE X b tb) : DE X (.BinOp a op b pos) (xOp q ta tb) := pe_imp (pe_op ho ha hb) fun _ _ _ => lift_op hl
theorem d_cmp {op : CmpOp} (ho : OpR X (compareOp op) r) (hl : OpL X.K r q) (ha : DE X a ta) (hb : DE X b tb) (hm : behindInMarks op b = false) : DE X (.Compare a [op] [b] pos) (xOp q ta tb) :=
  pe_imp (pe_cmpR ho ha hb hm) fun _ _ _ => lift_op hl
theorem d_ix (ho : IxR X r) (hl : OpL X.K r q) (ha : DE X a ta) (hb : DE X b tb) (hs : PlainIx b) : DE X (.Subscript a b pos) (xOp q ta tb) := pe_imp (pe_ix ho ha hb hs) fun _ _ _ => lift_op hl
theorem d_un {op : UnaryOp} {r1 : V → Hp → VK → Prop} {q1 : W → Sto → XK1 → Prop} (ho : UnR X (unaryOp op) r1) (hl : UnL X.K r1 q1) (ha : DE X a ta) : DE X (.UnaryOp op a pos) (xUn q1 ta) :=
  pe_imp (pe_un ho ha) fun σ H Q ⟨μ, ρ, τ, R, E, S, h, k⟩ => ⟨μ, ρ, τ, _, E, S, h, fun x τ1 hx vx μ1 H1 e1 S1 r1' => hl S1 r1' hx (k.evo e1)⟩
end
/-! ### two ints -/
def qI (C : Int → Int → Prop) (g : Int → Int → D) : W → W → Sto → XK1 → Prop
  | .d (.int i), .d (.int j), τ, R => C i j ∧ R (.d (g i j)) τ
  | _, _, _, _ => False
def qI0 (g : Int → Int → D) : W → W → Sto → XK1 → Prop
  | .d (.int i), .d (.int j), τ, R => R (.d (g i j)) τ
  | _, _, _, _ => False
section
variable {K : PySem.W.Frag}
theorem repW_int {H : Hp} {μ : List Addr} {i : Int} {v : V} (h : repW K H μ (.d (.int i)) v) : v = .int i := by
  have : rep K H (.int i) v := h
  simpa [rep] using this
theorem repW_bl {H : Hp} {μ : List Addr} {i : Bool} {v : V} (h : repW K H μ (.d (.bl i)) v) : v = .bl i := by
  have : rep K H (.bl i) v := h
  simpa [rep] using this
theorem repW_str {H : Hp} {μ : List Addr} {i : Str} {v : V} (h : repW K H μ (.d (.str i)) v) : v = .str i := by
  have : rep K H (.str i) v := h
  simpa [rep] using this
theorem repW_non {H : Hp} {μ : List Addr} {v : V} (h : repW K H μ (.d .non) v) : v = .non := by
  have : rep K H .non v := h
  simpa [rep] using this
theorem rep_int {H : Hp} {i : Int} : rep K H (.int i) (.int i) := by simp [rep]
theorem rep_bl {H : Hp} {i : Bool} : rep K H (.bl i) (.bl i) := by simp [rep]
theorem rep_str {H : Hp} {i : Str} : rep K H (.str i) (.str i) := by simp [rep]
theorem rep_non {H : Hp} : rep K H .non .non := by simp [rep]
theorem repW_tup {H : Hp} {μ : List Addr} {xs : List D} {v : V} (h : repW K H μ (.d (.tup xs)) v) : ∃ p vs, v = .ref p ∧ SqT K H p vs ∧ reps K H xs vs := by
  have : rep K H (.tup xs) v := h
  simpa [rep] using this
theorem repW_rol {H : Hp} {μ : List Addr} {xs : List D} {v : V} (h : repW K H μ (.d (.rol xs)) v) : ∃ p vs, v = .ref p ∧ RoL K H p vs ∧ reps K H xs vs := by
  have : rep K H (.rol xs) v := h
  simpa [rep] using this
theorem opl_I {C : Int → Int → Prop} {g : Int → Int → D} {gV : Int → Int → V} (h : ∀ H i j, rep K H (g i j) (gV i j)) : OpL K (rI C gV) (qI C g) := by
  intro H μ τ x y vx vy R Q S rx ry hq k
  unfold qI at hq
  split at hq
  · obtain ⟨hc, hR⟩ := hq
    rename_i i j
    exact ⟨i, j, repW_int rx, repW_int ry, hc, k.nowD S hR (h H i j)⟩
  · exact hq.elim
theorem opl_I0 {g : Int → Int → D} {gV : Int → Int → V} (h : ∀ H i j, rep K H (g i j) (gV i j)) : OpL K (rI0 gV) (qI0 g) := by
  intro H μ τ x y vx vy R Q S rx ry hq k
  unfold qI0 at hq
  split at hq
  · rename_i i j
    exact ⟨i, j, repW_int rx, repW_int ry, k.nowD S hq (h H i j)⟩
  · exact hq.elim
abbrev qAdd := qI0 fun i j => .int (i + j)
abbrev qSub := qI0 fun i j => .int (i - j)
abbrev qMul := qI CMulW fun i j => .int (i * j)
abbrev qDiv := qI CDivW fun i j => .int (i / j)
abbrev qMod := qI (fun _ j => 0 < j) fun i j => .int (i % j)
abbrev qPow := qI CPow fun i j => .int (i ^ j.toNat)
abbrev qLt := qI0 fun i j => .bl (decide (i < j))
abbrev qLe := qI0 fun i j => .bl (decide (i ≤ j))
abbrev qGt := qI0 fun i j => .bl (decide (j < i))
abbrev qGe := qI0 fun i j => .bl (decide (j ≤ i))
def qNeg : W → Sto → XK1 → Prop
  | .d (.int i), τ, R => R (.d (.int (-i))) τ
  | _, _, _ => False
theorem unl_neg : UnL K (rU fun i => .int (-i)) qNeg := by
  intro H μ τ x vx R Q S rx hq k
  unfold qNeg at hq
  split at hq
  · rename_i i
    exact ⟨i, repW_int rx, k.nowD S hq rep_int⟩
  · exact hq.elim
end
section
variable {X : Cx} {a b e : Expr} {ta tb te : XE} {pos : Pos}
theorem d_add (ha : DE X a ta) (hb : DE X b tb) : DE X (.BinOp a .Add b pos) (xOp qAdd ta tb) := d_op op_add (opl_I0 fun _ _ _ => rep_int) ha hb
theorem d_sub (ha : DE X a ta) (hb : DE X b tb) : DE X (.BinOp a .Sub b pos) (xOp qSub ta tb) := d_op op_sub (opl_I0 fun _ _ _ => rep_int) ha hb
theorem d_mul (ha : DE X a ta) (hb : DE X b tb) : DE X (.BinOp a .Mult b pos) (xOp qMul ta tb) := d_op op_mulW (opl_I fun _ _ _ => rep_int) ha hb
theorem d_div (ha : DE X a ta) (hb : DE X b tb) : DE X (.BinOp a .FloorDiv b pos) (xOp qDiv ta tb) := d_op op_fdivW (opl_I fun _ _ _ => rep_int) ha hb
theorem d_mod (ha : DE X a ta) (hb : DE X b tb) : DE X (.BinOp a .Mod b pos) (xOp qMod ta tb) := d_op op_mod (opl_I fun _ _ _ => rep_int) ha hb
theorem d_pow (ha : DE X a ta) (hb : DE X b tb) : DE X (.BinOp a .Pow b pos) (xOp qPow ta tb) := d_op op_pow (opl_I fun _ _ _ => rep_int) ha hb
theorem d_neg (ha : DE X a ta) : DE X (.UnaryOp .USub a pos) (xUn qNeg ta) := d_un un_neg unl_neg ha
theorem d_lt (ha : DE X a ta) (hb : DE X b tb) : DE X (.Compare a [.Lt] [b] pos) (xOp qLt ta tb) := d_cmp op_lt (opl_I0 fun _ _ _ => rep_bl) ha hb (nomark _)
theorem d_le (ha : DE X a ta) (hb : DE X b tb) : DE X (.Compare a [.LtE] [b] pos) (xOp qLe ta tb) := d_cmp op_le (opl_I0 fun _ _ _ => rep_bl) ha hb (nomark _)
theorem d_gt (ha : DE X a ta) (hb : DE X b tb) : DE X (.Compare a [.Gt] [b] pos) (xOp qGt ta tb) := d_cmp op_gt (opl_I0 fun _ _ _ => rep_bl) ha hb (nomark _)
theorem d_ge (ha : DE X a ta) (hb : DE X b tb) : DE X (.Compare a [.GtE] [b] pos) (xOp qGe ta tb) := d_cmp op_ge (opl_I0 fun _ _ _ => rep_bl) ha hb (nomark _)
end
/-! ### == of scalars, is -/
def qEqB (f : Bool → Bool) : W → W → Sto → XK1 → Prop
  | .d (.int i), .d (.int j), τ, R => R (.d (.bl (f (decide (i = j))))) τ
  | .d (.str i), .d (.str j), τ, R => R (.d (.bl (f (decide (i = j))))) τ
  | .d (.bl i), .d (.bl j), τ, R => R (.d (.bl (f (decide (i = j))))) τ
  | _, _, _, _ => False
abbrev qEq := qEqB id
abbrev qNe := qEqB not
def qIsN (f : Bool → Bool) : W → W → Sto → XK1 → Prop
  | .d .non, .d .non, τ, R => R (.d (.bl (f true))) τ
  | .d (.int _), .d .non, τ, R => R (.d (.bl (f false))) τ
  | .d (.bl _), .d .non, τ, R => R (.d (.bl (f false))) τ
  | .d (.str _), .d .non, τ, R => R (.d (.bl (f false))) τ
  | .d (.tup _), .d .non, τ, R => R (.d (.bl (f false))) τ
  | .d (.rol _), .d .non, τ, R => R (.d (.bl (f false))) τ
  | .l _, .d .non, τ, R => R (.d (.bl (f false))) τ
  | _, _, _, _ => False
def qIsB (f : Bool → Bool) : W → W → Sto → XK1 → Prop
  | .d (.bl i), .d (.bl j), τ, R => R (.d (.bl (f (decide (i = j))))) τ
  | _, _, _, _ => False
section
variable {K : PySem.W.Frag}
theorem opl_eq : OpL K rEq qEq := by
  intro H μ τ x y vx vy R Q S rx ry hq k
  change qEqB id x y τ R at hq
  unfold qEqB at hq
  split at hq
  · rename_i i j
    rw [repW_int rx, repW_int ry]
    exact ⟨rfl, k.nowD S hq (by rw [show decide (V.int i = V.int j) = decide (i = j) by simp]; exact rep_bl)⟩
  · rename_i i j
    rw [repW_str rx, repW_str ry]
    exact ⟨rfl, k.nowD S hq (by rw [show decide (V.str i = V.str j) = decide (i = j) by simp]; exact rep_bl)⟩
  · rename_i i j
    rw [repW_bl rx, repW_bl ry]
    exact ⟨rfl, k.nowD S hq (by rw [show decide (V.bl i = V.bl j) = decide (i = j) by simp]; exact rep_bl)⟩
  · exact hq.elim
theorem opl_ne : OpL K rNe qNe := by
  intro H μ τ x y vx vy R Q S rx ry hq k
  change qEqB not x y τ R at hq
  unfold qEqB at hq
  split at hq
  · rename_i i j
    rw [repW_int rx, repW_int ry]
    exact ⟨rfl, k.nowD S hq (by rw [show decide (V.int i = V.int j) = decide (i = j) by simp]; exact rep_bl)⟩
  · rename_i i j
    rw [repW_str rx, repW_str ry]
    exact ⟨rfl, k.nowD S hq (by rw [show decide (V.str i = V.str j) = decide (i = j) by simp]; exact rep_bl)⟩
  · rename_i i j
    rw [repW_bl rx, repW_bl ry]
    exact ⟨rfl, k.nowD S hq (by rw [show decide (V.bl i = V.bl j) = decide (i = j) by simp]; exact rep_bl)⟩
  · exact hq.elim
theorem isNon_of {H : Hp} {μ : List Addr} {x : W} {v : V} (h : repW K H μ x v) : (x = .d .non ∧ v = .non) ∨ (x ≠ .d .non ∧ v ≠ .non) := by
  cases x with
  | l k => obtain ⟨p, e, _⟩ := h; exact .inr ⟨(by intro z; cases z), by rw [e]; intro z; cases z⟩
  | ty n => exact .inr ⟨(by intro z; cases z), by rw [show v = .ty n from h]; intro z; cases z⟩
  | d x =>
    cases x with
    | non => exact .inl ⟨rfl, repW_non h⟩
    | int i => exact .inr ⟨(by intro z; cases z), by rw [repW_int h]; intro z; cases z⟩
    | bl i => exact .inr ⟨(by intro z; cases z), by rw [repW_bl h]; intro z; cases z⟩
    | str i => exact .inr ⟨(by intro z; cases z), by rw [repW_str h]; intro z; cases z⟩
    | tup i => obtain ⟨p, _, e, _⟩ := repW_tup h; exact .inr ⟨(by intro z; cases z), by rw [e]; intro z; cases z⟩
    | rol i => obtain ⟨p, _, e, _⟩ := repW_rol h; exact .inr ⟨(by intro z; cases z), by rw [e]; intro z; cases z⟩
theorem opl_isN : OpL K (fun x y H Q => y = .non ∧ Q (.bl (decide (x = .non))) H) (qIsN id) := by
  intro H μ τ x y vx vy R Q S rx ry hq k
  unfold qIsN at hq
  have fin : ∀ b : Bool, R (.d (.bl b)) τ → b = decide (vx = .non) → Q (.bl (decide (vx = .non))) H := fun b h e => by rw [← e]; exact k.nowD S h rep_bl
  split at hq <;> first
    | exact hq.elim
    | (refine ⟨repW_non ry, fin _ hq ?_⟩
       rcases isNon_of rx with ⟨e, q⟩ | ⟨e, q⟩
       · first
           | (exfalso; cases e; done)
           | (rw [q] <;> rfl)
       · first
           | exact absurd rfl e
           | (rw [decide_eq_false q] <;> rfl))
theorem opl_notN : OpL K (fun x y H Q => y = .non ∧ Q (.bl (!decide (x = .non))) H) (qIsN not) := by
  intro H μ τ x y vx vy R Q S rx ry hq k
  unfold qIsN at hq
  have fin : ∀ b : Bool, R (.d (.bl b)) τ → b = (!decide (vx = .non)) → Q (.bl (!decide (vx = .non))) H := fun b h e => by rw [← e]; exact k.nowD S h rep_bl
  split at hq <;> first
    | exact hq.elim
    | (refine ⟨repW_non ry, fin _ hq ?_⟩
       rcases isNon_of rx with ⟨e, q⟩ | ⟨e, q⟩
       · first
           | (exfalso; cases e; done)
           | (rw [q] <;> rfl)
       · first
           | exact absurd rfl e
           | (rw [decide_eq_false q] <;> rfl))
theorem opl_isB : OpL K rIsB (qIsB id) := by
  intro H μ τ x y vx vy R Q S rx ry hq k
  unfold qIsB at hq
  split at hq
  · rename_i i j
    exact ⟨i, j, repW_bl rx, repW_bl ry, k.nowD S hq rep_bl⟩
  · exact hq.elim
theorem opl_notB : OpL K rNotB (qIsB not) := by
  intro H μ τ x y vx vy R Q S rx ry hq k
  unfold qIsB at hq
  split at hq
  · rename_i i j
    exact ⟨i, j, repW_bl rx, repW_bl ry, k.nowD S hq rep_bl⟩
  · exact hq.elim
end
section
variable {X : Cx} {a b e : Expr} {ta tb te : XE} {pos : Pos}
theorem d_eq (ha : DE X a ta) (hb : DE X b tb) : DE X (.Compare a [.Eq] [b] pos) (xOp qEq ta tb) := d_cmp op_eq opl_eq ha hb (nomark _)
theorem d_ne (ha : DE X a ta) (hb : DE X b tb) : DE X (.Compare a [.NotEq] [b] pos) (xOp qNe ta tb) := d_cmp op_ne opl_ne ha hb (nomark _)
theorem d_isN (ha : DE X a ta) (hb : DE X b tb) : DE X (.Compare a [.Is] [b] pos) (xOp (qIsN id) ta tb) := d_cmp op_isN opl_isN ha hb (nomark _)
theorem d_notN (ha : DE X a ta) (hb : DE X b tb) : DE X (.Compare a [.IsNot] [b] pos) (xOp (qIsN not) ta tb) := d_cmp op_notN opl_notN ha hb (nomark _)
theorem d_isB (ha : DE X a ta) (hb : DE X b tb) : DE X (.Compare a [.Is] [b] pos) (xOp (qIsB id) ta tb) := d_cmp op_isBl opl_isB ha hb (nomark _)
theorem d_notB (ha : DE X a ta) (hb : DE X b tb) : DE X (.Compare a [.IsNot] [b] pos) (xOp (qIsB not) ta tb) := d_cmp op_notBl opl_notB ha hb (nomark _)
end
/-! ### and, or, not, if else -/
def xAnd (ta tb : XE) : XE := fun ρ τ R => ta ρ τ fun x τ1 => match x with
  | .d (.bl c) => if c = true then tb ρ τ1 R else R (.d (.bl false)) τ1
  | _ => False
def xOr (ta tb : XE) : XE := fun ρ τ R => ta ρ τ fun x τ1 => match x with
  | .d (.bl c) => if c = true then R (.d (.bl true)) τ1 else tb ρ τ1 R
  | _ => False
def xNot (ta : XE) : XE := fun ρ τ R => ta ρ τ fun x τ1 => match x with
  | .d (.bl c) => R (.d (.bl (!c))) τ1
  | _ => False
def xIf (t : XT) (ta tb : XE) : XE := fun ρ τ R => t ρ τ fun c τ1 => if c = true then ta ρ τ1 R else tb ρ τ1 R
def xTB (t : XE) : XT := fun ρ τ R => t ρ τ fun x τ1 => match x with
  | .d (.bl c) => R c τ1
  | _ => False
def xTAnd (t u : XT) : XT := fun ρ τ R => t ρ τ fun c τ1 => if c = true then u ρ τ1 R else R false τ1
def xTOr (t u : XT) : XT := fun ρ τ R => t ρ τ fun c τ1 => if c = true then R true τ1 else u ρ τ1 R
def xTNot (t : XT) : XT := fun ρ τ R => t ρ τ fun c τ1 => R (!c) τ1
section
variable {X : Cx} {a b e : Expr} {ta tb te : XE} {t u : XT} {pos : Pos} {rest : List Expr}
theorem d_one {op : BoolOp} (ha : DE X a ta) : DE X (.BoolOp op [a] pos) ta := pe_one ha
theorem d_and (ha : DE X a ta) (hb : DE X (.BoolOp .And (b :: rest) pos) tb) : DE X (.BoolOp .And (a :: b :: rest) pos) (xAnd ta tb) :=
  pe_imp (pe_and ha hb) fun σ H Q ⟨μ, ρ, τ, R, E, S, h, k⟩ => ⟨μ, ρ, τ, _, E, S, h, fun x τ1 hx vx μ1 H1 e1 S1 r1 => by
    split at hx
    · rename_i c
      refine ⟨c, repW_bl r1, ?_⟩
      cases c with
      | true => exact ⟨μ1, ρ, τ1, R, E.evo S e1, S1, hx, k.evo e1⟩
      | false => exact (k.evo e1).nowD S1 hx rep_bl
    · exact hx.elim⟩
theorem d_or (ha : DE X a ta) (hb : DE X (.BoolOp .Or (b :: rest) pos) tb) : DE X (.BoolOp .Or (a :: b :: rest) pos) (xOr ta tb) :=
  pe_imp (pe_or ha hb) fun σ H Q ⟨μ, ρ, τ, R, E, S, h, k⟩ => ⟨μ, ρ, τ, _, E, S, h, fun x τ1 hx vx μ1 H1 e1 S1 r1 => by
    split at hx
    · rename_i c
      refine ⟨c, repW_bl r1, ?_⟩
      cases c with
      | false => exact ⟨μ1, ρ, τ1, R, E.evo S e1, S1, hx, k.evo e1⟩
      | true => exact (k.evo e1).nowD S1 hx rep_bl
    · exact hx.elim⟩
theorem d_not (ha : DE X a ta) : DE X (.UnaryOp .Not a pos) (xNot ta) :=
  pe_imp (pe_not ha) fun σ H Q ⟨μ, ρ, τ, R, E, S, h, k⟩ => ⟨μ, ρ, τ, _, E, S, h, fun x τ1 hx vx μ1 H1 e1 S1 r1 => by
    split at hx
    · rename_i c
      exact ⟨c, repW_bl r1, (k.evo e1).nowD S1 hx rep_bl⟩
    · exact hx.elim⟩
theorem d_if {c : Expr} (hc : DT X c t) (ha : DE X a ta) (hb : DE X b tb) : DE X (.IfExp c a b pos) (xIf t ta tb) :=
  pe_imp (pe_ifExp hc ha hb) fun σ H Q ⟨μ, ρ, τ, R, E, S, h, k⟩ => ⟨μ, ρ, τ, _, E, S, h, fun c τ1 hx μ1 H1 e1 S1 => by
    cases c with
    | true => exact ⟨μ1, ρ, τ1, R, E.evo S e1, S1, hx, k.evo e1⟩
    | false => exact ⟨μ1, ρ, τ1, R, E.evo S e1, S1, hx, k.evo e1⟩⟩
theorem lift_TB {K : PySem.W.Frag} {σ : L2.St} {H : Hp} {Q : Bool → Hp → Prop} : liftT K (xTB ta) σ H Q → (liftE K ta) σ H fun x H1 => ∃ c, x = .bl c ∧ Q c H1 :=
  fun ⟨μ, ρ, τ, R, E, S, h, k⟩ => ⟨μ, ρ, τ, _, E, S, h, fun x τ1 hx vx μ1 H1 e1 S1 r1 => by
    split at hx
    · rename_i c
      exact ⟨c, repW_bl r1, (k.evo e1).now S1 hx⟩
    · exact hx.elim⟩
/-- an expression that gives True or False, as a test (a name, a call, a subscript) -/
theorem t_val (ha : DE X a ta) (he : ∀ whole, isTrue a X.env whole = (do let v ← whole; standAt a.pos; holding [v] (truthy v)) := by intro _; rfl) : DT X a (xTB ta) := pt_imp (pt_val ha he) fun _ _ _ => lift_TB
theorem t_cmp {op : CmpOp} {r : R2} {q : W → W → Sto → XK1 → Prop} (ho : OpR X (compareOp op) r) (hl : OpL X.K r q) (ha : DE X a ta) (hb : DE X b tb) (hm : behindInMarks op b = false) : DT X (.Compare a [op] [b] pos) (xTB (xOp q ta tb)) :=
  pt_imp (pt_cmpR ho ha hb hm) fun σ H Q h => lift_op hl (lift_TB h)
abbrev DW (X : Cx) (e : Expr) (t : XT) : Prop := PW X e (liftT X.K t)
theorem w_and1 (ha : DT X a t) : DW X (.BoolOp .And [a] pos) t := pw_and1 ha
theorem w_or1 (ha : DT X a t) : DW X (.BoolOp .Or [a] pos) t := pw_or1 ha
theorem w_and (ha : DT X a t) (hb : DW X (.BoolOp .And (b :: rest) pos) u) : DW X (.BoolOp .And (a :: b :: rest) pos) (xTAnd t u) :=
  pw_imp (pw_and ha hb) fun σ H Q ⟨μ, ρ, τ, R, E, S, h, k⟩ => ⟨μ, ρ, τ, _, E, S, h, fun c τ1 hx μ1 H1 e1 S1 => by
    cases c with
    | true => exact ⟨μ1, ρ, τ1, R, E.evo S e1, S1, hx, k.evo e1⟩
    | false => exact (k.evo e1).now S1 hx⟩
theorem w_or (ha : DT X a t) (hb : DW X (.BoolOp .Or (b :: rest) pos) u) : DW X (.BoolOp .Or (a :: b :: rest) pos) (xTOr t u) :=
  pw_imp (pw_or ha hb) fun σ H Q ⟨μ, ρ, τ, R, E, S, h, k⟩ => ⟨μ, ρ, τ, _, E, S, h, fun c τ1 hx μ1 H1 e1 S1 => by
    cases c with
    | false => exact ⟨μ1, ρ, τ1, R, E.evo S e1, S1, hx, k.evo e1⟩
    | true => exact (k.evo e1).now S1 hx⟩
theorem t_w (h : DW X e t) : DT X e t := PW.pt h
theorem t_not (ha : DT X a t) : DT X (.UnaryOp .Not a pos) (xTNot t) := pt_imp (pt_not ha) fun σ H Q ⟨μ, ρ, τ, R, E, S, h, k⟩ => ⟨μ, ρ, τ, _, E, S, h, fun c τ1 hx μ1 H1 e1 S1 => (k.evo e1).now S1 hx⟩
theorem t_lt (ha : DE X a ta) (hb : DE X b tb) : DT X (.Compare a [.Lt] [b] pos) (xTB (xOp qLt ta tb)) := t_cmp op_lt (opl_I0 fun _ _ _ => rep_bl) ha hb (nomark _)
theorem t_le (ha : DE X a ta) (hb : DE X b tb) : DT X (.Compare a [.LtE] [b] pos) (xTB (xOp qLe ta tb)) := t_cmp op_le (opl_I0 fun _ _ _ => rep_bl) ha hb (nomark _)
theorem t_gt (ha : DE X a ta) (hb : DE X b tb) : DT X (.Compare a [.Gt] [b] pos) (xTB (xOp qGt ta tb)) := t_cmp op_gt (opl_I0 fun _ _ _ => rep_bl) ha hb (nomark _)
theorem t_ge (ha : DE X a ta) (hb : DE X b tb) : DT X (.Compare a [.GtE] [b] pos) (xTB (xOp qGe ta tb)) := t_cmp op_ge (opl_I0 fun _ _ _ => rep_bl) ha hb (nomark _)
theorem t_eq (ha : DE X a ta) (hb : DE X b tb) : DT X (.Compare a [.Eq] [b] pos) (xTB (xOp qEq ta tb)) := t_cmp op_eq opl_eq ha hb (nomark _)
theorem t_ne (ha : DE X a ta) (hb : DE X b tb) : DT X (.Compare a [.NotEq] [b] pos) (xTB (xOp qNe ta tb)) := t_cmp op_ne opl_ne ha hb (nomark _)
theorem t_isN (ha : DE X a ta) (hb : DE X b tb) : DT X (.Compare a [.Is] [b] pos) (xTB (xOp (qIsN id) ta tb)) := t_cmp op_isN opl_isN ha hb (nomark _)
theorem t_notN (ha : DE X a ta) (hb : DE X b tb) : DT X (.Compare a [.IsNot] [b] pos) (xTB (xOp (qIsN not) ta tb)) := t_cmp op_notN opl_notN ha hb (nomark _)
theorem t_isB (ha : DE X a ta) (hb : DE X b tb) : DT X (.Compare a [.Is] [b] pos) (xTB (xOp (qIsB id) ta tb)) := t_cmp op_isBl opl_isB ha hb (nomark _)
theorem t_notB (ha : DE X a ta) (hb : DE X b tb) : DT X (.Compare a [.IsNot] [b] pos) (xTB (xOp (qIsB not) ta tb)) := t_cmp op_notBl opl_notB ha hb (nomark _)
end
end DL

namespace DL
open PySem PySem.Spec PyProof.Rows L2
/-! ## argument lists -/
def tAll (K : PySem.W.Frag) : List XE → TA
  | [] => tNil
  | t :: ts => tCons (liftE K t) (tAll K ts)
def xArgs : List XE → XA
  | [] => fun _ τ R => R [] τ
  | t :: ts => fun ρ τ R => t ρ τ fun w τ1 => xArgs ts ρ τ1 fun ws τ2 => R (w :: ws) τ2
abbrev DAs (X : Cx) (es : List Expr) (ts : List XE) : Prop := PA X es (tAll X.K ts)
section
variable {X : Cx} {K : PySem.W.Frag} {e : Expr} {es : List Expr} {t : XE} {ts : List XE} {pos : Pos}
theorem a_nil : DAs X [] [] := pa_nil
theorem a_cons (ha : DE X e t) (hr : DAs X es ts) (hs : starEach (e :: es) X.env = (false, eval e X.env) :: starEach es X.env := by rfl) : DAs X (e :: es) (t :: ts) := pa_cons ha hr hs
theorem repWs.cons {H : Hp} {μ : List Addr} {w : W} {ws : List W} {v : V} {vs : List V} (h : repW K H μ w v) (r : repWs K H μ ws vs) : repWs K H μ (w :: ws) (v :: vs) := ⟨v, vs, rfl, h, r⟩
theorem lift_args : ∀ {ts : List XE} {μ : List Addr} {ρ : DEnv} {τ : Sto} {σ : L2.St} {H : Hp} {R : List W → Sto → Prop} {Q : List V → Hp → Prop}, EnvR K H μ σ ρ → StoR K H μ τ → xArgs ts ρ τ R →
    (∀ ws τ', R ws τ' → ∀ vs μ' H', Evo μ H μ' H' → StoR K H' μ' τ' → repWs K H' μ' ws vs → ws.length = ts.length → Q vs H') → tAll K ts σ H Q
  | [], μ, ρ, τ, σ, H, R, Q, E, S, h, k => k [] τ h [] μ H Evo.refl S rfl rfl
  | t :: ts, μ, ρ, τ, σ, H, R, Q, E, S, h, k => ⟨μ, ρ, τ, _, E, S, h, fun w τ1 h1 v μ1 H1 e1 S1 r1 =>
      lift_args (ts := ts) (E.evo S e1) S1 h1 fun ws τ2 h2 vs μ2 H2 e2 S2 r2 l2 => k _ τ2 h2 _ μ2 H2 (e1.trans e2) S2 (repWs.cons (r1.evo S1 e2) r2) (by rw [List.length_cons, List.length_cons, l2])⟩
def asDs : List W → Option (List D)
  | [] => some []
  | .d x :: r => match asDs r with
    | some ds => some (x :: ds)
    | none => none
  | _ :: _ => none
theorem reps_of : ∀ {ws : List W} {ds : List D} {H : Hp} {μ : List Addr} {vs : List V}, asDs ws = some ds → repWs K H μ ws vs → reps K H ds vs ∧ ds.length = ws.length
  | [], ds, H, μ, vs, h, r => by
    cases h
    rw [show vs = [] from r]
    exact ⟨reps.of_nil, rfl⟩
  | .d x :: ws, ds, H, μ, vs, h, r => by
    unfold asDs at h
    cases e : asDs ws with
    | none => rw [e] at h; cases h
    | some ds' =>
      rw [e] at h
      cases h
      obtain ⟨v, vr, rfl, h1, h2⟩ := r
      obtain ⟨q1, q2⟩ := reps_of e h2
      exact ⟨reps.cons h1 q1, by simp [q2]⟩
  | .l k :: ws, ds, H, μ, vs, h, r => by cases h
  | .ty k :: ws, ds, H, μ, vs, h, r => by cases h
/-! ## displays -/
def xTup (ts : List XE) : XE := fun ρ τ R => xArgs ts ρ τ fun ws τ1 => match asDs ws with
  | some ds => R (.d (.tup ds)) τ1
  | none => False
def xLst (ts : List XE) : XE := fun ρ τ R => xArgs ts ρ τ fun ws τ1 => match asDs ws with
  | some ds => R (.l τ1.length) (τ1 ++ [ds])
  | none => False
theorem line_of {n : Nat} (h : n ≤ 1000000) : n ≤ sizeLine := Nat.le_trans h (by rw [sizeLine_eq]; decide)
theorem line_lt {n : Nat} (h : n < 1000000) : n < sizeLine := Nat.lt_of_lt_of_le h (by rw [sizeLine_eq]; decide)
theorem d_tup {j : Nat} (ha : DAs X es ts) (hl : ts.length ≤ 1000000 := by decide) : DE X (.Tuple es j pos) (xTup ts) := pe_imp (pe_tup ha) fun σ H Q ⟨μ, ρ, τ, R, E, S, h, k⟩ =>
  lift_args E S h fun ws τ1 h1 vs μ1 H1 e1 S1 r1 l1 => by
    split at h1
    · rename_i ds e
      obtain ⟨q1, q2⟩ := reps_of e r1
      refine ⟨line_of (by rw [← q1.length, q2, l1]; exact hl), fun p hp => (k.evo e1).newT S1 h1 q1 hp⟩
    · exact h1.elim
theorem d_lst (ha : DAs X es ts) (hl : ts.length ≤ 1000000 := by decide) : DE X (.List es pos) (xLst ts) := pe_imp (pe_lst ha) fun σ H Q ⟨μ, ρ, τ, R, E, S, h, k⟩ =>
  lift_args E S h fun ws τ1 h1 vs μ1 H1 e1 S1 r1 l1 => by
    split at h1
    · rename_i ds e
      obtain ⟨q1, q2⟩ := reps_of e r1
      refine ⟨line_of (by rw [← q1.length, q2, l1]; exact hl), fun p hp => (k.evo e1).newL S1 h1 q1 hp⟩
    · exact h1.elim
end
/-! ## items, slices -/
def ixD (xs : List D) (i : Int) : Option D := if 0 ≤ i then xs[i.toNat]? else if (-i).toNat ≤ xs.length then xs[xs.length - (-i).toNat]? else none
theorem ixD_at {K : PySem.W.Frag} {H : Hp} {xs : List D} {vs : List V} {i : Int} {d : D} (r : reps K H xs vs) (h : ixD xs i = some d) : ∃ v, atI vs i = some v ∧ rep K H d v := by
  have hl := r.length
  unfold ixD at h
  by_cases h0 : 0 ≤ i
  · rw [if_pos h0] at h
    obtain ⟨v, h1, h2⟩ := r.get h
    have e : i = ((i.toNat : Nat) : Int) := by omega
    exact ⟨v, by rw [e]; exact atI_nat h1, h2⟩
  · rw [if_neg h0] at h
    by_cases hn : (-i).toNat ≤ xs.length
    · rw [if_pos hn] at h
      obtain ⟨v, h1, h2⟩ := r.get h
      refine ⟨v, ?_, h2⟩
      unfold atI ixN
      rw [if_neg h0, if_pos (by omega)]
      have e : (i + (vs.length : Int)).toNat = vs.length - (-i).toNat := by omega
      rw [e, ← hl]
      exact h1
    · rw [if_neg hn] at h
      cases h
def qIx : W → W → Sto → XK1 → Prop
  | .d (.tup xs), .d (.int i), τ, R => ∃ d, ixD xs i = some d ∧ R (.d d) τ
  | _, _, _, _ => False
def qIxL : W → W → Sto → XK1 → Prop
  | .l k, .d (.int i), τ, R => ∃ xs d, τ[k]? = some xs ∧ ixD xs i = some d ∧ R (.d d) τ
  | .d (.rol xs), .d (.int i), τ, R => ∃ d, ixD xs i = some d ∧ R (.d d) τ
  | _, _, _, _ => False
section
variable {X : Cx} {K : PySem.W.Frag} {a b e : Expr} {ta tb te : XE} {pos p2 : Pos}
theorem opl_ix : OpL K (rIxT K) qIx := by
  intro H μ τ x y vx vy R Q S rx ry hq k
  unfold qIx at hq
  split at hq
  · rename_i xs i
    obtain ⟨d, h1, h2⟩ := hq
    obtain ⟨p, vs, e, hs, hr⟩ := repW_tup rx
    obtain ⟨v, h3, h4⟩ := ixD_at hr h1
    exact ⟨p, vs, i, v, e, repW_int ry, hs, h3, k.nowD S h2 h4⟩
  · exact hq.elim
theorem opl_ixL : OpL K (rIxL K) qIxL := by
  intro H μ τ x y vx vy R Q S rx ry hq k
  unfold qIxL at hq
  split at hq
  · rename_i j i
    obtain ⟨xs, d, h0, h1, h2⟩ := hq
    obtain ⟨p, e, hp⟩ := rx
    obtain ⟨vs, hv, hr⟩ := S.at' hp h0
    obtain ⟨v, h3, h4⟩ := ixD_at hr h1
    exact ⟨p, vs, i, v, e, repW_int ry, SqL.of hv, h3, k.nowD S h2 h4⟩
  · rename_i xs i
    obtain ⟨d, h1, h2⟩ := hq
    obtain ⟨p, vs, e, hs, hr⟩ := repW_rol rx
    obtain ⟨v, h3, h4⟩ := ixD_at hr h1
    exact ⟨p, vs, i, v, e, repW_int ry, hs.sq, h3, k.nowD S h2 h4⟩
  · exact hq.elim
/-- t[i] of a tuple; xs[i] of a list -/
theorem d_ixT (ha : DE X a ta) (hb : DE X b tb) (hs : PlainIx b := by exact fun _ _ => rfl) : DE X (.Subscript a b pos) (xOp qIx ta tb) := d_ix ix_tup opl_ix ha hb hs
theorem d_ixL (ha : DE X a ta) (hb : DE X b tb) (hs : PlainIx b := by exact fun _ _ => rfl) : DE X (.Subscript a b pos) (xOp qIxL ta tb) := d_ix ix_list opl_ixL ha hb hs
/-! slices -/
abbrev XO := DEnv → Sto → (Option Int → Sto → Prop) → Prop
def xNoPart : XO := fun _ τ R => R none τ
def xPart (t : XE) : XO := fun ρ τ R => t ρ τ fun x τ1 => match x with
  | .d (.int i) => R (some i) τ1
  | _ => False
def KontO (K : PySem.W.Frag) (μ : List Addr) (H : Hp) (R : Option Int → Sto → Prop) (Q : Option Int → Hp → Prop) : Prop := ∀ b τ', R b τ' → ∀ μ' H', Evo μ H μ' H' → StoR K H' μ' τ' → Q b H'
def liftO (K : PySem.W.Frag) (t : XO) : TO := fun σ H Q => ∃ μ ρ τ R, EnvR K H μ σ ρ ∧ StoR K H μ τ ∧ t ρ τ R ∧ KontO K μ H R Q
abbrev DO (X : Cx) (e : Option Expr) (t : XO) : Prop := PO X e (liftO X.K t)
theorem po_imp {e : Option Expr} {t t' : TO} (h : PO X e t) (i : ∀ σ H Q, t' σ H Q → t σ H Q) : PO X e t' := ⟨fun pins s σ H Q I q => h.run pins s σ H Q I (i σ H Q q)⟩
theorem o_none : DO X none xNoPart := po_imp po_none fun σ H Q ⟨μ, ρ, τ, R, E, S, h, k⟩ => k _ τ h μ H Evo.refl S
theorem o_some (ha : DE X a ta) : DO X (some a) (xPart ta) := po_imp (po_some ha) fun σ H Q ⟨μ, ρ, τ, R, E, S, h, k⟩ => ⟨μ, ρ, τ, _, E, S, h, fun x τ1 hx vx μ1 H1 e1 S1 r1 => by
  split at hx
  · rename_i i
    exact ⟨i, repW_int r1, k _ τ1 hx μ1 H1 e1 S1⟩
  · exact hx.elim⟩
def cutD (xs : List D) (lo hi : Option Int) : List D := (xs.drop (HT.sIx xs.length 0 lo)).take (HT.sIx xs.length xs.length hi - HT.sIx xs.length 0 lo)
theorem reps.cut {H : Hp} {xs : List D} {vs : List V} {lo hi : Option Int} (r : reps K H xs vs) : reps K H (cutD xs lo hi) (cutV vs lo hi) := by
  unfold cutD cutV
  rw [r.length]
  exact reps.take _ (reps.drop _ r)
def xSlT (te : XE) (tl th : XO) : XE := fun ρ τ R => te ρ τ fun x τ1 => tl ρ τ1 fun lo τ2 => th ρ τ2 fun hi τ3 => match x with
  | .d (.tup xs) => R (.d (.tup (cutD xs lo hi))) τ3
  | _ => False
def xSlL (te : XE) (tl th : XO) : XE := fun ρ τ R => te ρ τ fun x τ1 => tl ρ τ1 fun lo τ2 => th ρ τ2 fun hi τ3 => match x with
  | .l k => ∃ xs, τ3[k]? = some xs ∧ R (.l τ3.length) (τ3 ++ [cutD xs lo hi])
  | .d (.rol xs) => R (.l τ3.length) (τ3 ++ [cutD xs lo hi])
  | _ => False
theorem sIx_whole {n : Nat} {lo hi : Option Int} (h : HT.sIx n 0 lo = 0 ∧ HT.sIx n n hi = n) (xs : List D) (hn : xs.length = n) : cutD xs lo hi = xs := by
  unfold cutD
  rw [hn, h.1, h.2, List.drop_zero, Nat.sub_zero, ← hn, List.take_length]
theorem d_slT {lo hi : Option Expr} {tl th : XO} (ha : DE X e te) (hl : DO X lo tl) (hh : DO X hi th) : DE X (.Subscript e (.Slice lo hi none p2) pos) (xSlT te tl th) :=
  pe_imp (pe_slice sl_tupA ha hl hh) fun σ H Q ⟨μ, ρ, τ, R, E, S, h, k⟩ => ⟨μ, ρ, τ, _, E, S, h, fun x τ1 hx vx μ1 H1 e1 S1 r1 => ⟨μ1, ρ, τ1, _, E.evo S e1, S1, hx, fun l τ2 hy μ2 H2 e2 S2 =>
    ⟨μ2, ρ, τ2, _, (E.evo S e1).evo S1 e2, S2, hy, fun u τ3 hz μ3 H3 e3 S3 => by
      split at hz
      · rename_i xs
        have r3 := r1.evo S1 (e2.trans e3)
        obtain ⟨p, vs, e, hs, hr⟩ := repW_tup r3
        have k3 := k.evo (e1.trans (e2.trans e3))
        refine ⟨p, vs, e, hs, fun hw => ?_, fun _ q hq => k3.newT S3 hz hr.cut hq⟩
        rw [sIx_whole (by rw [hr.length]; exact hw) xs rfl] at hz
        exact k3.nowD S3 hz (by unfold rep; exact ⟨p, vs, rfl, hs, hr⟩)
      · exact hz.elim⟩⟩⟩
theorem d_slL {lo hi : Option Expr} {tl th : XO} (ha : DE X e te) (hl : DO X lo tl) (hh : DO X hi th) : DE X (.Subscript e (.Slice lo hi none p2) pos) (xSlL te tl th) :=
  pe_imp (pe_slice sl_list ha hl hh) fun σ H Q ⟨μ, ρ, τ, R, E, S, h, k⟩ => ⟨μ, ρ, τ, _, E, S, h, fun x τ1 hx vx μ1 H1 e1 S1 r1 => ⟨μ1, ρ, τ1, _, E.evo S e1, S1, hx, fun l τ2 hy μ2 H2 e2 S2 =>
    ⟨μ2, ρ, τ2, _, (E.evo S e1).evo S1 e2, S2, hy, fun u τ3 hz μ3 H3 e3 S3 => by
      have k3 := k.evo (e1.trans (e2.trans e3))
      have r3 := r1.evo S1 (e2.trans e3)
      split at hz
      · obtain ⟨xs, h0, hz⟩ := hz
        obtain ⟨p, e, hp⟩ := r3
        obtain ⟨vs, hv, hr⟩ := S3.at' hp h0
        exact ⟨p, vs, e, SqL.of hv, fun q hq => k3.newL S3 hz hr.cut hq⟩
      · obtain ⟨p, vs, e, hs, hr⟩ := repW_rol r3
        exact ⟨p, vs, e, hs.sq, fun q hq => k3.newL S3 hz hr.cut hq⟩
      · exact hz.elim⟩⟩⟩
/-! t + u, xs + ys -/
def qCatT : W → W → Sto → XK1 → Prop
  | .d (.tup xs), .d (.tup ys), τ, R => xs.length + ys.length ≤ 1000000 ∧ R (.d (.tup (xs ++ ys))) τ
  | _, _, _, _ => False
def qCatL : W → W → Sto → XK1 → Prop
  | .l i, .l j, τ, R => ∃ xs ys, τ[i]? = some xs ∧ τ[j]? = some ys ∧ xs.length + ys.length ≤ 1000000 ∧ R (.l τ.length) (τ ++ [xs ++ ys])
  | _, _, _, _ => False
theorem reps.one {H : Hp} {d : D} {ds : List D} {vs : List V} (r : reps K H (d :: ds) vs) : vs ≠ [] := by
  unfold reps at r
  obtain ⟨v, r', e, _⟩ := r
  rw [e]
  intro z
  cases z
theorem opl_catT : OpL K (rCatA K) qCatT := by
  intro H μ τ x y vx vy R Q S rx ry hq k
  unfold qCatT at hq
  split at hq
  · rename_i xs ys
    obtain ⟨hl, hR⟩ := hq
    obtain ⟨p, vs, e, hs, hr⟩ := repW_tup rx
    obtain ⟨p', us, e', hs', hr'⟩ := repW_tup ry
    refine ⟨p, p', vs, us, e, e', hs, hs', line_of (by rw [← hr.length, ← hr'.length]; exact hl), fun z => ?_, fun _ z => ?_, fun _ _ q hq => k.newT S hR (hr.append hr') hq⟩
    · subst z
      have e0 : xs = [] := List.length_eq_zero_iff.mp hr.length
      subst e0
      exact k.nowD S hR (by unfold rep; exact ⟨p', us, rfl, hs', hr'⟩)
    · subst z
      have e0 : ys = [] := List.length_eq_zero_iff.mp hr'.length
      subst e0
      rw [List.append_nil] at hR
      exact k.nowD S hR (by unfold rep; exact ⟨p, vs, rfl, hs, hr⟩)
  · exact hq.elim
theorem opl_catL : OpL K rCat qCatL := by
  intro H μ τ x y vx vy R Q S rx ry hq k
  unfold qCatL at hq
  split at hq
  · obtain ⟨xs, ys, h1, h2, hl, hR⟩ := hq
    obtain ⟨p, e, hp⟩ := rx
    obtain ⟨p', e', hp'⟩ := ry
    obtain ⟨vs, hv, hr⟩ := S.at' hp h1
    obtain ⟨us, hu, hr'⟩ := S.at' hp' h2
    exact ⟨p, p', vs, us, e, e', hv, hu, line_of (by rw [← hr.length, ← hr'.length]; exact hl), fun q hq => k.newL S hR (hr.append hr') hq⟩
  · exact hq.elim
theorem d_catT (ha : DE X a ta) (hb : DE X b tb) : DE X (.BinOp a .Add b pos) (xOp qCatT ta tb) := d_op op_catA opl_catT ha hb
theorem d_catL (ha : DE X a ta) (hb : DE X b tb) : DE X (.BinOp a .Add b pos) (xOp qCatL ta tb) := d_op op_cat opl_catL ha hb
end
end DL

namespace DL
open PySem PySem.Spec PyProof.Rows L2
/-! ## a def's promise over data; the caller's other lists stay apart -/
abbrev Spx := List W → Sto → XK1 → Prop
def spOf (K : PySem.W.Frag) (sp : Spx) : Sp := fun vs H Q _ => ∃ μ ws τ R, repWs K H μ ws vs ∧ StoR K H μ τ ∧ sp ws τ R ∧ Kont K μ H R Q
def refs : List W → List Nat
  | [] => []
  | .l k :: r => k :: refs r
  | .d _ :: r => refs r
  | .ty _ :: r => refs r
def locs : Nat → List W → List W
  | _, [] => []
  | n, .l _ :: r => .l n :: locs (n + 1) r
  | n, .d x :: r => .d x :: locs n r
  | n, .ty x :: r => .ty x :: locs n r
def subS (τ : Sto) : List Nat → Sto
  | [] => []
  | k :: ks => τ.getD k [] :: subS τ ks
def backS : Sto → List Nat → Sto → Sto
  | τ, [], τ' => τ ++ τ'
  | τ, k :: ks, ds :: τ' => backS (τ.set k ds) ks τ'
  | τ, _ :: _, [] => τ
def globW (ks : List Nat) (n : Nat) : W → W
  | .l j => match ks[j]? with
    | some k => .l k
    | none => .l (n + (j - ks.length))
  | .d x => .d x
  | .ty x => .ty x
def apart : List Nat → Bool
  | [] => true
  | k :: ks => !ks.contains k && apart ks
def callL (sp : Spx) (ws : List W) (τ : Sto) (R : XK1) : Prop := match apart (refs ws) with
  | true => sp (locs 0 ws) (subS τ (refs ws)) fun w τ' => R (globW (refs ws) τ.length w) (backS τ (refs ws) τ')
  | false => False
def addrs (μ : List Addr) : List Nat → List Addr
  | [] => []
  | k :: ks => μ.getD k 0 :: addrs μ ks
theorem apart_cons {k : Nat} {ks : List Nat} (h : apart (k :: ks) = true) : k ∉ ks ∧ apart ks = true := by
  unfold apart at h
  simp only [Bool.and_eq_true, Bool.not_eq_true', List.contains_eq_mem, decide_eq_false_iff_not] at h
  exact h
section
variable {K : PySem.W.Frag} {H H' : Hp} {μ μ' : List Addr} {τ τ' : Sto}
theorem repWs.length : ∀ {ws : List W} {vs : List V}, repWs K H μ ws vs → ws.length = vs.length
  | [], vs, h => by
    rw [show vs = [] from h]
    rfl
  | w :: ws, vs, h => by
    obtain ⟨v, vr, rfl, _, h2⟩ := h
    simp [repWs.length h2]
theorem refs_lt : ∀ {ws : List W} {vs : List V}, repWs K H μ ws vs → ∀ k ∈ refs ws, k < μ.length
  | [], _, _, k, h => by cases h
  | .l j :: ws, vs, r, k, h => by
    obtain ⟨v, vr, rfl, ⟨p, _, e⟩, h2⟩ := r
    rcases List.mem_cons.mp h with z | z
    · rw [z]
      exact (List.getElem?_eq_some_iff.mp e).1
    · exact refs_lt h2 k z
  | .d x :: ws, vs, r, k, h => by
    obtain ⟨v, vr, rfl, _, h2⟩ := r
    exact refs_lt h2 k h
  | .ty x :: ws, vs, r, k, h => by
    obtain ⟨v, vr, rfl, _, h2⟩ := r
    exact refs_lt h2 k h
theorem getD_of {α : Type} {l : List α} {k : Nat} {d : α} (h : k < l.length) : l[k]? = some (l.getD k d) := by
  rw [List.getD_eq_getElem?_getD, List.getElem?_eq_getElem h]
  rfl
theorem addrs_length : ∀ {ks : List Nat}, (addrs μ ks).length = ks.length
  | [] => rfl
  | _ :: ks => by simp [addrs, addrs_length (ks := ks)]
theorem subS_length : ∀ {ks : List Nat}, (subS τ ks).length = ks.length
  | [] => rfl
  | _ :: ks => by simp [subS, subS_length (ks := ks)]
theorem addrs_get : ∀ {ks : List Nat} {i : Nat} {p : Addr}, (∀ k ∈ ks, k < μ.length) → (addrs μ ks)[i]? = some p → ∃ k, ks[i]? = some k ∧ μ[k]? = some p
  | [], i, p, _, h => by simp [addrs] at h
  | k :: ks, 0, p, hk, h => by
    simp only [addrs, List.getElem?_cons_zero, Option.some.injEq] at h
    exact ⟨k, rfl, by rw [getD_of (d := 0) (hk k List.mem_cons_self), h]⟩
  | k :: ks, i + 1, p, hk, h => by
    simp only [addrs, List.getElem?_cons_succ] at h
    obtain ⟨k', e1, e2⟩ := addrs_get (fun j hj => hk j (List.mem_cons_of_mem _ hj)) h
    exact ⟨k', by simpa using e1, e2⟩
theorem subS_get : ∀ {ks : List Nat} {i k : Nat}, ks[i]? = some k → (subS τ ks)[i]? = some (τ.getD k [])
  | [], i, k, h => by simp at h
  | a :: ks, 0, k, h => by
    simp only [List.getElem?_cons_zero, Option.some.injEq] at h
    rw [h]
    rfl
  | a :: ks, i + 1, k, h => by
    simp only [List.getElem?_cons_succ] at h
    simpa [subS] using subS_get h
theorem addrs_mem {ks : List Nat} (hk : ∀ k ∈ ks, k < μ.length) {p : Addr} (h : p ∈ addrs μ ks) : ∃ k ∈ ks, μ[k]? = some p := by
  obtain ⟨i, e⟩ := List.mem_iff_getElem?.mp h
  obtain ⟨k, e1, e2⟩ := addrs_get hk e
  exact ⟨k, List.mem_iff_getElem?.mpr ⟨i, e1⟩, e2⟩
theorem addrs_nodup (nd : μ.Nodup) : ∀ {ks : List Nat}, (∀ k ∈ ks, k < μ.length) → apart ks = true → (addrs μ ks).Nodup
  | [], _, _ => by simp [addrs]
  | k :: ks, hk, ha => by
    obtain ⟨h1, h2⟩ := apart_cons ha
    have hk' : ∀ j ∈ ks, j < μ.length := fun j hj => hk j (List.mem_cons_of_mem _ hj)
    unfold addrs
    refine List.nodup_cons.mpr ⟨fun z => ?_, addrs_nodup nd hk' h2⟩
    obtain ⟨j, hj, e⟩ := addrs_mem hk' z
    have e' := getD_of (d := 0) (hk k List.mem_cons_self)
    exact h1 (by rw [nd_ix nd e' e]; exact hj)
theorem sub_store (S : StoR K H μ τ) {ks : List Nat} (hk : ∀ k ∈ ks, k < μ.length) (ha : apart ks = true) : StoR K H (addrs μ ks) (subS τ ks) := by
  refine ⟨by rw [addrs_length, subS_length], addrs_nodup S.nd hk ha, fun i p h => ?_⟩
  obtain ⟨k, e1, e2⟩ := addrs_get hk h
  obtain ⟨ds, vs, h1, h2, h3⟩ := S.ap k p e2
  refine ⟨ds, vs, ?_, h2, h3⟩
  rw [subS_get e1, List.getD_eq_getElem?_getD, h1]
  rfl
theorem locs_rep : ∀ {ws : List W} {vs : List V} {n : Nat} {pre : List Addr}, pre.length = n → repWs K H μ ws vs → repWs K H (pre ++ addrs μ (refs ws)) (locs n ws) vs
  | [], vs, n, pre, _, h => h
  | .l j :: ws, vs, n, pre, hn, r => by
    obtain ⟨v, vr, rfl, ⟨p, e1, e2⟩, h2⟩ := r
    have hd : μ.getD j 0 = p := by
      rw [List.getD_eq_getElem?_getD, e2]
      rfl
    have q := locs_rep (n := n + 1) (pre := pre ++ [p]) (by simp [hn]) h2
    show repWs K H (pre ++ μ.getD j 0 :: addrs μ (refs ws)) (.l n :: locs (n + 1) ws) (v :: vr)
    rw [hd]
    rw [List.append_assoc] at q
    exact repWs.cons ⟨p, e1, by rw [← hn, List.getElem?_append_right (Nat.le_refl _)]; simp⟩ q
  | .d x :: ws, vs, n, pre, hn, r => by
    obtain ⟨v, vr, rfl, h1, h2⟩ := r
    exact repWs.cons (w := .d x) h1 (locs_rep hn h2)
  | .ty x :: ws, vs, n, pre, hn, r => by
    obtain ⟨v, vr, rfl, h1, h2⟩ := r
    exact repWs.cons (w := .ty x) h1 (locs_rep hn h2)
/-- the store behind a call, list by list -/
theorem backS_spec : ∀ {ks : List Nat} {τ τ' : Sto}, apart ks = true → (∀ k ∈ ks, k < τ.length) → ks.length ≤ τ'.length →
    (backS τ ks τ').length = τ.length + (τ'.length - ks.length) ∧ (∀ (i k : Nat), ks[i]? = some k → (backS τ ks τ')[k]? = τ'[i]?) ∧ (∀ j : Nat, j < τ.length → j ∉ ks → (backS τ ks τ')[j]? = τ[j]?) ∧
      ∀ j : Nat, τ.length ≤ j → (backS τ ks τ')[j]? = τ'[j - τ.length + ks.length]?
  | [], τ, τ', _, _, _ => ⟨by simp [backS], fun i k h => by simp at h, fun j hj _ => by simp [backS, List.getElem?_append_left hj], fun j hj => by simp [backS, List.getElem?_append_right hj]⟩
  | k :: ks, τ, [], _, _, hl => by simp at hl
  | k :: ks, τ, ds :: τ', ha, hk, hl => by
    obtain ⟨h1, h2⟩ := apart_cons ha
    obtain ⟨q1, q2, q3, q4⟩ := backS_spec (ks := ks) (τ := τ.set k ds) (τ' := τ') h2 (fun j hj => by rw [List.length_set]; exact hk j (List.mem_cons_of_mem _ hj)) (by simpa using hl)
    have hkl : k < τ.length := hk k List.mem_cons_self
    refine ⟨by show (backS (τ.set k ds) ks τ').length = _; rw [q1]; simp, fun i j h => ?_, fun j hj hn => ?_, fun j hj => ?_⟩
    · show (backS (τ.set k ds) ks τ')[j]? = _
      cases i with
      | zero =>
        simp only [List.getElem?_cons_zero, Option.some.injEq] at h
        subst h
        rw [q3 k (by simpa using hkl) h1]
        simp [hkl]
      | succ i =>
        simp only [List.getElem?_cons_succ] at h ⊢
        exact q2 i j h
    · show (backS (τ.set k ds) ks τ')[j]? = _
      rw [q3 j (by simpa using hj) (fun z => hn (List.mem_cons_of_mem _ z)), List.getElem?_set_ne (fun z => hn (by rw [z]; exact List.mem_cons_self))]
    · show (backS (τ.set k ds) ks τ')[j]? = _
      rw [q4 j (by simpa using hj)]
      simp only [List.length_set, List.length_cons]
      rw [← Nat.add_assoc, List.getElem?_cons_succ]
theorem call_frame {sp : Spx} {ws : List W} {vs : List V} {R : XK1} {Q : VK} {E : XK} (S : StoR K H μ τ) (hw : repWs K H μ ws vs) (h : callL sp ws τ R) (k : Kont K μ H R Q) : spOf K sp vs H Q E := by
  unfold callL at h
  split at h
  case h_2 => exact h.elim
  rename_i ha
  have hk := refs_lt hw
  have Sc := sub_store S hk ha
  refine ⟨addrs μ (refs ws), _, _, _, by simpa using locs_rep (pre := []) rfl hw, Sc, h, fun w τ' hR v μ' H' e S' r => ?_⟩
  obtain ⟨ν, hν⟩ := e.grow
  have hl' : (refs ws).length ≤ τ'.length := by
    rw [← S'.len, hν, List.length_append, addrs_length]
    omega
  have hkτ : ∀ k ∈ refs ws, k < τ.length := fun j hj => by rw [← S.len]; exact hk j hj
  obtain ⟨b1, b2, b3, b4⟩ := backS_spec ha hkτ hl'
  have sub : ∀ p, p ∈ addrs μ (refs ws) → p ∈ μ := fun p hp => by
    obtain ⟨j, _, e2⟩ := addrs_mem hk hp
    exact List.mem_iff_getElem?.mpr ⟨j, e2⟩
  have νfree : ∀ p ∈ ν, H p = none := fun p hp => by
    refine e.new p (by rw [hν]; exact List.mem_append_right _ hp) fun z => ?_
    have nd := S'.nd
    rw [hν, List.nodup_append] at nd
    exact nd.2.2 p z p hp rfl
  have ev : Evo μ H (μ ++ ν) H' := ⟨⟨ν, rfl⟩, fun p o hp hH => e.keep p o (fun z => hp (sub p z)) hH, fun p hp hn => by
    rcases List.mem_append.mp hp with z | z
    · exact absurd z hn
    · exact νfree p z⟩
  have kf : KeepF H H' := S.keepF ev
  have Sn : StoR K H' (μ ++ ν) (backS τ (refs ws) τ') := by
    refine ⟨?_, ?_, fun j p hp => ?_⟩
    · rw [b1, List.length_append, S.len, ← S'.len, hν, List.length_append, addrs_length]
      omega
    · have nd := S'.nd
      rw [hν, List.nodup_append] at nd
      refine List.nodup_append.mpr ⟨S.nd, nd.2.1, fun a ha' b hb => ?_⟩
      intro z
      rw [z] at ha'
      exact S.fresh (νfree b hb) ha'
    · by_cases hj : j < μ.length
      · rw [List.getElem?_append_left hj] at hp
        by_cases hm : j ∈ refs ws
        · obtain ⟨i, hi⟩ := List.mem_iff_getElem?.mp hm
          have hp' : μ'[i]? = some p := by
            have hil : i < (addrs μ (refs ws)).length := by
              rw [addrs_length]
              exact (List.getElem?_eq_some_iff.mp hi).1
            rw [hν, List.getElem?_append_left hil]
            obtain ⟨p', e'⟩ : ∃ p', (addrs μ (refs ws))[i]? = some p' := ⟨_, List.getElem?_eq_getElem hil⟩
            obtain ⟨k', e1, e2⟩ := addrs_get hk e'
            rw [hi] at e1
            cases e1
            rw [e', ← e2, hp]
          obtain ⟨ds, us, h1, h2, h3⟩ := S'.ap i p hp'
          exact ⟨ds, us, by rw [b2 i j hi]; exact h1, h2, h3⟩
        · obtain ⟨ds, us, h1, h2, h3⟩ := S.ap j p hp
          refine ⟨ds, us, by rw [b3 j (by rw [← S.len]; exact hj) hm]; exact h1, e.keep p _ (fun z => ?_) h2, reps.mono kf _ _ h3⟩
          obtain ⟨j', hj', e2⟩ := addrs_mem hk z
          exact hm (by rw [nd_ix S.nd hp e2]; exact hj')
      · rw [List.getElem?_append_right (by omega)] at hp
        have hp' : μ'[j - τ.length + (refs ws).length]? = some p := by
          rw [hν, List.getElem?_append_right (by rw [addrs_length]; omega), addrs_length, Nat.add_sub_cancel, ← S.len]
          exact hp
        obtain ⟨ds, us, h1, h2, h3⟩ := S'.ap _ p hp'
        exact ⟨ds, us, by rw [b4 j (by rw [← S.len]; omega)]; exact h1, h2, h3⟩
  refine k _ _ hR v (μ ++ ν) H' ev Sn ?_
  cases w with
  | d x => exact r
  | ty x => exact r
  | l j =>
    obtain ⟨p, e1, e2⟩ := r
    show repW K H' (μ ++ ν) (match (refs ws)[j]? with
      | some k => .l k
      | none => .l (τ.length + (j - (refs ws).length))) v
    cases hx : (refs ws)[j]? with
    | some x =>
      refine ⟨p, e1, ?_⟩
      have hil : j < (addrs μ (refs ws)).length := by
        rw [addrs_length]
        exact (List.getElem?_eq_some_iff.mp hx).1
      rw [hν, List.getElem?_append_left hil] at e2
      obtain ⟨k', e3, e4⟩ := addrs_get hk e2
      rw [hx] at e3
      cases e3
      rw [List.getElem?_append_left (hk _ (List.mem_iff_getElem?.mpr ⟨j, hx⟩))]
      exact e4
    | none =>
      have hjl : (refs ws).length ≤ j := List.getElem?_eq_none_iff.mp hx
      refine ⟨p, e1, ?_⟩
      rw [hν, List.getElem?_append_right (by rw [addrs_length]; exact hjl), addrs_length] at e2
      rw [← S.len, List.getElem?_append_right (by omega), Nat.add_sub_cancel_left]
      exact e2
end
/-! ## defs: their promises where nothing of repr is under way -/
structure FnG (P : Program) (w : World) (K : PySem.W.Frag) (mg : Str → Option Value) (base : Heap) (k : Nat) (f : Addr) (fd : FuncData) (ps : List Str) (sp : Sp) : Prop where
  many : ∀ xs H Q E, sp xs H Q E → xs.length = ps.length
  go : ∀ (A : Around) (outer : List PySem.Env) (s : Shared) (H : Hp) (args : Args) (us : List Value) (xs : List V) (Q : VK) (E : XK), Room k A → A.guards = some [] → Env0 P w K mg base A outer s H →
    BindsTo s fd args (ps.zip us) → Vals xs us → sp xs H Q E → codeAny (model P w) A (.call (.ref f) args) (CR CX0 outer P w H s Q E) s
/-- where a def stands and how it binds -/
structure Cal (K : PySem.W.Frag) (mg : Str → Option Value) (x : Str) (f : Addr) (fd : FuncData) (ps : List Str) : Prop where
  named : mg x = some (.ref f)
  kept : PySem.W.keepIn K (.ref f) = true
  plain : ∀ (s : Shared) (us : List Value), us.length = ps.length → BindsTo s fd ⟨us, []⟩ (ps.zip us)
/-- the def x keeps sp -/
structure DefOk (P : Program) (w : World) (K : PySem.W.Frag) (mg : Str → Option Value) (base : Heap) (k : Nat) (x : Str) (ps : List Str) (st : Stmt) (sp : Spx) : Prop where
  ex : ∃ f fd, FnG P w K mg base k f fd ps (spOf K sp) ∧ Cal K mg x f fd ps ∧ Fun K x x st f fd
def xCall (sp : Spx) (ts : List XE) : XE := fun ρ τ R => xArgs ts ρ τ fun ws τ1 => callL sp ws τ1 R
section
variable {X : Cx} {k : Nat} {x : Str} {ps : List Str} {st : Stmt} {sp : Spx} {p pos : Pos} {e : Expr} {es : List Expr} {ts : List XE}
theorem after_call {pins : List (Addr × Obj)} {σ : L2.St} {H : Hp} {s s' : Shared} {Q : VK} {E : XK} {r : Result} (I : Inv X pins σ H s) (h : CR CX0 X.stack X.prog X.w H s Q E r s') :
    ∃ u, r = .ok (.ret u) ∧ EP X pins σ Q u s' := by
  cases r with
  | error e => exact False.elim h
  | ok fl =>
    cases fl with
    | ret u => exact ⟨u, rfl, I.after h⟩
    | next => exact False.elim h
    | brk => exact False.elim h
    | cont => exact False.elim h
theorem d_call (D : DefOk X.prog X.w X.K X.mg X.base k x ps st sp) (hr : Room k X.A) (hG : X.A.guards = some []) (hg : Gl X x) (ha : DAs X (e :: es) ts)
    (h1 : (x == ("__debug__" : Str)) = false := by decide) (h2 : starEach (e :: es) X.env = (false, eval e X.env) :: starEach es X.env := by rfl)
    (h3 : (backTo pos (starEach es X.env)).any (·.1) = false := by rfl) : DE X (.Call (.Name x p) (e :: es) [] pos) (xCall sp ts) := by
  obtain ⟨f, fd, F, C, _⟩ := D.ex
  refine ⟨fun pins s σ H Q I h => ?_⟩
  refine wpAny_Call_Name_kw (ld_glob I hg C.named ?_ h1)
  obtain ⟨μ, ρ, τ, R, E, S, h, kk⟩ := h
  refine PySem.W.callWith_K (h₀ := X.base) I.ok.mod.kin C.kept (thn (ha.run pos pins s σ H (fun vs H1 => spOf X.K sp vs H1 Q E0) I
    (lift_args E S h fun ws τ1 hc vs μ1 H1 e1 S1 r1 _ => call_frame S1 r1 hc (kk.evo e1))) fun us s1 hh => ?_) h2 h3
  obtain ⟨vs, H1, I1, r1, q1⟩ := hh
  refine ⟨I1.kIn, ?_⟩
  show wpAny _ _ (call _ us) _ _ _
  refine wpAny_call (codeAny_mono (F.go X.A X.stack s1 H1 ⟨us, []⟩ us vs Q E0 hr hG I1.env0 (C.plain s1 us ?_) r1 q1) fun r s' hq => ?_)
  · rw [← r1.length]
    exact F.many _ _ _ _ q1
  · obtain ⟨u, rfl, q⟩ := after_call I1 hq
    exact q
/-- all arguments by their names: g puts them into the parameters' order -/
def xCallK (sp : Spx) (g : List W → List W) (ts : List XE) : XE := fun ρ τ R => xArgs ts ρ τ fun ws τ1 => callL sp (g ws) τ1 R
abbrev DKs (X : Cx) (kws : List Keyword) (ts : List XE) : Prop := PK X kws (tAll X.K ts)
theorem k_nil : DKs X [] [] := pk_nil
theorem k_cons {nm : Option Str} {kpos : Pos} {kws : List Keyword} {t : XE} (ha : DE X e t) (hr : DKs X kws ts) : DKs X (⟨nm, e, kpos⟩ :: kws) (t :: ts) := pk_cons ha hr
/-- the order in which named arguments lie: the i-th parameter is the (o i)-th of them -/
def ordered {α : Type} : List Nat → List α → List α
  | [], _ => []
  | i :: o, l => match l[i]? with
    | some x => x :: ordered o l
    | none => ordered o l
theorem ordered_vals {xs : List V} {us : List Value} (r : Vals xs us) : ∀ o : List Nat, Vals (ordered o xs) (ordered o us)
  | [] => .nil
  | i :: o => by
    unfold ordered
    cases h : xs[i]? with
    | none =>
      rw [r.none_of h]
      exact ordered_vals r o
    | some x =>
      obtain ⟨u, h1, h2⟩ := r.get h
      rw [h1]
      exact .cons h2 (ordered_vals r o)
theorem repWs.get {K : PySem.W.Frag} {H : Hp} {μ : List Addr} : ∀ {ws : List W} {vs : List V} (i : Nat), repWs K H μ ws vs → (∃ w v, ws[i]? = some w ∧ vs[i]? = some v ∧ repW K H μ w v) ∨ (ws[i]? = none ∧ vs[i]? = none)
  | [], vs, i, h => .inr ⟨by simp, by rw [show vs = [] from h]; simp⟩
  | w :: ws, vs, i, h => by
    obtain ⟨v, vr, rfl, h1, h2⟩ := h
    cases i with
    | zero => exact .inl ⟨w, v, rfl, rfl, h1⟩
    | succ i => simpa using repWs.get i h2
theorem ordered_ws {K : PySem.W.Frag} {H : Hp} {μ : List Addr} {ws : List W} {vs : List V} (r : repWs K H μ ws vs) : ∀ o : List Nat, repWs K H μ (ordered o ws) (ordered o vs)
  | [] => rfl
  | i :: o => by
    unfold ordered
    rcases repWs.get i r with ⟨w, v, h1, h2, h3⟩ | ⟨h1, h2⟩
    · rw [h1, h2]
      exact repWs.cons h3 (ordered_ws r o)
    · rw [h1, h2]
      exact ordered_ws r o
/-- that fd, called with the names ks alone, binds ps in the order o -/
def Named (fd : FuncData) (ps ks : List Str) (o : List Nat) : Prop := ∀ (s : Shared) (us : List Value), us.length = ks.length → BindsTo s fd ⟨[], ks.zip us⟩ (ps.zip (ordered o us))
theorem d_callK {kws : List Keyword} {ks : List Str} {o : List Nat} (D : DefOk X.prog X.w X.K X.mg X.base k x ps st sp) (hb : ∀ f fd, Fun X.K x x st f fd → Named fd ps ks o) (hr : Room k X.A) (hG : X.A.guards = some []) (hg : Gl X x) (ha : DKs X kws ts) (hl : ts.length = ks.length := by rfl)
    (h1 : (x == ("__debug__" : Str)) = false := by decide) (hall : (backToKw pos (keywordEach kws X.env)).all (·.1.isSome) = true := by rfl) (hks : (backToKw pos (keywordEach kws X.env)).filterMap (·.1) = ks := by rfl)
    (h3 : ((backTo pos (starEach [] X.env)).any (·.1) || (backToKw pos (keywordEach kws X.env)).any (·.1.isNone)) = false := by rfl) : DE X (.Call (.Name x p) [] kws pos) (xCallK sp (ordered o) ts) := by
  obtain ⟨f, fd, F, C, FF⟩ := D.ex
  have hb := hb f fd FF
  refine ⟨fun pins s σ H Q I h => ?_⟩
  refine wpAny_Call_Name_kw (ld_glob I hg C.named ?_ h1)
  obtain ⟨μ, ρ, τ, R, E, S, h, kk⟩ := h
  refine PySem.W.callWith_KW0 (h₀ := X.base) I.ok.mod.kin C.kept hall (thn (ha.run pos pins s σ H (fun vs H1 => vs.length = ks.length ∧ spOf X.K sp (ordered o vs) H1 Q E0) I
    (lift_args E S h fun ws τ1 hc vs μ1 H1 e1 S1 r1 l1 => ⟨?_, call_frame S1 (ordered_ws r1 o) hc (kk.evo e1)⟩)) fun us s1 hh => ?_) h3
  · have := repWs.length r1
    rw [← this, l1, hl]
  · obtain ⟨vs, H1, I1, r1, l1, q1⟩ := hh
    refine ⟨I1.kIn, ?_⟩
    rw [hks]
    show wpAny _ _ (call _ [] (ks.zip us)) _ _ _
    refine wpAny_call (codeAny_mono (F.go X.A X.stack s1 H1 ⟨[], ks.zip us⟩ (ordered o us) (ordered o vs) Q E0 hr hG I1.env0 (hb s1 us (by rw [← r1.length]; exact l1)) (ordered_vals r1 o) q1) fun r s' hq => ?_)
    obtain ⟨u, rfl, q⟩ := after_call I1 hq
    exact q
end
/-! ### the rule for a def -/
def startD (N : List Str) (ws : List W) : DEnv := ws.map some ++ List.replicate (N.length - ws.length) none
theorem start_env {K : PySem.W.Frag} {H : Hp} {μ : List Addr} {N : List Str} {ws : List W} {vs : List V} (r : repWs K H μ ws vs) : EnvR K H μ (start N vs) (startD N ws) := by
  have hl := repWs.length r
  refine ⟨by unfold startD L2.start; simp [hl], fun i w h => ?_⟩
  unfold startD at h
  by_cases hi : i < ws.length
  · rw [List.getElem?_append_left (by simpa using hi), List.getElem?_map] at h
    rcases repWs.get i r with ⟨w', v, h1, h2, h3⟩ | ⟨h1, _⟩
    · rw [h1] at h
      cases h
      refine ⟨v, ?_, h3⟩
      unfold L2.start
      rw [List.getElem?_append_left (by simp; omega), List.getElem?_map, h2]
      rfl
    · rw [h1] at h
      cases h
  · rw [List.getElem?_append_right (by simpa using hi), List.getElem?_replicate] at h
    split at h <;> cases h
section
variable {P : Program} {w : World} {K : PySem.W.Frag} {mg : Str → Option Value} {base : Heap} {x : Str} {st : Stmt} {f : Addr} {fd : FuncData} {N ps : List Str} {k : Nat}
theorem fn_run {sp : Sp} (F : Fun K x x st f fd) (sc : FnScope N ps (defScope st)) (many : ∀ xs H Q E, sp xs H Q E → xs.length = ps.length)
    (body : ∀ (cdv : Value) (A : Around) (outer : List PySem.Env) (s : Shared) (H : Hp) (E : XK), Room k (A.deeper (envOfC x (defScope st) s.heap.objs.size f cdv)) → A.guards = some [] →
      ∃ t, PSs (cxOf CX0 P w K mg base N x (defScope st) f cdv A outer s H E).nox (defBody st) t ∧ ∀ xs Q, sp xs H Q E → t { nx := fun _ H' => Q .non H', rt := Q } (start N xs) H) : FnG P w K mg base (k + 1) f fd ps sp := by
  obtain ⟨oc, od, kV, doc, pm, an, cdv, ct, osl, rfl, lk, hcd⟩ := F.ex
  refine ⟨many, fun A outer s H args us xs Q E hr hG e0 hb r hsp => ?_⟩
  obtain ⟨t, ht, hq⟩ := body cdv A outer s H E (hr.deeper _) hG
  have in0 : ∀ b o, base.get? b = some o → s.heap.get? b = some o := fun b o e => (e0.bs b o e).1
  have KX : K.In s.heap := e0.mod.kin.keeps in0
  refine codeAny_call_function hr.depth (KX _ _ lk) rfl sc.co sc.gen rfl (PySem.W.codeRec_of KX hcd) (hb _ _ _ _ ?_)
  refine wpAny_newFunctionEnv_cells sc.kind (fun ⟨n, v⟩ hy => (sc.par n (List.of_mem_zip hy).1).imp id fun q => ⟨q, PySem.W.cellsFrom_some _ _ _ (.inl q)⟩) fun env he s1 y => ?_
  subst he
  refine ⟨(e0.mod.nolimit.keeps in0).keeps y.toInCall.keep, codeAny_func ?_⟩
  have I : Inv (cxOf CX0 P w K mg base N x (defScope st) f cdv A outer s H E) [] (start N xs) H s1 := inv_start sc hr.hd e0 (many _ _ _ _ hsp) r y
  refine wpAny_mono (ht.nox.run [] s1 _ H _ I (hq xs Q hsp)) (fun fl s' hs => ?_) fun _ _ hs => hs
  match fl, hs with
  | .ret u, ⟨v, σ', H', J, rv, q⟩ => exact ⟨v, H', J.os, J.bare, J.base, J.hok, rv, q⟩
  | .next, ⟨σ', H', J, q⟩ => exact ⟨.non, H', J.os, J.bare, J.base, J.hok, rfl, q⟩
  | .brk, ⟨_, _, _, q⟩ => exact False.elim q
  | .cont, ⟨_, _, _, q⟩ => exact False.elim q
/-- a def of the text: its body as a term of rules, the reading over data -/
theorem def_ok {sp : Spx} (F : Fun K x x st f fd) (C : Cal K mg x f fd ps) (sc : FnScope N ps (defScope st)) (many : ∀ ws τ R, sp ws τ R → ws.length = ps.length)
    (body : ∀ (cdv : Value) (A : Around) (outer : List PySem.Env) (s : Shared) (H : Hp) (E : XK), Room k (A.deeper (envOfC x (defScope st) s.heap.objs.size f cdv)) → A.guards = some [] →
      ∃ t, DSs (cxOf CX0 P w K mg base N x (defScope st) f cdv A outer s H E).nox (defBody st) t ∧ ∀ ws τ R, sp ws τ R → t { nx := fun _ τ' => R (.d .non) τ', rt := R } (startD N ws) τ) : DefOk P w K mg base (k + 1) x ps st sp := by
  refine ⟨f, fd, fn_run F sc (fun xs H Q E ⟨μ, ws, τ, R, r, S, h, _⟩ => ?_) (fun cdv A outer s H E hr hG => ?_), C, F⟩
  · have hl := repWs.length r
    rw [← hl]
    exact many ws τ R h
  · obtain ⟨t, ht, hq⟩ := body cdv A outer s H E hr hG
    refine ⟨_, ht, fun xs Q ⟨μ, ws, τ, R, r, S, h, kk⟩ => ⟨μ, startD N ws, τ, { nx := fun _ τ' => R (.d .non) τ', rt := R }, start_env r, S, hq ws τ R h, ⟨fun ρ' τ' h' σ' μ' H' e' S' E' => ?_, kk, fun _ _ z => False.elim z, fun _ _ z => False.elim z⟩⟩⟩
    exact kk _ τ' h' _ μ' H' e' S' (by show rep K H' .non .non; simp [rep])
end
end DL

namespace DL
open PySem PySem.Spec PyProof.Rows L2
/-! ## targets -/
abbrev XG := W → DEnv → Sto → (DEnv → Sto → Prop) → Prop
def liftG (K : PySem.W.Frag) (g : XG) : TG := fun v σ H Q => ∃ μ ρ τ w R, EnvR K H μ σ ρ ∧ StoR K H μ τ ∧ repW K H μ w v ∧ g w ρ τ R ∧ KontN K μ H R Q
abbrev DG (X : Cx) (tg : Expr) (g : XG) : Prop := PG X tg (liftG X.K g)
def xgN (i : Nat) : XG := fun w ρ τ R => R (ρ.set i (some w)) τ
def setAll : DEnv → List Nat → List D → Option DEnv
  | ρ, [], [] => some ρ
  | ρ, i :: is, x :: xs => setAll (ρ.set i (some (.d x))) is xs
  | _, _, _ => none
def xgAll : List XG → List D → DEnv → Sto → (DEnv → Sto → Prop) → Prop
  | [], [], ρ, τ, R => R ρ τ
  | g :: gs, x :: xs, ρ, τ, R => g (.d x) ρ τ fun ρ1 τ1 => xgAll gs xs ρ1 τ1 R
  | _, _, _, _, _ => False
def sameLen {α β : Type} : List α → List β → Bool
  | [], [] => true
  | _ :: a, _ :: b => sameLen a b
  | _, _ => false
theorem sameLen_eq {α β : Type} : ∀ {a : List α} {b : List β}, sameLen a b = true → a.length = b.length
  | [], [], _ => rfl
  | [], _ :: _, h => by cases h
  | _ :: _, [], h => by cases h
  | _ :: a, _ :: b, h => by simp [sameLen_eq (a := a) (b := b) h]
def xgT (gs : List XG) : XG := fun w ρ τ R => match w with
  | .d (.tup xs) => match sameLen gs xs with
    | true => xgAll gs xs ρ τ R
    | false => False
  | _ => False
def xgS (to ti : XE) : XG := fun w ρ τ R => to ρ τ fun o τ1 => ti ρ τ1 fun i τ2 => match o, i, w with
  | .l k, .d (.int j), .d x => ∃ xs, τ2[k]? = some xs ∧ (0 ≤ j ∧ j.toNat < xs.length) ∧ R ρ (τ2.set k (xs.set j.toNat x))
  | _, _, _ => False
def tgAll (K : PySem.W.Frag) : List XG → TGs
  | [] => gNil
  | g :: gs => gCons (liftG K g) (tgAll K gs)
theorem pg_imp {X : Cx} {e : Expr} {t t' : TG} (h : PG X e t) (i : ∀ v σ H Q, t' v σ H Q → t v σ H Q) : PG X e t' := ⟨fun pins s σ H v u Q I r q => h.run pins s σ H v u Q I r (i v σ H Q q)⟩
section
variable {X : Cx} {K : PySem.W.Frag} {e o i : Expr} {es : List Expr} {g : XG} {gs : List XG} {pos : Pos}
theorem lift_gN {j : Nat} : ∀ v σ H Q, liftG K (xgN j) v σ H Q → gName j v σ H Q := fun v σ H Q ⟨μ, ρ, τ, w, R, E, S, r, h, k⟩ => k _ τ h _ μ H Evo.refl S (E.set r j)
theorem g_name (j : Nat) {x : Str} (hN : X.N.Nodup) (hi : X.N[j]? = some x := by rfl) (hx : Loc X.env.scope x := by first | exact Or.inl rfl | exact Or.inr rfl)
    (hf : X.fn x = true ∨ X.env.scope.names.lookup x = some .local := by first | exact Or.inl rfl | exact Or.inr rfl) : DG X (.Name x pos) (xgN j) := pg_imp (pg_name hN hi hx hf) lift_gN
theorem gs_nil : PGs X [] (tgAll X.K []) := pgs_nil
theorem gs_cons (h : DG X e g) (r : PGs X es (tgAll X.K gs)) (hs : (assignEach (e :: es) X.env).map (·.2) = assign e X.env :: (assignEach es X.env).map (·.2) := by rfl) : PGs X (e :: es) (tgAll X.K (g :: gs)) := pgs_cons h r hs
theorem lift_gAll : ∀ {gs : List XG} {xs : List D} {vs : List V} {μ : List Addr} {ρ : DEnv} {τ : Sto} {σ : L2.St} {H : Hp} {R : DEnv → Sto → Prop} {Q : L2.St → Hp → Prop}, EnvR K H μ σ ρ → StoR K H μ τ → reps K H xs vs → xgAll gs xs ρ τ R → KontN K μ H R Q →
    tgAll K gs vs σ H Q
  | [], [], vs, μ, ρ, τ, σ, H, R, Q, E, S, r, h, k => ⟨reps.nil r, k.now S E h⟩
  | [], _ :: _, _, _, _, _, _, _, _, _, _, _, _, h, _ => False.elim h
  | _ :: _, [], _, _, _, _, _, _, _, _, _, _, _, h, _ => False.elim h
  | g :: gs, x :: xs, vs, μ, ρ, τ, σ, H, R, Q, E, S, r, h, k => by
    unfold reps at r
    obtain ⟨v, vr, rfl, r1, r2⟩ := r
    exact ⟨v, vr, rfl, μ, ρ, τ, .d x, _, E, S, r1, h, fun ρ1 τ1 h1 σ1 μ1 H1 e1 S1 E1 => lift_gAll E1 S1 (reps.mono (S.keepF e1) _ _ r2) h1 (k.evo e1)⟩
theorem g_tup {j : Nat} (hc : X.calm = true) (h : PGs X es (tgAll X.K gs)) (hn : (assignEach es X.env).length = gs.length := by rfl) (hst : (assignEach es X.env).findIdx? (·.1) = none := by rfl) : DG X (.Tuple es j pos) (xgT gs) :=
  pg_imp (pg_tup hc h hn hst) fun v σ H Q ⟨μ, ρ, τ, w, R, E, S, r, h, k⟩ => by
    unfold xgT at h
    split at h
    · split at h
      · rename_i xs hl
        obtain ⟨p, vs, e, hs, hr⟩ := repW_tup r
        exact ⟨p, vs, e, hs, by rw [← hr.length, sameLen_eq hl], lift_gAll E S hr h k⟩
      · exact h.elim
    · exact h.elim
theorem g_sub {to ti : XE} (ho : DE X o to) (hi : DE X i ti) (ha : ∀ v, assign (.Subscript o i pos) X.env v = (do
      let ov ← eval o X.env |> holding [v]
      let iv ← eval i X.env |> holding [v, ov]
      standAt pos
      holding [v, ov, iv] (setItem ov iv v)
      release [v, ov, iv] []) := by intro _; rfl) : DG X (.Subscript o i pos) (xgS to ti) :=
  pg_imp (pg_sub ho hi set_list ha) fun v σ H Q ⟨μ, ρ, τ, w, R, E, S, r, h, k⟩ => ⟨μ, ρ, τ, _, E, S, h, fun x τ1 h1 vx μ1 H1 e1 S1 r1 => ⟨μ1, ρ, τ1, _, E.evo S e1, S1, h1, fun y τ2 h2 vy μ2 H2 e2 S2 r2 => by
    split at h2
    · rename_i kk j x
      obtain ⟨xs, q1, ⟨q0, q2⟩, q3⟩ := h2
      have r1' := r1.evo S1 e2
      obtain ⟨p, e, hp⟩ := r1'
      obtain ⟨vs, hv, hr⟩ := S2.at' hp q1
      have rx : rep X.K H2 x v := (r.evo S (e1.trans e2) : repW X.K H2 μ2 (.d x) v)
      have hj : ixN vs.length j = some j.toNat := by
        unfold ixN
        have : j.toNat < vs.length := by rw [← hr.length]; exact q2
        rw [if_pos q0, if_pos (by omega)]
      refine ⟨p, vs, j, j.toNat, e, repW_int r2, hv, hj, ?_⟩
      exact k ρ _ q3 σ μ2 _ ((e1.trans e2).trans (Evo.wr (List.mem_iff_getElem?.mpr ⟨kk, hp⟩))) (S2.wr hp (reps.set j.toNat hr rx)) ((E.evo S (e1.trans e2)).evo S2 (Evo.wr (List.mem_iff_getElem?.mpr ⟨kk, hp⟩)))
    · exact h2.elim⟩⟩
end
/-! ## statements -/
def xNext : XS := fun O ρ τ => O.nx ρ τ
def xSeq (t u : XS) : XS := fun O ρ τ => t { O with nx := u O } ρ τ
def xAsg (te : XE) (g : XG) : XS := fun O ρ τ => te ρ τ fun w τ1 => g w ρ τ1 O.nx
def xRet (te : XE) : XS := fun O ρ τ => te ρ τ O.rt
def xRetN : XS := fun O _ τ => O.rt (.d .non) τ
def xDrop (te : XE) : XS := fun O ρ τ => te ρ τ fun _ τ1 => O.nx ρ τ1
def xIfS (c : XT) (t u : XS) : XS := fun O ρ τ => c ρ τ fun b τ1 => if b = true then t O ρ τ1 else u O ρ τ1
def xNever : XS := fun _ _ _ => False
def xBreak : XS := fun O ρ τ => O.bk ρ τ
def xCont : XS := fun O ρ τ => O.ct ρ τ
def xPar (i j : Nat) (ta tb : XE) : XS := fun O ρ τ => ta ρ τ fun w τ1 => tb ρ τ1 fun u τ2 => O.nx ((ρ.set i (some w)).set j (some u)) τ2
def xAug (i : Nat) (f : Int → Int → Int) (te : XE) : XS := fun O ρ τ => match ρ[i]? with
  | some (some (.d (.int a))) => te ρ τ fun w τ1 => match w with
    | .d (.int b) => O.nx (ρ.set i (some (.d (.int (f a b))))) τ1
    | _ => False
  | _ => False
section
variable {X : Cx} {s : Stmt} {ss : List Stmt} {t u : XS} {te ta tb : XE} {tc : XT} {e a b : Expr} {tg : Expr} {g : XG} {pos : Pos}
theorem KontS.seq {K : PySem.W.Frag} {μ : List Addr} {H : Hp} {O : XEnds} {D : Ends} (k : KontS K μ H O D) : KontS K μ H { O with nx := u O } { D with nx := liftS K u D } :=
  ⟨fun ρ' τ' h σ' μ' H' e S E => ⟨μ', ρ', τ', O, E, S, h, k.evo e⟩, k.rt, k.bk, k.ct⟩
theorem ss_nil : DSs X [] xNext := pss_imp pss_nil fun D σ H ⟨μ, ρ, τ, O, E, S, h, k⟩ => k.nx.now S E h
theorem ss_one (h : DSt X s t) : DSs X [s] t := pss_one h
theorem ss_cons (h : DSt X s t) (r : DSs X ss u) : DSs X (s :: ss) (xSeq t u) := pss_imp (pss_cons h r) fun D σ H ⟨μ, ρ, τ, O, E, S, h, k⟩ => ⟨μ, ρ, τ, _, E, S, h, k.seq⟩
theorem s_pass : DSt X (.Pass pos) xNext := ps_imp ps_pass fun D σ H ⟨μ, ρ, τ, O, E, S, h, k⟩ => k.nx.now S E h
theorem s_break : DSt X (.Break pos) xBreak := ps_imp ps_break fun D σ H ⟨μ, ρ, τ, O, E, S, h, k⟩ => k.bk.now S E h
theorem s_cont : DSt X (.Continue pos) xCont := ps_imp ps_continue fun D σ H ⟨μ, ρ, τ, O, E, S, h, k⟩ => k.ct.now S E h
theorem s_never : DSt X s xNever := ps_imp ps_never fun D σ H ⟨μ, ρ, τ, O, E, S, h, k⟩ => h
theorem ss_never : DSs X ss xNever := pss_imp pss_never fun D σ H ⟨μ, ρ, τ, O, E, S, h, k⟩ => h
theorem s_expr (he : DE X e te) (hs : swapsWith e none pos.line X.env = pure false := by rfl) : DSt X (.Expr e pos) (xDrop te) :=
  ps_imp (ps_expr he hs) fun D σ H ⟨μ, ρ, τ, O, E, S, h, k⟩ => ⟨μ, ρ, τ, _, E, S, h, fun w τ1 h1 v μ1 H1 e1 S1 r1 => (k.nx.evo e1).now S1 (E.evo S e1) h1⟩
theorem s_ret (he : DE X e te) : DSt X (.Return (some e) pos) (xRet te) := ps_imp (ps_ret he) fun D σ H ⟨μ, ρ, τ, O, E, S, h, k⟩ => ⟨μ, ρ, τ, _, E, S, h, k.rt⟩
theorem s_retN : DSt X (.Return none pos) xRetN := ps_imp ps_retN fun D σ H ⟨μ, ρ, τ, O, E, S, h, k⟩ => k.rt.nowD S h rep_non
theorem s_if {c : Expr} {sa sb : List Stmt} (hc : DT X c tc) (ha : DSs X sa t) (hb : DSs X sb u) : DSt X (.If c sa sb pos) (xIfS tc t u) :=
  ps_imp (ps_if hc ha hb) fun D σ H ⟨μ, ρ, τ, O, E, S, h, k⟩ => ⟨μ, ρ, τ, _, E, S, h, fun c τ1 hx μ1 H1 e1 S1 => by
    cases c with
    | true => exact ⟨μ1, ρ, τ1, O, E.evo S e1, S1, hx, k.evo e1⟩
    | false => exact ⟨μ1, ρ, τ1, O, E.evo S e1, S1, hx, k.evo e1⟩⟩
theorem s_asg (he : DE X e te) (hg : DG X tg g) (hs : swapsWithSole [tg] e pos.line X.env = pure false := by rfl) (hw : swappedStores [tg] e X.env = pure none := by rfl)
    (h1 : (assignEach [tg] X.env).map (·.2) = [assign tg X.env] := by rfl) : DSt X (.Assign [tg] e pos) (xAsg te g) :=
  ps_imp (ps_asg he hg hs hw h1) fun D σ H ⟨μ, ρ, τ, O, E, S, h, k⟩ => ⟨μ, ρ, τ, _, E, S, h, fun w τ1 hx v μ1 H1 e1 S1 r1 => ⟨μ1, ρ, τ1, w, _, E.evo S e1, S1, r1, hx, k.nx.evo e1⟩⟩
theorem s_set (i : Nat) {x : Str} {pos' : Pos} (hN : X.N.Nodup) (he : DE X e te) (hi : X.N[i]? = some x := by rfl) (hx : Loc X.env.scope x := by first | exact Or.inl rfl | exact Or.inr rfl)
    (hs : swapsWith e (some (.Name x pos')) pos.line X.env = pure false := by rfl) (hf : X.fn x = true ∨ X.env.scope.names.lookup x = some .local := by first | exact Or.inl rfl | exact Or.inr rfl) :
    DSt X (.Assign [.Name x pos'] e pos) (xAsg te (xgN i)) :=
  ps_imp (ps_set hN hi hx he hs hf) fun D σ H ⟨μ, ρ, τ, O, E, S, h, k⟩ => ⟨μ, ρ, τ, _, E, S, h, fun w τ1 hx v μ1 H1 e1 S1 r1 => lift_gN v σ H1 D.nx ⟨μ1, ρ, τ1, w, _, E.evo S e1, S1, r1, hx, k.nx.evo e1⟩⟩
theorem s_par (i j : Nat) {x y : Str} {px py pt : Pos} {kt k2 : Nat} {pt2 : Pos} (hc : X.calm = true) (hN : X.N.Nodup) (ha : DE X a ta) (hb : DE X b tb) (hi : X.N[i]? = some x := by rfl) (hj : X.N[j]? = some y := by rfl) (hij : i ≠ j := by decide)
    (hx : X.env.scope.names.lookup x = some .local := by rfl) (hy : X.env.scope.names.lookup y = some .local := by rfl)
    (h2 : starEach (a :: [b]) X.env = (false, eval a X.env) :: starEach [b] X.env := by rfl) (h3 : starEach (b :: []) X.env = (false, eval b X.env) :: starEach [] X.env := by rfl)
    (hw : swappedStores [.Tuple [.Name x px, .Name y py] kt pt] (.Tuple [a, b] k2 pt2) X.env = pure (some [x, y]) := by rfl)
    (hs : swapsWithSole [.Tuple [.Name x px, .Name y py] kt pt] (.Tuple [a, b] k2 pt2) pos.line X.env = pure false := by rfl) :
    DSt X (.Assign [.Tuple [.Name x px, .Name y py] kt pt] (.Tuple [a, b] k2 pt2) pos) (xPar i j ta tb) :=
  ps_imp (ps_par hc hN hi hj hij hx hy (a_cons ha (a_cons hb a_nil h3) h2) hw hs) fun D σ H ⟨μ, ρ, τ, O, E, S, h, k⟩ =>
    ⟨μ, ρ, τ, _, E, S, h, fun w τ1 hw v μ1 H1 e1 S1 r1 => ⟨μ1, ρ, τ1, _, E.evo S e1, S1, hw, fun w2 τ2 h2 v2 μ2 H2 e2 S2 r2 => ⟨v, v2, rfl, (k.nx.evo (e1.trans e2)).now S2 (((E.evo S (e1.trans e2)).set (r1.evo S1 e2) i).set r2 j) h2⟩⟩⟩
theorem s_aug {i : Nat} {x : Str} {op : Operator} {f : Int → Int → Int} {pos' : Pos} (ho : PIp X op (ipI f)) (hN : X.N.Nodup) (he : DE X e te) (hi : X.N[i]? = some x := by rfl) (hx : Loc X.env.scope x := by first | exact Or.inl rfl | exact Or.inr rfl)
    (hf : X.fn x = true ∨ X.env.scope.names.lookup x = some .local := by first | exact Or.inl rfl | exact Or.inr rfl) : DSt X (.AugAssign (.Name x pos') op e pos) (xAug i f te) :=
  ps_imp (ps_aug hN hi hx he ho hf) fun D σ H ⟨μ, ρ, τ, O, E, S, h, k⟩ => by
    unfold xAug at h
    split at h
    · rename_i c hc
      obtain ⟨v, e1, e2⟩ := E.ap i _ hc
      refine ⟨v, e1, μ, ρ, τ, _, E, S, h, fun w τ1 hx v2 μ1 H1 e3 S1 r1 => ?_⟩
      split at hx
      · rename_i d
        refine ⟨c, d, repW_int e2, repW_int r1, (k.nx.evo e3).now S1 ((E.evo S e3).set (w := .d (.int (f c d))) (v := .int (f c d)) ?_ i) hx⟩
        show rep _ _ _ _
        simp [rep]
      · exact hx.elim
    · exact h.elim
end
/-! ## while -/
def whN (c : XT) (tb : XS) : Nat → XS
  | 0 => fun _ _ _ => False
  | n + 1 => fun O ρ τ => c ρ τ fun b τ1 => if b = true then tb { O with nx := fun ρ' τ' => whN c tb n O ρ' τ', ct := fun ρ' τ' => whN c tb n O ρ' τ', bk := O.nx } ρ τ1 else O.nx ρ τ1
def xWhile (c : XT) (tb : XS) : XS := fun O ρ τ => ∃ n, whN c tb n O ρ τ
section
variable {X : Cx} {tc : XT} {tb : XS} {c : Expr} {body : List Stmt} {pos : Pos}
theorem s_while (hp : PassesOwn (model X.prog X.w) X.A X.env X.xe) (hc : DT X c tc) (hb : DSs X body tb) : DSt X (.While c body [] pos) (xWhile tc tb) :=
  ps_imp (ps_while hp hc hb) fun D σ H ⟨μ, ρ, τ, O, E, S, ⟨n, h⟩, k⟩ => by
    refine ⟨fun m σ H => liftS X.K (whN tc tb m) D σ H, ⟨n, μ, ρ, τ, O, E, S, h, k⟩, ?_⟩
    rintro m σ H ⟨μ, ρ, τ, O, E, S, h, k⟩
    cases m with
    | zero => exact False.elim h
    | succ m =>
      refine ⟨μ, ρ, τ, _, E, S, h, fun b τ1 hx μ1 H1 e1 S1 => ?_⟩
      cases b with
      | false => exact (k.nx.evo e1).now S1 (E.evo S e1) hx
      | true =>
        have kk : KontN X.K μ1 H1 (fun ρ' τ' => whN tc tb m O ρ' τ') fun σ' H' => liftS X.K (whN tc tb m) D σ' H' := fun ρ' τ' h' σ' μ' H' e' S' E' => ⟨μ', ρ', τ', O, E', S', h', k.evo (e1.trans e')⟩
        exact ⟨fun σ' H' => liftS X.K (whN tc tb m) D σ' H', fun σ' H' q => ⟨m, Nat.lt_succ_self m, q⟩, μ1, ρ, τ1, _, E.evo S e1, S1, hx, ⟨kk, k.rt.evo e1, k.nx.evo e1, kk⟩⟩
end
end DL

namespace DL
open PySem PySem.Spec PyProof.Rows L2
/-! ## what is walked -/
/-- the items and what of the store must stand while they are walked -/
abbrev XI := DEnv → Sto → (List D → (Sto → Prop) → Sto → Prop) → Prop
/-- J walks xs while G stands -/
structure ItD (K : PySem.W.Frag) (J : It) (xs : List D) (G : Sto → Prop) (μ1 : List Addr) (H1 : Hp) : Prop where
  ex : ∃ Gh Y, Walk J xs.length Gh Y ∧ (∀ μ H τ, Evo μ1 H1 μ H → StoR K H μ τ → G τ → Gh H) ∧
    ∀ i μ H τ v H', i < xs.length → Evo μ1 H1 μ H → StoR K H μ τ → G τ → Y i H v H' → ∃ d, xs[i]? = some d ∧ Evo μ H μ H' ∧ StoR K H' μ τ ∧ rep K H' d v
def liftI (K : PySem.W.Frag) (t : XI) : TI := fun σ H R => ∃ μ ρ τ Rx, EnvR K H μ σ ρ ∧ StoR K H μ τ ∧ t ρ τ Rx ∧ ∀ xs G τ1, Rx xs G τ1 → ∀ J μ1 H1, Evo μ H μ1 H1 → StoR K H1 μ1 τ1 → ItD K J xs G μ1 H1 → R J H1
abbrev DI (X : Cx) (tg iter : Expr) (t : XI) : Prop := PI X tg iter (liftI X.K t)
theorem pi_imp {X : Cx} {tg iter : Expr} {t t' : TI} (h : PI X tg iter t) (i : ∀ σ H R, t' σ H R → t σ H R) : PI X tg iter t' := ⟨fun pins s σ H R I q => h.run pins s σ H R I (i σ H R q)⟩
def xiT (te : XE) : XI := fun ρ τ R => te ρ τ fun w τ1 => match w with
  | .d (.tup xs) => R xs (fun _ => True) τ1
  | _ => False
def xiL (te : XE) : XI := fun ρ τ R => te ρ τ fun w τ1 => match w with
  | .l k => ∃ xs, τ1[k]? = some xs ∧ R xs (fun τ => τ[k]? = some xs) τ1
  | .d (.rol xs) => R xs (fun _ => True) τ1
  | _ => False
/-- lo, lo + c, ..: n ints -/
def intsBy (c : Int) : Int → Nat → List D
  | _, 0 => []
  | lo, n + 1 => .int lo :: intsBy c (lo + c) n
def small62 (i : Int) : Prop := -(2 ^ 62) ≤ i ∧ i < 2 ^ 62
def xiR1 (ts : List XE) : XI := fun ρ τ R => xArgs ts ρ τ fun ws τ1 => match ws with
  | [.d (.int n)] => small62 n ∧ R (intsBy 1 0 n.toNat) (fun _ => True) τ1
  | _ => False
def xiR2 (ts : List XE) : XI := fun ρ τ R => xArgs ts ρ τ fun ws τ1 => match ws with
  | [.d (.int i), .d (.int j)] => (small62 i ∧ small62 j) ∧ R (intsBy 1 i (j - i).toNat) (fun _ => True) τ1
  | _ => False
/-- range(i, j, -1) -/
def xiR3 (ts : List XE) : XI := fun ρ τ R => xArgs ts ρ τ fun ws τ1 => match ws with
  | [.d (.int i), .d (.int j), .d (.int c)] => c = -1 ∧ (small62 i ∧ small62 j) ∧ R (intsBy (-1) i (i - j).toNat) (fun _ => True) τ1
  | _ => False
theorem intsBy_length : ∀ (c lo : Int) (n : Nat), (intsBy c lo n).length = n
  | _, _, 0 => rfl
  | c, lo, n + 1 => by simp [intsBy, intsBy_length c (lo + c) n]
theorem intsBy_get : ∀ (c lo : Int) (n i : Nat), i < n → (intsBy c lo n)[i]? = some (.int (lo + (i : Nat) * c))
  | _, _, 0, _, h => absurd h (Nat.not_lt_zero _)
  | c, lo, n + 1, 0, _ => by simp [intsBy]
  | c, lo, n + 1, i + 1, h => by
    show (intsBy c (lo + c) n)[i]? = _
    rw [intsBy_get c (lo + c) n i (by omega)]
    congr 2
    rw [Int.natCast_add, Int.add_mul]
    omega
section
variable {X : Cx} {K : PySem.W.Frag} {e a b c tg : Expr} {te ta tb tc : XE} {pos p : Pos}
theorem itd_seq {J : It} {xs : List D} {vs : List V} {G : Sto → Prop} {μ1 : List Addr} {H1 : Hp} {τ1 : Sto} {Gh : Hp → Prop} (S1 : StoR K H1 μ1 τ1) (w : Walk J vs.length Gh (YAt vs)) (r : reps K H1 xs vs)
    (h : ∀ μ H τ, Evo μ1 H1 μ H → StoR K H μ τ → G τ → Gh H) : ItD K J xs G μ1 H1 :=
  ⟨⟨Gh, YAt vs, by rw [r.length]; exact w, h, fun i μ H τ v H' hi e S g y => by
    obtain ⟨rfl, hv⟩ := y
    obtain ⟨d, h1, h2⟩ := r.getV hv
    exact ⟨d, h1, Evo.refl, S, rep.mono (S1.keepF e) _ _ h2⟩⟩⟩
theorem i_tup (he : DE X e te) : DI X tg e (xiT te) := pi_imp (pi_tup he) fun σ H R ⟨μ, ρ, τ, Rx, E, S, h, k⟩ => ⟨μ, ρ, τ, _, E, S, h, fun w τ1 hx v μ1 H1 e1 S1 r1 => by
  split at hx
  · rename_i xs
    obtain ⟨p, vs, ev, hs, hr⟩ := repW_tup r1
    exact ⟨p, ev, ⟨vs, hs⟩, k _ _ _ hx _ μ1 H1 e1 S1 (itd_seq S1 walk_tup hr fun μ' H' τ' e' S' _ => SqT.keepF (S1.keepF e') hs)⟩
  · exact hx.elim⟩
theorem i_lst (he : DE X e te) : DI X tg e (xiL te) := pi_imp (pi_list he) fun σ H R ⟨μ, ρ, τ, Rx, E, S, h, k⟩ => ⟨μ, ρ, τ, _, E, S, h, fun w τ1 hx v μ1 H1 e1 S1 r1 => by
  split at hx
  · rename_i j
    obtain ⟨xs, h0, hx⟩ := hx
    obtain ⟨p, ev, hp⟩ := r1
    obtain ⟨vs, hv, hr⟩ := S1.at' hp h0
    refine ⟨p, ev, ⟨vs, SqL.of hv⟩, k _ _ _ hx _ μ1 H1 e1 S1 ⟨⟨fun H => ∃ us, H p = some (.lst us) ∧ us.length = xs.length, fun i H v H' => H' = H ∧ ∃ us, H p = some (.lst us) ∧ us[i]? = some v, ⟨?_, ?_, ?_⟩, ?_, ?_⟩⟩⟩
    · rintro i H hi ⟨us, h1, h2⟩
      exact ⟨us, us[i]'(by omega), SqL.of h1, by simp [show i < us.length by omega]⟩
    · rintro H ⟨us, h1, h2⟩
      exact ⟨us, SqL.of h1, by omega⟩
    · rintro i H v H' hi ⟨us, h1, h2⟩ ⟨y1, y2⟩
      exact ⟨y1, us, h1, y2 us (SqL.of h1)⟩
    · intro μ' H' τ' e' S' g
      obtain ⟨ν, eν⟩ := e'.grow
      have hp' : μ'[j]? = some p := by rw [eν, List.getElem?_append_left (List.getElem?_eq_some_iff.mp hp).1]; exact hp
      obtain ⟨us, q1, q2⟩ := S'.at' hp' g
      exact ⟨us, q1, q2.length.symm⟩
    · rintro i μ' H' τ' v H'' hi e' S' g ⟨rfl, us, y1, y2⟩
      obtain ⟨ν, eν⟩ := e'.grow
      have hp' : μ'[j]? = some p := by rw [eν, List.getElem?_append_left (List.getElem?_eq_some_iff.mp hp).1]; exact hp
      obtain ⟨us', q1, q2⟩ := S'.at' hp' g
      rw [y1] at q1
      cases q1
      obtain ⟨d, d1, d2⟩ := q2.getV y2
      exact ⟨d, d1, Evo.refl, S', d2⟩
  · rename_i xs
    obtain ⟨p, vs, ev, hs, hr⟩ := repW_rol r1
    exact ⟨p, ev, ⟨vs, hs.sq⟩, k _ _ _ hx _ μ1 H1 e1 S1 (itd_seq S1 walk_list hr fun μ' H' τ' e' S' _ => (hs.keepF (S1.keepF e')).sq)⟩
  · exact hx.elim⟩
theorem itd_ints {J : It} {cc lo : Int} {n : Nat} {μ1 : List Addr} {H1 : Hp} (w : Walk J n (fun _ => True) (YFn fun i => .int (lo + (i : Nat) * cc))) : ItD K J (intsBy cc lo n) (fun _ => True) μ1 H1 :=
  ⟨⟨fun _ => True, _, by rw [intsBy_length]; exact w, fun _ _ _ _ _ _ => trivial, fun i μ H τ v H' hi e S g y => by
    obtain ⟨rfl, rfl⟩ := y
    rw [intsBy_length] at hi
    exact ⟨_, intsBy_get cc lo n i hi, Evo.refl, S, rep_int⟩⟩⟩
theorem itd_up {lo : Int} {n : Nat} {μ1 : List Addr} {H1 : Hp} : ItD K (Itr lo n) (intsBy 1 lo n) (fun _ => True) μ1 H1 := itd_ints (walk_range.mono (fun _ h => h) fun i H x H' _ _ y => ⟨y.1, by rw [y.2]; show V.int _ = V.int _; rw [Int.mul_one]⟩)
theorem i_rng1 {ts : List XE} (hm : X.mg "range" = none) (ha : DAs X [a] ts) (hg : Gl X "range" := by rfl) (hs : starEach (a :: []) X.env = (false, eval a X.env) :: starEach [] X.env := by rfl) : DI X tg (.Call (.Name "range" p) [a] [] pos) (xiR1 ts) :=
  pi_imp (pi_range1 hg hm ha hs) fun σ H R ⟨μ, ρ, τ, Rx, E, S, h, k⟩ => lift_args E S h fun ws τ1 hx vs μ1 H1 e1 S1 r1 _ => by
      split at hx
      · rename_i n _
        obtain ⟨v, vr, rfl, q1, q2⟩ := r1
        rw [show vr = [] from q2, repW_int q1]
        exact ⟨n, rfl, hx.1.1, hx.1.2, k _ _ _ hx.2 _ μ1 H1 e1 S1 itd_up⟩
      · exact hx.elim
theorem i_rng2 {ts : List XE} (hm : X.mg "range" = none) (ha : DAs X [a, b] ts) (hg : Gl X "range" := by rfl) (hs : starEach (a :: [b]) X.env = (false, eval a X.env) :: starEach [b] X.env := by rfl)
    (hs2 : starEach (b :: []) X.env = (false, eval b X.env) :: starEach [] X.env := by rfl) : DI X tg (.Call (.Name "range" p) [a, b] [] pos) (xiR2 ts) :=
  pi_imp (pi_range2 hg hm ha (by rw [hs, hs2]; rfl) hs2) fun σ H R ⟨μ, ρ, τ, Rx, E, S, h, k⟩ => lift_args E S h fun ws τ1 hx vs μ1 H1 e1 S1 r1 _ => by
      split at hx
      · rename_i i j _
        obtain ⟨v, vr, rfl, q1, v2, vr2, rfl, q3, q2⟩ := r1
        rw [show vr2 = [] from q2, repW_int q1, repW_int q3]
        exact ⟨i, j, rfl, ⟨hx.1.1.1, hx.1.1.2, hx.1.2.1, hx.1.2.2⟩, k _ _ _ hx.2 _ μ1 H1 e1 S1 itd_up⟩
      · exact hx.elim
theorem i_rng3 {ts : List XE} (hm : X.mg "range" = none) (ha : DAs X [a, b, c] ts) (hg : Gl X "range" := by rfl) (hs : starEach [a, b, c] X.env = (false, eval a X.env) :: starEach [b, c] X.env := by rfl)
    (hpl : (backTo pos (starEach [b, c] X.env)).any (·.1) = false := by rfl) : DI X tg (.Call (.Name "range" p) [a, b, c] [] pos) (xiR3 ts) :=
  pi_imp (pi_range3 hg hm ha hs hpl) fun σ H R ⟨μ, ρ, τ, Rx, E, S, h, k⟩ => lift_args E S h fun ws τ1 hx vs μ1 H1 e1 S1 r1 _ => by
      split at hx
      · rename_i i j c' _
        obtain ⟨rfl, ⟨⟨a1, a2⟩, ⟨b1, b2⟩⟩, hx⟩ := hx
        obtain ⟨v, vr, rfl, q1, v2, vr2, rfl, q3, v3, vr3, rfl, q4, q2⟩ := r1
        rw [show vr3 = [] from q2, repW_int q1, repW_int q3, repW_int q4]
        exact ⟨i, j, -1, _, rfl, RgC.neg a1 a2 b1 b2, k _ _ _ hx _ μ1 H1 e1 S1 (itd_ints walk_rangeC)⟩
      · exact hx.elim
end
/-! ### pairs: enumerate, zip -/
def enumD : Nat → List D → List D
  | _, [] => []
  | i, x :: xs => .tup [.int (i : Nat), x] :: enumD (i + 1) xs
def zipD : List D → List D → List D
  | x :: xs, y :: ys => .tup [x, y] :: zipD xs ys
  | _, _ => []
theorem enumD_length : ∀ (k : Nat) (xs : List D), (enumD k xs).length = xs.length
  | _, [] => rfl
  | k, _ :: xs => by simp [enumD, enumD_length (k + 1) xs]
theorem enumD_get : ∀ (k : Nat) (xs : List D) (i : Nat) (d : D), xs[i]? = some d → (enumD k xs)[i]? = some (.tup [.int ((k + i : Nat) : Int), d])
  | _, [], i, d, h => by simp at h
  | k, x :: xs, 0, d, h => by
    have e : x = d := by simpa using h
    subst e
    rfl
  | k, x :: xs, i + 1, d, h => by
    show (enumD (k + 1) xs)[i]? = _
    rw [enumD_get (k + 1) xs i d (by simpa using h)]
    have e : k + 1 + i = k + (i + 1) := by omega
    rw [e]
theorem zipD_length : ∀ (xs ys : List D), (zipD xs ys).length = min xs.length ys.length
  | [], _ => by simp [zipD]
  | _ :: _, [] => by simp [zipD]
  | _ :: xs, _ :: ys => by
    simp only [zipD, List.length_cons, zipD_length xs ys]
    omega
theorem zipD_get : ∀ (xs ys : List D) (i : Nat) (d e : D), xs[i]? = some d → ys[i]? = some e → (zipD xs ys)[i]? = some (.tup [d, e])
  | [], _, i, d, e, h, _ => by simp at h
  | _ :: _, [], i, d, e, _, h => by simp at h
  | x :: xs, y :: ys, 0, d, e, h, q => by
    have e1 : x = d := by simpa using h
    have e2 : y = e := by simpa using q
    subst e1
    subst e2
    rfl
  | x :: xs, y :: ys, i + 1, d, e, h, q => by
    show (zipD xs ys)[i]? = _
    exact zipD_get xs ys i d e (by simpa using h) (by simpa using q)
theorem rep_pair {K : PySem.W.Frag} {H : Hp} {T : Addr} {d e : D} {x y : V} (hT : H T = none) (hd : rep K H d x) (he : rep K H e y) {μ : List Addr} {τ : Sto} (S : StoR K H μ τ) : rep K (upd H T (.tup [x, y])) (.tup [d, e]) (.ref T) := by
  unfold rep
  exact ⟨T, [x, y], rfl, SqT.of upd_same, reps.mono (S.keepF (Evo.new1 hT)) _ _ (reps.cons hd (reps.cons he reps.of_nil))⟩
section
open PySem
/-- enumerate(v) begins -/
theorem meets_enum1 {v : Value} {o : Obj} {H : Heap → Prop} (B : Begins v o H) : Meets (Builtin.«enumerate.__new__» ⟨[.type "enumerate", v], []⟩) (fun _ R s => H s.heap ∧
      R (.ok (.ret (.ref (s.heap.push o).objs.size))) { s with heap := (s.heap.push o).push { cls := .type "enumerate", data := .fields #[.none, .bool false, .ref s.heap.objs.size, rawInt 0, .none, .none] } }) :=
  .of_wp fun prog w A R s h => by
    obtain ⟨hp, g, d, tk, os⟩ := s
    obtain ⟨h1, h⟩ := h
    have hsub := sub_enumerate
    have go : ∀ {A' : Around} {E Q : Value → Shared → Prop}, Q (.ref hp.objs.size) ⟨hp.push o, g, d, tk, os⟩ → wpAny (model prog w) A' (pyIter v) Q E ⟨hp, g, d, tk, os⟩ := fun q => B.iter prog w _ _ ⟨hp, g, d, tk, os⟩ _ h1 q
    wp_walk using go
    refine wpAny_stack_any fun st => wpAny_pure ?_
    split
    · rename_i c _ _ _ _ _
      cases (c == Value.type "enumerate") <;> (wp_walk using go; exact ⟨_, rfl, h⟩)
    · wp_walk using go
      exact ⟨_, rfl, h⟩
theorem enum_made {prog : Program} {w : World} {A : Around} {E : Value → Shared → Prop} {s : Shared} {v : Value} {o : Obj} {H : Heap → Prop} {Q : Value → Shared → Prop} (B : Begins v o H) (h1 : H s.heap)
    (h : ∀ h', IsEnum h' (s.heap.objs.size + 1) s.heap.objs.size 0 .none → h'.get? s.heap.objs.size = some o → (∀ b o, s.heap.get? b = some o → h'.get? b = some o) → Q (.ref (s.heap.objs.size + 1)) { s with heap := h' }) :
    wpAny (model prog w) A (call (.type "enumerate") [v]) Q E s := by
  refine callType_new F.called_enumerate (by decide) (F.typeCall_enumerate_1 _) (F.newCall_enumerate_1 _) (fun obj => F.args_object_init_2 obj _) F.entry_enumerate_new (meets_enum1 B) ⟨h1, ?_⟩
  have hz : (s.heap.push o).objs.size = s.heap.objs.size + 1 := Heap.size_push ..
  have he := Heap.get?_push_size (s.heap.push o) (o := { cls := .type "enumerate", data := .fields #[.none, .bool false, .ref s.heap.objs.size, rawInt 0, .none, .none] }) rfl
  show _ ∧ _
  rw [hz] at he ⊢
  exact ⟨⟨_, he, rfl⟩, h _ he (Heap.get?_push_of_some _ (Heap.get?_push_size _ B.free)) fun b ob y => Heap.get?_push_of_some _ (Heap.get?_push_of_some _ y)⟩
end
end DL

namespace DL
open PySem PySem.Spec PyProof.Rows L2
/-! ### enumerate of a tuple -/
def ItEt (K : PySem.W.Frag) (a : Addr) : It where
  go := fun i H => ∃ (xs : List V) (x : V), SqT K H a xs ∧ xs[i]? = some x
  yld := fun i H v H' => ∃ T x, v = .ref T ∧ H T = none ∧ H' = upd H T (.tup [.int (i : Nat), x]) ∧ ∀ xs : List V, SqT K H a xs → xs[i]? = some x
  stop := fun i H => ∃ xs : List V, SqT K H a xs ∧ i = xs.length
theorem walk_enumT {K : PySem.W.Frag} {a : Addr} {xs : List V} : Walk (ItEt K a) xs.length (fun H => SqT K H a xs) (YPair (fun i => some (.int (i : Nat))) (fun i => xs[i]?)) where
  goes := fun i H hi q => ⟨xs, xs[i], q, by simp [hi]⟩
  stops := fun H q => ⟨xs, q, rfl⟩
  yields := fun i H v H' _ q ⟨T, x, h1, h2, h3, h4⟩ => ⟨T, .int (i : Nat), x, h1, h2, h3, rfl, h4 xs q⟩
theorem enum_apart {h : Heap} {e it a : Addr} {i : Int} {old : Value} {items : Array Value} (he : IsEnum h e it i old) (ht : h.IsTuple a items) : e ≠ a := by
  obtain ⟨o, h1, h2, _⟩ := ht
  intro z
  have he' : h.get? e = some _ := he
  rw [z, h1] at he'
  cases he'
  have h3 : Value.type "enumerate" = Value.type "tuple" := h2
  exact absurd h3 (by decide +kernel)
theorem turn_enumT {P : Program} {w : World} {K : PySem.W.Frag} {elts : List Expr} {kk : Nat} {tpos : Pos} (a e it : Addr) :
    Turn P w K (.Tuple elts kk tpos) (ItEt K a) [e, it] e (fun i h => (∃ old, IsEnum h e it ((i : Nat) : Int) old) ∧ h.IsTupleIter it a i ∧ e ≠ it) where
  mem := by simp
  obj := fun i h st b hb => by
    obtain ⟨⟨old, he⟩, ⟨o, ho, hc, hd⟩, _⟩ := st
    rcases List.mem_cons.mp hb with z | z
    · exact ⟨_, by rw [z]; exact he, fun v q => by cases q⟩
    · rw [List.mem_singleton.mp z]
      exact ⟨o, ho, fun v q => by rw [hd] at q; cases q⟩
  keep := fun i h h' st k => st.imp (fun ⟨old, he⟩ => ⟨old, k e (by simp) _ he⟩) fun ⟨hi, hne⟩ => ⟨hi.at fun o q => k it (by simp) o q, hne⟩
  item := by
    rintro X rfl rfl rfl hc i pins s σ H E I hf ⟨⟨old, he⟩, hit, hne⟩ ⟨xs, x, hq, hx⟩
    obtain ⟨its, rv, p, _⟩ := I.tuple hq
    obtain ⟨u, hu, ru⟩ := rv.get hx
    have ht : s.heap.IsTuple a its.toArray := p
    have hea := enum_apart he ht
    have hia : a ≠ it := by
      obtain ⟨o1, q1, q2, q3⟩ := hit
      obtain ⟨o2, q4, q5, _⟩ := ht
      intro z
      rw [z, q1] at q4
      cases q4
      rw [q2] at q5
      exact absurd q5 (by decide +kernel)
    have hel : e < s.heap.objs.size := Heap.lt_size he
    have hil : it < s.heap.objs.size := by
      obtain ⟨_, q, _⟩ := hit
      exact Heap.lt_size q
    have D := Draws.tuple (prog := X.prog) (w := X.w) (A := X.A.in1) (I.ok.hd hc) it a hia its.toArray
    have hlt : i < its.toArray.size := by
      rw [List.size_toArray]
      exact (List.getElem?_eq_some_iff.mp hu).1
    refine wpAny_pyNext_enum_itemD D he ⟨hit, ht⟩ hlt hne (by simp [hne, hea]) fun y h' tk hy ho st' hT hsz hk => ⟨_, rfl, ?_⟩
    refine wpAny_letOwnedTupleGo_enum (s := { s with heap := h', toks := tk + 1 }) ho fun h2 he2 sb => ?_
    have hyu : y = u := by
      have hy' : its.toArray[i]? = some y := hy
      rw [List.getElem?_toArray, hu] at hy'
      exact (Option.some.inj hy').symm
    subst hyu
    have hT2 := (sb.2 _ (Nat.ne_of_gt hel)).trans hT
    have new : ObjOk X.prog X.w (upd H s.heap.objs.size (.tup [.int (i : Nat), x])) h2 s.heap.objs.size (.tup [.int (i : Nat), x]) :=
      ⟨by show 2 ≤ sizeLine; decide, [.int i tk, y], .cons ⟨_, rfl⟩ (.cons ru .nil), _, hT2, rfl, _, rfl⟩
    have I1 := I.turnedNew (t' := tk + 1) (ch := [e, it]) (fun b ob hb q => by
      have n1 : b ≠ e := fun z => hb (by simp [z])
      have n2 : b ≠ it := fun z => hb (by simp [z])
      exact (sb.2 b n1).trans (hk b ob n1 n2 q)) hf (Nat.le_refl _) new
    refine ⟨.ref s.heap.objs.size, _, I1, rfl, ⟨_, x, rfl, I.hok.fresh (Nat.le_refl _), rfl, fun ys hy2 => by rw [I.tuple_inj hy2 hq]; exact hx⟩, ⟨⟨y, ?_⟩, st'.1.at fun o q => (sb.2 it (Ne.symm hne)).trans q, hne⟩, fun b hb => ?_⟩
    · rw [show ((i + 1 : Nat) : Int) = (i : Int) + 1 by omega]
      exact he2
    · have hb' : b < s.heap.objs.size := by
        rcases List.mem_cons.mp hb with z | z
        · rw [z]; exact hel
        · rw [List.mem_singleton.mp z]; exact hil
      rw [upd_ne (Nat.ne_of_lt hb')]
      exact (hf b hb).1
  done := by
    rintro X rfl rfl rfl hc i pins s σ H E I hf ⟨⟨old, he⟩, hit, hne⟩ ⟨xs, hq, hx⟩
    obtain ⟨its, rv, p, _⟩ := I.tuple hq
    have ht : s.heap.IsTuple a its.toArray := p
    obtain ⟨f0, f1, f2, f3, f4, f5⟩ := hf it (by simp)
    have hia : a ≠ it := by
      obtain ⟨o1, q1, q2, q3⟩ := hit
      obtain ⟨o2, q4, q5, _⟩ := ht
      intro z
      rw [z, q1] at q4
      cases q4
      rw [q2] at q5
      exact absurd q5 (by decide +kernel)
    have D := Draws.tuple (prog := X.prog) (w := X.w) (A := X.A.in1) (I.ok.hd hc) it a hia its.toArray
    have hsz : i = its.toArray.size := by rw [List.size_toArray, ← rv.length, hx]
    exact wpAny_pyNext_enum_endD D he (by rw [← hsz]; exact ⟨hit, ht⟩) fun h' eb => ⟨rfl, I.turned (t' := s.toks) (fun b o hb q => eb b o hb q) f0 f1 f3 f4 f5⟩
  self := fun A i s Q E ⟨⟨_, he⟩, _⟩ h => wpAny_pyIter_enum he h
def iEnumT (K : PySem.W.Frag) (ta : TA) : TI := fun σ H R => ta σ H fun vs H1 => ∃ a xs, vs = [.ref a] ∧ SqT K H1 a xs ∧ R (ItEt K a) H1
theorem pi_enumT {X : Cx} {e : Expr} {ta : TA} {p pos tpos : Pos} {elts : List Expr} {kk : Nat} (hg : Gl X "enumerate") (hm : X.mg "enumerate" = none) (ha : PA X [e] ta)
    (hs : starEach (e :: []) X.env = (false, eval e X.env) :: starEach [] X.env := by rfl) : PI X (.Tuple elts kk tpos) (.Call (.Name "enumerate" p) [e] [] pos) (iEnumT X.K ta) := by
  refine ⟨fun pins s σ H R I h => Call_ (ld_blt I hg hm boot_enumerate (PyProof.Rows.callWith_type1 (thn (ha.run pos pins s σ H _ I h) fun us s1 hh => ?_) hs rfl))⟩
  obtain ⟨vs, H1, I1, r1, a, xs, rfl, hq, q⟩ := hh
  obtain ⟨u, rfl, ru⟩ := vals1 r1
  cases (show u = Value.ref a from ru)
  obtain ⟨its, rv, p', hz⟩ := I1.tuple hq
  refine enum_made (begins_tuple a its.toArray) p' fun h' he hit hk => wpAny_pyIter_enum he ?_
  have I2 : Inv X pins σ H1 { s1 with heap := h' } := I1.kept (t' := s1.toks) hk
  refine ⟨s1.heap.objs.size + 1, [s1.heap.objs.size + 1, s1.heap.objs.size], _, _, H1, rfl, I2, turn_enumT a _ s1.heap.objs.size, ⟨⟨.none, he⟩, ⟨_, hit, rfl, rfl⟩, Nat.succ_ne_self _⟩, fun b hb => ?_, q⟩
  have hle : s1.heap.objs.size ≤ b := by
    rcases List.mem_cons.mp hb with z | z
    · rw [z]; exact Nat.le_succ _
    · rw [List.mem_singleton.mp z]; exact Nat.le_refl _
  exact I1.fpOk hle (I1.hok.fresh hle)
/-- enumerate of a tuple, of a list -/
def xiET (ts : List XE) : XI := fun ρ τ R => xArgs ts ρ τ fun ws τ1 => match ws with
  | [.d (.tup xs)] => R (enumD 0 xs) (fun _ => True) τ1
  | _ => False
def xiZT (ts : List XE) : XI := fun ρ τ R => xArgs ts ρ τ fun ws τ1 => match ws with
  | [.d (.tup xs), .d (.tup ys)] => R (zipD xs ys) (fun _ => True) τ1
  | _ => False
section
variable {X : Cx} {K : PySem.W.Frag} {e a b tg : Expr} {ts : List XE} {pos p tpos : Pos} {elts : List Expr} {kk : Nat}
theorem itd_pair {J : It} {zs : List D} {G : Sto → Prop} {μ1 : List Addr} {H1 : Hp} {τ1 : Sto} {Gh : Hp → Prop} {f g : Nat → Option V} (S1 : StoR K H1 μ1 τ1) (w : Walk J zs.length Gh (YPair f g)) (h : ∀ μ H τ, Evo μ1 H1 μ H → StoR K H μ τ → G τ → Gh H)
    (y : ∀ i x u, i < zs.length → f i = some x → g i = some u → ∃ d e, zs[i]? = some (.tup [d, e]) ∧ rep K H1 d x ∧ rep K H1 e u) : ItD K J zs G μ1 H1 :=
  ⟨⟨Gh, _, w, h, fun i μ H τ v H' hi e S g yy => by
    obtain ⟨T, x, u, rfl, hT, rfl, h1, h2⟩ := yy
    obtain ⟨d, e', q1, q2, q3⟩ := y i x u hi h1 h2
    have kf := S1.keepF e
    exact ⟨_, q1, Evo.new1 hT, S.new1 hT, rep_pair hT (rep.mono kf _ _ q2) (rep.mono kf _ _ q3) S⟩⟩⟩
theorem i_enumT (hm : X.mg "enumerate" = none) (ha : DAs X [e] ts) (hg : Gl X "enumerate" := by rfl) (hs : starEach (e :: []) X.env = (false, eval e X.env) :: starEach [] X.env := by rfl) :
    DI X (.Tuple elts kk tpos) (.Call (.Name "enumerate" p) [e] [] pos) (xiET ts) := pi_imp (pi_enumT hg hm ha hs) fun σ H R ⟨μ, ρ, τ, Rx, E, S, h, k⟩ => lift_args E S h fun ws τ1 hx vs μ1 H1 e1 S1 r1 _ => by
      split at hx
      · rename_i xs _
        obtain ⟨v, vr, rfl, q1, q2⟩ := r1
        rw [show vr = [] from q2]
        obtain ⟨p, us, rfl, hs, hr⟩ := repW_tup q1
        refine ⟨p, us, rfl, hs, k _ _ _ hx _ μ1 H1 e1 S1 (itd_pair S1 (by rw [enumD_length, hr.length]; exact walk_enumT) (fun μ' H' τ' e' S' _ => SqT.keepF (S1.keepF e') hs) fun i x u hi h1 h2 => ?_)⟩
        cases h1
        obtain ⟨d, d1, d2⟩ := hr.getV h2
        refine ⟨.int i, d, ?_, rep_int, d2⟩
        rw [enumD_get 0 xs i d d1, Nat.zero_add]
      · exact hx.elim
theorem i_zipT (hm : X.mg "zip" = none) (ha : DAs X [a, b] ts) (hg : Gl X "zip" := by rfl) (hs : starEach (a :: [b]) X.env = (false, eval a X.env) :: starEach [b] X.env := by rfl) (hpl : (backTo pos (starEach [b] X.env)).any (·.1) = false := by rfl) :
    DI X (.Tuple elts kk tpos) (.Call (.Name "zip" p) [a, b] [] pos) (xiZT ts) := pi_imp (RZ.pi_zipA hg hm ha hs hpl) fun σ H R ⟨μ, ρ, τ, Rx, E, S, h, k⟩ => lift_args E S h fun ws τ1 hx vs μ1 H1 e1 S1 r1 _ => by
      split at hx
      · rename_i xs ys _
        obtain ⟨v, vr, rfl, q1, v2, vr2, rfl, q3, q2⟩ := r1
        rw [show vr2 = [] from q2]
        obtain ⟨p, us, rfl, hs, hr⟩ := repW_tup q1
        obtain ⟨p', us', rfl, hs', hr'⟩ := repW_tup q3
        refine ⟨p, p', us, us', rfl, .inr ⟨hs, hs', k _ _ _ hx _ μ1 H1 e1 S1 (itd_pair (Gh := fun H => SqT X.K H p us ∧ SqT X.K H p' us') (f := fun i => us[i]?) (g := fun i => us'[i]?) S1 ?_ (fun μ' H' τ' e' S' _ => ⟨SqT.keepF (S1.keepF e') hs, SqT.keepF (S1.keepF e') hs'⟩) fun i x u hi h1 h2 => ?_)⟩⟩
        · have hn : (zipD xs ys).length = min us.length us'.length := by rw [zipD_length, hr.length, hr'.length]
          rw [hn]
          refine ⟨fun i H hi q => ⟨us, us', us[i]'(by omega), us'[i]'(by omega), q.1, q.2, by simp [show i < us.length by omega], by simp [show i < us'.length by omega]⟩, fun H q => ⟨us, us', q.1, q.2, by omega⟩, fun i H v H' _ q y => ?_⟩
          obtain ⟨T, x, z, h1, h2, h3, h4, h5⟩ := y
          exact ⟨T, x, z, h1, h2, h3, h4 us q.1, h5 us' q.2⟩
        · obtain ⟨d, d1, d2⟩ := hr.getV h1
          obtain ⟨e, e1', e2⟩ := hr'.getV h2
          exact ⟨d, e, zipD_get xs ys i d e d1 e1', d2, e2⟩
      · exact hx.elim
end
/-! ## for -/
def forD (G : Sto → Prop) (g : XG) (tb : XS) : List D → XS
  | [] => fun O ρ τ => G τ ∧ O.nx ρ τ
  | x :: xs => fun O ρ τ => G τ ∧ g (.d x) ρ τ fun ρ1 τ1 => tb { O with nx := fun ρ' τ' => forD G g tb xs O ρ' τ', ct := fun ρ' τ' => forD G g tb xs O ρ' τ', bk := O.nx } ρ1 τ1
def xFor (t : XI) (g : XG) (tb : XS) : XS := fun O ρ τ => t ρ τ fun xs G τ1 => forD G g tb xs O ρ τ1
section
variable {X : Cx} {t : XI} {g : XG} {tb : XS} {tg iter : Expr} {body : List Stmt} {pos : Pos}
theorem forD_G {G : Sto → Prop} : ∀ {xs : List D} {O : XEnds} {ρ : DEnv} {τ : Sto}, forD G g tb xs O ρ τ → G τ
  | [], _, _, _, h => h.1
  | _ :: _, _, _, _, h => h.1
theorem s_for (hp : PassesOwn (model X.prog X.w) X.A X.env X.xe) (hc : X.calm = true) (hi : DI X tg iter t) (hg : DG X tg g) (hb : DSs X body tb) (hs : ∀ x, foldedSetIterable iter X.env x = pure x := by intro _; rfl) : DSt X (.For tg iter body [] pos) (xFor t g tb) :=
  ps_imp (ps_for hp hc hi hg hb hs) fun D σ H ⟨μ, ρ, τ, O, E, S, h, k⟩ => ⟨μ, ρ, τ, _, E, S, h, fun xs G τ1 hx J μ1 H1 e1 S1 it => by
    obtain ⟨Gh, Y, w, hG, hY⟩ := it.ex
    let Pv : Nat → L2.St → Hp → Prop := fun i σ H => ∃ μ ρ τ, Evo μ1 H1 μ H ∧ EnvR X.K H μ σ ρ ∧ StoR X.K H μ τ ∧ forD G g tb (xs.drop i) O ρ τ
    refine for_it w Pv ⟨μ1, ρ, τ1, Evo.refl, E.evo S e1, S1, hx⟩ (fun i σ H _ ⟨μ', ρ', τ', e', _, S', h'⟩ => hG μ' H τ' e' S' (forD_G h')) ?_ ?_
    · rintro i x σ H H' hi ⟨μ', ρ', τ', e', E', S', h'⟩ y
      obtain ⟨d, hd, ev, Sv, rv⟩ := hY i μ' H τ' x H' hi e' S' (forD_G h') y
      have hdrop : xs.drop i = d :: xs.drop (i + 1) := by
        rw [List.drop_eq_getElem_cons hi]
        congr 1
        exact Option.some.inj ((List.getElem?_eq_getElem hi).symm.trans hd)
      rw [hdrop] at h'
      have kk : ∀ {μa : List Addr} {Ha : Hp}, Evo μ' H' μa Ha → KontN X.K μa Ha (fun ρ' τ' => forD G g tb (xs.drop (i + 1)) O ρ' τ') (Pv (i + 1)) := fun {μa Ha} ea ρ2 τ2 h2 σ2 μ2 H2 e2 S2 E2 =>
        ⟨μ2, ρ2, τ2, e'.trans (ev.trans (ea.trans e2)), E2, S2, h2⟩
      have k0 := k.evo (e1.trans (e'.trans ev))
      exact ⟨μ', ρ', τ', .d d, _, E'.evo S' ev, Sv, rv, h'.2, fun ρ2 τ2 h2 σ2 μ2 H2 e2 S2 E2 => ⟨μ2, ρ2, τ2, _, E2, S2, h2, ⟨kk e2, k0.rt.evo e2, k0.nx.evo e2, kk e2⟩⟩⟩
    · rintro σ H ⟨μ', ρ', τ', e', E', S', h'⟩
      rw [List.drop_length] at h'
      exact (k.nx.evo (e1.trans e')).now S' E' h'.2⟩
end
end DL

namespace DL
open PySem PySem.Spec PyProof.Rows L2
/-! ## comprehensions -/
inductive Tg where
  | one (i : Nat) | many (is : List Nat)
def tNames : List Nat → TGs
  | [] => gNil
  | i :: is => gCons (gName i) (tNames is)
def Tg.v (K : PySem.W.Frag) : Tg → TG
  | .one i => gName i
  | .many is => gTup K is.length (tNames is)
def Tg.x : Tg → D → DEnv → Option DEnv
  | .one i, d, ρ => some (ρ.set i (some (.d d)))
  | .many is, .tup xs, ρ => setAll ρ is xs
  | .many _, _, _ => none
def Tg.within (vs : List Nat) : Tg → Bool
  | .one i => vs.contains i
  | .many is => is.all vs.contains
def wipeD (ρ : DEnv) : List Nat → DEnv
  | [] => ρ
  | v :: vs => (wipeD ρ vs).set v none
def compD (G : Sto → Prop) (tg : Tg) (tt : XT) (te : XE) (vs : List Nat) : List D → List D → DEnv → Sto → XK1 → Prop
  | [], acc, _, τ, R => G τ ∧ R (.l τ.length) (τ ++ [acc])
  | x :: xs, acc, ρ, τ, R => G τ ∧ match tg.x x (wipeD ρ vs) with
    | some ρ2 => tt ρ2 τ fun b τ3 => if b = true then te ρ2 τ3 fun w τ4 => match w with
        | .d y => compD G tg tt te vs xs (acc ++ [y]) ρ τ4 R
        | _ => False
      else compD G tg tt te vs xs acc ρ τ3 R
    | none => False
def xLc (t : XI) (tg : Tg) (tt : XT) (te : XE) (vs : List Nat) : XE := fun ρ τ R => t ρ τ fun xs G τ1 => xs.length ≤ 1000000 ∧ compD G tg tt te vs xs [] ρ τ1 R
section
variable {K : PySem.W.Frag} {H H' H1 H2 : Hp} {μ μ' μ1 μ2 : List Addr} {τ τ' τ1 : Sto} {σ : L2.St} {ρ : DEnv}
theorem wipe_get {vs : List Nat} {σ : L2.St} {j : Nat} : (wipe σ vs)[j]? = if j ∈ vs ∧ j < σ.length then some none else σ[j]? := by
  induction vs with
  | nil => simp [wipe]
  | cons v vs ih =>
    unfold wipe
    rw [List.getElem?_set]
    by_cases hv : v = j
    · subst hv
      by_cases hl : v < σ.length
      · rw [if_pos rfl, if_pos (by rw [wipe_length]; exact hl), if_pos ⟨List.mem_cons_self, hl⟩]
      · rw [if_pos rfl, if_neg (by rw [wipe_length]; exact hl), if_neg (fun z => hl z.2), List.getElem?_eq_none_iff.mpr (by omega)]
    · rw [if_neg hv, ih]
      have : (j ∈ v :: vs) ↔ j ∈ vs := ⟨fun z => (List.mem_cons.mp z).resolve_left (Ne.symm hv), List.mem_cons_of_mem _⟩
      simp only [this]
theorem wipe_set {vs : List Nat} {i : Nat} {x : Option V} (hi : i ∈ vs) : wipe (σ.set i x) vs = wipe σ vs := by
  apply List.ext_getElem?
  intro j
  rw [wipe_get, wipe_get, List.length_set]
  by_cases h : j ∈ vs ∧ j < σ.length
  · rw [if_pos h, if_pos h]
  · rw [if_neg h, if_neg h, List.getElem?_set]
    by_cases e : i = j
    · subst e
      have hl : ¬ i < σ.length := fun z => h ⟨hi, z⟩
      rw [if_pos rfl, if_neg hl, List.getElem?_eq_none_iff.mpr (by omega)]
    · rw [if_neg e]
theorem wipe_wipe {vs : List Nat} : wipe (wipe σ vs) vs = wipe σ vs := by
  apply List.ext_getElem?
  intro j
  rw [wipe_get, wipe_get, wipe_length]
  by_cases h : j ∈ vs ∧ j < σ.length
  · rw [if_pos h, if_pos h]
  · rw [if_neg h, if_neg h]
theorem wipeD_get {vs : List Nat} {ρ : DEnv} {j : Nat} : (wipeD ρ vs)[j]? = if j ∈ vs ∧ j < ρ.length then some none else ρ[j]? := by
  have hlen : ∀ vs : List Nat, (wipeD ρ vs).length = ρ.length := fun vs => by
    induction vs with
    | nil => rfl
    | cons v vs ih => simp [wipeD, ih]
  induction vs with
  | nil => simp [wipeD]
  | cons v vs ih =>
    unfold wipeD
    rw [List.getElem?_set]
    by_cases hv : v = j
    · subst hv
      by_cases hl : v < ρ.length
      · rw [if_pos rfl, if_pos (by rw [hlen]; exact hl), if_pos ⟨List.mem_cons_self, hl⟩]
      · rw [if_pos rfl, if_neg (by rw [hlen]; exact hl), if_neg (fun z => hl z.2), List.getElem?_eq_none_iff.mpr (by omega)]
    · rw [if_neg hv, ih]
      have : (j ∈ v :: vs) ↔ j ∈ vs := ⟨fun z => (List.mem_cons.mp z).resolve_left (Ne.symm hv), List.mem_cons_of_mem _⟩
      simp only [this]
theorem wipeD_length {vs : List Nat} : (wipeD ρ vs).length = ρ.length := by
  induction vs with
  | nil => rfl
  | cons v vs ih => simp [wipeD, ih]
theorem EnvR.wiped (E : EnvR K H μ σ ρ) (vs : List Nat) : EnvR K H μ (wipe σ vs) (wipeD ρ vs) := ⟨by rw [wipe_length, wipeD_length, E.len], fun i w h => by
  rw [wipeD_get] at h
  rw [wipe_get, ← E.len]
  by_cases c : i ∈ vs ∧ i < ρ.length
  · rw [if_pos c] at h
    cases h
  · rw [if_neg c] at h ⊢
    exact E.ap i w h⟩
theorem names_go {vs : List Nat} {σ0 : L2.St} : ∀ {is : List Nat} {xs : List D} {us : List V} {σ : L2.St} {ρ ρ2 : DEnv} {Q : L2.St → Hp → Prop}, (∀ i ∈ is, i ∈ vs) → EnvR K H μ σ ρ → reps K H xs us → setAll ρ is xs = some ρ2 → wipe σ vs = σ0 →
    (∀ σ2, EnvR K H μ σ2 ρ2 → wipe σ2 vs = σ0 → Q σ2 H) → tNames is us σ H Q
  | [], [], us, σ, ρ, ρ2, Q, _, E, r, e, w, k => by
    cases e
    exact ⟨reps.nil r, k σ E w⟩
  | [], _ :: _, _, _, _, _, _, _, _, _, e, _, _ => by cases e
  | _ :: _, [], _, _, _, _, _, _, _, _, e, _, _ => by cases e
  | i :: is, x :: xs, us, σ, ρ, ρ2, Q, hv, E, r, e, w, k => by
    unfold reps at r
    obtain ⟨v, vr, rfl, r1, r2⟩ := r
    exact ⟨v, vr, rfl, names_go (fun j hj => hv j (List.mem_cons_of_mem _ hj)) (E.set (w := .d x) r1 i) r2 e (by rw [wipe_set (hv i List.mem_cons_self)]; exact w) k⟩
theorem tg_go {vs : List Nat} {tg : Tg} {d : D} {v : V} {ρ2 : DEnv} {Q : L2.St → Hp → Prop} {σ0 : L2.St} (hw : tg.within vs = true) (E : EnvR K H μ σ ρ) (r : rep K H d v) (e : tg.x d ρ = some ρ2) (w : wipe σ vs = σ0)
    (k : ∀ σ2, EnvR K H μ σ2 ρ2 → wipe σ2 vs = σ0 → Q σ2 H) : tg.v K v σ H Q := by
  cases tg with
  | one i =>
    cases e
    refine k _ (E.set (w := .d d) r i) ?_
    rw [wipe_set (by simpa [Tg.within] using hw)]
    exact w
  | many is =>
    cases d with
    | tup xs =>
      unfold rep at r
      obtain ⟨p, us, rfl, hs, hr⟩ := r
      have hl : us.length = is.length := by
        rw [← hr.length]
        clear hs hr k hw E
        have : ∀ (is : List Nat) (xs : List D) (ρ : DEnv), setAll ρ is xs = some ρ2 → xs.length = is.length := by
          intro is
          induction is with
          | nil => intro xs ρ e; cases xs with
            | nil => rfl
            | cons _ _ => cases e
          | cons i is ih => intro xs ρ e; cases xs with
            | nil => cases e
            | cons x xs => simp [ih xs _ e]
        exact this is xs ρ e
      refine ⟨p, us, rfl, hs, hl, names_go (fun j hj => ?_) E hr e w k⟩
      have := List.all_eq_true.mp hw j hj
      simpa using this
    | _ => cases e
/-- the list that a comprehension makes changes; who knew nothing of it knows no change -/
theorem Evo.mut {p : Addr} {o : HO} (e : Evo μ H μ' H') (h : H p = none) : Evo μ H μ' (upd H' p o) := ⟨e.grow, fun q u hq hH => by rw [upd_ne (ne_of_none hH h)]; exact e.keep q u hq hH, e.new⟩
theorem StoR.other {p : Addr} {vs us : List V} (S : StoR K H μ τ) (hp : p ∉ μ) (h : H p = some (.lst vs)) : KeepF H (upd H p (.lst us)) ∧ StoR K (upd H p (.lst us)) μ τ := by
  have kf : KeepF H (upd H p (.lst us)) := fun q o f e => by
    rw [upd_ne]
    · exact e
    · intro z
      rw [z, h] at e
      cases e
      exact f
  refine ⟨kf, S.len, S.nd, fun k q e => ?_⟩
  obtain ⟨ds, ws, h1, h2, h3⟩ := S.ap k q e
  exact ⟨ds, ws, h1, by rw [upd_ne (fun z => hp (by rw [← z]; exact List.mem_iff_getElem?.mpr ⟨k, e⟩))]; exact h2, reps.mono kf _ _ h3⟩
theorem StoR.adopt {p : Addr} {vs : List V} {ds : List D} (S : StoR K H μ τ) (hp : p ∉ μ) (h : H p = some (.lst vs)) (r : reps K H ds vs) : StoR K H (μ ++ [p]) (τ ++ [ds]) := by
  refine ⟨by simp [S.len], ?_, fun k q e => ?_⟩
  · refine List.nodup_append.mpr ⟨S.nd, by simp, fun a ha b hb => ?_⟩
    rw [List.mem_singleton.mp hb]
    intro z
    exact hp (by rw [← z]; exact ha)
  · by_cases hk : k < μ.length
    · rw [List.getElem?_append_left hk] at e
      obtain ⟨ds', vs', h1, h2, h3⟩ := S.ap k q e
      exact ⟨ds', vs', by rw [List.getElem?_append_left (by rw [← S.len]; exact hk)]; exact h1, h2, h3⟩
    · rw [List.getElem?_append_right (by omega)] at e
      have k0 : k - μ.length = 0 := by
        have := (List.getElem?_eq_some_iff.mp e).1
        simp at this
        omega
      rw [k0] at e
      have e' : p = q := by simpa using e
      subst e'
      exact ⟨ds, vs, by rw [List.getElem?_append_right (by rw [← S.len]; omega), ← S.len, k0]; rfl, h, r⟩
theorem notIn_evo {p : Addr} {o : HO} (e : Evo μ H μ' H') (hp : p ∉ μ) (h : H p = some o) : p ∉ μ' := fun z => by
  have := e.new p z hp
  rw [h] at this
  cases this
theorem compD_G {G : Sto → Prop} {tg : Tg} {tt : XT} {te : XE} {vs : List Nat} : ∀ {xs acc : List D} {ρ : DEnv} {τ : Sto} {R : XK1}, compD G tg tt te vs xs acc ρ τ R → G τ
  | [], _, _, _, _, h => h.1
  | _ :: _, _, _, _, _, h => h.1
theorem lift_lc {t : XI} {tg : Tg} {tt : XT} {te : XE} {vs : List Nat} {Q : VK} (hw : tg.within vs = true) : liftE K (xLc t tg tt te vs) σ H Q → tLc (liftI K t) (tg.v K) (liftT K tt) (liftE K te) vs σ H Q := fun ⟨μ, ρ, τ, R, E, S, h, k⟩ =>
  ⟨μ, ρ, τ, _, E, S, h, fun xs G τ1 ⟨hlen, hx⟩ J μ1 H1 e1 S1 it D hD => by
    obtain ⟨Gh, Y, w, hG, hY⟩ := it.ex
    let Pv : Nat → Hp → Prop := fun i H => ∃ μ τ acc us, Evo μ1 H1 μ H ∧ StoR K H μ τ ∧ D ∉ μ ∧ H D = some (.lst us) ∧ reps K H acc us ∧ acc.length ≤ i ∧ compD G tg tt te vs (xs.drop i) acc ρ τ R
    refine lc_it w Pv ⟨μ1, τ1, [], [], Evo.new1 hD, S1.new1 hD, S1.fresh hD, upd_same, reps.of_nil, Nat.le_refl _, hx⟩ (fun i H _ ⟨μ', τ', acc, us, e', S', _, _, _, _, h'⟩ => hG μ' H τ' e' S' (compD_G h')) ?_ ?_
    · rintro i x H H' hi ⟨μ', τ', acc, us, e', S', hDn, hDs, hr, hal, h'⟩ y
      obtain ⟨d, hd, ev, Sv, rv⟩ := hY i μ' H τ' x H' hi e' S' (compD_G h') y
      have hdrop : xs.drop i = d :: xs.drop (i + 1) := by
        rw [List.drop_eq_getElem_cons hi]
        congr 1
        exact Option.some.inj ((List.getElem?_eq_getElem hi).symm.trans hd)
      rw [hdrop] at h'
      have h2 := h'.2
      split at h2
      case h_2 => exact h2.elim
      rename_i ρ2 hρ2
      have hD' : H' D = some (.lst us) := ev.keep D _ hDn hDs
      have hr' : reps K H' acc us := reps.mono (S'.keepF ev) _ _ hr
      have E' : EnvR K H' μ' (wipe σ vs) (wipeD ρ vs) := (((E.evo S e1).evo S1 e').evo S' ev).wiped vs
      refine tg_go hw E' rv hρ2 wipe_wipe fun σ2 E2 hw2 => ⟨hw2, μ', ρ2, τ', _, E2, Sv, h2, fun b τ3 hb μ3 H3 e3 S3 => ?_⟩
      have hD3 : H3 D = some (.lst us) := e3.keep D _ hDn hD'
      have hDn3 : D ∉ μ3 := notIn_evo e3 hDn hD'
      have hr3 : reps K H3 acc us := reps.mono (Sv.keepF e3) _ _ hr'
      cases b with
      | false => exact ⟨μ3, τ3, acc, us, e'.trans (ev.trans e3), S3, hDn3, hD3, hr3, by omega, hb⟩
      | true =>
        refine ⟨μ3, ρ2, τ3, _, E2.evo Sv e3, S3, hb, fun u τ4 hu v μ4 H4 e4 S4 r4 => ?_⟩
        split at hu
        · rename_i y
          have hD4 : H4 D = some (.lst us) := e4.keep D _ hDn3 hD3
          have hDn4 : D ∉ μ4 := notIn_evo e4 hDn3 hD3
          obtain ⟨kf, S5⟩ := S4.other (us := us ++ [v]) hDn4 hD4
          refine ⟨us, hD4, line_lt (by rw [← hr.length]; omega), μ4, τ4, acc ++ [y], us ++ [v], (e'.trans (ev.trans (e3.trans e4))).mut hD, S5, hDn4, upd_same, ?_, by simp; omega, hu⟩
          exact (reps.mono kf _ _ (reps.mono (S3.keepF e4) _ _ hr3)).append (reps.cons (rep.mono kf _ _ r4) reps.of_nil)
        · exact hu.elim
    · rintro H ⟨μ', τ', acc, us, e', S', hDn, hDs, hr, hal, h'⟩
      rw [List.drop_length] at h'
      obtain ⟨ν, hν⟩ := e'.grow
      refine k _ (τ' ++ [acc]) h'.2 _ (μ' ++ [D]) H (e1.trans ⟨⟨ν ++ [D], by rw [hν, List.append_assoc]⟩, e'.keep, fun p hp hn => ?_⟩) (S'.adopt hDn hDs hr) ⟨D, rfl, by rw [← S'.len]; simp⟩
      rcases List.mem_append.mp hp with z | z
      · exact e'.new p z hn
      · rw [List.mem_singleton.mp z]
        exact hD⟩
end
abbrev DTs (X : Cx) (ifs : List Expr) (t : XT) : Prop := PTs X ifs (liftT X.K t)
def xYes : XT := fun _ τ R => R true τ
section
variable {X : Cx} {elt tg iter c : Expr} {ifs : List Expr} {scope : Scope} {own : List (Str × Nat)} {pos : Pos} {t : XI} {td : Tg} {tt : XT} {te : XE}
theorem pts_imp {t t' : TT} (h : PTs X ifs t) (i : ∀ σ H Q, t' σ H Q → t σ H Q) : PTs X ifs t' := ⟨fun pins s σ H Q I q => h.run pins s σ H Q I (i σ H Q q)⟩
theorem ts_nil : DTs X [] xYes := pts_imp pts_nil fun σ H Q ⟨μ, ρ, τ, R, E, S, h, k⟩ => k.now S h
theorem ts_one (h : DT X c tt) : DTs X [c] tt := pts_one h
theorem d_lc (hc : X.calm = true) (hN : X.N.Nodup) (hi : DI X tg iter t) (ok : BlkOk X.N X.env.scope scope own) (hg : ∀ (s : Shared) (H : Hp) (C : Addr) (cl : List (Str × Addr)) (fp : List Addr), PG (X.blk s H scope (compEnvC scope cl C X.env) fp) tg (td.v X.K))
    (ht : ∀ (s : Shared) (H : Hp) (C : Addr) (cl : List (Str × Addr)) (fp : List Addr), DTs (X.blk s H scope (compEnvC scope cl C X.env) fp) ifs tt)
    (he : ∀ (s : Shared) (H : Hp) (C : Addr) (cl : List (Str × Addr)) (fp : List Addr), DE (X.blk s H scope (compEnvC scope cl C X.env) fp) elt te) (hw : td.within (own.map (·.2)) = true := by rfl)
    (hs : ∀ x, foldedSetIterable iter X.env x = pure x := by intro _; rfl) : DE X (.ListComp elt [⟨tg, iter, ifs, 0⟩] scope pos) (xLc t td tt te (own.map (·.2))) := pe_imp (pe_lc hc hN hi ok hg ht he hs) fun _ _ _ => lift_lc hw
theorem s_setLc (i : Nat) {y : Str} {py spos : Pos} (hc : X.calm = true) (hN : X.N.Nodup) (hi : DI X tg iter t) (ok : BlkOk X.N X.env.scope scope own) (hg : ∀ (s : Shared) (H : Hp) (C : Addr) (cl : List (Str × Addr)) (fp : List Addr), PG (X.blk s H scope (compEnvC scope cl C X.env) fp) tg (td.v X.K))
    (ht : ∀ (s : Shared) (H : Hp) (C : Addr) (cl : List (Str × Addr)) (fp : List Addr), DTs (X.blk s H scope (compEnvC scope cl C X.env) fp) ifs tt)
    (he : ∀ (s : Shared) (H : Hp) (C : Addr) (cl : List (Str × Addr)) (fp : List Addr), DE (X.blk s H scope (compEnvC scope cl C X.env) fp) elt te)
    (hsw : swapsWith (.ListComp elt [⟨tg, iter, ifs, 0⟩] scope pos) (some (.Name y py)) spos.line X.env = pure true) (hy : X.N[i]? = some y := by rfl) (hyl : X.env.scope.names.lookup y = some .local := by rfl) (hw : td.within (own.map (·.2)) = true := by rfl)
    (hs : ∀ x, foldedSetIterable iter X.env x = pure x := by intro _; rfl) : DSt X (.Assign [.Name y py] (.ListComp elt [⟨tg, iter, ifs, 0⟩] scope pos) spos) (xAsg (xLc t td tt te (own.map (·.2))) (xgN i)) :=
  ps_imp (ps_setLc hc hN hy hyl hsw hi ok hg ht he hs) fun D σ H ⟨μ, ρ, τ, O, E, S, h, k⟩ => lift_lc hw ⟨μ, ρ, τ, _, E, S, h, fun w τ1 hx v μ1 H1 e1 S1 r1 => lift_gN v σ H1 D.nx ⟨μ1, ρ, τ1, w, _, E.evo S e1, S1, r1, hx, k.nx.evo e1⟩⟩
/-- targets of a comprehension -/
theorem cg_one (i : Nat) {x : Str} (hN : X.N.Nodup) (hi : X.N[i]? = some x := by rfl) (hx : Loc X.env.scope x := by first | exact Or.inl rfl | exact Or.inr rfl)
    (hf : X.fn x = true ∨ X.env.scope.names.lookup x = some .local := by first | exact Or.inl rfl | exact Or.inr rfl) : PG X (.Name x pos) ((Tg.one i).v X.K) := pg_name hN hi hx hf
theorem cn_nil : PGs X [] (tNames []) := pgs_nil
theorem cn_cons (i : Nat) {x : Str} {es : List Expr} {is : List Nat} (hN : X.N.Nodup) (r : PGs X es (tNames is)) (hi : X.N[i]? = some x := by rfl) (hx : Loc X.env.scope x := by first | exact Or.inl rfl | exact Or.inr rfl)
    (hf : X.fn x = true ∨ X.env.scope.names.lookup x = some .local := by first | exact Or.inl rfl | exact Or.inr rfl)
    (hs : (assignEach (.Name x pos :: es) X.env).map (·.2) = assign (.Name x pos) X.env :: (assignEach es X.env).map (·.2) := by rfl) : PGs X (.Name x pos :: es) (tNames (i :: is)) := pgs_cons (pg_name hN hi hx hf) r hs
theorem cg_many {es : List Expr} {is : List Nat} {j : Nat} (hc : X.calm = true) (h : PGs X es (tNames is)) (hn : (assignEach es X.env).length = is.length := by rfl) (hst : (assignEach es X.env).findIdx? (·.1) = none := by rfl) :
    PG X (.Tuple es j pos) ((Tg.many is).v X.K) := pg_tup hc h hn hst
end
end DL

namespace DL
open PySem PySem.Spec PyProof.Rows L2
/-! ## built-in functions and types -/
abbrev XQ := List W → Sto → XK1 → Prop
def CallL (K : PySem.W.Frag) (r : List V → Hp → VK → Prop) (q : XQ) : Prop := ∀ {H : Hp} {μ : List Addr} {τ : Sto} {ws : List W} {vs : List V} {R : XK1} {Q : VK}, StoR K H μ τ → repWs K H μ ws vs → q ws τ R → Kont K μ H R Q → r vs H Q
def xCB (q : XQ) (ts : List XE) : XE := fun ρ τ R => xArgs ts ρ τ fun ws τ1 => q ws τ1 R
section
variable {X : Cx} {K : PySem.W.Frag} {x : Str} {e : Expr} {es : List Expr} {ts : List XE} {pos p : Pos} {idn T : String} {r : List V → Hp → VK → Prop} {q : XQ}
theorem lift_cb (hl : CallL K r q) {σ : L2.St} {H : Hp} {Q : VK} : liftE K (xCB q ts) σ H Q → tCB r (tAll K ts) σ H Q := fun ⟨μ, ρ, τ, R, E, S, h, k⟩ =>
  lift_args E S h fun ws τ1 hx vs μ1 H1 e1 S1 r1 _ => hl S1 r1 hx (k.evo e1)
theorem d_callB (hc : CallR X (.builtin idn) r) (hl : CallL X.K r q) (hm : X.mg x = none) (hv : bootBuiltins x = some (.builtin idn)) (ha : DAs X (e :: es) ts) (hg : Gl X x := by rfl) (hn : x ≠ "__name__" := by decide) (hdb : (x == ("__debug__" : Str)) = false := by decide)
    (he : starEach (e :: es) X.env = (false, eval e X.env) :: starEach es X.env := by rfl) (hpl : (backTo pos (starEach es X.env)).any (·.1) = false := by rfl) : DE X (.Call (.Name x p) (e :: es) [] pos) (xCB q ts) :=
  pe_imp (pe_callB hc hg hm hv ha hn hdb he hpl) fun _ _ _ => lift_cb hl
theorem d_callTy (hc : CallR X (.type T) r) (hl : CallL X.K r q) (hm : X.mg x = none) (hv : bootBuiltins x = some (.type T)) (ha : DAs X (e :: es) ts) (hg : Gl X x := by rfl) (hn : x ≠ "__name__" := by decide) (hdb : (x == ("__debug__" : Str)) = false := by decide)
    (he : starEach (e :: es) X.env = (false, eval e X.env) :: starEach es X.env := by rfl) (hpl : (backTo pos (starEach es X.env)).any (·.1) = false := by rfl) : DE X (.Call (.Name x p) (e :: es) [] pos) (xCB q ts) :=
  pe_imp (pe_callTy hc hg hm hv ha hn hdb he hpl) fun _ _ _ => lift_cb hl
/-- a built-in function that was imported -/
theorem d_callF (hc : CallR X (.builtin idn) r) (hl : CallL X.K r q) (hm : X.mg x = some (.builtin idn)) (ha : DAs X (e :: es) ts) (hg : Gl X x := by rfl) (hdb : (x == ("__debug__" : Str)) = false := by decide)
    (he : starEach (e :: es) X.env = (false, eval e X.env) :: starEach es X.env := by rfl) (hpl : (backTo pos (starEach es X.env)).any (·.1) = false := by rfl) : DE X (.Call (.Name x p) (e :: es) [] pos) (xCB q ts) :=
  pe_imp (pe_callBfun hc hg hm ha hdb he hpl) fun _ _ _ => lift_cb hl
theorem rep1 {H : Hp} {μ : List Addr} {w : W} {vs : List V} (h : repWs K H μ [w] vs) : ∃ v, vs = [v] ∧ repW K H μ w v := by
  obtain ⟨v, vr, rfl, h1, h2⟩ := h
  exact ⟨v, by rw [show vr = [] from h2], h1⟩
theorem rep2 {H : Hp} {μ : List Addr} {w u : W} {vs : List V} (h : repWs K H μ [w, u] vs) : ∃ v v', vs = [v, v'] ∧ repW K H μ w v ∧ repW K H μ u v' := by
  obtain ⟨v, vr, rfl, h1, v', vr', rfl, h2, h3⟩ := h
  exact ⟨v, v', by rw [show vr' = [] from h3], h1, h2⟩
/-! len -/
def qLen : XQ
  | [.d (.tup xs)], τ, R => R (.d (.int (xs.length : Nat))) τ
  | [.d (.rol xs)], τ, R => R (.d (.int (xs.length : Nat))) τ
  | [.l k], τ, R => ∃ xs, τ[k]? = some xs ∧ R (.d (.int (xs.length : Nat))) τ
  | _, _, _ => False
theorem cl_len : CallL K (fun xs H Q => ∃ p ys, xs = [.ref p] ∧ (SqL K H p ys ∨ SqT K H p ys) ∧ Q (.int ys.length) H) qLen := by
  intro H μ τ ws vs R Q S rs hq k
  unfold qLen at hq
  split at hq
  · obtain ⟨v, rfl, r⟩ := rep1 rs
    obtain ⟨p, us, rfl, hs, hr⟩ := repW_tup r
    exact ⟨p, us, rfl, .inr hs, k.nowD S hq (by rw [hr.length]; exact rep_int)⟩
  · obtain ⟨v, rfl, r⟩ := rep1 rs
    obtain ⟨p, us, rfl, hs, hr⟩ := repW_rol r
    exact ⟨p, us, rfl, .inl hs.sq, k.nowD S hq (by rw [hr.length]; exact rep_int)⟩
  · obtain ⟨xs, h0, hq⟩ := hq
    obtain ⟨v, rfl, p, rfl, hp⟩ := rep1 rs
    obtain ⟨us, hv, hr⟩ := S.at' hp h0
    exact ⟨p, us, rfl, .inl (SqL.of hv), k.nowD S hq (by rw [hr.length]; exact rep_int)⟩
  · exact hq.elim
theorem d_len (hm : X.mg "len" = none) (ha : DAs X (e :: es) ts) (hg : Gl X "len" := by rfl) (he : starEach (e :: es) X.env = (false, eval e X.env) :: starEach es X.env := by rfl) (hpl : (backTo pos (starEach es X.env)).any (·.1) = false := by rfl) :
    DE X (.Call (.Name "len" p) (e :: es) [] pos) (xCB qLen ts) := d_callB call_len_seq cl_len hm PySem.boot_len ha hg (by decide) (by decide) he hpl
/-! ints -/
def qAbs : XQ
  | [.d (.int i)], τ, R => R (.d (.int (if i < 0 then -i else i))) τ
  | _, _, _ => False
def qMax2 : XQ
  | [.d (.int i), .d (.int j)], τ, R => R (.d (.int (if j > i then j else i))) τ
  | _, _, _ => False
def qMin2 : XQ
  | [.d (.int i), .d (.int j)], τ, R => R (.d (.int (if j < i then j else i))) τ
  | _, _, _ => False
def qInt : XQ
  | [.d (.int i)], τ, R => R (.d (.int i)) τ
  | _, _, _ => False
def qGcd : XQ
  | [.d (.int i), .d (.int j)], τ, R => R (.d (.int (Nat.gcd i.natAbs j.natAbs : Nat))) τ
  | _, _, _ => False
def qDivmod : XQ
  | [.d (.int i), .d (.int j)], τ, R => CDiv i j ∧ R (.d (.tup [.int (i / j), .int (i % j)])) τ
  | _, _, _ => False
theorem cl_abs : CallL K (fun xs H Q => ∃ i, xs = [.int i] ∧ Q (.int (if i < 0 then -i else i)) H) qAbs := by
  intro H μ τ ws vs R Q S rs hq k
  unfold qAbs at hq
  split at hq
  · obtain ⟨v, rfl, r⟩ := rep1 rs
    exact ⟨_, by rw [repW_int r], k.nowD S hq rep_int⟩
  · exact hq.elim
theorem cl_max2 : CallL K (fun xs H Q => ∃ i j, xs = [.int i, .int j] ∧ Q (.int (if j > i then j else i)) H) qMax2 := by
  intro H μ τ ws vs R Q S rs hq k
  unfold qMax2 at hq
  split at hq
  · obtain ⟨v, v', rfl, r, r'⟩ := rep2 rs
    exact ⟨_, _, by rw [repW_int r, repW_int r'], k.nowD S hq rep_int⟩
  · exact hq.elim
theorem cl_min2 : CallL K (fun xs H Q => ∃ i j, xs = [.int i, .int j] ∧ Q (.int (if j < i then j else i)) H) qMin2 := by
  intro H μ τ ws vs R Q S rs hq k
  unfold qMin2 at hq
  split at hq
  · obtain ⟨v, v', rfl, r, r'⟩ := rep2 rs
    exact ⟨_, _, by rw [repW_int r, repW_int r'], k.nowD S hq rep_int⟩
  · exact hq.elim
theorem cl_int : CallL K (fun xs H Q => (∃ i, xs = [.int i] ∧ Q (.int i) H) ∨ ∃ k, xs = [.bl k] ∧ Q (.int (if k then 1 else 0)) H) qInt := by
  intro H μ τ ws vs R Q S rs hq k
  unfold qInt at hq
  split at hq
  · obtain ⟨v, rfl, r⟩ := rep1 rs
    exact .inl ⟨_, by rw [repW_int r], k.nowD S hq rep_int⟩
  · exact hq.elim
theorem cl_gcd : CallL K rGcd qGcd := by
  intro H μ τ ws vs R Q S rs hq k
  unfold qGcd at hq
  split at hq
  · obtain ⟨v, v', rfl, r, r'⟩ := rep2 rs
    exact ⟨_, _, by rw [repW_int r, repW_int r'], k.nowD S hq rep_int⟩
  · exact hq.elim
theorem cl_divmod : CallL K (fun xs H Q => ∃ i j, xs = [.int i, .int j] ∧ CDiv i j ∧ ∀ p, H p = none → Q (.ref p) (upd H p (.tup [.int (i / j), .int (i % j)]))) qDivmod := by
  intro H μ τ ws vs R Q S rs hq k
  unfold qDivmod at hq
  split at hq
  · obtain ⟨v, v', rfl, r, r'⟩ := rep2 rs
    exact ⟨_, _, by rw [repW_int r, repW_int r'], hq.1, fun p hp => k.newT S hq.2 (reps.cons rep_int (reps.cons rep_int reps.of_nil)) hp⟩
  · exact hq.elim
/-! lists of ints, of truths -/
def qSum : XQ
  | [.l k], τ, R => ∃ ns : List Int, τ[k]? = some (ns.map D.int) ∧ R (.d (.int ns.sum)) τ
  | [.d (.rol xs)], τ, R => ∃ ns : List Int, xs = ns.map D.int ∧ R (.d (.int ns.sum)) τ
  | _, _, _ => False
def qAll : XQ
  | [.l k], τ, R => ∃ bs : List Bool, τ[k]? = some (bs.map D.bl) ∧ R (.d (.bl (bs.all id))) τ
  | _, _, _ => False
def qAny : XQ
  | [.l k], τ, R => ∃ bs : List Bool, τ[k]? = some (bs.map D.bl) ∧ R (.d (.bl (bs.any id))) τ
  | _, _, _ => False
theorem cl_sum : CallL K (rSum K) qSum := by
  intro H μ τ ws vs R Q S rs hq k
  unfold qSum at hq
  split at hq
  · obtain ⟨ns, h0, hq⟩ := hq
    obtain ⟨v, rfl, p, rfl, hp⟩ := rep1 rs
    obtain ⟨us, hv, hr⟩ := S.at' hp h0
    rw [hr.ints] at hv
    exact ⟨p, ns, rfl, SqL.of hv, k.nowD S hq rep_int⟩
  · obtain ⟨ns, rfl, hq⟩ := hq
    obtain ⟨v, rfl, r⟩ := rep1 rs
    obtain ⟨p, us, rfl, hs, hr⟩ := repW_rol r
    rw [hr.ints] at hs
    exact ⟨p, ns, rfl, hs.sq, k.nowD S hq rep_int⟩
  · exact hq.elim
theorem cl_all : CallL K (rAll K) qAll := by
  intro H μ τ ws vs R Q S rs hq k
  unfold qAll at hq
  split at hq
  · obtain ⟨bs, h0, hq⟩ := hq
    obtain ⟨v, rfl, p, rfl, hp⟩ := rep1 rs
    obtain ⟨us, hv, hr⟩ := S.at' hp h0
    rw [hr.bls] at hv
    exact ⟨p, bs, rfl, SqL.of hv, k.nowD S hq rep_bl⟩
  · exact hq.elim
theorem cl_any : CallL K (rAny K) qAny := by
  intro H μ τ ws vs R Q S rs hq k
  unfold qAny at hq
  split at hq
  · obtain ⟨bs, h0, hq⟩ := hq
    obtain ⟨v, rfl, p, rfl, hp⟩ := rep1 rs
    obtain ⟨us, hv, hr⟩ := S.at' hp h0
    rw [hr.bls] at hv
    exact ⟨p, bs, rfl, SqL.of hv, k.nowD S hq rep_bl⟩
  · exact hq.elim
/-! tuple(x), list(x) -/
def qTuple : XQ
  | [.l k], τ, R => ∃ xs, τ[k]? = some xs ∧ R (.d (.tup xs)) τ
  | [.d (.tup xs)], τ, R => R (.d (.tup xs)) τ
  | _, _, _ => False
def qList : XQ
  | [.l k], τ, R => ∃ xs, τ[k]? = some xs ∧ R (.l τ.length) (τ ++ [xs])
  | [.d (.tup xs)], τ, R => R (.l τ.length) (τ ++ [xs])
  | [.d (.rol xs)], τ, R => R (.l τ.length) (τ ++ [xs])
  | _, _, _ => False
theorem cl_tuple : CallL K (fun xs H Q => ∃ p ys, xs = [.ref p] ∧ ((SqL K H p ys ∧ ∀ l, H l = none → Q (.ref l) (upd H l (.tup ys))) ∨ (SqT K H p ys ∧ Q (.ref p) H))) qTuple := by
  intro H μ τ ws vs R Q S rs hq k
  unfold qTuple at hq
  split at hq
  · obtain ⟨xs, h0, hq⟩ := hq
    obtain ⟨v, rfl, p, rfl, hp⟩ := rep1 rs
    obtain ⟨us, hv, hr⟩ := S.at' hp h0
    exact ⟨p, us, rfl, .inl ⟨SqL.of hv, fun l hl => k.newT S hq hr hl⟩⟩
  · obtain ⟨v, rfl, r⟩ := rep1 rs
    obtain ⟨p, us, rfl, hs, hr⟩ := repW_tup r
    exact ⟨p, us, rfl, .inr ⟨hs, k.now S hq r⟩⟩
  · exact hq.elim
theorem cl_list : CallL K (fun xs H Q => ∃ p ys, xs = [.ref p] ∧ (SqL K H p ys ∨ SqT K H p ys) ∧ ∀ l, H l = none → Q (.ref l) (upd H l (.lst ys))) qList := by
  intro H μ τ ws vs R Q S rs hq k
  unfold qList at hq
  split at hq
  · obtain ⟨xs, h0, hq⟩ := hq
    obtain ⟨v, rfl, p, rfl, hp⟩ := rep1 rs
    obtain ⟨us, hv, hr⟩ := S.at' hp h0
    exact ⟨p, us, rfl, .inl (SqL.of hv), fun l hl => k.newL S hq hr hl⟩
  · obtain ⟨v, rfl, r⟩ := rep1 rs
    obtain ⟨p, us, rfl, hs, hr⟩ := repW_tup r
    exact ⟨p, us, rfl, .inr hs, fun l hl => k.newL S hq hr hl⟩
  · obtain ⟨v, rfl, r⟩ := rep1 rs
    obtain ⟨p, us, rfl, hs, hr⟩ := repW_rol r
    exact ⟨p, us, rfl, .inl hs.sq, fun l hl => k.newL S hq hr hl⟩
  · exact hq.elim
/-! isinstance -/
def tyName : W → String
  | .d .non => "NoneType"
  | .d (.bl _) => "bool"
  | .d (.int _) => "int"
  | .d (.str _) => "str"
  | .d (.tup _) => "tuple"
  | .d (.rol _) => "list"
  | .l _ => "list"
  | .ty _ => ""
def qIsi (f : W → Option Bool) : XQ
  | [x, .ty _], τ, R => ∃ b, f x = some b ∧ R (.d (.bl b)) τ
  | _, _, _ => False
def isIntW : W → Option Bool
  | .d (.int _) => some true
  | .d (.bl _) => some true
  | .ty _ => none
  | _ => some false
def isBoolW : W → Option Bool
  | .d (.bl _) => some true
  | .ty _ => none
  | _ => some false
def isStrW : W → Option Bool
  | .d (.str _) => some true
  | .ty _ => none
  | _ => some false
def isTupW : W → Option Bool
  | .d (.tup _) => some true
  | .ty _ => none
  | _ => some false
end
end DL

namespace DL
open PySem PySem.Spec PyProof.Rows L2
theorem repWs.evo {K : PySem.W.Frag} {H H' : Hp} {μ μ' : List Addr} {τ : Sto} (S : StoR K H μ τ) (e : Evo μ H μ' H') : ∀ {ws : List W} {vs : List V}, repWs K H μ ws vs → repWs K H' μ' ws vs
  | [], _, r => r
  | _ :: _, _, r => by
    obtain ⟨v, vr, rfl, q1, q2⟩ := r
    exact repWs.cons (q1.evo S e) (repWs.evo S e q2)
/-! ## isinstance -/
theorem tyx_of {K : PySem.W.Frag} {H : Hp} {μ : List Addr} {τ : Sto} (S : StoR K H μ τ) : ∀ {w : W} {v : V}, repW K H μ w v → (∀ n, w ≠ .ty n) → TyX K H v (.type (tyName w))
  | .ty n, _, _, h => absurd rfl (h n)
  | .l k, v, r, _ => by
    obtain ⟨p, rfl, hp⟩ := r
    obtain ⟨ds, vs, _, h2, _⟩ := S.ap k p hp
    exact .base (.lst h2)
  | .d .non, v, r, _ => by
    rw [repW_non r]
    exact .base .non
  | .d (.bl b), v, r, _ => by
    rw [repW_bl r]
    exact .base (.bl b)
  | .d (.int b), v, r, _ => by
    rw [repW_int r]
    exact .base (.int b)
  | .d (.str b), v, r, _ => by
    rw [repW_str r]
    exact .base (.str b)
  | .d (.tup b), v, r, _ => by
    obtain ⟨p, vs, rfl, hs, _⟩ := repW_tup r
    rcases hs with (h | ⟨o, h⟩) | ⟨o, its, n, h1, h2, _⟩
    · exact .base (.tup h)
    · exact .fTuple h
    · exact .kTuple h1 h2
  | .d (.rol b), v, r, _ => by
    obtain ⟨p, vs, rfl, hs, _⟩ := repW_rol r
    rcases hs with ⟨o, h⟩ | (h | ⟨o, h⟩) | ⟨o, its, n, h1, h2, _⟩
    · exact .base (.frz h)
    · cases h
    · cases h
    · exact .kList h1 h2
theorem cl_isi {K : PySem.W.Frag} {T : String} {f : W → Option Bool} (hf : ∀ w b, f w = some b → (∀ n, w ≠ .ty n) ∧ kitB (tyName w) T = some b) : CallL K (fun xs H Q => rIsi K xs H Q) (fun ws τ R => match ws with
    | [x, .ty n] => n = T ∧ ∃ b, f x = some b ∧ R (.d (.bl b)) τ
    | _ => False) := by
  intro H μ τ ws vs R Q S rs hq k
  split at hq
  · obtain ⟨rfl, b, h1, h2⟩ := hq
    obtain ⟨v, v', rfl, r, r'⟩ := rep2 rs
    obtain ⟨q1, q2⟩ := hf _ b h1
    exact ⟨v, v', _, .type _, b, rfl, by rw [show v' = V.ty _ from r']; exact .ty _, tyx_of S r q1, kit_ty q2, k.nowD S h2 rep_bl⟩
  · exact hq.elim
def qIsiT (T : String) (f : W → Option Bool) : XQ := fun ws τ R => match ws with
    | [x, .ty n] => n = T ∧ ∃ b, f x = some b ∧ R (.d (.bl b)) τ
    | _ => False
theorem isi_int : ∀ w b, isIntW w = some b → (∀ n, w ≠ .ty n) ∧ kitB (tyName w) "int" = some b := by
  intro w b h
  refine ⟨fun n z => (by subst z; cases h), ?_⟩
  cases w with
  | ty n => cases h
  | l k => cases h; dsimp only [tyName]; decide +kernel
  | d x => cases x <;> (cases h; dsimp only [tyName]; decide +kernel)
theorem isi_bool : ∀ w b, isBoolW w = some b → (∀ n, w ≠ .ty n) ∧ kitB (tyName w) "bool" = some b := by
  intro w b h
  refine ⟨fun n z => (by subst z; cases h), ?_⟩
  cases w with
  | ty n => cases h
  | l k => cases h; dsimp only [tyName]; decide +kernel
  | d x => cases x <;> (cases h; dsimp only [tyName]; decide +kernel)
theorem isi_str : ∀ w b, isStrW w = some b → (∀ n, w ≠ .ty n) ∧ kitB (tyName w) "str" = some b := by
  intro w b h
  refine ⟨fun n z => (by subst z; cases h), ?_⟩
  cases w with
  | ty n => cases h
  | l k => cases h; dsimp only [tyName]; decide +kernel
  | d x => cases x <;> (cases h; dsimp only [tyName]; decide +kernel)
theorem isi_tup : ∀ w b, isTupW w = some b → (∀ n, w ≠ .ty n) ∧ kitB (tyName w) "tuple" = some b := by
  intro w b h
  refine ⟨fun n z => (by subst z; cases h), ?_⟩
  cases w with
  | ty n => cases h
  | l k => cases h; dsimp only [tyName]; decide +kernel
  | d x => cases x <;> (cases h; dsimp only [tyName]; decide +kernel)
section
variable {X : Cx} {K : PySem.W.Frag} {e o : Expr} {es : List Expr} {ts : List XE} {pos p apos : Pos}
theorem d_isi {T : String} {f : W → Option Bool} (hf : ∀ w b, f w = some b → (∀ n, w ≠ .ty n) ∧ kitB (tyName w) T = some b) (hm : X.mg "isinstance" = none) (ha : DAs X (e :: es) ts) (hg : Gl X "isinstance" := by rfl)
    (he : starEach (e :: es) X.env = (false, eval e X.env) :: starEach es X.env := by rfl) (hpl : (backTo pos (starEach es X.env)).any (·.1) = false := by rfl) : DE X (.Call (.Name "isinstance" p) (e :: es) [] pos) (xCB (qIsiT T f) ts) :=
  d_callB (r := rIsi X.K) call_isi (cl_isi hf) hm PyProof.Rows.boot_isinstance ha hg (by decide) (by decide) he hpl
theorem d_abs (hm : X.mg "abs" = none) (ha : DAs X (e :: es) ts) (hg : Gl X "abs" := by rfl) (he : starEach (e :: es) X.env = (false, eval e X.env) :: starEach es X.env := by rfl) (hpl : (backTo pos (starEach es X.env)).any (·.1) = false := by rfl) :
    DE X (.Call (.Name "abs" p) (e :: es) [] pos) (xCB qAbs ts) := d_callB call_abs cl_abs hm PyProof.Rows.boot_abs ha hg (by decide) (by decide) he hpl
theorem d_max2 (hc : X.calm = true) (hm : X.mg "max" = none) (ha : DAs X (e :: es) ts) (hg : Gl X "max" := by rfl) (he : starEach (e :: es) X.env = (false, eval e X.env) :: starEach es X.env := by rfl) (hpl : (backTo pos (starEach es X.env)).any (·.1) = false := by rfl) :
    DE X (.Call (.Name "max" p) (e :: es) [] pos) (xCB qMax2 ts) := d_callB (call_max2 hc) cl_max2 hm PyProof.Rows.boot_max ha hg (by decide) (by decide) he hpl
theorem d_min2 (hc : X.calm = true) (hm : X.mg "min" = none) (ha : DAs X (e :: es) ts) (hg : Gl X "min" := by rfl) (he : starEach (e :: es) X.env = (false, eval e X.env) :: starEach es X.env := by rfl) (hpl : (backTo pos (starEach es X.env)).any (·.1) = false := by rfl) :
    DE X (.Call (.Name "min" p) (e :: es) [] pos) (xCB qMin2 ts) := d_callB (call_min2 hc) cl_min2 hm PyProof.Rows.boot_min ha hg (by decide) (by decide) he hpl
theorem d_intc (hm : X.mg "int" = none) (ha : DAs X (e :: es) ts) (hg : Gl X "int" := by rfl) (he : starEach (e :: es) X.env = (false, eval e X.env) :: starEach es X.env := by rfl) (hpl : (backTo pos (starEach es X.env)).any (·.1) = false := by rfl) :
    DE X (.Call (.Name "int" p) (e :: es) [] pos) (xCB qInt ts) := d_callTy call_int1 cl_int hm PyProof.Rows.boot_int ha hg (by decide) (by decide) he hpl
theorem d_gcd (hm : X.mg "gcd" = some (.builtin "math.gcd")) (ha : DAs X (e :: es) ts) (hg : Gl X "gcd" := by rfl) (he : starEach (e :: es) X.env = (false, eval e X.env) :: starEach es X.env := by rfl) (hpl : (backTo pos (starEach es X.env)).any (·.1) = false := by rfl) :
    DE X (.Call (.Name "gcd" p) (e :: es) [] pos) (xCB qGcd ts) := d_callF cr_gcd cl_gcd hm ha hg (by decide) he hpl
theorem d_divmod (hm : X.mg "divmod" = none) (ha : DAs X (e :: es) ts) (hg : Gl X "divmod" := by rfl) (he : starEach (e :: es) X.env = (false, eval e X.env) :: starEach es X.env := by rfl) (hpl : (backTo pos (starEach es X.env)).any (·.1) = false := by rfl) :
    DE X (.Call (.Name "divmod" p) (e :: es) [] pos) (xCB qDivmod ts) := d_callB call_divmod cl_divmod hm PyProof.Rows.boot_divmod ha hg (by decide) (by decide) he hpl
theorem d_sum (hc : X.calm = true) (hm : X.mg "sum" = none) (ha : DAs X (e :: es) ts) (hg : Gl X "sum" := by rfl) (he : starEach (e :: es) X.env = (false, eval e X.env) :: starEach es X.env := by rfl) (hpl : (backTo pos (starEach es X.env)).any (·.1) = false := by rfl) :
    DE X (.Call (.Name "sum" p) (e :: es) [] pos) (xCB qSum ts) := d_callB (cr_sum hc) cl_sum hm PyProof.Rows.boot_sum ha hg (by decide) (by decide) he hpl
theorem d_all (hc : X.calm = true) (hm : X.mg "all" = none) (ha : DAs X (e :: es) ts) (hg : Gl X "all" := by rfl) (he : starEach (e :: es) X.env = (false, eval e X.env) :: starEach es X.env := by rfl) (hpl : (backTo pos (starEach es X.env)).any (·.1) = false := by rfl) :
    DE X (.Call (.Name "all" p) (e :: es) [] pos) (xCB qAll ts) := d_callB (cr_all hc) cl_all hm PyProof.Rows.boot_all ha hg (by decide) (by decide) he hpl
theorem d_any (hc : X.calm = true) (hm : X.mg "any" = none) (ha : DAs X (e :: es) ts) (hg : Gl X "any" := by rfl) (he : starEach (e :: es) X.env = (false, eval e X.env) :: starEach es X.env := by rfl) (hpl : (backTo pos (starEach es X.env)).any (·.1) = false := by rfl) :
    DE X (.Call (.Name "any" p) (e :: es) [] pos) (xCB qAny ts) := d_callB (cr_any hc) cl_any hm PyProof.Rows.boot_any ha hg (by decide) (by decide) he hpl
theorem d_tuplec (hm : X.mg "tuple" = none) (ha : DAs X (e :: es) ts) (hg : Gl X "tuple" := by rfl) (he : starEach (e :: es) X.env = (false, eval e X.env) :: starEach es X.env := by rfl) (hpl : (backTo pos (starEach es X.env)).any (·.1) = false := by rfl) :
    DE X (.Call (.Name "tuple" p) (e :: es) [] pos) (xCB qTuple ts) := d_callTy call_tuple_of cl_tuple hm PyProof.Rows.boot_tuple ha hg (by decide) (by decide) he hpl
theorem d_listc (hm : X.mg "list" = none) (ha : DAs X (e :: es) ts) (hg : Gl X "list" := by rfl) (he : starEach (e :: es) X.env = (false, eval e X.env) :: starEach es X.env := by rfl) (hpl : (backTo pos (starEach es X.env)).any (·.1) = false := by rfl) :
    DE X (.Call (.Name "list" p) (e :: es) [] pos) (xCB qList ts) := d_callTy call_list_of cl_list hm PyProof.Rows.boot_list ha hg (by decide) (by decide) he hpl
/-! ## list(range(a, b)) -/
theorem cr_listRng (hc : X.calm = true) : CallR X (.type "list") (fun xs H Q => ∃ p lo hi, xs = [V.ref p] ∧ H p = some (.rng lo hi) ∧ (-(2 ^ 62) ≤ lo ∧ lo < 2 ^ 62 ∧ -(2 ^ 62) ≤ hi ∧ hi < 2 ^ 62) ∧ (hi - lo).toNat ≤ 1000000 ∧
    ∀ l, H l = none → Q (.ref l) (upd H l (.lst ((List.range (hi - lo).toNat).map fun i => V.int (lo + (i : Nat)))))) := by
  intro pins s σ H xs us Q I r h
  obtain ⟨p, lo, hi, rfl, hp, ⟨b1, b2, b3, b4⟩, hn, q⟩ := h
  obtain ⟨u, rfl, ru⟩ := vals1 r
  cases (show u = Value.ref p from ru)
  obtain ⟨t, t', t'', ho⟩ : ∃ t u v, s.heap.get? p = some { cls := .type "range", data := .fields #[.int lo t, .int hi u, .int 1 v] } := I.hok p _ hp
  refine PySem.call_list_range (n := (hi - lo).toNat) (I.ok.hd hc) ho (small_one b1 b2 b3 b4) (by rw [rangeSize_one]; split <;> omega) (by omega) fun h' tk acc c' hk hl hacc => ?_
  have hfree : H s.heap.objs.size = none := I.hok.fresh (Nat.le_refl _)
  refine ⟨.ref s.heap.objs.size, _, I.laid (t' := tk) hk (Nat.le_refl _) ?_, rfl, q _ hfree⟩
  refine ⟨by rw [List.length_map, List.length_range]; exact line_of hn, acc.toList, c', ?_, by rw [Array.toArray_toList]; exact hl⟩
  obtain ⟨ha, hb⟩ := hacc
  have key : ∀ (n k : Nat) (l : List Value), l.length = n → (∀ i v, l[i]? = some v → ∃ t, v = Value.int (lo + ((k + i : Nat) : Int) * 1) t) → Vals ((List.range' k n).map fun i => V.int (lo + (i : Nat))) l := by
    intro n
    induction n with
    | zero =>
      intro k l hl _
      rw [List.length_eq_zero_iff.mp hl]
      exact .nil
    | succ n ih =>
      intro k l hl hv
      cases l with
      | nil => cases hl
      | cons v l =>
        obtain ⟨t, ht⟩ := hv 0 v rfl
        rw [List.range'_succ, List.map_cons]
        refine .cons ⟨t, by rw [ht, Int.mul_one]; rfl⟩ (ih (k + 1) l (by simpa using hl) fun i v' h' => ?_)
        have := hv (i + 1) v' (by simpa using h')
        rw [show k + (i + 1) = k + 1 + i by omega] at this
        exact this
  rw [List.range_eq_range']
  refine key _ 0 _ (by simpa using ha) fun i v hv => ?_
  rw [Nat.zero_add]
  exact hb i v (by simpa using hv)
def intsR (lo : Int) (n : Nat) : List D := ((List.range n).map fun i => lo + ((i : Nat) : Int)).map D.int
def xListRng (ts : List XE) : XE := fun ρ τ R => xArgs ts ρ τ fun ws τ1 => match ws with
  | [.d (.int i), .d (.int j)] => (small62 i ∧ small62 j) ∧ (j - i).toNat ≤ 1000000 ∧ R (.l τ1.length) (τ1 ++ [intsR i (j - i).toNat])
  | _ => False
theorem d_listRng {p2 pos2 : Pos} (hc : X.calm = true) (hl : X.mg "list" = none) (hr : X.mg "range" = none) (ha : DAs X (e :: es) ts) (hg : Gl X "list" := by rfl) (hg2 : Gl X "range" := by rfl)
    (he : starEach (e :: es) X.env = (false, eval e X.env) :: starEach es X.env := by rfl) (hpl : (backTo pos2 (starEach es X.env)).any (·.1) = false := by rfl)
    (he2 : starEach (.Call (.Name "range" p2) (e :: es) [] pos2 :: []) X.env = (false, eval (.Call (.Name "range" p2) (e :: es) [] pos2) X.env) :: starEach [] X.env := by rfl) :
    DE X (.Call (.Name "list" p) [.Call (.Name "range" p2) (e :: es) [] pos2] [] pos) (xListRng ts) :=
  pe_imp (pe_callTy (cr_listRng hc) hg hl PyProof.Rows.boot_list (pa_cons (pe_callTy cr_range2 hg2 hr (by decide +kernel) ha (by decide) (by decide) he hpl) pa_nil he2) (by decide) (by decide) he2 rfl) fun σ H Q ⟨μ, ρ, τ, R, E, S, h, k⟩ =>
    lift_args E S h fun ws τ1 hx vs μ1 H1 e1 S1 r1 _ => by
      split at hx
      · rename_i i j _
        obtain ⟨⟨⟨a1, a2⟩, ⟨b1, b2⟩⟩, hn, hx⟩ := hx
        obtain ⟨v, v', rfl, q1, q2⟩ := rep2 r1
        refine ⟨i, j, by rw [repW_int q1, repW_int q2], fun p hp => ⟨p, i, j, rfl, upd_same, ⟨a1, a2, b1, b2⟩, hn, fun l hl => ?_⟩⟩
        have ev : Evo μ1 H1 μ1 (upd H1 p (.rng i j)) := Evo.new1 hp
        have r : reps X.K (upd H1 p (.rng i j)) (intsR i (j - i).toNat) ((List.range (j - i).toNat).map fun i_1 => V.int (i + (i_1 : Nat))) := by
          have e0 : ((List.range (j - i).toNat).map fun i_1 => V.int (i + (i_1 : Nat))) = (((List.range (j - i).toNat).map fun n => i + ((n : Nat) : Int)).map V.int) := by
            rw [List.map_map]
            rfl
          rw [e0]
          exact reps.of_ints
        exact ((k.evo e1).evo ev).newL (S1.new1 hp) hx r hl
      · exact hx.elim
/-! ## sorted(xs, reverse=True) -/
def xSortRev (ts ks : List XE) : XE := fun ρ τ R => xArgs ts ρ τ fun ws τ1 => xArgs ks ρ τ1 fun us τ2 => match ws, us with
  | [.l k], [.d (.bl true)] => ∃ ns : List Int, τ2[k]? = some (ns.map D.int) ∧ ∀ ns' : List Int, ns'.Perm ns → ns'.Pairwise (· ≥ ·) → R (.l τ2.length) (τ2 ++ [ns'.map D.int])
  | _, _ => False
theorem d_sortRev {kws : List Keyword} {ks : List XE} (hm : X.mg "sorted" = none) (ha : DAs X (e :: es) ts) (hk : DKs X kws ks) (hg : Gl X "sorted" := by rfl) (he : backTo pos (starEach (e :: es) X.env) = (false, eval e X.env) :: backTo pos (starEach es X.env) := by rfl)
    (hpl : (backTo pos (starEach (e :: es) X.env)).any (·.1) = false := by rfl) (hall : (backToKw pos (keywordEach kws X.env)).all (·.1.isSome) = true := by rfl) (hnone : (backToKw pos (keywordEach kws X.env)).any (·.1.isNone) = false := by rfl)
    (hks : (backToKw pos (keywordEach kws X.env)).filterMap (·.1) = [Str.ofString "reverse"] := by rfl) : DE X (.Call (.Name "sorted" p) (e :: es) kws pos) (xSortRev ts ks) :=
  pe_imp (pe_callBK (cr_sortedRev (b := true)) hg hm PyProof.Rows.boot_sorted ha hk (by decide) (by decide) he hpl hall hnone hks) fun σ H Q ⟨μ, ρ, τ, R, E, S, h, k⟩ =>
    lift_args E S h fun ws τ1 h1 vs μ1 H1 e1 S1 r1 _ => lift_args (E.evo S e1) S1 h1 fun us τ2 hx vs2 μ2 H2 e2 S2 r2 _ => by
      have r1' := repWs.evo S1 e2 r1
      split at hx
      · obtain ⟨ns, h0, hx⟩ := hx
        obtain ⟨v, rfl, p, rfl, hp⟩ := rep1 r1'
        obtain ⟨v2, rfl, q2⟩ := rep1 r2
        obtain ⟨us, hv, hr⟩ := S2.at' hp h0
        rw [hr.ints] at hv
        exact ⟨p, ns, rfl, by rw [repW_bl q2], SqL.of hv, fun ns' l hperm hord hl => (k.evo (e1.trans e2)).newL S2 (hx ns' hperm (by simpa [OrdB] using hord)) reps.of_ints hl⟩
      · exact hx.elim
/-! ## methods of lists -/
def xMt (q : Nat → List W → Sto → XK1 → Prop) (to : XE) (ts : List XE) : XE := fun ρ τ R => to ρ τ fun o τ1 => match o with
  | .l k => xArgs ts ρ τ1 fun ws τ2 => q k ws τ2 R
  | _ => False
def qAppend (k : Nat) (ws : List W) (τ : Sto) (R : XK1) : Prop := match ws with
  | [.d x] => ∃ xs, τ[k]? = some xs ∧ xs.length < 1000000 ∧ R (.d .non) (τ.set k (xs ++ [x]))
  | _ => False
def qPopAt (k : Nat) (ws : List W) (τ : Sto) (R : XK1) : Prop := match ws with
  | [.d (.int i)] => ∃ xs d, τ[k]? = some xs ∧ (0 ≤ i ∧ i.toNat < 1000000) ∧ xs[i.toNat]? = some d ∧ R (.d d) (τ.set k (xs.eraseIdx i.toNat))
  | _ => False
def qInsert (k : Nat) (ws : List W) (τ : Sto) (R : XK1) : Prop := match ws with
  | [.d (.int i), .d x] => ∃ xs, τ[k]? = some xs ∧ (0 ≤ i ∧ i.toNat ≤ xs.length) ∧ xs.length < 1000000 ∧ R (.d .non) (τ.set k (xs.insertIdx i.toNat x))
  | _ => False
theorem tyv_list {H : Hp} {p : Addr} {vs : List V} (h : H p = some (.lst vs)) : tyV K "list" (.ref p) H := Or.inl ⟨rfl, _, SqL.of h⟩
theorem lift_mt {r : V → List V → Hp → VK → Prop} {to : XE} {q : Nat → List W → Sto → XK1 → Prop}
    (hl : ∀ {H : Hp} {μ : List Addr} {τ : Sto} {j : Nat} {p : Addr} {ws : List W} {vs : List V} {R : XK1} {Q : VK}, StoR K H μ τ → μ[j]? = some p → repWs K H μ ws vs → q j ws τ R → Kont K μ H R Q → r (.ref p) vs H Q) {σ : L2.St} {H : Hp} {Q : VK} :
    liftE K (xMt q to ts) σ H Q → tBM K "list" r (liftE K to) (tAll K ts) σ H Q := fun ⟨μ, ρ, τ, R, E, S, h, k⟩ =>
  ⟨μ, ρ, τ, _, E, S, h, fun o τ1 h1 vo μ1 H1 e1 S1 r1 => by
    split at h1
    · obtain ⟨p, rfl, hp⟩ := r1
      obtain ⟨ds, us, _, hv, _⟩ := S1.ap _ p hp
      refine ⟨tyv_list hv, lift_args (E.evo S e1) S1 h1 fun ws τ2 hx vs μ2 H2 e2 S2 r2 _ => ?_⟩
      obtain ⟨ν, hν⟩ := e2.grow
      exact hl S2 (by rw [hν, List.getElem?_append_left (List.getElem?_eq_some_iff.mp hp).1]; exact hp) r2 hx (k.evo (e1.trans e2))
    · exact h1.elim⟩
theorem ml_append {H : Hp} {μ : List Addr} {τ : Sto} {j : Nat} {p : Addr} {ws : List W} {vs : List V} {R : XK1} {Q : VK} (S : StoR K H μ τ) (hp : μ[j]? = some p) (rs : repWs K H μ ws vs) (hq : qAppend j ws τ R) (k : Kont K μ H R Q) : rAppend (.ref p) vs H Q := by
  unfold qAppend at hq
  split at hq
  · obtain ⟨xs, h0, h1, hq⟩ := hq
    obtain ⟨v, rfl, rv⟩ := rep1 rs
    obtain ⟨us, hv, hr⟩ := S.at' hp h0
    exact ⟨p, us, v, rfl, rfl, hv, line_lt (by rw [← hr.length]; exact h1), k.wr S hp hq (hr.append (reps.cons rv reps.of_nil)) (show repW K H μ (.d .non) .non from rep_non (K := K) (H := H))⟩
  · exact hq.elim
theorem ml_popAt {H : Hp} {μ : List Addr} {τ : Sto} {j : Nat} {p : Addr} {ws : List W} {vs : List V} {R : XK1} {Q : VK} (S : StoR K H μ τ) (hp : μ[j]? = some p) (rs : repWs K H μ ws vs) (hq : qPopAt j ws τ R) (k : Kont K μ H R Q) : rPopAt (.ref p) vs H Q := by
  unfold qPopAt at hq
  split at hq
  · rename_i i
    obtain ⟨xs, d, h0, ⟨h1, h2⟩, h3, hq⟩ := hq
    obtain ⟨v, rfl, rv⟩ := rep1 rs
    obtain ⟨us, hv, hr⟩ := S.at' hp h0
    obtain ⟨y, hy, ry⟩ := hr.get h3
    have hi := (List.getElem?_eq_some_iff.mp hy).1
    refine ⟨p, us, i, i.toNat, y, rfl, by rw [repW_int rv], hv, by omega, by omega, ?_, hy, k.wr S hp hq (hr.eraseIdx _) (show repW K H μ (.d d) y from ry)⟩
    have e := PySem.StrLaws.seqIndex_nonneg (i := i) (n := us.length) h1 (by omega)
    exact e
  · exact hq.elim
theorem d_append {to : XE} (ho : DE X o to) (ha : DAs X (e :: es) ts) (h1 : attributeBase o "append" X.env (eval o X.env) = eval o X.env := by rfl)
    (h2 : ((backTo pos (starEach (e :: es) X.env)).all (fun x => !x.1) && (backToKw pos (keywordEach [] X.env)).all (fun x => x.1.isSome) && decide ((e :: es).length + ([] : List Keyword).length + (if ([] : List Keyword).isEmpty then 0 else 1) < 30)) = true := by rfl)
    (h3 : (apos.endLine == pos.line) = true := by rfl) (h4 : starEach (e :: es) X.env = (false, eval e X.env) :: starEach es X.env := by rfl) (h5 : (backTo pos (starEach es X.env)).any (·.1) = false := by rfl) :
    DE X (.Call (.Attribute o "append" apos) (e :: es) [] pos) (xMt qAppend to ts) := pe_imp (pe_bm PySem.F.plainAttrs_list PySem.F.slot_list_append PySem.F.type_list_append mt_append ho ha h1 h2 h3 h4 h5) fun _ _ _ => lift_mt ml_append
theorem d_popAt {to : XE} (ho : DE X o to) (ha : DAs X (e :: es) ts) (h1 : attributeBase o "pop" X.env (eval o X.env) = eval o X.env := by rfl)
    (h2 : ((backTo pos (starEach (e :: es) X.env)).all (fun x => !x.1) && (backToKw pos (keywordEach [] X.env)).all (fun x => x.1.isSome) && decide ((e :: es).length + ([] : List Keyword).length + (if ([] : List Keyword).isEmpty then 0 else 1) < 30)) = true := by rfl)
    (h3 : (apos.endLine == pos.line) = true := by rfl) (h4 : starEach (e :: es) X.env = (false, eval e X.env) :: starEach es X.env := by rfl) (h5 : (backTo pos (starEach es X.env)).any (·.1) = false := by rfl) :
    DE X (.Call (.Attribute o "pop" apos) (e :: es) [] pos) (xMt qPopAt to ts) := pe_imp (pe_bm PySem.F.plainAttrs_list PySem.F.slot_list_pop PySem.F.type_list_pop mt_popAt ho ha h1 h2 h3 h4 h5) fun _ _ _ => lift_mt ml_popAt
end
/-! ## data of the library: ==, repr -/
mutual
def toPy : D → PyData
  | .non => .none
  | .bl b => .bool b
  | .int i => .int i
  | .str s => .str s
  | .tup xs => .tuple (toPys xs)
  | .rol xs => .list (toPys xs)
def toPys : List D → List PyData
  | [] => []
  | x :: xs => toPy x :: toPys xs
end
def toPyW (τ : Sto) : W → Option PyData
  | .d x => some (toPy x)
  | .l k => (τ[k]?).map fun xs => .list (toPys xs)
  | .ty _ => none
section
variable {K : PySem.W.Frag} {H : Hp}
mutual
theorem rep.dp : ∀ (d : D) (v : V), rep K H d v → Dp K H v (toPy d)
  | .non, v, h => by
    have e : v = .non := by simpa [rep] using h
    rw [e, toPy]; exact .non
  | .bl b, v, h => by
    have e : v = .bl b := by simpa [rep] using h
    rw [e, toPy]; exact .bl b
  | .int b, v, h => by
    have e : v = .int b := by simpa [rep] using h
    rw [e, toPy]; exact .int b
  | .str b, v, h => by
    have e : v = .str b := by simpa [rep] using h
    rw [e, toPy]; exact .str b
  | .tup xs, v, h => by
    unfold rep at h
    obtain ⟨p, vs, e, hs, hr⟩ := h
    rw [e, toPy]
    exact .tup hs (reps.dps xs vs hr)
  | .rol xs, v, h => by
    unfold rep at h
    obtain ⟨p, vs, e, hs, hr⟩ := h
    rw [e, toPy]
    exact .lst hs.sq (reps.dps xs vs hr)
theorem reps.dps : ∀ (ds : List D) (vs : List V), reps K H ds vs → DpAll K H vs (toPys ds)
  | [], vs, h => by
    rw [reps.nil h, toPys]; exact .nil
  | d :: ds, vs, h => by
    unfold reps at h
    obtain ⟨v, r, e, h1, h2⟩ := h
    rw [e, toPys]
    exact .cons (rep.dp d v h1) (reps.dps ds r h2)
end
theorem repW.dp {μ : List Addr} {τ : Sto} (S : StoR K H μ τ) {w : W} {v : V} {d : PyData} (r : repW K H μ w v) (e : toPyW τ w = some d) : Dp K H v d := by
  cases w with
  | d x =>
    cases e
    exact rep.dp x v r
  | ty n => cases e
  | l k =>
    obtain ⟨p, rfl, hp⟩ := r
    obtain ⟨ds, vs, h1, h2, h3⟩ := S.ap k p hp
    have e' : (τ[k]?).map (fun xs => PyData.list (toPys xs)) = some d := e
    rw [h1] at e'
    cases e'
    exact .lst (SqL.of h2) (reps.dps ds vs h3)
end
def qEqD (f : Bool → Bool) (x y : W) (τ : Sto) (R : XK1) : Prop := ∃ d e, toPyW τ x = some d ∧ toPyW τ y = some e ∧ SeqAt.shaped d = true ∧ SeqAt.shaped e = true ∧ R (.d (.bl (f (PyData.eqv d e)))) τ
section
variable {X : Cx} {a b e : Expr} {es : List Expr} {ta tb : XE} {ts : List XE} {pos p : Pos}
theorem opl_eqD {K : PySem.W.Frag} : OpL K (rEqD K) (qEqD id) := fun S rx ry ⟨d, e, h1, h2, h3, h4, h5⟩ k => ⟨d, e, rx.dp S h1, ry.dp S h2, h3, h4, k.nowD S h5 rep_bl⟩
theorem opl_neD {K : PySem.W.Frag} : OpL K (rNeD K) (qEqD not) := fun S rx ry ⟨d, e, h1, h2, h3, h4, h5⟩ k => ⟨d, e, rx.dp S h1, ry.dp S h2, h3, h4, k.nowD S h5 rep_bl⟩
theorem d_eqD {n : Nat} (hr : Room n X.A) (ha : DE X a ta) (hb : DE X b tb) : DE X (.Compare a [.Eq] [b] pos) (xOp (qEqD id) ta tb) := d_cmp (op_eqD hr.units) opl_eqD ha hb (nomark _)
theorem d_neD {n : Nat} (hr : Room n X.A) (ha : DE X a ta) (hb : DE X b tb) : DE X (.Compare a [.NotEq] [b] pos) (xOp (qEqD not) ta tb) := d_cmp (op_neD hr.units) opl_neD ha hb (nomark _)
theorem t_eqD {n : Nat} (hr : Room n X.A) (ha : DE X a ta) (hb : DE X b tb) : DT X (.Compare a [.Eq] [b] pos) (xTB (xOp (qEqD id) ta tb)) := t_cmp (op_eqD hr.units) opl_eqD ha hb (nomark _)
theorem t_neD {n : Nat} (hr : Room n X.A) (ha : DE X a ta) (hb : DE X b tb) : DT X (.Compare a [.NotEq] [b] pos) (xTB (xOp (qEqD not) ta tb)) := t_cmp (op_neD hr.units) opl_neD ha hb (nomark _)
/-- repr, where nothing of repr is under way -/
def Shows (d : PyData) : Prop := d.showable = true ∧ d.hasDict = false ∧ d.depth ≤ 60 ∧ d.shown.length ≤ 1000000
def qRepr : XQ
  | [w], τ, R => ∃ d, toPyW τ w = some d ∧ Shows d ∧ R (.d (.str d.shown)) τ
  | _, _, _ => False
theorem cr_repr {n : Nat} (hr : Room n X.A) (hG : X.A.guards = some []) : CallR X (.builtin "repr") (fun xs H Q => ∃ v d, xs = [v] ∧ Dp X.K H v d ∧ Shows d ∧ Q (.str d.shown) H) := by
  intro pins s σ H xs us Q I r h
  obtain ⟨v, d, rfl, hd, ⟨h1, h2, h3, h4⟩, q⟩ := h
  obtain ⟨u, rfl, ru⟩ := vals1 r
  obtain ⟨as, rd⟩ := Dp.reads I d v u hd ru
  have hu := hr.units
  have hz := line_of h4
  cases hd with
  | non =>
    cases ru
    exact PySem.P.repr_of_none ⟨.str _, H, I.tok _, ⟨_, rfl⟩, by simpa only [PyData.shown] using q⟩
  | bl b =>
    cases ru
    refine PySem.P.repr_of_bool ⟨.str _, H, I.tok _, ⟨_, rfl⟩, ?_⟩
    rw [PyData.shown_bool] at q
    cases b <;> exact q
  | int i =>
    obtain ⟨t, rfl⟩ := ru
    exact PySem.P.repr_of_int (by simpa [PyData.showable] using h1) ⟨.str _, H, I.tok _, ⟨_, rfl⟩, by simpa only [PyData.shown] using q⟩
  | str x =>
    obtain ⟨t, rfl⟩ := ru
    exact PySem.P.repr_of_str ⟨.str _, H, I.tok _, ⟨_, rfl⟩, by simpa only [PyData.shown] using q⟩ (by simpa only [PyData.shown] using hz)
  | lst hs hx =>
    cases ru
    exact repr_of_reads' rd h1 (PyData.noDict_hsm h2) hG (by omega) (fun _ _ e => e) (fun h' u tk hk => ⟨.str _, H, I.kept hk, ⟨_, rfl⟩, q⟩) hz
  | tup hs hx =>
    cases ru
    exact repr_of_reads' rd h1 (PyData.noDict_hsm h2) hG (by omega) (fun _ _ e => e) (fun h' u tk hk => ⟨.str _, H, I.kept hk, ⟨_, rfl⟩, q⟩) hz
theorem cl_repr {K : PySem.W.Frag} : CallL K (fun xs H Q => ∃ v d, xs = [v] ∧ Dp K H v d ∧ Shows d ∧ Q (.str d.shown) H) qRepr := by
  intro H μ τ ws vs R Q S rs hq k
  unfold qRepr at hq
  split at hq
  · obtain ⟨d, h1, h2, h3⟩ := hq
    obtain ⟨v, rfl, r⟩ := rep1 rs
    exact ⟨v, d, rfl, r.dp S h1, h2, k.nowD S h3 rep_str⟩
  · exact hq.elim
theorem d_repr {n : Nat} (hr : Room n X.A) (hG : X.A.guards = some []) (hm : X.mg "repr" = none) (ha : DAs X (e :: es) ts) (hg : Gl X "repr" := by rfl) (he : starEach (e :: es) X.env = (false, eval e X.env) :: starEach es X.env := by rfl)
    (hpl : (backTo pos (starEach es X.env)).any (·.1) = false := by rfl) : DE X (.Call (.Name "repr" p) (e :: es) [] pos) (xCB qRepr ts) := d_callB (cr_repr hr hG) cl_repr hm PyProof.Rows.boot_repr ha hg (by decide) (by decide) he hpl
end
end DL

namespace DL
open PySem PySem.Spec PyProof.Rows L2
/-! ## x in t, x not in t: texts in a tuple of texts, ints in a tuple or list of ints -/
def qInT (f : Bool → Bool) : W → W → Sto → XK1 → Prop
  | .d (.str z), .d (.tup xs), τ, R => ∃ zs : List Str, xs = zs.map D.str ∧ R (.d (.bl (f (decide (z ∈ zs))))) τ
  | .d (.int z), .d (.tup xs), τ, R => ∃ zs : List Int, xs = zs.map D.int ∧ R (.d (.bl (f (decide (z ∈ zs))))) τ
  | .d (.int z), .l k, τ, R => ∃ zs : List Int, τ[k]? = some (zs.map D.int) ∧ R (.d (.bl (f (decide (z ∈ zs))))) τ
  | _, _, _, _ => False
theorem reps.strs {K : PySem.W.Frag} {H : Hp} : ∀ {ns : List Str} {vs : List V}, reps K H (ns.map D.str) vs → vs = ns.map V.str
  | [], vs, h => reps.nil h
  | n :: ns, vs, h => by
    rw [List.map_cons] at h
    unfold reps at h
    obtain ⟨v, r, rfl, h1, h2⟩ := h
    have e : v = .str n := by simpa [rep] using h1
    rw [e, reps.strs h2]
    rfl
theorem inV_strs (z : Str) (zs : List Str) : inV (.str z) (zs.map V.str) = decide (z ∈ zs) := by
  unfold inV
  induction zs with
  | nil => simp
  | cons a r ih =>
    rw [List.map_cons, List.any_cons, ih]
    have e : eqV (V.str a) (V.str z) = decide (z = a) := by
      show (a == z) = _
      by_cases h : a = z
      · subst h; simp
      · rw [beq_eq_false_iff_ne.mpr h, decide_eq_false (fun q => h q.symm)]
    rw [e]
    by_cases h : z = a
    · simp [h]
    · by_cases h2 : z ∈ r <;> simp [h, h2]
theorem inV_ints (z : Int) (zs : List Int) : inV (.int z) (zs.map V.int) = decide (z ∈ zs) := by
  unfold inV
  induction zs with
  | nil => simp
  | cons a r ih =>
    rw [List.map_cons, List.any_cons, ih]
    have e : eqV (V.int a) (V.int z) = decide (z = a) := by
      show (a == z) = _
      by_cases h : a = z
      · subst h; simp
      · rw [beq_eq_false_iff_ne.mpr h, decide_eq_false (fun q => h q.symm)]
    rw [e]
    by_cases h : z = a
    · simp [h]
    · by_cases h2 : z ∈ r <;> simp [h, h2]
theorem opl_in {K : PySem.W.Frag} {neg : Bool} : OpL K (rIn K neg) (qInT fun b => if neg then !b else b) := by
  intro H μ τ x y vx vy R Q S rx ry hq k
  unfold qInT at hq
  split at hq
  · obtain ⟨zs, rfl, hq⟩ := hq
    obtain ⟨p, us, e, hs, hr⟩ := repW_tup ry
    rw [hr.strs] at hs
    rw [repW_str rx]
    refine ⟨p, _, e, .inr hs, rfl, by rw [List.all_eq_true]; intro v hv; obtain ⟨a, _, rfl⟩ := List.mem_map.mp hv; rfl, ?_⟩
    rw [inV_strs]
    exact k.nowD S hq (by cases neg <;> exact rep_bl)
  · obtain ⟨zs, rfl, hq⟩ := hq
    obtain ⟨p, us, e, hs, hr⟩ := repW_tup ry
    rw [hr.ints] at hs
    rw [repW_int rx]
    refine ⟨p, _, e, .inr hs, rfl, by rw [List.all_eq_true]; intro v hv; obtain ⟨a, _, rfl⟩ := List.mem_map.mp hv; rfl, ?_⟩
    rw [inV_ints]
    exact k.nowD S hq (by cases neg <;> exact rep_bl)
  · obtain ⟨zs, h0, hq⟩ := hq
    obtain ⟨p, e, hp⟩ := ry
    obtain ⟨us, hv, hr⟩ := S.at' hp h0
    rw [hr.ints] at hv
    rw [repW_int rx]
    refine ⟨p, _, e, .inl (SqL.of hv), rfl, by rw [List.all_eq_true]; intro v hv; obtain ⟨a, _, rfl⟩ := List.mem_map.mp hv; rfl, ?_⟩
    rw [inV_ints]
    exact k.nowD S hq (by cases neg <;> exact rep_bl)
  · exact hq.elim
section
variable {X : Cx} {a b : Expr} {ta tb : XE} {pos : Pos}
theorem d_in (ha : DE X a ta) (hb : DE X b tb) (hm : behindInMarks .In b = false := by rfl) : DE X (.Compare a [.In] [b] pos) (xOp (qInT fun b => b) ta tb) := d_cmp (r := rIn X.K false) op_in_seq (opl_in (neg := false)) ha hb hm
theorem d_notIn (ha : DE X a ta) (hb : DE X b tb) (hm : behindInMarks .NotIn b = false := by rfl) : DE X (.Compare a [.NotIn] [b] pos) (xOp (qInT fun b => !b) ta tb) := d_cmp (r := rIn X.K true) op_notIn_seq (opl_in (neg := true)) ha hb hm
theorem t_in (ha : DE X a ta) (hb : DE X b tb) (hm : behindInMarks .In b = false := by rfl) : DT X (.Compare a [.In] [b] pos) (xTB (xOp (qInT fun b => b) ta tb)) := t_cmp (r := rIn X.K false) op_in_seq (opl_in (neg := false)) ha hb hm
theorem t_notIn (ha : DE X a ta) (hb : DE X b tb) (hm : behindInMarks .NotIn b = false := by rfl) : DT X (.Compare a [.NotIn] [b] pos) (xTB (xOp (qInT fun b => !b) ta tb)) := t_cmp (r := rIn X.K true) op_notIn_seq (opl_in (neg := true)) ha hb hm
/-- a op b op c -/
def xChain (q q' : W → W → Sto → XK1 → Prop) (ta tb tc : XE) : XE := fun ρ τ R => ta ρ τ fun x τ1 => tb ρ τ1 fun y τ2 => q x y τ2 fun z τ3 => match z with
  | .d (.bl k) => if k = true then tc ρ τ3 fun u τ4 => q' y u τ4 R else R (.d (.bl false)) τ3
  | _ => False
theorem d_chain {op op' : CmpOp} {r r' : R2} {q q' : W → W → Sto → XK1 → Prop} {c : Expr} {tc : XE} (ho : OpR X (compareOp op) r) (ho' : OpR X (compareOp op') r') (hl : OpL X.K r q) (hl' : OpL X.K r' q') (ha : DE X a ta) (hb : DE X b tb) (hc : DE X c tc)
    (hm : lastMarks [op, op'] [b, c] = false := by with_unfolding_all rfl) : DE X (.Compare a [op, op'] [b, c] pos) (xChain q q' ta tb tc) :=
  pe_imp (pe_chain ho ho' ha hb hc hm) fun σ H Q ⟨μ, ρ, τ, R, E, S, h, k⟩ => ⟨μ, ρ, τ, _, E, S, h, fun x τ1 hx vx μ1 H1 e1 S1 r1 => ⟨μ1, ρ, τ1, _, E.evo S e1, S1, hx, fun y τ2 hy vy μ2 H2 e2 S2 r2 =>
    hl S2 (r1.evo S1 e2) r2 hy fun z τ3 hz vz μ3 H3 e3 S3 r3 => by
      split at hz
      · rename_i c
        refine ⟨c, repW_bl r3, ?_⟩
        have E3 := ((E.evo S e1).evo S1 e2).evo S2 e3
        have k3 := k.evo (e1.trans (e2.trans e3))
        cases c with
        | true => exact ⟨μ3, ρ, τ3, _, E3, S3, hz, fun u τ4 hu vu μ4 H4 e4 S4 r4 => hl' S4 ((r2.evo S2 e3).evo S3 e4) r4 hu (k3.evo e4)⟩
        | false => exact k3.nowD S3 hz rep_bl
      · exact hz.elim⟩⟩
end
/-! ## the end of a law -/
/-- what a law's def promises: a list of at most 63 ints in, True out -/
def spLaw : Spx := fun ws τ R => ∃ ns : List Int, ws = [.d (.rol (ns.map D.int))] ∧ ns.length ≤ 63 ∧ ∀ τ', R (.d (.bl true)) τ'
section
variable {P : Program} {w : World} {K : PySem.W.Frag} {mg mb : Str → Option Value} {k : Nat} {fa a : Addr} {fd : FuncData} {x : Str} {s₁ : Shared} {vs : List Value} {ns : List Int}
theorem law_from {H : Hp} (M : Mod K mg (hidT s₁.heap H)) (F : FnG P w K mg (hidT s₁.heap H) k fa fd [x] (spOf K spLaw)) (hr : Room k callerA) (hb : BindsTo s₁ fd ⟨[.ref a], []⟩ [(x, .ref a)]) (hg : s₁.gens = #[]) (ok : HOk P w H s₁.heap)
    (only : ∀ b o, H b = some o → ∃ ob xs, o = .frz ob (.lst xs)) (hl : ns.length ≤ 63) (hs : RoL K H a (ns.map V.int)) :
    codeAny (model P w) callerA (.call (.ref fa) ⟨[.ref a], []⟩) (fun r s' => r = .ok (.ret (.bool true)) ∧ OldK s₁.heap s'.heap ∧ s'.os = s₁.os ∧ AllBare s'.gens) s₁ := by
  have e0 : Env0 P w K mg (hidT s₁.heap H) callerA [] s₁ H := ⟨rfl, M, fun b o e => of_hidT e, Nat.le_of_eq (hidT_size _ _), trivial, fun b z => absurd (show b ∈ ([] : List Addr) from z) (by simp), ok, .of_eq hg⟩
  have S : StoR K H [] [] := ⟨rfl, by simp, fun j p z => by simp at z⟩
  have sp : spOf K spLaw [.ref a] H (fun v _ => v = .bl true) E0 := by
    refine ⟨[], [.d (.rol (ns.map D.int))], [], fun u _ => u = .d (.bl true), repWs.cons ?_ rfl, S, ⟨ns, rfl, hl, fun _ => rfl⟩, fun u τ' hu v μ' H' _ _ r => ?_⟩
    · show rep K H (.rol (ns.map D.int)) (.ref a)
      unfold rep
      exact ⟨a, _, rfl, hs, reps.of_ints⟩
    · subst hu
      exact repW_bl r
  refine codeAny_mono (F.go callerA [] s₁ H ⟨[.ref a], []⟩ [.ref a] [.ref a] _ _ hr rfl e0 hb (.cons rfl .nil) sp) fun r s' h => ?_
  match r, h with
  | .ok (.ret u), ⟨v, H', os, bare, un, ok', rv, q⟩ =>
    subst q
    obtain rfl : u = Value.bool true := rv
    refine ⟨rfl, OldK.of_keep fun b o e => ?_, os, bare⟩
    cases q : H b with
    | none => exact un.keep b o e q (by intro z; exact absurd (show b ∈ ([] : List Addr) from z) (by simp)) (by simp)
    | some u =>
      obtain ⟨ob, xs, rfl⟩ := only b u q
      have e1 := (ok b _ q).1
      have e2 := (ok' b _ (un.frzs b ob _ q)).1
      exact e2.trans (e1.symm.trans e)
  | .ok .next, h => exact False.elim h
  | .ok .brk, h => exact False.elim h
  | .ok .cont, h => exact False.elim h
  | .error e, h => exact False.elim h
theorem law_run (KX : K.In s₁.heap) (hns : s₁.heap.Ns mainGlobals mg) (hbl : s₁.heap.Ns builtinsNs mb) (hbb : ∀ y : Str, y ≠ "__name__" → mb y = bootBuiltins y) (hlim : s₁.heap.NoLimit) (hg : s₁.gens = #[])
    (ha : s₁.heap.get? a = some { cls := .type "list", data := .seq vs.toArray }) (hi : IntsAre vs ns) (hl : ns.length ≤ 63) (hr : Room k callerA)
    (F : ∀ base : Heap, K.In base → base.Ns mainGlobals mg → FnG P w K mg base k fa fd [x] (spOf K spLaw)) (hb : ∀ (s : Shared) (u : Value), BindsTo s fd ⟨[u], []⟩ [(x, u)]) :
    codeAny (model P w) callerA (.call (.ref fa) ⟨[.ref a], []⟩) (fun r s' => r = .ok (.ret (.bool true)) ∧ OldK s₁.heap s'.heap ∧ s'.os = s₁.os ∧ AllBare s'.gens) s₁ := by
  have rv := vals_ints hi
  have lenV := hi.length
  have line := line_of (n := ns.length) (by omega)
  have lists : ∀ {H : Hp} {b : Addr} {m : Str → Option Value}, (∀ c, H c ≠ none → c = a) → s₁.heap.Ns b m → (hidT s₁.heap H).Ns b m := fun {H b m} hA ⟨o, es, ep, e, d, r⟩ => by
    refine ⟨o, es, ep, hidT_get e ?_, d, r⟩
    cases q : H b with
    | none => rfl
    | some u =>
      have z : b = a := hA b (by rw [q]; exact Option.some_ne_none u)
      rw [z, ha] at e
      cases e
      cases d
  have md : ∀ {H : Hp}, (∀ c, H c ≠ none → c = a) → (H a ≠ none → K.lookup a = none) → Mod K mg (hidT s₁.heap H) := fun {H} hA hK => by
    refine ⟨fun b o e => hidT_get (KX b o e) ?_, lists hA hns, ⟨mb, lists hA hbl, hbb⟩, ?_⟩
    · cases q : H b with
      | none => rfl
      | some u =>
        have z : b = a := hA b (by rw [q]; exact Option.some_ne_none u)
        subst z
        rw [hK (by rw [q]; exact Option.some_ne_none u)] at e
        cases e
    · obtain ⟨mc, h1, h2⟩ := hlim
      exact ⟨mc, lists hA h1, h2⟩
  cases hk : K.lookup a with
  | some o =>
    have e := (KX a o hk).symm.trans ha
    cases e
    have hA : ∀ c, (fun _ => none : Hp) c ≠ none → c = a := fun c z => absurd rfl z
    have M := md (H := fun _ => none) hA fun z => absurd rfl z
    refine law_from (H := fun _ => none) M (F _ M.kin M.glob) hr (hb _ _) hg (fun b u z => by cases z) (fun b u z => by cases z) hl (.inr (.inr ⟨_, vs.toArray, _, hk, rfl, rfl, rfl, ?_, ?_⟩))
    · rw [List.size_toArray, lenV]
      exact line
    · rw [List.toList_toArray]
      exact rv
  | none =>
    let ob : Obj := { cls := .type "list", data := .seq vs.toArray }
    let H : Hp := fun b => if b = a then some (.frz ob (.lst (ns.map V.int))) else none
    have Ha : H a = some (.frz ob (.lst (ns.map V.int))) := if_pos rfl
    have hA : ∀ c, H c ≠ none → c = a := fun c z => by
      by_cases h : c = a
      · exact h
      · exact absurd (if_neg h) z
    have M := md hA fun _ => hk
    refine law_from M (F _ M.kin M.glob) hr (hb _ _) hg (fun b u z => ?_) (fun b u z => ?_) hl (.inl ⟨ob, Ha⟩)
    · have e := hA b (by rw [z]; exact Option.some_ne_none u)
      subst e
      rw [Ha] at z
      cases z
      exact ⟨ha, by rw [List.length_map]; exact line, vs, _, rv, ha⟩
    · have e := hA b (by rw [z]; exact Option.some_ne_none u)
      subst e
      rw [Ha] at z
      cases z
      exact ⟨_, _, rfl⟩
end
/-- the goal that k_head leaves -/
theorem walk_law {l : PySem.W.OpenLaw} {k : Nat} {q : Program} {loose : List Str} {XP : (Str → Option Value) → Heap → Prop} {YP : World → Heap → Prop} {d : DefRec} {K : Params → PySem.W.Frag} {x : Str} {st : Stmt}
    (hn : l.most = some 63) (hdf : d.params.defaults = []) (hr : Room k callerA) (hY : ∀ (w : World) (h : Heap), YP w h → (K w.params).In h)
    (F : ∀ (w : World) (mg : Str → Option Value) (h : Heap), (K w.params).In h → h.Ns mainGlobals mg → ∃ f fd, mg d.name = some (.ref f) ∧ (∀ (s : Shared) (u : Value), BindsTo s fd ⟨[u], []⟩ [(x, u)]) ∧
        ∀ base : Heap, (K w.params).In base → base.Ns mainGlobals mg → FnG l.prog w (K w.params) mg base k f fd [x] (spOf (K w.params) spLaw)) :
    PySem.W.WalkO q loose XP YP l.row.toRowW d [] (fun f vs => PySem.call f vs) := by
  refine Att.attach_call hn hdf fun w s₀ s₁ mg mb fa o pm cd doc a vs ns G Y ho hd hcd hmg hobj hints hlen hg => ?_
  have KX := hY w _ Y
  obtain ⟨f, fd, h1, h2, h3⟩ := F w mg _ KX G.T.g
  have e := h1.symm.trans hmg
  cases e
  exact law_run KX G.T.g G.T.b G.T.builtins G.T.nolimit hg hobj hints hlen hr h3 h2
end DL

namespace DL
open PySem PySem.Spec PyProof.Rows L2
/-! ## one rule for tuples and lists -/
theorem OpR.or {X : Cx} {f : Value → Value → Sem Value} {r r' : R2} (h : OpR X f r) (h' : OpR X f r') : OpR X f (fun x y H Q => r x y H Q ∨ r' x y H Q) := by
  intro pins s σ H x y v u Q I rx ry q
  rcases q with q | q
  · exact h pins s σ H x y v u Q I rx ry q
  · exact h' pins s σ H x y v u Q I rx ry q
theorem IxR.or {X : Cx} {r r' : R2} (h : IxR X r) (h' : IxR X r') : IxR X (fun x y H Q => r x y H Q ∨ r' x y H Q) := by
  intro value slice pins s σ H x y v u Q I rx ry q hs
  rcases q with q | q
  · exact h value slice pins s σ H x y v u Q I rx ry q hs
  · exact h' value slice pins s σ H x y v u Q I rx ry q hs
theorem OpL.or {K : PySem.W.Frag} {r r' : R2} {q q' : W → W → Sto → XK1 → Prop} (h : OpL K r q) (h' : OpL K r' q') : OpL K (fun x y H Q => r x y H Q ∨ r' x y H Q) (fun x y τ R => q x y τ R ∨ q' x y τ R) := by
  intro H μ τ x y vx vy R Q S rx ry hq k
  rcases hq with hq | hq
  · exact .inl (h S rx ry hq k)
  · exact .inr (h' S rx ry hq k)
theorem OpL.imp {K : PySem.W.Frag} {r : R2} {q q' : W → W → Sto → XK1 → Prop} (h : OpL K r q) (i : ∀ x y τ R, q' x y τ R → q x y τ R) : OpL K r q' := by
  intro H μ τ x y vx vy R Q S rx ry hq k
  exact h S rx ry (i _ _ _ _ hq) k
def qIxU : W → W → Sto → XK1 → Prop
  | .d (.tup xs), .d (.int i), τ, R => ∃ d, ixD xs i = some d ∧ R (.d d) τ
  | .d (.rol xs), .d (.int i), τ, R => ∃ d, ixD xs i = some d ∧ R (.d d) τ
  | .l k, .d (.int i), τ, R => ∃ xs d, τ[k]? = some xs ∧ ixD xs i = some d ∧ R (.d d) τ
  | _, _, _, _ => False
def qAddU : W → W → Sto → XK1 → Prop
  | .d (.int i), .d (.int j), τ, R => R (.d (.int (i + j))) τ
  | .d (.tup xs), .d (.tup ys), τ, R => xs.length + ys.length ≤ 1000000 ∧ R (.d (.tup (xs ++ ys))) τ
  | .l i, .l j, τ, R => ∃ xs ys, τ[i]? = some xs ∧ τ[j]? = some ys ∧ xs.length + ys.length ≤ 1000000 ∧ R (.l τ.length) (τ ++ [xs ++ ys])
  | _, _, _, _ => False
def qEqU (f : Bool → Bool) : W → W → Sto → XK1 → Prop
  | .d (.int i), .d (.int j), τ, R => R (.d (.bl (f (decide (i = j))))) τ
  | .d (.str i), .d (.str j), τ, R => R (.d (.bl (f (decide (i = j))))) τ
  | .d (.bl i), .d (.bl j), τ, R => R (.d (.bl (f (decide (i = j))))) τ
  | x, y, τ, R => qEqD f x y τ R
section
variable {X : Cx} {a b e : Expr} {ta tb te : XE} {pos p2 : Pos} {n : Nat}
theorem opl_ixU {K : PySem.W.Frag} : OpL K (fun x y H Q => rIxT K x y H Q ∨ rIxL K x y H Q) qIxU := OpL.imp (OpL.or opl_ix opl_ixL) fun x y τ R h => by
  unfold qIxU at h
  split at h
  · exact .inl h
  · exact .inr h
  · exact .inr h
  · exact h.elim
theorem d_ix2 (ha : DE X a ta) (hb : DE X b tb) (hs : PlainIx b := by exact fun _ _ => rfl) : DE X (.Subscript a b pos) (xOp qIxU ta tb) := d_ix (ix_tup.or ix_list) opl_ixU ha hb hs
theorem opl_addU {K : PySem.W.Frag} : OpL K (fun x y H Q => (rI0 (fun i j => .int (i + j)) x y H Q ∨ rCatA K x y H Q) ∨ rCat x y H Q) qAddU := OpL.imp (OpL.or (OpL.or (opl_I0 (g := fun i j => .int (i + j)) fun _ _ _ => rep_int) opl_catT) opl_catL) fun x y τ R h => by
  unfold qAddU at h
  split at h
  · exact .inl (.inl h)
  · exact .inl (.inr h)
  · exact .inr h
  · exact h.elim
theorem d_add2 (ha : DE X a ta) (hb : DE X b tb) : DE X (.BinOp a .Add b pos) (xOp qAddU ta tb) := d_op (OpR.or (OpR.or op_add op_catA) op_cat) opl_addU ha hb
theorem opl_eqU {K : PySem.W.Frag} : OpL K (fun x y H Q => rEq x y H Q ∨ rEqD K x y H Q) (qEqU id) := OpL.imp (OpL.or opl_eq opl_eqD) fun x y τ R h => by
  unfold qEqU at h
  split at h
  · exact .inl h
  · exact .inl h
  · exact .inl h
  · exact .inr h
theorem opl_neU {K : PySem.W.Frag} : OpL K (fun x y H Q => rNe x y H Q ∨ rNeD K x y H Q) (qEqU not) := OpL.imp (OpL.or opl_ne opl_neD) fun x y τ R h => by
  unfold qEqU at h
  split at h
  · exact .inl h
  · exact .inl h
  · exact .inl h
  · exact .inr h
theorem d_eq2 (hr : Room n X.A) (ha : DE X a ta) (hb : DE X b tb) : DE X (.Compare a [.Eq] [b] pos) (xOp (qEqU id) ta tb) := d_cmp (op_eq.or (op_eqD hr.units)) opl_eqU ha hb (nomark _)
theorem d_ne2 (hr : Room n X.A) (ha : DE X a ta) (hb : DE X b tb) : DE X (.Compare a [.NotEq] [b] pos) (xOp (qEqU not) ta tb) := d_cmp (op_ne.or (op_neD hr.units)) opl_neU ha hb (nomark _)
theorem t_eq2 (hr : Room n X.A) (ha : DE X a ta) (hb : DE X b tb) : DT X (.Compare a [.Eq] [b] pos) (xTB (xOp (qEqU id) ta tb)) := t_cmp (op_eq.or (op_eqD hr.units)) opl_eqU ha hb (nomark _)
theorem t_ne2 (hr : Room n X.A) (ha : DE X a ta) (hb : DE X b tb) : DT X (.Compare a [.NotEq] [b] pos) (xTB (xOp (qEqU not) ta tb)) := t_cmp (op_ne.or (op_neD hr.units)) opl_neU ha hb (nomark _)
end
/-! ## defs of the text, module names -/
/-- the def x of the text stands behind mg and binds its parameters by place -/
structure Here (K : PySem.W.Frag) (mg : Str → Option Value) (x : Str) (ps : List Str) (st : Stmt) : Prop where
  ex : ∃ f fd, Cal K mg x f fd ps ∧ Fun K x x st f fd
section
variable {K : PySem.W.Frag} {mg : Str → Option Value} {h : Heap}
theorem here_mk {x : Str} {ps : List Str} {st : Stmt} {f : Addr} {oc : Value} {od an : Option Addr} {osl : Array (Option Value)} {kV doc pm cdv ct : Value}
    (X : K.In h) (G : h.Ns mainGlobals mg)
    (a : PySem.W.nsIn K mainGlobals x = some (some (.ref f)))
    (l : K.lookup f = some ⟨oc, od, .func (PySem.W.fnOf x x (defArgs st) (defBody st) (defScope st) .none kV doc pm an cdv ct), osl⟩)
    (c : PySem.W.codeIn K cdv x = true) (k : PySem.W.keepIn K (.ref f) = true)
    (b : ∀ (kV doc pm : Value) (an : Option Addr) (cdv ct : Value) (us : List Value), us.length = ps.length → bindArgs (PySem.W.fnOf x x (defArgs st) (defBody st) (defScope st) .none kV doc pm an cdv ct) ⟨us, []⟩ = pure (ps.zip us)) : Here K mg x ps st :=
  ⟨f, _, ⟨PySem.W.mg_of X G a, k, fun s us hl => .of_eq (b _ _ _ _ _ _ us hl)⟩, fun_mk l c k⟩
end
/-- a def whose body is a term of rules with a reading t; the reading is read apart -/
theorem def_mk {P : Program} {w : World} {K : PySem.W.Frag} {mg : Str → Option Value} {base : Heap} {k : Nat} {N ps : List Str} {x : Str} {st : Stmt} {sp : Spx} {t : XS} (D : Here K mg x ps st) (sc : FnScope N ps (defScope st))
    (rd : ∀ ws τ R, sp ws τ R → ws.length = ps.length ∧ t { nx := fun _ τ' => R (.d .non) τ', rt := R } (startD N ws) τ)
    (body : ∀ f (cdv : Value) (A : Around) (outer : List PySem.Env) (s : Shared) (H : Hp) (E : XK), Room k (A.deeper (envOfC x (defScope st) s.heap.objs.size f cdv)) → A.guards = some [] →
      DSs (cxOf CX0 P w K mg base N x (defScope st) f cdv A outer s H E).nox (defBody st) t) : DefOk P w K mg base (k + 1) x ps st sp := by
  obtain ⟨f, fd, C, F⟩ := D.ex
  exact def_ok F C sc (fun ws τ R h => (rd ws τ R h).1) fun cdv A outer s H E hr hG => ⟨t, body f cdv A outer s H E hr hG, fun ws τ R h => (rd ws τ R h).2⟩
/-- all names that the rules ask the module not to hide -/
structure BI (mg : Str → Option Value) : Prop where
  nLen : mg "len" = none
  nAbs : mg "abs" = none
  nMax : mg "max" = none
  nMin : mg "min" = none
  nInt : mg "int" = none
  nDivmod : mg "divmod" = none
  nSum : mg "sum" = none
  nAll : mg "all" = none
  nAny : mg "any" = none
  nTuple : mg "tuple" = none
  nList : mg "list" = none
  nSorted : mg "sorted" = none
  nRepr : mg "repr" = none
  nIsi : mg "isinstance" = none
  nRange : mg "range" = none
  nEnum : mg "enumerate" = none
  nZip : mg "zip" = none
  nBool : mg "bool" = none
  nStr : mg "str" = none
theorem bi_mk {K : PySem.W.Frag} {mg : Str → Option Value} {h : Heap} (X : K.In h) (G : h.Ns mainGlobals mg)
    (hh : (["len", "abs", "max", "min", "int", "divmod", "sum", "all", "any", "tuple", "list", "sorted", "repr", "isinstance", "range", "enumerate", "zip", "bool", "str"] : List Str).all (fun n => match PySem.W.nsIn K mainGlobals n with | some none => true | _ => false) = true) : BI mg := by
  have go : ∀ n ∈ (["len", "abs", "max", "min", "int", "divmod", "sum", "all", "any", "tuple", "list", "sorted", "repr", "isinstance", "range", "enumerate", "zip", "bool", "str"] : List Str), mg n = none := fun n hn => by
    have := List.all_eq_true.mp hh n hn
    refine PySem.W.mg_none_of X G ?_
    split at this
    · assumption
    · cases this
  exact ⟨go _ (by simp), go _ (by simp), go _ (by simp), go _ (by simp), go _ (by simp), go _ (by simp), go _ (by simp), go _ (by simp), go _ (by simp), go _ (by simp), go _ (by simp), go _ (by simp), go _ (by simp), go _ (by simp), go _ (by simp), go _ (by simp), go _ (by simp), go _ (by simp), go _ (by simp)⟩
section
variable {K : PySem.W.Frag} {mg : Str → Option Value} {h : Heap}
theorem glob_int {x : Str} {i : Int} {t : Tok} (X : K.In h) (G : h.Ns mainGlobals mg) (a : PySem.W.nsIn K mainGlobals x = some (some (.int i t))) : GlobD K mg x (.int i) := ⟨_, .int i, PySem.W.mg_of X G a, ⟨t, rfl⟩, rep_int⟩
theorem glob_str {x : Str} {i : Str} {t : Tok} (X : K.In h) (G : h.Ns mainGlobals mg) (a : PySem.W.nsIn K mainGlobals x = some (some (.str i t))) : GlobD K mg x (.str i) := ⟨_, .str i, PySem.W.mg_of X G a, ⟨t, rfl⟩, rep_str⟩
theorem glob_fn {x : Str} {n : String} (X : K.In h) (G : h.Ns mainGlobals mg) (a : PySem.W.nsIn K mainGlobals x = some (some (.builtin n))) : mg x = some (.builtin n) := PySem.W.mg_of X G a
end
theorem named_of {K : PySem.W.Frag} {x : Str} {st : Stmt} {f : Addr} {fd : FuncData} {ps ks : List Str} {o : List Nat} (F : Fun K x x st f fd)
    (h : ∀ (kV doc pm : Value) (an : Option Addr) (cdv ct : Value) (us : List Value), us.length = ks.length → bindArgs (PySem.W.fnOf x x (defArgs st) (defBody st) (defScope st) .none kV doc pm an cdv ct) ⟨[], ks.zip us⟩ = pure (ps.zip (ordered o us))) : Named fd ps ks o := by
  obtain ⟨oc, od, kV, doc, pm, an, cdv, ct, osl, rfl, lk, hcd⟩ := F.ex
  exact fun s us hl => .of_eq (h _ _ _ _ _ _ us hl)
theorem law_of {P : Program} {w : World} {K : PySem.W.Frag} {mg : Str → Option Value} {k : Nat} {x y : Str} {st : Stmt} {sp : Spx} (D : Here K mg x [y] st) (F : ∀ base : Heap, DefOk P w K mg base k x [y] st sp) :
    ∃ f fd, mg x = some (.ref f) ∧ (∀ (s : Shared) (u : Value), BindsTo s fd ⟨[u], []⟩ [(y, u)]) ∧ ∀ base : Heap, K.In base → base.Ns mainGlobals mg → FnG P w K mg base k f fd [y] (spOf K sp) := by
  obtain ⟨f, fd, C, F0⟩ := D.ex
  refine ⟨f, fd, C.named, fun s u => C.plain s [u] rfl, fun base _ _ => ?_⟩
  obtain ⟨f', fd', G, C', F'⟩ := (F base).ex
  have e := C.named.symm.trans C'.named
  cases e
  obtain ⟨oc, od, kV, doc, pm, an, cdv, ct, osl, e1, lk, _⟩ := F0.ex
  obtain ⟨oc', od', kV', doc', pm', an', cdv', ct', osl', e2, lk', _⟩ := F'.ex
  have e := lk.symm.trans lk'
  cases e
  exact G
/-- a constant tuple of ints -/
theorem glob_ints {K : PySem.W.Frag} {mg : Str → Option Value} {h : Heap} {x : Str} {ns : List Int} {p : Addr} {od : Option Addr} {its : Array Value} {n : Nat} {sl : Array (Option Value)} (X : K.In h) (G : h.Ns mainGlobals mg)
    (a : PySem.W.nsIn K mainGlobals x = some (some (.ref p))) (l : K.lookup p = some ⟨.type "tuple", od, .seq its n, sl⟩) (hz : its.size ≤ 1000) (v : Vals (ns.map V.int) its.toList) : GlobD K mg x (.tup (ns.map D.int)) :=
  ⟨_, .ref p, PySem.W.mg_of X G a, rfl, by
    unfold rep
    exact ⟨p, _, rfl, .inr ⟨_, _, n, l, rfl, rfl, line_of (by omega), v⟩, reps.of_ints⟩⟩
end DL

namespace DL
open PySem PySem.Spec PyProof.Rows L2
/-! ## readings, step by step -/
section
variable {t u : XS} {O : XEnds} {ρ : DEnv} {τ : Sto} {R : XK1} {te ta tb tc : XE} {c c' : XT} {g : XG} {gs : List XG} {ts : List XE} {i j : Nat} {w w1 w2 w3 : W} {RT : Bool → Sto → Prop} {RA : List W → Sto → Prop} {RN : DEnv → Sto → Prop} {f : Bool → Bool} {a b : Int} {p q : Bool} {s s' : Str} {x y : D} {xs ys : List D} {ws : List W}
@[simp] theorem xSeq_ : xSeq t u O ρ τ = t { O with nx := u O } ρ τ := rfl
@[simp] theorem xAsg_ : xAsg te g O ρ τ = te ρ τ fun w τ1 => g w ρ τ1 O.nx := rfl
@[simp] theorem xNext_ : xNext O ρ τ = O.nx ρ τ := rfl
@[simp] theorem xBreak_ : xBreak O ρ τ = O.bk ρ τ := rfl
@[simp] theorem xCont_ : xCont O ρ τ = O.ct ρ τ := rfl
@[simp] theorem xNever_ : xNever O ρ τ = False := rfl
@[simp] theorem xRet_ : xRet te O ρ τ = te ρ τ O.rt := rfl
@[simp] theorem xRetN_ : xRetN O ρ τ = O.rt (.d .non) τ := rfl
@[simp] theorem xDrop_ : xDrop te O ρ τ = te ρ τ fun _ τ1 => O.nx ρ τ1 := rfl
@[simp] theorem xIfS_ : xIfS c t u O ρ τ = c ρ τ fun b τ1 => if b = true then t O ρ τ1 else u O ρ τ1 := rfl
@[simp] theorem xPar_ : xPar i j ta tb O ρ τ = ta ρ τ fun w τ1 => tb ρ τ1 fun u τ2 => O.nx ((ρ.set i (some w)).set j (some u)) τ2 := rfl
@[simp] theorem xFor_ {t : XI} {tb : XS} : xFor t g tb O ρ τ = t ρ τ fun xs G τ1 => forD G g tb xs O ρ τ1 := rfl
@[simp] theorem xgN_ : xgN i w ρ τ RN = RN (ρ.set i (some w)) τ := rfl
@[simp] theorem xgT_ : xgT gs (.d (.tup xs)) ρ τ RN = (match sameLen gs xs with | true => xgAll gs xs ρ τ RN | false => False) := rfl
@[simp] theorem sameLen_0 {α β : Type} : sameLen ([] : List α) ([] : List β) = true := rfl
@[simp] theorem sameLen_1 {α β : Type} {a : α} {b : β} {as : List α} {bs : List β} : sameLen (a :: as) (b :: bs) = sameLen as bs := rfl
@[simp] theorem xgAll_0 : xgAll [] [] ρ τ RN = RN ρ τ := rfl
@[simp] theorem xgAll_1 : xgAll (g :: gs) (x :: xs) ρ τ RN = g (.d x) ρ τ fun ρ1 τ1 => xgAll gs xs ρ1 τ1 RN := rfl
@[simp] theorem xgS_ {to ti : XE} : xgS to ti w ρ τ RN = to ρ τ fun o τ1 => ti ρ τ1 fun i τ2 => match o, i, w with
  | .l k, .d (.int j), .d x => ∃ xs, τ2[k]? = some xs ∧ (0 ≤ j ∧ j.toNat < xs.length) ∧ RN ρ (τ2.set k (xs.set j.toNat x))
  | _, _, _ => False := rfl
@[simp] theorem xVar_ : xVar i ρ τ R = match ρ[i]? with
  | some (some w) => R w τ
  | _ => False := rfl
@[simp] theorem xC_ : xC w ρ τ R = R w τ := rfl
@[simp] theorem xOp_ {q : W → W → Sto → XK1 → Prop} : xOp q ta tb ρ τ R = ta ρ τ fun x τ1 => tb ρ τ1 fun y τ2 => q x y τ2 R := rfl
@[simp] theorem xUn_ {q : W → Sto → XK1 → Prop} : xUn q ta ρ τ R = ta ρ τ fun x τ1 => q x τ1 R := rfl
@[simp] theorem xArgs_0 : xArgs [] ρ τ RA = RA [] τ := rfl
@[simp] theorem xArgs_1 : xArgs (te :: ts) ρ τ RA = te ρ τ fun w τ1 => xArgs ts ρ τ1 fun ws τ2 => RA (w :: ws) τ2 := rfl
@[simp] theorem xCall_ {sp : Spx} : xCall sp ts ρ τ R = xArgs ts ρ τ fun ws τ1 => callL sp ws τ1 R := rfl
@[simp] theorem xCallK_ {sp : Spx} {g : List W → List W} : xCallK sp g ts ρ τ R = xArgs ts ρ τ fun ws τ1 => callL sp (g ws) τ1 R := rfl
@[simp] theorem xCB_ {q : XQ} : xCB q ts ρ τ R = xArgs ts ρ τ fun ws τ1 => q ws τ1 R := rfl
@[simp] theorem xTB_ : xTB te ρ τ RT = te ρ τ fun x τ1 => match x with
  | .d (.bl c) => RT c τ1
  | _ => False := rfl
@[simp] theorem xTAnd_ : xTAnd c c' ρ τ RT = c ρ τ fun b τ1 => if b = true then c' ρ τ1 RT else RT false τ1 := rfl
@[simp] theorem xTOr_ : xTOr c c' ρ τ RT = c ρ τ fun b τ1 => if b = true then RT true τ1 else c' ρ τ1 RT := rfl
@[simp] theorem xTNot_ : xTNot c ρ τ RT = c ρ τ fun b τ1 => RT (!b) τ1 := rfl
@[simp] theorem xAnd_ : xAnd ta tb ρ τ R = ta ρ τ fun x τ1 => match x with
  | .d (.bl c) => if c = true then tb ρ τ1 R else R (.d (.bl false)) τ1
  | _ => False := rfl
@[simp] theorem xOr_ : xOr ta tb ρ τ R = ta ρ τ fun x τ1 => match x with
  | .d (.bl c) => if c = true then R (.d (.bl true)) τ1 else tb ρ τ1 R
  | _ => False := rfl
@[simp] theorem xNot_ : xNot ta ρ τ R = ta ρ τ fun x τ1 => match x with
  | .d (.bl c) => R (.d (.bl (!c))) τ1
  | _ => False := rfl
@[simp] theorem xIf_ : xIf c ta tb ρ τ R = c ρ τ fun b τ1 => if b = true then ta ρ τ1 R else tb ρ τ1 R := rfl
@[simp] theorem xChain_ {q q' : W → W → Sto → XK1 → Prop} : xChain q q' ta tb tc ρ τ R = ta ρ τ fun x τ1 => tb ρ τ1 fun y τ2 => q x y τ2 fun z τ3 => match z with
  | .d (.bl k) => if k = true then tc ρ τ3 fun u τ4 => q' y u τ4 R else R (.d (.bl false)) τ3
  | _ => False := rfl
@[simp] theorem asDs_0 : asDs [] = some [] := rfl
@[simp] theorem asDs_1 : asDs (.d x :: ws) = match asDs ws with
    | some ds => some (x :: ds)
    | none => none := rfl
@[simp] theorem xTup_ : xTup ts ρ τ R = xArgs ts ρ τ fun ws τ1 => match asDs ws with
  | some ds => R (.d (.tup ds)) τ1
  | none => False := rfl
@[simp] theorem xLst_ : xLst ts ρ τ R = xArgs ts ρ τ fun ws τ1 => match asDs ws with
  | some ds => R (.l τ1.length) (τ1 ++ [ds])
  | none => False := rfl
@[simp] theorem qI_ {C : Int → Int → Prop} {g : Int → Int → D} : qI C g (.d (.int a)) (.d (.int b)) τ R = (C a b ∧ R (.d (g a b)) τ) := rfl
@[simp] theorem qI0_ {g : Int → Int → D} : qI0 g (.d (.int a)) (.d (.int b)) τ R = R (.d (g a b)) τ := rfl
@[simp] theorem qNeg_ : qNeg (.d (.int a)) τ R = R (.d (.int (-a))) τ := rfl
@[simp] theorem qAddU_i : qAddU (.d (.int a)) (.d (.int b)) τ R = R (.d (.int (a + b))) τ := rfl
@[simp] theorem qAddU_t : qAddU (.d (.tup xs)) (.d (.tup ys)) τ R = (xs.length + ys.length ≤ 1000000 ∧ R (.d (.tup (xs ++ ys))) τ) := rfl
@[simp] theorem qAddU_l : qAddU (.l i) (.l j) τ R = ∃ xs ys, τ[i]? = some xs ∧ τ[j]? = some ys ∧ xs.length + ys.length ≤ 1000000 ∧ R (.l τ.length) (τ ++ [xs ++ ys]) := rfl
@[simp] theorem qIxU_t : qIxU (.d (.tup xs)) (.d (.int a)) τ R = ∃ d, ixD xs a = some d ∧ R (.d d) τ := rfl
@[simp] theorem qIxU_r : qIxU (.d (.rol xs)) (.d (.int a)) τ R = ∃ d, ixD xs a = some d ∧ R (.d d) τ := rfl
@[simp] theorem qIxU_l : qIxU (.l i) (.d (.int a)) τ R = ∃ xs d, τ[i]? = some xs ∧ ixD xs a = some d ∧ R (.d d) τ := rfl
@[simp] theorem qEqU_i : qEqU f (.d (.int a)) (.d (.int b)) τ R = R (.d (.bl (f (decide (a = b))))) τ := rfl
@[simp] theorem qEqU_s : qEqU f (.d (.str s)) (.d (.str s')) τ R = R (.d (.bl (f (decide (s = s'))))) τ := rfl
@[simp] theorem qEqU_b : qEqU f (.d (.bl p)) (.d (.bl q)) τ R = R (.d (.bl (f (decide (p = q))))) τ := rfl
@[simp] theorem qEqU_t : qEqU f (.d (.tup xs)) (.d (.tup ys)) τ R = qEqD f (.d (.tup xs)) (.d (.tup ys)) τ R := rfl
@[simp] theorem qEqU_l : qEqU f (.l i) (.l j) τ R = qEqD f (.l i) (.l j) τ R := rfl
@[simp] theorem qIsN_n : qIsN f (.d .non) (.d .non) τ R = R (.d (.bl (f true))) τ := rfl
@[simp] theorem qIsN_i : qIsN f (.d (.int a)) (.d .non) τ R = R (.d (.bl (f false))) τ := rfl
@[simp] theorem qIsN_t : qIsN f (.d (.tup xs)) (.d .non) τ R = R (.d (.bl (f false))) τ := rfl
@[simp] theorem qIsN_l : qIsN f (.l i) (.d .non) τ R = R (.d (.bl (f false))) τ := rfl
@[simp] theorem qIsB_ : qIsB f (.d (.bl p)) (.d (.bl q)) τ R = R (.d (.bl (f (decide (p = q))))) τ := rfl
@[simp] theorem qInT_s : qInT f (.d (.str s)) (.d (.tup xs)) τ R = ∃ zs : List Str, xs = zs.map D.str ∧ R (.d (.bl (f (decide (s ∈ zs))))) τ := rfl
@[simp] theorem qLen_t : qLen [.d (.tup xs)] τ R = R (.d (.int (xs.length : Nat))) τ := rfl
@[simp] theorem qLen_r : qLen [.d (.rol xs)] τ R = R (.d (.int (xs.length : Nat))) τ := rfl
@[simp] theorem qLen_l : qLen [.l i] τ R = ∃ xs, τ[i]? = some xs ∧ R (.d (.int (xs.length : Nat))) τ := rfl
@[simp] theorem qAbs_ : qAbs [.d (.int a)] τ R = R (.d (.int (if a < 0 then -a else a))) τ := rfl
@[simp] theorem qMax2_ : qMax2 [.d (.int a), .d (.int b)] τ R = R (.d (.int (if b > a then b else a))) τ := rfl
@[simp] theorem qMin2_ : qMin2 [.d (.int a), .d (.int b)] τ R = R (.d (.int (if b < a then b else a))) τ := rfl
@[simp] theorem qInt_ : qInt [.d (.int a)] τ R = R (.d (.int a)) τ := rfl
@[simp] theorem qGcd_ : qGcd [.d (.int a), .d (.int b)] τ R = R (.d (.int (Nat.gcd a.natAbs b.natAbs : Nat))) τ := rfl
@[simp] theorem qDivmod_ : qDivmod [.d (.int a), .d (.int b)] τ R = (CDiv a b ∧ R (.d (.tup [.int (a / b), .int (a % b)])) τ) := rfl
@[simp] theorem qTuple_t : qTuple [.d (.tup xs)] τ R = R (.d (.tup xs)) τ := rfl
@[simp] theorem qTuple_l : qTuple [.l i] τ R = ∃ xs, τ[i]? = some xs ∧ R (.d (.tup xs)) τ := rfl
@[simp] theorem qAll_ : qAll [.l i] τ R = ∃ bs : List Bool, τ[i]? = some (bs.map D.bl) ∧ R (.d (.bl (bs.all id))) τ := rfl
@[simp] theorem qIsiT_ {T n : String} {h : W → Option Bool} : qIsiT T h [w, .ty n] τ R = (n = T ∧ ∃ b, h w = some b ∧ R (.d (.bl b)) τ) := rfl
@[simp] theorem isIntW_i : isIntW (.d (.int a)) = some true := rfl
@[simp] theorem isBoolW_i : isBoolW (.d (.int a)) = some false := rfl
@[simp] theorem isTupW_t : isTupW (.d (.tup xs)) = some true := rfl
@[simp] theorem isStrW_s : isStrW (.d (.str s)) = some true := rfl
@[simp] theorem xMt_ {q : Nat → List W → Sto → XK1 → Prop} {to : XE} : xMt q to ts ρ τ R = to ρ τ fun o τ1 => match o with
  | .l k => xArgs ts ρ τ1 fun ws τ2 => q k ws τ2 R
  | _ => False := rfl
@[simp] theorem qAppend_ : qAppend i [.d x] τ R = ∃ xs, τ[i]? = some xs ∧ xs.length < 1000000 ∧ R (.d .non) (τ.set i (xs ++ [x])) := rfl
@[simp] theorem qPopAt_ : qPopAt i [.d (.int a)] τ R = ∃ xs d, τ[i]? = some xs ∧ (0 ≤ a ∧ a.toNat < 1000000) ∧ xs[a.toNat]? = some d ∧ R (.d d) (τ.set i (xs.eraseIdx a.toNat)) := rfl
@[simp] theorem xNoPart_ {RO : Option Int → Sto → Prop} : xNoPart ρ τ RO = RO none τ := rfl
@[simp] theorem xPart_ {RO : Option Int → Sto → Prop} : xPart te ρ τ RO = te ρ τ fun x τ1 => match x with
  | .d (.int i) => RO (some i) τ1
  | _ => False := rfl
@[simp] theorem xSlT_ {tl th : XO} : xSlT te tl th ρ τ R = te ρ τ fun x τ1 => tl ρ τ1 fun lo τ2 => th ρ τ2 fun hi τ3 => match x with
  | .d (.tup xs) => R (.d (.tup (cutD xs lo hi))) τ3
  | _ => False := rfl
@[simp] theorem xSlL_ {tl th : XO} : xSlL te tl th ρ τ R = te ρ τ fun x τ1 => tl ρ τ1 fun lo τ2 => th ρ τ2 fun hi τ3 => match x with
  | .l k => ∃ xs, τ3[k]? = some xs ∧ R (.l τ3.length) (τ3 ++ [cutD xs lo hi])
  | .d (.rol xs) => R (.l τ3.length) (τ3 ++ [cutD xs lo hi])
  | _ => False := rfl
@[simp] theorem xiT_ {RI : List D → (Sto → Prop) → Sto → Prop} : xiT te ρ τ RI = te ρ τ fun w τ1 => match w with
  | .d (.tup xs) => RI xs (fun _ => True) τ1
  | _ => False := rfl
@[simp] theorem xiL_ {RI : List D → (Sto → Prop) → Sto → Prop} : xiL te ρ τ RI = te ρ τ fun w τ1 => match w with
  | .l k => ∃ xs, τ1[k]? = some xs ∧ RI xs (fun τ => τ[k]? = some xs) τ1
  | .d (.rol xs) => RI xs (fun _ => True) τ1
  | _ => False := rfl
@[simp] theorem xiR1_ {RI : List D → (Sto → Prop) → Sto → Prop} : xiR1 [te] ρ τ RI = te ρ τ fun w τ1 => match w with
  | .d (.int n) => small62 n ∧ RI (intsBy 1 0 n.toNat) (fun _ => True) τ1
  | _ => False := by
  unfold xiR1
  simp only [xArgs_1, xArgs_0]
  congr
  funext w τ1
  cases w with
  | d x => cases x <;> rfl
  | l k => rfl
  | ty n => rfl
@[simp] theorem xiR2_ {RI : List D → (Sto → Prop) → Sto → Prop} : xiR2 [ta, tb] ρ τ RI = ta ρ τ fun w τ1 => tb ρ τ1 fun u τ2 => match w, u with
  | .d (.int i), .d (.int j) => (small62 i ∧ small62 j) ∧ RI (intsBy 1 i (j - i).toNat) (fun _ => True) τ2
  | _, _ => False := by
  unfold xiR2
  simp only [xArgs_1, xArgs_0]
  congr
  funext w τ1
  congr
  funext u τ2
  cases w with
  | d x => cases x <;> first | rfl | (cases u with | d y => cases y <;> rfl | l k => rfl | ty n => rfl)
  | l k => rfl
  | ty n => rfl
@[simp] theorem xiR3_ {RI : List D → (Sto → Prop) → Sto → Prop} : xiR3 ts ρ τ RI = xArgs ts ρ τ fun ws τ1 => match ws with
  | [.d (.int i), .d (.int j), .d (.int c)] => c = -1 ∧ (small62 i ∧ small62 j) ∧ RI (intsBy (-1) i (i - j).toNat) (fun _ => True) τ1
  | _ => False := rfl
@[simp] theorem xiET_ {RI : List D → (Sto → Prop) → Sto → Prop} : xiET ts ρ τ RI = xArgs ts ρ τ fun ws τ1 => match ws with
  | [.d (.tup xs)] => RI (enumD 0 xs) (fun _ => True) τ1
  | _ => False := rfl
@[simp] theorem xiZT_ {RI : List D → (Sto → Prop) → Sto → Prop} : xiZT ts ρ τ RI = xArgs ts ρ τ fun ws τ1 => match ws with
  | [.d (.tup xs), .d (.tup ys)] => RI (zipD xs ys) (fun _ => True) τ1
  | _ => False := rfl
@[simp] theorem xLc_ {t : XI} {tg : Tg} {vs : List Nat} : xLc t tg c te vs ρ τ R = t ρ τ fun xs G τ1 => xs.length ≤ 1000000 ∧ compD G tg c te vs xs [] ρ τ1 R := rfl
@[simp] theorem xYes_ : xYes ρ τ RT = RT true τ := rfl
@[simp] theorem xListRng_ : xListRng ts ρ τ R = xArgs ts ρ τ fun ws τ1 => match ws with
  | [.d (.int i), .d (.int j)] => (small62 i ∧ small62 j) ∧ (j - i).toNat ≤ 1000000 ∧ R (.l τ1.length) (τ1 ++ [intsR i (j - i).toNat])
  | _ => False := rfl
@[simp] theorem xSortRev_ {ks : List XE} : xSortRev ts ks ρ τ R = xArgs ts ρ τ fun ws τ1 => xArgs ks ρ τ1 fun us τ2 => match ws, us with
  | [.l k], [.d (.bl true)] => ∃ ns : List Int, τ2[k]? = some (ns.map D.int) ∧ ∀ ns' : List Int, ns'.Perm ns → ns'.Pairwise (· ≥ ·) → R (.l τ2.length) (τ2 ++ [ns'.map D.int])
  | _, _ => False := rfl
@[simp] theorem ixD_0 : ixD (x :: xs) 0 = some x := rfl
@[simp] theorem ixD_1 {x1 : D} : ixD (x :: x1 :: xs) 1 = some x1 := rfl
@[simp] theorem ixD_2 {x1 x2 : D} : ixD (x :: x1 :: x2 :: xs) 2 = some x2 := rfl
@[simp] theorem ixD_3 {x1 x2 x3 : D} : ixD (x :: x1 :: x2 :: x3 :: xs) 3 = some x3 := rfl
theorem ixD_nat {n : Nat} : ixD xs (n : Nat) = xs[n]? := by
  unfold ixD
  rw [if_pos (Int.natCast_nonneg n), Int.toNat_natCast]
/-- a call with data alone; with the first list first; with some other list first -/
theorem callL_d1 {sp : Spx} : callL sp [.d x] τ R = sp [.d x] [] fun w τ' => R (globW [] τ.length w) (τ ++ τ') := by unfold callL; simp [refs, apart, locs, subS, backS]
theorem callL_d2 {sp : Spx} {x1 x2 : D} : callL sp [.d x1, .d x2] τ R = sp [.d x1, .d x2] [] fun w τ' => R (globW [] τ.length w) (τ ++ τ') := by unfold callL; simp [refs, apart, locs, subS, backS]
theorem callL_d3 {sp : Spx} {x1 x2 x3 : D} : callL sp [.d x1, .d x2, .d x3] τ R = sp [.d x1, .d x2, .d x3] [] fun w τ' => R (globW [] τ.length w) (τ ++ τ') := by unfold callL; simp [refs, apart, locs, subS, backS]
theorem callL_d4 {sp : Spx} {x1 x2 x3 x4 : D} : callL sp [.d x1, .d x2, .d x3, .d x4] τ R = sp [.d x1, .d x2, .d x3, .d x4] [] fun w τ' => R (globW [] τ.length w) (τ ++ τ') := by unfold callL; simp [refs, apart, locs, subS, backS]
theorem callL_l0 {sp : Spx} : callL sp [.l i] τ R = sp [.l 0] [τ.getD i []] fun w τ' => R (globW [i] τ.length w) (backS τ [i] τ') := by unfold callL; simp [refs, apart, locs, subS, backS]
theorem callL_l1 {sp : Spx} {x1 : D} : callL sp [.l i, .d x1] τ R = sp [.l 0, .d x1] [τ.getD i []] fun w τ' => R (globW [i] τ.length w) (backS τ [i] τ') := by unfold callL; simp [refs, apart, locs, subS, backS]
theorem callL_l2 {sp : Spx} {x1 x2 : D} : callL sp [.l i, .d x1, .d x2] τ R = sp [.l 0, .d x1, .d x2] [τ.getD i []] fun w τ' => R (globW [i] τ.length w) (backS τ [i] τ') := by unfold callL; simp [refs, apart, locs, subS, backS]
theorem callL_l3 {sp : Spx} {x1 x2 x3 : D} : callL sp [.l i, .d x1, .d x2, .d x3] τ R = sp [.l 0, .d x1, .d x2, .d x3] [τ.getD i []] fun w τ' => R (globW [i] τ.length w) (backS τ [i] τ') := by unfold callL; simp [refs, apart, locs, subS, backS]
@[simp] theorem globW_d {ks : List Nat} {n : Nat} : globW ks n (.d x) = .d x := rfl
@[simp] theorem backS_1 {xs : List D} {τ' : Sto} : backS (xs :: τ) [0] (ys :: τ') = ys :: (τ ++ τ') := by simp [backS]
end
/-! ### loops -/
/-- by the suffix left -/
theorem forD_ind {G : Sto → Prop} {g : XG} {tb : XS} {O : XEnds} (P : List D → DEnv → Sto → Prop) (hn : ∀ ρ τ, P [] ρ τ → G τ ∧ O.nx ρ τ)
    (hc : ∀ x xs ρ τ (L : DEnv → Sto → Prop), (∀ ρ' τ', P xs ρ' τ' → L ρ' τ') → P (x :: xs) ρ τ → G τ ∧ g (.d x) ρ τ fun ρ1 τ1 => tb { O with nx := fun ρ' τ' => L ρ' τ', ct := fun ρ' τ' => L ρ' τ', bk := O.nx } ρ1 τ1) :
    ∀ xs ρ τ, P xs ρ τ → forD G g tb xs O ρ τ
  | [], ρ, τ, h => hn ρ τ h
  | x :: xs, ρ, τ, h => hc x xs ρ τ (forD G g tb xs O) (forD_ind P hn hc xs) h
/-- by the index -/
theorem forD_ix {G : Sto → Prop} {g : XG} {tb : XS} {O : XEnds} (P : Nat → DEnv → Sto → Prop) : ∀ (xs : List D) (k : Nat) (ρ : DEnv) (τ : Sto), (∀ ρ τ, P (k + xs.length) ρ τ → G τ ∧ O.nx ρ τ) →
    (∀ i x ρ τ (L : DEnv → Sto → Prop), xs[i]? = some x → (∀ ρ' τ', P (k + i + 1) ρ' τ' → L ρ' τ') → P (k + i) ρ τ → G τ ∧ g (.d x) ρ τ fun ρ1 τ1 => tb { O with nx := fun ρ' τ' => L ρ' τ', ct := fun ρ' τ' => L ρ' τ', bk := O.nx } ρ1 τ1) →
    P k ρ τ → forD G g tb xs O ρ τ
  | [], k, ρ, τ, hn, _, h => hn ρ τ h
  | x :: xs, k, ρ, τ, hn, hc, h => hc 0 x ρ τ (forD G g tb xs O) rfl (fun ρ' τ' h' => forD_ix P xs (k + 1) ρ' τ' (fun ρ τ q => hn ρ τ (by rw [List.length_cons, show k + (xs.length + 1) = k + 1 + xs.length by omega]; exact q))
      (fun i y ρ τ L e hL q => hc (i + 1) y ρ τ L (by simpa using e) (fun ρ' τ' q' => hL ρ' τ' (by rw [show k + 1 + i + 1 = k + (i + 1) + 1 by omega]; exact q')) (by rw [show k + (i + 1) = k + 1 + i by omega]; exact q)) h') h
/-- for k in range(..): the k-th lap -/
theorem forR_ix {G : Sto → Prop} {g : XG} {tb : XS} {O : XEnds} {cc lo : Int} {n : Nat} {ρ : DEnv} {τ : Sto} (P : Nat → DEnv → Sto → Prop) (h0 : P 0 ρ τ)
    (hc : ∀ i ρ τ (L : DEnv → Sto → Prop), i < n → (∀ ρ' τ', P (i + 1) ρ' τ' → L ρ' τ') → P i ρ τ → G τ ∧ g (.d (.int (lo + (i : Nat) * cc))) ρ τ fun ρ1 τ1 => tb { O with nx := fun ρ' τ' => L ρ' τ', ct := fun ρ' τ' => L ρ' τ', bk := O.nx } ρ1 τ1)
    (hn : ∀ ρ τ, P n ρ τ → G τ ∧ O.nx ρ τ) : forD G g tb (intsBy cc lo n) O ρ τ := by
  refine forD_ix P (intsBy cc lo n) 0 ρ τ (fun ρ τ q => hn ρ τ (by rw [intsBy_length, Nat.zero_add] at q; exact q)) (fun i x ρ τ L e hL q => ?_) h0
  have hi : i < n := by
    have := (List.getElem?_eq_some_iff.mp e).1
    rw [intsBy_length] at this
    exact this
  rw [intsBy_get cc lo n i hi] at e
  cases e
  exact hc i ρ τ L hi (fun ρ' τ' q' => hL ρ' τ' (by rw [Nat.zero_add]; exact q')) (by rw [Nat.zero_add] at q; exact q)
/-- a while by a measure -/
theorem while_ind {c : XT} {tb : XS} {O : XEnds} (P : Nat → DEnv → Sto → Prop)
    (hc : ∀ m ρ τ (L : DEnv → Sto → Prop), (∀ m' ρ' τ', m' < m → P m' ρ' τ' → L ρ' τ') → P m ρ τ → c ρ τ fun b τ1 => if b = true then tb { O with nx := fun ρ' τ' => L ρ' τ', ct := fun ρ' τ' => L ρ' τ', bk := O.nx } ρ τ1 else O.nx ρ τ1) :
    ∀ m ρ τ, P m ρ τ → xWhile c tb O ρ τ := by
  intro m ρ τ h
  refine ⟨m + 1, ?_⟩
  have go : ∀ N m, m < N → ∀ ρ τ, P m ρ τ → whN c tb N O ρ τ := by
    intro N
    induction N with
    | zero => intro m hm; omega
    | succ N ih =>
      intro m hm ρ τ h
      exact hc m ρ τ (fun ρ' τ' => whN c tb N O ρ' τ') (fun m' ρ' τ' hm' h' => ih m' (by omega) ρ' τ' h') h
  exact go (m + 1) m (Nat.lt_succ_self m) ρ τ h
/-! ### comprehensions -/
/-- each element gives f of it (or nothing, where the test fails); I holds of the store throughout -/
theorem compD_map {G : Sto → Prop} {tg : Tg} {tt : XT} {te : XE} {vs : List Nat} {ρ : DEnv} {R : XK1} (I : Sto → Prop) (fs : D → Option D) (hG : ∀ τ, I τ → G τ) : ∀ (xs : List D) (acc : List D) (τ : Sto),
    (∀ x ∈ xs, ∃ ρ2, tg.x x (wipeD ρ vs) = some ρ2 ∧ ∀ τ (Q : Option D → Sto → Prop), I τ → (∀ τ', I τ' → Q (fs x) τ') →
      tt ρ2 τ fun b τ3 => if b = true then te ρ2 τ3 fun w τ4 => match w with | .d y => Q (some y) τ4 | _ => False else Q none τ3) →
    I τ → (∀ τ', I τ' → R (.l τ'.length) (τ' ++ [acc ++ xs.filterMap fs])) → compD G tg tt te vs xs acc ρ τ R
  | [], acc, τ, _, hI, k => by
    unfold compD
    have := k τ hI
    simp only [List.filterMap_nil, List.append_nil] at this
    exact ⟨hG τ hI, this⟩
  | x :: xs, acc, τ, h, hI, k => by
    unfold compD
    refine ⟨hG τ hI, ?_⟩
    obtain ⟨ρ2, e, q⟩ := h x (List.mem_cons_self ..)
    rw [e]
    refine q τ (fun o τ' => match o with | some y => compD G tg tt te vs xs (acc ++ [y]) ρ τ' R | none => compD G tg tt te vs xs acc ρ τ' R) hI (fun τ' hI' => ?_)
    cases e2 : fs x with
    | none =>
      refine compD_map I fs hG xs acc τ' (fun y hy => h y (List.mem_cons_of_mem _ hy)) hI' fun τ2 h2 => ?_
      have := k τ2 h2
      rw [List.filterMap_cons_none e2] at this
      exact this
    | some y =>
      refine compD_map I fs hG xs (acc ++ [y]) τ' (fun y hy => h y (List.mem_cons_of_mem _ hy)) hI' fun τ2 h2 => ?_
      have := k τ2 h2
      rw [List.filterMap_cons_some e2] at this
      rw [List.append_assoc]
      exact this
/-! ### bounds -/
def Bd (n : Nat) (i : Int) : Prop := i.natAbs < 2 ^ n
theorem Bd.cm {a b : Nat} {i j : Int} (h : Bd a i) (q : Bd b j) (h0 : 0 < a := by decide) (h1 : 0 < b := by decide) (hl : a + b ≤ 1000000 := by decide) : CMulW i j := wide_mul h q h0 h1 hl
theorem Bd.mul {a b : Nat} {i j : Int} (h : Bd a i) (q : Bd b j) : Bd (a + b) (i * j) := wide_lt h q
theorem Bd.mono {a b : Nat} {i : Int} (h : Bd a i) (hl : a ≤ b) : Bd b i := Nat.lt_of_lt_of_le h (Nat.pow_le_pow_right (by decide) hl)
theorem Bd.dv {b : Nat} {i j : Int} (h : 0 < j) (q : Bd b j) (h0 : 0 < b := by decide) (h9 : b ≤ 9000 := by decide) : CDivW i j := wide_div h q h0 h9
theorem Bd.add {a : Nat} {i j : Int} (h : Bd a i) (q : Bd a j) : Bd (a + 1) (i + j) := by
  unfold Bd at *
  rw [Nat.pow_succ]
  omega
theorem Bd.sub {a : Nat} {i j : Int} (h : Bd a i) (q : Bd a j) : Bd (a + 1) (i - j) := by
  unfold Bd at *
  rw [Nat.pow_succ]
  omega
theorem Bd.neg {a : Nat} {i : Int} (h : Bd a i) : Bd a (-i) := by
  unfold Bd at *
  omega
theorem Bd.ediv {a : Nat} {i j : Int} (h : Bd a i) (h0 : 0 < j) : Bd a (i / j) := by
  unfold Bd at *
  exact Nat.lt_of_le_of_lt (Int.natAbs_ediv_le_natAbs i j) h
/-! ### shapes, for == of tuples and lists -/
def okD : Nat → D → Bool
  | _, .non => true
  | _, .bl _ => true
  | _, .int _ => true
  | _, .str s => PyData.canLay0 (.str s)
  | n + 1, .tup xs => xs.all (okD n)
  | n + 1, .rol xs => xs.all (okD n)
  | 0, .tup _ => false
  | 0, .rol _ => false
theorem toPys_map : ∀ xs : List D, toPys xs = xs.map toPy
  | [] => by unfold toPys; rfl
  | x :: xs => by unfold toPys; rw [toPys_map xs]; rfl
theorem canLayAll_of {f : D → Bool} {xs : List D} (h : ∀ x, f x = true → PyData.canLay0 (toPy x) = true) (ha : xs.all f = true) : PyData.canLayAll0 (xs.map toPy) = true := by
  induction xs with
  | nil => rfl
  | cons x xs ih =>
    simp only [List.all_cons, Bool.and_eq_true] at ha
    simp only [List.map_cons, PyData.canLayAll0, Bool.and_eq_true]
    exact ⟨h x ha.1, ih ha.2⟩
theorem depthAll_of {f : D → Bool} {xs : List D} {n : Nat} (h : ∀ x, f x = true → PyData.depth (toPy x) ≤ n) (ha : xs.all f = true) : PyData.depthAll (xs.map toPy) ≤ n := by
  induction xs with
  | nil => simp [PyData.depthAll]
  | cons x xs ih =>
    simp only [List.all_cons, Bool.and_eq_true] at ha
    simp only [List.map_cons, PyData.depthAll]
    exact Nat.max_le.mpr ⟨h x ha.1, ih ha.2⟩
theorem okD_lay : ∀ (n : Nat) (d : D), okD n d = true → PyData.canLay0 (toPy d) = true ∧ PyData.depth (toPy d) ≤ n
  | _, .non, _ => by simp [toPy, PyData.canLay0, PyData.depth]
  | _, .bl _, _ => by simp [toPy, PyData.canLay0, PyData.depth]
  | _, .int _, _ => by simp [toPy, PyData.canLay0, PyData.depth]
  | n, .str s, h => by
    have e : okD n (.str s) = PyData.canLay0 (.str s) := by cases n <;> rfl
    rw [e] at h
    simp only [toPy, PyData.depth]
    exact ⟨h, by omega⟩
  | n + 1, .tup xs, h => by
    simp only [toPy, toPys_map, PyData.canLay0, PyData.depth]
    have h' : xs.all (okD n) = true := h
    exact ⟨canLayAll_of (fun x hx => (okD_lay n x hx).1) h', Nat.succ_le_succ (depthAll_of (fun x hx => (okD_lay n x hx).2) h')⟩
  | n + 1, .rol xs, h => by
    simp only [toPy, toPys_map, PyData.canLay0, PyData.depth]
    have h' : xs.all (okD n) = true := h
    exact ⟨canLayAll_of (fun x hx => (okD_lay n x hx).1) h', Nat.succ_le_succ (depthAll_of (fun x hx => (okD_lay n x hx).2) h')⟩
  | 0, .tup _, h => by cases h
  | 0, .rol _, h => by cases h
theorem shaped_d {n : Nat} {d : D} (h : okD n d = true) (hn : n ≤ 64 := by decide) : SeqAt.shaped (toPy d) = true := by
  have := okD_lay n d h
  unfold SeqAt.shaped
  simp only [Bool.and_eq_true, decide_eq_true_eq]
  exact ⟨this.1, by omega⟩
theorem shaped_l {n : Nat} {xs : List D} (h : xs.all (okD n) = true) (hn : n ≤ 63 := by decide) : SeqAt.shaped (.list (toPys xs)) = true := shaped_d (n := n + 1) (d := .rol xs) h (by omega)
theorem eqv_nil (xs : List D) : PyData.eqv (.tuple (toPys xs)) (.tuple (toPys [])) = decide (xs = []) := by
  cases xs with
  | nil => simp [toPys, PyData.eqv, PyData.eqvAll]
  | cons x xs => simp [toPys, PyData.eqv, PyData.eqvAll]
theorem eqv_nilL (xs : List D) : PyData.eqv (.list (toPys xs)) (.list (toPys [])) = decide (xs = []) := by
  cases xs with
  | nil => simp [toPys, PyData.eqv, PyData.eqvAll]
  | cons x xs => simp [toPys, PyData.eqv, PyData.eqvAll]
/-- xs == (), xs == [] -/
theorem qEqD_nil {f : Bool → Bool} {xs : List D} {τ : Sto} {R : XK1} {n : Nat} (h : okD n (.tup xs) = true) (hR : R (.d (.bl (f (decide (xs = []))))) τ) (hn : n ≤ 64 := by decide) : qEqD f (.d (.tup xs)) (.d (.tup [])) τ R :=
  ⟨_, _, rfl, rfl, shaped_d (d := .tup xs) h hn, shaped_d (n := 1) (d := .tup []) rfl, by
    have e := eqv_nil xs
    simp only [toPy] at *
    rw [e]
    exact hR⟩
theorem qEqD_nilL {f : Bool → Bool} {xs : List D} {i j : Nat} {τ : Sto} {R : XK1} {n : Nat} (hi : τ[i]? = some xs) (hj : τ[j]? = some []) (h : xs.all (okD n) = true) (hR : R (.d (.bl (f (decide (xs = []))))) τ) (hn : n ≤ 63 := by decide) : qEqD f (.l i) (.l j) τ R :=
  ⟨.list (toPys xs), .list (toPys []), by simp [toPyW, hi], by simp [toPyW, hj], shaped_l h hn, shaped_l (n := 1) (xs := []) rfl, by
    rw [eqv_nilL xs]
    exact hR⟩
end DL

namespace K57
open PySem PySem.Spec PyProof.Rows L2 DL
def g (a b : Int) : Int := ((Nat.gcd a.natAbs b.natAbs : Nat) : Int)
def ratI (a b : Int) : D := .tup [.int (a / g a b), .int (b / g a b)]
theorem g_pos {a b : Int} (h : 0 < b) : 0 < g a b := by
  unfold g
  have : 0 < Nat.gcd a.natAbs b.natAbs := Nat.gcd_pos_of_pos_right _ (by omega)
  omega
theorem g_bd {a b : Int} {n : Nat} (h : 0 < b) (q : Bd n b) : Bd n (g a b) := by
  unfold g Bd at *
  have : Nat.gcd a.natAbs b.natAbs ≤ b.natAbs := Nat.gcd_le_right _ (by omega)
  simp only [Int.natAbs_natCast]
  omega
theorem g_dvdl {a b : Int} : g a b ∣ a := by
  unfold g
  exact Int.ofNat_dvd_left.mpr (Nat.gcd_dvd_left _ _)
theorem g_dvdr {a b : Int} : g a b ∣ b := by
  unfold g
  exact Int.ofNat_dvd_left.mpr (Nat.gcd_dvd_right _ _)
def VolOk (vs : List Int) : Prop := 2 ≤ vs.length ∧ vs.length ≤ 5 ∧ (∀ v ∈ vs, 1 ≤ v ∧ v ≤ 12) ∧ vs.Pairwise (· > ·)
abbrev dV (vs : List Int) : D := .tup (vs.map D.int)
structure Tgt where
  w : Bool
  i : Nat
  a : Int
  b : Int
def Tgt.d (t : Tgt) : D := .tup [.str (if t.w = true then "over" else "left"), .int t.i, .tup [.int t.a, .int t.b]]
def Tgt.Ok (vs : List Int) (t : Tgt) : Prop := t.i < vs.length ∧ 0 < t.a ∧ t.a < t.b ∧ g t.a t.b = 1 ∧ Bd 1000 t.b
def vol (vs : List Int) (i : Nat) : Nat := (vs.getD i 0).toNat
def cc (t : Tgt) : Int := (1 * t.b - t.a * 1) / g (1 * t.b - t.a * 1) (1 * t.b)
def dd (t : Tgt) : Int := (1 * t.b) / g (1 * t.b - t.a * 1) (1 * t.b)
def keeps (vs : List Int) (t : Tgt) (x y : Int) : Bool := if t.w = true then !decide (cc t * y ^ vol vs t.i < x ^ vol vs t.i * dd t) else !decide (x ^ vol vs t.i * t.b < t.a * y ^ vol vs t.i)
def clash (vs : List Int) (o l : Tgt) : Bool := decide (cc o ^ vol vs l.i * l.b ^ vol vs o.i < l.a ^ vol vs o.i * dd o ^ vol vs l.i)
def doClash (vs : List Int) (s t : Tgt) : Bool := if s.w = t.w then false else if s.w = true then clash vs s t else clash vs t s
def allKeep (vs : List Int) (ts : List Tgt) (x y : Int) : Bool := ts.all fun t => keeps vs t x y
/-- the first pair that clashes -/
def First (vs : List Int) (ts : List Tgt) : D → Prop
  | .non => ∀ (i j : Nat) (s t : Tgt), i < j → ts[i]? = some s → ts[j]? = some t → doClash vs s t = false
  | .tup [.int i, .int j] => ∃ (i' j' : Nat) (s t : Tgt), i = i' ∧ j = j' ∧ i' < j' ∧ ts[i']? = some s ∧ ts[j']? = some t ∧ doClash vs s t = true ∧
      ∀ (i2 j2 : Nat) (s2 t2 : Tgt), i2 < j2 → (i2 < i' ∨ i2 = i' ∧ j2 < j') → ts[i2]? = some s2 → ts[j2]? = some t2 → doClash vs s2 t2 = false
  | _ => False
/-- the largest part -/
def Most (vs : List Int) (ts : List Tgt) (n : Int) : D → Prop
  | .non => ∀ k, 1 ≤ k → k ≤ n → allKeep vs ts (k / g k n) (n / g k n) = false
  | .int k => 1 ≤ k ∧ k ≤ n ∧ allKeep vs ts (k / g k n) (n / g k n) = true ∧ ∀ k2, k < k2 → k2 ≤ n → allKeep vs ts (k2 / g k2 n) (n / g k2 n) = false
  | _ => False
abbrev dT (ts : List Tgt) : D := .tup (ts.map Tgt.d)
def TsOk (vs : List Int) (ts : List Tgt) : Prop := VolOk vs ∧ ts ≠ [] ∧ ts.length ≤ 8 ∧ ∀ t ∈ ts, t.Ok vs
def TapV (n : Nat) (xs : List D) : Prop := ∃ a b c : Int, xs = [.int a, .int b, .int c] ∧ 0 ≤ a ∧ 0 ≤ b ∧ b < 2147483549 ∧ 0 ≤ c ∧ c ≤ n ∧ n ≤ 1000000
/-! promises -/
def sp_is_whole : Spx := fun ws τ R => ∃ i, ws = [.d (.int i)] ∧ ∀ τ', R (.d (.bl true)) τ'
def sp_is_between : Spx := fun ws τ R => ∃ v lo hi : Int, ws = [.d (.int v), .d (.int lo), .d (.int hi)] ∧ ∀ τ', R (.d (.bl (decide (lo ≤ v) && decide (v ≤ hi)))) τ'
def sp_are_wholes : Spx := fun ws τ R => ∃ a b, ws = [.d (.tup [.int a, .int b]), .d (.int 2)] ∧ ∀ τ', R (.d (.bl true)) τ'
def sp_divisor_of : Spx := fun ws τ R => ∃ a b, ws = [.d (.tup [.int a, .int b])] ∧ ∀ τ', R (.d (.int (g a b))) τ'
def sp_lowest : Spx := fun ws τ R => ∃ a b, ws = [.d (.tup [.int a, .int b])] ∧ (0 < b ∧ Bd 5000 b) ∧ ∀ τ', R (.d (ratI a b)) τ'
def sp_is_ratio : Spx := fun ws τ R => ∃ a b, ws = [.d (.tup [.int a, .int b])] ∧ (0 < b ∧ g a b = 1) ∧ ∀ τ', R (.d (.bl true)) τ'
def sp_ratio : Spx := fun ws τ R => ∃ a b, ws = [.d (.int a), .d (.int b)] ∧ (0 < b ∧ Bd 5000 b) ∧ ∀ τ', R (.d (ratI a b)) τ'
def sp_minus : Spx := fun ws τ R => ∃ a b c d, ws = [.d (.tup [.int a, .int b]), .d (.tup [.int c, .int d])] ∧ (0 < b ∧ 0 < d ∧ Bd 1000 a ∧ Bd 1000 b ∧ Bd 1000 c ∧ Bd 1000 d) ∧ ∀ τ', R (.d (ratI (a * d - c * b) (b * d))) τ'
def sp_power : Spx := fun ws τ R => ∃ a b n, ws = [.d (.tup [.int a, .int b]), .d (.int n)] ∧ (0 ≤ n ∧ n ≤ 12 ∧ Bd 1000 a ∧ Bd 1000 b) ∧ ∀ τ', R (.d (.tup [.int (a ^ n.toNat), .int (b ^ n.toNat)])) τ'
def sp_is_below : Spx := fun ws τ R => ∃ a b c d, ws = [.d (.tup [.int a, .int b]), .d (.tup [.int c, .int d])] ∧ (Bd 20000 a ∧ Bd 20000 b ∧ Bd 20000 c ∧ Bd 20000 d) ∧ ∀ τ', R (.d (.bl (decide (a * d < c * b)))) τ'
def sp_is_share : Spx := fun ws τ R => ∃ a b, ws = [.d (.tup [.int a, .int b])] ∧ (0 ≤ a ∧ a ≤ b ∧ 0 < b ∧ g a b = 1) ∧ ∀ τ', R (.d (.bl true)) τ'
def sp_is_inner : Spx := fun ws τ R => ∃ a b, ws = [.d (.tup [.int a, .int b])] ∧ (0 < a ∧ a < b ∧ g a b = 1) ∧ ∀ τ', R (.d (.bl true)) τ'
def sp_are_volatilities : Spx := fun ws τ R => ∃ vs, ws = [.d (dV vs)] ∧ VolOk vs ∧ ∀ τ', R (.d (.bl true)) τ'
def sp_check_volatilities : Spx := fun ws τ R => ∃ vs, ws = [.d (dV vs)] ∧ VolOk vs ∧ ∀ τ', R (.d .non) τ'
def sp_is_depth : Spx := fun ws τ R => ∃ a b, ws = [.d (.tup [.int a, .int b])] ∧ (0 < a ∧ a ≤ b ∧ g a b = 1) ∧ ∀ τ', R (.d (.bl true)) τ'
def sp_check_depth : Spx := fun ws τ R => ∃ a b, ws = [.d (.tup [.int a, .int b])] ∧ (0 < a ∧ a ≤ b ∧ g a b = 1) ∧ ∀ τ', R (.d .non) τ'
def sp_check_parts : Spx := fun ws τ R => ∃ n, ws = [.d (.int n)] ∧ (1 ≤ n ∧ n ≤ 1000) ∧ ∀ τ', R (.d .non) τ'
def sp_is_still_target : Spx := fun ws τ R => ∃ vs t, ws = [.d (dV vs), .d (Tgt.d t)] ∧ t.Ok vs ∧ ∀ τ', R (.d (.bl true)) τ'
def sp_check_targets : Spx := fun ws τ R => ∃ vs ts, ws = [.d (dV vs), .d (dT ts)] ∧ TsOk vs ts ∧ ∀ τ', R (.d .non) τ'
def sp_is_kept_at : Spx := fun ws τ R => ∃ vs t x y, ws = [.d (dV vs), .d (Tgt.d t), .d (.tup [.int x, .int y])] ∧ (VolOk vs ∧ t.Ok vs ∧ Bd 1000 x ∧ Bd 1000 y) ∧ ∀ τ', R (.d (.bl (keeps vs t x y))) τ'
def sp_do_clash : Spx := fun ws τ R => ∃ vs s t, ws = [.d (dV vs), .d (Tgt.d s), .d (Tgt.d t)] ∧ (VolOk vs ∧ s.Ok vs ∧ t.Ok vs) ∧ ∀ τ', R (.d (.bl (doClash vs s t))) τ'
def sp_clash_by : Spx := fun ws τ R => ∃ vs ts, ws = [.d (dV vs), .d (dT ts)] ∧ TsOk vs ts ∧ ∀ y τ', First vs ts y → R (.d y) τ'
def sp_are_kept_at : Spx := fun ws τ R => ∃ vs ts x y, ws = [.d (dV vs), .d (dT ts), .d (.tup [.int x, .int y])] ∧ (TsOk vs ts ∧ Bd 1000 x ∧ Bd 1000 y) ∧ ∀ τ', R (.d (.bl (allKeep vs ts x y))) τ'
def sp_still_keeps : Spx := fun ws τ R => ∃ vs ts x y, ws = [.d (dV vs), .d (dT ts), .d (.tup [.int x, .int y])] ∧ (TsOk vs ts ∧ Bd 1000 y ∧ 0 < x ∧ x ≤ y ∧ g x y = 1) ∧ ∀ τ', R (.d (.bl (allKeep vs ts x y))) τ'
def isNon : D → Bool
  | .non => true
  | _ => false
def sp_can_keep : Spx := fun ws τ R => ∃ vs ts, ws = [.d (dV vs), .d (dT ts)] ∧ TsOk vs ts ∧ ∀ y τ', First vs ts y → R (.d (.bl (isNon y))) τ'
def sp_still_clash : Spx := sp_clash_by
def sp_depth_for : Spx := fun ws τ R => ∃ vs ts n, ws = [.d (dV vs), .d (dT ts), .d (.int n)] ∧ (TsOk vs ts ∧ 1 ≤ n ∧ n ≤ 1000) ∧ ∀ y τ', Most vs ts n y → R (.d y) τ'
def sp_law_tap : Spx := fun ws τ R => ∃ (ns : List Int) (t : Int), ws = [.d (.rol (ns.map D.int)), .d (.int t)] ∧ (ns.length ≤ 63 ∧ 0 ≤ t ∧ t ≤ 3) ∧ ∀ j τ' xs, τ'[j]? = some xs → TapV 0 xs → R (.l j) τ'
def sp_law_drop : Spx := fun ws τ R => ∃ top n t, ws = [.l 0, .d (.int top)] ∧ τ = [t] ∧ (0 < top ∧ top < 1000000) ∧ n + 1 ≤ 1000000 ∧ TapV n t ∧ ∀ v t' r, 0 ≤ v → v < top → TapV (n + 1) t' → R (.d (.int v)) (t' :: r)
def sp_law_one : Spx := fun ws τ R => ∃ xs n t, ws = [.l 0, .l 1] ∧ τ = [t, xs] ∧ (0 < xs.length ∧ xs.length < 1000000) ∧ n + 1 ≤ 1000000 ∧ TapV n t ∧ ∀ (x : D) t' r, x ∈ xs → TapV (n + 1) t' → R (.d x) (t' :: xs :: r)
def sp_law_ratio : Spx := fun ws τ R => ∃ a b, ws = [.d (.int a), .d (.int b)] ∧ (0 < b ∧ Bd 5000 a ∧ Bd 5000 b) ∧ ∀ τ', R (.d (ratI a b)) τ'
def sp_law_plus : Spx := fun ws τ R => ∃ a b c d, ws = [.d (.tup [.int a, .int b]), .d (.tup [.int c, .int d])] ∧ (0 < b ∧ 0 < d ∧ Bd 1000 a ∧ Bd 1000 b ∧ Bd 1000 c ∧ Bd 1000 d) ∧ ∀ τ', R (.d (ratI (a * d + c * b) (b * d))) τ'
def sp_law_less : Spx := sp_minus
def sg (x : Int) : Int := if 0 < x then 1 else if x < 0 then -1 else 0
def sp_law_sign : Spx := fun ws τ R => ∃ a b c d, ws = [.d (.tup [.int a, .int b]), .d (.tup [.int c, .int d])] ∧ (Bd 20000 a ∧ Bd 20000 b ∧ Bd 20000 c ∧ Bd 20000 d) ∧ ∀ τ', R (.d (.int (sg (a * d - c * b)))) τ'
def sp_law_power : Spx := sp_power
def sp_law_inner : Spx := fun ws τ R => ∃ n t, ws = [.l 0] ∧ τ = [t] ∧ n + 2 ≤ 1000000 ∧ TapV n t ∧ ∀ a b t' r, 0 < a → a < b → b ≤ 20 → g a b = 1 → TapV (n + 2) t' → R (.d (.tup [.int a, .int b])) (t' :: r)
def sp_law_wares : Spx := fun ws τ R => ∃ n t, ws = [.l 0] ∧ τ = [t] ∧ n + 10 ≤ 1000000 ∧ TapV n t ∧ ∀ vs t' r, VolOk vs → TapV (n + 10) t' → R (.d (dV vs)) (t' :: r)
def sp_law_depth : Spx := fun ws τ R => ∃ n t, ws = [.l 0] ∧ τ = [t] ∧ n + 10 ≤ 1000000 ∧ TapV n t ∧ ∀ a b t' r, 0 < a → a ≤ b → b ≤ 40 → g a b = 1 → TapV (n + 10) t' → R (.d (.tup [.int a, .int b])) (t' :: r)
def sp_law_targets : Spx := fun ws τ R => ∃ n t vs m, ws = [.l 0, .d (dV vs), .d (.int m)] ∧ τ = [t] ∧ n + 100 ≤ 1000000 ∧ TapV n t ∧ VolOk vs ∧ (1 ≤ m ∧ m ≤ 7) ∧ ∀ ts t' r, ts.length = m.toNat → (∀ t ∈ ts, t.Ok vs) → TapV (n + 100) t' → R (.d (dT ts)) (t' :: r)
def sp_law_do_clash : Spx := sp_do_clash
def sp_law_first_clash : Spx := sp_clash_by
def sp_law_does_keep : Spx := sp_are_kept_at
/-- two targets made of one depth -/
def told (vs : List Int) (x y : Int) (one other : Nat) : List Tgt :=
  [⟨true, one, (1 * y ^ vol vs one - x ^ vol vs one * 1) / g (1 * y ^ vol vs one - x ^ vol vs one * 1) (1 * y ^ vol vs one), (1 * y ^ vol vs one) / g (1 * y ^ vol vs one - x ^ vol vs one * 1) (1 * y ^ vol vs one)⟩, ⟨false, other, x ^ vol vs other, y ^ vol vs other⟩]
def sp_law_told_by : Spx := fun ws τ R => ∃ n t vs, ws = [.l 0, .d (dV vs)] ∧ τ = [t] ∧ n + 10 ≤ 1000000 ∧ TapV n t ∧ VolOk vs ∧ ∀ x y one other t' r, 0 < x → x < y → y ≤ 7 → g x y = 1 → one < vs.length → other < vs.length → TapV (n + 10) t' → R (.d (.tup [dT (told vs x y one other), .tup [.int x, .int y]])) (t' :: r)
def sp_law_are_told : Spx := fun ws τ R => ∃ n t vs ts, ws = [.l 0, .d (dV vs), .d (dT ts)] ∧ τ = [t] ∧ n + 100 ≤ 1000000 ∧ TapV n t ∧ TsOk vs ts ∧ ∀ t' r, TapV (n + 100) t' → R (.d (.bl true)) (t' :: r)
def sp_law_right : Spx := fun ws τ R => ∃ n t, ws = [.l 0] ∧ τ = [t] ∧ n + 1000 ≤ 1000000 ∧ TapV n t ∧ ∀ τ', R (.d (.bl true)) τ'
def sp_law : Spx := spLaw
/- is_whole(value) slots: 0:value -/
def N_is_whole : List Str := ["value"]
def t_is_whole : XS := (xRet (xAnd (xCB (qIsiT "int" isIntW) [(xVar 0), (xC (.ty "int"))]) (xNot (xCB (qIsiT "bool" isBoolW) [(xVar 0), (xC (.ty "bool"))]))))

/- is_between(value, low, high) slots: 0:value 1:low 2:high -/
def N_is_between : List Str := ["value", "low", "high"]
def t_is_between : XS := (xRet (xAnd (xCall sp_is_whole [(xVar 0)]) (xAnd (xOp qLe (xVar 1) (xVar 0)) (xOp qLe (xVar 0) (xVar 2)))))

/- are_wholes(value, many) slots: 0:value 1:many 2:each -/
def N_are_wholes : List Str := ["value", "many", "each"]
def t_are_wholes : XS := (xRet (xAnd (xCB (qIsiT "tuple" isTupW) [(xVar 0), (xC (.ty "tuple"))]) (xAnd (xOp (qEqU id) (xCB qLen [(xVar 0)]) (xVar 1)) (xCB qAll [(xLc (xiT (xVar 0)) (.one 2) xYes (xCall sp_is_whole [(xVar 2)]) [2])]))))

/- divisor_of(numbers) slots: 0:numbers 1:found 2:number -/
def N_divisor_of : List Str := ["numbers", "found", "number"]
def t_divisor_of : XS := (xSeq (xAsg (xC (.d (.int 0))) (xgN 1))
  (xSeq (xFor (xiT (xVar 0)) (xgN 2) (xAsg (xCB qGcd [(xVar 1), (xVar 2)]) (xgN 1)))
  (xRet (xVar 1))))

/- lowest(numbers) slots: 0:numbers 1:part 2:number -/
def N_lowest : List Str := ["numbers", "part", "number"]
def t_lowest : XS := (xSeq (xAsg (xCall sp_divisor_of [(xVar 0)]) (xgN 1))
  (xRet (xIf (xTB (xOp (qEqU id) (xVar 1) (xC (.d (.int 0))))) (xCB qTuple [(xVar 0)]) (xCB qTuple [(xLc (xiT (xVar 0)) (.one 2) xYes (xOp qDiv (xVar 2) (xVar 1)) [2])]))))

/- is_ratio(value) slots: 0:value -/
def N_is_ratio : List Str := ["value"]
def t_is_ratio : XS := (xRet (xAnd (xCall sp_are_wholes [(xVar 0), (xC (.d (.int 2)))]) (xAnd (xOp qGt (xOp qIxU (xVar 0) (xC (.d (.int 1)))) (xC (.d (.int 0)))) (xOp (qEqU id) (xCall sp_divisor_of [(xVar 0)]) (xC (.d (.int 1)))))))

/- ratio(top, low) slots: 0:top 1:low -/
def N_ratio : List Str := ["top", "low"]
def t_ratio : XS := (xRet (xIf (xTB (xOp qGt (xVar 1) (xC (.d (.int 0))))) (xCall sp_lowest [(xTup [(xVar 0), (xVar 1)])]) (xCall sp_lowest [(xTup [(xUn qNeg (xVar 0)), (xUn qNeg (xVar 1))])])))

/- minus(one, two) slots: 0:one 1:two -/
def N_minus : List Str := ["one", "two"]
def t_minus : XS := (xRet (xCall sp_ratio [(xOp qSub (xOp qMul (xOp qIxU (xVar 0) (xC (.d (.int 0)))) (xOp qIxU (xVar 1) (xC (.d (.int 1))))) (xOp qMul (xOp qIxU (xVar 1) (xC (.d (.int 0)))) (xOp qIxU (xVar 0) (xC (.d (.int 1)))))), (xOp qMul (xOp qIxU (xVar 0) (xC (.d (.int 1)))) (xOp qIxU (xVar 1) (xC (.d (.int 1)))))]))

/- power(one, many) slots: 0:one 1:many 2:top 3:low 4:_ -/
def N_power : List Str := ["one", "many", "top", "low", "_"]
def t_power : XS := (xSeq (xAsg (xTup [(xC (.d (.int 1))), (xC (.d (.int 1)))]) (xgT [(xgN 2), (xgN 3)]))
  (xSeq (xFor (xiR1 [(xVar 1)]) (xgN 4) (xPar 2 3 (xOp qMul (xVar 2) (xOp qIxU (xVar 0) (xC (.d (.int 0))))) (xOp qMul (xVar 3) (xOp qIxU (xVar 0) (xC (.d (.int 1)))))))
  (xRet (xTup [(xVar 2), (xVar 3)]))))

/- is_below(one, two) slots: 0:one 1:two -/
def N_is_below : List Str := ["one", "two"]
def t_is_below : XS := (xRet (xOp qLt (xOp qMul (xOp qIxU (xVar 0) (xC (.d (.int 0)))) (xOp qIxU (xVar 1) (xC (.d (.int 1))))) (xOp qMul (xOp qIxU (xVar 1) (xC (.d (.int 0)))) (xOp qIxU (xVar 0) (xC (.d (.int 1)))))))

/- is_share(value) slots: 0:value -/
def N_is_share : List Str := ["value"]
def t_is_share : XS := (xRet (xAnd (xCall sp_is_ratio [(xVar 0)]) (xAnd (xOp qLe (xC (.d (.int 0))) (xOp qIxU (xVar 0) (xC (.d (.int 0))))) (xOp qLe (xOp qIxU (xVar 0) (xC (.d (.int 0)))) (xOp qIxU (xVar 0) (xC (.d (.int 1))))))))

/- is_inner(value) slots: 0:value -/
def N_is_inner : List Str := ["value"]
def t_is_inner : XS := (xRet (xAnd (xCall sp_is_ratio [(xVar 0)]) (xAnd (xOp qLt (xC (.d (.int 0))) (xOp qIxU (xVar 0) (xC (.d (.int 0))))) (xOp qLt (xOp qIxU (xVar 0) (xC (.d (.int 0)))) (xOp qIxU (xVar 0) (xC (.d (.int 1))))))))

/- are_volatilities(value) slots: 0:value 1:each 2:at -/
def N_are_volatilities : List Str := ["value", "each", "at"]
def t_are_volatilities : XS := (xSeq (xIfS (xTOr (xTNot (xTB (xCB (qIsiT "tuple" isTupW) [(xVar 0), (xC (.ty "tuple"))]))) (xTOr (xTB (xOp qLt (xCB qLen [(xVar 0)]) (xC (.d (.int 2))))) (xTB (xOp qGt (xCB qLen [(xVar 0)]) (xC (.d (.int 5))))))) (xRet (xC (.d (.bl false)))) xNext)
  (xSeq (xIfS (xTNot (xTB (xCB qAll [(xLc (xiT (xVar 0)) (.one 1) xYes (xCall sp_is_between [(xVar 1), (xC (.d (.int 1))), (xC (.d (.int 12)))]) [1])]))) (xRet (xC (.d (.bl false)))) xNext)
  (xRet (xCB qAll [(xLc (xiR1 [(xOp qSub (xCB qLen [(xVar 0)]) (xC (.d (.int 1))))]) (.one 2) xYes (xOp qGt (xOp qIxU (xVar 0) (xVar 2)) (xOp qIxU (xVar 0) (xOp qAddU (xVar 2) (xC (.d (.int 1)))))) [2])]))))

/- check_volatilities(value) slots: 0:value -/
def N_check_volatilities : List Str := ["value"]
def t_check_volatilities : XS := (xIfS (xTNot (xTB (xCall sp_are_volatilities [(xVar 0)]))) xNever xNext)

/- is_depth(value) slots: 0:value -/
def N_is_depth : List Str := ["value"]
def t_is_depth : XS := (xRet (xAnd (xCall sp_is_share [(xVar 0)]) (xOp qGt (xOp qIxU (xVar 0) (xC (.d (.int 0)))) (xC (.d (.int 0))))))

/- check_depth(value) slots: 0:value -/
def N_check_depth : List Str := ["value"]
def t_check_depth : XS := (xIfS (xTNot (xTB (xCall sp_is_depth [(xVar 0)]))) xNever xNext)

/- check_parts(value) slots: 0:value -/
def N_check_parts : List Str := ["value"]
def t_check_parts : XS := (xIfS (xTNot (xTB (xCall sp_is_between [(xVar 0), (xC (.d (.int 1))), (xC (.d (.int 1000)))]))) xNever xNext)

/- is_still_target(volatilities, value) slots: 0:volatilities 1:value -/
def N_is_still_target : List Str := ["volatilities", "value"]
def t_is_still_target : XS := (xSeq (xIfS (xTOr (xTNot (xTB (xCB (qIsiT "tuple" isTupW) [(xVar 1), (xC (.ty "tuple"))]))) (xTOr (xTB (xOp (qEqU not) (xCB qLen [(xVar 1)]) (xC (.d (.int 3))))) (xTNot (xTB (xCB (qIsiT "str" isStrW) [(xOp qIxU (xVar 1) (xC (.d (.int 0)))), (xC (.ty "str"))]))))) (xRet (xC (.d (.bl false)))) xNext)
  (xSeq (xIfS (xTOr (xTB (xOp (qInT fun b => !b) (xOp qIxU (xVar 1) (xC (.d (.int 0)))) (xTup [(xC (.d (.str "over"))), (xC (.d (.str "left")))]))) (xTNot (xTB (xCall sp_is_between [(xOp qIxU (xVar 1) (xC (.d (.int 1)))), (xC (.d (.int 0))), (xOp qSub (xCB qLen [(xVar 0)]) (xC (.d (.int 1))))])))) (xRet (xC (.d (.bl false)))) xNext)
  (xRet (xCall sp_is_inner [(xOp qIxU (xVar 1) (xC (.d (.int 2))))]))))

/- check_targets(volatilities, value) slots: 0:volatilities 1:value 2:at 3:each -/
def N_check_targets : List Str := ["volatilities", "value", "at", "each"]
def t_check_targets : XS := (xSeq (xDrop (xCall sp_check_volatilities [(xVar 0)]))
  (xSeq (xIfS (xTOr (xTNot (xTB (xCB (qIsiT "tuple" isTupW) [(xVar 1), (xC (.ty "tuple"))]))) (xTB (xOp (qEqU id) (xVar 1) (xTup [])))) xNever xNext)
  (xFor (xiET [(xVar 1)]) (xgT [(xgN 2), (xgN 3)]) (xIfS (xTOr (xTB (xOp (qEqU id) (xVar 2) (xC (.d (.int 8))))) (xTNot (xTB (xCall sp_is_still_target [(xVar 0), (xVar 3)])))) xNever xNext))))

/- is_kept_at(volatilities, target, depth) slots: 0:volatilities 1:target 2:depth 3:word 4:ware 5:part 6:left -/
def N_is_kept_at : List Str := ["volatilities", "target", "depth", "word", "ware", "part", "left"]
def t_is_kept_at : XS := (xSeq (xAsg (xVar 1) (xgT [(xgN 3), (xgN 4), (xgN 5)]))
  (xSeq (xAsg (xCall sp_power [(xVar 2), (xOp qIxU (xVar 0) (xVar 4))]) (xgN 6))
  (xSeq (xIfS (xTB (xOp (qEqU id) (xVar 3) (xC (.d (.str "left"))))) (xRet (xNot (xCall sp_is_below [(xVar 6), (xVar 5)]))) xNext)
  (xRet (xNot (xCall sp_is_below [(xCall sp_minus [(xC (.d (.tup [.int 1, .int 1]))), (xVar 5)]), (xVar 6)]))))))

/- do_clash(volatilities, one, other) slots: 0:volatilities 1:one 2:other 3:over 4:left 5:least -/
def N_do_clash : List Str := ["volatilities", "one", "other", "over", "left", "least"]
def t_do_clash : XS := (xSeq (xIfS (xTB (xOp (qEqU id) (xOp qIxU (xVar 1) (xC (.d (.int 0)))) (xOp qIxU (xVar 2) (xC (.d (.int 0)))))) (xRet (xC (.d (.bl false)))) xNext)
  (xSeq (xAsg (xIf (xTB (xOp (qEqU id) (xOp qIxU (xVar 1) (xC (.d (.int 0)))) (xC (.d (.str "over"))))) (xTup [(xVar 1), (xVar 2)]) (xTup [(xVar 2), (xVar 1)])) (xgT [(xgN 3), (xgN 4)]))
  (xSeq (xAsg (xCall sp_power [(xOp qIxU (xVar 4) (xC (.d (.int 2)))), (xOp qIxU (xVar 0) (xOp qIxU (xVar 3) (xC (.d (.int 1)))))]) (xgN 5))
  (xRet (xCall sp_is_below [(xCall sp_power [(xCall sp_minus [(xC (.d (.tup [.int 1, .int 1]))), (xOp qIxU (xVar 3) (xC (.d (.int 2))))]), (xOp qIxU (xVar 0) (xOp qIxU (xVar 4) (xC (.d (.int 1)))))]), (xVar 5)])))))

/- clash_by(volatilities, targets) slots: 0:volatilities 1:targets 2:to 3:at 4:one -/
def N_clash_by : List Str := ["volatilities", "targets", "to", "at", "one"]
def t_clash_by : XS := (xSeq (xFor (xiET [(xVar 1)]) (xgT [(xgN 3), (xgN 4)]) (xFor (xiR2 [(xOp qAddU (xVar 3) (xC (.d (.int 1)))), (xCB qLen [(xVar 1)])]) (xgN 2) (xIfS (xTB (xCall sp_do_clash [(xVar 0), (xVar 4), (xOp qIxU (xVar 1) (xVar 2))])) (xRet (xTup [(xVar 3), (xVar 2)])) xNext)))
  (xRet (xC (.d .non))))

/- are_kept_at(volatilities, targets, depth) slots: 0:volatilities 1:targets 2:depth 3:target -/
def N_are_kept_at : List Str := ["volatilities", "targets", "depth", "target"]
def t_are_kept_at : XS := (xRet (xCB qAll [(xLc (xiT (xVar 1)) (.one 3) xYes (xCall sp_is_kept_at [(xVar 0), (xVar 3), (xVar 2)]) [3])]))

/- still_keeps(volatilities, targets, depth) slots: 0:volatilities 1:targets 2:depth -/
def N_still_keeps : List Str := ["volatilities", "targets", "depth"]
def t_still_keeps : XS := (xSeq (xDrop (xCall sp_check_targets [(xVar 0), (xVar 1)]))
  (xSeq (xDrop (xCall sp_check_depth [(xVar 2)]))
  (xRet (xCall sp_are_kept_at [(xVar 0), (xVar 1), (xVar 2)]))))

/- can_keep(volatilities, targets) slots: 0:volatilities 1:targets -/
def N_can_keep : List Str := ["volatilities", "targets"]
def t_can_keep : XS := (xSeq (xDrop (xCall sp_check_targets [(xVar 0), (xVar 1)]))
  (xRet (xOp (qIsN id) (xCall sp_clash_by [(xVar 0), (xVar 1)]) (xC (.d .non)))))

/- still_clash(volatilities, targets) slots: 0:volatilities 1:targets -/
def N_still_clash : List Str := ["volatilities", "targets"]
def t_still_clash : XS := (xSeq (xDrop (xCall sp_check_targets [(xVar 0), (xVar 1)]))
  (xRet (xCall sp_clash_by [(xVar 0), (xVar 1)])))

/- depth_for(volatilities, targets, parts) slots: 0:volatilities 1:targets 2:parts 3:k -/
def N_depth_for : List Str := ["volatilities", "targets", "parts", "k"]
def t_depth_for : XS := (xSeq (xDrop (xCall sp_check_targets [(xVar 0), (xVar 1)]))
  (xSeq (xDrop (xCall sp_check_parts [(xVar 2)]))
  (xSeq (xFor (xiR3 [(xVar 2), (xC (.d (.int 0))), (xUn qNeg (xC (.d (.int 1))))]) (xgN 3) (xIfS (xTB (xCall sp_are_kept_at [(xVar 0), (xVar 1), (xCall sp_ratio [(xVar 3), (xVar 2)])])) (xRet (xVar 3)) xNext))
  (xRet (xC (.d .non))))))

/- _law_tap(script, turn) slots: 0:script 1:turn 2:own 3:mixed 4:each -/
def N_law_tap : List Str := ["script", "turn", "own", "mixed", "each"]
def t_law_tap : XS := (xSeq (xAsg (xIf (xTB (xOp qLt (xVar 1) (xCB qLen [(xVar 0)]))) (xCB qInt [(xOp qIxU (xVar 0) (xVar 1))]) (xOp qAddU (xOp qAddU (xOp qMul (xC (.d (.int 8513))) (xVar 1)) (xC (.d (.int 409)))) (xOp qMod (xCB qInt [(xCB qSum [(xSlL (xVar 0) xNoPart (xPart (xC (.d (.int 3)))))])]) (xC (.d (.int 1000081)))))) (xgN 2))
  (xSeq (xAsg (xOp qAddU (xC (.d (.int 61547))) (xOp qMul (xC (.d (.int 1741))) (xVar 1))) (xgN 3))
  (xSeq (xFor (xiL (xOp qAddU (xSlL (xVar 0) xNoPart (xPart (xC (.d (.int 6))))) (xLst [(xVar 2)]))) (xgN 4) (xAsg (xOp qMod (xCB qInt [(xOp qAddU (xOp qAddU (xOp qMul (xVar 3) (xC (.d (.int 52627)))) (xOp qMod (xCB qInt [(xVar 4)]) (xC (.d (.int 2147483549))))) (xC (.d (.int 23))))]) (xC (.d (.int 2147483549)))) (xgN 3)))
  (xRet (xLst [(xIf (xTOr (xTB (xOp qLt (xVar 2) (xC (.d (.int 0))))) (xTB (xOp qGe (xVar 2) (xOp qPow (xC (.d (.int 10))) (xC (.d (.int 18))))))) (xCB qAbs [(xVar 2)]) (xC (.d (.int 0)))), (xVar 3), (xC (.d (.int 0)))])))))

/- _law_drop(tap, top) slots: 0:tap 1:top 2:digit 3:factor2 -/
def N_law_drop : List Str := ["tap", "top", "digit", "factor2"]
def t_law_drop : XS := (xSeq (xIfS (xTB (xOp qGt (xOp qIxU (xVar 0) (xC (.d (.int 0)))) (xC (.d (.int 0))))) (xSeq (xAsg (xCB qDivmod [(xOp qIxU (xVar 0) (xC (.d (.int 0)))), (xVar 1)]) (xgT [(xgS (xVar 0) (xC (.d (.int 0)))), (xgN 2)]))
  (xRet (xVar 2))) xNext)
  (xSeq (xAsg (xOp qAddU (xOp qIxU (xVar 0) (xC (.d (.int 2)))) (xC (.d (.int 1)))) (xgS (xVar 0) (xC (.d (.int 2)))))
  (xSeq (xAsg (xOp qAddU (xC (.d (.int 25117))) (xOp qMul (xC (.d (.int 4))) (xCB qInt [(xOp qIxU (xVar 0) (xC (.d (.int 2))))]))) (xgN 3))
  (xSeq (xAsg (xOp qMod (xCB qInt [(xOp qAddU (xOp qAddU (xOp qMul (xOp qIxU (xVar 0) (xC (.d (.int 1)))) (xVar 3)) (xOp qMul (xC (.d (.int 60029))) (xOp qIxU (xVar 0) (xC (.d (.int 2)))))) (xC (.d (.int 7))))]) (xC (.d (.int 2147483549)))) (xgS (xVar 0) (xC (.d (.int 1)))))
  (xRet (xOp qMod (xCB qInt [(xOp qDiv (xOp qIxU (xVar 0) (xC (.d (.int 1)))) (xC (.d (.int 71))))]) (xVar 1)))))))

/- _law_one(tap, some) slots: 0:tap 1:some -/
def N_law_one : List Str := ["tap", "some"]
def t_law_one : XS := (xRet (xOp qIxU (xVar 1) (xCall sp_law_drop [(xVar 0), (xCB qLen [(xVar 1)])])))

/- _law_ratio(above, below) slots: 0:above 1:below 2:one 3:other 4:flip -/
def N_law_ratio : List Str := ["above", "below", "one", "other", "flip"]
def t_law_ratio : XS := (xSeq (xPar 2 3 (xCB qAbs [(xVar 0)]) (xCB qAbs [(xVar 1)]))
  (xSeq (xWhile (xTB (xOp qGt (xVar 3) (xC (.d (.int 0))))) (xPar 2 3 (xVar 3) (xOp qMod (xCB qInt [(xVar 2)]) (xCB qInt [(xVar 3)]))))
  (xSeq (xAsg (xIf (xTB (xOp qLt (xVar 1) (xC (.d (.int 0))))) (xUn qNeg (xC (.d (.int 1)))) (xC (.d (.int 1)))) (xgN 4))
  (xRet (xTup [(xOp qDiv (xOp qMul (xVar 4) (xVar 0)) (xVar 2)), (xOp qDiv (xOp qMul (xVar 4) (xVar 1)) (xVar 2))])))))

/- _law_plus(one, other) slots: 0:one 1:other -/
def N_law_plus : List Str := ["one", "other"]
def t_law_plus : XS := (xRet (xCall sp_law_ratio [(xOp qAddU (xOp qMul (xOp qIxU (xVar 0) (xC (.d (.int 0)))) (xOp qIxU (xVar 1) (xC (.d (.int 1))))) (xOp qMul (xOp qIxU (xVar 1) (xC (.d (.int 0)))) (xOp qIxU (xVar 0) (xC (.d (.int 1)))))), (xOp qMul (xOp qIxU (xVar 0) (xC (.d (.int 1)))) (xOp qIxU (xVar 1) (xC (.d (.int 1)))))]))

/- _law_less(one, other) slots: 0:one 1:other -/
def N_law_less : List Str := ["one", "other"]
def t_law_less : XS := (xRet (xCall sp_law_ratio [(xOp qSub (xOp qMul (xOp qIxU (xVar 0) (xC (.d (.int 0)))) (xOp qIxU (xVar 1) (xC (.d (.int 1))))) (xOp qMul (xOp qIxU (xVar 1) (xC (.d (.int 0)))) (xOp qIxU (xVar 0) (xC (.d (.int 1)))))), (xOp qMul (xOp qIxU (xVar 0) (xC (.d (.int 1)))) (xOp qIxU (xVar 1) (xC (.d (.int 1)))))]))

/- _law_sign(one, other) slots: 0:one 1:other 2:gap -/
def N_law_sign : List Str := ["one", "other", "gap"]
def t_law_sign : XS := (xSeq (xAsg (xOp qSub (xOp qMul (xOp qIxU (xVar 0) (xC (.d (.int 0)))) (xOp qIxU (xVar 1) (xC (.d (.int 1))))) (xOp qMul (xOp qIxU (xVar 1) (xC (.d (.int 0)))) (xOp qIxU (xVar 0) (xC (.d (.int 1)))))) (xgN 2))
  (xRet (xIf (xTB (xOp qGt (xVar 2) (xC (.d (.int 0))))) (xC (.d (.int 1))) (xIf (xTB (xOp qLt (xVar 2) (xC (.d (.int 0))))) (xUn qNeg (xC (.d (.int 1)))) (xC (.d (.int 0)))))))

/- _law_power(value, many) slots: 0:value 1:many 2:found 3:lap -/
def N_law_power : List Str := ["value", "many", "found", "lap"]
def t_law_power : XS := (xSeq (xAsg (xTup [(xC (.d (.int 1))), (xC (.d (.int 1)))]) (xgN 2))
  (xSeq (xFor (xiR1 [(xVar 1)]) (xgN 3) (xAsg (xTup [(xOp qMul (xOp qIxU (xVar 2) (xC (.d (.int 0)))) (xOp qIxU (xVar 0) (xC (.d (.int 0))))), (xOp qMul (xOp qIxU (xVar 2) (xC (.d (.int 1)))) (xOp qIxU (xVar 0) (xC (.d (.int 1)))))]) (xgN 2)))
  (xRet (xVar 2))))

/- _law_inner(tap) slots: 0:tap 1:below -/
def N_law_inner : List Str := ["tap", "below"]
def t_law_inner : XS := (xSeq (xAsg (xOp qAddU (xC (.d (.int 2))) (xCall sp_law_drop [(xVar 0), (xC (.d (.int 19)))])) (xgN 1))
  (xRet (xCall sp_law_ratio [(xOp qAddU (xC (.d (.int 1))) (xCall sp_law_drop [(xVar 0), (xOp qSub (xVar 1) (xC (.d (.int 1))))])), (xVar 1)])))

/- _law_wares(tap) slots: 0:tap 1:rest 2:found 3:lap -/
def N_law_wares : List Str := ["tap", "rest", "found", "lap"]
def t_law_wares : XS := (xSeq (xPar 1 2 (xListRng [(xC (.d (.int 1))), (xC (.d (.int 13)))]) (xLst []))
  (xSeq (xFor (xiR1 [(xOp qAddU (xC (.d (.int 2))) (xCall sp_law_drop [(xVar 0), (xC (.d (.int 4)))]))]) (xgN 3) (xDrop (xMt qAppend (xVar 2) [(xMt qPopAt (xVar 1) [(xCall sp_law_drop [(xVar 0), (xCB qLen [(xVar 1)])])])])))
  (xRet (xCB qTuple [(xSortRev [(xVar 2)] [(xC (.d (.bl true)))])]))))

/- _law_depth(tap) slots: 0:tap -/
def N_law_depth : List Str := ["tap"]
def t_law_depth : XS := (xRet (xCall sp_law_one [(xVar 0), (xLst [(xTup [(xC (.d (.int 1))), (xC (.d (.int 1)))]), (xCall sp_law_inner [(xVar 0)]), (xCall sp_law_inner [(xVar 0)]), (xTup [(xC (.d (.int 1))), (xOp qAddU (xC (.d (.int 1))) (xCall sp_law_drop [(xVar 0), (xC (.d (.int 40)))]))])])]))

/- _law_targets(tap, vols, many) slots: 0:tap 1:vols 2:many 3:found 4:lap -/
def N_law_targets : List Str := ["tap", "vols", "many", "found", "lap"]
def t_law_targets : XS := (xSeq (xAsg (xLst []) (xgN 3))
  (xSeq (xFor (xiR1 [(xVar 2)]) (xgN 4) (xDrop (xMt qAppend (xVar 3) [(xTup [(xCall sp_law_one [(xVar 0), (xLst [(xC (.d (.str "over"))), (xC (.d (.str "left")))])]), (xCall sp_law_drop [(xVar 0), (xCB qLen [(xVar 1)])]), (xCall sp_law_inner [(xVar 0)])])])))
  (xRet (xCB qTuple [(xVar 3)]))))

/- _law_do_clash(vols, one, other) slots: 0:vols 1:one 2:other 3:over 4:left 5:gone -/
def N_law_do_clash : List Str := ["vols", "one", "other", "over", "left", "gone"]
def t_law_do_clash : XS := (xSeq (xIfS (xTB (xOp (qEqU id) (xOp qIxU (xVar 1) (xC (.d (.int 0)))) (xOp qIxU (xVar 2) (xC (.d (.int 0)))))) (xRet (xC (.d (.bl false)))) xNext)
  (xSeq (xAsg (xIf (xTB (xOp (qEqU id) (xOp qIxU (xVar 1) (xC (.d (.int 0)))) (xC (.d (.str "over"))))) (xTup [(xVar 1), (xVar 2)]) (xTup [(xVar 2), (xVar 1)])) (xgT [(xgN 3), (xgN 4)]))
  (xSeq (xAsg (xCall sp_law_power [(xCall sp_law_less [(xTup [(xC (.d (.int 1))), (xC (.d (.int 1)))]), (xOp qIxU (xVar 3) (xC (.d (.int 2))))]), (xOp qIxU (xVar 0) (xOp qIxU (xVar 4) (xC (.d (.int 1)))))]) (xgN 5))
  (xRet (xOp qGt (xCall sp_law_sign [(xCall sp_law_power [(xOp qIxU (xVar 4) (xC (.d (.int 2)))), (xOp qIxU (xVar 0) (xOp qIxU (xVar 3) (xC (.d (.int 1)))))]), (xVar 5)]) (xC (.d (.int 0))))))))

/- _law_first_clash(vols, targets) slots: 0:vols 1:targets 2:j 3:i -/
def N_law_first_clash : List Str := ["vols", "targets", "j", "i"]
def t_law_first_clash : XS := (xSeq (xFor (xiR1 [(xCB qLen [(xVar 1)])]) (xgN 3) (xFor (xiR2 [(xOp qAddU (xVar 3) (xC (.d (.int 1)))), (xCB qLen [(xVar 1)])]) (xgN 2) (xIfS (xTB (xCall sp_law_do_clash [(xVar 0), (xOp qIxU (xVar 1) (xVar 3)), (xOp qIxU (xVar 1) (xVar 2))])) (xRet (xTup [(xVar 3), (xVar 2)])) xNext)))
  (xRet (xC (.d .non))))

/- _law_does_keep(vols, targets, depth) slots: 0:vols 1:targets 2:depth 3:left 4:word 5:ware 6:part -/
def N_law_does_keep : List Str := ["vols", "targets", "depth", "left", "word", "ware", "part"]
def t_law_does_keep : XS := (xSeq (xFor (xiT (xVar 1)) (xgT [(xgN 4), (xgN 5), (xgN 6)]) (xSeq (xAsg (xCall sp_law_power [(xVar 2), (xOp qIxU (xVar 0) (xVar 5))]) (xgN 3))
  (xSeq (xIfS (xTAnd (xTB (xOp (qEqU id) (xVar 4) (xC (.d (.str "over"))))) (xTB (xOp qGt (xCall sp_law_sign [(xVar 3), (xCall sp_law_less [(xTup [(xC (.d (.int 1))), (xC (.d (.int 1)))]), (xVar 6)])]) (xC (.d (.int 0)))))) (xRet (xC (.d (.bl false)))) xNext)
  (xIfS (xTAnd (xTB (xOp (qEqU id) (xVar 4) (xC (.d (.str "left"))))) (xTB (xOp qLt (xCall sp_law_sign [(xVar 3), (xVar 6)]) (xC (.d (.int 0)))))) (xRet (xC (.d (.bl false)))) xNext))))
  (xRet (xC (.d (.bl true)))))

/- _law_told_by(tap, vols) slots: 0:tap 1:vols 2:below 3:depth 4:many 5:one 6:other 7:over -/
def N_law_told_by : List Str := ["tap", "vols", "below", "depth", "many", "one", "other", "over"]
def t_law_told_by : XS := (xSeq (xAsg (xOp qAddU (xC (.d (.int 2))) (xCall sp_law_drop [(xVar 0), (xC (.d (.int 5)))])) (xgN 2))
  (xSeq (xPar 3 4 (xTup [(xOp qAddU (xC (.d (.int 1))) (xCall sp_law_drop [(xVar 0), (xOp qSub (xVar 2) (xC (.d (.int 1))))])), (xVar 2)]) (xCB qLen [(xVar 1)]))
  (xSeq (xAsg (xCall sp_law_ratio [(xOp qIxU (xVar 3) (xC (.d (.int 0)))), (xOp qIxU (xVar 3) (xC (.d (.int 1))))]) (xgN 3))
  (xSeq (xPar 5 6 (xCall sp_law_drop [(xVar 0), (xVar 4)]) (xCall sp_law_drop [(xVar 0), (xVar 4)]))
  (xSeq (xAsg (xTup [(xC (.d (.str "over"))), (xVar 5), (xCall sp_law_less [(xTup [(xC (.d (.int 1))), (xC (.d (.int 1)))]), (xCall sp_law_power [(xVar 3), (xOp qIxU (xVar 1) (xVar 5))])])]) (xgN 7))
  (xRet (xTup [(xTup [(xVar 7), (xTup [(xC (.d (.str "left"))), (xVar 6), (xCall sp_law_power [(xVar 3), (xOp qIxU (xVar 1) (xVar 6))])])]), (xVar 3)])))))))

/- _law_are_told(tap, vols, targets) slots: 0:tap 1:vols 2:targets 3:clash 4:told 5:parts 6:k 7:good 8:due 9:depth 10:lap -/
def N_law_are_told : List Str := ["tap", "vols", "targets", "clash", "told", "parts", "k", "good", "due", "depth", "lap"]
def t_law_are_told : XS := (xSeq (xAsg (xCall sp_law_first_clash [(xVar 1), (xVar 2)]) (xgN 3))
  (xSeq (xAsg (xLst [(xCall sp_can_keep [(xVar 1), (xVar 2)]), (xCall sp_still_clash [(xVar 1), (xVar 2)]), (xCallK sp_can_keep (ordered [1, 0]) [(xVar 2), (xVar 1)])]) (xgN 4))
  (xSeq (xIfS (xTB (xOp (qEqU not) (xCB qRepr [(xVar 4)]) (xCB qRepr [(xLst [(xOp (qIsN id) (xVar 3) (xC (.d .non))), (xVar 3), (xOp (qIsN id) (xVar 3) (xC (.d .non)))])]))) (xRet (xC (.d (.bl false)))) xNext)
  (xSeq (xAsg (xCall sp_law_one [(xVar 0), (xLst [(xC (.d (.int 1))), (xC (.d (.int 6))), (xC (.d (.int 12))), (xC (.d (.int 30)))])]) (xgN 5))
  (xSeq (xAsg (xLc (xiR2 [(xC (.d (.int 1))), (xOp qAddU (xVar 5) (xC (.d (.int 1))))]) (.one 6) (xTB (xCall sp_law_does_keep [(xVar 1), (xVar 2), (xCall sp_law_ratio [(xVar 6), (xVar 5)])])) (xVar 6) [6]) (xgN 7))
  (xSeq (xAsg (xIf (xTB (xOp (qEqU not) (xVar 7) (xLst []))) (xOp qIxU (xVar 7) (xUn qNeg (xC (.d (.int 1))))) (xC (.d .non))) (xgN 8))
  (xSeq (xIfS (xTOr (xTB (xOp (qEqU not) (xCB qRepr [(xCall sp_depth_for [(xVar 1), (xVar 2), (xVar 5)])]) (xCB qRepr [(xVar 8)]))) (xTAnd (xTB (xOp (qEqU not) (xVar 7) (xLst []))) (xTB (xOp (qIsN not) (xVar 3) (xC (.d .non)))))) (xRet (xC (.d (.bl false)))) xNext)
  (xSeq (xFor (xiR1 [(xC (.d (.int 3)))]) (xgN 10) (xSeq (xAsg (xCall sp_law_depth [(xVar 0)]) (xgN 9))
  (xIfS (xTB (xOp (qEqU not) (xCB qRepr [(xCall sp_still_keeps [(xVar 1), (xVar 2), (xVar 9)])]) (xCB qRepr [(xCall sp_law_does_keep [(xVar 1), (xVar 2), (xVar 9)])]))) (xRet (xC (.d (.bl false)))) xNext)))
  (xRet (xOp (qEqU id) (xCallK sp_still_keeps (ordered [2, 1, 0]) [(xTup [(xC (.d (.int 1))), (xC (.d (.int 1)))]), (xVar 2), (xVar 1)]) (xCall sp_law_does_keep [(xVar 1), (xVar 2), (xTup [(xC (.d (.int 1))), (xC (.d (.int 1)))])])))))))))))

/- _law_right(tap) slots: 0:tap 1:vols 2:targets 3:lap 4:depth 5:word 6:ware 7:part 8:more -/
def N_law_right : List Str := ["tap", "vols", "targets", "lap", "depth", "word", "ware", "part", "more"]
def t_law_right : XS := (xSeq (xFor (xiR1 [(xC (.d (.int 3)))]) (xgN 3) (xSeq (xAsg (xCall sp_law_wares [(xVar 0)]) (xgN 1))
  (xSeq (xAsg (xCall sp_law_targets [(xVar 0), (xVar 1), (xOp qAddU (xC (.d (.int 1))) (xCall sp_law_drop [(xVar 0), (xC (.d (.int 7)))]))]) (xgN 2))
  (xSeq (xIfS (xTNot (xTB (xCall sp_law_are_told [(xVar 0), (xVar 1), (xVar 2)]))) (xRet (xC (.d (.bl false)))) xNext)
  (xIfS (xTAnd (xTB (xOp (qIsN not) (xCall sp_law_first_clash [(xVar 1), (xVar 2)]) (xC (.d .non)))) (xTB (xOp (qIsB not) (xCall sp_can_keep [(xVar 1), (xOp qAddU (xVar 2) (xSlT (xVar 2) xNoPart (xPart (xC (.d (.int 1))))))]) (xC (.d (.bl false)))))) (xRet (xC (.d (.bl false)))) xNext)))))
  (xSeq (xAsg (xCall sp_law_wares [(xVar 0)]) (xgN 1))
  (xSeq (xAsg (xCall sp_law_told_by [(xVar 0), (xVar 1)]) (xgT [(xgN 2), (xgN 4)]))
  (xSeq (xIfS (xTOr (xTNot (xTB (xCall sp_law_are_told [(xVar 0), (xVar 1), (xVar 2)]))) (xTOr (xTNot (xTB (xCall sp_still_keeps [(xVar 1), (xVar 2), (xVar 4)]))) (xTNot (xTB (xCall sp_can_keep [(xVar 1), (xVar 2)]))))) (xRet (xC (.d (.bl false)))) xNext)
  (xSeq (xAsg (xOp qIxU (xVar 2) (xCall sp_law_drop [(xVar 0), (xC (.d (.int 2)))])) (xgT [(xgN 5), (xgN 6), (xgN 7)]))
  (xSeq (xAsg (xCall sp_law_plus [(xVar 7), (xTup [(xC (.d (.int 1))), (xOp qPow (xC (.d (.int 10))) (xC (.d (.int 9))))])]) (xgN 8))
  (xSeq (xIfS (xTB (xOp qGe (xCall sp_law_sign [(xVar 8), (xTup [(xC (.d (.int 1))), (xC (.d (.int 1)))])]) (xC (.d (.int 0))))) (xRet (xC (.d (.bl true)))) xNext)
  (xRet (xOp (qIsB id) (xCall sp_can_keep [(xVar 1), (xOp qAddU (xVar 2) (xTup [(xTup [(xVar 5), (xVar 6), (xVar 8)])]))]) (xC (.d (.bl false))))))))))))

/- law(script) slots: 0:script 1:turn -/
def N_law : List Str := ["script", "turn"]
def t_law : XS := (xRet (xCB qAll [(xLc (xiR1 [(xCB qMax2 [(xC (.d (.int 2))), (xCB qMin2 [(xCB qLen [(xVar 0)]), (xC (.d (.int 3)))])])]) (.one 1) xYes (xCall sp_law_right [(xCall sp_law_tap [(xVar 0), (xVar 1)])]) [1])]))
abbrev Rd (sp : Spx) (n : Nat) (N : List Str) (t : XS) : Prop := ∀ ws τ R, sp ws τ R → ws.length = n ∧ t { nx := fun _ τ' => R (.d .non) τ', rt := R } (startD N ws) τ
theorem Bd.pow12 {a : Int} {m : Nat} (h : Bd 1000 a) (hm : m ≤ 12) : Bd 13000 (a ^ m) := by
  have e : ∀ k : Nat, (a ^ k).natAbs ≤ (2 ^ 1000) ^ k := fun k => by
    rw [Int.natAbs_pow]
    exact Nat.pow_le_pow_left (Nat.le_of_lt h) k
  unfold Bd
  refine Nat.lt_of_le_of_lt (e m) ?_
  rw [← Nat.pow_mul]
  exact Nat.pow_lt_pow_right (by decide) (by omega)
theorem bd0 {a b : Int} {n : Nat} (h : 0 ≤ a) (hl : a ≤ b) (q : Bd n b) : Bd n a := by
  unfold Bd at *
  omega
theorem bd_of {a : Int} (h : 0 ≤ a) (hl : a < 1000000) : Bd 20 a := by
  unfold Bd
  omega
/-- enumerate -/
theorem forE_ix {G : Sto → Prop} {g : XG} {tb : XS} {O : XEnds} {xs : List D} {ρ : DEnv} {τ : Sto} (P : Nat → DEnv → Sto → Prop) (h0 : P 0 ρ τ)
    (hc : ∀ i x ρ τ (L : DEnv → Sto → Prop), xs[i]? = some x → (∀ ρ' τ', P (i + 1) ρ' τ' → L ρ' τ') → P i ρ τ → G τ ∧ g (.d (.tup [.int (i : Nat), x])) ρ τ fun ρ1 τ1 => tb { O with nx := fun ρ' τ' => L ρ' τ', ct := fun ρ' τ' => L ρ' τ', bk := O.nx } ρ1 τ1)
    (hn : ∀ ρ τ, P xs.length ρ τ → G τ ∧ O.nx ρ τ) : forD G g tb (enumD 0 xs) O ρ τ := by
  refine forD_ix P (enumD 0 xs) 0 ρ τ (fun ρ τ q => hn ρ τ (by rw [enumD_length, Nat.zero_add] at q; exact q)) (fun i x ρ τ L e hL q => ?_) h0
  have hi : i < xs.length := by
    have := (List.getElem?_eq_some_iff.mp e).1
    rw [enumD_length] at this
    exact this
  have e1 : xs[i]? = some xs[i] := List.getElem?_eq_getElem hi
  rw [enumD_get 0 xs i _ e1, Nat.zero_add] at e
  cases e
  exact hc i _ ρ τ L e1 (fun ρ' τ' q' => hL ρ' τ' (by rw [Nat.zero_add]; exact q')) (by rw [Nat.zero_add] at q; exact q)
/-- a list by its index, from 0 -/
theorem forL_ix {G : Sto → Prop} {g : XG} {tb : XS} {O : XEnds} {xs : List D} {ρ : DEnv} {τ : Sto} (P : Nat → DEnv → Sto → Prop) (h0 : P 0 ρ τ)
    (hc : ∀ i x ρ τ (L : DEnv → Sto → Prop), xs[i]? = some x → (∀ ρ' τ', P (i + 1) ρ' τ' → L ρ' τ') → P i ρ τ → G τ ∧ g (.d x) ρ τ fun ρ1 τ1 => tb { O with nx := fun ρ' τ' => L ρ' τ', ct := fun ρ' τ' => L ρ' τ', bk := O.nx } ρ1 τ1)
    (hn : ∀ ρ τ, P xs.length ρ τ → G τ ∧ O.nx ρ τ) : forD G g tb xs O ρ τ :=
  forD_ix P xs 0 ρ τ (fun ρ τ q => hn ρ τ (by rw [Nat.zero_add] at q; exact q)) (fun i x ρ τ L e hL q => hc i x ρ τ L e (fun ρ' τ' q' => hL ρ' τ' (by rw [Nat.zero_add]; exact q')) (by rw [Nat.zero_add] at q; exact q)) h0
theorem filterMap_some {α β : Type} (f : α → β) : ∀ xs : List α, xs.filterMap (fun x => some (f x)) = xs.map f
  | [] => rfl
  | x :: xs => by simp
/-- all([f x for x in xs]) where each is True -/
theorem all_true {n : Nat} {xs : List D} (f : D → Bool) (h : ∀ x ∈ xs, f x = true) : ∃ bs : List Bool, xs.filterMap (fun x => some (D.bl (f x))) = bs.map D.bl ∧ bs.all id = true := by
  refine ⟨xs.map f, by rw [filterMap_some]; simp, ?_⟩
  simpa using h
theorem rd_is_whole : Rd sp_is_whole 1 N_is_whole t_is_whole := by
  rintro ws τ R ⟨i, rfl, h⟩
  refine ⟨rfl, ?_⟩
  simp -implicitDefEqProofs [t_is_whole, startD, N_is_whole, h]
theorem rd_is_between : Rd sp_is_between 3 N_is_between t_is_between := by
  rintro ws τ R ⟨v, lo, hi, rfl, h⟩
  refine ⟨rfl, ?_⟩
  simp -implicitDefEqProofs [t_is_between, startD, N_is_between, callL_d1, sp_is_whole]
  intro τ'
  by_cases e : lo ≤ v <;> simp -implicitDefEqProofs [e] at h ⊢ <;> exact h _
theorem rd_are_wholes : Rd sp_are_wholes 2 N_are_wholes t_are_wholes := by
  rintro ws τ R ⟨a, b, rfl, h⟩
  refine ⟨rfl, ?_⟩
  simp -implicitDefEqProofs [t_are_wholes, startD, N_are_wholes, compD, Tg.x, wipeD, callL_d1, sp_is_whole]
  intro τ1 τ2
  exact ⟨[true, true], rfl, h _⟩
theorem rd_divisor_of : Rd sp_divisor_of 1 N_divisor_of t_divisor_of := by
  rintro ws τ R ⟨a, b, rfl, h⟩
  refine ⟨rfl, ?_⟩
  simp -implicitDefEqProofs [t_divisor_of, startD, N_divisor_of, forD]
  exact h _
theorem rd_lowest : Rd sp_lowest 1 N_lowest t_lowest := by
  rintro ws τ R ⟨a, b, rfl, ⟨h0, hb⟩, h⟩
  refine ⟨rfl, ?_⟩
  have hg := g_pos (a := a) h0
  simp -implicitDefEqProofs [t_lowest, startD, N_lowest, callL_d1, sp_divisor_of]
  refine ⟨a, b, ⟨rfl, rfl⟩, fun τ' => ?_⟩
  simp -implicitDefEqProofs [Int.ne_of_gt hg, compD, Tg.x, wipeD]
  have c : ∀ x, CDivW x (g a b) := fun x => Bd.dv hg (g_bd h0 hb)
  exact ⟨c _, c _, h _⟩
theorem rd_is_ratio : Rd sp_is_ratio 1 N_is_ratio t_is_ratio := by
  rintro ws τ R ⟨a, b, rfl, ⟨h0, hb⟩, h⟩
  refine ⟨rfl, ?_⟩
  simp -implicitDefEqProofs [t_is_ratio, startD, N_is_ratio, callL_d1, callL_d2, sp_are_wholes, sp_divisor_of]
  intro τ'
  rw [if_pos h0]
  refine ⟨a, b, ⟨rfl, rfl⟩, fun τ' => ?_⟩
  simp -implicitDefEqProofs [hb, h]
theorem rd_ratio : Rd sp_ratio 2 N_ratio t_ratio := by
  rintro ws τ R ⟨a, b, rfl, ⟨h0, hb⟩, h⟩
  refine ⟨rfl, ?_⟩
  simp -implicitDefEqProofs [t_ratio, startD, N_ratio, callL_d1, sp_lowest, h0]
  exact ⟨a, b, ⟨rfl, rfl⟩, ⟨h0, hb⟩, fun τ' => h _⟩
theorem rd_minus : Rd sp_minus 2 N_minus t_minus := by
  rintro ws τ R ⟨a, b, c, d, rfl, ⟨h0, h1, ha, hb, hc, hd⟩, h⟩
  refine ⟨rfl, ?_⟩
  simp -implicitDefEqProofs [t_minus, startD, N_minus, callL_d2, sp_ratio]
  refine ⟨ha.cm hd, hc.cm hb, hb.cm hd, _, _, ⟨rfl, rfl⟩, ⟨Int.mul_pos h0 h1, (hb.mul hd).mono (by decide)⟩, fun τ' => h _⟩
theorem rd_power : Rd sp_power 2 N_power t_power := by
  rintro ws τ R ⟨a, b, n, rfl, ⟨h0, h1, ha, hb⟩, h⟩
  refine ⟨rfl, ?_⟩
  simp -implicitDefEqProofs [t_power, startD, N_power]
  refine ⟨⟨by omega, by omega⟩, ?_⟩
  refine forR_ix (fun i ρ _ => ∃ v, ρ = [some (.d (.tup [.int a, .int b])), some (.d (.int n)), some (.d (.int (a ^ i))), some (.d (.int (b ^ i))), v]) ⟨none, by simp⟩ ?_ ?_
  · rintro i ρ τ L hi hL ⟨v, rfl⟩
    refine ⟨trivial, ?_⟩
    simp -implicitDefEqProofs
    refine ⟨(Bd.pow12 ha (by omega)).cm ha, (Bd.pow12 hb (by omega)).cm hb, hL _ _ ⟨_, by rw [Int.pow_succ, Int.pow_succ]⟩⟩
  · rintro ρ τ ⟨v, rfl⟩
    refine ⟨trivial, ?_⟩
    simp -implicitDefEqProofs
    exact h _
theorem rd_is_below : Rd sp_is_below 2 N_is_below t_is_below := by
  rintro ws τ R ⟨a, b, c, d, rfl, ⟨ha, hb, hc, hd⟩, h⟩
  refine ⟨rfl, ?_⟩
  simp -implicitDefEqProofs [t_is_below, startD, N_is_below]
  exact ⟨ha.cm hd, hc.cm hb, h _⟩
theorem rd_is_share : Rd sp_is_share 1 N_is_share t_is_share := by
  rintro ws τ R ⟨a, b, rfl, ⟨h0, h1, h2, hg⟩, h⟩
  refine ⟨rfl, ?_⟩
  simp -implicitDefEqProofs [t_is_share, startD, N_is_share, callL_d1, sp_is_ratio]
  refine ⟨a, b, ⟨rfl, rfl⟩, ⟨h2, hg⟩, fun τ' => ?_⟩
  simp -implicitDefEqProofs [h0, h1, h]
theorem rd_is_inner : Rd sp_is_inner 1 N_is_inner t_is_inner := by
  rintro ws τ R ⟨a, b, rfl, ⟨h0, h1, hg⟩, h⟩
  refine ⟨rfl, ?_⟩
  simp -implicitDefEqProofs [t_is_inner, startD, N_is_inner, callL_d1, sp_is_ratio]
  refine ⟨a, b, ⟨rfl, rfl⟩, ⟨by omega, hg⟩, fun τ' => ?_⟩
  simp -implicitDefEqProofs [h0, h1, h]
theorem rd_is_depth : Rd sp_is_depth 1 N_is_depth t_is_depth := by
  rintro ws τ R ⟨a, b, rfl, ⟨h0, h1, hg⟩, h⟩
  refine ⟨rfl, ?_⟩
  simp -implicitDefEqProofs [t_is_depth, startD, N_is_depth, callL_d1, sp_is_share]
  refine ⟨a, b, ⟨rfl, rfl⟩, ⟨by omega, h1, by omega, hg⟩, fun τ' => ?_⟩
  simp -implicitDefEqProofs [h0, h]
theorem rd_check_depth : Rd sp_check_depth 1 N_check_depth t_check_depth := by
  rintro ws τ R ⟨a, b, rfl, ⟨h0, h1, hg⟩, h⟩
  refine ⟨rfl, ?_⟩
  simp -implicitDefEqProofs [t_check_depth, startD, N_check_depth, callL_d1, sp_is_depth]
  exact ⟨a, b, ⟨rfl, rfl⟩, ⟨h0, h1, hg⟩, fun τ' => h _⟩
theorem rd_check_parts : Rd sp_check_parts 1 N_check_parts t_check_parts := by
  rintro ws τ R ⟨n, rfl, ⟨h0, h1⟩, h⟩
  refine ⟨rfl, ?_⟩
  simp -implicitDefEqProofs [t_check_parts, startD, N_check_parts, callL_d3, sp_is_between]
  exact ⟨_, _, _, ⟨rfl, rfl, rfl⟩, fun τ' => ⟨⟨h0, h1⟩, h _⟩⟩
theorem ix_vs {vs : List Int} {i : Nat} (h : i < vs.length) : ixD (vs.map D.int) (i : Nat) = some (.int (vs[i])) := by
  rw [ixD_nat, List.getElem?_map, List.getElem?_eq_getElem h]
  rfl
theorem ints_mem {lo : Int} {n : Nat} {x : D} (h : x ∈ intsBy 1 lo n) : ∃ i : Nat, i < n ∧ x = .int (lo + (i : Int)) := by
  obtain ⟨i, hi, e⟩ := List.mem_iff_getElem.mp h
  rw [intsBy_length] at hi
  have q := intsBy_get 1 lo n i hi
  rw [List.getElem?_eq_getElem (by rw [intsBy_length]; exact hi), e, Int.mul_one] at q
  exact ⟨i, hi, Option.some.inj q⟩
theorem rd_are_volatilities : Rd sp_are_volatilities 1 N_are_volatilities t_are_volatilities := by
  rintro ws τ R ⟨vs, rfl, ⟨h0, h1, h2, h3⟩, h⟩
  refine ⟨rfl, ?_⟩
  simp -implicitDefEqProofs [t_are_volatilities, startD, N_are_volatilities]
  rw [if_neg (by omega), if_neg (by omega)]
  refine ⟨by omega, compD_map (fun _ => True) (fun x => some (.bl (match x with | .int v => decide (1 ≤ v) && decide (v ≤ 12) | _ => false))) (fun _ _ => trivial) _ _ _ ?_ trivial ?_⟩
  · intro x hx
    obtain ⟨v, hv, rfl⟩ := List.mem_map.mp hx
    refine ⟨_, rfl, fun τ Q _ k => ?_⟩
    simp -implicitDefEqProofs [wipeD, callL_d3, sp_is_between]
    exact ⟨_, _, _, ⟨rfl, rfl, rfl⟩, fun τ' => k _ trivial⟩
  · intro τ' _
    obtain ⟨bs, e1, e2⟩ := all_true (xs := vs.map D.int) (n := 0) (fun x => (match x with | .int v => decide (1 ≤ v) && decide (v ≤ 12) | _ => false)) fun x hx => by
      obtain ⟨v, hv, rfl⟩ := List.mem_map.mp hx
      simpa using h2 v hv
    simp only [List.nil_append, qAll_, List.getElem?_concat_length, Option.some.injEq]
    refine ⟨bs, e1, ?_⟩
    rw [e2]
    simp -implicitDefEqProofs
    refine ⟨⟨by omega, by omega⟩, by rw [intsBy_length]; omega, compD_map (fun _ => True) (fun x => some (.bl true)) (fun _ _ => trivial) _ _ _ ?_ trivial ?_⟩
    · intro x hx
      obtain ⟨i, hi, rfl⟩ := ints_mem hx
      refine ⟨_, rfl, fun τ Q _ k => ?_⟩
      simp -implicitDefEqProofs [wipeD]
      rw [show (i : Int) + 1 = ((i + 1 : Nat) : Int) by omega]
      refine ⟨_, ix_vs (by omega), _, ix_vs (by omega), ?_⟩
      simp -implicitDefEqProofs
      rw [decide_eq_true ((List.pairwise_iff_getElem.mp h3) i (i + 1) (by omega) (by omega) (by omega))]
      exact k _ trivial
    · intro τ' _
      refine ⟨List.replicate (intsBy 1 0 ((vs.length : Int) - 1).toNat).length true, ?_, ?_⟩
      · have en : ((vs.length : Int) - 1).toNat = vs.length - 1 := by omega
        simp only [List.nil_append, List.getElem?_concat_length, Option.some.injEq, filterMap_some, List.map_const', List.map_replicate, en]
      · simp -implicitDefEqProofs
        exact h _
theorem rd_check_volatilities : Rd sp_check_volatilities 1 N_check_volatilities t_check_volatilities := by
  rintro ws τ R ⟨vs, rfl, hv, h⟩
  refine ⟨rfl, ?_⟩
  simp -implicitDefEqProofs [t_check_volatilities, startD, N_check_volatilities, callL_d1, sp_are_volatilities]
  exact ⟨vs, rfl, hv, fun τ' => h _⟩
theorem word_l (w : Bool) : decide ((if w = true then ("over" : Str) else "left") = "left") = !w := by cases w <;> decide +kernel
theorem word_o (w : Bool) : decide ((if w = true then ("over" : Str) else "left") = "over") = w := by cases w <;> decide +kernel
theorem word_2 (w v : Bool) : decide ((if w = true then ("over" : Str) else "left") = (if v = true then ("over" : Str) else "left")) = decide (w = v) := by cases w <;> cases v <;> decide +kernel
theorem word_in (w : Bool) : (if w = true then ("over" : Str) else "left") ∈ (["over", "left"] : List Str) := by cases w <;> decide +kernel
theorem rd_is_still_target : Rd sp_is_still_target 2 N_is_still_target t_is_still_target := by
  rintro ws τ R ⟨vs, t, rfl, ⟨h0, h1, h2, h3, h4⟩, h⟩
  refine ⟨rfl, ?_⟩
  simp only [t_is_still_target, startD, N_is_still_target, Tgt.d]
  simp -implicitDefEqProofs
  refine ⟨["over", "left"], by simp, ?_⟩
  rw [if_pos (word_in t.w)]
  simp -implicitDefEqProofs [callL_d3, callL_d1, sp_is_between]
  refine ⟨_, _, _, ⟨rfl, rfl, rfl⟩, fun τ' => ?_⟩
  rw [if_pos ⟨by omega, by omega⟩]
  simp -implicitDefEqProofs [sp_is_inner]
  exact ⟨_, _, ⟨rfl, rfl⟩, ⟨h1, h2, h3⟩, fun τ' => h _⟩
theorem ok_ts (ts : List Tgt) : okD 4 (.tup (ts.map Tgt.d)) = true := by
  show (ts.map Tgt.d).all (okD 3) = true
  rw [List.all_eq_true]
  intro d hd
  obtain ⟨t, _, rfl⟩ := List.mem_map.mp hd
  have o : okD 2 (.str "over") = true := by decide +kernel
  have l : okD 2 (.str "left") = true := by decide +kernel
  show ([D.str (if t.w = true then "over" else "left"), .int t.i, .tup [.int t.a, .int t.b]] : List D).all (okD 2) = true
  cases t.w with
  | true => simp -implicitDefEqProofs [o]; exact ⟨rfl, rfl⟩
  | false => simp -implicitDefEqProofs [l]; exact ⟨rfl, rfl⟩
theorem at_ts {ts : List Tgt} {i : Nat} {x : D} (h : (ts.map Tgt.d)[i]? = some x) : i < ts.length ∧ ∃ t, t ∈ ts ∧ x = t.d := by
  rw [List.getElem?_map] at h
  cases e : ts[i]? with
  | none => rw [e] at h; cases h
  | some t =>
    rw [e] at h
    cases h
    exact ⟨(List.getElem?_eq_some_iff.mp e).1, t, List.mem_iff_getElem?.mpr ⟨i, e⟩, rfl⟩
theorem rd_check_targets : Rd sp_check_targets 2 N_check_targets t_check_targets := by
  rintro ws τ R ⟨vs, ts, rfl, ⟨hv, h0, h1, h2⟩, h⟩
  refine ⟨rfl, ?_⟩
  simp -implicitDefEqProofs [t_check_targets, startD, N_check_targets, callL_d1, sp_check_volatilities]
  refine ⟨vs, rfl, hv, fun τ' => ?_⟩
  have ho : okD 4 (.tup (ts.map Tgt.d)) = true := ok_ts ts
  refine qEqD_nil ho ?_
  have hne : decide (ts.map Tgt.d = []) = false := by simp -implicitDefEqProofs [h0]
  rw [hne]
  simp -implicitDefEqProofs
  refine forE_ix (fun i ρ _ => ∃ v2 v3, ρ = [some (.d (dV vs)), some (.d (dT ts)), v2, v3]) ⟨_, _, rfl⟩ ?_ ?_
  · rintro i x ρ τ2 L hx hL ⟨v2, v3, rfl⟩
    refine ⟨trivial, ?_⟩
    obtain ⟨hi, t, ht, rfl⟩ := at_ts hx
    simp -implicitDefEqProofs
    refine ⟨by omega, ?_⟩
    simp -implicitDefEqProofs [callL_d2, sp_is_still_target]
    exact ⟨vs, t, ⟨rfl, rfl⟩, h2 t ht, fun τ3 => hL _ _ ⟨_, _, rfl⟩⟩
  · rintro ρ τ2 ⟨v2, v3, rfl⟩
    exact ⟨trivial, h _⟩
theorem vol_at {vs : List Int} {i : Nat} (hv : VolOk vs) (h : i < vs.length) : ixD (vs.map D.int) (i : Nat) = some (.int (vol vs i)) ∧ 1 ≤ vol vs i ∧ vol vs i ≤ 12 := by
  have q := hv.2.2.1 vs[i] (List.getElem_mem h)
  have e : vs.getD i 0 = vs[i] := by simp -implicitDefEqProofs [h]
  unfold vol
  rw [e]
  refine ⟨?_, by omega, by omega⟩
  rw [ix_vs h]
  have : ((vs[i].toNat : Nat) : Int) = vs[i] := by omega
  rw [this]
theorem Tgt.Ok.ba {vs : List Int} {t : Tgt} (h : t.Ok vs) : Bd 1000 t.a := bd0 (Int.le_of_lt h.2.1) (Int.le_of_lt h.2.2.1) h.2.2.2.2
theorem one_ok {vs : List Int} {t : Tgt} (h : t.Ok vs) : (0 < (1 : Int) ∧ 0 < t.b ∧ Bd 1000 1 ∧ Bd 1000 1 ∧ Bd 1000 t.a ∧ Bd 1000 t.b) := by
  refine ⟨by decide, ?_, by unfold Bd; decide, by unfold Bd; decide, h.ba, h.2.2.2.2⟩
  have h1 := h.2.1
  have h2 := h.2.2.1
  omega
theorem bd_cc {vs : List Int} {t : Tgt} (h : t.Ok vs) : Bd 1000 (cc t) ∧ Bd 1000 (dd t) := by
  have h1 := h.2.1
  have h2 := h.2.2.1
  have hg : 0 < g (1 * t.b - t.a * 1) (1 * t.b) := g_pos (by omega)
  unfold cc dd
  have q : Bd 1000 (1 * t.b) := by rw [Int.one_mul]; exact h.2.2.2.2
  exact ⟨(bd0 (b := 1 * t.b) (by omega) (by omega) q).ediv hg, q.ediv hg⟩
theorem rd_is_kept_at : Rd sp_is_kept_at 3 N_is_kept_at t_is_kept_at := by
  rintro ws τ R ⟨vs, t, x, y, rfl, ⟨hv, ht, hx, hy⟩, h⟩
  refine ⟨rfl, ?_⟩
  obtain ⟨e1, e2, e3⟩ := vol_at hv ht.1
  simp only [t_is_kept_at, startD, N_is_kept_at, Tgt.d]
  simp -implicitDefEqProofs [e1, callL_d2, sp_power]
  refine ⟨_, _, _, ⟨⟨rfl, rfl⟩, rfl⟩, ⟨by omega, by omega, hx, hy⟩, fun τ' => ?_⟩
  have px := (Bd.pow12 hx e3).mono (by decide : 13000 ≤ 20000)
  have py := (Bd.pow12 hy e3).mono (by decide : 13000 ≤ 20000)
  have wl := word_l t.w
  cases hw : t.w with
  | true =>
    rw [hw] at wl
    simp -implicitDefEqProofs [hw] at wl ⊢
    rw [if_neg wl]
    simp -implicitDefEqProofs [callL_d2, sp_minus, ratI, sp_is_below]
    refine ⟨_, _, _, _, ⟨⟨rfl, rfl⟩, rfl, rfl⟩, one_ok ht, fun τ2 => ⟨_, _, _, _, ⟨⟨rfl, rfl⟩, rfl, rfl⟩, ⟨(bd_cc ht).1.mono (by decide), (bd_cc ht).2.mono (by decide), px, py⟩, fun τ3 => ?_⟩⟩
    have := h (τ ++ τ' ++ τ2 ++ τ3)
    unfold keeps at this
    rw [hw] at this
    simpa [cc, dd] using this
  | false =>
    simp -implicitDefEqProofs [hw]
    simp -implicitDefEqProofs [callL_d2, sp_is_below]
    refine ⟨_, _, _, _, ⟨⟨rfl, rfl⟩, rfl, rfl⟩, ⟨px, py, ht.ba.mono (by decide), ht.2.2.2.2.mono (by decide)⟩, fun τ3 => ?_⟩
    have := h (τ ++ τ' ++ τ3)
    unfold keeps at this
    rw [hw] at this
    simpa using this
theorem rd_do_clash : Rd sp_do_clash 3 N_do_clash t_do_clash := by
  rintro ws τ R ⟨vs, s, t, rfl, ⟨hv, sok, tok⟩, h⟩
  refine ⟨rfl, ?_⟩
  unfold doClash at h
  simp only [t_do_clash, startD, N_do_clash]
  by_cases hw : s.w = t.w
  · rw [if_pos hw] at h
    simp -implicitDefEqProofs [Tgt.d]
    rw [if_pos (by rw [hw])]
    exact h _
  · rw [if_neg hw] at h
    have ne1 : ¬ (Str.ofString "over" = Str.ofString "left") := by decide +kernel
    have ne2 : ¬ (Str.ofString "left" = Str.ofString "over") := by decide +kernel
    cases hb : s.w with
    | true =>
      have hb2 : t.w = false := by
        cases e : t.w with
        | true => exact absurd (hb.trans e.symm) hw
        | false => rfl
      rw [hb, if_pos rfl] at h
      obtain ⟨e1, e2, e3⟩ := vol_at hv (sok).1
      obtain ⟨f1, f2, f3⟩ := vol_at hv (tok).1
      have p1 := (Bd.pow12 (bd_cc sok).1 f3).mono (by decide : 13000 ≤ 20000)
      have p2 := (Bd.pow12 (bd_cc sok).2 f3).mono (by decide : 13000 ≤ 20000)
      have p3 := (Bd.pow12 (tok).ba e3).mono (by decide : 13000 ≤ 20000)
      have p4 := (Bd.pow12 (tok).2.2.2.2 e3).mono (by decide : 13000 ≤ 20000)
      simp -implicitDefEqProofs [Tgt.d, hb, hb2, ne1, ne2, e1, callL_d2]
      refine ⟨_, _, _, rfl, ⟨by omega, by omega, (tok).ba, (tok).2.2.2.2⟩, fun τ' => ?_⟩
      refine ⟨_, _, _, _, rfl, one_ok sok, fun τ2 => ?_⟩
      simp only [globW_d, ratI]
      refine ⟨_, f1, ?_⟩
      simp only [callL_d2]
      refine ⟨_, _, _, rfl, ⟨by omega, by omega, (bd_cc sok).1, (bd_cc sok).2⟩, fun τ3 => ?_⟩
      refine ⟨_, _, _, _, rfl, ⟨?_, ?_, p3, p4⟩, fun τ4 => ?_⟩
      · rw [Int.toNat_natCast]; exact p1
      · rw [Int.toNat_natCast]; exact p2
      simp only [Int.toNat_natCast]
      exact h _
    | false =>
      have hb2 : t.w = true := by
        cases e : t.w with
        | false => exact absurd (hb.trans e.symm) hw
        | true => rfl
      rw [hb, if_neg Bool.false_ne_true] at h
      obtain ⟨e1, e2, e3⟩ := vol_at hv (tok).1
      obtain ⟨f1, f2, f3⟩ := vol_at hv (sok).1
      have p1 := (Bd.pow12 (bd_cc tok).1 f3).mono (by decide : 13000 ≤ 20000)
      have p2 := (Bd.pow12 (bd_cc tok).2 f3).mono (by decide : 13000 ≤ 20000)
      have p3 := (Bd.pow12 (sok).ba e3).mono (by decide : 13000 ≤ 20000)
      have p4 := (Bd.pow12 (sok).2.2.2.2 e3).mono (by decide : 13000 ≤ 20000)
      simp -implicitDefEqProofs [Tgt.d, hb, hb2, ne1, ne2, e1, callL_d2]
      refine ⟨_, _, _, rfl, ⟨by omega, by omega, (sok).ba, (sok).2.2.2.2⟩, fun τ' => ?_⟩
      refine ⟨_, _, _, _, rfl, one_ok tok, fun τ2 => ?_⟩
      simp only [globW_d, ratI]
      refine ⟨_, f1, ?_⟩
      simp only [callL_d2]
      refine ⟨_, _, _, rfl, ⟨by omega, by omega, (bd_cc tok).1, (bd_cc tok).2⟩, fun τ3 => ?_⟩
      refine ⟨_, _, _, _, rfl, ⟨?_, ?_, p3, p4⟩, fun τ4 => ?_⟩
      · rw [Int.toNat_natCast]; exact p1
      · rw [Int.toNat_natCast]; exact p2
      simp only [Int.toNat_natCast]
      exact h _
def NoB (vs : List Int) (ts : List Tgt) (i j : Nat) : Prop := ∀ (i2 j2 : Nat) (s2 t2 : Tgt), i2 < j2 → (i2 < i ∨ i2 = i ∧ j2 < j) → ts[i2]? = some s2 → ts[j2]? = some t2 → doClash vs s2 t2 = false
theorem ix_ts {ts : List Tgt} {i : Nat} {t : Tgt} (h : ts[i]? = some t) : ixD (ts.map Tgt.d) (i : Nat) = some t.d := by
  rw [ixD_nat, List.getElem?_map, h]
  rfl
theorem NoB.row {vs : List Int} {ts : List Tgt} {i : Nat} (h : NoB vs ts i ts.length) : NoB vs ts (i + 1) 0 := fun i2 j2 s2 t2 hl hc hs ht => by
  have hj := (List.getElem?_eq_some_iff.mp ht).1
  exact h i2 j2 s2 t2 hl (by omega) hs ht
theorem NoB.step {vs : List Int} {ts : List Tgt} {i j : Nat} {s t : Tgt} (h : NoB vs ts i j) (hs : ts[i]? = some s) (ht : ts[j]? = some t) (hc : doClash vs s t = false) : NoB vs ts i (j + 1) := fun i2 j2 s2 t2 hl hcc hs2 ht2 => by
  by_cases e : i2 = i ∧ j2 = j
  · obtain ⟨rfl, rfl⟩ := e
    rw [hs] at hs2
    rw [ht] at ht2
    cases hs2
    cases ht2
    exact hc
  · exact h i2 j2 s2 t2 hl (by omega) hs2 ht2
theorem rd_clash_by : Rd sp_clash_by 2 N_clash_by t_clash_by := by
  rintro ws τ R ⟨vs, ts, rfl, ⟨hv, h0, h1, h2⟩, h⟩
  refine ⟨rfl, ?_⟩
  simp -implicitDefEqProofs [t_clash_by, startD, N_clash_by]
  refine forE_ix (fun i ρ _ => NoB vs ts i 0 ∧ ∃ v2 v3 v4, ρ = [some (.d (dV vs)), some (.d (dT ts)), v2, v3, v4]) ⟨fun _ _ _ _ _ hc => by omega, _, _, _, rfl⟩ ?_ ?_
  · rintro i x ρ τ2 L hx hL ⟨hN, v2, v3, v4, rfl⟩
    refine ⟨trivial, ?_⟩
    have e : ∃ s, ts[i]? = some s ∧ x = s.d := by
      rw [List.getElem?_map] at hx
      cases e : ts[i]? with
      | none => rw [e] at hx; cases hx
      | some t => rw [e] at hx; cases hx; exact ⟨t, rfl, rfl⟩
    obtain ⟨s, hs, rfl⟩ := e
    have hi := (List.getElem?_eq_some_iff.mp hs).1
    have hso := h2 s (List.mem_iff_getElem?.mpr ⟨i, hs⟩)
    simp -implicitDefEqProofs
    refine ⟨⟨⟨by omega, by omega⟩, by omega, by omega⟩, ?_⟩
    refine forR_ix (fun k ρ _ => NoB vs ts i (i + 1 + k) ∧ ∃ v2, ρ = [some (.d (dV vs)), some (.d (dT ts)), v2, some (.d (.int i)), some (.d s.d)]) ⟨fun i2 j2 s2 t2 hl hc => hN i2 j2 s2 t2 hl (by omega), _, rfl⟩ ?_ ?_
    · rintro k ρ τ3 L2 hk hL2 ⟨hN2, v2, rfl⟩
      refine ⟨trivial, ?_⟩
      have hj : i + 1 + k < ts.length := by omega
      have ht : ts[i + 1 + k]? = some ts[i + 1 + k] := List.getElem?_eq_getElem hj
      have hto := h2 _ (List.getElem_mem hj)
      generalize ts[i + 1 + k] = t at ht hto
      simp -implicitDefEqProofs
      rw [show (i : Int) + 1 + (k : Int) = ((i + 1 + k : Nat) : Int) by omega]
      refine ⟨_, ix_ts ht, ?_⟩
      simp -implicitDefEqProofs [callL_d3]
      refine ⟨vs, s, t, rfl, ⟨hv, hso, hto⟩, fun τ4 => ?_⟩
      cases hc : doClash vs s t with
      | true =>
        simp -implicitDefEqProofs
        refine h (.tup [.int i, .int ((i : Int) + 1 + k)]) _ ⟨i, i + 1 + k, s, t, rfl, by omega, by omega, hs, ht, hc, hN2⟩
      | false =>
        simp -implicitDefEqProofs
        exact hL2 _ _ ⟨hN2.step hs ht hc, _, rfl⟩
    · rintro ρ τ3 ⟨hN2, v2, rfl⟩
      refine ⟨trivial, hL _ _ ⟨NoB.row (by rw [show i + 1 + ((ts.length : Int) - ((i : Int) + 1)).toNat = ts.length by omega] at hN2; exact hN2), _, _, _, rfl⟩⟩
  · rintro ρ τ2 ⟨hN, v2, v3, v4, rfl⟩
    refine ⟨trivial, ?_⟩
    simp -implicitDefEqProofs
    refine h .non _ fun i j s t hl hs ht => hN i j s t hl (Or.inl ?_) hs ht
    rw [List.length_map]
    exact (List.getElem?_eq_some_iff.mp hs).1
theorem rd_are_kept_at : Rd sp_are_kept_at 3 N_are_kept_at t_are_kept_at := by
  rintro ws τ R ⟨vs, ts, x, y, rfl, ⟨⟨hv, h0, h1, h2⟩, hx, hy⟩, h⟩
  refine ⟨rfl, ?_⟩
  simp -implicitDefEqProofs [t_are_kept_at, startD, N_are_kept_at]
  refine ⟨by omega, ?_⟩
  have hf : ∃ f : D → Bool, ∀ t, t ∈ ts → f t.d = keeps vs t x y := ⟨fun d => match d with
    | .tup [.str w, .int i, .tup [.int a, .int b]] => keeps vs ⟨decide (w = "over"), i.toNat, a, b⟩ x y
    | _ => false, fun t _ => by
      show keeps vs ⟨decide ((if t.w = true then ("over" : Str) else "left") = "over"), ((t.i : Nat) : Int).toNat, t.a, t.b⟩ x y = keeps vs t x y
      rw [word_o, Int.toNat_natCast]⟩
  obtain ⟨f, hf⟩ := hf
  refine compD_map (fun _ => True) (fun d => some (.bl (f d))) (fun _ _ => trivial) _ _ _ ?_ trivial ?_
  · intro d hd
    obtain ⟨t, ht, rfl⟩ := List.mem_map.mp hd
    refine ⟨_, rfl, fun τ Q _ k => ?_⟩
    simp -implicitDefEqProofs [wipeD, callL_d3]
    refine ⟨vs, t, _, _, rfl, ⟨hv, h2 t ht, hx, hy⟩, fun τ' => ?_⟩
    rw [← hf t ht]
    exact k _ trivial
  · intro τ' _
    refine ⟨ts.map fun t => keeps vs t x y, ?_, ?_⟩
    · simp only [List.nil_append, List.getElem?_concat_length, Option.some.injEq, filterMap_some, List.map_map]
      exact List.map_congr_left fun t ht => by
        show D.bl (f t.d) = D.bl (keeps vs t x y)
        rw [hf t ht]
    · have e : (ts.map fun t => keeps vs t x y).all id = allKeep vs ts x y := by
        unfold allKeep
        rw [List.all_map]
        rfl
      rw [e]
      exact h _
theorem rd_still_keeps : Rd sp_still_keeps 3 N_still_keeps t_still_keeps := by
  rintro ws τ R ⟨vs, ts, x, y, rfl, ⟨ho, hy, h0, h1, hg⟩, h⟩
  refine ⟨rfl, ?_⟩
  simp -implicitDefEqProofs [t_still_keeps, startD, N_still_keeps, callL_d2, callL_d1, callL_d3]
  refine ⟨vs, ts, rfl, ho, fun τ' => ?_⟩
  refine ⟨_, _, rfl, ⟨h0, h1, hg⟩, fun τ2 => ?_⟩
  exact ⟨vs, ts, x, y, rfl, ⟨ho, bd0 (by omega) h1 hy, hy⟩, fun τ3 => h _⟩
theorem rd_can_keep : Rd sp_can_keep 2 N_can_keep t_can_keep := by
  rintro ws τ R ⟨vs, ts, rfl, ho, h⟩
  refine ⟨rfl, ?_⟩
  simp -implicitDefEqProofs [t_can_keep, startD, N_can_keep, callL_d2]
  refine ⟨vs, ts, rfl, ho, fun τ' => ⟨vs, ts, rfl, ho, fun y τ2 hy => ?_⟩⟩
  have := h y (τ ++ τ' ++ τ2) hy
  cases y with
  | non => simpa [isNon] using this
  | tup xs => simpa [isNon] using this
  | bl b => exact False.elim hy
  | int b => exact False.elim hy
  | str b => exact False.elim hy
  | rol b => exact False.elim hy
theorem rd_still_clash : Rd sp_still_clash 2 N_still_clash t_still_clash := by
  rintro ws τ R ⟨vs, ts, rfl, ho, h⟩
  refine ⟨rfl, ?_⟩
  simp -implicitDefEqProofs [t_still_clash, startD, N_still_clash, callL_d2]
  exact ⟨vs, ts, rfl, ho, fun τ' => ⟨vs, ts, rfl, ho, fun y τ2 hy => h y _ hy⟩⟩
theorem rd_depth_for : Rd sp_depth_for 3 N_depth_for t_depth_for := by
  rintro ws τ R ⟨vs, ts, n, rfl, ⟨ho, h0, h1⟩, h⟩
  refine ⟨rfl, ?_⟩
  simp -implicitDefEqProofs [t_depth_for, startD, N_depth_for, callL_d2, callL_d1, callL_d3]
  refine ⟨vs, ts, rfl, ho, fun τ' => ?_⟩
  refine ⟨_, rfl, ⟨h0, h1⟩, fun τ2 => ?_⟩
  simp -implicitDefEqProofs
  refine ⟨⟨⟨by omega, by omega⟩, by unfold small62; omega⟩, ?_⟩
  refine forR_ix (fun i ρ _ => (∀ k, n - i < k → k ≤ n → allKeep vs ts (k / g k n) (n / g k n) = false) ∧ ∃ v, ρ = [some (.d (dV vs)), some (.d (dT ts)), some (.d (.int n)), v]) ⟨fun k _ _ => by omega, _, rfl⟩ ?_ ?_
  · rintro i ρ τ3 L hi hL ⟨hN, v, rfl⟩
    refine ⟨trivial, ?_⟩
    have hn : 0 < n := by omega
    have bn : Bd 5000 n := (bd_of (by omega) (by omega)).mono (by decide)
    simp -implicitDefEqProofs [callL_d2]
    refine ⟨_, _, rfl, ⟨hn, bn⟩, fun τ4 => ?_⟩
    simp -implicitDefEqProofs [callL_d3, ratI]
    have hg : 0 < g (n + -(i : Int)) n := g_pos hn
    have b1 : Bd 1000 n := (bd_of (by omega) (by omega)).mono (by decide)
    have b2 : Bd 1000 (n + -(i : Int)) := (bd_of (by omega) (by omega)).mono (by decide)
    refine ⟨vs, ts, _, _, rfl, ⟨ho, b2.ediv hg, b1.ediv hg⟩, fun τ5 => ?_⟩
    cases hk : allKeep vs ts ((n + -(i : Int)) / g (n + -(i : Int)) n) (n / g (n + -(i : Int)) n) with
    | true =>
      simp -implicitDefEqProofs
      exact h (.int (n + -(i : Int))) _ ⟨by omega, by omega, hk, fun k2 q1 q2 => hN k2 (by omega) q2⟩
    | false =>
      simp -implicitDefEqProofs
      refine hL _ _ ⟨fun k q1 q2 => ?_, _, rfl⟩
      by_cases e : k = n + -(i : Int)
      · rw [e]
        exact hk
      · exact hN k (by omega) q2
  · rintro ρ τ3 ⟨hN, v, rfl⟩
    refine ⟨trivial, ?_⟩
    simp -implicitDefEqProofs
    exact h .non _ fun k q1 q2 => hN k (by omega) q2
theorem TapV.mono {n m : Nat} {t : List D} (h : TapV n t) (hl : n ≤ m) (hm : m ≤ 1000000) : TapV m t := by
  obtain ⟨a, b, c, e, h1, h2, h3, h4, h5, h6⟩ := h
  exact ⟨a, b, c, e, h1, h2, h3, h4, by omega, hm⟩
theorem rd_law_drop : Rd sp_law_drop 2 N_law_drop t_law_drop := by
  rintro ws τ R ⟨top, n, t, rfl, rfl, ⟨h0, h1⟩, hn, ⟨a, b, c, rfl, a0, b0, b1, c0, c1, c2⟩, h⟩
  refine ⟨rfl, ?_⟩
  simp -implicitDefEqProofs [t_law_drop, startD, N_law_drop]
  by_cases ha : 0 < a
  · rw [if_pos ha]
    refine ⟨⟨h0, by omega⟩, h _ _ _ (Int.emod_nonneg a (by omega)) (Int.emod_lt_of_pos a h0) ⟨a / top, b, c, rfl, Int.ediv_nonneg a0 (by omega), b0, b1, c0, by omega, hn⟩⟩
  · rw [if_neg ha]
    have m1 : CMulW 4 (c + 1) := (bd_of (by decide) (by decide)).cm (b := 30) (by unfold Bd; omega)
    have m2 : CMulW b (25117 + 4 * (c + 1)) := Bd.cm (a := 31) (b := 30) (by unfold Bd; omega) (by unfold Bd; omega)
    have m3 : CMulW 60029 (c + 1) := (bd_of (by decide) (by decide)).cm (b := 30) (by unfold Bd; omega)
    refine ⟨m1, m2, m3, ?_⟩
    have hx := Int.emod_nonneg (b * (25117 + 4 * (c + 1)) + 60029 * (c + 1) + 7) (by decide : (2147483549 : Int) ≠ 0)
    have hy := Int.emod_lt_of_pos (b * (25117 + 4 * (c + 1)) + 60029 * (c + 1) + 7) (by decide : (0 : Int) < 2147483549)
    generalize (b * (25117 + 4 * (c + 1)) + 60029 * (c + 1) + 7) % 2147483549 = z at hx hy
    exact ⟨Bd.dv (b := 20) (by decide) (by unfold Bd; decide), h0, h _ _ _ (Int.emod_nonneg _ (by omega)) (Int.emod_lt_of_pos _ h0) ⟨a, z, c + 1, rfl, a0, hx, hy, by omega, by omega, hn⟩⟩
theorem rd_law_one : Rd sp_law_one 2 N_law_one t_law_one := by
  rintro ws τ R ⟨xs, n, t, rfl, rfl, ⟨h0, h1⟩, hn, ht, h⟩
  refine ⟨rfl, ?_⟩
  simp -implicitDefEqProofs [t_law_one, startD, N_law_one, callL_l1]
  refine ⟨_, n, t, rfl, rfl, ⟨by omega, by omega⟩, hn, ht, fun v t' r v0 v1 ht' => ?_⟩
  simp -implicitDefEqProofs
  obtain ⟨k, rfl⟩ : ∃ k : Nat, v = (k : Nat) := ⟨v.toNat, by omega⟩
  have hk : k < xs.length := by omega
  refine ⟨xs[k], by rw [ixD_nat, List.getElem?_eq_getElem hk], h _ _ _ (List.getElem_mem hk) ht'⟩
theorem rd_law_ratio : Rd sp_law_ratio 2 N_law_ratio t_law_ratio := by
  rintro ws τ R ⟨a, b, rfl, ⟨h0, ba, bb⟩, h⟩
  refine ⟨rfl, ?_⟩
  simp -implicitDefEqProofs [t_law_ratio, startD, N_law_ratio]
  refine while_ind (fun m ρ _ => ∃ p q : Nat, ρ = [some (.d (.int a)), some (.d (.int b)), some (.d (.int (p : Nat))), some (.d (.int (q : Nat))), none] ∧ q = m ∧ Nat.gcd p q = Nat.gcd a.natAbs b.natAbs) ?_ b.natAbs _ _ ?_
  · rintro m ρ τ2 L hL ⟨p, q, rfl, rfl, hg⟩
    simp -implicitDefEqProofs
    by_cases hq : 0 < q
    · rw [if_pos hq]
      refine ⟨hq, hL (p % q) _ _ (Nat.mod_lt _ hq) ⟨q, p % q, by rw [Int.natCast_emod], rfl, ?_⟩⟩
      rw [Nat.gcd_comm, ← Nat.gcd_rec, Nat.gcd_comm, hg]
    · rw [if_neg hq]
      have q0 : q = 0 := by omega
      subst q0
      rw [Nat.gcd_zero_right] at hg
      have hnb : ¬ b < 0 := by omega
      simp -implicitDefEqProofs [hnb]
      rw [hg]
      have hgp := g_pos (a := a) h0
      have b1 : Bd 5000 1 := by unfold Bd; decide
      have cd : ∀ x, CDivW x (g a b) := fun x => Bd.dv hgp (g_bd h0 bb)
      refine ⟨b1.cm ba, cd _, b1.cm bb, cd _, ?_⟩
      have := h τ2
      unfold ratI at this
      exact this
  · refine ⟨a.natAbs, b.natAbs, ?_, rfl, rfl⟩
    have e1 : (if a < 0 then -a else a) = ((a.natAbs : Nat) : Int) := by split <;> omega
    have e2 : (if b < 0 then -b else b) = ((b.natAbs : Nat) : Int) := by split <;> omega
    rw [e1, e2]
theorem rd_law_plus : Rd sp_law_plus 2 N_law_plus t_law_plus := by
  rintro ws τ R ⟨a, b, c, d, rfl, ⟨h0, h1, ha, hb, hc, hd⟩, h⟩
  refine ⟨rfl, ?_⟩
  simp -implicitDefEqProofs [t_law_plus, startD, N_law_plus, callL_d2]
  exact ⟨ha.cm hd, hc.cm hb, hb.cm hd, _, _, rfl, ⟨Int.mul_pos h0 h1, ((ha.mul hd).add (hc.mul hb)).mono (by decide), (hb.mul hd).mono (by decide)⟩, fun τ' => h _⟩
theorem rd_law_less : Rd sp_law_less 2 N_law_less t_law_less := by
  rintro ws τ R ⟨a, b, c, d, rfl, ⟨h0, h1, ha, hb, hc, hd⟩, h⟩
  refine ⟨rfl, ?_⟩
  simp -implicitDefEqProofs [t_law_less, startD, N_law_less, callL_d2]
  exact ⟨ha.cm hd, hc.cm hb, hb.cm hd, _, _, rfl, ⟨Int.mul_pos h0 h1, ((ha.mul hd).sub (hc.mul hb)).mono (by decide), (hb.mul hd).mono (by decide)⟩, fun τ' => h _⟩
theorem rd_law_sign : Rd sp_law_sign 2 N_law_sign t_law_sign := by
  rintro ws τ R ⟨a, b, c, d, rfl, ⟨ha, hb, hc, hd⟩, h⟩
  refine ⟨rfl, ?_⟩
  simp -implicitDefEqProofs [t_law_sign, startD, N_law_sign]
  refine ⟨ha.cm hd, hc.cm hb, ?_⟩
  have := h τ
  unfold sg at this
  by_cases e : 0 < a * d - c * b
  · rw [if_pos e] at this
    rw [if_pos (by omega)]
    exact this
  · rw [if_neg e] at this
    rw [if_neg (by omega)]
    by_cases e2 : a * d - c * b < 0
    · rw [if_pos e2] at this
      rw [if_pos (by omega)]
      exact this
    · rw [if_neg e2] at this
      rw [if_neg (by omega)]
      exact this
theorem rd_law_power : Rd sp_law_power 2 N_law_power t_law_power := by
  rintro ws τ R ⟨a, b, n, rfl, ⟨h0, h1, ha, hb⟩, h⟩
  refine ⟨rfl, ?_⟩
  simp -implicitDefEqProofs [t_law_power, startD, N_law_power]
  refine ⟨⟨by omega, by omega⟩, ?_⟩
  refine forR_ix (fun i ρ _ => ∃ v, ρ = [some (.d (.tup [.int a, .int b])), some (.d (.int n)), some (.d (.tup [.int (a ^ i), .int (b ^ i)])), v]) ⟨none, by simp -implicitDefEqProofs⟩ ?_ ?_
  · rintro i ρ τ L hi hL ⟨v, rfl⟩
    refine ⟨trivial, ?_⟩
    simp -implicitDefEqProofs
    refine ⟨(Bd.pow12 ha (by omega)).cm ha, (Bd.pow12 hb (by omega)).cm hb, hL _ _ ⟨_, by rw [Int.pow_succ, Int.pow_succ]⟩⟩
  · rintro ρ τ ⟨v, rfl⟩
    refine ⟨trivial, ?_⟩
    simp -implicitDefEqProofs
    exact h _
theorem red {a b : Int} (h0 : 0 ≤ a) (h1 : 0 < b) : g (a / g a b) (b / g a b) = 1 := by
  obtain ⟨A, rfl⟩ : ∃ A : Nat, a = (A : Nat) := ⟨a.toNat, by omega⟩
  obtain ⟨B, rfl⟩ : ∃ B : Nat, b = (B : Nat) := ⟨b.toNat, by omega⟩
  unfold g
  rw [Int.natAbs_natCast, Int.natAbs_natCast, ← Int.natCast_ediv, ← Int.natCast_ediv, Int.natAbs_natCast, Int.natAbs_natCast]
  have : Nat.gcd (A / Nat.gcd A B) (B / Nat.gcd A B) = 1 := Nat.coprime_div_gcd_div_gcd (Nat.gcd_pos_of_pos_right _ (by omega))
  rw [this]
  rfl
/-- a = g a', b = g b' -/
theorem red_eq {a b : Int} (h1 : 0 < b) : 0 < g a b ∧ a = g a b * (a / g a b) ∧ b = g a b * (b / g a b) := ⟨g_pos h1, (Int.mul_ediv_cancel' g_dvdl).symm, (Int.mul_ediv_cancel' g_dvdr).symm⟩
theorem red_pos {a b : Int} (h0 : 0 < a) (h1 : 0 < b) : 0 < a / g a b := by
  obtain ⟨q1, q2, _⟩ := red_eq (a := a) h1
  rcases Int.lt_or_le 0 (a / g a b) with z | z
  · exact z
  · exfalso
    have : g a b * (a / g a b) ≤ 0 := Int.mul_nonpos_of_nonneg_of_nonpos (by omega) z
    omega
theorem red_posb {a b : Int} (h1 : 0 < b) : 0 < b / g a b := by
  obtain ⟨q1, _, q2⟩ := red_eq (a := a) h1
  rcases Int.lt_or_le 0 (b / g a b) with z | z
  · exact z
  · exfalso
    have : g a b * (b / g a b) ≤ 0 := Int.mul_nonpos_of_nonneg_of_nonpos (by omega) z
    omega
theorem red_lt {a b : Int} (h : a < b) (h1 : 0 < b) : a / g a b < b / g a b := by
  obtain ⟨q1, q2, q3⟩ := red_eq (a := a) h1
  refine Int.lt_of_mul_lt_mul_left (a := g a b) ?_ (by omega)
  omega
theorem red_le {a b : Int} (h : a ≤ b) (h1 : 0 < b) : a / g a b ≤ b / g a b := Int.ediv_le_ediv (g_pos h1) h
theorem red_leb {a b : Int} (h1 : 0 < b) : b / g a b ≤ b := Int.ediv_le_self _ (by omega)
theorem rd_law_inner : Rd sp_law_inner 1 N_law_inner t_law_inner := by
  rintro ws τ R ⟨n, t, rfl, rfl, hn, ht, h⟩
  refine ⟨rfl, ?_⟩
  simp -implicitDefEqProofs [t_law_inner, startD, N_law_inner, callL_l1]
  refine ⟨_, n, t, rfl, rfl, ⟨by decide, by decide⟩, by omega, ht, fun v t1 r1 v0 v1 ht1 => ?_⟩
  simp -implicitDefEqProofs [callL_l1]
  refine ⟨_, n + 1, t1, rfl, rfl, ⟨by omega, by omega⟩, by omega, ht1, fun u t2 r2 u0 u1 ht2 => ?_⟩
  simp -implicitDefEqProofs [callL_d2]
  refine ⟨_, _, rfl, ⟨by omega, (bd_of (by omega) (by omega)).mono (by decide), (bd_of (by omega) (by omega)).mono (by decide)⟩, fun τ' => ?_⟩
  simp -implicitDefEqProofs [ratI]
  have p : 0 < 2 + v := by omega
  refine h _ _ _ _ (red_pos (by omega) p) (red_lt (by omega) p) (Int.le_trans (red_leb p) (by omega)) (red (by omega) p) ht2
/-- a call with the tap and the list made last -/
theorem callL_one {sp : Spx} {t xs : List D} {σ σ0 : Sto} {k : Nat} {R : XK1} (hs : σ = σ0 ++ [xs]) (hk : k = σ0.length + 1) (h : sp [.l 0, .l 1] [t, xs] fun w τ' => R (globW [0, k] (σ.length + 1) w) (backS (t :: σ) [0, k] τ')) : callL sp [.l 0, .l k] (t :: σ) R := by
  subst hs hk
  unfold callL
  simp -implicitDefEqProofs [refs, apart, DL.locs, subS]
  simpa using h
theorem backS_2 {t t' xs ys : List D} {σ σ0 r : Sto} {k : Nat} (hs : σ = σ0 ++ [xs]) (hk : k = σ0.length + 1) : backS (t :: σ) [0, k] (t' :: ys :: r) = t' :: (σ0 ++ [ys] ++ r) := by
  subst hs hk
  simp [backS]
theorem rd_law_depth : Rd sp_law_depth 1 N_law_depth t_law_depth := by
  rintro ws τ R ⟨n, t, rfl, rfl, hn, ht, h⟩
  refine ⟨rfl, ?_⟩
  simp -implicitDefEqProofs [t_law_depth, startD, N_law_depth, callL_l0]
  refine ⟨n, t, rfl, rfl, by omega, ht, fun a b t1 r1 a0 a1 a2 a3 ht1 => ?_⟩
  simp -implicitDefEqProofs [callL_l0]
  refine ⟨n + 2, t1, rfl, rfl, by omega, ht1, fun a' b' t2 r2 b0 b1 b2 b3 ht2 => ?_⟩
  simp -implicitDefEqProofs [callL_l1]
  refine ⟨_, n + 4, t2, rfl, rfl, ⟨by decide, by decide⟩, by omega, ht2, fun v t3 r3 v0 v1 ht3 => ?_⟩
  simp -implicitDefEqProofs
  refine callL_one (xs := [.tup [.int 1, .int 1], .tup [.int a, .int b], .tup [.int a', .int b'], .tup [.int 1, .int (1 + v)]]) (σ0 := r1 ++ (r2 ++ r3)) (by simp only [List.append_assoc]) (by simp only [List.length_append]) ?_
  refine ⟨_, n + 5, t3, rfl, rfl, ⟨by simp, by simp⟩, by omega, ht3, fun x t4 r4 hx ht4 => ?_⟩
  have hm := ht4.mono (m := n + 10) (by omega) hn
  simp -implicitDefEqProofs only [globW_d]
  rw [backS_2 (xs := [.tup [.int 1, .int 1], .tup [.int a, .int b], .tup [.int a', .int b'], .tup [.int 1, .int (1 + v)]]) (σ0 := r1 ++ (r2 ++ r3)) (by simp only [List.append_assoc]) (by simp only [List.length_append])]
  simp -implicitDefEqProofs at hx
  rcases hx with rfl | rfl | rfl | rfl
  · exact h 1 1 _ _ (by decide) (by decide) (by decide) (by decide) hm
  · exact h _ _ _ _ a0 (by omega) (by omega) a3 hm
  · exact h _ _ _ _ b0 (by omega) (by omega) b3 hm
  · refine h _ _ _ _ (by decide) (by omega) (by omega) ?_ hm
    unfold g
    rw [show (1 : Int).natAbs = 1 from rfl, Nat.gcd_one_left]
    rfl
theorem rd_law_do_clash : Rd sp_law_do_clash 3 N_law_do_clash t_law_do_clash := by
  rintro ws τ R ⟨vs, s, t, rfl, ⟨hv, sok, tok⟩, h⟩
  refine ⟨rfl, ?_⟩
  unfold doClash at h
  simp only [t_law_do_clash, startD, N_law_do_clash]
  have ne1 : ¬ (Str.ofString "over" = Str.ofString "left") := by decide +kernel
  have ne2 : ¬ (Str.ofString "left" = Str.ofString "over") := by decide +kernel
  have sgp : ∀ x : Int, decide (0 < sg x) = decide (0 < x) := fun x => by
    unfold sg
    split
    · simp [*]
    · split <;> simp <;> omega
  by_cases hw : s.w = t.w
  · rw [if_pos hw] at h
    simp -implicitDefEqProofs [Tgt.d]
    rw [if_pos (by rw [hw])]
    exact h _
  · rw [if_neg hw] at h
    cases hb : s.w with
    | true =>
      have hb2 : t.w = false := by
        cases e : t.w with
        | true => exact absurd (hb.trans e.symm) hw
        | false => rfl
      rw [hb, if_pos rfl] at h
      obtain ⟨e1, e2, e3⟩ := vol_at hv (sok).1
      obtain ⟨f1, f2, f3⟩ := vol_at hv (tok).1
      have p1 := (Bd.pow12 (bd_cc sok).1 f3).mono (by decide : 13000 ≤ 20000)
      have p2 := (Bd.pow12 (bd_cc sok).2 f3).mono (by decide : 13000 ≤ 20000)
      have p3 := (Bd.pow12 (tok).ba e3).mono (by decide : 13000 ≤ 20000)
      have p4 := (Bd.pow12 (tok).2.2.2.2 e3).mono (by decide : 13000 ≤ 20000)
      simp -implicitDefEqProofs [Tgt.d, hb, hb2, ne1, ne2, f1, e1, callL_d2]
      refine ⟨_, _, _, _, rfl, one_ok sok, fun τ2 => ?_⟩
      simp -implicitDefEqProofs only [globW_d, ratI, callL_d2]
      refine ⟨_, _, _, rfl, ⟨by omega, by omega, (bd_cc sok).1, (bd_cc sok).2⟩, fun τ3 => ?_⟩
      refine ⟨_, _, _, rfl, ⟨by omega, by omega, (tok).ba, (tok).2.2.2.2⟩, fun τ' => ?_⟩
      simp -implicitDefEqProofs [callL_d2]
      simp only [cc, dd, Int.one_mul, Int.mul_one] at p1 p2
      refine ⟨_, _, _, _, rfl, ⟨p3, p4, p1, p2⟩, fun τ4 => ?_⟩
      simp -implicitDefEqProofs [sgp]
      have h' := fun τ' => h τ'
      simp only [clash, cc, dd, Int.one_mul, Int.mul_one] at h'
      exact h' _
    | false =>
      have hb2 : t.w = true := by
        cases e : t.w with
        | false => exact absurd (hb.trans e.symm) hw
        | true => rfl
      rw [hb, if_neg Bool.false_ne_true] at h
      obtain ⟨e1, e2, e3⟩ := vol_at hv (tok).1
      obtain ⟨f1, f2, f3⟩ := vol_at hv (sok).1
      have p1 := (Bd.pow12 (bd_cc tok).1 f3).mono (by decide : 13000 ≤ 20000)
      have p2 := (Bd.pow12 (bd_cc tok).2 f3).mono (by decide : 13000 ≤ 20000)
      have p3 := (Bd.pow12 (sok).ba e3).mono (by decide : 13000 ≤ 20000)
      have p4 := (Bd.pow12 (sok).2.2.2.2 e3).mono (by decide : 13000 ≤ 20000)
      simp -implicitDefEqProofs [Tgt.d, hb, hb2, ne1, ne2, f1, e1, callL_d2]
      refine ⟨_, _, _, _, rfl, one_ok tok, fun τ2 => ?_⟩
      simp -implicitDefEqProofs only [globW_d, ratI, callL_d2]
      refine ⟨_, _, _, rfl, ⟨by omega, by omega, (bd_cc tok).1, (bd_cc tok).2⟩, fun τ3 => ?_⟩
      refine ⟨_, _, _, rfl, ⟨by omega, by omega, (sok).ba, (sok).2.2.2.2⟩, fun τ' => ?_⟩
      simp -implicitDefEqProofs [callL_d2]
      simp only [cc, dd, Int.one_mul, Int.mul_one] at p1 p2
      refine ⟨_, _, _, _, rfl, ⟨p3, p4, p1, p2⟩, fun τ4 => ?_⟩
      simp -implicitDefEqProofs [sgp]
      have h' := fun τ' => h τ'
      simp only [clash, cc, dd, Int.one_mul, Int.mul_one] at h'
      exact h' _
theorem rd_law_first_clash : Rd sp_law_first_clash 2 N_law_first_clash t_law_first_clash := by
  rintro ws τ R ⟨vs, ts, rfl, ⟨hv, h0, h1, h2⟩, h⟩
  refine ⟨rfl, ?_⟩
  simp -implicitDefEqProofs [t_law_first_clash, startD, N_law_first_clash]
  refine ⟨⟨by omega, by omega⟩, ?_⟩
  refine forR_ix (fun i ρ _ => NoB vs ts i 0 ∧ ∃ v2 v3, ρ = [some (.d (dV vs)), some (.d (dT ts)), v2, v3]) ⟨fun _ _ _ _ _ hc => by omega, _, _, rfl⟩ ?_ ?_
  · rintro i ρ τ2 L hi' hL ⟨hN, v2, v3, rfl⟩
    refine ⟨trivial, ?_⟩
    have hi : i < ts.length := by omega
    have hs : ts[i]? = some ts[i] := List.getElem?_eq_getElem hi
    have hso := h2 _ (List.getElem_mem hi)
    generalize ts[i] = s at hs hso
    simp -implicitDefEqProofs
    refine ⟨⟨⟨by omega, by omega⟩, by omega, by omega⟩, ?_⟩
    refine forR_ix (fun k ρ _ => NoB vs ts i (i + 1 + k) ∧ ∃ v2, ρ = [some (.d (dV vs)), some (.d (dT ts)), v2, some (.d (.int i))]) ⟨fun i2 j2 s2 t2 hl hc => hN i2 j2 s2 t2 hl (by omega), _, rfl⟩ ?_ ?_
    · rintro k ρ τ3 L2 hk hL2 ⟨hN2, v2, rfl⟩
      refine ⟨trivial, ?_⟩
      have hj : i + 1 + k < ts.length := by omega
      have ht : ts[i + 1 + k]? = some ts[i + 1 + k] := List.getElem?_eq_getElem hj
      have hto := h2 _ (List.getElem_mem hj)
      generalize ts[i + 1 + k] = t at ht hto
      simp -implicitDefEqProofs
      rw [show (i : Int) + 1 + (k : Int) = ((i + 1 + k : Nat) : Int) by omega]
      refine ⟨_, ix_ts hs, _, ix_ts ht, ?_⟩
      simp -implicitDefEqProofs [callL_d3]
      refine ⟨vs, s, t, rfl, ⟨hv, hso, hto⟩, fun τ4 => ?_⟩
      cases hc : doClash vs s t with
      | true =>
        simp -implicitDefEqProofs
        refine h (.tup [.int i, .int ((i : Int) + 1 + k)]) _ ⟨i, i + 1 + k, s, t, rfl, by omega, by omega, hs, ht, hc, hN2⟩
      | false =>
        simp -implicitDefEqProofs
        exact hL2 _ _ ⟨hN2.step hs ht hc, _, rfl⟩
    · rintro ρ τ3 ⟨hN2, v2, rfl⟩
      refine ⟨trivial, hL _ _ ⟨NoB.row (by rw [show i + 1 + ((ts.length : Int) - ((i : Int) + 1)).toNat = ts.length by omega] at hN2; exact hN2), _, _, rfl⟩⟩
  · rintro ρ τ2 ⟨hN, v2, v3, rfl⟩
    refine ⟨trivial, ?_⟩
    simp -implicitDefEqProofs
    refine h .non _ fun i j s t hl hs ht => hN i j s t hl (Or.inl ?_) hs ht
    exact (List.getElem?_eq_some_iff.mp hs).1
theorem rd_law_does_keep : Rd sp_law_does_keep 3 N_law_does_keep t_law_does_keep := by
  rintro ws τ R ⟨vs, ts, x, y, rfl, ⟨⟨hv, h0, h1, h2⟩, hx, hy⟩, h⟩
  refine ⟨rfl, ?_⟩
  simp -implicitDefEqProofs [t_law_does_keep, startD, N_law_does_keep]
  have ne1 : ¬ (Str.ofString "over" = Str.ofString "left") := by decide +kernel
  have ne2 : ¬ (Str.ofString "left" = Str.ofString "over") := by decide +kernel
  have sgp : ∀ x : Int, (0 < sg x) = (0 < x) := fun x => by
    unfold sg
    split
    · simp [*]
    · split <;> simp <;> omega
  have sgn : ∀ x : Int, (sg x < 0) = (x < 0) := fun x => by
    unfold sg
    split
    · simp <;> omega
    · split <;> simp <;> omega
  refine forL_ix (fun i ρ _ => (∀ j t, j < i → ts[j]? = some t → keeps vs t x y = true) ∧ ∃ v3 v4 v5 v6, ρ = [some (.d (dV vs)), some (.d (dT ts)), some (.d (.tup [.int x, .int y])), v3, v4, v5, v6]) ⟨fun _ _ hl => by omega, _, _, _, _, rfl⟩ ?_ ?_
  · rintro i d ρ τ2 L hd hL ⟨hN, v3, v4, v5, v6, rfl⟩
    refine ⟨trivial, ?_⟩
    have e : ∃ s, ts[i]? = some s ∧ d = s.d := by
      rw [List.getElem?_map] at hd
      cases e : ts[i]? with
      | none => rw [e] at hd; cases hd
      | some t => rw [e] at hd; cases hd; exact ⟨t, rfl, rfl⟩
    obtain ⟨s, hs, rfl⟩ := e
    have ok := h2 s (List.mem_iff_getElem?.mpr ⟨i, hs⟩)
    obtain ⟨e1, e2, e3⟩ := vol_at hv ok.1
    have px := (Bd.pow12 hx e3).mono (by decide : 13000 ≤ 20000)
    have py := (Bd.pow12 hy e3).mono (by decide : 13000 ≤ 20000)
    have fin : ∀ b, keeps vs s x y = b → b = true → ∀ j t, j < i + 1 → ts[j]? = some t → keeps vs t x y = true := fun b q1 q2 j t hl hj => by
      by_cases z : j = i
      · subst z
        rw [hs] at hj
        cases hj
        rw [q1, q2]
      · exact hN j t (by omega) hj
    have bad : keeps vs s x y = false → allKeep vs ts x y = false := fun q => by
      unfold allKeep
      rw [List.all_eq_false]
      exact ⟨s, List.mem_iff_getElem?.mpr ⟨i, hs⟩, by rw [q]; decide⟩
    have kp := fin (keeps vs s x y) rfl
    unfold keeps at kp bad
    cases hw : s.w with
    | true =>
      rw [hw, if_pos rfl] at kp bad
      simp -implicitDefEqProofs [Tgt.d, hw, callL_d2, e1, ne1, ne2]
      refine ⟨_, _, _, rfl, ⟨by omega, by omega, hx, hy⟩, fun τ3 => ?_⟩
      simp -implicitDefEqProofs [callL_d2, hw, ne1, ne2]
      refine ⟨_, _, _, _, rfl, one_ok ok, fun τ4 => ?_⟩
      simp -implicitDefEqProofs [callL_d2, hw, ne1, ne2, ratI]
      have q1 := (bd_cc ok).1.mono (by decide : 1000 ≤ 20000)
      have q2 := (bd_cc ok).2.mono (by decide : 1000 ≤ 20000)
      simp only [cc, dd, Int.one_mul, Int.mul_one] at q1 q2
      refine ⟨_, _, _, _, rfl, ⟨px, py, q1, q2⟩, fun τ5 => ?_⟩
      simp -implicitDefEqProofs [hw, ne1, ne2, sgp]
      by_cases z : cc s * y ^ vol vs s.i < x ^ vol vs s.i * dd s
      · rw [if_pos (by have := z; simp only [cc, dd, Int.one_mul, Int.mul_one] at this; omega)]
        have h' := fun τ' => h τ'
        rw [show allKeep vs ts x y = false from bad (by simp [z])] at h'
        exact h' _
      · rw [if_neg (by have := z; simp only [cc, dd, Int.one_mul, Int.mul_one] at this; omega)]
        exact hL _ _ ⟨kp (by simp [z]), _, _, _, _, rfl⟩
    | false =>
      rw [hw, if_neg Bool.false_ne_true] at kp bad
      simp -implicitDefEqProofs [Tgt.d, hw, callL_d2, e1, ne1, ne2]
      refine ⟨_, _, _, rfl, ⟨by omega, by omega, hx, hy⟩, fun τ3 => ?_⟩
      simp -implicitDefEqProofs [callL_d2, hw, ne1, ne2]
      refine ⟨_, _, _, _, rfl, ⟨px, py, ok.ba.mono (by decide), ok.2.2.2.2.mono (by decide)⟩, fun τ5 => ?_⟩
      simp -implicitDefEqProofs [hw, ne1, ne2, sgn]
      by_cases z : x ^ vol vs s.i * s.b < s.a * y ^ vol vs s.i
      · rw [if_pos (by omega)]
        have h' := fun τ' => h τ'
        rw [show allKeep vs ts x y = false from bad (by simp [z])] at h'
        exact h' _
      · rw [if_neg (by omega)]
        exact hL _ _ ⟨kp (by simp [z]), _, _, _, _, rfl⟩
  · rintro ρ τ2 ⟨hN, v3, v4, v5, v6, rfl⟩
    refine ⟨trivial, ?_⟩
    simp -implicitDefEqProofs
    have e : allKeep vs ts x y = true := by
      unfold allKeep
      rw [List.all_eq_true]
      intro t ht
      obtain ⟨j, hj⟩ := List.mem_iff_getElem?.mp ht
      exact hN j t (by rw [List.length_map]; exact (List.getElem?_eq_some_iff.mp hj).1) hj
    have h' := fun τ' => h τ'
    rw [e] at h'
    exact h' _
theorem erase_map {α β : Type} (f : α → β) : ∀ (xs : List α) (k : Nat), (xs.map f).eraseIdx k = (xs.eraseIdx k).map f
  | [], k => by simp
  | x :: xs, 0 => by simp
  | x :: xs, k + 1 => by simp [erase_map f xs k]
theorem erase_perm {α : Type} : ∀ (xs : List α) (k : Nat) (h : k < xs.length), (xs[k] :: xs.eraseIdx k).Perm xs
  | [], k, h => by simp at h
  | x :: xs, 0, h => by simp
  | x :: xs, k + 1, h => by
    have := erase_perm xs k (by simpa using h)
    simp only [List.getElem_cons_succ, List.eraseIdx_cons_succ]
    exact (List.Perm.swap _ _ _).trans (this.cons x)
theorem set0 {t x : List D} {r : Sto} : (t :: r).set 0 x = x :: r := rfl
theorem perm_ok {ys zs : List Int} (h : (ys ++ zs).Perm [1, 2, 3, 4, 5, 6, 7, 8, 9, 10, 11, 12]) : ys.Nodup ∧ ∀ v ∈ ys, 1 ≤ v ∧ v ≤ 12 := by
  have nd : (ys ++ zs).Nodup := h.nodup_iff.mpr (by decide)
  refine ⟨(List.nodup_append.mp nd).1, fun v hv => ?_⟩
  have := h.mem_iff.mp (List.mem_append_left zs hv)
  simp only [List.mem_cons, List.not_mem_nil, or_false] at this
  omega
theorem rd_law_wares : Rd sp_law_wares 1 N_law_wares t_law_wares := by
  rintro ws τ R ⟨n, t, rfl, rfl, hn, ht, h⟩
  refine ⟨rfl, ?_⟩
  simp -implicitDefEqProofs [t_law_wares, startD, N_law_wares, callL_l1]
  refine ⟨by unfold small62; decide, ⟨_, n, t, rfl, rfl, ⟨by decide, by decide⟩, by omega, ht, fun v t1 r1 v0 v1 ht1 => ?_⟩⟩
  simp -implicitDefEqProofs
  refine ⟨⟨by omega, by omega⟩, ?_⟩
  refine forR_ix (fun i ρ τ => ∃ (t2 : List D) (rest found : List Int) (r : Sto) (v3 : Option W), ρ = [some (.l 0), some (.l 1), some (.l 2), v3] ∧ τ = t2 :: rest.map D.int :: found.map D.int :: r ∧ TapV (n + 1 + i) t2 ∧ (found ++ rest).Perm [1, 2, 3, 4, 5, 6, 7, 8, 9, 10, 11, 12] ∧ found.length = i)
    ⟨t1, [1, 2, 3, 4, 5, 6, 7, 8, 9, 10, 11, 12], [], r1, none, rfl, rfl, ht1, List.Perm.refl _, rfl⟩ ?_ ?_
  · rintro i ρ τ L hi hL ⟨t2, rest, found, r, v3, rfl, rfl, ht2, hp, hf⟩
    refine ⟨trivial, ?_⟩
    have hlen : found.length + rest.length = 12 := by
      have := hp.length_eq
      simpa using this
    simp -implicitDefEqProofs [callL_l1]
    refine ⟨_, n + 1 + i, t2, rfl, rfl, ⟨by omega, by omega⟩, by omega, ht2, fun u t3 r3 u0 u1 ht3 => ?_⟩
    simp -implicitDefEqProofs
    obtain ⟨k, rfl⟩ : ∃ k : Nat, u = (k : Nat) := ⟨u.toNat, by omega⟩
    have hk : k < rest.length := by omega
    refine ⟨⟨by omega, by omega⟩, .int rest[k], by simp [hk], ?_⟩
    refine ⟨by omega, hL _ _ ⟨t3, rest.eraseIdx k, found ++ [rest[k]], r ++ r3, _, rfl, ?_, ht3.mono (by omega) (by omega), ?_, by simp [hf]⟩⟩
    · simp [erase_map]
    · refine List.Perm.trans ?_ hp
      rw [List.append_assoc]
      refine List.Perm.append_left found ?_
      exact erase_perm rest k hk
  · rintro ρ τ ⟨t2, rest, found, r, v3, rfl, rfl, ht2, hp, hf⟩
    refine ⟨trivial, ?_⟩
    obtain ⟨nd, rg⟩ := perm_ok hp
    have hf2 : 2 ≤ found.length ∧ found.length ≤ 5 := by omega
    simp -implicitDefEqProofs
    refine ⟨found, rfl, fun ns' hperm hord => ?_⟩
    refine h ns' _ _ ⟨by rw [hperm.length_eq]; exact hf2.1, by rw [hperm.length_eq]; exact hf2.2, fun v hv => rg v (hperm.mem_iff.mp hv), ?_⟩ (ht2.mono (by omega) (by omega))
    have nd' : ns'.Nodup := hperm.nodup_iff.mpr nd
    exact List.Pairwise.imp₂ (fun a b h1 h2 => by omega) hord nd'
theorem rd_law_targets : Rd sp_law_targets 3 N_law_targets t_law_targets := by
  rintro ws τ R ⟨n, t, vs, m, rfl, rfl, hn, ht, hv, ⟨m0, m1⟩, h⟩
  refine ⟨rfl, ?_⟩
  simp -implicitDefEqProofs [t_law_targets, startD, N_law_targets]
  refine ⟨⟨by omega, by omega⟩, ?_⟩
  refine forR_ix (fun i ρ τ => ∃ (t2 : List D) (ts : List Tgt) (r : Sto) (v4 : Option W), ρ = [some (.l 0), some (.d (dV vs)), some (.d (.int m)), some (.l 1), v4] ∧ τ = t2 :: ts.map Tgt.d :: r ∧ TapV (n + 10 * i) t2 ∧ (∀ t ∈ ts, t.Ok vs) ∧ ts.length = i)
    ⟨t, [], [], none, rfl, rfl, ht, by simp, rfl⟩ ?_ ?_
  · rintro i ρ τ L hi hL ⟨t2, ts, r, v4, rfl, rfl, ht2, hok, hl⟩
    refine ⟨trivial, ?_⟩
    have hvl := hv.1
    have hvh := hv.2.1
    simp -implicitDefEqProofs
    refine callL_one (xs := [.str "over", .str "left"]) (σ0 := ts.map Tgt.d :: r) (by simp) (by simp) ?_
    refine ⟨_, n + 10 * i, t2, rfl, rfl, ⟨by simp, by simp⟩, by omega, ht2, fun x t3 r3 hx ht3 => ?_⟩
    simp -implicitDefEqProofs only [globW_d]
    rw [backS_2 (xs := [.str "over", .str "left"]) (σ0 := ts.map Tgt.d :: r) (by simp) (by simp)]
    simp -implicitDefEqProofs [callL_l1]
    refine ⟨_, n + 10 * i + 1, t3, rfl, rfl, ⟨by omega, by omega⟩, by omega, ht3, fun u t4 r4 u0 u1 ht4 => ?_⟩
    simp -implicitDefEqProofs [callL_l0]
    refine ⟨n + 10 * i + 2, t4, rfl, rfl, by omega, ht4, fun a b t5 r5 a0 a1 a2 a3 ht5 => ?_⟩
    simp -implicitDefEqProofs
    obtain ⟨k, rfl⟩ : ∃ k : Nat, u = (k : Nat) := ⟨u.toNat, by omega⟩
    have hw : ∃ w : Bool, x = .str (if w = true then "over" else "left") := by
      simp -implicitDefEqProofs at hx
      rcases hx with rfl | rfl
      · exact ⟨true, rfl⟩
      · exact ⟨false, rfl⟩
    obtain ⟨w, rfl⟩ := hw
    refine ⟨by omega, hL _ _ ⟨t5, ts ++ [⟨w, k, a, b⟩], _, _, rfl, by simp [Tgt.d]; rfl, ht5.mono (by omega) (by omega), ?_, by simp [hl]⟩⟩
    intro s hs
    rcases List.mem_append.mp hs with hs | hs
    · exact hok s hs
    · rw [List.mem_singleton.mp hs]
      exact ⟨by show k < vs.length; omega, a0, a1, a3, (bd_of (by show (0 : Int) ≤ b; omega) (by show b < 1000000; omega)).mono (by decide)⟩
  · rintro ρ τ ⟨t2, ts, r, v4, rfl, rfl, ht2, hok, hl⟩
    refine ⟨trivial, ?_⟩
    simp -implicitDefEqProofs
    exact h ts _ _ hl hok (ht2.mono (by omega) hn)
theorem bd_pow3 {a : Int} {m : Nat} (h : Bd 3 a) (hm : m ≤ 12) : Bd 1000 (a ^ m) := by
  have e : ∀ k : Nat, (a ^ k).natAbs ≤ (2 ^ 3) ^ k := fun k => by
    rw [Int.natAbs_pow]
    exact Nat.pow_le_pow_left (Nat.le_of_lt h) k
  unfold Bd
  refine Nat.lt_of_le_of_lt (e m) ?_
  rw [← Nat.pow_mul]
  exact Nat.pow_lt_pow_right (by decide) (by omega)
theorem rd_law_told_by : Rd sp_law_told_by 2 N_law_told_by t_law_told_by := by
  rintro ws τ R ⟨n, t, vs, rfl, rfl, hn, ht, hv, h⟩
  refine ⟨rfl, ?_⟩
  have hvl := hv.1
  have hvh := hv.2.1
  simp -implicitDefEqProofs [t_law_told_by, startD, N_law_told_by, callL_l1]
  refine ⟨_, n, t, rfl, rfl, ⟨by decide, by decide⟩, by omega, ht, fun v t1 r1 v0 v1 ht1 => ?_⟩
  simp -implicitDefEqProofs [callL_l1]
  refine ⟨_, n + 1, t1, rfl, rfl, ⟨by omega, by omega⟩, by omega, ht1, fun u t2 r2 u0 u1 ht2 => ?_⟩
  simp -implicitDefEqProofs [callL_d2]
  have p : 0 < 2 + v := by omega
  refine ⟨_, _, rfl, ⟨p, (bd_of (by omega) (by omega)).mono (by decide), (bd_of (by omega) (by omega)).mono (by decide)⟩, fun τ' => ?_⟩
  simp -implicitDefEqProofs [callL_l1, ratI]
  have x0 := red_pos (a := 1 + u) (by omega) p
  have x1 := red_lt (a := 1 + u) (by omega) p
  have x2 := red_leb (a := 1 + u) p
  have x3 := red (a := 1 + u) (by omega) p
  generalize (1 + u) / g (1 + u) (2 + v) = x at x0 x1 x3
  generalize (2 + v) / g (1 + u) (2 + v) = y at x1 x2 x3
  refine ⟨_, n + 2, t2, rfl, rfl, ⟨by omega, by omega⟩, by omega, ht2, fun o t3 r3 o0 o1 ht3 => ?_⟩
  simp -implicitDefEqProofs [callL_l1]
  refine ⟨_, n + 3, t3, rfl, rfl, ⟨by omega, by omega⟩, by omega, ht3, fun q t4 r4 q0 q1 ht4 => ?_⟩
  simp -implicitDefEqProofs
  obtain ⟨i, rfl⟩ : ∃ k : Nat, o = (k : Nat) := ⟨o.toNat, by omega⟩
  obtain ⟨j, rfl⟩ : ∃ k : Nat, q = (k : Nat) := ⟨q.toNat, by omega⟩
  have hi : i < vs.length := by omega
  have hj : j < vs.length := by omega
  obtain ⟨e1, e2, e3⟩ := vol_at hv hi
  obtain ⟨f1, f2, f3⟩ := vol_at hv hj
  have bx : Bd 3 x := by unfold Bd; omega
  have by' : Bd 3 y := by unfold Bd; omega
  have bx1 : Bd 1000 x := bx.mono (by decide)
  have by1 : Bd 1000 y := by'.mono (by decide)
  refine ⟨_, e1, ?_⟩
  simp -implicitDefEqProofs [callL_d2]
  refine ⟨_, _, _, rfl, ⟨by omega, by omega, bx1, by1⟩, fun τ2 => ?_⟩
  simp -implicitDefEqProofs [callL_d2]
  refine ⟨_, _, _, _, rfl, ⟨by decide, Int.pow_pos (by omega), by unfold Bd; decide, by unfold Bd; decide, bd_pow3 bx e3, bd_pow3 by' e3⟩, fun τ3 => ?_⟩
  simp -implicitDefEqProofs [ratI]
  refine ⟨_, f1, ?_⟩
  refine ⟨_, _, _, rfl, ⟨by omega, by omega, bx1, by1⟩, fun τ4 => ?_⟩
  have fin := h x y i j t4 (r1 ++ r2 ++ τ' ++ r3 ++ r4 ++ τ2 ++ τ3 ++ τ4) x0 x1 (by omega) x3 hi hj (ht4.mono (by omega) hn)
  simpa [told, dT, Tgt.d] using fin
theorem bd_pow37 {a : Int} {m : Nat} (h : Bd 3 a) (hm : m ≤ 12) : Bd 37 (a ^ m) := by
  have e : ∀ k : Nat, (a ^ k).natAbs ≤ (2 ^ 3) ^ k := fun k => by
    rw [Int.natAbs_pow]
    exact Nat.pow_le_pow_left (Nat.le_of_lt h) k
  unfold Bd
  refine Nat.lt_of_le_of_lt (e m) ?_
  rw [← Nat.pow_mul]
  exact Nat.pow_lt_pow_right (by decide) (by omega)
theorem ipow_le {a b : Int} (h0 : 0 ≤ a) (h : a ≤ b) : ∀ n : Nat, a ^ n ≤ b ^ n
  | 0 => by simp
  | n + 1 => by
    rw [Int.pow_succ, Int.pow_succ]
    exact Int.mul_le_mul (ipow_le h0 h n) h h0 (Int.pow_nonneg (by omega))
theorem ipow_lt {a b : Int} (h0 : 0 ≤ a) (h : a < b) : ∀ n : Nat, 1 ≤ n → a ^ n < b ^ n
  | 0, hn => by omega
  | 1, _ => by simpa [Int.pow_succ] using h
  | n + 2, _ => by
    rw [Int.pow_succ, Int.pow_succ b]
    have ih := ipow_lt h0 h (n + 1) (by omega)
    have hb : 0 < b ^ (n + 1) := Int.pow_pos (by omega)
    refine Int.lt_of_le_of_lt (Int.mul_le_mul_of_nonneg_right (Int.le_of_lt ih) h0) ?_
    exact Int.mul_lt_mul_of_pos_left h hb
theorem swap_pow (y : Int) (m n : Nat) : (y ^ m) ^ n = (y ^ n) ^ m := by rw [← Int.pow_mul, ← Int.pow_mul, Nat.mul_comm]
theorem core_le {x y a b c d : Int} {m n : Nat} (x0 : 0 ≤ x) (y0 : 0 < y) (a0 : 0 ≤ a) (b0 : 0 ≤ b) (c0 : 0 ≤ c) (d0 : 0 ≤ d) (h1 : x ^ n * d ≤ c * y ^ n) (h2 : a * y ^ m ≤ x ^ m * b) : a ^ n * d ^ m ≤ c ^ m * b ^ n := by
  have k2 := ipow_le (Int.mul_nonneg a0 (Int.pow_nonneg (Int.le_of_lt y0))) h2 n
  have k1 := ipow_le (Int.mul_nonneg (Int.pow_nonneg x0) d0) h1 m
  rw [Int.mul_pow, Int.mul_pow] at k1 k2
  rw [swap_pow y m n, swap_pow x m n] at k2
  have yp : 0 < (y ^ n) ^ m := Int.pow_pos (Int.pow_pos y0)
  generalize (y ^ n) ^ m = Y at k1 k2 yp
  generalize (x ^ n) ^ m = X at k1 k2
  have D0 : 0 ≤ d ^ m := Int.pow_nonneg d0
  have B0 : 0 ≤ b ^ n := Int.pow_nonneg b0
  generalize d ^ m = D at *
  generalize b ^ n = B at *
  generalize a ^ n = A at *
  generalize c ^ m = C at *
  refine Int.le_of_mul_le_mul_right (a := Y) ?_ yp
  have e1 : A * D * Y = A * Y * D := by rw [Int.mul_right_comm]
  have e2 : C * B * Y = C * Y * B := by rw [Int.mul_right_comm]
  have e3 : X * B * D = X * D * B := by rw [Int.mul_right_comm]
  rw [e1, e2]
  exact Int.le_trans (Int.mul_le_mul_of_nonneg_right k2 D0) (by rw [e3]; exact Int.mul_le_mul_of_nonneg_right k1 B0)
theorem cc_val {vs : List Int} {t : Tgt} (h : t.Ok vs) : 0 < cc t ∧ 0 < dd t ∧ cc t * t.b = (t.b - t.a) * dd t := by
  have h1 := h.2.1
  have h2 := h.2.2.1
  obtain ⟨q1, q2, q3⟩ := red_eq (a := 1 * t.b - t.a * 1) (b := 1 * t.b) (by omega)
  refine ⟨red_pos (by omega) (by omega), red_posb (by omega), ?_⟩
  unfold cc dd
  generalize g (1 * t.b - t.a * 1) (1 * t.b) = G at q1 q2 q3
  generalize (1 * t.b - t.a * 1) / G = C at q2
  generalize 1 * t.b / G = E at q3
  have e1 : t.b = G * E := by omega
  have e2 : t.b - t.a = G * C := by omega
  rw [e2]
  rw [e1]
  rw [← Int.mul_assoc, Int.mul_comm C G]
theorem First.uniq {vs : List Int} {ts : List Tgt} {x y : D} (hx : First vs ts x) (hy : First vs ts y) : x = y := by
  have key : ∀ y, First vs ts y → y = .non ∨ ∃ i j : Nat, ∃ s t, y = .tup [.int i, .int j] ∧ i < j ∧ ts[i]? = some s ∧ ts[j]? = some t ∧ doClash vs s t = true ∧
      ∀ (i2 j2 : Nat) (s2 t2 : Tgt), i2 < j2 → (i2 < i ∨ i2 = i ∧ j2 < j) → ts[i2]? = some s2 → ts[j2]? = some t2 → doClash vs s2 t2 = false := fun y hy => by
    unfold First at hy
    split at hy
    · exact .inl rfl
    · obtain ⟨i', j', s, t, rfl, rfl, r⟩ := hy
      exact .inr ⟨i', j', s, t, rfl, r⟩
    · exact hy.elim
  rcases key x hx with rfl | ⟨i, j, s, t, rfl, h1, h2, h3, h4, h5⟩
  · rcases key y hy with rfl | ⟨i, j, s, t, rfl, h1, h2, h3, h4, h5⟩
    · rfl
    · have := hx i j s t h1 h2 h3
      rw [h4] at this
      cases this
  · rcases key y hy with rfl | ⟨i', j', s', t', rfl, k1, k2, k3, k4, k5⟩
    · have := hy i j s t h1 h2 h3
      rw [h4] at this
      cases this
    · by_cases e1 : i < i' ∨ i = i' ∧ j < j'
      · have := k5 i j s t h1 e1 h2 h3
        rw [h4] at this
        cases this
      · by_cases e2 : i' < i ∨ i' = i ∧ j' < j
        · have := h5 i' j' s' t' k1 e2 k2 k3
          rw [k4] at this
          cases this
        · have : i = i' ∧ j = j' := by omega
          rw [this.1, this.2]
theorem First.kind {vs : List Int} {ts : List Tgt} {y : D} (hl : ts.length ≤ 8) (hy : First vs ts y) : y = .non ∨ ∃ i j : Nat, i < 8 ∧ j < 8 ∧ y = .tup [.int i, .int j] := by
  unfold First at hy
  split at hy
  · exact .inl rfl
  · obtain ⟨i', j', s, t, rfl, rfl, h1, h2, h3, _⟩ := hy
    have a1 := (List.getElem?_eq_some_iff.mp h2).1
    have a2 := (List.getElem?_eq_some_iff.mp h3).1
    exact .inr ⟨i', j', by omega, by omega, rfl⟩
  · exact hy.elim
theorem no_clash {vs : List Int} {ts : List Tgt} {x y : Int} (ho : TsOk vs ts) (x0 : 0 ≤ x) (y0 : 0 < y) (hk : allKeep vs ts x y = true) {d : D} (hd : First vs ts d) : d = .non := by
  unfold First at hd
  split at hd
  · rfl
  · exfalso
    obtain ⟨i, j, s, t, _, _, _, hs, ht, hc, _⟩ := hd
    unfold allKeep at hk
    rw [List.all_eq_true] at hk
    have ms := List.mem_iff_getElem?.mpr ⟨i, hs⟩
    have mt := List.mem_iff_getElem?.mpr ⟨j, ht⟩
    have main : ∀ o l, o ∈ ts → l ∈ ts → o.w = true → l.w = false → clash vs o l = false := fun o l mo ml wo wl => by
      have k1 := hk o mo
      have k2 := hk l ml
      have oo := ho.2.2.2 o mo
      have ol := ho.2.2.2 l ml
      unfold keeps at k1 k2
      rw [wo, if_pos rfl] at k1
      rw [wl, if_neg Bool.false_ne_true] at k2
      simp only [Bool.not_eq_true', decide_eq_false_iff_not, Int.not_lt] at k1 k2
      obtain ⟨c0, d0, _⟩ := cc_val oo
      have p1 := ol.2.1
      have p2 := ol.2.2.1
      unfold clash
      exact decide_eq_false (Int.not_lt.mpr (core_le x0 y0 (by omega) (by omega) (by omega) (by omega) k1 k2))
    unfold doClash at hc
    split at hc
    · cases hc
    · rename_i hw
      cases hb : s.w with
      | true =>
        have hb2 : t.w = false := by
          cases e : t.w with
          | true => exact absurd (hb.trans e.symm) hw
          | false => rfl
        rw [hb, if_pos rfl, main s t ms mt hb hb2] at hc
        cases hc
      | false =>
        have hb2 : t.w = true := by
          cases e : t.w with
          | false => exact absurd (hb.trans e.symm) hw
          | true => rfl
        rw [hb, if_neg Bool.false_ne_true, main t s mt ms hb2 hb] at hc
        cases hc
  · exact hd.elim
/-! the targets made of one depth -/
theorem vol_rng {vs : List Int} {i : Nat} (hv : VolOk vs) (h : i < vs.length) : 1 ≤ vol vs i ∧ vol vs i ≤ 12 := (vol_at hv h).2
structure Made (vs : List Int) (x y : Int) (i j : Nat) : Prop where
  v : VolOk vs
  x0 : 0 < x
  xy : x < y
  y7 : y ≤ 7
  gx : g x y = 1
  hi : i < vs.length
  hj : j < vs.length
theorem g_pow {x y : Int} {m : Nat} (h : g x y = 1) : g (x ^ m) (y ^ m) = 1 := by
  unfold g at *
  rw [Int.natAbs_pow, Int.natAbs_pow]
  have c : Nat.Coprime x.natAbs y.natAbs := by
    show Nat.gcd _ _ = 1
    omega
  have := c.pow m m
  have e : Nat.gcd (x.natAbs ^ m) (y.natAbs ^ m) = 1 := this
  rw [e]
  rfl
section
variable {vs : List Int} {x y : Int} {i j : Nat}
theorem Made.b3 (M : Made vs x y i j) : Bd 3 y := by
  have := M.x0
  have := M.xy
  have := M.y7
  unfold Bd
  omega
theorem Made.pw (M : Made vs x y i j) {k : Nat} (hk : k < vs.length) : 0 < x ^ vol vs k ∧ x ^ vol vs k < y ^ vol vs k ∧ Bd 37 (y ^ vol vs k) :=
  ⟨Int.pow_pos M.x0, ipow_lt (Int.le_of_lt M.x0) M.xy _ (vol_rng M.v hk).1, bd_pow37 M.b3 (vol_rng M.v hk).2⟩
def t0 (vs : List Int) (x y : Int) (i : Nat) : Tgt := ⟨true, i, (1 * y ^ vol vs i - x ^ vol vs i * 1) / g (1 * y ^ vol vs i - x ^ vol vs i * 1) (1 * y ^ vol vs i), (1 * y ^ vol vs i) / g (1 * y ^ vol vs i - x ^ vol vs i * 1) (1 * y ^ vol vs i)⟩
def t1 (vs : List Int) (x y : Int) (j : Nat) : Tgt := ⟨false, j, x ^ vol vs j, y ^ vol vs j⟩
theorem Made.ok1 (M : Made vs x y i j) : (t1 vs x y j).Ok vs := ⟨M.hj, (M.pw M.hj).1, (M.pw M.hj).2.1, g_pow M.gx, (M.pw M.hj).2.2.mono (by decide)⟩
theorem Made.bb0 (M : Made vs x y i j) : Bd 37 (t0 vs x y i).b := by
  obtain ⟨p1, p2, p3⟩ := M.pw M.hi
  refine bd0 (Int.le_of_lt (red_posb (by omega))) (red_leb (by omega)) ?_
  rw [Int.one_mul]
  exact p3
theorem Made.ok0 (M : Made vs x y i j) : (t0 vs x y i).Ok vs := by
  obtain ⟨p1, p2, p3⟩ := M.pw M.hi
  exact ⟨M.hi, red_pos (by omega) (by omega), red_lt (by omega) (by omega), red (by omega) (by omega), M.bb0.mono (by decide)⟩
theorem Made.val0 (M : Made vs x y i j) : x ^ vol vs i * (t0 vs x y i).b = ((t0 vs x y i).b - (t0 vs x y i).a) * y ^ vol vs i := by
  obtain ⟨p1, p2, p3⟩ := M.pw M.hi
  obtain ⟨q1, q2, q3⟩ := red_eq (a := 1 * y ^ vol vs i - x ^ vol vs i * 1) (b := 1 * y ^ vol vs i) (by omega)
  unfold t0
  simp only
  generalize g (1 * y ^ vol vs i - x ^ vol vs i * 1) (1 * y ^ vol vs i) = G at q1 q2 q3
  generalize (1 * y ^ vol vs i - x ^ vol vs i * 1) / G = A at q2
  generalize 1 * y ^ vol vs i / G = B at q3
  generalize x ^ vol vs i = X at *
  generalize y ^ vol vs i = Y at *
  have e1 : Y = G * B := by omega
  have e2 : X = G * (B - A) := by rw [Int.mul_sub]; omega
  rw [e1, e2, Int.mul_comm G (B - A), Int.mul_assoc]
theorem Made.ccv (M : Made vs x y i j) : cc (t0 vs x y i) * y ^ vol vs i = x ^ vol vs i * dd (t0 vs x y i) := by
  obtain ⟨c0, d0, e⟩ := cc_val M.ok0
  have v := M.val0
  have b0 : 0 < (t0 vs x y i).b := Int.lt_trans M.ok0.2.1 M.ok0.2.2.1
  generalize (t0 vs x y i).b = B at *
  generalize (t0 vs x y i).a = A at *
  generalize cc (t0 vs x y i) = C at *
  generalize dd (t0 vs x y i) = E at *
  generalize x ^ vol vs i = X at *
  generalize y ^ vol vs i = Y at *
  refine Int.eq_of_mul_eq_mul_right (a := B) (by omega) ?_
  rw [Int.mul_right_comm, e, Int.mul_right_comm X E B, v, Int.mul_right_comm]
theorem Made.ts (M : Made vs x y i j) : TsOk vs (told vs x y i j) := by
  refine ⟨M.v, by simp [told], by simp [told], fun t ht => ?_⟩
  have ht' : t = t0 vs x y i ∨ t = t1 vs x y j := by simpa [told, t0, t1] using ht
  rcases ht' with rfl | rfl
  · exact M.ok0
  · exact M.ok1
theorem Made.keep (M : Made vs x y i j) : allKeep vs (told vs x y i j) x y = true := by
  have k0 : keeps vs (t0 vs x y i) x y = true := by
    have e := M.ccv
    have : vol vs (t0 vs x y i).i = vol vs i := rfl
    unfold keeps
    rw [show (t0 vs x y i).w = true from rfl, if_pos rfl, this, e]
    simp
  have k1 : keeps vs (t1 vs x y j) x y = true := by
    unfold keeps
    rw [show (t1 vs x y j).w = false from rfl, if_neg Bool.false_ne_true]
    simp [t1]
  have e : told vs x y i j = [t0 vs x y i, t1 vs x y j] := rfl
  rw [e]
  simp [allKeep, k0, k1]
/-- a little more than p/q -/
theorem more_gt {p q : Int} (hq : 0 < q) (p' q' : Int) (hp' : p' = (p * 1000000000 + 1 * q) / g (p * 1000000000 + 1 * q) (q * 1000000000)) (hq' : q' = (q * 1000000000) / g (p * 1000000000 + 1 * q) (q * 1000000000)) : p * q' < p' * q := by
  obtain ⟨q1, q2, q3⟩ := red_eq (a := p * 1000000000 + 1 * q) (b := q * 1000000000) (by omega)
  rw [← hp'] at q2
  rw [← hq'] at q3
  generalize g (p * 1000000000 + 1 * q) (q * 1000000000) = G at q1 q2 q3
  refine Int.lt_of_mul_lt_mul_left (a := G) ?_ (by omega)
  have e1 : G * (p * q') = p * (q * 1000000000) := by rw [q3, ← Int.mul_assoc, Int.mul_comm G p, Int.mul_assoc]
  have e2 : G * (p' * q) = (p * 1000000000 + 1 * q) * q := by rw [q2, Int.mul_assoc]
  rw [e1, e2, Int.add_mul]
  have e3 : p * (q * 1000000000) = p * 1000000000 * q := by rw [Int.mul_comm q, Int.mul_assoc]
  rw [e3]
  have : 0 < 1 * q * q := Int.mul_pos (by omega) hq
  omega
theorem Made.more0 (M : Made vs x y i j) {s : Tgt} (hs : s.Ok vs) (hw : s.w = true) (si : s.i = i) (h : (t0 vs x y i).a * s.b < s.a * (t0 vs x y i).b) : clash vs s (t1 vs x y j) = true := by
  obtain ⟨c0, d0, e⟩ := cc_val hs
  have v := M.val0
  obtain ⟨p1, p2, p3⟩ := M.pw M.hi
  have b0 : 0 < (t0 vs x y i).b := Int.lt_trans M.ok0.2.1 M.ok0.2.2.1
  have sb : 0 < s.b := Int.lt_trans hs.2.1 hs.2.2.1
  have m1 := (vol_rng M.v M.hj).1
  unfold clash
  rw [si]
  refine decide_eq_true ?_
  show cc s ^ vol vs j * (y ^ vol vs j) ^ vol vs i < (x ^ vol vs j) ^ vol vs i * dd s ^ vol vs j
  rw [swap_pow y, swap_pow x, ← Int.mul_pow, ← Int.mul_pow]
  have Y0 : 0 < y ^ vol vs i := by omega
  generalize (t0 vs x y i).b = B at *
  generalize (t0 vs x y i).a = A at *
  generalize cc s = C at *
  generalize dd s = E at *
  generalize x ^ vol vs i = X at *
  generalize y ^ vol vs i = Y at *
  refine ipow_lt (Int.mul_nonneg (by omega) (by omega)) ?_ _ m1
  refine Int.lt_of_mul_lt_mul_right (a := s.b * B) ?_ (Int.le_of_lt (Int.mul_pos sb b0))
  have e1 : C * Y * (s.b * B) = (E * Y) * ((s.b - s.a) * B) := by
    have : C * Y * (s.b * B) = (C * s.b) * (Y * B) := by ac_rfl
    rw [this, e]
    ac_rfl
  have e2 : X * E * (s.b * B) = (E * Y) * ((B - A) * s.b) := by
    have : X * E * (s.b * B) = (X * B) * (E * s.b) := by ac_rfl
    rw [this, v]
    ac_rfl
  rw [e1, e2]
  refine Int.mul_lt_mul_of_pos_left ?_ (Int.mul_pos d0 Y0)
  rw [Int.sub_mul, Int.sub_mul, Int.mul_comm s.b B]
  omega
theorem Made.more1 (M : Made vs x y i j) {s : Tgt} (hs : s.Ok vs) (hw : s.w = false) (sj : s.i = j) (h : x ^ vol vs j * s.b < s.a * y ^ vol vs j) : clash vs (t0 vs x y i) s = true := by
  obtain ⟨c0, d0, _⟩ := cc_val M.ok0
  have e := M.ccv
  obtain ⟨p1, p2, p3⟩ := M.pw M.hi
  have n1 := (vol_rng M.v M.hi).1
  have sb : 0 < s.b := Int.lt_trans hs.2.1 hs.2.2.1
  unfold clash
  rw [sj]
  refine decide_eq_true ?_
  show cc (t0 vs x y i) ^ vol vs j * s.b ^ vol vs i < s.a ^ vol vs i * dd (t0 vs x y i) ^ vol vs j
  have k := ipow_lt (Int.mul_nonneg (Int.pow_nonneg (Int.le_of_lt M.x0)) (by omega)) h _ n1
  rw [Int.mul_pow, Int.mul_pow, swap_pow x, swap_pow y] at k
  have e' : cc (t0 vs x y i) ^ vol vs j * (y ^ vol vs i) ^ vol vs j = (x ^ vol vs i) ^ vol vs j * dd (t0 vs x y i) ^ vol vs j := by rw [← Int.mul_pow, ← Int.mul_pow, e]
  have Y0 : 0 < (y ^ vol vs i) ^ vol vs j := Int.pow_pos (by omega)
  have D0 : 0 < dd (t0 vs x y i) ^ vol vs j := Int.pow_pos d0
  generalize (y ^ vol vs i) ^ vol vs j = Y at *
  generalize (x ^ vol vs i) ^ vol vs j = X at *
  generalize dd (t0 vs x y i) ^ vol vs j = E at *
  generalize cc (t0 vs x y i) ^ vol vs j = C at *
  generalize s.b ^ vol vs i = B at *
  generalize s.a ^ vol vs i = A at *
  refine Int.lt_of_mul_lt_mul_right (a := Y) ?_ (Int.le_of_lt Y0)
  have e1 : C * B * Y = (X * B) * E := by
    have : C * B * Y = (C * Y) * B := by ac_rfl
    rw [this, e']
    ac_rfl
  have e2 : A * E * Y = (A * Y) * E := by ac_rfl
  rw [e1, e2]
  exact Int.mul_lt_mul_of_pos_right k D0
end
theorem shows_bl (b : Bool) : Shows (toPy (.bl b)) := by
  cases b <;> exact ⟨by decide +kernel, by decide +kernel, by decide +kernel, by decide +kernel⟩
theorem shows_non : Shows (toPy .non) := ⟨by decide +kernel, by decide +kernel, by decide +kernel, by decide +kernel⟩
theorem shows_int : ∀ k : Fin 31, Shows (toPy (.int (k.val : Nat))) := fun k => by
  have h : ∀ k : Fin 31, (toPy (.int (k.val : Nat))).showable = true ∧ (toPy (.int (k.val : Nat))).hasDict = false ∧ (toPy (.int (k.val : Nat))).depth ≤ 60 ∧ (toPy (.int (k.val : Nat))).shown.length ≤ 1000000 := by decide +kernel
  exact h k
theorem shows_3n (b : Bool) : Shows (.list (toPys [.bl b, .non, .bl b])) := by
  cases b <;> exact ⟨by decide +kernel, by decide +kernel, by decide +kernel, by decide +kernel⟩
theorem shows_3t : ∀ (i j : Fin 8), Shows (.list (toPys [.bl false, .tup [.int (i.val : Nat), .int (j.val : Nat)], .bl false])) := fun i j => by
  have h : ∀ (i j : Fin 8), (PyData.list (toPys [.bl false, .tup [.int (i.val : Nat), .int (j.val : Nat)], .bl false])).showable = true ∧ (PyData.list (toPys [.bl false, .tup [.int (i.val : Nat), .int (j.val : Nat)], .bl false])).hasDict = false ∧
      (PyData.list (toPys [.bl false, .tup [.int (i.val : Nat), .int (j.val : Nat)], .bl false])).depth ≤ 60 ∧ (PyData.list (toPys [.bl false, .tup [.int (i.val : Nat), .int (j.val : Nat)], .bl false])).shown.length ≤ 1000000 := by decide +kernel
  exact h i j
/-- the parts that keep all, of 1 .. N -/
def goodF (vs : List Int) (ts : List Tgt) (n : Int) : D → Option D
  | .int k => if allKeep vs ts (k / g k n) (n / g k n) = true then some (.int k) else none
  | _ => none
theorem intsBy_snoc : ∀ (lo : Int) (N : Nat), intsBy 1 lo (N + 1) = intsBy 1 lo N ++ [.int (lo + (N : Nat))]
  | lo, 0 => by simp [intsBy]
  | lo, N + 1 => by
    rw [show intsBy 1 lo (N + 1 + 1) = .int lo :: intsBy 1 (lo + 1) (N + 1) from rfl, intsBy_snoc (lo + 1) N, show intsBy 1 lo (N + 1) = .int lo :: intsBy 1 (lo + 1) N from rfl]
    simp only [List.cons_append]
    rw [show lo + 1 + ((N : Nat) : Int) = lo + ((N + 1 : Nat) : Int) by omega]
theorem last_ix {xs : List D} {x : D} : ixD (xs ++ [x]) (-1) = some x := by
  unfold ixD
  simp
theorem good_last (vs : List Int) (ts : List Tgt) (n : Int) : ∀ N : Nat,
    ((intsBy 1 1 N).filterMap (goodF vs ts n) = [] ∧ ∀ k : Int, 1 ≤ k → k ≤ N → allKeep vs ts (k / g k n) (n / g k n) = false) ∨
    ∃ k : Int, 1 ≤ k ∧ k ≤ N ∧ allKeep vs ts (k / g k n) (n / g k n) = true ∧ (∀ k2 : Int, k < k2 → k2 ≤ N → allKeep vs ts (k2 / g k2 n) (n / g k2 n) = false) ∧ (intsBy 1 1 N).filterMap (goodF vs ts n) ≠ [] ∧ ixD ((intsBy 1 1 N).filterMap (goodF vs ts n)) (-1) = some (.int k)
  | 0 => .inl ⟨rfl, fun k h1 h2 => by omega⟩
  | N + 1 => by
    rw [intsBy_snoc, List.filterMap_append]
    cases hk : allKeep vs ts ((1 + (N : Nat)) / g (1 + (N : Nat)) n) (n / g (1 + (N : Nat)) n) with
    | true =>
      have e : List.filterMap (goodF vs ts n) [.int (1 + (N : Nat))] = [.int (1 + (N : Nat))] := by simp [goodF, hk]
      rw [e]
      exact .inr ⟨1 + (N : Nat), by omega, by omega, hk, fun k2 h1 h2 => by omega, by simp, last_ix⟩
    | false =>
      have e : List.filterMap (goodF vs ts n) [.int (1 + (N : Nat))] = [] := by simp [goodF, hk]
      rw [e, List.append_nil]
      have st : ∀ k : Int, k = 1 + (N : Nat) → allKeep vs ts (k / g k n) (n / g k n) = false := fun k q => by rw [q]; exact hk
      rcases good_last vs ts n N with ⟨h1, h2⟩ | ⟨k, h1, h2, h3, h4, h5, h6⟩
      · refine .inl ⟨h1, fun k q1 q2 => ?_⟩
        by_cases z : k = 1 + (N : Nat)
        · exact st k z
        · exact h2 k q1 (by omega)
      · refine .inr ⟨k, h1, by omega, h3, fun k2 q1 q2 => ?_, h5, h6⟩
        by_cases z : k2 = 1 + (N : Nat)
        · exact st k2 z
        · exact h4 k2 q1 (by omega)
theorem Most.uniq {vs : List Int} {ts : List Tgt} {n : Int} {y : D} (h : Most vs ts n y) : (∀ k, 1 ≤ k → k ≤ n → allKeep vs ts (k / g k n) (n / g k n) = false) → y = .non := fun q => by
  unfold Most at h
  split at h
  · rfl
  · obtain ⟨h1, h2, h3, _⟩ := h
    rw [q _ h1 h2] at h3
    cases h3
  · exact h.elim
theorem Most.uniq2 {vs : List Int} {ts : List Tgt} {n k : Int} {y : D} (h : Most vs ts n y) (h1 : 1 ≤ k) (h2 : k ≤ n) (h3 : allKeep vs ts (k / g k n) (n / g k n) = true) (h4 : ∀ k2, k < k2 → k2 ≤ n → allKeep vs ts (k2 / g k2 n) (n / g k2 n) = false) : y = .int k := by
  unfold Most at h
  split at h
  · rw [h k h1 h2] at h3
    cases h3
  · rename_i k'
    obtain ⟨q1, q2, q3, q4⟩ := h
    by_cases a : k < k'
    · rw [h4 _ a q2] at q3
      cases q3
    · by_cases b : k' < k
      · rw [q4 _ b h2] at h3
        cases h3
      · have : k = k' := by omega
        rw [this]
  · exact h.elim
theorem g11 : g 1 1 = 1 := by decide
theorem ordered_2 {a b : W} : ordered [1, 0] [a, b] = [b, a] := rfl
theorem ordered_3 {a b c : W} : ordered [2, 1, 0] [a, b, c] = [c, b, a] := rfl
theorem use_one {t xs : List D} {σ : Sto} {k n : Nat} {R : XK1} (hx : (t :: σ)[k]? = some xs) (hk : 0 < k) (h0 : 0 < xs.length ∧ xs.length < 1000000) (hn : n + 1 ≤ 1000000) (ht : TapV n t)
    (h : ∀ x t' r, x ∈ xs → TapV (n + 1) t' → R (.d x) (t' :: (σ ++ r))) : callL sp_law_one [.l 0, .l k] (t :: σ) R := by
  unfold callL
  have hk' : ¬ (0 = k) := by omega
  have hk2 : ¬ (k = 0) := by omega
  simp -implicitDefEqProofs [refs, apart, DL.locs, subS, hk', hk2]
  rw [hx]
  refine ⟨xs, n, t, rfl, rfl, h0, hn, ht, fun x t' r hm ht' => ?_⟩
  have e : backS (t :: σ) [0, k] (t' :: xs :: r) = t' :: (σ ++ r) := by
    obtain ⟨k, rfl⟩ : ∃ m, k = m + 1 := ⟨k - 1, by omega⟩
    simp only [backS, List.set_cons_zero, List.set_cons_succ, List.cons_append]
    rw [List.getElem?_cons_succ] at hx
    obtain ⟨q1, q2⟩ := List.getElem?_eq_some_iff.mp hx
    rw [← q2, List.set_getElem_self]
  simp -implicitDefEqProofs only [globW_d]
  rw [e]
  exact h x t' r hm ht'
theorem repr_l {τ : Sto} {k : Nat} {xs : List D} {R : XK1} (hx : τ[k]? = some xs) (hs : Shows (.list (toPys xs))) (h : R (.d (.str (PyData.list (toPys xs)).shown)) τ) : qRepr [.l k] τ R := ⟨.list (toPys xs), by simp [toPyW, hx], hs, h⟩
theorem repr_d {τ : Sto} {x : D} {R : XK1} (hs : Shows (toPy x)) (h : R (.d (.str (toPy x).shown)) τ) : qRepr [.d x] τ R := ⟨toPy x, rfl, hs, h⟩
theorem tl_told {vs : List Int} {ts : List Tgt} (ho : TsOk vs ts) {n : Nat} {t : List D} (ht : TapV n t) (hn : n + 40 ≤ 1000000) {R : XK1} (h : ∀ t' r, TapV (n + 40) t' → R (.d (.bl true)) (t' :: r)) (v3 v4 v5 v6 v7 v8 v9 v10 : Option W) (r : Sto) :
    (xSeq (xFor (xiR1 [(xC (.d (.int 3)))]) (xgN 10) (xSeq (xAsg (xCall sp_law_depth [(xVar 0)]) (xgN 9))
  (xIfS (xTB (xOp (qEqU not) (xCB qRepr [(xCall sp_still_keeps [(xVar 1), (xVar 2), (xVar 9)])]) (xCB qRepr [(xCall sp_law_does_keep [(xVar 1), (xVar 2), (xVar 9)])]))) (xRet (xC (.d (.bl false)))) xNext)))
  (xRet (xOp (qEqU id) (xCallK sp_still_keeps (ordered [2, 1, 0]) [(xTup [(xC (.d (.int 1))), (xC (.d (.int 1)))]), (xVar 2), (xVar 1)]) (xCall sp_law_does_keep [(xVar 1), (xVar 2), (xTup [(xC (.d (.int 1))), (xC (.d (.int 1)))])])))) { nx := fun _ τ' => R (.d .non) τ', rt := R } [some (.l 0), some (.d (dV vs)), some (.d (dT ts)), v3, v4, v5, v6, v7, v8, v9, v10] (t :: r) := by
  simp -implicitDefEqProofs
  refine ⟨by unfold small62; decide, ?_⟩
  refine forR_ix (fun i ρ τ => ∃ t' r v9 v10, ρ = [some (.l 0), some (.d (dV vs)), some (.d (dT ts)), v3, v4, v5, v6, v7, v8, v9, v10] ∧ τ = t' :: r ∧ TapV (n + 10 * i) t') ⟨t, r, v9, v10, rfl, rfl, ht⟩ ?_ ?_
  · rintro i ρ τ L hi hL ⟨t', r, v9, v10, rfl, rfl, ht'⟩
    refine ⟨trivial, ?_⟩
    have hi3 : i < 3 := hi
    simp -implicitDefEqProofs [callL_l0]
    refine ⟨n + 10 * i, t', rfl, rfl, by omega, ht', fun a b t2 r2 a0 a1 a2 a3 ht2 => ?_⟩
    have ba : Bd 1000 a := (bd_of (by omega) (by omega)).mono (by decide)
    have bb : Bd 1000 b := (bd_of (by omega) (by omega)).mono (by decide)
    simp -implicitDefEqProofs [callL_d3]
    refine ⟨vs, ts, a, b, rfl, ⟨ho, bb, a0, a1, a3⟩, fun τ3 => ?_⟩
    refine repr_d (shows_bl _) ?_
    simp -implicitDefEqProofs [callL_d3]
    refine ⟨vs, ts, a, b, rfl, ⟨ho, ba, bb⟩, fun τ4 => ?_⟩
    refine repr_d (shows_bl _) ?_
    simp -implicitDefEqProofs
    exact hL _ _ ⟨t2, _, _, _, rfl, rfl, ht2.mono (by omega) (by omega)⟩
  · rintro ρ τ ⟨t', r, v9, v10, rfl, rfl, ht'⟩
    refine ⟨trivial, ?_⟩
    have b1 : Bd 1000 1 := by unfold Bd; decide
    simp -implicitDefEqProofs [ordered_3, callL_d3]
    refine ⟨vs, ts, 1, 1, rfl, ⟨ho, b1, by decide, by decide, g11⟩, fun τ3 => ?_⟩
    simp -implicitDefEqProofs [callL_d3]
    refine ⟨vs, ts, 1, 1, rfl, ⟨ho, b1, b1⟩, fun τ4 => ?_⟩
    simp -implicitDefEqProofs
    exact h _ _ (ht'.mono (by omega) hn)
theorem shows_3 {vs : List Int} {ts : List Tgt} {y : D} (hl : ts.length ≤ 8) (hy : First vs ts y) : Shows (.list (toPys [.bl (isNon y), y, .bl (isNon y)])) := by
  rcases hy.kind hl with rfl | ⟨i, j, hi, hj, rfl⟩
  · exact shows_3n true
  · exact shows_3t ⟨i, hi⟩ ⟨j, hj⟩
theorem isN_y {vs : List Int} {ts : List Tgt} {y : D} (hl : ts.length ≤ 8) (hy : First vs ts y) (f : Bool → Bool) (τ : Sto) (R : XK1) : qIsN f (.d y) (.d .non) τ R = R (.d (.bl (f (isNon y)))) τ := by
  rcases hy.kind hl with rfl | ⟨i, j, hi, hj, rfl⟩ <;> rfl
theorem rd_law_are_told : Rd sp_law_are_told 3 N_law_are_told t_law_are_told := by
  rintro ws τ R ⟨n, t, vs, ts, rfl, rfl, hn, ht, ho, h⟩
  refine ⟨rfl, ?_⟩
  simp -implicitDefEqProofs [t_law_are_told, startD, N_law_are_told, callL_d2]
  refine ⟨vs, ts, rfl, ho, fun y τ1 hy => ?_⟩
  simp -implicitDefEqProofs [callL_d2]
  refine ⟨vs, ts, rfl, ho, fun y2 τ2 hy2 => ?_⟩
  obtain rfl := hy2.uniq hy
  simp -implicitDefEqProofs [callL_d2]
  refine ⟨vs, ts, rfl, ho, fun y3 τ3 hy3 => ?_⟩
  obtain rfl := hy3.uniq hy
  simp -implicitDefEqProofs [ordered_2, callL_d2]
  refine ⟨vs, ts, rfl, ho, fun y4 τ4 hy4 => ?_⟩
  obtain rfl := hy4.uniq hy
  have qn := isN_y ho.2.2.1 hy4
  have sh := shows_3 ho.2.2.1 hy4
  have hn1 : ∀ d, First vs ts d → d = y4 := fun d hd => hd.uniq hy4
  clear hy hy2 hy3
  simp -implicitDefEqProofs [qn]
  refine repr_l (xs := [.bl (isNon y4), y4, .bl (isNon y4)]) (by simp [List.getElem?_append_right]) sh ?_
  simp -implicitDefEqProofs [qn]
  refine repr_l (xs := [.bl (isNon y4), y4, .bl (isNon y4)]) (by simp [List.getElem?_append_right]) sh ?_
  simp -implicitDefEqProofs
  refine use_one (xs := [.int 1, .int 6, .int 12, .int 30]) (by simp [List.getElem?_append_right]) (by omega) ⟨by decide, by decide⟩ (by omega) ht fun x t2 r2 hx ht2 => ?_
  obtain ⟨p, rfl, p0, p1⟩ : ∃ p : Int, x = .int p ∧ 1 ≤ p ∧ p ≤ 30 := by
    simp -implicitDefEqProofs at hx
    rcases hx with rfl | rfl | rfl | rfl
    · exact ⟨_, rfl, by decide, by decide⟩
    · exact ⟨_, rfl, by decide, by decide⟩
    · exact ⟨_, rfl, by decide, by decide⟩
    · exact ⟨_, rfl, by decide, by decide⟩
  have bp : Bd 20 p := bd_of (by omega) (by omega)
  simp -implicitDefEqProofs
  refine ⟨⟨⟨by decide, by decide⟩, by omega, by omega⟩, by rw [intsBy_length]; omega, compD_map (fun τ => ∃ r, τ = t2 :: r) (goodF vs ts p) (fun _ _ => trivial) _ _ _ ?_ ⟨_, rfl⟩ ?_⟩
  · intro d hd
    obtain ⟨i, hi, rfl⟩ := ints_mem hd
    refine ⟨_, rfl, ?_⟩
    rintro τ Q ⟨r, rfl⟩ k
    simp -implicitDefEqProofs [wipeD, callL_d2]
    refine ⟨_, _, rfl, ⟨by omega, (bd_of (by omega) (by omega)).mono (by decide), bp.mono (by decide)⟩, fun τ5 => ?_⟩
    simp -implicitDefEqProofs [callL_d3, ratI]
    have hg : 0 < g (1 + (i : Int)) p := g_pos (by omega)
    have b1 : Bd 1000 (1 + (i : Int)) := (bd_of (by omega) (by omega)).mono (by decide)
    refine ⟨vs, ts, _, _, rfl, ⟨ho, b1.ediv hg, (bp.mono (by decide)).ediv hg⟩, fun τ6 => ?_⟩
    have kk := k (t2 :: (r ++ τ5 ++ τ6)) ⟨_, rfl⟩
    unfold goodF at kk
    simp only at kk
    cases hk : allKeep vs ts ((1 + (i : Int)) / g (1 + (i : Int)) p) (p / g (1 + (i : Int)) p) with
    | true =>
      rw [hk, if_pos rfl] at kk
      simpa using kk
    | false =>
      rw [hk, if_neg Bool.false_ne_true] at kk
      simpa using kk
  · rintro τ5 ⟨r5, rfl⟩
    have gl := good_last vs ts p p.toNat
    have ep : ((p.toNat : Nat) : Int) = p := by omega
    rw [ep] at gl
    have okG : ∀ xs : List D, ((xs.filterMap (goodF vs ts p)).all (okD 1)) = true := fun xs => by
      rw [List.all_eq_true]
      intro d hd
      obtain ⟨x, _, hx⟩ := List.mem_filterMap.mp hd
      unfold goodF at hx
      split at hx
      · split at hx
        · cases hx; rfl
        · cases hx
      · cases hx
    have og := okG (intsBy 1 1 p.toNat)
    simp -implicitDefEqProofs only [List.nil_append]
    have en : (p + 1 - 1).toNat = p.toNat := by omega
    have en2 : p + 1 - 1 = p := by omega
    generalize (intsBy 1 1 p.toNat).filterMap (goodF vs ts p) = G at gl og
    rw [qEqU_l]
    refine qEqD_nilL (xs := G) (by simp) (by simp [List.getElem?_append_right]) og ?_
    rcases gl with ⟨g0, gn⟩ | ⟨k, k1, k2, k3, k4, gne, gix⟩
    · rw [decide_eq_true g0]
      simp -implicitDefEqProofs [callL_d3]
      refine ⟨vs, ts, p, rfl, ⟨ho, p0, by omega⟩, fun y τ6 hy => ?_⟩
      obtain rfl := hy.uniq gn
      refine repr_d shows_non ?_
      refine repr_d shows_non ?_
      simp -implicitDefEqProofs
      refine qEqD_nilL (xs := G) (by simp) (by simp [List.getElem?_append_right]) og ?_
      rw [decide_eq_true g0]
      simp -implicitDefEqProofs
      exact tl_told ho ht2 (by omega) (fun t' r h' => h t' r (h'.mono (by omega) hn)) _ _ _ _ _ _ _ _ _
    · rw [decide_eq_false gne]
      simp -implicitDefEqProofs [callL_d3]
      refine ⟨_, gix, ?_⟩
      refine ⟨vs, ts, p, rfl, ⟨ho, p0, by omega⟩, fun y τ6 hy => ?_⟩
      obtain rfl := hy.uniq2 k1 k2 k3 k4
      obtain ⟨kn, rfl⟩ : ∃ m : Nat, k = (m : Nat) := ⟨k.toNat, by omega⟩
      have shk := shows_int ⟨kn, by omega⟩
      refine repr_d shk ?_
      refine repr_d shk ?_
      simp -implicitDefEqProofs
      refine qEqD_nilL (xs := G) (by simp) (by simp [List.getElem?_append_right]) og ?_
      rw [decide_eq_false gne]
      have y0 : 0 < p / g (kn : Int) p := red_posb (by omega)
      have x0 : 0 < (kn : Int) / g (kn : Int) p := red_pos (by omega) (by omega)
      have hnon := no_clash ho (Int.le_of_lt x0) y0 k3 hy4
      have nn : isNon y4 = true := by rw [hnon]; rfl
      simp -implicitDefEqProofs [nn]
      exact tl_told ho ht2 (by omega) (fun t' r h' => h t' r (h'.mono (by omega) hn)) _ _ _ _ _ _ _ _ _
theorem First.has {vs : List Int} {ts : List Tgt} {i j : Nat} {s t : Tgt} {d : D} (hij : i < j) (hs : ts[i]? = some s) (ht : ts[j]? = some t) (hc : doClash vs s t = true) (hd : First vs ts d) : isNon d = false := by
  unfold First at hd
  split at hd
  · have := hd i j s t hij hs ht
    rw [hc] at this
    cases this
  · rfl
  · exact hd.elim
theorem First.ext {vs : List Int} {ts us : List Tgt} {d d' : D} (h : First vs ts d) (hn : isNon d = false) (h' : First vs (ts ++ us) d') : isNon d' = false := by
  unfold First at h
  split at h
  · cases hn
  · obtain ⟨i, j, s, t, _, _, h1, h2, h3, h4, _⟩ := h
    have a1 := (List.getElem?_eq_some_iff.mp h2).1
    have a2 := (List.getElem?_eq_some_iff.mp h3).1
    exact h'.has h1 (by rw [List.getElem?_append_left a1]; exact h2) (by rw [List.getElem?_append_left a2]; exact h3) h4
  · exact h.elim
theorem cut1 {t : Tgt} {ts : List Tgt} : DL.cutD ((t :: ts).map Tgt.d) none (some 1) = ([t] : List Tgt).map Tgt.d := by
  unfold DL.cutD
  have e1 : HT.sIx ((t :: ts).map Tgt.d).length 0 none = 0 := rfl
  have e2 : HT.sIx ((t :: ts).map Tgt.d).length ((t :: ts).map Tgt.d).length (some 1) = 1 := by
    rw [show (some (1 : Int)) = some ((1 : Nat) : Int) from rfl, HT.sIx_nat]
    simp
  rw [e1, e2]
  rfl
theorem made_of {vs : List Int} {x y : Int} {i j : Nat} (v : VolOk vs) (x0 : 0 < x) (xy : x < y) (y7 : y ≤ 7) (gx : g x y = 1) (hi : i < vs.length) (hj : j < vs.length) : Made vs x y i j := ⟨v, x0, xy, y7, gx, hi, hj⟩
theorem sg_ge {x : Int} : (0 ≤ sg x) = (0 ≤ x) := by
  unfold sg
  split
  · simp <;> omega
  · split <;> simp <;> omega
/-- the last lap: a little more than what is told clashes -/
theorem more_all {vs : List Int} {x y : Int} {i j : Nat} (M : Made vs x y i j) {k : Nat} {s : Tgt} (hs : (told vs x y i j)[k]? = some s) {p' q' : Int} (hp : p' = (s.a * 1000000000 + 1 * s.b) / g (s.a * 1000000000 + 1 * s.b) (s.b * 1000000000)) (hq : q' = (s.b * 1000000000) / g (s.a * 1000000000 + 1 * s.b) (s.b * 1000000000)) (hlt : p' < q') :
    TsOk vs (told vs x y i j ++ [⟨s.w, s.i, p', q'⟩]) ∧ ∀ d, First vs (told vs x y i j ++ [⟨s.w, s.i, p', q'⟩]) d → isNon d = false := by
  have T := M.ts
  have ms : s ∈ told vs x y i j := List.mem_iff_getElem?.mpr ⟨k, hs⟩
  have so := T.2.2.2 s ms
  have sb : 0 < s.b := Int.lt_trans so.2.1 so.2.2.1
  have sa := so.2.1
  have bb : Bd 37 s.b := by
    have e : s = t0 vs x y i ∨ s = t1 vs x y j := by simpa [told, t0, t1] using ms
    rcases e with rfl | rfl
    · exact M.bb0
    · exact (M.pw M.hj).2.2
  have gt := more_gt sb p' q' hp hq
  have so' : Tgt.Ok vs ⟨s.w, s.i, p', q'⟩ := by
    refine ⟨so.1, ?_, hlt, ?_, ?_⟩
    · rw [hp]; exact red_pos (by omega) (by omega)
    · rw [hp, hq]; exact red (by omega) (by omega)
    · have h1 : q' ≤ s.b * 1000000000 := by rw [hq]; exact red_leb (by omega)
      have h2 : 0 < q' := by rw [hq]; exact red_posb (by omega)
      have h3 : Bd (37 + 30) (s.b * 1000000000) := bb.mul (by unfold Bd; decide)
      exact (bd0 (Int.le_of_lt h2) h1 h3).mono (by decide)
  refine ⟨⟨T.1, by simp [told], by simp [told], fun t ht => ?_⟩, fun d hd => ?_⟩
  · rcases List.mem_append.mp ht with h | h
    · exact T.2.2.2 t h
    · rw [List.mem_singleton.mp h]
      exact so'
  · have e : told vs x y i j = [t0 vs x y i, t1 vs x y j] := rfl
    rw [e] at hs hd
    match k, hs with
    | 0, hs =>
      have es : s = t0 vs x y i := (Option.some.inj hs).symm
      subst es
      refine hd.has (i := 1) (j := 2) (s := t1 vs x y j) (t := ⟨true, i, p', q'⟩) (by decide) rfl rfl ?_
      show (if false = true then false else if false = true then _ else clash vs _ (t1 vs x y j)) = true
      simp only [Bool.false_eq_true, if_false]
      exact M.more0 so' rfl rfl gt
    | 1, hs =>
      have es : s = t1 vs x y j := (Option.some.inj hs).symm
      subst es
      refine hd.has (i := 0) (j := 2) (s := t0 vs x y i) (t := ⟨false, j, p', q'⟩) (by decide) rfl rfl ?_
      show (if true = false then false else if true = true then clash vs (t0 vs x y i) _ else _) = true
      simp only [Bool.true_eq_false, if_false, if_true]
      exact M.more1 so' rfl rfl gt
    | k + 2, hs => simp at hs
theorem rd_law_right : Rd sp_law_right 1 N_law_right t_law_right := by
  rintro ws τ R ⟨n, t, rfl, rfl, hn, ht, h⟩
  refine ⟨rfl, ?_⟩
  simp -implicitDefEqProofs [t_law_right, startD, N_law_right]
  refine ⟨by unfold small62; decide, ?_⟩
  refine forR_ix (fun i ρ τ => ∃ t' r v1 v2 v3, ρ = [some (.l 0), v1, v2, v3, none, none, none, none, none] ∧ τ = t' :: r ∧ TapV (n + 250 * i) t') ⟨t, [], _, _, _, rfl, rfl, ht⟩ ?_ ?_
  · rintro i ρ τ L hi hL ⟨t', r, v1, v2, v3, rfl, rfl, ht'⟩
    refine ⟨trivial, ?_⟩
    have hi3 : i < 3 := hi
    simp -implicitDefEqProofs [callL_l0]
    refine ⟨n + 250 * i, t', rfl, rfl, by omega, ht', fun vs t2 r2 hv ht2 => ?_⟩
    simp -implicitDefEqProofs [callL_l1]
    refine ⟨_, n + 250 * i + 10, t2, rfl, rfl, ⟨by decide, by decide⟩, by omega, ht2, fun u t3 r3 u0 u1 ht3 => ?_⟩
    simp -implicitDefEqProofs [callL_l2]
    refine ⟨n + 250 * i + 11, t3, vs, 1 + u, rfl, rfl, by omega, ht3, hv, ⟨by omega, by omega⟩, fun ts t4 r4 hl hok ht4 => ?_⟩
    have ho : TsOk vs ts := ⟨hv, by intro z; rw [z] at hl; simp at hl; omega, by omega, hok⟩
    simp -implicitDefEqProofs [callL_l2]
    refine ⟨n + 250 * i + 111, t4, vs, ts, rfl, rfl, by omega, ht4, ho, fun t5 r5 ht5 => ?_⟩
    simp -implicitDefEqProofs [callL_d2]
    refine ⟨vs, ts, rfl, ho, fun y τ6 hy => ?_⟩
    simp -implicitDefEqProofs [isN_y ho.2.2.1 hy]
    cases hn : isNon y with
    | true =>
      simp -implicitDefEqProofs
      exact hL _ _ ⟨t5, _, _, _, _, rfl, rfl, ht5.mono (by omega) (by omega)⟩
    | false =>
      simp -implicitDefEqProofs
      obtain ⟨t0', ts', rfl⟩ : ∃ a b, ts = a :: b := by
        cases ts with
        | nil => exact absurd rfl ho.2.1
        | cons a b => exact ⟨a, b, rfl⟩
      have hl8 : (t0' :: ts').length ≤ 7 := by omega
      rw [cut1]
      refine ⟨by simp at hl8 ⊢; omega, ?_⟩
      have ho2 : TsOk vs ((t0' :: ts') ++ [t0']) := ⟨hv, by simp, by simp at hl8 ⊢; omega, fun s hs => by
        rcases List.mem_append.mp hs with z | z
        · exact hok s z
        · rw [List.mem_singleton.mp z]
          exact hok _ (List.mem_cons_self ..)⟩
      refine ⟨vs, (t0' :: ts') ++ [t0'], by simp [dT], ho2, fun y2 τ7 hy2 => ?_⟩
      rw [hy.ext hn hy2]
      simp -implicitDefEqProofs
      exact hL _ _ ⟨t5, _, _, _, _, rfl, rfl, ht5.mono (by omega) (by omega)⟩
  · rintro ρ τ ⟨t', r, v1, v2, v3, rfl, rfl, ht'⟩
    refine ⟨trivial, ?_⟩
    simp -implicitDefEqProofs [callL_l0]
    refine ⟨n + 250 * 3, t', rfl, rfl, by omega, ht', fun vs t2 r2 hv ht2 => ?_⟩
    simp -implicitDefEqProofs [callL_l1]
    refine ⟨n + 760, t2, vs, rfl, rfl, by omega, ht2.mono (by omega) (by omega), hv, fun x y i j t3 r3 x0 xy y7 gx hi hj ht3 => ?_⟩
    have M := made_of hv x0 xy y7 gx hi hj
    have T := M.ts
    simp -implicitDefEqProofs [callL_l2]
    refine ⟨n + 770, t3, vs, told vs x y i j, rfl, rfl, by omega, ht3, T, fun t4 r4 ht4 => ?_⟩
    have by1 : Bd 1000 y := M.b3.mono (by decide)
    simp -implicitDefEqProofs [callL_d3]
    refine ⟨vs, told vs x y i j, x, y, rfl, ⟨T, by1, x0, Int.le_of_lt xy, gx⟩, fun τ5 => ?_⟩
    rw [M.keep]
    simp -implicitDefEqProofs [callL_d2]
    refine ⟨vs, told vs x y i j, rfl, T, fun d τ6 hd => ?_⟩
    have dn : d = .non := no_clash T (Int.le_of_lt x0) (by omega) M.keep hd
    rw [dn]
    simp -implicitDefEqProofs [isNon, callL_l1]
    refine ⟨_, n + 870, t4, rfl, rfl, ⟨by decide, by decide⟩, by omega, ht4, fun u t5 r5 u0 u1 ht5 => ?_⟩
    simp -implicitDefEqProofs
    obtain ⟨k, rfl⟩ : ∃ k : Nat, u = (k : Nat) := ⟨u.toNat, by omega⟩
    have hk : k < (told vs x y i j).length := by
      show k < 2
      omega
    have hs : (told vs x y i j)[k]? = some (told vs x y i j)[k] := List.getElem?_eq_getElem hk
    have so := T.2.2.2 _ (List.getElem_mem hk)
    generalize (told vs x y i j)[k] = s at hs so
    refine ⟨_, ix_ts hs, ?_⟩
    have ma := more_all M hs rfl rfl
    have sb : 0 < s.b := Int.lt_trans so.2.1 so.2.2.1
    have b9 : Bd 1000 1000000000 := by unfold Bd; decide
    have b1 : Bd 1000 1 := by unfold Bd; decide
    simp -implicitDefEqProofs [Tgt.d, callL_d2]
    refine ⟨by unfold CPow; decide, ?_⟩
    refine ⟨_, _, _, _, rfl, ⟨sb, by decide, so.ba, so.2.2.2.2, b1, b9⟩, fun τ7 => ?_⟩
    simp -implicitDefEqProofs [callL_d2, ratI]
    have ma' : ∀ p' q' : Int, p' = (s.a * 1000000000 + s.b) / g (s.a * 1000000000 + s.b) (s.b * 1000000000) → q' = (s.b * 1000000000) / g (s.a * 1000000000 + s.b) (s.b * 1000000000) → p' < q' → TsOk vs (told vs x y i j ++ [⟨s.w, s.i, p', q'⟩]) ∧ ∀ d, First vs (told vs x y i j ++ [⟨s.w, s.i, p', q'⟩]) d → isNon d = false :=
      fun p' q' e1 e2 hl => more_all M hs (by rw [Int.one_mul]; exact e1) (by rw [Int.one_mul]; exact e2) hl
    have gp : 0 < g (s.a * 1000000000 + s.b) (s.b * 1000000000) := g_pos (by omega)
    have bp : Bd 20000 ((s.a * 1000000000 + s.b) / g (s.a * 1000000000 + s.b) (s.b * 1000000000)) := (((so.ba.mul b9).add ((so.2.2.2.2).mono (by decide))).ediv gp).mono (by decide)
    have bq : Bd 20000 ((s.b * 1000000000) / g (s.a * 1000000000 + s.b) (s.b * 1000000000)) := ((so.2.2.2.2.mul b9).ediv gp).mono (by decide)
    generalize (s.a * 1000000000 + s.b) / g (s.a * 1000000000 + s.b) (s.b * 1000000000) = p' at ma' bp
    generalize (s.b * 1000000000) / g (s.a * 1000000000 + s.b) (s.b * 1000000000) = q' at ma' bq
    refine ⟨_, _, _, _, rfl, ⟨bp, bq, b1.mono (by decide), b1.mono (by decide)⟩, fun τ8 => ?_⟩
    simp -implicitDefEqProofs [sg_ge]
    by_cases z : q' ≤ p'
    · rw [if_pos (by omega)]
      exact h _
    · rw [if_neg (by omega)]
      obtain ⟨T2, N2⟩ := ma' p' q' rfl rfl (by omega)
      refine ⟨by show 2 ≤ 999999; decide, vs, told vs x y i j ++ [⟨s.w, s.i, p', q'⟩], by simp [dT, Tgt.d], T2, fun d' τ9 hd' => ?_⟩
      rw [N2 d' hd']
      simp -implicitDefEqProofs
      exact h _
theorem cut_ints {ns : List Int} {lo hi : Option Int} : ∃ ms : List Int, DL.cutD (ns.map D.int) lo hi = ms.map D.int := by
  unfold DL.cutD
  rw [← List.map_drop, ← List.map_take]
  exact ⟨_, rfl⟩
theorem rd_law_tap : Rd sp_law_tap 2 N_law_tap t_law_tap := by
  rintro ws τ R ⟨ns, t, rfl, ⟨hl, t0, t1⟩, h⟩
  refine ⟨rfl, ?_⟩
  have body : ∀ (own : Int) (τ : Sto), (xSeq (xAsg (xOp qAddU (xC (.d (.int 61547))) (xOp qMul (xC (.d (.int 1741))) (xVar 1))) (xgN 3))
  (xSeq (xFor (xiL (xOp qAddU (xSlL (xVar 0) xNoPart (xPart (xC (.d (.int 6))))) (xLst [(xVar 2)]))) (xgN 4) (xAsg (xOp qMod (xCB qInt [(xOp qAddU (xOp qAddU (xOp qMul (xVar 3) (xC (.d (.int 52627)))) (xOp qMod (xCB qInt [(xVar 4)]) (xC (.d (.int 2147483549))))) (xC (.d (.int 23))))]) (xC (.d (.int 2147483549)))) (xgN 3)))
  (xRet (xLst [(xIf (xTOr (xTB (xOp qLt (xVar 2) (xC (.d (.int 0))))) (xTB (xOp qGe (xVar 2) (xOp qPow (xC (.d (.int 10))) (xC (.d (.int 18))))))) (xCB qAbs [(xVar 2)]) (xC (.d (.int 0)))), (xVar 3), (xC (.d (.int 0)))])))) { nx := fun _ τ' => R (.d .non) τ', rt := R } [some (.d (.rol (ns.map D.int))), some (.d (.int t)), some (.d (.int own)), none, none] τ := by
    intro own τ
    obtain ⟨ms, hm⟩ := cut_ints (ns := ns) (lo := none) (hi := some 6)
    have m1 : CMulW 1741 t := (bd_of (by decide) (by decide)).cm (bd_of (a := t) (by omega) (by omega))
    simp -implicitDefEqProofs
    refine ⟨m1, ?_⟩
    rw [hm]
    have ml : ms.length ≤ 63 := by
      have e := congrArg List.length hm
      unfold DL.cutD at e
      simp at e
      omega
    refine ⟨by simp; omega, ?_⟩
    refine forL_ix (fun i ρ τ' => ∃ (z : Int) (v4 : Option W), ρ = [some (.d (.rol (ns.map D.int))), some (.d (.int t)), some (.d (.int own)), some (.d (.int z)), v4] ∧ τ' = τ ++ [ms.map D.int, [.int own], ms.map D.int ++ [.int own]] ∧ 0 ≤ z ∧ z < 2147483549) ⟨_, none, rfl, by simp, by omega, by omega⟩ ?_ ?_
    · rintro i x ρ τ' L hx hL ⟨z, v4, rfl, rfl, z0, z1⟩
      refine ⟨by simp, ?_⟩
      obtain ⟨e, rfl⟩ : ∃ e : Int, x = .int e := by
        have hm2 : x ∈ (ms ++ [own]).map D.int := by
          rw [List.map_append]
          exact List.mem_iff_getElem?.mpr ⟨i, hx⟩
        obtain ⟨e, _, rfl⟩ := List.mem_map.mp hm2
        exact ⟨e, rfl⟩
      have mz : CMulW z 52627 := Bd.cm (a := 31) (b := 20) (by unfold Bd; omega) (by unfold Bd; decide)
      simp -implicitDefEqProofs
      refine ⟨mz, hL _ _ ⟨_, _, rfl, by simp, Int.emod_nonneg _ (by decide), Int.emod_lt_of_pos _ (by decide)⟩⟩
    · rintro ρ τ' ⟨z, v4, rfl, rfl, z0, z1⟩
      refine ⟨by simp, ?_⟩
      simp -implicitDefEqProofs
      have fin : ∀ a : Int, 0 ≤ a → ∀ τ' j, τ'[j]? = some [.int a, .int z, .int 0] → R (.l j) τ' := fun a a0 τ' j hj => h j τ' _ hj ⟨a, z, 0, rfl, a0, z0, z1, by decide, by decide, by decide⟩
      have ab : 0 ≤ (if own < 0 then -own else own) := by split <;> omega
      by_cases c1 : own < 0
      · rw [if_pos c1]
        exact fin _ ab _ _ (by simp)
      · rw [if_neg c1]
        refine ⟨by unfold CPow; decide, ?_⟩
        by_cases c2 : 1000000000000000000 ≤ own
        · rw [if_pos c2]
          exact fin _ ab _ _ (by simp)
        · rw [if_neg c2]
          exact fin 0 (by decide) _ _ (by simp)
  by_cases c : t < ns.length
  · have e : ixD (ns.map D.int) t = some (.int (ns[t.toNat]'(by omega))) := by
      have q := ix_vs (vs := ns) (i := t.toNat) (by omega)
      rw [show ((t.toNat : Nat) : Int) = t by omega] at q
      exact q
    have b := body (ns[t.toNat]'(by omega)) τ
    unfold t_law_tap
    simp -implicitDefEqProofs only [startD, N_law_tap]
    simp -implicitDefEqProofs [c, e]
    simp -implicitDefEqProofs at b
    exact b
  · obtain ⟨ms, hm⟩ := cut_ints (ns := ns) (lo := none) (hi := some 3)
    have m0 : CMulW 8513 t := (bd_of (by decide) (by decide)).cm (bd_of (a := t) (by omega) (by omega))
    have b := body (8513 * t + 409 + ms.sum % 1000081) (τ ++ [ms.map D.int])
    unfold t_law_tap
    simp -implicitDefEqProofs only [startD, N_law_tap]
    simp -implicitDefEqProofs [c]
    rw [hm]
    refine ⟨m0, ms, by simp, ?_⟩
    simp -implicitDefEqProofs
    simp -implicitDefEqProofs at b
    exact b
theorem rd_law : Rd sp_law 1 N_law t_law := by
  rintro ws τ R ⟨ns, rfl, hl, h⟩
  refine ⟨rfl, ?_⟩
  simp -implicitDefEqProofs [t_law, startD, N_law]
  generalize hK : (if 2 < if 3 < (ns.length : Int) then 3 else (ns.length : Int) then if 3 < (ns.length : Int) then 3 else (ns.length : Int) else 2) = K
  have kb : 2 ≤ K ∧ K ≤ 3 := by
    split at hK <;> split at hK <;> omega
  refine ⟨⟨by omega, by omega⟩, by rw [intsBy_length]; omega, compD_map (fun _ => True) (fun _ => some (.bl true)) (fun _ _ => trivial) _ _ _ ?_ trivial ?_⟩
  · intro x hx
    obtain ⟨i, hi, rfl⟩ := ints_mem hx
    refine ⟨_, rfl, fun τ2 Q _ k => ?_⟩
    simp -implicitDefEqProofs [wipeD, callL_d2]
    refine ⟨ns, _, rfl, ⟨hl, by omega, by omega⟩, fun j τ3 xs hj hx => ?_⟩
    have gw : globW [] τ2.length (.l j) = .l (τ2.length + j) := by simp [globW]
    simp -implicitDefEqProofs only [gw, callL_l0]
    refine ⟨0, xs, rfl, ?_, by decide, hx, fun τ4 => k _ trivial⟩
    have : (τ2 ++ τ3)[τ2.length + j]? = some xs := by
      rw [List.getElem?_append_right (by omega), Nat.add_sub_cancel_left]
      exact hj
    simp [this]
  · intro τ' _
    simp -implicitDefEqProofs only [List.nil_append, filterMap_some, List.map_const']
    generalize (intsBy 1 0 K.toNat).length = m
    refine ⟨List.replicate m true, by simp, ?_⟩
    have e : (List.replicate m true).all id = true := by simp
    rw [e]
    exact h _
end K57

namespace K57
open PySem PySem.Spec PyProof.Rows L2 DL
def top (i : Nat) : Stmt := PySem.Challenge.pw_partedcolumns_k57_whole_still_targets.main.body.getD i (.Pass ⟨0, 0, 0, 0⟩)
section
variable {P : Program} {w : World} {K : PySem.W.Frag} {mg : Str → Option Value} {base : Heap}
abbrev s_is_whole : Stmt := top 8
abbrev ps_is_whole : List Str := ["value"]
theorem sc_is_whole : FnScope N_is_whole ps_is_whole (defScope s_is_whole) := ⟨rfl, rfl, rfl, by decide +kernel, rfl, by decide +kernel, by decide +kernel⟩
theorem ok_is_whole (B : BI mg) (D : Here K mg "is_whole" ps_is_whole s_is_whole) : DefOk P w K mg base 1 "is_whole" ps_is_whole s_is_whole sp_is_whole :=
  have sc := sc_is_whole
  def_mk (k := 0) (t := t_is_whole) D sc rd_is_whole fun f cdv A outer s H E hr hG =>
    (ss_one (s_ret (d_and (d_isi isi_int B.nIsi (a_cons (d_var 0) (a_cons (d_ty rfl B.nInt (by decide +kernel)) a_nil))) (d_one (d_not (d_isi isi_bool B.nIsi (a_cons (d_var 0) (a_cons (d_ty rfl B.nBool (by decide +kernel)) a_nil))))))))

abbrev s_is_between : Stmt := top 9
abbrev ps_is_between : List Str := ["value", "low", "high"]
theorem sc_is_between : FnScope N_is_between ps_is_between (defScope s_is_between) := ⟨rfl, rfl, rfl, by decide +kernel, rfl, by decide +kernel, by decide +kernel⟩
theorem ok_is_between (B : BI mg) (D : Here K mg "is_between" ps_is_between s_is_between) (D_is_whole : DefOk P w K mg base 1 "is_whole" ps_is_whole s_is_whole sp_is_whole) : DefOk P w K mg base 2 "is_between" ps_is_between s_is_between sp_is_between :=
  have sc := sc_is_between
  def_mk (k := 1) (t := t_is_between) D sc rd_is_between fun f cdv A outer s H E hr hG =>
    (ss_one (s_ret (d_and (d_call D_is_whole (hr.mono (by decide)) hG rfl (a_cons (d_var 0) a_nil)) (d_and (d_le (d_var 1) (d_var 0)) (d_one (d_le (d_var 0) (d_var 2)))))))

abbrev s_are_wholes : Stmt := top 10
abbrev ps_are_wholes : List Str := ["value", "many"]
theorem sc_are_wholes : FnScope N_are_wholes ps_are_wholes (defScope s_are_wholes) := ⟨rfl, rfl, rfl, by decide +kernel, rfl, by decide +kernel, by decide +kernel⟩
theorem ok_are_wholes (B : BI mg) (D : Here K mg "are_wholes" ps_are_wholes s_are_wholes) (D_is_whole : DefOk P w K mg base 1 "is_whole" ps_is_whole s_is_whole sp_is_whole) : DefOk P w K mg base 2 "are_wholes" ps_are_wholes s_are_wholes sp_are_wholes :=
  have sc := sc_are_wholes
  def_mk (k := 1) (t := t_are_wholes) D sc rd_are_wholes fun f cdv A outer s H E hr hG =>
    (ss_one (s_ret (d_and (d_isi isi_tup B.nIsi (a_cons (d_var 0) (a_cons (d_ty rfl B.nTuple (by decide +kernel)) a_nil))) (d_and (d_eq2 hr (d_len B.nLen (a_cons (d_var 0) a_nil)) (d_var 1)) (d_one (d_all rfl B.nAll (a_cons (d_lc rfl sc.nd (i_tup (d_var 0)) (blkOk_by (own := [("each", 2)]) (show blkC N_are_wholes (defScope s_are_wholes) _ _ = true by decide +kernel)) (fun _ _ _ _ _ => (cg_one 2 sc.nd)) (fun _ _ _ _ _ => ts_nil) (fun _ _ _ _ _ => (d_call D_is_whole (hr.mono (by decide)) hG rfl (a_cons (d_var 2) a_nil)))) a_nil)))))))

abbrev s_divisor_of : Stmt := top 11
abbrev ps_divisor_of : List Str := ["numbers"]
theorem sc_divisor_of : FnScope N_divisor_of ps_divisor_of (defScope s_divisor_of) := ⟨rfl, rfl, rfl, by decide +kernel, rfl, by decide +kernel, by decide +kernel⟩
theorem ok_divisor_of (B : BI mg) (D : Here K mg "divisor_of" ps_divisor_of s_divisor_of) (hgcd : mg "gcd" = some (.builtin "math.gcd")) : DefOk P w K mg base 1 "divisor_of" ps_divisor_of s_divisor_of sp_divisor_of :=
  have sc := sc_divisor_of
  def_mk (k := 0) (t := t_divisor_of) D sc rd_divisor_of fun f cdv A outer s H E hr hG =>
    (ss_cons (s_set 1 sc.nd d_int)
    (ss_cons (s_for PassesOwn.never rfl (i_tup (d_var 0)) (g_name 2 sc.nd) (ss_one (s_set 1 sc.nd (d_gcd hgcd (a_cons (d_var 1) (a_cons (d_var 2) a_nil))))))
    (ss_one (s_ret (d_var 1)))))

abbrev s_lowest : Stmt := top 12
abbrev ps_lowest : List Str := ["numbers"]
theorem sc_lowest : FnScope N_lowest ps_lowest (defScope s_lowest) := ⟨rfl, rfl, rfl, by decide +kernel, rfl, by decide +kernel, by decide +kernel⟩
theorem ok_lowest (B : BI mg) (D : Here K mg "lowest" ps_lowest s_lowest) (D_divisor_of : DefOk P w K mg base 1 "divisor_of" ps_divisor_of s_divisor_of sp_divisor_of) : DefOk P w K mg base 2 "lowest" ps_lowest s_lowest sp_lowest :=
  have sc := sc_lowest
  def_mk (k := 1) (t := t_lowest) D sc rd_lowest fun f cdv A outer s H E hr hG =>
    (ss_cons (s_set 1 sc.nd (d_call D_divisor_of (hr.mono (by decide)) hG rfl (a_cons (d_var 0) a_nil)))
    (ss_one (s_ret (d_if (t_eq2 hr (d_var 1) d_int) (d_tuplec B.nTuple (a_cons (d_var 0) a_nil)) (d_tuplec B.nTuple (a_cons (d_lc rfl sc.nd (i_tup (d_var 0)) (blkOk_by (own := [("number", 2)]) (show blkC N_lowest (defScope s_lowest) _ _ = true by decide +kernel)) (fun _ _ _ _ _ => (cg_one 2 sc.nd)) (fun _ _ _ _ _ => ts_nil) (fun _ _ _ _ _ => (d_div (d_var 2) (d_var 1)))) a_nil))))))

abbrev s_is_ratio : Stmt := top 15
abbrev ps_is_ratio : List Str := ["value"]
theorem sc_is_ratio : FnScope N_is_ratio ps_is_ratio (defScope s_is_ratio) := ⟨rfl, rfl, rfl, by decide +kernel, rfl, by decide +kernel, by decide +kernel⟩
theorem ok_is_ratio (B : BI mg) (D : Here K mg "is_ratio" ps_is_ratio s_is_ratio) (D_divisor_of : DefOk P w K mg base 1 "divisor_of" ps_divisor_of s_divisor_of sp_divisor_of) (D_are_wholes : DefOk P w K mg base 2 "are_wholes" ps_are_wholes s_are_wholes sp_are_wholes) : DefOk P w K mg base 3 "is_ratio" ps_is_ratio s_is_ratio sp_is_ratio :=
  have sc := sc_is_ratio
  def_mk (k := 2) (t := t_is_ratio) D sc rd_is_ratio fun f cdv A outer s H E hr hG =>
    (ss_one (s_ret (d_and (d_call D_are_wholes (hr.mono (by decide)) hG rfl (a_cons (d_var 0) (a_cons d_int a_nil))) (d_and (d_gt (d_ix2 (d_var 0) d_int) d_int) (d_one (d_eq2 hr (d_call D_divisor_of (hr.mono (by decide)) hG rfl (a_cons (d_var 0) a_nil)) d_int))))))

abbrev s_ratio : Stmt := top 16
abbrev ps_ratio : List Str := ["top", "low"]
theorem sc_ratio : FnScope N_ratio ps_ratio (defScope s_ratio) := ⟨rfl, rfl, rfl, by decide +kernel, rfl, by decide +kernel, by decide +kernel⟩
theorem ok_ratio (B : BI mg) (D : Here K mg "ratio" ps_ratio s_ratio) (D_lowest : DefOk P w K mg base 2 "lowest" ps_lowest s_lowest sp_lowest) : DefOk P w K mg base 3 "ratio" ps_ratio s_ratio sp_ratio :=
  have sc := sc_ratio
  def_mk (k := 2) (t := t_ratio) D sc rd_ratio fun f cdv A outer s H E hr hG =>
    (ss_one (s_ret (d_if (t_gt (d_var 1) d_int) (d_call D_lowest (hr.mono (by decide)) hG rfl (a_cons (d_tup (a_cons (d_var 0) (a_cons (d_var 1) a_nil))) a_nil)) (d_call D_lowest (hr.mono (by decide)) hG rfl (a_cons (d_tup (a_cons (d_neg (d_var 0)) (a_cons (d_neg (d_var 1)) a_nil))) a_nil)))))

abbrev s_minus : Stmt := top 17
abbrev ps_minus : List Str := ["one", "two"]
theorem sc_minus : FnScope N_minus ps_minus (defScope s_minus) := ⟨rfl, rfl, rfl, by decide +kernel, rfl, by decide +kernel, by decide +kernel⟩
theorem ok_minus (B : BI mg) (D : Here K mg "minus" ps_minus s_minus) (D_ratio : DefOk P w K mg base 3 "ratio" ps_ratio s_ratio sp_ratio) : DefOk P w K mg base 4 "minus" ps_minus s_minus sp_minus :=
  have sc := sc_minus
  def_mk (k := 3) (t := t_minus) D sc rd_minus fun f cdv A outer s H E hr hG =>
    (ss_one (s_ret (d_call D_ratio (hr.mono (by decide)) hG rfl (a_cons (d_sub (d_mul (d_ix2 (d_var 0) d_int) (d_ix2 (d_var 1) d_int)) (d_mul (d_ix2 (d_var 1) d_int) (d_ix2 (d_var 0) d_int))) (a_cons (d_mul (d_ix2 (d_var 0) d_int) (d_ix2 (d_var 1) d_int)) a_nil)))))

abbrev s_power : Stmt := top 18
abbrev ps_power : List Str := ["one", "many"]
theorem sc_power : FnScope N_power ps_power (defScope s_power) := ⟨rfl, rfl, rfl, by decide +kernel, rfl, by decide +kernel, by decide +kernel⟩
theorem ok_power (B : BI mg) (D : Here K mg "power" ps_power s_power) : DefOk P w K mg base 1 "power" ps_power s_power sp_power :=
  have sc := sc_power
  def_mk (k := 0) (t := t_power) D sc rd_power fun f cdv A outer s H E hr hG =>
    (ss_cons (s_asg (d_tup (a_cons d_int (a_cons d_int a_nil))) (g_tup rfl (gs_cons (g_name 2 sc.nd) (gs_cons (g_name 3 sc.nd) gs_nil))))
    (ss_cons (s_for PassesOwn.never rfl (i_rng1 B.nRange (a_cons (d_var 1) a_nil)) (g_name 4 sc.nd) (ss_one (s_par 2 3 rfl sc.nd (d_mul (d_var 2) (d_ix2 (d_var 0) d_int)) (d_mul (d_var 3) (d_ix2 (d_var 0) d_int)))))
    (ss_one (s_ret (d_tup (a_cons (d_var 2) (a_cons (d_var 3) a_nil)))))))

abbrev s_is_below : Stmt := top 19
abbrev ps_is_below : List Str := ["one", "two"]
theorem sc_is_below : FnScope N_is_below ps_is_below (defScope s_is_below) := ⟨rfl, rfl, rfl, by decide +kernel, rfl, by decide +kernel, by decide +kernel⟩
theorem ok_is_below (B : BI mg) (D : Here K mg "is_below" ps_is_below s_is_below) : DefOk P w K mg base 1 "is_below" ps_is_below s_is_below sp_is_below :=
  have sc := sc_is_below
  def_mk (k := 0) (t := t_is_below) D sc rd_is_below fun f cdv A outer s H E hr hG =>
    (ss_one (s_ret (d_lt (d_mul (d_ix2 (d_var 0) d_int) (d_ix2 (d_var 1) d_int)) (d_mul (d_ix2 (d_var 1) d_int) (d_ix2 (d_var 0) d_int)))))

abbrev s_is_share : Stmt := top 21
abbrev ps_is_share : List Str := ["value"]
theorem sc_is_share : FnScope N_is_share ps_is_share (defScope s_is_share) := ⟨rfl, rfl, rfl, by decide +kernel, rfl, by decide +kernel, by decide +kernel⟩
theorem ok_is_share (B : BI mg) (D : Here K mg "is_share" ps_is_share s_is_share) (D_is_ratio : DefOk P w K mg base 3 "is_ratio" ps_is_ratio s_is_ratio sp_is_ratio) : DefOk P w K mg base 4 "is_share" ps_is_share s_is_share sp_is_share :=
  have sc := sc_is_share
  def_mk (k := 3) (t := t_is_share) D sc rd_is_share fun f cdv A outer s H E hr hG =>
    (ss_one (s_ret (d_and (d_call D_is_ratio (hr.mono (by decide)) hG rfl (a_cons (d_var 0) a_nil)) (d_and (d_le d_int (d_ix2 (d_var 0) d_int)) (d_one (d_le (d_ix2 (d_var 0) d_int) (d_ix2 (d_var 0) d_int)))))))

abbrev s_is_inner : Stmt := top 22
abbrev ps_is_inner : List Str := ["value"]
theorem sc_is_inner : FnScope N_is_inner ps_is_inner (defScope s_is_inner) := ⟨rfl, rfl, rfl, by decide +kernel, rfl, by decide +kernel, by decide +kernel⟩
theorem ok_is_inner (B : BI mg) (D : Here K mg "is_inner" ps_is_inner s_is_inner) (D_is_ratio : DefOk P w K mg base 3 "is_ratio" ps_is_ratio s_is_ratio sp_is_ratio) : DefOk P w K mg base 4 "is_inner" ps_is_inner s_is_inner sp_is_inner :=
  have sc := sc_is_inner
  def_mk (k := 3) (t := t_is_inner) D sc rd_is_inner fun f cdv A outer s H E hr hG =>
    (ss_one (s_ret (d_and (d_call D_is_ratio (hr.mono (by decide)) hG rfl (a_cons (d_var 0) a_nil)) (d_and (d_lt d_int (d_ix2 (d_var 0) d_int)) (d_one (d_lt (d_ix2 (d_var 0) d_int) (d_ix2 (d_var 0) d_int)))))))

abbrev s_are_volatilities : Stmt := top 25
abbrev ps_are_volatilities : List Str := ["value"]
theorem sc_are_volatilities : FnScope N_are_volatilities ps_are_volatilities (defScope s_are_volatilities) := ⟨rfl, rfl, rfl, by decide +kernel, rfl, by decide +kernel, by decide +kernel⟩
theorem ok_are_volatilities (B : BI mg) (D : Here K mg "are_volatilities" ps_are_volatilities s_are_volatilities) (D_is_between : DefOk P w K mg base 2 "is_between" ps_is_between s_is_between sp_is_between) (G_MOST_VOLATILE : GlobD K mg "MOST_VOLATILE" (.int 12)) : DefOk P w K mg base 3 "are_volatilities" ps_are_volatilities s_are_volatilities sp_are_volatilities :=
  have sc := sc_are_volatilities
  def_mk (k := 2) (t := t_are_volatilities) D sc rd_are_volatilities fun f cdv A outer s H E hr hG =>
    (ss_cons (s_if (t_w (w_or (t_not (t_val (d_isi isi_tup B.nIsi (a_cons (d_var 0) (a_cons (d_ty rfl B.nTuple (by decide +kernel)) a_nil))))) (w_or (t_lt (d_len B.nLen (a_cons (d_var 0) a_nil)) d_int) (w_or1 (t_gt (d_len B.nLen (a_cons (d_var 0) a_nil)) d_int))))) (ss_one (s_ret d_bl)) ss_nil)
    (ss_cons (s_if (t_not (t_val (d_all rfl B.nAll (a_cons (d_lc rfl sc.nd (i_tup (d_var 0)) (blkOk_by (own := [("each", 1)]) (show blkC N_are_volatilities (defScope s_are_volatilities) _ _ = true by decide +kernel)) (fun _ _ _ _ _ => (cg_one 1 sc.nd)) (fun _ _ _ _ _ => ts_nil) (fun _ _ _ _ _ => (d_call D_is_between (hr.mono (by decide)) hG rfl (a_cons (d_var 1) (a_cons d_int (a_cons (d_glob rfl G_MOST_VOLATILE) a_nil)))))) a_nil)))) (ss_one (s_ret d_bl)) ss_nil)
    (ss_one (s_ret (d_all rfl B.nAll (a_cons (d_lc rfl sc.nd (i_rng1 B.nRange (a_cons (d_sub (d_len B.nLen (a_cons (d_var 0) a_nil)) d_int) a_nil)) (blkOk_by (own := [("at", 2)]) (show blkC N_are_volatilities (defScope s_are_volatilities) _ _ = true by decide +kernel)) (fun _ _ _ _ _ => (cg_one 2 sc.nd)) (fun _ _ _ _ _ => ts_nil) (fun _ _ _ _ _ => (d_gt (d_ix2 (d_var 0) (d_var 2)) (d_ix2 (d_var 0) (d_add2 (d_var 2) d_int))))) a_nil))))))

abbrev s_check_volatilities : Stmt := top 26
abbrev ps_check_volatilities : List Str := ["value"]
theorem sc_check_volatilities : FnScope N_check_volatilities ps_check_volatilities (defScope s_check_volatilities) := ⟨rfl, rfl, rfl, by decide +kernel, rfl, by decide +kernel, by decide +kernel⟩
theorem ok_check_volatilities (B : BI mg) (D : Here K mg "check_volatilities" ps_check_volatilities s_check_volatilities) (D_are_volatilities : DefOk P w K mg base 3 "are_volatilities" ps_are_volatilities s_are_volatilities sp_are_volatilities) : DefOk P w K mg base 4 "check_volatilities" ps_check_volatilities s_check_volatilities sp_check_volatilities :=
  have sc := sc_check_volatilities
  def_mk (k := 3) (t := t_check_volatilities) D sc rd_check_volatilities fun f cdv A outer s H E hr hG =>
    (ss_one (s_if (t_not (t_val (d_call D_are_volatilities (hr.mono (by decide)) hG rfl (a_cons (d_var 0) a_nil)))) (ss_one s_never) ss_nil))

abbrev s_is_depth : Stmt := top 29
abbrev ps_is_depth : List Str := ["value"]
theorem sc_is_depth : FnScope N_is_depth ps_is_depth (defScope s_is_depth) := ⟨rfl, rfl, rfl, by decide +kernel, rfl, by decide +kernel, by decide +kernel⟩
theorem ok_is_depth (B : BI mg) (D : Here K mg "is_depth" ps_is_depth s_is_depth) (D_is_share : DefOk P w K mg base 4 "is_share" ps_is_share s_is_share sp_is_share) : DefOk P w K mg base 5 "is_depth" ps_is_depth s_is_depth sp_is_depth :=
  have sc := sc_is_depth
  def_mk (k := 4) (t := t_is_depth) D sc rd_is_depth fun f cdv A outer s H E hr hG =>
    (ss_one (s_ret (d_and (d_call D_is_share (hr.mono (by decide)) hG rfl (a_cons (d_var 0) a_nil)) (d_one (d_gt (d_ix2 (d_var 0) d_int) d_int)))))

abbrev s_check_depth : Stmt := top 30
abbrev ps_check_depth : List Str := ["value"]
theorem sc_check_depth : FnScope N_check_depth ps_check_depth (defScope s_check_depth) := ⟨rfl, rfl, rfl, by decide +kernel, rfl, by decide +kernel, by decide +kernel⟩
theorem ok_check_depth (B : BI mg) (D : Here K mg "check_depth" ps_check_depth s_check_depth) (D_is_depth : DefOk P w K mg base 5 "is_depth" ps_is_depth s_is_depth sp_is_depth) : DefOk P w K mg base 6 "check_depth" ps_check_depth s_check_depth sp_check_depth :=
  have sc := sc_check_depth
  def_mk (k := 5) (t := t_check_depth) D sc rd_check_depth fun f cdv A outer s H E hr hG =>
    (ss_one (s_if (t_not (t_val (d_call D_is_depth (hr.mono (by decide)) hG rfl (a_cons (d_var 0) a_nil)))) (ss_one s_never) ss_nil))

abbrev s_check_parts : Stmt := top 31
abbrev ps_check_parts : List Str := ["value"]
theorem sc_check_parts : FnScope N_check_parts ps_check_parts (defScope s_check_parts) := ⟨rfl, rfl, rfl, by decide +kernel, rfl, by decide +kernel, by decide +kernel⟩
theorem ok_check_parts (B : BI mg) (D : Here K mg "check_parts" ps_check_parts s_check_parts) (D_is_between : DefOk P w K mg base 2 "is_between" ps_is_between s_is_between sp_is_between) (G_MOST_PARTS : GlobD K mg "MOST_PARTS" (.int 1000)) : DefOk P w K mg base 3 "check_parts" ps_check_parts s_check_parts sp_check_parts :=
  have sc := sc_check_parts
  def_mk (k := 2) (t := t_check_parts) D sc rd_check_parts fun f cdv A outer s H E hr hG =>
    (ss_one (s_if (t_not (t_val (d_call D_is_between (hr.mono (by decide)) hG rfl (a_cons (d_var 0) (a_cons d_int (a_cons (d_glob rfl G_MOST_PARTS) a_nil)))))) (ss_one s_never) ss_nil))

abbrev s_is_still_target : Stmt := top 36
abbrev ps_is_still_target : List Str := ["volatilities", "value"]
theorem sc_is_still_target : FnScope N_is_still_target ps_is_still_target (defScope s_is_still_target) := ⟨rfl, rfl, rfl, by decide +kernel, rfl, by decide +kernel, by decide +kernel⟩
theorem ok_is_still_target (B : BI mg) (D : Here K mg "is_still_target" ps_is_still_target s_is_still_target) (D_is_between : DefOk P w K mg base 2 "is_between" ps_is_between s_is_between sp_is_between) (D_is_inner : DefOk P w K mg base 4 "is_inner" ps_is_inner s_is_inner sp_is_inner) (G_LEFT : GlobD K mg "LEFT" (.str "left")) (G_OVER : GlobD K mg "OVER" (.str "over")) : DefOk P w K mg base 5 "is_still_target" ps_is_still_target s_is_still_target sp_is_still_target :=
  have sc := sc_is_still_target
  def_mk (k := 4) (t := t_is_still_target) D sc rd_is_still_target fun f cdv A outer s H E hr hG =>
    (ss_cons (s_if (t_w (w_or (t_not (t_val (d_isi isi_tup B.nIsi (a_cons (d_var 1) (a_cons (d_ty rfl B.nTuple (by decide +kernel)) a_nil))))) (w_or (t_ne2 hr (d_len B.nLen (a_cons (d_var 1) a_nil)) d_int) (w_or1 (t_not (t_val (d_isi isi_str B.nIsi (a_cons (d_ix2 (d_var 1) d_int) (a_cons (d_ty rfl B.nStr (by decide +kernel)) a_nil))))))))) (ss_one (s_ret d_bl)) ss_nil)
    (ss_cons (s_if (t_w (w_or (t_notIn (d_ix2 (d_var 1) d_int) (d_tup (a_cons (d_glob rfl G_OVER) (a_cons (d_glob rfl G_LEFT) a_nil)))) (w_or1 (t_not (t_val (d_call D_is_between (hr.mono (by decide)) hG rfl (a_cons (d_ix2 (d_var 1) d_int) (a_cons d_int (a_cons (d_sub (d_len B.nLen (a_cons (d_var 0) a_nil)) d_int) a_nil))))))))) (ss_one (s_ret d_bl)) ss_nil)
    (ss_one (s_ret (d_call D_is_inner (hr.mono (by decide)) hG rfl (a_cons (d_ix2 (d_var 1) d_int) a_nil))))))

abbrev s_check_targets : Stmt := top 37
abbrev ps_check_targets : List Str := ["volatilities", "value"]
theorem sc_check_targets : FnScope N_check_targets ps_check_targets (defScope s_check_targets) := ⟨rfl, rfl, rfl, by decide +kernel, rfl, by decide +kernel, by decide +kernel⟩
theorem ok_check_targets (B : BI mg) (D : Here K mg "check_targets" ps_check_targets s_check_targets) (D_check_volatilities : DefOk P w K mg base 4 "check_volatilities" ps_check_volatilities s_check_volatilities sp_check_volatilities) (D_is_still_target : DefOk P w K mg base 5 "is_still_target" ps_is_still_target s_is_still_target sp_is_still_target) (G_MOST_TARGETS : GlobD K mg "MOST_TARGETS" (.int 8)) : DefOk P w K mg base 6 "check_targets" ps_check_targets s_check_targets sp_check_targets :=
  have sc := sc_check_targets
  def_mk (k := 5) (t := t_check_targets) D sc rd_check_targets fun f cdv A outer s H E hr hG =>
    (ss_cons (s_expr (d_call D_check_volatilities (hr.mono (by decide)) hG rfl (a_cons (d_var 0) a_nil)))
    (ss_cons (s_if (t_w (w_or (t_not (t_val (d_isi isi_tup B.nIsi (a_cons (d_var 1) (a_cons (d_ty rfl B.nTuple (by decide +kernel)) a_nil))))) (w_or1 (t_eq2 hr (d_var 1) (d_tup a_nil))))) (ss_one s_never) ss_nil)
    (ss_one (s_for PassesOwn.never rfl (i_enumT B.nEnum (a_cons (d_var 1) a_nil)) (g_tup rfl (gs_cons (g_name 2 sc.nd) (gs_cons (g_name 3 sc.nd) gs_nil))) (ss_one (s_if (t_w (w_or (t_eq2 hr (d_var 2) (d_glob rfl G_MOST_TARGETS)) (w_or1 (t_not (t_val (d_call D_is_still_target (hr.mono (by decide)) hG rfl (a_cons (d_var 0) (a_cons (d_var 3) a_nil)))))))) (ss_one s_never) ss_nil))))))

abbrev s_is_kept_at : Stmt := top 38
abbrev ps_is_kept_at : List Str := ["volatilities", "target", "depth"]
theorem sc_is_kept_at : FnScope N_is_kept_at ps_is_kept_at (defScope s_is_kept_at) := ⟨rfl, rfl, rfl, by decide +kernel, rfl, by decide +kernel, by decide +kernel⟩
theorem ok_is_kept_at (B : BI mg) (D : Here K mg "is_kept_at" ps_is_kept_at s_is_kept_at) (D_power : DefOk P w K mg base 1 "power" ps_power s_power sp_power) (D_is_below : DefOk P w K mg base 1 "is_below" ps_is_below s_is_below sp_is_below) (D_minus : DefOk P w K mg base 4 "minus" ps_minus s_minus sp_minus) (G_LEFT : GlobD K mg "LEFT" (.str "left")) (G_ONE : GlobD K mg "ONE" (.tup [.int 1, .int 1])) : DefOk P w K mg base 5 "is_kept_at" ps_is_kept_at s_is_kept_at sp_is_kept_at :=
  have sc := sc_is_kept_at
  def_mk (k := 4) (t := t_is_kept_at) D sc rd_is_kept_at fun f cdv A outer s H E hr hG =>
    (ss_cons (s_asg (d_var 1) (g_tup rfl (gs_cons (g_name 3 sc.nd) (gs_cons (g_name 4 sc.nd) (gs_cons (g_name 5 sc.nd) gs_nil)))))
    (ss_cons (s_set 6 sc.nd (d_call D_power (hr.mono (by decide)) hG rfl (a_cons (d_var 2) (a_cons (d_ix2 (d_var 0) (d_var 4)) a_nil))))
    (ss_cons (s_if (t_eq2 hr (d_var 3) (d_glob rfl G_LEFT)) (ss_one (s_ret (d_not (d_call D_is_below (hr.mono (by decide)) hG rfl (a_cons (d_var 6) (a_cons (d_var 5) a_nil)))))) ss_nil)
    (ss_one (s_ret (d_not (d_call D_is_below (hr.mono (by decide)) hG rfl (a_cons (d_call D_minus (hr.mono (by decide)) hG rfl (a_cons (d_glob rfl G_ONE) (a_cons (d_var 5) a_nil))) (a_cons (d_var 6) a_nil)))))))))

abbrev s_do_clash : Stmt := top 39
abbrev ps_do_clash : List Str := ["volatilities", "one", "other"]
theorem sc_do_clash : FnScope N_do_clash ps_do_clash (defScope s_do_clash) := ⟨rfl, rfl, rfl, by decide +kernel, rfl, by decide +kernel, by decide +kernel⟩
theorem ok_do_clash (B : BI mg) (D : Here K mg "do_clash" ps_do_clash s_do_clash) (D_power : DefOk P w K mg base 1 "power" ps_power s_power sp_power) (D_is_below : DefOk P w K mg base 1 "is_below" ps_is_below s_is_below sp_is_below) (D_minus : DefOk P w K mg base 4 "minus" ps_minus s_minus sp_minus) (G_OVER : GlobD K mg "OVER" (.str "over")) (G_ONE : GlobD K mg "ONE" (.tup [.int 1, .int 1])) : DefOk P w K mg base 5 "do_clash" ps_do_clash s_do_clash sp_do_clash :=
  have sc := sc_do_clash
  def_mk (k := 4) (t := t_do_clash) D sc rd_do_clash fun f cdv A outer s H E hr hG =>
    (ss_cons (s_if (t_eq2 hr (d_ix2 (d_var 1) d_int) (d_ix2 (d_var 2) d_int)) (ss_one (s_ret d_bl)) ss_nil)
    (ss_cons (s_asg (d_if (t_eq2 hr (d_ix2 (d_var 1) d_int) (d_glob rfl G_OVER)) (d_tup (a_cons (d_var 1) (a_cons (d_var 2) a_nil))) (d_tup (a_cons (d_var 2) (a_cons (d_var 1) a_nil)))) (g_tup rfl (gs_cons (g_name 3 sc.nd) (gs_cons (g_name 4 sc.nd) gs_nil))))
    (ss_cons (s_set 5 sc.nd (d_call D_power (hr.mono (by decide)) hG rfl (a_cons (d_ix2 (d_var 4) d_int) (a_cons (d_ix2 (d_var 0) (d_ix2 (d_var 3) d_int)) a_nil))))
    (ss_one (s_ret (d_call D_is_below (hr.mono (by decide)) hG rfl (a_cons (d_call D_power (hr.mono (by decide)) hG rfl (a_cons (d_call D_minus (hr.mono (by decide)) hG rfl (a_cons (d_glob rfl G_ONE) (a_cons (d_ix2 (d_var 3) d_int) a_nil))) (a_cons (d_ix2 (d_var 0) (d_ix2 (d_var 4) d_int)) a_nil))) (a_cons (d_var 5) a_nil))))))))

abbrev s_clash_by : Stmt := top 40
abbrev ps_clash_by : List Str := ["volatilities", "targets"]
theorem sc_clash_by : FnScope N_clash_by ps_clash_by (defScope s_clash_by) := ⟨rfl, rfl, rfl, by decide +kernel, rfl, by decide +kernel, by decide +kernel⟩
theorem ok_clash_by (B : BI mg) (D : Here K mg "clash_by" ps_clash_by s_clash_by) (D_do_clash : DefOk P w K mg base 5 "do_clash" ps_do_clash s_do_clash sp_do_clash) : DefOk P w K mg base 6 "clash_by" ps_clash_by s_clash_by sp_clash_by :=
  have sc := sc_clash_by
  def_mk (k := 5) (t := t_clash_by) D sc rd_clash_by fun f cdv A outer s H E hr hG =>
    (ss_cons (s_for PassesOwn.never rfl (i_enumT B.nEnum (a_cons (d_var 1) a_nil)) (g_tup rfl (gs_cons (g_name 3 sc.nd) (gs_cons (g_name 4 sc.nd) gs_nil))) (ss_one (s_for PassesOwn.never rfl (i_rng2 B.nRange (a_cons (d_add2 (d_var 3) d_int) (a_cons (d_len B.nLen (a_cons (d_var 1) a_nil)) a_nil))) (g_name 2 sc.nd) (ss_one (s_if (t_val (d_call D_do_clash (hr.mono (by decide)) hG rfl (a_cons (d_var 0) (a_cons (d_var 4) (a_cons (d_ix2 (d_var 1) (d_var 2)) a_nil))))) (ss_one (s_ret (d_tup (a_cons (d_var 3) (a_cons (d_var 2) a_nil))))) ss_nil)))))
    (ss_one (s_ret d_non)))

abbrev s_are_kept_at : Stmt := top 41
abbrev ps_are_kept_at : List Str := ["volatilities", "targets", "depth"]
theorem sc_are_kept_at : FnScope N_are_kept_at ps_are_kept_at (defScope s_are_kept_at) := ⟨rfl, rfl, rfl, by decide +kernel, rfl, by decide +kernel, by decide +kernel⟩
theorem ok_are_kept_at (B : BI mg) (D : Here K mg "are_kept_at" ps_are_kept_at s_are_kept_at) (D_is_kept_at : DefOk P w K mg base 5 "is_kept_at" ps_is_kept_at s_is_kept_at sp_is_kept_at) : DefOk P w K mg base 6 "are_kept_at" ps_are_kept_at s_are_kept_at sp_are_kept_at :=
  have sc := sc_are_kept_at
  def_mk (k := 5) (t := t_are_kept_at) D sc rd_are_kept_at fun f cdv A outer s H E hr hG =>
    (ss_one (s_ret (d_all rfl B.nAll (a_cons (d_lc rfl sc.nd (i_tup (d_var 1)) (blkOk_by (own := [("target", 3)]) (show blkC N_are_kept_at (defScope s_are_kept_at) _ _ = true by decide +kernel)) (fun _ _ _ _ _ => (cg_one 3 sc.nd)) (fun _ _ _ _ _ => ts_nil) (fun _ _ _ _ _ => (d_call D_is_kept_at (hr.mono (by decide)) hG rfl (a_cons (d_var 0) (a_cons (d_var 3) (a_cons (d_var 2) a_nil)))))) a_nil))))

abbrev s_still_keeps : Stmt := top 42
abbrev ps_still_keeps : List Str := ["volatilities", "targets", "depth"]
theorem sc_still_keeps : FnScope N_still_keeps ps_still_keeps (defScope s_still_keeps) := ⟨rfl, rfl, rfl, by decide +kernel, rfl, by decide +kernel, by decide +kernel⟩
theorem ok_still_keeps (B : BI mg) (D : Here K mg "still_keeps" ps_still_keeps s_still_keeps) (D_check_targets : DefOk P w K mg base 6 "check_targets" ps_check_targets s_check_targets sp_check_targets) (D_check_depth : DefOk P w K mg base 6 "check_depth" ps_check_depth s_check_depth sp_check_depth) (D_are_kept_at : DefOk P w K mg base 6 "are_kept_at" ps_are_kept_at s_are_kept_at sp_are_kept_at) : DefOk P w K mg base 7 "still_keeps" ps_still_keeps s_still_keeps sp_still_keeps :=
  have sc := sc_still_keeps
  def_mk (k := 6) (t := t_still_keeps) D sc rd_still_keeps fun f cdv A outer s H E hr hG =>
    (ss_cons (s_expr (d_call D_check_targets (hr.mono (by decide)) hG rfl (a_cons (d_var 0) (a_cons (d_var 1) a_nil))))
    (ss_cons (s_expr (d_call D_check_depth (hr.mono (by decide)) hG rfl (a_cons (d_var 2) a_nil)))
    (ss_one (s_ret (d_call D_are_kept_at (hr.mono (by decide)) hG rfl (a_cons (d_var 0) (a_cons (d_var 1) (a_cons (d_var 2) a_nil))))))))

abbrev s_can_keep : Stmt := top 43
abbrev ps_can_keep : List Str := ["volatilities", "targets"]
theorem sc_can_keep : FnScope N_can_keep ps_can_keep (defScope s_can_keep) := ⟨rfl, rfl, rfl, by decide +kernel, rfl, by decide +kernel, by decide +kernel⟩
theorem ok_can_keep (B : BI mg) (D : Here K mg "can_keep" ps_can_keep s_can_keep) (D_check_targets : DefOk P w K mg base 6 "check_targets" ps_check_targets s_check_targets sp_check_targets) (D_clash_by : DefOk P w K mg base 6 "clash_by" ps_clash_by s_clash_by sp_clash_by) : DefOk P w K mg base 7 "can_keep" ps_can_keep s_can_keep sp_can_keep :=
  have sc := sc_can_keep
  def_mk (k := 6) (t := t_can_keep) D sc rd_can_keep fun f cdv A outer s H E hr hG =>
    (ss_cons (s_expr (d_call D_check_targets (hr.mono (by decide)) hG rfl (a_cons (d_var 0) (a_cons (d_var 1) a_nil))))
    (ss_one (s_ret (d_isN (d_call D_clash_by (hr.mono (by decide)) hG rfl (a_cons (d_var 0) (a_cons (d_var 1) a_nil))) d_non))))

abbrev s_still_clash : Stmt := top 44
abbrev ps_still_clash : List Str := ["volatilities", "targets"]
theorem sc_still_clash : FnScope N_still_clash ps_still_clash (defScope s_still_clash) := ⟨rfl, rfl, rfl, by decide +kernel, rfl, by decide +kernel, by decide +kernel⟩
theorem ok_still_clash (B : BI mg) (D : Here K mg "still_clash" ps_still_clash s_still_clash) (D_check_targets : DefOk P w K mg base 6 "check_targets" ps_check_targets s_check_targets sp_check_targets) (D_clash_by : DefOk P w K mg base 6 "clash_by" ps_clash_by s_clash_by sp_clash_by) : DefOk P w K mg base 7 "still_clash" ps_still_clash s_still_clash sp_still_clash :=
  have sc := sc_still_clash
  def_mk (k := 6) (t := t_still_clash) D sc rd_still_clash fun f cdv A outer s H E hr hG =>
    (ss_cons (s_expr (d_call D_check_targets (hr.mono (by decide)) hG rfl (a_cons (d_var 0) (a_cons (d_var 1) a_nil))))
    (ss_one (s_ret (d_call D_clash_by (hr.mono (by decide)) hG rfl (a_cons (d_var 0) (a_cons (d_var 1) a_nil))))))

abbrev s_depth_for : Stmt := top 45
abbrev ps_depth_for : List Str := ["volatilities", "targets", "parts"]
theorem sc_depth_for : FnScope N_depth_for ps_depth_for (defScope s_depth_for) := ⟨rfl, rfl, rfl, by decide +kernel, rfl, by decide +kernel, by decide +kernel⟩
theorem ok_depth_for (B : BI mg) (D : Here K mg "depth_for" ps_depth_for s_depth_for) (D_check_targets : DefOk P w K mg base 6 "check_targets" ps_check_targets s_check_targets sp_check_targets) (D_check_parts : DefOk P w K mg base 3 "check_parts" ps_check_parts s_check_parts sp_check_parts) (D_are_kept_at : DefOk P w K mg base 6 "are_kept_at" ps_are_kept_at s_are_kept_at sp_are_kept_at) (D_ratio : DefOk P w K mg base 3 "ratio" ps_ratio s_ratio sp_ratio) : DefOk P w K mg base 7 "depth_for" ps_depth_for s_depth_for sp_depth_for :=
  have sc := sc_depth_for
  def_mk (k := 6) (t := t_depth_for) D sc rd_depth_for fun f cdv A outer s H E hr hG =>
    (ss_cons (s_expr (d_call D_check_targets (hr.mono (by decide)) hG rfl (a_cons (d_var 0) (a_cons (d_var 1) a_nil))))
    (ss_cons (s_expr (d_call D_check_parts (hr.mono (by decide)) hG rfl (a_cons (d_var 2) a_nil)))
    (ss_cons (s_for PassesOwn.never rfl (i_rng3 B.nRange (a_cons (d_var 2) (a_cons d_int (a_cons (d_neg d_int) a_nil)))) (g_name 3 sc.nd) (ss_one (s_if (t_val (d_call D_are_kept_at (hr.mono (by decide)) hG rfl (a_cons (d_var 0) (a_cons (d_var 1) (a_cons (d_call D_ratio (hr.mono (by decide)) hG rfl (a_cons (d_var 3) (a_cons (d_var 2) a_nil))) a_nil))))) (ss_one (s_ret (d_var 3))) ss_nil)))
    (ss_one (s_ret d_non)))))

abbrev s_law_tap : Stmt := top 47
abbrev ps_law_tap : List Str := ["script", "turn"]
theorem sc_law_tap : FnScope N_law_tap ps_law_tap (defScope s_law_tap) := ⟨rfl, rfl, rfl, by decide +kernel, rfl, by decide +kernel, by decide +kernel⟩
theorem ok_law_tap (B : BI mg) (D : Here K mg "_law_tap" ps_law_tap s_law_tap) : DefOk P w K mg base 1 "_law_tap" ps_law_tap s_law_tap sp_law_tap :=
  have sc := sc_law_tap
  def_mk (k := 0) (t := t_law_tap) D sc rd_law_tap fun f cdv A outer s H E hr hG =>
    (ss_cons (s_set 2 sc.nd (d_if (t_lt (d_var 1) (d_len B.nLen (a_cons (d_var 0) a_nil))) (d_intc B.nInt (a_cons (d_ix2 (d_var 0) (d_var 1)) a_nil)) (d_add2 (d_add2 (d_mul d_int (d_var 1)) d_int) (d_mod (d_intc B.nInt (a_cons (d_sum rfl B.nSum (a_cons (d_slL (d_var 0) o_none (o_some d_int)) a_nil)) a_nil)) d_int))))
    (ss_cons (s_set 3 sc.nd (d_add2 d_int (d_mul d_int (d_var 1))))
    (ss_cons (s_for PassesOwn.never rfl (i_lst (d_add2 (d_slL (d_var 0) o_none (o_some d_int)) (d_lst (a_cons (d_var 2) a_nil)))) (g_name 4 sc.nd) (ss_one (s_set 3 sc.nd (d_mod (d_intc B.nInt (a_cons (d_add2 (d_add2 (d_mul (d_var 3) d_int) (d_mod (d_intc B.nInt (a_cons (d_var 4) a_nil)) d_int)) d_int) a_nil)) d_int))))
    (ss_one (s_ret (d_lst (a_cons (d_if (t_w (w_or (t_lt (d_var 2) d_int) (w_or1 (t_ge (d_var 2) (d_pow d_int d_int))))) (d_abs B.nAbs (a_cons (d_var 2) a_nil)) d_int) (a_cons (d_var 3) (a_cons d_int a_nil)))))))))

abbrev s_law_drop : Stmt := top 48
abbrev ps_law_drop : List Str := ["tap", "top"]
theorem sc_law_drop : FnScope N_law_drop ps_law_drop (defScope s_law_drop) := ⟨rfl, rfl, rfl, by decide +kernel, rfl, by decide +kernel, by decide +kernel⟩
theorem ok_law_drop (B : BI mg) (D : Here K mg "_law_drop" ps_law_drop s_law_drop) : DefOk P w K mg base 1 "_law_drop" ps_law_drop s_law_drop sp_law_drop :=
  have sc := sc_law_drop
  def_mk (k := 0) (t := t_law_drop) D sc rd_law_drop fun f cdv A outer s H E hr hG =>
    (ss_cons (s_if (t_gt (d_ix2 (d_var 0) d_int) d_int) (ss_cons (s_asg (d_divmod B.nDivmod (a_cons (d_ix2 (d_var 0) d_int) (a_cons (d_var 1) a_nil))) (g_tup rfl (gs_cons (g_sub (d_var 0) d_int) (gs_cons (g_name 2 sc.nd) gs_nil))))
    (ss_one (s_ret (d_var 2)))) ss_nil)
    (ss_cons (s_asg (d_add2 (d_ix2 (d_var 0) d_int) d_int) (g_sub (d_var 0) d_int))
    (ss_cons (s_set 3 sc.nd (d_add2 d_int (d_mul d_int (d_intc B.nInt (a_cons (d_ix2 (d_var 0) d_int) a_nil)))))
    (ss_cons (s_asg (d_mod (d_intc B.nInt (a_cons (d_add2 (d_add2 (d_mul (d_ix2 (d_var 0) d_int) (d_var 3)) (d_mul d_int (d_ix2 (d_var 0) d_int))) d_int) a_nil)) d_int) (g_sub (d_var 0) d_int))
    (ss_one (s_ret (d_mod (d_intc B.nInt (a_cons (d_div (d_ix2 (d_var 0) d_int) d_int) a_nil)) (d_var 1))))))))

abbrev s_law_one : Stmt := top 49
abbrev ps_law_one : List Str := ["tap", "some"]
theorem sc_law_one : FnScope N_law_one ps_law_one (defScope s_law_one) := ⟨rfl, rfl, rfl, by decide +kernel, rfl, by decide +kernel, by decide +kernel⟩
theorem ok_law_one (B : BI mg) (D : Here K mg "_law_one" ps_law_one s_law_one) (D_law_drop : DefOk P w K mg base 1 "_law_drop" ps_law_drop s_law_drop sp_law_drop) : DefOk P w K mg base 2 "_law_one" ps_law_one s_law_one sp_law_one :=
  have sc := sc_law_one
  def_mk (k := 1) (t := t_law_one) D sc rd_law_one fun f cdv A outer s H E hr hG =>
    (ss_one (s_ret (d_ix2 (d_var 1) (d_call D_law_drop (hr.mono (by decide)) hG rfl (a_cons (d_var 0) (a_cons (d_len B.nLen (a_cons (d_var 1) a_nil)) a_nil))))))

abbrev s_law_ratio : Stmt := top 50
abbrev ps_law_ratio : List Str := ["above", "below"]
theorem sc_law_ratio : FnScope N_law_ratio ps_law_ratio (defScope s_law_ratio) := ⟨rfl, rfl, rfl, by decide +kernel, rfl, by decide +kernel, by decide +kernel⟩
theorem ok_law_ratio (B : BI mg) (D : Here K mg "_law_ratio" ps_law_ratio s_law_ratio) : DefOk P w K mg base 1 "_law_ratio" ps_law_ratio s_law_ratio sp_law_ratio :=
  have sc := sc_law_ratio
  def_mk (k := 0) (t := t_law_ratio) D sc rd_law_ratio fun f cdv A outer s H E hr hG =>
    (ss_cons (s_par 2 3 rfl sc.nd (d_abs B.nAbs (a_cons (d_var 0) a_nil)) (d_abs B.nAbs (a_cons (d_var 1) a_nil)))
    (ss_cons (s_while PassesOwn.never (t_gt (d_var 3) d_int) (ss_one (s_par 2 3 rfl sc.nd (d_var 3) (d_mod (d_intc B.nInt (a_cons (d_var 2) a_nil)) (d_intc B.nInt (a_cons (d_var 3) a_nil))))))
    (ss_cons (s_set 4 sc.nd (d_if (t_lt (d_var 1) d_int) (d_neg d_int) d_int))
    (ss_one (s_ret (d_tup (a_cons (d_div (d_mul (d_var 4) (d_var 0)) (d_var 2)) (a_cons (d_div (d_mul (d_var 4) (d_var 1)) (d_var 2)) a_nil))))))))

abbrev s_law_plus : Stmt := top 51
abbrev ps_law_plus : List Str := ["one", "other"]
theorem sc_law_plus : FnScope N_law_plus ps_law_plus (defScope s_law_plus) := ⟨rfl, rfl, rfl, by decide +kernel, rfl, by decide +kernel, by decide +kernel⟩
theorem ok_law_plus (B : BI mg) (D : Here K mg "_law_plus" ps_law_plus s_law_plus) (D_law_ratio : DefOk P w K mg base 1 "_law_ratio" ps_law_ratio s_law_ratio sp_law_ratio) : DefOk P w K mg base 2 "_law_plus" ps_law_plus s_law_plus sp_law_plus :=
  have sc := sc_law_plus
  def_mk (k := 1) (t := t_law_plus) D sc rd_law_plus fun f cdv A outer s H E hr hG =>
    (ss_one (s_ret (d_call D_law_ratio (hr.mono (by decide)) hG rfl (a_cons (d_add2 (d_mul (d_ix2 (d_var 0) d_int) (d_ix2 (d_var 1) d_int)) (d_mul (d_ix2 (d_var 1) d_int) (d_ix2 (d_var 0) d_int))) (a_cons (d_mul (d_ix2 (d_var 0) d_int) (d_ix2 (d_var 1) d_int)) a_nil)))))

abbrev s_law_less : Stmt := top 52
abbrev ps_law_less : List Str := ["one", "other"]
theorem sc_law_less : FnScope N_law_less ps_law_less (defScope s_law_less) := ⟨rfl, rfl, rfl, by decide +kernel, rfl, by decide +kernel, by decide +kernel⟩
theorem ok_law_less (B : BI mg) (D : Here K mg "_law_less" ps_law_less s_law_less) (D_law_ratio : DefOk P w K mg base 1 "_law_ratio" ps_law_ratio s_law_ratio sp_law_ratio) : DefOk P w K mg base 2 "_law_less" ps_law_less s_law_less sp_law_less :=
  have sc := sc_law_less
  def_mk (k := 1) (t := t_law_less) D sc rd_law_less fun f cdv A outer s H E hr hG =>
    (ss_one (s_ret (d_call D_law_ratio (hr.mono (by decide)) hG rfl (a_cons (d_sub (d_mul (d_ix2 (d_var 0) d_int) (d_ix2 (d_var 1) d_int)) (d_mul (d_ix2 (d_var 1) d_int) (d_ix2 (d_var 0) d_int))) (a_cons (d_mul (d_ix2 (d_var 0) d_int) (d_ix2 (d_var 1) d_int)) a_nil)))))

abbrev s_law_sign : Stmt := top 53
abbrev ps_law_sign : List Str := ["one", "other"]
theorem sc_law_sign : FnScope N_law_sign ps_law_sign (defScope s_law_sign) := ⟨rfl, rfl, rfl, by decide +kernel, rfl, by decide +kernel, by decide +kernel⟩
theorem ok_law_sign (B : BI mg) (D : Here K mg "_law_sign" ps_law_sign s_law_sign) : DefOk P w K mg base 1 "_law_sign" ps_law_sign s_law_sign sp_law_sign :=
  have sc := sc_law_sign
  def_mk (k := 0) (t := t_law_sign) D sc rd_law_sign fun f cdv A outer s H E hr hG =>
    (ss_cons (s_set 2 sc.nd (d_sub (d_mul (d_ix2 (d_var 0) d_int) (d_ix2 (d_var 1) d_int)) (d_mul (d_ix2 (d_var 1) d_int) (d_ix2 (d_var 0) d_int))))
    (ss_one (s_ret (d_if (t_gt (d_var 2) d_int) d_int (d_if (t_lt (d_var 2) d_int) (d_neg d_int) d_int)))))

abbrev s_law_power : Stmt := top 54
abbrev ps_law_power : List Str := ["value", "many"]
theorem sc_law_power : FnScope N_law_power ps_law_power (defScope s_law_power) := ⟨rfl, rfl, rfl, by decide +kernel, rfl, by decide +kernel, by decide +kernel⟩
theorem ok_law_power (B : BI mg) (D : Here K mg "_law_power" ps_law_power s_law_power) : DefOk P w K mg base 1 "_law_power" ps_law_power s_law_power sp_law_power :=
  have sc := sc_law_power
  def_mk (k := 0) (t := t_law_power) D sc rd_law_power fun f cdv A outer s H E hr hG =>
    (ss_cons (s_set 2 sc.nd (d_tup (a_cons d_int (a_cons d_int a_nil))))
    (ss_cons (s_for PassesOwn.never rfl (i_rng1 B.nRange (a_cons (d_var 1) a_nil)) (g_name 3 sc.nd) (ss_one (s_set 2 sc.nd (d_tup (a_cons (d_mul (d_ix2 (d_var 2) d_int) (d_ix2 (d_var 0) d_int)) (a_cons (d_mul (d_ix2 (d_var 2) d_int) (d_ix2 (d_var 0) d_int)) a_nil))))))
    (ss_one (s_ret (d_var 2)))))

abbrev s_law_inner : Stmt := top 55
abbrev ps_law_inner : List Str := ["tap"]
theorem sc_law_inner : FnScope N_law_inner ps_law_inner (defScope s_law_inner) := ⟨rfl, rfl, rfl, by decide +kernel, rfl, by decide +kernel, by decide +kernel⟩
theorem ok_law_inner (B : BI mg) (D : Here K mg "_law_inner" ps_law_inner s_law_inner) (D_law_drop : DefOk P w K mg base 1 "_law_drop" ps_law_drop s_law_drop sp_law_drop) (D_law_ratio : DefOk P w K mg base 1 "_law_ratio" ps_law_ratio s_law_ratio sp_law_ratio) : DefOk P w K mg base 2 "_law_inner" ps_law_inner s_law_inner sp_law_inner :=
  have sc := sc_law_inner
  def_mk (k := 1) (t := t_law_inner) D sc rd_law_inner fun f cdv A outer s H E hr hG =>
    (ss_cons (s_set 1 sc.nd (d_add2 d_int (d_call D_law_drop (hr.mono (by decide)) hG rfl (a_cons (d_var 0) (a_cons d_int a_nil)))))
    (ss_one (s_ret (d_call D_law_ratio (hr.mono (by decide)) hG rfl (a_cons (d_add2 d_int (d_call D_law_drop (hr.mono (by decide)) hG rfl (a_cons (d_var 0) (a_cons (d_sub (d_var 1) d_int) a_nil)))) (a_cons (d_var 1) a_nil))))))

abbrev s_law_wares : Stmt := top 56
abbrev ps_law_wares : List Str := ["tap"]
theorem sc_law_wares : FnScope N_law_wares ps_law_wares (defScope s_law_wares) := ⟨rfl, rfl, rfl, by decide +kernel, rfl, by decide +kernel, by decide +kernel⟩
theorem ok_law_wares (B : BI mg) (D : Here K mg "_law_wares" ps_law_wares s_law_wares) (D_law_drop : DefOk P w K mg base 1 "_law_drop" ps_law_drop s_law_drop sp_law_drop) : DefOk P w K mg base 2 "_law_wares" ps_law_wares s_law_wares sp_law_wares :=
  have sc := sc_law_wares
  def_mk (k := 1) (t := t_law_wares) D sc rd_law_wares fun f cdv A outer s H E hr hG =>
    (ss_cons (s_par 1 2 rfl sc.nd (d_listRng rfl B.nList B.nRange (a_cons d_int (a_cons d_int a_nil))) (d_lst a_nil))
    (ss_cons (s_for PassesOwn.never rfl (i_rng1 B.nRange (a_cons (d_add2 d_int (d_call D_law_drop (hr.mono (by decide)) hG rfl (a_cons (d_var 0) (a_cons d_int a_nil)))) a_nil)) (g_name 3 sc.nd) (ss_one (s_expr (d_append (d_var 2) (a_cons (d_popAt (d_var 1) (a_cons (d_call D_law_drop (hr.mono (by decide)) hG rfl (a_cons (d_var 0) (a_cons (d_len B.nLen (a_cons (d_var 1) a_nil)) a_nil))) a_nil)) a_nil)))))
    (ss_one (s_ret (d_tuplec B.nTuple (a_cons (d_sortRev B.nSorted (a_cons (d_var 2) a_nil) (k_cons d_bl k_nil)) a_nil))))))

abbrev s_law_depth : Stmt := top 57
abbrev ps_law_depth : List Str := ["tap"]
theorem sc_law_depth : FnScope N_law_depth ps_law_depth (defScope s_law_depth) := ⟨rfl, rfl, rfl, by decide +kernel, rfl, by decide +kernel, by decide +kernel⟩
theorem ok_law_depth (B : BI mg) (D : Here K mg "_law_depth" ps_law_depth s_law_depth) (D_law_one : DefOk P w K mg base 2 "_law_one" ps_law_one s_law_one sp_law_one) (D_law_drop : DefOk P w K mg base 1 "_law_drop" ps_law_drop s_law_drop sp_law_drop) (D_law_inner : DefOk P w K mg base 2 "_law_inner" ps_law_inner s_law_inner sp_law_inner) : DefOk P w K mg base 3 "_law_depth" ps_law_depth s_law_depth sp_law_depth :=
  have sc := sc_law_depth
  def_mk (k := 2) (t := t_law_depth) D sc rd_law_depth fun f cdv A outer s H E hr hG =>
    (ss_one (s_ret (d_call D_law_one (hr.mono (by decide)) hG rfl (a_cons (d_var 0) (a_cons (d_lst (a_cons (d_tup (a_cons d_int (a_cons d_int a_nil))) (a_cons (d_call D_law_inner (hr.mono (by decide)) hG rfl (a_cons (d_var 0) a_nil)) (a_cons (d_call D_law_inner (hr.mono (by decide)) hG rfl (a_cons (d_var 0) a_nil)) (a_cons (d_tup (a_cons d_int (a_cons (d_add2 d_int (d_call D_law_drop (hr.mono (by decide)) hG rfl (a_cons (d_var 0) (a_cons d_int a_nil)))) a_nil))) a_nil))))) a_nil)))))

abbrev s_law_targets : Stmt := top 58
abbrev ps_law_targets : List Str := ["tap", "vols", "many"]
theorem sc_law_targets : FnScope N_law_targets ps_law_targets (defScope s_law_targets) := ⟨rfl, rfl, rfl, by decide +kernel, rfl, by decide +kernel, by decide +kernel⟩
theorem ok_law_targets (B : BI mg) (D : Here K mg "_law_targets" ps_law_targets s_law_targets) (D_law_inner : DefOk P w K mg base 2 "_law_inner" ps_law_inner s_law_inner sp_law_inner) (D_law_drop : DefOk P w K mg base 1 "_law_drop" ps_law_drop s_law_drop sp_law_drop) (D_law_one : DefOk P w K mg base 2 "_law_one" ps_law_one s_law_one sp_law_one) : DefOk P w K mg base 3 "_law_targets" ps_law_targets s_law_targets sp_law_targets :=
  have sc := sc_law_targets
  def_mk (k := 2) (t := t_law_targets) D sc rd_law_targets fun f cdv A outer s H E hr hG =>
    (ss_cons (s_set 3 sc.nd (d_lst a_nil))
    (ss_cons (s_for PassesOwn.never rfl (i_rng1 B.nRange (a_cons (d_var 2) a_nil)) (g_name 4 sc.nd) (ss_one (s_expr (d_append (d_var 3) (a_cons (d_tup (a_cons (d_call D_law_one (hr.mono (by decide)) hG rfl (a_cons (d_var 0) (a_cons (d_lst (a_cons d_str (a_cons d_str a_nil))) a_nil))) (a_cons (d_call D_law_drop (hr.mono (by decide)) hG rfl (a_cons (d_var 0) (a_cons (d_len B.nLen (a_cons (d_var 1) a_nil)) a_nil))) (a_cons (d_call D_law_inner (hr.mono (by decide)) hG rfl (a_cons (d_var 0) a_nil)) a_nil)))) a_nil)))))
    (ss_one (s_ret (d_tuplec B.nTuple (a_cons (d_var 3) a_nil))))))

abbrev s_law_do_clash : Stmt := top 59
abbrev ps_law_do_clash : List Str := ["vols", "one", "other"]
theorem sc_law_do_clash : FnScope N_law_do_clash ps_law_do_clash (defScope s_law_do_clash) := ⟨rfl, rfl, rfl, by decide +kernel, rfl, by decide +kernel, by decide +kernel⟩
theorem ok_law_do_clash (B : BI mg) (D : Here K mg "_law_do_clash" ps_law_do_clash s_law_do_clash) (D_law_power : DefOk P w K mg base 1 "_law_power" ps_law_power s_law_power sp_law_power) (D_law_less : DefOk P w K mg base 2 "_law_less" ps_law_less s_law_less sp_law_less) (D_law_sign : DefOk P w K mg base 1 "_law_sign" ps_law_sign s_law_sign sp_law_sign) : DefOk P w K mg base 3 "_law_do_clash" ps_law_do_clash s_law_do_clash sp_law_do_clash :=
  have sc := sc_law_do_clash
  def_mk (k := 2) (t := t_law_do_clash) D sc rd_law_do_clash fun f cdv A outer s H E hr hG =>
    (ss_cons (s_if (t_eq2 hr (d_ix2 (d_var 1) d_int) (d_ix2 (d_var 2) d_int)) (ss_one (s_ret d_bl)) ss_nil)
    (ss_cons (s_asg (d_if (t_eq2 hr (d_ix2 (d_var 1) d_int) d_str) (d_tup (a_cons (d_var 1) (a_cons (d_var 2) a_nil))) (d_tup (a_cons (d_var 2) (a_cons (d_var 1) a_nil)))) (g_tup rfl (gs_cons (g_name 3 sc.nd) (gs_cons (g_name 4 sc.nd) gs_nil))))
    (ss_cons (s_set 5 sc.nd (d_call D_law_power (hr.mono (by decide)) hG rfl (a_cons (d_call D_law_less (hr.mono (by decide)) hG rfl (a_cons (d_tup (a_cons d_int (a_cons d_int a_nil))) (a_cons (d_ix2 (d_var 3) d_int) a_nil))) (a_cons (d_ix2 (d_var 0) (d_ix2 (d_var 4) d_int)) a_nil))))
    (ss_one (s_ret (d_gt (d_call D_law_sign (hr.mono (by decide)) hG rfl (a_cons (d_call D_law_power (hr.mono (by decide)) hG rfl (a_cons (d_ix2 (d_var 4) d_int) (a_cons (d_ix2 (d_var 0) (d_ix2 (d_var 3) d_int)) a_nil))) (a_cons (d_var 5) a_nil))) d_int))))))

abbrev s_law_first_clash : Stmt := top 60
abbrev ps_law_first_clash : List Str := ["vols", "targets"]
theorem sc_law_first_clash : FnScope N_law_first_clash ps_law_first_clash (defScope s_law_first_clash) := ⟨rfl, rfl, rfl, by decide +kernel, rfl, by decide +kernel, by decide +kernel⟩
theorem ok_law_first_clash (B : BI mg) (D : Here K mg "_law_first_clash" ps_law_first_clash s_law_first_clash) (D_law_do_clash : DefOk P w K mg base 3 "_law_do_clash" ps_law_do_clash s_law_do_clash sp_law_do_clash) : DefOk P w K mg base 4 "_law_first_clash" ps_law_first_clash s_law_first_clash sp_law_first_clash :=
  have sc := sc_law_first_clash
  def_mk (k := 3) (t := t_law_first_clash) D sc rd_law_first_clash fun f cdv A outer s H E hr hG =>
    (ss_cons (s_for PassesOwn.never rfl (i_rng1 B.nRange (a_cons (d_len B.nLen (a_cons (d_var 1) a_nil)) a_nil)) (g_name 3 sc.nd) (ss_one (s_for PassesOwn.never rfl (i_rng2 B.nRange (a_cons (d_add2 (d_var 3) d_int) (a_cons (d_len B.nLen (a_cons (d_var 1) a_nil)) a_nil))) (g_name 2 sc.nd) (ss_one (s_if (t_val (d_call D_law_do_clash (hr.mono (by decide)) hG rfl (a_cons (d_var 0) (a_cons (d_ix2 (d_var 1) (d_var 3)) (a_cons (d_ix2 (d_var 1) (d_var 2)) a_nil))))) (ss_one (s_ret (d_tup (a_cons (d_var 3) (a_cons (d_var 2) a_nil))))) ss_nil)))))
    (ss_one (s_ret d_non)))

abbrev s_law_does_keep : Stmt := top 61
abbrev ps_law_does_keep : List Str := ["vols", "targets", "depth"]
theorem sc_law_does_keep : FnScope N_law_does_keep ps_law_does_keep (defScope s_law_does_keep) := ⟨rfl, rfl, rfl, by decide +kernel, rfl, by decide +kernel, by decide +kernel⟩
theorem ok_law_does_keep (B : BI mg) (D : Here K mg "_law_does_keep" ps_law_does_keep s_law_does_keep) (D_law_power : DefOk P w K mg base 1 "_law_power" ps_law_power s_law_power sp_law_power) (D_law_sign : DefOk P w K mg base 1 "_law_sign" ps_law_sign s_law_sign sp_law_sign) (D_law_less : DefOk P w K mg base 2 "_law_less" ps_law_less s_law_less sp_law_less) : DefOk P w K mg base 3 "_law_does_keep" ps_law_does_keep s_law_does_keep sp_law_does_keep :=
  have sc := sc_law_does_keep
  def_mk (k := 2) (t := t_law_does_keep) D sc rd_law_does_keep fun f cdv A outer s H E hr hG =>
    (ss_cons (s_for PassesOwn.never rfl (i_tup (d_var 1)) (g_tup rfl (gs_cons (g_name 4 sc.nd) (gs_cons (g_name 5 sc.nd) (gs_cons (g_name 6 sc.nd) gs_nil)))) (ss_cons (s_set 3 sc.nd (d_call D_law_power (hr.mono (by decide)) hG rfl (a_cons (d_var 2) (a_cons (d_ix2 (d_var 0) (d_var 5)) a_nil))))
    (ss_cons (s_if (t_w (w_and (t_eq2 hr (d_var 4) d_str) (w_and1 (t_gt (d_call D_law_sign (hr.mono (by decide)) hG rfl (a_cons (d_var 3) (a_cons (d_call D_law_less (hr.mono (by decide)) hG rfl (a_cons (d_tup (a_cons d_int (a_cons d_int a_nil))) (a_cons (d_var 6) a_nil))) a_nil))) d_int)))) (ss_one (s_ret d_bl)) ss_nil)
    (ss_one (s_if (t_w (w_and (t_eq2 hr (d_var 4) d_str) (w_and1 (t_lt (d_call D_law_sign (hr.mono (by decide)) hG rfl (a_cons (d_var 3) (a_cons (d_var 6) a_nil))) d_int)))) (ss_one (s_ret d_bl)) ss_nil)))))
    (ss_one (s_ret d_bl)))

abbrev s_law_told_by : Stmt := top 62
abbrev ps_law_told_by : List Str := ["tap", "vols"]
theorem sc_law_told_by : FnScope N_law_told_by ps_law_told_by (defScope s_law_told_by) := ⟨rfl, rfl, rfl, by decide +kernel, rfl, by decide +kernel, by decide +kernel⟩
theorem ok_law_told_by (B : BI mg) (D : Here K mg "_law_told_by" ps_law_told_by s_law_told_by) (D_law_drop : DefOk P w K mg base 1 "_law_drop" ps_law_drop s_law_drop sp_law_drop) (D_law_ratio : DefOk P w K mg base 1 "_law_ratio" ps_law_ratio s_law_ratio sp_law_ratio) (D_law_less : DefOk P w K mg base 2 "_law_less" ps_law_less s_law_less sp_law_less) (D_law_power : DefOk P w K mg base 1 "_law_power" ps_law_power s_law_power sp_law_power) : DefOk P w K mg base 3 "_law_told_by" ps_law_told_by s_law_told_by sp_law_told_by :=
  have sc := sc_law_told_by
  def_mk (k := 2) (t := t_law_told_by) D sc rd_law_told_by fun f cdv A outer s H E hr hG =>
    (ss_cons (s_set 2 sc.nd (d_add2 d_int (d_call D_law_drop (hr.mono (by decide)) hG rfl (a_cons (d_var 0) (a_cons d_int a_nil)))))
    (ss_cons (s_par 3 4 rfl sc.nd (d_tup (a_cons (d_add2 d_int (d_call D_law_drop (hr.mono (by decide)) hG rfl (a_cons (d_var 0) (a_cons (d_sub (d_var 2) d_int) a_nil)))) (a_cons (d_var 2) a_nil))) (d_len B.nLen (a_cons (d_var 1) a_nil)))
    (ss_cons (s_set 3 sc.nd (d_call D_law_ratio (hr.mono (by decide)) hG rfl (a_cons (d_ix2 (d_var 3) d_int) (a_cons (d_ix2 (d_var 3) d_int) a_nil))))
    (ss_cons (s_par 5 6 rfl sc.nd (d_call D_law_drop (hr.mono (by decide)) hG rfl (a_cons (d_var 0) (a_cons (d_var 4) a_nil))) (d_call D_law_drop (hr.mono (by decide)) hG rfl (a_cons (d_var 0) (a_cons (d_var 4) a_nil))))
    (ss_cons (s_set 7 sc.nd (d_tup (a_cons d_str (a_cons (d_var 5) (a_cons (d_call D_law_less (hr.mono (by decide)) hG rfl (a_cons (d_tup (a_cons d_int (a_cons d_int a_nil))) (a_cons (d_call D_law_power (hr.mono (by decide)) hG rfl (a_cons (d_var 3) (a_cons (d_ix2 (d_var 1) (d_var 5)) a_nil))) a_nil))) a_nil)))))
    (ss_one (s_ret (d_tup (a_cons (d_tup (a_cons (d_var 7) (a_cons (d_tup (a_cons d_str (a_cons (d_var 6) (a_cons (d_call D_law_power (hr.mono (by decide)) hG rfl (a_cons (d_var 3) (a_cons (d_ix2 (d_var 1) (d_var 6)) a_nil))) a_nil)))) a_nil))) (a_cons (d_var 3) a_nil))))))))))

abbrev s_law_are_told : Stmt := top 63
abbrev ps_law_are_told : List Str := ["tap", "vols", "targets"]
theorem sc_law_are_told : FnScope N_law_are_told ps_law_are_told (defScope s_law_are_told) := ⟨rfl, rfl, rfl, by decide +kernel, rfl, by decide +kernel, by decide +kernel⟩
theorem ok_law_are_told (B : BI mg) (D : Here K mg "_law_are_told" ps_law_are_told s_law_are_told) (D_law_first_clash : DefOk P w K mg base 4 "_law_first_clash" ps_law_first_clash s_law_first_clash sp_law_first_clash) (D_can_keep : DefOk P w K mg base 7 "can_keep" ps_can_keep s_can_keep sp_can_keep) (D_still_clash : DefOk P w K mg base 7 "still_clash" ps_still_clash s_still_clash sp_still_clash) (D_law_one : DefOk P w K mg base 2 "_law_one" ps_law_one s_law_one sp_law_one) (D_law_does_keep : DefOk P w K mg base 3 "_law_does_keep" ps_law_does_keep s_law_does_keep sp_law_does_keep) (D_law_ratio : DefOk P w K mg base 1 "_law_ratio" ps_law_ratio s_law_ratio sp_law_ratio) (D_depth_for : DefOk P w K mg base 7 "depth_for" ps_depth_for s_depth_for sp_depth_for) (D_law_depth : DefOk P w K mg base 3 "_law_depth" ps_law_depth s_law_depth sp_law_depth) (D_still_keeps : DefOk P w K mg base 7 "still_keeps" ps_still_keeps s_still_keeps sp_still_keeps) : DefOk P w K mg base 8 "_law_are_told" ps_law_are_told s_law_are_told sp_law_are_told :=
  have sc := sc_law_are_told
  def_mk (k := 7) (t := t_law_are_told) D sc rd_law_are_told fun f cdv A outer s H E hr hG =>
    (ss_cons (s_set 3 sc.nd (d_call D_law_first_clash (hr.mono (by decide)) hG rfl (a_cons (d_var 1) (a_cons (d_var 2) a_nil))))
    (ss_cons (s_set 4 sc.nd (d_lst (a_cons (d_call D_can_keep (hr.mono (by decide)) hG rfl (a_cons (d_var 1) (a_cons (d_var 2) a_nil))) (a_cons (d_call D_still_clash (hr.mono (by decide)) hG rfl (a_cons (d_var 1) (a_cons (d_var 2) a_nil))) (a_cons (d_callK (ks := ["targets", "volatilities"]) (o := [1, 0]) D_can_keep (fun f fd F => named_of F fun _ _ _ _ _ _ us hl => match us, hl with | [_, _], _ => rfl) (hr.mono (by decide)) hG rfl (k_cons (d_var 2) (k_cons (d_var 1) k_nil))) a_nil)))))
    (ss_cons (s_if (t_ne2 hr (d_repr hr hG B.nRepr (a_cons (d_var 4) a_nil)) (d_repr hr hG B.nRepr (a_cons (d_lst (a_cons (d_isN (d_var 3) d_non) (a_cons (d_var 3) (a_cons (d_isN (d_var 3) d_non) a_nil)))) a_nil))) (ss_one (s_ret d_bl)) ss_nil)
    (ss_cons (s_set 5 sc.nd (d_call D_law_one (hr.mono (by decide)) hG rfl (a_cons (d_var 0) (a_cons (d_lst (a_cons d_int (a_cons d_int (a_cons d_int (a_cons d_int a_nil))))) a_nil))))
    (ss_cons (s_setLc 7 rfl sc.nd (i_rng2 B.nRange (a_cons d_int (a_cons (d_add2 (d_var 5) d_int) a_nil))) (blkOk_by (own := [("k", 6)]) (show blkC N_law_are_told (defScope s_law_are_told) _ _ = true by decide +kernel)) (fun _ _ _ _ _ => (cg_one 6 sc.nd)) (fun _ _ _ _ _ => (ts_one (t_val (d_call D_law_does_keep (hr.mono (by decide)) hG rfl (a_cons (d_var 1) (a_cons (d_var 2) (a_cons (d_call D_law_ratio (hr.mono (by decide)) hG rfl (a_cons (d_var 6) (a_cons (d_var 5) a_nil))) a_nil))))))) (fun _ _ _ _ _ => (d_var 6)) (sw_true rfl rfl rfl rfl))
    (ss_cons (s_set 8 sc.nd (d_if (t_ne2 hr (d_var 7) (d_lst a_nil)) (d_ix2 (d_var 7) (d_neg d_int)) d_non))
    (ss_cons (s_if (t_w (w_or (t_ne2 hr (d_repr hr hG B.nRepr (a_cons (d_call D_depth_for (hr.mono (by decide)) hG rfl (a_cons (d_var 1) (a_cons (d_var 2) (a_cons (d_var 5) a_nil)))) a_nil)) (d_repr hr hG B.nRepr (a_cons (d_var 8) a_nil))) (w_or1 (t_w (w_and (t_ne2 hr (d_var 7) (d_lst a_nil)) (w_and1 (t_notN (d_var 3) d_non))))))) (ss_one (s_ret d_bl)) ss_nil)
    (ss_cons (s_for PassesOwn.never rfl (i_rng1 B.nRange (a_cons d_int a_nil)) (g_name 10 sc.nd) (ss_cons (s_set 9 sc.nd (d_call D_law_depth (hr.mono (by decide)) hG rfl (a_cons (d_var 0) a_nil)))
    (ss_one (s_if (t_ne2 hr (d_repr hr hG B.nRepr (a_cons (d_call D_still_keeps (hr.mono (by decide)) hG rfl (a_cons (d_var 1) (a_cons (d_var 2) (a_cons (d_var 9) a_nil)))) a_nil)) (d_repr hr hG B.nRepr (a_cons (d_call D_law_does_keep (hr.mono (by decide)) hG rfl (a_cons (d_var 1) (a_cons (d_var 2) (a_cons (d_var 9) a_nil)))) a_nil))) (ss_one (s_ret d_bl)) ss_nil))))
    (ss_one (s_ret (d_eq2 hr (d_callK (ks := ["depth", "targets", "volatilities"]) (o := [2, 1, 0]) D_still_keeps (fun f fd F => named_of F fun _ _ _ _ _ _ us hl => match us, hl with | [_, _, _], _ => rfl) (hr.mono (by decide)) hG rfl (k_cons (d_tup (a_cons d_int (a_cons d_int a_nil))) (k_cons (d_var 2) (k_cons (d_var 1) k_nil)))) (d_call D_law_does_keep (hr.mono (by decide)) hG rfl (a_cons (d_var 1) (a_cons (d_var 2) (a_cons (d_tup (a_cons d_int (a_cons d_int a_nil))) a_nil)))))))))))))))

abbrev s_law_right : Stmt := top 64
abbrev ps_law_right : List Str := ["tap"]
theorem sc_law_right : FnScope N_law_right ps_law_right (defScope s_law_right) := ⟨rfl, rfl, rfl, by decide +kernel, rfl, by decide +kernel, by decide +kernel⟩
theorem ok_law_right (B : BI mg) (D : Here K mg "_law_right" ps_law_right s_law_right) (D_law_wares : DefOk P w K mg base 2 "_law_wares" ps_law_wares s_law_wares sp_law_wares) (D_law_targets : DefOk P w K mg base 3 "_law_targets" ps_law_targets s_law_targets sp_law_targets) (D_law_drop : DefOk P w K mg base 1 "_law_drop" ps_law_drop s_law_drop sp_law_drop) (D_law_are_told : DefOk P w K mg base 8 "_law_are_told" ps_law_are_told s_law_are_told sp_law_are_told) (D_can_keep : DefOk P w K mg base 7 "can_keep" ps_can_keep s_can_keep sp_can_keep) (D_law_first_clash : DefOk P w K mg base 4 "_law_first_clash" ps_law_first_clash s_law_first_clash sp_law_first_clash) (D_law_told_by : DefOk P w K mg base 3 "_law_told_by" ps_law_told_by s_law_told_by sp_law_told_by) (D_still_keeps : DefOk P w K mg base 7 "still_keeps" ps_still_keeps s_still_keeps sp_still_keeps) (D_law_plus : DefOk P w K mg base 2 "_law_plus" ps_law_plus s_law_plus sp_law_plus) (D_law_sign : DefOk P w K mg base 1 "_law_sign" ps_law_sign s_law_sign sp_law_sign) : DefOk P w K mg base 9 "_law_right" ps_law_right s_law_right sp_law_right :=
  have sc := sc_law_right
  def_mk (k := 8) (t := t_law_right) D sc rd_law_right fun f cdv A outer s H E hr hG =>
    (ss_cons (s_for PassesOwn.never rfl (i_rng1 B.nRange (a_cons d_int a_nil)) (g_name 3 sc.nd) (ss_cons (s_set 1 sc.nd (d_call D_law_wares (hr.mono (by decide)) hG rfl (a_cons (d_var 0) a_nil)))
    (ss_cons (s_set 2 sc.nd (d_call D_law_targets (hr.mono (by decide)) hG rfl (a_cons (d_var 0) (a_cons (d_var 1) (a_cons (d_add2 d_int (d_call D_law_drop (hr.mono (by decide)) hG rfl (a_cons (d_var 0) (a_cons d_int a_nil)))) a_nil)))))
    (ss_cons (s_if (t_not (t_val (d_call D_law_are_told (hr.mono (by decide)) hG rfl (a_cons (d_var 0) (a_cons (d_var 1) (a_cons (d_var 2) a_nil)))))) (ss_one (s_ret d_bl)) ss_nil)
    (ss_one (s_if (t_w (w_and (t_notN (d_call D_law_first_clash (hr.mono (by decide)) hG rfl (a_cons (d_var 1) (a_cons (d_var 2) a_nil))) d_non) (w_and1 (t_notB (d_call D_can_keep (hr.mono (by decide)) hG rfl (a_cons (d_var 1) (a_cons (d_add2 (d_var 2) (d_slT (d_var 2) o_none (o_some d_int))) a_nil))) d_bl)))) (ss_one (s_ret d_bl)) ss_nil))))))
    (ss_cons (s_set 1 sc.nd (d_call D_law_wares (hr.mono (by decide)) hG rfl (a_cons (d_var 0) a_nil)))
    (ss_cons (s_asg (d_call D_law_told_by (hr.mono (by decide)) hG rfl (a_cons (d_var 0) (a_cons (d_var 1) a_nil))) (g_tup rfl (gs_cons (g_name 2 sc.nd) (gs_cons (g_name 4 sc.nd) gs_nil))))
    (ss_cons (s_if (t_w (w_or (t_not (t_val (d_call D_law_are_told (hr.mono (by decide)) hG rfl (a_cons (d_var 0) (a_cons (d_var 1) (a_cons (d_var 2) a_nil)))))) (w_or (t_not (t_val (d_call D_still_keeps (hr.mono (by decide)) hG rfl (a_cons (d_var 1) (a_cons (d_var 2) (a_cons (d_var 4) a_nil)))))) (w_or1 (t_not (t_val (d_call D_can_keep (hr.mono (by decide)) hG rfl (a_cons (d_var 1) (a_cons (d_var 2) a_nil))))))))) (ss_one (s_ret d_bl)) ss_nil)
    (ss_cons (s_asg (d_ix2 (d_var 2) (d_call D_law_drop (hr.mono (by decide)) hG rfl (a_cons (d_var 0) (a_cons d_int a_nil)))) (g_tup rfl (gs_cons (g_name 5 sc.nd) (gs_cons (g_name 6 sc.nd) (gs_cons (g_name 7 sc.nd) gs_nil)))))
    (ss_cons (s_set 8 sc.nd (d_call D_law_plus (hr.mono (by decide)) hG rfl (a_cons (d_var 7) (a_cons (d_tup (a_cons d_int (a_cons (d_pow d_int d_int) a_nil))) a_nil))))
    (ss_cons (s_if (t_ge (d_call D_law_sign (hr.mono (by decide)) hG rfl (a_cons (d_var 8) (a_cons (d_tup (a_cons d_int (a_cons d_int a_nil))) a_nil))) d_int) (ss_one (s_ret d_bl)) ss_nil)
    (ss_one (s_ret (d_isB (d_call D_can_keep (hr.mono (by decide)) hG rfl (a_cons (d_var 1) (a_cons (d_add2 (d_var 2) (d_tup (a_cons (d_tup (a_cons (d_var 5) (a_cons (d_var 6) (a_cons (d_var 8) a_nil)))) a_nil))) a_nil))) d_bl))))))))))

abbrev s_law : Stmt := top 65
abbrev ps_law : List Str := ["script"]
theorem sc_law : FnScope N_law ps_law (defScope s_law) := ⟨rfl, rfl, rfl, by decide +kernel, rfl, by decide +kernel, by decide +kernel⟩
theorem ok_law (B : BI mg) (D : Here K mg "law" ps_law s_law) (D_law_right : DefOk P w K mg base 9 "_law_right" ps_law_right s_law_right sp_law_right) (D_law_tap : DefOk P w K mg base 1 "_law_tap" ps_law_tap s_law_tap sp_law_tap) : DefOk P w K mg base 10 "law" ps_law s_law sp_law :=
  have sc := sc_law
  def_mk (k := 9) (t := t_law) D sc rd_law fun f cdv A outer s H E hr hG =>
    (ss_one (s_ret (d_all rfl B.nAll (a_cons (d_lc rfl sc.nd (i_rng1 B.nRange (a_cons (d_max2 rfl B.nMax (a_cons d_int (a_cons (d_min2 rfl B.nMin (a_cons (d_len B.nLen (a_cons (d_var 0) a_nil)) (a_cons d_int a_nil))) a_nil))) a_nil)) (blkOk_by (own := [("turn", 1)]) (show blkC N_law (defScope s_law) _ _ = true by decide +kernel)) (fun _ _ _ _ _ => (cg_one 1 sc.nd)) (fun _ _ _ _ _ => ts_nil) (fun _ _ _ _ _ => (d_call D_law_right (hr.mono (by decide)) hG rfl (a_cons (d_call D_law_tap (hr.mono (by decide)) hG rfl (a_cons (d_var 0) (a_cons (d_var 1) a_nil))) a_nil)))) a_nil))))

structure All (K : PySem.W.Frag) (mg : Str → Option Value) : Prop where
  bi : BI mg
  gcd : mg "gcd" = some (.builtin "math.gcd")
  c_MOST_VOLATILE : GlobD K mg "MOST_VOLATILE" (.int 12)
  c_MOST_PARTS : GlobD K mg "MOST_PARTS" (.int 1000)
  c_LEFT : GlobD K mg "LEFT" (.str "left")
  c_OVER : GlobD K mg "OVER" (.str "over")
  c_MOST_TARGETS : GlobD K mg "MOST_TARGETS" (.int 8)
  c_ONE : GlobD K mg "ONE" (.tup [.int 1, .int 1])
  h_is_whole : Here K mg "is_whole" ps_is_whole s_is_whole
  h_is_between : Here K mg "is_between" ps_is_between s_is_between
  h_are_wholes : Here K mg "are_wholes" ps_are_wholes s_are_wholes
  h_divisor_of : Here K mg "divisor_of" ps_divisor_of s_divisor_of
  h_lowest : Here K mg "lowest" ps_lowest s_lowest
  h_is_ratio : Here K mg "is_ratio" ps_is_ratio s_is_ratio
  h_ratio : Here K mg "ratio" ps_ratio s_ratio
  h_minus : Here K mg "minus" ps_minus s_minus
  h_power : Here K mg "power" ps_power s_power
  h_is_below : Here K mg "is_below" ps_is_below s_is_below
  h_is_share : Here K mg "is_share" ps_is_share s_is_share
  h_is_inner : Here K mg "is_inner" ps_is_inner s_is_inner
  h_are_volatilities : Here K mg "are_volatilities" ps_are_volatilities s_are_volatilities
  h_check_volatilities : Here K mg "check_volatilities" ps_check_volatilities s_check_volatilities
  h_is_depth : Here K mg "is_depth" ps_is_depth s_is_depth
  h_check_depth : Here K mg "check_depth" ps_check_depth s_check_depth
  h_check_parts : Here K mg "check_parts" ps_check_parts s_check_parts
  h_is_still_target : Here K mg "is_still_target" ps_is_still_target s_is_still_target
  h_check_targets : Here K mg "check_targets" ps_check_targets s_check_targets
  h_is_kept_at : Here K mg "is_kept_at" ps_is_kept_at s_is_kept_at
  h_do_clash : Here K mg "do_clash" ps_do_clash s_do_clash
  h_clash_by : Here K mg "clash_by" ps_clash_by s_clash_by
  h_are_kept_at : Here K mg "are_kept_at" ps_are_kept_at s_are_kept_at
  h_still_keeps : Here K mg "still_keeps" ps_still_keeps s_still_keeps
  h_can_keep : Here K mg "can_keep" ps_can_keep s_can_keep
  h_still_clash : Here K mg "still_clash" ps_still_clash s_still_clash
  h_depth_for : Here K mg "depth_for" ps_depth_for s_depth_for
  h_law_tap : Here K mg "_law_tap" ps_law_tap s_law_tap
  h_law_drop : Here K mg "_law_drop" ps_law_drop s_law_drop
  h_law_one : Here K mg "_law_one" ps_law_one s_law_one
  h_law_ratio : Here K mg "_law_ratio" ps_law_ratio s_law_ratio
  h_law_plus : Here K mg "_law_plus" ps_law_plus s_law_plus
  h_law_less : Here K mg "_law_less" ps_law_less s_law_less
  h_law_sign : Here K mg "_law_sign" ps_law_sign s_law_sign
  h_law_power : Here K mg "_law_power" ps_law_power s_law_power
  h_law_inner : Here K mg "_law_inner" ps_law_inner s_law_inner
  h_law_wares : Here K mg "_law_wares" ps_law_wares s_law_wares
  h_law_depth : Here K mg "_law_depth" ps_law_depth s_law_depth
  h_law_targets : Here K mg "_law_targets" ps_law_targets s_law_targets
  h_law_do_clash : Here K mg "_law_do_clash" ps_law_do_clash s_law_do_clash
  h_law_first_clash : Here K mg "_law_first_clash" ps_law_first_clash s_law_first_clash
  h_law_does_keep : Here K mg "_law_does_keep" ps_law_does_keep s_law_does_keep
  h_law_told_by : Here K mg "_law_told_by" ps_law_told_by s_law_told_by
  h_law_are_told : Here K mg "_law_are_told" ps_law_are_told s_law_are_told
  h_law_right : Here K mg "_law_right" ps_law_right s_law_right
  h_law : Here K mg "law" ps_law s_law
theorem all_ok (a : All K mg) : DefOk P w K mg base 10 "law" ps_law s_law spLaw := by
  have D_law_drop := ok_law_drop (P := P) (w := w) (base := base) a.bi a.h_law_drop
  have D_law_wares := ok_law_wares (P := P) (w := w) (base := base) a.bi a.h_law_wares D_law_drop
  have D_law_ratio := ok_law_ratio (P := P) (w := w) (base := base) a.bi a.h_law_ratio
  have D_law_inner := ok_law_inner (P := P) (w := w) (base := base) a.bi a.h_law_inner D_law_drop D_law_ratio
  have D_law_one := ok_law_one (P := P) (w := w) (base := base) a.bi a.h_law_one D_law_drop
  have D_law_targets := ok_law_targets (P := P) (w := w) (base := base) a.bi a.h_law_targets D_law_inner D_law_drop D_law_one
  have D_law_power := ok_law_power (P := P) (w := w) (base := base) a.bi a.h_law_power
  have D_law_less := ok_law_less (P := P) (w := w) (base := base) a.bi a.h_law_less D_law_ratio
  have D_law_sign := ok_law_sign (P := P) (w := w) (base := base) a.bi a.h_law_sign
  have D_law_do_clash := ok_law_do_clash (P := P) (w := w) (base := base) a.bi a.h_law_do_clash D_law_power D_law_less D_law_sign
  have D_law_first_clash := ok_law_first_clash (P := P) (w := w) (base := base) a.bi a.h_law_first_clash D_law_do_clash
  have D_is_whole := ok_is_whole (P := P) (w := w) (base := base) a.bi a.h_is_whole
  have D_is_between := ok_is_between (P := P) (w := w) (base := base) a.bi a.h_is_between D_is_whole
  have D_are_volatilities := ok_are_volatilities (P := P) (w := w) (base := base) a.bi a.h_are_volatilities D_is_between a.c_MOST_VOLATILE
  have D_check_volatilities := ok_check_volatilities (P := P) (w := w) (base := base) a.bi a.h_check_volatilities D_are_volatilities
  have D_divisor_of := ok_divisor_of (P := P) (w := w) (base := base) a.bi a.h_divisor_of a.gcd
  have D_are_wholes := ok_are_wholes (P := P) (w := w) (base := base) a.bi a.h_are_wholes D_is_whole
  have D_is_ratio := ok_is_ratio (P := P) (w := w) (base := base) a.bi a.h_is_ratio D_divisor_of D_are_wholes
  have D_is_inner := ok_is_inner (P := P) (w := w) (base := base) a.bi a.h_is_inner D_is_ratio
  have D_is_still_target := ok_is_still_target (P := P) (w := w) (base := base) a.bi a.h_is_still_target D_is_between D_is_inner a.c_LEFT a.c_OVER
  have D_check_targets := ok_check_targets (P := P) (w := w) (base := base) a.bi a.h_check_targets D_check_volatilities D_is_still_target a.c_MOST_TARGETS
  have D_power := ok_power (P := P) (w := w) (base := base) a.bi a.h_power
  have D_is_below := ok_is_below (P := P) (w := w) (base := base) a.bi a.h_is_below
  have D_lowest := ok_lowest (P := P) (w := w) (base := base) a.bi a.h_lowest D_divisor_of
  have D_ratio := ok_ratio (P := P) (w := w) (base := base) a.bi a.h_ratio D_lowest
  have D_minus := ok_minus (P := P) (w := w) (base := base) a.bi a.h_minus D_ratio
  have D_do_clash := ok_do_clash (P := P) (w := w) (base := base) a.bi a.h_do_clash D_power D_is_below D_minus a.c_OVER a.c_ONE
  have D_clash_by := ok_clash_by (P := P) (w := w) (base := base) a.bi a.h_clash_by D_do_clash
  have D_can_keep := ok_can_keep (P := P) (w := w) (base := base) a.bi a.h_can_keep D_check_targets D_clash_by
  have D_still_clash := ok_still_clash (P := P) (w := w) (base := base) a.bi a.h_still_clash D_check_targets D_clash_by
  have D_law_does_keep := ok_law_does_keep (P := P) (w := w) (base := base) a.bi a.h_law_does_keep D_law_power D_law_sign D_law_less
  have D_check_parts := ok_check_parts (P := P) (w := w) (base := base) a.bi a.h_check_parts D_is_between a.c_MOST_PARTS
  have D_is_kept_at := ok_is_kept_at (P := P) (w := w) (base := base) a.bi a.h_is_kept_at D_power D_is_below D_minus a.c_LEFT a.c_ONE
  have D_are_kept_at := ok_are_kept_at (P := P) (w := w) (base := base) a.bi a.h_are_kept_at D_is_kept_at
  have D_depth_for := ok_depth_for (P := P) (w := w) (base := base) a.bi a.h_depth_for D_check_targets D_check_parts D_are_kept_at D_ratio
  have D_law_depth := ok_law_depth (P := P) (w := w) (base := base) a.bi a.h_law_depth D_law_one D_law_drop D_law_inner
  have D_is_share := ok_is_share (P := P) (w := w) (base := base) a.bi a.h_is_share D_is_ratio
  have D_is_depth := ok_is_depth (P := P) (w := w) (base := base) a.bi a.h_is_depth D_is_share
  have D_check_depth := ok_check_depth (P := P) (w := w) (base := base) a.bi a.h_check_depth D_is_depth
  have D_still_keeps := ok_still_keeps (P := P) (w := w) (base := base) a.bi a.h_still_keeps D_check_targets D_check_depth D_are_kept_at
  have D_law_are_told := ok_law_are_told (P := P) (w := w) (base := base) a.bi a.h_law_are_told D_law_first_clash D_can_keep D_still_clash D_law_one D_law_does_keep D_law_ratio D_depth_for D_law_depth D_still_keeps
  have D_law_told_by := ok_law_told_by (P := P) (w := w) (base := base) a.bi a.h_law_told_by D_law_drop D_law_ratio D_law_less D_law_power
  have D_law_plus := ok_law_plus (P := P) (w := w) (base := base) a.bi a.h_law_plus D_law_ratio
  have D_law_right := ok_law_right (P := P) (w := w) (base := base) a.bi a.h_law_right D_law_wares D_law_targets D_law_drop D_law_are_told D_can_keep D_law_first_clash D_law_told_by D_still_keeps D_law_plus D_law_sign
  have D_law_tap := ok_law_tap (P := P) (w := w) (base := base) a.bi a.h_law_tap
  have D_law := ok_law (P := P) (w := w) (base := base) a.bi a.h_law D_law_right D_law_tap
  exact D_law
theorem fin {mg : Str → Option Value} {h : Heap} (_ : K.In h) (a : All K mg) : ∃ f fd, mg "law" = some (.ref f) ∧ (∀ (s : Shared) (u : Value), BindsTo s fd ⟨[u], []⟩ [("script", u)]) ∧ ∀ base : Heap, K.In base → base.Ns mainGlobals mg → FnG P w K mg base 10 f fd ["script"] (spOf K spLaw) := law_of a.h_law fun _ => all_ok a
end
end K57
open PySem PySem.W PyProof.Rows in
set_option maxRecDepth 100000 in
set_option maxHeartbeats 0 in
theorem PySem.Challenge.cw_partedcolumns_k57_whole_still_targets_holds : PySem.Challenge.rw_partedcolumns_k57_whole_still_targets.Holds := by
  w_on; o_law; k_head; (case hw => w_witness2)
  k_fill
  refine DL.walk_law (l := PySem.Challenge.rw_partedcolumns_k57_whole_still_targets) (k := 10) (x := "script") (st := K57.s_law) rfl rfl ⟨rfl, by decide, by decide⟩ (fun w h Y => PySem.W.kIn_of Y) ?F
  case F =>
    intro w mg h KX G
    refine K57.fin KX ?all
    case all =>
      constructor
      case bi => exact DL.bi_mk KX G (by kernel_rfl)
      case gcd => (refine' DL.glob_fn KX G ?agcd; (case agcd => k_is))
      case c_MOST_VOLATILE => (refine' DL.glob_int KX G ?aMOST_VOLATILE; (case aMOST_VOLATILE => k_is))
      case c_MOST_PARTS => (refine' DL.glob_int KX G ?aMOST_PARTS; (case aMOST_PARTS => k_is))
      case c_LEFT => (refine' DL.glob_str KX G ?aLEFT; (case aLEFT => k_is))
      case c_OVER => (refine' DL.glob_str KX G ?aOVER; (case aOVER => k_is))
      case c_MOST_TARGETS => (refine' DL.glob_int KX G ?aMOST_TARGETS; (case aMOST_TARGETS => k_is))
      case c_ONE =>
        refine' DL.glob_ints (ns := [1, 1]) KX G ?aONE ?lONE ?hzONE ?vONE
        (case aONE => k_is)
        (case lONE => k_is)
        (case hzONE => decide)
        (case vONE => exact (.cons ⟨_, rfl⟩ (.cons ⟨_, rfl⟩ .nil)))
      case h_is_whole =>
        refine' DL.here_mk KX G ?a8 ?l8 ?c8 ?k8 (fun _ _ _ _ _ _ us hl => match us, hl with | [_], _ => rfl)
        (case a8 => k_is)
        (case l8 => k_is)
        (case c8 => k_is)
        (case k8 => k_is)
      case h_is_between =>
        refine' DL.here_mk KX G ?a9 ?l9 ?c9 ?k9 (fun _ _ _ _ _ _ us hl => match us, hl with | [_, _, _], _ => rfl)
        (case a9 => k_is)
        (case l9 => k_is)
        (case c9 => k_is)
        (case k9 => k_is)
      case h_are_wholes =>
        refine' DL.here_mk KX G ?a10 ?l10 ?c10 ?k10 (fun _ _ _ _ _ _ us hl => match us, hl with | [_, _], _ => rfl)
        (case a10 => k_is)
        (case l10 => k_is)
        (case c10 => k_is)
        (case k10 => k_is)
      case h_divisor_of =>
        refine' DL.here_mk KX G ?a11 ?l11 ?c11 ?k11 (fun _ _ _ _ _ _ us hl => match us, hl with | [_], _ => rfl)
        (case a11 => k_is)
        (case l11 => k_is)
        (case c11 => k_is)
        (case k11 => k_is)
      case h_lowest =>
        refine' DL.here_mk KX G ?a12 ?l12 ?c12 ?k12 (fun _ _ _ _ _ _ us hl => match us, hl with | [_], _ => rfl)
        (case a12 => k_is)
        (case l12 => k_is)
        (case c12 => k_is)
        (case k12 => k_is)
      case h_is_ratio =>
        refine' DL.here_mk KX G ?a15 ?l15 ?c15 ?k15 (fun _ _ _ _ _ _ us hl => match us, hl with | [_], _ => rfl)
        (case a15 => k_is)
        (case l15 => k_is)
        (case c15 => k_is)
        (case k15 => k_is)
      case h_ratio =>
        refine' DL.here_mk KX G ?a16 ?l16 ?c16 ?k16 (fun _ _ _ _ _ _ us hl => match us, hl with | [_, _], _ => rfl)
        (case a16 => k_is)
        (case l16 => k_is)
        (case c16 => k_is)
        (case k16 => k_is)
      case h_minus =>
        refine' DL.here_mk KX G ?a17 ?l17 ?c17 ?k17 (fun _ _ _ _ _ _ us hl => match us, hl with | [_, _], _ => rfl)
        (case a17 => k_is)
        (case l17 => k_is)
        (case c17 => k_is)
        (case k17 => k_is)
      case h_power =>
        refine' DL.here_mk KX G ?a18 ?l18 ?c18 ?k18 (fun _ _ _ _ _ _ us hl => match us, hl with | [_, _], _ => rfl)
        (case a18 => k_is)
        (case l18 => k_is)
        (case c18 => k_is)
        (case k18 => k_is)
      case h_is_below =>
        refine' DL.here_mk KX G ?a19 ?l19 ?c19 ?k19 (fun _ _ _ _ _ _ us hl => match us, hl with | [_, _], _ => rfl)
        (case a19 => k_is)
        (case l19 => k_is)
        (case c19 => k_is)
        (case k19 => k_is)
      case h_is_share =>
        refine' DL.here_mk KX G ?a21 ?l21 ?c21 ?k21 (fun _ _ _ _ _ _ us hl => match us, hl with | [_], _ => rfl)
        (case a21 => k_is)
        (case l21 => k_is)
        (case c21 => k_is)
        (case k21 => k_is)
      case h_is_inner =>
        refine' DL.here_mk KX G ?a22 ?l22 ?c22 ?k22 (fun _ _ _ _ _ _ us hl => match us, hl with | [_], _ => rfl)
        (case a22 => k_is)
        (case l22 => k_is)
        (case c22 => k_is)
        (case k22 => k_is)
      case h_are_volatilities =>
        refine' DL.here_mk KX G ?a25 ?l25 ?c25 ?k25 (fun _ _ _ _ _ _ us hl => match us, hl with | [_], _ => rfl)
        (case a25 => k_is)
        (case l25 => k_is)
        (case c25 => k_is)
        (case k25 => k_is)
      case h_check_volatilities =>
        refine' DL.here_mk KX G ?a26 ?l26 ?c26 ?k26 (fun _ _ _ _ _ _ us hl => match us, hl with | [_], _ => rfl)
        (case a26 => k_is)
        (case l26 => k_is)
        (case c26 => k_is)
        (case k26 => k_is)
      case h_is_depth =>
        refine' DL.here_mk KX G ?a29 ?l29 ?c29 ?k29 (fun _ _ _ _ _ _ us hl => match us, hl with | [_], _ => rfl)
        (case a29 => k_is)
        (case l29 => k_is)
        (case c29 => k_is)
        (case k29 => k_is)
      case h_check_depth =>
        refine' DL.here_mk KX G ?a30 ?l30 ?c30 ?k30 (fun _ _ _ _ _ _ us hl => match us, hl with | [_], _ => rfl)
        (case a30 => k_is)
        (case l30 => k_is)
        (case c30 => k_is)
        (case k30 => k_is)
      case h_check_parts =>
        refine' DL.here_mk KX G ?a31 ?l31 ?c31 ?k31 (fun _ _ _ _ _ _ us hl => match us, hl with | [_], _ => rfl)
        (case a31 => k_is)
        (case l31 => k_is)
        (case c31 => k_is)
        (case k31 => k_is)
      case h_is_still_target =>
        refine' DL.here_mk KX G ?a36 ?l36 ?c36 ?k36 (fun _ _ _ _ _ _ us hl => match us, hl with | [_, _], _ => rfl)
        (case a36 => k_is)
        (case l36 => k_is)
        (case c36 => k_is)
        (case k36 => k_is)
      case h_check_targets =>
        refine' DL.here_mk KX G ?a37 ?l37 ?c37 ?k37 (fun _ _ _ _ _ _ us hl => match us, hl with | [_, _], _ => rfl)
        (case a37 => k_is)
        (case l37 => k_is)
        (case c37 => k_is)
        (case k37 => k_is)
      case h_is_kept_at =>
        refine' DL.here_mk KX G ?a38 ?l38 ?c38 ?k38 (fun _ _ _ _ _ _ us hl => match us, hl with | [_, _, _], _ => rfl)
        (case a38 => k_is)
        (case l38 => k_is)
        (case c38 => k_is)
        (case k38 => k_is)
      case h_do_clash =>
        refine' DL.here_mk KX G ?a39 ?l39 ?c39 ?k39 (fun _ _ _ _ _ _ us hl => match us, hl with | [_, _, _], _ => rfl)
        (case a39 => k_is)
        (case l39 => k_is)
        (case c39 => k_is)
        (case k39 => k_is)
      case h_clash_by =>
        refine' DL.here_mk KX G ?a40 ?l40 ?c40 ?k40 (fun _ _ _ _ _ _ us hl => match us, hl with | [_, _], _ => rfl)
        (case a40 => k_is)
        (case l40 => k_is)
        (case c40 => k_is)
        (case k40 => k_is)
      case h_are_kept_at =>
        refine' DL.here_mk KX G ?a41 ?l41 ?c41 ?k41 (fun _ _ _ _ _ _ us hl => match us, hl with | [_, _, _], _ => rfl)
        (case a41 => k_is)
        (case l41 => k_is)
        (case c41 => k_is)
        (case k41 => k_is)
      case h_still_keeps =>
        refine' DL.here_mk KX G ?a42 ?l42 ?c42 ?k42 (fun _ _ _ _ _ _ us hl => match us, hl with | [_, _, _], _ => rfl)
        (case a42 => k_is)
        (case l42 => k_is)
        (case c42 => k_is)
        (case k42 => k_is)
      case h_can_keep =>
        refine' DL.here_mk KX G ?a43 ?l43 ?c43 ?k43 (fun _ _ _ _ _ _ us hl => match us, hl with | [_, _], _ => rfl)
        (case a43 => k_is)
        (case l43 => k_is)
        (case c43 => k_is)
        (case k43 => k_is)
      case h_still_clash =>
        refine' DL.here_mk KX G ?a44 ?l44 ?c44 ?k44 (fun _ _ _ _ _ _ us hl => match us, hl with | [_, _], _ => rfl)
        (case a44 => k_is)
        (case l44 => k_is)
        (case c44 => k_is)
        (case k44 => k_is)
      case h_depth_for =>
        refine' DL.here_mk KX G ?a45 ?l45 ?c45 ?k45 (fun _ _ _ _ _ _ us hl => match us, hl with | [_, _, _], _ => rfl)
        (case a45 => k_is)
        (case l45 => k_is)
        (case c45 => k_is)
        (case k45 => k_is)
      case h_law_tap =>
        refine' DL.here_mk KX G ?a47 ?l47 ?c47 ?k47 (fun _ _ _ _ _ _ us hl => match us, hl with | [_, _], _ => rfl)
        (case a47 => k_is)
        (case l47 => k_is)
        (case c47 => k_is)
        (case k47 => k_is)
      case h_law_drop =>
        refine' DL.here_mk KX G ?a48 ?l48 ?c48 ?k48 (fun _ _ _ _ _ _ us hl => match us, hl with | [_, _], _ => rfl)
        (case a48 => k_is)
        (case l48 => k_is)
        (case c48 => k_is)
        (case k48 => k_is)
      case h_law_one =>
        refine' DL.here_mk KX G ?a49 ?l49 ?c49 ?k49 (fun _ _ _ _ _ _ us hl => match us, hl with | [_, _], _ => rfl)
        (case a49 => k_is)
        (case l49 => k_is)
        (case c49 => k_is)
        (case k49 => k_is)
      case h_law_ratio =>
        refine' DL.here_mk KX G ?a50 ?l50 ?c50 ?k50 (fun _ _ _ _ _ _ us hl => match us, hl with | [_, _], _ => rfl)
        (case a50 => k_is)
        (case l50 => k_is)
        (case c50 => k_is)
        (case k50 => k_is)
      case h_law_plus =>
        refine' DL.here_mk KX G ?a51 ?l51 ?c51 ?k51 (fun _ _ _ _ _ _ us hl => match us, hl with | [_, _], _ => rfl)
        (case a51 => k_is)
        (case l51 => k_is)
        (case c51 => k_is)
        (case k51 => k_is)
      case h_law_less =>
        refine' DL.here_mk KX G ?a52 ?l52 ?c52 ?k52 (fun _ _ _ _ _ _ us hl => match us, hl with | [_, _], _ => rfl)
        (case a52 => k_is)
        (case l52 => k_is)
        (case c52 => k_is)
        (case k52 => k_is)
      case h_law_sign =>
        refine' DL.here_mk KX G ?a53 ?l53 ?c53 ?k53 (fun _ _ _ _ _ _ us hl => match us, hl with | [_, _], _ => rfl)
        (case a53 => k_is)
        (case l53 => k_is)
        (case c53 => k_is)
        (case k53 => k_is)
      case h_law_power =>
        refine' DL.here_mk KX G ?a54 ?l54 ?c54 ?k54 (fun _ _ _ _ _ _ us hl => match us, hl with | [_, _], _ => rfl)
        (case a54 => k_is)
        (case l54 => k_is)
        (case c54 => k_is)
        (case k54 => k_is)
      case h_law_inner =>
        refine' DL.here_mk KX G ?a55 ?l55 ?c55 ?k55 (fun _ _ _ _ _ _ us hl => match us, hl with | [_], _ => rfl)
        (case a55 => k_is)
        (case l55 => k_is)
        (case c55 => k_is)
        (case k55 => k_is)
      case h_law_wares =>
        refine' DL.here_mk KX G ?a56 ?l56 ?c56 ?k56 (fun _ _ _ _ _ _ us hl => match us, hl with | [_], _ => rfl)
        (case a56 => k_is)
        (case l56 => k_is)
        (case c56 => k_is)
        (case k56 => k_is)
      case h_law_depth =>
        refine' DL.here_mk KX G ?a57 ?l57 ?c57 ?k57 (fun _ _ _ _ _ _ us hl => match us, hl with | [_], _ => rfl)
        (case a57 => k_is)
        (case l57 => k_is)
        (case c57 => k_is)
        (case k57 => k_is)
      case h_law_targets =>
        refine' DL.here_mk KX G ?a58 ?l58 ?c58 ?k58 (fun _ _ _ _ _ _ us hl => match us, hl with | [_, _, _], _ => rfl)
        (case a58 => k_is)
        (case l58 => k_is)
        (case c58 => k_is)
        (case k58 => k_is)
      case h_law_do_clash =>
        refine' DL.here_mk KX G ?a59 ?l59 ?c59 ?k59 (fun _ _ _ _ _ _ us hl => match us, hl with | [_, _, _], _ => rfl)
        (case a59 => k_is)
        (case l59 => k_is)
        (case c59 => k_is)
        (case k59 => k_is)
      case h_law_first_clash =>
        refine' DL.here_mk KX G ?a60 ?l60 ?c60 ?k60 (fun _ _ _ _ _ _ us hl => match us, hl with | [_, _], _ => rfl)
        (case a60 => k_is)
        (case l60 => k_is)
        (case c60 => k_is)
        (case k60 => k_is)
      case h_law_does_keep =>
        refine' DL.here_mk KX G ?a61 ?l61 ?c61 ?k61 (fun _ _ _ _ _ _ us hl => match us, hl with | [_, _, _], _ => rfl)
        (case a61 => k_is)
        (case l61 => k_is)
        (case c61 => k_is)
        (case k61 => k_is)
      case h_law_told_by =>
        refine' DL.here_mk KX G ?a62 ?l62 ?c62 ?k62 (fun _ _ _ _ _ _ us hl => match us, hl with | [_, _], _ => rfl)
        (case a62 => k_is)
        (case l62 => k_is)
        (case c62 => k_is)
        (case k62 => k_is)
      case h_law_are_told =>
        refine' DL.here_mk KX G ?a63 ?l63 ?c63 ?k63 (fun _ _ _ _ _ _ us hl => match us, hl with | [_, _, _], _ => rfl)
        (case a63 => k_is)
        (case l63 => k_is)
        (case c63 => k_is)
        (case k63 => k_is)
      case h_law_right =>
        refine' DL.here_mk KX G ?a64 ?l64 ?c64 ?k64 (fun _ _ _ _ _ _ us hl => match us, hl with | [_], _ => rfl)
        (case a64 => k_is)
        (case l64 => k_is)
        (case c64 => k_is)
        (case k64 => k_is)
      case h_law =>
        refine' DL.here_mk KX G ?a65 ?l65 ?c65 ?k65 (fun _ _ _ _ _ _ us hl => match us, hl with | [_], _ => rfl)
        (case a65 => k_is)
        (case l65 => k_is)
        (case c65 => k_is)
        (case k65 => k_is)
