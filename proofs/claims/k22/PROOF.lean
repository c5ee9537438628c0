import PyProof.Rows.All
import Wide.All
import OpenK.AllK
import Wide.FinOn
import HandS.ForMost
import HandS.Wide
import HandS.TupAny
import HandS.IsInst
import HandS.TupMul
import HandS.Property
import HandS.Style
import HandS.Deep
import PySem.Challenge.RW_squareweights_k22_whole_ways
set_option Elab.async false
set_option linter.all false
set_option autoImplicit false
set_option maxRecDepth 100000
set_option maxHeartbeats 4000000
/-! DL: readings over plain data; the heap hidden. -/
namespace DL
open PySem L2

/-- plain data: what a value is, down to its leaves -/
inductive D where
  | raw (v : V)
  | tup (xs : List D)
  | lst (xs : List D)
  | dic (ks : List Key) (vs : List D)
  | ins (C : Addr) (ns : List Str) (vs : List D)
  | rd (xs : List D)
abbrev D.int (i : Int) : D := .raw (.int i)
abbrev D.bl (b : Bool) : D := .raw (.bl b)
abbrev D.non : D := .raw .non
abbrev D.str (s : Str) : D := .raw (.str s)
abbrev D.ints (ns : List Int) : List D := ns.map D.int

section
variable (K : PySem.W.Frag)
mutual
def Den (F : Hp) : D → V → Prop
  | .raw v, x => x = v
  | .tup ds, x => ∃ a vs, x = .ref a ∧ SqT K F a vs ∧ Dens F ds vs
  | .lst ds, x => ∃ a vs, x = .ref a ∧ F a = some (.lst vs) ∧ Dens F ds vs
  | .dic ks ds, x => ∃ a vs, x = .ref a ∧ F a = some (.dK (ks.zip vs)) ∧ ks.length = vs.length ∧ Dens F ds vs
  | .ins C ns ds, x => ∃ a dx vs, x = .ref a ∧ F a = some (.ins C dx (ns.zip vs)) ∧ ns.length = vs.length ∧ Dens F ds vs
  | .rd ds, x => ∃ a vs, x = .ref a ∧ SqL K F a vs ∧ Dens F ds vs
def Dens (F : Hp) : List D → List V → Prop
  | [], vs => vs = []
  | d :: ds, vs => ∃ v r, vs = v :: r ∧ Den F d v ∧ Dens F ds r
end

theorem sqt_same {F F' : Hp} {a : Addr} {xs : List V} (e : Same F F') (h : SqT K F a xs) : SqT K F' a xs := by
  rcases h with (h | ⟨o, h⟩) | h
  · exact .inl (.inl (e _ _ h))
  · exact .inl (.inr ⟨o, e _ _ h⟩)
  · exact .inr h
mutual
theorem Den.mono {F F' : Hp} (e : Same F F') : ∀ (d : D) (x : V), Den K F d x → Den K F' d x
  | .raw v, x, h => h
  | .tup ds, x, h => by
    obtain ⟨a, vs, h1, h2, h3⟩ := h
    exact ⟨a, vs, h1, sqt_same K e h2, Dens.mono e ds vs h3⟩
  | .lst ds, x, h => by
    obtain ⟨a, vs, h1, h2, h3⟩ := h
    exact ⟨a, vs, h1, e _ _ h2, Dens.mono e ds vs h3⟩
  | .dic ks ds, x, h => by
    obtain ⟨a, vs, h1, h2, h4, h3⟩ := h
    exact ⟨a, vs, h1, e _ _ h2, h4, Dens.mono e ds vs h3⟩
  | .ins C ns ds, x, h => by
    obtain ⟨a, dx, vs, h1, h2, h4, h3⟩ := h
    exact ⟨a, dx, vs, h1, e _ _ h2, h4, Dens.mono e ds vs h3⟩
  | .rd ds, x, h => by
    obtain ⟨a, vs, h1, h2, h3⟩ := h
    exact ⟨a, vs, h1, e.seq h2, Dens.mono e ds vs h3⟩
theorem Dens.mono {F F' : Hp} (e : Same F F') : ∀ (ds : List D) (vs : List V), Dens K F ds vs → Dens K F' ds vs
  | [], vs, h => h
  | d :: ds, vs, h => by
    obtain ⟨v, r, h1, h2, h3⟩ := h
    exact ⟨v, r, h1, Den.mono e d v h2, Dens.mono e ds r h3⟩
end
variable {K}
theorem Dens.nil {F : Hp} : Dens K F [] [] := rfl
theorem Dens.cons {F : Hp} {d : D} {ds : List D} {v : V} {vs : List V} (h : Den K F d v) (t : Dens K F ds vs) : Dens K F (d :: ds) (v :: vs) := ⟨v, vs, rfl, h, t⟩
theorem Dens.length {F : Hp} : ∀ {ds : List D} {vs : List V}, Dens K F ds vs → ds.length = vs.length
  | [], _, h => by
    have h : _ = [] := h
    subst h; rfl
  | d :: ds, _, h => by
    obtain ⟨v, r, rfl, _, h3⟩ := h
    simp [Dens.length h3]
theorem Dens.get {F : Hp} : ∀ {ds : List D} {vs : List V} {i : Nat} {d : D}, Dens K F ds vs → ds[i]? = some d → ∃ v, vs[i]? = some v ∧ Den K F d v
  | [], _, _, _, _, e => by simp at e
  | d :: ds, _, 0, _, h, e => by
    obtain ⟨v, r, rfl, h2, h3⟩ := h
    simp at e; subst e
    exact ⟨v, rfl, h2⟩
  | d :: ds, _, i + 1, _, h, e => by
    obtain ⟨v, r, rfl, h2, h3⟩ := h
    obtain ⟨u, q, hu⟩ := Dens.get (i := i) h3 (by simpa using e)
    exact ⟨u, by simpa using q, hu⟩
theorem Dens.get' {F : Hp} : ∀ {ds : List D} {vs : List V} {i : Nat} {v : V}, Dens K F ds vs → vs[i]? = some v → ∃ d, ds[i]? = some d ∧ Den K F d v
  | [], _, _, _, h, e => by
    have h : _ = [] := h
    subst h; simp at e
  | d :: ds, _, 0, _, h, e => by
    obtain ⟨v, r, rfl, h2, h3⟩ := h
    simp at e; subst e
    exact ⟨d, rfl, h2⟩
  | d :: ds, _, i + 1, _, h, e => by
    obtain ⟨v, r, rfl, h2, h3⟩ := h
    obtain ⟨u, q, hu⟩ := Dens.get' (i := i) h3 (by simpa using e)
    exact ⟨u, by simpa using q, hu⟩
theorem Dens.append {F : Hp} : ∀ {ds es : List D} {vs us : List V}, Dens K F ds vs → Dens K F es us → Dens K F (ds ++ es) (vs ++ us)
  | [], _, _, _, h, k => by
    have h : _ = [] := h
    subst h; exact k
  | d :: ds, _, _, _, h, k => by
    obtain ⟨v, r, rfl, h2, h3⟩ := h
    exact ⟨v, r ++ _, rfl, h2, Dens.append h3 k⟩
theorem Dens.drop {F : Hp} : ∀ (n : Nat) {ds : List D} {vs : List V}, Dens K F ds vs → Dens K F (ds.drop n) (vs.drop n)
  | 0, _, _, h => h
  | n + 1, [], _, h => by
    have h : _ = [] := h
    subst h; exact rfl
  | n + 1, d :: ds, _, h => by
    obtain ⟨v, r, rfl, h2, h3⟩ := h
    exact Dens.drop n h3
theorem Dens.take {F : Hp} : ∀ (n : Nat) {ds : List D} {vs : List V}, Dens K F ds vs → Dens K F (ds.take n) (vs.take n)
  | 0, _, _, h => rfl
  | n + 1, [], _, h => by
    have h : _ = [] := h
    subst h; exact rfl
  | n + 1, d :: ds, _, h => by
    obtain ⟨v, r, rfl, h2, h3⟩ := h
    exact ⟨v, r.take n, rfl, h2, Dens.take n h3⟩
theorem Dens.set {F : Hp} {d : D} {v : V} (hd : Den K F d v) : ∀ (i : Nat) {ds : List D} {vs : List V}, Dens K F ds vs → Dens K F (ds.set i d) (vs.set i v)
  | _, [], _, h => by
    have h : _ = [] := h
    subst h; exact rfl
  | 0, d' :: ds, _, h => by
    obtain ⟨u, r, rfl, h2, h3⟩ := h
    exact ⟨v, r, rfl, hd, h3⟩
  | i + 1, d' :: ds, _, h => by
    obtain ⟨u, r, rfl, h2, h3⟩ := h
    exact ⟨u, r.set i v, rfl, h2, Dens.set hd i h3⟩
theorem Dens.raws {F : Hp} : ∀ {xs : List V}, Dens K F (xs.map D.raw) xs
  | [] => rfl
  | x :: xs => ⟨x, xs, rfl, rfl, Dens.raws⟩
theorem Dens.ofRaws {F : Hp} : ∀ {xs : List V} {vs : List V}, Dens K F (xs.map D.raw) vs → vs = xs
  | [], _, h => h
  | x :: xs, _, h => by
    obtain ⟨v, r, rfl, h2, h3⟩ := h
    have h2 : v = x := h2
    rw [h2, Dens.ofRaws h3]
theorem Dens.ofInts {F : Hp} {ns : List Int} {vs : List V} (h : Dens K F (D.ints ns) vs) : vs = ns.map V.int := by
  have e : D.ints ns = (ns.map V.int).map D.raw := by simp [D.ints, Function.comp_def]
  rw [e] at h
  exact h.ofRaws
theorem Dens.replicate {F : Hp} {d : D} {v : V} (h : Den K F d v) : ∀ n : Nat, Dens K F (List.replicate n d) (List.replicate n v)
  | 0 => rfl
  | n + 1 => ⟨v, List.replicate n v, rfl, h, Dens.replicate h n⟩
end

/-! ### what may change: numbered things, each at an address (two, for the source of draws) -/
inductive MO where
  | lst (ds : List D)
  | dic (ks : List Key) (vs : List D)
  | ins (C : Addr) (ns : List Str) (vs : List D)
  | rng
  | dead
abbrev Al := List (Addr × Addr)
/-- the source of draws as it stands -/
def Rng (H : Hp) (p : Addr × Addr) : Prop := ∃ (s i : Int) (cells : List Int), p.1 ≠ p.2 ∧ H p.1 = some (.lst [.int s, .ref p.2, .int i]) ∧ H p.2 = some (.lst (cells.map V.int)) ∧
  0 ≤ s ∧ s < 2147483647 ∧ cells.length ≤ 63 ∧ 0 ≤ i
section
variable (K : PySem.W.Frag)
def MObj (F H : Hp) : MO → Addr × Addr → Prop
  | .lst ds, p => F p.1 = none ∧ ∃ vs, H p.1 = some (.lst vs) ∧ Dens K F ds vs
  | .dic ks ds, p => F p.1 = none ∧ ∃ vs, H p.1 = some (.dK (ks.zip vs)) ∧ ks.length = vs.length ∧ Dens K F ds vs
  | .ins C ns ds, p => F p.1 = none ∧ ∃ dx vs, H p.1 = some (.ins C dx (ns.zip vs)) ∧ ns.length = vs.length ∧ Dens K F ds vs
  | .rng, p => F p.1 = none ∧ F p.2 = none ∧ Rng H p
  | .dead, _ => True
def Apart (p q : Addr × Addr) : Prop := p.1 ≠ q.1 ∧ p.1 ≠ q.2 ∧ p.2 ≠ q.1 ∧ p.2 ≠ q.2
structure Sta (α : Al) (M : List MO) (F H : Hp) : Prop where
  sub : Same F H
  len : M.length = α.length
  ob : ∀ (i : Nat) m p, M[i]? = some m → α[i]? = some p → MObj K F H m p
  ap : ∀ (i j : Nat) p q, i < j → α[i]? = some p → α[j]? = some q → Apart p q
  tr : ∀ p, p ∈ α → H p.1 ≠ none ∧ H p.2 ≠ none
/-- a slot: data, or the k-th thing -/
inductive Sl where
  | v (d : D)
  | l (k : Nat)
def SlOk (α : Al) (F : Hp) : Sl → V → Prop
  | .v d, x => Den K F d x
  | .l k, x => ∃ p, α[k]? = some p ∧ x = .ref p.1
abbrev Rho := List (Option Sl)
structure EnvOk (α : Al) (F : Hp) (σ : L2.St) (ρ : Rho) : Prop where
  len : σ.length = ρ.length
  at' : ∀ (i : Nat) s, ρ[i]? = some (some s) → ∃ v, σ[i]? = some (some v) ∧ SlOk K α F s v
/-- from one heap to a later one: all but the numbered things as it was -/
structure Move (α : Al) (F H F' H' : Hp) : Prop where
  ex : Same F F'
  fr : ∀ b o, H b = some o → (∀ p, p ∈ α → b ≠ p.1 ∧ b ≠ p.2) → H' b = some o
  tr : ∀ b, H b ≠ none → H' b ≠ none
  new : ∀ b, F' b ≠ none → F b ≠ none ∨ H b = none
end
theorem Move.refl {α : Al} {F H : Hp} : Move α F H F H := ⟨fun _ _ h => h, fun _ _ h _ => h, fun _ h => h, fun _ h => .inl h⟩
theorem Move.trans {α : Al} {F H F1 H1 F2 H2 : Hp} (a : Move α F H F1 H1) (b : Move α F1 H1 F2 H2) : Move α F H F2 H2 where
  ex := a.ex.trans b.ex
  fr := fun c o h k => b.fr c o (a.fr c o h k) k
  tr := fun c h => b.tr c (a.tr c h)
  new := fun c h => by
    rcases b.new c h with q | q
    · exact a.new c q
    · refine .inr ?_
      cases e : H c with
      | none => rfl
      | some o => exact absurd q (a.tr c (by rw [e]; simp))

section
variable {K : PySem.W.Frag}
theorem SlOk.mono {α : Al} {F F' : Hp} (e : Same F F') : ∀ {s : Sl} {x : V}, SlOk K α F s x → SlOk K α F' s x
  | .v d, x, h => Den.mono K e d x h
  | .l k, x, h => h
theorem EnvOk.mono {α : Al} {F F' : Hp} {σ : L2.St} {ρ : Rho} (e : Same F F') (h : EnvOk K α F σ ρ) : EnvOk K α F' σ ρ :=
  ⟨h.len, fun i s q => let ⟨v, a, b⟩ := h.at' i s q; ⟨v, a, b.mono e⟩⟩
theorem EnvOk.set {α : Al} {F : Hp} {σ : L2.St} {ρ : Rho} (h : EnvOk K α F σ ρ) (i : Nat) {s : Sl} {v : V} (hv : SlOk K α F s v) : EnvOk K α F (σ.set i (some v)) (ρ.set i (some s)) := by
  refine ⟨by simp [h.len], fun j t q => ?_⟩
  by_cases e : i = j
  · subst e
    by_cases hl : i < ρ.length
    · rw [List.getElem?_set_self hl] at q
      cases q
      exact ⟨v, by rw [List.getElem?_set_self (by rw [h.len]; exact hl)], hv⟩
    · rw [List.getElem?_eq_none (by simpa using hl)] at q; cases q
  · rw [List.getElem?_set_ne e] at q ⊢
    exact h.at' j t q
theorem EnvOk.setN {α : Al} {F : Hp} {σ : L2.St} {ρ : Rho} (h : EnvOk K α F σ ρ) (i : Nat) : EnvOk K α F (σ.set i none) (ρ.set i none) := by
  refine ⟨by simp [h.len], fun j t q => ?_⟩
  by_cases e : i = j
  · subst e
    by_cases hl : i < ρ.length
    · rw [List.getElem?_set_self hl] at q; cases q
    · rw [List.getElem?_eq_none (by simpa using hl)] at q; cases q
  · rw [List.getElem?_set_ne e] at q ⊢
    exact h.at' j t q

theorem raw_ok {α : Al} {F : Hp} {v : V} : SlOk K α F (.v (.raw v)) v := rfl
theorem den_ok {α : Al} {F : Hp} {d : D} {v : V} (h : Den K F d v) : SlOk K α F (.v d) v := h
/-! ### expressions -/
def EvP (K : PySem.W.Frag) (te : TE) (ρ : Rho) (M : List MO) (Q : Sl → Prop) : Prop := ∀ (σ : L2.St) (α : Al) (F H : Hp), EnvOk K α F σ ρ → Sta K α M F H → ∀ k : VK,
  (∀ v F' H' s, Move α F H F' H' → Sta K α M F' H' → SlOk K α F' s v → Q s → k v H') → te σ H k
def EvT (K : PySem.W.Frag) (tt : TT) (ρ : Rho) (M : List MO) (Q : Bool → Prop) : Prop := ∀ (σ : L2.St) (α : Al) (F H : Hp), EnvOk K α F σ ρ → Sta K α M F H → ∀ k : Bool → Hp → Prop,
  (∀ b F' H', Move α F H F' H' → Sta K α M F' H' → Q b → k b H') → tt σ H k
def SlsOk (K : PySem.W.Frag) (α : Al) (F : Hp) : List Sl → List V → Prop
  | [], vs => vs = []
  | s :: ss, vs => ∃ v r, vs = v :: r ∧ SlOk K α F s v ∧ SlsOk K α F ss r
theorem SlsOk.mono {α : Al} {F F' : Hp} (e : Same F F') : ∀ {ss : List Sl} {vs : List V}, SlsOk K α F ss vs → SlsOk K α F' ss vs
  | [], _, h => h
  | s :: ss, _, h => by
    obtain ⟨v, r, h1, h2, h3⟩ := h
    exact ⟨v, r, h1, h2.mono e, SlsOk.mono e h3⟩
theorem SlsOk.dens {α : Al} {F : Hp} : ∀ {ds : List D} {vs : List V}, SlsOk K α F (ds.map Sl.v) vs → Dens K F ds vs
  | [], _, h => h
  | d :: ds, _, h => by
    obtain ⟨v, r, h1, h2, h3⟩ := h
    exact ⟨v, r, h1, h2, SlsOk.dens h3⟩
theorem SlsOk.length {α : Al} {F : Hp} : ∀ {ss : List Sl} {vs : List V}, SlsOk K α F ss vs → ss.length = vs.length
  | [], _, h => by
    have h : _ = [] := h
    subst h; rfl
  | s :: ss, _, h => by
    obtain ⟨v, r, rfl, _, h3⟩ := h
    simp [SlsOk.length h3]
def EvA (K : PySem.W.Frag) (ta : TA) (ρ : Rho) (M : List MO) (Q : List Sl → Prop) : Prop := ∀ (σ : L2.St) (α : Al) (F H : Hp), EnvOk K α F σ ρ → Sta K α M F H → ∀ k : List V → Hp → Prop,
  (∀ vs F' H' ss, Move α F H F' H' → Sta K α M F' H' → SlsOk K α F' ss vs → Q ss → k vs H') → ta σ H k
def EvO (K : PySem.W.Frag) (to : TO) (ρ : Rho) (M : List MO) (Q : Option Int → Prop) : Prop := ∀ (σ : L2.St) (α : Al) (F H : Hp), EnvOk K α F σ ρ → Sta K α M F H → ∀ k : Option Int → Hp → Prop,
  (∀ o F' H', Move α F H F' H' → Sta K α M F' H' → Q o → k o H') → to σ H k
/-- operations by values -/
def EvR (K : PySem.W.Frag) (r : R2) (M : List MO) (x y : Sl) (Q : Sl → Prop) : Prop := ∀ (α : Al) (F H : Hp) (u v : V), Sta K α M F H → SlOk K α F x u → SlOk K α F y v → ∀ k : VK,
  (∀ z F' H' s, Move α F H F' H' → Sta K α M F' H' → SlOk K α F' s z → Q s → k z H') → r u v H k
def EvU (K : PySem.W.Frag) (r : V → Hp → VK → Prop) (M : List MO) (x : Sl) (Q : Sl → Prop) : Prop := ∀ (α : Al) (F H : Hp) (u : V), Sta K α M F H → SlOk K α F x u → ∀ k : VK,
  (∀ z F' H' s, Move α F H F' H' → Sta K α M F' H' → SlOk K α F' s z → Q s → k z H') → r u H k
def EvC (K : PySem.W.Frag) (r : List V → Hp → VK → Prop) (M : List MO) (xs : List Sl) (Q : Sl → Prop) : Prop := ∀ (α : Al) (F H : Hp) (us : List V), Sta K α M F H → SlsOk K α F xs us → ∀ k : VK,
  (∀ z F' H' s, Move α F H F' H' → Sta K α M F' H' → SlOk K α F' s z → Q s → k z H') → r us H k

variable {ρ : Rho} {M : List MO} {Q : Sl → Prop} {te ta tb : TE}
/-- a new object is laid -/
theorem Sta.laid {α : Al} {F H : Hp} (S : Sta K α M F H) {p : Addr} {o : HO} (hp : H p = none) : Move α F H (upd F p o) (upd H p o) ∧ Sta K α M (upd F p o) (upd H p o) := by
  have hF : F p = none := S.sub.free hp
  have s1 : Same F (upd F p o) := fun b u h => by rw [upd_ne (ne_of_none h hF)]; exact h
  have s2 : ∀ b u, H b = some u → upd H p o b = some u := fun b u h => by rw [upd_ne (ne_of_none h hp)]; exact h
  have t2 : ∀ b, H b ≠ none → upd H p o b ≠ none := fun b h => by
    have : b ≠ p := fun e => h (by rw [e]; exact hp)
    rw [upd_ne this]; exact h
  have f2 : ∀ q : Addr, F q = none → H q ≠ none → upd F p o q = none := fun q h1 h2 => by
    have : q ≠ p := fun e => h2 (by rw [e]; exact hp)
    rw [upd_ne this]; exact h1
  refine ⟨⟨s1, fun b u h _ => s2 b u h, t2, fun b h => ?_⟩, ⟨fun b u h => ?_, S.len, fun i m q h1 h2 => ?_, S.ap, fun q hq => ⟨t2 _ (S.tr q hq).1, t2 _ (S.tr q hq).2⟩⟩⟩
  · by_cases e : b = p
    · exact .inr (by rw [e]; exact hp)
    · rw [upd_ne e] at h; exact .inl h
  · by_cases e : b = p
    · subst e; rw [upd_same] at h ⊢; exact h
    · rw [upd_ne e] at h ⊢; exact S.sub b u h
  · have hq := S.tr q (List.mem_of_getElem? h2)
    have k := S.ob i m q h1 h2
    cases m with
    | lst ds => exact ⟨f2 _ k.1 hq.1, let ⟨vs, a, b⟩ := k.2; ⟨vs, s2 _ _ a, Dens.mono K s1 _ _ b⟩⟩
    | dic ks ds => exact ⟨f2 _ k.1 hq.1, let ⟨vs, a, c, b⟩ := k.2; ⟨vs, s2 _ _ a, c, Dens.mono K s1 _ _ b⟩⟩
    | ins C ns ds => exact ⟨f2 _ k.1 hq.1, let ⟨dx, vs, a, c, b⟩ := k.2; ⟨dx, vs, s2 _ _ a, c, Dens.mono K s1 _ _ b⟩⟩
    | rng => exact ⟨f2 _ k.1 hq.1, f2 _ k.2.1 hq.2, let ⟨s, i, c, h0, h1, h2, h3⟩ := k.2.2; ⟨s, i, c, h0, s2 _ _ h1, s2 _ _ h2, h3⟩⟩
    | dead => trivial

theorem EvP.mono {Q' : Sl → Prop} (h : EvP K te ρ M Q) (q : ∀ s, Q s → Q' s) : EvP K te ρ M Q' := fun σ α F H e S k kk => h σ α F H e S k fun v F' H' s a b c d => kk v F' H' s a b c (q s d)
theorem ev_var {i : Nat} {s : Sl} (h : ρ[i]? = some (some s)) (q : Q s) : EvP K (tVar i) ρ M Q := fun σ α F H e S k kk => by
  obtain ⟨v, h1, h2⟩ := e.at' i s h
  exact ⟨v, h1, kk v F H s .refl S h2 q⟩
theorem ev_c {v : V} (q : Q (.v (.raw v))) : EvP K (tC v) ρ M Q := fun σ α F H e S k kk => kk v F H _ .refl S raw_ok q
theorem ev_op {r : R2} (h : EvP K ta ρ M fun x => EvP K tb ρ M fun y => EvR K r M x y Q) : EvP K (tOp r ta tb) ρ M Q := fun σ α F H e S k kk =>
  h σ α F H e S _ fun u F1 H1 x m1 S1 o1 q1 => q1 σ α F1 H1 (e.mono m1.ex) S1 _ fun v F2 H2 y m2 S2 o2 q2 =>
    q2 α F2 H2 u v S2 (o1.mono m2.ex) o2 k fun z F3 H3 s m3 S3 o3 q3 => kk z F3 H3 s ((m1.trans m2).trans m3) S3 o3 q3
theorem ev_un {r : V → Hp → VK → Prop} (h : EvP K ta ρ M fun x => EvU K r M x Q) : EvP K (tUn r ta) ρ M Q := fun σ α F H e S k kk =>
  h σ α F H e S _ fun u F1 H1 x m1 S1 o1 q1 => q1 α F1 H1 u S1 o1 k fun z F3 H3 s m3 S3 o3 q3 => kk z F3 H3 s (m1.trans m3) S3 o3 q3
theorem ev_cb {r : List V → Hp → VK → Prop} {t : TA} (h : EvA K t ρ M fun xs => EvC K r M xs Q) : EvP K (tCB r t) ρ M Q := fun σ α F H e S k kk =>
  h σ α F H e S _ fun u F1 H1 x m1 S1 o1 q1 => q1 α F1 H1 u S1 o1 k fun z F3 H3 s m3 S3 o3 q3 => kk z F3 H3 s (m1.trans m3) S3 o3 q3
theorem ea_nil {Q : List Sl → Prop} (q : Q []) : EvA K tNil ρ M Q := fun σ α F H e S k kk => kk [] F H [] .refl S rfl q
theorem ea_cons {tr : TA} {Q : List Sl → Prop} (h : EvP K ta ρ M fun x => EvA K tr ρ M fun xs => Q (x :: xs)) : EvA K (tCons ta tr) ρ M Q := fun σ α F H e S k kk =>
  h σ α F H e S _ fun u F1 H1 x m1 S1 o1 q1 => q1 σ α F1 H1 (e.mono m1.ex) S1 _ fun vs F2 H2 xs m2 S2 o2 q2 =>
    kk (u :: vs) F2 H2 (x :: xs) (m1.trans m2) S2 ⟨u, vs, rfl, o1.mono m2.ex, o2⟩ q2
def AllD (ss : List Sl) (ds : List D) : Prop := ss = ds.map Sl.v
theorem ev_tup {t : TA} (h : EvA K t ρ M fun xs => ∃ ds : List D, xs = ds.map Sl.v ∧ ds.length ≤ 16777216 ∧ Q (.v (.tup ds))) : EvP K (tTup t) ρ M Q := fun σ α F H e S k kk =>
  h σ α F H e S _ fun vs F1 H1 ss m1 S1 o1 ⟨ds, e1, hl, q⟩ => by
    subst e1
    have hd := o1.dens
    refine ⟨by rw [← hd.length, sizeLine_eq]; exact hl, fun p hp => ?_⟩
    obtain ⟨m2, S2⟩ := S1.laid (o := .tup vs) hp
    exact kk _ _ _ _ (m1.trans m2) S2 (den_ok (d := .tup ds) ⟨p, vs, rfl, .inl (.inl upd_same), Dens.mono K m2.ex _ _ hd⟩) q
theorem ev_lst {t : TA} (h : EvA K t ρ M fun xs => ∃ ds : List D, xs = ds.map Sl.v ∧ ds.length ≤ 16777216 ∧ Q (.v (.lst ds))) : EvP K (tLst t) ρ M Q := fun σ α F H e S k kk =>
  h σ α F H e S _ fun vs F1 H1 ss m1 S1 o1 ⟨ds, e1, hl, q⟩ => by
    subst e1
    have hd := o1.dens
    refine ⟨by rw [← hd.length, sizeLine_eq]; exact hl, fun p hp => ?_⟩
    obtain ⟨m2, S2⟩ := S1.laid (o := .lst vs) hp
    exact kk _ _ _ _ (m1.trans m2) S2 (den_ok (d := .lst ds) ⟨p, vs, rfl, upd_same, Dens.mono K m2.ex _ _ hd⟩) q
theorem ev_if {t : TT} (h : EvT K t ρ M fun b => if b = true then EvP K ta ρ M Q else EvP K tb ρ M Q) : EvP K (tIf t ta tb) ρ M Q := fun σ α F H e S k kk =>
  h σ α F H e S _ fun b F1 H1 m1 S1 q1 => by
    cases b with
    | true => exact (show EvP K ta ρ M Q from q1) σ α F1 H1 (e.mono m1.ex) S1 k fun v F2 H2 s m2 S2 o2 q2 => kk v F2 H2 s (m1.trans m2) S2 o2 q2
    | false => exact (show EvP K tb ρ M Q from q1) σ α F1 H1 (e.mono m1.ex) S1 k fun v F2 H2 s m2 S2 o2 q2 => kk v F2 H2 s (m1.trans m2) S2 o2 q2
/-! tests -/
variable {R : Bool → Prop} {t u : TT}
theorem et_B (h : EvP K te ρ M fun s => ∃ b, s = .v (.bl b) ∧ R b) : EvT K (tB te) ρ M R := fun σ α F H e S k kk =>
  h σ α F H e S _ fun v F1 H1 s m1 S1 o1 ⟨b, e1, q⟩ => by
    subst e1
    have o1 : v = .bl b := o1
    subst o1
    exact ⟨b, rfl, kk b F1 H1 m1 S1 q⟩
theorem et_test (h : EvP K te ρ M fun s => ∃ b, s = .v (.bl b) ∧ R b) : EvT K (tTest te) ρ M R := et_B h
theorem et_and (h : EvT K t ρ M fun b => if b = true then EvT K u ρ M R else R false) : EvT K (tAnd t u) ρ M R := fun σ α F H e S k kk =>
  h σ α F H e S _ fun b F1 H1 m1 S1 q1 => by
    cases b with
    | true => exact (show EvT K u ρ M R from q1) σ α F1 H1 (e.mono m1.ex) S1 k fun c F2 H2 m2 S2 q2 => kk c F2 H2 (m1.trans m2) S2 q2
    | false => exact kk false F1 H1 m1 S1 q1
theorem et_or (h : EvT K t ρ M fun b => if b = true then R true else EvT K u ρ M R) : EvT K (tOr t u) ρ M R := fun σ α F H e S k kk =>
  h σ α F H e S _ fun b F1 H1 m1 S1 q1 => by
    cases b with
    | true => exact kk true F1 H1 m1 S1 q1
    | false => exact (show EvT K u ρ M R from q1) σ α F1 H1 (e.mono m1.ex) S1 k fun c F2 H2 m2 S2 q2 => kk c F2 H2 (m1.trans m2) S2 q2
theorem et_not (h : EvT K t ρ M fun b => R (!b)) : EvT K (tNot t) ρ M R := fun σ α F H e S k kk =>
  h σ α F H e S _ fun b F1 H1 m1 S1 q1 => kk (!b) F1 H1 m1 S1 q1
theorem ev_andV (h : EvP K ta ρ M fun s => ∃ b, s = .v (.bl b) ∧ if b = true then EvP K tb ρ M Q else Q (.v (.bl false))) : EvP K (tAndV ta tb) ρ M Q := fun σ α F H e S k kk =>
  h σ α F H e S _ fun v F1 H1 s m1 S1 o1 ⟨b, e1, q1⟩ => by
    subst e1
    have o1 : v = .bl b := o1
    subst o1
    refine ⟨b, rfl, ?_⟩
    cases b with
    | true => exact (show EvP K tb ρ M Q from q1) σ α F1 H1 (e.mono m1.ex) S1 k fun v F2 H2 s m2 S2 o2 q2 => kk v F2 H2 s (m1.trans m2) S2 o2 q2
    | false => exact kk _ F1 H1 _ m1 S1 raw_ok q1
theorem ev_orV (h : EvP K ta ρ M fun s => ∃ b, s = .v (.bl b) ∧ if b = true then Q (.v (.bl true)) else EvP K tb ρ M Q) : EvP K (tOrV ta tb) ρ M Q := fun σ α F H e S k kk =>
  h σ α F H e S _ fun v F1 H1 s m1 S1 o1 ⟨b, e1, q1⟩ => by
    subst e1
    have o1 : v = .bl b := o1
    subst o1
    refine ⟨b, rfl, ?_⟩
    cases b with
    | true => exact kk _ F1 H1 _ m1 S1 raw_ok q1
    | false => exact (show EvP K tb ρ M Q from q1) σ α F1 H1 (e.mono m1.ex) S1 k fun v F2 H2 s m2 S2 o2 q2 => kk v F2 H2 s (m1.trans m2) S2 o2 q2
theorem ev_notV (h : EvP K ta ρ M fun s => ∃ b, s = .v (.bl b) ∧ Q (.v (.bl (!b)))) : EvP K (tNotV ta) ρ M Q := fun σ α F H e S k kk =>
  h σ α F H e S _ fun v F1 H1 s m1 S1 o1 ⟨b, e1, q1⟩ => by
    subst e1
    have o1 : v = .bl b := o1
    subst o1
    exact ⟨b, rfl, kk _ F1 H1 _ m1 S1 raw_ok q1⟩
theorem eo_none {R : Option Int → Prop} (q : R none) : EvO K tNoPart ρ M R := fun σ α F H e S k kk => kk none F H .refl S q
theorem eo_some {R : Option Int → Prop} (h : EvP K te ρ M fun s => ∃ i, s = .v (.int i) ∧ R (some i)) : EvO K (tPart te) ρ M R := fun σ α F H e S k kk =>
  h σ α F H e S _ fun v F1 H1 s m1 S1 o1 ⟨i, e1, q1⟩ => by
    subst e1
    have o1 : v = .int i := o1
    subst o1
    exact ⟨i, rfl, kk _ F1 H1 m1 S1 q1⟩

/-! ### operations -/
theorem er_I0 {g : Int → Int → V} {i j : Int} (q : Q (.v (.raw (g i j)))) : EvR K (rI0 g) M (.v (.int i)) (.v (.int j)) Q := fun α F H u v S o1 o2 k kk => by
  have o1 : u = .int i := o1
  have o2 : v = .int j := o2
  subst o1; subst o2
  exact ⟨i, j, rfl, rfl, kk _ F H _ .refl S raw_ok q⟩
theorem er_I {C : Int → Int → Prop} {g : Int → Int → V} {i j : Int} (hc : C i j) (q : Q (.v (.raw (g i j)))) : EvR K (rI C g) M (.v (.int i)) (.v (.int j)) Q := fun α F H u v S o1 o2 k kk => by
  have o1 : u = .int i := o1
  have o2 : v = .int j := o2
  subst o1; subst o2
  exact ⟨i, j, rfl, rfl, hc, kk _ F H _ .refl S raw_ok q⟩
theorem eu_I {g : Int → V} {i : Int} (q : Q (.v (.raw (g i)))) : EvU K (rU g) M (.v (.int i)) Q := fun α F H u S o1 k kk => by
  have o1 : u = .int i := o1
  subst o1
  exact ⟨i, rfl, kk _ F H _ .refl S raw_ok q⟩
theorem er_eq {x y : V} (h : scal x y = true) (q : Q (.v (.bl (decide (x = y))))) : EvR K rEq M (.v (.raw x)) (.v (.raw y)) Q := fun α F H u v S o1 o2 k kk => by
  have o1 : u = x := o1
  have o2 : v = y := o2
  subst o1; subst o2
  exact ⟨h, kk _ F H _ .refl S raw_ok q⟩
theorem er_ne {x y : V} (h : scal x y = true) (q : Q (.v (.bl (!decide (x = y))))) : EvR K rNe M (.v (.raw x)) (.v (.raw y)) Q := fun α F H u v S o1 o2 k kk => by
  have o1 : u = x := o1
  have o2 : v = y := o2
  subst o1; subst o2
  exact ⟨h, kk _ F H _ .refl S raw_ok q⟩
end
end DL

/-! DL2: statements, loops, calls, sequences over plain data. -/
namespace DL
open PySem L2

/-- the entry of a def -/
structure Ent where
  α : Al
  F : Hp
  H : Hp
structure StepE (e : Ent) (α : Al) (F H : Hp) : Prop where
  ex : Same e.F F
  fr : ∀ b o, e.H b = some o → (∀ p, p ∈ e.α → b ≠ p.1 ∧ b ≠ p.2) → H b = some o
  tr : ∀ b, e.H b ≠ none → H b ≠ none
  new : ∀ b, F b ≠ none → e.F b ≠ none ∨ e.H b = none
  pre : ∃ β, α = e.α ++ β ∧ ∀ p, p ∈ β → e.H p.1 = none ∧ e.H p.2 = none
section
variable {K : PySem.W.Frag}
theorem StepE.refl {e : Ent} : StepE e e.α e.F e.H := ⟨fun _ _ h => h, fun _ _ h _ => h, fun _ h => h, fun _ h => .inl h, ⟨[], by simp, fun _ h => by simp at h⟩⟩
theorem none_back {H H' : Hp} {b : Addr} (t : H b ≠ none → H' b ≠ none) (h : H' b = none) : H b = none := by
  cases e : H b with
  | none => rfl
  | some o => exact absurd h (t (by rw [e]; simp))
theorem StepE.move {e : Ent} {α : Al} {F H F' H' : Hp} (s : StepE e α F H) (m : Move α F H F' H') : StepE e α F' H' where
  ex := s.ex.trans m.ex
  fr := fun b o h k => m.fr b o (s.fr b o h k) fun p hp => by
    obtain ⟨β, e1, hβ⟩ := s.pre
    rw [e1] at hp
    rcases List.mem_append.mp hp with q | q
    · exact k p q
    · have := hβ p q
      exact ⟨fun z => by { rw [z, this.1] at h; cases h }, fun z => by { rw [z, this.2] at h; cases h }⟩
  tr := fun b h => m.tr b (s.tr b h)
  new := fun b h => by
    rcases m.new b h with q | q
    · exact s.new b q
    · exact .inr (none_back (s.tr b) q)
  pre := s.pre
structure Good (K : PySem.W.Frag) (e : Ent) (α : Al) (F H : Hp) (σ : L2.St) (ρ : Rho) (M : List MO) : Prop where
  env : EnvOk K α F σ ρ
  sta : Sta K α M F H
  st : StepE e α F H
structure EndsD where
  nx : Rho → List MO → Prop
  rt : Sl → List MO → Prop
  bk : Rho → List MO → Prop := fun _ _ => False
  ct : Rho → List MO → Prop := fun _ _ => False
structure EndsOk (K : PySem.W.Frag) (e : Ent) (B : Hp) (E : EndsD) (X : Ends) : Prop where
  nx : ∀ σ α F H ρ M, Good K e α F H σ ρ M → Same B F → E.nx ρ M → X.nx σ H
  rt : ∀ v s α F H M, SlOk K α F s v → Sta K α M F H → StepE e α F H → Same B F → E.rt s M → X.rt v H
  bk : ∀ σ α F H ρ M, Good K e α F H σ ρ M → Same B F → E.bk ρ M → X.bk σ H
  ct : ∀ σ α F H ρ M, Good K e α F H σ ρ M → Same B F → E.ct ρ M → X.ct σ H
theorem EndsOk.at {K : PySem.W.Frag} {e : Ent} {B B' : Hp} {E : EndsD} {X : Ends} (ok : EndsOk K e B E X) (s : Same B B') : EndsOk K e B' E X :=
  ⟨fun σ α F H ρ M g z => ok.nx σ α F H ρ M g (s.trans z), fun v t α F H M a b c z => ok.rt v t α F H M a b c (s.trans z), fun σ α F H ρ M g z => ok.bk σ α F H ρ M g (s.trans z), fun σ α F H ρ M g z => ok.ct σ α F H ρ M g (s.trans z)⟩
/-- a statement run from ρ, M comes to E -/
def RunD (K : PySem.W.Frag) (e : Ent) (ts : TS) (ρ : Rho) (M : List MO) (nx : Rho → List MO → Prop) (rt : Sl → List MO → Prop) (bk ct : Rho → List MO → Prop) : Prop := ∀ X σ α F H, Good K e α F H σ ρ M → EndsOk K e F ⟨nx, rt, bk, ct⟩ X → ts X σ H

variable {e : Ent} {ρ : Rho} {M : List MO} {nx bk ct : Rho → List MO → Prop} {rt : Sl → List MO → Prop} {te : TE} {t u : TS}
theorem Good.move {α : Al} {F H F' H' : Hp} {σ : L2.St} (g : Good K e α F H σ ρ M) (m : Move α F H F' H') (S : Sta K α M F' H') : Good K e α F' H' σ ρ M :=
  ⟨g.env.mono m.ex, S, g.st.move m⟩
theorem r_next (q : nx ρ M) : RunD K e tNext ρ M nx rt bk ct := fun X σ α F H g ok => ok.nx σ α F H ρ M g (.refl F) q
theorem r_break (q : bk ρ M) : RunD K e tBreak ρ M nx rt bk ct := fun X σ α F H g ok => ok.bk σ α F H ρ M g (.refl F) q
theorem r_cont (q : ct ρ M) : RunD K e tCont ρ M nx rt bk ct := fun X σ α F H g ok => ok.ct σ α F H ρ M g (.refl F) q
theorem r_seq (h : RunD K e t ρ M (fun ρ' M' => RunD K e u ρ' M' nx rt bk ct) rt bk ct) : RunD K e (tSeq t u) ρ M nx rt bk ct := fun X σ α F H g ok =>
  h { X with nx := u X } σ α F H g ⟨fun σ' α' F' H' ρ' M' g' z' q' => q' X σ' α' F' H' g' (ok.at z'), ok.rt, ok.bk, ok.ct⟩
theorem loc_ok {α : Al} {F : Hp} {k : Nat} {p : Addr × Addr} (h : α[k]? = some p) : SlOk K α F (.l k) (.ref p.1) := ⟨p, h, rfl⟩
theorem r_asg {i : Nat} (h : EvP K te ρ M fun s => nx (ρ.set i (some s)) M) : RunD K e (tAsg te (gName i)) ρ M nx rt bk ct := fun X σ α F H g ok =>
  h σ α F H g.env g.sta _ fun v F1 H1 s m1 S1 o1 q1 => ok.nx _ α F1 H1 _ M ⟨(g.env.mono m1.ex).set i o1, S1, g.st.move m1⟩ m1.ex q1
theorem r_drop (h : EvP K te ρ M fun _ => nx ρ M) : RunD K e (tDrop te) ρ M nx rt bk ct := fun X σ α F H g ok =>
  h σ α F H g.env g.sta _ fun v F1 H1 s m1 S1 o1 q1 => ok.nx _ α F1 H1 _ M (g.move m1 S1) m1.ex q1
theorem r_ret (h : EvP K te ρ M fun s => rt s M) : RunD K e (tRet te) ρ M nx rt bk ct := fun X σ α F H g ok =>
  h σ α F H g.env g.sta _ fun v F1 H1 s m1 S1 o1 q1 => ok.rt v s α F1 H1 M o1 S1 (g.st.move m1) m1.ex q1
theorem r_retN (h : rt (.v .non) M) : RunD K e tRetN ρ M nx rt bk ct := fun X σ α F H g ok => ok.rt _ _ α F H M raw_ok g.sta g.st (.refl F) h
theorem r_if {c : TT} (h : EvT K c ρ M fun b => if b = true then RunD K e t ρ M nx rt bk ct else RunD K e u ρ M nx rt bk ct) : RunD K e (tIfS c t u) ρ M nx rt bk ct := fun X σ α F H g ok =>
  h σ α F H g.env g.sta _ fun b F1 H1 m1 S1 q1 => by
    cases b with
    | true => exact (show RunD K e t ρ M nx rt bk ct from q1) X σ α F1 H1 (g.move m1 S1) (ok.at m1.ex)
    | false => exact (show RunD K e u ρ M nx rt bk ct from q1) X σ α F1 H1 (g.move m1 S1) (ok.at m1.ex)
theorem r_aug {i : Nat} {f : Int → Int → Int} {x : Int} (hx : ρ[i]? = some (some (.v (.int x)))) (h : EvP K te ρ M fun s => ∃ y, s = .v (.int y) ∧ nx (ρ.set i (some (.v (.int (f x y))))) M) : RunD K e (tAug i te (ipI f)) ρ M nx rt bk ct := fun X σ α F H g ok => by
  obtain ⟨v, h1, h2⟩ := g.env.at' i _ hx
  have h2 : v = .int x := h2
  subst h2
  refine ⟨_, h1, h σ α F H g.env g.sta _ fun v F1 H1 s m1 S1 o1 ⟨y, e1, q1⟩ => ?_⟩
  subst e1
  have o1 : v = .int y := o1
  subst o1
  exact ⟨x, y, rfl, rfl, ok.nx _ α F1 H1 _ M ⟨(g.env.mono m1.ex).set i raw_ok, S1, g.st.move m1⟩ m1.ex q1⟩
theorem r_par {i j : Nat} {ta : TA} (h : EvA K ta ρ M fun ss => ∃ a b, ss = [a, b] ∧ nx ((ρ.set i (some a)).set j (some b)) M) : RunD K e (tPar i j ta) ρ M nx rt bk ct := fun X σ α F H g ok =>
  h σ α F H g.env g.sta _ fun vs F1 H1 ss m1 S1 o1 ⟨a, b, e1, q1⟩ => by
    subst e1
    obtain ⟨v, r, rfl, hv, r2⟩ := o1
    obtain ⟨w, r', rfl, hw, r3⟩ := r2
    have r3 : r' = [] := r3
    subst r3
    exact ⟨v, w, rfl, ok.nx _ α F1 H1 _ M ⟨((g.env.mono m1.ex).set i hv).set j hw, S1, g.st.move m1⟩ m1.ex q1⟩
theorem RunD.mono {nx' bk' ct' : Rho → List MO → Prop} {rt' : Sl → List MO → Prop} (h : RunD K e t ρ M nx rt bk ct) (h1 : ∀ ρ M, nx ρ M → nx' ρ M) (h2 : ∀ s M, rt s M → rt' s M) (h3 : ∀ ρ M, bk ρ M → bk' ρ M) (h4 : ∀ ρ M, ct ρ M → ct' ρ M) : RunD K e t ρ M nx' rt' bk' ct' := fun X σ α F H g ok =>
  h X σ α F H g ⟨fun σ α F H ρ M g z q => ok.nx σ α F H ρ M g z (h1 ρ M q), fun v s α F H M a b c z q => ok.rt v s α F H M a b c z (h2 s M q), fun σ α F H ρ M g z q => ok.bk σ α F H ρ M g z (h3 ρ M q), fun σ α F H ρ M g z q => ok.ct σ α F H ρ M g z (h4 ρ M q)⟩

/-! ### changing things -/
theorem nth_ne {α : Al} {F H : Hp} {M : List MO} (S : Sta K α M F H) {i j : Nat} {p q : Addr × Addr} (hi : α[i]? = some p) (hj : α[j]? = some q) (h : i ≠ j) : Apart p q := by
  rcases Nat.lt_or_gt_of_ne h with l | l
  · exact S.ap i j p q l hi hj
  · obtain ⟨a, b, c, d⟩ := S.ap j i q p l hj hi
    exact ⟨a.symm, c.symm, b.symm, d.symm⟩
/-- the k-th thing is another now -/
theorem Sta.write {α : Al} {F H : Hp} {M : List MO} (S : Sta K α M F H) {k : Nat} {p : Addr × Addr} {m' : MO} {o : HO} (hp : α[k]? = some p) (hF : F p.1 = none) (hm : MObj K F (upd H p.1 o) m' p) : Move α F H F (upd H p.1 o) ∧ Sta K α (M.set k m') F (upd H p.1 o) := by
  have hpm : p ∈ α := List.mem_of_getElem? hp
  have t2 : ∀ b, H b ≠ none → upd H p.1 o b ≠ none := fun b h => by
    by_cases e : b = p.1
    · subst e; rw [upd_same]; simp
    · rw [upd_ne e]; exact h
  refine ⟨⟨fun _ _ h => h, fun b u h k => by rw [upd_ne (k p hpm).1]; exact h, t2, fun b h => .inl h⟩, ⟨fun b u h => ?_, by simp [S.len], fun i m q h1 h2 => ?_, S.ap, fun q hq => ⟨t2 _ (S.tr q hq).1, t2 _ (S.tr q hq).2⟩⟩⟩
  · rw [upd_ne (fun z => by rw [z, hF] at h; cases h)]; exact S.sub b u h
  · by_cases hik : k = i
    · subst hik
      have hl : k < M.length := by rw [S.len]; exact (List.getElem?_eq_some_iff.mp h2).1
      rw [List.getElem?_set_self hl] at h1
      cases h1
      rw [hp] at h2; cases h2
      exact hm
    · rw [List.getElem?_set_ne hik] at h1
      have ap := nth_ne S h2 hp (Ne.symm hik)
      have kk := S.ob i m q h1 h2
      have s1 : upd H p.1 o q.1 = H q.1 := upd_ne ap.1
      have s2 : upd H p.1 o q.2 = H q.2 := upd_ne ap.2.2.1
      cases m with
      | lst ds => exact ⟨kk.1, by rw [s1]; exact kk.2⟩
      | dic ks ds => exact ⟨kk.1, by rw [s1]; exact kk.2⟩
      | ins C ns ds => exact ⟨kk.1, by rw [s1]; exact kk.2⟩
      | rng => exact ⟨kk.1, kk.2.1, by unfold Rng; rw [s1, s2]; exact kk.2.2⟩
      | dead => trivial
/-- a new thing -/
theorem Sta.more {α : Al} {F H : Hp} {M : List MO} (S : Sta K α M F H) {p : Addr} {m' : MO} {o : HO} (hp : H p = none) (hm : MObj K F (upd H p o) m' (p, p)) : Sta K (α ++ [(p, p)]) (M ++ [m']) F (upd H p o) := by
  have hF : F p = none := S.sub.free hp
  have s2 : ∀ b u, H b = some u → upd H p o b = some u := fun b u h => by rw [upd_ne (ne_of_none h hp)]; exact h
  have t2 : ∀ b, H b ≠ none → upd H p o b ≠ none := fun b h => by
    have : b ≠ p := fun e => h (by rw [e]; exact hp)
    rw [upd_ne this]; exact h
  refine ⟨fun b u h => s2 b u (S.sub b u h), by simp [S.len], fun i m q h1 h2 => ?_, fun i j q r hij h1 h2 => ?_, fun q hq => ?_⟩
  · by_cases hi : i < α.length
    · rw [List.getElem?_append_left (by rw [S.len]; exact hi)] at h1
      rw [List.getElem?_append_left hi] at h2
      have kk := S.ob i m q h1 h2
      cases m with
      | lst ds => exact ⟨kk.1, let ⟨vs, a, b⟩ := kk.2; ⟨vs, s2 _ _ a, b⟩⟩
      | dic ks ds => exact ⟨kk.1, let ⟨vs, a, b⟩ := kk.2; ⟨vs, s2 _ _ a, b⟩⟩
      | ins C ns ds => exact ⟨kk.1, let ⟨dx, vs, a, b⟩ := kk.2; ⟨dx, vs, s2 _ _ a, b⟩⟩
      | rng => exact ⟨kk.1, kk.2.1, let ⟨s, i, c, h0, h1, h2, h3⟩ := kk.2.2; ⟨s, i, c, h0, s2 _ _ h1, s2 _ _ h2, h3⟩⟩
      | dead => trivial
    · have hi2 : i = α.length := by
        have := (List.getElem?_eq_some_iff.mp h2).1
        simp at this; omega
      subst hi2
      rw [← S.len, List.getElem?_append_right (Nat.le_refl _)] at h1
      rw [List.getElem?_append_right (Nat.le_refl _)] at h2
      simp at h1 h2
      subst h1; subst h2
      exact hm
  · have hj : j < α.length ∨ j = α.length := by
      have := (List.getElem?_eq_some_iff.mp h2).1
      simp at this; omega
    have hi : i < α.length := by omega
    rw [List.getElem?_append_left hi] at h1
    rcases hj with hj | hj
    · rw [List.getElem?_append_left hj] at h2
      exact S.ap i j q r hij h1 h2
    · subst hj
      rw [List.getElem?_append_right (Nat.le_refl _)] at h2
      simp at h2
      subst h2
      have hq := S.tr q (List.mem_of_getElem? h1)
      have n1 : q.1 ≠ p := fun z => hq.1 (by rw [z]; exact hp)
      have n2 : q.2 ≠ p := fun z => hq.2 (by rw [z]; exact hp)
      exact ⟨n1, n1, n2, n2⟩
  · rcases List.mem_append.mp hq with z | z
    · exact ⟨t2 _ (S.tr q z).1, t2 _ (S.tr q z).2⟩
    · simp at z; subst z
      show upd H p o p ≠ none ∧ upd H p o p ≠ none
      rw [upd_same]; simp
theorem SlOk.more {α β : Al} {F : Hp} : ∀ {s : Sl} {x : V}, SlOk K α F s x → SlOk K (α ++ β) F s x
  | .v d, x, h => h
  | .l k, x, ⟨p, h1, h2⟩ => ⟨p, by rw [List.getElem?_append_left (List.getElem?_eq_some_iff.mp h1).1]; exact h1, h2⟩
theorem EnvOk.more {α β : Al} {F : Hp} {σ : L2.St} (h : EnvOk K α F σ ρ) : EnvOk K (α ++ β) F σ ρ := ⟨h.len, fun i s q => let ⟨v, a, b⟩ := h.at' i s q; ⟨v, a, b.more⟩⟩
theorem StepE.more {α : Al} {F H : Hp} (s : StepE e α F H) {p : Addr} {o : HO} (hp : H p = none) : StepE e (α ++ [(p, p)]) F (upd H p o) where
  ex := s.ex
  fr := fun b u h k => by
    have := s.fr b u h k
    rw [upd_ne (ne_of_none this hp)]; exact this
  tr := fun b h => by
    have := s.tr b h
    have n : b ≠ p := fun z => this (by rw [z]; exact hp)
    rw [upd_ne n]; exact this
  new := s.new
  pre := by
    obtain ⟨β, e1, hβ⟩ := s.pre
    refine ⟨β ++ [(p, p)], by rw [e1, List.append_assoc], fun q hq => ?_⟩
    rcases List.mem_append.mp hq with z | z
    · exact hβ q z
    · simp at z; subst z
      exact ⟨none_back (s.tr p) hp, none_back (s.tr p) hp⟩
theorem sta_len {α : Al} {F H : Hp} (S : Sta K α M F H) {p : Addr} : (α ++ [(p, p)])[M.length]? = some (p, p) := by
  rw [S.len, List.getElem?_append_right (Nat.le_refl _)]; simp
/-- name = [..], a list that is to change -/
theorem r_newL {i : Nat} {ta : TA} (h : EvA K ta ρ M fun ss => ∃ ds : List D, ss = ds.map Sl.v ∧ ds.length ≤ 16777216 ∧ nx (ρ.set i (some (.l M.length))) (M ++ [.lst ds])) : RunD K e (tAsg (tLst ta) (gName i)) ρ M nx rt bk ct := fun X σ α F H g ok =>
  h σ α F H g.env g.sta _ fun vs F1 H1 ss m1 S1 o1 ⟨ds, e1, hl, q1⟩ => by
    subst e1
    have hd := o1.dens
    refine ⟨by rw [← hd.length, sizeLine_eq]; exact hl, fun p hp => ?_⟩
    have S2 := S1.more (m' := .lst ds) (o := .lst vs) hp ⟨S1.sub.free hp, vs, upd_same, hd⟩
    exact ok.nx _ _ F1 _ _ _ ⟨((g.env.mono m1.ex).more).set i (loc_ok (p := (p, p)) (sta_len S1)), S2, (g.st.move m1).more hp⟩ m1.ex q1
theorem r_newD {i : Nat} (q : nx (ρ.set i (some (.l M.length))) (M ++ [.dic [] []])) : RunD K e (tAsg tDNewK (gName i)) ρ M nx rt bk ct := fun X σ α F H g ok p hp => by
  have S2 := g.sta.more (m' := .dic [] []) (o := .dK []) hp ⟨g.sta.sub.free hp, [], upd_same, rfl, rfl⟩
  exact ok.nx _ _ F _ _ _ ⟨g.env.more.set i (loc_ok (p := (p, p)) (sta_len g.sta)), S2, g.st.more hp⟩ (.refl F) q
/-- a list that is made by any expression, held as one that is to change: nobody else knows it -/
theorem sta_get {α : Al} {F H : Hp} (S : Sta K α M F H) {k : Nat} {m : MO} (h : M[k]? = some m) : ∃ p, α[k]? = some p := by
  have : k < α.length := by rw [← S.len]; exact (List.getElem?_eq_some_iff.mp h).1
  exact ⟨α[k], List.getElem?_eq_getElem this⟩
/-- xs.append(e) -/
theorem r_app {i k : Nat} {ds : List D} (hi : ρ[i]? = some (some (.l k))) (hk : M[k]? = some (.lst ds)) (h : EvP K te ρ M fun s => ∃ d, s = .v d ∧ ds.length < 16777216 ∧ nx ρ (M.set k (.lst (ds ++ [d])))) :
    RunD K e (tDrop (tBM K "list" rAppend (tVar i) (tCons te tNil))) ρ M nx rt bk ct := fun X σ α F H g ok => by
  obtain ⟨v, h1, p, hp, rfl⟩ := g.env.at' i _ hi
  obtain ⟨hF, vs, hvs, _⟩ := g.sta.ob k _ p hk hp
  refine ⟨_, h1, .inl ⟨rfl, vs, SqL.of hvs⟩, h σ α F H g.env g.sta _ fun v F1 H1 s m1 S1 o1 ⟨d, e1, hl, q1⟩ => ?_⟩
  subst e1
  obtain ⟨hF1, vs1, hvs1, hd1⟩ := S1.ob k _ p hk hp
  refine ⟨p.1, vs1, v, rfl, rfl, hvs1, by rw [← hd1.length, sizeLine_eq]; exact hl, ?_⟩
  obtain ⟨m2, S2⟩ := S1.write (m' := .lst (ds ++ [d])) (o := .lst (vs1 ++ [v])) hp hF1 ⟨hF1, _, upd_same, hd1.append (Dens.cons o1 Dens.nil)⟩
  exact ok.nx _ _ F1 _ _ _ ⟨(g.env.mono m1.ex), S2, (g.st.move m1).move m2⟩ m1.ex q1
theorem ixN_nat {n j : Nat} (hj : j < n) : ixN n (j : Int) = some j := by
  unfold ixN
  rw [if_pos (by omega), if_pos (by omega)]
  simp
/-- xs[i] = e -/
theorem r_setL {i k : Nat} {ds : List D} {ti : TE} (hi : ρ[i]? = some (some (.l k))) (hk : M[k]? = some (.lst ds)) (h : EvP K te ρ M fun s => EvP K ti ρ M fun s' => ∃ d j n, s = .v d ∧ s' = .v (.int j) ∧ ixN ds.length j = some n ∧ nx ρ (M.set k (.lst (ds.set n d)))) :
    RunD K e (tAsg te (gSub (tVar i) ti rSetL)) ρ M nx rt bk ct := fun X σ α F H g ok =>
  h σ α F H g.env g.sta _ fun v F1 H1 s m1 S1 o1 q1 => by
    obtain ⟨u, h1, p, hp, rfl⟩ := g.env.at' i _ hi
    refine ⟨_, h1, q1 σ α F1 H1 (g.env.mono m1.ex) S1 _ fun w F2 H2 s' m2 S2 o2 ⟨d, j, n, e1, e2, hn, q2⟩ => ?_⟩
    subst e1; subst e2
    have o2 : w = .int j := o2
    subst o2
    obtain ⟨hF1, vs1, hvs1, hd1⟩ := S2.ob k _ p hk hp
    refine ⟨p.1, vs1, j, n, rfl, rfl, hvs1, by rw [← hd1.length]; exact hn, ?_⟩
    obtain ⟨m3, S3⟩ := S2.write (m' := .lst (ds.set n d)) (o := .lst (vs1.set n v)) hp hF1 ⟨hF1, _, upd_same, hd1.set (Den.mono K m2.ex _ _ o1) n⟩
    exact ok.nx _ _ F2 _ _ _ ⟨(g.env.mono (m1.trans m2).ex), S3, (g.st.move (m1.trans m2)).move m3⟩ (m1.trans m2).ex q2
/-- a list of one's own that changes no more -/
theorem Good.freeze {α : Al} {F H : Hp} {σ : L2.St} (g : Good K e α F H σ ρ M) {i k : Nat} {ds : List D} (hi : ρ[i]? = some (some (.l k))) (hk : M[k]? = some (.lst ds)) (he : e.α.length ≤ k) :
    ∃ F', Same F F' ∧ Good K e α F' H σ (ρ.set i (some (.v (.lst ds)))) (M.set k .dead) := by
  obtain ⟨v, h1, p, hp, rfl⟩ := g.env.at' i _ hi
  obtain ⟨hF, vs, hvs, hd⟩ := g.sta.ob k _ p hk hp
  have s1 : Same F (upd F p.1 (.lst vs)) := fun b u h => by rw [upd_ne (ne_of_none h hF)]; exact h
  have hl : k < M.length := (List.getElem?_eq_some_iff.mp hk).1
  refine ⟨upd F p.1 (.lst vs), s1, ⟨?_, ⟨fun b u h => ?_, by simp [g.sta.len], fun j m q h1 h2 => ?_, g.sta.ap, g.sta.tr⟩, ⟨g.st.ex.trans s1, g.st.fr, g.st.tr, fun b h => ?_, g.st.pre⟩⟩⟩
  · have hv := (g.env.mono s1).set i (s := .v (.lst ds)) (v := .ref p.1) (show Den K _ (.lst ds) _ from ⟨p.1, vs, rfl, upd_same, Dens.mono K s1 _ _ hd⟩)
    have hl2 : i < σ.length := (List.getElem?_eq_some_iff.mp h1).1
    have e3 : σ.set i (some (.ref p.1)) = σ := by
      apply List.ext_getElem?
      intro j
      by_cases e : i = j
      · subst e; rw [List.getElem?_set_self hl2, h1]
      · rw [List.getElem?_set_ne e]
    rw [e3] at hv
    exact hv
  · by_cases e : b = p.1
    · subst e; rw [upd_same] at h; cases h; exact hvs
    · rw [upd_ne e] at h; exact g.sta.sub b u h
  · by_cases hjk : k = j
    · subst hjk
      rw [List.getElem?_set_self hl] at h1
      cases h1; trivial
    · rw [List.getElem?_set_ne hjk] at h1
      have ap := nth_ne g.sta h2 hp (Ne.symm hjk)
      have kk := g.sta.ob j m q h1 h2
      have z1 : ∀ b, b ≠ p.1 → F b = none → upd F p.1 (.lst vs) b = none := fun b n z => by rw [upd_ne n]; exact z
      cases m with
      | lst ds => exact ⟨z1 _ ap.1 kk.1, let ⟨vs, a, b⟩ := kk.2; ⟨vs, a, Dens.mono K s1 _ _ b⟩⟩
      | dic ks ds => exact ⟨z1 _ ap.1 kk.1, let ⟨vs, a, c, b⟩ := kk.2; ⟨vs, a, c, Dens.mono K s1 _ _ b⟩⟩
      | ins C ns ds => exact ⟨z1 _ ap.1 kk.1, let ⟨dx, vs, a, c, b⟩ := kk.2; ⟨dx, vs, a, c, Dens.mono K s1 _ _ b⟩⟩
      | rng => exact ⟨z1 _ ap.1 kk.1, z1 _ ap.2.2.1 kk.2.1, kk.2.2⟩
      | dead => trivial
  · by_cases eb : b = p.1
    · subst eb
      refine .inr ?_
      obtain ⟨β, e1, hβ⟩ := g.st.pre
      have : p ∈ β := by
        rw [e1, List.getElem?_append_right he] at hp
        exact List.mem_of_getElem? hp
      exact (hβ p this).1
    · rw [upd_ne eb] at h; exact g.st.new b h
theorem r_freeze (i k : Nat) {ds : List D} (hi : ρ[i]? = some (some (.l k))) (hk : M[k]? = some (.lst ds)) (he : e.α.length ≤ k) (h : RunD K e t (ρ.set i (some (.v (.lst ds)))) (M.set k .dead) nx rt bk ct) : RunD K e t ρ M nx rt bk ct := fun X σ α F H g ok => by
  obtain ⟨F', z, g'⟩ := g.freeze hi hk he
  exact h X σ α F' H g' (ok.at z)
/-- the last things are forgotten -/
theorem Good.forget {α : Al} {F H : Hp} {σ : L2.St} (g : Good K e α F H σ ρ M) (n : Nat) (i : Nat) : Good K e α F H σ (ρ.set i none) M := by
  refine ⟨⟨by simp [g.env.len], fun j s q => ?_⟩, g.sta, g.st⟩
  by_cases hj : i = j
  · subst hj
    by_cases hl : i < ρ.length
    · rw [List.getElem?_set_self hl] at q; cases q
    · rw [List.getElem?_eq_none (by simpa using hl)] at q; cases q
  · rw [List.getElem?_set_ne hj] at q
    exact g.env.at' j s q
end
end DL

/-! DL3: walks, loops, comprehensions, calls over plain data. -/
namespace DL
open PySem L2
section
variable {K : PySem.W.Frag} {e : Ent} {ρ : Rho} {M : List MO} {nx bk ct : Rho → List MO → Prop} {rt : Sl → List MO → Prop} {Q : Sl → Prop} {te ta tb : TE} {t u : TS}

/-! ### what is walked -/
def ItOk (K : PySem.W.Frag) (J : It) (F : Hp) (items : List D) : Prop := ∀ (i : Nat) (F1 H : Hp), Same F F1 → Same F1 H → (items.length ≤ i → J.stop i H) ∧
  ∀ d, items[i]? = some d → J.go i H ∧ ∀ x H', J.yld i H x H' → (H' = H ∧ Den K F1 d x) ∨ ∃ T vs ds, x = .ref T ∧ H T = none ∧ H' = upd H T (.tup vs) ∧ d = .tup ds ∧ Dens K F1 ds vs
def EvI (K : PySem.W.Frag) (wi : TI) (ρ : Rho) (M : List MO) (R : List D → Prop) : Prop := ∀ (σ : L2.St) (α : Al) (F H : Hp), EnvOk K α F σ ρ → Sta K α M F H → ∀ k : It → Hp → Prop,
  (∀ J F' H' items, Move α F H F' H' → Sta K α M F' H' → ItOk K J F' items → R items → k J H') → wi σ H k
theorem it_turn {α : Al} {J : It} {F F1 H : Hp} {items : List D} {i : Nat} {d : D} {x : V} {H' : Hp} (ok : ItOk K J F items) (s1 : Same F F1) (S : Sta K α M F1 H) (hd : items[i]? = some d) (y : J.yld i H x H') :
    ∃ F2, Move α F1 H F2 H' ∧ Sta K α M F2 H' ∧ Den K F2 d x := by
  rcases ((ok i F1 H s1 S.sub).2 d hd).2 x H' y with ⟨rfl, h⟩ | ⟨T, vs, ds, rfl, hT, rfl, rfl, h⟩
  · exact ⟨F1, .refl, S, h⟩
  · obtain ⟨m, S2⟩ := S.laid (o := .tup vs) hT
    exact ⟨_, m, S2, T, vs, rfl, .inl (.inl upd_same), Dens.mono K m.ex _ _ h⟩
theorem itl_ok {F : Hp} {a : Addr} {vs : List V} {ds : List D} (h : F a = some (.lst vs)) (hd : Dens K F ds vs) : ItOk K (Itl K a) F ds := fun i F1 H s1 s2 => by
  have hH : SqL K H a vs := SqL.of (s2 _ _ (s1 _ _ h))
  refine ⟨fun hl => ⟨vs, hH, by rw [← hd.length]; exact hl⟩, fun d e => ?_⟩
  obtain ⟨v, e2, r⟩ := hd.get e
  refine ⟨⟨vs, v, hH, e2⟩, fun x H' y => .inl ⟨y.1, ?_⟩⟩
  have := y.2 vs hH
  rw [e2] at this; cases this
  exact Den.mono K s1 _ _ r
theorem itt_ok {F : Hp} {a : Addr} {vs : List V} {ds : List D} (h : SqT K F a vs) (hd : Dens K F ds vs) : ItOk K (Itt K a) F ds := fun i F1 H s1 s2 => by
  have hH : SqT K H a vs := sqt_same K s2 (sqt_same K s1 h)
  refine ⟨fun hl => ⟨vs, hH, by rw [← hd.length]; exact hl⟩, fun d e => ?_⟩
  obtain ⟨v, e2, r⟩ := hd.get e
  refine ⟨⟨vs, v, hH, e2⟩, fun x H' y => .inl ⟨y.1, ?_⟩⟩
  have := y.2 vs hH
  rw [e2] at this; cases this
  exact Den.mono K s1 _ _ r
def rangeD (lo : Int) (n : Nat) : List D := (List.range n).map fun i : Nat => D.int (lo + (i : Int))
theorem rangeD_len {lo : Int} {n : Nat} : (rangeD lo n).length = n := by simp [rangeD]
theorem rangeD_get {lo : Int} {n i : Nat} {d : D} (h : (rangeD lo n)[i]? = some d) : i < n ∧ d = .int (lo + i) := by
  unfold rangeD at h
  rw [List.getElem?_map] at h
  by_cases hi : i < n
  · rw [List.getElem?_range hi] at h
    simp at h
    exact ⟨hi, h.symm⟩
  · rw [List.getElem?_eq_none (by simpa using hi)] at h; cases h
theorem itr_ok {F : Hp} {lo : Int} {n : Nat} : ItOk K (Itr lo n) F (rangeD lo n) := fun i F1 H s1 s2 => by
  refine ⟨fun hl => by rw [rangeD_len] at hl; exact hl, fun d e => ?_⟩
  obtain ⟨hi, rfl⟩ := rangeD_get e
  exact ⟨hi, fun x H' y => .inl ⟨y.1, y.2⟩⟩
theorem ei_list {R : List D → Prop} (h : EvP K te ρ M fun s => ∃ ds, s = .v (.lst ds) ∧ R ds) : EvI K (iList K te) ρ M R := fun σ α F H en S k kk =>
  h σ α F H en S _ fun v F1 H1 s m1 S1 o1 ⟨ds, e1, q⟩ => by
    subst e1
    obtain ⟨a, vs, rfl, h1, h2⟩ := o1
    exact ⟨a, rfl, ⟨vs, SqL.of (S1.sub _ _ h1)⟩, kk _ F1 H1 ds m1 S1 (itl_ok h1 h2) q⟩
theorem ei_tup {R : List D → Prop} (h : EvP K te ρ M fun s => ∃ ds, s = .v (.tup ds) ∧ R ds) : EvI K (iTup K te) ρ M R := fun σ α F H en S k kk =>
  h σ α F H en S _ fun v F1 H1 s m1 S1 o1 ⟨ds, e1, q⟩ => by
    subst e1
    obtain ⟨a, vs, rfl, h1, h2⟩ := o1
    exact ⟨a, rfl, ⟨vs, sqt_same K S1.sub h1⟩, kk _ F1 H1 ds m1 S1 (itt_ok h1 h2) q⟩
theorem ei_range1 {tl : TA} {R : List D → Prop} (h : EvA K tl ρ M fun ss => ∃ n, ss = [.v (.int n)] ∧ -(2 ^ 62) ≤ n ∧ n < 2 ^ 62 ∧ R (rangeD 0 n.toNat)) : EvI K (iRng1 tl) ρ M R := fun σ α F H en S k kk =>
  h σ α F H en S _ fun vs F1 H1 ss m1 S1 o1 ⟨n, e1, h1, h2, q⟩ => by
    subst e1
    obtain ⟨v, r, rfl, hv, r2⟩ := o1
    have hv : v = .int n := hv
    have r2 : r = [] := r2
    subst hv; subst r2
    exact ⟨n, rfl, h1, h2, kk _ F1 H1 _ m1 S1 itr_ok q⟩
theorem ei_range2 {tl : TA} {R : List D → Prop} (h : EvA K tl ρ M fun ss => ∃ i j, ss = [.v (.int i), .v (.int j)] ∧ (-(2 ^ 62) ≤ i ∧ i < 2 ^ 62 ∧ -(2 ^ 62) ≤ j ∧ j < 2 ^ 62) ∧ R (rangeD i (j - i).toNat)) : EvI K (iRng2 tl) ρ M R := fun σ α F H en S k kk =>
  h σ α F H en S _ fun vs F1 H1 ss m1 S1 o1 ⟨i, j, e1, h1, q⟩ => by
    subst e1
    obtain ⟨v, r, rfl, hv, r2⟩ := o1
    obtain ⟨w, r', rfl, hw, r3⟩ := r2
    have hv : v = .int i := hv
    have hw : w = .int j := hw
    have r3 : r' = [] := r3
    subst hv; subst hw; subst r3
    exact ⟨i, j, rfl, h1, kk _ F1 H1 _ m1 S1 itr_ok q⟩
theorem ei_enum {tl : TA} {R : List D → Prop} (h : EvA K tl ρ M fun ss => ∃ ds : List D, ss = [.v (.lst ds)] ∧ R (ds.mapIdx fun i d => .tup [.int (i : Int), d])) : EvI K (iEnum K tl) ρ M R := fun σ α F H en S k kk =>
  h σ α F H en S _ fun vs F1 H1 ss m1 S1 o1 ⟨ds, e1, q⟩ => by
    subst e1
    obtain ⟨v, r, rfl, hv, r2⟩ := o1
    have r2 : r = [] := r2
    subst r2
    obtain ⟨a, us, rfl, h1, h2⟩ := hv
    refine ⟨a, us, rfl, SqL.of (S1.sub _ _ h1), kk _ F1 H1 _ m1 S1 (fun i F2 H2 s1 s2 => ?_) q⟩
    have hH : SqL K H2 a us := SqL.of (s2 _ _ (s1 _ _ h1))
    refine ⟨fun hl => ⟨us, hH, by rw [← h2.length]; simpa using hl⟩, fun d e => ?_⟩
    rw [List.getElem?_mapIdx] at e
    cases e3 : ds[i]? with
    | none => rw [e3] at e; cases e
    | some d0 =>
      rw [e3] at e
      cases e
      obtain ⟨v, e2, r⟩ := h2.get e3
      refine ⟨⟨us, v, hH, e2⟩, fun x H' ⟨T, y, ex, hT, eH, hy⟩ => .inr ⟨T, _, _, ex, hT, eH, rfl, ?_⟩⟩
      have := hy us hH
      rw [e2] at this; cases this
      exact Dens.cons rfl (Dens.cons (Den.mono K s1 _ _ r) Dens.nil)
theorem ei_zip {tl : TA} {R : List D → Prop} (h : EvA K tl ρ M fun ss => ∃ ds es : List D, ss = [.v (.lst ds), .v (.lst es)] ∧ R (ds.zipWith (fun d c => .tup [d, c]) es)) : EvI K (iZip K tl) ρ M R := fun σ α F H en S k kk =>
  h σ α F H en S _ fun vs F1 H1 ss m1 S1 o1 ⟨ds, es, e1, q⟩ => by
    subst e1
    obtain ⟨v, r, rfl, hv, r2⟩ := o1
    obtain ⟨w, r', rfl, hw, r3⟩ := r2
    have r3 : r' = [] := r3
    subst r3
    obtain ⟨a, us, rfl, h1, h2⟩ := hv
    obtain ⟨b, ws, rfl, h3, h4⟩ := hw
    refine ⟨a, b, us, ws, rfl, SqL.of (S1.sub _ _ h1), SqL.of (S1.sub _ _ h3), kk _ F1 H1 _ m1 S1 (fun i F2 H2 s1 s2 => ?_) q⟩
    have hH : SqL K H2 a us := SqL.of (s2 _ _ (s1 _ _ h1))
    have hH' : SqL K H2 b ws := SqL.of (s2 _ _ (s1 _ _ h3))
    refine ⟨fun hl => ⟨us, ws, hH, hH', ?_⟩, fun d e => ?_⟩
    · rw [List.length_zipWith, h2.length, h4.length] at hl; omega
    · rw [List.getElem?_zipWith] at e
      cases e3 : ds[i]? with
      | none => rw [e3] at e; cases e
      | some d0 =>
        cases e4 : es[i]? with
        | none => rw [e3, e4] at e; cases e
        | some c0 =>
          rw [e3, e4] at e
          cases e
          obtain ⟨v, e5, r⟩ := h2.get e3
          obtain ⟨w, e6, r'⟩ := h4.get e4
          refine ⟨⟨us, ws, v, w, hH, hH', e5, e6⟩, fun x H' ⟨T, y, z, ex, hT, eH, hy, hz⟩ => .inr ⟨T, _, _, ex, hT, eH, rfl, ?_⟩⟩
          have p1 := hy us hH
          have p2 := hz ws hH'
          rw [e5] at p1; cases p1
          rw [e6] at p2; cases p2
          exact Dens.cons (Den.mono K s1 _ _ r) (Dens.cons (Den.mono K s1 _ _ r') Dens.nil)

/-! ### targets: names, tuples of names -/
def EvG (K : PySem.W.Frag) (g : TG) (is : List Nat) (d : D) (ρ : Rho) (R : Rho → Prop) : Prop := ∀ (σ : L2.St) (α : Al) (F H : Hp) (v : V), EnvOk K α F σ ρ → Same F H → Den K F d v → ∀ k : L2.St → Hp → Prop,
  (∀ σ' ρ', EnvOk K α F σ' ρ' → σ'.length = σ.length → (∀ j : Nat, j ∉ is → σ'[j]? = σ[j]?) → R ρ' → k σ' H) → g v σ H k
def EvGs (K : PySem.W.Frag) (g : TGs) (is : List Nat) (ds : List D) (ρ : Rho) (R : Rho → Prop) : Prop := ∀ (σ : L2.St) (α : Al) (F H : Hp) (vs : List V), EnvOk K α F σ ρ → Same F H → Dens K F ds vs → ∀ k : L2.St → Hp → Prop,
  (∀ σ' ρ', EnvOk K α F σ' ρ' → σ'.length = σ.length → (∀ j : Nat, j ∉ is → σ'[j]? = σ[j]?) → R ρ' → k σ' H) → g vs σ H k
theorem eg_name {i : Nat} {is : List Nat} {d : D} {R : Rho → Prop} (q : R (ρ.set i (some (.v d)))) (hi : i ∈ is := by simp) : EvG K (gName i) is d ρ R := fun σ α F H v en s h k kk =>
  kk _ _ (en.set i (s := .v d) h) (by simp) (fun j hj => List.getElem?_set_ne (fun z => hj (by rw [← z]; exact hi))) q
theorem eg_nil {is : List Nat} {R : Rho → Prop} (q : R ρ) : EvGs K gNil is [] ρ R := fun σ α F H vs en s h k kk => by
  have h : vs = [] := h
  exact ⟨h, kk _ _ en rfl (fun _ _ => rfl) q⟩
theorem eg_cons {g : TG} {gs : TGs} {is : List Nat} {d : D} {ds : List D} {R : Rho → Prop} (h : EvG K g is d ρ fun ρ' => EvGs K gs is ds ρ' R) : EvGs K (gCons g gs) is (d :: ds) ρ R := fun σ α F H vs en s hd k kk => by
  obtain ⟨v, r, rfl, h1, h2⟩ := hd
  exact ⟨v, r, rfl, h σ α F H v en s h1 _ fun σ' ρ' en' l' f' q => q σ' α F H r en' s h2 k fun σ2 ρ2 en2 l2 f2 q2 => kk σ2 ρ2 en2 (l2.trans l') (fun j hj => (f2 j hj).trans (f' j hj)) q2⟩
theorem eg_tup {g : TGs} {is : List Nat} {n : Nat} {ds : List D} {R : Rho → Prop} (hl : ds.length = n) (h : EvGs K g is ds ρ R) : EvG K (gTup K n g) is (.tup ds) ρ R := fun σ α F H v en s hd k kk => by
  obtain ⟨a, vs, rfl, h1, h2⟩ := hd
  exact ⟨a, vs, rfl, sqt_same K s h1, by rw [← h2.length]; exact hl, h σ α F H vs en s h2 k kk⟩
/-- a, b = e -/
theorem r_asgG {g : TG} {is : List Nat} (h : EvP K te ρ M fun s => ∃ d, s = .v d ∧ EvG K g is d ρ fun ρ' => nx ρ' M) : RunD K e (tAsg te g) ρ M nx rt bk ct := fun X σ α F H gd ok =>
  h σ α F H gd.env gd.sta _ fun v F1 H1 s m1 S1 o1 ⟨d, e1, q⟩ => by
    subst e1
    exact q σ α F1 H1 v (gd.env.mono m1.ex) S1.sub o1 _ fun σ' ρ' en' _ _ q' => ok.nx _ α F1 H1 _ M ⟨en', S1, gd.st.move m1⟩ m1.ex q'

/-! ### for -/
theorem r_for {wi : TI} {g : TG} (is : List Nat) (h : EvI K wi ρ M fun items => ∃ I : Nat → Rho → List MO → Prop, I 0 ρ M ∧
      (∀ i d ρ' M', items[i]? = some d → I i ρ' M' → EvG K g is d ρ' fun ρ2 => RunD K e t ρ2 M' (I (i + 1)) rt nx (I (i + 1))) ∧
      ∀ ρ' M', I items.length ρ' M' → nx ρ' M') : RunD K e (tFor wi g t) ρ M nx rt bk ct := fun X σ α F H gd ok =>
  h σ α F H gd.env gd.sta _ fun J F1 H1 items m1 S1 it ⟨I, h0, hs, hd⟩ => by
    refine ⟨fun i m σ' H' => m = items.length - i ∧ i ≤ items.length ∧ ∃ ρ' M' α' F', Good K e α' F' H' σ' ρ' M' ∧ Same F1 F' ∧ I i ρ' M', ⟨_, rfl, Nat.zero_le _, ρ, M, α, F1, gd.move m1 S1, fun _ _ z => z, h0⟩, ?_⟩
    rintro i m σ' H' ⟨rfl, hi, ρ', M', α', F', g', s', p⟩
    by_cases hlt : i < items.length
    · have hget : items[i]? = some items[i] := List.getElem?_eq_getElem hlt
      refine .inr ⟨((it i F' H' s' g'.sta.sub).2 _ hget).1, fun σ2 H2 => ∃ ρ2 M2 α2 F2, Good K e α2 F2 H2 σ2 ρ2 M2 ∧ Same F1 F2 ∧ I (i + 1) ρ2 M2, fun σ2 H2 ⟨ρ2, M2, α2, F2, g2, s2, p2⟩ => ⟨items.length - (i + 1), by omega, rfl, hlt, ρ2, M2, α2, F2, g2, s2, p2⟩, fun x H2 y => ?_⟩
      obtain ⟨F2, m2, S2, hx⟩ := it_turn it s' g'.sta hget y
      have g2 := g'.move m2 S2
      refine hs i _ ρ' M' hget p σ' α' F2 H2 x g2.env S2.sub hx _ fun σ3 ρ3 en3 _ _ q3 => ?_
      have s12 : Same F1 F2 := s'.trans m2.ex
      have ok2 := ok.at (m1.ex.trans s12)
      exact q3 _ σ3 α' F2 H2 ⟨en3, S2, g2.st⟩ ⟨fun σ4 α4 F4 H4 ρ4 M4 g4 z4 q4 => ⟨ρ4, M4, α4, F4, g4, s12.trans z4, q4⟩, ok2.rt, ok2.nx, fun σ4 α4 F4 H4 ρ4 M4 g4 z4 q4 => ⟨ρ4, M4, α4, F4, g4, s12.trans z4, q4⟩⟩
    · have ei : i = items.length := by omega
      subst ei
      exact .inl ⟨(it _ F' H' s' g'.sta.sub).1 (Nat.le_refl _), ok.nx _ _ _ _ _ _ g' (m1.ex.trans s') (hd ρ' M' p)⟩

/-! ### while -/
theorem r_while {c : TT} (h : ∃ I : Nat → Rho → List MO → Prop, (∃ m, I m ρ M) ∧ ∀ m ρ' M', I m ρ' M' → EvT K c ρ' M' fun b => if b = true then RunD K e t ρ' M' (fun ρ2 M2 => ∃ m', m' < m ∧ I m' ρ2 M2) rt nx (fun ρ2 M2 => ∃ m', m' < m ∧ I m' ρ2 M2) else nx ρ' M') :
    RunD K e (tWhile c t) ρ M nx rt bk ct := fun X σ α F H gd ok => by
  obtain ⟨I, ⟨m0, h0⟩, hs⟩ := h
  refine ⟨fun m σ' H' => ∃ ρ' M' α' F', Good K e α' F' H' σ' ρ' M' ∧ Same F F' ∧ I m ρ' M', ⟨m0, ρ, M, α, F, gd, .refl F, h0⟩, ?_⟩
  rintro m σ' H' ⟨ρ', M', α', F', g', s', p⟩
  refine hs m ρ' M' p σ' α' F' H' g'.env g'.sta _ fun b F2 H2 m2 S2 q2 => ?_
  cases b with
  | true =>
    refine iteT ⟨fun σ2 H2 => ∃ m', m' < m ∧ ∃ ρ2 M2 α2 F2, Good K e α2 F2 H2 σ2 ρ2 M2 ∧ Same F F2 ∧ I m' ρ2 M2, fun σ2 H2 z => z, ?_⟩
    have s12 : Same F F2 := s'.trans m2.ex
    have ok2 := ok.at s12
    have q2 : RunD K e t ρ' M' (fun ρ2 M2 => ∃ m', m' < m ∧ I m' ρ2 M2) rt nx (fun ρ2 M2 => ∃ m', m' < m ∧ I m' ρ2 M2) := q2
    exact q2 _ σ' α' F2 H2 (g'.move m2 S2) ⟨fun σ4 α4 F4 H4 ρ4 M4 g4 z4 ⟨m', l, q4⟩ => ⟨m', l, ρ4, M4, α4, F4, g4, s12.trans z4, q4⟩, ok2.rt, ok2.nx, fun σ4 α4 F4 H4 ρ4 M4 g4 z4 ⟨m', l, q4⟩ => ⟨m', l, ρ4, M4, α4, F4, g4, s12.trans z4, q4⟩⟩
  | false =>
    refine iteF ?_
    exact ok.nx _ _ _ _ _ _ (g'.move m2 S2) (s'.trans m2.ex) q2

/-! ### an object of nobody: it is tracked, not frozen, no numbered thing -/
theorem Sta.extra {α : Al} {F H : Hp} (S : Sta K α M F H) {p : Addr} {o : HO} (hF : F p = none) (ha : ∀ q, q ∈ α → p ≠ q.1 ∧ p ≠ q.2) : Sta K α M F (upd H p o) := by
  have s2 : ∀ b, b ≠ p → upd H p o b = H b := fun b h => upd_ne h
  have t2 : ∀ b, H b ≠ none → upd H p o b ≠ none := fun b h => by
    by_cases e : b = p
    · subst e; rw [upd_same]; simp
    · rw [upd_ne e]; exact h
  refine ⟨fun b u h => ?_, S.len, fun i m q h1 h2 => ?_, S.ap, fun q hq => ⟨t2 _ (S.tr q hq).1, t2 _ (S.tr q hq).2⟩⟩
  · rw [upd_ne (fun z => by rw [z, hF] at h; cases h)]; exact S.sub b u h
  · have ap := ha q (List.mem_of_getElem? h2)
    have kk := S.ob i m q h1 h2
    have s1 := s2 q.1 (Ne.symm ap.1)
    have s3 := s2 q.2 (Ne.symm ap.2)
    cases m with
    | lst ds => exact ⟨kk.1, by rw [s1]; exact kk.2⟩
    | dic ks ds => exact ⟨kk.1, by rw [s1]; exact kk.2⟩
    | ins C ns ds => exact ⟨kk.1, by rw [s1]; exact kk.2⟩
    | rng => exact ⟨kk.1, kk.2.1, by unfold Rng; rw [s1, s3]; exact kk.2.2⟩
    | dead => trivial
theorem Sta.ice {α : Al} {F H : Hp} (S : Sta K α M F H) {p : Addr} {o : HO} (hF : F p = none) (hH : H p = some o) (ha : ∀ q, q ∈ α → p ≠ q.1 ∧ p ≠ q.2) : Same F (upd F p o) ∧ Sta K α M (upd F p o) H := by
  have s1 : Same F (upd F p o) := fun b u h => by rw [upd_ne (ne_of_none h hF)]; exact h
  refine ⟨s1, fun b u h => ?_, S.len, fun i m q h1 h2 => ?_, S.ap, S.tr⟩
  · by_cases e : b = p
    · subst e; rw [upd_same] at h; cases h; exact hH
    · rw [upd_ne e] at h; exact S.sub b u h
  · have ap := ha q (List.mem_of_getElem? h2)
    have kk := S.ob i m q h1 h2
    have z1 : ∀ b, b ≠ p → F b = none → upd F p o b = none := fun b n z => by rw [upd_ne n]; exact z
    cases m with
    | lst ds => exact ⟨z1 _ (Ne.symm ap.1) kk.1, let ⟨vs, a, b⟩ := kk.2; ⟨vs, a, Dens.mono K s1 _ _ b⟩⟩
    | dic ks ds => exact ⟨z1 _ (Ne.symm ap.1) kk.1, let ⟨vs, a, c, b⟩ := kk.2; ⟨vs, a, c, Dens.mono K s1 _ _ b⟩⟩
    | ins C ns ds => exact ⟨z1 _ (Ne.symm ap.1) kk.1, let ⟨dx, vs, a, c, b⟩ := kk.2; ⟨dx, vs, a, c, Dens.mono K s1 _ _ b⟩⟩
    | rng => exact ⟨z1 _ (Ne.symm ap.1) kk.1, z1 _ (Ne.symm ap.2) kk.2.1, kk.2.2⟩
    | dead => trivial
theorem Sta.notin {α : Al} {F H : Hp} (S : Sta K α M F H) {p : Addr} (hp : H p = none) : ∀ q, q ∈ α → p ≠ q.1 ∧ p ≠ q.2 := fun q hq =>
  ⟨fun z => (S.tr q hq).1 (by rw [← z]; exact hp), fun z => (S.tr q hq).2 (by rw [← z]; exact hp)⟩

/-! ### comprehensions -/
def wipeR (ρ : Rho) : List Nat → Rho
  | [] => ρ
  | v :: vs => (wipeR ρ vs).set v none
theorem EnvOk.wipe {α : Al} {F : Hp} {σ : L2.St} (h : EnvOk K α F σ ρ) : ∀ vs : List Nat, EnvOk K α F (L2.wipe σ vs) (wipeR ρ vs)
  | [] => h
  | v :: vs => (EnvOk.wipe h vs).setN v
theorem wipe_in {σ : L2.St} {i : Nat} : ∀ {vs : List Nat}, i ∈ vs → (L2.wipe σ vs)[i]? = if i < σ.length then some none else none
  | [], h => by simp at h
  | v :: vs, h => by
    unfold L2.wipe
    by_cases e : v = i
    · subst e
      by_cases hl : v < σ.length
      · rw [List.getElem?_set_self (by rw [wipe_length]; exact hl), if_pos hl]
      · rw [List.getElem?_eq_none (by rw [List.length_set, wipe_length]; omega), if_neg hl]
    · rw [List.getElem?_set_ne e]
      exact wipe_in (by simpa [Ne.symm e] using h)
theorem wipe_eq {σ σ' : L2.St} {vs : List Nat} (hl : σ'.length = σ.length) (h : ∀ j : Nat, j ∉ vs → σ'[j]? = σ[j]?) : L2.wipe σ' vs = L2.wipe σ vs := by
  apply List.ext_getElem?
  intro j
  by_cases e : j ∈ vs
  · rw [wipe_in e, wipe_in e, hl]
  · rw [wipe_out e, wipe_out e, h j e]
theorem wipe_wipe {σ : L2.St} {vs : List Nat} : L2.wipe (L2.wipe σ vs) vs = L2.wipe σ vs := wipe_eq (wipe_length σ vs) fun j e => wipe_out e
theorem ev_lc {wi : TI} {g : TG} {tt : TT} {vs : List Nat} (h : EvI K wi ρ M fun items => items.length ≤ 16777216 ∧ ∃ I : Nat → List D → Prop, I 0 [] ∧
      (∀ i d acc, items[i]? = some d → I i acc → EvG K g vs d (wipeR ρ vs) fun ρ' => EvT K tt ρ' M fun b => if b = true then EvP K te ρ' M (fun s => ∃ d', s = .v d' ∧ I (i + 1) (acc ++ [d'])) else I (i + 1) acc) ∧
      ∀ acc, I items.length acc → Q (.v (.lst acc))) : EvP K (tLc wi g tt te vs) ρ M Q := fun σ α F H en S k kk =>
  h σ α F H en S _ fun J F1 H1 items m1 S1 it ⟨hz, I, h0, hs, hd⟩ => by
    intro A hA
    have hFA : F1 A = none := S1.sub.free hA
    have hna := S1.notin hA
    refine ⟨fun i m H' => m = items.length - i ∧ i ≤ items.length ∧ ∃ F' acc us, Move α F1 H1 F' H' ∧ Sta K α M F' H' ∧ H' A = some (.lst us) ∧ F' A = none ∧ Dens K F' acc us ∧ acc.length ≤ i ∧ I i acc,
      ⟨_, rfl, Nat.zero_le _, F1, [], [], ?_, S1.extra hFA hna, upd_same, hFA, rfl, Nat.le_refl _, h0⟩, ?_⟩
    · exact ⟨fun _ _ z => z, fun b o q _ => by rw [upd_ne (ne_of_none q hA)]; exact q, fun b q => by { rw [upd_ne (fun z => q (by rw [z]; exact hA))]; exact q }, fun b q => .inl q⟩
    rintro i m H' ⟨rfl, hi, F', acc, us, mv, S', hAt, hFA', hden, hlen, p⟩
    by_cases hlt : i < items.length
    · have hget : items[i]? = some items[i] := List.getElem?_eq_getElem hlt
      refine .inr ⟨((it i F' H' mv.ex S'.sub).2 _ hget).1, fun H2 => ∃ F2 acc us, Move α F1 H1 F2 H2 ∧ Sta K α M F2 H2 ∧ H2 A = some (.lst us) ∧ F2 A = none ∧ Dens K F2 acc us ∧ acc.length ≤ i + 1 ∧ I (i + 1) acc,
        fun H2 ⟨F2, acc, us, a, b, c, d, f, g, h⟩ => ⟨items.length - (i + 1), by omega, rfl, hlt, F2, acc, us, a, b, c, d, f, g, h⟩, fun x H2 y => ?_⟩
      obtain ⟨F2, m2, S2, hx⟩ := it_turn it mv.ex S' hget y
      have enw := ((en.mono m1.ex).mono (mv.ex.trans m2.ex)).wipe vs
      refine hs i _ acc hget p (L2.wipe σ vs) α F2 H2 x enw S2.sub hx _ fun σ3 ρ3 en3 l3 f3 q3 => ⟨?_, ?_⟩
      · have := wipe_eq (σ := L2.wipe σ vs) l3 f3
        rw [wipe_wipe] at this
        exact this
      refine q3 σ3 α F2 H2 en3 S2 _ fun b F3 H3 m3 S3 q4 => ?_
      have mA : Move α F' H' F3 H3 := m2.trans m3
      have hA3 : H3 A = some (.lst us) := mA.fr A _ hAt hna
      have nF : ∀ F4 H4, Move α F' H' F4 H4 → F4 A = none := fun F4 H4 mm => by
        cases z : F4 A with
        | none => rfl
        | some o =>
          rcases mm.new A (by rw [z]; simp) with q | q
          · exact absurd hFA' q
          · rw [hAt] at q; cases q
      cases b with
      | true =>
        refine iteT ?_
        have q4 : EvP K te ρ3 M (fun s => ∃ d', s = .v d' ∧ I (i + 1) (acc ++ [d'])) := q4
        refine q4 σ3 α F3 H3 (en3.mono m3.ex) S3 _ fun v F4 H4 s m4 S4 o4 ⟨d', e4, p4⟩ => ?_
        subst e4
        have mB : Move α F' H' F4 H4 := mA.trans m4
        have hA4 : H4 A = some (.lst us) := mB.fr A _ hAt hna
        have mC : Move α F1 H1 F4 H4 := mv.trans mB
        refine ⟨us, hA4, by rw [← hden.length, sizeLine_eq]; omega, F4, acc ++ [d'], us ++ [v], ⟨mC.ex, fun b o q z => ?_, fun b q => ?_, mC.new⟩, S4.extra (nF _ _ mB) hna, upd_same, nF _ _ mB, (Dens.mono K mB.ex _ _ hden).append (Dens.cons o4 Dens.nil), by simp; omega, p4⟩
        · rw [upd_ne (ne_of_none q hA)]; exact mC.fr b o q z
        · rw [upd_ne (fun z => q (by rw [z]; exact hA))]; exact mC.tr b q
      | false =>
        refine iteF ?_
        exact ⟨F3, acc, us, mv.trans mA, S3, hA3, nF _ _ mA, Dens.mono K mA.ex _ _ hden, by omega, q4⟩
    · have ei : i = items.length := by omega
      subst ei
      obtain ⟨s5, S5⟩ := S'.ice hFA' hAt hna
      refine .inl ⟨(it _ F' H' mv.ex S'.sub).1 (Nat.le_refl _), kk (.ref A) _ H' (.v (.lst acc)) ⟨(m1.trans mv).ex.trans s5, fun b o q z => (m1.trans mv).fr b o q z, (m1.trans mv).tr, fun b q => ?_⟩ S5 (show Den K _ (.lst acc) _ from ⟨A, us, rfl, upd_same, Dens.mono K s5 _ _ hden⟩) (hd acc p)⟩
      by_cases eb : b = A
      · subst eb; exact .inr (none_back (m1.tr b) hA)
      · rw [upd_ne eb] at q; exact (m1.trans mv).new b q
/-- .. of what is known item by item -/
theorem ev_lcM {wi : TI} {g : TG} {vs : List Nat} (f : D → D) (h : EvI K wi ρ M fun items => items.length ≤ 16777216 ∧
      (∀ (i : Nat) d, items[i]? = some d → EvG K g vs d (wipeR ρ vs) fun ρ' => EvP K te ρ' M fun s => s = .v (f d)) ∧ Q (.v (.lst (items.map f)))) : EvP K (tLc wi g tYes te vs) ρ M Q := by
  refine ev_lc fun σ α F H en S k kk => h σ α F H en S k fun J F1 H1 items m S1 ok ⟨hz, hs, hd⟩ => kk J F1 H1 items m S1 ok ⟨hz, fun i acc => acc = (items.take i).map f, by simp, fun i d acc hget ea => ?_, fun acc ea => ?_⟩
  · have ea : acc = (items.take i).map f := ea
    intro σ α F H v en s hd k kk
    refine hs i d hget σ α F H v en s hd k fun σ' ρ' a b c q => kk σ' ρ' a b c ?_
    intro σ α F H en S k kk
    refine kk true F H .refl S ?_
    refine iteT (q.mono fun s es => ⟨_, es, ?_⟩)
    subst ea
    have hi : i < items.length := (List.getElem?_eq_some_iff.mp hget).1
    have e2 : items[i] = d := (List.getElem?_eq_some_iff.mp hget).2
    rw [List.take_succ_eq_append_getElem hi, List.map_append, e2]
    rfl
  · have ea : acc = (items.take items.length).map f := ea
    rw [List.take_length] at ea
    subst ea
    exact hd

/-! ### calls -/
/-- a def's promise: args by x, things by x; what comes out of x, and the things then -/
def SpF {ι : Type} (K : PySem.W.Frag) (args : ι → List Sl) (Mi : ι → List MO) (pre : ι → Prop) (post : ι → D → List MO → Prop) : Sp := fun vs H Q _ =>
  ∃ (x : ι) (α : Al) (F : Hp), SlsOk K α F (args x) vs ∧ Sta K α (Mi x) F H ∧ pre x ∧ ∀ v F' H' d M', Move α F H F' H' → Sta K α M' F' H' → Den K F' d v → post x d M' → Q v H'
/-- plain data in, plain data out -/
def SpP {ι : Type} (K : PySem.W.Frag) (args : ι → List D) (pre : ι → Prop) (post : ι → D → Prop) : Sp := SpF K (fun x => (args x).map Sl.v) (fun _ => []) pre (fun x d _ => post x d)
/-- .. with the source of draws ahead -/
def SpG {ι : Type} (K : PySem.W.Frag) (args : ι → List D) (pre : ι → Prop) (post : ι → D → Prop) : Sp := SpF K (fun x => .l 0 :: (args x).map Sl.v) (fun _ => [.rng]) pre (fun x d M' => M' = [.rng] ∧ post x d)
theorem SlsOk.ofD {α β : Al} {F : Hp} : ∀ {ds : List D} {vs : List V}, SlsOk K α F (ds.map Sl.v) vs → SlsOk K β F (ds.map Sl.v) vs
  | [], _, h => h
  | d :: ds, _, h => by
    obtain ⟨v, r, h1, h2, h3⟩ := h
    exact ⟨v, r, h1, h2, SlsOk.ofD h3⟩
theorem sta_nil {F H : Hp} (s : Same F H) : Sta K [] [] F H := ⟨s, rfl, fun i m p h => by simp at h, fun i j p q _ h => by simp at h, fun p h => by simp at h⟩
theorem Move.widen {α β : Al} {F H F' H' : Hp} (m : Move α F H F' H') (h : ∀ p, p ∈ α → p ∈ β) : Move β F H F' H' := ⟨m.ex, fun b o q k => m.fr b o q fun p hp => k p (h p hp), m.tr, m.new⟩
theorem MObj.keep {F H F' H' : Hp} {m : MO} {p : Addr × Addr} (h : MObj K F H m p) (s : Same F F') (h1 : F p.1 = none → F' p.1 = none) (h2 : F p.2 = none → F' p.2 = none) (k1 : ∀ o, H p.1 = some o → H' p.1 = some o) (k2 : ∀ o, H p.2 = some o → H' p.2 = some o) : MObj K F' H' m p := by
  cases m with
  | lst ds => exact ⟨h1 h.1, let ⟨vs, a, b⟩ := h.2; ⟨vs, k1 _ a, Dens.mono K s _ _ b⟩⟩
  | dic ks ds => exact ⟨h1 h.1, let ⟨vs, a, c, b⟩ := h.2; ⟨vs, k1 _ a, c, Dens.mono K s _ _ b⟩⟩
  | ins C ns ds => exact ⟨h1 h.1, let ⟨dx, vs, a, c, b⟩ := h.2; ⟨dx, vs, k1 _ a, c, Dens.mono K s _ _ b⟩⟩
  | rng => exact ⟨h1 h.1, h2 h.2.1, let ⟨s, i, c, h0, a1, a2, h3⟩ := h.2.2; ⟨s, i, c, h0, k1 _ a1, k2 _ a2, h3⟩⟩
  | dead => trivial
theorem Move.fnone {α : Al} {F H F' H' : Hp} (m : Move α F H F' H') {b : Addr} (h1 : H b ≠ none) (h : F b = none) : F' b = none := by
  cases z : F' b with
  | none => rfl
  | some o =>
    rcases m.new b (by rw [z]; simp) with q | q
    · exact absurd h q
    · exact absurd q h1
/-- behind a call that knows none of the things -/
theorem Sta.keep0 {α : Al} {F H F' H' : Hp} (S : Sta K α M F H) (m : Move [] F H F' H') (s' : Same F' H') : Sta K α M F' H' := by
  refine ⟨s', S.len, fun i mo p h1 h2 => ?_, S.ap, fun p hp => ⟨m.tr _ (S.tr p hp).1, m.tr _ (S.tr p hp).2⟩⟩
  have hp := S.tr p (List.mem_of_getElem? h2)
  exact (S.ob i mo p h1 h2).keep m.ex (m.fnone hp.1) (m.fnone hp.2) (fun o q => m.fr _ o q fun p hp => by simp at hp) (fun o q => m.fr _ o q fun p hp => by simp at hp)
/-- behind a call that knows the j-th thing alone -/
theorem Sta.keep1 {α : Al} {F H F' H' : Hp} {j : Nat} {p0 : Addr × Addr} {m' : MO} (S : Sta K α M F H) (hj : α[j]? = some p0) (m : Move [p0] F H F' H') (s' : Sta K [p0] [m'] F' H') : Sta K α (M.set j m') F' H' := by
  refine ⟨s'.sub, by simp [S.len], fun i mo p h1 h2 => ?_, S.ap, fun p hp => ⟨m.tr _ (S.tr p hp).1, m.tr _ (S.tr p hp).2⟩⟩
  by_cases hij : j = i
  · subst hij
    have hl : j < M.length := by rw [S.len]; exact (List.getElem?_eq_some_iff.mp h2).1
    rw [List.getElem?_set_self hl] at h1
    cases h1
    rw [hj] at h2; cases h2
    exact s'.ob 0 m' p0 rfl rfl
  · rw [List.getElem?_set_ne hij] at h1
    have hp := S.tr p (List.mem_of_getElem? h2)
    have ap := nth_ne S h2 hj (Ne.symm hij)
    exact (S.ob i mo p h1 h2).keep m.ex (m.fnone hp.1) (m.fnone hp.2)
      (fun o q => m.fr _ o q fun r hr => by { simp at hr; subst hr; exact ⟨ap.1, ap.2.1⟩ }) (fun o q => m.fr _ o q fun r hr => by { simp at hr; subst hr; exact ⟨ap.2.2.1, ap.2.2.2⟩ })
theorem sta_one {α : Al} {F H : Hp} {j : Nat} {p0 : Addr × Addr} {m0 : MO} (S : Sta K α M F H) (hj : α[j]? = some p0) (hm : M[j]? = some m0) : Sta K [p0] [m0] F H := by
  refine ⟨S.sub, rfl, fun i m p h1 h2 => ?_, fun i j p q hij h1 h2 => ?_, fun p hp => ?_⟩
  · cases i with
    | zero =>
      simp at h1 h2
      subst h1; subst h2
      exact S.ob j m0 p0 hm hj
    | succ i => simp at h1
  · cases j with
    | zero => omega
    | succ j => simp at h2
  · simp at hp; subst hp
    exact S.tr p (List.mem_of_getElem? hj)
theorem ec_callP {ι : Type} {args : ι → List D} {pre : ι → Prop} {post : ι → D → Prop} {ta : TA} {X : XK} (h : EvA K ta ρ M fun ss => ∃ x, ss = (args x).map Sl.v ∧ pre x ∧ ∀ d, post x d → Q (.v d)) : EvP K (tCall (SpP K args pre post) [] X ta) ρ M Q := fun σ α F H en S k kk =>
  h σ α F H en S _ fun vs F1 H1 ss m1 S1 o1 ⟨x, e1, hp, q⟩ => by
    subst e1
    refine ⟨x, [], F1, by rw [List.append_nil]; exact o1.ofD, sta_nil S1.sub, hp, fun v F' H' d M' m2 S2 o2 p2 => ?_⟩
    exact kk v F' H' (.v d) (m1.trans (m2.widen fun _ h => by simp at h)) (S1.keep0 m2 S2.sub) o2 (q d p2)
theorem ec_callG {ι : Type} {args : ι → List D} {pre : ι → Prop} {post : ι → D → Prop} {ta : TA} {X : XK} (h : EvA K ta ρ M fun ss => ∃ x j, ss = .l j :: (args x).map Sl.v ∧ M[j]? = some .rng ∧ pre x ∧ ∀ d, post x d → Q (.v d)) : EvP K (tCall (SpG K args pre post) [] X ta) ρ M Q := fun σ α F H en S k kk =>
  h σ α F H en S _ fun vs F1 H1 ss m1 S1 o1 ⟨x, j, e1, hj, hp, q⟩ => by
    subst e1
    obtain ⟨v0, r, rfl, ⟨p0, hp0, rfl⟩, o2⟩ := o1
    have S0 := sta_one S1 hp0 hj
    refine ⟨x, [p0], F1, by rw [List.append_nil]; exact ⟨_, r, rfl, ⟨p0, rfl, rfl⟩, o2.ofD⟩, S0, hp, fun v F' H' d M' m2 S2 o3 ⟨eM, p2⟩ => ?_⟩
    subst eM
    have S3 := S1.keep1 hp0 m2 S2
    have e2 : M.set j .rng = M := by
      have hl : j < M.length := (List.getElem?_eq_some_iff.mp hj).1
      apply List.ext_getElem?
      intro i
      by_cases hij : j = i
      · subst hij; rw [List.getElem?_set_self hl, hj]
      · rw [List.getElem?_set_ne hij]
    rw [e2] at S3
    exact kk v F' H' (.v d) (m1.trans (m2.widen fun p hp => by { simp at hp; subst hp; exact List.mem_of_getElem? hp0 })) S3 o3 (q d p2)

/-! ### a def's body -/
def startR (n : Nat) (ss : List Sl) : Rho := ss.map some ++ List.replicate (n - ss.length) none
theorem env_start {α : Al} {F : Hp} {N : List Str} : ∀ {ss : List Sl} {vs : List V}, SlsOk K α F ss vs → EnvOk K α F (L2.start N vs) (startR N.length ss) := fun {ss vs} h => by
  have hl := h.length
  refine ⟨by simp [L2.start, startR, hl], fun i s q => ?_⟩
  unfold startR at q
  have hi : i < ss.length := by
    by_cases hi : i < ss.length
    · exact hi
    · rw [List.getElem?_append_right (by simpa using hi), List.getElem?_replicate] at q
      split at q <;> cases q
  rw [List.getElem?_append_left (by simpa using hi), List.getElem?_map] at q
  have gen : ∀ {ss : List Sl} {vs : List V} {i : Nat} {s : Sl}, SlsOk K α F ss vs → ss[i]? = some s → ∃ v, vs[i]? = some v ∧ SlOk K α F s v := by
    intro ss
    induction ss with
    | nil => intro vs i s _ e; simp at e
    | cons a r ih =>
      intro vs i s h e
      obtain ⟨v, r', rfl, h2, h3⟩ := h
      cases i with
      | zero => simp at e; subst e; exact ⟨v, rfl, h2⟩
      | succ i =>
        obtain ⟨u, q, hu⟩ := ih h3 (by simpa using e)
        exact ⟨u, by simpa using q, hu⟩
  cases e : ss[i]? with
  | none => rw [e] at q; cases q
  | some s' =>
    rw [e] at q; cases q
    obtain ⟨v, hv, ho⟩ := gen h e
    refine ⟨v, ?_, ho⟩
    unfold L2.start
    rw [List.getElem?_append_left (by simpa [← hl] using hi), List.getElem?_map, hv]
    rfl
/-- what a def may hand back -/
def RetOk (n : Nat) (post : D → List MO → Prop) (s : Sl) (M' : List MO) : Prop :=
  (∃ d, s = .v d ∧ post d (M'.take n)) ∨ (∃ k ds, s = .l k ∧ n ≤ k ∧ M'[k]? = some (.lst ds) ∧ post (.lst ds) (M'.take n)) ∨
  ∃ k ks ds, s = .l k ∧ n ≤ k ∧ M'[k]? = some (.dic ks ds) ∧ post (.dic ks ds) (M'.take n)
theorem Sta.prefix {α β : Al} {F H : Hp} (S : Sta K (α ++ β) M F H) : Sta K α (M.take α.length) F H := by
  refine ⟨S.sub, ?_, fun i m p h1 h2 => ?_, fun i j p q hij h1 h2 => ?_, fun p hp => S.tr p (List.mem_append_left _ hp)⟩
  · rw [List.length_take, S.len]; simp
  · have hi : i < α.length := (List.getElem?_eq_some_iff.mp h2).1
    rw [List.getElem?_take_of_lt hi] at h1
    exact S.ob i m p h1 (by rw [List.getElem?_append_left hi]; exact h2)
  · have hi : i < α.length := (List.getElem?_eq_some_iff.mp h1).1
    have hj : j < α.length := (List.getElem?_eq_some_iff.mp h2).1
    exact S.ap i j p q hij (by rw [List.getElem?_append_left hi]; exact h1) (by rw [List.getElem?_append_left hj]; exact h2)
theorem fn_run {ι : Type} {args : ι → List Sl} {Mi : ι → List MO} {pre : ι → Prop} {post : ι → D → List MO → Prop} {N : List Str} {t : TS}
    (h : ∀ x e, pre x → e.α.length = (Mi x).length → RunD K e t (startR N.length (args x)) (Mi x) (fun _ M' => post x .non (M'.take (Mi x).length)) (RetOk (Mi x).length (post x)) (fun _ _ => False) (fun _ _ => False)) :
    ∀ vs H Q E, SpF K args Mi pre post vs H Q E → t { nx := fun _ H' => Q .non H', rt := Q } (L2.start N vs) H := by
  rintro vs H Q E ⟨x, α, F, ho, S, hp, k⟩
  have fin : ∀ {α' : Al} {F' H' : Hp} {M' : List MO}, Sta K α' M' F' H' → StepE ⟨α, F, H⟩ α' F' H' → Move α F H F' H' ∧ Sta K α (M'.take (Mi x).length) F' H' := fun {α' F' H' M'} S' st => by
    obtain ⟨β, e1, _⟩ := st.pre
    have e1 : α' = α ++ β := e1
    subst e1
    refine ⟨⟨st.ex, st.fr, st.tr, st.new⟩, ?_⟩
    have := S'.prefix
    rw [S.len]; exact this
  refine h x ⟨α, F, H⟩ hp S.len.symm _ (L2.start N vs) α F H ⟨env_start ho, S, .refl⟩ ⟨fun σ' α' F' H' ρ' M' g _ q => ?_, fun v s α' F' H' M' o S' st _ q => ?_, fun _ _ _ _ _ _ _ _ q => q.elim, fun _ _ _ _ _ _ _ _ q => q.elim⟩
  · obtain ⟨m, S2⟩ := fin g.sta g.st
    exact k .non F' H' .non _ m S2 rfl q
  · obtain ⟨m, S2⟩ := fin S' st
    rcases q with ⟨d, rfl, p⟩ | ⟨j, ds, rfl, hj, hM, p⟩ | ⟨j, ks, ds, rfl, hj, hM, p⟩
    · exact k v F' H' d _ m S2 o p
    all_goals
      obtain ⟨p0, hp0, rfl⟩ := o
      have hob := S'.ob j _ p0 hM hp0
      have hna : ∀ q, q ∈ α → p0.1 ≠ q.1 ∧ p0.1 ≠ q.2 := fun q hq => by
        obtain ⟨β, e1, _⟩ := st.pre
        have e1 : α' = α ++ β := e1
        obtain ⟨i, hi⟩ := List.mem_iff_getElem?.mp hq
        have hil : i < α.length := (List.getElem?_eq_some_iff.mp hi).1
        have ap := nth_ne S' hp0 (show α'[i]? = some q by rw [e1, List.getElem?_append_left hil]; exact hi) (by have := S.len; omega)
        exact ⟨ap.1, ap.2.1⟩
      have hnew : H p0.1 = none := by
        obtain ⟨β, e1, hβ⟩ := st.pre
        have e1 : α' = α ++ β := e1
        rw [e1, List.getElem?_append_right (by have := S.len; omega)] at hp0
        exact (hβ p0 (List.mem_of_getElem? hp0)).1
    · obtain ⟨hF, us, hus, hd⟩ := hob
      obtain ⟨s5, S5⟩ := S2.ice hF hus hna
      refine k (.ref p0.1) _ H' (.lst ds) _ ⟨m.ex.trans s5, m.fr, m.tr, fun b q => ?_⟩ S5 ⟨p0.1, us, rfl, upd_same, Dens.mono K s5 _ _ hd⟩ p
      by_cases eb : b = p0.1
      · subst eb; exact .inr hnew
      · rw [upd_ne eb] at q; exact m.new b q
    · obtain ⟨hF, us, hus, hl, hd⟩ := hob
      obtain ⟨s5, S5⟩ := S2.ice hF hus hna
      refine k (.ref p0.1) _ H' (.dic ks ds) _ ⟨m.ex.trans s5, m.fr, m.tr, fun b q => ?_⟩ S5 ⟨p0.1, us, rfl, upd_same, hl, Dens.mono K s5 _ _ hd⟩ p
      by_cases eb : b = p0.1
      · subst eb; exact .inr hnew
      · rw [upd_ne eb] at q; exact m.new b q
end
end DL

/-! DL4: sequences and built-ins over plain data. -/
namespace DL
open PySem L2
section
variable {K : PySem.W.Frag} {e : Ent} {ρ : Rho} {M : List MO} {Q : Sl → Prop} {te ta tb : TE} {t u : TS}

/-- a slot that is read as a list, a tuple -/
inductive RdL (M : List MO) : Sl → List D → Prop
  | v {ds : List D} : RdL M (.v (.lst ds)) ds
  | l {k : Nat} {ds : List D} : M[k]? = some (.lst ds) → RdL M (.l k) ds
theorem RdL.get {α : Al} {F H : Hp} {s : Sl} {ds : List D} {u : V} (h : RdL M s ds) (S : Sta K α M F H) (o : SlOk K α F s u) : ∃ a vs, u = .ref a ∧ H a = some (.lst vs) ∧ Dens K F ds vs := by
  cases h with
  | v =>
    obtain ⟨a, vs, h1, h2, h3⟩ := o
    exact ⟨a, vs, h1, S.sub _ _ h2, h3⟩
  | l hk =>
    obtain ⟨p, hp, rfl⟩ := o
    obtain ⟨_, vs, h1, h2⟩ := S.ob _ _ p hk hp
    exact ⟨p.1, vs, rfl, h1, h2⟩
inductive RdS (M : List MO) : Sl → List D → Prop
  | l {s : Sl} {ds : List D} : RdL M s ds → RdS M s ds
  | t {ds : List D} : RdS M (.v (.tup ds)) ds
  | r {ds : List D} : RdS M (.v (.rd ds)) ds
theorem RdS.get {α : Al} {F H : Hp} {s : Sl} {ds : List D} {u : V} (h : RdS M s ds) (S : Sta K α M F H) (o : SlOk K α F s u) : ∃ a vs, u = .ref a ∧ (SqL K H a vs ∨ SqT K H a vs) ∧ Dens K F ds vs := by
  cases h with
  | l h =>
    obtain ⟨a, vs, h1, h2, h3⟩ := h.get S o
    exact ⟨a, vs, h1, .inl (SqL.of h2), h3⟩
  | t =>
    obtain ⟨a, vs, h1, h2, h3⟩ := o
    exact ⟨a, vs, h1, .inr (sqt_same K S.sub h2), h3⟩
  | r =>
    obtain ⟨a, vs, h1, h2, h3⟩ := o
    exact ⟨a, vs, h1, .inl (S.sub.seq h2), h3⟩
theorem atI_get {F : Hp} {ds : List D} {vs : List V} {i : Int} {d : D} (h : Dens K F ds vs) (ha : atI ds i = some d) : ∃ v, atI vs i = some v ∧ Den K F d v := by
  unfold atI at ha ⊢
  rw [← h.length]
  cases e : ixN ds.length i with
  | none => rw [e] at ha; cases ha
  | some j =>
    rw [e] at ha
    exact h.get ha
theorem er_ixL {x : Sl} {ds : List D} {i : Int} {d : D} (h : RdL M x ds) (ha : atI ds i = some d) (q : Q (.v d)) : EvR K (rIxL K) M x (.v (.int i)) Q := fun α F H u v S o1 o2 k kk => by
  obtain ⟨a, vs, rfl, h1, h2⟩ := h.get S o1
  have o2 : v = .int i := o2
  subst o2
  obtain ⟨w, hw, r⟩ := atI_get h2 ha
  exact ⟨a, vs, i, w, rfl, rfl, SqL.of h1, hw, kk w F H _ .refl S (den_ok r) q⟩
theorem er_ixT {ds : List D} {i : Int} {d : D} (ha : atI ds i = some d) (q : Q (.v d)) : EvR K (rIxT K) M (.v (.tup ds)) (.v (.int i)) Q := fun α F H u v S o1 o2 k kk => by
  obtain ⟨a, vs, rfl, h1, h2⟩ := o1
  have o2 : v = .int i := o2
  subst o2
  obtain ⟨w, hw, r⟩ := atI_get h2 ha
  exact ⟨a, vs, i, w, rfl, rfl, sqt_same K S.sub h1, hw, kk w F H _ .refl S (den_ok r) q⟩
theorem er_in {neg : Bool} {x : V} {y : Sl} {xs : List V} (h : RdS M y (xs.map D.raw)) (hx : flatV x = true) (hf : xs.all flatV = true) (q : Q (.v (.bl (if neg then !inV x xs else inV x xs)))) : EvR K (rIn K neg) M (.v (.raw x)) y Q := fun α F H u v S o1 o2 k kk => by
  have o1 : u = x := o1
  subst o1
  obtain ⟨a, vs, rfl, h1, h2⟩ := h.get S o2
  have h3 := h2.ofRaws
  subst h3
  exact ⟨a, vs, rfl, h1, hx, hf, kk _ F H _ .refl S raw_ok q⟩
theorem inV_ints {i : Int} : ∀ {ns : List Int}, inV (.int i) (ns.map V.int) = decide (i ∈ ns)
  | [] => by simp [inV]
  | n :: ns => by
    have := inV_ints (i := i) (ns := ns)
    unfold inV at this ⊢
    rw [List.map_cons, List.any_cons, this]
    by_cases h : i = n
    · subst h; simp [eqV]
    · simp [eqV, h, Ne.symm h]
/-- .. whole numbers -/
theorem er_inI {neg : Bool} {i : Int} {y : Sl} {ns : List Int} (h : RdS M y (D.ints ns)) (q : Q (.v (.bl (if neg then !decide (i ∈ ns) else decide (i ∈ ns))))) : EvR K (rIn K neg) M (.v (.int i)) y Q := by
  have e1 : D.ints ns = (ns.map V.int).map D.raw := by simp [D.ints, Function.comp_def]
  rw [e1] at h
  refine er_in h rfl (by simp [flatV]) ?_
  rw [inV_ints]
  exact q
theorem er_cat {x y : Sl} {ds es : List D} (h1 : RdL M x ds) (h2 : RdL M y es) (hz : ds.length + es.length ≤ 16777216) (q : Q (.v (.lst (ds ++ es)))) : EvR K rCat M x y Q := fun α F H u v S o1 o2 k kk => by
  obtain ⟨a, vs, rfl, e1, d1⟩ := h1.get S o1
  obtain ⟨b, us, rfl, e2, d2⟩ := h2.get S o2
  refine ⟨a, b, vs, us, rfl, rfl, e1, e2, by rw [← d1.length, ← d2.length, sizeLine_eq]; exact hz, fun p hp => ?_⟩
  obtain ⟨m2, S2⟩ := S.laid (o := .lst (vs ++ us)) hp
  exact kk _ _ _ _ m2 S2 (den_ok (d := .lst (ds ++ es)) ⟨p, _, rfl, upd_same, Dens.mono K m2.ex _ _ (d1.append d2)⟩) q
theorem er_catT {ds es : List D} (hz : ds.length + es.length ≤ 16777216) (q : Q (.v (.tup (ds ++ es)))) : EvR K (rCatA K) M (.v (.tup ds)) (.v (.tup es)) Q := fun α F H u v S o1 o2 k kk => by
  obtain ⟨a, vs, rfl, e1, d1⟩ := o1
  obtain ⟨b, us, rfl, e2, d2⟩ := o2
  refine ⟨a, b, vs, us, rfl, rfl, sqt_same K S.sub e1, sqt_same K S.sub e2, by rw [← d1.length, ← d2.length, sizeLine_eq]; exact hz, fun z => ?_, fun _ z => ?_, fun _ _ p hp => ?_⟩
  · subst z
    have : ds = [] := by cases ds with
      | nil => rfl
      | cons _ _ => obtain ⟨_, _, z, _⟩ := d1; cases z
    subst this
    exact kk _ F H _ .refl S (den_ok (d := .tup ([] ++ es)) ⟨b, us, rfl, e2, d2⟩) q
  · subst z
    have : es = [] := by cases es with
      | nil => rfl
      | cons _ _ => obtain ⟨_, _, z, _⟩ := d2; cases z
    subst this
    exact kk _ F H _ .refl S (den_ok (d := .tup (ds ++ [])) ⟨a, vs, rfl, e1, by rw [List.append_nil]; exact d1⟩) q
  · obtain ⟨m2, S2⟩ := S.laid (o := .tup (vs ++ us)) hp
    exact kk _ _ _ _ m2 S2 (den_ok (d := .tup (ds ++ es)) ⟨p, _, rfl, .inl (.inl upd_same), Dens.mono K m2.ex _ _ (d1.append d2)⟩) q
theorem Dens.flat {F : Hp} {ds : List D} {vs : List V} (h : Dens K F ds vs) : ∀ n : Nat, Dens K F (List.replicate n ds).flatten (List.replicate n vs).flatten
  | 0 => rfl
  | n + 1 => by
    rw [List.replicate_succ, List.replicate_succ, List.flatten_cons, List.flatten_cons]
    exact h.append (Dens.flat h n)
theorem er_rep {x : Sl} {ds : List D} {i : Int} (h : RdL M x ds) (h1 : -(2 ^ 63) ≤ i) (h2 : i < 2 ^ 63) (hz : ds.length * i.toNat ≤ 16777216) (q : Q (.v (.lst (List.replicate i.toNat ds).flatten))) : EvR K rRep M x (.v (.int i)) Q := fun α F H u v S o1 o2 k kk => by
  obtain ⟨a, vs, rfl, e1, d1⟩ := h.get S o1
  have o2 : v = .int i := o2
  subst o2
  refine ⟨a, i, vs, rfl, rfl, e1, h1, h2, by rw [← d1.length, sizeLine_eq]; exact hz, fun p hp => ?_⟩
  obtain ⟨m2, S2⟩ := S.laid (o := .lst (List.replicate i.toNat vs).flatten) hp
  exact kk _ _ _ _ m2 S2 (den_ok (d := .lst _) ⟨p, _, rfl, upd_same, Dens.mono K m2.ex _ _ (d1.flat _)⟩) q
theorem er_repT {ds : List D} {i : Int} (h0 : ds ≠ []) (h1 : 2 ≤ i) (h2 : i ≤ 1000) (hz : ds.length ≤ 1000) (q : Q (.v (.tup (List.replicate i.toNat ds).flatten))) : EvR K (rRepT K) M (.v (.tup ds)) (.v (.int i)) Q := fun α F H u v S o1 o2 k kk => by
  obtain ⟨a, vs, rfl, e1, d1⟩ := o1
  have o2 : v = .int i := o2
  subst o2
  refine ⟨a, i, vs, rfl, rfl, sqt_same K S.sub e1, fun z => h0 (by subst z; cases ds with
    | nil => rfl
    | cons _ _ => obtain ⟨_, _, z, _⟩ := d1; cases z), h1, h2, by rw [← d1.length]; exact hz, fun p hp => ?_⟩
  obtain ⟨m2, S2⟩ := S.laid (o := .tup (List.replicate i.toNat vs).flatten) hp
  exact kk _ _ _ _ m2 S2 (den_ok (d := .tup _) ⟨p, _, rfl, .inl (.inl upd_same), Dens.mono K m2.ex _ _ (d1.flat _)⟩) q
/-! slices -/
def cutD (xs : List D) (lo hi : Option Int) : List D := (xs.drop (HT.sIx xs.length 0 lo)).take (HT.sIx xs.length xs.length hi - HT.sIx xs.length 0 lo)
theorem Dens.cut {F : Hp} {ds : List D} {vs : List V} (h : Dens K F ds vs) (lo hi : Option Int) : Dens K F (cutD ds lo hi) (cutV vs lo hi) := by
  unfold cutD cutV
  rw [h.length]
  exact (h.drop _).take _
theorem ev_slL {tl th : TO} (h : EvP K te ρ M fun x => EvO K tl ρ M fun lo => EvO K th ρ M fun hi => ∃ ds, RdL M x ds ∧ Q (.v (.lst (cutD ds lo hi)))) : EvP K (tSl (rSlL K) te tl th) ρ M Q := fun σ α F H en S k kk =>
  h σ α F H en S _ fun v F1 H1 x m1 S1 o1 q1 => q1 σ α F1 H1 (en.mono m1.ex) S1 _ fun lo F2 H2 m2 S2 q2 => q2 σ α F2 H2 (en.mono (m1.trans m2).ex) S2 _ fun hi F3 H3 m3 S3 ⟨ds, hr, q⟩ => by
    obtain ⟨a, vs, rfl, e1, d1⟩ := hr.get S3 (o1.mono (m2.trans m3).ex)
    refine ⟨a, vs, rfl, SqL.of e1, fun p hp => ?_⟩
    obtain ⟨m4, S4⟩ := S3.laid (o := .lst (cutV vs lo hi)) hp
    exact kk _ _ _ _ (((m1.trans m2).trans m3).trans m4) S4 (den_ok (d := .lst _) ⟨p, _, rfl, upd_same, Dens.mono K m4.ex _ _ (d1.cut lo hi)⟩) q
theorem cut_whole {F : Hp} {ds : List D} {lo hi : Option Int} (h : HT.sIx ds.length 0 lo = 0 ∧ HT.sIx ds.length ds.length hi = ds.length) : cutD ds lo hi = ds := by
  unfold cutD
  rw [h.1, h.2]
  simp
theorem ev_slT {tl th : TO} (h : EvP K te ρ M fun x => EvO K tl ρ M fun lo => EvO K th ρ M fun hi => ∃ ds, x = .v (.tup ds) ∧ Q (.v (.tup (cutD ds lo hi)))) : EvP K (tSl (rSlA K) te tl th) ρ M Q := fun σ α F H en S k kk =>
  h σ α F H en S _ fun v F1 H1 x m1 S1 o1 q1 => q1 σ α F1 H1 (en.mono m1.ex) S1 _ fun lo F2 H2 m2 S2 q2 => q2 σ α F2 H2 (en.mono (m1.trans m2).ex) S2 _ fun hi F3 H3 m3 S3 ⟨ds, hr, q⟩ => by
    subst hr
    obtain ⟨a, vs, rfl, e1, d1⟩ := o1.mono (m2.trans m3).ex
    refine ⟨a, vs, rfl, sqt_same K S3.sub e1, fun z => ?_, fun _ p hp => ?_⟩
    · rw [cut_whole (F := F3) (by rw [d1.length]; exact z)] at q
      exact kk _ _ _ _ ((m1.trans m2).trans m3) S3 (den_ok (d := .tup ds) ⟨a, vs, rfl, e1, d1⟩) q
    · obtain ⟨m4, S4⟩ := S3.laid (o := .tup (cutV vs lo hi)) hp
      exact kk _ _ _ _ (((m1.trans m2).trans m3).trans m4) S4 (den_ok (d := .tup _) ⟨p, _, rfl, .inl (.inl upd_same), Dens.mono K m4.ex _ _ (d1.cut lo hi)⟩) q

/-! ### built-ins -/
def rLen (K : PySem.W.Frag) : List V → Hp → VK → Prop := fun xs H Q => ∃ x n, xs = [x] ∧ LenV K x H n ∧ Q (.int n) H
theorem ec_len {x : Sl} {ds : List D} (h : RdS M x ds) (q : Q (.v (.int (ds.length : Int)))) : EvC K (rLen K) M [x] Q := fun α F H us S o k kk => by
  obtain ⟨v, r, rfl, o1, o2⟩ := o
  have o2 : r = [] := o2
  subst o2
  obtain ⟨a, vs, rfl, e1, d1⟩ := h.get S o1
  refine ⟨_, vs.length, rfl, ?_, ?_⟩
  · rcases e1 with e1 | e1
    · exact .inl ⟨vs, e1, rfl⟩
    · exact .inr ⟨vs, e1, rfl⟩
  · rw [← d1.length]
    exact kk _ F H _ .refl S raw_ok q
theorem ec_lenS {y : Str} (h : y.length ≤ 16777216) (q : Q (.v (.int (y.length : Int)))) : EvC K (rLen K) M [.v (.str y)] Q := fun α F H us S o k kk => by
  obtain ⟨v, r, rfl, o1, o2⟩ := o
  have o2 : r = [] := o2
  have o1 : v = .str y := o1
  subst o2; subst o1
  exact ⟨_, y.length, rfl, ⟨by rw [sizeLine_eq]; exact h, rfl⟩, kk _ F H _ .refl S raw_ok q⟩
theorem sls1 {α : Al} {F : Hp} {d : V} {us : List V} (o : SlsOk K α F [.v (.raw d)] us) : us = [d] := by
  obtain ⟨v, r, rfl, o1, o2⟩ := o
  have o2 : r = [] := o2
  have o1 : v = d := o1
  rw [o2, o1]
theorem sls2 {α : Al} {F : Hp} {d e : V} {us : List V} (o : SlsOk K α F [.v (.raw d), .v (.raw e)] us) : us = [d, e] := by
  obtain ⟨v, r, rfl, o1, o2⟩ := o
  have o1 : v = d := o1
  rw [sls1 o2, o1]
def rAbs : List V → Hp → VK → Prop := fun xs H Q => ∃ i, xs = [.int i] ∧ Q (.int (if i < 0 then -i else i)) H
theorem ec_abs {i : Int} (q : Q (.v (.int (if i < 0 then -i else i)))) : EvC K rAbs M [.v (.int i)] Q := fun α F H us S o k kk => ⟨i, sls1 o, kk _ F H _ .refl S raw_ok q⟩
def rMax2 : List V → Hp → VK → Prop := fun xs H Q => ∃ i j, xs = [.int i, .int j] ∧ Q (.int (if j > i then j else i)) H
def rMin2 : List V → Hp → VK → Prop := fun xs H Q => ∃ i j, xs = [.int i, .int j] ∧ Q (.int (if j < i then j else i)) H
theorem ec_max2 {i j : Int} (q : Q (.v (.int (if j > i then j else i)))) : EvC K rMax2 M [.v (.int i), .v (.int j)] Q := fun α F H us S o k kk => ⟨i, j, sls2 o, kk _ F H _ .refl S raw_ok q⟩
theorem ec_min2 {i j : Int} (q : Q (.v (.int (if j < i then j else i)))) : EvC K rMin2 M [.v (.int i), .v (.int j)] Q := fun α F H us S o k kk => ⟨i, j, sls2 o, kk _ F H _ .refl S raw_ok q⟩
def rInt1 : List V → Hp → VK → Prop := fun xs H Q => (∃ i, xs = [.int i] ∧ Q (.int i) H) ∨ ∃ k, xs = [.bl k] ∧ Q (.int (if k then 1 else 0)) H
theorem ec_int1 {i : Int} (q : Q (.v (.int i))) : EvC K rInt1 M [.v (.int i)] Q := fun α F H us S o k kk => .inl ⟨i, sls1 o, kk _ F H _ .refl S raw_ok q⟩
def rStrI : List V → Hp → VK → Prop := fun xs H Q => ∃ i : Int, xs = [.int i] ∧ i.natAbs.log2 < 1920 ∧ Q (.str (toString i)) H
theorem ec_strI {i : Int} (h : i.natAbs.log2 < 1920) (q : Q (.v (.raw (.str (toString i))))) : EvC K rStrI M [.v (.int i)] Q := fun α F H us S o k kk => ⟨i, sls1 o, h, kk _ F H _ .refl S raw_ok q⟩
theorem sls1s {α : Al} {F : Hp} {s : Sl} {us : List V} (o : SlsOk K α F [s] us) : ∃ u, us = [u] ∧ SlOk K α F s u := by
  obtain ⟨v, r, rfl, o1, o2⟩ := o
  have o2 : r = [] := o2
  exact ⟨v, by rw [o2], o1⟩
theorem ec_sum {x : Sl} {ns : List Int} (h : RdL M x (D.ints ns)) (q : Q (.v (.int ns.sum))) : EvC K (rSum K) M [x] Q := fun α F H us S o k kk => by
  obtain ⟨u, rfl, o1⟩ := sls1s o
  obtain ⟨a, vs, rfl, e1, d1⟩ := h.get S o1
  have e2 := d1.ofInts
  subst e2
  exact ⟨a, ns, rfl, SqL.of e1, kk _ F H _ .refl S raw_ok q⟩
theorem ec_max {x : Sl} {ns : List Int} (h : RdL M x (D.ints ns)) (hn : 0 < ns.length) (q : ∀ m, m ∈ ns → (∀ y, y ∈ ns → y ≤ m) → Q (.v (.int m))) : EvC K (rMax K) M [x] Q := fun α F H us S o k kk => by
  obtain ⟨u, rfl, o1⟩ := sls1s o
  obtain ⟨a, vs, rfl, e1, d1⟩ := h.get S o1
  have e2 := d1.ofInts
  subst e2
  exact ⟨a, ns, rfl, SqL.of e1, hn, fun m h1 h2 => kk _ F H _ .refl S raw_ok (q m h1 h2)⟩
theorem ec_min {x : Sl} {ns : List Int} (h : RdL M x (D.ints ns)) (hn : 0 < ns.length) (q : ∀ m, m ∈ ns → (∀ y, y ∈ ns → m ≤ y) → Q (.v (.int m))) : EvC K (rMin K) M [x] Q := fun α F H us S o k kk => by
  obtain ⟨u, rfl, o1⟩ := sls1s o
  obtain ⟨a, vs, rfl, e1, d1⟩ := h.get S o1
  have e2 := d1.ofInts
  subst e2
  exact ⟨a, ns, rfl, SqL.of e1, hn, fun m h1 h2 => kk _ F H _ .refl S raw_ok (q m h1 h2)⟩
abbrev D.bls (bs : List Bool) : List D := bs.map D.bl
theorem Dens.ofBls {F : Hp} {bs : List Bool} {vs : List V} (h : Dens K F (D.bls bs) vs) : vs = bs.map V.bl := by
  have e : D.bls bs = (bs.map V.bl).map D.raw := by simp [D.bls, Function.comp_def]
  rw [e] at h
  exact h.ofRaws
theorem ec_any {x : Sl} {bs : List Bool} (h : RdL M x (D.bls bs)) (q : Q (.v (.bl (bs.any id)))) : EvC K (rAny K) M [x] Q := fun α F H us S o k kk => by
  obtain ⟨u, rfl, o1⟩ := sls1s o
  obtain ⟨a, vs, rfl, e1, d1⟩ := h.get S o1
  have e2 := d1.ofBls
  subst e2
  exact ⟨a, bs, rfl, SqL.of e1, kk _ F H _ .refl S raw_ok q⟩
theorem ec_all {x : Sl} {bs : List Bool} (h : RdL M x (D.bls bs)) (q : Q (.v (.bl (bs.all id)))) : EvC K (rAll K) M [x] Q := fun α F H us S o k kk => by
  obtain ⟨u, rfl, o1⟩ := sls1s o
  obtain ⟨a, vs, rfl, e1, d1⟩ := h.get S o1
  have e2 := d1.ofBls
  subst e2
  exact ⟨a, bs, rfl, SqL.of e1, kk _ F H _ .refl S raw_ok q⟩
def rTupOf (K : PySem.W.Frag) : List V → Hp → VK → Prop := fun xs H Q => ∃ p ys, xs = [.ref p] ∧ ((SqL K H p ys ∧ ∀ l, H l = none → Q (.ref l) (upd H l (.tup ys))) ∨ (SqT K H p ys ∧ Q (.ref p) H))
def rListOf (K : PySem.W.Frag) : List V → Hp → VK → Prop := fun xs H Q => ∃ p ys, xs = [.ref p] ∧ (SqL K H p ys ∨ SqT K H p ys) ∧ ∀ l, H l = none → Q (.ref l) (upd H l (.lst ys))
theorem ec_tupOf {x : Sl} {ds : List D} (h : RdS M x ds) (q : Q (.v (.tup ds))) : EvC K (rTupOf K) M [x] Q := fun α F H us S o k kk => by
  obtain ⟨u, rfl, o1⟩ := sls1s o
  cases h with
  | l h =>
    obtain ⟨a, vs, rfl, e1, d1⟩ := h.get S o1
    refine ⟨a, vs, rfl, .inl ⟨SqL.of e1, fun p hp => ?_⟩⟩
    obtain ⟨m2, S2⟩ := S.laid (o := .tup vs) hp
    exact kk _ _ _ _ m2 S2 (den_ok (d := .tup ds) ⟨p, _, rfl, .inl (.inl upd_same), Dens.mono K m2.ex _ _ d1⟩) q
  | t =>
    obtain ⟨a, vs, rfl, e1, d1⟩ := o1
    exact ⟨a, vs, rfl, .inr ⟨sqt_same K S.sub e1, kk _ F H _ .refl S (den_ok (d := .tup ds) ⟨a, vs, rfl, e1, d1⟩) q⟩⟩
  | r =>
    obtain ⟨a, vs, rfl, e1, d1⟩ := o1
    refine ⟨a, vs, rfl, .inl ⟨S.sub.seq e1, fun p hp => ?_⟩⟩
    obtain ⟨m2, S2⟩ := S.laid (o := .tup vs) hp
    exact kk _ _ _ _ m2 S2 (den_ok (d := .tup ds) ⟨p, _, rfl, .inl (.inl upd_same), Dens.mono K m2.ex _ _ d1⟩) q
theorem ec_listOf {x : Sl} {ds : List D} (h : RdS M x ds) (q : Q (.v (.lst ds))) : EvC K (rListOf K) M [x] Q := fun α F H us S o k kk => by
  obtain ⟨u, rfl, o1⟩ := sls1s o
  obtain ⟨a, vs, rfl, e1, d1⟩ := h.get S o1
  refine ⟨a, vs, rfl, e1, fun p hp => ?_⟩
  obtain ⟨m2, S2⟩ := S.laid (o := .lst vs) hp
  exact kk _ _ _ _ m2 S2 (den_ok (d := .lst ds) ⟨p, _, rfl, upd_same, Dens.mono K m2.ex _ _ d1⟩) q
theorem ec_sorted {x : Sl} {ns : List Int} (h : RdL M x (D.ints ns)) (h64 : ns.length < 64) (q : ∀ ns' : List Int, ns'.Perm ns → ns'.Pairwise (· ≤ ·) → Q (.v (.lst (D.ints ns')))) : EvC K (rSorted K) M [x] Q := fun α F H us S o k kk => by
  obtain ⟨u, rfl, o1⟩ := sls1s o
  obtain ⟨a, vs, rfl, e1, d1⟩ := h.get S o1
  have e2 := d1.ofInts
  subst e2
  refine ⟨a, ns, rfl, SqL.of e1, h64, fun ns' p h1 h2 hp => ?_⟩
  obtain ⟨m2, S2⟩ := S.laid (o := .lst (ns'.map V.int)) hp
  refine kk _ _ _ _ m2 S2 (den_ok (d := .lst (D.ints ns')) ⟨p, _, rfl, upd_same, ?_⟩) (q ns' h1 h2)
  have e : D.ints ns' = (ns'.map V.int).map D.raw := by simp [D.ints, Function.comp_def]
  rw [e]; exact Dens.raws

/-! ### == at any depth -/
mutual
def D.py : D → PyData
  | .raw (.bl b) => .bool b
  | .raw (.int i) => .int i
  | .raw (.str x) => .str x
  | .raw _ => .none
  | .tup ds => .tuple (D.pyAll ds)
  | .lst ds => .list (D.pyAll ds)
  | .dic _ _ => .none
  | .ins _ _ _ => .none
  | .rd _ => .none
def D.pyAll : List D → List PyData
  | [] => []
  | d :: ds => d.py :: D.pyAll ds
end
mutual
/-- plain: flat things, tuples and lists of such, n deep at most -/
def D.pl : Nat → D → Bool
  | _, .raw .non => true
  | _, .raw (.bl _) => true
  | _, .raw (.int _) => true
  | _, .raw (.str x) => x.cps.all (· < 0x110000)
  | _, .raw _ => false
  | 0, .tup _ => false
  | n + 1, .tup ds => D.plAll n ds
  | 0, .lst _ => false
  | n + 1, .lst ds => D.plAll n ds
  | _, .dic _ _ => false
  | _, .ins _ _ _ => false
  | _, .rd _ => false
def D.plAll : Nat → List D → Bool
  | _, [] => true
  | n, d :: ds => d.pl n && D.plAll n ds
end
mutual
theorem D.dp {F H : Hp} (s : Same F H) : ∀ (n : Nat) (d : D) (v : V), d.pl n = true → Den K F d v → Dp K H v d.py
  | n, .raw .non, v, h, o => by
    have o : v = .non := o
    subst o; simp only [D.py]; exact .non
  | n, .raw (.bl b), v, h, o => by
    have o : v = .bl b := o
    subst o; simp only [D.py]; exact .bl b
  | n, .raw (.int b), v, h, o => by
    have o : v = .int b := o
    subst o; simp only [D.py]; exact .int b
  | n, .raw (.str b), v, h, o => by
    have o : v = .str b := o
    subst o; simp only [D.py]; exact .str b
  | n, .raw (.byt b), v, h, o => by simp [D.pl] at h
  | n, .raw (.flt b), v, h, o => by simp [D.pl] at h
  | n, .raw (.ref b), v, h, o => by simp [D.pl] at h
  | n, .raw (.ty b), v, h, o => by simp [D.pl] at h
  | 0, .tup ds, v, h, o => by simp [D.pl] at h
  | n + 1, .tup ds, v, h, o => by
    obtain ⟨a, vs, rfl, h1, h2⟩ := o
    simp only [D.py]
    exact .tup (sqt_same K s h1) (D.dpAll s n ds vs (by simpa [D.pl] using h) h2)
  | 0, .lst ds, v, h, o => by simp [D.pl] at h
  | n + 1, .lst ds, v, h, o => by
    obtain ⟨a, vs, rfl, h1, h2⟩ := o
    simp only [D.py]
    exact .lst (SqL.of (s _ _ h1)) (D.dpAll s n ds vs (by simpa [D.pl] using h) h2)
  | n, .dic _ _, v, h, o => by simp [D.pl] at h
  | n, .ins _ _ _, v, h, o => by simp [D.pl] at h
  | n, .rd _, v, h, o => by simp [D.pl] at h
theorem D.dpAll {F H : Hp} (s : Same F H) : ∀ (n : Nat) (ds : List D) (vs : List V), D.plAll n ds = true → Dens K F ds vs → DpAll K H vs (D.pyAll ds)
  | n, [], vs, h, o => by
    have o : vs = [] := o
    subst o; simp only [D.pyAll]; exact .nil
  | n, d :: ds, vs, h, o => by
    obtain ⟨v, r, rfl, h1, h2⟩ := o
    simp only [D.plAll, Bool.and_eq_true] at h
    simp only [D.pyAll]
    exact .cons (D.dp s n d v h.1 h1) (D.dpAll s n ds r h.2 h2)
end
mutual
theorem D.lay : ∀ (n : Nat) (d : D), d.pl n = true → d.py.canLay0 = true ∧ d.py.depth ≤ n
  | n, .raw .non, h => by simp [D.py, PyData.canLay0, PyData.depth]
  | n, .raw (.bl b), h => by simp [D.py, PyData.canLay0, PyData.depth]
  | n, .raw (.int b), h => by simp [D.py, PyData.canLay0, PyData.depth]
  | n, .raw (.str b), h => by
    simp only [D.pl] at h
    simp only [D.py, PyData.canLay0, PyData.depth, PyData.strOk]
    exact ⟨h, Nat.zero_le _⟩
  | n, .raw (.byt b), h => by simp [D.pl] at h
  | n, .raw (.flt b), h => by simp [D.pl] at h
  | n, .raw (.ref b), h => by simp [D.pl] at h
  | n, .raw (.ty b), h => by simp [D.pl] at h
  | 0, .tup ds, h => by simp [D.pl] at h
  | n + 1, .tup ds, h => by
    have := D.layAll n ds (by simpa [D.pl] using h)
    simp only [D.py, PyData.canLay0, PyData.depth]
    exact ⟨this.1, by omega⟩
  | 0, .lst ds, h => by simp [D.pl] at h
  | n + 1, .lst ds, h => by
    have := D.layAll n ds (by simpa [D.pl] using h)
    simp only [D.py, PyData.canLay0, PyData.depth]
    exact ⟨this.1, by omega⟩
  | n, .dic _ _, h => by simp [D.pl] at h
  | n, .ins _ _ _, h => by simp [D.pl] at h
  | n, .rd _, h => by simp [D.pl] at h
theorem D.layAll : ∀ (n : Nat) (ds : List D), D.plAll n ds = true → PyData.canLayAll0 (D.pyAll ds) = true ∧ PyData.depthAll (D.pyAll ds) ≤ n
  | n, [], h => by simp [D.pyAll, PyData.canLayAll0, PyData.depthAll]
  | n, d :: ds, h => by
    simp only [D.plAll, Bool.and_eq_true] at h
    have h1 := D.lay n d h.1
    have h2 := D.layAll n ds h.2
    simp only [D.pyAll, PyData.canLayAll0, PyData.depthAll, h1.1, h2.1, Bool.and_self, true_and]
    omega
end
theorem D.shaped {n : Nat} {d : D} (h : d.pl n = true) (hn : n ≤ 64) : SeqAt.shaped d.py = true := by
  have := D.lay n d h
  unfold SeqAt.shaped
  rw [this.1, Bool.true_and]
  exact decide_eq_true (by omega)
def D.eqv (x y : D) : Bool := PyData.eqv x.py y.py
theorem er_eqD {x y : D} (n : Nat) (hx : x.pl n = true) (hy : y.pl n = true) (hn : n ≤ 64) (q : Q (.v (.bl (x.eqv y)))) : EvR K (rEqD K) M (.v x) (.v y) Q := fun α F H u v S o1 o2 k kk =>
  ⟨x.py, y.py, D.dp S.sub n x u hx o1, D.dp S.sub n y v hy o2, D.shaped hx hn, D.shaped hy hn, kk _ F H _ .refl S raw_ok q⟩
theorem er_neD {x y : D} (n : Nat) (hx : x.pl n = true) (hy : y.pl n = true) (hn : n ≤ 64) (q : Q (.v (.bl (!x.eqv y)))) : EvR K (rNeD K) M (.v x) (.v y) Q := fun α F H u v S o1 o2 k kk =>
  ⟨x.py, y.py, D.dp S.sub n x u hx o1, D.dp S.sub n y v hy o2, D.shaped hx hn, D.shaped hy hn, kk _ F H _ .refl S raw_ok q⟩
theorem eqvAll_ints : ∀ ns ms : List Int, PyData.eqvAll (D.pyAll (D.ints ns)) (D.pyAll (D.ints ms)) = decide (ns = ms)
  | [], [] => by simp [D.pyAll, PyData.eqvAll]
  | [], m :: ms => by simp [D.pyAll, PyData.eqvAll]
  | n :: ns, [] => by simp [D.pyAll, PyData.eqvAll]
  | n :: ns, m :: ms => by
    have := eqvAll_ints ns ms
    simp only [D.ints] at this
    simp only [List.map_cons, D.pyAll, PyData.eqvAll, D.ints, this, D.py, PyData.eqv]
    by_cases h : n = m <;> by_cases h' : ns = ms <;> simp [h, h']
theorem eqv_lstI (ns ms : List Int) : D.eqv (.lst (D.ints ns)) (.lst (D.ints ms)) = decide (ns = ms) := by
  simp only [D.eqv, D.py, PyData.eqv, eqvAll_ints]
theorem eqv_tupI (ns ms : List Int) : D.eqv (.tup (D.ints ns)) (.tup (D.ints ms)) = decide (ns = ms) := by
  simp only [D.eqv, D.py, PyData.eqv, eqvAll_ints]
theorem pl_ints {n : Nat} : ∀ ns : List Int, D.plAll n (D.ints ns) = true
  | [] => by simp [D.plAll]
  | m :: ns => by
    have := pl_ints (n := n) ns
    simp only [D.ints, List.map_cons, D.plAll, D.pl, Bool.true_and] at this ⊢
    exact this
theorem pl_lstI {n : Nat} (ns : List Int) : (D.lst (D.ints ns)).pl (n + 1) = true := by simp only [D.pl]; exact pl_ints ns
theorem pl_tupI {n : Nat} (ns : List Int) : (D.tup (D.ints ns)).pl (n + 1) = true := by simp only [D.pl]; exact pl_ints ns
theorem eqv_refl {n : Nat} {d : D} (h : d.pl n = true) : d.eqv d = true := SeqAt.eqv_refl _ (D.lay n d h).1
/-! ### attributes -/
theorem lookup_zip {f : Str} : ∀ {ns : List Str} {vs : List V} {i : Nat} {v : V}, (ns.findIdx? (· == f)) = some i → vs[i]? = some v → (ns.zip vs).lookup f = some v
  | [], _, _, _, h, _ => by simp at h
  | n :: ns, [], i, v, _, e => by simp at e
  | n :: ns, w :: vs, i, v, h, e => by
    rw [List.findIdx?_cons] at h
    by_cases hn : n = f
    · subst hn
      rw [if_pos (by simp)] at h
      cases h
      simp at e; subst e
      simp
    · rw [if_neg (by simpa using hn)] at h
      obtain ⟨j, hj, rfl⟩ := Option.map_eq_some_iff.mp h
      have e' : vs[j]? = some v := by simpa using e
      rw [List.zip_cons_cons, List.lookup_cons, show (f == n) = false from by simpa using Ne.symm hn]
      exact lookup_zip hj e'
theorem ev_fld {f : Str} {C : Addr} {ns : List Str} {ds : List D} {i : Nat} {d : D} (hc : Cls K C) (hn : NoAttr K C f) (hi : (ns.findIdx? (· == f)) = some i) (hd : ds[i]? = some d) (h : EvP K te ρ M fun s => s = .v (.ins C ns ds) ∧ Q (.v d)) : EvP K (tFld K te f) ρ M Q := fun σ α F H en S k kk =>
  h σ α F H en S _ fun v F1 H1 s m1 S1 o1 ⟨e1, q⟩ => by
    subst e1
    obtain ⟨a, dx, vs, rfl, h1, h2, h3⟩ := o1
    obtain ⟨w, hw, r⟩ := h3.get hd
    exact ⟨a, C, dx, _, w, rfl, S1.sub _ _ h1, hc, hn, lookup_zip hi hw, kk w F1 H1 _ m1 S1 (den_ok r) q⟩
theorem ev_fldM {f : Str} {C : Addr} {ns : List Str} {ds : List D} {i j k : Nat} {d : D} (hc : Cls K C) (hn : NoAttr K C f) (hi : (ns.findIdx? (· == f)) = some i) (hd : ds[i]? = some d) (hj : ρ[j]? = some (some (.l k))) (hk : M[k]? = some (.ins C ns ds)) (q : Q (.v d)) : EvP K (tFld K (tVar j) f) ρ M Q := fun σ α F H en S kk1 kk => by
  obtain ⟨v, h1, p, hp, rfl⟩ := en.at' j _ hj
  obtain ⟨hF, dx, vs, h2, hl, h3⟩ := S.ob k _ p hk hp
  obtain ⟨w, hw, r⟩ := h3.get hd
  exact ⟨_, h1, p.1, C, dx, _, w, rfl, h2, hc, hn, lookup_zip hi hw, kk w F H _ .refl S (den_ok r) q⟩
end
end DL

/-! DL5: operators of any kind, walks of any sequence, calls by name. -/
namespace DL
open PySem L2
section
variable {X : Cx}
def rOr (r s : R2) : R2 := fun x y H Q => r x y H Q ∨ s x y H Q
theorem opOr {f : Value → Value → Sem Value} {r s : R2} (h1 : OpR X f r) (h2 : OpR X f s) : OpR X f (rOr r s) := fun pins st σ H x y v u Q I rx ry h => by
  rcases h with h | h
  · exact h1 pins st σ H x y v u Q I rx ry h
  · exact h2 pins st σ H x y v u Q I rx ry h
def rAddS : R2 := fun x y H Q => ∃ i j, x = .str i ∧ y = .str j ∧ i.length + j.length ≤ sizeLine ∧ Q (.str (i ++ j)) H
def gAdd (K : PySem.W.Frag) : R2 := rOr (rI0 fun i j => .int (i + j)) (rOr (rOr rCat (rCatA K)) rAddS)
theorem op_gAdd {K : PySem.W.Frag} (hK : X.K = K := by rfl) : OpR X (binaryOp .Add) (gAdd K) := by
  subst hK
  exact opOr op_add (opOr (opOr op_cat op_catA) op_add_str)
def gMul (K : PySem.W.Frag) : R2 := rOr (rOr (rI CMulW fun i j => .int (i * j)) (rI CMul fun i j => .int (i * j))) (rOr rRep (rRepT K))
theorem op_gMul {K : PySem.W.Frag} (hK : X.K = K := by rfl) : OpR X (binaryOp .Mult) (gMul K) := by
  subst hK
  exact opOr (opOr op_mulW op_mul) (opOr op_rep op_repT)
def gSub : R2 := rI0 fun i j => .int (i - j)
theorem op_gSub : OpR X (binaryOp .Sub) gSub := op_sub
def gDiv : R2 := rOr (rI CDivW fun i j => .int (i / j)) (rI CDivN fun i j => .int (i.fdiv j))
theorem op_gDiv : OpR X (binaryOp .FloorDiv) gDiv := opOr op_fdivW op_fdivN
def gMod : R2 := rOr (rI (fun _ j => 0 < j) fun i j => .int (i % j)) (rI (fun _ j => j ≠ 0) fun i j => .int (i.fmod j))
theorem op_gMod : OpR X (binaryOp .Mod) gMod := opOr op_mod op_modN
def gPow : R2 := rI CPow fun i j => .int (i ^ j.toNat)
theorem op_gPow : OpR X (binaryOp .Pow) gPow := op_pow
def gEq (K : PySem.W.Frag) : R2 := rOr rEq (rEqD K)
def gNe (K : PySem.W.Frag) : R2 := rOr rNe (rNeD K)
theorem op_gEq {K : PySem.W.Frag} (hu : X.A.units + 64 < cLine) (hK : X.K = K := by rfl) : OpR X (compareOp .Eq) (gEq K) := by
  subst hK
  exact opOr op_eq (op_eqD hu)
theorem op_gNe {K : PySem.W.Frag} (hu : X.A.units + 64 < cLine) (hK : X.K = K := by rfl) : OpR X (compareOp .NotEq) (gNe K) := by
  subst hK
  exact opOr op_ne (op_neD hu)
def gLt : R2 := rI0 fun i j => .bl (decide (i < j))
def gLe : R2 := rI0 fun i j => .bl (decide (i ≤ j))
def gGt : R2 := rI0 fun i j => .bl (decide (j < i))
def gGe : R2 := rI0 fun i j => .bl (decide (j ≤ i))
theorem op_gLt : OpR X (compareOp .Lt) gLt := op_lt
theorem op_gLe : OpR X (compareOp .LtE) gLe := op_le
theorem op_gGt : OpR X (compareOp .Gt) gGt := op_gt
theorem op_gGe : OpR X (compareOp .GtE) gGe := op_ge
def gIsN : R2 := fun x y H Q => y = .non ∧ Q (.bl (decide (x = .non))) H
def gNotN : R2 := fun x y H Q => y = .non ∧ Q (.bl (!decide (x = .non))) H
theorem op_gIs : OpR X (compareOp .Is) gIsN := op_isN
theorem op_gIsNot : OpR X (compareOp .IsNot) gNotN := op_notN
def gIn (K : PySem.W.Frag) : R2 := rOr (rIn K false) (rInD K)
def gNotIn (K : PySem.W.Frag) : R2 := rOr (rIn K true) (rNotInD K)
theorem op_gIn {K : PySem.W.Frag} (hu : X.A.units + 65 < cLine) (hK : X.K = K := by rfl) : OpR X (compareOp .In) (gIn K) := by
  subst hK
  exact opOr op_in_seq (op_inD hu)
theorem op_gNotIn {K : PySem.W.Frag} (hu : X.A.units + 65 < cLine) (hK : X.K = K := by rfl) : OpR X (compareOp .NotIn) (gNotIn K) := by
  subst hK
  exact opOr op_notIn_seq (op_notInD hu)
theorem ix_any {K : PySem.W.Frag} (hK : X.K = K := by rfl) : IxR X (rIx K) := by
  subst hK
  exact ix_seq
/-! walks -/
def iSeq (K : PySem.W.Frag) (tl : TE) : TI := fun σ H R => tl σ H fun x H1 => ∃ a, x = .ref a ∧ (((∃ xs, SqL K H1 a xs) ∧ R (Itl K a) H1) ∨ ((∃ xs, SqT K H1 a xs) ∧ R (Itt K a) H1))
theorem pi_seq {K : PySem.W.Frag} {tg l : Expr} {tl : TE} (hl : PE X l tl) (hK : X.K = K := by rfl) : PI X tg l (iSeq K tl) := by
  subst hK
  refine ⟨fun pins s σ H R I h => ?_⟩
  refine thn (hl.run pins s σ H _ I h) fun v s1 ⟨x, H1, I1, r1, q1⟩ => ?_
  obtain ⟨a, e, q1⟩ := q1
  subst e
  cases r1
  rcases q1 with ⟨⟨xs, hq⟩, q⟩ | ⟨⟨xs, hq⟩, q⟩
  · obtain ⟨its, rv, p, hz⟩ := I1.list hq
    refine wpAny_pyIter_list p.isList ?_
    refine ⟨s1.heap.objs.size, [s1.heap.objs.size], _, _, H1, rfl, I1.kept (t' := s1.toks) fun b o e => Heap.get?_push_of_some _ e, turn_list a _, ⟨_, Heap.get?_push_size _ rfl, rfl, rfl⟩, fun b hb => ?_, q⟩
    have e : b = s1.heap.objs.size := by simpa using hb
    subst e
    exact I1.fpOk (Nat.le_refl _) (I1.hok.fresh (Nat.le_refl _))
  · obtain ⟨its, rv, p, hz⟩ := I1.tuple hq
    refine wpAny_pyIter_tuple (show s1.heap.IsTuple a its.toArray from p) ?_
    refine ⟨s1.heap.objs.size, [s1.heap.objs.size], _, _, H1, rfl, I1.kept (t' := s1.toks) fun b o e => Heap.get?_push_of_some _ e, turn_tuple a _, ⟨_, Heap.get?_push_size _ rfl, rfl, rfl⟩, fun b hb => ?_, q⟩
    have e : b = s1.heap.objs.size := by simpa using hb
    subst e
    exact I1.fpOk (Nat.le_refl _) (I1.hok.fresh (Nat.le_refl _))
/-! calls by name -/
def FnAt (P : Program) (w : World) (K : PySem.W.Frag) (mg : Str → Option Value) (base : Heap) (CX : CXT) (k : Nat) (x : Str) (ps : List Str) (sp : Sp) : Prop :=
  ∃ f fd, (mg x = some (.ref f) ∧ (∃ oc od osl, K.lookup f = some ⟨oc, od, .func fd, osl⟩)) ∧ PySem.W.keepIn K (.ref f) = true ∧ (∀ (s : Shared) (us : List Value), us.length = ps.length → BindsTo s fd ⟨us, []⟩ (ps.zip us)) ∧ FnOk P w K mg base CX k f fd ps sp
theorem FnAt.imp {P : Program} {w : World} {K : PySem.W.Frag} {mg : Str → Option Value} {base : Heap} {CX : CXT} {k : Nat} {x : Str} {ps : List Str} {sp sp' : Sp} (F : FnAt P w K mg base CX k x ps sp) (h : ∀ vs H Q E, sp' vs H Q E → sp vs H Q E) : FnAt P w K mg base CX k x ps sp' :=
  let ⟨f, fd, a, b, c, d⟩ := F
  ⟨f, fd, a, b, c, d.imp h⟩
structure DefAt (K : PySem.W.Frag) (mg : Str → Option Value) (x : Str) (st : Stmt) (ps : List Str) : Prop where
  ex : ∃ f fd, Fun K x x st f fd ∧ mg x = some (.ref f) ∧ (∀ (s : Shared) (us : List Value), us.length = ps.length → BindsTo s fd ⟨us, []⟩ (ps.zip us))
theorem binds_of {K : PySem.W.Frag} {fd : FuncData} {ps : List Str} (h : ∀ (s : Shared) (us : List Value), us.length = ps.length → BindsTo s fd ⟨us, []⟩ (ps.zip us)) : Binds K fd ps [] := fun s us _ hl => by
  rw [List.append_nil] at hl ⊢
  exact h s us hl
theorem fun_look {K : PySem.W.Frag} {x qual : Str} {st : Stmt} {f : Addr} {fd : FuncData} (F : Fun K x qual st f fd) : ∃ oc od osl, K.lookup f = some ⟨oc, od, .func fd, osl⟩ := by
  obtain ⟨oc, od, kV, doc, pm, an, cdv, ct, osl, rfl, lk, _⟩ := F.ex
  exact ⟨oc, od, osl, lk⟩
theorem pe_fn {x : Str} {k : Nat} {ps : List Str} {sp : Sp} {e : Expr} {es : List Expr} {t : TA} {p pos : Pos} (F : FnAt X.prog X.w X.K X.mg X.base CX0 k x ps sp) (hr : Room k X.A) (hg : Gl X x) (ha : PA X (e :: es) t) (hdb : (x == ("__debug__" : Str)) = false := by decide)
    (he : starEach (e :: es) X.env = (false, eval e X.env) :: starEach es X.env := by rfl) (hpl : (backTo pos (starEach es X.env)).any (·.1) = false := by rfl) : PE X (.Call (.Name x p) (e :: es) [] pos) (tCall sp [] E0 t) := by
  obtain ⟨f, fd, ⟨hm, _⟩, hk, hb, F⟩ := F
  exact pe_call F hr hg hm hk (binds_of hb) .nil pass0 ha hdb he hpl
/-- the built-in names are the built-ins -/
structure Blt (mg : Str → Option Value) : Prop where
  range : mg "range" = none
  len : mg "len" = none
  abs : mg "abs" = none
  max : mg "max" = none
  min : mg "min" = none
  sum : mg "sum" = none
  any : mg "any" = none
  all : mg "all" = none
  int : mg "int" = none
  str : mg "str" = none
  tuple : mg "tuple" = none
  list : mg "list" = none
  bool : mg "bool" = none
  set : mg "set" = none
  sorted : mg "sorted" = none
  zip : mg "zip" = none
  enumerate : mg "enumerate" = none
  isinstance : mg "isinstance" = none
section
variable {e e2 : Expr} {t : TA} {p pos : Pos}
theorem pe_len {K : PySem.W.Frag} (b : X.mg "len" = none) (hg : Gl X "len") (ha : PA X [e] t) (he : starEach [e] X.env = (false, eval e X.env) :: starEach [] X.env := by rfl) (hpl : (backTo pos (starEach [] X.env)).any (·.1) = false := by rfl) (hK : X.K = K := by rfl) : PE X (.Call (.Name "len" p) [e] [] pos) (tCB (rLen K) t) := by
  subst hK
  exact pe_callB call_len hg b PySem.boot_len ha (by decide) (by decide) he hpl
theorem pe_abs (b : X.mg "abs" = none) (hg : Gl X "abs") (ha : PA X [e] t) (he : starEach [e] X.env = (false, eval e X.env) :: starEach [] X.env := by rfl) (hpl : (backTo pos (starEach [] X.env)).any (·.1) = false := by rfl) : PE X (.Call (.Name "abs" p) [e] [] pos) (tCB rAbs t) := pe_callB call_abs hg b (by decide +kernel) ha (by decide) (by decide) he hpl
theorem pe_max2 (b : X.mg "max" = none) (hc : X.calm = true) (hg : Gl X "max") (ha : PA X [e, e2] t) (he : starEach [e, e2] X.env = (false, eval e X.env) :: starEach [e2] X.env := by rfl) (hpl : (backTo pos (starEach [e2] X.env)).any (·.1) = false := by rfl) : PE X (.Call (.Name "max" p) [e, e2] [] pos) (tCB rMax2 t) := pe_callB (call_max2 hc) hg b (by decide +kernel) ha (by decide) (by decide) he hpl
theorem pe_min2 (b : X.mg "min" = none) (hc : X.calm = true) (hg : Gl X "min") (ha : PA X [e, e2] t) (he : starEach [e, e2] X.env = (false, eval e X.env) :: starEach [e2] X.env := by rfl) (hpl : (backTo pos (starEach [e2] X.env)).any (·.1) = false := by rfl) : PE X (.Call (.Name "min" p) [e, e2] [] pos) (tCB rMin2 t) := pe_callB (call_min2 hc) hg b (by decide +kernel) ha (by decide) (by decide) he hpl
theorem pe_max1 {K : PySem.W.Frag} (b : X.mg "max" = none) (hc : X.calm = true) (hg : Gl X "max") (ha : PA X [e] t) (he : starEach [e] X.env = (false, eval e X.env) :: starEach [] X.env := by rfl) (hpl : (backTo pos (starEach [] X.env)).any (·.1) = false := by rfl) (hK : X.K = K := by rfl) : PE X (.Call (.Name "max" p) [e] [] pos) (tCB (rMax K) t) := by
  subst hK
  exact pe_callB (cr_max hc) hg b (by decide +kernel) ha (by decide) (by decide) he hpl
theorem pe_min1 {K : PySem.W.Frag} (b : X.mg "min" = none) (hc : X.calm = true) (hg : Gl X "min") (ha : PA X [e] t) (he : starEach [e] X.env = (false, eval e X.env) :: starEach [] X.env := by rfl) (hpl : (backTo pos (starEach [] X.env)).any (·.1) = false := by rfl) (hK : X.K = K := by rfl) : PE X (.Call (.Name "min" p) [e] [] pos) (tCB (rMin K) t) := by
  subst hK
  exact pe_callB (cr_min hc) hg b (by decide +kernel) ha (by decide) (by decide) he hpl
theorem pe_sum {K : PySem.W.Frag} (b : X.mg "sum" = none) (hc : X.calm = true) (hg : Gl X "sum") (ha : PA X [e] t) (he : starEach [e] X.env = (false, eval e X.env) :: starEach [] X.env := by rfl) (hpl : (backTo pos (starEach [] X.env)).any (·.1) = false := by rfl) (hK : X.K = K := by rfl) : PE X (.Call (.Name "sum" p) [e] [] pos) (tCB (rSum K) t) := by
  subst hK
  exact pe_callB (cr_sum hc) hg b (by decide +kernel) ha (by decide) (by decide) he hpl
theorem pe_any {K : PySem.W.Frag} (b : X.mg "any" = none) (hc : X.calm = true) (hg : Gl X "any") (ha : PA X [e] t) (he : starEach [e] X.env = (false, eval e X.env) :: starEach [] X.env := by rfl) (hpl : (backTo pos (starEach [] X.env)).any (·.1) = false := by rfl) (hK : X.K = K := by rfl) : PE X (.Call (.Name "any" p) [e] [] pos) (tCB (rAny K) t) := by
  subst hK
  exact pe_callB (cr_any hc) hg b (by decide +kernel) ha (by decide) (by decide) he hpl
theorem pe_all {K : PySem.W.Frag} (b : X.mg "all" = none) (hc : X.calm = true) (hg : Gl X "all") (ha : PA X [e] t) (he : starEach [e] X.env = (false, eval e X.env) :: starEach [] X.env := by rfl) (hpl : (backTo pos (starEach [] X.env)).any (·.1) = false := by rfl) (hK : X.K = K := by rfl) : PE X (.Call (.Name "all" p) [e] [] pos) (tCB (rAll K) t) := by
  subst hK
  exact pe_callB (cr_all hc) hg b (by decide +kernel) ha (by decide) (by decide) he hpl
theorem pe_sorted {K : PySem.W.Frag} (b : X.mg "sorted" = none) (hg : Gl X "sorted") (ha : PA X [e] t) (he : starEach [e] X.env = (false, eval e X.env) :: starEach [] X.env := by rfl) (hpl : (backTo pos (starEach [] X.env)).any (·.1) = false := by rfl) (hK : X.K = K := by rfl) : PE X (.Call (.Name "sorted" p) [e] [] pos) (tCB (rSorted K) t) := by
  subst hK
  exact pe_callB cr_sorted hg b (by decide +kernel) ha (by decide) (by decide) he hpl
theorem pe_int1 (b : X.mg "int" = none) (hg : Gl X "int") (ha : PA X [e] t) (he : starEach [e] X.env = (false, eval e X.env) :: starEach [] X.env := by rfl) (hpl : (backTo pos (starEach [] X.env)).any (·.1) = false := by rfl) : PE X (.Call (.Name "int" p) [e] [] pos) (tCB rInt1 t) := pe_callTy call_int1 hg b (by decide +kernel) ha (by decide) (by decide) he hpl
theorem pe_strI (b : X.mg "str" = none) (hg : Gl X "str") (ha : PA X [e] t) (he : starEach [e] X.env = (false, eval e X.env) :: starEach [] X.env := by rfl) (hpl : (backTo pos (starEach [] X.env)).any (·.1) = false := by rfl) : PE X (.Call (.Name "str" p) [e] [] pos) (tCB rStrI t) := pe_callTy call_str_int hg b (by decide +kernel) ha (by decide) (by decide) he hpl
theorem pe_tupOf {K : PySem.W.Frag} (b : X.mg "tuple" = none) (hg : Gl X "tuple") (ha : PA X [e] t) (he : starEach [e] X.env = (false, eval e X.env) :: starEach [] X.env := by rfl) (hpl : (backTo pos (starEach [] X.env)).any (·.1) = false := by rfl) (hK : X.K = K := by rfl) : PE X (.Call (.Name "tuple" p) [e] [] pos) (tCB (rTupOf K) t) := by
  subst hK
  exact pe_callTy call_tuple_of hg b (by decide +kernel) ha (by decide) (by decide) he hpl
theorem pe_listOf {K : PySem.W.Frag} (b : X.mg "list" = none) (hg : Gl X "list") (ha : PA X [e] t) (he : starEach [e] X.env = (false, eval e X.env) :: starEach [] X.env := by rfl) (hpl : (backTo pos (starEach [] X.env)).any (·.1) = false := by rfl) (hK : X.K = K := by rfl) : PE X (.Call (.Name "list" p) [e] [] pos) (tCB (rListOf K) t) := by
  subst hK
  exact pe_callTy call_list_of hg b (by decide +kernel) ha (by decide) (by decide) he hpl
end
end
/-! ### their readings -/
section
variable {K : PySem.W.Frag} {e : Ent} {ρ : Rho} {M : List MO} {Q : Sl → Prop} {te ta tb : TE} {x y : Sl}
theorem er_l {r s : R2} (h : EvR K r M x y Q) : EvR K (rOr r s) M x y Q := fun α F H u v S o1 o2 k kk => .inl (h α F H u v S o1 o2 k kk)
theorem er_r {r s : R2} (h : EvR K s M x y Q) : EvR K (rOr r s) M x y Q := fun α F H u v S o1 o2 k kk => .inr (h α F H u v S o1 o2 k kk)
theorem g_add {i j : Int} (q : Q (.v (.int (i + j)))) : EvR K (gAdd K) M (.v (.int i)) (.v (.int j)) Q := er_l (er_I0 q)
theorem g_addL {ds es : List D} (h1 : RdL M x ds) (h2 : RdL M y es) (hz : ds.length + es.length ≤ 16777216) (q : Q (.v (.lst (ds ++ es)))) : EvR K (gAdd K) M x y Q := er_r (er_l (er_l (er_cat h1 h2 hz q)))
theorem g_addT {ds es : List D} (hz : ds.length + es.length ≤ 16777216) (q : Q (.v (.tup (ds ++ es)))) : EvR K (gAdd K) M (.v (.tup ds)) (.v (.tup es)) Q := er_r (er_l (er_r (er_catT hz q)))
theorem g_addS {i j : Str} (hz : i.length + j.length ≤ 16777216) (q : Q (.v (.str (i ++ j)))) : EvR K (gAdd K) M (.v (.str i)) (.v (.str j)) Q := er_r (er_r fun α F H u v S o1 o2 k kk => by
  have o1 : u = .str i := o1
  have o2 : v = .str j := o2
  subst o1; subst o2
  exact ⟨i, j, rfl, rfl, by rw [sizeLine_eq]; exact hz, kk _ F H _ .refl S raw_ok q⟩)
theorem g_sub {i j : Int} (q : Q (.v (.int (i - j)))) : EvR K gSub M (.v (.int i)) (.v (.int j)) Q := er_I0 q
theorem g_mul {i j : Int} (hc : CMulW i j) (q : Q (.v (.int (i * j)))) : EvR K (gMul K) M (.v (.int i)) (.v (.int j)) Q := er_l (er_l (er_I hc q))
theorem g_mulS {i j : Int} (hc : CMul i j) (q : Q (.v (.int (i * j)))) : EvR K (gMul K) M (.v (.int i)) (.v (.int j)) Q := er_l (er_r (er_I hc q))
theorem g_rep {ds : List D} {i : Int} (h : RdL M x ds) (h1 : -(2 ^ 63) ≤ i) (h2 : i < 2 ^ 63) (hz : ds.length * i.toNat ≤ 16777216) (q : Q (.v (.lst (List.replicate i.toNat ds).flatten))) : EvR K (gMul K) M x (.v (.int i)) Q := er_r (er_l (er_rep h h1 h2 hz q))
theorem g_repT {ds : List D} {i : Int} (h0 : ds ≠ []) (h1 : 2 ≤ i) (h2 : i ≤ 1000) (hz : ds.length ≤ 1000) (q : Q (.v (.tup (List.replicate i.toNat ds).flatten))) : EvR K (gMul K) M (.v (.tup ds)) (.v (.int i)) Q := er_r (er_r (er_repT h0 h1 h2 hz q))
theorem g_div {i j : Int} (hc : CDivW i j) (q : Q (.v (.int (i / j)))) : EvR K gDiv M (.v (.int i)) (.v (.int j)) Q := er_l (er_I hc q)
theorem g_fdiv {i j : Int} (hc : CDivN i j) (q : Q (.v (.int (i.fdiv j)))) : EvR K gDiv M (.v (.int i)) (.v (.int j)) Q := er_r (er_I hc q)
theorem g_mod {i j : Int} (hc : 0 < j) (q : Q (.v (.int (i % j)))) : EvR K gMod M (.v (.int i)) (.v (.int j)) Q := er_l (er_I hc q)
theorem g_fmod {i j : Int} (hc : j ≠ 0) (q : Q (.v (.int (i.fmod j)))) : EvR K gMod M (.v (.int i)) (.v (.int j)) Q := er_r (er_I hc q)
theorem g_pow {i j : Int} (hc : CPow i j) (q : Q (.v (.int (i ^ j.toNat)))) : EvR K gPow M (.v (.int i)) (.v (.int j)) Q := er_I hc q
theorem g_lt {i j : Int} (q : Q (.v (.bl (decide (i < j))))) : EvR K gLt M (.v (.int i)) (.v (.int j)) Q := er_I0 q
theorem g_le {i j : Int} (q : Q (.v (.bl (decide (i ≤ j))))) : EvR K gLe M (.v (.int i)) (.v (.int j)) Q := er_I0 q
theorem g_gt {i j : Int} (q : Q (.v (.bl (decide (j < i))))) : EvR K gGt M (.v (.int i)) (.v (.int j)) Q := er_I0 q
theorem g_ge {i j : Int} (q : Q (.v (.bl (decide (j ≤ i))))) : EvR K gGe M (.v (.int i)) (.v (.int j)) Q := er_I0 q
theorem dec_int' {i j : Int} : decide (V.int i = V.int j) = decide (i = j) := by simp
theorem g_eqI {i j : Int} (q : Q (.v (.bl (decide (i = j))))) : EvR K (gEq K) M (.v (.int i)) (.v (.int j)) Q := er_l (er_eq rfl (by rw [dec_int']; exact q))
theorem g_neI {i j : Int} (q : Q (.v (.bl (!decide (i = j))))) : EvR K (gNe K) M (.v (.int i)) (.v (.int j)) Q := er_l (er_ne rfl (by rw [dec_int']; exact q))
theorem g_eqV {a b : V} (h : scal a b = true) (q : Q (.v (.bl (decide (a = b))))) : EvR K (gEq K) M (.v (.raw a)) (.v (.raw b)) Q := er_l (er_eq h q)
theorem g_neV {a b : V} (h : scal a b = true) (q : Q (.v (.bl (!decide (a = b))))) : EvR K (gNe K) M (.v (.raw a)) (.v (.raw b)) Q := er_l (er_ne h q)
theorem g_eqD {a b : D} (n : Nat) (hx : a.pl n = true) (hy : b.pl n = true) (hn : n ≤ 64) (q : Q (.v (.bl (a.eqv b)))) : EvR K (gEq K) M (.v a) (.v b) Q := er_r (er_eqD n hx hy hn q)
theorem g_neD {a b : D} (n : Nat) (hx : a.pl n = true) (hy : b.pl n = true) (hn : n ≤ 64) (q : Q (.v (.bl (!a.eqv b)))) : EvR K (gNe K) M (.v a) (.v b) Q := er_r (er_neD n hx hy hn q)
theorem g_isN {s : Sl} (b : Bool) (h : ∀ (α : Al) (F : Hp) v, SlOk K α F s v → decide (v = .non) = b) (q : Q (.v (.bl b))) : EvR K gIsN M s (.v .non) Q := fun α F H u v S o1 o2 k kk => by
  have o2 : v = .non := o2
  subst o2
  exact ⟨rfl, by rw [h α F u o1]; exact kk _ F H _ .refl S raw_ok q⟩
theorem g_notN {s : Sl} (b : Bool) (h : ∀ (α : Al) (F : Hp) v, SlOk K α F s v → decide (v = .non) = b) (q : Q (.v (.bl (!b)))) : EvR K gNotN M s (.v .non) Q := fun α F H u v S o1 o2 k kk => by
  have o2 : v = .non := o2
  subst o2
  exact ⟨rfl, by rw [h α F u o1]; exact kk _ F H _ .refl S raw_ok q⟩
theorem g_inI {i : Int} {y : Sl} {ns : List Int} (h : RdS M y (D.ints ns)) (q : Q (.v (.bl (decide (i ∈ ns))))) : EvR K (gIn K) M (.v (.int i)) y Q := er_l (er_inI (neg := false) h q)
theorem g_notInI {i : Int} {y : Sl} {ns : List Int} (h : RdS M y (D.ints ns)) (q : Q (.v (.bl (!decide (i ∈ ns))))) : EvR K (gNotIn K) M (.v (.int i)) y Q := er_l (er_inI (neg := true) h q)
theorem g_in {x : V} {y : Sl} {xs : List V} (h : RdS M y (xs.map D.raw)) (hx : flatV x = true) (hf : xs.all flatV = true) (q : Q (.v (.bl (inV x xs)))) : EvR K (gIn K) M (.v (.raw x)) y Q := er_l (er_in (neg := false) h hx hf q)
theorem g_notIn {x : V} {y : Sl} {xs : List V} (h : RdS M y (xs.map D.raw)) (hx : flatV x = true) (hf : xs.all flatV = true) (q : Q (.v (.bl (!inV x xs)))) : EvR K (gNotIn K) M (.v (.raw x)) y Q := er_l (er_in (neg := true) h hx hf q)
theorem py_any {c : D} : ∀ ds : List D, ((D.pyAll ds).any fun z => PyData.eqv z c.py) = ds.any fun z => z.eqv c
  | [] => by simp [D.pyAll]
  | d :: ds => by simp only [D.pyAll, List.any_cons, py_any ds, D.eqv]
theorem g_inD {c : D} {ds : List D} (n : Nat) (hx : c.pl n = true) (hy : (D.lst ds).pl n = true) (hn : n ≤ 64) (q : Q (.v (.bl (ds.any fun z => z.eqv c)))) : EvR K (gIn K) M (.v c) (.v (.lst ds)) Q := er_r fun α F H u v S o1 o2 k kk => by
  have e1 := D.dp S.sub n _ v hy o2
  have e2 := D.shaped hy hn
  simp only [D.py] at e1 e2
  exact ⟨c.py, D.pyAll ds, D.dp S.sub n c u hx o1, e1, D.shaped hx hn, e2, by rw [py_any]; exact kk _ F H _ .refl S raw_ok q⟩
theorem g_notInD {c : D} {ds : List D} (n : Nat) (hx : c.pl n = true) (hy : (D.lst ds).pl n = true) (hn : n ≤ 64) (q : Q (.v (.bl (!ds.any fun z => z.eqv c)))) : EvR K (gNotIn K) M (.v c) (.v (.lst ds)) Q := er_r fun α F H u v S o1 o2 k kk => by
  have e1 := D.dp S.sub n _ v hy o2
  have e2 := D.shaped hy hn
  simp only [D.py] at e1 e2
  exact ⟨c.py, D.pyAll ds, D.dp S.sub n c u hx o1, e1, D.shaped hx hn, e2, by rw [py_any]; exact kk _ F H _ .refl S raw_ok q⟩
/-- is it None? -/
def D.isNon : D → Bool
  | .raw .non => true
  | _ => false
theorem isNon_ok {d : D} (α : Al) (F : Hp) (v : V) (o : SlOk K α F (.v d) v) : decide (v = .non) = d.isNon := by
  cases d with
  | raw x =>
    have o : v = x := o
    subst o
    cases v <;> simp [D.isNon]
  | tup ds => obtain ⟨a, vs, rfl, _⟩ := o; simp [D.isNon]
  | lst ds => obtain ⟨a, vs, rfl, _⟩ := o; simp [D.isNon]
  | dic ks ds => obtain ⟨a, vs, rfl, _⟩ := o; simp [D.isNon]
  | ins C ns ds => obtain ⟨a, dx, vs, rfl, _⟩ := o; simp [D.isNon]
  | rd ds => obtain ⟨a, vs, rfl, _⟩ := o; simp [D.isNon]
theorem g_isND {d : D} (q : Q (.v (.bl d.isNon))) : EvR K gIsN M (.v d) (.v .non) Q := g_isN _ isNon_ok q
theorem g_notND {d : D} (q : Q (.v (.bl (!d.isNon)))) : EvR K gNotN M (.v d) (.v .non) Q := g_notN _ isNon_ok q
theorem g_ixT {ds : List D} {i : Int} {d : D} (ha : atI ds i = some d) (q : Q (.v d)) : EvR K (rIx K) M (.v (.tup ds)) (.v (.int i)) Q := fun α F H u v S o1 o2 k kk => .inr (.inl (er_ixT ha q α F H u v S o1 o2 k kk))
theorem g_ixL {ds : List D} {i : Int} {d : D} (h : RdL M x ds) (ha : atI ds i = some d) (q : Q (.v d)) : EvR K (rIx K) M x (.v (.int i)) Q := fun α F H u v S o1 o2 k kk => .inl (er_ixL h ha q α F H u v S o1 o2 k kk)
/-- walks -/
def D.seq (b : Bool) (ds : List D) : D := if b then .tup ds else .lst ds
theorem RdS.seq {b : Bool} {ds : List D} : RdS M (.v (D.seq b ds)) ds := by
  cases b with
  | true => exact .t
  | false => exact .l .v
theorem ei_seqS {R : List D → Prop} (h : EvP K te ρ M fun s => ∃ ds, (∃ b, s = .v (D.seq b ds)) ∧ R ds) : EvI K (iSeq K te) ρ M R := fun σ α F H en S k kk =>
  h σ α F H en S _ fun v F1 H1 s m1 S1 o1 ⟨ds, ⟨b, e1⟩, q⟩ => by
    subst e1
    cases b with
    | true =>
      obtain ⟨a, vs, rfl, h1, h2⟩ := o1
      exact ⟨a, rfl, .inr ⟨⟨vs, sqt_same K S1.sub h1⟩, kk _ F1 H1 ds m1 S1 (itt_ok h1 h2) q⟩⟩
    | false =>
      obtain ⟨a, vs, rfl, h1, h2⟩ := o1
      exact ⟨a, rfl, .inl ⟨⟨vs, SqL.of (S1.sub _ _ h1)⟩, kk _ F1 H1 ds m1 S1 (itl_ok h1 h2) q⟩⟩
theorem ei_seqL {R : List D → Prop} (h : EvP K te ρ M fun s => ∃ ds, s = .v (.lst ds) ∧ R ds) : EvI K (iSeq K te) ρ M R := ei_seqS (h.mono fun s ⟨ds, e, r⟩ => ⟨ds, ⟨false, e⟩, r⟩)
theorem ei_seqT {R : List D → Prop} (h : EvP K te ρ M fun s => ∃ ds, s = .v (.tup ds) ∧ R ds) : EvI K (iSeq K te) ρ M R := ei_seqS (h.mono fun s ⟨ds, e, r⟩ => ⟨ds, ⟨true, e⟩, r⟩)
end
section
variable {P : Program} {w : World} {K : PySem.W.Frag} {mg : Str → Option Value} {base : Heap}
/-- a def that keeps a promise over plain data -/
theorem fn_at {ι : Type} {x : Str} {st : Stmt} {ps N : List Str} {k : Nat} {args : ι → List Sl} {Mi : ι → List MO} {pre : ι → Prop} {post : ι → D → List MO → Prop} (D0 : DefAt K mg x st ps) (S : FnScope N ps (defScope st)) (hl : ∀ i, (args i).length = ps.length)
    (body : ∀ (f : Addr) (cdv : Value) (A : Around) (outer : List Env) (s : Shared) (H : Hp) (E : XK), Room k (A.deeper (PyProof.Rows.envOfC x (defScope st) s.heap.objs.size f cdv)) →
      ∃ t, PSs (cxOf CX0 P w K mg base N x (defScope st) f cdv A outer s H E).nox (defBody st) t ∧
        ∀ i e, pre i → e.α.length = (Mi i).length → RunD K e t (startR N.length (args i)) (Mi i) (fun _ M' => post i .non (M'.take (Mi i).length)) (RetOk (Mi i).length (post i)) (fun _ _ => False) (fun _ _ => False)) :
    FnAt P w K mg base CX0 (k + 1) x ps (SpF K args Mi pre post) := by
  obtain ⟨f, fd, F, hm, hb⟩ := D0.ex
  refine ⟨f, fd, ⟨hm, fun_look F⟩, F.kp, hb, F.ok S (fun vs H Q E h => ?_) fun cdv A outer s H vs Q E hr h => ?_⟩
  · obtain ⟨i, α, F', o, _⟩ := h
    rw [← o.length, hl]
  · obtain ⟨t, ht, hi⟩ := body f cdv A outer s H E hr
    exact ⟨t, ht, fn_run hi vs H Q E h⟩
end
end DL

/-! DL6: the readings once more, each with one question. -/
namespace DL
open PySem L2
section
variable {K : PySem.W.Frag} {e : Ent} {ρ : Rho} {M : List MO} {Q : Sl → Prop} {te ta tb : TE} {x y : Sl} {nx bk ct : Rho → List MO → Prop} {rt : Sl → List MO → Prop}
theorem x_var {i : Nat} (h : ∃ s, ρ[i]? = some (some s) ∧ Q s) : EvP K (tVar i) ρ M Q := let ⟨_, a, b⟩ := h; ev_var a b
theorem x_mul {i j : Int} (h : CMulW i j ∧ Q (.v (.int (i * j)))) : EvR K (gMul K) M (.v (.int i)) (.v (.int j)) Q := g_mul h.1 h.2
theorem x_div {i j : Int} (h : CDivW i j ∧ Q (.v (.int (i / j)))) : EvR K gDiv M (.v (.int i)) (.v (.int j)) Q := g_div h.1 h.2
theorem x_mod {i j : Int} (h : 0 < j ∧ Q (.v (.int (i % j)))) : EvR K gMod M (.v (.int i)) (.v (.int j)) Q := g_mod h.1 h.2
theorem x_pow {i j : Int} (h : CPow i j ∧ Q (.v (.int (i ^ j.toNat)))) : EvR K gPow M (.v (.int i)) (.v (.int j)) Q := g_pow h.1 h.2
theorem x_ixT {ds : List D} {i : Int} (h : ∃ d, atI ds i = some d ∧ Q (.v d)) : EvR K (rIx K) M (.v (.tup ds)) (.v (.int i)) Q := let ⟨_, a, b⟩ := h; g_ixT a b
theorem x_ixL {ds : List D} {i : Int} (h : ∃ d, atI ds i = some d ∧ Q (.v d)) : EvR K (rIx K) M (.v (.lst ds)) (.v (.int i)) Q := let ⟨_, a, b⟩ := h; g_ixL .v a b
theorem x_ixM {k : Nat} {i : Int} (h : ∃ ds, M[k]? = some (.lst ds) ∧ ∃ d, atI ds i = some d ∧ Q (.v d)) : EvR K (rIx K) M (.l k) (.v (.int i)) Q := let ⟨_, z, _, a, b⟩ := h; g_ixL (.l z) a b
theorem x_lenL {ds : List D} (q : Q (.v (.int (ds.length : Int)))) : EvC K (rLen K) M [.v (.lst ds)] Q := ec_len (.l .v) q
theorem x_lenT {ds : List D} (q : Q (.v (.int (ds.length : Int)))) : EvC K (rLen K) M [.v (.tup ds)] Q := ec_len .t q
theorem x_lenS {b : Bool} {ds : List D} (q : Q (.v (.int (ds.length : Int)))) : EvC K (rLen K) M [.v (D.seq b ds)] Q := ec_len .seq q
theorem x_lenM {k : Nat} (h : ∃ ds, M[k]? = some (.lst ds) ∧ Q (.v (.int (ds.length : Int)))) : EvC K (rLen K) M [.l k] Q := let ⟨_, z, b⟩ := h; ec_len (.l (.l z)) b
theorem x_tupL {ds : List D} (q : Q (.v (.tup ds))) : EvC K (rTupOf K) M [.v (.lst ds)] Q := ec_tupOf (.l .v) q
theorem x_tupM {k : Nat} (h : ∃ ds, M[k]? = some (.lst ds) ∧ Q (.v (.tup ds))) : EvC K (rTupOf K) M [.l k] Q := let ⟨_, z, b⟩ := h; ec_tupOf (.l (.l z)) b
theorem x_app {i : Nat} (h : ∃ k ds, ρ[i]? = some (some (.l k)) ∧ M[k]? = some (.lst ds) ∧ EvP K te ρ M fun s => ∃ d, s = .v d ∧ ds.length < 16777216 ∧ nx ρ (M.set k (.lst (ds ++ [d])))) :
    RunD K e (tDrop (tBM K "list" rAppend (tVar i) (tCons te tNil))) ρ M nx rt bk ct := let ⟨_, _, a, b, c⟩ := h; r_app a b c
theorem units65 {k : Nat} {A : Around} (r : Room k A) : A.units + 65 < cLine := by have := r.un; omega
theorem r_via {t : TS} (I : Rho → List MO → Prop) (h1 : RunD K e t ρ M I rt bk ct) (h2 : ∀ ρ' M', I ρ' M' → nx ρ' M') : RunD K e t ρ M nx rt bk ct := h1.mono h2 (fun _ _ h => h) (fun _ _ h => h) (fun _ _ h => h)
theorem env_intro {ρ : Rho} {l : (Nat → Option Sl) → Rho} {R : Prop} (h : ρ = l (fun i => ρ.getD i none)) (r : R) : ∃ o, ρ = l o ∧ R := ⟨_, h, r⟩
theorem ite_dec {c A B : Prop} [Decidable c] (h1 : c → A) (h2 : ¬ c → B) : if decide c = true then A else B := by
  by_cases h : c
  · rw [if_pos (decide_eq_true h)]; exact h1 h
  · rw [if_neg (by simpa using h)]; exact h2 h
theorem ite_ndec {c A B : Prop} [Decidable c] (h1 : ¬ c → A) (h2 : c → B) : if (!decide c) = true then A else B := by
  by_cases h : c
  · rw [if_neg (by simpa using h)]; exact h2 h
  · rw [if_pos (by simpa using h)]; exact h1 h
theorem ite_b {b : Bool} {A B : Prop} (h1 : b = true → A) (h2 : b = false → B) : if b = true then A else B := by
  cases b with
  | true => rw [if_pos rfl]; exact h1 rfl
  | false => rw [if_neg (by simp)]; exact h2 rfl
theorem le_lit {n m : Nat} (h : Nat.ble n m = true) : n ≤ m := Nat.le_of_ble_eq_true h
theorem mulW {i j : Int} {a b : Nat} (ha : i.natAbs < 2 ^ a) (hb : j.natAbs < 2 ^ b) (h : a + b ≤ 999990) : CMulW i j :=
  wide_mul (a := a + 1) (b := b + 1) (Nat.lt_of_lt_of_le ha (Nat.pow_le_pow_right (by decide) (by omega))) (Nat.lt_of_lt_of_le hb (Nat.pow_le_pow_right (by decide) (by omega))) (by omega) (by omega) (by omega)
theorem divW {i j : Int} {b : Nat} (h : 0 < j) (hb : j.natAbs < 2 ^ b) (h9 : b ≤ 8990) : CDivW i j := wide_div (b := b + 1) h (Nat.lt_of_lt_of_le hb (Nat.pow_le_pow_right (by decide) (by omega))) (by omega) (by omega)
theorem mul_lt {i j : Int} {a b : Nat} (ha : i.natAbs < 2 ^ a) (hb : j.natAbs < 2 ^ b) : (i * j).natAbs < 2 ^ (a + b) := wide_lt ha hb
theorem bit_le {i : Int} {a b : Nat} (ha : i.natAbs < 2 ^ a) (h : a ≤ b) : i.natAbs < 2 ^ b := Nat.lt_of_lt_of_le ha (Nat.pow_le_pow_right (by decide) h)
theorem add_lt {i j : Int} {a : Nat} (ha : i.natAbs < 2 ^ a) (hb : j.natAbs < 2 ^ a) : (i + j).natAbs < 2 ^ (a + 1) := by
  rw [Nat.pow_succ]; omega
theorem sub_lt {i j : Int} {a : Nat} (ha : i.natAbs < 2 ^ a) (hb : j.natAbs < 2 ^ a) : (i - j).natAbs < 2 ^ (a + 1) := by
  rw [Nat.pow_succ]; omega
theorem ret_v {n : Nat} {post : D → List MO → Prop} {d : D} {M' : List MO} (h : post d (M'.take n)) : RetOk n post (.v d) M' := .inl ⟨d, rfl, h⟩
end
/-- a whole number of the module's top -/
structure CInt (mg : Str → Option Value) (x : Str) (i : Int) : Prop where
  ex : ∃ t, mg x = some (.int i t)
theorem CInt.pe {X : Cx} {x : Str} {i : Int} {pos : Pos} (c : CInt X.mg x i) (hg : Gl X x) (hd : (x == ("__debug__" : Str)) = false := by decide) : PE X (.Name x pos) (tC (.int i)) := by
  obtain ⟨t, h⟩ := c.ex
  exact pe_glob hg h ⟨t, rfl⟩ hd
end DL

/-! DL7: the source of draws; new things of a call. -/
namespace DL
open PySem L2
section
variable {K : PySem.W.Frag} {e : Ent} {ρ : Rho} {M : List MO} {Q : Sl → Prop} {te ta tb : TE} {x y : Sl} {nx bk ct : Rho → List MO → Prop} {rt : Sl → List MO → Prop}
theorem Sta.add {α : Al} {F H H' : Hp} (S : Sta K α M F H) {p : Addr × Addr} {m' : MO} (s : Same H H') (h1 : H p.1 = none) (h2 : H p.2 = none) (k1 : H' p.1 ≠ none) (k2 : H' p.2 ≠ none) (hm : MObj K F H' m' p) : Sta K (α ++ [p]) (M ++ [m']) F H' := by
  have t2 : ∀ b, H b ≠ none → H' b ≠ none := fun b h => by
    cases z : H b with
    | none => exact absurd z h
    | some o => rw [s b o z]; simp
  refine ⟨S.sub.trans s, by simp [S.len], fun i m q h1 h2 => ?_, fun i j q r hij g1 g2 => ?_, fun q hq => ?_⟩
  · by_cases hi : i < α.length
    · rw [List.getElem?_append_left (by rw [S.len]; exact hi)] at h1
      rw [List.getElem?_append_left hi] at h2
      exact (S.ob i m q h1 h2).keep (.refl F) (fun z => z) (fun z => z) (fun o z => s _ o z) (fun o z => s _ o z)
    · have hi2 : i = α.length := by
        have := (List.getElem?_eq_some_iff.mp h2).1
        simp at this; omega
      subst hi2
      rw [← S.len, List.getElem?_append_right (Nat.le_refl _)] at h1
      rw [List.getElem?_append_right (Nat.le_refl _)] at h2
      simp at h1 h2
      subst h1; subst h2
      exact hm
  · have hj : j < α.length ∨ j = α.length := by
      have := (List.getElem?_eq_some_iff.mp g2).1
      simp at this; omega
    have hi : i < α.length := by omega
    rw [List.getElem?_append_left hi] at g1
    rcases hj with hj | hj
    · rw [List.getElem?_append_left hj] at g2
      exact S.ap i j q r hij g1 g2
    · subst hj
      rw [List.getElem?_append_right (Nat.le_refl _)] at g2
      simp at g2
      subst g2
      have hq := S.tr q (List.mem_of_getElem? g1)
      exact ⟨fun z => hq.1 (by rw [z]; exact h1), fun z => hq.1 (by rw [z]; exact h2), fun z => hq.2 (by rw [z]; exact h1), fun z => hq.2 (by rw [z]; exact h2)⟩
  · rcases List.mem_append.mp hq with z | z
    · exact ⟨t2 _ (S.tr q z).1, t2 _ (S.tr q z).2⟩
    · simp at z; subst z
      exact ⟨k1, k2⟩
theorem StepE.add {α : Al} {F H H' : Hp} (st : StepE e α F H) {p : Addr × Addr} (s : Same H H') (h1 : H p.1 = none) (h2 : H p.2 = none) : StepE e (α ++ [p]) F H' where
  ex := st.ex
  fr := fun b u h k => s b u (st.fr b u h k)
  tr := fun b h => by
    have := st.tr b h
    cases z : H b with
    | none => exact absurd z this
    | some o => rw [s b o z]; simp
  new := st.new
  pre := by
    obtain ⟨β, e1, hβ⟩ := st.pre
    refine ⟨β ++ [p], by rw [e1, List.append_assoc], fun q hq => ?_⟩
    rcases List.mem_append.mp hq with z | z
    · exact hβ q z
    · simp at z; subst z
      exact ⟨none_back (st.tr _) h1, none_back (st.tr _) h2⟩
/-- the making of a source of draws -/
def spMix (K : PySem.W.Frag) : Sp := fun vs H Q _ => ∃ (a : Addr) (cells : List Int) (seed : Int), vs = [.ref a, .int seed] ∧ SqL K H a (cells.map V.int) ∧ cells.length ≤ 63 ∧ 0 ≤ seed ∧ seed < 2147483647 ∧
  ∀ p H', H p.1 = none → H p.2 = none → Same H H' → Rng H' p → Q (.ref p.1) H'
theorem r_mix {i : Nat} {t : TA} {X : XK} (h : EvA K t ρ M fun ss => ∃ (cells : List Int) (seed : Int), ss = [.v (.rd (D.ints cells)), .v (.int seed)] ∧ cells.length ≤ 63 ∧ 0 ≤ seed ∧ seed < 2147483647 ∧ nx (ρ.set i (some (.l M.length))) (M ++ [.rng])) :
    RunD K e (tAsg (tCall (spMix K) [] X t) (gName i)) ρ M nx rt bk ct := fun Y σ α F H g ok =>
  h σ α F H g.env g.sta _ fun vs F1 H1 ss m1 S1 o1 ⟨cells, seed, e1, h63, s0, s1, q1⟩ => by
    subst e1
    obtain ⟨v, r, rfl, o1, o2⟩ := o1
    obtain ⟨w, r', rfl, o3, o4⟩ := o2
    have o4 : r' = [] := o4
    have o3 : w = .int seed := o3
    subst o3; subst o4
    obtain ⟨a, us, rfl, hs, hd⟩ := o1
    have e2 := hd.ofInts
    subst e2
    refine ⟨a, cells, seed, rfl, S1.sub.seq hs, h63, s0, s1, fun p H' n1 n2 s2 R => ?_⟩
    have k1 : H' p.1 ≠ none := by
      obtain ⟨_, _, _, _, z, _⟩ := R
      rw [z]; simp
    have k2 : H' p.2 ≠ none := by
      obtain ⟨_, _, _, _, _, z, _⟩ := R
      rw [z]; simp
    have S2 := S1.add (m' := .rng) s2 n1 n2 k1 k2 ⟨S1.sub.free n1, S1.sub.free n2, R⟩
    exact ok.nx _ _ F1 _ _ _ ⟨((g.env.mono m1.ex).more).set i (loc_ok (p := p) (by rw [S1.len, List.getElem?_append_right (Nat.le_refl _)]; simp)), S2, (g.st.move m1).add s2 n1 n2⟩ m1.ex q1
end
section
variable {P : Program} {w : World} {K : PySem.W.Frag} {mg : Str → Option Value} {base : Heap}
theorem fn_atR {x : Str} {st : Stmt} {ps N : List Str} {k : Nat} {sp : Sp} (D0 : DefAt K mg x st ps) (S : FnScope N ps (defScope st)) (hl : ∀ vs H Q E, sp vs H Q E → vs.length = ps.length)
    (body : ∀ (f : Addr) (cdv : Value) (A : Around) (outer : List Env) (s : Shared) (H : Hp) (E : XK), Room k (A.deeper (PyProof.Rows.envOfC x (defScope st) s.heap.objs.size f cdv)) →
      ∃ t, PSs (cxOf CX0 P w K mg base N x (defScope st) f cdv A outer s H E).nox (defBody st) t ∧ ∀ vs Q E', sp vs H Q E' → t { nx := fun _ H' => Q .non H', rt := Q } (L2.start N vs) H) :
    FnAt P w K mg base CX0 (k + 1) x ps sp := by
  obtain ⟨f, fd, F, hm, hb⟩ := D0.ex
  refine ⟨f, fd, ⟨hm, fun_look F⟩, F.kp, hb, F.ok S hl fun cdv A outer s H vs Q E hr h => ?_⟩
  obtain ⟨t, ht, hi⟩ := body f cdv A outer s H E hr
  exact ⟨t, ht, hi vs Q E h⟩
/-- a def that is never called so -/
theorem fn_never {ι : Type} {x : Str} {st : Stmt} {ps : List Str} {k : Nat} {args : ι → List D} {pre : ι → Prop} {post : ι → D → Prop} (D0 : DefAt K mg x st ps) (h : ∀ i, ¬ pre i) : FnAt P w K mg base CX0 k x ps (SpP K args pre post) := by
  obtain ⟨f, fd, F, hm, hb⟩ := D0.ex
  exact ⟨f, fd, ⟨hm, fun_look F⟩, F.kp, hb, fun vs H Q E z => (h _ z.choose_spec.choose_spec.choose_spec.2.2.1).elim, fun A outer s H args us vs Q E _ _ _ _ z => (h _ z.choose_spec.choose_spec.choose_spec.2.2.1).elim⟩
theorem def_mk {x : Str} {st : Stmt} {ps : List Str} {h : Heap} {f : Addr} {oc : Value} {od an : Option Addr} {osl : Array (Option Value)} {kV doc pm cdv ct : Value} (X : K.In h) (G : h.Ns mainGlobals mg)
    (a : PySem.W.nsIn K mainGlobals x = some (some (.ref f))) (l : K.lookup f = some ⟨oc, od, .func (PySem.W.fnOf x x (defArgs st) (defBody st) (defScope st) .none kV doc pm an cdv ct), osl⟩)
    (c : PySem.W.codeIn K cdv x = true) (k : PySem.W.keepIn K (.ref f) = true)
    (b : ∀ (kV doc pm : Value) (an : Option Addr) (cdv ct : Value) (us : List Value), us.length = ps.length → bindArgs (PySem.W.fnOf x x (defArgs st) (defBody st) (defScope st) .none kV doc pm an cdv ct) ⟨us, []⟩ = pure (ps.zip us)) : DefAt K mg x st ps :=
  ⟨f, _, fun_mk l c k, PySem.W.mg_of X G a, fun _ us hl => .of_eq (b _ _ _ _ _ _ us hl)⟩
/-- the law's def, for the end of a row -/
theorem law_end {x y : Str} {k : Nat} {sp : Sp} {fa : Addr} (h : ∀ base : Heap, K.In base → base.Ns mainGlobals mg → FnAt P w K mg base CX0 k x [y] sp) {g : Heap} (X : K.In g) (G : g.Ns mainGlobals mg) (hm : mg x = some (.ref fa)) :
    ∃ fd : FuncData, (∀ (s : Shared) (u : Value), BindsTo s fd ⟨[u], []⟩ [(y, u)]) ∧ ∀ base : Heap, K.In base → base.Ns mainGlobals mg → FnOk P w K mg base CX0 k fa fd [y] sp := by
  obtain ⟨f, fd, ⟨hf, oc, od, osl, lk⟩, _, hb, _⟩ := h g X G
  rw [hm] at hf
  cases hf
  refine ⟨fd, fun s u => hb s [u] rfl, fun base X' G' => ?_⟩
  obtain ⟨f', fd', ⟨hf', oc', od', osl', lk'⟩, _, _, F⟩ := h base X' G'
  rw [hm] at hf'
  cases hf'
  rw [lk] at lk'
  cases lk'
  exact F
end
end DL

/-! DL8: kinds of things; classes. -/
namespace DL
open PySem L2
section
variable {K : PySem.W.Frag} {e : Ent} {ρ : Rho} {M : List MO} {Q : Sl → Prop} {te ta tb : TE} {x y : Sl} {nx bk ct : Rho → List MO → Prop} {rt : Sl → List MO → Prop}
/-- a class of the text whose instances are told apart by isinstance -/
structure ClsI (K : PySem.W.Frag) (C : Addr) : Prop where
  cl : Cls K C
  ha : PySem.W.findIn K (.ref C) "__class__" = some (some (.builtin "object.__class__"))
  hn : PySem.W.specialIn K (.builtin "object.__class__") "__get__" = some (some (.builtin "getset_descriptor.__get__"))
  htk : PySem.W.takesIn K (.builtin "object.__class__") = some true
  hm : PySem.W.mroIn K C (.type "object") = some true
/-- the kind of a thing -/
inductive Kind (K : PySem.W.Frag) : D → Value → Prop
  | non : Kind K .non (.type "NoneType")
  | bl (b : Bool) : Kind K (.bl b) (.type "bool")
  | int (i : Int) : Kind K (.int i) (.type "int")
  | str (s : Str) : Kind K (.str s) (.type "str")
  | tup (ds : List D) : Kind K (.tup ds) (.type "tuple")
  | lst (ds : List D) : Kind K (.lst ds) (.type "list")
  | dic (ks : List Key) (ds : List D) : Kind K (.dic ks ds) (.type "dict")
  | ins (C : Addr) (ns : List Str) (ds : List D) (c : ClsI K C) : Kind K (.ins C ns ds) (.ref C)
theorem Kind.ty {α : Al} {F H : Hp} {d : D} {t : Value} {v : V} (k : Kind K d t) (S : Sta K α M F H) (o : SlOk K α F (.v d) v) : TyX K H v t := by
  cases k with
  | non =>
    have o : v = .non := o
    subst o; exact .base .non
  | bl b =>
    have o : v = .bl b := o
    subst o; exact .base (.bl b)
  | int b =>
    have o : v = .int b := o
    subst o; exact .base (.int b)
  | str b =>
    have o : v = .str b := o
    subst o; exact .base (.str b)
  | tup ds =>
    obtain ⟨a, vs, rfl, h1, _⟩ := o
    rcases sqt_same K S.sub h1 with (h | ⟨ob, h⟩) | ⟨ob, its, n, h, c, _⟩
    · exact .base (.tup h)
    · exact .fTuple h
    · exact .kTuple h c
  | lst ds =>
    obtain ⟨a, vs, rfl, h1, _⟩ := o
    exact .base (.lst (S.sub _ _ h1))
  | dic ks ds =>
    obtain ⟨a, vs, rfl, h1, _⟩ := o
    exact .base (.dK (S.sub _ _ h1))
  | ins C ns ds c =>
    obtain ⟨a, dx, vs, rfl, h1, _⟩ := o
    exact .base (.ins (S.sub _ _ h1) c.cl c.ha c.hn c.htk c.hm)
theorem sls2s {α : Al} {F : Hp} {s s' : Sl} {us : List V} (o : SlsOk K α F [s, s'] us) : ∃ u u', us = [u, u'] ∧ SlOk K α F s u ∧ SlOk K α F s' u' := by
  obtain ⟨v, r, rfl, o1, o2⟩ := o
  obtain ⟨u, rfl, o3⟩ := sls1s o2
  exact ⟨v, u, rfl, o1, o3⟩
theorem ec_isi {d : D} {t : Value} {T : String} {b : Bool} (k : Kind K d t) (h : PySem.W.kitOne K t (.type T) = some b) (q : Q (.v (.bl b))) : EvC K (rIsi K) M [.v d, .v (.raw (.ty T))] Q := fun α F H us S o kk0 kk => by
  obtain ⟨u, u', rfl, o1, o2⟩ := sls2s o
  have o2 : u' = .ty T := o2
  subst o2
  exact ⟨u, _, t, _, b, rfl, .ty T, k.ty S o1, h, kk _ F H _ .refl S raw_ok q⟩
theorem ec_isiC {d : D} {t : Value} {C : Addr} {b : Bool} (k : Kind K d t) (h : PySem.W.kitOne K t (.ref C) = some b) (q : Q (.v (.bl b))) : EvC K (rIsi K) M [.v d, .v (.raw (.ref C))] Q := fun α F H us S o kk0 kk => by
  obtain ⟨u, u', rfl, o1, o2⟩ := sls2s o
  have o2 : u' = .ref C := o2
  subst o2
  exact ⟨u, _, t, _, b, rfl, .own C, k.ty S o1, h, kk _ F H _ .refl S raw_ok q⟩
/-- what a class's attributes read through a property -/
theorem ev_prop {f : Str} {C : Addr} {ns : List Str} {ds : List D} {i : Nat} {d : D} {X : XK} (hi : (ns.findIdx? (· == f)) = some i) (hd : ds[i]? = some d) (h : EvP K te ρ M fun s => s = .v (.ins C ns ds) ∧ Q (.v d)) : EvP K (tProp C (getSp C f) [] X te) ρ M Q := fun σ α F H en S k kk =>
  h σ α F H en S _ fun v F1 H1 s m1 S1 o1 ⟨e1, q⟩ => by
    subst e1
    obtain ⟨a, dx, vs, rfl, h1, h2, h3⟩ := o1
    obtain ⟨w, hw, r⟩ := h3.get hd
    exact ⟨a, dx, _, rfl, S1.sub _ _ h1, a, dx, _, w, rfl, S1.sub _ _ h1, lookup_zip hi hw, kk w F1 H1 _ m1 S1 (den_ok r) q⟩
/-- a method of the class: its def, plain -/
structure MethAt (K : PySem.W.Frag) (C : Addr) (x qual : Str) (st : Stmt) (ps : List Str) : Prop where
  ex : ∃ f fd, Fun K x qual st f fd ∧ PySem.W.findIn K (.ref C) x = some (some (.ref f)) ∧ PySem.W.isFn K (.ref f) = true ∧ Binds K fd ps []
structure PropAt (K : PySem.W.Frag) (C : Addr) (x f qual : Str) (st : Stmt) : Prop where
  ex : ∃ p g fd, PropOf K C x p g ∧ Fun K x qual st g fd ∧ Binds K fd ["self"] []
end
section
variable {X : Cx} {e : Expr} {es : List Expr} {t : TA} {p pos : Pos} {ta : TE}
theorem pe_isi {K : PySem.W.Frag} {e2 : Expr} (b : X.mg "isinstance" = none) (hg : Gl X "isinstance") (ha : PA X [e, e2] t) (he : starEach [e, e2] X.env = (false, eval e X.env) :: starEach [e2] X.env := by rfl) (hpl : (backTo pos (starEach [e2] X.env)).any (·.1) = false := by rfl) (hK : X.K = K := by rfl) : PE X (.Call (.Name "isinstance" p) [e, e2] [] pos) (tCB (rIsi K) t) := by
  subst hK
  exact pe_callB call_isi hg b PyProof.Rows.boot_isinstance ha (by decide) (by decide) he hpl
theorem pe_cls {x : Str} {C : Addr} (hm : X.mg x = some (.ref C)) (hg : Gl X x) (hd : (x == ("__debug__" : Str)) = false := by decide) : PE X (.Name x pos) (tC (.ref C)) := pe_glob hg hm rfl hd
theorem pe_at {K : PySem.W.Frag} {f : Str} (he : PE X e ta) (hb : attributeBase e f X.env (eval e X.env) = eval e X.env := by rfl) (hK : X.K = K := by rfl) : PE X (.Attribute e f pos) (tFld K ta f) := by
  subst hK
  exact pe_fld he hb
/-- a property whose getter hands back the attribute of that name -/
structure Getter (K : PySem.W.Frag) (C : Addr) (x f : Str) : Prop where
  ok : ∀ (P : Program) (w : World) (mg : Str → Option Value) (base : Heap), ∃ p g fd, PropOf K C x p g ∧ FnOk P w K mg base CX0 1 g fd ["self"] (getSp C f) ∧ Binds K fd ["self"] []
theorem pe_get {x f : Str} {C : Addr} (G : Getter X.K C x f) (c : Cls X.K C) (hr : Room 2 X.A) (he : PE X e ta) (hab : attributeBase e x X.env (eval e X.env) = eval e X.env := by rfl) : PE X (.Attribute e x pos) (tProp C (getSp C f) [] E0 ta) := by
  obtain ⟨p, g, fd, hp, F, hb⟩ := G.ok X.prog X.w X.mg X.base
  exact pe_prop he c hp F hr hb .nil pass0 hab
end
section
variable {K : PySem.W.Frag} {C : Addr} {x f : Str}
/-- the getter: def x(self): return self.f -/
theorem getter_mk {p g : Addr} {fd : FuncData} {qual : Str} {st : Stmt} {p1 p2 p3 : Pos} (hp : PropOf K C x p g) (F : Fun K x qual st g fd) (S : FnScope ["self"] ["self"] (defScope st)) (hb : defBody st = [.Return (some (.Attribute (.Name "self" p1) f p2)) p3]) (bd : Binds K fd ["self"] []) (c : Cls K C) (n : NoAttr K C f) : Getter K C x f := by
  refine ⟨fun P w mg base => ⟨p, g, fd, hp, F.ok S (fun vs H Q E h => ?_) (fun cdv A outer s H vs Q E hr h => ?_), bd⟩⟩
  · obtain ⟨a, dx, fs, v, e, _⟩ := h
    rw [e]; rfl
  · obtain ⟨a, dx, fs, v, e, ea, l, q⟩ := h
    subst e
    rw [hb]
    refine ⟨_, pss_one (ps_ret (pe_fld (pe_var (i := 0) rfl ((S.par "self" (List.Mem.head _)).elim (fun z => .inl z) (fun z => .inr (.inl z)))) rfl)), ?_⟩
    exact ⟨.ref a, rfl, a, C, dx, fs, v, rfl, ea, c, n, l, q⟩
theorem meth_mk {qual : Str} {st : Stmt} {ps : List Str} {f : Addr} {oc : Value} {od an : Option Addr} {osl : Array (Option Value)} {kV doc pm cdv ct : Value}
    (a : PySem.W.findIn K (.ref C) x = some (some (.ref f))) (i : PySem.W.isFn K (.ref f) = true) (l : K.lookup f = some ⟨oc, od, .func (PySem.W.fnOf x qual (defArgs st) (defBody st) (defScope st) .none kV doc pm an cdv ct), osl⟩)
    (c : PySem.W.codeIn K cdv qual = true) (k : PySem.W.keepIn K (.ref f) = true)
    (b : ∀ (kV doc pm : Value) (an : Option Addr) (cdv ct : Value) (us : List Value), us.length = ps.length → bindArgs (PySem.W.fnOf x qual (defArgs st) (defBody st) (defScope st) .none kV doc pm an cdv ct) ⟨us, []⟩ = pure (ps.zip us)) : MethAt K C x qual st ps :=
  ⟨f, _, fun_mk l c k, a, i, (fun_mk (st := st) l c k).binds b⟩
theorem prop_mk {qual : Str} {st : Stmt} {p g : Addr} {rest : List Value} {oc : Value} {od an : Option Addr} {osl : Array (Option Value)} {kV doc pm cdv ct : Value} {p1 p2 p3 : Pos}
    (h1 : PySem.W.findIn K (.ref C) x = some (some (.ref p))) (h2 : PySem.W.specialIn K (.ref p) "__get__" = some (some (.builtin "property.__get__"))) (h3 : PySem.W.takesIn K (.ref p) = some true) (h4 : PySem.W.recIn K p "property" = some (.ref g :: rest))
    (l : K.lookup g = some ⟨oc, od, .func (PySem.W.fnOf x qual (defArgs st) (defBody st) (defScope st) .none kV doc pm an cdv ct), osl⟩) (c : PySem.W.codeIn K cdv qual = true) (k : PySem.W.keepIn K (.ref g) = true)
    (S : FnScope ["self"] ["self"] (defScope st)) (hb : defBody st = [.Return (some (.Attribute (.Name "self" p1) f p2)) p3])
    (b : ∀ (kV doc pm : Value) (an : Option Addr) (cdv ct : Value) (us : List Value), us.length = 1 → bindArgs (PySem.W.fnOf x qual (defArgs st) (defBody st) (defScope st) .none kV doc pm an cdv ct) ⟨us, []⟩ = pure ([("self" : Str)].zip us)) (cl : Cls K C) (n : NoAttr K C f) : Getter K C x f :=
  getter_mk ⟨h1, h2, h3, ⟨rest, h4⟩⟩ (fun_mk l c k) S hb ((fun_mk (st := st) l c k).binds b) cl n
end
/-! ### the making of an object -/
section
variable {P : Program} {w : World} {K : PySem.W.Frag} {mg : Str → Option Value} {base : Heap}
/-- a class whose __init__ takes plain data and leaves an object of plain data -/
def SpI {ι : Type} (K : PySem.W.Frag) (C : Addr) (args : ι → List D) (pre : ι → Prop) (ns : List Str) (post : ι → List D → Prop) : Sp := fun vs H Q _ =>
  ∃ (x : ι) (a dx : Addr) (F : Hp) (us : List V), vs = .ref a :: us ∧ Dens K F (args x) us ∧ Same F H ∧ F a = none ∧ F dx = none ∧ a ≠ dx ∧ H a = some (.ins C dx []) ∧ pre x ∧
    ∀ F' H' ds, Same F F' → Same F' H' → (∀ b o, H b = some o → b ≠ a → H' b = some o) → (∀ b, F' b ≠ none → F b ≠ none ∨ H b = none ∨ b = a) → Den K F' (.ins C ns ds) (.ref a) → post x ds → Q .non H'
structure MkAt (P : Program) (w : World) (K : PySem.W.Frag) (mg : Str → Option Value) (base : Heap) (k : Nat) (x : Str) (C : Addr) (ps : List Str) (sp : Sp) : Prop where
  ex : ∃ f fd, mg x = some (.ref C) ∧ Mk K C f ∧ Binds K fd ps [] ∧ FnOk P w K mg base CX0 k f fd ps sp
theorem pe_new {X : Cx} {x : Str} {C : Addr} {k : Nat} {ps : List Str} {sp : Sp} {e : Expr} {es : List Expr} {t : TA} {p pos : Pos} (F : MkAt X.prog X.w X.K X.mg X.base k x C ps sp) (hr : Room (k + 1) X.A) (hg : Gl X x) (ha : PA X (e :: es) t) (hdb : (x == ("__debug__" : Str)) = false := by decide)
    (he : starEach (e :: es) X.env = (false, eval e X.env) :: starEach es X.env := by rfl) (hpl : (backTo pos (starEach es X.env)).any (·.1) = false := by rfl) : PE X (.Call (.Name x p) (e :: es) [] pos) (tMake C sp [] E0 t) := by
  obtain ⟨f, fd, hm, hM, hb, F⟩ := F.ex
  exact pe_make hM F hr hg hm hb .nil pass0 ha hdb he hpl
theorem ec_new {ι : Type} {C : Addr} {args : ι → List D} {pre : ι → Prop} {ns : List Str} {post : ι → List D → Prop} {ta : TA} {X : XK} {ρ : Rho} {M : List MO} {Q : Sl → Prop} (h : EvA K ta ρ M fun ss => ∃ x, ss = (args x).map Sl.v ∧ pre x ∧ ∀ ds, post x ds → Q (.v (.ins C ns ds))) : EvP K (tMake C (SpI K C args pre ns post) [] X ta) ρ M Q := fun σ α F H en S k kk =>
  h σ α F H en S _ fun vs F1 H1 ss m1 S1 o1 ⟨x, e1, hp, q⟩ => by
    subst e1
    intro a dx ha hdx hne
    have hd := o1.dens
    have n1 := S1.notin ha
    have n2 := S1.notin hdx
    have s1 : Same H1 (upd (upd H1 dx (.own a)) a (.ins C dx [])) := fun b o z => by
      rw [upd_ne (ne_of_none z ha), upd_ne (ne_of_none z hdx)]; exact z
    refine ⟨x, a, dx, F1, vs, by rw [List.append_nil], hd, S1.sub.trans s1, S1.sub.free ha, S1.sub.free hdx, Ne.symm hne, upd_same, hp, fun F' H' ds f1 f2 fr nw hden hpost => ⟨rfl, ?_⟩⟩
    have fr1 : ∀ b o, H1 b = some o → H' b = some o := fun b o z => fr b o (s1 b o z) (ne_of_none z ha)
    have mv : Move [] F1 H1 F' H' := ⟨f1, fun b o z _ => fr1 b o z, fun b z => by
      cases y : H1 b with
      | none => exact absurd y z
      | some o => rw [fr1 b o y]; simp, fun b z => by
      rcases nw b z with y | y | y
      · exact .inl y
      · refine .inr ?_
        cases w : H1 b with
        | none => rfl
        | some o => rw [s1 b o w] at y; cases y
      · subst y; exact .inr ha⟩
    exact kk _ F' H' _ (m1.trans (mv.widen fun _ h => by simp at h)) (S1.keep0 mv f2) (den_ok hden) (q ds hpost)
/-- from the body of __init__: self is the 0-th thing -/
theorem init_run {ι : Type} {C : Addr} {args : ι → List D} {pre : ι → Prop} {ns : List Str} {post : ι → List D → Prop} {N : List Str} {t : TS}
    (h : ∀ x e, pre x → e.α.length = 1 → RunD K e t (startR N.length (.l 0 :: (args x).map Sl.v)) [.ins C [] []] (fun _ M' => ∃ ds, M'[0]? = some (.ins C ns ds) ∧ post x ds) (fun s M' => s = .v .non ∧ ∃ ds, M'[0]? = some (.ins C ns ds) ∧ post x ds) (fun _ _ => False) (fun _ _ => False)) :
    ∀ vs H Q E, SpI K C args pre ns post vs H Q E → t { nx := fun _ H' => Q .non H', rt := Q } (L2.start N vs) H := by
  rintro vs H Q E ⟨x, a, dx, F, us, rfl, hd, sub, ha, hdx, hne, hH, hp, k⟩
  have S : Sta K [(a, a)] [.ins C [] []] F H := by
    refine ⟨sub, rfl, fun i m p h1 h2 => ?_, fun i j p q hij h1 h2 => ?_, fun p hq => ?_⟩
    · cases i with
      | zero =>
        simp at h1 h2
        subst h1; subst h2
        exact ⟨ha, dx, [], hH, rfl, rfl⟩
      | succ i => simp at h1
    · cases j with
      | zero => omega
      | succ j => simp at h2
    · simp at hq; subst hq
      rw [hH]; simp
  have fin : ∀ {α' : Al} {F' H' : Hp} {M' : List MO}, Sta K α' M' F' H' → StepE ⟨[(a, a)], F, H⟩ α' F' H' → (∃ ds, M'[0]? = some (.ins C ns ds) ∧ post x ds) → Q .non H' := fun {α' F' H' M'} S' st ⟨ds, hM, hpost⟩ => by
    obtain ⟨β, e1, _⟩ := st.pre
    have e1 : α' = [(a, a)] ++ β := e1
    have h0 : α'[0]? = some (a, a) := by rw [e1]; rfl
    obtain ⟨hFa, dx', vs', hH', hl, hden⟩ := S'.ob 0 _ _ hM h0
    have hFa : F' a = none := hFa
    have hH' : H' a = some (.ins C dx' (ns.zip vs')) := hH'
    have s5 : Same F' (upd F' a (.ins C dx' (ns.zip vs'))) := fun b u h => by rw [upd_ne (ne_of_none h hFa)]; exact h
    refine k (upd F' a (.ins C dx' (ns.zip vs'))) H' ds (st.ex.trans s5) (fun b o z => ?_) (fun b o z hb => st.fr b o z fun p hp => ?_) (fun b z => ?_) ⟨a, dx', vs', rfl, upd_same, hl, Dens.mono K s5 _ _ hden⟩ hpost
    · by_cases e : b = a
      · subst e; rw [upd_same] at z; cases z; exact hH'
      · rw [upd_ne e] at z; exact S'.sub b o z
    · have hp : p ∈ [(a, a)] := hp
      simp at hp; subst hp; exact ⟨hb, hb⟩
    · by_cases e : b = a
      · exact .inr (.inr e)
      · rw [upd_ne e] at z
        rcases st.new b z with y | y
        · exact .inl y
        · exact .inr (.inl y)
  have ho : SlsOk K [(a, a)] F (.l 0 :: (args x).map Sl.v) (.ref a :: us) := by
    refine ⟨_, us, rfl, ⟨(a, a), rfl, rfl⟩, ?_⟩
    have : ∀ {ds : List D} {us : List V}, Dens K F ds us → SlsOk K [(a, a)] F (ds.map Sl.v) us := by
      intro ds
      induction ds with
      | nil => intro us h; exact h
      | cons d ds ih =>
        intro us h
        obtain ⟨v, r, rfl, h2, h3⟩ := h
        exact ⟨v, r, rfl, h2, ih h3⟩
    exact this hd
  refine h x ⟨[(a, a)], F, H⟩ hp rfl _ _ _ F H ⟨env_start ho, S, .refl⟩ ⟨fun σ' α' F' H' ρ' M' g _ q => fin g.sta g.st q, fun v s α' F' H' M' o S' st _ ⟨e1, q⟩ => ?_, fun _ _ _ _ _ _ _ _ q => q.elim, fun _ _ _ _ _ _ _ _ q => q.elim⟩
  subst e1
  have o : v = .non := o
  subst o
  exact fin S' st q
theorem mk_at {ι : Type} {x : Str} {C f : Addr} {st : Stmt} {ps N ns : List Str} {k : Nat} {args : ι → List D} {pre : ι → Prop} {post : ι → List D → Prop} {fd : FuncData} {qual : Str} (hm : mg x = some (.ref C)) (M : Mk K C f) (F : Fun K "__init__" qual st f fd) (B : Binds K fd ps []) (S : FnScope N ps (defScope st)) (hl : ∀ i, (args i).length + 1 = ps.length)
    (body : ∀ (f : Addr) (cdv : Value) (A : Around) (outer : List Env) (s : Shared) (H : Hp) (E : XK), Room k (A.deeper (PyProof.Rows.envOfC qual (defScope st) s.heap.objs.size f cdv)) →
      ∃ t, PSs (cxOf CX0 P w K mg base N qual (defScope st) f cdv A outer s H E).nox (defBody st) t ∧
        ∀ i e, pre i → e.α.length = 1 → RunD K e t (startR N.length (.l 0 :: (args i).map Sl.v)) [.ins C [] []] (fun _ M' => ∃ ds, M'[0]? = some (.ins C ns ds) ∧ post i ds) (fun s M' => s = .v .non ∧ ∃ ds, M'[0]? = some (.ins C ns ds) ∧ post i ds) (fun _ _ => False) (fun _ _ => False)) :
    MkAt P w K mg base (k + 1) x C ps (SpI K C args pre ns post) := by
  refine ⟨f, fd, hm, M, B, F.ok S (fun vs H Q E h => ?_) fun cdv A outer s H vs Q E hr h => ?_⟩
  · obtain ⟨i, a, dx, F', us, rfl, o, _⟩ := h
    rw [← hl i, o.length]; rfl
  · obtain ⟨t, ht, hi⟩ := body f cdv A outer s H E hr
    exact ⟨t, ht, init_run hi vs H Q E h⟩
end
/-! ### attributes of the thing at slot j -/
section
variable {K : PySem.W.Frag} {e : Ent} {ρ : Rho} {M : List MO} {te : TE} {nx bk ct : Rho → List MO → Prop} {rt : Sl → List MO → Prop}
def putD (f : Str) (d : D) : List Str → List D → List Str × List D
  | n :: ns, x :: xs => if n = f then (n :: ns, d :: xs) else let (a, b) := putD f d ns xs; (n :: a, x :: b)
  | _, _ => ([f], [d])
theorem putD_ok {F : Hp} {f : Str} {d : D} {v : V} (hv : Den K F d v) : ∀ {ns : List Str} {ds : List D} {vs : List V}, ns.length = vs.length → Dens K F ds vs →
    ∃ ws, putF f v (ns.zip vs) = (putD f d ns ds).1.zip ws ∧ (putD f d ns ds).1.length = ws.length ∧ Dens K F (putD f d ns ds).2 ws
  | [], [], vs, hl, h => by
    have h : vs = [] := h
    subst h
    exact ⟨[v], rfl, rfl, Dens.cons hv Dens.nil⟩
  | [], d' :: ds, vs, hl, h => by
    obtain ⟨u, r, rfl, _⟩ := h
    simp at hl
  | n :: ns, [], vs, hl, h => by
    have h : vs = [] := h
    subst h; simp at hl
  | n :: ns, d' :: ds, vs, hl, h => by
    obtain ⟨u, r, rfl, h2, h3⟩ := h
    by_cases hn : n = f
    · refine ⟨v :: r, ?_, ?_, ?_⟩
      · simp [putF, putD, hn]
      · simp [putD, hn]; simpa using hl
      · simp only [putD, if_pos hn]; exact Dens.cons hv h3
    · obtain ⟨ws, e1, e2, e3⟩ := putD_ok (f := f) hv (ns := ns) (ds := ds) (vs := r) (by simpa using hl) h3
      refine ⟨u :: ws, ?_, ?_, ?_⟩
      · simp only [List.zip_cons_cons, putF, putD, if_neg hn, e1]
      · simp only [putD, if_neg hn, List.length_cons, e2]
      · simp only [putD, if_neg hn]; exact Dens.cons h2 e3
/-- self.f = e -/
theorem r_fld {j k : Nat} {f : Str} {C : Addr} {ns : List Str} {ds : List D} (hc : Cls K C) (hn : NoAttr K C f) (hj : ρ[j]? = some (some (.l k))) (hk : M[k]? = some (.ins C ns ds)) (hl : ns.length < 1000) (h : EvP K te ρ M fun s => ∃ d, s = .v d ∧ nx ρ (M.set k (.ins C (putD f d ns ds).1 (putD f d ns ds).2))) :
    RunD K e (sFld K (tVar j) te f) ρ M nx rt bk ct := fun X σ α F H g ok =>
  h σ α F H g.env g.sta _ fun v F1 H1 s m1 S1 o1 ⟨d, e1, q1⟩ => by
    subst e1
    obtain ⟨u, h1, p, hp, rfl⟩ := g.env.at' j _ hj
    obtain ⟨hF1, dx, vs, hvs, hlen, hd1⟩ := S1.ob k _ p hk hp
    obtain ⟨ws, w1, w2, w3⟩ := putD_ok (f := f) (d := d) (v := v) o1 hlen hd1
    refine ⟨_, h1, p.1, C, dx, _, rfl, hvs, hc, hn, by rw [List.length_zip]; omega, ?_⟩
    obtain ⟨m2, S2⟩ := S1.write (m' := .ins C (putD f d ns ds).1 (putD f d ns ds).2) (o := .ins C dx (putF f v (ns.zip vs))) hp hF1 ⟨hF1, dx, ws, by rw [w1]; exact upd_same, w2, w3⟩
    exact ok.nx _ _ F1 _ _ _ ⟨g.env.mono m1.ex, S2, (g.st.move m1).move m2⟩ m1.ex q1
end
end DL

/-! DL9: chains of comparisons, constants, further built-ins. -/
namespace DL
open PySem L2
section
variable {K : PySem.W.Frag} {e : Ent} {ρ : Rho} {M : List MO} {Q : Sl → Prop} {R : Bool → Prop} {te ta tb tc : TE} {x y : Sl} {nx bk ct : Rho → List MO → Prop} {rt : Sl → List MO → Prop}
theorem ev_chain {r r' : R2} (h : EvP K ta ρ M fun x => EvP K tb ρ M fun y => EvR K r M x y fun z => ∃ k, z = .v (.bl k) ∧ if k = true then EvP K tc ρ M (fun w => EvR K r' M y w Q) else Q (.v (.bl false))) : EvP K (tChain r r' ta tb tc) ρ M Q := fun σ α F H en S k kk =>
  h σ α F H en S _ fun u F1 H1 x m1 S1 o1 q1 => q1 σ α F1 H1 (en.mono m1.ex) S1 _ fun v F2 H2 y m2 S2 o2 q2 =>
    q2 α F2 H2 u v S2 (o1.mono m2.ex) o2 _ fun z F3 H3 s m3 S3 o3 ⟨b, e1, q3⟩ => by
      subst e1
      have o3 : z = .bl b := o3
      subst o3
      refine ⟨b, rfl, ?_⟩
      cases b with
      | true =>
        have q3 : EvP K tc ρ M (fun w => EvR K r' M y w Q) := q3
        refine iteT ?_
        exact q3 σ α F3 H3 (en.mono ((m1.trans m2).trans m3).ex) S3 _ fun w F4 H4 s4 m4 S4 o4 q4 =>
          q4 α F4 H4 v w S4 (o2.mono (m3.trans m4).ex) o4 k fun z F5 H5 s5 m5 S5 o5 q5 => kk z F5 H5 s5 ((((m1.trans m2).trans m3).trans m4).trans m5) S5 o5 q5
      | false =>
        refine iteF ?_
        exact kk _ F3 H3 _ ((m1.trans m2).trans m3) S3 raw_ok q3
end
/-- a tuple of the module's top -/
structure CTup (K : PySem.W.Frag) (mg : Str → Option Value) (x : Str) (vs : List V) : Prop where
  ex : ∃ a o its n, mg x = some (.ref a) ∧ K.lookup a = some o ∧ o.cls = .type "tuple" ∧ o.data = .seq its n ∧ its.size ≤ sizeLine ∧ Vals vs its.toList
def tCT (K : PySem.W.Frag) (vs : List V) : TE := fun _ H Q => ∀ a, (∀ F, SqT K F a vs) → Q (.ref a) H
theorem CTup.pe {X : Cx} {K : PySem.W.Frag} {x : Str} {vs : List V} {pos : Pos} (c : CTup K X.mg x vs) (hg : Gl X x) (hd : (x == ("__debug__" : Str)) = false := by decide) (hK : X.K = K := by rfl) : PE X (.Name x pos) (tCT K vs) := by
  subst hK
  obtain ⟨a, o, its, n, h, rest⟩ := c.ex
  exact ⟨fun _ _ _ H _ I q => ld_glob I hg h ⟨.ref a, H, I, rfl, q a fun F => .inr ⟨o, its, n, rest⟩⟩ hd⟩
section
variable {K : PySem.W.Frag} {ρ : Rho} {M : List MO} {Q : Sl → Prop}
theorem ev_ct {vs : List V} (q : Q (.v (.tup (vs.map D.raw)))) : EvP K (tCT K vs) ρ M Q := fun σ α F H en S k kk a h =>
  kk (.ref a) F H _ .refl S (den_ok (d := .tup (vs.map D.raw)) ⟨a, vs, rfl, h F, Dens.raws⟩) q
end
theorem pe_isiT {X : Cx} {K : PySem.W.Frag} {e e2 : Expr} {t : TA} {p pos : Pos} (b : X.mg "isinstance" = none) (hg : Gl X "isinstance") (ha : PA X [e, e2] t) (he : starEach [e, e2] X.env = (false, eval e X.env) :: starEach [e2] X.env := by rfl) (hpl : (backTo pos (starEach [e2] X.env)).any (·.1) = false := by rfl) (hK : X.K = K := by rfl) : PE X (.Call (.Name "isinstance" p) [e, e2] [] pos) (tCB (rIsiT K) t) := by
  subst hK
  exact pe_callB call_isiT hg b PyProof.Rows.boot_isinstance ha (by decide) (by decide) he hpl
theorem sl_any {X : Cx} {K : PySem.W.Frag} (hK : X.K = K := by rfl) : SlR X (fun x lo hi H Q => rSlL K x lo hi H Q ∨ rSlA K x lo hi H Q) := by
  subst hK
  exact SlR.or sl_list sl_tupA
structure InitAt (K : PySem.W.Frag) (C : Addr) (qual : Str) (st : Stmt) (ps : List Str) : Prop where
  ex : ∃ f fd, Mk K C f ∧ Fun K "__init__" qual st f fd ∧ Binds K fd ps []
/-- things of a built-in kind -/
inductive Tame : D → Prop
  | non : Tame .non
  | bl (b : Bool) : Tame (.bl b)
  | int (i : Int) : Tame (.int i)
  | str (s : Str) : Tame (.str s)
  | tup (ds : List D) : Tame (.tup ds)
  | lst (ds : List D) : Tame (.lst ds)
  | dic (ks : List Key) (ds : List D) : Tame (.dic ks ds)
def D.tyn : D → String
  | .raw .non => "NoneType"
  | .raw (.bl _) => "bool"
  | .raw (.int _) => "int"
  | .raw (.str _) => "str"
  | .tup _ => "tuple"
  | .lst _ => "list"
  | .dic _ _ => "dict"
  | _ => ""
theorem Tame.kind {K : PySem.W.Frag} {d : D} (t : Tame d) : Kind K d (.type d.tyn) := by
  cases t with
  | non => exact .non
  | bl b => exact .bl b
  | int b => exact .int b
  | str b => exact .str b
  | tup b => exact .tup b
  | lst b => exact .lst b
  | dic a b => exact .dic a b
def isIntD : D → Bool
  | .raw (.int _) => true
  | .raw (.bl _) => true
  | _ => false
def isBoolD : D → Bool
  | .raw (.bl _) => true
  | _ => false
def isTupD : D → Bool
  | .tup _ => true
  | _ => false
def isLstD : D → Bool
  | .lst _ => true
  | _ => false
def isStrD : D → Bool
  | .raw (.str _) => true
  | _ => false
section
variable {K : PySem.W.Frag} {M : List MO} {Q : Sl → Prop}
theorem kb_int {d : D} (t : Tame d) : PySem.W.kitOne K (.type d.tyn) (.type "int") = some (isIntD d) := by
  cases t with
  | non => exact kit_ty (show kitB "NoneType" "int" = some false by decide +kernel)
  | bl b => exact kit_ty (show kitB "bool" "int" = some true by decide +kernel)
  | int b => exact kit_ty (show kitB "int" "int" = some true by decide +kernel)
  | str b => exact kit_ty (show kitB "str" "int" = some false by decide +kernel)
  | tup b => exact kit_ty (show kitB "tuple" "int" = some false by decide +kernel)
  | lst b => exact kit_ty (show kitB "list" "int" = some false by decide +kernel)
  | dic p b => exact kit_ty (show kitB "dict" "int" = some false by decide +kernel)
theorem kb_bool {d : D} (t : Tame d) : PySem.W.kitOne K (.type d.tyn) (.type "bool") = some (isBoolD d) := by
  cases t with
  | non => exact kit_ty (show kitB "NoneType" "bool" = some false by decide +kernel)
  | bl b => exact kit_ty (show kitB "bool" "bool" = some true by decide +kernel)
  | int b => exact kit_ty (show kitB "int" "bool" = some false by decide +kernel)
  | str b => exact kit_ty (show kitB "str" "bool" = some false by decide +kernel)
  | tup b => exact kit_ty (show kitB "tuple" "bool" = some false by decide +kernel)
  | lst b => exact kit_ty (show kitB "list" "bool" = some false by decide +kernel)
  | dic p b => exact kit_ty (show kitB "dict" "bool" = some false by decide +kernel)
theorem kb_tup {d : D} (t : Tame d) : PySem.W.kitOne K (.type d.tyn) (.type "tuple") = some (isTupD d) := by
  cases t with
  | non => exact kit_ty (show kitB "NoneType" "tuple" = some false by decide +kernel)
  | bl b => exact kit_ty (show kitB "bool" "tuple" = some false by decide +kernel)
  | int b => exact kit_ty (show kitB "int" "tuple" = some false by decide +kernel)
  | str b => exact kit_ty (show kitB "str" "tuple" = some false by decide +kernel)
  | tup b => exact kit_ty (show kitB "tuple" "tuple" = some true by decide +kernel)
  | lst b => exact kit_ty (show kitB "list" "tuple" = some false by decide +kernel)
  | dic p b => exact kit_ty (show kitB "dict" "tuple" = some false by decide +kernel)
theorem kb_lst {d : D} (t : Tame d) : PySem.W.kitOne K (.type d.tyn) (.type "list") = some (isLstD d) := by
  cases t with
  | non => exact kit_ty (show kitB "NoneType" "list" = some false by decide +kernel)
  | bl b => exact kit_ty (show kitB "bool" "list" = some false by decide +kernel)
  | int b => exact kit_ty (show kitB "int" "list" = some false by decide +kernel)
  | str b => exact kit_ty (show kitB "str" "list" = some false by decide +kernel)
  | tup b => exact kit_ty (show kitB "tuple" "list" = some false by decide +kernel)
  | lst b => exact kit_ty (show kitB "list" "list" = some true by decide +kernel)
  | dic p b => exact kit_ty (show kitB "dict" "list" = some false by decide +kernel)
theorem kb_str {d : D} (t : Tame d) : PySem.W.kitOne K (.type d.tyn) (.type "str") = some (isStrD d) := by
  cases t with
  | non => exact kit_ty (show kitB "NoneType" "str" = some false by decide +kernel)
  | bl b => exact kit_ty (show kitB "bool" "str" = some false by decide +kernel)
  | int b => exact kit_ty (show kitB "int" "str" = some false by decide +kernel)
  | str b => exact kit_ty (show kitB "str" "str" = some true by decide +kernel)
  | tup b => exact kit_ty (show kitB "tuple" "str" = some false by decide +kernel)
  | lst b => exact kit_ty (show kitB "list" "str" = some false by decide +kernel)
  | dic p b => exact kit_ty (show kitB "dict" "str" = some false by decide +kernel)
/-- isinstance(x, (T1, T2)), the tuple written there -/
theorem ev_isiT {ρ : Rho} {ta : TE} {tc : TA} (h : EvP K ta ρ M fun s => EvA K tc ρ M fun ss => ∃ (d : D) (T1 T2 : String), s = .v d ∧ ss = [.v (.raw (.ty T1)), .v (.raw (.ty T2))] ∧ Tame d ∧ ∃ b1 b2, PySem.W.kitOne K (.type d.tyn) (.type T1) = some b1 ∧ PySem.W.kitOne K (.type d.tyn) (.type T2) = some b2 ∧ Q (.v (.bl (b1 || b2)))) :
    EvP K (tCB (rIsiT K) (tCons ta (tCons (tTup tc) tNil))) ρ M Q := fun σ α F H en S k kk =>
  h σ α F H en S _ fun u F1 H1 x m1 S1 o1 q1 => q1 σ α F1 H1 (en.mono m1.ex) S1 _ fun vs F2 H2 ss m2 S2 o2 ⟨d, T1, T2, e1, e2, tm, b1, b2, k1, k2, q⟩ => by
    subst e1; subst e2
    have e3 := sls2 o2
    subst e3
    refine ⟨by show 2 ≤ sizeLine; decide, fun p hp => ?_⟩
    obtain ⟨m3, S3⟩ := S2.laid (o := .tup [.ty T1, .ty T2]) hp
    have m12 := (m1.trans m2).trans m3
    refine ⟨u, p, [.ty T1, .ty T2], .type d.tyn, [.type T1, .type T2], b1 || b2, rfl, upd_same, .cons (.ty T1) (.cons (.ty T2) .nil), tm.kind.ty S3 (o1.mono (m2.trans m3).ex), ?_, kk _ _ _ _ m12 S3 raw_ok q⟩
    refine kitAny_cons k1 (fun e => ?_) (fun e => by rw [e]; rfl)
    rw [e, Bool.false_or]
    refine kitAny_cons k2 (fun e => ?_) (fun e => e)
    rw [e]; exact kitAny_nil
theorem ei_int {d : D} (q : Tame d ∧ Q (.v (.bl (isIntD d)))) : EvC K (rIsi K) M [.v d, .v (.raw (.ty "int"))] Q := ec_isi q.1.kind (kb_int q.1) q.2
theorem ei_bool {d : D} (q : Tame d ∧ Q (.v (.bl (isBoolD d)))) : EvC K (rIsi K) M [.v d, .v (.raw (.ty "bool"))] Q := ec_isi q.1.kind (kb_bool q.1) q.2
theorem ei_tuple {d : D} (q : Tame d ∧ Q (.v (.bl (isTupD d)))) : EvC K (rIsi K) M [.v d, .v (.raw (.ty "tuple"))] Q := ec_isi q.1.kind (kb_tup q.1) q.2
theorem ei_lst {d : D} (q : Tame d ∧ Q (.v (.bl (isLstD d)))) : EvC K (rIsi K) M [.v d, .v (.raw (.ty "list"))] Q := ec_isi q.1.kind (kb_lst q.1) q.2
theorem ei_str {d : D} (q : Tame d ∧ Q (.v (.bl (isStrD d)))) : EvC K (rIsi K) M [.v d, .v (.raw (.ty "str"))] Q := ec_isi q.1.kind (kb_str q.1) q.2
end
end DL

/-! DL10: expressions that make things that are to change; several targets; dicts. -/
namespace DL
open PySem L2
section
variable {K : PySem.W.Frag} {e : Ent} {ρ : Rho} {M : List MO} {te ta tb : TE} {nx bk ct : Rho → List MO → Prop} {rt : Sl → List MO → Prop}
def EvN (K : PySem.W.Frag) (e : Ent) (te : TE) (ρ : Rho) (M : List MO) (Q : Sl → List MO → Prop) : Prop := ∀ (σ : L2.St) (α : Al) (F H : Hp), Good K e α F H σ ρ M → ∀ k : VK,
  (∀ v α' F' H' s M', Good K e α' F' H' σ ρ M' → Same F F' → (∃ β, α' = α ++ β) → SlOk K α' F' s v → Q s M' → k v H') → te σ H k
def EvNA (K : PySem.W.Frag) (e : Ent) (ta : TA) (ρ : Rho) (M : List MO) (Q : List Sl → List MO → Prop) : Prop := ∀ (σ : L2.St) (α : Al) (F H : Hp), Good K e α F H σ ρ M → ∀ k : List V → Hp → Prop,
  (∀ vs α' F' H' ss M', Good K e α' F' H' σ ρ M' → Same F F' → (∃ β, α' = α ++ β) → SlsOk K α' F' ss vs → Q ss M' → k vs H') → ta σ H k
theorem en_ev {Q : Sl → List MO → Prop} (h : EvP K te ρ M fun s => Q s M) : EvN K e te ρ M Q := fun σ α F H g k kk =>
  h σ α F H g.env g.sta k fun v F1 H1 s m1 S1 o1 q1 => kk v α F1 H1 s M (g.move m1 S1) m1.ex ⟨[], by simp⟩ o1 q1
theorem en_newL {ta : TA} {Q : Sl → List MO → Prop} (h : EvA K ta ρ M fun ss => ∃ ds : List D, ss = ds.map Sl.v ∧ ds.length ≤ 16777216 ∧ Q (.l M.length) (M ++ [.lst ds])) : EvN K e (tLst ta) ρ M Q := fun σ α F H g k kk =>
  h σ α F H g.env g.sta _ fun vs F1 H1 ss m1 S1 o1 ⟨ds, e1, hl, q1⟩ => by
    subst e1
    have hd := o1.dens
    refine ⟨by rw [← hd.length, sizeLine_eq]; exact hl, fun p hp => ?_⟩
    have S2 := S1.more (m' := .lst ds) (o := .lst vs) hp ⟨S1.sub.free hp, vs, upd_same, hd⟩
    exact kk _ _ F1 _ _ _ ⟨(g.env.mono m1.ex).more, S2, (g.st.move m1).more hp⟩ m1.ex ⟨_, rfl⟩ (loc_ok (p := (p, p)) (sta_len S1)) q1
theorem en_newD {Q : Sl → List MO → Prop} (q : Q (.l M.length) (M ++ [.dic [] []])) : EvN K e tDNewK ρ M Q := fun σ α F H g k kk p hp => by
  have S2 := g.sta.more (m' := .dic [] []) (o := .dK []) hp ⟨g.sta.sub.free hp, [], upd_same, rfl, rfl⟩
  exact kk _ _ F _ _ _ ⟨g.env.more, S2, g.st.more hp⟩ (.refl F) ⟨_, rfl⟩ (loc_ok (p := (p, p)) (sta_len g.sta)) q
theorem SlsOk.more {α β : Al} {F : Hp} : ∀ {ss : List Sl} {vs : List V}, SlsOk K α F ss vs → SlsOk K (α ++ β) F ss vs
  | [], _, h => h
  | s :: ss, _, ⟨v, r, h1, h2, h3⟩ => ⟨v, r, h1, h2.more, SlsOk.more h3⟩
theorem ena_nil {Q : List Sl → List MO → Prop} (q : Q [] M) : EvNA K e tNil ρ M Q := fun σ α F H g k kk => kk [] α F H [] M g (.refl F) ⟨[], by simp⟩ rfl q
theorem ena_cons {tr : TA} {Q : List Sl → List MO → Prop} (h : EvN K e ta ρ M fun s M' => EvNA K e tr ρ M' fun ss M2 => Q (s :: ss) M2) : EvNA K e (tCons ta tr) ρ M Q := fun σ α F H g k kk =>
  h σ α F H g _ fun v α1 F1 H1 s M1 g1 x1 ⟨β1, b1⟩ o1 q1 => q1 σ α1 F1 H1 g1 _ fun vs α2 F2 H2 ss M2 g2 x2 ⟨β2, b2⟩ o2 q2 => by
    subst b1; subst b2
    exact kk (v :: vs) _ F2 H2 (s :: ss) M2 g2 (x1.trans x2) ⟨β1 ++ β2, by rw [List.append_assoc]⟩ ⟨v, vs, rfl, (o1.mono x2).more, o2⟩ q2
theorem r_asgN {i : Nat} (h : EvN K e te ρ M fun s M' => nx (ρ.set i (some s)) M') : RunD K e (tAsg te (gName i)) ρ M nx rt bk ct := fun X σ α F H g ok =>
  h σ α F H g _ fun v α1 F1 H1 s M1 g1 x1 _ o1 q1 => ok.nx _ α1 F1 H1 _ M1 ⟨g1.env.set i o1, g1.sta, g1.st⟩ x1 q1
theorem r_parN {i j : Nat} {ta : TA} (h : EvNA K e ta ρ M fun ss M' => ∃ a b, ss = [a, b] ∧ nx ((ρ.set i (some a)).set j (some b)) M') : RunD K e (tPar i j ta) ρ M nx rt bk ct := fun X σ α F H g ok =>
  h σ α F H g _ fun vs α1 F1 H1 ss M1 g1 x1 _ o1 ⟨a, b, e1, q1⟩ => by
    subst e1
    obtain ⟨v, r, rfl, hv, r2⟩ := o1
    obtain ⟨w, rfl, hw⟩ := sls1s r2
    exact ⟨v, w, rfl, ok.nx _ α1 F1 H1 _ M1 ⟨(g1.env.set i hv).set j hw, g1.sta, g1.st⟩ x1 q1⟩
theorem r_par3 {i j l : Nat} {ta : TA} (h : EvNA K e ta ρ M fun ss M' => ∃ a b c, ss = [a, b, c] ∧ nx (((ρ.set i (some a)).set j (some b)).set l (some c)) M') : RunD K e (tPar3 i j l ta) ρ M nx rt bk ct := fun X σ α F H g ok =>
  h σ α F H g _ fun vs α1 F1 H1 ss M1 g1 x1 _ o1 ⟨a, b, c, e1, q1⟩ => by
    subst e1
    obtain ⟨v, r, rfl, hv, r2⟩ := o1
    obtain ⟨w, r', rfl, hw, r3⟩ := r2
    obtain ⟨z, rfl, hz⟩ := sls1s r3
    exact ⟨v, w, z, rfl, ok.nx _ α1 F1 H1 _ M1 ⟨((g1.env.set i hv).set j hw).set l hz, g1.sta, g1.st⟩ x1 q1⟩
/-- a tuple of slots unpacked into names -/
def EvGn (g : TGs) (ss : List Sl) (ρ : Rho) (R : Rho → Prop) (K : PySem.W.Frag) : Prop := ∀ (σ : L2.St) (α : Al) (F H : Hp) (vs : List V), EnvOk K α F σ ρ → SlsOk K α F ss vs → ∀ k : L2.St → Hp → Prop, (∀ σ' ρ', EnvOk K α F σ' ρ' → R ρ' → k σ' H) → g vs σ H k
theorem egn_nil {R : Rho → Prop} (q : R ρ) : EvGn gNil [] ρ R K := fun σ α F H vs en o k kk => ⟨o, kk _ _ en q⟩
theorem egn_cons {i : Nat} {gs : TGs} {s : Sl} {ss : List Sl} {R : Rho → Prop} (h : EvGn gs ss (ρ.set i (some s)) R K) : EvGn (gCons (gName i) gs) (s :: ss) ρ R K := fun σ α F H vs en o k kk => by
  obtain ⟨v, r, rfl, h1, h2⟩ := o
  exact ⟨v, r, rfl, h (σ.set i (some v)) α F H r (en.set i h1) h2 k kk⟩
theorem r_tupN {n : Nat} {ta : TA} {gs : TGs} (hn : n ≤ 1000) (h : EvNA K e ta ρ M fun ss M' => ss.length = n ∧ EvGn gs ss ρ (fun ρ' => nx ρ' M') K) : RunD K e (tAsg (tTup ta) (gTup K n gs)) ρ M nx rt bk ct := fun X σ α F H g ok =>
  h σ α F H g _ fun vs α1 F1 H1 ss M1 g1 x1 _ o1 ⟨hl, q1⟩ => by
    have hv := o1.length
    refine ⟨by rw [← hv, sizeLine_eq]; omega, fun p hp => ⟨p, vs, rfl, .inl (.inl upd_same), by rw [← hv]; exact hl, ?_⟩⟩
    have hFp : F1 p = none := g1.sta.sub.free hp
    have S2 := g1.sta.extra (o := .tup vs) hFp (g1.sta.notin hp)
    refine q1 σ α1 F1 _ vs g1.env o1 _ fun σ' ρ' en' q' => ok.nx _ α1 F1 _ _ M1 ⟨en', S2, ⟨g1.st.ex, fun b o z k => ?_, fun b z => ?_, g1.st.new, g1.st.pre⟩⟩ x1 q'
    · have := g1.st.fr b o z k
      rw [upd_ne (ne_of_none this hp)]; exact this
    · have := g1.st.tr b z
      have n : b ≠ p := fun y => this (by rw [y]; exact hp)
      rw [upd_ne n]; exact this

/-! ### dicts -/
def kdGet (ks : List Key) (ds : List D) (k : Key) : Option D := ((ks.zip ds).find? fun p => decide (p.1 = k)).map (·.2)
def kdPut (ks : List Key) (ds : List D) (k : Key) (d : D) : List Key × List D := if (ks.any fun j => decide (j = k)) = true then (ks, (ks.zip ds).map fun p => if p.1 = k then d else p.2) else (ks ++ [k], ds ++ [d])
theorem kd_val {F : Hp} {k : Key} : ∀ {ks : List Key} {ds : List D} {vs : List V}, ks.length = vs.length → Dens K F ds vs → (∀ d, kdGet ks ds k = some d → ∃ v, valV (ks.zip vs) k = some v ∧ Den K F d v) ∧ (kdGet ks ds k = none → valV (ks.zip vs) k = none)
  | [], ds, vs, _, _ => ⟨fun d h => by simp [kdGet] at h, fun _ => rfl⟩
  | j :: ks, [], vs, hl, h => by
    have h : vs = [] := h
    subst h; simp at hl
  | j :: ks, d :: ds, vs, hl, h => by
    obtain ⟨v, r, rfl, h2, h3⟩ := h
    have ih := kd_val (k := k) (ks := ks) (by simpa using hl) h3
    by_cases e : j = k
    · subst e
      refine ⟨fun d' h => ?_, fun h => ?_⟩
      · simp [kdGet] at h
        subst h
        exact ⟨v, by simp [valV], h2⟩
      · simp [kdGet] at h
    · have e1 : kdGet (j :: ks) (d :: ds) k = kdGet ks ds k := by simp [kdGet, e]
      have e2 : valV ((j :: ks).zip (v :: r)) k = valV (ks.zip r) k := by simp [valV, e]
      rw [e1, e2]; exact ih
theorem kd_mapv {F : Hp} {k : Key} {d : D} {v : V} (hd : Den K F d v) : ∀ {ks : List Key} {ds : List D} {vs : List V}, ks.length = vs.length → Dens K F ds vs →
    ∃ us, ((ks.zip vs).map fun kv => if kv.1 = k then (kv.1, v) else kv) = ks.zip us ∧ ks.length = us.length ∧ Dens K F ((ks.zip ds).map fun p => if p.1 = k then d else p.2) us
  | [], ds, vs, hl, h => ⟨[], rfl, rfl, by simp [Dens]⟩
  | j :: ks, [], vs, hl, h => by
    have h : vs = [] := h
    subst h; simp at hl
  | j :: ks, c :: ds, vs, hl, h => by
    obtain ⟨w, r, rfl, h2, h3⟩ := h
    obtain ⟨us, u1, u2, u3⟩ := kd_mapv (k := k) hd (ks := ks) (by simpa using hl) h3
    by_cases e : j = k
    · exact ⟨v :: us, by simp [e]; exact u1, by simp [u2], by simp only [List.zip_cons_cons, List.map_cons, if_pos e]; exact Dens.cons hd u3⟩
    · exact ⟨w :: us, by simp [e]; exact u1, by simp [u2], by simp only [List.zip_cons_cons, List.map_cons, if_neg e]; exact Dens.cons h2 u3⟩
theorem any_zip {k : Key} : ∀ {ks : List Key} {vs : List V}, ks.length = vs.length → ((ks.zip vs).any fun kv => decide (kv.1 = k)) = ks.any fun j => decide (j = k)
  | [], [], _ => rfl
  | j :: ks, v :: vs, h => by
    rw [List.zip_cons_cons, List.any_cons, List.any_cons, any_zip (by simpa using h)]
theorem any_mem {k : Key} {ks : List Key} : (ks.any fun j => decide (j = k)) = true ↔ k ∈ ks := by
  rw [List.any_eq_true]
  constructor
  · rintro ⟨j, hj, e⟩
    have e : j = k := of_decide_eq_true e
    rw [← e]; exact hj
  · exact fun h => ⟨k, h, decide_eq_true rfl⟩
theorem kd_put {F : Hp} {k : Key} {d : D} {v : V} (hd : Den K F d v) {ks : List Key} {ds : List D} {vs : List V} (hl : ks.length = vs.length) (h : Dens K F ds vs) :
    ∃ us, putK (ks.zip vs) k v = (kdPut ks ds k d).1.zip us ∧ (kdPut ks ds k d).1.length = us.length ∧ Dens K F (kdPut ks ds k d).2 us := by
  unfold putK kdPut
  rw [any_zip hl]
  by_cases e : (ks.any fun j => decide (j = k)) = true
  · rw [if_pos e, if_pos e]
    exact kd_mapv hd hl h
  · rw [if_neg e, if_neg e]
    exact ⟨vs ++ [v], by rw [List.zip_append hl]; rfl, by simp [hl], h.append (Dens.cons hd Dens.nil)⟩
theorem kdGet_put {k j : Key} {d : D} : ∀ {ks : List Key} {ds : List D}, ks.length = ds.length → kdGet (kdPut ks ds k d).1 (kdPut ks ds k d).2 j = if j = k then some d else kdGet ks ds j := by
  intro ks ds hl
  unfold kdPut
  by_cases e : k ∈ ks
  · rw [if_pos (any_mem.mpr e)]
    show kdGet ks ((ks.zip ds).map fun p => if p.1 = k then d else p.2) j = _
    induction ks generalizing ds with
    | nil => simp at e
    | cons i ks ih =>
      cases ds with
      | nil => simp at hl
      | cons c ds =>
        simp only [List.zip_cons_cons, List.map_cons]
        by_cases hi : i = j
        · subst hi
          by_cases hk : i = k
          · simp [kdGet, hk]
          · simp [kdGet, hk]
        · have e1 : ∀ (c : D) (ds : List D), kdGet (i :: ks) (c :: ds) j = kdGet ks ds j := fun c ds => by simp [kdGet, hi]
          rw [e1, e1]
          by_cases e2 : k ∈ ks
          · exact ih (by simpa using hl) e2
          · have hik : i = k := by
              rcases List.mem_cons.mp e with z | z
              · exact z.symm
              · exact absurd z e2
            have hjk : ¬ j = k := fun z => hi (hik.trans z.symm)
            rw [if_neg hjk]
            have : (ks.zip ds).map (fun p => if p.1 = k then d else p.2) = (ks.zip ds).map (·.2) := by
              apply List.map_congr_left
              intro p hp
              have := (List.of_mem_zip (show (p.1, p.2) ∈ ks.zip ds from hp)).1
              rw [if_neg (fun z => e2 (by rw [← z]; exact this))]
            rw [this]
            have h2 : (ks.zip ds).map (·.2) = ds := by
              apply List.map_snd_zip
              simp at hl; omega
            rw [h2]
  · rw [if_neg (fun z => e (any_mem.mp z))]
    show kdGet (ks ++ [k]) (ds ++ [d]) j = _
    unfold kdGet
    rw [List.zip_append hl, List.find?_append]
    by_cases hj : j = k
    · subst hj
      have : (ks.zip ds).find? (fun p => decide (p.1 = j)) = none := by
        rw [List.find?_eq_none]
        intro p hp
        have := (List.of_mem_zip (show (p.1, p.2) ∈ ks.zip ds from hp)).1
        simpa using fun z => e (by rw [← z]; exact this)
      rw [this]; simp
    · simp [hj, Ne.symm hj]
theorem kdPut_len {ks : List Key} {ds : List D} {k : Key} {d : D} (h : ks.length = ds.length) : (kdPut ks ds k d).1.length = (kdPut ks ds k d).2.length := by
  unfold kdPut
  split
  · simp; omega
  · simp [h]
theorem kdPut_le {ks : List Key} {ds : List D} {k : Key} {d : D} : (kdPut ks ds k d).1.length ≤ ks.length + 1 := by
  unfold kdPut
  split <;> simp
/-- which dict a slot tells -/
inductive RdD (M : List MO) : Sl → List Key → List D → Prop
  | v {ks : List Key} {ds : List D} : RdD M (.v (.dic ks ds)) ks ds
  | l {k : Nat} {ks : List Key} {ds : List D} : M[k]? = some (.dic ks ds) → RdD M (.l k) ks ds
theorem RdD.get {α : Al} {F H : Hp} {s : Sl} {ks : List Key} {ds : List D} {u : V} (h : RdD M s ks ds) (S : Sta K α M F H) (o : SlOk K α F s u) : ∃ a vs, u = .ref a ∧ H a = some (.dK (ks.zip vs)) ∧ ks.length = vs.length ∧ Dens K F ds vs := by
  cases h with
  | v =>
    obtain ⟨a, vs, h1, h2, h3⟩ := o
    exact ⟨a, vs, h1, S.sub _ _ h2, h3⟩
  | l hk =>
    obtain ⟨p, hp, rfl⟩ := o
    obtain ⟨_, vs, h1, h2⟩ := S.ob _ _ p hk hp
    exact ⟨p.1, vs, rfl, h1, h2⟩
variable {Q : Sl → Prop}
theorem ev_dget {td ty : TE} (h : EvP K td ρ M fun x => EvP K ty ρ M fun y => ∃ ks ds k d, RdD M x ks ds ∧ y = .v (.raw (kV k)) ∧ kdGet ks ds k = some d ∧ Q (.v d)) : EvP K (tDGet td ty) ρ M Q := fun σ α F H en S k kk =>
  h σ α F H en S _ fun u F1 H1 x m1 S1 o1 q1 => q1 σ α F1 H1 (en.mono m1.ex) S1 _ fun v F2 H2 y m2 S2 o2 ⟨ks, ds, k, d, hr, ey, hg, q⟩ => by
    subst ey
    have o2 : v = kV k := o2
    subst o2
    obtain ⟨a, vs, rfl, h1, h2, h3⟩ := hr.get S2 (o1.mono m2.ex)
    obtain ⟨w, hw, hd⟩ := (kd_val (k := k) h2 h3).1 d hg
    exact ⟨a, w, rfl, .inl ⟨_, k, .inl h1, rfl, hw.symm⟩, kk w F2 H2 _ (m1.trans m2) S2 (den_ok hd) q⟩
theorem some_is {k : Key} {F : Hp} {ks : List Key} {ds : List D} {vs : List V} (h2 : ks.length = vs.length) (h3 : Dens K F ds vs) : (valV (ks.zip vs) k).isSome = (kdGet ks ds k).isSome := by
  have := kd_val (K := K) (F := F) (k := k) h2 h3
  cases e : kdGet ks ds k with
  | none => rw [this.2 e]; rfl
  | some d =>
    obtain ⟨v, hv, _⟩ := this.1 d e
    rw [hv]; rfl
theorem ev_din {td ty : TE} (h : EvP K ty ρ M fun y => EvP K td ρ M fun x => ∃ ks ds k, RdD M x ks ds ∧ y = .v (.raw (kV k)) ∧ Q (.v (.bl (kdGet ks ds k).isSome))) : EvP K (tDIn ty td) ρ M Q := fun σ α F H en S k kk =>
  h σ α F H en S _ fun u F1 H1 x m1 S1 o1 q1 => q1 σ α F1 H1 (en.mono m1.ex) S1 _ fun v F2 H2 y m2 S2 o2 ⟨ks, ds, k, hr, ey, q⟩ => by
    subst ey
    have o1 : u = kV k := o1
    subst o1
    obtain ⟨a, vs, rfl, h1, h2, h3⟩ := hr.get S2 o2
    refine ⟨a, _, rfl, .inl ⟨_, k, .inl h1, rfl, rfl⟩, ?_⟩
    rw [some_is h2 h3]
    exact kk _ F2 H2 _ (m1.trans m2) S2 raw_ok q
theorem ev_dnotin {td ty : TE} (h : EvP K ty ρ M fun y => EvP K td ρ M fun x => ∃ ks ds k, RdD M x ks ds ∧ y = .v (.raw (kV k)) ∧ Q (.v (.bl (!(kdGet ks ds k).isSome)))) : EvP K (tDNotIn ty td) ρ M Q := fun σ α F H en S k kk =>
  h σ α F H en S _ fun u F1 H1 x m1 S1 o1 q1 => q1 σ α F1 H1 (en.mono m1.ex) S1 _ fun v F2 H2 y m2 S2 o2 ⟨ks, ds, k, hr, ey, q⟩ => by
    subst ey
    have o1 : u = kV k := o1
    subst o1
    obtain ⟨a, vs, rfl, h1, h2, h3⟩ := hr.get S2 o2
    refine ⟨a, _, rfl, .inl ⟨_, k, .inl h1, rfl, rfl⟩, ?_⟩
    rw [some_is h2 h3]
    exact kk _ F2 H2 _ (m1.trans m2) S2 raw_ok q
theorem ev_dget2 {td ty tx : TE} (h : EvP K td ρ M fun x => EvP K ty ρ M fun y => EvP K tx ρ M fun z => ∃ ks ds k, RdD M x ks ds ∧ y = .v (.raw (kV k)) ∧ ∃ dz, z = .v dz ∧ Q (.v ((kdGet ks ds k).getD dz))) (hd : ∀ (σ : L2.St) (α : Al) (F H : Hp), EnvOk K α F σ ρ → Sta K α M F H → ∀ k : VK, (∀ v, (∃ a vs, v = .ref a ∧ ∃ ks : List Key, H a = some (.dK (ks.zip vs))) → k v H) → td σ H k) :
    True := trivial
/-- d.get(k, x), d a name -/
theorem ev_dgetN {i : Nat} {ty tx : TE} {s : Sl} {ks : List Key} {ds : List D} (hi : ρ[i]? = some (some s)) (hs : RdD M s ks ds) (h : EvP K ty ρ M fun y => EvP K tx ρ M fun z => ∃ k, y = .v (.raw (kV k)) ∧ ∃ dz, z = .v dz ∧ Q (.v ((kdGet ks ds k).getD dz))) : EvP K (tDGet2 (tVar i) ty tx) ρ M Q := fun σ α F H en S k kk => by
  obtain ⟨u, h1, h2⟩ := en.at' i s hi
  obtain ⟨a, vs, rfl, h3, _, _⟩ := hs.get S h2
  refine ⟨_, h1, a, rfl, .inl ⟨_, .inl h3⟩, ?_⟩
  refine h σ α F H en S _ fun v F1 H1 y m1 S1 o1 q1 => q1 σ α F1 H1 (en.mono m1.ex) S1 _ fun z F2 H2 sz m2 S2 o2 ⟨k0, ey, dz, ez, q⟩ => ?_
  subst ey; subst ez
  have o1 : v = kV k0 := o1
  subst o1
  obtain ⟨a', vs', e1, h4, h5, h6⟩ := hs.get S2 (h2.mono (m1.trans m2).ex)
  cases e1
  refine ⟨_, .inl ⟨_, k0, .inl h4, rfl, rfl⟩, ?_⟩
  have hv := kd_val (k := k0) h5 h6
  cases e : kdGet ks ds k0 with
  | none =>
    rw [hv.2 e]
    rw [e] at q
    exact kk z F2 H2 (.v dz) (m1.trans m2) S2 o2 q
  | some d =>
    obtain ⟨w, hw, hd⟩ := hv.1 d e
    rw [hw]
    rw [e] at q
    exact kk w F2 H2 (.v d) (m1.trans m2) S2 (den_ok hd) q
/-- d[k] = v, d a name -/
theorem r_dput {i kk : Nat} {ty : TE} {ks : List Key} {ds : List D} (hi : ρ[i]? = some (some (.l kk))) (hk : M[kk]? = some (.dic ks ds)) (h : EvP K te ρ M fun s => EvP K ty ρ M fun y => ∃ k d, s = .v d ∧ y = .v (.raw (kV k)) ∧ ks.length < 16777216 ∧ nx ρ (M.set kk (.dic (kdPut ks ds k d).1 (kdPut ks ds k d).2))) :
    RunD K e (sDPut (tVar i) ty te) ρ M nx rt bk ct := fun X σ α F H g ok =>
  h σ α F H g.env g.sta _ fun v F1 H1 s m1 S1 o1 q1 => by
    obtain ⟨u, h1, p, hp, rfl⟩ := g.env.at' i _ hi
    refine ⟨_, h1, q1 σ α F1 H1 (g.env.mono m1.ex) S1 _ fun w F2 H2 y m2 S2 o2 ⟨k, d, es, ey, hz, q⟩ => ?_⟩
    subst es; subst ey
    have o2 : w = kV k := o2
    subst o2
    obtain ⟨hF2, vs, hvs, hl, hd⟩ := S2.ob kk _ p hk hp
    obtain ⟨us, u1, u2, u3⟩ := kd_put (k := k) (Den.mono K m2.ex _ _ o1) hl hd
    refine ⟨p.1, _, rfl, .inl ⟨_, k, hvs, rfl, by rw [List.length_zip, sizeLine_eq]; omega, rfl⟩, ?_⟩
    obtain ⟨m3, S3⟩ := S2.write (m' := .dic (kdPut ks ds k d).1 (kdPut ks ds k d).2) (o := .dK (putK (ks.zip vs) k v)) hp hF2 ⟨hF2, us, by rw [u1]; exact upd_same, u2, u3⟩
    exact ok.nx _ _ F2 _ _ _ ⟨g.env.mono (m1.trans m2).ex, S3, (g.st.move (m1.trans m2)).move m3⟩ (m1.trans m2).ex q
end
end DL

/-! DL11: the end of a row. -/
namespace DL
open PySem L2
theorem walk_ofX {l : PySem.W.OpenLaw} {n k : Nat} {q : Program} {loose : List Str} {XP : (Str → Option Value) → Heap → Prop} {YP : World → Heap → Prop} {d : DefRec} {K : Params → PySem.W.Frag} {x : Str} {sp : PySem.W.Frag → Sp}
    (hn : l.most = some n) (hn2 : n ≤ sizeLine) (hdf : d.params.defaults = []) (hr : Room k callerA) (hY : ∀ (w : World) (h : Heap), YP w h → (K w.params).In h)
    (F : ∀ (w : World) (mg : Str → Option Value) (fa : Addr) (h : Heap), (K w.params).In h → h.Ns mainGlobals mg → XP mg h → mg d.name = some (.ref fa) →
      ∃ fd : FuncData, (∀ (s : Shared) (u : Value), BindsTo s fd ⟨[u], []⟩ [(x, u)]) ∧
        ∀ base : Heap, (K w.params).In base → base.Ns mainGlobals mg → FnOk l.prog w (K w.params) mg base CX0 k fa fd [x] (sp (K w.params)))
    (hsp : ∀ (K : PySem.W.Frag) (H : Hp) (a : Addr) (ns : List Int), ns.length ≤ n → SqL K H a (ns.map V.int) → sp K [.ref a] H (fun v _ => v = .bl true) fun _ _ _ => False) :
    PySem.W.WalkO q loose XP YP l.row.toRowW d [] (fun f vs => PySem.call f vs) := by
  refine Att.attach_call hn hdf fun w s₀ s₁ mg mb fa o pm cd doc a vs ns G Y ho hd hcd hmg hobj hints hlen hg => ?_
  have KX := hY w _ Y
  obtain ⟨fd, hb, hF⟩ := F w mg fa _ KX G.T.g G.X hmg
  exact law_call KX G.T.g G.T.b G.T.builtins G.T.nolimit hg hobj hints (Nat.le_trans hlen hn2) hr hF hb (fun H hO hS => hsp (K w.params) H a ns hlen hS) fun _ _ _ z => z
/-- the law's promise -/
abbrev SpLaw (K : PySem.W.Frag) : Sp := SpP K (fun cells : List Int => [.rd (D.ints cells)]) (fun cells => cells.length ≤ 63) (fun _ d => d = .bl true)
theorem spLaw_of {K : PySem.W.Frag} {H : Hp} {a : Addr} {ns : List Int} (h : ns.length ≤ 63) (s : SqL K H a (ns.map V.int)) : SpLaw K [.ref a] H (fun v _ => v = .bl true) fun _ _ _ => False := by
  refine ⟨ns, [], H, ⟨_, [], rfl, ⟨a, ns.map V.int, rfl, s, ?_⟩, rfl⟩, sta_nil (.refl H), h, fun v F' H' d M' _ _ o e => ?_⟩
  · have e : D.ints ns = (ns.map V.int).map D.raw := by simp [D.ints, Function.comp_def]
    rw [e]; exact Dens.raws
  · subst e; exact o
theorem loose_int {p : Program} {lv : List (Str × PySem.W.WData)} {mg : Str → Option Value} {h : Heap} {x : Str} {i : Int} (X : PySem.W.XL p lv mg h) (m : (x, PySem.W.WData.int i) ∈ lv) : CInt mg x i := by
  obtain ⟨v, h1, h2⟩ := X.2.val _ m
  cases h2
  exact ⟨_, h1⟩
theorem cint_mk {K : PySem.W.Frag} {mg : Str → Option Value} {h : Heap} {x : Str} {i : Int} {t : Tok} (X : K.In h) (G : h.Ns mainGlobals mg) (a : PySem.W.nsIn K mainGlobals x = some (some (.int i t))) : CInt mg x i :=
  ⟨⟨t, PySem.W.mg_of X G a⟩⟩
theorem def_k {K : PySem.W.Frag} {mg : Str → Option Value} {R : Prop} {x : Str} {st : Stmt} {ps : List Str} {h : Heap} {f : Addr} {oc : Value} {od an : Option Addr} {osl : Array (Option Value)} {kV doc pm cdv ct : Value} (X : K.In h) (G : h.Ns mainGlobals mg)
    (a : PySem.W.nsIn K mainGlobals x = some (some (.ref f))) (l : K.lookup f = some ⟨oc, od, .func (PySem.W.fnOf x x (defArgs st) (defBody st) (defScope st) .none kV doc pm an cdv ct), osl⟩)
    (c : PySem.W.codeIn K cdv x = true) (k : PySem.W.keepIn K (.ref f) = true)
    (b : ∀ (kV doc pm : Value) (an : Option Addr) (cdv ct : Value) (us : List Value), us.length = ps.length → bindArgs (PySem.W.fnOf x x (defArgs st) (defBody st) (defScope st) .none kV doc pm an cdv ct) ⟨us, []⟩ = pure (ps.zip us)) (z : DefAt K mg x st ps → R) : R :=
  z (def_mk X G a l c k b)
end DL

namespace T
open PySem L2 DL
def top (i : Nat) : Stmt := PySem.Challenge.pw_squareweights_k22_whole_ways.main.body.getD i (.Pass ⟨0, 0, 0, 0⟩)
abbrev s_is_integer : Stmt := top 7
abbrev n_is_integer : List Str := ["thing", "low", "high"]
theorem sc_is_integer : FnScope n_is_integer ["thing", "low", "high"] (defScope s_is_integer) := ⟨rfl, rfl, rfl, by decide +kernel, rfl, by decide +kernel, by decide +kernel⟩
abbrev s_is_weight : Stmt := top 8
abbrev n_is_weight : List Str := ["thing", "part"]
theorem sc_is_weight : FnScope n_is_weight ["thing"] (defScope s_is_weight) := ⟨rfl, rfl, rfl, by decide +kernel, rfl, by decide +kernel, by decide +kernel⟩
abbrev s_check_weight : Stmt := top 9
abbrev n_check_weight : List Str := ["thing"]
theorem sc_check_weight : FnScope n_check_weight ["thing"] (defScope s_check_weight) := ⟨rfl, rfl, rfl, by decide +kernel, rfl, by decide +kernel, by decide +kernel⟩
abbrev s_product : Stmt := top 10
abbrev n_product : List Str := ["numbers", "found", "one"]
theorem sc_product : FnScope n_product ["numbers"] (defScope s_product) := ⟨rfl, rfl, rfl, by decide +kernel, rfl, by decide +kernel, by decide +kernel⟩
abbrev s_sign_of : Stmt := top 11
abbrev n_sign_of : List Str := ["weight"]
theorem sc_sign_of : FnScope n_sign_of ["weight"] (defScope s_sign_of) := ⟨rfl, rfl, rfl, by decide +kernel, rfl, by decide +kernel, by decide +kernel⟩
abbrev s_check_two : Stmt := top 14
abbrev n_check_two : List Str := ["one", "other", "weight"]
theorem sc_check_two : FnScope n_check_two ["one", "other"] (defScope s_check_two) := ⟨rfl, rfl, rfl, by decide +kernel, rfl, by decide +kernel, by decide +kernel⟩
abbrev s_root_below : Stmt := top 15
abbrev n_root_below : List Str := ["number", "low", "high", "middle"]
theorem sc_root_below : FnScope n_root_below ["number"] (defScope s_root_below) := ⟨rfl, rfl, rfl, by decide +kernel, rfl, by decide +kernel, by decide +kernel⟩
abbrev s_ways_by : Stmt := top 16
abbrev n_ways_by : List Str := ["mine", "yours", "number", "found", "one", "left", "other"]
theorem sc_ways_by : FnScope n_ways_by ["mine", "yours", "number"] (defScope s_ways_by) := ⟨rfl, rfl, rfl, by decide +kernel, rfl, by decide +kernel, by decide +kernel⟩
abbrev s_check_asked : Stmt := top 17
abbrev n_check_asked : List Str := ["one", "other", "number", "low", "high"]
theorem sc_check_asked : FnScope n_check_asked ["one", "other", "number", "low", "high"] (defScope s_check_asked) := ⟨rfl, rfl, rfl, by decide +kernel, rfl, by decide +kernel, by decide +kernel⟩
abbrev s_ways : Stmt := top 18
abbrev n_ways : List Str := ["one", "other", "number"]
theorem sc_ways : FnScope n_ways ["one", "other", "number"] (defScope s_ways) := ⟨rfl, rfl, rfl, by decide +kernel, rfl, by decide +kernel, by decide +kernel⟩
abbrev s_count_ways : Stmt := top 19
abbrev n_count_ways : List Str := ["one", "other", "number", "rows", "mine", "yours"]
theorem sc_count_ways : FnScope n_count_ways ["one", "other", "number"] (defScope s_count_ways) := ⟨rfl, rfl, rfl, by decide +kernel, rfl, by decide +kernel, by decide +kernel⟩
abbrev s__law_mix : Stmt := top 21
abbrev n__law_mix : List Str := ["_law_script", "_law_seed", "_law_state", "_law_cell"]
theorem sc__law_mix : FnScope n__law_mix ["_law_script", "_law_seed"] (defScope s__law_mix) := ⟨rfl, rfl, rfl, by decide +kernel, rfl, by decide +kernel, by decide +kernel⟩
abbrev s__law_next : Stmt := top 22
abbrev n__law_next : List Str := ["_law_h", "_law_cap", "_law_cell"]
theorem sc__law_next : FnScope n__law_next ["_law_h", "_law_cap"] (defScope s__law_next) := ⟨rfl, rfl, rfl, by decide +kernel, rfl, by decide +kernel, by decide +kernel⟩
abbrev s__law_alike : Stmt := top 23
abbrev n__law_alike : List Str := ["_law_found", "_law_due", "_law_k"]
theorem sc__law_alike : FnScope n__law_alike ["_law_found", "_law_due"] (defScope s__law_alike) := ⟨rfl, rfl, rfl, by decide +kernel, rfl, by decide +kernel, by decide +kernel⟩
abbrev s__law_pick : Stmt := top 24
abbrev n__law_pick : List Str := ["_law_h", "_law_things"]
theorem sc__law_pick : FnScope n__law_pick ["_law_h", "_law_things"] (defScope s__law_pick) := ⟨rfl, rfl, rfl, by decide +kernel, rfl, by decide +kernel, by decide +kernel⟩
abbrev s__law_product : Stmt := top 25
abbrev n__law_product : List Str := ["_law_numbers", "_law_found", "_law_one"]
theorem sc__law_product : FnScope n__law_product ["_law_numbers"] (defScope s__law_product) := ⟨rfl, rfl, rfl, by decide +kernel, rfl, by decide +kernel, by decide +kernel⟩
abbrev s__law_ways : Stmt := top 26
abbrev n__law_ways : List Str := ["_law_one", "_law_other", "_law_number", "_law_squares", "_law_found", "_law_x", "_law_y"]
theorem sc__law_ways : FnScope n__law_ways ["_law_one", "_law_other", "_law_number"] (defScope s__law_ways) := ⟨rfl, rfl, rfl, by decide +kernel, rfl, by decide +kernel, by decide +kernel⟩
abbrev s_law : Stmt := top 27
abbrev n_law : List Str := ["_law_script", "_law_h", "_law_turn", "_law_sums", "_law_both", "_law_number", "_law_due", "_law_whole", "_law_by", "_law_rows", "_law_most", "_law_far", "_law_one", "_law_other", "_law_mine", "_law_yours", "_law_k", "_law_x", "_law_y"]
theorem sc_law : FnScope n_law ["_law_script"] (defScope s_law) := ⟨rfl, rfl, rfl, by decide +kernel, rfl, by decide +kernel, by decide +kernel⟩
structure Adr where
  WeightError : Addr
  BadNumber : Addr
  BadWeight : Addr
structure Ctx (K : PySem.W.Frag) (mg : Str → Option Value) (a : Adr) : Prop where
  B : Blt mg
  c_MOST_PART : CInt mg "MOST_PART" 1000000
  c_MOST_PARTS : CInt mg "MOST_PARTS" 5
  d_is_integer : DefAt K mg "is_integer" s_is_integer ["thing", "low", "high"]
  d_is_weight : DefAt K mg "is_weight" s_is_weight ["thing"]
  d_check_weight : DefAt K mg "check_weight" s_check_weight ["thing"]
  d_product : DefAt K mg "product" s_product ["numbers"]
  d_sign_of : DefAt K mg "sign_of" s_sign_of ["weight"]
  c_MOST_SUM : CInt mg "MOST_SUM" 100000000
  d_check_two : DefAt K mg "check_two" s_check_two ["one", "other"]
  d_root_below : DefAt K mg "root_below" s_root_below ["number"]
  d_ways_by : DefAt K mg "ways_by" s_ways_by ["mine", "yours", "number"]
  d_check_asked : DefAt K mg "check_asked" s_check_asked ["one", "other", "number", "low", "high"]
  d_ways : DefAt K mg "ways" s_ways ["one", "other", "number"]
  d_count_ways : DefAt K mg "count_ways" s_count_ways ["one", "other", "number"]
  d__law_mix : DefAt K mg "_law_mix" s__law_mix ["_law_script", "_law_seed"]
  d__law_next : DefAt K mg "_law_next" s__law_next ["_law_h", "_law_cap"]
  d__law_alike : DefAt K mg "_law_alike" s__law_alike ["_law_found", "_law_due"]
  d__law_pick : DefAt K mg "_law_pick" s__law_pick ["_law_h", "_law_things"]
  d__law_product : DefAt K mg "_law_product" s__law_product ["_law_numbers"]
  d__law_ways : DefAt K mg "_law_ways" s__law_ways ["_law_one", "_law_other", "_law_number"]
  d_law : DefAt K mg "law" s_law ["_law_script"]
local macro_rules | `(tactic| walk_at "n1") => `(tactic| first
  | with_reducible refine r_seq ?_
  | with_reducible refine r_ret ?_
  | with_reducible refine r_retN ?_
  | with_reducible refine r_next ?_
  | ((with_reducible refine x_app ?_); refine ⟨_, _, rfl, rfl, ?_⟩)
  | with_reducible refine r_drop ?_
  | with_reducible refine r_aug rfl ?_
  | with_reducible refine r_par ?_
  | ((with_reducible refine x_var ?_); refine ⟨_, rfl, ?_⟩)
  | with_reducible refine ev_c ?_
  | with_reducible refine ev_op ?_
  | with_reducible refine ev_un ?_
  | with_reducible refine ev_isiT ?_
  | with_reducible refine ev_cb ?_
  | with_reducible refine ev_tup ?_
  | with_reducible refine ev_lst ?_
  | with_reducible refine ev_if ?_
  | with_reducible refine et_test ?_
  | with_reducible refine et_B ?_
  | with_reducible refine et_and ?_
  | with_reducible refine et_or ?_
  | with_reducible refine et_not ?_
  | with_reducible refine ev_andV ?_
  | with_reducible refine ev_orV ?_
  | with_reducible refine ev_notV ?_
  | with_reducible refine eo_none ?_
  | with_reducible refine eo_some ?_
  | with_reducible refine ea_nil ?_
  | with_reducible refine ea_cons ?_
  | with_reducible refine eu_I ?_
  | with_reducible refine g_add ?_
  | with_reducible refine g_sub ?_
  | with_reducible refine x_mul ?_
  | ((with_reducible refine x_mod ?_); refine ⟨by decide, ?_⟩)
  | ((with_reducible refine x_div ?_); refine ⟨divW (b := 60) (by decide) (by decide) (by decide), ?_⟩)
  | ((with_reducible refine x_pow ?_); refine ⟨⟨by decide, by decide, by decide⟩, ?_⟩)
  | with_reducible refine x_mod ?_
  | with_reducible refine x_div ?_
  | with_reducible refine g_lt ?_
  | with_reducible refine g_le ?_
  | with_reducible refine g_gt ?_
  | with_reducible refine g_ge ?_
  | with_reducible refine g_eqI ?_
  | with_reducible refine g_neI ?_
  | with_reducible refine g_eqV rfl ?_
  | with_reducible refine g_neV rfl ?_
  | with_reducible refine g_isND ?_
  | with_reducible refine g_notND ?_
  | with_reducible refine x_ixT ?_
  | with_reducible refine x_ixL ?_
  | ((with_reducible refine x_ixM ?_); refine ⟨_, rfl, ?_⟩)
  | with_reducible refine x_lenL ?_
  | with_reducible refine x_lenT ?_
  | with_reducible refine x_lenS ?_
  | ((with_reducible refine x_lenM ?_); refine ⟨_, rfl, ?_⟩)
  | with_reducible refine ec_abs ?_
  | with_reducible refine ec_max2 ?_
  | with_reducible refine ec_min2 ?_
  | with_reducible refine ec_int1 ?_
  | with_reducible refine x_tupL ?_
  | ((with_reducible refine x_tupM ?_); refine ⟨_, rfl, ?_⟩)
  | with_reducible refine ev_chain ?_
  | with_reducible refine ev_ct ?_
  | ((with_reducible refine ei_int ?_); refine ⟨by first | assumption | constructor, ?_⟩)
  | ((with_reducible refine ei_bool ?_); refine ⟨by first | assumption | constructor, ?_⟩)
  | ((with_reducible refine ei_tuple ?_); refine ⟨by first | assumption | constructor, ?_⟩)
  | ((with_reducible refine ei_lst ?_); refine ⟨by first | assumption | constructor, ?_⟩)
  | ((with_reducible refine ei_str ?_); refine ⟨by first | assumption | constructor, ?_⟩)
  | with_reducible refine ec_callP ?_
  | with_reducible refine ec_callG ?_
  | with_reducible refine eg_tup rfl ?_
  | with_reducible refine eg_nil ?_
  | with_reducible refine eg_cons ?_
  | with_reducible refine eg_name ?_
  | (with_reducible show ∃ ds : List D, _ = List.map Sl.v ds ∧ _; first
      | refine ⟨[], rfl, le_lit rfl, ?_⟩
      | refine ⟨[_], rfl, le_lit rfl, ?_⟩
      | refine ⟨[_, _], rfl, le_lit rfl, ?_⟩
      | refine ⟨[_, _, _], rfl, le_lit rfl, ?_⟩
      | refine ⟨[_, _, _, _], rfl, le_lit rfl, ?_⟩
      | refine ⟨[_, _, _, _, _], rfl, le_lit rfl, ?_⟩
      | refine ⟨[_, _, _, _, _, _], rfl, le_lit rfl, ?_⟩)
  | (show ∃ b, Sl.v (D.bl _) = Sl.v (D.bl b) ∧ _; refine ⟨_, rfl, ?_⟩)
  | (show ∃ i, Sl.v (D.int _) = Sl.v (D.int i) ∧ _; refine ⟨_, rfl, ?_⟩))
local macro_rules | `(tactic| walk_at "d1") => `(tactic| first | with_reducible refine r_if ?_ | walk_at "n1")
local macro_rules | `(tactic| walk_at "n") => `(tactic| repeat walk_at "n1")
local macro_rules | `(tactic| walk_at "d") => `(tactic| repeat walk_at "d1")
section
variable {P : Program} {w : World} {K : PySem.W.Frag} {mg : Str → Option Value} {base : Heap} {a : Adr}
/-! ### forms: kinds, weights, products -/
def isI (d : D) (lo hi : Int) : Bool := match d with
  | .raw (.int i) => decide (lo ≤ i) && decide (i ≤ hi)
  | _ => false
theorem isI_of {d : D} (h1 : isIntD d = true) (h2 : isBoolD d = false) : ∃ i, d = .int i := by
  match d, h1, h2 with
  | .raw (.int i), _, _ => exact ⟨i, rfl⟩
theorem ok_is_integer (C : Ctx K mg a) : FnAt P w K mg base CX0 1 "is_integer" ["thing", "low", "high"] (SpP K (fun x : D × Int × Int => [x.1, .int x.2.1, .int x.2.2]) (fun x => Tame x.1) (fun x d => d = .bl (isI x.1 x.2.1 x.2.2))) := by
  refine fn_at C.d_is_integer sc_is_integer (fun _ => rfl) fun f cdv A outer s H E hr => ⟨_, (pss_one (ps_ret (pe_and (pe_isi (K := K) C.B.isinstance rfl (pa_cons (pv 0) (pa_cons (pe_bltn (v := .ty "int") rfl C.B.int (by decide +kernel) rfl) pa_nil))) (pe_and (pe_not (pe_isi (K := K) C.B.isinstance rfl (pa_cons (pv 0) (pa_cons (pe_bltn (v := .ty "bool") rfl C.B.bool (by decide +kernel) rfl) pa_nil)))) (pe_one (pe_chain op_gLe op_gLe (pv 1) (pv 0) (pv 2))))))), fun i e hp he => ?_⟩
  obtain ⟨d, lo, hi⟩ := i
  have hp : Tame d := hp
  dsimp only [cxOf]
  walk_at "d"
  refine ite_b (fun h1 => ?_) (fun h1 => ?_)
  · walk_at "d"
    refine ite_b (fun h2 => ?_) (fun h2 => ?_)
    · obtain ⟨j, rfl⟩ := isI_of h1 (by simpa using h2)
      walk_at "d"
      refine ite_dec (fun h3 => ?_) (fun h3 => ?_)
      · walk_at "d"
        refine ret_v ?_
        simp [isI, h3]
      · refine ret_v ?_
        simp [isI, h3]
    · refine ret_v ?_
      have : isBoolD d = true := by simpa using h2
      match d, this with
      | .raw (.bl b), _ => rfl
  · refine ret_v ?_
    match d, h1 with
    | .raw .non, _ => rfl
    | .raw (.str _), _ => rfl
    | .raw (.byt _), _ => rfl
    | .raw (.flt _), _ => rfl
    | .raw (.ref _), _ => rfl
    | .raw (.ty _), _ => rfl
    | .tup _, _ => rfl
    | .lst _, _ => rfl
    | .dic _ _, _ => rfl
    | .ins _ _ _, _ => rfl
    | .rd _, _ => rfl
/-- a part that can stand -/
def okPart (d : D) : Bool := match d with
  | .raw (.int i) => decide (-1000000 ≤ i) && decide (i ≤ 1000000) && !decide (i = 0)
  | _ => false
def isW (d : D) : Bool := match d with
  | .tup ds => decide (1 ≤ ds.length) && decide (ds.length ≤ 5) && (ds.map okPart).all id
  | _ => false
def TameW (d : D) : Prop := Tame d ∧ ∀ ds, d = .tup ds → ds.length ≤ 1000 ∧ ∀ x, x ∈ ds → Tame x
theorem isW_no {d : D} (h : isTupD d = false) : isW d = false := by
  match d, h with
  | .raw _, _ => rfl
  | .lst _, _ => rfl
  | .dic _ _, _ => rfl
  | .ins _ _ _, _ => rfl
  | .rd _, _ => rfl
theorem isTup_of {d : D} (h : isTupD d = true) : ∃ ds, d = .tup ds := by
  match d, h with
  | .tup ds, _ => exact ⟨ds, rfl⟩
theorem ok_is_weight (C : Ctx K mg a) : FnAt P w K mg base CX0 2 "is_weight" ["thing"] (SpP K (fun d : D => [d]) TameW (fun d r => r = .bl (isW d))) := by
  refine fn_at C.d_is_weight sc_is_weight (fun _ => rfl) fun f cdv A outer s H E hr => ⟨_, (pss_cons (ps_if (PW.pt (pw_or (pt_not (pt_val (pe_isi (K := K) C.B.isinstance rfl (pa_cons (pv 0) (pa_cons (pe_bltn (v := .ty "tuple") rfl C.B.tuple (by decide +kernel) rfl) pa_nil))))) (pw_or1 (pt_not (pt_chain op_gLe op_gLe pe_int (pe_len (K := K) C.B.len rfl (pa_cons (pv 0) pa_nil)) (C.c_MOST_PARTS.pe rfl))))))
    (pss_one (ps_ret pe_bl))
    pss_nil)
    (pss_one (ps_ret (pe_all (K := K) C.B.all rfl rfl (pa_cons (pe_lc (own := [("part", 1)]) (g := (gName 1)) (tt := tYes) rfl sc_is_weight.nd (pi_seq (K := K) (pv 0)) (blkOk_by (N := n_is_weight) (sc := defScope s_is_weight) (by decide +kernel)) (fun _ _ _ _ _ => (pg_name (i := 1) sc_is_weight.nd rfl (by first | exact Or.inl rfl | exact Or.inr rfl))) (fun _ _ _ _ _ => pts_nil) (fun _ _ _ _ _ => (pe_and (pe_fn (ok_is_integer C) (hr.mono (by omega)) rfl (pa_cons (pv 1) (pa_cons (pe_un un_neg (C.c_MOST_PART.pe rfl)) (pa_cons (C.c_MOST_PART.pe rfl) pa_nil)))) (pe_one (pe_cmpR (op_gNe (K := K) (by exact hr.units)) (pv 1) pe_int (nomark _)))))) pa_nil))))), fun d e hp he => ?_⟩
  have ht : Tame d := hp.1
  dsimp only [cxOf]
  walk_at "d"
  cases h1 : isTupD d with
  | false =>
    refine iteT ?_
    refine iteT ?_
    walk_at "d"
    exact ret_v (by rw [isW_no h1])
  | true =>
    obtain ⟨ds, rfl⟩ := isTup_of h1
    obtain ⟨hl, hx⟩ := hp.2 ds rfl
    refine iteF ?_
    walk_at "d"
    have fin : ∀ {M : List MO}, ¬ (1 ≤ ds.length ∧ ds.length ≤ 5) → RetOk ([] : List MO).length (fun r (_ : List MO) => r = D.bl (isW (.tup ds))) (.v (.bl false)) M := fun {M} h => ret_v (by
      show D.bl false = D.bl (decide (1 ≤ ds.length) && decide (ds.length ≤ 5) && (ds.map okPart).all id)
      by_cases z : 1 ≤ ds.length
      · rw [decide_eq_true z, decide_eq_false (fun y => h ⟨z, y⟩)]; rfl
      · rw [decide_eq_false z]; rfl)
    refine ite_dec (fun h2 => ?_) (fun h2 => ?_)
    · walk_at "d"
      refine ite_ndec (fun h3 => ?_) (fun h3 => ?_)
      · walk_at "d"
        exact fin (by omega)
      · walk_at "d"
        refine ev_lcM (fun d => .bl (okPart d)) (ei_seqT ?_)
        walk_at "d"
        refine ⟨ds, rfl, by omega, fun j x hj => ?_, ?_⟩
        · have hxt := hx x (List.mem_of_getElem? hj)
          walk_at "d"
          refine ⟨(x, -1000000, 1000000), rfl, hxt, fun r hr' => ?_⟩
          subst hr'
          refine ⟨_, rfl, ?_⟩
          refine ite_b (fun h4 => ?_) (fun h4 => ?_)
          · match x, h4 with
            | .raw (.int i), h4 =>
              have h4 : (decide (-1000000 ≤ i) && decide (i ≤ 1000000)) = true := h4
              walk_at "d"
              show Sl.v (D.bl (!decide (i = 0))) = Sl.v (.bl (decide (-1000000 ≤ i) && decide (i ≤ 1000000) && !decide (i = 0)))
              rw [h4]; rfl
          · show Sl.v (D.bl false) = Sl.v (.bl (okPart x))
            match x, h4 with
            | .raw (.int i), h4 =>
              have h4 : (decide (-1000000 ≤ i) && decide (i ≤ 1000000)) = false := h4
              show Sl.v (D.bl false) = Sl.v (.bl (decide (-1000000 ≤ i) && decide (i ≤ 1000000) && !decide (i = 0)))
              rw [h4]; rfl
            | .raw .non, _ => rfl
            | .raw (.bl _), _ => rfl
            | .raw (.str _), _ => rfl
            | .raw (.byt _), _ => rfl
            | .raw (.flt _), _ => rfl
            | .raw (.ref _), _ => rfl
            | .raw (.ty _), _ => rfl
            | .tup _, _ => rfl
            | .lst _, _ => rfl
            | .dic _ _, _ => rfl
            | .ins _ _ _, _ => rfl
            | .rd _, _ => rfl
        · walk_at "d"
          refine ec_all (bs := ds.map okPart) ?_ (ret_v ?_)
          · have : (D.bls (ds.map okPart)) = ds.map fun d => .bl (okPart d) := by simp [D.bls, Function.comp_def]
            rw [this]; exact .v
          · show D.bl _ = D.bl (decide (1 ≤ ds.length) && decide (ds.length ≤ 5) && (ds.map okPart).all id)
            rw [decide_eq_true (by omega), decide_eq_true (by omega)]; rfl
    · walk_at "d"
      refine iteT ?_
      walk_at "d"
      exact fin (by omega)
abbrev wt (ns : List Int) : D := .tup (D.ints ns)
/-- a weight's parts -/
structure Wt (ns : List Int) : Prop where
  lo : 1 ≤ ns.length
  hi : ns.length ≤ 5
  p : ∀ n, n ∈ ns → n ≠ 0 ∧ n.natAbs ≤ 1000000
theorem Wt.isW {ns : List Int} (h : Wt ns) : isW (wt ns) = true := by
  show (decide (1 ≤ (D.ints ns).length) && decide ((D.ints ns).length ≤ 5) && ((D.ints ns).map okPart).all id) = true
  rw [decide_eq_true (by rw [List.length_map]; exact h.lo), decide_eq_true (by rw [List.length_map]; exact h.hi), Bool.true_and, Bool.true_and]
  simp only [D.ints, List.map_map, List.all_eq_true, List.mem_map, id]
  rintro b ⟨n, hn, rfl⟩
  have := h.p n hn
  simp only [Function.comp, okPart, Bool.and_eq_true, decide_eq_true_eq, Bool.not_eq_true', decide_eq_false_iff_not]
  omega
theorem tameW_wt (ns : List Int) (h : ns.length ≤ 1000) : TameW (wt ns) := ⟨.tup _, fun ds e => by
  cases e
  refine ⟨by simpa using h, fun x hx => ?_⟩
  obtain ⟨n, _, rfl⟩ := List.mem_map.mp hx
  exact .int n⟩
theorem Wt.tame {ns : List Int} (h : Wt ns) : TameW (wt ns) := tameW_wt ns (by have := h.hi; omega)
def prodL (ns : List Int) : Int := ns.foldl (· * ·) 1
theorem prod_bit (ns : List Int) (h : ∀ n, n ∈ ns → n.natAbs < 2 ^ 700) : (prodL ns).natAbs < 2 ^ (700 * ns.length + 1) := by
  unfold prodL
  suffices g : ∀ (ns : List Int) (a : Int) (m : Nat), a.natAbs < 2 ^ m → (∀ n, n ∈ ns → n.natAbs < 2 ^ 700) → (ns.foldl (· * ·) a).natAbs < 2 ^ (700 * ns.length + m) by
    exact g ns 1 1 (by decide) h
  intro ns
  induction ns with
  | nil => intro a m ha _; simpa using ha
  | cons n ns ih =>
    intro a m ha h
    have := ih (a * n) (m + 700) (mul_lt ha (h n (by simp))) (fun k hk => h k (by simp [hk]))
    rw [List.foldl_cons, List.length_cons]
    exact bit_le this (by omega)
theorem prod_snoc (ns : List Int) (n : Int) : prodL (ns ++ [n]) = prodL ns * n := by
  unfold prodL
  rw [List.foldl_append]
  rfl
theorem take_snoc {α : Type} {xs : List α} {i : Nat} {x : α} (h : xs[i]? = some x) : xs.take (i + 1) = xs.take i ++ [x] := by
  have hlt := (List.getElem?_eq_some_iff.mp h).1
  rw [List.take_succ_eq_append_getElem hlt, (List.getElem?_eq_some_iff.mp h).2]
theorem ints_get {ns : List Int} {i : Nat} {d : D} (h : (D.ints ns)[i]? = some d) : ∃ n, ns[i]? = some n ∧ d = .int n := by
  rw [List.getElem?_map] at h
  obtain ⟨n, hn, e⟩ := Option.map_eq_some_iff.mp h
  exact ⟨n, hn, e.symm⟩
theorem ok_product (C : Ctx K mg a) : FnAt P w K mg base CX0 1 "product" ["numbers"] (SpP K (fun x : Bool × List Int => [D.seq x.1 (D.ints x.2)]) (fun x => x.2.length ≤ 1000 ∧ ∀ n, n ∈ x.2 → n.natAbs < 2 ^ 700) (fun x d => d = .int (prodL x.2))) := by
  refine fn_at C.d_product sc_product (fun _ => rfl) fun f cdv A outer s H E hr => ⟨_, (pss_cons (ps_set (i := 1) sc_product.nd rfl (by first | exact Or.inl rfl | exact Or.inr rfl) pe_int)
    (pss_cons (ps_for PassesOwn.never rfl (pi_seq (K := K) (pv 0)) (pg_name (i := 2) sc_product.nd rfl (by first | exact Or.inl rfl | exact Or.inr rfl))
    (pss_one (ps_set (i := 1) sc_product.nd rfl (by first | exact Or.inl rfl | exact Or.inr rfl) (pe_op (op_gMul (K := K)) (pv 1) (pv 2)))))
    (pss_one (ps_ret (pv 1))))), fun i e hp he => ?_⟩
  obtain ⟨b, ns⟩ := i
  have hl : ns.length ≤ 1000 := hp.1
  have hb : ∀ n, n ∈ ns → n.natAbs < 2 ^ 700 := hp.2
  dsimp only [cxOf]
  walk_at "d"
  refine r_asg ?_
  walk_at "d"
  refine r_for [2] ?_
  refine ei_seqS ?_
  walk_at "d"
  refine ⟨_, ⟨_, rfl⟩, fun i ρ M => ∃ o, ρ = [some (.v (D.seq b (D.ints ns))), some (.v (.int (prodL (ns.take i)))), o] ∧ M = [], ⟨_, rfl, rfl⟩, ?_, ?_⟩
  · rintro i d ρ M hi ⟨o, rfl, rfl⟩
    obtain ⟨n, hn, rfl⟩ := ints_get hi
    walk_at "d"
    refine r_asg ?_
    walk_at "d"
    refine ⟨mulW (prod_bit (ns.take i) fun k hk => hb k (List.mem_of_mem_take hk)) (hb n (List.mem_of_getElem? hn)) (by rw [List.length_take]; omega), some (.v (.int n)), ?_, rfl⟩
    rw [take_snoc hn, prod_snoc]
    rfl
  · rintro ρ M ⟨o, rfl, rfl⟩
    walk_at "d"
    refine ret_v ?_
    simp [D.ints]
theorem Wt.pre {ns : List Int} (h : Wt ns) : ns.length ≤ 1000 ∧ ∀ n, n ∈ ns → n.natAbs < 2 ^ 700 := ⟨by have := h.hi; omega, fun n hn => by
  have h1 := (h.p n hn).2
  have h2 : (1000000 : Nat) < 2 ^ 700 := Nat.lt_of_lt_of_le (show 1000000 < 2 ^ 20 by decide) (Nat.pow_le_pow_right (by decide) (by decide))
  omega⟩

end
section
variable {P : Program} {w : World} {K : PySem.W.Frag} {mg : Str → Option Value} {base : Heap} {a : Adr}
theorem ok_check_weight (C : Ctx K mg a) : FnAt P w K mg base CX0 3 "check_weight" ["thing"] (SpP K (fun d : D => [d]) (fun d => TameW d ∧ isW d = true) (fun d r => r = .non)) := by
  refine fn_at C.d_check_weight sc_check_weight (fun _ => rfl) fun f cdv A outer s H E hr => ⟨_, (pss_one (ps_if (pt_not (pt_val (pe_fn (ok_is_weight C) (hr.mono (by omega)) rfl (pa_cons (pv 0) pa_nil))))
    (pss_one ps_never)
    pss_nil)), fun d e hp he => ?_⟩
  dsimp only [cxOf]
  walk_at "d"
  refine ⟨d, rfl, hp.1, fun r hr' => ?_⟩
  subst hr'
  refine ⟨_, rfl, ?_⟩
  rw [hp.2]
  refine iteF ?_
  walk_at "d"
  rfl
def sgn (n : Int) : Int := if n > 0 then 1 else -1
theorem ok_sign_of (C : Ctx K mg a) : FnAt P w K mg base CX0 2 "sign_of" ["weight"] (SpP K (fun ns : List Int => [wt ns]) (fun ns => Wt ns) (fun ns r => r = .int (sgn (prodL ns)))) := by
  refine fn_at C.d_sign_of sc_sign_of (fun _ => rfl) fun f cdv A outer s H E hr => ⟨_, (pss_one (ps_ret (pe_ifExp (pt_cmpR op_gGt (pe_fn (ok_product C) (hr.mono (by omega)) rfl (pa_cons (pv 0) pa_nil)) pe_int (nomark _)) pe_int (pe_un un_neg pe_int)))), fun ns e hp he => ?_⟩
  have hp : Wt ns := hp
  dsimp only [cxOf]
  walk_at "d"
  refine ⟨(true, ns), rfl, hp.pre, fun r hr' => ?_⟩
  subst hr'
  walk_at "d"
  refine ite_dec (fun h => ?_) (fun h => ?_)
  · walk_at "d"
    exact ret_v (by rw [sgn, if_pos h])
  · walk_at "d"
    exact ret_v (by rw [sgn, if_neg h])

end
section
variable {P : Program} {w : World} {K : PySem.W.Frag} {mg : Str → Option Value} {base : Heap} {a : Adr}
/-! ### the source of draws -/
theorem mix_get {cells : List Int} {i : Nat} {y : V} (h : (cells.map V.int)[i]? = some y) : ∃ z, cells[i]? = some z ∧ y = .int z := by
  rw [List.getElem?_map] at h
  obtain ⟨z, hz, e⟩ := Option.map_eq_some_iff.mp h
  exact ⟨z, hz, e.symm⟩
theorem ok__law_mix (C : Ctx K mg a) : FnAt P w K mg base CX0 1 "_law_mix" ["_law_script", "_law_seed"] (spMix K) := by
  refine fn_atR C.d__law_mix sc__law_mix (fun vs H Q E h => ?_) fun f cdv A outer s H E hr => ⟨_, (pss_cons (ps_set (i := 2) sc__law_mix.nd rfl (by first | exact Or.inl rfl | exact Or.inr rfl) (pv 1))
    (pss_cons (ps_for PassesOwn.never rfl (pi_seq (K := K) (pv 0)) (pg_name (i := 3) sc__law_mix.nd rfl (by first | exact Or.inl rfl | exact Or.inr rfl))
    (pss_one (ps_set (i := 2) sc__law_mix.nd rfl (by first | exact Or.inl rfl | exact Or.inr rfl) (pe_op op_gMod (pe_int1 C.B.int rfl (pa_cons (pe_op (op_gAdd (K := K)) (pe_op (op_gAdd (K := K)) (pe_op (op_gMul (K := K)) (pv 2) pe_int) (pe_op op_gMod (pe_int1 C.B.int rfl (pa_cons (pv 3) pa_nil)) pe_int)) pe_int) pa_nil)) pe_int))))
    (pss_one (ps_ret (pe_lst (pa_cons (pv 2) (pa_cons (pe_listOf (K := K) C.B.list rfl (pa_cons (pv 0) pa_nil)) (pa_cons pe_int pa_nil)))))))), fun vs Q E' h => ?_⟩
  · obtain ⟨a, cells, seed, rfl, _⟩ := h
    rfl
  · obtain ⟨b, cells, seed, rfl, hs, h63, s0, s1, k⟩ := h
    refine ⟨_, rfl, ⟨_, rfl, b, rfl, .inl ⟨⟨_, hs⟩, for_list (K := K) (a := b) (xs := cells.map V.int) (fun i σ H2 => ∃ (z : Int) (v : Option V), σ = [some (.ref b), some (.int seed), some (.int z), v] ∧ 0 ≤ z ∧ z < 2147483647 ∧ H2 = H)
      ⟨seed, none, rfl, s0, s1, rfl⟩ (fun i σ H2 _ ⟨_, _, _, _, _, e⟩ => by rw [e]; exact hs) ?_ ?_⟩⟩⟩
    · rintro i y σ H2 hi ⟨z, v, rfl, z0, z1, rfl⟩
      obtain ⟨c, hc, rfl⟩ := mix_get hi
      refine ⟨_, rfl, .inl (.inl ⟨z, 48271, rfl, rfl, ?_, ?_⟩)⟩
      · exact mulW (a := 40) (b := 40) (by omega) (by decide) (by decide)
      · refine ⟨_, rfl, .inl ⟨c, rfl, .inl ⟨c, 2147483629, rfl, rfl, by show (0 : Int) < 2147483629; decide, ?_⟩⟩⟩
        refine .inl ⟨_, _, rfl, rfl, .inl ⟨_, _, rfl, rfl, .inl ⟨_, rfl, .inl ⟨_, 2147483647, rfl, rfl, by show (0 : Int) < 2147483647; decide, ?_⟩⟩⟩⟩
        exact ⟨_, some (.int c), rfl, Int.emod_nonneg _ (by decide), Int.emod_lt_of_pos _ (by decide), rfl⟩
    · rintro σ H2 ⟨z, v, rfl, z0, z1, rfl⟩
      refine ⟨_, rfl, ⟨_, rfl, b, cells.map V.int, rfl, .inl hs, fun q hq => ⟨by show 3 ≤ sizeLine; decide, fun p hp => ?_⟩⟩⟩
      have hpq : p ≠ q := fun e => by rw [e, upd_same] at hp; cases hp
      refine k (p, q) _ (by rw [upd_ne hpq] at hp; exact hp) hq (fun c o h => ?_) ⟨z, 0, cells, hpq, upd_same, ?_, z0, z1, h63, by decide⟩
      · rw [upd_ne (ne_of_none (by rw [upd_ne (ne_of_none h hq)]; exact h) hp), upd_ne (ne_of_none h hq)]; exact h
      · show upd (upd H2 q _) p _ q = _
        rw [upd_ne (Ne.symm hpq), upd_same]
/-- a draw below a cap -/
abbrev SpDraw (K : PySem.W.Frag) : Sp := SpG K (fun cap : Int => [.int cap]) (fun cap => 1 ≤ cap ∧ cap.natAbs < 2 ^ 1000) (fun cap d => ∃ r, d = .int r ∧ 0 ≤ r ∧ r < cap)
theorem ok__law_next (C : Ctx K mg a) : FnAt P w K mg base CX0 1 "_law_next" ["_law_h", "_law_cap"] (SpDraw K) := by
  refine fn_atR C.d__law_next sc__law_next (fun vs H Q E h => ?_) fun f cdv A outer s H E hr => ⟨_, (pss_cons (ps_set (i := 2) sc__law_next.nd rfl (by first | exact Or.inl rfl | exact Or.inr rfl) (pe_ix (ix_any (K := K)) (pe_op (op_gAdd (K := K)) (pe_ix (ix_any (K := K)) (pv 0) pe_int (fun _ _ => rfl)) (pe_lst (pa_cons pe_int pa_nil))) (pe_op op_gMod (pe_int1 C.B.int rfl (pa_cons (pe_ix (ix_any (K := K)) (pv 0) pe_int (fun _ _ => rfl)) pa_nil)) (pe_max2 C.B.max rfl rfl (pa_cons pe_int (pa_cons (pe_len (K := K) C.B.len rfl (pa_cons (pe_ix (ix_any (K := K)) (pv 0) pe_int (fun _ _ => rfl)) pa_nil)) pa_nil)))) (fun _ _ => rfl)))
    (pss_cons (ps_if (pt_cmpR op_gGe (pv 2) (pe_op op_gPow pe_int pe_int) (nomark _))
    (pss_cons (ps_asg (pe_op op_gDiv (pv 2) (pv 1)) (pg_sub (pe_ix (ix_any (K := K)) (pv 0) pe_int (fun _ _ => rfl)) (pe_op op_gMod (pe_int1 C.B.int rfl (pa_cons (pe_ix (ix_any (K := K)) (pv 0) pe_int (fun _ _ => rfl)) pa_nil)) (pe_len (K := K) C.B.len rfl (pa_cons (pe_ix (ix_any (K := K)) (pv 0) pe_int (fun _ _ => rfl)) pa_nil))) set_list))
    (pss_one (ps_ret (pe_op op_gMod (pe_int1 C.B.int rfl (pa_cons (pv 2) pa_nil)) (pv 1)))))
    pss_nil)
    (pss_cons (ps_asg (pe_op op_gMod (pe_int1 C.B.int rfl (pa_cons (pe_op (op_gAdd (K := K)) (pe_op (op_gAdd (K := K)) (pe_op (op_gMul (K := K)) (pe_ix (ix_any (K := K)) (pv 0) pe_int (fun _ _ => rfl)) pe_int) (pe_op (op_gMul (K := K)) (pv 2) pe_int)) pe_int) pa_nil)) pe_int) (pg_sub (pv 0) pe_int set_list))
    (pss_cons (ps_asg (pe_op (op_gAdd (K := K)) (pe_ix (ix_any (K := K)) (pv 0) pe_int (fun _ _ => rfl)) pe_int) (pg_sub (pv 0) pe_int set_list))
    (pss_one (ps_ret (pe_op op_gMod (pe_int1 C.B.int rfl (pa_cons (pe_op op_gDiv (pe_ix (ix_any (K := K)) (pv 0) pe_int (fun _ _ => rfl)) pe_int) pa_nil)) (pv 1)))))))), fun vs Q E' h => ?_⟩
  · obtain ⟨cap, α, F, o, _⟩ := h
    exact o.length.symm
  · obtain ⟨cap, α, F, o, S, ⟨c1, c2⟩, k⟩ := h
    obtain ⟨v, r, rfl, ⟨p, hp, rfl⟩, o2⟩ := o
    have e2 := sls1 o2
    subst e2
    obtain ⟨hF1, hF2, st, ix, cells, hne, h1, h2, s0, s1, h63, i0⟩ := S.ob 0 .rng p rfl hp
    have hpa : p ∈ α := List.mem_of_getElem? hp
    have hα : α = [p] := by
      have := S.len
      match α, hp, this with
      | [q], hp, _ => simp at hp; rw [hp]
    -- what a state behind is worth
    have fin : ∀ (H' : Hp) (d : Int) (st' ix' : Int) (cells' : List Int), (∀ b o, H b = some o → b ≠ p.1 → b ≠ p.2 → H' b = some o) → H' p.1 = some (.lst [.int st', .ref p.2, .int ix']) → H' p.2 = some (.lst (cells'.map V.int)) → 0 ≤ st' → st' < 2147483647 → cells'.length ≤ 63 → 0 ≤ ix' → 0 ≤ d → d < cap → Q (.int d) H' := by
      intro H' d st' ix' cells' fr g1 g2 t0 t1 t2 t3 d0 d1
      have tr : ∀ b, H b ≠ none → H' b ≠ none := fun b hb => by
        by_cases e1 : b = p.1
        · rw [e1, g1]; simp
        · by_cases e2 : b = p.2
          · rw [e2, g2]; simp
          · cases z : H b with
            | none => exact absurd z hb
            | some o => rw [fr b o z e1 e2]; simp
      have sub : Same F H' := fun b o z => fr b o (S.sub b o z) (fun e => by { rw [e, hF1] at z; cases z }) (fun e => by { rw [e, hF2] at z; cases z })
      refine k (.int d) F H' (.int d) [.rng] ⟨.refl F, fun b o z q => fr b o z (q p hpa).1 (q p hpa).2, tr, fun b z => .inl z⟩ ?_ rfl ⟨rfl, d, rfl, d0, d1⟩
      refine ⟨sub, S.len, fun i m q g3 g4 => ?_, S.ap, fun q hq => ⟨tr _ (S.tr q hq).1, tr _ (S.tr q hq).2⟩⟩
      cases i with
      | zero =>
        rw [hp] at g4
        simp at g3 g4
        subst g3; subst g4
        exact ⟨hF1, hF2, st', ix', cells', hne, g1, g2, t0, t1, t2, t3⟩
      | succ i => simp at g3
    let m : Int := if (cells.length : Int) > 1 then (cells.length : Int) else 1
    have hm : 0 < m := by show 0 < (if (cells.length : Int) > 1 then (cells.length : Int) else 1); split <;> omega
    have hj0 := Int.emod_nonneg ix (show m ≠ 0 by omega)
    have hj1 := Int.emod_lt_of_pos ix hm
    obtain ⟨j, hj⟩ : ∃ j : Nat, ix % m = (j : Int) := ⟨(ix % m).toNat, by omega⟩
    have hjl : j < (cells.map V.int ++ [V.int 0]).length := by
      rw [List.length_append, List.length_map]
      show j < cells.length + 1
      have : m ≤ (cells.length : Int) + 1 := by show (if (cells.length : Int) > 1 then (cells.length : Int) else 1) ≤ _; split <;> omega
      omega
    obtain ⟨c, hc⟩ : ∃ c : Int, (cells.map V.int ++ [V.int 0])[j]? = some (V.int c) := by
      by_cases hl : j < cells.length
      · exact ⟨cells[j], by rw [List.getElem?_append_left (by simpa using hl), List.getElem?_map, List.getElem?_eq_getElem hl]; rfl⟩
      · refine ⟨0, ?_⟩
        rw [List.getElem?_append_right (by simpa using hl)]
        have : j - (cells.map V.int).length = 0 := by rw [List.length_map]; rw [List.length_append, List.length_map] at hjl; have : j < cells.length + 1 := hjl; omega
        rw [this]; rfl
    -- the cell
    refine ⟨_, rfl, .inl ⟨p.1, _, 1, .ref p.2, rfl, rfl, SqL.of h1, rfl, by decide, fun q hq => .inr (.inl (.inl ⟨p.2, q, cells.map V.int, [.int 0], rfl, rfl, ?_, upd_same, ?_, fun u hu => ?_⟩))⟩⟩
    · rw [upd_ne (ne_of_none h2 hq)]; exact h2
    · rw [List.length_map, sizeLine_eq]; show cells.length + 1 ≤ _; omega
    have nq1 := ne_of_none h1 hq
    have nq2 := ne_of_none h2 hq
    have k1 : ∀ o : HO, (upd (upd H q (.lst [.int 0])) u o) p.1 = some (.lst [.int st, .ref p.2, .int ix]) := fun o => by
      rw [upd_ne (ne_of_none (by rw [upd_ne nq1]; exact h1) hu), upd_ne nq1]; exact h1
    have k2 : ∀ o : HO, (upd (upd H q (.lst [.int 0])) u o) p.2 = some (.lst (cells.map V.int)) := fun o => by
      rw [upd_ne (ne_of_none (by rw [upd_ne nq2]; exact h2) hu), upd_ne nq2]; exact h2
    have k3 : ∀ (b : Addr) (o o' : HO), H b = some o → (upd (upd H q (.lst [.int 0])) u o') b = some o := fun b o o' z => by
      have z1 := ne_of_none z hq
      rw [upd_ne (ne_of_none (by rw [upd_ne z1]; exact z) hu), upd_ne z1]; exact z
    refine ⟨_, rfl, .inl ⟨p.1, _, 2, .int ix, rfl, rfl, SqL.of (k1 _), rfl, .inl ⟨ix, rfl, ⟨_, rfl, .inl ⟨p.1, _, 1, .ref p.2, rfl, rfl, SqL.of (k1 _), rfl, ⟨_, cells.length, rfl, .inl ⟨_, SqL.of (k2 _), by rw [List.length_map]⟩, ⟨1, (cells.length : Int), rfl, .inl ⟨ix, m, rfl, rfl, hm, ?_⟩⟩⟩⟩⟩⟩⟩⟩
    refine .inl ⟨u, _, (j : Int), .int c, rfl, congrArg V.int hj, SqL.of upd_same, atI_nat hc, ?_⟩
    -- if cell >= 10 ** 18
    refine ⟨_, rfl, 10, 18, rfl, rfl, ⟨by decide, by decide, by decide⟩, c, _, rfl, rfl, _, rfl, ite_dec (fun hge => ?_) (fun hlt => ?_)⟩
    · have hge : (1000000000000000000 : Int) ≤ c := hge
      have hjc : j < cells.length := by
        by_cases hl : j < cells.length
        · exact hl
        · rw [List.getElem?_append_right (by simpa using hl)] at hc
          have : j - (cells.map V.int).length = 0 := by rw [List.length_map]; rw [List.length_append, List.length_map] at hjl; have : j < cells.length + 1 := hjl; omega
          rw [this] at hc
          have : (0 : Int) = c := by injection hc with hc; injection hc
          omega
      have hlm : 0 < (cells.length : Int) := by omega
      have h3 := Int.emod_nonneg ix (show (cells.length : Int) ≠ 0 by omega)
      have h4 := Int.emod_lt_of_pos ix hlm
      obtain ⟨j2, hj2⟩ : ∃ j2 : Nat, ix % (cells.length : Int) = (j2 : Int) := ⟨(ix % (cells.length : Int)).toNat, by omega⟩
      refine ⟨_, rfl, _, rfl, .inl ⟨c, cap, rfl, rfl, divW (b := 1000) (by omega) c2 (by decide), ?_⟩⟩
      refine ⟨_, rfl, .inl ⟨p.1, _, 1, .ref p.2, rfl, rfl, SqL.of (k1 _), rfl, ?_⟩⟩
      refine ⟨_, rfl, .inl ⟨p.1, _, 2, .int ix, rfl, rfl, SqL.of (k1 _), rfl, .inl ⟨ix, rfl, ?_⟩⟩⟩
      refine ⟨_, rfl, .inl ⟨p.1, _, 1, .ref p.2, rfl, rfl, SqL.of (k1 _), rfl, ⟨_, cells.length, rfl, .inl ⟨_, SqL.of (k2 _), by rw [List.length_map]⟩, .inl ⟨ix, (cells.length : Int), rfl, rfl, hlm, ?_⟩⟩⟩⟩
      refine ⟨p.2, cells.map V.int, (j2 : Int), j2, rfl, congrArg V.int hj2, k2 _, ixN_nat (by rw [List.length_map]; omega), ?_⟩
      refine ⟨_, rfl, .inl ⟨c, rfl, ⟨_, rfl, .inl ⟨c, cap, rfl, rfl, by omega, ?_⟩⟩⟩⟩
      refine fin _ _ st ix (cells.set j2 (c / cap)) (fun b o z z1 z2 => ?_) ?_ ?_ s0 s1 (by rw [List.length_set]; exact h63) i0 (Int.emod_nonneg _ (by omega)) (Int.emod_lt_of_pos _ (by omega))
      · rw [upd_ne z2]; exact k3 b o _ z
      · rw [upd_ne hne]; exact k1 _
      · rw [upd_same, List.map_set]
    · have hlt : ¬ (1000000000000000000 : Int) ≤ c := hlt
      -- h[0] = int(h[0] * 48271 + cell * 69621 + 11) % 2147483647
      refine ⟨_, rfl, .inl ⟨p.1, _, 0, .int st, rfl, rfl, SqL.of (k1 _), rfl, .inl (.inl ⟨st, 48271, rfl, rfl, mulW (a := 40) (b := 40) (by omega) (by decide) (by decide), ?_⟩)⟩⟩
      refine ⟨_, rfl, .inl (.inr ⟨c, 69621, rfl, rfl, .inr ⟨by decide, by decide⟩, ?_⟩)⟩
      refine .inl ⟨_, _, rfl, rfl, .inl ⟨_, _, rfl, rfl, .inl ⟨_, rfl, .inl ⟨_, 2147483647, rfl, rfl, by show (0 : Int) < 2147483647; decide, ?_⟩⟩⟩⟩
      refine ⟨_, rfl, p.1, _, 0, 0, rfl, rfl, k1 _, rfl, ?_⟩
      -- h[2] = h[2] + 1
      refine ⟨_, rfl, .inl ⟨p.1, _, 2, .int ix, rfl, rfl, SqL.of upd_same, rfl, .inl ⟨ix, 1, rfl, rfl, ?_⟩⟩⟩
      refine ⟨_, rfl, p.1, _, 2, 2, rfl, rfl, upd_same, rfl, ?_⟩
      refine ⟨_, rfl, .inl ⟨p.1, _, 0, .int ((st * 48271 + c * 69621 + 11) % 2147483647), rfl, rfl, SqL.of upd_same, rfl, .inl ⟨_, 7, rfl, rfl, ⟨by decide, by decide⟩, ?_⟩⟩⟩
      refine .inl ⟨_, rfl, ⟨_, rfl, .inl ⟨_, cap, rfl, rfl, by omega, ?_⟩⟩⟩
      refine fin _ _ ((st * 48271 + c * 69621 + 11) % 2147483647) (ix + 1) cells (fun b o z z1 z2 => ?_) ?_ ?_ (Int.emod_nonneg _ (by decide)) (Int.emod_lt_of_pos _ (by decide)) h63 (by omega) (Int.emod_nonneg _ (by omega)) (Int.emod_lt_of_pos _ (by omega))
      · rw [upd_ne z1, upd_ne z1]; exact k3 b o _ z
      · rw [upd_same]; rfl
      · rw [upd_ne (Ne.symm hne), upd_ne (Ne.symm hne)]; exact k2 _
/-- one of some things -/
theorem ok__law_pick (C : Ctx K mg a) : FnAt P w K mg base CX0 2 "_law_pick" ["_law_h", "_law_things"] (SpG K (fun ds : List D => [.lst ds]) (fun ds => 1 ≤ ds.length ∧ ds.length ≤ 1000000) (fun ds d => d ∈ ds)) := by
  refine fn_at C.d__law_pick sc__law_pick (fun _ => rfl) fun f cdv A outer s H E hr => ⟨_, (pss_one (ps_ret (pe_ix (ix_any (K := K)) (pv 1) (pe_fn (ok__law_next C) (hr.mono (by omega)) rfl (pa_cons (pv 0) (pa_cons (pe_len (K := K) C.B.len rfl (pa_cons (pv 1) pa_nil)) pa_nil))) (fun _ _ => rfl)))), fun ds e hp he => ?_⟩
  obtain ⟨h1, h2⟩ := hp
  dsimp only [cxOf]
  walk_at "d"
  refine ⟨(ds.length : Int), 0, rfl, rfl, ⟨by omega, ?_⟩, fun r hr' => ?_⟩
  · have : (1000000 : Nat) < 2 ^ 1000 := Nat.lt_of_lt_of_le (show 1000000 < 2 ^ 20 by decide) (Nat.pow_le_pow_right (by decide) (by decide))
    omega
  obtain ⟨i, rfl, i0, i1⟩ := hr'
  walk_at "d"
  obtain ⟨j, rfl⟩ : ∃ j : Nat, i = (j : Int) := ⟨i.toNat, by omega⟩
  have hj : j < ds.length := by omega
  refine ⟨ds[j], atI_nat (List.getElem?_eq_getElem hj), ret_v ⟨rfl, List.getElem_mem hj⟩⟩

end
section
variable {P : Program} {w : World} {K : PySem.W.Frag} {mg : Str → Option Value} {base : Heap} {a : Adr}
/-! ### two values of one datum are alike -/
theorem pl_tame {n : Nat} {d : D} (h : d.pl n = true) : Tame d := by
  match d, h with
  | .raw .non, _ => exact .non
  | .raw (.bl b), _ => exact .bl b
  | .raw (.int b), _ => exact .int b
  | .raw (.str b), _ => exact .str b
  | .raw (.byt b), h => simp [D.pl] at h
  | .raw (.flt b), h => simp [D.pl] at h
  | .raw (.ref b), h => simp [D.pl] at h
  | .raw (.ty b), h => simp [D.pl] at h
  | .tup ds, _ => exact .tup ds
  | .lst ds, _ => exact .lst ds
  | .dic _ _, h => simp [D.pl] at h
  | .ins _ _ _, h => simp [D.pl] at h
  | .rd _, h => simp [D.pl] at h
theorem plAll_mem {n : Nat} : ∀ {ds : List D} {d : D}, D.plAll n ds = true → d ∈ ds → d.pl n = true
  | c :: ds, d, h, hm => by
    simp only [D.plAll, Bool.and_eq_true] at h
    rcases List.mem_cons.mp hm with e | e
    · rw [e]; exact h.1
    · exact plAll_mem h.2 e
/-- .. not too long, at any depth -/
def shD : Nat → D → Prop
  | n + 1, .tup ds => ds.length ≤ 1000000 ∧ ∀ d, d ∈ ds → shD n d
  | n + 1, .lst ds => ds.length ≤ 1000000 ∧ ∀ d, d ∈ ds → shD n d
  | _, _ => True
theorem filter_nil {I : Nat → List D → Prop} : True := trivial
theorem ok__law_alike (C : Ctx K mg a) : ∀ n : Nat, n ≤ 60 → FnAt P w K mg base CX0 n "_law_alike" ["_law_found", "_law_due"] (SpP K (fun d : D => [d, d]) (fun d => ∃ m, n = m + 1 ∧ d.pl m = true ∧ shD m d) (fun d r => r = .bl true)) := by
  intro n
  induction n with
  | zero => exact fun _ => fn_never C.d__law_alike fun d ⟨m, e, _⟩ => by omega
  | succ n ih =>
    intro hn
    have ih := ih (by omega)
    refine fn_at C.d__law_alike sc__law_alike (fun _ => rfl) fun f cdv A outer s H E hr => ⟨_, (pss_cons (ps_if (pt_val (pe_isiT (K := K) C.B.isinstance rfl (pa_cons (pv 1) (pa_cons (pe_tup (pa_cons (pe_bltn (v := .ty "tuple") rfl C.B.tuple (by decide +kernel) rfl) (pa_cons (pe_bltn (v := .ty "list") rfl C.B.list (by decide +kernel) rfl) pa_nil))) pa_nil))))
    (pss_cons (ps_if (PW.pt (pw_or (pt_not (pt_val (pe_isiT (K := K) C.B.isinstance rfl (pa_cons (pv 0) (pa_cons (pe_tup (pa_cons (pe_bltn (v := .ty "tuple") rfl C.B.tuple (by decide +kernel) rfl) (pa_cons (pe_bltn (v := .ty "list") rfl C.B.list (by decide +kernel) rfl) pa_nil))) pa_nil))))) (pw_or1 (pt_cmpR (op_gNe (K := K) (by exact hr.units)) (pe_isi (K := K) C.B.isinstance rfl (pa_cons (pv 0) (pa_cons (pe_bltn (v := .ty "list") rfl C.B.list (by decide +kernel) rfl) pa_nil))) (pe_isi (K := K) C.B.isinstance rfl (pa_cons (pv 1) (pa_cons (pe_bltn (v := .ty "list") rfl C.B.list (by decide +kernel) rfl) pa_nil))) (nomark _)))))
    (pss_one (ps_ret pe_bl))
    pss_nil)
    (pss_cons (ps_if (pt_cmpR (op_gNe (K := K) (by exact hr.units)) (pe_len (K := K) C.B.len rfl (pa_cons (pv 0) pa_nil)) (pe_len (K := K) C.B.len rfl (pa_cons (pv 1) pa_nil)) (nomark _))
    (pss_one (ps_ret pe_bl))
    pss_nil)
    (pss_one (ps_ret (pe_cmpR (op_gEq (K := K) (by exact hr.units)) (pe_lc (own := [("_law_k", 2)]) (g := (gName 2)) (tt := _) rfl sc__law_alike.nd (pi_range1 rfl C.B.range (pa_cons (pe_len (K := K) C.B.len rfl (pa_cons (pv 1) pa_nil)) pa_nil)) (blkOk_by (N := n__law_alike) (sc := defScope s__law_alike) (by decide +kernel)) (fun _ _ _ _ _ => (pg_name (i := 2) sc__law_alike.nd rfl (by first | exact Or.inl rfl | exact Or.inr rfl))) (fun _ _ _ _ _ => (pts_one (pt_not (pt_val (pe_fn (ih) (hr.mono (by omega)) rfl (pa_cons (pe_ix (ix_any (K := K)) (pv 0) (pv 2) (fun _ _ => rfl)) (pa_cons (pe_ix (ix_any (K := K)) (pv 1) (pv 2) (fun _ _ => rfl)) pa_nil))))))) (fun _ _ _ _ _ => (pv 2))) (pe_lst pa_nil) (nomark _))))))
    pss_nil)
    (pss_cons (ps_if (PW.pt (pw_or (pt_cmpR op_gIs (pv 1) pe_non (nomark _)) (pw_or1 (pt_val (pe_isi (K := K) C.B.isinstance rfl (pa_cons (pv 1) (pa_cons (pe_bltn (v := .ty "str") rfl C.B.str (by decide +kernel) rfl) pa_nil)))))))
    (pss_one (ps_ret (pe_and (pe_cmpR (op_gEq (K := K) (by exact hr.units)) (pv 0) (pv 1) (nomark _)) (pe_one (pe_cmpR (op_gEq (K := K) (by exact hr.units)) (pe_isi (K := K) C.B.isinstance rfl (pa_cons (pv 0) (pa_cons (pe_bltn (v := .ty "str") rfl C.B.str (by decide +kernel) rfl) pa_nil))) (pe_isi (K := K) C.B.isinstance rfl (pa_cons (pv 1) (pa_cons (pe_bltn (v := .ty "str") rfl C.B.str (by decide +kernel) rfl) pa_nil))) (nomark _))))))
    pss_nil)
    (pss_one (ps_ret (pe_and (pe_isi (K := K) C.B.isinstance rfl (pa_cons (pv 0) (pa_cons (pe_bltn (v := .ty "int") rfl C.B.int (by decide +kernel) rfl) pa_nil))) (pe_and (pe_cmpR (op_gEq (K := K) (by exact hr.units)) (pe_isi (K := K) C.B.isinstance rfl (pa_cons (pv 0) (pa_cons (pe_bltn (v := .ty "bool") rfl C.B.bool (by decide +kernel) rfl) pa_nil))) (pe_isi (K := K) C.B.isinstance rfl (pa_cons (pv 1) (pa_cons (pe_bltn (v := .ty "bool") rfl C.B.bool (by decide +kernel) rfl) pa_nil))) (nomark _)) (pe_one (pe_cmpR (op_gEq (K := K) (by exact hr.units)) (pv 0) (pv 1) (nomark _))))))))), fun d e hp he => ?_⟩
    obtain ⟨m, e1, hpl, hsh⟩ := hp
    have e1 : m = n := by omega
    subst e1
    have ht := pl_tame hpl
    dsimp only [cxOf]
    walk_at "d"
    refine ⟨d, "tuple", "list", rfl, rfl, ht, _, _, kb_tup ht, kb_lst ht, ?_⟩
    have cs : (∃ ds, (d = .tup ds ∨ d = .lst ds) ∧ ds.length ≤ 1000000 ∧ ∀ x, x ∈ ds → ∃ k, m = k + 1 ∧ x.pl k = true ∧ shD k x) ∨ (∃ v, d = .raw v) := by
      match m, d, hpl, hsh with
      | _, .raw v, _, _ => exact .inr ⟨v, rfl⟩
      | 0, .tup ds, h, _ => simp [D.pl] at h
      | 0, .lst ds, h, _ => simp [D.pl] at h
      | k + 1, .tup ds, h, h2 => exact .inl ⟨ds, .inl rfl, h2.1, fun x hx => ⟨k, rfl, plAll_mem (by simpa [D.pl] using h) hx, h2.2 x hx⟩⟩
      | k + 1, .lst ds, h, h2 => exact .inl ⟨ds, .inr rfl, h2.1, fun x hx => ⟨k, rfl, plAll_mem (by simpa [D.pl] using h) hx, h2.2 x hx⟩⟩
      | _, .dic _ _, h, _ => simp [D.pl] at h
      | _, .ins _ _ _, h, _ => simp [D.pl] at h
      | _, .rd _, h, _ => simp [D.pl] at h
    rcases cs with ⟨ds, z, hl, hx⟩ | ⟨v, rfl⟩
    · rcases z with rfl | rfl
      all_goals
        refine ⟨_, rfl, iteT ?_⟩
        walk_at "d"
        refine ⟨_, "tuple", "list", rfl, rfl, ht, _, _, kb_tup ht, kb_lst ht, ?_⟩
        refine ⟨_, rfl, iteF ?_⟩
        walk_at "d"
        refine ite_ndec (fun h => (h rfl).elim) (fun _ => ?_)
        walk_at "d"
        refine ite_ndec (fun h => (h rfl).elim) (fun _ => ?_)
        walk_at "d"
        refine ev_lc (ei_range1 ?_)
        walk_at "d"
        refine ⟨_, rfl, by omega, by omega, by rw [rangeD_len]; omega, fun _ acc => acc = [], rfl, ?_, ?_⟩
        · rintro i c acc hi rfl
          obtain ⟨hil, rfl⟩ := rangeD_get hi
          have hil : i < ds.length := by omega
          have hget : atI ds (0 + (i : Int)) = some ds[i] := by rw [Int.zero_add]; exact atI_nat (List.getElem?_eq_getElem hil)
          walk_at "d"
          refine ⟨ds[i], hget, ?_⟩
          walk_at "d"
          refine ⟨ds[i], hget, ?_⟩
          walk_at "d"
          refine ⟨ds[i], rfl, hx _ (List.getElem_mem hil), fun r hr' => ?_⟩
          subst hr'
          refine ⟨_, rfl, iteF rfl⟩
        · rintro acc rfl
          walk_at "d"
          refine g_eqD 1 rfl rfl (by decide) ?_
          exact ret_v rfl
    · match v, hpl with
      | .non, _ =>
        refine ⟨_, rfl, iteF ?_⟩
        walk_at "d"
        refine iteT (iteT ?_)
        walk_at "d"
        refine iteT ?_
        walk_at "d"
        exact ret_v rfl
      | .bl b, _ =>
        refine ⟨_, rfl, iteF ?_⟩
        walk_at "d"
        refine iteF ?_
        walk_at "d"
        refine iteF ?_
        walk_at "d"
        refine iteT ?_
        walk_at "d"
        refine ite_dec (fun _ => ?_) (fun h => (h rfl).elim)
        walk_at "d"
        exact ret_v (by rw [decide_eq_true rfl])
      | .int b, _ =>
        refine ⟨_, rfl, iteF ?_⟩
        walk_at "d"
        refine iteF ?_
        walk_at "d"
        refine iteF ?_
        walk_at "d"
        refine iteT ?_
        walk_at "d"
        refine ite_dec (fun _ => ?_) (fun h => (h rfl).elim)
        walk_at "d"
        exact ret_v (by rw [decide_eq_true rfl])
      | .str b, _ =>
        refine ⟨_, rfl, iteF ?_⟩
        walk_at "d"
        refine iteF ?_
        walk_at "d"
        refine iteT ?_
        walk_at "d"
        refine ite_dec (fun _ => ?_) (fun h => (h rfl).elim)
        walk_at "d"
        exact ret_v rfl

end
section
variable {P : Program} {w : World} {K : PySem.W.Frag} {mg : Str → Option Value} {base : Heap} {a : Adr}
/-! ### the plain law of ways -/
theorem sq_lt {x y : Int} (hx : 0 ≤ x) (h : x < y) : x * x < y * y := Int.mul_lt_mul' (Int.le_of_lt h) h hx (by omega)
theorem sq_le {x y : Int} (hx : 0 ≤ x) (h : x ≤ y) : x * x ≤ y * y := Int.mul_le_mul h h hx (by omega)
theorem lt_of_sq {x y : Int} (hy : 0 ≤ y) (h : x * x < y * y) : x < y := by
  by_cases z : x < y
  · exact z
  · have := sq_le hy (show y ≤ x by omega)
    omega
theorem le_of_sq {x y : Int} (hy : 0 ≤ y) (h : x * x ≤ y * y) : x ≤ y := by
  by_cases z : x ≤ y
  · exact z
  · have := sq_lt hy (show y < x by omega)
    omega
theorem eq_of_sq {x y : Int} (hx : 0 ≤ x) (hy : 0 ≤ y) (h : x * x = y * y) : x = y := by
  have a := le_of_sq hy (show x * x ≤ y * y by omega)
  have b := le_of_sq hx (show y * y ≤ x * x by omega)
  omega
/-- r is the root below n -/
structure Rt (n r : Int) : Prop where
  p : 0 ≤ r
  lo : r * r ≤ n
  hi : n < (r + 1) * (r + 1)
structure Ways (m y n : Int) (ws : List (Int × Int)) : Prop where
  up : ws.Pairwise fun p q => p.1 < q.1
  mem : ∀ a b, (a, b) ∈ ws ↔ 0 ≤ a ∧ 0 ≤ b ∧ m * a * a + y * b * b = n
theorem pair_eq {f : Int → Int → Prop} (hf : ∀ a b c, f a b → f a c → b = c) : ∀ {ws us : List (Int × Int)}, ws.Pairwise (fun p q => p.1 < q.1) → us.Pairwise (fun p q => p.1 < q.1) →
    (∀ a b, (a, b) ∈ ws ↔ (a, b) ∈ us) → ws = us
  | [], [], _, _, _ => rfl
  | [], p :: us, _, _, h => absurd ((h p.1 p.2).mpr List.mem_cons_self) (by simp)
  | p :: ws, [], _, _, h => absurd ((h p.1 p.2).mp List.mem_cons_self) (by simp)
  | p :: ws, q :: us, hw, hu, h => by
    obtain ⟨w1, w2⟩ := List.pairwise_cons.mp hw
    obtain ⟨u1, u2⟩ := List.pairwise_cons.mp hu
    have e : p = q := by
      rcases List.mem_cons.mp ((h p.1 p.2).mp List.mem_cons_self) with e | e
      · exact e
      · rcases List.mem_cons.mp ((h q.1 q.2).mpr List.mem_cons_self) with e' | e'
        · exact e'.symm
        · have a := u1 _ e
          have b := w1 _ e'
          simp at a b
          omega
    subst e
    rw [pair_eq hf w2 u2 fun a b => ?_]
    have := h a b
    constructor
    · intro hm
      have lt : p.1 < a := w1 _ hm
      rcases List.mem_cons.mp (this.mp (List.mem_cons_of_mem _ hm)) with e | e
      · rw [← e] at lt; simp at lt
      · exact e
    · intro hm
      have lt : p.1 < a := u1 _ hm
      rcases List.mem_cons.mp (this.mpr (List.mem_cons_of_mem _ hm)) with e | e
      · rw [← e] at lt; simp at lt
      · exact e
theorem Ways.uniq {m y n : Int} (hy : 0 < y) {ws us : List (Int × Int)} (h : Ways m y n ws) (k : Ways m y n us) : ws = us :=
  pair_eq (f := fun a b => 0 ≤ a ∧ 0 ≤ b ∧ m * a * a + y * b * b = n) (fun a b c p q => by
    have e : y * (b * b) = y * (c * c) := by
      have := p.2.2; have := q.2.2
      rw [Int.mul_assoc y b b, Int.mul_assoc y c c] at *
      omega
    exact eq_of_sq p.2.1 q.2.1 (Int.eq_of_mul_eq_mul_left (by omega) e)) h.up k.up fun a b => (h.mem a b).trans (k.mem a b).symm
/-- one more row -/
theorem ways_step {m y n : Int} (hm : 0 < m) (hy : 0 < y) {ws : List (Int × Int)} {i r : Int} (hi : 0 ≤ i) (up : ws.Pairwise fun p q => p.1 < q.1) (mem : ∀ a b, (a, b) ∈ ws ↔ 0 ≤ a ∧ a < i ∧ 0 ≤ b ∧ m * a * a + y * b * b = n) (hr : Rt ((n - m * i * i) / y) r) :
    (y * r * r = n - m * i * i → (ws ++ [(i, r)]).Pairwise (fun p q => p.1 < q.1) ∧ ∀ a b, (a, b) ∈ ws ++ [(i, r)] ↔ 0 ≤ a ∧ a < i + 1 ∧ 0 ≤ b ∧ m * a * a + y * b * b = n) ∧
    (¬ y * r * r = n - m * i * i → ∀ a b, (a, b) ∈ ws ↔ 0 ≤ a ∧ a < i + 1 ∧ 0 ≤ b ∧ m * a * a + y * b * b = n) := by
  have key : ∀ b, 0 ≤ b → m * i * i + y * b * b = n → b = r := fun b hb e => by
    have e2 : n - m * i * i = (b * b) * y := by rw [Int.mul_comm (b * b) y, ← Int.mul_assoc]; omega
    have := hr
    rw [e2, Int.mul_ediv_cancel _ (by omega)] at this
    have h1 := le_of_sq hb this.lo
    have h2 := lt_of_sq (by have := this.p; omega) this.hi
    omega
  refine ⟨fun e => ⟨?_, fun a b => ?_⟩, fun e a b => ?_⟩
  · rw [List.pairwise_append]
    refine ⟨up, by simp, fun p hp q hq => ?_⟩
    simp at hq; subst hq
    exact ((mem p.1 p.2).mp hp).2.1
  · rw [List.mem_append, mem, List.mem_singleton]
    constructor
    · rintro (⟨h1, h2, h3, h4⟩ | h)
      · exact ⟨h1, by omega, h3, h4⟩
      · cases h
        exact ⟨hi, by omega, hr.p, by omega⟩
    · rintro ⟨h1, h2, h3, h4⟩
      by_cases z : a < i
      · exact .inl ⟨h1, z, h3, h4⟩
      · have : a = i := by omega
        subst this
        exact .inr (by rw [key b h3 h4])
  · rw [mem]
    constructor
    · rintro ⟨h1, h2, h3, h4⟩
      exact ⟨h1, by omega, h3, h4⟩
    · rintro ⟨h1, h2, h3, h4⟩
      by_cases z : a < i
      · exact ⟨h1, z, h3, h4⟩
      · have : a = i := by omega
        subst this
        have := key b h3 h4
        subst this
        exact absurd (by omega) e
theorem div_le' {a b c : Int} (hb : 0 < b) : c ≤ a / b ↔ c * b ≤ a := Int.le_ediv_iff_mul_le hb
theorem ways_done {m y n r : Int} (hm : 0 < m) (hy : 0 < y) {ws : List (Int × Int)} (hr : Rt (n / m) r) (up : ws.Pairwise fun p q => p.1 < q.1) (mem : ∀ a b, (a, b) ∈ ws ↔ 0 ≤ a ∧ a < r + 1 ∧ 0 ≤ b ∧ m * a * a + y * b * b = n) : Ways m y n ws := by
  refine ⟨up, fun a b => ?_⟩
  rw [mem]
  constructor
  · rintro ⟨h1, _, h3, h4⟩; exact ⟨h1, h3, h4⟩
  · rintro ⟨h1, h3, h4⟩
    refine ⟨h1, ?_, h3, h4⟩
    have p := hr.p
    have h5 : 0 ≤ y * b * b := by rw [Int.mul_assoc]; exact Int.mul_nonneg (by omega) (Int.mul_nonneg h3 h3)
    have h6 : (a * a) * m ≤ n := by rw [Int.mul_comm (a * a) m, ← Int.mul_assoc]; omega
    have h7 := (div_le' hm).mpr h6
    exact lt_of_sq (by omega) (by have := hr.hi; omega)
theorem rt_row {m n i r : Int} (hm : 0 < m) (hr : Rt (n / m) r) (h0 : 0 ≤ i) (h1 : i ≤ r) : 0 ≤ n - m * i * i := by
  have h2 := sq_le h0 h1
  have h3 := (div_le' (a := n) (c := i * i) hm).mp (by have := hr.lo; omega)
  rw [Int.mul_comm (i * i) m, ← Int.mul_assoc] at h3
  omega
def wgt (p : Int × Int) : Int := (if p.1 = 0 then 1 else 2) * (if p.2 = 0 then 1 else 2)
def wsum (ws : List (Int × Int)) : Int := (ws.map wgt).sum
/-- by four -/
theorem wsum_four {n : Int} (hn : 0 < n) {ws : List (Int × Int)} (h : Ways 1 1 n ws) : wsum ws % 4 = 0 := by
  -- how many rows have a nought at the left, at the right
  have gen : ∀ us : List (Int × Int), (∀ p, p ∈ us → ¬ (p.1 = 0 ∧ p.2 = 0)) → wsum us % 4 = (2 * ((us.filter fun p => decide (p.1 = 0)).length : Int) + 2 * ((us.filter fun p => decide (p.2 = 0)).length : Int)) % 4 := by
    intro us
    induction us with
    | nil => intro _; rfl
    | cons p us ih =>
      intro hu
      have ih := ih fun q hq => hu q (List.mem_cons_of_mem _ hq)
      have hp := hu p List.mem_cons_self
      have e : wsum (p :: us) = wgt p + wsum us := by simp [wsum]
      rw [e, List.filter_cons, List.filter_cons]
      by_cases a : p.1 = 0
      · have b : ¬ p.2 = 0 := fun b => hp ⟨a, b⟩
        simp only [a, b, decide_true, decide_false, if_true, wgt, List.length_cons, Bool.false_eq_true, if_false]
        omega
      · by_cases b : p.2 = 0
        · simp only [a, b, decide_true, decide_false, if_true, wgt, List.length_cons, Bool.false_eq_true, if_false]
          omega
        · simp only [a, b, decide_false, wgt, Bool.false_eq_true, if_false]
          omega
  have nz : ∀ p, p ∈ ws → ¬ (p.1 = 0 ∧ p.2 = 0) := fun p hp ⟨a, b⟩ => by
    have := ((h.mem p.1 p.2).mp hp).2.2
    rw [a, b] at this
    omega
  rw [gen ws nz]
  -- both numbers are alike: 1 if n is a square
  have cnt : ∀ (f : Int × Int → Int) (us : List (Int × Int)), us.Pairwise (fun p q => f p ≠ f q) → (us.filter fun p => decide (f p = 0)).length = if ∃ p, p ∈ us ∧ f p = 0 then 1 else 0 := by
    intro f us
    induction us with
    | nil => intro _; simp
    | cons p us ih =>
      intro hu
      obtain ⟨h1, h2⟩ := List.pairwise_cons.mp hu
      have ih := ih h2
      rw [List.filter_cons]
      by_cases a : f p = 0
      · have : ¬ ∃ q, q ∈ us ∧ f q = 0 := fun ⟨q, hq, e⟩ => h1 q hq (by rw [a, e])
        rw [if_neg this] at ih
        rw [if_pos (by simpa using a), if_pos ⟨p, List.mem_cons_self, a⟩, List.length_cons, ih]
      · rw [if_neg (by simpa using a), ih]
        by_cases z : ∃ q, q ∈ us ∧ f q = 0
        · obtain ⟨q, hq, e⟩ := z
          rw [if_pos ⟨q, hq, e⟩, if_pos ⟨q, List.mem_cons_of_mem _ hq, e⟩]
        · rw [if_neg z, if_neg]
          rintro ⟨q, hq, e⟩
          rcases List.mem_cons.mp hq with y | y
          · subst y; exact a e
          · exact z ⟨q, y, e⟩
  have ne2 : ws.Pairwise fun p q => p.2 ≠ q.2 := by
    refine List.Pairwise.imp_of_mem ?_ h.up
    intro p q hp hq hlt e
    have a := (h.mem p.1 p.2).mp hp
    have b := (h.mem q.1 q.2).mp hq
    have := sq_lt a.1 hlt
    rw [e] at a
    have c := a.2.2; have d := b.2.2
    simp only [Int.one_mul] at c d
    omega
  have iff : (∃ p, p ∈ ws ∧ p.1 = 0) ↔ ∃ p, p ∈ ws ∧ p.2 = 0 := by
    constructor
    · rintro ⟨p, hp, e⟩
      have a := (h.mem p.1 p.2).mp hp
      refine ⟨(p.2, p.1), (h.mem _ _).mpr ⟨a.2.1, a.1, ?_⟩, e⟩
      have c := a.2.2
      simp only [Int.one_mul] at c ⊢
      omega
    · rintro ⟨p, hp, e⟩
      have a := (h.mem p.1 p.2).mp hp
      refine ⟨(p.2, p.1), (h.mem _ _).mpr ⟨a.2.1, a.1, ?_⟩, e⟩
      have c := a.2.2
      simp only [Int.one_mul] at c ⊢
      omega
  rw [cnt (·.1) ws (h.up.imp fun h => by omega), cnt (·.2) ws ne2]
  by_cases z : ∃ p, p ∈ ws ∧ p.1 = 0
  · rw [if_pos z, if_pos (iff.mp z)]; rfl
  · rw [if_neg z, if_neg (fun y => z (iff.mpr y))]; rfl
theorem lit_bit {i : Int} {b : Nat} (h : i.natAbs < 2 ^ 60) (hb : 60 ≤ b) : i.natAbs < 2 ^ b := bit_le h hb
theorem ok_root_below (C : Ctx K mg a) : FnAt P w K mg base CX0 1 "root_below" ["number"] (SpP K (fun n : Int => [.int n]) (fun n => 0 ≤ n ∧ n.natAbs < 2 ^ 1000) (fun n d => ∃ r, d = .int r ∧ Rt n r)) := by
  refine fn_at C.d_root_below sc_root_below (fun _ => rfl) fun f cdv A outer s H E hr => ⟨_, (pss_cons (ps_asg (pe_tup (pa_cons pe_int (pa_cons pe_int pa_nil))) (pg_tup rfl (pgs_cons (pg_name (i := 1) sc_root_below.nd rfl (by first | exact Or.inl rfl | exact Or.inr rfl)) (pgs_cons (pg_name (i := 2) sc_root_below.nd rfl (by first | exact Or.inl rfl | exact Or.inr rfl)) pgs_nil))))
    (pss_cons (ps_while PassesOwn.never (pt_cmpR op_gLe (pe_op (op_gMul (K := K)) (pv 2) (pv 2)) (pv 0) (nomark _))
    (pss_one (ps_set (i := 2) sc_root_below.nd rfl (by first | exact Or.inl rfl | exact Or.inr rfl) (pe_op (op_gMul (K := K)) pe_int (pv 2)))))
    (pss_cons (ps_while PassesOwn.never (pt_cmpR op_gGt (pe_op op_gSub (pv 2) (pv 1)) pe_int (nomark _))
    (pss_cons (ps_set (i := 3) sc_root_below.nd rfl (by first | exact Or.inl rfl | exact Or.inr rfl) (pe_op op_gDiv (pe_op (op_gAdd (K := K)) (pv 1) (pv 2)) pe_int))
    (pss_one (ps_if (pt_cmpR op_gLe (pe_op (op_gMul (K := K)) (pv 3) (pv 3)) (pv 0) (nomark _))
    (pss_one (ps_set (i := 1) sc_root_below.nd rfl (by first | exact Or.inl rfl | exact Or.inr rfl) (pv 3)))
    (pss_one (ps_set (i := 2) sc_root_below.nd rfl (by first | exact Or.inl rfl | exact Or.inr rfl) (pv 3)))))))
    (pss_one (ps_ret (pv 1)))))), fun n e hp he => ?_⟩
  obtain ⟨n0, nb⟩ := hp
  dsimp only [cxOf]
  have tb : ∀ z : Int, 0 ≤ z → z ≤ n + 1 → z.natAbs < 2 ^ 1001 := fun z h1 h2 => by
    have := add_lt (j := 1) nb (bit_le (a := 60) (by decide) (by decide))
    have e : z.natAbs ≤ (n + 1).natAbs := by omega
    exact Nat.lt_of_le_of_lt e this
  walk_at "d"
  refine r_asgG (is := [1, 2]) ?_
  walk_at "d"
  refine ⟨_, rfl, ?_⟩
  walk_at "d"
  refine r_while ⟨fun k ρ M => ∃ (hi : Int) (o : Option Sl), ρ = [some (.v (.int n)), some (.v (.int 0)), some (.v (.int hi)), o] ∧ M = [] ∧ 1 ≤ hi ∧ hi ≤ 2 * n + 1 ∧ k = (2 * n + 1 - hi).toNat, ⟨_, 1, none, rfl, rfl, by omega, by omega, rfl⟩, ?_⟩
  rintro k ρ M ⟨hi, o, rfl, rfl, h1, h2, rfl⟩
  have hb : hi.natAbs < 2 ^ 1002 := by
    have := add_lt (tb n n0 (by omega)) (tb (n + 1) (by omega) (by omega))
    exact Nat.lt_of_le_of_lt (by omega) this
  walk_at "d"
  refine ⟨mulW hb hb (by decide), ?_⟩
  walk_at "d"
  refine ite_dec (fun h3 => ?_) (fun h3 => ?_)
  · refine r_asg ?_
    walk_at "d"
    have hle : hi ≤ n := by
      have := Int.mul_le_mul_of_nonneg_left h1 (show (0 : Int) ≤ hi by omega)
      omega
    refine ⟨mulW (a := 60) (by decide) hb (by decide), ?_⟩
    exact ⟨_, by omega, 2 * hi, o, rfl, rfl, by omega, by omega, rfl⟩
  · walk_at "d"
    refine r_while ⟨fun k ρ M => ∃ (lo hi : Int) (o : Option Sl), ρ = [some (.v (.int n)), some (.v (.int lo)), some (.v (.int hi)), o] ∧ M = [] ∧ 0 ≤ lo ∧ lo < hi ∧ hi ≤ 2 * n + 1 ∧ lo * lo ≤ n ∧ n < hi * hi ∧ k = (hi - lo).toNat, ⟨_, 0, hi, o, rfl, rfl, by omega, by omega, by omega, by omega, by omega, rfl⟩, ?_⟩
    rintro k ρ M ⟨lo, hi, o, rfl, rfl, g1, g2, g3, g4, g5, rfl⟩
    walk_at "d"
    refine ite_dec (fun h4 => ?_) (fun h4 => ?_)
    · walk_at "d"
      refine r_asg ?_
      walk_at "d"
      have m1 : lo < (lo + hi) / 2 := by omega
      have m2 : (lo + hi) / 2 < hi := by omega
      have mb : ((lo + hi) / 2).natAbs < 2 ^ 1002 := by
        have := add_lt (tb n n0 (by omega)) (tb (n + 1) (by omega) (by omega))
        exact Nat.lt_of_le_of_lt (by omega) this
      refine ⟨mulW mb mb (by decide), ?_⟩
      walk_at "d"
      refine ite_dec (fun h5 => ?_) (fun h5 => ?_)
      · refine r_asg ?_
        walk_at "d"
        exact ⟨_, by omega, (lo + hi) / 2, hi, _, rfl, rfl, by omega, m2, g3, h5, g5, rfl⟩
      · refine r_asg ?_
        walk_at "d"
        exact ⟨_, by omega, lo, (lo + hi) / 2, _, rfl, rfl, g1, m1, by omega, g4, by omega, rfl⟩
    · walk_at "d"
      have : hi = lo + 1 := by omega
      subst this
      exact ret_v ⟨lo, rfl, g1, g4, g5⟩
def pairD (p : Int × Int) : D := .tup [.int p.1, .int p.2]
def pairsD (ws : List (Int × Int)) : List D := ws.map pairD
theorem ways_len {m y n i : Int} {ws : List (Int × Int)} (up : ws.Pairwise fun p q => p.1 < q.1) (h : ∀ p, p ∈ ws → 0 ≤ p.1 ∧ p.1 < i) : (ws.length : Int) ≤ max i 0 := by
  -- rows ascend from 0 on
  suffices g : ∀ (ws : List (Int × Int)) (j : Int), ws.Pairwise (fun p q => p.1 < q.1) → (∀ p, p ∈ ws → j ≤ p.1 ∧ p.1 < i) → (ws.length : Int) ≤ max (i - j) 0 by
    have := g ws 0 up h
    omega
  intro ws
  induction ws with
  | nil => intro j _ _; simp; omega
  | cons p ws ih =>
    intro j hu hh
    obtain ⟨h1, h2⟩ := List.pairwise_cons.mp hu
    have hp := hh p List.mem_cons_self
    have := ih (p.1 + 1) h2 fun q hq => ⟨by have := h1 q hq; omega, (hh q (List.mem_cons_of_mem _ hq)).2⟩
    rw [List.length_cons]
    omega
theorem ok_ways_by (C : Ctx K mg a) : FnAt P w K mg base CX0 2 "ways_by" ["mine", "yours", "number"] (SpP K (fun x : Int × Int × Int => [.int x.1, .int x.2.1, .int x.2.2]) (fun x => 0 < x.1 ∧ 0 < x.2.1 ∧ x.1.natAbs < 2 ^ 900 ∧ x.2.1.natAbs < 2 ^ 900 ∧ 0 ≤ x.2.2 ∧ x.2.2 ≤ 1000000000000) (fun x d => ∃ ws, d = .lst (pairsD ws) ∧ Ways x.1 x.2.1 x.2.2 ws)) := by
  refine fn_at C.d_ways_by sc_ways_by (fun _ => rfl) fun f cdv A outer s H E hr => ⟨_, (pss_cons (ps_set (i := 3) sc_ways_by.nd rfl (by first | exact Or.inl rfl | exact Or.inr rfl) (pe_lst pa_nil))
    (pss_cons (ps_for PassesOwn.never rfl (pi_range1 rfl C.B.range (pa_cons (pe_op (op_gAdd (K := K)) (pe_fn (ok_root_below C) (hr.mono (by omega)) rfl (pa_cons (pe_op op_gDiv (pv 2) (pv 0)) pa_nil)) pe_int) pa_nil)) (pg_name (i := 4) sc_ways_by.nd rfl (by first | exact Or.inl rfl | exact Or.inr rfl))
    (pss_cons (ps_set (i := 5) sc_ways_by.nd rfl (by first | exact Or.inl rfl | exact Or.inr rfl) (pe_op op_gSub (pv 2) (pe_op (op_gMul (K := K)) (pe_op (op_gMul (K := K)) (pv 0) (pv 4)) (pv 4))))
    (pss_cons (ps_set (i := 6) sc_ways_by.nd rfl (by first | exact Or.inl rfl | exact Or.inr rfl) (pe_fn (ok_root_below C) (hr.mono (by omega)) rfl (pa_cons (pe_op op_gDiv (pv 5) (pv 1)) pa_nil)))
    (pss_one (ps_if (pt_cmpR (op_gEq (K := K) (by exact hr.units)) (pe_op (op_gMul (K := K)) (pe_op (op_gMul (K := K)) (pv 1) (pv 6)) (pv 6)) (pv 5) (nomark _))
    (pss_one (ps_expr (pe_bm PySem.F.plainAttrs_list PySem.F.slot_list_append PySem.F.type_list_append mt_append (pv 3) (pa_cons (pe_tup (pa_cons (pv 4) (pa_cons (pv 6) pa_nil))) pa_nil))))
    pss_nil)))))
    (pss_one (ps_ret (pv 3))))), fun x e hp he => ?_⟩
  obtain ⟨m, y, n⟩ := x
  obtain ⟨hm, hy, mb, yb, n0, n1⟩ := hp
  have hm : 0 < m := hm
  have hy : 0 < y := hy
  have mb : m.natAbs < 2 ^ 900 := mb
  have yb : y.natAbs < 2 ^ 900 := yb
  have n0 : 0 ≤ n := n0
  have n1 : n ≤ 1000000000000 := n1
  have nb : n.natAbs < 2 ^ 60 := by omega
  have dv : ∀ z : Int, 0 ≤ z → z ≤ n → ∀ t : Int, 0 < t → 0 ≤ z / t ∧ z / t ≤ n := fun z h1 h2 t ht => by
    have a := Int.ediv_nonneg h1 (show 0 ≤ t by omega)
    have b := Int.ediv_le_self t h1
    omega
  dsimp only [cxOf]
  walk_at "d"
  refine r_newL ?_
  walk_at "d"
  walk_at "d"
  refine r_for [4] ?_
  refine ei_range1 ?_
  walk_at "d"
  refine ⟨divW hm mb (by decide), ?_⟩
  walk_at "d"
  have d1 := dv n n0 (by omega) m hm
  refine ⟨n / m, rfl, ⟨d1.1, bit_le (a := 60) (by omega) (by decide)⟩, fun r ⟨r, er, hrt⟩ => ?_⟩
  subst er
  have r0 := hrt.p
  have rle : r ≤ n := by
    have := hrt.lo
    by_cases z : r = 0
    · omega
    · have := Int.mul_le_mul_of_nonneg_left (show 1 ≤ r by omega) r0
      omega
  walk_at "d"
  refine ⟨r + 1, rfl, by omega, by omega, ?_⟩
  refine ⟨fun i ρ M => ∃ (ws : List (Int × Int)) (o1 o2 o3 : Option Sl), ρ = [some (.v (.int m)), some (.v (.int y)), some (.v (.int n)), some (.l 0), o1, o2, o3] ∧ M = [.lst (pairsD ws)] ∧
    ws.Pairwise (fun p q => p.1 < q.1) ∧ (∀ a b, (a, b) ∈ ws ↔ 0 ≤ a ∧ a < (i : Int) ∧ 0 ≤ b ∧ m * a * a + y * b * b = n), ⟨[], none, none, none, rfl, rfl, .nil, fun a b => ⟨fun h => by simp at h, fun h => by have := h.1; have := h.2.1; omega⟩⟩, ?_, ?_⟩
  · rintro i d ρ M hi ⟨ws, o1, o2, o3, rfl, rfl, up, mem⟩
    obtain ⟨hil, rfl⟩ := rangeD_get hi
    rw [Int.zero_add]
    have hir : (i : Int) ≤ r := by omega
    have l0 := rt_row hm hrt (by omega) hir
    have ib : (i : Int).natAbs < 2 ^ 60 := by omega
    have iib := mul_lt mb ib
    have iiib := mul_lt iib ib
    have ln : n - m * (i : Int) * (i : Int) ≤ n := by
      have : 0 ≤ m * (i : Int) * (i : Int) := Int.mul_nonneg (Int.mul_nonneg (by omega) (by omega)) (by omega)
      omega
    walk_at "d"
    refine r_asg ?_
    walk_at "d"
    refine ⟨mulW mb ib (by decide), ?_⟩
    walk_at "d"
    refine ⟨mulW iib ib (by decide), ?_⟩
    walk_at "d"
    refine r_asg ?_
    walk_at "d"
    refine ⟨divW hy yb (by decide), ?_⟩
    walk_at "d"
    have d2 := dv _ l0 ln y hy
    refine ⟨_, rfl, ⟨d2.1, bit_le (a := 60) (by omega) (by decide)⟩, fun r' ⟨q, eq, hq⟩ => ?_⟩
    subst eq
    have q0 := hq.p
    have qn : q ≤ n := by
      have := hq.lo
      by_cases z : q = 0
      · omega
      · have := Int.mul_le_mul_of_nonneg_left (show 1 ≤ q by omega) q0
        omega
    have qb : q.natAbs < 2 ^ 60 := by omega
    have st := ways_step hm hy (by omega) up mem hq
    walk_at "d"
    refine ⟨mulW yb qb (by decide), ?_⟩
    walk_at "d"
    refine ⟨mulW (mul_lt yb qb) qb (by decide), ?_⟩
    walk_at "d"
    refine ite_dec (fun h => ?_) (fun h => ?_)
    · obtain ⟨u1, u2⟩ := st.1 h
      walk_at "d"
      refine ⟨_, rfl, ?_, ws ++ [((i : Int), q)], _, _, _, rfl, ?_, u1, fun a b => by rw [u2]; constructor <;> (rintro ⟨h1, h2, h3, h4⟩; exact ⟨h1, by omega, h3, h4⟩)⟩
      · have := ways_len (m := m) (y := y) (n := n) (i := (i : Int)) up fun p hp => ⟨((mem p.1 p.2).mp hp).1, ((mem p.1 p.2).mp hp).2.1⟩
        have r2 : r * r ≤ 1000000000000 := by have := hrt.lo; omega
        have r3 : r ≤ 1000000 := le_of_sq (by decide) (by omega)
        simp only [pairsD, List.length_map]
        omega
      · simp [pairsD, pairD]
    · walk_at "d"
      exact ⟨ws, _, _, _, rfl, rfl, up, fun a b => by rw [st.2 h]; constructor <;> (rintro ⟨h1, h2, h3, h4⟩; exact ⟨h1, by omega, h3, h4⟩)⟩
  · rintro ρ M ⟨ws, o1, o2, o3, rfl, rfl, up, mem⟩
    walk_at "d"
    refine .inr (.inl ⟨0, _, rfl, by decide, rfl, ws, rfl, ways_done hm hy hrt up fun a b => ?_⟩)
    rw [mem, rangeD_len]
    constructor <;> (rintro ⟨h1, h2, h3, h4⟩; exact ⟨h1, by omega, h3, h4⟩)
/-- weights above 0 -/
structure WtP (ns : List Int) : Prop extends Wt ns where
  pos : 0 < prodL ns
theorem Wt.bit {ns : List Int} (h : Wt ns) : (prodL ns).natAbs < 2 ^ 900 := by
  have : ∀ (ns : List Int) (m : Nat) (a : Int), (∀ n, n ∈ ns → n.natAbs ≤ 1000000) → a.natAbs < 2 ^ m → (ns.foldl (· * ·) a).natAbs < 2 ^ (20 * ns.length + m) := by
    intro ns
    induction ns with
    | nil => intro m a _ ha; simpa using ha
    | cons n ns ih =>
      intro m a hh ha
      have hn : n.natAbs < 2 ^ 20 := by have := hh n List.mem_cons_self; omega
      have := ih (m + 20) (a * n) (fun k hk => hh k (List.mem_cons_of_mem _ hk)) (mul_lt ha hn)
      rw [List.foldl_cons, List.length_cons]
      exact bit_le this (by omega)
  have := this ns 1 1 (fun n hn => (h.p n hn).2) (by decide)
  have hl := h.hi
  exact bit_le this (by omega)
theorem sgn_pos {n : Int} (h : 0 < n) : sgn n = 1 := if_pos h
theorem ok_check_two (C : Ctx K mg a) : FnAt P w K mg base CX0 4 "check_two" ["one", "other"] (SpP K (fun x : List Int × List Int => [wt x.1, wt x.2]) (fun x => WtP x.1 ∧ WtP x.2) (fun x d => d = .non)) := by
  refine fn_at C.d_check_two sc_check_two (fun _ => rfl) fun f cdv A outer s H E hr => ⟨_, (pss_one (ps_for PassesOwn.never rfl (pi_seq (K := K) (pe_tup (pa_cons (pv 0) (pa_cons (pv 1) pa_nil)))) (pg_name (i := 2) sc_check_two.nd rfl (by first | exact Or.inl rfl | exact Or.inr rfl))
    (pss_cons (ps_expr (pe_fn (ok_check_weight C) (hr.mono (by omega)) rfl (pa_cons (pv 2) pa_nil)))
    (pss_one (ps_if (pt_cmpR op_gLt (pe_fn (ok_sign_of C) (hr.mono (by omega)) rfl (pa_cons (pv 2) pa_nil)) pe_int (nomark _))
    (pss_one ps_never)
    pss_nil))))), fun x e hp he => ?_⟩
  obtain ⟨u, v⟩ := x
  have h1 : WtP u := hp.1
  have h2 : WtP v := hp.2
  dsimp only [cxOf]
  refine r_for [2] ?_
  refine ei_seqT ?_
  walk_at "d"
  refine ⟨_, rfl, fun i ρ M => ∃ o, ρ = [some (.v (wt u)), some (.v (wt v)), o] ∧ M = [], ⟨none, rfl, rfl⟩, ?_, ?_⟩
  · rintro i d ρ M hi ⟨o, rfl, rfl⟩
    obtain ⟨ns, rfl, hn⟩ : ∃ ns, d = wt ns ∧ WtP ns := by
      match i, hi with
      | 0, hi => cases hi; exact ⟨u, rfl, h1⟩
      | 1, hi => cases hi; exact ⟨v, rfl, h2⟩
    walk_at "d"
    refine ⟨wt ns, rfl, ⟨hn.tame, hn.isW⟩, fun r er => ?_⟩
    subst er
    walk_at "d"
    refine ⟨ns, rfl, hn.toWt, fun r er => ?_⟩
    subst er
    rw [sgn_pos hn.pos]
    walk_at "d"
    refine iteF ?_
    walk_at "d"
    exact ⟨_, rfl, rfl⟩
  · rintro ρ M ⟨o, rfl, rfl⟩
    rfl
theorem ok_check_asked (C : Ctx K mg a) : FnAt P w K mg base CX0 5 "check_asked" ["one", "other", "number", "low", "high"] (SpP K (fun x : (List Int × List Int) × Int × Int × Int => [wt x.1.1, wt x.1.2, .int x.2.1, .int x.2.2.1, .int x.2.2.2]) (fun x => WtP x.1.1 ∧ WtP x.1.2 ∧ x.2.2.1 ≤ x.2.1 ∧ x.2.1 ≤ x.2.2.2) (fun x d => d = .non)) := by
  refine fn_at C.d_check_asked sc_check_asked (fun _ => rfl) fun f cdv A outer s H E hr => ⟨_, (pss_cons (ps_expr (pe_fn (ok_check_two C) (hr.mono (by omega)) rfl (pa_cons (pv 0) (pa_cons (pv 1) pa_nil))))
    (pss_one (ps_if (pt_not (pt_val (pe_fn (ok_is_integer C) (hr.mono (by omega)) rfl (pa_cons (pv 2) (pa_cons (pv 3) (pa_cons (pv 4) pa_nil))))))
    (pss_one ps_never)
    pss_nil))), fun x e hp he => ?_⟩
  obtain ⟨⟨u, v⟩, n, lo, hi⟩ := x
  obtain ⟨h1, h2, h3, h4⟩ := hp
  dsimp only [cxOf]
  walk_at "d"
  refine ⟨(u, v), rfl, ⟨h1, h2⟩, fun r er => ?_⟩
  subst er
  walk_at "d"
  refine ⟨(.int n, lo, hi), rfl, .int n, fun r er => ?_⟩
  subst er
  refine ⟨_, rfl, ?_⟩
  have : isI (.int n) lo hi = true := by show (decide (lo ≤ n) && decide (n ≤ hi)) = true; rw [decide_eq_true h3, decide_eq_true h4]; rfl
  dsimp only
  rw [this]
  refine iteF ?_
  walk_at "d"
  rfl
theorem ok_ways (C : Ctx K mg a) : FnAt P w K mg base CX0 6 "ways" ["one", "other", "number"] (SpP K (fun x : (List Int × List Int) × Int => [wt x.1.1, wt x.1.2, .int x.2]) (fun x => WtP x.1.1 ∧ WtP x.1.2 ∧ 0 ≤ x.2 ∧ x.2 ≤ 100000000) (fun x d => ∃ ws, d = .lst (pairsD ws) ∧ Ways (prodL x.1.1) (prodL x.1.2) x.2 ws)) := by
  refine fn_at C.d_ways sc_ways (fun _ => rfl) fun f cdv A outer s H E hr => ⟨_, (pss_cons (ps_expr (pe_fn (ok_check_asked C) (hr.mono (by omega)) rfl (pa_cons (pv 0) (pa_cons (pv 1) (pa_cons (pv 2) (pa_cons pe_int (pa_cons (C.c_MOST_SUM.pe rfl) pa_nil)))))))
    (pss_one (ps_ret (pe_fn (ok_ways_by C) (hr.mono (by omega)) rfl (pa_cons (pe_fn (ok_product C) (hr.mono (by omega)) rfl (pa_cons (pv 0) pa_nil)) (pa_cons (pe_fn (ok_product C) (hr.mono (by omega)) rfl (pa_cons (pv 1) pa_nil)) (pa_cons (pv 2) pa_nil))))))), fun x e hp he => ?_⟩
  obtain ⟨⟨u, v⟩, n⟩ := x
  obtain ⟨h1, h2, h3, h4⟩ := hp
  have h1 : WtP u := h1
  have h2 : WtP v := h2
  have h3 : 0 ≤ n := h3
  have h4 : n ≤ 100000000 := h4
  dsimp only [cxOf]
  walk_at "d"
  refine ⟨((u, v), n, 0, 100000000), rfl, ⟨h1, h2, h3, h4⟩, fun r er => ?_⟩
  subst er
  walk_at "d"
  refine ⟨(true, u), rfl, h1.pre, fun r er => ?_⟩
  subst er
  walk_at "d"
  refine ⟨(true, v), rfl, h2.pre, fun r er => ?_⟩
  subst er
  walk_at "d"
  refine ⟨(_, _, n), rfl, ⟨h1.pos, h2.pos, h1.bit, h2.bit, h3, by show n ≤ 1000000000000; omega⟩, fun r ⟨ws, er, hw⟩ => ?_⟩
  subst er
  exact ret_v ⟨ws, rfl, hw⟩
/-- the sum of the rows' weights -/
theorem wgt_val (p : Int × Int) : wgt p = (if decide (p.1 = 0) = true then 1 else 2) * (if decide (p.2 = 0) = true then 1 else 2) := by
  unfold wgt
  simp
theorem ok_count_ways (C : Ctx K mg a) : FnAt P w K mg base CX0 6 "count_ways" ["one", "other", "number"] (SpP K (fun x : (List Int × List Int) × Int => [wt x.1.1, wt x.1.2, .int x.2]) (fun x => WtP x.1.1 ∧ WtP x.1.2 ∧ 0 ≤ x.2 ∧ x.2 ≤ 100000000) (fun x d => ∃ ws, d = .int (wsum ws) ∧ Ways (prodL x.1.1) (prodL x.1.2) x.2 ws)) := by
  refine fn_at C.d_count_ways sc_count_ways (fun _ => rfl) fun f cdv A outer s H E hr => ⟨_, (pss_cons (ps_expr (pe_fn (ok_check_asked C) (hr.mono (by omega)) rfl (pa_cons (pv 0) (pa_cons (pv 1) (pa_cons (pv 2) (pa_cons pe_int (pa_cons (C.c_MOST_SUM.pe rfl) pa_nil)))))))
    (pss_cons (ps_set (i := 3) sc_count_ways.nd rfl (by first | exact Or.inl rfl | exact Or.inr rfl) (pe_fn (ok_ways_by C) (hr.mono (by omega)) rfl (pa_cons (pe_fn (ok_product C) (hr.mono (by omega)) rfl (pa_cons (pv 0) pa_nil)) (pa_cons (pe_fn (ok_product C) (hr.mono (by omega)) rfl (pa_cons (pv 1) pa_nil)) (pa_cons (pv 2) pa_nil)))))
    (pss_one (ps_ret (pe_sum (K := K) C.B.sum rfl rfl (pa_cons (pe_lc (own := [("mine", 4), ("yours", 5)]) (g := (gTup _ 2 (gCons (gName 4) (gCons (gName 5) gNil)))) (tt := tYes) rfl sc_count_ways.nd (pi_seq (K := K) (pv 3)) (blkOk_by (N := n_count_ways) (sc := defScope s_count_ways) (by decide +kernel)) (fun _ _ _ _ _ => (pg_tup rfl (pgs_cons (pg_name (i := 4) sc_count_ways.nd rfl (by first | exact Or.inl rfl | exact Or.inr rfl)) (pgs_cons (pg_name (i := 5) sc_count_ways.nd rfl (by first | exact Or.inl rfl | exact Or.inr rfl)) pgs_nil)))) (fun _ _ _ _ _ => pts_nil) (fun _ _ _ _ _ => (pe_op (op_gMul (K := K)) (pe_ifExp (pt_cmpR (op_gEq (K := K) (by exact hr.units)) (pv 4) pe_int (nomark _)) pe_int pe_int) (pe_ifExp (pt_cmpR (op_gEq (K := K) (by exact hr.units)) (pv 5) pe_int (nomark _)) pe_int pe_int)))) pa_nil)))))), fun x e hp he => ?_⟩
  obtain ⟨⟨u, v⟩, n⟩ := x
  obtain ⟨h1, h2, h3, h4⟩ := hp
  have h1 : WtP u := h1
  have h2 : WtP v := h2
  have h3 : 0 ≤ n := h3
  have h4 : n ≤ 100000000 := h4
  dsimp only [cxOf]
  walk_at "d"
  refine ⟨((u, v), n, 0, 100000000), rfl, ⟨h1, h2, h3, h4⟩, fun r er => ?_⟩
  subst er
  walk_at "d"
  refine r_asg ?_
  walk_at "d"
  refine ⟨(true, u), rfl, h1.pre, fun r er => ?_⟩
  subst er
  walk_at "d"
  refine ⟨(true, v), rfl, h2.pre, fun r er => ?_⟩
  subst er
  walk_at "d"
  refine ⟨(_, _, n), rfl, ⟨h1.pos, h2.pos, h1.bit, h2.bit, h3, by show n ≤ 1000000000000; omega⟩, fun r ⟨ws, er, hw⟩ => ?_⟩
  subst er
  walk_at "d"
  refine ev_lc (ei_seqL ?_)
  walk_at "d"
  have hlen : ws.length ≤ 100000001 := by
    have := ways_len (m := prodL u) (y := prodL v) (n := n) (i := 100000001) hw.up fun p hp => by
      have q := (hw.mem p.1 p.2).mp hp
      refine ⟨q.1, ?_⟩
      have a1 : 0 ≤ prodL v * p.2 * p.2 := Int.mul_nonneg (Int.mul_nonneg (by have := h2.pos; omega) q.2.1) q.2.1
      have a2 : p.1 * p.1 ≤ prodL u * p.1 * p.1 := by
        rw [Int.mul_assoc]
        have := Int.mul_le_mul_of_nonneg_right (show 1 ≤ prodL u by have := h1.pos; omega) (Int.mul_nonneg q.1 q.1)
        omega
      by_cases z : p.1 = 0
      · omega
      · have := Int.mul_le_mul_of_nonneg_left (show 1 ≤ p.1 by have := q.1; omega) q.1
        have q3 : prodL u * p.1 * p.1 + prodL v * p.2 * p.2 = n := q.2.2
        omega
    omega
  have hlen2 : ws.length ≤ 10001 := by
    have := ways_len (m := prodL u) (y := prodL v) (n := n) (i := 10001) hw.up fun p hp => by
      have q := (hw.mem p.1 p.2).mp hp
      refine ⟨q.1, ?_⟩
      have a1 : 0 ≤ prodL v * p.2 * p.2 := Int.mul_nonneg (Int.mul_nonneg (by have := h2.pos; omega) q.2.1) q.2.1
      have a2 : p.1 * p.1 ≤ prodL u * p.1 * p.1 := by
        rw [Int.mul_assoc]
        have := Int.mul_le_mul_of_nonneg_right (show 1 ≤ prodL u by have := h1.pos; omega) (Int.mul_nonneg q.1 q.1)
        omega
      have q3 : prodL u * p.1 * p.1 + prodL v * p.2 * p.2 = n := q.2.2
      exact lt_of_sq (by decide) (by omega)
    omega
  refine ⟨_, rfl, by simp only [pairsD, List.length_map]; omega, fun i acc => acc = D.ints ((ws.take i).map wgt), rfl, ?_, ?_⟩
  · rintro i d acc hi rfl
    unfold pairsD at hi
    rw [List.getElem?_map] at hi
    obtain ⟨p, hpi, rfl⟩ := Option.map_eq_some_iff.mp hi
    refine eg_tup rfl ?_
    walk_at "d"
    refine fun σ α F H en S k kk => kk true F H .refl S ?_
    refine iteT ?_
    walk_at "d"
    have fin : ∀ x y : Int, x * y = wgt p → (∃ d', Sl.v (D.int (x * y)) = .v d' ∧ D.ints ((ws.take i).map wgt) ++ [d'] = D.ints ((ws.take (i + 1)).map wgt)) := fun x y e => by
      refine ⟨_, rfl, ?_⟩
      rw [take_snoc hpi, e]
      simp [D.ints]
    refine ite_dec (fun h => ?_) (fun h => ?_)
    · walk_at "d"
      refine ite_dec (fun h' => ?_) (fun h' => ?_)
      · walk_at "d"
        exact ⟨mulW (a := 60) (b := 60) (by decide) (by decide) (by decide), fin _ _ (by unfold wgt; rw [if_pos h, if_pos h'])⟩
      · walk_at "d"
        exact ⟨mulW (a := 60) (b := 60) (by decide) (by decide) (by decide), fin _ _ (by unfold wgt; rw [if_pos h, if_neg h'])⟩
    · walk_at "d"
      refine ite_dec (fun h' => ?_) (fun h' => ?_)
      · walk_at "d"
        exact ⟨mulW (a := 60) (b := 60) (by decide) (by decide) (by decide), fin _ _ (by unfold wgt; rw [if_neg h, if_pos h'])⟩
      · walk_at "d"
        exact ⟨mulW (a := 60) (b := 60) (by decide) (by decide) (by decide), fin _ _ (by unfold wgt; rw [if_neg h, if_neg h'])⟩
  · rintro acc rfl
    walk_at "d"
    refine ec_sum (ns := ws.map wgt) ?_ (ret_v ⟨ws, rfl, hw⟩)
    have : (pairsD ws).length = ws.length := by simp [pairsD]
    rw [this, List.take_length]
    exact .v

end
section
variable {P : Program} {w : World} {K : PySem.W.Frag} {mg : Str → Option Value} {base : Heap} {a : Adr}
theorem ok__law_product (C : Ctx K mg a) : FnAt P w K mg base CX0 1 "_law_product" ["_law_numbers"] (SpP K (fun x : Bool × List Int => [D.seq x.1 (D.ints x.2)]) (fun x => x.2.length ≤ 1000 ∧ ∀ n, n ∈ x.2 → n.natAbs < 2 ^ 700) (fun x d => d = .int (prodL x.2))) := by
  refine fn_at C.d__law_product sc__law_product (fun _ => rfl) fun f cdv A outer s H E hr => ⟨_, (pss_cons (ps_set (i := 1) sc__law_product.nd rfl (by first | exact Or.inl rfl | exact Or.inr rfl) pe_int)
    (pss_cons (ps_for PassesOwn.never rfl (pi_seq (K := K) (pv 0)) (pg_name (i := 2) sc__law_product.nd rfl (by first | exact Or.inl rfl | exact Or.inr rfl))
    (pss_one (ps_set (i := 1) sc__law_product.nd rfl (by first | exact Or.inl rfl | exact Or.inr rfl) (pe_op (op_gMul (K := K)) (pv 1) (pv 2)))))
    (pss_one (ps_ret (pv 1))))), fun i e hp he => ?_⟩
  obtain ⟨b, ns⟩ := i
  have hl : ns.length ≤ 1000 := hp.1
  have hb : ∀ n, n ∈ ns → n.natAbs < 2 ^ 700 := hp.2
  dsimp only [cxOf]
  walk_at "d"
  refine r_asg ?_
  walk_at "d"
  refine r_for [2] ?_
  refine ei_seqS ?_
  walk_at "d"
  refine ⟨_, ⟨_, rfl⟩, fun i ρ M => ∃ o, ρ = [some (.v (D.seq b (D.ints ns))), some (.v (.int (prodL (ns.take i)))), o] ∧ M = [], ⟨_, rfl, rfl⟩, ?_, ?_⟩
  · rintro i d ρ M hi ⟨o, rfl, rfl⟩
    obtain ⟨n, hn, rfl⟩ := ints_get hi
    walk_at "d"
    refine r_asg ?_
    walk_at "d"
    refine ⟨mulW (prod_bit (ns.take i) fun k hk => hb k (List.mem_of_mem_take hk)) (hb n (List.mem_of_getElem? hn)) (by rw [List.length_take]; omega), some (.v (.int n)), ?_, rfl⟩
    rw [take_snoc hn, prod_snoc]
    rfl
  · rintro ρ M ⟨o, rfl, rfl⟩
    walk_at "d"
    refine ret_v ?_
    simp [D.ints]
theorem mulS {i j : Int} (h : i.natAbs < 2 ^ 60) (h' : j.natAbs < 2 ^ 900) : CMulW i j := mulW h h' (by decide)
/-- one more row, looked up -/
theorem ways_step2 {m y n : Int} (hy : 0 < y) {ws : List (Int × Int)} {i : Int} (hi : 0 ≤ i) (up : ws.Pairwise fun p q => p.1 < q.1) (mem : ∀ a b, (a, b) ∈ ws ↔ 0 ≤ a ∧ a < i ∧ 0 ≤ b ∧ m * a * a + y * b * b = n) :
    (∀ b, 0 ≤ b → y * b * b = n - m * i * i → (ws ++ [(i, b)]).Pairwise (fun p q => p.1 < q.1) ∧ ∀ a c, (a, c) ∈ ws ++ [(i, b)] ↔ 0 ≤ a ∧ a < i + 1 ∧ 0 ≤ c ∧ m * a * a + y * c * c = n) ∧
    ((¬ ∃ b, 0 ≤ b ∧ y * b * b = n - m * i * i) → ∀ a b, (a, b) ∈ ws ↔ 0 ≤ a ∧ a < i + 1 ∧ 0 ≤ b ∧ m * a * a + y * b * b = n) := by
  refine ⟨fun b hb e => ⟨?_, fun a c => ?_⟩, fun e a b => ?_⟩
  · rw [List.pairwise_append]
    refine ⟨up, by simp, fun p hp q hq => ?_⟩
    simp at hq; subst hq
    exact ((mem p.1 p.2).mp hp).2.1
  · rw [List.mem_append, mem, List.mem_singleton]
    constructor
    · rintro (⟨h1, h2, h3, h4⟩ | h)
      · exact ⟨h1, by omega, h3, h4⟩
      · cases h
        exact ⟨hi, by omega, hb, by omega⟩
    · rintro ⟨h1, h2, h3, h4⟩
      by_cases z : a < i
      · exact .inl ⟨h1, z, h3, h4⟩
      · have : a = i := by omega
        subst this
        have e2 : y * (c * c) = y * (b * b) := by rw [← Int.mul_assoc, ← Int.mul_assoc]; omega
        have := eq_of_sq h3 hb (Int.eq_of_mul_eq_mul_left (by omega) e2)
        exact .inr (by rw [this])
  · rw [mem]
    constructor
    · rintro ⟨h1, h2, h3, h4⟩
      exact ⟨h1, by omega, h3, h4⟩
    · rintro ⟨h1, h2, h3, h4⟩
      by_cases z : a < i
      · exact ⟨h1, z, h3, h4⟩
      · have : a = i := by omega
        subst this
        exact absurd ⟨b, h3, by omega⟩ e
theorem sq_small {m i n : Int} (hm : 0 < m) (hi : 0 ≤ i) (h : m * i * i ≤ n) : i * i ≤ n := by
  rw [Int.mul_assoc] at h
  have := Int.mul_le_mul_of_nonneg_right (show 1 ≤ m by omega) (Int.mul_nonneg hi hi)
  omega
theorem root_small {m i : Int} (hm : 0 < m) (hi : 0 ≤ i) (h : m * i * i ≤ 100000000) : i ≤ 10000 := le_of_sq (by decide) (sq_small hm hi h)
theorem ok__law_ways (C : Ctx K mg a) : FnAt P w K mg base CX0 1 "_law_ways" ["_law_one", "_law_other", "_law_number"] (SpP K (fun x : Int × Int × Int => [.int x.1, .int x.2.1, .int x.2.2]) (fun x => 0 < x.1 ∧ 0 < x.2.1 ∧ x.1 ≤ 1000000 ∧ x.2.1 ≤ 1000000 ∧ 0 ≤ x.2.2 ∧ x.2.2 ≤ 100000000) (fun x d => ∃ ws, d = .lst (pairsD ws) ∧ Ways x.1 x.2.1 x.2.2 ws)) := by
  refine fn_at C.d__law_ways sc__law_ways (fun _ => rfl) fun f cdv A outer s H E hr => ⟨_, (pss_cons (ps_asg (pe_tup (pa_cons pe_dnewK (pa_cons (pe_lst pa_nil) (pa_cons pe_int (pa_cons pe_int pa_nil))))) (pg_tup rfl (pgs_cons (pg_name (i := 3) sc__law_ways.nd rfl (by first | exact Or.inl rfl | exact Or.inr rfl)) (pgs_cons (pg_name (i := 4) sc__law_ways.nd rfl (by first | exact Or.inl rfl | exact Or.inr rfl)) (pgs_cons (pg_name (i := 5) sc__law_ways.nd rfl (by first | exact Or.inl rfl | exact Or.inr rfl)) (pgs_cons (pg_name (i := 6) sc__law_ways.nd rfl (by first | exact Or.inl rfl | exact Or.inr rfl)) pgs_nil))))))
    (pss_cons (ps_while PassesOwn.never (pt_cmpR op_gLe (pe_op (op_gMul (K := K)) (pe_op (op_gMul (K := K)) (pv 1) (pv 6)) (pv 6)) (pv 2) (nomark _))
    (pss_cons (ps_dput (hu_of hr) (pv 3) (pe_op (op_gMul (K := K)) (pe_op (op_gMul (K := K)) (pv 1) (pv 6)) (pv 6)) (pv 6) rfl)
    (pss_one (ps_set (i := 6) sc__law_ways.nd rfl (by first | exact Or.inl rfl | exact Or.inr rfl) (pe_op (op_gAdd (K := K)) (pv 6) pe_int)))))
    (pss_cons (ps_while PassesOwn.never (pt_cmpR op_gLe (pe_op (op_gMul (K := K)) (pe_op (op_gMul (K := K)) (pv 0) (pv 5)) (pv 5)) (pv 2) (nomark _))
    (pss_cons (ps_if (pt_cmp (pc_din (hu_of hr) (pe_op op_gSub (pv 2) (pe_op (op_gMul (K := K)) (pe_op (op_gMul (K := K)) (pv 0) (pv 5)) (pv 5))) (pv 3)))
    (pss_one (ps_expr (pe_bm PySem.F.plainAttrs_list PySem.F.slot_list_append PySem.F.type_list_append mt_append (pv 4) (pa_cons (pe_tup (pa_cons (pv 5) (pa_cons (pe_dget (hu_of hr) (pv 3) (pe_op op_gSub (pv 2) (pe_op (op_gMul (K := K)) (pe_op (op_gMul (K := K)) (pv 0) (pv 5)) (pv 5))) (fun _ _ => rfl)) pa_nil))) pa_nil))))
    pss_nil)
    (pss_one (ps_set (i := 5) sc__law_ways.nd rfl (by first | exact Or.inl rfl | exact Or.inr rfl) (pe_op (op_gAdd (K := K)) (pv 5) pe_int)))))
    (pss_one (ps_ret (pv 4)))))), fun x e hp he => ?_⟩
  obtain ⟨m, y, n⟩ := x
  obtain ⟨hm, hy, m1, y1, n0, n1⟩ := hp
  have hm : 0 < m := hm
  have hy : 0 < y := hy
  have m1 : m ≤ 1000000 := m1
  have y1 : y ≤ 1000000 := y1
  have n0 : 0 ≤ n := n0
  have n1 : n ≤ 100000000 := n1
  have mb : m.natAbs < 2 ^ 60 := by omega
  have yb : y.natAbs < 2 ^ 60 := by omega
  dsimp only [cxOf]
  walk_at "d"
  refine r_tupN (le_lit rfl) ?_
  refine ena_cons (en_newD (ena_cons (en_newL (ea_nil ⟨[], rfl, by decide, ena_cons (en_ev ?_)⟩))))
  walk_at "d"
  refine ena_cons (en_ev ?_)
  walk_at "d"
  refine ena_nil ⟨rfl, egn_cons (egn_cons (egn_cons (egn_cons (egn_nil ?_))))⟩
  walk_at "d"
  refine r_while ⟨fun k ρ M => ∃ (t : Int) (ks : List Key) (ds : List D), ρ = [some (.v (.int m)), some (.v (.int y)), some (.v (.int n)), some (.l 0), some (.l 1), some (.v (.int 0)), some (.v (.int t))] ∧ M = [.dic ks ds, .lst []] ∧
    0 ≤ t ∧ t ≤ 10001 ∧ k = (10002 - t).toNat ∧ ks.length = ds.length ∧ (ks.length : Int) ≤ t ∧ (∀ b, 0 ≤ b → b < t → kdGet ks ds (.inl (y * b * b)) = some (.int b)) ∧ (∀ k d, kdGet ks ds (.inl k) = some d → ∃ b, 0 ≤ b ∧ b < t ∧ k = y * b * b ∧ d = .int b),
    ⟨_, 0, [], [], rfl, rfl, by omega, by omega, rfl, rfl, by simp, fun b h1 h2 => by omega, fun k d h => by simp [kdGet] at h⟩, ?_⟩
  rintro k ρ M ⟨t, ks, ds, rfl, rfl, t0, t1, rfl, hl, hlt, g1, g2⟩
  have tb : t.natAbs < 2 ^ 60 := by omega
  have ytb := mul_lt yb tb
  walk_at "d"
  refine ⟨mulW yb tb (by decide), ?_⟩
  walk_at "d"
  refine ⟨mulW ytb tb (by decide), ?_⟩
  walk_at "d"
  refine ite_dec (fun h => ?_) (fun h => ?_)
  · have h : y * t * t ≤ n := h
    have t2 := root_small hy t0 (show y * t * t ≤ 100000000 by omega)
    walk_at "d"
    refine r_dput rfl rfl ?_
    walk_at "d"
    refine ⟨mulW yb tb (by decide), ?_⟩
    walk_at "d"
    refine ⟨mulW ytb tb (by decide), ?_⟩
    refine ⟨.inl (y * t * t), .int t, rfl, rfl, by omega, ?_⟩
    refine r_asg ?_
    walk_at "d"
    have hle := kdPut_le (ks := ks) (ds := ds) (k := .inl (y * t * t)) (d := .int t)
    refine ⟨_, by omega, t + 1, _, _, rfl, rfl, by omega, by omega, rfl, kdPut_len hl, by omega, fun b b0 b1 => ?_, fun k d hk => ?_⟩
    · rw [kdGet_put hl]
      by_cases e : b = t
      · subst e; rw [if_pos rfl]
      · rw [if_neg]
        · exact g1 b b0 (by omega)
        · intro z
          injection z with z
          rw [Int.mul_assoc, Int.mul_assoc] at z
          exact e (eq_of_sq b0 t0 (Int.eq_of_mul_eq_mul_left (by omega) z))
    · rw [kdGet_put hl] at hk
      by_cases e : (Sum.inl k : Key) = .inl (y * t * t)
      · rw [if_pos e] at hk
        injection e with e
        injection hk with hk
        exact ⟨t, t0, by omega, e, hk.symm⟩
      · rw [if_neg e] at hk
        obtain ⟨b, b0, b1, b2, b3⟩ := g2 k d hk
        exact ⟨b, b0, by omega, b2, b3⟩
  · have h : n < y * t * t := by omega
    -- every square that can be asked stands there
    have all : ∀ b, 0 ≤ b → y * b * b ≤ n → b < t := fun b b0 hb => by
      refine lt_of_sq t0 ?_
      rw [Int.mul_assoc] at hb h
      exact Int.lt_of_mul_lt_mul_left (show y * (b * b) < y * (t * t) by omega) (by omega)
    walk_at "d"
    refine r_while ⟨fun k ρ M => ∃ (i : Int) (ws : List (Int × Int)), ρ = [some (.v (.int m)), some (.v (.int y)), some (.v (.int n)), some (.l 0), some (.l 1), some (.v (.int i)), some (.v (.int t))] ∧ M = [.dic ks ds, .lst (pairsD ws)] ∧
      0 ≤ i ∧ i ≤ 10001 ∧ k = (10002 - i).toNat ∧ ws.Pairwise (fun p q => p.1 < q.1) ∧ (∀ a b, (a, b) ∈ ws ↔ 0 ≤ a ∧ a < i ∧ 0 ≤ b ∧ m * a * a + y * b * b = n),
      ⟨_, 0, [], rfl, rfl, by omega, by omega, rfl, .nil, fun a b => ⟨fun h => by simp at h, fun h => by have := h.1; have := h.2.1; omega⟩⟩, ?_⟩
    rintro k ρ M ⟨i, ws, rfl, rfl, i0, i1, rfl, up, mem⟩
    have ib : i.natAbs < 2 ^ 60 := by omega
    have mib := mul_lt mb ib
    have st := ways_step2 hy i0 up mem
    walk_at "d"
    refine ⟨mulW mb ib (by decide), ?_⟩
    walk_at "d"
    refine ⟨mulW mib ib (by decide), ?_⟩
    walk_at "d"
    refine ite_dec (fun h2 => ?_) (fun h2 => ?_)
    · have h2 : m * i * i ≤ n := h2
      have i2 := root_small hm i0 (show m * i * i ≤ 100000000 by omega)
      have mii : 0 ≤ m * i * i := Int.mul_nonneg (Int.mul_nonneg (by omega) i0) i0
      walk_at "d"
      refine ev_din ?_
      walk_at "d"
      refine ⟨mulW mb ib (by decide), ?_⟩
      walk_at "d"
      refine ⟨mulW mib ib (by decide), ?_⟩
      walk_at "d"
      refine ⟨ks, ds, .inl (n - m * i * i), .l rfl, rfl, _, rfl, ?_⟩
      have hlen := ways_len (m := m) (y := y) (n := n) (i := i) up fun p hp => ⟨((mem p.1 p.2).mp hp).1, ((mem p.1 p.2).mp hp).2.1⟩
      have hlen2 : (pairsD ws).length < 16777216 := by simp only [pairsD, List.length_map]; omega
      cases hg : kdGet ks ds (.inl (n - m * i * i)) with
      | some d =>
        obtain ⟨b, b0, b1, b2, rfl⟩ := g2 _ _ hg
        obtain ⟨u1, u2⟩ := st.1 b b0 b2.symm
        refine iteT ?_
        walk_at "d"
        refine ev_dget ?_
        walk_at "d"
        refine ⟨mulW mb ib (by decide), ?_⟩
        walk_at "d"
        refine ⟨mulW mib ib (by decide), ?_⟩
        walk_at "d"
        refine ⟨ks, ds, .inl (n - m * i * i), .int b, .l rfl, rfl, hg, ?_⟩
        walk_at "d"
        refine ⟨_, rfl, hlen2, ?_⟩
        refine r_asg ?_
        walk_at "d"
        refine ⟨_, by omega, i + 1, ws ++ [(i, b)], rfl, ?_, by omega, by omega, rfl, u1, u2⟩
        simp [pairsD, pairD]
      | none =>
        have no : ¬ ∃ b, 0 ≤ b ∧ y * b * b = n - m * i * i := fun ⟨b, b0, b1⟩ => by
          have := g1 b b0 (all b b0 (by omega))
          rw [b1, hg] at this
          cases this
        refine iteF ?_
        walk_at "d"
        refine r_asg ?_
        walk_at "d"
        exact ⟨_, by omega, i + 1, ws, rfl, rfl, by omega, by omega, rfl, up, st.2 no⟩
    · have h2 : n < m * i * i := by omega
      walk_at "d"
      refine .inr (.inl ⟨1, _, rfl, by decide, rfl, ws, rfl, up, fun p q => ?_⟩)
      rw [mem]
      constructor
      · rintro ⟨h1, _, h3, h4⟩; exact ⟨h1, h3, h4⟩
      · rintro ⟨h1, h3, h4⟩
        refine ⟨h1, ?_, h3, h4⟩
        have h5 : 0 ≤ y * q * q := by rw [Int.mul_assoc]; exact Int.mul_nonneg (by omega) (Int.mul_nonneg h3 h3)
        refine lt_of_sq i0 ?_
        rw [Int.mul_assoc] at h4 h2
        have : m * (p * p) ≤ n := by omega
        exact Int.lt_of_mul_lt_mul_left (show m * (p * p) < m * (i * i) by omega) (by omega)

end
section
variable {P : Program} {w : World} {K : PySem.W.Frag} {mg : Str → Option Value} {base : Heap} {a : Adr}
theorem pairs_pl (ws : List (Int × Int)) : D.plAll 1 (pairsD ws) = true := by
  induction ws with
  | nil => rfl
  | cons p ws ih =>
    simp only [pairsD, List.map_cons, D.plAll, Bool.and_eq_true]
    exact ⟨by simp [pairD, D.pl, D.plAll], ih⟩
theorem pairs_lpl (ws : List (Int × Int)) : (D.lst (pairsD ws)).pl 2 = true := by
  simp only [D.pl]; exact pairs_pl ws
theorem pairs_sh {ws : List (Int × Int)} (h : ws.length ≤ 1000000) : shD 2 (.lst (pairsD ws)) := by
  refine ⟨by simpa [pairsD] using h, fun d hd => ?_⟩
  obtain ⟨p, _, rfl⟩ := List.mem_map.mp hd
  refine ⟨le_lit rfl, fun c hc => ?_⟩
  simp at hc
  rcases hc with rfl | rfl <;> trivial
theorem pick_le {x lo hi : Int} (h : lo ≤ x ∧ x ≤ hi) : True := trivial
theorem mul_le2 {x y p q : Int} (hx : 0 ≤ x) (hy : 0 ≤ y) (h1 : x ≤ p) (h2 : y ≤ q) : x * y ≤ p * q := Int.mul_le_mul h1 h2 hy (by omega)
/-- one drawn pair of weights: what the law asks of it -/
theorem wtp_one {n : Int} (h1 : 1 ≤ n) (h2 : n ≤ 1000000) : WtP [n] := ⟨⟨by simp, by simp, fun k hk => by simp at hk; subst hk; omega⟩, by show 0 < 1 * n; omega⟩
theorem wtp_three {n : Int} (h1 : 1 ≤ n) (h2 : n ≤ 1000000) : WtP [n, -1, -2] := ⟨⟨by simp, by simp, fun k hk => by simp at hk; omega⟩, by show 0 < 1 * n * -1 * -2; omega⟩
theorem ways_short {m y n : Int} {ws : List (Int × Int)} (hm : 0 < m) (hy : 0 < y) (n1 : n ≤ 100000000) (h : Ways m y n ws) : ws.length ≤ 10001 := by
  have := ways_len (m := m) (y := y) (n := n) (i := 10001) h.up fun p hp => by
    have q := (h.mem p.1 p.2).mp hp
    refine ⟨q.1, ?_⟩
    have a1 : 0 ≤ y * p.2 * p.2 := by rw [Int.mul_assoc]; exact Int.mul_nonneg (by omega) (Int.mul_nonneg q.2.1 q.2.1)
    have := root_small hm q.1 (show m * p.1 * p.1 ≤ 100000000 by omega)
    omega
  omega
theorem prod1 (x : Int) : prodL [x] = x := by show 1 * x = x; omega
theorem prod3 (x : Int) : prodL [x, -1, -2] = 2 * x := by show 1 * x * -1 * -2 = 2 * x; omega
theorem brahm (a b c d y : Int) : (a * a + y * b * b) * (c * c + y * d * d) = (a * c - y * b * d) * (a * c - y * b * d) + y * (a * d + b * c) * (a * d + b * c) := by
  simp only [Int.mul_add, Int.add_mul, Int.mul_sub, Int.sub_mul, Int.mul_assoc, Int.mul_comm, Int.mul_left_comm]
  omega
theorem ok_law (C : Ctx K mg a) : FnAt P w K mg base CX0 7 "law" ["_law_script"] (SpP K (fun cells : List Int => [.rd (D.ints cells)]) (fun cells => cells.length ≤ 63) (fun _ d => d = .bl true)) := by
  refine fn_at C.d_law sc_law (fun _ => rfl) fun f cdv A outer s H E hr => ⟨_, (pss_cons (ps_set (i := 1) sc_law.nd rfl (by first | exact Or.inl rfl | exact Or.inr rfl) (pe_fn (ok__law_mix C) (hr.mono (by omega)) rfl (pa_cons (pv 0) (pa_cons pe_int pa_nil))))
    (pss_cons (ps_for PassesOwn.never rfl (pi_range1 rfl C.B.range (pa_cons pe_int pa_nil)) (pg_name (i := 2) sc_law.nd rfl (by first | exact Or.inl rfl | exact Or.inr rfl))
    (pss_cons (ps_asg (pe_fn (ok__law_pick C) (hr.mono (by omega)) rfl (pa_cons (pv 1) (pa_cons (pe_lst (pa_cons (pe_tup (pa_cons pe_int (pa_cons pe_int pa_nil))) (pa_cons (pe_tup (pa_cons pe_int (pa_cons pe_int pa_nil))) (pa_cons (pe_tup (pa_cons pe_int (pa_cons pe_int pa_nil))) pa_nil)))) pa_nil))) (pg_tup rfl (pgs_cons (pg_name (i := 10) sc_law.nd rfl (by first | exact Or.inl rfl | exact Or.inr rfl)) (pgs_cons (pg_name (i := 11) sc_law.nd rfl (by first | exact Or.inl rfl | exact Or.inr rfl)) pgs_nil))))
    (pss_cons (ps_par (i := 12) (j := 13) rfl sc_law.nd rfl rfl (by decide) rfl rfl (pa_cons (pe_tup (pa_cons (pe_op (op_gAdd (K := K)) pe_int (pe_fn (ok__law_next C) (hr.mono (by omega)) rfl (pa_cons (pv 1) (pa_cons (pv 10) pa_nil)))) pa_nil)) (pa_cons (pe_op (op_gAdd (K := K)) (pe_tup (pa_cons (pe_op (op_gAdd (K := K)) pe_int (pe_fn (ok__law_next C) (hr.mono (by omega)) rfl (pa_cons (pv 1) (pa_cons (pv 10) pa_nil)))) pa_nil)) (pe_fn (ok__law_pick C) (hr.mono (by omega)) rfl (pa_cons (pv 1) (pa_cons (pe_lst (pa_cons (pe_tup pa_nil) (pa_cons (pe_tup (pa_cons (pe_un un_neg pe_int) (pa_cons (pe_un un_neg pe_int) pa_nil))) pa_nil))) pa_nil)))) pa_nil)) rfl)
    (pss_cons (ps_par (i := 14) (j := 15) rfl sc_law.nd rfl rfl (by decide) rfl rfl (pa_cons (pe_fn (ok__law_product C) (hr.mono (by omega)) rfl (pa_cons (pv 12) pa_nil)) (pa_cons (pe_fn (ok__law_product C) (hr.mono (by omega)) rfl (pa_cons (pv 13) pa_nil)) pa_nil)) rfl)
    (pss_cons (ps_set (i := 5) sc_law.nd rfl (by first | exact Or.inl rfl | exact Or.inr rfl) (pe_op (op_gAdd (K := K)) (pe_op (op_gMul (K := K)) (pe_op (op_gMul (K := K)) (pv 14) (pe_fn (ok__law_next C) (hr.mono (by omega)) rfl (pa_cons (pv 1) (pa_cons (pv 11) pa_nil)))) (pe_fn (ok__law_next C) (hr.mono (by omega)) rfl (pa_cons (pv 1) (pa_cons (pv 11) pa_nil)))) (pe_op (op_gMul (K := K)) (pe_op (op_gMul (K := K)) (pv 15) (pe_fn (ok__law_next C) (hr.mono (by omega)) rfl (pa_cons (pv 1) (pa_cons (pv 11) pa_nil)))) (pe_fn (ok__law_next C) (hr.mono (by omega)) rfl (pa_cons (pv 1) (pa_cons (pv 11) pa_nil))))))
    (pss_cons (ps_if (pt_cmpR (op_gEq (K := K) (by exact hr.units)) (pe_fn (ok__law_next C) (hr.mono (by omega)) rfl (pa_cons (pv 1) (pa_cons pe_int pa_nil))) pe_int (nomark _))
    (pss_one (ps_set (i := 5) sc_law.nd rfl (by first | exact Or.inl rfl | exact Or.inr rfl) (pe_op (op_gAdd (K := K)) (pe_op (op_gMul (K := K)) (pe_op (op_gMul (K := K)) (pv 14) (pv 11)) (pv 11)) (pe_op (op_gMul (K := K)) (pe_op (op_gMul (K := K)) (pv 15) (pe_fn (ok__law_next C) (hr.mono (by omega)) rfl (pa_cons (pv 1) (pa_cons (pv 11) pa_nil)))) pe_int))))
    pss_nil)
    (pss_cons (ps_set (i := 6) sc_law.nd rfl (by first | exact Or.inl rfl | exact Or.inr rfl) (pe_fn (ok__law_ways C) (hr.mono (by omega)) rfl (pa_cons (pv 14) (pa_cons (pv 15) (pa_cons (pv 5) pa_nil)))))
    (pss_cons (ps_if (PW.pt (pw_or (pt_cmpR op_gGt (pv 5) (pe_op op_gPow pe_int pe_int) (nomark _)) (pw_or1 (pt_not (pt_val (pe_fn (ok__law_alike C 3 (by omega)) (hr.mono (by omega)) rfl (pa_cons (pe_fn (ok_ways C) (hr.mono (by omega)) rfl (pa_cons (pv 12) (pa_cons (pv 13) (pa_cons (pv 5) pa_nil)))) (pa_cons (pv 6) pa_nil))))))))
    (pss_one (ps_ret pe_bl))
    pss_nil)
    (pss_cons (ps_set (i := 7) sc_law.nd rfl (by first | exact Or.inl rfl | exact Or.inr rfl) (pe_sum (K := K) C.B.sum rfl rfl (pa_cons (pe_lc (own := [("_law_x", 17), ("_law_y", 18)]) (g := (gTup _ 2 (gCons (gName 17) (gCons (gName 18) gNil)))) (tt := tYes) rfl sc_law.nd (pi_seq (K := K) (pv 6)) (blkOk_by (N := n_law) (sc := defScope s_law) (by decide +kernel)) (fun _ _ _ _ _ => (pg_tup rfl (pgs_cons (pg_name (i := 17) sc_law.nd rfl (by first | exact Or.inl rfl | exact Or.inr rfl)) (pgs_cons (pg_name (i := 18) sc_law.nd rfl (by first | exact Or.inl rfl | exact Or.inr rfl)) pgs_nil)))) (fun _ _ _ _ _ => pts_nil) (fun _ _ _ _ _ => (pe_op (op_gMul (K := K)) (pe_ifExp (pt_cmpR (op_gEq (K := K) (by exact hr.units)) (pv 17) pe_int (nomark _)) pe_int pe_int) (pe_ifExp (pt_cmpR (op_gEq (K := K) (by exact hr.units)) (pv 18) pe_int (nomark _)) pe_int pe_int)))) pa_nil)))
    (pss_one (ps_if (pt_not (pt_val (pe_fn (ok__law_alike C 3 (by omega)) (hr.mono (by omega)) rfl (pa_cons (pe_fn (ok_count_ways C) (hr.mono (by omega)) rfl (pa_cons (pv 12) (pa_cons (pv 13) (pa_cons (pv 5) pa_nil)))) (pa_cons (pv 7) pa_nil)))))
    (pss_one (ps_ret pe_bl))
    pss_nil)))))))))))
    (pss_cons (ps_asg (pe_tup (pa_cons (pe_op (op_gAdd (K := K)) pe_int (pe_fn (ok__law_next C) (hr.mono (by omega)) rfl (pa_cons (pv 1) (pa_cons pe_int pa_nil)))) (pa_cons (pe_lc (own := [("_law_k", 16)]) (g := (gName 16)) (tt := tYes) rfl sc_law.nd (pi_range1 rfl C.B.range (pa_cons pe_int pa_nil)) (blkOk_by (N := n_law) (sc := defScope s_law) (by decide +kernel)) (fun _ _ _ _ _ => (pg_name (i := 16) sc_law.nd rfl (by first | exact Or.inl rfl | exact Or.inr rfl))) (fun _ _ _ _ _ => pts_nil) (fun _ _ _ _ _ => (pe_fn (ok__law_next C) (hr.mono (by omega)) rfl (pa_cons (pv 1) (pa_cons pe_int pa_nil))))) pa_nil))) (pg_tup rfl (pgs_cons (pg_name (i := 8) sc_law.nd rfl (by first | exact Or.inl rfl | exact Or.inr rfl)) (pgs_cons (pg_name (i := 9) sc_law.nd rfl (by first | exact Or.inl rfl | exact Or.inr rfl)) pgs_nil))))
    (pss_cons (ps_setLc (i := 3) (own := [("_law_k", 16)]) (g := (gName 16)) (tt := tYes) rfl sc_law.nd rfl rfl (sw_true rfl rfl rfl (by decide +kernel)) (pi_seq (K := K) (pe_lst (pa_cons pe_int (pa_cons pe_int pa_nil)))) (blkOk_by (N := n_law) (sc := defScope s_law) (by decide +kernel)) (fun _ _ _ _ _ => (pg_name (i := 16) sc_law.nd rfl (by first | exact Or.inl rfl | exact Or.inr rfl))) (fun _ _ _ _ _ => pts_nil) (fun _ _ _ _ _ => (pe_op (op_gAdd (K := K)) (pe_op (op_gMul (K := K)) (pe_ix (ix_any (K := K)) (pv 9) (pv 16) (fun _ _ => rfl)) (pe_ix (ix_any (K := K)) (pv 9) (pv 16) (fun _ _ => rfl))) (pe_op (op_gMul (K := K)) (pe_op (op_gMul (K := K)) (pv 8) (pe_ix (ix_any (K := K)) (pv 9) (pe_op (op_gAdd (K := K)) (pv 16) pe_int) (fun _ _ => rfl))) (pe_ix (ix_any (K := K)) (pv 9) (pe_op (op_gAdd (K := K)) (pv 16) pe_int) (fun _ _ => rfl))))))
    (pss_cons (ps_set (i := 4) sc_law.nd rfl (by first | exact Or.inl rfl | exact Or.inr rfl) (pe_tup (pa_cons (pe_abs C.B.abs rfl (pa_cons (pe_op op_gSub (pe_op (op_gMul (K := K)) (pe_ix (ix_any (K := K)) (pv 9) pe_int (fun _ _ => rfl)) (pe_ix (ix_any (K := K)) (pv 9) pe_int (fun _ _ => rfl))) (pe_op (op_gMul (K := K)) (pe_op (op_gMul (K := K)) (pv 8) (pe_ix (ix_any (K := K)) (pv 9) pe_int (fun _ _ => rfl))) (pe_ix (ix_any (K := K)) (pv 9) pe_int (fun _ _ => rfl)))) pa_nil)) (pa_cons (pe_op (op_gAdd (K := K)) (pe_op (op_gMul (K := K)) (pe_ix (ix_any (K := K)) (pv 9) pe_int (fun _ _ => rfl)) (pe_ix (ix_any (K := K)) (pv 9) pe_int (fun _ _ => rfl))) (pe_op (op_gMul (K := K)) (pe_ix (ix_any (K := K)) (pv 9) pe_int (fun _ _ => rfl)) (pe_ix (ix_any (K := K)) (pv 9) pe_int (fun _ _ => rfl)))) pa_nil))))
    (pss_cons (ps_if (pt_cmpR (op_gNotIn (K := K) (by exact units65 hr)) (pv 4) (pe_fn (ok_ways C) (hr.mono (by omega)) rfl (pa_cons (pe_tup (pa_cons pe_int pa_nil)) (pa_cons (pe_tup (pa_cons (pv 8) pa_nil)) (pa_cons (pe_op (op_gMul (K := K)) (pe_ix (ix_any (K := K)) (pv 3) pe_int (fun _ _ => rfl)) (pe_ix (ix_any (K := K)) (pv 3) pe_int (fun _ _ => rfl))) pa_nil)))) rfl)
    (pss_one (ps_ret pe_bl))
    pss_nil)
    (pss_one (ps_ret (pe_cmpR (op_gEq (K := K) (by exact hr.units)) (pe_op op_gMod (pe_fn (ok_count_ways C) (hr.mono (by omega)) rfl (pa_cons (pe_tup (pa_cons pe_int pa_nil)) (pa_cons (pe_tup (pa_cons pe_int pa_nil)) (pa_cons (pe_op (op_gMul (K := K)) pe_int (pe_op (op_gAdd (K := K)) pe_int (pe_fn (ok__law_next C) (hr.mono (by omega)) rfl (pa_cons (pv 1) (pa_cons pe_int pa_nil))))) pa_nil)))) pe_int) pe_int (nomark _)))))))))), fun cells e hp he => ?_⟩
  have hp : cells.length ≤ 63 := hp
  dsimp only [cxOf]
  walk_at "d"
  refine r_mix ?_
  walk_at "d"
  refine ⟨cells, 22, rfl, hp, by decide, by decide, ?_⟩
  walk_at "d"
  refine r_for [2] ?_
  refine ei_range1 ?_
  walk_at "d"
  refine ⟨3, rfl, by decide, by decide, fun i ρ M => ∃ o : Nat → Option Sl, ρ = [some (.v (.rd (D.ints cells))), some (.l 0), o 2, o 3, o 4, o 5, o 6, o 7, o 8, o 9, o 10, o 11, o 12, o 13, o 14, o 15, o 16, o 17, o 18] ∧ M = [.rng], ⟨fun _ => none, rfl, rfl⟩, ?_, ?_⟩
  · rintro i d ρ M hi ⟨o, rfl, rfl⟩
    walk_at "d"
    refine r_asgG (is := [10, 11]) ?_
    walk_at "d"
    refine ⟨_, 0, rfl, rfl, ⟨le_lit rfl, le_lit rfl⟩, fun d hd => ?_⟩
    obtain ⟨most, far, rfl, hmf⟩ : ∃ most far : Int, d = .tup [.int most, .int far] ∧ (most = 3 ∧ far = 40 ∨ most = 50 ∧ far = 40 ∨ most = 9 ∧ far = 700) := by
      simp only [List.mem_cons, List.not_mem_nil, or_false] at hd
      rcases hd with rfl | rfl | rfl
      · exact ⟨3, 40, rfl, .inl ⟨rfl, rfl⟩⟩
      · exact ⟨50, 40, rfl, .inr (.inl ⟨rfl, rfl⟩)⟩
      · exact ⟨9, 700, rfl, .inr (.inr ⟨rfl, rfl⟩)⟩
    have mb : 1 ≤ most ∧ most ≤ 50 := by omega
    have fb : 1 ≤ far ∧ far ≤ 700 := by omega
    refine ⟨_, rfl, ?_⟩
    walk_at "d"
    refine ⟨_, 0, rfl, rfl, ⟨by omega, lit_bit (by omega) (by decide)⟩, fun _ ⟨x1, e1, a1, b1⟩ => ?_⟩
    subst e1
    walk_at "d"
    refine ⟨_, 0, rfl, rfl, ⟨by omega, lit_bit (by omega) (by decide)⟩, fun _ ⟨x2, e2, a2, b2⟩ => ?_⟩
    subst e2
    walk_at "d"
    refine ⟨_, 0, rfl, rfl, ⟨le_lit rfl, le_lit rfl⟩, fun d hd => ?_⟩
    obtain ⟨ex, rfl, hex⟩ : ∃ ex : List Int, d = .tup (D.ints ex) ∧ (ex = [] ∨ ex = [-1, -2]) := by
      simp only [List.mem_cons, List.not_mem_nil, or_false] at hd
      rcases hd with rfl | rfl
      · exact ⟨[], rfl, .inl rfl⟩
      · exact ⟨[-1, -2], rfl, .inr rfl⟩
    refine g_addT (by rcases hex with rfl | rfl <;> exact le_lit rfl) ?_
    have w1 : WtP [1 + x1] := wtp_one (by omega) (by omega)
    obtain ⟨us, eus, w2, yv⟩ : ∃ us : List Int, [D.int (1 + x2)] ++ D.ints ex = D.ints us ∧ WtP us ∧ (prodL us = 1 + x2 ∨ prodL us = 2 * (1 + x2)) := by
      rcases hex with rfl | rfl
      · exact ⟨[1 + x2], rfl, wtp_one (by omega) (by omega), .inl (prod1 _)⟩
      · exact ⟨[1 + x2, -1, -2], rfl, wtp_three (by omega) (by omega), .inr (prod3 _)⟩
    rw [eus]
    walk_at "d"
    refine ⟨_, _, rfl, ?_⟩
    walk_at "d"
    refine ⟨(true, [1 + x1]), rfl, w1.pre, fun _ e3 => ?_⟩
    subst e3
    rw [prod1]
    walk_at "d"
    refine ⟨(true, us), rfl, w2.pre, fun _ e3 => ?_⟩
    subst e3
    dsimp only
    obtain ⟨m, hm⟩ : ∃ m, m = 1 + x1 := ⟨_, rfl⟩
    rw [← hm] at w1 ⊢
    generalize hy : prodL us = y at *
    have mm : 1 ≤ m ∧ m ≤ most := by omega
    have yy : 1 ≤ y ∧ y ≤ 2 * most := by omega
    walk_at "d"
    refine ⟨_, _, rfl, ?_⟩
    walk_at "d"
    refine r_asg ?_
    walk_at "d"
    refine ⟨_, 0, rfl, rfl, ⟨by omega, lit_bit (by omega) (by decide)⟩, fun _ ⟨x3, e3, a3, b3⟩ => ?_⟩
    subst e3
    walk_at "d"
    refine ⟨mulS (by omega) (lit_bit (by omega) (by decide)), ?_⟩
    walk_at "d"
    refine ⟨_, 0, rfl, rfl, ⟨by omega, lit_bit (by omega) (by decide)⟩, fun _ ⟨x4, e4, a4, b4⟩ => ?_⟩
    subst e4
    have c1 := mul_le2 (x := m) (y := x3) (by omega) (by omega) mm.2 (show x3 ≤ 700 by omega)
    have c1' : 0 ≤ m * x3 := Int.mul_nonneg (by omega) a3
    walk_at "d"
    refine ⟨mulS (by omega) (lit_bit (by omega) (by decide)), ?_⟩
    walk_at "d"
    refine ⟨_, 0, rfl, rfl, ⟨by omega, lit_bit (by omega) (by decide)⟩, fun _ ⟨x5, e5, a5, b5⟩ => ?_⟩
    subst e5
    walk_at "d"
    refine ⟨mulS (by omega) (lit_bit (by omega) (by decide)), ?_⟩
    walk_at "d"
    refine ⟨_, 0, rfl, rfl, ⟨by omega, lit_bit (by omega) (by decide)⟩, fun _ ⟨x6, e6, a6, b6⟩ => ?_⟩
    subst e6
    have c2 := mul_le2 (x := y) (y := x5) (by omega) (by omega) yy.2 (show x5 ≤ 700 by omega)
    have c2' : 0 ≤ y * x5 := Int.mul_nonneg (by omega) a5
    walk_at "d"
    refine ⟨mulS (by omega) (lit_bit (by omega) (by decide)), ?_⟩
    -- the number, by either way
    walk_at "n"
    refine r_via (fun ρ M => ∃ (n : Int) (o : Nat → Option Sl), ρ = [some (.v (.rd (D.ints cells))), some (.l 0), o 2, o 3, o 4, some (.v (.int n)), o 6, o 7, o 8, o 9, o 10, o 11, some (.v (wt [m])), some (.v (wt us)), some (.v (.int m)), some (.v (.int y)), o 16, o 17, o 18] ∧ M = [.rng] ∧ 0 ≤ n ∧ n ≤ 100000000) ?_ ?_
    · have d1 : m * x3 * x4 ≤ most * far * far := mul_le2 c1' (by omega) (mul_le2 (by omega) a3 mm.2 (by omega)) (by omega)
      have d2 : y * x5 * x6 ≤ 2 * most * far * far := mul_le2 c2' (by omega) (mul_le2 (by omega) a5 yy.2 (by omega)) (by omega)
      have d3 : most * far * far ≤ 4410000 := by rcases hmf with ⟨rfl, rfl⟩ | ⟨rfl, rfl⟩ | ⟨rfl, rfl⟩ <;> decide
      have d4 : 2 * most * far * far ≤ 8820000 := by rcases hmf with ⟨rfl, rfl⟩ | ⟨rfl, rfl⟩ | ⟨rfl, rfl⟩ <;> decide
      have d5 : 0 ≤ m * x3 * x4 := Int.mul_nonneg c1' a4
      have d6 : 0 ≤ y * x5 * x6 := Int.mul_nonneg c2' a6
      walk_at "d"
      refine ⟨_, 0, rfl, rfl, ⟨by omega, lit_bit (by omega) (by decide)⟩, fun _ ⟨x7, e7, a7, b7⟩ => ?_⟩
      subst e7
      walk_at "d"
      refine ite_dec (fun _ => ?_) (fun _ => ?_)
      · refine r_asg ?_
        have f1 : m * far ≤ most * far := mul_le2 (by omega) (by omega) mm.2 (by omega)
        have f1' : 0 ≤ m * far := Int.mul_nonneg (by omega) (by omega)
        have f2 : m * far * far ≤ most * far * far := mul_le2 f1' (by omega) f1 (by omega)
        have f2' : 0 ≤ m * far * far := Int.mul_nonneg f1' (by omega)
        have f3 : most * far ≤ 6300 := by rcases hmf with ⟨rfl, rfl⟩ | ⟨rfl, rfl⟩ | ⟨rfl, rfl⟩ <;> decide
        walk_at "d"
        refine ⟨mulS (by omega) (lit_bit (by omega) (by decide)), ?_⟩
        walk_at "d"
        refine ⟨mulS (by omega) (lit_bit (by omega) (by decide)), ?_⟩
        walk_at "d"
        refine ⟨_, 0, rfl, rfl, ⟨by omega, lit_bit (by omega) (by decide)⟩, fun _ ⟨x8, e8, a8, b8⟩ => ?_⟩
        subst e8
        have g1 : y * x8 ≤ 2 * most * far := mul_le2 (by omega) a8 yy.2 (by omega)
        have g1' : 0 ≤ y * x8 := Int.mul_nonneg (by omega) a8
        have g2 : 2 * most * far ≤ 12600 := by rcases hmf with ⟨rfl, rfl⟩ | ⟨rfl, rfl⟩ | ⟨rfl, rfl⟩ <;> decide
        walk_at "d"
        refine ⟨mulS (by omega) (lit_bit (by omega) (by decide)), ?_⟩
        walk_at "d"
        refine ⟨mulS (by omega) (lit_bit (by omega) (by decide)), ?_⟩
        walk_at "d"
        exact ⟨_, env_intro rfl ⟨rfl, by omega, by omega⟩⟩
      · walk_at "d"
        exact ⟨_, env_intro rfl ⟨rfl, by omega, by omega⟩⟩
    rintro ρ M ⟨n, o, rfl, rfl, n0, n1⟩
    walk_at "n"
    refine r_asg ?_
    walk_at "n"
    refine ⟨(m, y, n), rfl, ⟨by show 0 < m; omega, by show 0 < y; omega, by show m ≤ 1000000; omega, by show y ≤ 1000000; omega, n0, n1⟩, fun _ ⟨ws, e8, hw⟩ => ?_⟩
    subst e8
    have hw : Ways m y n ws := hw
    have hl := ways_short (m := m) (y := y) (by omega) (by omega) n1 hw
    walk_at "d"
    refine ite_dec (fun h => absurd (show (100000000 : Int) < n from h) (by omega)) (fun _ => ?_)
    walk_at "d"
    refine ⟨(([m], us), n), rfl, ⟨w1, w2, n0, n1⟩, fun _ ⟨ws', e9, hw'⟩ => ?_⟩
    have hw' : Ways m y n ws' := by rw [prod1, hy] at hw'; exact hw'
    have := hw'.uniq (by omega) hw
    subst this
    subst e9
    walk_at "d"
    refine ⟨.lst (pairsD ws'), rfl, ⟨2, rfl, pairs_lpl _, pairs_sh (by omega)⟩, fun _ e9 => ?_⟩
    subst e9
    refine ⟨_, rfl, iteF ?_⟩
    walk_at "d"
    refine r_asg ?_
    walk_at "d"
    refine ev_lc (ei_seqL ?_)
    walk_at "d"
    refine ⟨_, rfl, by simp only [pairsD, List.length_map]; omega, fun i acc => acc = D.ints ((ws'.take i).map wgt), rfl, ?_, ?_⟩
    · rintro i d acc hi rfl
      unfold pairsD at hi
      rw [List.getElem?_map] at hi
      obtain ⟨p, hpi, rfl⟩ := Option.map_eq_some_iff.mp hi
      refine eg_tup rfl ?_
      walk_at "d"
      refine fun σ α F H en S k kk => kk true F H .refl S ?_
      refine iteT ?_
      walk_at "d"
      have fin : ∀ x y : Int, x * y = wgt p → (∃ d', Sl.v (D.int (x * y)) = .v d' ∧ D.ints ((ws'.take i).map wgt) ++ [d'] = D.ints ((ws'.take (i + 1)).map wgt)) := fun x y e => by
        refine ⟨_, rfl, ?_⟩
        rw [take_snoc hpi, e]
        simp [D.ints]
      refine ite_dec (fun h => ?_) (fun h => ?_)
      · walk_at "d"
        refine ite_dec (fun h' => ?_) (fun h' => ?_)
        · walk_at "d"
          exact ⟨mulW (a := 60) (b := 60) (by decide) (by decide) (by decide), fin _ _ (by unfold wgt; rw [if_pos h, if_pos h'])⟩
        · walk_at "d"
          exact ⟨mulW (a := 60) (b := 60) (by decide) (by decide) (by decide), fin _ _ (by unfold wgt; rw [if_pos h, if_neg h'])⟩
      · walk_at "d"
        refine ite_dec (fun h' => ?_) (fun h' => ?_)
        · walk_at "d"
          exact ⟨mulW (a := 60) (b := 60) (by decide) (by decide) (by decide), fin _ _ (by unfold wgt; rw [if_neg h, if_pos h'])⟩
        · walk_at "d"
          exact ⟨mulW (a := 60) (b := 60) (by decide) (by decide) (by decide), fin _ _ (by unfold wgt; rw [if_neg h, if_neg h'])⟩
    rintro acc rfl
    walk_at "d"
    have el : (pairsD ws').length = ws'.length := by simp [pairsD]
    rw [el, List.take_length]
    refine ec_sum (ns := ws'.map wgt) .v ?_
    walk_at "d"
    refine ⟨(([m], us), n), rfl, ⟨w1, w2, n0, n1⟩, fun _ ⟨ws, e9, hw2⟩ => ?_⟩
    have hw2 : Ways m y n ws := by rw [prod1, hy] at hw2; exact hw2
    have := hw2.uniq (by omega) hw
    subst this
    subst e9
    walk_at "d"
    refine ⟨.int (wsum ws), rfl, ⟨2, rfl, rfl, trivial⟩, fun _ e9 => ?_⟩
    subst e9
    refine ⟨_, rfl, iteF ?_⟩
    walk_at "d"
    exact env_intro rfl rfl
  · rintro ρ M ⟨o, rfl, rfl⟩
    walk_at "n"
    refine r_asgG (is := [8, 9]) ?_
    walk_at "d"
    refine ⟨_, 0, rfl, rfl, ⟨by omega, lit_bit (by omega) (by decide)⟩, fun _ ⟨x1, e1, a1, b1⟩ => ?_⟩
    subst e1
    walk_at "d"
    refine ev_lc (ei_range1 ?_)
    walk_at "d"
    refine ⟨4, rfl, by decide, by decide, by rw [rangeD_len]; decide, fun i acc => ∃ ns : List Int, acc = D.ints ns ∧ ns.length = i ∧ ∀ n, n ∈ ns → 0 ≤ n ∧ n < 30, ⟨[], rfl, rfl, fun n h => by simp at h⟩, ?_, ?_⟩
    · rintro i d acc hi ⟨ns, rfl, hl, hb⟩
      walk_at "d"
      refine fun σ α F H en S k kk => kk true F H .refl S ?_
      refine iteT ?_
      walk_at "d"
      refine ⟨_, 0, rfl, rfl, ⟨by omega, lit_bit (by omega) (by decide)⟩, fun _ ⟨x2, e2, a2, b2⟩ => ?_⟩
      subst e2
      refine ⟨_, rfl, ns ++ [x2], by simp [D.ints], by simp [hl], fun n hn => ?_⟩
      rcases List.mem_append.mp hn with h | h
      · exact hb n h
      · simp at h; omega
    rintro acc ⟨ns, rfl, hl, hb⟩
    obtain ⟨p, q, r, s, rfl⟩ : ∃ p q r s, ns = [p, q, r, s] := by
      rw [rangeD_len] at hl
      match ns, hl with
      | [p, q, r, s], _ => exact ⟨p, q, r, s, rfl⟩
    have hp := hb p (by simp)
    have hq := hb q (by simp)
    have hr' := hb r (by simp)
    have hs := hb s (by simp)
    walk_at "d"
    refine ⟨_, rfl, ?_⟩
    walk_at "d"
    generalize hy : 1 + x1 = y
    have yb : 1 ≤ y ∧ y ≤ 9 := by omega
    have sqb : ∀ u : Int, 0 ≤ u ∧ u < 30 → 0 ≤ u * u ∧ u * u ≤ 841 := fun u hu => ⟨Int.mul_nonneg hu.1 hu.1, mul_le2 hu.1 hu.1 (show u ≤ 29 by omega) (show u ≤ 29 by omega)⟩
    have ysqb : ∀ u : Int, 0 ≤ u ∧ u < 30 → 0 ≤ y * u ∧ y * u ≤ 261 ∧ 0 ≤ y * u * u ∧ y * u * u ≤ 7569 := fun u hu => by
      have h1 : 0 ≤ y * u := Int.mul_nonneg (by omega) hu.1
      have h2 : y * u ≤ 9 * 29 := mul_le2 (by omega) hu.1 yb.2 (show u ≤ 29 by omega)
      have h3 : y * u * u ≤ 261 * 29 := mul_le2 h1 hu.1 (by omega) (show u ≤ 29 by omega)
      exact ⟨h1, by omega, Int.mul_nonneg h1 hu.1, by omega⟩
    -- the two sums
    refine r_asg ?_
    refine ev_lc (ei_seqL ?_)
    walk_at "d"
    have one : ∀ u v : Int, 0 ≤ u ∧ u < 30 → 0 ≤ v ∧ v < 30 → CMulW u u ∧ CMulW y v ∧ CMulW (y * v) v := fun u v hu hv => by
      have := ysqb v hv
      exact ⟨mulS (by omega) (lit_bit (by omega) (by decide)), mulS (by omega) (lit_bit (by omega) (by decide)), mulS (by omega) (lit_bit (by omega) (by decide))⟩
    refine ⟨_, rfl, le_lit rfl, fun i acc => acc = [D.int (p * p + y * q * q), D.int (r * r + y * s * s)].take i, rfl, ?_, ?_⟩
    · rintro i d acc hi rfl
      match i, hi with
      | 0, hi =>
        cases hi
        obtain ⟨o1, o2, o3⟩ := one p q hp hq
        walk_at "d"
        refine fun σ α F H en S k kk => kk true F H .refl S ?_
        refine iteT ?_
        walk_at "d"
        refine ⟨.int p, rfl, ?_⟩
        walk_at "d"
        refine ⟨.int p, rfl, ?_⟩
        walk_at "d"
        refine ⟨o1, ?_⟩
        walk_at "d"
        refine ⟨.int q, rfl, ?_⟩
        walk_at "d"
        refine ⟨o2, ?_⟩
        walk_at "d"
        refine ⟨.int q, rfl, ?_⟩
        walk_at "d"
        refine ⟨o3, ?_⟩
        walk_at "d"
        exact ⟨_, rfl, rfl⟩
      | 1, hi =>
        cases hi
        obtain ⟨o1, o2, o3⟩ := one r s hr' hs
        walk_at "d"
        refine fun σ α F H en S k kk => kk true F H .refl S ?_
        refine iteT ?_
        walk_at "d"
        refine ⟨.int r, rfl, ?_⟩
        walk_at "d"
        refine ⟨.int r, rfl, ?_⟩
        walk_at "d"
        refine ⟨o1, ?_⟩
        walk_at "d"
        refine ⟨.int s, rfl, ?_⟩
        walk_at "d"
        refine ⟨o2, ?_⟩
        walk_at "d"
        refine ⟨.int s, rfl, ?_⟩
        walk_at "d"
        refine ⟨o3, ?_⟩
        walk_at "d"
        exact ⟨_, rfl, rfl⟩
    rintro acc ea
    have ea : acc = [D.int (p * p + y * q * q), D.int (r * r + y * s * s)] := ea
    subst ea
    walk_at "d"
    have pb : ∀ u v : Int, 0 ≤ u ∧ u < 30 → 0 ≤ v ∧ v < 30 → CMulW u v := fun u v hu hv => mulS (by omega) (lit_bit (by omega) (by decide))
    refine r_asg ?_
    walk_at "d"
    refine ⟨.int p, rfl, ?_⟩
    walk_at "d"
    refine ⟨.int r, rfl, ?_⟩
    walk_at "d"
    refine ⟨pb p r hp hr', ?_⟩
    walk_at "d"
    refine ⟨.int q, rfl, ?_⟩
    walk_at "d"
    have yq := ysqb q hq
    refine ⟨mulS (by omega) (lit_bit (by omega) (by decide)), ?_⟩
    walk_at "d"
    refine ⟨.int s, rfl, ?_⟩
    walk_at "d"
    refine ⟨mulS (by omega) (lit_bit (by omega) (by decide)), ?_⟩
    walk_at "d"
    refine ⟨.int p, rfl, ?_⟩
    walk_at "d"
    refine ⟨.int s, rfl, ?_⟩
    walk_at "d"
    refine ⟨pb p s hp hs, ?_⟩
    walk_at "d"
    refine ⟨.int q, rfl, ?_⟩
    walk_at "d"
    refine ⟨.int r, rfl, ?_⟩
    walk_at "d"
    refine ⟨pb q r hq hr', ?_⟩
    walk_at "d"
    refine ⟨.int (p * p + y * q * q), rfl, ?_⟩
    walk_at "d"
    refine ⟨.int (r * r + y * s * s), rfl, ?_⟩
    walk_at "d"
    have sp := sqb p hp
    have sr := sqb r hr'
    have ys := ysqb s hs
    refine ⟨mulS (by omega) (lit_bit (by omega) (by decide)), ?_⟩
    have nb : (p * p + y * q * q) * (r * r + y * s * s) ≤ 8410 * 8410 := mul_le2 (by omega) (by omega) (by omega) (by omega)
    have n0 : 0 ≤ (p * p + y * q * q) * (r * r + y * s * s) := Int.mul_nonneg (by omega) (by omega)
    walk_at "d"
    refine ⟨(([1], [y]), (p * p + y * q * q) * (r * r + y * s * s)), rfl, ⟨wtp_one (by decide) (by decide), wtp_one (by omega) (by omega), n0, by show (p * p + y * q * q) * (r * r + y * s * s) ≤ 100000000; omega⟩, fun _ ⟨ws, e2, hw⟩ => ?_⟩
    subst e2
    have hw : Ways 1 y ((p * p + y * q * q) * (r * r + y * s * s)) ws := by rw [show prodL [1] = 1 from rfl, prod1] at hw; exact hw
    generalize ht : p * r - y * q * s = t
    generalize hz : p * s + q * r = z
    have z0 : 0 ≤ z := by
      have := Int.mul_nonneg hp.1 hs.1
      have := Int.mul_nonneg hq.1 hr'.1
      omega
    have br : 1 * (if t < 0 then -t else t) * (if t < 0 then -t else t) + y * z * z = (p * p + y * q * q) * (r * r + y * s * s) := by
      have := brahm p q r s y
      rw [ht, hz] at this
      rw [this, Int.one_mul]
      by_cases h : t < 0
      · rw [if_pos h, Int.neg_mul_neg]
      · rw [if_neg h]
    have t0 : 0 ≤ (if t < 0 then -t else t) := by split <;> omega
    have hin := (hw.mem _ _).mpr ⟨t0, z0, br⟩
    refine g_notInD 2 rfl (pairs_lpl ws) (by decide) ?_
    have any : ((pairsD ws).any fun c => c.eqv (.tup [D.int (if t < 0 then -t else t), D.int z])) = true := by
      rw [List.any_eq_true]
      exact ⟨_, List.mem_map.mpr ⟨_, hin, rfl⟩, eqv_refl (n := 1) rfl⟩
    rw [any]
    walk_at "d"
    refine iteF ?_
    walk_at "d"
    refine ⟨_, 0, rfl, rfl, ⟨by omega, lit_bit (by omega) (by decide)⟩, fun _ ⟨x9, e9, a9, b9⟩ => ?_⟩
    subst e9
    walk_at "d"
    refine ⟨mulS (by decide) (lit_bit (by omega) (by decide)), ?_⟩
    walk_at "d"
    refine ⟨(([1], [1]), 10 * (1 + x9)), rfl, ⟨wtp_one (by decide) (by decide), wtp_one (by decide) (by decide), by show 0 ≤ 10 * (1 + x9); omega, by show 10 * (1 + x9) ≤ 100000000; omega⟩, fun _ ⟨us, e2, hu⟩ => ?_⟩
    subst e2
    have hu : Ways 1 1 (10 * (1 + x9)) us := hu
    walk_at "d"
    refine ret_v ?_
    rw [wsum_four (by omega) hu]
    rfl

end
end T
open PySem PySem.W PyProof.Rows
set_option maxRecDepth 100000 in
set_option maxHeartbeats 0 in
theorem PySem.Challenge.cw_squareweights_k22_whole_ways_holds : PySem.Challenge.rw_squareweights_k22_whole_ways.Holds := by
  w_on; o_law; k_head; (case hw => w_witness2)
  k_fill
  refine DL.walk_ofX (l := PySem.Challenge.rw_squareweights_k22_whole_ways) (n := 63) (k := 7) (x := "_law_script") (sp := DL.SpLaw) rfl (by decide) rfl ⟨rfl, by decide, by decide⟩ (fun w h Y => PySem.W.kIn_of Y) ?F (fun K H a ns h s => DL.spLaw_of h s)
  case F =>
    intro w mg fa h KX G X hmg
    have b_range : mg "range" = none := by
      refine' PySem.W.mg_none_of KX G ?z
      (case z => k_is)
    have b_len : mg "len" = none := by
      refine' PySem.W.mg_none_of KX G ?z
      (case z => k_is)
    have b_abs : mg "abs" = none := by
      refine' PySem.W.mg_none_of KX G ?z
      (case z => k_is)
    have b_max : mg "max" = none := by
      refine' PySem.W.mg_none_of KX G ?z
      (case z => k_is)
    have b_min : mg "min" = none := by
      refine' PySem.W.mg_none_of KX G ?z
      (case z => k_is)
    have b_sum : mg "sum" = none := by
      refine' PySem.W.mg_none_of KX G ?z
      (case z => k_is)
    have b_any : mg "any" = none := by
      refine' PySem.W.mg_none_of KX G ?z
      (case z => k_is)
    have b_all : mg "all" = none := by
      refine' PySem.W.mg_none_of KX G ?z
      (case z => k_is)
    have b_int : mg "int" = none := by
      refine' PySem.W.mg_none_of KX G ?z
      (case z => k_is)
    have b_str : mg "str" = none := by
      refine' PySem.W.mg_none_of KX G ?z
      (case z => k_is)
    have b_tuple : mg "tuple" = none := by
      refine' PySem.W.mg_none_of KX G ?z
      (case z => k_is)
    have b_list : mg "list" = none := by
      refine' PySem.W.mg_none_of KX G ?z
      (case z => k_is)
    have b_bool : mg "bool" = none := by
      refine' PySem.W.mg_none_of KX G ?z
      (case z => k_is)
    have b_set : mg "set" = none := by
      refine' PySem.W.mg_none_of KX G ?z
      (case z => k_is)
    have b_sorted : mg "sorted" = none := by
      refine' PySem.W.mg_none_of KX G ?z
      (case z => k_is)
    have b_zip : mg "zip" = none := by
      refine' PySem.W.mg_none_of KX G ?z
      (case z => k_is)
    have b_enumerate : mg "enumerate" = none := by
      refine' PySem.W.mg_none_of KX G ?z
      (case z => k_is)
    have b_isinstance : mg "isinstance" = none := by
      refine' PySem.W.mg_none_of KX G ?z
      (case z => k_is)
    have B : DL.Blt mg := ⟨b_range, b_len, b_abs, b_max, b_min, b_sum, b_any, b_all, b_int, b_str, b_tuple, b_list, b_bool, b_set, b_sorted, b_zip, b_enumerate, b_isinstance⟩
    have c_MOST_PART : DL.CInt mg "MOST_PART" 1000000 := DL.loose_int X (by simp)
    have c_MOST_PARTS : DL.CInt mg "MOST_PARTS" 5 := by
      refine' DL.cint_mk KX G ?a
      (case a => k_is)
    refine' DL.def_k (x := "is_integer") (st := T.s_is_integer) (ps := ["thing", "low", "high"]) KX G ?a3 ?l3 ?c3 ?k3 ?b3 ?z3
    (case a3 => k_is); (case l3 => k_is); (case c3 => k_is); (case k3 => k_is)
    (case b3 => exact fun _ _ _ _ _ _ us hl => match us, hl with | [_, _, _], _ => rfl)
    intro d_is_integer
    refine' DL.def_k (x := "is_weight") (st := T.s_is_weight) (ps := ["thing"]) KX G ?a4 ?l4 ?c4 ?k4 ?b4 ?z4
    (case a4 => k_is); (case l4 => k_is); (case c4 => k_is); (case k4 => k_is)
    (case b4 => exact fun _ _ _ _ _ _ us hl => match us, hl with | [_], _ => rfl)
    intro d_is_weight
    refine' DL.def_k (x := "check_weight") (st := T.s_check_weight) (ps := ["thing"]) KX G ?a5 ?l5 ?c5 ?k5 ?b5 ?z5
    (case a5 => k_is); (case l5 => k_is); (case c5 => k_is); (case k5 => k_is)
    (case b5 => exact fun _ _ _ _ _ _ us hl => match us, hl with | [_], _ => rfl)
    intro d_check_weight
    refine' DL.def_k (x := "product") (st := T.s_product) (ps := ["numbers"]) KX G ?a6 ?l6 ?c6 ?k6 ?b6 ?z6
    (case a6 => k_is); (case l6 => k_is); (case c6 => k_is); (case k6 => k_is)
    (case b6 => exact fun _ _ _ _ _ _ us hl => match us, hl with | [_], _ => rfl)
    intro d_product
    refine' DL.def_k (x := "sign_of") (st := T.s_sign_of) (ps := ["weight"]) KX G ?a7 ?l7 ?c7 ?k7 ?b7 ?z7
    (case a7 => k_is); (case l7 => k_is); (case c7 => k_is); (case k7 => k_is)
    (case b7 => exact fun _ _ _ _ _ _ us hl => match us, hl with | [_], _ => rfl)
    intro d_sign_of
    have c_MOST_SUM : DL.CInt mg "MOST_SUM" 100000000 := DL.loose_int X (by simp)
    refine' DL.def_k (x := "check_two") (st := T.s_check_two) (ps := ["one", "other"]) KX G ?a9 ?l9 ?c9 ?k9 ?b9 ?z9
    (case a9 => k_is); (case l9 => k_is); (case c9 => k_is); (case k9 => k_is)
    (case b9 => exact fun _ _ _ _ _ _ us hl => match us, hl with | [_, _], _ => rfl)
    intro d_check_two
    refine' DL.def_k (x := "root_below") (st := T.s_root_below) (ps := ["number"]) KX G ?a10 ?l10 ?c10 ?k10 ?b10 ?z10
    (case a10 => k_is); (case l10 => k_is); (case c10 => k_is); (case k10 => k_is)
    (case b10 => exact fun _ _ _ _ _ _ us hl => match us, hl with | [_], _ => rfl)
    intro d_root_below
    refine' DL.def_k (x := "ways_by") (st := T.s_ways_by) (ps := ["mine", "yours", "number"]) KX G ?a11 ?l11 ?c11 ?k11 ?b11 ?z11
    (case a11 => k_is); (case l11 => k_is); (case c11 => k_is); (case k11 => k_is)
    (case b11 => exact fun _ _ _ _ _ _ us hl => match us, hl with | [_, _, _], _ => rfl)
    intro d_ways_by
    refine' DL.def_k (x := "check_asked") (st := T.s_check_asked) (ps := ["one", "other", "number", "low", "high"]) KX G ?a12 ?l12 ?c12 ?k12 ?b12 ?z12
    (case a12 => k_is); (case l12 => k_is); (case c12 => k_is); (case k12 => k_is)
    (case b12 => exact fun _ _ _ _ _ _ us hl => match us, hl with | [_, _, _, _, _], _ => rfl)
    intro d_check_asked
    refine' DL.def_k (x := "ways") (st := T.s_ways) (ps := ["one", "other", "number"]) KX G ?a13 ?l13 ?c13 ?k13 ?b13 ?z13
    (case a13 => k_is); (case l13 => k_is); (case c13 => k_is); (case k13 => k_is)
    (case b13 => exact fun _ _ _ _ _ _ us hl => match us, hl with | [_, _, _], _ => rfl)
    intro d_ways
    refine' DL.def_k (x := "count_ways") (st := T.s_count_ways) (ps := ["one", "other", "number"]) KX G ?a14 ?l14 ?c14 ?k14 ?b14 ?z14
    (case a14 => k_is); (case l14 => k_is); (case c14 => k_is); (case k14 => k_is)
    (case b14 => exact fun _ _ _ _ _ _ us hl => match us, hl with | [_, _, _], _ => rfl)
    intro d_count_ways
    refine' DL.def_k (x := "_law_mix") (st := T.s__law_mix) (ps := ["_law_script", "_law_seed"]) KX G ?a15 ?l15 ?c15 ?k15 ?b15 ?z15
    (case a15 => k_is); (case l15 => k_is); (case c15 => k_is); (case k15 => k_is)
    (case b15 => exact fun _ _ _ _ _ _ us hl => match us, hl with | [_, _], _ => rfl)
    intro d__law_mix
    refine' DL.def_k (x := "_law_next") (st := T.s__law_next) (ps := ["_law_h", "_law_cap"]) KX G ?a16 ?l16 ?c16 ?k16 ?b16 ?z16
    (case a16 => k_is); (case l16 => k_is); (case c16 => k_is); (case k16 => k_is)
    (case b16 => exact fun _ _ _ _ _ _ us hl => match us, hl with | [_, _], _ => rfl)
    intro d__law_next
    refine' DL.def_k (x := "_law_alike") (st := T.s__law_alike) (ps := ["_law_found", "_law_due"]) KX G ?a17 ?l17 ?c17 ?k17 ?b17 ?z17
    (case a17 => k_is); (case l17 => k_is); (case c17 => k_is); (case k17 => k_is)
    (case b17 => exact fun _ _ _ _ _ _ us hl => match us, hl with | [_, _], _ => rfl)
    intro d__law_alike
    refine' DL.def_k (x := "_law_pick") (st := T.s__law_pick) (ps := ["_law_h", "_law_things"]) KX G ?a18 ?l18 ?c18 ?k18 ?b18 ?z18
    (case a18 => k_is); (case l18 => k_is); (case c18 => k_is); (case k18 => k_is)
    (case b18 => exact fun _ _ _ _ _ _ us hl => match us, hl with | [_, _], _ => rfl)
    intro d__law_pick
    refine' DL.def_k (x := "_law_product") (st := T.s__law_product) (ps := ["_law_numbers"]) KX G ?a19 ?l19 ?c19 ?k19 ?b19 ?z19
    (case a19 => k_is); (case l19 => k_is); (case c19 => k_is); (case k19 => k_is)
    (case b19 => exact fun _ _ _ _ _ _ us hl => match us, hl with | [_], _ => rfl)
    intro d__law_product
    refine' DL.def_k (x := "_law_ways") (st := T.s__law_ways) (ps := ["_law_one", "_law_other", "_law_number"]) KX G ?a20 ?l20 ?c20 ?k20 ?b20 ?z20
    (case a20 => k_is); (case l20 => k_is); (case c20 => k_is); (case k20 => k_is)
    (case b20 => exact fun _ _ _ _ _ _ us hl => match us, hl with | [_, _, _], _ => rfl)
    intro d__law_ways
    refine' DL.def_k (x := "law") (st := T.s_law) (ps := ["_law_script"]) KX G ?a21 ?l21 ?c21 ?k21 ?b21 ?z21
    (case a21 => k_is); (case l21 => k_is); (case c21 => k_is); (case k21 => k_is)
    (case b21 => exact fun _ _ _ _ _ _ us hl => match us, hl with | [_], _ => rfl)
    intro d_law
    have C : T.Ctx _ mg ⟨0, 0, 0⟩ := ⟨B, c_MOST_PART, c_MOST_PARTS, d_is_integer, d_is_weight, d_check_weight, d_product, d_sign_of, c_MOST_SUM, d_check_two, d_root_below, d_ways_by, d_check_asked, d_ways, d_count_ways, d__law_mix, d__law_next, d__law_alike, d__law_pick, d__law_product, d__law_ways, d_law⟩
    exact DL.law_end (fun base X' G' => T.ok_law C) KX G hmg

