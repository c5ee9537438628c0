import PyProof.Rows.All
import Wide.All
import OpenK.AllK
import Wide.FinOn
import HandS.ForMost
import HandS.Wide
import HandS.TupAny
import HandS.IsInst
import HandS.TupMul
import HandS.Property
import HandS.Style
import HandS.Deep
import KE.GoesNew
import HandS.SetFor
import HandS.SortInts
import HandS.Conv
import KE.DataCmp
import KE.DataMinMax
import PySem.Challenge.RW_squareweights_k13_whole_small_answers
set_option Elab.async false
set_option linter.all false
set_option autoImplicit false
set_option maxRecDepth 100000
set_option maxHeartbeats 4000000
/-! DL: readings over plain data; the heap hidden. -/
namespace DL
open PySem L2

/-- plain data: what a value is, down to its leaves -/
inductive D where
  | raw (v : V)
  | tup (xs : List D)
  | lst (xs : List D)
  | dic (ks : List Key) (vs : List D)
  | ins (C : Addr) (ns : List Str) (vs : List D)
  | rd (xs : List D)
abbrev D.int (i : Int) : D := .raw (.int i)
abbrev D.bl (b : Bool) : D := .raw (.bl b)
abbrev D.non : D := .raw .non
abbrev D.str (s : Str) : D := .raw (.str s)
abbrev D.ints (ns : List Int) : List D := ns.map D.int

section
variable (K : PySem.W.Frag)
mutual
def Den (F : Hp) : D → V → Prop
  | .raw v, x => x = v
  | .tup ds, x => ∃ a vs, x = .ref a ∧ SqT K F a vs ∧ Dens F ds vs
  | .lst ds, x => ∃ a vs, x = .ref a ∧ F a = some (.lst vs) ∧ Dens F ds vs
  | .dic ks ds, x => ∃ a vs, x = .ref a ∧ F a = some (.dK (ks.zip vs)) ∧ ks.length = vs.length ∧ Dens F ds vs
  | .ins C ns ds, x => ∃ a dx vs, x = .ref a ∧ F a = some (.ins C dx (ns.zip vs)) ∧ ns.length = vs.length ∧ Dens F ds vs
  | .rd ds, x => ∃ a vs, x = .ref a ∧ SqL K F a vs ∧ Dens F ds vs
def Dens (F : Hp) : List D → List V → Prop
  | [], vs => vs = []
  | d :: ds, vs => ∃ v r, vs = v :: r ∧ Den F d v ∧ Dens F ds r
end

theorem sqt_same {F F' : Hp} {a : Addr} {xs : List V} (e : Same F F') (h : SqT K F a xs) : SqT K F' a xs := by
  rcases h with (h | ⟨o, h⟩) | h
  · exact .inl (.inl (e _ _ h))
  · exact .inl (.inr ⟨o, e _ _ h⟩)
  · exact .inr h
mutual
theorem Den.mono {F F' : Hp} (e : Same F F') : ∀ (d : D) (x : V), Den K F d x → Den K F' d x
  | .raw v, x, h => h
  | .tup ds, x, h => by
    obtain ⟨a, vs, h1, h2, h3⟩ := h
    exact ⟨a, vs, h1, sqt_same K e h2, Dens.mono e ds vs h3⟩
  | .lst ds, x, h => by
    obtain ⟨a, vs, h1, h2, h3⟩ := h
    exact ⟨a, vs, h1, e _ _ h2, Dens.mono e ds vs h3⟩
  | .dic ks ds, x, h => by
    obtain ⟨a, vs, h1, h2, h4, h3⟩ := h
    exact ⟨a, vs, h1, e _ _ h2, h4, Dens.mono e ds vs h3⟩
  | .ins C ns ds, x, h => by
    obtain ⟨a, dx, vs, h1, h2, h4, h3⟩ := h
    exact ⟨a, dx, vs, h1, e _ _ h2, h4, Dens.mono e ds vs h3⟩
  | .rd ds, x, h => by
    obtain ⟨a, vs, h1, h2, h3⟩ := h
    exact ⟨a, vs, h1, e.seq h2, Dens.mono e ds vs h3⟩
theorem Dens.mono {F F' : Hp} (e : Same F F') : ∀ (ds : List D) (vs : List V), Dens K F ds vs → Dens K F' ds vs
  | [], vs, h => h
  | d :: ds, vs, h => by
    obtain ⟨v, r, h1, h2, h3⟩ := h
    exact ⟨v, r, h1, Den.mono e d v h2, Dens.mono e ds r h3⟩
end
variable {K}
theorem Dens.nil {F : Hp} : Dens K F [] [] := rfl
theorem Dens.cons {F : Hp} {d : D} {ds : List D} {v : V} {vs : List V} (h : Den K F d v) (t : Dens K F ds vs) : Dens K F (d :: ds) (v :: vs) := ⟨v, vs, rfl, h, t⟩
theorem Dens.length {F : Hp} : ∀ {ds : List D} {vs : List V}, Dens K F ds vs → ds.length = vs.length
  | [], _, h => by
    have h : _ = [] := h
    subst h; rfl
  | d :: ds, _, h => by
    obtain ⟨v, r, rfl, _, h3⟩ := h
    simp [Dens.length h3]
theorem Dens.get {F : Hp} : ∀ {ds : List D} {vs : List V} {i : Nat} {d : D}, Dens K F ds vs → ds[i]? = some d → ∃ v, vs[i]? = some v ∧ Den K F d v
  | [], _, _, _, _, e => by simp at e
  | d :: ds, _, 0, _, h, e => by
    obtain ⟨v, r, rfl, h2, h3⟩ := h
    simp at e; subst e
    exact ⟨v, rfl, h2⟩
  | d :: ds, _, i + 1, _, h, e => by
    obtain ⟨v, r, rfl, h2, h3⟩ := h
    obtain ⟨u, q, hu⟩ := Dens.get (i := i) h3 (by simpa using e)
    exact ⟨u, by simpa using q, hu⟩
theorem Dens.get' {F : Hp} : ∀ {ds : List D} {vs : List V} {i : Nat} {v : V}, Dens K F ds vs → vs[i]? = some v → ∃ d, ds[i]? = some d ∧ Den K F d v
  | [], _, _, _, h, e => by
    have h : _ = [] := h
    subst h; simp at e
  | d :: ds, _, 0, _, h, e => by
    obtain ⟨v, r, rfl, h2, h3⟩ := h
    simp at e; subst e
    exact ⟨d, rfl, h2⟩
  | d :: ds, _, i + 1, _, h, e => by
    obtain ⟨v, r, rfl, h2, h3⟩ := h
    obtain ⟨u, q, hu⟩ := Dens.get' (i := i) h3 (by simpa using e)
    exact ⟨u, by simpa using q, hu⟩
theorem Dens.append {F : Hp} : ∀ {ds es : List D} {vs us : List V}, Dens K F ds vs → Dens K F es us → Dens K F (ds ++ es) (vs ++ us)
  | [], _, _, _, h, k => by
    have h : _ = [] := h
    subst h; exact k
  | d :: ds, _, _, _, h, k => by
    obtain ⟨v, r, rfl, h2, h3⟩ := h
    exact ⟨v, r ++ _, rfl, h2, Dens.append h3 k⟩
theorem Dens.drop {F : Hp} : ∀ (n : Nat) {ds : List D} {vs : List V}, Dens K F ds vs → Dens K F (ds.drop n) (vs.drop n)
  | 0, _, _, h => h
  | n + 1, [], _, h => by
    have h : _ = [] := h
    subst h; exact rfl
  | n + 1, d :: ds, _, h => by
    obtain ⟨v, r, rfl, h2, h3⟩ := h
    exact Dens.drop n h3
theorem Dens.take {F : Hp} : ∀ (n : Nat) {ds : List D} {vs : List V}, Dens K F ds vs → Dens K F (ds.take n) (vs.take n)
  | 0, _, _, h => rfl
  | n + 1, [], _, h => by
    have h : _ = [] := h
    subst h; exact rfl
  | n + 1, d :: ds, _, h => by
    obtain ⟨v, r, rfl, h2, h3⟩ := h
    exact ⟨v, r.take n, rfl, h2, Dens.take n h3⟩
theorem Dens.set {F : Hp} {d : D} {v : V} (hd : Den K F d v) : ∀ (i : Nat) {ds : List D} {vs : List V}, Dens K F ds vs → Dens K F (ds.set i d) (vs.set i v)
  | _, [], _, h => by
    have h : _ = [] := h
    subst h; exact rfl
  | 0, d' :: ds, _, h => by
    obtain ⟨u, r, rfl, h2, h3⟩ := h
    exact ⟨v, r, rfl, hd, h3⟩
  | i + 1, d' :: ds, _, h => by
    obtain ⟨u, r, rfl, h2, h3⟩ := h
    exact ⟨u, r.set i v, rfl, h2, Dens.set hd i h3⟩
theorem Dens.raws {F : Hp} : ∀ {xs : List V}, Dens K F (xs.map D.raw) xs
  | [] => rfl
  | x :: xs => ⟨x, xs, rfl, rfl, Dens.raws⟩
theorem Dens.ofRaws {F : Hp} : ∀ {xs : List V} {vs : List V}, Dens K F (xs.map D.raw) vs → vs = xs
  | [], _, h => h
  | x :: xs, _, h => by
    obtain ⟨v, r, rfl, h2, h3⟩ := h
    have h2 : v = x := h2
    rw [h2, Dens.ofRaws h3]
theorem Dens.ofInts {F : Hp} {ns : List Int} {vs : List V} (h : Dens K F (D.ints ns) vs) : vs = ns.map V.int := by
  have e : D.ints ns = (ns.map V.int).map D.raw := by simp [D.ints, Function.comp_def]
  rw [e] at h
  exact h.ofRaws
theorem Dens.replicate {F : Hp} {d : D} {v : V} (h : Den K F d v) : ∀ n : Nat, Dens K F (List.replicate n d) (List.replicate n v)
  | 0 => rfl
  | n + 1 => ⟨v, List.replicate n v, rfl, h, Dens.replicate h n⟩
end

/-! ### what may change: numbered things, each at an address (two, for the source of draws) -/
inductive MO where
  | lst (ds : List D)
  | dic (ks : List Key) (vs : List D)
  | ins (C : Addr) (ns : List Str) (vs : List D)
  | rng
  | dead
  | frz (d : Addr) (od : Obj) (kvs : List (Key × V)) (ks : List Key) (ds : List D)
  | pin (a : Addr) (ds : List D)
abbrev Al := List (Addr × Addr)
/-- the source of draws as it stands -/
def Rng (H : Hp) (p : Addr × Addr) : Prop := ∃ (s i : Int) (cells : List Int), p.1 ≠ p.2 ∧ H p.1 = some (.lst [.int s, .ref p.2, .int i]) ∧ H p.2 = some (.lst (cells.map V.int)) ∧
  0 ≤ s ∧ s < 2147483647 ∧ cells.length ≤ 63 ∧ 0 ≤ i
section
variable (K : PySem.W.Frag)
def MObj (F H : Hp) : MO → Addr × Addr → Prop
  | .lst ds, p => F p.1 = none ∧ ∃ vs, H p.1 = some (.lst vs) ∧ Dens K F ds vs
  | .dic ks ds, p => F p.1 = none ∧ ∃ vs, H p.1 = some (.dK (ks.zip vs)) ∧ ks.length = vs.length ∧ Dens K F ds vs
  | .ins C ns ds, p => F p.1 = none ∧ ∃ dx vs, H p.1 = some (.ins C dx (ns.zip vs)) ∧ ns.length = vs.length ∧ Dens K F ds vs
  | .rng, p => F p.1 = none ∧ F p.2 = none ∧ Rng H p
  | .dead, _ => True
  | .frz d od kvs ks ds, p => F p.1 = none ∧ p.1 = d ∧ H p.1 = some (.frz od (.dK kvs)) ∧ ∃ vs, kvs = ks.zip vs ∧ ks.length = vs.length ∧ Dens K F ds vs
  | .pin a ds, p => F p.1 = none ∧ p.1 = a ∧ ∃ vs, H p.1 = some (.lst vs) ∧ Dens K F ds vs
def Apart (p q : Addr × Addr) : Prop := p.1 ≠ q.1 ∧ p.1 ≠ q.2 ∧ p.2 ≠ q.1 ∧ p.2 ≠ q.2
structure Sta (α : Al) (M : List MO) (F H : Hp) : Prop where
  sub : Same F H
  len : M.length = α.length
  ob : ∀ (i : Nat) m p, M[i]? = some m → α[i]? = some p → MObj K F H m p
  ap : ∀ (i j : Nat) p q, i < j → α[i]? = some p → α[j]? = some q → Apart p q
  tr : ∀ p, p ∈ α → H p.1 ≠ none ∧ H p.2 ≠ none
/-- a slot: data, or the k-th thing -/
inductive Sl where
  | v (d : D)
  | l (k : Nat)
def SlOk (α : Al) (F : Hp) : Sl → V → Prop
  | .v d, x => Den K F d x
  | .l k, x => ∃ p, α[k]? = some p ∧ x = .ref p.1
abbrev Rho := List (Option Sl)
structure EnvOk (α : Al) (F : Hp) (σ : L2.St) (ρ : Rho) : Prop where
  len : σ.length = ρ.length
  at' : ∀ (i : Nat) s, ρ[i]? = some (some s) → ∃ v, σ[i]? = some (some v) ∧ SlOk K α F s v
/-- from one heap to a later one: all but the numbered things as it was -/
structure Move (α : Al) (F H F' H' : Hp) : Prop where
  ex : Same F F'
  fr : ∀ b o, H b = some o → (∀ p, p ∈ α → b ≠ p.1 ∧ b ≠ p.2) → H' b = some o
  tr : ∀ b, H b ≠ none → H' b ≠ none
  new : ∀ b, F' b ≠ none → F b ≠ none ∨ H b = none
end
theorem Move.refl {α : Al} {F H : Hp} : Move α F H F H := ⟨fun _ _ h => h, fun _ _ h _ => h, fun _ h => h, fun _ h => .inl h⟩
theorem Move.trans {α : Al} {F H F1 H1 F2 H2 : Hp} (a : Move α F H F1 H1) (b : Move α F1 H1 F2 H2) : Move α F H F2 H2 where
  ex := a.ex.trans b.ex
  fr := fun c o h k => b.fr c o (a.fr c o h k) k
  tr := fun c h => b.tr c (a.tr c h)
  new := fun c h => by
    rcases b.new c h with q | q
    · exact a.new c q
    · refine .inr ?_
      cases e : H c with
      | none => rfl
      | some o => exact absurd q (a.tr c (by rw [e]; simp))

section
variable {K : PySem.W.Frag}
theorem SlOk.mono {α : Al} {F F' : Hp} (e : Same F F') : ∀ {s : Sl} {x : V}, SlOk K α F s x → SlOk K α F' s x
  | .v d, x, h => Den.mono K e d x h
  | .l k, x, h => h
theorem EnvOk.mono {α : Al} {F F' : Hp} {σ : L2.St} {ρ : Rho} (e : Same F F') (h : EnvOk K α F σ ρ) : EnvOk K α F' σ ρ :=
  ⟨h.len, fun i s q => let ⟨v, a, b⟩ := h.at' i s q; ⟨v, a, b.mono e⟩⟩
theorem EnvOk.set {α : Al} {F : Hp} {σ : L2.St} {ρ : Rho} (h : EnvOk K α F σ ρ) (i : Nat) {s : Sl} {v : V} (hv : SlOk K α F s v) : EnvOk K α F (σ.set i (some v)) (ρ.set i (some s)) := by
  refine ⟨by simp [h.len], fun j t q => ?_⟩
  by_cases e : i = j
  · subst e
    by_cases hl : i < ρ.length
    · rw [List.getElem?_set_self hl] at q
      cases q
      exact ⟨v, by rw [List.getElem?_set_self (by rw [h.len]; exact hl)], hv⟩
    · rw [List.getElem?_eq_none (by simpa using hl)] at q; cases q
  · rw [List.getElem?_set_ne e] at q ⊢
    exact h.at' j t q
theorem EnvOk.setN {α : Al} {F : Hp} {σ : L2.St} {ρ : Rho} (h : EnvOk K α F σ ρ) (i : Nat) : EnvOk K α F (σ.set i none) (ρ.set i none) := by
  refine ⟨by simp [h.len], fun j t q => ?_⟩
  by_cases e : i = j
  · subst e
    by_cases hl : i < ρ.length
    · rw [List.getElem?_set_self hl] at q; cases q
    · rw [List.getElem?_eq_none (by simpa using hl)] at q; cases q
  · rw [List.getElem?_set_ne e] at q ⊢
    exact h.at' j t q

theorem raw_ok {α : Al} {F : Hp} {v : V} : SlOk K α F (.v (.raw v)) v := rfl
theorem den_ok {α : Al} {F : Hp} {d : D} {v : V} (h : Den K F d v) : SlOk K α F (.v d) v := h
/-! ### expressions -/
def EvP (K : PySem.W.Frag) (te : TE) (ρ : Rho) (M : List MO) (Q : Sl → Prop) : Prop := ∀ (σ : L2.St) (α : Al) (F H : Hp), EnvOk K α F σ ρ → Sta K α M F H → ∀ k : VK,
  (∀ v F' H' s, Move α F H F' H' → Sta K α M F' H' → SlOk K α F' s v → Q s → k v H') → te σ H k
def EvT (K : PySem.W.Frag) (tt : TT) (ρ : Rho) (M : List MO) (Q : Bool → Prop) : Prop := ∀ (σ : L2.St) (α : Al) (F H : Hp), EnvOk K α F σ ρ → Sta K α M F H → ∀ k : Bool → Hp → Prop,
  (∀ b F' H', Move α F H F' H' → Sta K α M F' H' → Q b → k b H') → tt σ H k
def SlsOk (K : PySem.W.Frag) (α : Al) (F : Hp) : List Sl → List V → Prop
  | [], vs => vs = []
  | s :: ss, vs => ∃ v r, vs = v :: r ∧ SlOk K α F s v ∧ SlsOk K α F ss r
theorem SlsOk.mono {α : Al} {F F' : Hp} (e : Same F F') : ∀ {ss : List Sl} {vs : List V}, SlsOk K α F ss vs → SlsOk K α F' ss vs
  | [], _, h => h
  | s :: ss, _, h => by
    obtain ⟨v, r, h1, h2, h3⟩ := h
    exact ⟨v, r, h1, h2.mono e, SlsOk.mono e h3⟩
theorem SlsOk.dens {α : Al} {F : Hp} : ∀ {ds : List D} {vs : List V}, SlsOk K α F (ds.map Sl.v) vs → Dens K F ds vs
  | [], _, h => h
  | d :: ds, _, h => by
    obtain ⟨v, r, h1, h2, h3⟩ := h
    exact ⟨v, r, h1, h2, SlsOk.dens h3⟩
theorem SlsOk.length {α : Al} {F : Hp} : ∀ {ss : List Sl} {vs : List V}, SlsOk K α F ss vs → ss.length = vs.length
  | [], _, h => by
    have h : _ = [] := h
    subst h; rfl
  | s :: ss, _, h => by
    obtain ⟨v, r, rfl, _, h3⟩ := h
    simp [SlsOk.length h3]
def EvA (K : PySem.W.Frag) (ta : TA) (ρ : Rho) (M : List MO) (Q : List Sl → Prop) : Prop := ∀ (σ : L2.St) (α : Al) (F H : Hp), EnvOk K α F σ ρ → Sta K α M F H → ∀ k : List V → Hp → Prop,
  (∀ vs F' H' ss, Move α F H F' H' → Sta K α M F' H' → SlsOk K α F' ss vs → Q ss → k vs H') → ta σ H k
def EvO (K : PySem.W.Frag) (to : TO) (ρ : Rho) (M : List MO) (Q : Option Int → Prop) : Prop := ∀ (σ : L2.St) (α : Al) (F H : Hp), EnvOk K α F σ ρ → Sta K α M F H → ∀ k : Option Int → Hp → Prop,
  (∀ o F' H', Move α F H F' H' → Sta K α M F' H' → Q o → k o H') → to σ H k
/-- operations by values -/
def EvR (K : PySem.W.Frag) (r : R2) (M : List MO) (x y : Sl) (Q : Sl → Prop) : Prop := ∀ (α : Al) (F H : Hp) (u v : V), Sta K α M F H → SlOk K α F x u → SlOk K α F y v → ∀ k : VK,
  (∀ z F' H' s, Move α F H F' H' → Sta K α M F' H' → SlOk K α F' s z → Q s → k z H') → r u v H k
def EvU (K : PySem.W.Frag) (r : V → Hp → VK → Prop) (M : List MO) (x : Sl) (Q : Sl → Prop) : Prop := ∀ (α : Al) (F H : Hp) (u : V), Sta K α M F H → SlOk K α F x u → ∀ k : VK,
  (∀ z F' H' s, Move α F H F' H' → Sta K α M F' H' → SlOk K α F' s z → Q s → k z H') → r u H k
def EvC (K : PySem.W.Frag) (r : List V → Hp → VK → Prop) (M : List MO) (xs : List Sl) (Q : Sl → Prop) : Prop := ∀ (α : Al) (F H : Hp) (us : List V), Sta K α M F H → SlsOk K α F xs us → ∀ k : VK,
  (∀ z F' H' s, Move α F H F' H' → Sta K α M F' H' → SlOk K α F' s z → Q s → k z H') → r us H k

variable {ρ : Rho} {M : List MO} {Q : Sl → Prop} {te ta tb : TE}
/-- a new object is laid -/
theorem Sta.laid {α : Al} {F H : Hp} (S : Sta K α M F H) {p : Addr} {o : HO} (hp : H p = none) : Move α F H (upd F p o) (upd H p o) ∧ Sta K α M (upd F p o) (upd H p o) := by
  have hF : F p = none := S.sub.free hp
  have s1 : Same F (upd F p o) := fun b u h => by rw [upd_ne (ne_of_none h hF)]; exact h
  have s2 : ∀ b u, H b = some u → upd H p o b = some u := fun b u h => by rw [upd_ne (ne_of_none h hp)]; exact h
  have t2 : ∀ b, H b ≠ none → upd H p o b ≠ none := fun b h => by
    have : b ≠ p := fun e => h (by rw [e]; exact hp)
    rw [upd_ne this]; exact h
  have f2 : ∀ q : Addr, F q = none → H q ≠ none → upd F p o q = none := fun q h1 h2 => by
    have : q ≠ p := fun e => h2 (by rw [e]; exact hp)
    rw [upd_ne this]; exact h1
  refine ⟨⟨s1, fun b u h _ => s2 b u h, t2, fun b h => ?_⟩, ⟨fun b u h => ?_, S.len, fun i m q h1 h2 => ?_, S.ap, fun q hq => ⟨t2 _ (S.tr q hq).1, t2 _ (S.tr q hq).2⟩⟩⟩
  · by_cases e : b = p
    · exact .inr (by rw [e]; exact hp)
    · rw [upd_ne e] at h; exact .inl h
  · by_cases e : b = p
    · subst e; rw [upd_same] at h ⊢; exact h
    · rw [upd_ne e] at h ⊢; exact S.sub b u h
  · have hq := S.tr q (List.mem_of_getElem? h2)
    have k := S.ob i m q h1 h2
    cases m with
    | lst ds => exact ⟨f2 _ k.1 hq.1, let ⟨vs, a, b⟩ := k.2; ⟨vs, s2 _ _ a, Dens.mono K s1 _ _ b⟩⟩
    | dic ks ds => exact ⟨f2 _ k.1 hq.1, let ⟨vs, a, c, b⟩ := k.2; ⟨vs, s2 _ _ a, c, Dens.mono K s1 _ _ b⟩⟩
    | pin a0 ds => exact ⟨f2 _ k.1 hq.1, k.2.1, let ⟨vs, a, b⟩ := k.2.2; ⟨vs, s2 _ _ a, Dens.mono K s1 _ _ b⟩⟩
    | frz d od kvs ks ds => exact ⟨f2 _ k.1 hq.1, k.2.1, s2 _ _ k.2.2.1, let ⟨vs, c, e, b⟩ := k.2.2.2; ⟨vs, c, e, Dens.mono K s1 _ _ b⟩⟩
    | ins C ns ds => exact ⟨f2 _ k.1 hq.1, let ⟨dx, vs, a, c, b⟩ := k.2; ⟨dx, vs, s2 _ _ a, c, Dens.mono K s1 _ _ b⟩⟩
    | rng => exact ⟨f2 _ k.1 hq.1, f2 _ k.2.1 hq.2, let ⟨s, i, c, h0, h1, h2, h3⟩ := k.2.2; ⟨s, i, c, h0, s2 _ _ h1, s2 _ _ h2, h3⟩⟩
    | dead => trivial

theorem EvP.mono {Q' : Sl → Prop} (h : EvP K te ρ M Q) (q : ∀ s, Q s → Q' s) : EvP K te ρ M Q' := fun σ α F H e S k kk => h σ α F H e S k fun v F' H' s a b c d => kk v F' H' s a b c (q s d)
theorem ev_var {i : Nat} {s : Sl} (h : ρ[i]? = some (some s)) (q : Q s) : EvP K (tVar i) ρ M Q := fun σ α F H e S k kk => by
  obtain ⟨v, h1, h2⟩ := e.at' i s h
  exact ⟨v, h1, kk v F H s .refl S h2 q⟩
theorem ev_c {v : V} (q : Q (.v (.raw v))) : EvP K (tC v) ρ M Q := fun σ α F H e S k kk => kk v F H _ .refl S raw_ok q
theorem ev_op {r : R2} (h : EvP K ta ρ M fun x => EvP K tb ρ M fun y => EvR K r M x y Q) : EvP K (tOp r ta tb) ρ M Q := fun σ α F H e S k kk =>
  h σ α F H e S _ fun u F1 H1 x m1 S1 o1 q1 => q1 σ α F1 H1 (e.mono m1.ex) S1 _ fun v F2 H2 y m2 S2 o2 q2 =>
    q2 α F2 H2 u v S2 (o1.mono m2.ex) o2 k fun z F3 H3 s m3 S3 o3 q3 => kk z F3 H3 s ((m1.trans m2).trans m3) S3 o3 q3
theorem ev_un {r : V → Hp → VK → Prop} (h : EvP K ta ρ M fun x => EvU K r M x Q) : EvP K (tUn r ta) ρ M Q := fun σ α F H e S k kk =>
  h σ α F H e S _ fun u F1 H1 x m1 S1 o1 q1 => q1 α F1 H1 u S1 o1 k fun z F3 H3 s m3 S3 o3 q3 => kk z F3 H3 s (m1.trans m3) S3 o3 q3
theorem ev_cb {r : List V → Hp → VK → Prop} {t : TA} (h : EvA K t ρ M fun xs => EvC K r M xs Q) : EvP K (tCB r t) ρ M Q := fun σ α F H e S k kk =>
  h σ α F H e S _ fun u F1 H1 x m1 S1 o1 q1 => q1 α F1 H1 u S1 o1 k fun z F3 H3 s m3 S3 o3 q3 => kk z F3 H3 s (m1.trans m3) S3 o3 q3
theorem ea_nil {Q : List Sl → Prop} (q : Q []) : EvA K tNil ρ M Q := fun σ α F H e S k kk => kk [] F H [] .refl S rfl q
theorem ea_cons {tr : TA} {Q : List Sl → Prop} (h : EvP K ta ρ M fun x => EvA K tr ρ M fun xs => Q (x :: xs)) : EvA K (tCons ta tr) ρ M Q := fun σ α F H e S k kk =>
  h σ α F H e S _ fun u F1 H1 x m1 S1 o1 q1 => q1 σ α F1 H1 (e.mono m1.ex) S1 _ fun vs F2 H2 xs m2 S2 o2 q2 =>
    kk (u :: vs) F2 H2 (x :: xs) (m1.trans m2) S2 ⟨u, vs, rfl, o1.mono m2.ex, o2⟩ q2
def AllD (ss : List Sl) (ds : List D) : Prop := ss = ds.map Sl.v
theorem ev_tup {t : TA} (h : EvA K t ρ M fun xs => ∃ ds : List D, xs = ds.map Sl.v ∧ ds.length ≤ 16777216 ∧ Q (.v (.tup ds))) : EvP K (tTup t) ρ M Q := fun σ α F H e S k kk =>
  h σ α F H e S _ fun vs F1 H1 ss m1 S1 o1 ⟨ds, e1, hl, q⟩ => by
    subst e1
    have hd := o1.dens
    refine ⟨by rw [← hd.length, sizeLine_eq]; exact hl, fun p hp => ?_⟩
    obtain ⟨m2, S2⟩ := S1.laid (o := .tup vs) hp
    exact kk _ _ _ _ (m1.trans m2) S2 (den_ok (d := .tup ds) ⟨p, vs, rfl, .inl (.inl upd_same), Dens.mono K m2.ex _ _ hd⟩) q
theorem ev_lst {t : TA} (h : EvA K t ρ M fun xs => ∃ ds : List D, xs = ds.map Sl.v ∧ ds.length ≤ 16777216 ∧ Q (.v (.lst ds))) : EvP K (tLst t) ρ M Q := fun σ α F H e S k kk =>
  h σ α F H e S _ fun vs F1 H1 ss m1 S1 o1 ⟨ds, e1, hl, q⟩ => by
    subst e1
    have hd := o1.dens
    refine ⟨by rw [← hd.length, sizeLine_eq]; exact hl, fun p hp => ?_⟩
    obtain ⟨m2, S2⟩ := S1.laid (o := .lst vs) hp
    exact kk _ _ _ _ (m1.trans m2) S2 (den_ok (d := .lst ds) ⟨p, vs, rfl, upd_same, Dens.mono K m2.ex _ _ hd⟩) q
theorem ev_if {t : TT} (h : EvT K t ρ M fun b => if b = true then EvP K ta ρ M Q else EvP K tb ρ M Q) : EvP K (tIf t ta tb) ρ M Q := fun σ α F H e S k kk =>
  h σ α F H e S _ fun b F1 H1 m1 S1 q1 => by
    cases b with
    | true => exact (show EvP K ta ρ M Q from q1) σ α F1 H1 (e.mono m1.ex) S1 k fun v F2 H2 s m2 S2 o2 q2 => kk v F2 H2 s (m1.trans m2) S2 o2 q2
    | false => exact (show EvP K tb ρ M Q from q1) σ α F1 H1 (e.mono m1.ex) S1 k fun v F2 H2 s m2 S2 o2 q2 => kk v F2 H2 s (m1.trans m2) S2 o2 q2
/-! tests -/
variable {R : Bool → Prop} {t u : TT}
theorem et_B (h : EvP K te ρ M fun s => ∃ b, s = .v (.bl b) ∧ R b) : EvT K (tB te) ρ M R := fun σ α F H e S k kk =>
  h σ α F H e S _ fun v F1 H1 s m1 S1 o1 ⟨b, e1, q⟩ => by
    subst e1
    have o1 : v = .bl b := o1
    subst o1
    exact ⟨b, rfl, kk b F1 H1 m1 S1 q⟩
theorem et_test (h : EvP K te ρ M fun s => ∃ b, s = .v (.bl b) ∧ R b) : EvT K (tTest te) ρ M R := et_B h
theorem et_and (h : EvT K t ρ M fun b => if b = true then EvT K u ρ M R else R false) : EvT K (tAnd t u) ρ M R := fun σ α F H e S k kk =>
  h σ α F H e S _ fun b F1 H1 m1 S1 q1 => by
    cases b with
    | true => exact (show EvT K u ρ M R from q1) σ α F1 H1 (e.mono m1.ex) S1 k fun c F2 H2 m2 S2 q2 => kk c F2 H2 (m1.trans m2) S2 q2
    | false => exact kk false F1 H1 m1 S1 q1
theorem et_or (h : EvT K t ρ M fun b => if b = true then R true else EvT K u ρ M R) : EvT K (tOr t u) ρ M R := fun σ α F H e S k kk =>
  h σ α F H e S _ fun b F1 H1 m1 S1 q1 => by
    cases b with
    | true => exact kk true F1 H1 m1 S1 q1
    | false => exact (show EvT K u ρ M R from q1) σ α F1 H1 (e.mono m1.ex) S1 k fun c F2 H2 m2 S2 q2 => kk c F2 H2 (m1.trans m2) S2 q2
theorem et_not (h : EvT K t ρ M fun b => R (!b)) : EvT K (tNot t) ρ M R := fun σ α F H e S k kk =>
  h σ α F H e S _ fun b F1 H1 m1 S1 q1 => kk (!b) F1 H1 m1 S1 q1
theorem ev_andV (h : EvP K ta ρ M fun s => ∃ b, s = .v (.bl b) ∧ if b = true then EvP K tb ρ M Q else Q (.v (.bl false))) : EvP K (tAndV ta tb) ρ M Q := fun σ α F H e S k kk =>
  h σ α F H e S _ fun v F1 H1 s m1 S1 o1 ⟨b, e1, q1⟩ => by
    subst e1
    have o1 : v = .bl b := o1
    subst o1
    refine ⟨b, rfl, ?_⟩
    cases b with
    | true => exact (show EvP K tb ρ M Q from q1) σ α F1 H1 (e.mono m1.ex) S1 k fun v F2 H2 s m2 S2 o2 q2 => kk v F2 H2 s (m1.trans m2) S2 o2 q2
    | false => exact kk _ F1 H1 _ m1 S1 raw_ok q1
theorem ev_orV (h : EvP K ta ρ M fun s => ∃ b, s = .v (.bl b) ∧ if b = true then Q (.v (.bl true)) else EvP K tb ρ M Q) : EvP K (tOrV ta tb) ρ M Q := fun σ α F H e S k kk =>
  h σ α F H e S _ fun v F1 H1 s m1 S1 o1 ⟨b, e1, q1⟩ => by
    subst e1
    have o1 : v = .bl b := o1
    subst o1
    refine ⟨b, rfl, ?_⟩
    cases b with
    | true => exact kk _ F1 H1 _ m1 S1 raw_ok q1
    | false => exact (show EvP K tb ρ M Q from q1) σ α F1 H1 (e.mono m1.ex) S1 k fun v F2 H2 s m2 S2 o2 q2 => kk v F2 H2 s (m1.trans m2) S2 o2 q2
theorem ev_notV (h : EvP K ta ρ M fun s => ∃ b, s = .v (.bl b) ∧ Q (.v (.bl (!b)))) : EvP K (tNotV ta) ρ M Q := fun σ α F H e S k kk =>
  h σ α F H e S _ fun v F1 H1 s m1 S1 o1 ⟨b, e1, q1⟩ => by
    subst e1
    have o1 : v = .bl b := o1
    subst o1
    exact ⟨b, rfl, kk _ F1 H1 _ m1 S1 raw_ok q1⟩
theorem eo_none {R : Option Int → Prop} (q : R none) : EvO K tNoPart ρ M R := fun σ α F H e S k kk => kk none F H .refl S q
theorem eo_some {R : Option Int → Prop} (h : EvP K te ρ M fun s => ∃ i, s = .v (.int i) ∧ R (some i)) : EvO K (tPart te) ρ M R := fun σ α F H e S k kk =>
  h σ α F H e S _ fun v F1 H1 s m1 S1 o1 ⟨i, e1, q1⟩ => by
    subst e1
    have o1 : v = .int i := o1
    subst o1
    exact ⟨i, rfl, kk _ F1 H1 m1 S1 q1⟩

/-! ### operations -/
theorem er_I0 {g : Int → Int → V} {i j : Int} (q : Q (.v (.raw (g i j)))) : EvR K (rI0 g) M (.v (.int i)) (.v (.int j)) Q := fun α F H u v S o1 o2 k kk => by
  have o1 : u = .int i := o1
  have o2 : v = .int j := o2
  subst o1; subst o2
  exact ⟨i, j, rfl, rfl, kk _ F H _ .refl S raw_ok q⟩
theorem er_I {C : Int → Int → Prop} {g : Int → Int → V} {i j : Int} (hc : C i j) (q : Q (.v (.raw (g i j)))) : EvR K (rI C g) M (.v (.int i)) (.v (.int j)) Q := fun α F H u v S o1 o2 k kk => by
  have o1 : u = .int i := o1
  have o2 : v = .int j := o2
  subst o1; subst o2
  exact ⟨i, j, rfl, rfl, hc, kk _ F H _ .refl S raw_ok q⟩
theorem eu_I {g : Int → V} {i : Int} (q : Q (.v (.raw (g i)))) : EvU K (rU g) M (.v (.int i)) Q := fun α F H u S o1 k kk => by
  have o1 : u = .int i := o1
  subst o1
  exact ⟨i, rfl, kk _ F H _ .refl S raw_ok q⟩
theorem er_eq {x y : V} (h : scal x y = true) (q : Q (.v (.bl (decide (x = y))))) : EvR K rEq M (.v (.raw x)) (.v (.raw y)) Q := fun α F H u v S o1 o2 k kk => by
  have o1 : u = x := o1
  have o2 : v = y := o2
  subst o1; subst o2
  exact ⟨h, kk _ F H _ .refl S raw_ok q⟩
theorem er_ne {x y : V} (h : scal x y = true) (q : Q (.v (.bl (!decide (x = y))))) : EvR K rNe M (.v (.raw x)) (.v (.raw y)) Q := fun α F H u v S o1 o2 k kk => by
  have o1 : u = x := o1
  have o2 : v = y := o2
  subst o1; subst o2
  exact ⟨h, kk _ F H _ .refl S raw_ok q⟩
end
end DL

/-! DL2: statements, loops, calls, sequences over plain data. -/
namespace DL
open PySem L2

/-- the entry of a def -/
structure Ent where
  α : Al
  F : Hp
  H : Hp
structure StepE (e : Ent) (α : Al) (F H : Hp) : Prop where
  ex : Same e.F F
  fr : ∀ b o, e.H b = some o → (∀ p, p ∈ e.α → b ≠ p.1 ∧ b ≠ p.2) → H b = some o
  tr : ∀ b, e.H b ≠ none → H b ≠ none
  new : ∀ b, F b ≠ none → e.F b ≠ none ∨ e.H b = none
  pre : ∃ β, α = e.α ++ β ∧ ∀ p, p ∈ β → e.H p.1 = none ∧ e.H p.2 = none
section
variable {K : PySem.W.Frag}
theorem StepE.refl {e : Ent} : StepE e e.α e.F e.H := ⟨fun _ _ h => h, fun _ _ h _ => h, fun _ h => h, fun _ h => .inl h, ⟨[], by simp, fun _ h => by simp at h⟩⟩
theorem none_back {H H' : Hp} {b : Addr} (t : H b ≠ none → H' b ≠ none) (h : H' b = none) : H b = none := by
  cases e : H b with
  | none => rfl
  | some o => exact absurd h (t (by rw [e]; simp))
theorem StepE.move {e : Ent} {α : Al} {F H F' H' : Hp} (s : StepE e α F H) (m : Move α F H F' H') : StepE e α F' H' where
  ex := s.ex.trans m.ex
  fr := fun b o h k => m.fr b o (s.fr b o h k) fun p hp => by
    obtain ⟨β, e1, hβ⟩ := s.pre
    rw [e1] at hp
    rcases List.mem_append.mp hp with q | q
    · exact k p q
    · have := hβ p q
      exact ⟨fun z => by { rw [z, this.1] at h; cases h }, fun z => by { rw [z, this.2] at h; cases h }⟩
  tr := fun b h => m.tr b (s.tr b h)
  new := fun b h => by
    rcases m.new b h with q | q
    · exact s.new b q
    · exact .inr (none_back (s.tr b) q)
  pre := s.pre
structure Good (K : PySem.W.Frag) (e : Ent) (α : Al) (F H : Hp) (σ : L2.St) (ρ : Rho) (M : List MO) : Prop where
  env : EnvOk K α F σ ρ
  sta : Sta K α M F H
  st : StepE e α F H
structure EndsD where
  nx : Rho → List MO → Prop
  rt : Sl → List MO → Prop
  bk : Rho → List MO → Prop := fun _ _ => False
  ct : Rho → List MO → Prop := fun _ _ => False
structure EndsOk (K : PySem.W.Frag) (e : Ent) (B : Hp) (E : EndsD) (X : Ends) : Prop where
  nx : ∀ σ α F H ρ M, Good K e α F H σ ρ M → Same B F → E.nx ρ M → X.nx σ H
  rt : ∀ v s α F H M, SlOk K α F s v → Sta K α M F H → StepE e α F H → Same B F → E.rt s M → X.rt v H
  bk : ∀ σ α F H ρ M, Good K e α F H σ ρ M → Same B F → E.bk ρ M → X.bk σ H
  ct : ∀ σ α F H ρ M, Good K e α F H σ ρ M → Same B F → E.ct ρ M → X.ct σ H
theorem EndsOk.at {K : PySem.W.Frag} {e : Ent} {B B' : Hp} {E : EndsD} {X : Ends} (ok : EndsOk K e B E X) (s : Same B B') : EndsOk K e B' E X :=
  ⟨fun σ α F H ρ M g z => ok.nx σ α F H ρ M g (s.trans z), fun v t α F H M a b c z => ok.rt v t α F H M a b c (s.trans z), fun σ α F H ρ M g z => ok.bk σ α F H ρ M g (s.trans z), fun σ α F H ρ M g z => ok.ct σ α F H ρ M g (s.trans z)⟩
/-- a statement run from ρ, M comes to E -/
def RunD (K : PySem.W.Frag) (e : Ent) (ts : TS) (ρ : Rho) (M : List MO) (nx : Rho → List MO → Prop) (rt : Sl → List MO → Prop) (bk ct : Rho → List MO → Prop) : Prop := ∀ X σ α F H, Good K e α F H σ ρ M → EndsOk K e F ⟨nx, rt, bk, ct⟩ X → ts X σ H

variable {e : Ent} {ρ : Rho} {M : List MO} {nx bk ct : Rho → List MO → Prop} {rt : Sl → List MO → Prop} {te : TE} {t u : TS}
theorem Good.move {α : Al} {F H F' H' : Hp} {σ : L2.St} (g : Good K e α F H σ ρ M) (m : Move α F H F' H') (S : Sta K α M F' H') : Good K e α F' H' σ ρ M :=
  ⟨g.env.mono m.ex, S, g.st.move m⟩
theorem r_next (q : nx ρ M) : RunD K e tNext ρ M nx rt bk ct := fun X σ α F H g ok => ok.nx σ α F H ρ M g (.refl F) q
theorem r_break (q : bk ρ M) : RunD K e tBreak ρ M nx rt bk ct := fun X σ α F H g ok => ok.bk σ α F H ρ M g (.refl F) q
theorem r_cont (q : ct ρ M) : RunD K e tCont ρ M nx rt bk ct := fun X σ α F H g ok => ok.ct σ α F H ρ M g (.refl F) q
theorem r_seq (h : RunD K e t ρ M (fun ρ' M' => RunD K e u ρ' M' nx rt bk ct) rt bk ct) : RunD K e (tSeq t u) ρ M nx rt bk ct := fun X σ α F H g ok =>
  h { X with nx := u X } σ α F H g ⟨fun σ' α' F' H' ρ' M' g' z' q' => q' X σ' α' F' H' g' (ok.at z'), ok.rt, ok.bk, ok.ct⟩
theorem loc_ok {α : Al} {F : Hp} {k : Nat} {p : Addr × Addr} (h : α[k]? = some p) : SlOk K α F (.l k) (.ref p.1) := ⟨p, h, rfl⟩
theorem r_asg {i : Nat} (h : EvP K te ρ M fun s => nx (ρ.set i (some s)) M) : RunD K e (tAsg te (gName i)) ρ M nx rt bk ct := fun X σ α F H g ok =>
  h σ α F H g.env g.sta _ fun v F1 H1 s m1 S1 o1 q1 => ok.nx _ α F1 H1 _ M ⟨(g.env.mono m1.ex).set i o1, S1, g.st.move m1⟩ m1.ex q1
theorem r_drop (h : EvP K te ρ M fun _ => nx ρ M) : RunD K e (tDrop te) ρ M nx rt bk ct := fun X σ α F H g ok =>
  h σ α F H g.env g.sta _ fun v F1 H1 s m1 S1 o1 q1 => ok.nx _ α F1 H1 _ M (g.move m1 S1) m1.ex q1
theorem r_ret (h : EvP K te ρ M fun s => rt s M) : RunD K e (tRet te) ρ M nx rt bk ct := fun X σ α F H g ok =>
  h σ α F H g.env g.sta _ fun v F1 H1 s m1 S1 o1 q1 => ok.rt v s α F1 H1 M o1 S1 (g.st.move m1) m1.ex q1
theorem r_retN (h : rt (.v .non) M) : RunD K e tRetN ρ M nx rt bk ct := fun X σ α F H g ok => ok.rt _ _ α F H M raw_ok g.sta g.st (.refl F) h
theorem r_if {c : TT} (h : EvT K c ρ M fun b => if b = true then RunD K e t ρ M nx rt bk ct else RunD K e u ρ M nx rt bk ct) : RunD K e (tIfS c t u) ρ M nx rt bk ct := fun X σ α F H g ok =>
  h σ α F H g.env g.sta _ fun b F1 H1 m1 S1 q1 => by
    cases b with
    | true => exact (show RunD K e t ρ M nx rt bk ct from q1) X σ α F1 H1 (g.move m1 S1) (ok.at m1.ex)
    | false => exact (show RunD K e u ρ M nx rt bk ct from q1) X σ α F1 H1 (g.move m1 S1) (ok.at m1.ex)
theorem r_aug {i : Nat} {f : Int → Int → Int} {x : Int} (hx : ρ[i]? = some (some (.v (.int x)))) (h : EvP K te ρ M fun s => ∃ y, s = .v (.int y) ∧ nx (ρ.set i (some (.v (.int (f x y))))) M) : RunD K e (tAug i te (ipI f)) ρ M nx rt bk ct := fun X σ α F H g ok => by
  obtain ⟨v, h1, h2⟩ := g.env.at' i _ hx
  have h2 : v = .int x := h2
  subst h2
  refine ⟨_, h1, h σ α F H g.env g.sta _ fun v F1 H1 s m1 S1 o1 ⟨y, e1, q1⟩ => ?_⟩
  subst e1
  have o1 : v = .int y := o1
  subst o1
  exact ⟨x, y, rfl, rfl, ok.nx _ α F1 H1 _ M ⟨(g.env.mono m1.ex).set i raw_ok, S1, g.st.move m1⟩ m1.ex q1⟩
theorem r_par {i j : Nat} {ta : TA} (h : EvA K ta ρ M fun ss => ∃ a b, ss = [a, b] ∧ nx ((ρ.set i (some a)).set j (some b)) M) : RunD K e (tPar i j ta) ρ M nx rt bk ct := fun X σ α F H g ok =>
  h σ α F H g.env g.sta _ fun vs F1 H1 ss m1 S1 o1 ⟨a, b, e1, q1⟩ => by
    subst e1
    obtain ⟨v, r, rfl, hv, r2⟩ := o1
    obtain ⟨w, r', rfl, hw, r3⟩ := r2
    have r3 : r' = [] := r3
    subst r3
    exact ⟨v, w, rfl, ok.nx _ α F1 H1 _ M ⟨((g.env.mono m1.ex).set i hv).set j hw, S1, g.st.move m1⟩ m1.ex q1⟩
theorem RunD.mono {nx' bk' ct' : Rho → List MO → Prop} {rt' : Sl → List MO → Prop} (h : RunD K e t ρ M nx rt bk ct) (h1 : ∀ ρ M, nx ρ M → nx' ρ M) (h2 : ∀ s M, rt s M → rt' s M) (h3 : ∀ ρ M, bk ρ M → bk' ρ M) (h4 : ∀ ρ M, ct ρ M → ct' ρ M) : RunD K e t ρ M nx' rt' bk' ct' := fun X σ α F H g ok =>
  h X σ α F H g ⟨fun σ α F H ρ M g z q => ok.nx σ α F H ρ M g z (h1 ρ M q), fun v s α F H M a b c z q => ok.rt v s α F H M a b c z (h2 s M q), fun σ α F H ρ M g z q => ok.bk σ α F H ρ M g z (h3 ρ M q), fun σ α F H ρ M g z q => ok.ct σ α F H ρ M g z (h4 ρ M q)⟩

/-! ### changing things -/
theorem nth_ne {α : Al} {F H : Hp} {M : List MO} (S : Sta K α M F H) {i j : Nat} {p q : Addr × Addr} (hi : α[i]? = some p) (hj : α[j]? = some q) (h : i ≠ j) : Apart p q := by
  rcases Nat.lt_or_gt_of_ne h with l | l
  · exact S.ap i j p q l hi hj
  · obtain ⟨a, b, c, d⟩ := S.ap j i q p l hj hi
    exact ⟨a.symm, c.symm, b.symm, d.symm⟩
/-- the k-th thing is another now -/
theorem Sta.write {α : Al} {F H : Hp} {M : List MO} (S : Sta K α M F H) {k : Nat} {p : Addr × Addr} {m' : MO} {o : HO} (hp : α[k]? = some p) (hF : F p.1 = none) (hm : MObj K F (upd H p.1 o) m' p) : Move α F H F (upd H p.1 o) ∧ Sta K α (M.set k m') F (upd H p.1 o) := by
  have hpm : p ∈ α := List.mem_of_getElem? hp
  have t2 : ∀ b, H b ≠ none → upd H p.1 o b ≠ none := fun b h => by
    by_cases e : b = p.1
    · subst e; rw [upd_same]; simp
    · rw [upd_ne e]; exact h
  refine ⟨⟨fun _ _ h => h, fun b u h k => by rw [upd_ne (k p hpm).1]; exact h, t2, fun b h => .inl h⟩, ⟨fun b u h => ?_, by simp [S.len], fun i m q h1 h2 => ?_, S.ap, fun q hq => ⟨t2 _ (S.tr q hq).1, t2 _ (S.tr q hq).2⟩⟩⟩
  · rw [upd_ne (fun z => by rw [z, hF] at h; cases h)]; exact S.sub b u h
  · by_cases hik : k = i
    · subst hik
      have hl : k < M.length := by rw [S.len]; exact (List.getElem?_eq_some_iff.mp h2).1
      rw [List.getElem?_set_self hl] at h1
      cases h1
      rw [hp] at h2; cases h2
      exact hm
    · rw [List.getElem?_set_ne hik] at h1
      have ap := nth_ne S h2 hp (Ne.symm hik)
      have kk := S.ob i m q h1 h2
      have s1 : upd H p.1 o q.1 = H q.1 := upd_ne ap.1
      have s2 : upd H p.1 o q.2 = H q.2 := upd_ne ap.2.2.1
      cases m with
      | lst ds => exact ⟨kk.1, by rw [s1]; exact kk.2⟩
      | dic ks ds => exact ⟨kk.1, by rw [s1]; exact kk.2⟩
      | pin a0 ds => exact ⟨kk.1, by rw [s1]; exact kk.2⟩
      | frz d od kvs ks ds => exact ⟨kk.1, by rw [s1]; exact kk.2⟩
      | ins C ns ds => exact ⟨kk.1, by rw [s1]; exact kk.2⟩
      | rng => exact ⟨kk.1, kk.2.1, by unfold Rng; rw [s1, s2]; exact kk.2.2⟩
      | dead => trivial
/-- a new thing -/
theorem Sta.more {α : Al} {F H : Hp} {M : List MO} (S : Sta K α M F H) {p : Addr} {m' : MO} {o : HO} (hp : H p = none) (hm : MObj K F (upd H p o) m' (p, p)) : Sta K (α ++ [(p, p)]) (M ++ [m']) F (upd H p o) := by
  have hF : F p = none := S.sub.free hp
  have s2 : ∀ b u, H b = some u → upd H p o b = some u := fun b u h => by rw [upd_ne (ne_of_none h hp)]; exact h
  have t2 : ∀ b, H b ≠ none → upd H p o b ≠ none := fun b h => by
    have : b ≠ p := fun e => h (by rw [e]; exact hp)
    rw [upd_ne this]; exact h
  refine ⟨fun b u h => s2 b u (S.sub b u h), by simp [S.len], fun i m q h1 h2 => ?_, fun i j q r hij h1 h2 => ?_, fun q hq => ?_⟩
  · by_cases hi : i < α.length
    · rw [List.getElem?_append_left (by rw [S.len]; exact hi)] at h1
      rw [List.getElem?_append_left hi] at h2
      have kk := S.ob i m q h1 h2
      cases m with
      | lst ds => exact ⟨kk.1, let ⟨vs, a, b⟩ := kk.2; ⟨vs, s2 _ _ a, b⟩⟩
      | dic ks ds => exact ⟨kk.1, let ⟨vs, a, b⟩ := kk.2; ⟨vs, s2 _ _ a, b⟩⟩
      | pin a0 ds => exact ⟨kk.1, kk.2.1, let ⟨vs, a, b⟩ := kk.2.2; ⟨vs, s2 _ _ a, b⟩⟩
      | frz d od kvs ks ds => exact ⟨kk.1, kk.2.1, s2 _ _ kk.2.2.1, kk.2.2.2⟩
      | ins C ns ds => exact ⟨kk.1, let ⟨dx, vs, a, b⟩ := kk.2; ⟨dx, vs, s2 _ _ a, b⟩⟩
      | rng => exact ⟨kk.1, kk.2.1, let ⟨s, i, c, h0, h1, h2, h3⟩ := kk.2.2; ⟨s, i, c, h0, s2 _ _ h1, s2 _ _ h2, h3⟩⟩
      | dead => trivial
    · have hi2 : i = α.length := by
        have := (List.getElem?_eq_some_iff.mp h2).1
        simp at this; omega
      subst hi2
      rw [← S.len, List.getElem?_append_right (Nat.le_refl _)] at h1
      rw [List.getElem?_append_right (Nat.le_refl _)] at h2
      simp at h1 h2
      subst h1; subst h2
      exact hm
  · have hj : j < α.length ∨ j = α.length := by
      have := (List.getElem?_eq_some_iff.mp h2).1
      simp at this; omega
    have hi : i < α.length := by omega
    rw [List.getElem?_append_left hi] at h1
    rcases hj with hj | hj
    · rw [List.getElem?_append_left hj] at h2
      exact S.ap i j q r hij h1 h2
    · subst hj
      rw [List.getElem?_append_right (Nat.le_refl _)] at h2
      simp at h2
      subst h2
      have hq := S.tr q (List.mem_of_getElem? h1)
      have n1 : q.1 ≠ p := fun z => hq.1 (by rw [z]; exact hp)
      have n2 : q.2 ≠ p := fun z => hq.2 (by rw [z]; exact hp)
      exact ⟨n1, n1, n2, n2⟩
  · rcases List.mem_append.mp hq with z | z
    · exact ⟨t2 _ (S.tr q z).1, t2 _ (S.tr q z).2⟩
    · simp at z; subst z
      show upd H p o p ≠ none ∧ upd H p o p ≠ none
      rw [upd_same]; simp
theorem SlOk.more {α β : Al} {F : Hp} : ∀ {s : Sl} {x : V}, SlOk K α F s x → SlOk K (α ++ β) F s x
  | .v d, x, h => h
  | .l k, x, ⟨p, h1, h2⟩ => ⟨p, by rw [List.getElem?_append_left (List.getElem?_eq_some_iff.mp h1).1]; exact h1, h2⟩
theorem EnvOk.more {α β : Al} {F : Hp} {σ : L2.St} (h : EnvOk K α F σ ρ) : EnvOk K (α ++ β) F σ ρ := ⟨h.len, fun i s q => let ⟨v, a, b⟩ := h.at' i s q; ⟨v, a, b.more⟩⟩
theorem StepE.more {α : Al} {F H : Hp} (s : StepE e α F H) {p : Addr} {o : HO} (hp : H p = none) : StepE e (α ++ [(p, p)]) F (upd H p o) where
  ex := s.ex
  fr := fun b u h k => by
    have := s.fr b u h k
    rw [upd_ne (ne_of_none this hp)]; exact this
  tr := fun b h => by
    have := s.tr b h
    have n : b ≠ p := fun z => this (by rw [z]; exact hp)
    rw [upd_ne n]; exact this
  new := s.new
  pre := by
    obtain ⟨β, e1, hβ⟩ := s.pre
    refine ⟨β ++ [(p, p)], by rw [e1, List.append_assoc], fun q hq => ?_⟩
    rcases List.mem_append.mp hq with z | z
    · exact hβ q z
    · simp at z; subst z
      exact ⟨none_back (s.tr p) hp, none_back (s.tr p) hp⟩
theorem sta_len {α : Al} {F H : Hp} (S : Sta K α M F H) {p : Addr} : (α ++ [(p, p)])[M.length]? = some (p, p) := by
  rw [S.len, List.getElem?_append_right (Nat.le_refl _)]; simp
/-- name = [..], a list that is to change -/
theorem r_newL {i : Nat} {ta : TA} (h : EvA K ta ρ M fun ss => ∃ ds : List D, ss = ds.map Sl.v ∧ ds.length ≤ 16777216 ∧ nx (ρ.set i (some (.l M.length))) (M ++ [.lst ds])) : RunD K e (tAsg (tLst ta) (gName i)) ρ M nx rt bk ct := fun X σ α F H g ok =>
  h σ α F H g.env g.sta _ fun vs F1 H1 ss m1 S1 o1 ⟨ds, e1, hl, q1⟩ => by
    subst e1
    have hd := o1.dens
    refine ⟨by rw [← hd.length, sizeLine_eq]; exact hl, fun p hp => ?_⟩
    have S2 := S1.more (m' := .lst ds) (o := .lst vs) hp ⟨S1.sub.free hp, vs, upd_same, hd⟩
    exact ok.nx _ _ F1 _ _ _ ⟨((g.env.mono m1.ex).more).set i (loc_ok (p := (p, p)) (sta_len S1)), S2, (g.st.move m1).more hp⟩ m1.ex q1
theorem r_newD {i : Nat} (q : nx (ρ.set i (some (.l M.length))) (M ++ [.dic [] []])) : RunD K e (tAsg tDNewK (gName i)) ρ M nx rt bk ct := fun X σ α F H g ok p hp => by
  have S2 := g.sta.more (m' := .dic [] []) (o := .dK []) hp ⟨g.sta.sub.free hp, [], upd_same, rfl, rfl⟩
  exact ok.nx _ _ F _ _ _ ⟨g.env.more.set i (loc_ok (p := (p, p)) (sta_len g.sta)), S2, g.st.more hp⟩ (.refl F) q
/-- a list that is made by any expression, held as one that is to change: nobody else knows it -/
theorem sta_get {α : Al} {F H : Hp} (S : Sta K α M F H) {k : Nat} {m : MO} (h : M[k]? = some m) : ∃ p, α[k]? = some p := by
  have : k < α.length := by rw [← S.len]; exact (List.getElem?_eq_some_iff.mp h).1
  exact ⟨α[k], List.getElem?_eq_getElem this⟩
/-- xs.append(e) -/
theorem r_app {i k : Nat} {ds : List D} (hi : ρ[i]? = some (some (.l k))) (hk : M[k]? = some (.lst ds)) (h : EvP K te ρ M fun s => ∃ d, s = .v d ∧ ds.length < 16777216 ∧ nx ρ (M.set k (.lst (ds ++ [d])))) :
    RunD K e (tDrop (tBM K "list" rAppend (tVar i) (tCons te tNil))) ρ M nx rt bk ct := fun X σ α F H g ok => by
  obtain ⟨v, h1, p, hp, rfl⟩ := g.env.at' i _ hi
  obtain ⟨hF, vs, hvs, _⟩ := g.sta.ob k _ p hk hp
  refine ⟨_, h1, .inl ⟨rfl, vs, SqL.of hvs⟩, h σ α F H g.env g.sta _ fun v F1 H1 s m1 S1 o1 ⟨d, e1, hl, q1⟩ => ?_⟩
  subst e1
  obtain ⟨hF1, vs1, hvs1, hd1⟩ := S1.ob k _ p hk hp
  refine ⟨p.1, vs1, v, rfl, rfl, hvs1, by rw [← hd1.length, sizeLine_eq]; exact hl, ?_⟩
  obtain ⟨m2, S2⟩ := S1.write (m' := .lst (ds ++ [d])) (o := .lst (vs1 ++ [v])) hp hF1 ⟨hF1, _, upd_same, hd1.append (Dens.cons o1 Dens.nil)⟩
  exact ok.nx _ _ F1 _ _ _ ⟨(g.env.mono m1.ex), S2, (g.st.move m1).move m2⟩ m1.ex q1
theorem ixN_nat {n j : Nat} (hj : j < n) : ixN n (j : Int) = some j := by
  unfold ixN
  rw [if_pos (by omega), if_pos (by omega)]
  simp
/-- xs[i] = e -/
theorem r_setL {i k : Nat} {ds : List D} {ti : TE} (hi : ρ[i]? = some (some (.l k))) (hk : M[k]? = some (.lst ds)) (h : EvP K te ρ M fun s => EvP K ti ρ M fun s' => ∃ d j n, s = .v d ∧ s' = .v (.int j) ∧ ixN ds.length j = some n ∧ nx ρ (M.set k (.lst (ds.set n d)))) :
    RunD K e (tAsg te (gSub (tVar i) ti rSetL)) ρ M nx rt bk ct := fun X σ α F H g ok =>
  h σ α F H g.env g.sta _ fun v F1 H1 s m1 S1 o1 q1 => by
    obtain ⟨u, h1, p, hp, rfl⟩ := g.env.at' i _ hi
    refine ⟨_, h1, q1 σ α F1 H1 (g.env.mono m1.ex) S1 _ fun w F2 H2 s' m2 S2 o2 ⟨d, j, n, e1, e2, hn, q2⟩ => ?_⟩
    subst e1; subst e2
    have o2 : w = .int j := o2
    subst o2
    obtain ⟨hF1, vs1, hvs1, hd1⟩ := S2.ob k _ p hk hp
    refine ⟨p.1, vs1, j, n, rfl, rfl, hvs1, by rw [← hd1.length]; exact hn, ?_⟩
    obtain ⟨m3, S3⟩ := S2.write (m' := .lst (ds.set n d)) (o := .lst (vs1.set n v)) hp hF1 ⟨hF1, _, upd_same, hd1.set (Den.mono K m2.ex _ _ o1) n⟩
    exact ok.nx _ _ F2 _ _ _ ⟨(g.env.mono (m1.trans m2).ex), S3, (g.st.move (m1.trans m2)).move m3⟩ (m1.trans m2).ex q2
/-- a list of one's own that changes no more -/
theorem Good.freeze {α : Al} {F H : Hp} {σ : L2.St} (g : Good K e α F H σ ρ M) {i k : Nat} {ds : List D} (hi : ρ[i]? = some (some (.l k))) (hk : M[k]? = some (.lst ds)) (he : e.α.length ≤ k) :
    ∃ F', Same F F' ∧ Good K e α F' H σ (ρ.set i (some (.v (.lst ds)))) (M.set k .dead) := by
  obtain ⟨v, h1, p, hp, rfl⟩ := g.env.at' i _ hi
  obtain ⟨hF, vs, hvs, hd⟩ := g.sta.ob k _ p hk hp
  have s1 : Same F (upd F p.1 (.lst vs)) := fun b u h => by rw [upd_ne (ne_of_none h hF)]; exact h
  have hl : k < M.length := (List.getElem?_eq_some_iff.mp hk).1
  refine ⟨upd F p.1 (.lst vs), s1, ⟨?_, ⟨fun b u h => ?_, by simp [g.sta.len], fun j m q h1 h2 => ?_, g.sta.ap, g.sta.tr⟩, ⟨g.st.ex.trans s1, g.st.fr, g.st.tr, fun b h => ?_, g.st.pre⟩⟩⟩
  · have hv := (g.env.mono s1).set i (s := .v (.lst ds)) (v := .ref p.1) (show Den K _ (.lst ds) _ from ⟨p.1, vs, rfl, upd_same, Dens.mono K s1 _ _ hd⟩)
    have hl2 : i < σ.length := (List.getElem?_eq_some_iff.mp h1).1
    have e3 : σ.set i (some (.ref p.1)) = σ := by
      apply List.ext_getElem?
      intro j
      by_cases e : i = j
      · subst e; rw [List.getElem?_set_self hl2, h1]
      · rw [List.getElem?_set_ne e]
    rw [e3] at hv
    exact hv
  · by_cases e : b = p.1
    · subst e; rw [upd_same] at h; cases h; exact hvs
    · rw [upd_ne e] at h; exact g.sta.sub b u h
  · by_cases hjk : k = j
    · subst hjk
      rw [List.getElem?_set_self hl] at h1
      cases h1; trivial
    · rw [List.getElem?_set_ne hjk] at h1
      have ap := nth_ne g.sta h2 hp (Ne.symm hjk)
      have kk := g.sta.ob j m q h1 h2
      have z1 : ∀ b, b ≠ p.1 → F b = none → upd F p.1 (.lst vs) b = none := fun b n z => by rw [upd_ne n]; exact z
      cases m with
      | lst ds => exact ⟨z1 _ ap.1 kk.1, let ⟨vs, a, b⟩ := kk.2; ⟨vs, a, Dens.mono K s1 _ _ b⟩⟩
      | dic ks ds => exact ⟨z1 _ ap.1 kk.1, let ⟨vs, a, c, b⟩ := kk.2; ⟨vs, a, c, Dens.mono K s1 _ _ b⟩⟩
      | pin a0 ds => exact ⟨z1 _ ap.1 kk.1, kk.2.1, let ⟨vs, a, b⟩ := kk.2.2; ⟨vs, a, Dens.mono K s1 _ _ b⟩⟩
      | frz d od kvs ks ds => exact ⟨z1 _ ap.1 kk.1, kk.2.1, kk.2.2.1, let ⟨vs, c, e, b⟩ := kk.2.2.2; ⟨vs, c, e, Dens.mono K s1 _ _ b⟩⟩
      | ins C ns ds => exact ⟨z1 _ ap.1 kk.1, let ⟨dx, vs, a, c, b⟩ := kk.2; ⟨dx, vs, a, c, Dens.mono K s1 _ _ b⟩⟩
      | rng => exact ⟨z1 _ ap.1 kk.1, z1 _ ap.2.2.1 kk.2.1, kk.2.2⟩
      | dead => trivial
  · by_cases eb : b = p.1
    · subst eb
      refine .inr ?_
      obtain ⟨β, e1, hβ⟩ := g.st.pre
      have : p ∈ β := by
        rw [e1, List.getElem?_append_right he] at hp
        exact List.mem_of_getElem? hp
      exact (hβ p this).1
    · rw [upd_ne eb] at h; exact g.st.new b h
theorem r_freeze (i k : Nat) {ds : List D} (hi : ρ[i]? = some (some (.l k))) (hk : M[k]? = some (.lst ds)) (he : e.α.length ≤ k) (h : RunD K e t (ρ.set i (some (.v (.lst ds)))) (M.set k .dead) nx rt bk ct) : RunD K e t ρ M nx rt bk ct := fun X σ α F H g ok => by
  obtain ⟨F', z, g'⟩ := g.freeze hi hk he
  exact h X σ α F' H g' (ok.at z)
/-- the last things are forgotten -/
theorem Good.forget {α : Al} {F H : Hp} {σ : L2.St} (g : Good K e α F H σ ρ M) (n : Nat) (i : Nat) : Good K e α F H σ (ρ.set i none) M := by
  refine ⟨⟨by simp [g.env.len], fun j s q => ?_⟩, g.sta, g.st⟩
  by_cases hj : i = j
  · subst hj
    by_cases hl : i < ρ.length
    · rw [List.getElem?_set_self hl] at q; cases q
    · rw [List.getElem?_eq_none (by simpa using hl)] at q; cases q
  · rw [List.getElem?_set_ne hj] at q
    exact g.env.at' j s q
end
end DL

/-! DL3: walks, loops, comprehensions, calls over plain data. -/
namespace DL
open PySem L2
section
variable {K : PySem.W.Frag} {e : Ent} {ρ : Rho} {M : List MO} {nx bk ct : Rho → List MO → Prop} {rt : Sl → List MO → Prop} {Q : Sl → Prop} {te ta tb : TE} {t u : TS}

/-! ### what is walked -/
def ItOk (K : PySem.W.Frag) (J : It) (F : Hp) (items : List D) : Prop := ∀ (i : Nat) (F1 H : Hp), Same F F1 → Same F1 H → (items.length = i → J.stop i H) ∧
  ∀ d, items[i]? = some d → J.go i H ∧ ∀ x H', J.yld i H x H' → (H' = H ∧ Den K F1 d x) ∨ ∃ T vs ds, x = .ref T ∧ H T = none ∧ H' = upd H T (.tup vs) ∧ d = .tup ds ∧ Dens K F1 ds vs
def EvI (K : PySem.W.Frag) (wi : TI) (ρ : Rho) (M : List MO) (R : List D → Prop) : Prop := ∀ (σ : L2.St) (α : Al) (F H : Hp), EnvOk K α F σ ρ → Sta K α M F H → ∀ k : It → Hp → Prop,
  (∀ J F' H' items, Move α F H F' H' → Sta K α M F' H' → ItOk K J F' items → R items → k J H') → wi σ H k
theorem it_turn {α : Al} {J : It} {F F1 H : Hp} {items : List D} {i : Nat} {d : D} {x : V} {H' : Hp} (ok : ItOk K J F items) (s1 : Same F F1) (S : Sta K α M F1 H) (hd : items[i]? = some d) (y : J.yld i H x H') :
    ∃ F2, Move α F1 H F2 H' ∧ Sta K α M F2 H' ∧ Den K F2 d x := by
  rcases ((ok i F1 H s1 S.sub).2 d hd).2 x H' y with ⟨rfl, h⟩ | ⟨T, vs, ds, rfl, hT, rfl, rfl, h⟩
  · exact ⟨F1, .refl, S, h⟩
  · obtain ⟨m, S2⟩ := S.laid (o := .tup vs) hT
    exact ⟨_, m, S2, T, vs, rfl, .inl (.inl upd_same), Dens.mono K m.ex _ _ h⟩
theorem itl_ok {F : Hp} {a : Addr} {vs : List V} {ds : List D} (h : F a = some (.lst vs)) (hd : Dens K F ds vs) : ItOk K (Itl K a) F ds := fun i F1 H s1 s2 => by
  have hH : SqL K H a vs := SqL.of (s2 _ _ (s1 _ _ h))
  refine ⟨fun hl => ⟨vs, hH, by rw [← hd.length]; exact Nat.le_of_eq hl⟩, fun d e => ?_⟩
  obtain ⟨v, e2, r⟩ := hd.get e
  refine ⟨⟨vs, v, hH, e2⟩, fun x H' y => .inl ⟨y.1, ?_⟩⟩
  have := y.2 vs hH
  rw [e2] at this; cases this
  exact Den.mono K s1 _ _ r
theorem itt_ok {F : Hp} {a : Addr} {vs : List V} {ds : List D} (h : SqT K F a vs) (hd : Dens K F ds vs) : ItOk K (Itt K a) F ds := fun i F1 H s1 s2 => by
  have hH : SqT K H a vs := sqt_same K s2 (sqt_same K s1 h)
  refine ⟨fun hl => ⟨vs, hH, by rw [← hd.length]; exact Nat.le_of_eq hl⟩, fun d e => ?_⟩
  obtain ⟨v, e2, r⟩ := hd.get e
  refine ⟨⟨vs, v, hH, e2⟩, fun x H' y => .inl ⟨y.1, ?_⟩⟩
  have := y.2 vs hH
  rw [e2] at this; cases this
  exact Den.mono K s1 _ _ r
def rangeD (lo : Int) (n : Nat) : List D := (List.range n).map fun i : Nat => D.int (lo + (i : Int))
theorem rangeD_len {lo : Int} {n : Nat} : (rangeD lo n).length = n := by simp [rangeD]
theorem rangeD_get {lo : Int} {n i : Nat} {d : D} (h : (rangeD lo n)[i]? = some d) : i < n ∧ d = .int (lo + i) := by
  unfold rangeD at h
  rw [List.getElem?_map] at h
  by_cases hi : i < n
  · rw [List.getElem?_range hi] at h
    simp at h
    exact ⟨hi, h.symm⟩
  · rw [List.getElem?_eq_none (by simpa using hi)] at h; cases h
theorem itr_ok {F : Hp} {lo : Int} {n : Nat} : ItOk K (Itr lo n) F (rangeD lo n) := fun i F1 H s1 s2 => by
  refine ⟨fun hl => by rw [rangeD_len] at hl; exact Nat.le_of_eq hl, fun d e => ?_⟩
  obtain ⟨hi, rfl⟩ := rangeD_get e
  exact ⟨hi, fun x H' y => .inl ⟨y.1, y.2⟩⟩
theorem ei_list {R : List D → Prop} (h : EvP K te ρ M fun s => ∃ ds, s = .v (.lst ds) ∧ R ds) : EvI K (iList K te) ρ M R := fun σ α F H en S k kk =>
  h σ α F H en S _ fun v F1 H1 s m1 S1 o1 ⟨ds, e1, q⟩ => by
    subst e1
    obtain ⟨a, vs, rfl, h1, h2⟩ := o1
    exact ⟨a, rfl, ⟨vs, SqL.of (S1.sub _ _ h1)⟩, kk _ F1 H1 ds m1 S1 (itl_ok h1 h2) q⟩
theorem ei_tup {R : List D → Prop} (h : EvP K te ρ M fun s => ∃ ds, s = .v (.tup ds) ∧ R ds) : EvI K (iTup K te) ρ M R := fun σ α F H en S k kk =>
  h σ α F H en S _ fun v F1 H1 s m1 S1 o1 ⟨ds, e1, q⟩ => by
    subst e1
    obtain ⟨a, vs, rfl, h1, h2⟩ := o1
    exact ⟨a, rfl, ⟨vs, sqt_same K S1.sub h1⟩, kk _ F1 H1 ds m1 S1 (itt_ok h1 h2) q⟩
theorem ei_range1 {tl : TA} {R : List D → Prop} (h : EvA K tl ρ M fun ss => ∃ n, ss = [.v (.int n)] ∧ -(2 ^ 62) ≤ n ∧ n < 2 ^ 62 ∧ R (rangeD 0 n.toNat)) : EvI K (iRng1 tl) ρ M R := fun σ α F H en S k kk =>
  h σ α F H en S _ fun vs F1 H1 ss m1 S1 o1 ⟨n, e1, h1, h2, q⟩ => by
    subst e1
    obtain ⟨v, r, rfl, hv, r2⟩ := o1
    have hv : v = .int n := hv
    have r2 : r = [] := r2
    subst hv; subst r2
    exact ⟨n, rfl, h1, h2, kk _ F1 H1 _ m1 S1 itr_ok q⟩
theorem ei_range2 {tl : TA} {R : List D → Prop} (h : EvA K tl ρ M fun ss => ∃ i j, ss = [.v (.int i), .v (.int j)] ∧ (-(2 ^ 62) ≤ i ∧ i < 2 ^ 62 ∧ -(2 ^ 62) ≤ j ∧ j < 2 ^ 62) ∧ R (rangeD i (j - i).toNat)) : EvI K (iRng2 tl) ρ M R := fun σ α F H en S k kk =>
  h σ α F H en S _ fun vs F1 H1 ss m1 S1 o1 ⟨i, j, e1, h1, q⟩ => by
    subst e1
    obtain ⟨v, r, rfl, hv, r2⟩ := o1
    obtain ⟨w, r', rfl, hw, r3⟩ := r2
    have hv : v = .int i := hv
    have hw : w = .int j := hw
    have r3 : r' = [] := r3
    subst hv; subst hw; subst r3
    exact ⟨i, j, rfl, h1, kk _ F1 H1 _ m1 S1 itr_ok q⟩
theorem ei_enum {tl : TA} {R : List D → Prop} (h : EvA K tl ρ M fun ss => ∃ ds : List D, ss = [.v (.lst ds)] ∧ R (ds.mapIdx fun i d => .tup [.int (i : Int), d])) : EvI K (iEnum K tl) ρ M R := fun σ α F H en S k kk =>
  h σ α F H en S _ fun vs F1 H1 ss m1 S1 o1 ⟨ds, e1, q⟩ => by
    subst e1
    obtain ⟨v, r, rfl, hv, r2⟩ := o1
    have r2 : r = [] := r2
    subst r2
    obtain ⟨a, us, rfl, h1, h2⟩ := hv
    refine ⟨a, us, rfl, SqL.of (S1.sub _ _ h1), kk _ F1 H1 _ m1 S1 (fun i F2 H2 s1 s2 => ?_) q⟩
    have hH : SqL K H2 a us := SqL.of (s2 _ _ (s1 _ _ h1))
    refine ⟨fun hl => ⟨us, hH, by rw [← h2.length]; exact Nat.le_of_eq (by simpa using hl)⟩, fun d e => ?_⟩
    rw [List.getElem?_mapIdx] at e
    cases e3 : ds[i]? with
    | none => rw [e3] at e; cases e
    | some d0 =>
      rw [e3] at e
      cases e
      obtain ⟨v, e2, r⟩ := h2.get e3
      refine ⟨⟨us, v, hH, e2⟩, fun x H' ⟨T, y, ex, hT, eH, hy⟩ => .inr ⟨T, _, _, ex, hT, eH, rfl, ?_⟩⟩
      have := hy us hH
      rw [e2] at this; cases this
      exact Dens.cons rfl (Dens.cons (Den.mono K s1 _ _ r) Dens.nil)
theorem ei_zip {tl : TA} {R : List D → Prop} (h : EvA K tl ρ M fun ss => ∃ ds es : List D, ss = [.v (.lst ds), .v (.lst es)] ∧ R (ds.zipWith (fun d c => .tup [d, c]) es)) : EvI K (iZip K tl) ρ M R := fun σ α F H en S k kk =>
  h σ α F H en S _ fun vs F1 H1 ss m1 S1 o1 ⟨ds, es, e1, q⟩ => by
    subst e1
    obtain ⟨v, r, rfl, hv, r2⟩ := o1
    obtain ⟨w, r', rfl, hw, r3⟩ := r2
    have r3 : r' = [] := r3
    subst r3
    obtain ⟨a, us, rfl, h1, h2⟩ := hv
    obtain ⟨b, ws, rfl, h3, h4⟩ := hw
    refine ⟨a, b, us, ws, rfl, SqL.of (S1.sub _ _ h1), SqL.of (S1.sub _ _ h3), kk _ F1 H1 _ m1 S1 (fun i F2 H2 s1 s2 => ?_) q⟩
    have hH : SqL K H2 a us := SqL.of (s2 _ _ (s1 _ _ h1))
    have hH' : SqL K H2 b ws := SqL.of (s2 _ _ (s1 _ _ h3))
    refine ⟨fun hl => ⟨us, ws, hH, hH', ?_⟩, fun d e => ?_⟩
    · rw [List.length_zipWith, h2.length, h4.length] at hl; omega
    · rw [List.getElem?_zipWith] at e
      cases e3 : ds[i]? with
      | none => rw [e3] at e; cases e
      | some d0 =>
        cases e4 : es[i]? with
        | none => rw [e3, e4] at e; cases e
        | some c0 =>
          rw [e3, e4] at e
          cases e
          obtain ⟨v, e5, r⟩ := h2.get e3
          obtain ⟨w, e6, r'⟩ := h4.get e4
          refine ⟨⟨us, ws, v, w, hH, hH', e5, e6⟩, fun x H' ⟨T, y, z, ex, hT, eH, hy, hz⟩ => .inr ⟨T, _, _, ex, hT, eH, rfl, ?_⟩⟩
          have p1 := hy us hH
          have p2 := hz ws hH'
          rw [e5] at p1; cases p1
          rw [e6] at p2; cases p2
          exact Dens.cons (Den.mono K s1 _ _ r) (Dens.cons (Den.mono K s1 _ _ r') Dens.nil)

/-! ### targets: names, tuples of names -/
def EvG (K : PySem.W.Frag) (g : TG) (is : List Nat) (d : D) (ρ : Rho) (R : Rho → Prop) : Prop := ∀ (σ : L2.St) (α : Al) (F H : Hp) (v : V), EnvOk K α F σ ρ → Same F H → Den K F d v → ∀ k : L2.St → Hp → Prop,
  (∀ σ' ρ', EnvOk K α F σ' ρ' → σ'.length = σ.length → (∀ j : Nat, j ∉ is → σ'[j]? = σ[j]?) → R ρ' → k σ' H) → g v σ H k
def EvGs (K : PySem.W.Frag) (g : TGs) (is : List Nat) (ds : List D) (ρ : Rho) (R : Rho → Prop) : Prop := ∀ (σ : L2.St) (α : Al) (F H : Hp) (vs : List V), EnvOk K α F σ ρ → Same F H → Dens K F ds vs → ∀ k : L2.St → Hp → Prop,
  (∀ σ' ρ', EnvOk K α F σ' ρ' → σ'.length = σ.length → (∀ j : Nat, j ∉ is → σ'[j]? = σ[j]?) → R ρ' → k σ' H) → g vs σ H k
theorem eg_name {i : Nat} {is : List Nat} {d : D} {R : Rho → Prop} (q : R (ρ.set i (some (.v d)))) (hi : i ∈ is := by simp) : EvG K (gName i) is d ρ R := fun σ α F H v en s h k kk =>
  kk _ _ (en.set i (s := .v d) h) (by simp) (fun j hj => List.getElem?_set_ne (fun z => hj (by rw [← z]; exact hi))) q
theorem eg_nil {is : List Nat} {R : Rho → Prop} (q : R ρ) : EvGs K gNil is [] ρ R := fun σ α F H vs en s h k kk => by
  have h : vs = [] := h
  exact ⟨h, kk _ _ en rfl (fun _ _ => rfl) q⟩
theorem eg_cons {g : TG} {gs : TGs} {is : List Nat} {d : D} {ds : List D} {R : Rho → Prop} (h : EvG K g is d ρ fun ρ' => EvGs K gs is ds ρ' R) : EvGs K (gCons g gs) is (d :: ds) ρ R := fun σ α F H vs en s hd k kk => by
  obtain ⟨v, r, rfl, h1, h2⟩ := hd
  exact ⟨v, r, rfl, h σ α F H v en s h1 _ fun σ' ρ' en' l' f' q => q σ' α F H r en' s h2 k fun σ2 ρ2 en2 l2 f2 q2 => kk σ2 ρ2 en2 (l2.trans l') (fun j hj => (f2 j hj).trans (f' j hj)) q2⟩
theorem eg_tup {g : TGs} {is : List Nat} {n : Nat} {ds : List D} {R : Rho → Prop} (hl : ds.length = n) (h : EvGs K g is ds ρ R) : EvG K (gTup K n g) is (.tup ds) ρ R := fun σ α F H v en s hd k kk => by
  obtain ⟨a, vs, rfl, h1, h2⟩ := hd
  exact ⟨a, vs, rfl, sqt_same K s h1, by rw [← h2.length]; exact hl, h σ α F H vs en s h2 k kk⟩
/-- a, b = e -/
theorem r_asgG {g : TG} {is : List Nat} (h : EvP K te ρ M fun s => ∃ d, s = .v d ∧ EvG K g is d ρ fun ρ' => nx ρ' M) : RunD K e (tAsg te g) ρ M nx rt bk ct := fun X σ α F H gd ok =>
  h σ α F H gd.env gd.sta _ fun v F1 H1 s m1 S1 o1 ⟨d, e1, q⟩ => by
    subst e1
    exact q σ α F1 H1 v (gd.env.mono m1.ex) S1.sub o1 _ fun σ' ρ' en' _ _ q' => ok.nx _ α F1 H1 _ M ⟨en', S1, gd.st.move m1⟩ m1.ex q'

/-! ### for -/
theorem r_for {wi : TI} {g : TG} (is : List Nat) (h : EvI K wi ρ M fun items => ∃ I : Nat → Rho → List MO → Prop, I 0 ρ M ∧
      (∀ i d ρ' M', items[i]? = some d → I i ρ' M' → EvG K g is d ρ' fun ρ2 => RunD K e t ρ2 M' (I (i + 1)) rt nx (I (i + 1))) ∧
      ∀ ρ' M', I items.length ρ' M' → nx ρ' M') : RunD K e (tFor wi g t) ρ M nx rt bk ct := fun X σ α F H gd ok =>
  h σ α F H gd.env gd.sta _ fun J F1 H1 items m1 S1 it ⟨I, h0, hs, hd⟩ => by
    refine ⟨fun i m σ' H' => m = items.length - i ∧ i ≤ items.length ∧ ∃ ρ' M' α' F', Good K e α' F' H' σ' ρ' M' ∧ Same F1 F' ∧ I i ρ' M', ⟨_, rfl, Nat.zero_le _, ρ, M, α, F1, gd.move m1 S1, fun _ _ z => z, h0⟩, ?_⟩
    rintro i m σ' H' ⟨rfl, hi, ρ', M', α', F', g', s', p⟩
    by_cases hlt : i < items.length
    · have hget : items[i]? = some items[i] := List.getElem?_eq_getElem hlt
      refine .inr ⟨((it i F' H' s' g'.sta.sub).2 _ hget).1, fun σ2 H2 => ∃ ρ2 M2 α2 F2, Good K e α2 F2 H2 σ2 ρ2 M2 ∧ Same F1 F2 ∧ I (i + 1) ρ2 M2, fun σ2 H2 ⟨ρ2, M2, α2, F2, g2, s2, p2⟩ => ⟨items.length - (i + 1), by omega, rfl, hlt, ρ2, M2, α2, F2, g2, s2, p2⟩, fun x H2 y => ?_⟩
      obtain ⟨F2, m2, S2, hx⟩ := it_turn it s' g'.sta hget y
      have g2 := g'.move m2 S2
      refine hs i _ ρ' M' hget p σ' α' F2 H2 x g2.env S2.sub hx _ fun σ3 ρ3 en3 _ _ q3 => ?_
      have s12 : Same F1 F2 := s'.trans m2.ex
      have ok2 := ok.at (m1.ex.trans s12)
      exact q3 _ σ3 α' F2 H2 ⟨en3, S2, g2.st⟩ ⟨fun σ4 α4 F4 H4 ρ4 M4 g4 z4 q4 => ⟨ρ4, M4, α4, F4, g4, s12.trans z4, q4⟩, ok2.rt, ok2.nx, fun σ4 α4 F4 H4 ρ4 M4 g4 z4 q4 => ⟨ρ4, M4, α4, F4, g4, s12.trans z4, q4⟩⟩
    · have ei : i = items.length := by omega
      subst ei
      exact .inl ⟨(it _ F' H' s' g'.sta.sub).1 rfl, ok.nx _ _ _ _ _ _ g' (m1.ex.trans s') (hd ρ' M' p)⟩

/-! ### while -/
theorem r_while {c : TT} (h : ∃ I : Nat → Rho → List MO → Prop, (∃ m, I m ρ M) ∧ ∀ m ρ' M', I m ρ' M' → EvT K c ρ' M' fun b => if b = true then RunD K e t ρ' M' (fun ρ2 M2 => ∃ m', m' < m ∧ I m' ρ2 M2) rt nx (fun ρ2 M2 => ∃ m', m' < m ∧ I m' ρ2 M2) else nx ρ' M') :
    RunD K e (tWhile c t) ρ M nx rt bk ct := fun X σ α F H gd ok => by
  obtain ⟨I, ⟨m0, h0⟩, hs⟩ := h
  refine ⟨fun m σ' H' => ∃ ρ' M' α' F', Good K e α' F' H' σ' ρ' M' ∧ Same F F' ∧ I m ρ' M', ⟨m0, ρ, M, α, F, gd, .refl F, h0⟩, ?_⟩
  rintro m σ' H' ⟨ρ', M', α', F', g', s', p⟩
  refine hs m ρ' M' p σ' α' F' H' g'.env g'.sta _ fun b F2 H2 m2 S2 q2 => ?_
  cases b with
  | true =>
    refine iteT ⟨fun σ2 H2 => ∃ m', m' < m ∧ ∃ ρ2 M2 α2 F2, Good K e α2 F2 H2 σ2 ρ2 M2 ∧ Same F F2 ∧ I m' ρ2 M2, fun σ2 H2 z => z, ?_⟩
    have s12 : Same F F2 := s'.trans m2.ex
    have ok2 := ok.at s12
    have q2 : RunD K e t ρ' M' (fun ρ2 M2 => ∃ m', m' < m ∧ I m' ρ2 M2) rt nx (fun ρ2 M2 => ∃ m', m' < m ∧ I m' ρ2 M2) := q2
    exact q2 _ σ' α' F2 H2 (g'.move m2 S2) ⟨fun σ4 α4 F4 H4 ρ4 M4 g4 z4 ⟨m', l, q4⟩ => ⟨m', l, ρ4, M4, α4, F4, g4, s12.trans z4, q4⟩, ok2.rt, ok2.nx, fun σ4 α4 F4 H4 ρ4 M4 g4 z4 ⟨m', l, q4⟩ => ⟨m', l, ρ4, M4, α4, F4, g4, s12.trans z4, q4⟩⟩
  | false =>
    refine iteF ?_
    exact ok.nx _ _ _ _ _ _ (g'.move m2 S2) (s'.trans m2.ex) q2

/-! ### an object of nobody: it is tracked, not frozen, no numbered thing -/
theorem Sta.extra {α : Al} {F H : Hp} (S : Sta K α M F H) {p : Addr} {o : HO} (hF : F p = none) (ha : ∀ q, q ∈ α → p ≠ q.1 ∧ p ≠ q.2) : Sta K α M F (upd H p o) := by
  have s2 : ∀ b, b ≠ p → upd H p o b = H b := fun b h => upd_ne h
  have t2 : ∀ b, H b ≠ none → upd H p o b ≠ none := fun b h => by
    by_cases e : b = p
    · subst e; rw [upd_same]; simp
    · rw [upd_ne e]; exact h
  refine ⟨fun b u h => ?_, S.len, fun i m q h1 h2 => ?_, S.ap, fun q hq => ⟨t2 _ (S.tr q hq).1, t2 _ (S.tr q hq).2⟩⟩
  · rw [upd_ne (fun z => by rw [z, hF] at h; cases h)]; exact S.sub b u h
  · have ap := ha q (List.mem_of_getElem? h2)
    have kk := S.ob i m q h1 h2
    have s1 := s2 q.1 (Ne.symm ap.1)
    have s3 := s2 q.2 (Ne.symm ap.2)
    cases m with
    | lst ds => exact ⟨kk.1, by rw [s1]; exact kk.2⟩
    | dic ks ds => exact ⟨kk.1, by rw [s1]; exact kk.2⟩
    | pin a0 ds => exact ⟨kk.1, by rw [s1]; exact kk.2⟩
    | frz d od kvs ks ds => exact ⟨kk.1, by rw [s1]; exact kk.2⟩
    | ins C ns ds => exact ⟨kk.1, by rw [s1]; exact kk.2⟩
    | rng => exact ⟨kk.1, kk.2.1, by unfold Rng; rw [s1, s3]; exact kk.2.2⟩
    | dead => trivial
theorem Sta.ice {α : Al} {F H : Hp} (S : Sta K α M F H) {p : Addr} {o : HO} (hF : F p = none) (hH : H p = some o) (ha : ∀ q, q ∈ α → p ≠ q.1 ∧ p ≠ q.2) : Same F (upd F p o) ∧ Sta K α M (upd F p o) H := by
  have s1 : Same F (upd F p o) := fun b u h => by rw [upd_ne (ne_of_none h hF)]; exact h
  refine ⟨s1, fun b u h => ?_, S.len, fun i m q h1 h2 => ?_, S.ap, S.tr⟩
  · by_cases e : b = p
    · subst e; rw [upd_same] at h; cases h; exact hH
    · rw [upd_ne e] at h; exact S.sub b u h
  · have ap := ha q (List.mem_of_getElem? h2)
    have kk := S.ob i m q h1 h2
    have z1 : ∀ b, b ≠ p → F b = none → upd F p o b = none := fun b n z => by rw [upd_ne n]; exact z
    cases m with
    | lst ds => exact ⟨z1 _ (Ne.symm ap.1) kk.1, let ⟨vs, a, b⟩ := kk.2; ⟨vs, a, Dens.mono K s1 _ _ b⟩⟩
    | dic ks ds => exact ⟨z1 _ (Ne.symm ap.1) kk.1, let ⟨vs, a, c, b⟩ := kk.2; ⟨vs, a, c, Dens.mono K s1 _ _ b⟩⟩
    | pin a0 ds => exact ⟨z1 _ (Ne.symm ap.1) kk.1, kk.2.1, let ⟨vs, a, b⟩ := kk.2.2; ⟨vs, a, Dens.mono K s1 _ _ b⟩⟩
    | frz d od kvs ks ds => exact ⟨z1 _ (Ne.symm ap.1) kk.1, kk.2.1, kk.2.2.1, let ⟨vs, c, e, b⟩ := kk.2.2.2; ⟨vs, c, e, Dens.mono K s1 _ _ b⟩⟩
    | ins C ns ds => exact ⟨z1 _ (Ne.symm ap.1) kk.1, let ⟨dx, vs, a, c, b⟩ := kk.2; ⟨dx, vs, a, c, Dens.mono K s1 _ _ b⟩⟩
    | rng => exact ⟨z1 _ (Ne.symm ap.1) kk.1, z1 _ (Ne.symm ap.2) kk.2.1, kk.2.2⟩
    | dead => trivial
theorem Sta.notin {α : Al} {F H : Hp} (S : Sta K α M F H) {p : Addr} (hp : H p = none) : ∀ q, q ∈ α → p ≠ q.1 ∧ p ≠ q.2 := fun q hq =>
  ⟨fun z => (S.tr q hq).1 (by rw [← z]; exact hp), fun z => (S.tr q hq).2 (by rw [← z]; exact hp)⟩

/-! ### comprehensions -/
def wipeR (ρ : Rho) : List Nat → Rho
  | [] => ρ
  | v :: vs => (wipeR ρ vs).set v none
theorem EnvOk.wipe {α : Al} {F : Hp} {σ : L2.St} (h : EnvOk K α F σ ρ) : ∀ vs : List Nat, EnvOk K α F (L2.wipe σ vs) (wipeR ρ vs)
  | [] => h
  | v :: vs => (EnvOk.wipe h vs).setN v
theorem wipe_in {σ : L2.St} {i : Nat} : ∀ {vs : List Nat}, i ∈ vs → (L2.wipe σ vs)[i]? = if i < σ.length then some none else none
  | [], h => by simp at h
  | v :: vs, h => by
    unfold L2.wipe
    by_cases e : v = i
    · subst e
      by_cases hl : v < σ.length
      · rw [List.getElem?_set_self (by rw [wipe_length]; exact hl), if_pos hl]
      · rw [List.getElem?_eq_none (by rw [List.length_set, wipe_length]; omega), if_neg hl]
    · rw [List.getElem?_set_ne e]
      exact wipe_in (by simpa [Ne.symm e] using h)
theorem wipe_eq {σ σ' : L2.St} {vs : List Nat} (hl : σ'.length = σ.length) (h : ∀ j : Nat, j ∉ vs → σ'[j]? = σ[j]?) : L2.wipe σ' vs = L2.wipe σ vs := by
  apply List.ext_getElem?
  intro j
  by_cases e : j ∈ vs
  · rw [wipe_in e, wipe_in e, hl]
  · rw [wipe_out e, wipe_out e, h j e]
theorem wipe_wipe {σ : L2.St} {vs : List Nat} : L2.wipe (L2.wipe σ vs) vs = L2.wipe σ vs := wipe_eq (wipe_length σ vs) fun j e => wipe_out e
theorem ev_lc {wi : TI} {g : TG} {tt : TT} {vs : List Nat} (h : EvI K wi ρ M fun items => items.length ≤ 16777216 ∧ ∃ I : Nat → List D → Prop, I 0 [] ∧
      (∀ i d acc, items[i]? = some d → I i acc → EvG K g vs d (wipeR ρ vs) fun ρ' => EvT K tt ρ' M fun b => if b = true then EvP K te ρ' M (fun s => ∃ d', s = .v d' ∧ I (i + 1) (acc ++ [d'])) else I (i + 1) acc) ∧
      ∀ acc, I items.length acc → Q (.v (.lst acc))) : EvP K (tLc wi g tt te vs) ρ M Q := fun σ α F H en S k kk =>
  h σ α F H en S _ fun J F1 H1 items m1 S1 it ⟨hz, I, h0, hs, hd⟩ => by
    intro A hA
    have hFA : F1 A = none := S1.sub.free hA
    have hna := S1.notin hA
    refine ⟨fun i m H' => m = items.length - i ∧ i ≤ items.length ∧ ∃ F' acc us, Move α F1 H1 F' H' ∧ Sta K α M F' H' ∧ H' A = some (.lst us) ∧ F' A = none ∧ Dens K F' acc us ∧ acc.length ≤ i ∧ I i acc,
      ⟨_, rfl, Nat.zero_le _, F1, [], [], ?_, S1.extra hFA hna, upd_same, hFA, rfl, Nat.le_refl _, h0⟩, ?_⟩
    · exact ⟨fun _ _ z => z, fun b o q _ => by rw [upd_ne (ne_of_none q hA)]; exact q, fun b q => by { rw [upd_ne (fun z => q (by rw [z]; exact hA))]; exact q }, fun b q => .inl q⟩
    rintro i m H' ⟨rfl, hi, F', acc, us, mv, S', hAt, hFA', hden, hlen, p⟩
    by_cases hlt : i < items.length
    · have hget : items[i]? = some items[i] := List.getElem?_eq_getElem hlt
      refine .inr ⟨((it i F' H' mv.ex S'.sub).2 _ hget).1, fun H2 => ∃ F2 acc us, Move α F1 H1 F2 H2 ∧ Sta K α M F2 H2 ∧ H2 A = some (.lst us) ∧ F2 A = none ∧ Dens K F2 acc us ∧ acc.length ≤ i + 1 ∧ I (i + 1) acc,
        fun H2 ⟨F2, acc, us, a, b, c, d, f, g, h⟩ => ⟨items.length - (i + 1), by omega, rfl, hlt, F2, acc, us, a, b, c, d, f, g, h⟩, fun x H2 y => ?_⟩
      obtain ⟨F2, m2, S2, hx⟩ := it_turn it mv.ex S' hget y
      have enw := ((en.mono m1.ex).mono (mv.ex.trans m2.ex)).wipe vs
      refine hs i _ acc hget p (L2.wipe σ vs) α F2 H2 x enw S2.sub hx _ fun σ3 ρ3 en3 l3 f3 q3 => ⟨?_, ?_⟩
      · have := wipe_eq (σ := L2.wipe σ vs) l3 f3
        rw [wipe_wipe] at this
        exact this
      refine q3 σ3 α F2 H2 en3 S2 _ fun b F3 H3 m3 S3 q4 => ?_
      have mA : Move α F' H' F3 H3 := m2.trans m3
      have hA3 : H3 A = some (.lst us) := mA.fr A _ hAt hna
      have nF : ∀ F4 H4, Move α F' H' F4 H4 → F4 A = none := fun F4 H4 mm => by
        cases z : F4 A with
        | none => rfl
        | some o =>
          rcases mm.new A (by rw [z]; simp) with q | q
          · exact absurd hFA' q
          · rw [hAt] at q; cases q
      cases b with
      | true =>
        refine iteT ?_
        have q4 : EvP K te ρ3 M (fun s => ∃ d', s = .v d' ∧ I (i + 1) (acc ++ [d'])) := q4
        refine q4 σ3 α F3 H3 (en3.mono m3.ex) S3 _ fun v F4 H4 s m4 S4 o4 ⟨d', e4, p4⟩ => ?_
        subst e4
        have mB : Move α F' H' F4 H4 := mA.trans m4
        have hA4 : H4 A = some (.lst us) := mB.fr A _ hAt hna
        have mC : Move α F1 H1 F4 H4 := mv.trans mB
        refine ⟨us, hA4, by rw [← hden.length, sizeLine_eq]; omega, F4, acc ++ [d'], us ++ [v], ⟨mC.ex, fun b o q z => ?_, fun b q => ?_, mC.new⟩, S4.extra (nF _ _ mB) hna, upd_same, nF _ _ mB, (Dens.mono K mB.ex _ _ hden).append (Dens.cons o4 Dens.nil), by simp; omega, p4⟩
        · rw [upd_ne (ne_of_none q hA)]; exact mC.fr b o q z
        · rw [upd_ne (fun z => q (by rw [z]; exact hA))]; exact mC.tr b q
      | false =>
        refine iteF ?_
        exact ⟨F3, acc, us, mv.trans mA, S3, hA3, nF _ _ mA, Dens.mono K mA.ex _ _ hden, by omega, q4⟩
    · have ei : i = items.length := by omega
      subst ei
      obtain ⟨s5, S5⟩ := S'.ice hFA' hAt hna
      refine .inl ⟨(it _ F' H' mv.ex S'.sub).1 rfl, kk (.ref A) _ H' (.v (.lst acc)) ⟨(m1.trans mv).ex.trans s5, fun b o q z => (m1.trans mv).fr b o q z, (m1.trans mv).tr, fun b q => ?_⟩ S5 (show Den K _ (.lst acc) _ from ⟨A, us, rfl, upd_same, Dens.mono K s5 _ _ hden⟩) (hd acc p)⟩
      by_cases eb : b = A
      · subst eb; exact .inr (none_back (m1.tr b) hA)
      · rw [upd_ne eb] at q; exact (m1.trans mv).new b q
/-- .. of what is known item by item -/
theorem ev_lcM {wi : TI} {g : TG} {vs : List Nat} (f : D → D) (h : EvI K wi ρ M fun items => items.length ≤ 16777216 ∧
      (∀ (i : Nat) d, items[i]? = some d → EvG K g vs d (wipeR ρ vs) fun ρ' => EvP K te ρ' M fun s => s = .v (f d)) ∧ Q (.v (.lst (items.map f)))) : EvP K (tLc wi g tYes te vs) ρ M Q := by
  refine ev_lc fun σ α F H en S k kk => h σ α F H en S k fun J F1 H1 items m S1 ok ⟨hz, hs, hd⟩ => kk J F1 H1 items m S1 ok ⟨hz, fun i acc => acc = (items.take i).map f, by simp, fun i d acc hget ea => ?_, fun acc ea => ?_⟩
  · have ea : acc = (items.take i).map f := ea
    intro σ α F H v en s hd k kk
    refine hs i d hget σ α F H v en s hd k fun σ' ρ' a b c q => kk σ' ρ' a b c ?_
    intro σ α F H en S k kk
    refine kk true F H .refl S ?_
    refine iteT (q.mono fun s es => ⟨_, es, ?_⟩)
    subst ea
    have hi : i < items.length := (List.getElem?_eq_some_iff.mp hget).1
    have e2 : items[i] = d := (List.getElem?_eq_some_iff.mp hget).2
    rw [List.take_succ_eq_append_getElem hi, List.map_append, e2]
    rfl
  · have ea : acc = (items.take items.length).map f := ea
    rw [List.take_length] at ea
    subst ea
    exact hd

/-! ### calls -/
/-- a def's promise: args by x, things by x; what comes out of x, and the things then -/
def SpF {ι : Type} (K : PySem.W.Frag) (args : ι → List Sl) (Mi : ι → List MO) (pre : ι → Prop) (post : ι → D → List MO → Prop) : Sp := fun vs H Q _ =>
  ∃ (x : ι) (α : Al) (F : Hp), SlsOk K α F (args x) vs ∧ Sta K α (Mi x) F H ∧ pre x ∧ ∀ v F' H' d M', Move α F H F' H' → Sta K α M' F' H' → Den K F' d v → post x d M' → Q v H'
/-- plain data in, plain data out -/
def SpP {ι : Type} (K : PySem.W.Frag) (args : ι → List D) (pre : ι → Prop) (post : ι → D → Prop) : Sp := SpF K (fun x => (args x).map Sl.v) (fun _ => []) pre (fun x d _ => post x d)
/-- .. with the source of draws ahead -/
def SpG {ι : Type} (K : PySem.W.Frag) (args : ι → List D) (pre : ι → Prop) (post : ι → D → Prop) : Sp := SpF K (fun x => .l 0 :: (args x).map Sl.v) (fun _ => [.rng]) pre (fun x d M' => M' = [.rng] ∧ post x d)
theorem SlsOk.ofD {α β : Al} {F : Hp} : ∀ {ds : List D} {vs : List V}, SlsOk K α F (ds.map Sl.v) vs → SlsOk K β F (ds.map Sl.v) vs
  | [], _, h => h
  | d :: ds, _, h => by
    obtain ⟨v, r, h1, h2, h3⟩ := h
    exact ⟨v, r, h1, h2, SlsOk.ofD h3⟩
theorem sta_nil {F H : Hp} (s : Same F H) : Sta K [] [] F H := ⟨s, rfl, fun i m p h => by simp at h, fun i j p q _ h => by simp at h, fun p h => by simp at h⟩
theorem Move.widen {α β : Al} {F H F' H' : Hp} (m : Move α F H F' H') (h : ∀ p, p ∈ α → p ∈ β) : Move β F H F' H' := ⟨m.ex, fun b o q k => m.fr b o q fun p hp => k p (h p hp), m.tr, m.new⟩
theorem MObj.keep {F H F' H' : Hp} {m : MO} {p : Addr × Addr} (h : MObj K F H m p) (s : Same F F') (h1 : F p.1 = none → F' p.1 = none) (h2 : F p.2 = none → F' p.2 = none) (k1 : ∀ o, H p.1 = some o → H' p.1 = some o) (k2 : ∀ o, H p.2 = some o → H' p.2 = some o) : MObj K F' H' m p := by
  cases m with
  | lst ds => exact ⟨h1 h.1, let ⟨vs, a, b⟩ := h.2; ⟨vs, k1 _ a, Dens.mono K s _ _ b⟩⟩
  | dic ks ds => exact ⟨h1 h.1, let ⟨vs, a, c, b⟩ := h.2; ⟨vs, k1 _ a, c, Dens.mono K s _ _ b⟩⟩
  | pin a0 ds => exact ⟨h1 h.1, h.2.1, let ⟨vs, a, b⟩ := h.2.2; ⟨vs, k1 _ a, Dens.mono K s _ _ b⟩⟩
  | frz d od kvs ks ds => exact ⟨h1 h.1, h.2.1, k1 _ h.2.2.1, let ⟨vs, c, e, b⟩ := h.2.2.2; ⟨vs, c, e, Dens.mono K s _ _ b⟩⟩
  | ins C ns ds => exact ⟨h1 h.1, let ⟨dx, vs, a, c, b⟩ := h.2; ⟨dx, vs, k1 _ a, c, Dens.mono K s _ _ b⟩⟩
  | rng => exact ⟨h1 h.1, h2 h.2.1, let ⟨s, i, c, h0, a1, a2, h3⟩ := h.2.2; ⟨s, i, c, h0, k1 _ a1, k2 _ a2, h3⟩⟩
  | dead => trivial
theorem Move.fnone {α : Al} {F H F' H' : Hp} (m : Move α F H F' H') {b : Addr} (h1 : H b ≠ none) (h : F b = none) : F' b = none := by
  cases z : F' b with
  | none => rfl
  | some o =>
    rcases m.new b (by rw [z]; simp) with q | q
    · exact absurd h q
    · exact absurd q h1
/-- behind a call that knows none of the things -/
theorem Sta.keep0 {α : Al} {F H F' H' : Hp} (S : Sta K α M F H) (m : Move [] F H F' H') (s' : Same F' H') : Sta K α M F' H' := by
  refine ⟨s', S.len, fun i mo p h1 h2 => ?_, S.ap, fun p hp => ⟨m.tr _ (S.tr p hp).1, m.tr _ (S.tr p hp).2⟩⟩
  have hp := S.tr p (List.mem_of_getElem? h2)
  exact (S.ob i mo p h1 h2).keep m.ex (m.fnone hp.1) (m.fnone hp.2) (fun o q => m.fr _ o q fun p hp => by simp at hp) (fun o q => m.fr _ o q fun p hp => by simp at hp)
/-- behind a call that knows the j-th thing alone -/
theorem Sta.keep1 {α : Al} {F H F' H' : Hp} {j : Nat} {p0 : Addr × Addr} {m' : MO} (S : Sta K α M F H) (hj : α[j]? = some p0) (m : Move [p0] F H F' H') (s' : Sta K [p0] [m'] F' H') : Sta K α (M.set j m') F' H' := by
  refine ⟨s'.sub, by simp [S.len], fun i mo p h1 h2 => ?_, S.ap, fun p hp => ⟨m.tr _ (S.tr p hp).1, m.tr _ (S.tr p hp).2⟩⟩
  by_cases hij : j = i
  · subst hij
    have hl : j < M.length := by rw [S.len]; exact (List.getElem?_eq_some_iff.mp h2).1
    rw [List.getElem?_set_self hl] at h1
    cases h1
    rw [hj] at h2; cases h2
    exact s'.ob 0 m' p0 rfl rfl
  · rw [List.getElem?_set_ne hij] at h1
    have hp := S.tr p (List.mem_of_getElem? h2)
    have ap := nth_ne S h2 hj (Ne.symm hij)
    exact (S.ob i mo p h1 h2).keep m.ex (m.fnone hp.1) (m.fnone hp.2)
      (fun o q => m.fr _ o q fun r hr => by { simp at hr; subst hr; exact ⟨ap.1, ap.2.1⟩ }) (fun o q => m.fr _ o q fun r hr => by { simp at hr; subst hr; exact ⟨ap.2.2.1, ap.2.2.2⟩ })
theorem sta_one {α : Al} {F H : Hp} {j : Nat} {p0 : Addr × Addr} {m0 : MO} (S : Sta K α M F H) (hj : α[j]? = some p0) (hm : M[j]? = some m0) : Sta K [p0] [m0] F H := by
  refine ⟨S.sub, rfl, fun i m p h1 h2 => ?_, fun i j p q hij h1 h2 => ?_, fun p hp => ?_⟩
  · cases i with
    | zero =>
      simp at h1 h2
      subst h1; subst h2
      exact S.ob j m0 p0 hm hj
    | succ i => simp at h1
  · cases j with
    | zero => omega
    | succ j => simp at h2
  · simp at hp; subst hp
    exact S.tr p (List.mem_of_getElem? hj)
theorem ec_callP {ι : Type} {args : ι → List D} {pre : ι → Prop} {post : ι → D → Prop} {ta : TA} {X : XK} (h : EvA K ta ρ M fun ss => ∃ x, ss = (args x).map Sl.v ∧ pre x ∧ ∀ d, post x d → Q (.v d)) : EvP K (tCall (SpP K args pre post) [] X ta) ρ M Q := fun σ α F H en S k kk =>
  h σ α F H en S _ fun vs F1 H1 ss m1 S1 o1 ⟨x, e1, hp, q⟩ => by
    subst e1
    refine ⟨x, [], F1, by rw [List.append_nil]; exact o1.ofD, sta_nil S1.sub, hp, fun v F' H' d M' m2 S2 o2 p2 => ?_⟩
    exact kk v F' H' (.v d) (m1.trans (m2.widen fun _ h => by simp at h)) (S1.keep0 m2 S2.sub) o2 (q d p2)
theorem ec_callG {ι : Type} {args : ι → List D} {pre : ι → Prop} {post : ι → D → Prop} {ta : TA} {X : XK} (h : EvA K ta ρ M fun ss => ∃ x j, ss = .l j :: (args x).map Sl.v ∧ M[j]? = some .rng ∧ pre x ∧ ∀ d, post x d → Q (.v d)) : EvP K (tCall (SpG K args pre post) [] X ta) ρ M Q := fun σ α F H en S k kk =>
  h σ α F H en S _ fun vs F1 H1 ss m1 S1 o1 ⟨x, j, e1, hj, hp, q⟩ => by
    subst e1
    obtain ⟨v0, r, rfl, ⟨p0, hp0, rfl⟩, o2⟩ := o1
    have S0 := sta_one S1 hp0 hj
    refine ⟨x, [p0], F1, by rw [List.append_nil]; exact ⟨_, r, rfl, ⟨p0, rfl, rfl⟩, o2.ofD⟩, S0, hp, fun v F' H' d M' m2 S2 o3 ⟨eM, p2⟩ => ?_⟩
    subst eM
    have S3 := S1.keep1 hp0 m2 S2
    have e2 : M.set j .rng = M := by
      have hl : j < M.length := (List.getElem?_eq_some_iff.mp hj).1
      apply List.ext_getElem?
      intro i
      by_cases hij : j = i
      · subst hij; rw [List.getElem?_set_self hl, hj]
      · rw [List.getElem?_set_ne hij]
    rw [e2] at S3
    exact kk v F' H' (.v d) (m1.trans (m2.widen fun p hp => by { simp at hp; subst hp; exact List.mem_of_getElem? hp0 })) S3 o3 (q d p2)

/-! ### a def's body -/
def startR (n : Nat) (ss : List Sl) : Rho := ss.map some ++ List.replicate (n - ss.length) none
theorem env_start {α : Al} {F : Hp} {N : List Str} : ∀ {ss : List Sl} {vs : List V}, SlsOk K α F ss vs → EnvOk K α F (L2.start N vs) (startR N.length ss) := fun {ss vs} h => by
  have hl := h.length
  refine ⟨by simp [L2.start, startR, hl], fun i s q => ?_⟩
  unfold startR at q
  have hi : i < ss.length := by
    by_cases hi : i < ss.length
    · exact hi
    · rw [List.getElem?_append_right (by simpa using hi), List.getElem?_replicate] at q
      split at q <;> cases q
  rw [List.getElem?_append_left (by simpa using hi), List.getElem?_map] at q
  have gen : ∀ {ss : List Sl} {vs : List V} {i : Nat} {s : Sl}, SlsOk K α F ss vs → ss[i]? = some s → ∃ v, vs[i]? = some v ∧ SlOk K α F s v := by
    intro ss
    induction ss with
    | nil => intro vs i s _ e; simp at e
    | cons a r ih =>
      intro vs i s h e
      obtain ⟨v, r', rfl, h2, h3⟩ := h
      cases i with
      | zero => simp at e; subst e; exact ⟨v, rfl, h2⟩
      | succ i =>
        obtain ⟨u, q, hu⟩ := ih h3 (by simpa using e)
        exact ⟨u, by simpa using q, hu⟩
  cases e : ss[i]? with
  | none => rw [e] at q; cases q
  | some s' =>
    rw [e] at q; cases q
    obtain ⟨v, hv, ho⟩ := gen h e
    refine ⟨v, ?_, ho⟩
    unfold L2.start
    rw [List.getElem?_append_left (by simpa [← hl] using hi), List.getElem?_map, hv]
    rfl
/-- what a def may hand back -/
def RetOk (n : Nat) (post : D → List MO → Prop) (s : Sl) (M' : List MO) : Prop :=
  (∃ d, s = .v d ∧ post d (M'.take n)) ∨ (∃ k ds, s = .l k ∧ n ≤ k ∧ M'[k]? = some (.lst ds) ∧ post (.lst ds) (M'.take n)) ∨
  ∃ k ks ds, s = .l k ∧ n ≤ k ∧ M'[k]? = some (.dic ks ds) ∧ post (.dic ks ds) (M'.take n)
theorem Sta.prefix {α β : Al} {F H : Hp} (S : Sta K (α ++ β) M F H) : Sta K α (M.take α.length) F H := by
  refine ⟨S.sub, ?_, fun i m p h1 h2 => ?_, fun i j p q hij h1 h2 => ?_, fun p hp => S.tr p (List.mem_append_left _ hp)⟩
  · rw [List.length_take, S.len]; simp
  · have hi : i < α.length := (List.getElem?_eq_some_iff.mp h2).1
    rw [List.getElem?_take_of_lt hi] at h1
    exact S.ob i m p h1 (by rw [List.getElem?_append_left hi]; exact h2)
  · have hi : i < α.length := (List.getElem?_eq_some_iff.mp h1).1
    have hj : j < α.length := (List.getElem?_eq_some_iff.mp h2).1
    exact S.ap i j p q hij (by rw [List.getElem?_append_left hi]; exact h1) (by rw [List.getElem?_append_left hj]; exact h2)
theorem fn_run {ι : Type} {args : ι → List Sl} {Mi : ι → List MO} {pre : ι → Prop} {post : ι → D → List MO → Prop} {N : List Str} {t : TS}
    (h : ∀ x e, pre x → e.α.length = (Mi x).length → RunD K e t (startR N.length (args x)) (Mi x) (fun _ M' => post x .non (M'.take (Mi x).length)) (RetOk (Mi x).length (post x)) (fun _ _ => False) (fun _ _ => False)) :
    ∀ vs H Q E, SpF K args Mi pre post vs H Q E → t { nx := fun _ H' => Q .non H', rt := Q } (L2.start N vs) H := by
  rintro vs H Q E ⟨x, α, F, ho, S, hp, k⟩
  have fin : ∀ {α' : Al} {F' H' : Hp} {M' : List MO}, Sta K α' M' F' H' → StepE ⟨α, F, H⟩ α' F' H' → Move α F H F' H' ∧ Sta K α (M'.take (Mi x).length) F' H' := fun {α' F' H' M'} S' st => by
    obtain ⟨β, e1, _⟩ := st.pre
    have e1 : α' = α ++ β := e1
    subst e1
    refine ⟨⟨st.ex, st.fr, st.tr, st.new⟩, ?_⟩
    have := S'.prefix
    rw [S.len]; exact this
  refine h x ⟨α, F, H⟩ hp S.len.symm _ (L2.start N vs) α F H ⟨env_start ho, S, .refl⟩ ⟨fun σ' α' F' H' ρ' M' g _ q => ?_, fun v s α' F' H' M' o S' st _ q => ?_, fun _ _ _ _ _ _ _ _ q => q.elim, fun _ _ _ _ _ _ _ _ q => q.elim⟩
  · obtain ⟨m, S2⟩ := fin g.sta g.st
    exact k .non F' H' .non _ m S2 rfl q
  · obtain ⟨m, S2⟩ := fin S' st
    rcases q with ⟨d, rfl, p⟩ | ⟨j, ds, rfl, hj, hM, p⟩ | ⟨j, ks, ds, rfl, hj, hM, p⟩
    · exact k v F' H' d _ m S2 o p
    all_goals
      obtain ⟨p0, hp0, rfl⟩ := o
      have hob := S'.ob j _ p0 hM hp0
      have hna : ∀ q, q ∈ α → p0.1 ≠ q.1 ∧ p0.1 ≠ q.2 := fun q hq => by
        obtain ⟨β, e1, _⟩ := st.pre
        have e1 : α' = α ++ β := e1
        obtain ⟨i, hi⟩ := List.mem_iff_getElem?.mp hq
        have hil : i < α.length := (List.getElem?_eq_some_iff.mp hi).1
        have ap := nth_ne S' hp0 (show α'[i]? = some q by rw [e1, List.getElem?_append_left hil]; exact hi) (by have := S.len; omega)
        exact ⟨ap.1, ap.2.1⟩
      have hnew : H p0.1 = none := by
        obtain ⟨β, e1, hβ⟩ := st.pre
        have e1 : α' = α ++ β := e1
        rw [e1, List.getElem?_append_right (by have := S.len; omega)] at hp0
        exact (hβ p0 (List.mem_of_getElem? hp0)).1
    · obtain ⟨hF, us, hus, hd⟩ := hob
      obtain ⟨s5, S5⟩ := S2.ice hF hus hna
      refine k (.ref p0.1) _ H' (.lst ds) _ ⟨m.ex.trans s5, m.fr, m.tr, fun b q => ?_⟩ S5 ⟨p0.1, us, rfl, upd_same, Dens.mono K s5 _ _ hd⟩ p
      by_cases eb : b = p0.1
      · subst eb; exact .inr hnew
      · rw [upd_ne eb] at q; exact m.new b q
    · obtain ⟨hF, us, hus, hl, hd⟩ := hob
      obtain ⟨s5, S5⟩ := S2.ice hF hus hna
      refine k (.ref p0.1) _ H' (.dic ks ds) _ ⟨m.ex.trans s5, m.fr, m.tr, fun b q => ?_⟩ S5 ⟨p0.1, us, rfl, upd_same, hl, Dens.mono K s5 _ _ hd⟩ p
      by_cases eb : b = p0.1
      · subst eb; exact .inr hnew
      · rw [upd_ne eb] at q; exact m.new b q
end
end DL

/-! DL4: sequences and built-ins over plain data. -/
namespace DL
open PySem L2
section
variable {K : PySem.W.Frag} {e : Ent} {ρ : Rho} {M : List MO} {Q : Sl → Prop} {te ta tb : TE} {t u : TS}

/-- a slot that is read as a list, a tuple -/
inductive RdL (M : List MO) : Sl → List D → Prop
  | v {ds : List D} : RdL M (.v (.lst ds)) ds
  | l {k : Nat} {ds : List D} : M[k]? = some (.lst ds) → RdL M (.l k) ds
  | p {k : Nat} {a : Addr} {ds : List D} : M[k]? = some (.pin a ds) → RdL M (.v (.raw (.ref a))) ds
theorem RdL.get {α : Al} {F H : Hp} {s : Sl} {ds : List D} {u : V} (h : RdL M s ds) (S : Sta K α M F H) (o : SlOk K α F s u) : ∃ a vs, u = .ref a ∧ H a = some (.lst vs) ∧ Dens K F ds vs := by
  cases h with
  | v =>
    obtain ⟨a, vs, h1, h2, h3⟩ := o
    exact ⟨a, vs, h1, S.sub _ _ h2, h3⟩
  | l hk =>
    obtain ⟨p, hp, rfl⟩ := o
    obtain ⟨_, vs, h1, h2⟩ := S.ob _ _ p hk hp
    exact ⟨p.1, vs, rfl, h1, h2⟩
  | @p k a ds hk =>
    have o : u = .ref a := o
    subst o
    obtain ⟨q, hq⟩ := sta_get S hk
    obtain ⟨_, h2, vs, h3, h4⟩ := S.ob _ _ q hk hq
    exact ⟨a, vs, rfl, by rw [← h2]; exact h3, h4⟩
inductive RdS (M : List MO) : Sl → List D → Prop
  | l {s : Sl} {ds : List D} : RdL M s ds → RdS M s ds
  | t {ds : List D} : RdS M (.v (.tup ds)) ds
  | r {ds : List D} : RdS M (.v (.rd ds)) ds
theorem RdS.get {α : Al} {F H : Hp} {s : Sl} {ds : List D} {u : V} (h : RdS M s ds) (S : Sta K α M F H) (o : SlOk K α F s u) : ∃ a vs, u = .ref a ∧ (SqL K H a vs ∨ SqT K H a vs) ∧ Dens K F ds vs := by
  cases h with
  | l h =>
    obtain ⟨a, vs, h1, h2, h3⟩ := h.get S o
    exact ⟨a, vs, h1, .inl (SqL.of h2), h3⟩
  | t =>
    obtain ⟨a, vs, h1, h2, h3⟩ := o
    exact ⟨a, vs, h1, .inr (sqt_same K S.sub h2), h3⟩
  | r =>
    obtain ⟨a, vs, h1, h2, h3⟩ := o
    exact ⟨a, vs, h1, .inl (S.sub.seq h2), h3⟩
theorem atI_get {F : Hp} {ds : List D} {vs : List V} {i : Int} {d : D} (h : Dens K F ds vs) (ha : atI ds i = some d) : ∃ v, atI vs i = some v ∧ Den K F d v := by
  unfold atI at ha ⊢
  rw [← h.length]
  cases e : ixN ds.length i with
  | none => rw [e] at ha; cases ha
  | some j =>
    rw [e] at ha
    exact h.get ha
theorem er_ixL {x : Sl} {ds : List D} {i : Int} {d : D} (h : RdL M x ds) (ha : atI ds i = some d) (q : Q (.v d)) : EvR K (rIxL K) M x (.v (.int i)) Q := fun α F H u v S o1 o2 k kk => by
  obtain ⟨a, vs, rfl, h1, h2⟩ := h.get S o1
  have o2 : v = .int i := o2
  subst o2
  obtain ⟨w, hw, r⟩ := atI_get h2 ha
  exact ⟨a, vs, i, w, rfl, rfl, SqL.of h1, hw, kk w F H _ .refl S (den_ok r) q⟩
theorem er_ixT {ds : List D} {i : Int} {d : D} (ha : atI ds i = some d) (q : Q (.v d)) : EvR K (rIxT K) M (.v (.tup ds)) (.v (.int i)) Q := fun α F H u v S o1 o2 k kk => by
  obtain ⟨a, vs, rfl, h1, h2⟩ := o1
  have o2 : v = .int i := o2
  subst o2
  obtain ⟨w, hw, r⟩ := atI_get h2 ha
  exact ⟨a, vs, i, w, rfl, rfl, sqt_same K S.sub h1, hw, kk w F H _ .refl S (den_ok r) q⟩
theorem er_in {neg : Bool} {x : V} {y : Sl} {xs : List V} (h : RdS M y (xs.map D.raw)) (hx : flatV x = true) (hf : xs.all flatV = true) (q : Q (.v (.bl (if neg then !inV x xs else inV x xs)))) : EvR K (rIn K neg) M (.v (.raw x)) y Q := fun α F H u v S o1 o2 k kk => by
  have o1 : u = x := o1
  subst o1
  obtain ⟨a, vs, rfl, h1, h2⟩ := h.get S o2
  have h3 := h2.ofRaws
  subst h3
  exact ⟨a, vs, rfl, h1, hx, hf, kk _ F H _ .refl S raw_ok q⟩
theorem inV_ints {i : Int} : ∀ {ns : List Int}, inV (.int i) (ns.map V.int) = decide (i ∈ ns)
  | [] => by simp [inV]
  | n :: ns => by
    have := inV_ints (i := i) (ns := ns)
    unfold inV at this ⊢
    rw [List.map_cons, List.any_cons, this]
    by_cases h : i = n
    · subst h; simp [eqV]
    · simp [eqV, h, Ne.symm h]
/-- .. whole numbers -/
theorem er_inI {neg : Bool} {i : Int} {y : Sl} {ns : List Int} (h : RdS M y (D.ints ns)) (q : Q (.v (.bl (if neg then !decide (i ∈ ns) else decide (i ∈ ns))))) : EvR K (rIn K neg) M (.v (.int i)) y Q := by
  have e1 : D.ints ns = (ns.map V.int).map D.raw := by simp [D.ints, Function.comp_def]
  rw [e1] at h
  refine er_in h rfl (by simp [flatV]) ?_
  rw [inV_ints]
  exact q
theorem er_cat {x y : Sl} {ds es : List D} (h1 : RdL M x ds) (h2 : RdL M y es) (hz : ds.length + es.length ≤ 16777216) (q : Q (.v (.lst (ds ++ es)))) : EvR K rCat M x y Q := fun α F H u v S o1 o2 k kk => by
  obtain ⟨a, vs, rfl, e1, d1⟩ := h1.get S o1
  obtain ⟨b, us, rfl, e2, d2⟩ := h2.get S o2
  refine ⟨a, b, vs, us, rfl, rfl, e1, e2, by rw [← d1.length, ← d2.length, sizeLine_eq]; exact hz, fun p hp => ?_⟩
  obtain ⟨m2, S2⟩ := S.laid (o := .lst (vs ++ us)) hp
  exact kk _ _ _ _ m2 S2 (den_ok (d := .lst (ds ++ es)) ⟨p, _, rfl, upd_same, Dens.mono K m2.ex _ _ (d1.append d2)⟩) q
theorem er_catT {ds es : List D} (hz : ds.length + es.length ≤ 16777216) (q : Q (.v (.tup (ds ++ es)))) : EvR K (rCatA K) M (.v (.tup ds)) (.v (.tup es)) Q := fun α F H u v S o1 o2 k kk => by
  obtain ⟨a, vs, rfl, e1, d1⟩ := o1
  obtain ⟨b, us, rfl, e2, d2⟩ := o2
  refine ⟨a, b, vs, us, rfl, rfl, sqt_same K S.sub e1, sqt_same K S.sub e2, by rw [← d1.length, ← d2.length, sizeLine_eq]; exact hz, fun z => ?_, fun _ z => ?_, fun _ _ p hp => ?_⟩
  · subst z
    have : ds = [] := by cases ds with
      | nil => rfl
      | cons _ _ => obtain ⟨_, _, z, _⟩ := d1; cases z
    subst this
    exact kk _ F H _ .refl S (den_ok (d := .tup ([] ++ es)) ⟨b, us, rfl, e2, d2⟩) q
  · subst z
    have : es = [] := by cases es with
      | nil => rfl
      | cons _ _ => obtain ⟨_, _, z, _⟩ := d2; cases z
    subst this
    exact kk _ F H _ .refl S (den_ok (d := .tup (ds ++ [])) ⟨a, vs, rfl, e1, by rw [List.append_nil]; exact d1⟩) q
  · obtain ⟨m2, S2⟩ := S.laid (o := .tup (vs ++ us)) hp
    exact kk _ _ _ _ m2 S2 (den_ok (d := .tup (ds ++ es)) ⟨p, _, rfl, .inl (.inl upd_same), Dens.mono K m2.ex _ _ (d1.append d2)⟩) q
theorem Dens.flat {F : Hp} {ds : List D} {vs : List V} (h : Dens K F ds vs) : ∀ n : Nat, Dens K F (List.replicate n ds).flatten (List.replicate n vs).flatten
  | 0 => rfl
  | n + 1 => by
    rw [List.replicate_succ, List.replicate_succ, List.flatten_cons, List.flatten_cons]
    exact h.append (Dens.flat h n)
theorem er_rep {x : Sl} {ds : List D} {i : Int} (h : RdL M x ds) (h1 : -(2 ^ 63) ≤ i) (h2 : i < 2 ^ 63) (hz : ds.length * i.toNat ≤ 16777216) (q : Q (.v (.lst (List.replicate i.toNat ds).flatten))) : EvR K rRep M x (.v (.int i)) Q := fun α F H u v S o1 o2 k kk => by
  obtain ⟨a, vs, rfl, e1, d1⟩ := h.get S o1
  have o2 : v = .int i := o2
  subst o2
  refine ⟨a, i, vs, rfl, rfl, e1, h1, h2, by rw [← d1.length, sizeLine_eq]; exact hz, fun p hp => ?_⟩
  obtain ⟨m2, S2⟩ := S.laid (o := .lst (List.replicate i.toNat vs).flatten) hp
  exact kk _ _ _ _ m2 S2 (den_ok (d := .lst _) ⟨p, _, rfl, upd_same, Dens.mono K m2.ex _ _ (d1.flat _)⟩) q
theorem er_repT {ds : List D} {i : Int} (h0 : ds ≠ []) (h1 : 2 ≤ i) (h2 : i ≤ 1000) (hz : ds.length ≤ 1000) (q : Q (.v (.tup (List.replicate i.toNat ds).flatten))) : EvR K (rRepT K) M (.v (.tup ds)) (.v (.int i)) Q := fun α F H u v S o1 o2 k kk => by
  obtain ⟨a, vs, rfl, e1, d1⟩ := o1
  have o2 : v = .int i := o2
  subst o2
  refine ⟨a, i, vs, rfl, rfl, sqt_same K S.sub e1, fun z => h0 (by subst z; cases ds with
    | nil => rfl
    | cons _ _ => obtain ⟨_, _, z, _⟩ := d1; cases z), h1, h2, by rw [← d1.length]; exact hz, fun p hp => ?_⟩
  obtain ⟨m2, S2⟩ := S.laid (o := .tup (List.replicate i.toNat vs).flatten) hp
  exact kk _ _ _ _ m2 S2 (den_ok (d := .tup _) ⟨p, _, rfl, .inl (.inl upd_same), Dens.mono K m2.ex _ _ (d1.flat _)⟩) q
/-! slices -/
def cutD (xs : List D) (lo hi : Option Int) : List D := (xs.drop (HT.sIx xs.length 0 lo)).take (HT.sIx xs.length xs.length hi - HT.sIx xs.length 0 lo)
theorem Dens.cut {F : Hp} {ds : List D} {vs : List V} (h : Dens K F ds vs) (lo hi : Option Int) : Dens K F (cutD ds lo hi) (cutV vs lo hi) := by
  unfold cutD cutV
  rw [h.length]
  exact (h.drop _).take _
theorem ev_slL {tl th : TO} (h : EvP K te ρ M fun x => EvO K tl ρ M fun lo => EvO K th ρ M fun hi => ∃ ds, RdL M x ds ∧ Q (.v (.lst (cutD ds lo hi)))) : EvP K (tSl (rSlL K) te tl th) ρ M Q := fun σ α F H en S k kk =>
  h σ α F H en S _ fun v F1 H1 x m1 S1 o1 q1 => q1 σ α F1 H1 (en.mono m1.ex) S1 _ fun lo F2 H2 m2 S2 q2 => q2 σ α F2 H2 (en.mono (m1.trans m2).ex) S2 _ fun hi F3 H3 m3 S3 ⟨ds, hr, q⟩ => by
    obtain ⟨a, vs, rfl, e1, d1⟩ := hr.get S3 (o1.mono (m2.trans m3).ex)
    refine ⟨a, vs, rfl, SqL.of e1, fun p hp => ?_⟩
    obtain ⟨m4, S4⟩ := S3.laid (o := .lst (cutV vs lo hi)) hp
    exact kk _ _ _ _ (((m1.trans m2).trans m3).trans m4) S4 (den_ok (d := .lst _) ⟨p, _, rfl, upd_same, Dens.mono K m4.ex _ _ (d1.cut lo hi)⟩) q
theorem cut_whole {F : Hp} {ds : List D} {lo hi : Option Int} (h : HT.sIx ds.length 0 lo = 0 ∧ HT.sIx ds.length ds.length hi = ds.length) : cutD ds lo hi = ds := by
  unfold cutD
  rw [h.1, h.2]
  simp
theorem ev_slT {tl th : TO} (h : EvP K te ρ M fun x => EvO K tl ρ M fun lo => EvO K th ρ M fun hi => ∃ ds, x = .v (.tup ds) ∧ Q (.v (.tup (cutD ds lo hi)))) : EvP K (tSl (rSlA K) te tl th) ρ M Q := fun σ α F H en S k kk =>
  h σ α F H en S _ fun v F1 H1 x m1 S1 o1 q1 => q1 σ α F1 H1 (en.mono m1.ex) S1 _ fun lo F2 H2 m2 S2 q2 => q2 σ α F2 H2 (en.mono (m1.trans m2).ex) S2 _ fun hi F3 H3 m3 S3 ⟨ds, hr, q⟩ => by
    subst hr
    obtain ⟨a, vs, rfl, e1, d1⟩ := o1.mono (m2.trans m3).ex
    refine ⟨a, vs, rfl, sqt_same K S3.sub e1, fun z => ?_, fun _ p hp => ?_⟩
    · rw [cut_whole (F := F3) (by rw [d1.length]; exact z)] at q
      exact kk _ _ _ _ ((m1.trans m2).trans m3) S3 (den_ok (d := .tup ds) ⟨a, vs, rfl, e1, d1⟩) q
    · obtain ⟨m4, S4⟩ := S3.laid (o := .tup (cutV vs lo hi)) hp
      exact kk _ _ _ _ (((m1.trans m2).trans m3).trans m4) S4 (den_ok (d := .tup _) ⟨p, _, rfl, .inl (.inl upd_same), Dens.mono K m4.ex _ _ (d1.cut lo hi)⟩) q

/-! ### built-ins -/
def rLen (K : PySem.W.Frag) : List V → Hp → VK → Prop := fun xs H Q => ∃ x n, xs = [x] ∧ LenV K x H n ∧ Q (.int n) H
theorem ec_len {x : Sl} {ds : List D} (h : RdS M x ds) (q : Q (.v (.int (ds.length : Int)))) : EvC K (rLen K) M [x] Q := fun α F H us S o k kk => by
  obtain ⟨v, r, rfl, o1, o2⟩ := o
  have o2 : r = [] := o2
  subst o2
  obtain ⟨a, vs, rfl, e1, d1⟩ := h.get S o1
  refine ⟨_, vs.length, rfl, ?_, ?_⟩
  · rcases e1 with e1 | e1
    · exact .inl ⟨vs, e1, rfl⟩
    · exact .inr ⟨vs, e1, rfl⟩
  · rw [← d1.length]
    exact kk _ F H _ .refl S raw_ok q
theorem ec_lenS {y : Str} (h : y.length ≤ 16777216) (q : Q (.v (.int (y.length : Int)))) : EvC K (rLen K) M [.v (.str y)] Q := fun α F H us S o k kk => by
  obtain ⟨v, r, rfl, o1, o2⟩ := o
  have o2 : r = [] := o2
  have o1 : v = .str y := o1
  subst o2; subst o1
  exact ⟨_, y.length, rfl, ⟨by rw [sizeLine_eq]; exact h, rfl⟩, kk _ F H _ .refl S raw_ok q⟩
theorem sls1 {α : Al} {F : Hp} {d : V} {us : List V} (o : SlsOk K α F [.v (.raw d)] us) : us = [d] := by
  obtain ⟨v, r, rfl, o1, o2⟩ := o
  have o2 : r = [] := o2
  have o1 : v = d := o1
  rw [o2, o1]
theorem sls2 {α : Al} {F : Hp} {d e : V} {us : List V} (o : SlsOk K α F [.v (.raw d), .v (.raw e)] us) : us = [d, e] := by
  obtain ⟨v, r, rfl, o1, o2⟩ := o
  have o1 : v = d := o1
  rw [sls1 o2, o1]
def rAbs : List V → Hp → VK → Prop := fun xs H Q => ∃ i, xs = [.int i] ∧ Q (.int (if i < 0 then -i else i)) H
theorem ec_abs {i : Int} (q : Q (.v (.int (if i < 0 then -i else i)))) : EvC K rAbs M [.v (.int i)] Q := fun α F H us S o k kk => ⟨i, sls1 o, kk _ F H _ .refl S raw_ok q⟩
def rMax2 : List V → Hp → VK → Prop := fun xs H Q => ∃ i j, xs = [.int i, .int j] ∧ Q (.int (if j > i then j else i)) H
def rMin2 : List V → Hp → VK → Prop := fun xs H Q => ∃ i j, xs = [.int i, .int j] ∧ Q (.int (if j < i then j else i)) H
theorem ec_max2 {i j : Int} (q : Q (.v (.int (if j > i then j else i)))) : EvC K rMax2 M [.v (.int i), .v (.int j)] Q := fun α F H us S o k kk => ⟨i, j, sls2 o, kk _ F H _ .refl S raw_ok q⟩
theorem ec_min2 {i j : Int} (q : Q (.v (.int (if j < i then j else i)))) : EvC K rMin2 M [.v (.int i), .v (.int j)] Q := fun α F H us S o k kk => ⟨i, j, sls2 o, kk _ F H _ .refl S raw_ok q⟩
def rInt1 : List V → Hp → VK → Prop := fun xs H Q => (∃ i, xs = [.int i] ∧ Q (.int i) H) ∨ ∃ k, xs = [.bl k] ∧ Q (.int (if k then 1 else 0)) H
theorem ec_int1 {i : Int} (q : Q (.v (.int i))) : EvC K rInt1 M [.v (.int i)] Q := fun α F H us S o k kk => .inl ⟨i, sls1 o, kk _ F H _ .refl S raw_ok q⟩
def rStrI : List V → Hp → VK → Prop := fun xs H Q => ∃ i : Int, xs = [.int i] ∧ i.natAbs.log2 < 1920 ∧ Q (.str (toString i)) H
theorem ec_strI {i : Int} (h : i.natAbs.log2 < 1920) (q : Q (.v (.raw (.str (toString i))))) : EvC K rStrI M [.v (.int i)] Q := fun α F H us S o k kk => ⟨i, sls1 o, h, kk _ F H _ .refl S raw_ok q⟩
theorem sls1s {α : Al} {F : Hp} {s : Sl} {us : List V} (o : SlsOk K α F [s] us) : ∃ u, us = [u] ∧ SlOk K α F s u := by
  obtain ⟨v, r, rfl, o1, o2⟩ := o
  have o2 : r = [] := o2
  exact ⟨v, by rw [o2], o1⟩
theorem ec_sum {x : Sl} {ns : List Int} (h : RdL M x (D.ints ns)) (q : Q (.v (.int ns.sum))) : EvC K (rSum K) M [x] Q := fun α F H us S o k kk => by
  obtain ⟨u, rfl, o1⟩ := sls1s o
  obtain ⟨a, vs, rfl, e1, d1⟩ := h.get S o1
  have e2 := d1.ofInts
  subst e2
  exact ⟨a, ns, rfl, SqL.of e1, kk _ F H _ .refl S raw_ok q⟩
theorem ec_max {x : Sl} {ns : List Int} (h : RdL M x (D.ints ns)) (hn : 0 < ns.length) (q : ∀ m, m ∈ ns → (∀ y, y ∈ ns → y ≤ m) → Q (.v (.int m))) : EvC K (rMax K) M [x] Q := fun α F H us S o k kk => by
  obtain ⟨u, rfl, o1⟩ := sls1s o
  obtain ⟨a, vs, rfl, e1, d1⟩ := h.get S o1
  have e2 := d1.ofInts
  subst e2
  exact ⟨a, ns, rfl, SqL.of e1, hn, fun m h1 h2 => kk _ F H _ .refl S raw_ok (q m h1 h2)⟩
theorem ec_min {x : Sl} {ns : List Int} (h : RdL M x (D.ints ns)) (hn : 0 < ns.length) (q : ∀ m, m ∈ ns → (∀ y, y ∈ ns → m ≤ y) → Q (.v (.int m))) : EvC K (rMin K) M [x] Q := fun α F H us S o k kk => by
  obtain ⟨u, rfl, o1⟩ := sls1s o
  obtain ⟨a, vs, rfl, e1, d1⟩ := h.get S o1
  have e2 := d1.ofInts
  subst e2
  exact ⟨a, ns, rfl, SqL.of e1, hn, fun m h1 h2 => kk _ F H _ .refl S raw_ok (q m h1 h2)⟩
abbrev D.bls (bs : List Bool) : List D := bs.map D.bl
theorem Dens.ofBls {F : Hp} {bs : List Bool} {vs : List V} (h : Dens K F (D.bls bs) vs) : vs = bs.map V.bl := by
  have e : D.bls bs = (bs.map V.bl).map D.raw := by simp [D.bls, Function.comp_def]
  rw [e] at h
  exact h.ofRaws
theorem ec_any {x : Sl} {bs : List Bool} (h : RdL M x (D.bls bs)) (q : Q (.v (.bl (bs.any id)))) : EvC K (rAny K) M [x] Q := fun α F H us S o k kk => by
  obtain ⟨u, rfl, o1⟩ := sls1s o
  obtain ⟨a, vs, rfl, e1, d1⟩ := h.get S o1
  have e2 := d1.ofBls
  subst e2
  exact ⟨a, bs, rfl, SqL.of e1, kk _ F H _ .refl S raw_ok q⟩
theorem ec_all {x : Sl} {bs : List Bool} (h : RdL M x (D.bls bs)) (q : Q (.v (.bl (bs.all id)))) : EvC K (rAll K) M [x] Q := fun α F H us S o k kk => by
  obtain ⟨u, rfl, o1⟩ := sls1s o
  obtain ⟨a, vs, rfl, e1, d1⟩ := h.get S o1
  have e2 := d1.ofBls
  subst e2
  exact ⟨a, bs, rfl, SqL.of e1, kk _ F H _ .refl S raw_ok q⟩
def rTupOf (K : PySem.W.Frag) : List V → Hp → VK → Prop := fun xs H Q => ∃ p ys, xs = [.ref p] ∧ ((SqL K H p ys ∧ ∀ l, H l = none → Q (.ref l) (upd H l (.tup ys))) ∨ (SqT K H p ys ∧ Q (.ref p) H))
def rListOf (K : PySem.W.Frag) : List V → Hp → VK → Prop := fun xs H Q => ∃ p ys, xs = [.ref p] ∧ (SqL K H p ys ∨ SqT K H p ys) ∧ ∀ l, H l = none → Q (.ref l) (upd H l (.lst ys))
theorem ec_tupOf {x : Sl} {ds : List D} (h : RdS M x ds) (q : Q (.v (.tup ds))) : EvC K (rTupOf K) M [x] Q := fun α F H us S o k kk => by
  obtain ⟨u, rfl, o1⟩ := sls1s o
  cases h with
  | l h =>
    obtain ⟨a, vs, rfl, e1, d1⟩ := h.get S o1
    refine ⟨a, vs, rfl, .inl ⟨SqL.of e1, fun p hp => ?_⟩⟩
    obtain ⟨m2, S2⟩ := S.laid (o := .tup vs) hp
    exact kk _ _ _ _ m2 S2 (den_ok (d := .tup ds) ⟨p, _, rfl, .inl (.inl upd_same), Dens.mono K m2.ex _ _ d1⟩) q
  | t =>
    obtain ⟨a, vs, rfl, e1, d1⟩ := o1
    exact ⟨a, vs, rfl, .inr ⟨sqt_same K S.sub e1, kk _ F H _ .refl S (den_ok (d := .tup ds) ⟨a, vs, rfl, e1, d1⟩) q⟩⟩
  | r =>
    obtain ⟨a, vs, rfl, e1, d1⟩ := o1
    refine ⟨a, vs, rfl, .inl ⟨S.sub.seq e1, fun p hp => ?_⟩⟩
    obtain ⟨m2, S2⟩ := S.laid (o := .tup vs) hp
    exact kk _ _ _ _ m2 S2 (den_ok (d := .tup ds) ⟨p, _, rfl, .inl (.inl upd_same), Dens.mono K m2.ex _ _ d1⟩) q
theorem ec_listOf {x : Sl} {ds : List D} (h : RdS M x ds) (q : Q (.v (.lst ds))) : EvC K (rListOf K) M [x] Q := fun α F H us S o k kk => by
  obtain ⟨u, rfl, o1⟩ := sls1s o
  obtain ⟨a, vs, rfl, e1, d1⟩ := h.get S o1
  refine ⟨a, vs, rfl, e1, fun p hp => ?_⟩
  obtain ⟨m2, S2⟩ := S.laid (o := .lst vs) hp
  exact kk _ _ _ _ m2 S2 (den_ok (d := .lst ds) ⟨p, _, rfl, upd_same, Dens.mono K m2.ex _ _ d1⟩) q
theorem ec_sorted {x : Sl} {ns : List Int} (h : RdL M x (D.ints ns)) (h64 : ns.length < 64) (q : ∀ ns' : List Int, ns'.Perm ns → ns'.Pairwise (· ≤ ·) → Q (.v (.lst (D.ints ns')))) : EvC K (rSorted K) M [x] Q := fun α F H us S o k kk => by
  obtain ⟨u, rfl, o1⟩ := sls1s o
  obtain ⟨a, vs, rfl, e1, d1⟩ := h.get S o1
  have e2 := d1.ofInts
  subst e2
  refine ⟨a, ns, rfl, SqL.of e1, h64, fun ns' p h1 h2 hp => ?_⟩
  obtain ⟨m2, S2⟩ := S.laid (o := .lst (ns'.map V.int)) hp
  refine kk _ _ _ _ m2 S2 (den_ok (d := .lst (D.ints ns')) ⟨p, _, rfl, upd_same, ?_⟩) (q ns' h1 h2)
  have e : D.ints ns' = (ns'.map V.int).map D.raw := by simp [D.ints, Function.comp_def]
  rw [e]; exact Dens.raws

/-! ### == at any depth -/
mutual
def D.py : D → PyData
  | .raw (.bl b) => .bool b
  | .raw (.int i) => .int i
  | .raw (.str x) => .str x
  | .raw _ => .none
  | .tup ds => .tuple (D.pyAll ds)
  | .lst ds => .list (D.pyAll ds)
  | .dic _ _ => .none
  | .ins _ _ _ => .none
  | .rd _ => .none
def D.pyAll : List D → List PyData
  | [] => []
  | d :: ds => d.py :: D.pyAll ds
end
mutual
/-- plain: flat things, tuples and lists of such, n deep at most -/
def D.pl : Nat → D → Bool
  | _, .raw .non => true
  | _, .raw (.bl _) => true
  | _, .raw (.int _) => true
  | _, .raw (.str x) => x.cps.all (· < 0x110000)
  | _, .raw _ => false
  | 0, .tup _ => false
  | n + 1, .tup ds => D.plAll n ds
  | 0, .lst _ => false
  | n + 1, .lst ds => D.plAll n ds
  | _, .dic _ _ => false
  | _, .ins _ _ _ => false
  | _, .rd _ => false
def D.plAll : Nat → List D → Bool
  | _, [] => true
  | n, d :: ds => d.pl n && D.plAll n ds
end
mutual
theorem D.dp {F H : Hp} (s : Same F H) : ∀ (n : Nat) (d : D) (v : V), d.pl n = true → Den K F d v → Dp K H v d.py
  | n, .raw .non, v, h, o => by
    have o : v = .non := o
    subst o; simp only [D.py]; exact .non
  | n, .raw (.bl b), v, h, o => by
    have o : v = .bl b := o
    subst o; simp only [D.py]; exact .bl b
  | n, .raw (.int b), v, h, o => by
    have o : v = .int b := o
    subst o; simp only [D.py]; exact .int b
  | n, .raw (.str b), v, h, o => by
    have o : v = .str b := o
    subst o; simp only [D.py]; exact .str b
  | n, .raw (.byt b), v, h, o => by simp [D.pl] at h
  | n, .raw (.flt b), v, h, o => by simp [D.pl] at h
  | n, .raw (.ref b), v, h, o => by simp [D.pl] at h
  | n, .raw (.ty b), v, h, o => by simp [D.pl] at h
  | 0, .tup ds, v, h, o => by simp [D.pl] at h
  | n + 1, .tup ds, v, h, o => by
    obtain ⟨a, vs, rfl, h1, h2⟩ := o
    simp only [D.py]
    exact .tup (sqt_same K s h1) (D.dpAll s n ds vs (by simpa [D.pl] using h) h2)
  | 0, .lst ds, v, h, o => by simp [D.pl] at h
  | n + 1, .lst ds, v, h, o => by
    obtain ⟨a, vs, rfl, h1, h2⟩ := o
    simp only [D.py]
    exact .lst (SqL.of (s _ _ h1)) (D.dpAll s n ds vs (by simpa [D.pl] using h) h2)
  | n, .dic _ _, v, h, o => by simp [D.pl] at h
  | n, .ins _ _ _, v, h, o => by simp [D.pl] at h
  | n, .rd _, v, h, o => by simp [D.pl] at h
theorem D.dpAll {F H : Hp} (s : Same F H) : ∀ (n : Nat) (ds : List D) (vs : List V), D.plAll n ds = true → Dens K F ds vs → DpAll K H vs (D.pyAll ds)
  | n, [], vs, h, o => by
    have o : vs = [] := o
    subst o; simp only [D.pyAll]; exact .nil
  | n, d :: ds, vs, h, o => by
    obtain ⟨v, r, rfl, h1, h2⟩ := o
    simp only [D.plAll, Bool.and_eq_true] at h
    simp only [D.pyAll]
    exact .cons (D.dp s n d v h.1 h1) (D.dpAll s n ds r h.2 h2)
end
mutual
theorem D.lay : ∀ (n : Nat) (d : D), d.pl n = true → d.py.canLay0 = true ∧ d.py.depth ≤ n
  | n, .raw .non, h => by simp [D.py, PyData.canLay0, PyData.depth]
  | n, .raw (.bl b), h => by simp [D.py, PyData.canLay0, PyData.depth]
  | n, .raw (.int b), h => by simp [D.py, PyData.canLay0, PyData.depth]
  | n, .raw (.str b), h => by
    simp only [D.pl] at h
    simp only [D.py, PyData.canLay0, PyData.depth, PyData.strOk]
    exact ⟨h, Nat.zero_le _⟩
  | n, .raw (.byt b), h => by simp [D.pl] at h
  | n, .raw (.flt b), h => by simp [D.pl] at h
  | n, .raw (.ref b), h => by simp [D.pl] at h
  | n, .raw (.ty b), h => by simp [D.pl] at h
  | 0, .tup ds, h => by simp [D.pl] at h
  | n + 1, .tup ds, h => by
    have := D.layAll n ds (by simpa [D.pl] using h)
    simp only [D.py, PyData.canLay0, PyData.depth]
    exact ⟨this.1, by omega⟩
  | 0, .lst ds, h => by simp [D.pl] at h
  | n + 1, .lst ds, h => by
    have := D.layAll n ds (by simpa [D.pl] using h)
    simp only [D.py, PyData.canLay0, PyData.depth]
    exact ⟨this.1, by omega⟩
  | n, .dic _ _, h => by simp [D.pl] at h
  | n, .ins _ _ _, h => by simp [D.pl] at h
  | n, .rd _, h => by simp [D.pl] at h
theorem D.layAll : ∀ (n : Nat) (ds : List D), D.plAll n ds = true → PyData.canLayAll0 (D.pyAll ds) = true ∧ PyData.depthAll (D.pyAll ds) ≤ n
  | n, [], h => by simp [D.pyAll, PyData.canLayAll0, PyData.depthAll]
  | n, d :: ds, h => by
    simp only [D.plAll, Bool.and_eq_true] at h
    have h1 := D.lay n d h.1
    have h2 := D.layAll n ds h.2
    simp only [D.pyAll, PyData.canLayAll0, PyData.depthAll, h1.1, h2.1, Bool.and_self, true_and]
    omega
end
theorem D.shaped {n : Nat} {d : D} (h : d.pl n = true) (hn : n ≤ 64) : SeqAt.shaped d.py = true := by
  have := D.lay n d h
  unfold SeqAt.shaped
  rw [this.1, Bool.true_and]
  exact decide_eq_true (by omega)
def D.eqv (x y : D) : Bool := PyData.eqv x.py y.py
theorem er_eqD {x y : D} (n : Nat) (hx : x.pl n = true) (hy : y.pl n = true) (hn : n ≤ 64) (q : Q (.v (.bl (x.eqv y)))) : EvR K (rEqD K) M (.v x) (.v y) Q := fun α F H u v S o1 o2 k kk =>
  ⟨x.py, y.py, D.dp S.sub n x u hx o1, D.dp S.sub n y v hy o2, D.shaped hx hn, D.shaped hy hn, kk _ F H _ .refl S raw_ok q⟩
theorem er_neD {x y : D} (n : Nat) (hx : x.pl n = true) (hy : y.pl n = true) (hn : n ≤ 64) (q : Q (.v (.bl (!x.eqv y)))) : EvR K (rNeD K) M (.v x) (.v y) Q := fun α F H u v S o1 o2 k kk =>
  ⟨x.py, y.py, D.dp S.sub n x u hx o1, D.dp S.sub n y v hy o2, D.shaped hx hn, D.shaped hy hn, kk _ F H _ .refl S raw_ok q⟩
theorem eqvAll_ints : ∀ ns ms : List Int, PyData.eqvAll (D.pyAll (D.ints ns)) (D.pyAll (D.ints ms)) = decide (ns = ms)
  | [], [] => by simp [D.pyAll, PyData.eqvAll]
  | [], m :: ms => by simp [D.pyAll, PyData.eqvAll]
  | n :: ns, [] => by simp [D.pyAll, PyData.eqvAll]
  | n :: ns, m :: ms => by
    have := eqvAll_ints ns ms
    simp only [D.ints] at this
    simp only [List.map_cons, D.pyAll, PyData.eqvAll, D.ints, this, D.py, PyData.eqv]
    by_cases h : n = m <;> by_cases h' : ns = ms <;> simp [h, h']
theorem eqv_lstI (ns ms : List Int) : D.eqv (.lst (D.ints ns)) (.lst (D.ints ms)) = decide (ns = ms) := by
  simp only [D.eqv, D.py, PyData.eqv, eqvAll_ints]
theorem eqv_tupI (ns ms : List Int) : D.eqv (.tup (D.ints ns)) (.tup (D.ints ms)) = decide (ns = ms) := by
  simp only [D.eqv, D.py, PyData.eqv, eqvAll_ints]
theorem pl_ints {n : Nat} : ∀ ns : List Int, D.plAll n (D.ints ns) = true
  | [] => by simp [D.plAll]
  | m :: ns => by
    have := pl_ints (n := n) ns
    simp only [D.ints, List.map_cons, D.plAll, D.pl, Bool.true_and] at this ⊢
    exact this
theorem pl_lstI {n : Nat} (ns : List Int) : (D.lst (D.ints ns)).pl (n + 1) = true := by simp only [D.pl]; exact pl_ints ns
theorem pl_tupI {n : Nat} (ns : List Int) : (D.tup (D.ints ns)).pl (n + 1) = true := by simp only [D.pl]; exact pl_ints ns
theorem eqv_refl {n : Nat} {d : D} (h : d.pl n = true) : d.eqv d = true := SeqAt.eqv_refl _ (D.lay n d h).1
/-! ### attributes -/
theorem lookup_zip {f : Str} : ∀ {ns : List Str} {vs : List V} {i : Nat} {v : V}, (ns.findIdx? (· == f)) = some i → vs[i]? = some v → (ns.zip vs).lookup f = some v
  | [], _, _, _, h, _ => by simp at h
  | n :: ns, [], i, v, _, e => by simp at e
  | n :: ns, w :: vs, i, v, h, e => by
    rw [List.findIdx?_cons] at h
    by_cases hn : n = f
    · subst hn
      rw [if_pos (by simp)] at h
      cases h
      simp at e; subst e
      simp
    · rw [if_neg (by simpa using hn)] at h
      obtain ⟨j, hj, rfl⟩ := Option.map_eq_some_iff.mp h
      have e' : vs[j]? = some v := by simpa using e
      rw [List.zip_cons_cons, List.lookup_cons, show (f == n) = false from by simpa using Ne.symm hn]
      exact lookup_zip hj e'
theorem ev_fld {f : Str} {C : Addr} {ns : List Str} {ds : List D} {i : Nat} {d : D} (hc : Cls K C) (hn : NoAttr K C f) (hi : (ns.findIdx? (· == f)) = some i) (hd : ds[i]? = some d) (h : EvP K te ρ M fun s => s = .v (.ins C ns ds) ∧ Q (.v d)) : EvP K (tFld K te f) ρ M Q := fun σ α F H en S k kk =>
  h σ α F H en S _ fun v F1 H1 s m1 S1 o1 ⟨e1, q⟩ => by
    subst e1
    obtain ⟨a, dx, vs, rfl, h1, h2, h3⟩ := o1
    obtain ⟨w, hw, r⟩ := h3.get hd
    exact ⟨a, C, dx, _, w, rfl, S1.sub _ _ h1, hc, hn, lookup_zip hi hw, kk w F1 H1 _ m1 S1 (den_ok r) q⟩
theorem ev_fldM {f : Str} {C : Addr} {ns : List Str} {ds : List D} {i j k : Nat} {d : D} (hc : Cls K C) (hn : NoAttr K C f) (hi : (ns.findIdx? (· == f)) = some i) (hd : ds[i]? = some d) (hj : ρ[j]? = some (some (.l k))) (hk : M[k]? = some (.ins C ns ds)) (q : Q (.v d)) : EvP K (tFld K (tVar j) f) ρ M Q := fun σ α F H en S kk1 kk => by
  obtain ⟨v, h1, p, hp, rfl⟩ := en.at' j _ hj
  obtain ⟨hF, dx, vs, h2, hl, h3⟩ := S.ob k _ p hk hp
  obtain ⟨w, hw, r⟩ := h3.get hd
  exact ⟨_, h1, p.1, C, dx, _, w, rfl, h2, hc, hn, lookup_zip hi hw, kk w F H _ .refl S (den_ok r) q⟩
end
end DL

/-! DL5: operators of any kind, walks of any sequence, calls by name. -/
namespace DL
open PySem L2
section
variable {X : Cx}
def rOr (r s : R2) : R2 := fun x y H Q => r x y H Q ∨ s x y H Q
theorem opOr {f : Value → Value → Sem Value} {r s : R2} (h1 : OpR X f r) (h2 : OpR X f s) : OpR X f (rOr r s) := fun pins st σ H x y v u Q I rx ry h => by
  rcases h with h | h
  · exact h1 pins st σ H x y v u Q I rx ry h
  · exact h2 pins st σ H x y v u Q I rx ry h
def rAddS : R2 := fun x y H Q => ∃ i j, x = .str i ∧ y = .str j ∧ i.length + j.length ≤ sizeLine ∧ Q (.str (i ++ j)) H
def gAdd (K : PySem.W.Frag) : R2 := rOr (rI0 fun i j => .int (i + j)) (rOr (rOr rCat (rCatA K)) rAddS)
theorem op_gAdd {K : PySem.W.Frag} (hK : X.K = K := by rfl) : OpR X (binaryOp .Add) (gAdd K) := by
  subst hK
  exact opOr op_add (opOr (opOr op_cat op_catA) op_add_str)
def gMul (K : PySem.W.Frag) : R2 := rOr (rOr (rI CMulW fun i j => .int (i * j)) (rI CMul fun i j => .int (i * j))) (rOr rRep (rRepT K))
theorem op_gMul {K : PySem.W.Frag} (hK : X.K = K := by rfl) : OpR X (binaryOp .Mult) (gMul K) := by
  subst hK
  exact opOr (opOr op_mulW op_mul) (opOr op_rep op_repT)
def gSub : R2 := rI0 fun i j => .int (i - j)
theorem op_gSub : OpR X (binaryOp .Sub) gSub := op_sub
def gDiv : R2 := rOr (rI CDivW fun i j => .int (i / j)) (rI CDivN fun i j => .int (i.fdiv j))
theorem op_gDiv : OpR X (binaryOp .FloorDiv) gDiv := opOr op_fdivW op_fdivN
def gMod : R2 := rOr (rI (fun _ j => 0 < j) fun i j => .int (i % j)) (rI (fun _ j => j ≠ 0) fun i j => .int (i.fmod j))
theorem op_gMod : OpR X (binaryOp .Mod) gMod := opOr op_mod op_modN
def gPow : R2 := rI CPow fun i j => .int (i ^ j.toNat)
theorem op_gPow : OpR X (binaryOp .Pow) gPow := op_pow
def gEq (K : PySem.W.Frag) : R2 := rOr rEq (rEqD K)
def gNe (K : PySem.W.Frag) : R2 := rOr rNe (rNeD K)
theorem op_gEq {K : PySem.W.Frag} (hu : X.A.units + 64 < cLine) (hK : X.K = K := by rfl) : OpR X (compareOp .Eq) (gEq K) := by
  subst hK
  exact opOr op_eq (op_eqD hu)
theorem op_gNe {K : PySem.W.Frag} (hu : X.A.units + 64 < cLine) (hK : X.K = K := by rfl) : OpR X (compareOp .NotEq) (gNe K) := by
  subst hK
  exact opOr op_ne (op_neD hu)
def gLt : R2 := rI0 fun i j => .bl (decide (i < j))
def gLe : R2 := rI0 fun i j => .bl (decide (i ≤ j))
def gGt : R2 := rI0 fun i j => .bl (decide (j < i))
def gGe : R2 := rI0 fun i j => .bl (decide (j ≤ i))
theorem op_gLt : OpR X (compareOp .Lt) gLt := op_lt
theorem op_gLe : OpR X (compareOp .LtE) gLe := op_le
theorem op_gGt : OpR X (compareOp .Gt) gGt := op_gt
theorem op_gGe : OpR X (compareOp .GtE) gGe := op_ge
def gIsN : R2 := fun x y H Q => y = .non ∧ Q (.bl (decide (x = .non))) H
def gNotN : R2 := fun x y H Q => y = .non ∧ Q (.bl (!decide (x = .non))) H
theorem op_gIs : OpR X (compareOp .Is) gIsN := op_isN
theorem op_gIsNot : OpR X (compareOp .IsNot) gNotN := op_notN
def gIn (K : PySem.W.Frag) : R2 := rOr (rIn K false) (rInD K)
def gNotIn (K : PySem.W.Frag) : R2 := rOr (rIn K true) (rNotInD K)
theorem op_gIn {K : PySem.W.Frag} (hu : X.A.units + 65 < cLine) (hK : X.K = K := by rfl) : OpR X (compareOp .In) (gIn K) := by
  subst hK
  exact opOr op_in_seq (op_inD hu)
theorem op_gNotIn {K : PySem.W.Frag} (hu : X.A.units + 65 < cLine) (hK : X.K = K := by rfl) : OpR X (compareOp .NotIn) (gNotIn K) := by
  subst hK
  exact opOr op_notIn_seq (op_notInD hu)
theorem ix_any {K : PySem.W.Frag} (hK : X.K = K := by rfl) : IxR X (rIx K) := by
  subst hK
  exact ix_seq
/-! walks -/
def iSeq (K : PySem.W.Frag) (tl : TE) : TI := fun σ H R => tl σ H fun x H1 => ∃ a, x = .ref a ∧ (((∃ xs, SqL K H1 a xs) ∧ R (Itl K a) H1) ∨ ((∃ xs, SqT K H1 a xs) ∧ R (Itt K a) H1))
theorem pi_seq {K : PySem.W.Frag} {tg l : Expr} {tl : TE} (hl : PE X l tl) (hK : X.K = K := by rfl) : PI X tg l (iSeq K tl) := by
  subst hK
  refine ⟨fun pins s σ H R I h => ?_⟩
  refine thn (hl.run pins s σ H _ I h) fun v s1 ⟨x, H1, I1, r1, q1⟩ => ?_
  obtain ⟨a, e, q1⟩ := q1
  subst e
  cases r1
  rcases q1 with ⟨⟨xs, hq⟩, q⟩ | ⟨⟨xs, hq⟩, q⟩
  · obtain ⟨its, rv, p, hz⟩ := I1.list hq
    refine wpAny_pyIter_list p.isList ?_
    refine ⟨s1.heap.objs.size, [s1.heap.objs.size], _, _, H1, rfl, I1.kept (t' := s1.toks) fun b o e => Heap.get?_push_of_some _ e, turn_list a _, ⟨_, Heap.get?_push_size _ rfl, rfl, rfl⟩, fun b hb => ?_, q⟩
    have e : b = s1.heap.objs.size := by simpa using hb
    subst e
    exact I1.fpOk (Nat.le_refl _) (I1.hok.fresh (Nat.le_refl _))
  · obtain ⟨its, rv, p, hz⟩ := I1.tuple hq
    refine wpAny_pyIter_tuple (show s1.heap.IsTuple a its.toArray from p) ?_
    refine ⟨s1.heap.objs.size, [s1.heap.objs.size], _, _, H1, rfl, I1.kept (t' := s1.toks) fun b o e => Heap.get?_push_of_some _ e, turn_tuple a _, ⟨_, Heap.get?_push_size _ rfl, rfl, rfl⟩, fun b hb => ?_, q⟩
    have e : b = s1.heap.objs.size := by simpa using hb
    subst e
    exact I1.fpOk (Nat.le_refl _) (I1.hok.fresh (Nat.le_refl _))
/-! calls by name -/
def FnAt (P : Program) (w : World) (K : PySem.W.Frag) (mg : Str → Option Value) (base : Heap) (CX : CXT) (k : Nat) (x : Str) (ps : List Str) (sp : Sp) : Prop :=
  ∃ f fd, (mg x = some (.ref f) ∧ (∃ oc od osl, K.lookup f = some ⟨oc, od, .func fd, osl⟩)) ∧ PySem.W.keepIn K (.ref f) = true ∧ (∀ (s : Shared) (us : List Value), us.length = ps.length → BindsTo s fd ⟨us, []⟩ (ps.zip us)) ∧ FnOk P w K mg base CX k f fd ps sp
theorem FnAt.imp {P : Program} {w : World} {K : PySem.W.Frag} {mg : Str → Option Value} {base : Heap} {CX : CXT} {k : Nat} {x : Str} {ps : List Str} {sp sp' : Sp} (F : FnAt P w K mg base CX k x ps sp) (h : ∀ vs H Q E, sp' vs H Q E → sp vs H Q E) : FnAt P w K mg base CX k x ps sp' :=
  let ⟨f, fd, a, b, c, d⟩ := F
  ⟨f, fd, a, b, c, d.imp h⟩
structure DefAt (K : PySem.W.Frag) (mg : Str → Option Value) (x : Str) (st : Stmt) (ps : List Str) : Prop where
  ex : ∃ f fd, Fun K x x st f fd ∧ mg x = some (.ref f) ∧ (∀ (s : Shared) (us : List Value), us.length = ps.length → BindsTo s fd ⟨us, []⟩ (ps.zip us))
theorem binds_of {K : PySem.W.Frag} {fd : FuncData} {ps : List Str} (h : ∀ (s : Shared) (us : List Value), us.length = ps.length → BindsTo s fd ⟨us, []⟩ (ps.zip us)) : Binds K fd ps [] := fun s us _ hl => by
  rw [List.append_nil] at hl ⊢
  exact h s us hl
theorem fun_look {K : PySem.W.Frag} {x qual : Str} {st : Stmt} {f : Addr} {fd : FuncData} (F : Fun K x qual st f fd) : ∃ oc od osl, K.lookup f = some ⟨oc, od, .func fd, osl⟩ := by
  obtain ⟨oc, od, kV, doc, pm, an, cdv, ct, osl, rfl, lk, _⟩ := F.ex
  exact ⟨oc, od, osl, lk⟩
theorem pe_fn {x : Str} {k : Nat} {ps : List Str} {sp : Sp} {e : Expr} {es : List Expr} {t : TA} {p pos : Pos} (F : FnAt X.prog X.w X.K X.mg X.base CX0 k x ps sp) (hr : Room k X.A) (hg : Gl X x) (ha : PA X (e :: es) t) (hdb : (x == ("__debug__" : Str)) = false := by decide)
    (he : starEach (e :: es) X.env = (false, eval e X.env) :: starEach es X.env := by rfl) (hpl : (backTo pos (starEach es X.env)).any (·.1) = false := by rfl) : PE X (.Call (.Name x p) (e :: es) [] pos) (tCall sp [] E0 t) := by
  obtain ⟨f, fd, ⟨hm, _⟩, hk, hb, F⟩ := F
  exact pe_call F hr hg hm hk (binds_of hb) .nil pass0 ha hdb he hpl
/-- the built-in names are the built-ins -/
structure Blt (mg : Str → Option Value) : Prop where
  range : mg "range" = none
  len : mg "len" = none
  abs : mg "abs" = none
  max : mg "max" = none
  min : mg "min" = none
  sum : mg "sum" = none
  any : mg "any" = none
  all : mg "all" = none
  int : mg "int" = none
  str : mg "str" = none
  tuple : mg "tuple" = none
  list : mg "list" = none
  bool : mg "bool" = none
  set : mg "set" = none
  sorted : mg "sorted" = none
  zip : mg "zip" = none
  enumerate : mg "enumerate" = none
  isinstance : mg "isinstance" = none
section
variable {e e2 : Expr} {t : TA} {p pos : Pos}
theorem pe_len {K : PySem.W.Frag} (b : X.mg "len" = none) (hg : Gl X "len") (ha : PA X [e] t) (he : starEach [e] X.env = (false, eval e X.env) :: starEach [] X.env := by rfl) (hpl : (backTo pos (starEach [] X.env)).any (·.1) = false := by rfl) (hK : X.K = K := by rfl) : PE X (.Call (.Name "len" p) [e] [] pos) (tCB (rLen K) t) := by
  subst hK
  exact pe_callB call_len hg b PySem.boot_len ha (by decide) (by decide) he hpl
theorem pe_abs (b : X.mg "abs" = none) (hg : Gl X "abs") (ha : PA X [e] t) (he : starEach [e] X.env = (false, eval e X.env) :: starEach [] X.env := by rfl) (hpl : (backTo pos (starEach [] X.env)).any (·.1) = false := by rfl) : PE X (.Call (.Name "abs" p) [e] [] pos) (tCB rAbs t) := pe_callB call_abs hg b (by decide +kernel) ha (by decide) (by decide) he hpl
theorem pe_max2 (b : X.mg "max" = none) (hc : X.calm = true) (hg : Gl X "max") (ha : PA X [e, e2] t) (he : starEach [e, e2] X.env = (false, eval e X.env) :: starEach [e2] X.env := by rfl) (hpl : (backTo pos (starEach [e2] X.env)).any (·.1) = false := by rfl) : PE X (.Call (.Name "max" p) [e, e2] [] pos) (tCB rMax2 t) := pe_callB (call_max2 hc) hg b (by decide +kernel) ha (by decide) (by decide) he hpl
theorem pe_min2 (b : X.mg "min" = none) (hc : X.calm = true) (hg : Gl X "min") (ha : PA X [e, e2] t) (he : starEach [e, e2] X.env = (false, eval e X.env) :: starEach [e2] X.env := by rfl) (hpl : (backTo pos (starEach [e2] X.env)).any (·.1) = false := by rfl) : PE X (.Call (.Name "min" p) [e, e2] [] pos) (tCB rMin2 t) := pe_callB (call_min2 hc) hg b (by decide +kernel) ha (by decide) (by decide) he hpl
theorem pe_max1 {K : PySem.W.Frag} (b : X.mg "max" = none) (hc : X.calm = true) (hg : Gl X "max") (ha : PA X [e] t) (he : starEach [e] X.env = (false, eval e X.env) :: starEach [] X.env := by rfl) (hpl : (backTo pos (starEach [] X.env)).any (·.1) = false := by rfl) (hK : X.K = K := by rfl) : PE X (.Call (.Name "max" p) [e] [] pos) (tCB (rMax K) t) := by
  subst hK
  exact pe_callB (cr_max hc) hg b (by decide +kernel) ha (by decide) (by decide) he hpl
theorem pe_min1 {K : PySem.W.Frag} (b : X.mg "min" = none) (hc : X.calm = true) (hg : Gl X "min") (ha : PA X [e] t) (he : starEach [e] X.env = (false, eval e X.env) :: starEach [] X.env := by rfl) (hpl : (backTo pos (starEach [] X.env)).any (·.1) = false := by rfl) (hK : X.K = K := by rfl) : PE X (.Call (.Name "min" p) [e] [] pos) (tCB (rMin K) t) := by
  subst hK
  exact pe_callB (cr_min hc) hg b (by decide +kernel) ha (by decide) (by decide) he hpl
theorem pe_sum {K : PySem.W.Frag} (b : X.mg "sum" = none) (hc : X.calm = true) (hg : Gl X "sum") (ha : PA X [e] t) (he : starEach [e] X.env = (false, eval e X.env) :: starEach [] X.env := by rfl) (hpl : (backTo pos (starEach [] X.env)).any (·.1) = false := by rfl) (hK : X.K = K := by rfl) : PE X (.Call (.Name "sum" p) [e] [] pos) (tCB (rSum K) t) := by
  subst hK
  exact pe_callB (cr_sum hc) hg b (by decide +kernel) ha (by decide) (by decide) he hpl
theorem pe_any {K : PySem.W.Frag} (b : X.mg "any" = none) (hc : X.calm = true) (hg : Gl X "any") (ha : PA X [e] t) (he : starEach [e] X.env = (false, eval e X.env) :: starEach [] X.env := by rfl) (hpl : (backTo pos (starEach [] X.env)).any (·.1) = false := by rfl) (hK : X.K = K := by rfl) : PE X (.Call (.Name "any" p) [e] [] pos) (tCB (rAny K) t) := by
  subst hK
  exact pe_callB (cr_any hc) hg b (by decide +kernel) ha (by decide) (by decide) he hpl
theorem pe_all {K : PySem.W.Frag} (b : X.mg "all" = none) (hc : X.calm = true) (hg : Gl X "all") (ha : PA X [e] t) (he : starEach [e] X.env = (false, eval e X.env) :: starEach [] X.env := by rfl) (hpl : (backTo pos (starEach [] X.env)).any (·.1) = false := by rfl) (hK : X.K = K := by rfl) : PE X (.Call (.Name "all" p) [e] [] pos) (tCB (rAll K) t) := by
  subst hK
  exact pe_callB (cr_all hc) hg b (by decide +kernel) ha (by decide) (by decide) he hpl
theorem pe_sorted {K : PySem.W.Frag} (b : X.mg "sorted" = none) (hg : Gl X "sorted") (ha : PA X [e] t) (he : starEach [e] X.env = (false, eval e X.env) :: starEach [] X.env := by rfl) (hpl : (backTo pos (starEach [] X.env)).any (·.1) = false := by rfl) (hK : X.K = K := by rfl) : PE X (.Call (.Name "sorted" p) [e] [] pos) (tCB (rSorted K) t) := by
  subst hK
  exact pe_callB cr_sorted hg b (by decide +kernel) ha (by decide) (by decide) he hpl
theorem pe_int1 (b : X.mg "int" = none) (hg : Gl X "int") (ha : PA X [e] t) (he : starEach [e] X.env = (false, eval e X.env) :: starEach [] X.env := by rfl) (hpl : (backTo pos (starEach [] X.env)).any (·.1) = false := by rfl) : PE X (.Call (.Name "int" p) [e] [] pos) (tCB rInt1 t) := pe_callTy call_int1 hg b (by decide +kernel) ha (by decide) (by decide) he hpl
theorem pe_strI (b : X.mg "str" = none) (hg : Gl X "str") (ha : PA X [e] t) (he : starEach [e] X.env = (false, eval e X.env) :: starEach [] X.env := by rfl) (hpl : (backTo pos (starEach [] X.env)).any (·.1) = false := by rfl) : PE X (.Call (.Name "str" p) [e] [] pos) (tCB rStrI t) := pe_callTy call_str_int hg b (by decide +kernel) ha (by decide) (by decide) he hpl
theorem pe_tupOf {K : PySem.W.Frag} (b : X.mg "tuple" = none) (hg : Gl X "tuple") (ha : PA X [e] t) (he : starEach [e] X.env = (false, eval e X.env) :: starEach [] X.env := by rfl) (hpl : (backTo pos (starEach [] X.env)).any (·.1) = false := by rfl) (hK : X.K = K := by rfl) : PE X (.Call (.Name "tuple" p) [e] [] pos) (tCB (rTupOf K) t) := by
  subst hK
  exact pe_callTy call_tuple_of hg b (by decide +kernel) ha (by decide) (by decide) he hpl
theorem pe_listOf {K : PySem.W.Frag} (b : X.mg "list" = none) (hg : Gl X "list") (ha : PA X [e] t) (he : starEach [e] X.env = (false, eval e X.env) :: starEach [] X.env := by rfl) (hpl : (backTo pos (starEach [] X.env)).any (·.1) = false := by rfl) (hK : X.K = K := by rfl) : PE X (.Call (.Name "list" p) [e] [] pos) (tCB (rListOf K) t) := by
  subst hK
  exact pe_callTy call_list_of hg b (by decide +kernel) ha (by decide) (by decide) he hpl
end
end
/-! ### their readings -/
section
variable {K : PySem.W.Frag} {e : Ent} {ρ : Rho} {M : List MO} {Q : Sl → Prop} {te ta tb : TE} {x y : Sl}
theorem er_l {r s : R2} (h : EvR K r M x y Q) : EvR K (rOr r s) M x y Q := fun α F H u v S o1 o2 k kk => .inl (h α F H u v S o1 o2 k kk)
theorem er_r {r s : R2} (h : EvR K s M x y Q) : EvR K (rOr r s) M x y Q := fun α F H u v S o1 o2 k kk => .inr (h α F H u v S o1 o2 k kk)
theorem g_add {i j : Int} (q : Q (.v (.int (i + j)))) : EvR K (gAdd K) M (.v (.int i)) (.v (.int j)) Q := er_l (er_I0 q)
theorem g_addL {ds es : List D} (h1 : RdL M x ds) (h2 : RdL M y es) (hz : ds.length + es.length ≤ 16777216) (q : Q (.v (.lst (ds ++ es)))) : EvR K (gAdd K) M x y Q := er_r (er_l (er_l (er_cat h1 h2 hz q)))
theorem g_addT {ds es : List D} (hz : ds.length + es.length ≤ 16777216) (q : Q (.v (.tup (ds ++ es)))) : EvR K (gAdd K) M (.v (.tup ds)) (.v (.tup es)) Q := er_r (er_l (er_r (er_catT hz q)))
theorem g_addS {i j : Str} (hz : i.length + j.length ≤ 16777216) (q : Q (.v (.str (i ++ j)))) : EvR K (gAdd K) M (.v (.str i)) (.v (.str j)) Q := er_r (er_r fun α F H u v S o1 o2 k kk => by
  have o1 : u = .str i := o1
  have o2 : v = .str j := o2
  subst o1; subst o2
  exact ⟨i, j, rfl, rfl, by rw [sizeLine_eq]; exact hz, kk _ F H _ .refl S raw_ok q⟩)
theorem g_sub {i j : Int} (q : Q (.v (.int (i - j)))) : EvR K gSub M (.v (.int i)) (.v (.int j)) Q := er_I0 q
theorem g_mul {i j : Int} (hc : CMulW i j) (q : Q (.v (.int (i * j)))) : EvR K (gMul K) M (.v (.int i)) (.v (.int j)) Q := er_l (er_l (er_I hc q))
theorem g_mulS {i j : Int} (hc : CMul i j) (q : Q (.v (.int (i * j)))) : EvR K (gMul K) M (.v (.int i)) (.v (.int j)) Q := er_l (er_r (er_I hc q))
theorem g_rep {ds : List D} {i : Int} (h : RdL M x ds) (h1 : -(2 ^ 63) ≤ i) (h2 : i < 2 ^ 63) (hz : ds.length * i.toNat ≤ 16777216) (q : Q (.v (.lst (List.replicate i.toNat ds).flatten))) : EvR K (gMul K) M x (.v (.int i)) Q := er_r (er_l (er_rep h h1 h2 hz q))
theorem g_repT {ds : List D} {i : Int} (h0 : ds ≠ []) (h1 : 2 ≤ i) (h2 : i ≤ 1000) (hz : ds.length ≤ 1000) (q : Q (.v (.tup (List.replicate i.toNat ds).flatten))) : EvR K (gMul K) M (.v (.tup ds)) (.v (.int i)) Q := er_r (er_r (er_repT h0 h1 h2 hz q))
theorem g_div {i j : Int} (hc : CDivW i j) (q : Q (.v (.int (i / j)))) : EvR K gDiv M (.v (.int i)) (.v (.int j)) Q := er_l (er_I hc q)
theorem g_fdiv {i j : Int} (hc : CDivN i j) (q : Q (.v (.int (i.fdiv j)))) : EvR K gDiv M (.v (.int i)) (.v (.int j)) Q := er_r (er_I hc q)
theorem g_mod {i j : Int} (hc : 0 < j) (q : Q (.v (.int (i % j)))) : EvR K gMod M (.v (.int i)) (.v (.int j)) Q := er_l (er_I hc q)
theorem g_fmod {i j : Int} (hc : j ≠ 0) (q : Q (.v (.int (i.fmod j)))) : EvR K gMod M (.v (.int i)) (.v (.int j)) Q := er_r (er_I hc q)
theorem g_pow {i j : Int} (hc : CPow i j) (q : Q (.v (.int (i ^ j.toNat)))) : EvR K gPow M (.v (.int i)) (.v (.int j)) Q := er_I hc q
theorem g_lt {i j : Int} (q : Q (.v (.bl (decide (i < j))))) : EvR K gLt M (.v (.int i)) (.v (.int j)) Q := er_I0 q
theorem g_le {i j : Int} (q : Q (.v (.bl (decide (i ≤ j))))) : EvR K gLe M (.v (.int i)) (.v (.int j)) Q := er_I0 q
theorem g_gt {i j : Int} (q : Q (.v (.bl (decide (j < i))))) : EvR K gGt M (.v (.int i)) (.v (.int j)) Q := er_I0 q
theorem g_ge {i j : Int} (q : Q (.v (.bl (decide (j ≤ i))))) : EvR K gGe M (.v (.int i)) (.v (.int j)) Q := er_I0 q
theorem dec_int' {i j : Int} : decide (V.int i = V.int j) = decide (i = j) := by simp
theorem g_eqI {i j : Int} (q : Q (.v (.bl (decide (i = j))))) : EvR K (gEq K) M (.v (.int i)) (.v (.int j)) Q := er_l (er_eq rfl (by rw [dec_int']; exact q))
theorem g_neI {i j : Int} (q : Q (.v (.bl (!decide (i = j))))) : EvR K (gNe K) M (.v (.int i)) (.v (.int j)) Q := er_l (er_ne rfl (by rw [dec_int']; exact q))
theorem g_eqV {a b : V} (h : scal a b = true) (q : Q (.v (.bl (decide (a = b))))) : EvR K (gEq K) M (.v (.raw a)) (.v (.raw b)) Q := er_l (er_eq h q)
theorem g_neV {a b : V} (h : scal a b = true) (q : Q (.v (.bl (!decide (a = b))))) : EvR K (gNe K) M (.v (.raw a)) (.v (.raw b)) Q := er_l (er_ne h q)
theorem g_eqD {a b : D} (n : Nat) (hx : a.pl n = true) (hy : b.pl n = true) (hn : n ≤ 64) (q : Q (.v (.bl (a.eqv b)))) : EvR K (gEq K) M (.v a) (.v b) Q := er_r (er_eqD n hx hy hn q)
theorem g_neD {a b : D} (n : Nat) (hx : a.pl n = true) (hy : b.pl n = true) (hn : n ≤ 64) (q : Q (.v (.bl (!a.eqv b)))) : EvR K (gNe K) M (.v a) (.v b) Q := er_r (er_neD n hx hy hn q)
theorem g_isN {s : Sl} (b : Bool) (h : ∀ (α : Al) (F : Hp) v, SlOk K α F s v → decide (v = .non) = b) (q : Q (.v (.bl b))) : EvR K gIsN M s (.v .non) Q := fun α F H u v S o1 o2 k kk => by
  have o2 : v = .non := o2
  subst o2
  exact ⟨rfl, by rw [h α F u o1]; exact kk _ F H _ .refl S raw_ok q⟩
theorem g_notN {s : Sl} (b : Bool) (h : ∀ (α : Al) (F : Hp) v, SlOk K α F s v → decide (v = .non) = b) (q : Q (.v (.bl (!b)))) : EvR K gNotN M s (.v .non) Q := fun α F H u v S o1 o2 k kk => by
  have o2 : v = .non := o2
  subst o2
  exact ⟨rfl, by rw [h α F u o1]; exact kk _ F H _ .refl S raw_ok q⟩
theorem g_inI {i : Int} {y : Sl} {ns : List Int} (h : RdS M y (D.ints ns)) (q : Q (.v (.bl (decide (i ∈ ns))))) : EvR K (gIn K) M (.v (.int i)) y Q := er_l (er_inI (neg := false) h q)
theorem g_notInI {i : Int} {y : Sl} {ns : List Int} (h : RdS M y (D.ints ns)) (q : Q (.v (.bl (!decide (i ∈ ns))))) : EvR K (gNotIn K) M (.v (.int i)) y Q := er_l (er_inI (neg := true) h q)
theorem g_in {x : V} {y : Sl} {xs : List V} (h : RdS M y (xs.map D.raw)) (hx : flatV x = true) (hf : xs.all flatV = true) (q : Q (.v (.bl (inV x xs)))) : EvR K (gIn K) M (.v (.raw x)) y Q := er_l (er_in (neg := false) h hx hf q)
theorem g_notIn {x : V} {y : Sl} {xs : List V} (h : RdS M y (xs.map D.raw)) (hx : flatV x = true) (hf : xs.all flatV = true) (q : Q (.v (.bl (!inV x xs)))) : EvR K (gNotIn K) M (.v (.raw x)) y Q := er_l (er_in (neg := true) h hx hf q)
theorem py_any {c : D} : ∀ ds : List D, ((D.pyAll ds).any fun z => PyData.eqv z c.py) = ds.any fun z => z.eqv c
  | [] => by simp [D.pyAll]
  | d :: ds => by simp only [D.pyAll, List.any_cons, py_any ds, D.eqv]
theorem g_inD {c : D} {ds : List D} (n : Nat) (hx : c.pl n = true) (hy : (D.lst ds).pl n = true) (hn : n ≤ 64) (q : Q (.v (.bl (ds.any fun z => z.eqv c)))) : EvR K (gIn K) M (.v c) (.v (.lst ds)) Q := er_r fun α F H u v S o1 o2 k kk => by
  have e1 := D.dp S.sub n _ v hy o2
  have e2 := D.shaped hy hn
  simp only [D.py] at e1 e2
  exact ⟨c.py, D.pyAll ds, D.dp S.sub n c u hx o1, e1, D.shaped hx hn, e2, by rw [py_any]; exact kk _ F H _ .refl S raw_ok q⟩
theorem g_notInD {c : D} {ds : List D} (n : Nat) (hx : c.pl n = true) (hy : (D.lst ds).pl n = true) (hn : n ≤ 64) (q : Q (.v (.bl (!ds.any fun z => z.eqv c)))) : EvR K (gNotIn K) M (.v c) (.v (.lst ds)) Q := er_r fun α F H u v S o1 o2 k kk => by
  have e1 := D.dp S.sub n _ v hy o2
  have e2 := D.shaped hy hn
  simp only [D.py] at e1 e2
  exact ⟨c.py, D.pyAll ds, D.dp S.sub n c u hx o1, e1, D.shaped hx hn, e2, by rw [py_any]; exact kk _ F H _ .refl S raw_ok q⟩
/-- is it None? -/
def D.isNon : D → Bool
  | .raw .non => true
  | _ => false
theorem isNon_ok {d : D} (α : Al) (F : Hp) (v : V) (o : SlOk K α F (.v d) v) : decide (v = .non) = d.isNon := by
  cases d with
  | raw x =>
    have o : v = x := o
    subst o
    cases v <;> simp [D.isNon]
  | tup ds => obtain ⟨a, vs, rfl, _⟩ := o; simp [D.isNon]
  | lst ds => obtain ⟨a, vs, rfl, _⟩ := o; simp [D.isNon]
  | dic ks ds => obtain ⟨a, vs, rfl, _⟩ := o; simp [D.isNon]
  | ins C ns ds => obtain ⟨a, dx, vs, rfl, _⟩ := o; simp [D.isNon]
  | rd ds => obtain ⟨a, vs, rfl, _⟩ := o; simp [D.isNon]
theorem g_isND {d : D} (q : Q (.v (.bl d.isNon))) : EvR K gIsN M (.v d) (.v .non) Q := g_isN _ isNon_ok q
theorem g_notND {d : D} (q : Q (.v (.bl (!d.isNon)))) : EvR K gNotN M (.v d) (.v .non) Q := g_notN _ isNon_ok q
theorem g_ixT {ds : List D} {i : Int} {d : D} (ha : atI ds i = some d) (q : Q (.v d)) : EvR K (rIx K) M (.v (.tup ds)) (.v (.int i)) Q := fun α F H u v S o1 o2 k kk => .inr (.inl (er_ixT ha q α F H u v S o1 o2 k kk))
theorem g_ixL {ds : List D} {i : Int} {d : D} (h : RdL M x ds) (ha : atI ds i = some d) (q : Q (.v d)) : EvR K (rIx K) M x (.v (.int i)) Q := fun α F H u v S o1 o2 k kk => .inl (er_ixL h ha q α F H u v S o1 o2 k kk)
/-- walks -/
def D.seq (b : Bool) (ds : List D) : D := if b then .tup ds else .lst ds
theorem RdS.seq {b : Bool} {ds : List D} : RdS M (.v (D.seq b ds)) ds := by
  cases b with
  | true => exact .t
  | false => exact .l .v
theorem ei_seqS {R : List D → Prop} (h : EvP K te ρ M fun s => ∃ ds, (∃ b, s = .v (D.seq b ds)) ∧ R ds) : EvI K (iSeq K te) ρ M R := fun σ α F H en S k kk =>
  h σ α F H en S _ fun v F1 H1 s m1 S1 o1 ⟨ds, ⟨b, e1⟩, q⟩ => by
    subst e1
    cases b with
    | true =>
      obtain ⟨a, vs, rfl, h1, h2⟩ := o1
      exact ⟨a, rfl, .inr ⟨⟨vs, sqt_same K S1.sub h1⟩, kk _ F1 H1 ds m1 S1 (itt_ok h1 h2) q⟩⟩
    | false =>
      obtain ⟨a, vs, rfl, h1, h2⟩ := o1
      exact ⟨a, rfl, .inl ⟨⟨vs, SqL.of (S1.sub _ _ h1)⟩, kk _ F1 H1 ds m1 S1 (itl_ok h1 h2) q⟩⟩
theorem ei_seqL {R : List D → Prop} (h : EvP K te ρ M fun s => ∃ ds, s = .v (.lst ds) ∧ R ds) : EvI K (iSeq K te) ρ M R := ei_seqS (h.mono fun s ⟨ds, e, r⟩ => ⟨ds, ⟨false, e⟩, r⟩)
theorem ei_seqT {R : List D → Prop} (h : EvP K te ρ M fun s => ∃ ds, s = .v (.tup ds) ∧ R ds) : EvI K (iSeq K te) ρ M R := ei_seqS (h.mono fun s ⟨ds, e, r⟩ => ⟨ds, ⟨true, e⟩, r⟩)
end
section
variable {P : Program} {w : World} {K : PySem.W.Frag} {mg : Str → Option Value} {base : Heap}
/-- a def that keeps a promise over plain data -/
theorem fn_at {ι : Type} {x : Str} {st : Stmt} {ps N : List Str} {k : Nat} {args : ι → List Sl} {Mi : ι → List MO} {pre : ι → Prop} {post : ι → D → List MO → Prop} (D0 : DefAt K mg x st ps) (S : FnScope N ps (defScope st)) (hl : ∀ i, (args i).length = ps.length)
    (body : ∀ (f : Addr) (cdv : Value) (A : Around) (outer : List Env) (s : Shared) (H : Hp) (E : XK), Room k (A.deeper (PyProof.Rows.envOfC x (defScope st) s.heap.objs.size f cdv)) →
      ∃ t, PSs (cxOf CX0 P w K mg base N x (defScope st) f cdv A outer s H E).nox (defBody st) t ∧
        ∀ i e, pre i → e.α.length = (Mi i).length → RunD K e t (startR N.length (args i)) (Mi i) (fun _ M' => post i .non (M'.take (Mi i).length)) (RetOk (Mi i).length (post i)) (fun _ _ => False) (fun _ _ => False)) :
    FnAt P w K mg base CX0 (k + 1) x ps (SpF K args Mi pre post) := by
  obtain ⟨f, fd, F, hm, hb⟩ := D0.ex
  refine ⟨f, fd, ⟨hm, fun_look F⟩, F.kp, hb, F.ok S (fun vs H Q E h => ?_) fun cdv A outer s H vs Q E hr h => ?_⟩
  · obtain ⟨i, α, F', o, _⟩ := h
    rw [← o.length, hl]
  · obtain ⟨t, ht, hi⟩ := body f cdv A outer s H E hr
    exact ⟨t, ht, fn_run hi vs H Q E h⟩
end
end DL

/-! DL6: the readings once more, each with one question. -/
namespace DL
open PySem L2
section
variable {K : PySem.W.Frag} {e : Ent} {ρ : Rho} {M : List MO} {Q : Sl → Prop} {te ta tb : TE} {x y : Sl} {nx bk ct : Rho → List MO → Prop} {rt : Sl → List MO → Prop}
theorem x_var {i : Nat} (h : ∃ s, ρ[i]? = some (some s) ∧ Q s) : EvP K (tVar i) ρ M Q := let ⟨_, a, b⟩ := h; ev_var a b
theorem x_mul {i j : Int} (h : CMulW i j ∧ Q (.v (.int (i * j)))) : EvR K (gMul K) M (.v (.int i)) (.v (.int j)) Q := g_mul h.1 h.2
theorem x_div {i j : Int} (h : CDivW i j ∧ Q (.v (.int (i / j)))) : EvR K gDiv M (.v (.int i)) (.v (.int j)) Q := g_div h.1 h.2
theorem x_mod {i j : Int} (h : 0 < j ∧ Q (.v (.int (i % j)))) : EvR K gMod M (.v (.int i)) (.v (.int j)) Q := g_mod h.1 h.2
theorem x_pow {i j : Int} (h : CPow i j ∧ Q (.v (.int (i ^ j.toNat)))) : EvR K gPow M (.v (.int i)) (.v (.int j)) Q := g_pow h.1 h.2
theorem x_ixT {ds : List D} {i : Int} (h : ∃ d, atI ds i = some d ∧ Q (.v d)) : EvR K (rIx K) M (.v (.tup ds)) (.v (.int i)) Q := let ⟨_, a, b⟩ := h; g_ixT a b
theorem x_ixL {ds : List D} {i : Int} (h : ∃ d, atI ds i = some d ∧ Q (.v d)) : EvR K (rIx K) M (.v (.lst ds)) (.v (.int i)) Q := let ⟨_, a, b⟩ := h; g_ixL .v a b
theorem x_ixM {k : Nat} {i : Int} (h : ∃ ds, M[k]? = some (.lst ds) ∧ ∃ d, atI ds i = some d ∧ Q (.v d)) : EvR K (rIx K) M (.l k) (.v (.int i)) Q := let ⟨_, z, _, a, b⟩ := h; g_ixL (.l z) a b
theorem x_lenL {ds : List D} (q : Q (.v (.int (ds.length : Int)))) : EvC K (rLen K) M [.v (.lst ds)] Q := ec_len (.l .v) q
theorem x_lenT {ds : List D} (q : Q (.v (.int (ds.length : Int)))) : EvC K (rLen K) M [.v (.tup ds)] Q := ec_len .t q
theorem x_lenS {b : Bool} {ds : List D} (q : Q (.v (.int (ds.length : Int)))) : EvC K (rLen K) M [.v (D.seq b ds)] Q := ec_len .seq q
theorem x_lenM {k : Nat} (h : ∃ ds, M[k]? = some (.lst ds) ∧ Q (.v (.int (ds.length : Int)))) : EvC K (rLen K) M [.l k] Q := let ⟨_, z, b⟩ := h; ec_len (.l (.l z)) b
theorem x_tupL {ds : List D} (q : Q (.v (.tup ds))) : EvC K (rTupOf K) M [.v (.lst ds)] Q := ec_tupOf (.l .v) q
theorem x_tupM {k : Nat} (h : ∃ ds, M[k]? = some (.lst ds) ∧ Q (.v (.tup ds))) : EvC K (rTupOf K) M [.l k] Q := let ⟨_, z, b⟩ := h; ec_tupOf (.l (.l z)) b
theorem x_app {i : Nat} (h : ∃ k ds, ρ[i]? = some (some (.l k)) ∧ M[k]? = some (.lst ds) ∧ EvP K te ρ M fun s => ∃ d, s = .v d ∧ ds.length < 16777216 ∧ nx ρ (M.set k (.lst (ds ++ [d])))) :
    RunD K e (tDrop (tBM K "list" rAppend (tVar i) (tCons te tNil))) ρ M nx rt bk ct := let ⟨_, _, a, b, c⟩ := h; r_app a b c
theorem units65 {k : Nat} {A : Around} (r : Room k A) : A.units + 65 < cLine := by have := r.un; omega
theorem r_via {t : TS} (I : Rho → List MO → Prop) (h1 : RunD K e t ρ M I rt bk ct) (h2 : ∀ ρ' M', I ρ' M' → nx ρ' M') : RunD K e t ρ M nx rt bk ct := h1.mono h2 (fun _ _ h => h) (fun _ _ h => h) (fun _ _ h => h)
theorem env_intro {ρ : Rho} {l : (Nat → Option Sl) → Rho} {R : Prop} (h : ρ = l (fun i => ρ.getD i none)) (r : R) : ∃ o, ρ = l o ∧ R := ⟨_, h, r⟩
theorem ite_dec {c A B : Prop} [Decidable c] (h1 : c → A) (h2 : ¬ c → B) : if decide c = true then A else B := by
  by_cases h : c
  · rw [if_pos (decide_eq_true h)]; exact h1 h
  · rw [if_neg (by simpa using h)]; exact h2 h
theorem ite_ndec {c A B : Prop} [Decidable c] (h1 : ¬ c → A) (h2 : c → B) : if (!decide c) = true then A else B := by
  by_cases h : c
  · rw [if_neg (by simpa using h)]; exact h2 h
  · rw [if_pos (by simpa using h)]; exact h1 h
theorem ite_b {b : Bool} {A B : Prop} (h1 : b = true → A) (h2 : b = false → B) : if b = true then A else B := by
  cases b with
  | true => rw [if_pos rfl]; exact h1 rfl
  | false => rw [if_neg (by simp)]; exact h2 rfl
theorem le_lit {n m : Nat} (h : Nat.ble n m = true) : n ≤ m := Nat.le_of_ble_eq_true h
theorem mulW {i j : Int} {a b : Nat} (ha : i.natAbs < 2 ^ a) (hb : j.natAbs < 2 ^ b) (h : a + b ≤ 999990) : CMulW i j :=
  wide_mul (a := a + 1) (b := b + 1) (Nat.lt_of_lt_of_le ha (Nat.pow_le_pow_right (by decide) (by omega))) (Nat.lt_of_lt_of_le hb (Nat.pow_le_pow_right (by decide) (by omega))) (by omega) (by omega) (by omega)
theorem divW {i j : Int} {b : Nat} (h : 0 < j) (hb : j.natAbs < 2 ^ b) (h9 : b ≤ 8990) : CDivW i j := wide_div (b := b + 1) h (Nat.lt_of_lt_of_le hb (Nat.pow_le_pow_right (by decide) (by omega))) (by omega) (by omega)
theorem mul_lt {i j : Int} {a b : Nat} (ha : i.natAbs < 2 ^ a) (hb : j.natAbs < 2 ^ b) : (i * j).natAbs < 2 ^ (a + b) := wide_lt ha hb
theorem bit_le {i : Int} {a b : Nat} (ha : i.natAbs < 2 ^ a) (h : a ≤ b) : i.natAbs < 2 ^ b := Nat.lt_of_lt_of_le ha (Nat.pow_le_pow_right (by decide) h)
theorem add_lt {i j : Int} {a : Nat} (ha : i.natAbs < 2 ^ a) (hb : j.natAbs < 2 ^ a) : (i + j).natAbs < 2 ^ (a + 1) := by
  rw [Nat.pow_succ]; omega
theorem sub_lt {i j : Int} {a : Nat} (ha : i.natAbs < 2 ^ a) (hb : j.natAbs < 2 ^ a) : (i - j).natAbs < 2 ^ (a + 1) := by
  rw [Nat.pow_succ]; omega
theorem ret_v {n : Nat} {post : D → List MO → Prop} {d : D} {M' : List MO} (h : post d (M'.take n)) : RetOk n post (.v d) M' := .inl ⟨d, rfl, h⟩
end
/-- a whole number of the module's top -/
structure CInt (mg : Str → Option Value) (x : Str) (i : Int) : Prop where
  ex : ∃ t, mg x = some (.int i t)
theorem CInt.pe {X : Cx} {x : Str} {i : Int} {pos : Pos} (c : CInt X.mg x i) (hg : Gl X x) (hd : (x == ("__debug__" : Str)) = false := by decide) : PE X (.Name x pos) (tC (.int i)) := by
  obtain ⟨t, h⟩ := c.ex
  exact pe_glob hg h ⟨t, rfl⟩ hd
end DL

/-! DL7: the source of draws; new things of a call. -/
namespace DL
open PySem L2
section
variable {K : PySem.W.Frag} {e : Ent} {ρ : Rho} {M : List MO} {Q : Sl → Prop} {te ta tb : TE} {x y : Sl} {nx bk ct : Rho → List MO → Prop} {rt : Sl → List MO → Prop}
theorem Sta.add {α : Al} {F H H' : Hp} (S : Sta K α M F H) {p : Addr × Addr} {m' : MO} (s : Same H H') (h1 : H p.1 = none) (h2 : H p.2 = none) (k1 : H' p.1 ≠ none) (k2 : H' p.2 ≠ none) (hm : MObj K F H' m' p) : Sta K (α ++ [p]) (M ++ [m']) F H' := by
  have t2 : ∀ b, H b ≠ none → H' b ≠ none := fun b h => by
    cases z : H b with
    | none => exact absurd z h
    | some o => rw [s b o z]; simp
  refine ⟨S.sub.trans s, by simp [S.len], fun i m q h1 h2 => ?_, fun i j q r hij g1 g2 => ?_, fun q hq => ?_⟩
  · by_cases hi : i < α.length
    · rw [List.getElem?_append_left (by rw [S.len]; exact hi)] at h1
      rw [List.getElem?_append_left hi] at h2
      exact (S.ob i m q h1 h2).keep (.refl F) (fun z => z) (fun z => z) (fun o z => s _ o z) (fun o z => s _ o z)
    · have hi2 : i = α.length := by
        have := (List.getElem?_eq_some_iff.mp h2).1
        simp at this; omega
      subst hi2
      rw [← S.len, List.getElem?_append_right (Nat.le_refl _)] at h1
      rw [List.getElem?_append_right (Nat.le_refl _)] at h2
      simp at h1 h2
      subst h1; subst h2
      exact hm
  · have hj : j < α.length ∨ j = α.length := by
      have := (List.getElem?_eq_some_iff.mp g2).1
      simp at this; omega
    have hi : i < α.length := by omega
    rw [List.getElem?_append_left hi] at g1
    rcases hj with hj | hj
    · rw [List.getElem?_append_left hj] at g2
      exact S.ap i j q r hij g1 g2
    · subst hj
      rw [List.getElem?_append_right (Nat.le_refl _)] at g2
      simp at g2
      subst g2
      have hq := S.tr q (List.mem_of_getElem? g1)
      exact ⟨fun z => hq.1 (by rw [z]; exact h1), fun z => hq.1 (by rw [z]; exact h2), fun z => hq.2 (by rw [z]; exact h1), fun z => hq.2 (by rw [z]; exact h2)⟩
  · rcases List.mem_append.mp hq with z | z
    · exact ⟨t2 _ (S.tr q z).1, t2 _ (S.tr q z).2⟩
    · simp at z; subst z
      exact ⟨k1, k2⟩
theorem StepE.add {α : Al} {F H H' : Hp} (st : StepE e α F H) {p : Addr × Addr} (s : Same H H') (h1 : H p.1 = none) (h2 : H p.2 = none) : StepE e (α ++ [p]) F H' where
  ex := st.ex
  fr := fun b u h k => s b u (st.fr b u h k)
  tr := fun b h => by
    have := st.tr b h
    cases z : H b with
    | none => exact absurd z this
    | some o => rw [s b o z]; simp
  new := st.new
  pre := by
    obtain ⟨β, e1, hβ⟩ := st.pre
    refine ⟨β ++ [p], by rw [e1, List.append_assoc], fun q hq => ?_⟩
    rcases List.mem_append.mp hq with z | z
    · exact hβ q z
    · simp at z; subst z
      exact ⟨none_back (st.tr _) h1, none_back (st.tr _) h2⟩
/-- the making of a source of draws -/
def spMix (K : PySem.W.Frag) : Sp := fun vs H Q _ => ∃ (a : Addr) (cells : List Int) (seed : Int), vs = [.ref a, .int seed] ∧ SqL K H a (cells.map V.int) ∧ cells.length ≤ 63 ∧ 0 ≤ seed ∧ seed < 2147483647 ∧
  ∀ p H', H p.1 = none → H p.2 = none → Same H H' → Rng H' p → Q (.ref p.1) H'
theorem r_mix {i : Nat} {t : TA} {X : XK} (h : EvA K t ρ M fun ss => ∃ (cells : List Int) (seed : Int), ss = [.v (.rd (D.ints cells)), .v (.int seed)] ∧ cells.length ≤ 63 ∧ 0 ≤ seed ∧ seed < 2147483647 ∧ nx (ρ.set i (some (.l M.length))) (M ++ [.rng])) :
    RunD K e (tAsg (tCall (spMix K) [] X t) (gName i)) ρ M nx rt bk ct := fun Y σ α F H g ok =>
  h σ α F H g.env g.sta _ fun vs F1 H1 ss m1 S1 o1 ⟨cells, seed, e1, h63, s0, s1, q1⟩ => by
    subst e1
    obtain ⟨v, r, rfl, o1, o2⟩ := o1
    obtain ⟨w, r', rfl, o3, o4⟩ := o2
    have o4 : r' = [] := o4
    have o3 : w = .int seed := o3
    subst o3; subst o4
    obtain ⟨a, us, rfl, hs, hd⟩ := o1
    have e2 := hd.ofInts
    subst e2
    refine ⟨a, cells, seed, rfl, S1.sub.seq hs, h63, s0, s1, fun p H' n1 n2 s2 R => ?_⟩
    have k1 : H' p.1 ≠ none := by
      obtain ⟨_, _, _, _, z, _⟩ := R
      rw [z]; simp
    have k2 : H' p.2 ≠ none := by
      obtain ⟨_, _, _, _, _, z, _⟩ := R
      rw [z]; simp
    have S2 := S1.add (m' := .rng) s2 n1 n2 k1 k2 ⟨S1.sub.free n1, S1.sub.free n2, R⟩
    exact ok.nx _ _ F1 _ _ _ ⟨((g.env.mono m1.ex).more).set i (loc_ok (p := p) (by rw [S1.len, List.getElem?_append_right (Nat.le_refl _)]; simp)), S2, (g.st.move m1).add s2 n1 n2⟩ m1.ex q1
end
section
variable {P : Program} {w : World} {K : PySem.W.Frag} {mg : Str → Option Value} {base : Heap}
theorem fn_atR {x : Str} {st : Stmt} {ps N : List Str} {k : Nat} {sp : Sp} (D0 : DefAt K mg x st ps) (S : FnScope N ps (defScope st)) (hl : ∀ vs H Q E, sp vs H Q E → vs.length = ps.length)
    (body : ∀ (f : Addr) (cdv : Value) (A : Around) (outer : List Env) (s : Shared) (H : Hp) (E : XK), Room k (A.deeper (PyProof.Rows.envOfC x (defScope st) s.heap.objs.size f cdv)) →
      ∃ t, PSs (cxOf CX0 P w K mg base N x (defScope st) f cdv A outer s H E).nox (defBody st) t ∧ ∀ vs Q E', sp vs H Q E' → t { nx := fun _ H' => Q .non H', rt := Q } (L2.start N vs) H) :
    FnAt P w K mg base CX0 (k + 1) x ps sp := by
  obtain ⟨f, fd, F, hm, hb⟩ := D0.ex
  refine ⟨f, fd, ⟨hm, fun_look F⟩, F.kp, hb, F.ok S hl fun cdv A outer s H vs Q E hr h => ?_⟩
  obtain ⟨t, ht, hi⟩ := body f cdv A outer s H E hr
  exact ⟨t, ht, hi vs Q E h⟩
/-- a def that is never called so -/
theorem fn_never {ι : Type} {x : Str} {st : Stmt} {ps : List Str} {k : Nat} {args : ι → List D} {pre : ι → Prop} {post : ι → D → Prop} (D0 : DefAt K mg x st ps) (h : ∀ i, ¬ pre i) : FnAt P w K mg base CX0 k x ps (SpP K args pre post) := by
  obtain ⟨f, fd, F, hm, hb⟩ := D0.ex
  exact ⟨f, fd, ⟨hm, fun_look F⟩, F.kp, hb, fun vs H Q E z => (h _ z.choose_spec.choose_spec.choose_spec.2.2.1).elim, fun A outer s H args us vs Q E _ _ _ _ z => (h _ z.choose_spec.choose_spec.choose_spec.2.2.1).elim⟩
theorem def_mk {x : Str} {st : Stmt} {ps : List Str} {h : Heap} {f : Addr} {oc : Value} {od an : Option Addr} {osl : Array (Option Value)} {kV doc pm cdv ct : Value} (X : K.In h) (G : h.Ns mainGlobals mg)
    (a : PySem.W.nsIn K mainGlobals x = some (some (.ref f))) (l : K.lookup f = some ⟨oc, od, .func (PySem.W.fnOf x x (defArgs st) (defBody st) (defScope st) .none kV doc pm an cdv ct), osl⟩)
    (c : PySem.W.codeIn K cdv x = true) (k : PySem.W.keepIn K (.ref f) = true)
    (b : ∀ (kV doc pm : Value) (an : Option Addr) (cdv ct : Value) (us : List Value), us.length = ps.length → bindArgs (PySem.W.fnOf x x (defArgs st) (defBody st) (defScope st) .none kV doc pm an cdv ct) ⟨us, []⟩ = pure (ps.zip us)) : DefAt K mg x st ps :=
  ⟨f, _, fun_mk l c k, PySem.W.mg_of X G a, fun _ us hl => .of_eq (b _ _ _ _ _ _ us hl)⟩
/-- the law's def, for the end of a row -/
theorem law_end {x y : Str} {k : Nat} {sp : Sp} {fa : Addr} (h : ∀ base : Heap, K.In base → base.Ns mainGlobals mg → FnAt P w K mg base CX0 k x [y] sp) {g : Heap} (X : K.In g) (G : g.Ns mainGlobals mg) (hm : mg x = some (.ref fa)) :
    ∃ fd : FuncData, (∀ (s : Shared) (u : Value), BindsTo s fd ⟨[u], []⟩ [(y, u)]) ∧ ∀ base : Heap, K.In base → base.Ns mainGlobals mg → FnOk P w K mg base CX0 k fa fd [y] sp := by
  obtain ⟨f, fd, ⟨hf, oc, od, osl, lk⟩, _, hb, _⟩ := h g X G
  rw [hm] at hf
  cases hf
  refine ⟨fd, fun s u => hb s [u] rfl, fun base X' G' => ?_⟩
  obtain ⟨f', fd', ⟨hf', oc', od', osl', lk'⟩, _, _, F⟩ := h base X' G'
  rw [hm] at hf'
  cases hf'
  rw [lk] at lk'
  cases lk'
  exact F
end
end DL

/-! DL8: kinds of things; classes. -/
namespace DL
open PySem L2
section
variable {K : PySem.W.Frag} {e : Ent} {ρ : Rho} {M : List MO} {Q : Sl → Prop} {te ta tb : TE} {x y : Sl} {nx bk ct : Rho → List MO → Prop} {rt : Sl → List MO → Prop}
/-- a class of the text whose instances are told apart by isinstance -/
structure ClsI (K : PySem.W.Frag) (C : Addr) : Prop where
  cl : Cls K C
  ha : PySem.W.findIn K (.ref C) "__class__" = some (some (.builtin "object.__class__"))
  hn : PySem.W.specialIn K (.builtin "object.__class__") "__get__" = some (some (.builtin "getset_descriptor.__get__"))
  htk : PySem.W.takesIn K (.builtin "object.__class__") = some true
  hm : PySem.W.mroIn K C (.type "object") = some true
/-- the kind of a thing -/
inductive Kind (K : PySem.W.Frag) : D → Value → Prop
  | non : Kind K .non (.type "NoneType")
  | bl (b : Bool) : Kind K (.bl b) (.type "bool")
  | int (i : Int) : Kind K (.int i) (.type "int")
  | str (s : Str) : Kind K (.str s) (.type "str")
  | tup (ds : List D) : Kind K (.tup ds) (.type "tuple")
  | lst (ds : List D) : Kind K (.lst ds) (.type "list")
  | dic (ks : List Key) (ds : List D) : Kind K (.dic ks ds) (.type "dict")
  | ins (C : Addr) (ns : List Str) (ds : List D) (c : ClsI K C) : Kind K (.ins C ns ds) (.ref C)
theorem Kind.ty {α : Al} {F H : Hp} {d : D} {t : Value} {v : V} (k : Kind K d t) (S : Sta K α M F H) (o : SlOk K α F (.v d) v) : TyX K H v t := by
  cases k with
  | non =>
    have o : v = .non := o
    subst o; exact .base .non
  | bl b =>
    have o : v = .bl b := o
    subst o; exact .base (.bl b)
  | int b =>
    have o : v = .int b := o
    subst o; exact .base (.int b)
  | str b =>
    have o : v = .str b := o
    subst o; exact .base (.str b)
  | tup ds =>
    obtain ⟨a, vs, rfl, h1, _⟩ := o
    rcases sqt_same K S.sub h1 with (h | ⟨ob, h⟩) | ⟨ob, its, n, h, c, _⟩
    · exact .base (.tup h)
    · exact .fTuple h
    · exact .kTuple h c
  | lst ds =>
    obtain ⟨a, vs, rfl, h1, _⟩ := o
    exact .base (.lst (S.sub _ _ h1))
  | dic ks ds =>
    obtain ⟨a, vs, rfl, h1, _⟩ := o
    exact .base (.dK (S.sub _ _ h1))
  | ins C ns ds c =>
    obtain ⟨a, dx, vs, rfl, h1, _⟩ := o
    exact .base (.ins (S.sub _ _ h1) c.cl c.ha c.hn c.htk c.hm)
theorem sls2s {α : Al} {F : Hp} {s s' : Sl} {us : List V} (o : SlsOk K α F [s, s'] us) : ∃ u u', us = [u, u'] ∧ SlOk K α F s u ∧ SlOk K α F s' u' := by
  obtain ⟨v, r, rfl, o1, o2⟩ := o
  obtain ⟨u, rfl, o3⟩ := sls1s o2
  exact ⟨v, u, rfl, o1, o3⟩
theorem ec_isi {d : D} {t : Value} {T : String} {b : Bool} (k : Kind K d t) (h : PySem.W.kitOne K t (.type T) = some b) (q : Q (.v (.bl b))) : EvC K (rIsi K) M [.v d, .v (.raw (.ty T))] Q := fun α F H us S o kk0 kk => by
  obtain ⟨u, u', rfl, o1, o2⟩ := sls2s o
  have o2 : u' = .ty T := o2
  subst o2
  exact ⟨u, _, t, _, b, rfl, .ty T, k.ty S o1, h, kk _ F H _ .refl S raw_ok q⟩
theorem ec_isiC {d : D} {t : Value} {C : Addr} {b : Bool} (k : Kind K d t) (h : PySem.W.kitOne K t (.ref C) = some b) (q : Q (.v (.bl b))) : EvC K (rIsi K) M [.v d, .v (.raw (.ref C))] Q := fun α F H us S o kk0 kk => by
  obtain ⟨u, u', rfl, o1, o2⟩ := sls2s o
  have o2 : u' = .ref C := o2
  subst o2
  exact ⟨u, _, t, _, b, rfl, .own C, k.ty S o1, h, kk _ F H _ .refl S raw_ok q⟩
/-- what a class's attributes read through a property -/
theorem ev_prop {f : Str} {C : Addr} {ns : List Str} {ds : List D} {i : Nat} {d : D} {X : XK} (hi : (ns.findIdx? (· == f)) = some i) (hd : ds[i]? = some d) (h : EvP K te ρ M fun s => s = .v (.ins C ns ds) ∧ Q (.v d)) : EvP K (tProp C (getSp C f) [] X te) ρ M Q := fun σ α F H en S k kk =>
  h σ α F H en S _ fun v F1 H1 s m1 S1 o1 ⟨e1, q⟩ => by
    subst e1
    obtain ⟨a, dx, vs, rfl, h1, h2, h3⟩ := o1
    obtain ⟨w, hw, r⟩ := h3.get hd
    exact ⟨a, dx, _, rfl, S1.sub _ _ h1, a, dx, _, w, rfl, S1.sub _ _ h1, lookup_zip hi hw, kk w F1 H1 _ m1 S1 (den_ok r) q⟩
/-- a method of the class: its def, plain -/
structure MethAt (K : PySem.W.Frag) (C : Addr) (x qual : Str) (st : Stmt) (ps : List Str) : Prop where
  ex : ∃ f fd, Fun K x qual st f fd ∧ PySem.W.findIn K (.ref C) x = some (some (.ref f)) ∧ PySem.W.isFn K (.ref f) = true ∧ Binds K fd ps []
structure PropAt (K : PySem.W.Frag) (C : Addr) (x f qual : Str) (st : Stmt) : Prop where
  ex : ∃ p g fd, PropOf K C x p g ∧ Fun K x qual st g fd ∧ Binds K fd ["self"] []
end
section
variable {X : Cx} {e : Expr} {es : List Expr} {t : TA} {p pos : Pos} {ta : TE}
theorem pe_isi {K : PySem.W.Frag} {e2 : Expr} (b : X.mg "isinstance" = none) (hg : Gl X "isinstance") (ha : PA X [e, e2] t) (he : starEach [e, e2] X.env = (false, eval e X.env) :: starEach [e2] X.env := by rfl) (hpl : (backTo pos (starEach [e2] X.env)).any (·.1) = false := by rfl) (hK : X.K = K := by rfl) : PE X (.Call (.Name "isinstance" p) [e, e2] [] pos) (tCB (rIsi K) t) := by
  subst hK
  exact pe_callB call_isi hg b PyProof.Rows.boot_isinstance ha (by decide) (by decide) he hpl
theorem pe_cls {x : Str} {C : Addr} (hm : X.mg x = some (.ref C)) (hg : Gl X x) (hd : (x == ("__debug__" : Str)) = false := by decide) : PE X (.Name x pos) (tC (.ref C)) := pe_glob hg hm rfl hd
theorem pe_at {K : PySem.W.Frag} {f : Str} (he : PE X e ta) (hb : attributeBase e f X.env (eval e X.env) = eval e X.env := by rfl) (hK : X.K = K := by rfl) : PE X (.Attribute e f pos) (tFld K ta f) := by
  subst hK
  exact pe_fld he hb
/-- a property whose getter hands back the attribute of that name -/
structure Getter (K : PySem.W.Frag) (C : Addr) (x f : Str) : Prop where
  ok : ∀ (P : Program) (w : World) (mg : Str → Option Value) (base : Heap), ∃ p g fd, PropOf K C x p g ∧ FnOk P w K mg base CX0 1 g fd ["self"] (getSp C f) ∧ Binds K fd ["self"] []
theorem pe_get {x f : Str} {C : Addr} (G : Getter X.K C x f) (c : Cls X.K C) (hr : Room 2 X.A) (he : PE X e ta) (hab : attributeBase e x X.env (eval e X.env) = eval e X.env := by rfl) : PE X (.Attribute e x pos) (tProp C (getSp C f) [] E0 ta) := by
  obtain ⟨p, g, fd, hp, F, hb⟩ := G.ok X.prog X.w X.mg X.base
  exact pe_prop he c hp F hr hb .nil pass0 hab
end
section
variable {K : PySem.W.Frag} {C : Addr} {x f : Str}
/-- the getter: def x(self): return self.f -/
theorem getter_mk {p g : Addr} {fd : FuncData} {qual : Str} {st : Stmt} {p1 p2 p3 : Pos} (hp : PropOf K C x p g) (F : Fun K x qual st g fd) (S : FnScope ["self"] ["self"] (defScope st)) (hb : defBody st = [.Return (some (.Attribute (.Name "self" p1) f p2)) p3]) (bd : Binds K fd ["self"] []) (c : Cls K C) (n : NoAttr K C f) : Getter K C x f := by
  refine ⟨fun P w mg base => ⟨p, g, fd, hp, F.ok S (fun vs H Q E h => ?_) (fun cdv A outer s H vs Q E hr h => ?_), bd⟩⟩
  · obtain ⟨a, dx, fs, v, e, _⟩ := h
    rw [e]; rfl
  · obtain ⟨a, dx, fs, v, e, ea, l, q⟩ := h
    subst e
    rw [hb]
    refine ⟨_, pss_one (ps_ret (pe_fld (pe_var (i := 0) rfl ((S.par "self" (List.Mem.head _)).elim (fun z => .inl z) (fun z => .inr (.inl z)))) rfl)), ?_⟩
    exact ⟨.ref a, rfl, a, C, dx, fs, v, rfl, ea, c, n, l, q⟩
theorem meth_mk {qual : Str} {st : Stmt} {ps : List Str} {f : Addr} {oc : Value} {od an : Option Addr} {osl : Array (Option Value)} {kV doc pm cdv ct : Value}
    (a : PySem.W.findIn K (.ref C) x = some (some (.ref f))) (i : PySem.W.isFn K (.ref f) = true) (l : K.lookup f = some ⟨oc, od, .func (PySem.W.fnOf x qual (defArgs st) (defBody st) (defScope st) .none kV doc pm an cdv ct), osl⟩)
    (c : PySem.W.codeIn K cdv qual = true) (k : PySem.W.keepIn K (.ref f) = true)
    (b : ∀ (kV doc pm : Value) (an : Option Addr) (cdv ct : Value) (us : List Value), us.length = ps.length → bindArgs (PySem.W.fnOf x qual (defArgs st) (defBody st) (defScope st) .none kV doc pm an cdv ct) ⟨us, []⟩ = pure (ps.zip us)) : MethAt K C x qual st ps :=
  ⟨f, _, fun_mk l c k, a, i, (fun_mk (st := st) l c k).binds b⟩
theorem prop_mk {qual : Str} {st : Stmt} {p g : Addr} {rest : List Value} {oc : Value} {od an : Option Addr} {osl : Array (Option Value)} {kV doc pm cdv ct : Value} {p1 p2 p3 : Pos}
    (h1 : PySem.W.findIn K (.ref C) x = some (some (.ref p))) (h2 : PySem.W.specialIn K (.ref p) "__get__" = some (some (.builtin "property.__get__"))) (h3 : PySem.W.takesIn K (.ref p) = some true) (h4 : PySem.W.recIn K p "property" = some (.ref g :: rest))
    (l : K.lookup g = some ⟨oc, od, .func (PySem.W.fnOf x qual (defArgs st) (defBody st) (defScope st) .none kV doc pm an cdv ct), osl⟩) (c : PySem.W.codeIn K cdv qual = true) (k : PySem.W.keepIn K (.ref g) = true)
    (S : FnScope ["self"] ["self"] (defScope st)) (hb : defBody st = [.Return (some (.Attribute (.Name "self" p1) f p2)) p3])
    (b : ∀ (kV doc pm : Value) (an : Option Addr) (cdv ct : Value) (us : List Value), us.length = 1 → bindArgs (PySem.W.fnOf x qual (defArgs st) (defBody st) (defScope st) .none kV doc pm an cdv ct) ⟨us, []⟩ = pure ([("self" : Str)].zip us)) (cl : Cls K C) (n : NoAttr K C f) : Getter K C x f :=
  getter_mk ⟨h1, h2, h3, ⟨rest, h4⟩⟩ (fun_mk l c k) S hb ((fun_mk (st := st) l c k).binds b) cl n
end
/-! ### the making of an object -/
section
variable {P : Program} {w : World} {K : PySem.W.Frag} {mg : Str → Option Value} {base : Heap}
/-- a class whose __init__ takes plain data and leaves an object of plain data -/
def SpI {ι : Type} (K : PySem.W.Frag) (C : Addr) (args : ι → List D) (pre : ι → Prop) (ns : List Str) (post : ι → List D → Prop) : Sp := fun vs H Q _ =>
  ∃ (x : ι) (a dx : Addr) (F : Hp) (us : List V), vs = .ref a :: us ∧ Dens K F (args x) us ∧ Same F H ∧ F a = none ∧ F dx = none ∧ a ≠ dx ∧ H a = some (.ins C dx []) ∧ pre x ∧
    ∀ F' H' ds, Same F F' → Same F' H' → (∀ b o, H b = some o → b ≠ a → H' b = some o) → (∀ b, F' b ≠ none → F b ≠ none ∨ H b = none ∨ b = a) → Den K F' (.ins C ns ds) (.ref a) → post x ds → Q .non H'
structure MkAt (P : Program) (w : World) (K : PySem.W.Frag) (mg : Str → Option Value) (base : Heap) (k : Nat) (x : Str) (C : Addr) (ps : List Str) (sp : Sp) : Prop where
  ex : ∃ f fd, mg x = some (.ref C) ∧ Mk K C f ∧ Binds K fd ps [] ∧ FnOk P w K mg base CX0 k f fd ps sp
theorem pe_new {X : Cx} {x : Str} {C : Addr} {k : Nat} {ps : List Str} {sp : Sp} {e : Expr} {es : List Expr} {t : TA} {p pos : Pos} (F : MkAt X.prog X.w X.K X.mg X.base k x C ps sp) (hr : Room (k + 1) X.A) (hg : Gl X x) (ha : PA X (e :: es) t) (hdb : (x == ("__debug__" : Str)) = false := by decide)
    (he : starEach (e :: es) X.env = (false, eval e X.env) :: starEach es X.env := by rfl) (hpl : (backTo pos (starEach es X.env)).any (·.1) = false := by rfl) : PE X (.Call (.Name x p) (e :: es) [] pos) (tMake C sp [] E0 t) := by
  obtain ⟨f, fd, hm, hM, hb, F⟩ := F.ex
  exact pe_make hM F hr hg hm hb .nil pass0 ha hdb he hpl
theorem ec_new {ι : Type} {C : Addr} {args : ι → List D} {pre : ι → Prop} {ns : List Str} {post : ι → List D → Prop} {ta : TA} {X : XK} {ρ : Rho} {M : List MO} {Q : Sl → Prop} (h : EvA K ta ρ M fun ss => ∃ x, ss = (args x).map Sl.v ∧ pre x ∧ ∀ ds, post x ds → Q (.v (.ins C ns ds))) : EvP K (tMake C (SpI K C args pre ns post) [] X ta) ρ M Q := fun σ α F H en S k kk =>
  h σ α F H en S _ fun vs F1 H1 ss m1 S1 o1 ⟨x, e1, hp, q⟩ => by
    subst e1
    intro a dx ha hdx hne
    have hd := o1.dens
    have n1 := S1.notin ha
    have n2 := S1.notin hdx
    have s1 : Same H1 (upd (upd H1 dx (.own a)) a (.ins C dx [])) := fun b o z => by
      rw [upd_ne (ne_of_none z ha), upd_ne (ne_of_none z hdx)]; exact z
    refine ⟨x, a, dx, F1, vs, by rw [List.append_nil], hd, S1.sub.trans s1, S1.sub.free ha, S1.sub.free hdx, Ne.symm hne, upd_same, hp, fun F' H' ds f1 f2 fr nw hden hpost => ⟨rfl, ?_⟩⟩
    have fr1 : ∀ b o, H1 b = some o → H' b = some o := fun b o z => fr b o (s1 b o z) (ne_of_none z ha)
    have mv : Move [] F1 H1 F' H' := ⟨f1, fun b o z _ => fr1 b o z, fun b z => by
      cases y : H1 b with
      | none => exact absurd y z
      | some o => rw [fr1 b o y]; simp, fun b z => by
      rcases nw b z with y | y | y
      · exact .inl y
      · refine .inr ?_
        cases w : H1 b with
        | none => rfl
        | some o => rw [s1 b o w] at y; cases y
      · subst y; exact .inr ha⟩
    exact kk _ F' H' _ (m1.trans (mv.widen fun _ h => by simp at h)) (S1.keep0 mv f2) (den_ok hden) (q ds hpost)
/-- from the body of __init__: self is the 0-th thing -/
theorem init_run {ι : Type} {C : Addr} {args : ι → List D} {pre : ι → Prop} {ns : List Str} {post : ι → List D → Prop} {N : List Str} {t : TS}
    (h : ∀ x e, pre x → e.α.length = 1 → RunD K e t (startR N.length (.l 0 :: (args x).map Sl.v)) [.ins C [] []] (fun _ M' => ∃ ds, M'[0]? = some (.ins C ns ds) ∧ post x ds) (fun s M' => s = .v .non ∧ ∃ ds, M'[0]? = some (.ins C ns ds) ∧ post x ds) (fun _ _ => False) (fun _ _ => False)) :
    ∀ vs H Q E, SpI K C args pre ns post vs H Q E → t { nx := fun _ H' => Q .non H', rt := Q } (L2.start N vs) H := by
  rintro vs H Q E ⟨x, a, dx, F, us, rfl, hd, sub, ha, hdx, hne, hH, hp, k⟩
  have S : Sta K [(a, a)] [.ins C [] []] F H := by
    refine ⟨sub, rfl, fun i m p h1 h2 => ?_, fun i j p q hij h1 h2 => ?_, fun p hq => ?_⟩
    · cases i with
      | zero =>
        simp at h1 h2
        subst h1; subst h2
        exact ⟨ha, dx, [], hH, rfl, rfl⟩
      | succ i => simp at h1
    · cases j with
      | zero => omega
      | succ j => simp at h2
    · simp at hq; subst hq
      rw [hH]; simp
  have fin : ∀ {α' : Al} {F' H' : Hp} {M' : List MO}, Sta K α' M' F' H' → StepE ⟨[(a, a)], F, H⟩ α' F' H' → (∃ ds, M'[0]? = some (.ins C ns ds) ∧ post x ds) → Q .non H' := fun {α' F' H' M'} S' st ⟨ds, hM, hpost⟩ => by
    obtain ⟨β, e1, _⟩ := st.pre
    have e1 : α' = [(a, a)] ++ β := e1
    have h0 : α'[0]? = some (a, a) := by rw [e1]; rfl
    obtain ⟨hFa, dx', vs', hH', hl, hden⟩ := S'.ob 0 _ _ hM h0
    have hFa : F' a = none := hFa
    have hH' : H' a = some (.ins C dx' (ns.zip vs')) := hH'
    have s5 : Same F' (upd F' a (.ins C dx' (ns.zip vs'))) := fun b u h => by rw [upd_ne (ne_of_none h hFa)]; exact h
    refine k (upd F' a (.ins C dx' (ns.zip vs'))) H' ds (st.ex.trans s5) (fun b o z => ?_) (fun b o z hb => st.fr b o z fun p hp => ?_) (fun b z => ?_) ⟨a, dx', vs', rfl, upd_same, hl, Dens.mono K s5 _ _ hden⟩ hpost
    · by_cases e : b = a
      · subst e; rw [upd_same] at z; cases z; exact hH'
      · rw [upd_ne e] at z; exact S'.sub b o z
    · have hp : p ∈ [(a, a)] := hp
      simp at hp; subst hp; exact ⟨hb, hb⟩
    · by_cases e : b = a
      · exact .inr (.inr e)
      · rw [upd_ne e] at z
        rcases st.new b z with y | y
        · exact .inl y
        · exact .inr (.inl y)
  have ho : SlsOk K [(a, a)] F (.l 0 :: (args x).map Sl.v) (.ref a :: us) := by
    refine ⟨_, us, rfl, ⟨(a, a), rfl, rfl⟩, ?_⟩
    have : ∀ {ds : List D} {us : List V}, Dens K F ds us → SlsOk K [(a, a)] F (ds.map Sl.v) us := by
      intro ds
      induction ds with
      | nil => intro us h; exact h
      | cons d ds ih =>
        intro us h
        obtain ⟨v, r, rfl, h2, h3⟩ := h
        exact ⟨v, r, rfl, h2, ih h3⟩
    exact this hd
  refine h x ⟨[(a, a)], F, H⟩ hp rfl _ _ _ F H ⟨env_start ho, S, .refl⟩ ⟨fun σ' α' F' H' ρ' M' g _ q => fin g.sta g.st q, fun v s α' F' H' M' o S' st _ ⟨e1, q⟩ => ?_, fun _ _ _ _ _ _ _ _ q => q.elim, fun _ _ _ _ _ _ _ _ q => q.elim⟩
  subst e1
  have o : v = .non := o
  subst o
  exact fin S' st q
theorem mk_at {ι : Type} {x : Str} {C f : Addr} {st : Stmt} {ps N ns : List Str} {k : Nat} {args : ι → List D} {pre : ι → Prop} {post : ι → List D → Prop} {fd : FuncData} {qual : Str} (hm : mg x = some (.ref C)) (M : Mk K C f) (F : Fun K "__init__" qual st f fd) (B : Binds K fd ps []) (S : FnScope N ps (defScope st)) (hl : ∀ i, (args i).length + 1 = ps.length)
    (body : ∀ (f : Addr) (cdv : Value) (A : Around) (outer : List Env) (s : Shared) (H : Hp) (E : XK), Room k (A.deeper (PyProof.Rows.envOfC qual (defScope st) s.heap.objs.size f cdv)) →
      ∃ t, PSs (cxOf CX0 P w K mg base N qual (defScope st) f cdv A outer s H E).nox (defBody st) t ∧
        ∀ i e, pre i → e.α.length = 1 → RunD K e t (startR N.length (.l 0 :: (args i).map Sl.v)) [.ins C [] []] (fun _ M' => ∃ ds, M'[0]? = some (.ins C ns ds) ∧ post i ds) (fun s M' => s = .v .non ∧ ∃ ds, M'[0]? = some (.ins C ns ds) ∧ post i ds) (fun _ _ => False) (fun _ _ => False)) :
    MkAt P w K mg base (k + 1) x C ps (SpI K C args pre ns post) := by
  refine ⟨f, fd, hm, M, B, F.ok S (fun vs H Q E h => ?_) fun cdv A outer s H vs Q E hr h => ?_⟩
  · obtain ⟨i, a, dx, F', us, rfl, o, _⟩ := h
    rw [← hl i, o.length]; rfl
  · obtain ⟨t, ht, hi⟩ := body f cdv A outer s H E hr
    exact ⟨t, ht, init_run hi vs H Q E h⟩
end
/-! ### attributes of the thing at slot j -/
section
variable {K : PySem.W.Frag} {e : Ent} {ρ : Rho} {M : List MO} {te : TE} {nx bk ct : Rho → List MO → Prop} {rt : Sl → List MO → Prop}
def putD (f : Str) (d : D) : List Str → List D → List Str × List D
  | n :: ns, x :: xs => if n = f then (n :: ns, d :: xs) else let (a, b) := putD f d ns xs; (n :: a, x :: b)
  | _, _ => ([f], [d])
theorem putD_ok {F : Hp} {f : Str} {d : D} {v : V} (hv : Den K F d v) : ∀ {ns : List Str} {ds : List D} {vs : List V}, ns.length = vs.length → Dens K F ds vs →
    ∃ ws, putF f v (ns.zip vs) = (putD f d ns ds).1.zip ws ∧ (putD f d ns ds).1.length = ws.length ∧ Dens K F (putD f d ns ds).2 ws
  | [], [], vs, hl, h => by
    have h : vs = [] := h
    subst h
    exact ⟨[v], rfl, rfl, Dens.cons hv Dens.nil⟩
  | [], d' :: ds, vs, hl, h => by
    obtain ⟨u, r, rfl, _⟩ := h
    simp at hl
  | n :: ns, [], vs, hl, h => by
    have h : vs = [] := h
    subst h; simp at hl
  | n :: ns, d' :: ds, vs, hl, h => by
    obtain ⟨u, r, rfl, h2, h3⟩ := h
    by_cases hn : n = f
    · refine ⟨v :: r, ?_, ?_, ?_⟩
      · simp [putF, putD, hn]
      · simp [putD, hn]; simpa using hl
      · simp only [putD, if_pos hn]; exact Dens.cons hv h3
    · obtain ⟨ws, e1, e2, e3⟩ := putD_ok (f := f) hv (ns := ns) (ds := ds) (vs := r) (by simpa using hl) h3
      refine ⟨u :: ws, ?_, ?_, ?_⟩
      · simp only [List.zip_cons_cons, putF, putD, if_neg hn, e1]
      · simp only [putD, if_neg hn, List.length_cons, e2]
      · simp only [putD, if_neg hn]; exact Dens.cons h2 e3
/-- self.f = e -/
theorem r_fld {j k : Nat} {f : Str} {C : Addr} {ns : List Str} {ds : List D} (hc : Cls K C) (hn : NoAttr K C f) (hj : ρ[j]? = some (some (.l k))) (hk : M[k]? = some (.ins C ns ds)) (hl : ns.length < 1000) (h : EvP K te ρ M fun s => ∃ d, s = .v d ∧ nx ρ (M.set k (.ins C (putD f d ns ds).1 (putD f d ns ds).2))) :
    RunD K e (sFld K (tVar j) te f) ρ M nx rt bk ct := fun X σ α F H g ok =>
  h σ α F H g.env g.sta _ fun v F1 H1 s m1 S1 o1 ⟨d, e1, q1⟩ => by
    subst e1
    obtain ⟨u, h1, p, hp, rfl⟩ := g.env.at' j _ hj
    obtain ⟨hF1, dx, vs, hvs, hlen, hd1⟩ := S1.ob k _ p hk hp
    obtain ⟨ws, w1, w2, w3⟩ := putD_ok (f := f) (d := d) (v := v) o1 hlen hd1
    refine ⟨_, h1, p.1, C, dx, _, rfl, hvs, hc, hn, by rw [List.length_zip]; omega, ?_⟩
    obtain ⟨m2, S2⟩ := S1.write (m' := .ins C (putD f d ns ds).1 (putD f d ns ds).2) (o := .ins C dx (putF f v (ns.zip vs))) hp hF1 ⟨hF1, dx, ws, by rw [w1]; exact upd_same, w2, w3⟩
    exact ok.nx _ _ F1 _ _ _ ⟨g.env.mono m1.ex, S2, (g.st.move m1).move m2⟩ m1.ex q1
end
end DL

/-! DL9: chains of comparisons, constants, further built-ins. -/
namespace DL
open PySem L2
section
variable {K : PySem.W.Frag} {e : Ent} {ρ : Rho} {M : List MO} {Q : Sl → Prop} {R : Bool → Prop} {te ta tb tc : TE} {x y : Sl} {nx bk ct : Rho → List MO → Prop} {rt : Sl → List MO → Prop}
theorem ev_chain {r r' : R2} (h : EvP K ta ρ M fun x => EvP K tb ρ M fun y => EvR K r M x y fun z => ∃ k, z = .v (.bl k) ∧ if k = true then EvP K tc ρ M (fun w => EvR K r' M y w Q) else Q (.v (.bl false))) : EvP K (tChain r r' ta tb tc) ρ M Q := fun σ α F H en S k kk =>
  h σ α F H en S _ fun u F1 H1 x m1 S1 o1 q1 => q1 σ α F1 H1 (en.mono m1.ex) S1 _ fun v F2 H2 y m2 S2 o2 q2 =>
    q2 α F2 H2 u v S2 (o1.mono m2.ex) o2 _ fun z F3 H3 s m3 S3 o3 ⟨b, e1, q3⟩ => by
      subst e1
      have o3 : z = .bl b := o3
      subst o3
      refine ⟨b, rfl, ?_⟩
      cases b with
      | true =>
        have q3 : EvP K tc ρ M (fun w => EvR K r' M y w Q) := q3
        refine iteT ?_
        exact q3 σ α F3 H3 (en.mono ((m1.trans m2).trans m3).ex) S3 _ fun w F4 H4 s4 m4 S4 o4 q4 =>
          q4 α F4 H4 v w S4 (o2.mono (m3.trans m4).ex) o4 k fun z F5 H5 s5 m5 S5 o5 q5 => kk z F5 H5 s5 ((((m1.trans m2).trans m3).trans m4).trans m5) S5 o5 q5
      | false =>
        refine iteF ?_
        exact kk _ F3 H3 _ ((m1.trans m2).trans m3) S3 raw_ok q3
end
/-- a tuple of the module's top -/
structure CTup (K : PySem.W.Frag) (mg : Str → Option Value) (x : Str) (vs : List V) : Prop where
  ex : ∃ a o its n, mg x = some (.ref a) ∧ K.lookup a = some o ∧ o.cls = .type "tuple" ∧ o.data = .seq its n ∧ its.size ≤ sizeLine ∧ Vals vs its.toList
def tCT (K : PySem.W.Frag) (vs : List V) : TE := fun _ H Q => ∀ a, (∀ F, SqT K F a vs) → Q (.ref a) H
theorem CTup.pe {X : Cx} {K : PySem.W.Frag} {x : Str} {vs : List V} {pos : Pos} (c : CTup K X.mg x vs) (hg : Gl X x) (hd : (x == ("__debug__" : Str)) = false := by decide) (hK : X.K = K := by rfl) : PE X (.Name x pos) (tCT K vs) := by
  subst hK
  obtain ⟨a, o, its, n, h, rest⟩ := c.ex
  exact ⟨fun _ _ _ H _ I q => ld_glob I hg h ⟨.ref a, H, I, rfl, q a fun F => .inr ⟨o, its, n, rest⟩⟩ hd⟩
section
variable {K : PySem.W.Frag} {ρ : Rho} {M : List MO} {Q : Sl → Prop}
theorem ev_ct {vs : List V} (q : Q (.v (.tup (vs.map D.raw)))) : EvP K (tCT K vs) ρ M Q := fun σ α F H en S k kk a h =>
  kk (.ref a) F H _ .refl S (den_ok (d := .tup (vs.map D.raw)) ⟨a, vs, rfl, h F, Dens.raws⟩) q
end
theorem pe_isiT {X : Cx} {K : PySem.W.Frag} {e e2 : Expr} {t : TA} {p pos : Pos} (b : X.mg "isinstance" = none) (hg : Gl X "isinstance") (ha : PA X [e, e2] t) (he : starEach [e, e2] X.env = (false, eval e X.env) :: starEach [e2] X.env := by rfl) (hpl : (backTo pos (starEach [e2] X.env)).any (·.1) = false := by rfl) (hK : X.K = K := by rfl) : PE X (.Call (.Name "isinstance" p) [e, e2] [] pos) (tCB (rIsiT K) t) := by
  subst hK
  exact pe_callB call_isiT hg b PyProof.Rows.boot_isinstance ha (by decide) (by decide) he hpl
theorem sl_any {X : Cx} {K : PySem.W.Frag} (hK : X.K = K := by rfl) : SlR X (fun x lo hi H Q => rSlL K x lo hi H Q ∨ rSlA K x lo hi H Q) := by
  subst hK
  exact SlR.or sl_list sl_tupA
structure InitAt (K : PySem.W.Frag) (C : Addr) (qual : Str) (st : Stmt) (ps : List Str) : Prop where
  ex : ∃ f fd, Mk K C f ∧ Fun K "__init__" qual st f fd ∧ Binds K fd ps []
/-- things of a built-in kind -/
inductive Tame : D → Prop
  | non : Tame .non
  | bl (b : Bool) : Tame (.bl b)
  | int (i : Int) : Tame (.int i)
  | str (s : Str) : Tame (.str s)
  | tup (ds : List D) : Tame (.tup ds)
  | lst (ds : List D) : Tame (.lst ds)
  | dic (ks : List Key) (ds : List D) : Tame (.dic ks ds)
def D.tyn : D → String
  | .raw .non => "NoneType"
  | .raw (.bl _) => "bool"
  | .raw (.int _) => "int"
  | .raw (.str _) => "str"
  | .tup _ => "tuple"
  | .lst _ => "list"
  | .dic _ _ => "dict"
  | _ => ""
theorem Tame.kind {K : PySem.W.Frag} {d : D} (t : Tame d) : Kind K d (.type d.tyn) := by
  cases t with
  | non => exact .non
  | bl b => exact .bl b
  | int b => exact .int b
  | str b => exact .str b
  | tup b => exact .tup b
  | lst b => exact .lst b
  | dic a b => exact .dic a b
def isIntD : D → Bool
  | .raw (.int _) => true
  | .raw (.bl _) => true
  | _ => false
def isBoolD : D → Bool
  | .raw (.bl _) => true
  | _ => false
def isTupD : D → Bool
  | .tup _ => true
  | _ => false
def isLstD : D → Bool
  | .lst _ => true
  | _ => false
def isStrD : D → Bool
  | .raw (.str _) => true
  | _ => false
section
variable {K : PySem.W.Frag} {M : List MO} {Q : Sl → Prop}
theorem kb_int {d : D} (t : Tame d) : PySem.W.kitOne K (.type d.tyn) (.type "int") = some (isIntD d) := by
  cases t with
  | non => exact kit_ty (show kitB "NoneType" "int" = some false by decide +kernel)
  | bl b => exact kit_ty (show kitB "bool" "int" = some true by decide +kernel)
  | int b => exact kit_ty (show kitB "int" "int" = some true by decide +kernel)
  | str b => exact kit_ty (show kitB "str" "int" = some false by decide +kernel)
  | tup b => exact kit_ty (show kitB "tuple" "int" = some false by decide +kernel)
  | lst b => exact kit_ty (show kitB "list" "int" = some false by decide +kernel)
  | dic p b => exact kit_ty (show kitB "dict" "int" = some false by decide +kernel)
theorem kb_bool {d : D} (t : Tame d) : PySem.W.kitOne K (.type d.tyn) (.type "bool") = some (isBoolD d) := by
  cases t with
  | non => exact kit_ty (show kitB "NoneType" "bool" = some false by decide +kernel)
  | bl b => exact kit_ty (show kitB "bool" "bool" = some true by decide +kernel)
  | int b => exact kit_ty (show kitB "int" "bool" = some false by decide +kernel)
  | str b => exact kit_ty (show kitB "str" "bool" = some false by decide +kernel)
  | tup b => exact kit_ty (show kitB "tuple" "bool" = some false by decide +kernel)
  | lst b => exact kit_ty (show kitB "list" "bool" = some false by decide +kernel)
  | dic p b => exact kit_ty (show kitB "dict" "bool" = some false by decide +kernel)
theorem kb_tup {d : D} (t : Tame d) : PySem.W.kitOne K (.type d.tyn) (.type "tuple") = some (isTupD d) := by
  cases t with
  | non => exact kit_ty (show kitB "NoneType" "tuple" = some false by decide +kernel)
  | bl b => exact kit_ty (show kitB "bool" "tuple" = some false by decide +kernel)
  | int b => exact kit_ty (show kitB "int" "tuple" = some false by decide +kernel)
  | str b => exact kit_ty (show kitB "str" "tuple" = some false by decide +kernel)
  | tup b => exact kit_ty (show kitB "tuple" "tuple" = some true by decide +kernel)
  | lst b => exact kit_ty (show kitB "list" "tuple" = some false by decide +kernel)
  | dic p b => exact kit_ty (show kitB "dict" "tuple" = some false by decide +kernel)
theorem kb_lst {d : D} (t : Tame d) : PySem.W.kitOne K (.type d.tyn) (.type "list") = some (isLstD d) := by
  cases t with
  | non => exact kit_ty (show kitB "NoneType" "list" = some false by decide +kernel)
  | bl b => exact kit_ty (show kitB "bool" "list" = some false by decide +kernel)
  | int b => exact kit_ty (show kitB "int" "list" = some false by decide +kernel)
  | str b => exact kit_ty (show kitB "str" "list" = some false by decide +kernel)
  | tup b => exact kit_ty (show kitB "tuple" "list" = some false by decide +kernel)
  | lst b => exact kit_ty (show kitB "list" "list" = some true by decide +kernel)
  | dic p b => exact kit_ty (show kitB "dict" "list" = some false by decide +kernel)
theorem kb_str {d : D} (t : Tame d) : PySem.W.kitOne K (.type d.tyn) (.type "str") = some (isStrD d) := by
  cases t with
  | non => exact kit_ty (show kitB "NoneType" "str" = some false by decide +kernel)
  | bl b => exact kit_ty (show kitB "bool" "str" = some false by decide +kernel)
  | int b => exact kit_ty (show kitB "int" "str" = some false by decide +kernel)
  | str b => exact kit_ty (show kitB "str" "str" = some true by decide +kernel)
  | tup b => exact kit_ty (show kitB "tuple" "str" = some false by decide +kernel)
  | lst b => exact kit_ty (show kitB "list" "str" = some false by decide +kernel)
  | dic p b => exact kit_ty (show kitB "dict" "str" = some false by decide +kernel)
/-- isinstance(x, (T1, T2)), the tuple written there -/
theorem ev_isiT {ρ : Rho} {ta : TE} {tc : TA} (h : EvP K ta ρ M fun s => EvA K tc ρ M fun ss => ∃ (d : D) (T1 T2 : String), s = .v d ∧ ss = [.v (.raw (.ty T1)), .v (.raw (.ty T2))] ∧ Tame d ∧ ∃ b1 b2, PySem.W.kitOne K (.type d.tyn) (.type T1) = some b1 ∧ PySem.W.kitOne K (.type d.tyn) (.type T2) = some b2 ∧ Q (.v (.bl (b1 || b2)))) :
    EvP K (tCB (rIsiT K) (tCons ta (tCons (tTup tc) tNil))) ρ M Q := fun σ α F H en S k kk =>
  h σ α F H en S _ fun u F1 H1 x m1 S1 o1 q1 => q1 σ α F1 H1 (en.mono m1.ex) S1 _ fun vs F2 H2 ss m2 S2 o2 ⟨d, T1, T2, e1, e2, tm, b1, b2, k1, k2, q⟩ => by
    subst e1; subst e2
    have e3 := sls2 o2
    subst e3
    refine ⟨by show 2 ≤ sizeLine; decide, fun p hp => ?_⟩
    obtain ⟨m3, S3⟩ := S2.laid (o := .tup [.ty T1, .ty T2]) hp
    have m12 := (m1.trans m2).trans m3
    refine ⟨u, p, [.ty T1, .ty T2], .type d.tyn, [.type T1, .type T2], b1 || b2, rfl, upd_same, .cons (.ty T1) (.cons (.ty T2) .nil), tm.kind.ty S3 (o1.mono (m2.trans m3).ex), ?_, kk _ _ _ _ m12 S3 raw_ok q⟩
    refine kitAny_cons k1 (fun e => ?_) (fun e => by rw [e]; rfl)
    rw [e, Bool.false_or]
    refine kitAny_cons k2 (fun e => ?_) (fun e => e)
    rw [e]; exact kitAny_nil
theorem ei_int {d : D} (q : Tame d ∧ Q (.v (.bl (isIntD d)))) : EvC K (rIsi K) M [.v d, .v (.raw (.ty "int"))] Q := ec_isi q.1.kind (kb_int q.1) q.2
theorem ei_bool {d : D} (q : Tame d ∧ Q (.v (.bl (isBoolD d)))) : EvC K (rIsi K) M [.v d, .v (.raw (.ty "bool"))] Q := ec_isi q.1.kind (kb_bool q.1) q.2
theorem ei_tuple {d : D} (q : Tame d ∧ Q (.v (.bl (isTupD d)))) : EvC K (rIsi K) M [.v d, .v (.raw (.ty "tuple"))] Q := ec_isi q.1.kind (kb_tup q.1) q.2
theorem ei_lst {d : D} (q : Tame d ∧ Q (.v (.bl (isLstD d)))) : EvC K (rIsi K) M [.v d, .v (.raw (.ty "list"))] Q := ec_isi q.1.kind (kb_lst q.1) q.2
theorem ei_str {d : D} (q : Tame d ∧ Q (.v (.bl (isStrD d)))) : EvC K (rIsi K) M [.v d, .v (.raw (.ty "str"))] Q := ec_isi q.1.kind (kb_str q.1) q.2
end
end DL

/-! DL10: expressions that make things that are to change; several targets; dicts. -/
namespace DL
open PySem L2
section
variable {K : PySem.W.Frag} {e : Ent} {ρ : Rho} {M : List MO} {te ta tb : TE} {nx bk ct : Rho → List MO → Prop} {rt : Sl → List MO → Prop}
def EvN (K : PySem.W.Frag) (e : Ent) (te : TE) (ρ : Rho) (M : List MO) (Q : Sl → List MO → Prop) : Prop := ∀ (σ : L2.St) (α : Al) (F H : Hp), Good K e α F H σ ρ M → ∀ k : VK,
  (∀ v α' F' H' s M', Good K e α' F' H' σ ρ M' → Same F F' → (∃ β, α' = α ++ β) → SlOk K α' F' s v → Q s M' → k v H') → te σ H k
def EvNA (K : PySem.W.Frag) (e : Ent) (ta : TA) (ρ : Rho) (M : List MO) (Q : List Sl → List MO → Prop) : Prop := ∀ (σ : L2.St) (α : Al) (F H : Hp), Good K e α F H σ ρ M → ∀ k : List V → Hp → Prop,
  (∀ vs α' F' H' ss M', Good K e α' F' H' σ ρ M' → Same F F' → (∃ β, α' = α ++ β) → SlsOk K α' F' ss vs → Q ss M' → k vs H') → ta σ H k
theorem en_ev {Q : Sl → List MO → Prop} (h : EvP K te ρ M fun s => Q s M) : EvN K e te ρ M Q := fun σ α F H g k kk =>
  h σ α F H g.env g.sta k fun v F1 H1 s m1 S1 o1 q1 => kk v α F1 H1 s M (g.move m1 S1) m1.ex ⟨[], by simp⟩ o1 q1
theorem en_newL {ta : TA} {Q : Sl → List MO → Prop} (h : EvA K ta ρ M fun ss => ∃ ds : List D, ss = ds.map Sl.v ∧ ds.length ≤ 16777216 ∧ Q (.l M.length) (M ++ [.lst ds])) : EvN K e (tLst ta) ρ M Q := fun σ α F H g k kk =>
  h σ α F H g.env g.sta _ fun vs F1 H1 ss m1 S1 o1 ⟨ds, e1, hl, q1⟩ => by
    subst e1
    have hd := o1.dens
    refine ⟨by rw [← hd.length, sizeLine_eq]; exact hl, fun p hp => ?_⟩
    have S2 := S1.more (m' := .lst ds) (o := .lst vs) hp ⟨S1.sub.free hp, vs, upd_same, hd⟩
    exact kk _ _ F1 _ _ _ ⟨(g.env.mono m1.ex).more, S2, (g.st.move m1).more hp⟩ m1.ex ⟨_, rfl⟩ (loc_ok (p := (p, p)) (sta_len S1)) q1
theorem en_newD {Q : Sl → List MO → Prop} (q : Q (.l M.length) (M ++ [.dic [] []])) : EvN K e tDNewK ρ M Q := fun σ α F H g k kk p hp => by
  have S2 := g.sta.more (m' := .dic [] []) (o := .dK []) hp ⟨g.sta.sub.free hp, [], upd_same, rfl, rfl⟩
  exact kk _ _ F _ _ _ ⟨g.env.more, S2, g.st.more hp⟩ (.refl F) ⟨_, rfl⟩ (loc_ok (p := (p, p)) (sta_len g.sta)) q
theorem SlsOk.more {α β : Al} {F : Hp} : ∀ {ss : List Sl} {vs : List V}, SlsOk K α F ss vs → SlsOk K (α ++ β) F ss vs
  | [], _, h => h
  | s :: ss, _, ⟨v, r, h1, h2, h3⟩ => ⟨v, r, h1, h2.more, SlsOk.more h3⟩
theorem ena_nil {Q : List Sl → List MO → Prop} (q : Q [] M) : EvNA K e tNil ρ M Q := fun σ α F H g k kk => kk [] α F H [] M g (.refl F) ⟨[], by simp⟩ rfl q
theorem ena_cons {tr : TA} {Q : List Sl → List MO → Prop} (h : EvN K e ta ρ M fun s M' => EvNA K e tr ρ M' fun ss M2 => Q (s :: ss) M2) : EvNA K e (tCons ta tr) ρ M Q := fun σ α F H g k kk =>
  h σ α F H g _ fun v α1 F1 H1 s M1 g1 x1 ⟨β1, b1⟩ o1 q1 => q1 σ α1 F1 H1 g1 _ fun vs α2 F2 H2 ss M2 g2 x2 ⟨β2, b2⟩ o2 q2 => by
    subst b1; subst b2
    exact kk (v :: vs) _ F2 H2 (s :: ss) M2 g2 (x1.trans x2) ⟨β1 ++ β2, by rw [List.append_assoc]⟩ ⟨v, vs, rfl, (o1.mono x2).more, o2⟩ q2
theorem r_asgN {i : Nat} (h : EvN K e te ρ M fun s M' => nx (ρ.set i (some s)) M') : RunD K e (tAsg te (gName i)) ρ M nx rt bk ct := fun X σ α F H g ok =>
  h σ α F H g _ fun v α1 F1 H1 s M1 g1 x1 _ o1 q1 => ok.nx _ α1 F1 H1 _ M1 ⟨g1.env.set i o1, g1.sta, g1.st⟩ x1 q1
theorem r_parN {i j : Nat} {ta : TA} (h : EvNA K e ta ρ M fun ss M' => ∃ a b, ss = [a, b] ∧ nx ((ρ.set i (some a)).set j (some b)) M') : RunD K e (tPar i j ta) ρ M nx rt bk ct := fun X σ α F H g ok =>
  h σ α F H g _ fun vs α1 F1 H1 ss M1 g1 x1 _ o1 ⟨a, b, e1, q1⟩ => by
    subst e1
    obtain ⟨v, r, rfl, hv, r2⟩ := o1
    obtain ⟨w, rfl, hw⟩ := sls1s r2
    exact ⟨v, w, rfl, ok.nx _ α1 F1 H1 _ M1 ⟨(g1.env.set i hv).set j hw, g1.sta, g1.st⟩ x1 q1⟩
theorem r_par3 {i j l : Nat} {ta : TA} (h : EvNA K e ta ρ M fun ss M' => ∃ a b c, ss = [a, b, c] ∧ nx (((ρ.set i (some a)).set j (some b)).set l (some c)) M') : RunD K e (tPar3 i j l ta) ρ M nx rt bk ct := fun X σ α F H g ok =>
  h σ α F H g _ fun vs α1 F1 H1 ss M1 g1 x1 _ o1 ⟨a, b, c, e1, q1⟩ => by
    subst e1
    obtain ⟨v, r, rfl, hv, r2⟩ := o1
    obtain ⟨w, r', rfl, hw, r3⟩ := r2
    obtain ⟨z, rfl, hz⟩ := sls1s r3
    exact ⟨v, w, z, rfl, ok.nx _ α1 F1 H1 _ M1 ⟨((g1.env.set i hv).set j hw).set l hz, g1.sta, g1.st⟩ x1 q1⟩
/-- a tuple of slots unpacked into names -/
def EvGn (g : TGs) (ss : List Sl) (ρ : Rho) (R : Rho → Prop) (K : PySem.W.Frag) : Prop := ∀ (σ : L2.St) (α : Al) (F H : Hp) (vs : List V), EnvOk K α F σ ρ → SlsOk K α F ss vs → ∀ k : L2.St → Hp → Prop, (∀ σ' ρ', EnvOk K α F σ' ρ' → R ρ' → k σ' H) → g vs σ H k
theorem egn_nil {R : Rho → Prop} (q : R ρ) : EvGn gNil [] ρ R K := fun σ α F H vs en o k kk => ⟨o, kk _ _ en q⟩
theorem egn_cons {i : Nat} {gs : TGs} {s : Sl} {ss : List Sl} {R : Rho → Prop} (h : EvGn gs ss (ρ.set i (some s)) R K) : EvGn (gCons (gName i) gs) (s :: ss) ρ R K := fun σ α F H vs en o k kk => by
  obtain ⟨v, r, rfl, h1, h2⟩ := o
  exact ⟨v, r, rfl, h (σ.set i (some v)) α F H r (en.set i h1) h2 k kk⟩
theorem r_tupN {n : Nat} {ta : TA} {gs : TGs} (hn : n ≤ 1000) (h : EvNA K e ta ρ M fun ss M' => ss.length = n ∧ EvGn gs ss ρ (fun ρ' => nx ρ' M') K) : RunD K e (tAsg (tTup ta) (gTup K n gs)) ρ M nx rt bk ct := fun X σ α F H g ok =>
  h σ α F H g _ fun vs α1 F1 H1 ss M1 g1 x1 _ o1 ⟨hl, q1⟩ => by
    have hv := o1.length
    refine ⟨by rw [← hv, sizeLine_eq]; omega, fun p hp => ⟨p, vs, rfl, .inl (.inl upd_same), by rw [← hv]; exact hl, ?_⟩⟩
    have hFp : F1 p = none := g1.sta.sub.free hp
    have S2 := g1.sta.extra (o := .tup vs) hFp (g1.sta.notin hp)
    refine q1 σ α1 F1 _ vs g1.env o1 _ fun σ' ρ' en' q' => ok.nx _ α1 F1 _ _ M1 ⟨en', S2, ⟨g1.st.ex, fun b o z k => ?_, fun b z => ?_, g1.st.new, g1.st.pre⟩⟩ x1 q'
    · have := g1.st.fr b o z k
      rw [upd_ne (ne_of_none this hp)]; exact this
    · have := g1.st.tr b z
      have n : b ≠ p := fun y => this (by rw [y]; exact hp)
      rw [upd_ne n]; exact this

/-! ### dicts -/
def kdGet (ks : List Key) (ds : List D) (k : Key) : Option D := ((ks.zip ds).find? fun p => decide (p.1 = k)).map (·.2)
def kdPut (ks : List Key) (ds : List D) (k : Key) (d : D) : List Key × List D := if (ks.any fun j => decide (j = k)) = true then (ks, (ks.zip ds).map fun p => if p.1 = k then d else p.2) else (ks ++ [k], ds ++ [d])
theorem kd_val {F : Hp} {k : Key} : ∀ {ks : List Key} {ds : List D} {vs : List V}, ks.length = vs.length → Dens K F ds vs → (∀ d, kdGet ks ds k = some d → ∃ v, valV (ks.zip vs) k = some v ∧ Den K F d v) ∧ (kdGet ks ds k = none → valV (ks.zip vs) k = none)
  | [], ds, vs, _, _ => ⟨fun d h => by simp [kdGet] at h, fun _ => rfl⟩
  | j :: ks, [], vs, hl, h => by
    have h : vs = [] := h
    subst h; simp at hl
  | j :: ks, d :: ds, vs, hl, h => by
    obtain ⟨v, r, rfl, h2, h3⟩ := h
    have ih := kd_val (k := k) (ks := ks) (by simpa using hl) h3
    by_cases e : j = k
    · subst e
      refine ⟨fun d' h => ?_, fun h => ?_⟩
      · simp [kdGet] at h
        subst h
        exact ⟨v, by simp [valV], h2⟩
      · simp [kdGet] at h
    · have e1 : kdGet (j :: ks) (d :: ds) k = kdGet ks ds k := by simp [kdGet, e]
      have e2 : valV ((j :: ks).zip (v :: r)) k = valV (ks.zip r) k := by simp [valV, e]
      rw [e1, e2]; exact ih
theorem kd_mapv {F : Hp} {k : Key} {d : D} {v : V} (hd : Den K F d v) : ∀ {ks : List Key} {ds : List D} {vs : List V}, ks.length = vs.length → Dens K F ds vs →
    ∃ us, ((ks.zip vs).map fun kv => if kv.1 = k then (kv.1, v) else kv) = ks.zip us ∧ ks.length = us.length ∧ Dens K F ((ks.zip ds).map fun p => if p.1 = k then d else p.2) us
  | [], ds, vs, hl, h => ⟨[], rfl, rfl, by simp [Dens]⟩
  | j :: ks, [], vs, hl, h => by
    have h : vs = [] := h
    subst h; simp at hl
  | j :: ks, c :: ds, vs, hl, h => by
    obtain ⟨w, r, rfl, h2, h3⟩ := h
    obtain ⟨us, u1, u2, u3⟩ := kd_mapv (k := k) hd (ks := ks) (by simpa using hl) h3
    by_cases e : j = k
    · exact ⟨v :: us, by simp [e]; exact u1, by simp [u2], by simp only [List.zip_cons_cons, List.map_cons, if_pos e]; exact Dens.cons hd u3⟩
    · exact ⟨w :: us, by simp [e]; exact u1, by simp [u2], by simp only [List.zip_cons_cons, List.map_cons, if_neg e]; exact Dens.cons h2 u3⟩
theorem any_zip {k : Key} : ∀ {ks : List Key} {vs : List V}, ks.length = vs.length → ((ks.zip vs).any fun kv => decide (kv.1 = k)) = ks.any fun j => decide (j = k)
  | [], [], _ => rfl
  | j :: ks, v :: vs, h => by
    rw [List.zip_cons_cons, List.any_cons, List.any_cons, any_zip (by simpa using h)]
theorem any_mem {k : Key} {ks : List Key} : (ks.any fun j => decide (j = k)) = true ↔ k ∈ ks := by
  rw [List.any_eq_true]
  constructor
  · rintro ⟨j, hj, e⟩
    have e : j = k := of_decide_eq_true e
    rw [← e]; exact hj
  · exact fun h => ⟨k, h, decide_eq_true rfl⟩
theorem kd_put {F : Hp} {k : Key} {d : D} {v : V} (hd : Den K F d v) {ks : List Key} {ds : List D} {vs : List V} (hl : ks.length = vs.length) (h : Dens K F ds vs) :
    ∃ us, putK (ks.zip vs) k v = (kdPut ks ds k d).1.zip us ∧ (kdPut ks ds k d).1.length = us.length ∧ Dens K F (kdPut ks ds k d).2 us := by
  unfold putK kdPut
  rw [any_zip hl]
  by_cases e : (ks.any fun j => decide (j = k)) = true
  · rw [if_pos e, if_pos e]
    exact kd_mapv hd hl h
  · rw [if_neg e, if_neg e]
    exact ⟨vs ++ [v], by rw [List.zip_append hl]; rfl, by simp [hl], h.append (Dens.cons hd Dens.nil)⟩
theorem kdGet_put {k j : Key} {d : D} : ∀ {ks : List Key} {ds : List D}, ks.length = ds.length → kdGet (kdPut ks ds k d).1 (kdPut ks ds k d).2 j = if j = k then some d else kdGet ks ds j := by
  intro ks ds hl
  unfold kdPut
  by_cases e : k ∈ ks
  · rw [if_pos (any_mem.mpr e)]
    show kdGet ks ((ks.zip ds).map fun p => if p.1 = k then d else p.2) j = _
    induction ks generalizing ds with
    | nil => simp at e
    | cons i ks ih =>
      cases ds with
      | nil => simp at hl
      | cons c ds =>
        simp only [List.zip_cons_cons, List.map_cons]
        by_cases hi : i = j
        · subst hi
          by_cases hk : i = k
          · simp [kdGet, hk]
          · simp [kdGet, hk]
        · have e1 : ∀ (c : D) (ds : List D), kdGet (i :: ks) (c :: ds) j = kdGet ks ds j := fun c ds => by simp [kdGet, hi]
          rw [e1, e1]
          by_cases e2 : k ∈ ks
          · exact ih (by simpa using hl) e2
          · have hik : i = k := by
              rcases List.mem_cons.mp e with z | z
              · exact z.symm
              · exact absurd z e2
            have hjk : ¬ j = k := fun z => hi (hik.trans z.symm)
            rw [if_neg hjk]
            have : (ks.zip ds).map (fun p => if p.1 = k then d else p.2) = (ks.zip ds).map (·.2) := by
              apply List.map_congr_left
              intro p hp
              have := (List.of_mem_zip (show (p.1, p.2) ∈ ks.zip ds from hp)).1
              rw [if_neg (fun z => e2 (by rw [← z]; exact this))]
            rw [this]
            have h2 : (ks.zip ds).map (·.2) = ds := by
              apply List.map_snd_zip
              simp at hl; omega
            rw [h2]
  · rw [if_neg (fun z => e (any_mem.mp z))]
    show kdGet (ks ++ [k]) (ds ++ [d]) j = _
    unfold kdGet
    rw [List.zip_append hl, List.find?_append]
    by_cases hj : j = k
    · subst hj
      have : (ks.zip ds).find? (fun p => decide (p.1 = j)) = none := by
        rw [List.find?_eq_none]
        intro p hp
        have := (List.of_mem_zip (show (p.1, p.2) ∈ ks.zip ds from hp)).1
        simpa using fun z => e (by rw [← z]; exact this)
      rw [this]; simp
    · simp [hj, Ne.symm hj]
theorem kdPut_len {ks : List Key} {ds : List D} {k : Key} {d : D} (h : ks.length = ds.length) : (kdPut ks ds k d).1.length = (kdPut ks ds k d).2.length := by
  unfold kdPut
  split
  · simp; omega
  · simp [h]
theorem kdPut_le {ks : List Key} {ds : List D} {k : Key} {d : D} : (kdPut ks ds k d).1.length ≤ ks.length + 1 := by
  unfold kdPut
  split <;> simp
/-- which dict a slot tells -/
inductive RdD (M : List MO) : Sl → List Key → List D → Prop
  | v {ks : List Key} {ds : List D} : RdD M (.v (.dic ks ds)) ks ds
  | l {k : Nat} {ks : List Key} {ds : List D} : M[k]? = some (.dic ks ds) → RdD M (.l k) ks ds
  | z {k : Nat} {d : Addr} {od : Obj} {kvs : List (Key × V)} {ks : List Key} {ds : List D} : M[k]? = some (.frz d od kvs ks ds) → RdD M (.l k) ks ds
theorem RdD.get {α : Al} {F H : Hp} {s : Sl} {ks : List Key} {ds : List D} {u : V} (h : RdD M s ks ds) (S : Sta K α M F H) (o : SlOk K α F s u) : ∃ a vs, u = .ref a ∧ Rd H a (.dK (ks.zip vs)) ∧ ks.length = vs.length ∧ Dens K F ds vs := by
  cases h with
  | v =>
    obtain ⟨a, vs, h1, h2, h3⟩ := o
    exact ⟨a, vs, h1, .inl (S.sub _ _ h2), h3⟩
  | l hk =>
    obtain ⟨p, hp, rfl⟩ := o
    obtain ⟨_, vs, h1, h2⟩ := S.ob _ _ p hk hp
    exact ⟨p.1, vs, rfl, .inl h1, h2⟩
  | z hk =>
    obtain ⟨p, hp, rfl⟩ := o
    obtain ⟨_, _, h1, vs, e, h2⟩ := S.ob _ _ p hk hp
    subst e
    exact ⟨p.1, vs, rfl, .inr ⟨_, h1⟩, h2⟩
variable {Q : Sl → Prop}
theorem ev_dget {td ty : TE} (h : EvP K td ρ M fun x => EvP K ty ρ M fun y => ∃ ks ds k d, RdD M x ks ds ∧ y = .v (.raw (kV k)) ∧ kdGet ks ds k = some d ∧ Q (.v d)) : EvP K (tDGet td ty) ρ M Q := fun σ α F H en S k kk =>
  h σ α F H en S _ fun u F1 H1 x m1 S1 o1 q1 => q1 σ α F1 H1 (en.mono m1.ex) S1 _ fun v F2 H2 y m2 S2 o2 ⟨ks, ds, k, d, hr, ey, hg, q⟩ => by
    subst ey
    have o2 : v = kV k := o2
    subst o2
    obtain ⟨a, vs, rfl, h1, h2, h3⟩ := hr.get S2 (o1.mono m2.ex)
    obtain ⟨w, hw, hd⟩ := (kd_val (k := k) h2 h3).1 d hg
    exact ⟨a, w, rfl, .inl ⟨_, k, h1, rfl, hw.symm⟩, kk w F2 H2 _ (m1.trans m2) S2 (den_ok hd) q⟩
theorem some_is {k : Key} {F : Hp} {ks : List Key} {ds : List D} {vs : List V} (h2 : ks.length = vs.length) (h3 : Dens K F ds vs) : (valV (ks.zip vs) k).isSome = (kdGet ks ds k).isSome := by
  have := kd_val (K := K) (F := F) (k := k) h2 h3
  cases e : kdGet ks ds k with
  | none => rw [this.2 e]; rfl
  | some d =>
    obtain ⟨v, hv, _⟩ := this.1 d e
    rw [hv]; rfl
theorem ev_din {td ty : TE} (h : EvP K ty ρ M fun y => EvP K td ρ M fun x => ∃ ks ds k, RdD M x ks ds ∧ y = .v (.raw (kV k)) ∧ Q (.v (.bl (kdGet ks ds k).isSome))) : EvP K (tDIn ty td) ρ M Q := fun σ α F H en S k kk =>
  h σ α F H en S _ fun u F1 H1 x m1 S1 o1 q1 => q1 σ α F1 H1 (en.mono m1.ex) S1 _ fun v F2 H2 y m2 S2 o2 ⟨ks, ds, k, hr, ey, q⟩ => by
    subst ey
    have o1 : u = kV k := o1
    subst o1
    obtain ⟨a, vs, rfl, h1, h2, h3⟩ := hr.get S2 o2
    refine ⟨a, _, rfl, .inl ⟨_, k, h1, rfl, rfl⟩, ?_⟩
    rw [some_is h2 h3]
    exact kk _ F2 H2 _ (m1.trans m2) S2 raw_ok q
theorem ev_dnotin {td ty : TE} (h : EvP K ty ρ M fun y => EvP K td ρ M fun x => ∃ ks ds k, RdD M x ks ds ∧ y = .v (.raw (kV k)) ∧ Q (.v (.bl (!(kdGet ks ds k).isSome)))) : EvP K (tDNotIn ty td) ρ M Q := fun σ α F H en S k kk =>
  h σ α F H en S _ fun u F1 H1 x m1 S1 o1 q1 => q1 σ α F1 H1 (en.mono m1.ex) S1 _ fun v F2 H2 y m2 S2 o2 ⟨ks, ds, k, hr, ey, q⟩ => by
    subst ey
    have o1 : u = kV k := o1
    subst o1
    obtain ⟨a, vs, rfl, h1, h2, h3⟩ := hr.get S2 o2
    refine ⟨a, _, rfl, .inl ⟨_, k, h1, rfl, rfl⟩, ?_⟩
    rw [some_is h2 h3]
    exact kk _ F2 H2 _ (m1.trans m2) S2 raw_ok q
theorem ev_dget2 {td ty tx : TE} (h : EvP K td ρ M fun x => EvP K ty ρ M fun y => EvP K tx ρ M fun z => ∃ ks ds k, RdD M x ks ds ∧ y = .v (.raw (kV k)) ∧ ∃ dz, z = .v dz ∧ Q (.v ((kdGet ks ds k).getD dz))) (hd : ∀ (σ : L2.St) (α : Al) (F H : Hp), EnvOk K α F σ ρ → Sta K α M F H → ∀ k : VK, (∀ v, (∃ a vs, v = .ref a ∧ ∃ ks : List Key, H a = some (.dK (ks.zip vs))) → k v H) → td σ H k) :
    True := trivial
/-- d.get(k, x), d a name -/
theorem ev_dgetN {i : Nat} {ty tx : TE} {s : Sl} {ks : List Key} {ds : List D} (hi : ρ[i]? = some (some s)) (hs : RdD M s ks ds) (h : EvP K ty ρ M fun y => EvP K tx ρ M fun z => ∃ k, y = .v (.raw (kV k)) ∧ ∃ dz, z = .v dz ∧ Q (.v ((kdGet ks ds k).getD dz))) : EvP K (tDGet2 (tVar i) ty tx) ρ M Q := fun σ α F H en S k kk => by
  obtain ⟨u, h1, h2⟩ := en.at' i s hi
  obtain ⟨a, vs, rfl, h3, _, _⟩ := hs.get S h2
  refine ⟨_, h1, a, rfl, .inl ⟨_, h3⟩, ?_⟩
  refine h σ α F H en S _ fun v F1 H1 y m1 S1 o1 q1 => q1 σ α F1 H1 (en.mono m1.ex) S1 _ fun z F2 H2 sz m2 S2 o2 ⟨k0, ey, dz, ez, q⟩ => ?_
  subst ey; subst ez
  have o1 : v = kV k0 := o1
  subst o1
  obtain ⟨a', vs', e1, h4, h5, h6⟩ := hs.get S2 (h2.mono (m1.trans m2).ex)
  cases e1
  refine ⟨_, .inl ⟨_, k0, h4, rfl, rfl⟩, ?_⟩
  have hv := kd_val (k := k0) h5 h6
  cases e : kdGet ks ds k0 with
  | none =>
    rw [hv.2 e]
    rw [e] at q
    exact kk z F2 H2 (.v dz) (m1.trans m2) S2 o2 q
  | some d =>
    obtain ⟨w, hw, hd⟩ := hv.1 d e
    rw [hw]
    rw [e] at q
    exact kk w F2 H2 (.v d) (m1.trans m2) S2 (den_ok hd) q
/-- d[k] = v, d a name -/
theorem r_dput {i kk : Nat} {ty : TE} {ks : List Key} {ds : List D} (hi : ρ[i]? = some (some (.l kk))) (hk : M[kk]? = some (.dic ks ds)) (h : EvP K te ρ M fun s => EvP K ty ρ M fun y => ∃ k d, s = .v d ∧ y = .v (.raw (kV k)) ∧ ks.length < 16777216 ∧ nx ρ (M.set kk (.dic (kdPut ks ds k d).1 (kdPut ks ds k d).2))) :
    RunD K e (sDPut (tVar i) ty te) ρ M nx rt bk ct := fun X σ α F H g ok =>
  h σ α F H g.env g.sta _ fun v F1 H1 s m1 S1 o1 q1 => by
    obtain ⟨u, h1, p, hp, rfl⟩ := g.env.at' i _ hi
    refine ⟨_, h1, q1 σ α F1 H1 (g.env.mono m1.ex) S1 _ fun w F2 H2 y m2 S2 o2 ⟨k, d, es, ey, hz, q⟩ => ?_⟩
    subst es; subst ey
    have o2 : w = kV k := o2
    subst o2
    obtain ⟨hF2, vs, hvs, hl, hd⟩ := S2.ob kk _ p hk hp
    obtain ⟨us, u1, u2, u3⟩ := kd_put (k := k) (Den.mono K m2.ex _ _ o1) hl hd
    refine ⟨p.1, _, rfl, .inl ⟨_, k, hvs, rfl, by rw [List.length_zip, sizeLine_eq]; omega, rfl⟩, ?_⟩
    obtain ⟨m3, S3⟩ := S2.write (m' := .dic (kdPut ks ds k d).1 (kdPut ks ds k d).2) (o := .dK (putK (ks.zip vs) k v)) hp hF2 ⟨hF2, us, by rw [u1]; exact upd_same, u2, u3⟩
    exact ok.nx _ _ F2 _ _ _ ⟨g.env.mono (m1.trans m2).ex, S3, (g.st.move (m1.trans m2)).move m3⟩ (m1.trans m2).ex q
end
end DL

/-! DL11: the end of a row. -/
namespace DL
open PySem L2
theorem walk_ofX {l : PySem.W.OpenLaw} {n k : Nat} {q : Program} {loose : List Str} {XP : (Str → Option Value) → Heap → Prop} {YP : World → Heap → Prop} {d : DefRec} {K : Params → PySem.W.Frag} {x : Str} {sp : PySem.W.Frag → Sp}
    (hn : l.most = some n) (hn2 : n ≤ sizeLine) (hdf : d.params.defaults = []) (hr : Room k callerA) (hY : ∀ (w : World) (h : Heap), YP w h → (K w.params).In h)
    (F : ∀ (w : World) (mg : Str → Option Value) (fa : Addr) (h : Heap), (K w.params).In h → h.Ns mainGlobals mg → XP mg h → mg d.name = some (.ref fa) →
      ∃ fd : FuncData, (∀ (s : Shared) (u : Value), BindsTo s fd ⟨[u], []⟩ [(x, u)]) ∧
        ∀ base : Heap, (K w.params).In base → base.Ns mainGlobals mg → FnOk l.prog w (K w.params) mg base CX0 k fa fd [x] (sp (K w.params)))
    (hsp : ∀ (K : PySem.W.Frag) (H : Hp) (a : Addr) (ns : List Int), ns.length ≤ n → SqL K H a (ns.map V.int) → sp K [.ref a] H (fun v _ => v = .bl true) fun _ _ _ => False) :
    PySem.W.WalkO q loose XP YP l.row.toRowW d [] (fun f vs => PySem.call f vs) := by
  refine Att.attach_call hn hdf fun w s₀ s₁ mg mb fa o pm cd doc a vs ns G Y ho hd hcd hmg hobj hints hlen hg => ?_
  have KX := hY w _ Y
  obtain ⟨fd, hb, hF⟩ := F w mg fa _ KX G.T.g G.X hmg
  exact law_call KX G.T.g G.T.b G.T.builtins G.T.nolimit hg hobj hints (Nat.le_trans hlen hn2) hr hF hb (fun H hO hS => hsp (K w.params) H a ns hlen hS) fun _ _ _ z => z
/-- the law's promise -/
abbrev SpLaw (K : PySem.W.Frag) : Sp := SpP K (fun cells : List Int => [.rd (D.ints cells)]) (fun cells => cells.length ≤ 63) (fun _ d => d = .bl true)
theorem spLaw_of {K : PySem.W.Frag} {H : Hp} {a : Addr} {ns : List Int} (h : ns.length ≤ 63) (s : SqL K H a (ns.map V.int)) : SpLaw K [.ref a] H (fun v _ => v = .bl true) fun _ _ _ => False := by
  refine ⟨ns, [], H, ⟨_, [], rfl, ⟨a, ns.map V.int, rfl, s, ?_⟩, rfl⟩, sta_nil (.refl H), h, fun v F' H' d M' _ _ o e => ?_⟩
  · have e : D.ints ns = (ns.map V.int).map D.raw := by simp [D.ints, Function.comp_def]
    rw [e]; exact Dens.raws
  · subst e; exact o
theorem loose_int {p : Program} {lv : List (Str × PySem.W.WData)} {mg : Str → Option Value} {h : Heap} {x : Str} {i : Int} (X : PySem.W.XL p lv mg h) (m : (x, PySem.W.WData.int i) ∈ lv) : CInt mg x i := by
  obtain ⟨v, h1, h2⟩ := X.2.val _ m
  cases h2
  exact ⟨_, h1⟩
theorem cint_mk {K : PySem.W.Frag} {mg : Str → Option Value} {h : Heap} {x : Str} {i : Int} {t : Tok} (X : K.In h) (G : h.Ns mainGlobals mg) (a : PySem.W.nsIn K mainGlobals x = some (some (.int i t))) : CInt mg x i :=
  ⟨⟨t, PySem.W.mg_of X G a⟩⟩
theorem def_k {K : PySem.W.Frag} {mg : Str → Option Value} {R : Prop} {x : Str} {st : Stmt} {ps : List Str} {h : Heap} {f : Addr} {oc : Value} {od an : Option Addr} {osl : Array (Option Value)} {kV doc pm cdv ct : Value} (X : K.In h) (G : h.Ns mainGlobals mg)
    (a : PySem.W.nsIn K mainGlobals x = some (some (.ref f))) (l : K.lookup f = some ⟨oc, od, .func (PySem.W.fnOf x x (defArgs st) (defBody st) (defScope st) .none kV doc pm an cdv ct), osl⟩)
    (c : PySem.W.codeIn K cdv x = true) (k : PySem.W.keepIn K (.ref f) = true)
    (b : ∀ (kV doc pm : Value) (an : Option Addr) (cdv ct : Value) (us : List Value), us.length = ps.length → bindArgs (PySem.W.fnOf x x (defArgs st) (defBody st) (defScope st) .none kV doc pm an cdv ct) ⟨us, []⟩ = pure (ps.zip us)) (z : DefAt K mg x st ps → R) : R :=
  z (def_mk X G a l c k b)
end DL

/-! DL12: enumerate and zip over lists and tuples in any mix. -/
namespace DL
open PySem L2 PyProof.Rows
/-- a list or a tuple -/
def SqB (K : PySem.W.Frag) (H : Hp) : Bool → Addr → List V → Prop
  | true, a, xs => SqT K H a xs
  | false, a, xs => SqL K H a xs
def ItB (h : Heap) : Bool → Addr → Addr → Nat → Prop
  | true, it, a, i => h.IsTupleIter it a i
  | false, it, a, i => h.IsListIter it a i
def IsB (h : Heap) : Bool → Addr → Array Value → Prop
  | true, a, its => h.IsTuple a its
  | false, a, its => h.IsList a its
def itO : Bool → Addr → Obj
  | true, a => { cls := .type "tuple_iterator", data := .fields #[.ref a, .int 0 0] }
  | false, a => { cls := .type "list_iterator", data := .fields #[.ref a, .int 0 0] }
section
variable {prog : Program} {w : World} {A : Around}
theorem draws_b (hh : A.handled = none) (it a : Addr) (hne : a ≠ it) (b : Bool) (items : Array Value) : Draws prog w A it [it, a] items.size (fun i v => items[i]? = some v) (fun i h => ItB h b it a i ∧ IsB h b a items) := by
  cases b with
  | true => exact Draws.tuple hh it a hne items
  | false => exact Draws.list hh it a hne items
theorem begins_b (b : Bool) (a : Addr) (items : Array Value) : Begins (.ref a) (itO b a) (fun h => IsB h b a items) := by
  cases b with
  | true => exact begins_tuple a items
  | false => exact begins_list a items
theorem itB_new {h : Heap} {b : Bool} {it a : Addr} (e : h.get? it = some (itO b a)) : ItB h b it a 0 := by
  cases b with
  | true => exact ⟨_, e, rfl, rfl⟩
  | false => exact ⟨_, e, rfl, rfl⟩
theorem ItB.at {h h' : Heap} {b : Bool} {it a : Addr} {i : Nat} (x : ItB h b it a i) (k : ∀ o, h.get? it = some o → h'.get? it = some o) : ItB h' b it a i := by
  cases b with
  | true => exact Heap.IsTupleIter.at x k
  | false => exact Heap.IsListIter.at x k
theorem ItB.obj {h : Heap} {b : Bool} {it a : Addr} {i : Nat} (x : ItB h b it a i) : ∃ o, h.get? it = some o ∧ ∀ v, o.data ≠ .cell v := by
  cases b with
  | true =>
    obtain ⟨o, e, _, d⟩ := x
    exact ⟨o, e, fun v q => by rw [d] at q; cases q⟩
  | false =>
    obtain ⟨o, e, _, d⟩ := x
    exact ⟨o, e, fun v q => by rw [d] at q; cases q⟩
variable {X : Cx} {pins : List (Addr × Obj)} {σ : L2.St} {H : Hp} {s : Shared} {b : Bool} {a : Addr} {xs ys : List V}
theorem inv_b (I : Inv X pins σ H s) (h : SqB X.K H b a xs) : ∃ its : List Value, Vals xs its ∧ IsB s.heap b a its.toArray ∧ xs.length ≤ sizeLine := by
  cases b with
  | true => exact I.tuple h
  | false =>
    obtain ⟨its, r, p, z⟩ := I.list h
    exact ⟨its, r, p.isList, z⟩
theorem inv_bj (I : Inv X pins σ H s) (h : SqB X.K H b a xs) (h' : SqB X.K H b a ys) : xs = ys := by
  cases b with
  | true => exact I.tuple_inj h h'
  | false => exact I.list_inj h h'
theorem inv_lt (I : Inv X pins σ H s) (h : SqB X.K H b a xs) : a < s.heap.objs.size := by
  obtain ⟨its, _, p, _⟩ := inv_b I h
  cases b with
  | true => obtain ⟨o, e, _⟩ := p; exact Heap.lt_size e
  | false => obtain ⟨o, e, _⟩ := p; exact Heap.lt_size e
end
/-- the sequence at a as it stands at each turn, the number from k on and the item in a new pair -/
def ItE (K : PySem.W.Frag) (k : Int) (b : Bool) (a : Addr) : It :=
  ⟨fun i H => ∃ xs x, SqB K H b a xs ∧ xs[i]? = some x,
    fun i H v H' => ∃ T x, v = .ref T ∧ H T = none ∧ H' = upd H T (.tup [.int (k + (i : Int)), x]) ∧ ∀ ys, SqB K H b a ys → ys[i]? = some x,
    fun i H => ∃ xs : List V, SqB K H b a xs ∧ xs.length = i⟩
theorem turn_enumB {P : Program} {w : World} {K : PySem.W.Frag} {elts : List Expr} {kk : Nat} {tpos : Pos} (k : Int) (b : Bool) (a e it : Addr) (hei : e ≠ it) (hea : e ≠ a) (hai : a ≠ it) :
    Turn P w K (.Tuple elts kk tpos) (ItE K k b a) [e, it] e (fun i h => (∃ old, IsEnum h e it (k + (i : Int)) old) ∧ ItB h b it a i) where
  mem := by simp
  obj := fun i h st c hc => by
    obtain ⟨⟨old, he⟩, hit⟩ := st
    have e' : c = e ∨ c = it := by simpa using hc
    rcases e' with z | z
    · rw [z]; exact ⟨_, he, fun v q => nomatch q⟩
    · rw [z]; exact hit.obj
  keep := fun i h h' st q => by
    obtain ⟨⟨old, he⟩, hit⟩ := st
    exact ⟨⟨old, q e (by simp) _ he⟩, hit.at fun o z => q it (by simp) o z⟩
  item := by
    intro X hP hw hK hc i pins s σ H E I hf st hg
    subst hP hw hK
    obtain ⟨⟨old, he⟩, hit⟩ := st
    obtain ⟨xs, x, hq, hx⟩ := hg
    obtain ⟨its, rv, p, hz⟩ := inv_b I hq
    obtain ⟨u, hu, ru⟩ := rv.get hx
    have hil : i < its.toArray.size := by
      have := (List.getElem?_eq_some_iff.mp hu).1
      simpa using this
    have hel : e < s.heap.objs.size := Heap.lt_size he
    have hil2 : it < s.heap.objs.size := by obtain ⟨o, q, _⟩ := hit.obj; exact Heap.lt_size q
    refine (GoesN.enumFrom (P := fun j v => its.toArray[j]? = some v) k (draws_b (A := X.A.in1) (I.ok.hd hc) it a hai b its.toArray) e hei (by simp [hei, hea]) (by simp)).goes i s
      (fun u s2 => ∃ x H', Inv X pins σ H' s2 ∧ RelV x u ∧ (ItE X.K k b a).yld i H x H' ∧ ((∃ old, IsEnum s2.heap e it (k + ((i + 1 : Nat) : Int)) old) ∧ ItB s2.heap b it a (i + 1)) ∧ ∀ c ∈ [e, it], H' c = none) E hil ⟨⟨old, he⟩, hit, p⟩ ?_
    rintro v h' tk ⟨T, t, y, rfl, hT, hy, hIs⟩ ⟨he', hit', _⟩ hkeep htk
    have hyu : y = u := by
      have : its.toArray[i]? = some u := by simpa using hu
      rw [this] at hy; cases hy; rfl
    subst hyu
    have new : ObjOk X.prog X.w (upd H T (.tup [.int (k + (i : Int)), x])) h' T (.tup [.int (k + (i : Int)), x]) :=
      ⟨by show 2 ≤ sizeLine; decide, [.int (k + (i : Int)) t, y], .cons ⟨_, rfl⟩ (.cons ru .nil), hIs⟩
    have I1 : Inv X pins σ (upd H T (.tup [.int (k + (i : Int)), x])) { s with heap := h', toks := tk } := I.turnedNew (t' := tk) (ch := [e, it]) hkeep hf hT new
    refine ⟨.ref T, _, I1, rfl, ⟨T, x, rfl, I.hok.fresh hT, rfl, fun ys hys => by rw [inv_bj I hys hq]; exact hx⟩, ⟨he', hit'⟩, fun c hcm => ?_⟩
    have hlt : c < s.heap.objs.size := by
      have e' : c = e ∨ c = it := by simpa using hcm
      rcases e' with z | z
      · rw [z]; exact hel
      · rw [z]; exact hil2
    rw [upd_ne (Nat.ne_of_lt (Nat.lt_of_lt_of_le hlt hT))]
    exact (hf c hcm).1
  done := by
    intro X hP hw hK hc i pins s σ H E I hf st hg
    subst hP hw hK
    obtain ⟨⟨old, he⟩, hit⟩ := st
    obtain ⟨xs, hq, hx⟩ := hg
    obtain ⟨its, rv, p, hz⟩ := inv_b I hq
    have hl := rv.length
    have hn : its.toArray.size = i := by simp; omega
    subst hn
    exact (GoesN.enumFrom (P := fun j v => its.toArray[j]? = some v) (elts := elts) (x1 := kk) (pos := tpos) k (draws_b (A := X.A.in1) (I.ok.hd hc) it a hai b its.toArray) e hei (by simp [hei, hea]) (by simp)).stops s
      (fun s1 => Inv X pins σ H s1) E ⟨⟨old, he⟩, hit, p⟩ fun h' tk hkeep htk => I.turnedL (t' := tk) (ch := [e, it]) hkeep hf
  self := fun A i s Q E st h => let ⟨⟨_, he⟩, _⟩ := st; wpAny_pyIter_enum he h
def iEnB2 (K : PySem.W.Frag) (ta : TA) : TI := fun σ H R => ta σ H fun vs H1 => ∃ b a xs k, vs = [.ref a, .int k] ∧ -(2 ^ 63) ≤ k ∧ k < 2 ^ 63 ∧ SqB K H1 b a xs ∧ R (ItE K k b a) H1
def iEnB (K : PySem.W.Frag) (ta : TA) : TI := fun σ H R => ta σ H fun vs H1 => ∃ b a xs, vs = [.ref a] ∧ SqB K H1 b a xs ∧ R (ItE K 0 b a) H1
set_option maxHeartbeats 1000000 in
theorem meets_enum1 {v : Value} {o : Obj} {H : Heap → Prop} (B : Begins v o H) :
    Meets (Builtin.«enumerate.__new__» ⟨[.type "enumerate", v], []⟩) (fun _ R s => H s.heap ∧
      R (.ok (.ret (.ref (s.heap.push o).objs.size))) { s with heap := (s.heap.push o).push { cls := .type "enumerate", data := .fields #[.none, .bool false, .ref s.heap.objs.size, rawInt 0, .none, .none] } }) :=
  .of_wp fun prog w A R s h => by
    obtain ⟨hp, g, d, tk, os⟩ := s; obtain ⟨h1, h⟩ := h
    have hsub := sub_enumerate
    have q1 : ∀ {A' : Around} {E : Value → Shared → Prop} {Q : Value → Shared → Prop}, Q (.ref hp.objs.size) ⟨hp.push o, g, d, tk, os⟩ → wpAny (model prog w) A' (pyIter v) Q E ⟨hp, g, d, tk, os⟩ :=
      fun q => B.iter prog w _ _ ⟨hp, g, d, tk, os⟩ _ h1 q
    wp_walk using q1
    refine wpAny_stack_any fun st => wpAny_pure ?_
    split
    · rename_i c _ _ _ _ _
      cases (c == Value.type "enumerate")
      · wp_walk using q1
        exact ⟨_, rfl, h⟩
      · wp_walk using q1
        exact ⟨_, rfl, h⟩
    · wp_walk using q1
      exact ⟨_, rfl, h⟩
section
variable {prog : Program} {w : World} {A : Around} {E : Value → Shared → Prop} {s : Shared}
theorem enum_begins1 {v : Value} {o : Obj} {H : Heap → Prop} {Q : Value → Shared → Prop} (B : Begins v o H) (h1 : H s.heap)
    (h : ∀ h', IsEnum h' (s.heap.objs.size + 1) s.heap.objs.size 0 .none → h'.get? s.heap.objs.size = some o → h'.objs.size = s.heap.objs.size + 2 →
      (∀ b o, s.heap.get? b = some o → h'.get? b = some o) → Q (.ref (s.heap.objs.size + 1)) { s with heap := h' }) :
    wpAny (model prog w) A (call (.type "enumerate") [v]) Q E s := by
  refine callType_new F.called_enumerate (by decide) (F.typeCall_enumerate_1 _) (F.newCall_enumerate_1 _) (fun obj => F.args_object_init_2 obj _) F.entry_enumerate_new (meets_enum1 B) ⟨h1, ?_⟩
  have hz : (s.heap.push o).objs.size = s.heap.objs.size + 1 := Heap.size_push ..
  show _ ∧ _
  rw [hz]
  have he : IsEnum ((s.heap.push o).push { cls := .type "enumerate", data := .fields #[.none, .bool false, .ref s.heap.objs.size, rawInt 0, .none, .none] }) (s.heap.objs.size + 1) s.heap.objs.size 0 .none := by
    have := Heap.get?_push_size (s.heap.push o) (o := { cls := .type "enumerate", data := .fields #[.none, .bool false, .ref s.heap.objs.size, rawInt 0, .none, .none] }) rfl
    rw [hz] at this; exact this
  refine ⟨⟨_, he, rfl⟩, h _ he (Heap.get?_push_of_some _ (Heap.get?_push_size _ B.free)) (by rw [Heap.size_push, hz]) fun b o x => Heap.get?_push_of_some _ (Heap.get?_push_of_some _ x)⟩
end
section
variable {X : Cx} {e e2 : Expr} {ta : TA} {p pos tpos : Pos} {elts : List Expr} {kk : Nat}
theorem pi_enB {K : PySem.W.Frag} (hg : Gl X "enumerate") (hm : X.mg "enumerate" = none) (ha : PA X [e] ta) (hs : starEach [e] X.env = [(false, eval e X.env)] := by rfl) (hK : X.K = K := by rfl) :
    PI X (.Tuple elts kk tpos) (.Call (.Name "enumerate" p) [e] [] pos) (iEnB K ta) := by
  subst hK
  refine ⟨fun pins s σ H R I h => ?_⟩
  refine Call_ (ld_blt I hg hm boot_enumerate (PyProof.Rows.callWith_type1 (thn (ha.run pos pins s σ H _ I h) fun us s1 ⟨vs, H1, I1, r1, q1⟩ => ?_) hs rfl))
  obtain ⟨b, a, xs, ex, hq, q⟩ := q1
  subst ex
  cases r1 with
  | cons r rr =>
    cases rr
    cases r
    obtain ⟨its, rv, p', hz⟩ := inv_b I1 hq
    have hal := inv_lt I1 hq
    refine enum_begins1 (begins_b b a its.toArray) p' fun h' he hit hsz hk => wpAny_pyIter_enum he ?_
    have I2 : Inv X pins σ H1 { s1 with heap := h' } := I1.kept (t' := s1.toks) hk
    have n1 : (s1.heap.objs.size + 1 : Nat) ≠ s1.heap.objs.size := Nat.succ_ne_self _
    have n2 : (s1.heap.objs.size + 1 : Nat) ≠ a := by
      have : (a : Nat) < s1.heap.objs.size := hal
      exact Nat.ne_of_gt (Nat.lt_succ_of_lt this)
    refine ⟨s1.heap.objs.size + 1, [s1.heap.objs.size + 1, s1.heap.objs.size], _, _, H1, rfl, I2, turn_enumB 0 b a (s1.heap.objs.size + 1) s1.heap.objs.size n1 n2 (Nat.ne_of_lt hal), ⟨⟨.none, he⟩, itB_new hit⟩, fun c hb => ?_, q⟩
    have e' : c = s1.heap.objs.size + 1 ∨ c = s1.heap.objs.size := by simpa using hb
    have hle : s1.heap.objs.size ≤ c := by
      rcases e' with z | z
      · rw [z]; exact Nat.le_add_right _ _
      · rw [z]; exact Nat.le_refl _
    exact I1.fpOk hle (I1.hok.fresh hle)
theorem pi_enB2 {K : PySem.W.Frag} (hg : Gl X "enumerate") (hm : X.mg "enumerate" = none) (ha : PA X [e, e2] ta) (hs : starEach [e, e2] X.env = (false, eval e X.env) :: starEach [e2] X.env := by rfl) (hpl : (backTo pos (starEach [e2] X.env)).any (·.1) = false := by rfl) (hK : X.K = K := by rfl) :
    PI X (.Tuple elts kk tpos) (.Call (.Name "enumerate" p) [e, e2] [] pos) (iEnB2 K ta) := by
  subst hK
  refine ⟨fun pins s σ H R I h => ?_⟩
  refine Call_ (ld_blt I hg hm boot_enumerate (PyProof.Rows.callWith_type1 (thn (ha.run pos pins s σ H _ I h) fun us s1 ⟨vs, H1, I1, r1, q1⟩ => ?_) hs hpl))
  obtain ⟨b, a, xs, k, ex, k0, k1, hq, q⟩ := q1
  subst ex
  cases r1 with
  | cons r rr =>
  cases rr with
  | cons r' rr =>
    cases rr
    cases r
    obtain ⟨t, rfl⟩ := r'
    obtain ⟨its, rv, p', hz⟩ := inv_b I1 hq
    have hal := inv_lt I1 hq
    refine enum_begins (begins_b b a its.toArray) p' k0 k1 fun h' he hit hsz hk => wpAny_pyIter_enum he ?_
    have I2 : Inv X pins σ H1 { s1 with heap := h' } := I1.kept (t' := s1.toks) hk
    have n1 : (s1.heap.objs.size + 1 : Nat) ≠ s1.heap.objs.size := Nat.succ_ne_self _
    have n2 : (s1.heap.objs.size + 1 : Nat) ≠ a := by
      have : (a : Nat) < s1.heap.objs.size := hal
      exact Nat.ne_of_gt (Nat.lt_succ_of_lt this)
    refine ⟨s1.heap.objs.size + 1, [s1.heap.objs.size + 1, s1.heap.objs.size], _, _, H1, rfl, I2, turn_enumB k b a (s1.heap.objs.size + 1) s1.heap.objs.size n1 n2 (Nat.ne_of_lt hal), ⟨⟨.none, by rw [show k + ((0 : Nat) : Int) = k by simp]; exact he⟩, itB_new hit⟩, fun c hb => ?_, q⟩
    have e' : c = s1.heap.objs.size + 1 ∨ c = s1.heap.objs.size := by simpa using hb
    have hle : s1.heap.objs.size ≤ c := by
      rcases e' with z | z
      · rw [z]; exact Nat.le_add_right _ _
      · rw [z]; exact Nat.le_refl _
    exact I1.fpOk hle (I1.hok.fresh hle)
end
/-! zip of two, of three -/
def ItZ2 (K : PySem.W.Frag) (b1 : Bool) (a1 : Addr) (b2 : Bool) (a2 : Addr) : It :=
  ⟨fun i H => ∃ (xs ys : List V) (x y : V), SqB K H b1 a1 xs ∧ SqB K H b2 a2 ys ∧ xs[i]? = some x ∧ ys[i]? = some y,
    fun i H v H' => ∃ T x y, v = .ref T ∧ H T = none ∧ H' = upd H T (.tup [x, y]) ∧ (∀ xs, SqB K H b1 a1 xs → xs[i]? = some x) ∧ ∀ ys, SqB K H b2 a2 ys → ys[i]? = some y,
    fun i H => ∃ xs ys : List V, SqB K H b1 a1 xs ∧ SqB K H b2 a2 ys ∧ min xs.length ys.length = i⟩
def ItZ3 (K : PySem.W.Frag) (b1 : Bool) (a1 : Addr) (b2 : Bool) (a2 : Addr) (b3 : Bool) (a3 : Addr) : It :=
  ⟨fun i H => ∃ (xs ys zs : List V) (x y z : V), SqB K H b1 a1 xs ∧ SqB K H b2 a2 ys ∧ SqB K H b3 a3 zs ∧ xs[i]? = some x ∧ ys[i]? = some y ∧ zs[i]? = some z,
    fun i H v H' => ∃ T x y z, v = .ref T ∧ H T = none ∧ H' = upd H T (.tup [x, y, z]) ∧ (∀ xs, SqB K H b1 a1 xs → xs[i]? = some x) ∧ (∀ ys, SqB K H b2 a2 ys → ys[i]? = some y) ∧ ∀ zs, SqB K H b3 a3 zs → zs[i]? = some z,
    fun i H => ∃ xs ys zs : List V, SqB K H b1 a1 xs ∧ SqB K H b2 a2 ys ∧ SqB K H b3 a3 zs ∧ min (min xs.length ys.length) zs.length = i⟩
theorem turn_z2 {P : Program} {w : World} {K : PySem.W.Frag} {elts : List Expr} {kk : Nat} {tpos : Pos} {b1 : Bool} {a1 : Addr} {b2 : Bool} {a2 z TI TO i1 i2 : Addr} (S : ZipSep2 z TI TO i1 i2 [i1, a1] [i2, a2]) (n1 : a1 ≠ i1) (n2 : a2 ≠ i2) :
    Turn P w K (.Tuple elts kk tpos) (ItZ2 K b1 a1 b2 a2) [z, TI, TO, i1, i2] z (fun i h => IsZip h z TI TO .none ∧ IsTupOf2 h TI (.ref i1) (.ref i2) ∧ (∃ c1 c2, IsTupOf2 h TO c1 c2) ∧ ItB h b1 i1 a1 i ∧ ItB h b2 i2 a2 i) where
  mem := by simp
  obj := fun i h st c hc => by
    obtain ⟨hz, hTI, ⟨c1, c2, hTO⟩, h1, h2⟩ := st
    have e' : c = z ∨ c = TI ∨ c = TO ∨ c = i1 ∨ c = i2 := by simpa using hc
    rcases e' with q | q | q | q | q
    · rw [q]; exact ⟨_, hz, fun v q => nomatch q⟩
    · rw [q]; exact ⟨_, hTI, fun v q => nomatch q⟩
    · rw [q]; exact ⟨_, hTO, fun v q => nomatch q⟩
    · rw [q]; exact h1.obj
    · rw [q]; exact h2.obj
  keep := fun i h h' st k => by
    obtain ⟨hz, hTI, ⟨c1, c2, hTO⟩, h1, h2⟩ := st
    exact ⟨k z (by simp) _ hz, k TI (by simp) _ hTI, ⟨c1, c2, k TO (by simp) _ hTO⟩, h1.at fun o q => k i1 (by simp) o q, h2.at fun o q => k i2 (by simp) o q⟩
  item := by
    intro X hP hw hK hc i pins s σ H E I hf st hg
    subst hP hw hK
    obtain ⟨hz, hTI, ⟨c1, c2, hTO⟩, h1, h2⟩ := st
    obtain ⟨xs, ys, x, y, hqx, hqy, hx, hy⟩ := hg
    obtain ⟨its, rv, p, _⟩ := inv_b I hqx
    obtain ⟨its2, rv2, p2, _⟩ := inv_b I hqy
    obtain ⟨u, hu, ru⟩ := rv.get hx
    obtain ⟨u2, hu2, ru2⟩ := rv2.get hy
    have l1 : i < its.toArray.size := by
      have := (List.getElem?_eq_some_iff.mp hu).1
      simpa using this
    have l2 : i < its2.toArray.size := by
      have := (List.getElem?_eq_some_iff.mp hu2).1
      simpa using this
    refine (GoesN.zip2 (P1 := fun j v => its.toArray[j]? = some v) (P2 := fun j v => its2.toArray[j]? = some v) S (draws_b (A := X.A.in1) (I.ok.hd hc) i1 a1 n1 b1 its.toArray) (draws_b (A := X.A.in1) (I.ok.hd hc) i2 a2 n2 b2 its2.toArray)).goes i s
      (fun u s2 => ∃ x H', Inv X pins σ H' s2 ∧ RelV x u ∧ (ItZ2 X.K b1 a1 b2 a2).yld i H x H' ∧ (IsZip s2.heap z TI TO .none ∧ IsTupOf2 s2.heap TI (.ref i1) (.ref i2) ∧ (∃ c1 c2, IsTupOf2 s2.heap TO c1 c2) ∧ ItB s2.heap b1 i1 a1 (i + 1) ∧ ItB s2.heap b2 i2 a2 (i + 1)) ∧ ∀ c ∈ [z, TI, TO, i1, i2], H' c = none) E (by omega) ⟨hz, hTI, ⟨c1, c2, hTO⟩, ⟨h1, p⟩, ⟨h2, p2⟩⟩ ?_
    rintro v h' tk ⟨T, y1, y2, rfl, hT, hy1, hy2, hIs⟩ ⟨hz', hTI', hTO', ⟨h1', _⟩, ⟨h2', _⟩⟩ hkeep htk
    have e1 : y1 = u := by
      have : its.toArray[i]? = some u := by simpa using hu
      rw [this] at hy1; cases hy1; rfl
    have e2 : y2 = u2 := by
      have : its2.toArray[i]? = some u2 := by simpa using hu2
      rw [this] at hy2; cases hy2; rfl
    subst e1; subst e2
    have new : ObjOk X.prog X.w (upd H T (.tup [x, y])) h' T (.tup [x, y]) := ⟨by show 2 ≤ sizeLine; decide, [y1, y2], .cons ru (.cons ru2 .nil), hIs⟩
    have I1 : Inv X pins σ (upd H T (.tup [x, y])) { s with heap := h', toks := tk } := I.turnedNew (t' := tk) (ch := [z, TO, i1, i2]) hkeep (fun c hm => hf c (by simp at hm ⊢; rcases hm with h | h | h | h <;> simp [h])) hT new
    refine ⟨.ref T, _, I1, rfl, ⟨T, x, y, rfl, I.hok.fresh hT, rfl, fun l hl => by rw [inv_bj I hl hqx]; exact hx, fun l hl => by rw [inv_bj I hl hqy]; exact hy⟩, ⟨hz', hTI', hTO', h1', h2'⟩, fun c hcm => ?_⟩
    have hlt : c < s.heap.objs.size := by
      have e' : c = z ∨ c = TI ∨ c = TO ∨ c = i1 ∨ c = i2 := by simpa using hcm
      rcases e' with q | q | q | q | q
      · rw [q]; exact Heap.lt_size hz
      · rw [q]; exact Heap.lt_size hTI
      · rw [q]; exact Heap.lt_size hTO
      · rw [q]; obtain ⟨o, e1, _⟩ := h1.obj; exact Heap.lt_size e1
      · rw [q]; obtain ⟨o, e1, _⟩ := h2.obj; exact Heap.lt_size e1
    rw [upd_ne (Nat.ne_of_lt (Nat.lt_of_lt_of_le hlt hT))]
    exact (hf c hcm).1
  done := by
    intro X hP hw hK hc i pins s σ H E I hf st hg
    subst hP hw hK
    obtain ⟨hz, hTI, ⟨c1, c2, hTO⟩, h1, h2⟩ := st
    obtain ⟨xs, ys, hqx, hqy, hend⟩ := hg
    obtain ⟨its, rv, p, _⟩ := inv_b I hqx
    obtain ⟨its2, rv2, p2, _⟩ := inv_b I hqy
    have l1 := rv.length
    have l2 := rv2.length
    have hn : min its.toArray.size its2.toArray.size = i := by simp; omega
    subst hn
    exact (GoesN.zip2 (P1 := fun j v => its.toArray[j]? = some v) (P2 := fun j v => its2.toArray[j]? = some v) (elts := elts) (x1 := kk) (pos := tpos) S (draws_b (A := X.A.in1) (I.ok.hd hc) i1 a1 n1 b1 its.toArray) (draws_b (A := X.A.in1) (I.ok.hd hc) i2 a2 n2 b2 its2.toArray)).stops s
      (fun s1 => Inv X pins σ H s1) E ⟨hz, hTI, ⟨c1, c2, hTO⟩, ⟨h1, p⟩, ⟨h2, p2⟩⟩ fun h' tk hkeep htk => I.turnedL (t' := tk) (ch := [z, TO, i1, i2]) hkeep (fun c hm => hf c (by simp at hm ⊢; rcases hm with h | h | h | h <;> simp [h]))
  self := fun A i s Q E st h => wpAny_pyIter_zip st.1 h
theorem turn_z3 {P : Program} {w : World} {K : PySem.W.Frag} {elts : List Expr} {kk : Nat} {tpos : Pos} {b1 : Bool} {a1 : Addr} {b2 : Bool} {a2 : Addr} {b3 : Bool} {a3 z TI TO i1 i2 i3 : Addr} (S : ZipSep3 z TI TO i1 i2 i3 [i1, a1] [i2, a2] [i3, a3]) (n1 : a1 ≠ i1) (n2 : a2 ≠ i2) (n3 : a3 ≠ i3) :
    Turn P w K (.Tuple elts kk tpos) (ItZ3 K b1 a1 b2 a2 b3 a3) [z, TI, TO, i1, i2, i3] z (fun i h => IsZip h z TI TO .none ∧ IsTupOf3 h TI (.ref i1) (.ref i2) (.ref i3) ∧ (∃ c1 c2 c3, IsTupOf3 h TO c1 c2 c3) ∧ ItB h b1 i1 a1 i ∧ ItB h b2 i2 a2 i ∧ ItB h b3 i3 a3 i) where
  mem := by simp
  obj := fun i h st c hc => by
    obtain ⟨hz, hTI, ⟨c1, c2, c3, hTO⟩, h1, h2, h3⟩ := st
    have e' : c = z ∨ c = TI ∨ c = TO ∨ c = i1 ∨ c = i2 ∨ c = i3 := by simpa using hc
    rcases e' with q | q | q | q | q | q
    · rw [q]; exact ⟨_, hz, fun v q => nomatch q⟩
    · rw [q]; exact ⟨_, hTI, fun v q => nomatch q⟩
    · rw [q]; exact ⟨_, hTO, fun v q => nomatch q⟩
    · rw [q]; exact h1.obj
    · rw [q]; exact h2.obj
    · rw [q]; exact h3.obj
  keep := fun i h h' st k => by
    obtain ⟨hz, hTI, ⟨c1, c2, c3, hTO⟩, h1, h2, h3⟩ := st
    exact ⟨k z (by simp) _ hz, k TI (by simp) _ hTI, ⟨c1, c2, c3, k TO (by simp) _ hTO⟩, h1.at fun o q => k i1 (by simp) o q, h2.at fun o q => k i2 (by simp) o q, h3.at fun o q => k i3 (by simp) o q⟩
  item := by
    intro X hP hw hK hc i pins s σ H E I hf st hg
    subst hP hw hK
    obtain ⟨hz, hTI, ⟨c1, c2, c3, hTO⟩, h1, h2, h3⟩ := st
    obtain ⟨xs, ys, ws, x, y, w0, hqx, hqy, hqw, hx, hy, hw0⟩ := hg
    obtain ⟨its, rv, p, _⟩ := inv_b I hqx
    obtain ⟨its2, rv2, p2, _⟩ := inv_b I hqy
    obtain ⟨its3, rv3, p3, _⟩ := inv_b I hqw
    obtain ⟨u, hu, ru⟩ := rv.get hx
    obtain ⟨u2, hu2, ru2⟩ := rv2.get hy
    obtain ⟨u3, hu3, ru3⟩ := rv3.get hw0
    have l1 : i < its.toArray.size := by
      have := (List.getElem?_eq_some_iff.mp hu).1
      simpa using this
    have l2 : i < its2.toArray.size := by
      have := (List.getElem?_eq_some_iff.mp hu2).1
      simpa using this
    have l3 : i < its3.toArray.size := by
      have := (List.getElem?_eq_some_iff.mp hu3).1
      simpa using this
    refine (GoesN.zip3 (P1 := fun j v => its.toArray[j]? = some v) (P2 := fun j v => its2.toArray[j]? = some v) (P3 := fun j v => its3.toArray[j]? = some v) S (draws_b (A := X.A.in1) (I.ok.hd hc) i1 a1 n1 b1 its.toArray) (draws_b (A := X.A.in1) (I.ok.hd hc) i2 a2 n2 b2 its2.toArray) (draws_b (A := X.A.in1) (I.ok.hd hc) i3 a3 n3 b3 its3.toArray)).goes i s
      (fun u s2 => ∃ x H', Inv X pins σ H' s2 ∧ RelV x u ∧ (ItZ3 X.K b1 a1 b2 a2 b3 a3).yld i H x H' ∧ (IsZip s2.heap z TI TO .none ∧ IsTupOf3 s2.heap TI (.ref i1) (.ref i2) (.ref i3) ∧ (∃ c1 c2 c3, IsTupOf3 s2.heap TO c1 c2 c3) ∧ ItB s2.heap b1 i1 a1 (i + 1) ∧ ItB s2.heap b2 i2 a2 (i + 1) ∧ ItB s2.heap b3 i3 a3 (i + 1)) ∧ ∀ c ∈ [z, TI, TO, i1, i2, i3], H' c = none) E (by omega) ⟨hz, hTI, ⟨c1, c2, c3, hTO⟩, ⟨h1, p⟩, ⟨h2, p2⟩, ⟨h3, p3⟩⟩ ?_
    rintro v h' tk ⟨T, y1, y2, y3, rfl, hT, hy1, hy2, hy3, hIs⟩ ⟨hz', hTI', hTO', ⟨h1', _⟩, ⟨h2', _⟩, ⟨h3', _⟩⟩ hkeep htk
    have e1 : y1 = u := by
      have : its.toArray[i]? = some u := by simpa using hu
      rw [this] at hy1; cases hy1; rfl
    have e2 : y2 = u2 := by
      have : its2.toArray[i]? = some u2 := by simpa using hu2
      rw [this] at hy2; cases hy2; rfl
    have e3 : y3 = u3 := by
      have : its3.toArray[i]? = some u3 := by simpa using hu3
      rw [this] at hy3; cases hy3; rfl
    subst e1; subst e2; subst e3
    have new : ObjOk X.prog X.w (upd H T (.tup [x, y, w0])) h' T (.tup [x, y, w0]) := ⟨by show 3 ≤ sizeLine; decide, [y1, y2, y3], .cons ru (.cons ru2 (.cons ru3 .nil)), hIs⟩
    have I1 : Inv X pins σ (upd H T (.tup [x, y, w0])) { s with heap := h', toks := tk } := I.turnedNew (t' := tk) (ch := [z, TO, i1, i2, i3]) hkeep (fun c hm => hf c (by simp at hm ⊢; rcases hm with h | h | h | h | h <;> simp [h])) hT new
    refine ⟨.ref T, _, I1, rfl, ⟨T, x, y, w0, rfl, I.hok.fresh hT, rfl, fun l hl => by rw [inv_bj I hl hqx]; exact hx, fun l hl => by rw [inv_bj I hl hqy]; exact hy, fun l hl => by rw [inv_bj I hl hqw]; exact hw0⟩, ⟨hz', hTI', hTO', h1', h2', h3'⟩, fun c hcm => ?_⟩
    have hlt : c < s.heap.objs.size := by
      have e' : c = z ∨ c = TI ∨ c = TO ∨ c = i1 ∨ c = i2 ∨ c = i3 := by simpa using hcm
      rcases e' with q | q | q | q | q | q
      · rw [q]; exact Heap.lt_size hz
      · rw [q]; exact Heap.lt_size hTI
      · rw [q]; exact Heap.lt_size hTO
      · rw [q]; obtain ⟨o, e1, _⟩ := h1.obj; exact Heap.lt_size e1
      · rw [q]; obtain ⟨o, e1, _⟩ := h2.obj; exact Heap.lt_size e1
      · rw [q]; obtain ⟨o, e1, _⟩ := h3.obj; exact Heap.lt_size e1
    rw [upd_ne (Nat.ne_of_lt (Nat.lt_of_lt_of_le hlt hT))]
    exact (hf c hcm).1
  done := by
    intro X hP hw hK hc i pins s σ H E I hf st hg
    subst hP hw hK
    obtain ⟨hz, hTI, ⟨c1, c2, c3, hTO⟩, h1, h2, h3⟩ := st
    obtain ⟨xs, ys, ws, hqx, hqy, hqw, hend⟩ := hg
    obtain ⟨its, rv, p, _⟩ := inv_b I hqx
    obtain ⟨its2, rv2, p2, _⟩ := inv_b I hqy
    obtain ⟨its3, rv3, p3, _⟩ := inv_b I hqw
    have l1 := rv.length
    have l2 := rv2.length
    have l3 := rv3.length
    have hn : min (min its.toArray.size its2.toArray.size) its3.toArray.size = i := by
      rw [show its.toArray.size = xs.length by simp; omega, show its2.toArray.size = ys.length by simp; omega, show its3.toArray.size = ws.length by simp; omega]; exact hend
    subst hn
    exact (GoesN.zip3 (P1 := fun j v => its.toArray[j]? = some v) (P2 := fun j v => its2.toArray[j]? = some v) (P3 := fun j v => its3.toArray[j]? = some v) (elts := elts) (x1 := kk) (pos := tpos) S (draws_b (A := X.A.in1) (I.ok.hd hc) i1 a1 n1 b1 its.toArray) (draws_b (A := X.A.in1) (I.ok.hd hc) i2 a2 n2 b2 its2.toArray) (draws_b (A := X.A.in1) (I.ok.hd hc) i3 a3 n3 b3 its3.toArray)).stops s
      (fun s1 => Inv X pins σ H s1) E ⟨hz, hTI, ⟨c1, c2, c3, hTO⟩, ⟨h1, p⟩, ⟨h2, p2⟩, ⟨h3, p3⟩⟩ fun h' tk hkeep htk => I.turnedL (t' := tk) (ch := [z, TO, i1, i2, i3]) hkeep (fun c hm => hf c (by simp at hm ⊢; rcases hm with h | h | h | h | h <;> simp [h]))
  self := fun A i s Q E st h => wpAny_pyIter_zip st.1 h
def iZ2 (K : PySem.W.Frag) (ta : TA) : TI := fun σ H R => ta σ H fun vs H1 => ∃ b1 a1 b2 a2 xs ys, vs = [.ref a1, .ref a2] ∧ SqB K H1 b1 a1 xs ∧ SqB K H1 b2 a2 ys ∧ R (ItZ2 K b1 a1 b2 a2) H1
def iZ3 (K : PySem.W.Frag) (ta : TA) : TI := fun σ H R => ta σ H fun vs H1 => ∃ b1 a1 b2 a2 b3 a3 xs ys zs, vs = [.ref a1, .ref a2, .ref a3] ∧ SqB K H1 b1 a1 xs ∧ SqB K H1 b2 a2 ys ∧ SqB K H1 b3 a3 zs ∧ R (ItZ3 K b1 a1 b2 a2 b3 a3) H1
section
variable {X : Cx} {e e2 e3 : Expr} {ta : TA} {p pos tpos : Pos} {elts : List Expr} {kk : Nat}
theorem le_add_any (n k : Nat) : n ≤ n + k := Nat.le_add_right _ _
theorem pi_zipS2 {K : PySem.W.Frag} (hg : Gl X "zip") (hm : X.mg "zip" = none) (ha : PA X [e, e2] ta) (hs : starEach [e, e2] X.env = (false, eval e X.env) :: starEach [e2] X.env := by rfl) (hpl : (backTo pos (starEach [e2] X.env)).any (·.1) = false := by rfl) (hK : X.K = K := by rfl) :
    PI X (.Tuple elts kk tpos) (.Call (.Name "zip" p) [e, e2] [] pos) (iZ2 K ta) := by
  subst hK
  refine ⟨fun pins s σ H R I h => ?_⟩
  refine Call_ (ld_blt I hg hm PyProof.Rows.boot_zip (PyProof.Rows.callWith_type1 (thn (ha.run pos pins s σ H _ I h) fun us s1 ⟨vs, H1, I1, r1, q1⟩ => ?_) hs hpl))
  obtain ⟨b1, a1, b2, a2, xs, ys, ex, hq1, hq2, q⟩ := q1
  subst ex
  cases r1 with
  | cons r rr =>
  cases rr with
  | cons r' rr =>
    cases rr
    cases r
    cases r'
    obtain ⟨its, rv, p1, _⟩ := inv_b I1 hq1
    obtain ⟨its2, rv2, p2, _⟩ := inv_b I1 hq2
    have g1 : (a1 : Nat) < s1.heap.objs.size := inv_lt I1 hq1
    have g2 : (a2 : Nat) < s1.heap.objs.size := inv_lt I1 hq2
    refine zip_begins2 (begins_b b1 a1 its.toArray) (begins_b b2 a2 its2.toArray) p1 p2 fun h' hz hTI hTO h1 h2 hsz hk => wpAny_pyIter_zip hz ?_
    have I2 : Inv X pins σ H1 { s1 with heap := h' } := I1.kept (t' := s1.toks) hk
    refine ⟨s1.heap.objs.size + 4, [s1.heap.objs.size + 4, s1.heap.objs.size + 2, s1.heap.objs.size + 3, s1.heap.objs.size, s1.heap.objs.size + 1], _, _, H1, rfl, I2,
      turn_z2 (zip_sep2 (fp1 := [a1]) (fp2 := [a2]) (fun c hc => by simp at hc; rw [hc]; exact g1) (fun c hc => by simp at hc; rw [hc]; exact g2)) (Nat.ne_of_lt g1) (Nat.ne_of_lt (Nat.lt_of_lt_of_le g2 (Nat.le_add_right _ _))), ⟨hz, hTI, ⟨_, _, hTO⟩, itB_new h1, itB_new h2⟩, fun c hcm => ?_, q⟩
    have e' : c = s1.heap.objs.size + 4 ∨ c = s1.heap.objs.size + 2 ∨ c = s1.heap.objs.size + 3 ∨ c = s1.heap.objs.size ∨ c = s1.heap.objs.size + 1 := by simpa using hcm
    have hle : s1.heap.objs.size ≤ c := by
      rcases e' with z | z | z | z | z
      · rw [z]; exact le_add_any _ _
      · rw [z]; exact le_add_any _ _
      · rw [z]; exact le_add_any _ _
      · rw [z]; exact Nat.le_refl _
      · rw [z]; exact le_add_any _ _
    exact I1.fpOk hle (I1.hok.fresh hle)
theorem pi_zipS3 {K : PySem.W.Frag} (hg : Gl X "zip") (hm : X.mg "zip" = none) (ha : PA X [e, e2, e3] ta) (hs : starEach [e, e2, e3] X.env = (false, eval e X.env) :: starEach [e2, e3] X.env := by rfl) (hpl : (backTo pos (starEach [e2, e3] X.env)).any (·.1) = false := by rfl) (hK : X.K = K := by rfl) :
    PI X (.Tuple elts kk tpos) (.Call (.Name "zip" p) [e, e2, e3] [] pos) (iZ3 K ta) := by
  subst hK
  refine ⟨fun pins s σ H R I h => ?_⟩
  refine Call_ (ld_blt I hg hm PyProof.Rows.boot_zip (PyProof.Rows.callWith_type1 (thn (ha.run pos pins s σ H _ I h) fun us s1 ⟨vs, H1, I1, r1, q1⟩ => ?_) hs hpl))
  obtain ⟨b1, a1, b2, a2, b3, a3, xs, ys, zs, ex, hq1, hq2, hq3, q⟩ := q1
  subst ex
  cases r1 with
  | cons r rr =>
  cases rr with
  | cons r' rr =>
  cases rr with
  | cons r'' rr =>
    cases rr
    cases r
    cases r'
    cases r''
    obtain ⟨its, rv, p1, _⟩ := inv_b I1 hq1
    obtain ⟨its2, rv2, p2, _⟩ := inv_b I1 hq2
    obtain ⟨its3, rv3, p3, _⟩ := inv_b I1 hq3
    have g1 : (a1 : Nat) < s1.heap.objs.size := inv_lt I1 hq1
    have g2 : (a2 : Nat) < s1.heap.objs.size := inv_lt I1 hq2
    have g3 : (a3 : Nat) < s1.heap.objs.size := inv_lt I1 hq3
    refine zip_begins3 (begins_b b1 a1 its.toArray) (begins_b b2 a2 its2.toArray) (begins_b b3 a3 its3.toArray) p1 p2 p3 fun h' hz hTI hTO h1 h2 h3 hsz hk => wpAny_pyIter_zip hz ?_
    have I2 : Inv X pins σ H1 { s1 with heap := h' } := I1.kept (t' := s1.toks) hk
    refine ⟨s1.heap.objs.size + 5, [s1.heap.objs.size + 5, s1.heap.objs.size + 3, s1.heap.objs.size + 4, s1.heap.objs.size, s1.heap.objs.size + 1, s1.heap.objs.size + 2], _, _, H1, rfl, I2,
      turn_z3 (zip_sep3 (fp1 := [a1]) (fp2 := [a2]) (fp3 := [a3]) (fun c hc => by simp at hc; rw [hc]; exact g1) (fun c hc => by simp at hc; rw [hc]; exact g2) (fun c hc => by simp at hc; rw [hc]; exact g3)) (Nat.ne_of_lt g1) (Nat.ne_of_lt (Nat.lt_of_lt_of_le g2 (Nat.le_add_right _ _))) (Nat.ne_of_lt (Nat.lt_of_lt_of_le g3 (Nat.le_add_right _ _))), ⟨hz, hTI, ⟨_, _, _, hTO⟩, itB_new h1, itB_new h2, itB_new h3⟩, fun c hcm => ?_, q⟩
    have e' : c = s1.heap.objs.size + 5 ∨ c = s1.heap.objs.size + 3 ∨ c = s1.heap.objs.size + 4 ∨ c = s1.heap.objs.size ∨ c = s1.heap.objs.size + 1 ∨ c = s1.heap.objs.size + 2 := by simpa using hcm
    have hle : s1.heap.objs.size ≤ c := by
      rcases e' with z | z | z | z | z | z
      · rw [z]; exact le_add_any _ _
      · rw [z]; exact le_add_any _ _
      · rw [z]; exact le_add_any _ _
      · rw [z]; exact Nat.le_refl _
      · rw [z]; exact le_add_any _ _
      · rw [z]; exact le_add_any _ _
    exact I1.fpOk hle (I1.hok.fresh hle)
end
/-! ### their readings -/
/-- frozen sequences -/
inductive FrS : Sl → List D → Prop
  | l {ds : List D} : FrS (.v (.lst ds)) ds
  | t {ds : List D} : FrS (.v (.tup ds)) ds
  | s {b : Bool} {ds : List D} : FrS (.v (D.seq b ds)) ds
theorem sqb_same {K : PySem.W.Frag} {F F' : Hp} {b : Bool} {a : Addr} {xs : List V} (e : Same F F') (h : SqB K F b a xs) : SqB K F' b a xs := by
  cases b with
  | true => exact sqt_same K e h
  | false => exact e.seq h
section
variable {K : PySem.W.Frag} {ρ : Rho} {M : List MO}
theorem FrS.get {α : Al} {F : Hp} {s : Sl} {ds : List D} {u : V} (h : FrS s ds) (o : SlOk K α F s u) : ∃ b a vs, u = .ref a ∧ SqB K F b a vs ∧ Dens K F ds vs := by
  have L : ∀ {u : V}, SlOk K α F (.v (.lst ds)) u → ∃ b a vs, u = .ref a ∧ SqB K F b a vs ∧ Dens K F ds vs := fun o => by
    obtain ⟨a, vs, h1, h2, h3⟩ := o
    exact ⟨false, a, vs, h1, SqL.of h2, h3⟩
  have T : ∀ {u : V}, SlOk K α F (.v (.tup ds)) u → ∃ b a vs, u = .ref a ∧ SqB K F b a vs ∧ Dens K F ds vs := fun o => by
    obtain ⟨a, vs, h1, h2, h3⟩ := o
    exact ⟨true, a, vs, h1, h2, h3⟩
  cases h with
  | l => exact L o
  | t => exact T o
  | @s b _ =>
    cases b with
    | true => exact T o
    | false => exact L o
def enumD (k : Int) (ds : List D) : List D := ds.mapIdx fun i d => .tup [.int (k + (i : Int)), d]
theorem ite_ok {F : Hp} {k : Int} {b : Bool} {a : Addr} {vs : List V} {ds : List D} (h : SqB K F b a vs) (hd : Dens K F ds vs) : ItOk K (ItE K k b a) F (enumD k ds) := fun i F1 H s1 s2 => by
  have hH := sqb_same s2 (sqb_same s1 h)
  refine ⟨fun hl => ⟨vs, hH, by rw [← hd.length]; simpa [enumD] using hl⟩, fun d e => ?_⟩
  unfold enumD at e
  rw [List.getElem?_mapIdx] at e
  cases e3 : ds[i]? with
  | none => rw [e3] at e; cases e
  | some d0 =>
    rw [e3] at e
    cases e
    obtain ⟨v, e2, r⟩ := hd.get e3
    refine ⟨⟨vs, v, hH, e2⟩, fun x H' ⟨T, y, ex, hT, eH, hy⟩ => .inr ⟨T, _, _, ex, hT, eH, rfl, ?_⟩⟩
    have := hy vs hH
    rw [e2] at this; cases this
    exact Dens.cons rfl (Dens.cons (Den.mono K s1 _ _ r) Dens.nil)
theorem ei_enB {tl : TA} {R : List D → Prop} (h : EvA K tl ρ M fun ss => ∃ s ds, ss = [s] ∧ FrS s ds ∧ R (enumD 0 ds)) : EvI K (iEnB K tl) ρ M R := fun σ α F H en S k kk =>
  h σ α F H en S _ fun vs F1 H1 ss m1 S1 o1 ⟨s, ds, e1, hr, q⟩ => by
    subst e1
    obtain ⟨v, r, rfl, hv, r2⟩ := o1
    have r2 : r = [] := r2
    subst r2
    obtain ⟨b, a, us, rfl, h1, h2⟩ := hr.get hv
    exact ⟨b, a, us, rfl, sqb_same S1.sub h1, kk _ F1 H1 _ m1 S1 (ite_ok h1 h2) q⟩
theorem ei_enB2 {tl : TA} {R : List D → Prop} (h : EvA K tl ρ M fun ss => ∃ s j ds, ss = [s, .v (.int j)] ∧ FrS s ds ∧ (-(2 ^ 63) ≤ j ∧ j < 2 ^ 63) ∧ R (enumD j ds)) : EvI K (iEnB2 K tl) ρ M R := fun σ α F H en S k kk =>
  h σ α F H en S _ fun vs F1 H1 ss m1 S1 o1 ⟨s, j, ds, e1, hr, hj, q⟩ => by
    subst e1
    obtain ⟨v, r, rfl, hv, r2⟩ := o1
    obtain ⟨w, r', rfl, hw, r3⟩ := r2
    have r3 : r' = [] := r3
    have hw : w = .int j := hw
    subst r3; subst hw
    obtain ⟨b, a, us, rfl, h1, h2⟩ := hr.get hv
    exact ⟨b, a, us, j, rfl, hj.1, hj.2, sqb_same S1.sub h1, kk _ F1 H1 _ m1 S1 (ite_ok h1 h2) q⟩
def zip2D (ds es : List D) : List D := ds.zipWith (fun d c => .tup [d, c]) es
theorem ei_z2 {tl : TA} {R : List D → Prop} (h : EvA K tl ρ M fun ss => ∃ s1 s2 ds es, ss = [s1, s2] ∧ FrS s1 ds ∧ FrS s2 es ∧ R (zip2D ds es)) : EvI K (iZ2 K tl) ρ M R := fun σ α F H en S k kk =>
  h σ α F H en S _ fun vs F1 H1 ss m1 S1 o1 ⟨t1, t2, ds, es, e1, hr1, hr2, q⟩ => by
    subst e1
    obtain ⟨v, r, rfl, hv, r2⟩ := o1
    obtain ⟨w, r', rfl, hw, r3⟩ := r2
    have r3 : r' = [] := r3
    subst r3
    obtain ⟨b, a, us, rfl, h1, h2⟩ := hr1.get hv
    obtain ⟨b', a', ws, rfl, h3, h4⟩ := hr2.get hw
    refine ⟨b, a, b', a', us, ws, rfl, sqb_same S1.sub h1, sqb_same S1.sub h3, kk _ F1 H1 _ m1 S1 (fun i F2 H2 s1 s2 => ?_) q⟩
    have hH := sqb_same s2 (sqb_same s1 h1)
    have hH' := sqb_same s2 (sqb_same s1 h3)
    refine ⟨fun hl => ⟨us, ws, hH, hH', ?_⟩, fun d e => ?_⟩
    · unfold zip2D at hl
      rw [List.length_zipWith, h2.length, h4.length] at hl; exact hl
    · unfold zip2D at e
      rw [List.getElem?_zipWith] at e
      cases e3 : ds[i]? with
      | none => rw [e3] at e; cases e
      | some d0 =>
        cases e4 : es[i]? with
        | none => rw [e3, e4] at e; cases e
        | some c0 =>
          rw [e3, e4] at e
          cases e
          obtain ⟨v, e5, r⟩ := h2.get e3
          obtain ⟨w, e6, r'⟩ := h4.get e4
          refine ⟨⟨us, ws, v, w, hH, hH', e5, e6⟩, fun x H' ⟨T, y, z, ex, hT, eH, hy, hz⟩ => .inr ⟨T, _, _, ex, hT, eH, rfl, ?_⟩⟩
          have p1 := hy us hH
          have p2 := hz ws hH'
          rw [e5] at p1; cases p1
          rw [e6] at p2; cases p2
          exact Dens.cons (Den.mono K s1 _ _ r) (Dens.cons (Den.mono K s1 _ _ r') Dens.nil)
def zip3D : List D → List D → List D → List D
  | d :: ds, c :: cs, e :: es => .tup [d, c, e] :: zip3D ds cs es
  | _, _, _ => []
theorem zip3D_len : ∀ {ds cs es : List D}, (zip3D ds cs es).length = min (min ds.length cs.length) es.length
  | [], _, _ => by simp [zip3D]
  | _ :: _, [], _ => by simp [zip3D]
  | _ :: _, _ :: _, [] => by simp [zip3D]
  | d :: ds, c :: cs, e :: es => by
    have := zip3D_len (ds := ds) (cs := cs) (es := es)
    simp only [zip3D, List.length_cons, this]; omega
theorem zip3D_get : ∀ {ds cs es : List D} {i : Nat} {x : D}, (zip3D ds cs es)[i]? = some x → ∃ d c e, ds[i]? = some d ∧ cs[i]? = some c ∧ es[i]? = some e ∧ x = .tup [d, c, e]
  | [], _, _, i, x, h => by simp [zip3D] at h
  | _ :: _, [], _, i, x, h => by simp [zip3D] at h
  | _ :: _, _ :: _, [], i, x, h => by simp [zip3D] at h
  | d :: ds, c :: cs, e :: es, 0, x, h => by
    simp [zip3D] at h
    exact ⟨d, c, e, rfl, rfl, rfl, h.symm⟩
  | d :: ds, c :: cs, e :: es, i + 1, x, h => by
    simp only [zip3D, List.getElem?_cons_succ] at h ⊢
    exact zip3D_get h
theorem ei_z3 {tl : TA} {R : List D → Prop} (h : EvA K tl ρ M fun ss => ∃ s1 s2 s3 ds es fs, ss = [s1, s2, s3] ∧ FrS s1 ds ∧ FrS s2 es ∧ FrS s3 fs ∧ R (zip3D ds es fs)) : EvI K (iZ3 K tl) ρ M R := fun σ α F H en S k kk =>
  h σ α F H en S _ fun vs F1 H1 ss m1 S1 o1 ⟨t1, t2, t3, ds, es, fs, e1, hr1, hr2, hr3, q⟩ => by
    subst e1
    obtain ⟨v, r, rfl, hv, r2⟩ := o1
    obtain ⟨w, r', rfl, hw, r3⟩ := r2
    obtain ⟨y, r'', rfl, hy, r4⟩ := r3
    have r4 : r'' = [] := r4
    subst r4
    obtain ⟨b, a, us, rfl, h1, h2⟩ := hr1.get hv
    obtain ⟨b', a', ws, rfl, h3, h4⟩ := hr2.get hw
    obtain ⟨b'', a'', ys, rfl, h5, h6⟩ := hr3.get hy
    refine ⟨b, a, b', a', b'', a'', us, ws, ys, rfl, sqb_same S1.sub h1, sqb_same S1.sub h3, sqb_same S1.sub h5, kk _ F1 H1 _ m1 S1 (fun i F2 H2 s1 s2 => ?_) q⟩
    have hH := sqb_same s2 (sqb_same s1 h1)
    have hH' := sqb_same s2 (sqb_same s1 h3)
    have hH'' := sqb_same s2 (sqb_same s1 h5)
    refine ⟨fun hl => ⟨us, ws, ys, hH, hH', hH'', ?_⟩, fun d e => ?_⟩
    · rw [zip3D_len, h2.length, h4.length, h6.length] at hl; exact hl
    · obtain ⟨d0, c0, f0, e3, e4, e5, rfl⟩ := zip3D_get e
      obtain ⟨v, e6, r⟩ := h2.get e3
      obtain ⟨w, e7, r'⟩ := h4.get e4
      obtain ⟨y, e8, r''⟩ := h6.get e5
      refine ⟨⟨us, ws, ys, v, w, y, hH, hH', hH'', e6, e7, e8⟩, fun x H' ⟨T, y1, y2, y3, ex, hT, eH, q1, q2, q3⟩ => .inr ⟨T, _, _, ex, hT, eH, rfl, ?_⟩⟩
      have p1 := q1 us hH
      have p2 := q2 ws hH'
      have p3 := q3 ys hH''
      rw [e6] at p1; cases p1
      rw [e7] at p2; cases p2
      rw [e8] at p3; cases p3
      exact Dens.cons (Den.mono K s1 _ _ r) (Dens.cons (Den.mono K s1 _ _ r') (Dens.cons (Den.mono K s1 _ _ r'') Dens.nil))
end
end DL

/-! DL13: dicts that are walked; displays; xs[i] += e; calls that hand out new things. -/
namespace DL
open PySem L2
section
variable {K : PySem.W.Frag} {e : Ent} {ρ : Rho} {M : List MO} {te ta tb : TE} {t u : TS} {Q : Sl → Prop} {nx bk ct : Rho → List MO → Prop} {rt : Sl → List MO → Prop}
theorem Sta.unl {α : Al} {F H : Hp} {k : Nat} {d : Addr} {od : Obj} {kvs : List (Key × V)} {ks : List Key} {ds : List D} (S : Sta K α M F H) (hM : M[k]? = some (.frz d od kvs ks ds)) :
    H d = some (.frz od (.dK kvs)) ∧ Move α F H F (upd H d (.dK kvs)) ∧ Sta K α (M.set k (.dic ks ds)) F (upd H d (.dK kvs)) := by
  obtain ⟨q, hq⟩ := sta_get S hM
  obtain ⟨hF, hd, hH, vs, e1, hl, hden⟩ := S.ob k _ q hM hq
  subst hd
  exact ⟨hH, S.write (m' := .dic ks ds) (o := .dK kvs) hq hF ⟨hF, vs, by rw [e1]; exact upd_same, hl, hden⟩⟩
theorem r_lock {j k : Nat} {ks : List Key} {ds : List D} (hj : ρ[j]? = some (some (.l k))) (hk : M[k]? = some (.dic ks ds))
    (h : ∀ d od kvs, RunD K e t ρ (M.set k (.frz d od kvs ks ds)) (fun ρ' M' => M'[k]? = some (.frz d od kvs ks ds) ∧ nx ρ' (M'.set k (.dic ks ds))) (fun s M' => M'[k]? = some (.frz d od kvs ks ds) ∧ rt s (M'.set k (.dic ks ds)))
      (fun ρ' M' => M'[k]? = some (.frz d od kvs ks ds) ∧ bk ρ' (M'.set k (.dic ks ds))) (fun ρ' M' => M'[k]? = some (.frz d od kvs ks ds) ∧ ct ρ' (M'.set k (.dic ks ds)))) :
    RunD K e (tLock t) ρ M nx rt bk ct := fun X σ α F H g ok => by
  obtain ⟨v, h1, p, hp, rfl⟩ := g.env.at' j _ hj
  obtain ⟨hF, vs, hvs, hl, hd⟩ := g.sta.ob k _ p hk hp
  refine ⟨p.1, .dK (ks.zip vs), hvs, trivial, fun od => ?_⟩
  obtain ⟨m2, S2⟩ := g.sta.write (m' := .frz p.1 od (ks.zip vs) ks ds) (o := .frz od (.dK (ks.zip vs))) hp hF ⟨hF, rfl, upd_same, vs, rfl, hl, hd⟩
  refine h p.1 od (ks.zip vs) _ σ α F _ ⟨g.env, S2, g.st.move m2⟩ ⟨fun σ' α' F' H' ρ' M' g' z ⟨hM, q⟩ => ?_, fun w s α' F' H' M' o S' st z ⟨hM, q⟩ => ?_, fun σ' α' F' H' ρ' M' g' z ⟨hM, q⟩ => ?_, fun σ' α' F' H' ρ' M' g' z ⟨hM, q⟩ => ?_⟩
  · obtain ⟨a1, a2, a3⟩ := g'.sta.unl hM
    exact ⟨a1, ok.nx _ α' F' _ _ _ ⟨g'.env, a3, g'.st.move a2⟩ z q⟩
  · obtain ⟨a1, a2, a3⟩ := S'.unl hM
    exact ⟨a1, ok.rt _ s α' F' _ _ o a3 (st.move a2) z q⟩
  · obtain ⟨a1, a2, a3⟩ := g'.sta.unl hM
    exact ⟨a1, ok.bk _ α' F' _ _ _ ⟨g'.env, a3, g'.st.move a2⟩ z q⟩
  · obtain ⟨a1, a2, a3⟩ := g'.sta.unl hM
    exact ⟨a1, ok.ct _ α' F' _ _ _ ⟨g'.env, a3, g'.st.move a2⟩ z q⟩
theorem set_frz {k : Nat} {m m' : MO} (hk : M[k]? = some m) : (M.set k m')[k]? = some m' ∧ (M.set k m').set k m = M := by
  have hl : k < M.length := (List.getElem?_eq_some_iff.mp hk).1
  refine ⟨List.getElem?_set_self hl, ?_⟩
  rw [List.set_set]
  apply List.ext_getElem?
  intro i
  by_cases e : k = i
  · subst e; rw [List.getElem?_set_self hl, hk]
  · rw [List.getElem?_set_ne e]
theorem ev_lock {j k : Nat} {ks : List Key} {ds : List D} (hj : ρ[j]? = some (some (.l k))) (hk : M[k]? = some (.dic ks ds))
    (h : ∀ d od kvs, EvP K te ρ (M.set k (.frz d od kvs ks ds)) Q) : EvP K (tLockE te) ρ M Q := fun σ α F H en S kk0 kk => by
  obtain ⟨v, h1, p, hp, rfl⟩ := en.at' j _ hj
  obtain ⟨hF, vs, hvs, hl, hd⟩ := S.ob k _ p hk hp
  refine ⟨p.1, .dK (ks.zip vs), hvs, trivial, fun od => ?_⟩
  obtain ⟨m2, S2⟩ := S.write (m' := .frz p.1 od (ks.zip vs) ks ds) (o := .frz od (.dK (ks.zip vs))) hp hF ⟨hF, rfl, upd_same, vs, rfl, hl, hd⟩
  refine h p.1 od (ks.zip vs) σ α F _ en S2 _ fun w F' H' s m3 S3 o3 q3 => ?_
  obtain ⟨b1, b2⟩ := set_frz (m' := .frz p.1 od (ks.zip vs) ks ds) hk
  obtain ⟨a1, a2, a3⟩ := S3.unl b1
  rw [b2] at a3
  exact ⟨a1, kk _ F' _ s ((m2.trans m3).trans a2) a3 o3 q3⟩
/-- for k in d, the dict locked -/
theorem r_forK {j k : Nat} {g : TG} {d : Addr} {od : Obj} {kvs : List (Key × V)} {ks : List Key} {ds : List D} (is : List Nat) (hj : ρ[j]? = some (some (.l k))) (hk : M[k]? = some (.frz d od kvs ks ds))
    (h : ∃ I : Nat → Rho → List MO → Prop, I 0 ρ M ∧
      (∀ i key ρ' M', ks[i]? = some key → I i ρ' M' → M'[k]? = some (.frz d od kvs ks ds) → EvG K g is (.raw (kV key)) ρ' fun ρ2 => RunD K e t ρ2 M' (fun ρ3 M3 => M3[k]? = some (.frz d od kvs ks ds) ∧ I (i + 1) ρ3 M3) rt nx (fun ρ3 M3 => M3[k]? = some (.frz d od kvs ks ds) ∧ I (i + 1) ρ3 M3)) ∧
      ∀ ρ' M', I ks.length ρ' M' → M'[k]? = some (.frz d od kvs ks ds) → nx ρ' M') : RunD K e (tFor (iKeys (tVar j)) g t) ρ M nx rt bk ct := fun X σ α F H gd ok => by
  obtain ⟨v, h1, p, hp, rfl⟩ := gd.env.at' j _ hj
  obtain ⟨hF, hpd, hH, vs, ekv, hl, hden⟩ := gd.sta.ob k _ p hk hp
  subst hpd
  obtain ⟨I, h0, hs, hd⟩ := h
  have kl : kvs.length = ks.length := by rw [ekv, List.length_zip, ← hl, Nat.min_self]
  have kg : ∀ {i : Nat} {key : Key} {w : V}, kvs[i]? = some (key, w) → ks[i]? = some key := fun {i key w} q => by
    rw [ekv] at q
    have := congrArg (Option.map Prod.fst) q
    rw [← List.getElem?_map, List.map_fst_zip (by omega)] at this
    exact this
  refine ⟨_, h1, p.1, od, rfl, .inl ⟨kvs, hH, ?_⟩⟩
  refine ⟨fun i m σ' H' => m = ks.length - i ∧ i ≤ ks.length ∧ ∃ ρ' M' α' F', Good K e α' F' H' σ' ρ' M' ∧ Same F F' ∧ M'[k]? = some (.frz p.1 od kvs ks ds) ∧ I i ρ' M', ⟨_, rfl, Nat.zero_le _, ρ, M, α, F, gd, fun _ _ z => z, hk, h0⟩, ?_⟩
  rintro i m σ' H' ⟨rfl, hi, ρ', M', α', F', g', s', hM, pI⟩
  have hfz : H' p.1 = some (.frz od (.dK kvs)) := (g'.sta.unl hM).1
  by_cases hlt : i < ks.length
  · have hget : ks[i]? = some ks[i] := List.getElem?_eq_getElem hlt
    refine .inr ⟨⟨hfz, by omega⟩, fun σ2 H2 => ∃ ρ2 M2 α2 F2, Good K e α2 F2 H2 σ2 ρ2 M2 ∧ Same F F2 ∧ M2[k]? = some (.frz p.1 od kvs ks ds) ∧ I (i + 1) ρ2 M2, fun σ2 H2 ⟨ρ2, M2, α2, F2, g2, s2, hM2, p2⟩ => ⟨ks.length - (i + 1), by omega, rfl, hlt, ρ2, M2, α2, F2, g2, s2, hM2, p2⟩, fun x H2 y => ?_⟩
    obtain ⟨rfl, key, w, hkw, rfl⟩ := y
    have hkey := kg hkw
    refine hs i key ρ' M' hkey pI hM σ' α' F' H2 (kV key) g'.env g'.sta.sub rfl _ fun σ3 ρ3 en3 _ _ q3 => ?_
    have ok2 := ok.at s'
    exact q3 _ σ3 α' F' H2 ⟨en3, g'.sta, g'.st⟩ ⟨fun σ4 α4 F4 H4 ρ4 M4 g4 z4 ⟨hM4, q4⟩ => ⟨ρ4, M4, α4, F4, g4, s'.trans z4, hM4, q4⟩, ok2.rt, ok2.nx, fun σ4 α4 F4 H4 ρ4 M4 g4 z4 ⟨hM4, q4⟩ => ⟨ρ4, M4, α4, F4, g4, s'.trans z4, hM4, q4⟩⟩
  · have ei : i = ks.length := by omega
    subst ei
    exact .inl ⟨⟨hfz, by omega⟩, ok.nx _ _ _ _ _ _ g' s' (hd ρ' M' pI hM)⟩
/-! comprehensions over what stands in a numbered thing -/
def ItOkS (K : PySem.W.Frag) (α : Al) (M : List MO) (J : It) (F : Hp) (items : List D) : Prop := ∀ (i : Nat) (F1 H : Hp), Same F F1 → Sta K α M F1 H → (items.length = i → J.stop i H) ∧
  ∀ d, items[i]? = some d → J.go i H ∧ ∀ x H', J.yld i H x H' → H' = H ∧ Den K F1 d x
def EvIS (K : PySem.W.Frag) (wi : TI) (ρ : Rho) (M : List MO) (R : List D → Prop) : Prop := ∀ (σ : L2.St) (α : Al) (F H : Hp), EnvOk K α F σ ρ → Sta K α M F H → ∀ k : It → Hp → Prop,
  (∀ J F' H' items, Move α F H F' H' → Sta K α M F' H' → ItOkS K α M J F' items → R items → k J H') → wi σ H k
theorem it_turnS {α : Al} {J : It} {F F1 H : Hp} {items : List D} {i : Nat} {d : D} {x : V} {H' : Hp} (ok : ItOkS K α M J F items) (s1 : Same F F1) (S : Sta K α M F1 H) (hd : items[i]? = some d) (y : J.yld i H x H') :
    ∃ F2, Move α F1 H F2 H' ∧ Sta K α M F2 H' ∧ Den K F2 d x := by
  obtain ⟨rfl, h⟩ := ((ok i F1 H s1 S).2 d hd).2 x H' y
  exact ⟨F1, .refl, S, h⟩
theorem ei_keys {j k : Nat} {d : Addr} {od : Obj} {kvs : List (Key × V)} {ks : List Key} {ds : List D} {R : List D → Prop} (hj : ρ[j]? = some (some (.l k))) (hk : M[k]? = some (.frz d od kvs ks ds)) (q : R (ks.map fun key => .raw (kV key))) : EvIS K (iKeys (tVar j)) ρ M R := fun σ α F H en S kk0 kk => by
  obtain ⟨v, h1, p, hp, rfl⟩ := en.at' j _ hj
  obtain ⟨hF, hpd, hH, vs, ekv, hl, hden⟩ := S.ob k _ p hk hp
  subst hpd
  have kl : kvs.length = ks.length := by rw [ekv, List.length_zip, ← hl, Nat.min_self]
  refine ⟨_, h1, p.1, od, rfl, .inl ⟨kvs, hH, kk _ F H _ .refl S (fun i F1 H1 s1 S1 => ?_) q⟩⟩
  have hfz := (S1.unl hk).1
  refine ⟨fun hz => ⟨hfz, by rw [List.length_map] at hz; omega⟩, fun x hx => ?_⟩
  rw [List.getElem?_map] at hx
  obtain ⟨key, hkey, rfl⟩ := Option.map_eq_some_iff.mp hx
  have := (List.getElem?_eq_some_iff.mp hkey).1
  refine ⟨⟨hfz, by omega⟩, fun y H' ⟨e1, key', w, hkw, e2⟩ => ⟨e1, ?_⟩⟩
  subst e2
  rw [ekv] at hkw
  have z := congrArg (Option.map Prod.fst) hkw
  rw [← List.getElem?_map, List.map_fst_zip (by omega), hkey] at z
  have z : key = key' := by simpa using z
  subst z
  rfl
theorem ev_lcS {wi : TI} {g : TG} {tt : TT} {vs : List Nat} (h : EvIS K wi ρ M fun items => items.length ≤ 16777216 ∧ ∃ I : Nat → List D → Prop, I 0 [] ∧
      (∀ i d acc, items[i]? = some d → I i acc → EvG K g vs d (wipeR ρ vs) fun ρ' => EvT K tt ρ' M fun b => if b = true then EvP K te ρ' M (fun s => ∃ d', s = .v d' ∧ I (i + 1) (acc ++ [d'])) else I (i + 1) acc) ∧
      ∀ acc, I items.length acc → Q (.v (.lst acc))) : EvP K (tLc wi g tt te vs) ρ M Q := fun σ α F H en S k kk =>
  h σ α F H en S _ fun J F1 H1 items m1 S1 it ⟨hz, I, h0, hs, hd⟩ => by
    intro A hA
    have hFA : F1 A = none := S1.sub.free hA
    have hna := S1.notin hA
    refine ⟨fun i m H' => m = items.length - i ∧ i ≤ items.length ∧ ∃ F' acc us, Move α F1 H1 F' H' ∧ Sta K α M F' H' ∧ H' A = some (.lst us) ∧ F' A = none ∧ Dens K F' acc us ∧ acc.length ≤ i ∧ I i acc,
      ⟨_, rfl, Nat.zero_le _, F1, [], [], ?_, S1.extra hFA hna, upd_same, hFA, rfl, Nat.le_refl _, h0⟩, ?_⟩
    · exact ⟨fun _ _ z => z, fun b o q _ => by rw [upd_ne (ne_of_none q hA)]; exact q, fun b q => by { rw [upd_ne (fun z => q (by rw [z]; exact hA))]; exact q }, fun b q => .inl q⟩
    rintro i m H' ⟨rfl, hi, F', acc, us, mv, S', hAt, hFA', hden, hlen, p⟩
    by_cases hlt : i < items.length
    · have hget : items[i]? = some items[i] := List.getElem?_eq_getElem hlt
      refine .inr ⟨((it i F' H' mv.ex S').2 _ hget).1, fun H2 => ∃ F2 acc us, Move α F1 H1 F2 H2 ∧ Sta K α M F2 H2 ∧ H2 A = some (.lst us) ∧ F2 A = none ∧ Dens K F2 acc us ∧ acc.length ≤ i + 1 ∧ I (i + 1) acc,
        fun H2 ⟨F2, acc, us, a, b, c, d, f, g, h⟩ => ⟨items.length - (i + 1), by omega, rfl, hlt, F2, acc, us, a, b, c, d, f, g, h⟩, fun x H2 y => ?_⟩
      obtain ⟨F2, m2, S2, hx⟩ := it_turnS it mv.ex S' hget y
      have enw := ((en.mono m1.ex).mono (mv.ex.trans m2.ex)).wipe vs
      refine hs i _ acc hget p (L2.wipe σ vs) α F2 H2 x enw S2.sub hx _ fun σ3 ρ3 en3 l3 f3 q3 => ⟨?_, ?_⟩
      · have := wipe_eq (σ := L2.wipe σ vs) l3 f3
        rw [wipe_wipe] at this
        exact this
      refine q3 σ3 α F2 H2 en3 S2 _ fun b F3 H3 m3 S3 q4 => ?_
      have mA : Move α F' H' F3 H3 := m2.trans m3
      have hA3 : H3 A = some (.lst us) := mA.fr A _ hAt hna
      have nF : ∀ F4 H4, Move α F' H' F4 H4 → F4 A = none := fun F4 H4 mm => by
        cases z : F4 A with
        | none => rfl
        | some o =>
          rcases mm.new A (by rw [z]; simp) with q | q
          · exact absurd hFA' q
          · rw [hAt] at q; cases q
      cases b with
      | true =>
        refine iteT ?_
        have q4 : EvP K te ρ3 M (fun s => ∃ d', s = .v d' ∧ I (i + 1) (acc ++ [d'])) := q4
        refine q4 σ3 α F3 H3 (en3.mono m3.ex) S3 _ fun v F4 H4 s m4 S4 o4 ⟨d', e4, p4⟩ => ?_
        subst e4
        have mB : Move α F' H' F4 H4 := mA.trans m4
        have hA4 : H4 A = some (.lst us) := mB.fr A _ hAt hna
        have mC : Move α F1 H1 F4 H4 := mv.trans mB
        refine ⟨us, hA4, by rw [← hden.length, sizeLine_eq]; omega, F4, acc ++ [d'], us ++ [v], ⟨mC.ex, fun b o q z => ?_, fun b q => ?_, mC.new⟩, S4.extra (nF _ _ mB) hna, upd_same, nF _ _ mB, (Dens.mono K mB.ex _ _ hden).append (Dens.cons o4 Dens.nil), by simp; omega, p4⟩
        · rw [upd_ne (ne_of_none q hA)]; exact mC.fr b o q z
        · rw [upd_ne (fun z => q (by rw [z]; exact hA))]; exact mC.tr b q
      | false =>
        refine iteF ?_
        exact ⟨F3, acc, us, mv.trans mA, S3, hA3, nF _ _ mA, Dens.mono K mA.ex _ _ hden, by omega, q4⟩
    · have ei : i = items.length := by omega
      subst ei
      obtain ⟨s5, S5⟩ := S'.ice hFA' hAt hna
      refine .inl ⟨(it _ F' H' mv.ex S').1 rfl, kk (.ref A) _ H' (.v (.lst acc)) ⟨(m1.trans mv).ex.trans s5, fun b o q z => (m1.trans mv).fr b o q z, (m1.trans mv).tr, fun b q => ?_⟩ S5 (show Den K _ (.lst acc) _ from ⟨A, us, rfl, upd_same, Dens.mono K s5 _ _ hden⟩) (hd acc p)⟩
      by_cases eb : b = A
      · subst eb; exact .inr (none_back (m1.tr b) hA)
      · rw [upd_ne eb] at q; exact (m1.trans mv).new b q
/-- [..] * n, as a list that is to change -/
theorem en_rep {QN : Sl → List MO → Prop} (h : EvP K ta ρ M fun x => EvP K tb ρ M fun y => ∃ ds i, RdL M x ds ∧ y = .v (.int i) ∧ (-(2 ^ 63) ≤ i ∧ i < 2 ^ 63 ∧ ds.length * i.toNat ≤ 16777216) ∧ QN (.l M.length) (M ++ [.lst (List.replicate i.toNat ds).flatten])) : EvN K e (tOp (gMul K) ta tb) ρ M QN := fun σ α F H g kk0 kk =>
  h σ α F H g.env g.sta _ fun u F1 H1 x m1 S1 o1 q1 => q1 σ α F1 H1 (g.env.mono m1.ex) S1 _ fun v F2 H2 y m2 S2 o2 ⟨ds, i, hr, ey, ⟨i0, i1, hz⟩, q⟩ => by
    subst ey
    have o2 : v = .int i := o2
    subst o2
    obtain ⟨a, vs, rfl, e1, d1⟩ := hr.get S2 (o1.mono m2.ex)
    refine .inr (.inl ⟨a, i, vs, rfl, rfl, e1, i0, i1, by rw [← d1.length, sizeLine_eq]; exact hz, fun p hp => ?_⟩)
    have S3 := S2.more (m' := .lst (List.replicate i.toNat ds).flatten) (o := .lst (List.replicate i.toNat vs).flatten) hp ⟨S2.sub.free hp, _, upd_same, d1.flat _⟩
    exact kk _ _ F2 _ _ _ ⟨(g.env.mono (m1.trans m2).ex).more, S3, (g.st.move (m1.trans m2)).more hp⟩ (m1.trans m2).ex ⟨_, rfl⟩ (loc_ok (p := (p, p)) (sta_len S2)) q
theorem last_mo {m : MO} : (M ++ [m])[M.length]? = some m := by simp
theorem last_set {m m' : MO} : (M ++ [m]).set M.length m' = M ++ [m'] := by simp
/-- {k: v} of two numbers .. -/
theorem en_disp1 {k : Key} {v : V} {QN : Sl → List MO → Prop} (q : QN (.l M.length) (M ++ [.dic [k] [.raw v]])) : EvN K e (tDisp [(tC (kV k), tC v)]) ρ M QN := fun σ α F H g kk0 kk p hp => by
  refine ⟨upd_same, [(k, v)], rfl, le_lit rfl, ?_⟩
  have e1 : upd (upd H p (.dK [])) p (.dK (mergeK [] [(k, v)])) = upd H p (.dK [(k, v)]) := by
    funext b
    by_cases hb : b = p
    · subst hb; rw [upd_same, upd_same]; rfl
    · rw [upd_ne hb, upd_ne hb, upd_ne hb]
  rw [e1]
  have S2 := g.sta.more (m' := .dic [k] [.raw v]) (o := .dK [(k, v)]) hp ⟨g.sta.sub.free hp, [v], upd_same, rfl, Dens.cons rfl Dens.nil⟩
  exact kk _ _ F _ _ _ ⟨g.env.more, S2, g.st.more hp⟩ (.refl F) ⟨_, rfl⟩ (loc_ok (p := (p, p)) (sta_len g.sta)) q
/-- xs[i] += e -/
def pgL (K : PySem.W.Frag) : V → V → Hp → VK → Prop := rIxL K
theorem r_augS {j k : Nat} {ds : List D} {ti : TE} {f : Int → Int → Int} (hj : ρ[j]? = some (some (.l k))) (hk : M[k]? = some (.lst ds))
    (h : EvP K ti ρ M fun s' => ∃ i n x, s' = .v (.int i) ∧ ixN ds.length i = some n ∧ ds[n]? = some (.int x) ∧ EvP K te ρ M fun s => ∃ y, s = .v (.int y) ∧ nx ρ (M.set k (.lst (ds.set n (.int (f x y)))))) :
    RunD K e (tAugS (tVar j) ti te (pgL K) (ipI f) rSetL) ρ M nx rt bk ct := fun X σ α F H g ok => by
  obtain ⟨u, h1, p, hp, rfl⟩ := g.env.at' j _ hj
  refine ⟨_, h1, h σ α F H g.env g.sta _ fun w F1 H1 s' m1 S1 o1 ⟨i, n, x, e1, hn, hx, q1⟩ => ?_⟩
  subst e1
  have o1 : w = .int i := o1
  subst o1
  obtain ⟨hF1, vs1, hvs1, hd1⟩ := S1.ob k _ p hk hp
  obtain ⟨z, hz, hzd⟩ := hd1.get hx
  have hzd : z = .int x := hzd
  subst hzd
  refine ⟨p.1, vs1, i, .int x, rfl, rfl, SqL.of hvs1, by unfold atI; rw [← hd1.length, hn]; exact hz, ?_⟩
  refine q1 σ α F1 H1 (g.env.mono m1.ex) S1 _ fun v F2 H2 s m2 S2 o2 ⟨y, e2, q2⟩ => ?_
  subst e2
  have o2 : v = .int y := o2
  subst o2
  obtain ⟨hF2, vs2, hvs2, hd2⟩ := S2.ob k _ p hk hp
  refine ⟨x, y, rfl, rfl, p.1, vs2, i, n, rfl, rfl, hvs2, by rw [← hd2.length]; exact hn, ?_⟩
  obtain ⟨m3, S3⟩ := S2.write (m' := .lst (ds.set n (.int (f x y)))) (o := .lst (vs2.set n (.int (f x y)))) hp hF2 ⟨hF2, _, upd_same, hd2.set (d := D.int (f x y)) (v := .int (f x y)) rfl n⟩
  exact ok.nx _ _ F2 _ _ _ ⟨(g.env.mono (m1.trans m2).ex), S3, (g.st.move (m1.trans m2)).move m3⟩ (m1.trans m2).ex q2
end
section
variable {X : Cx}
theorem pget_list {K : PySem.W.Frag} (hK : X.K = K := by rfl) : PGet X (pgL K) := by
  subst hK
  intro pins s σ H o i ov iv Q I r1 r2 h
  obtain ⟨p, xs, k, z, rfl, rfl, hq, he, q⟩ := h
  cases r1
  obtain ⟨t, rfl⟩ := r2
  obtain ⟨its, r, pl, hz⟩ := I.list hq
  obtain ⟨j, h1, h2, h3, h4, h5⟩ := L2.atI_get he
  obtain ⟨w, ew, rw'⟩ := r.get h2
  have hl := r.length
  have hn := line63
  have fin : EP X pins σ Q w s := ⟨z, H, I, rw', q⟩
  by_cases h0 : 0 ≤ k
  · have hj : k.toNat = j := by
      rw [seqIndex_of h0 h5] at h1
      exact Option.some.inj h1
    exact wpAny_getItem_list pl.isList h0 (by omega) (by rw [hj]; simpa using ew) fin
  · have hj : (k + (its.toArray.size : Int)).toNat = j := by
      rw [seqIndex_neg (by omega) h4] at h1
      rw [List.size_toArray, ← hl]
      exact Option.some.inj h1
    exact wpAny_getItem_list_neg pl.isList (by omega) (by rw [List.size_toArray] <;> omega) (by omega) (by rw [hj]; simpa using ew) fin
end
end DL

/-! DL14: the end of a row, for classes and tuples. -/
namespace DL
open PySem L2
section
variable {K : PySem.W.Frag} {mg : Str → Option Value} {R : Prop} {x f : Str} {h : Heap} {C : Addr}
theorem cls_k (X : K.In h) (G : h.Ns mainGlobals mg) (a : PySem.W.nsIn K mainGlobals x = some (some (.ref C))) (pg : PySem.W.plainGet K C Str.empty = true) (hd : PySem.W.hasDictIn K C = true) (po : PySem.W.plainOver K C = true) (sa : PySem.W.findIn K (.ref C) "__setattr__" = some (some (.builtin "object.__setattr__")))
    (ha : PySem.W.findIn K (.ref C) "__class__" = some (some (.builtin "object.__class__"))) (hn : PySem.W.specialIn K (.builtin "object.__class__") "__get__" = some (some (.builtin "getset_descriptor.__get__"))) (htk : PySem.W.takesIn K (.builtin "object.__class__") = some true) (hm : PySem.W.mroIn K C (.type "object") = some true)
    (z : mg x = some (.ref C) → ClsI K C → R) : R := z (PySem.W.mg_of X G a) ⟨⟨pg, hd, po, sa⟩, ha, hn, htk, hm⟩
theorem noattr_k (k : ClsI K C) (h : PySem.W.findIn K (.ref C) f = some none) (z : NoAttr K C f → R) : R := z h
theorem init_k {qual : Str} {st : Stmt} {ps : List Str} {f : Addr} {oc : Value} {od an : Option Addr} {osl : Array (Option Value)} {kV doc pm cdv ct : Value} (cl : ClsI K C)
    (m : PySem.W.makesIn K C = true) (i : PySem.W.findIn K (.ref C) "__init__" = some (some (.ref f))) (fn : PySem.W.isFn K (.ref f) = true) (kp : PySem.W.keepIn K (.ref C) = true) (l : K.lookup f = some ⟨oc, od, .func (PySem.W.fnOf "__init__" qual (defArgs st) (defBody st) (defScope st) .none kV doc pm an cdv ct), osl⟩)
    (c : PySem.W.codeIn K cdv qual = true) (k : PySem.W.keepIn K (.ref f) = true)
    (b : ∀ (kV doc pm : Value) (an : Option Addr) (cdv ct : Value) (us : List Value), us.length = ps.length → bindArgs (PySem.W.fnOf "__init__" qual (defArgs st) (defBody st) (defScope st) .none kV doc pm an cdv ct) ⟨us, []⟩ = pure (ps.zip us)) (z : InitAt K C qual st ps → R) : R :=
  z ⟨f, _, ⟨m, i, fn, kp⟩, fun_mk l c k, (fun_mk (st := st) l c k).binds b⟩
theorem meth_k {qual : Str} {st : Stmt} {ps : List Str} {f : Addr} {oc : Value} {od an : Option Addr} {osl : Array (Option Value)} {kV doc pm cdv ct : Value} (cl : ClsI K C)
    (a : PySem.W.findIn K (.ref C) x = some (some (.ref f))) (i : PySem.W.isFn K (.ref f) = true) (l : K.lookup f = some ⟨oc, od, .func (PySem.W.fnOf x qual (defArgs st) (defBody st) (defScope st) .none kV doc pm an cdv ct), osl⟩)
    (c : PySem.W.codeIn K cdv qual = true) (k : PySem.W.keepIn K (.ref f) = true)
    (b : ∀ (kV doc pm : Value) (an : Option Addr) (cdv ct : Value) (us : List Value), us.length = ps.length → bindArgs (PySem.W.fnOf x qual (defArgs st) (defBody st) (defScope st) .none kV doc pm an cdv ct) ⟨us, []⟩ = pure (ps.zip us)) (z : MethAt K C x qual st ps → R) : R :=
  z (meth_mk a i l c k b)
theorem prop_k {qual : Str} {st : Stmt} {p g : Addr} {rest : List Value} {oc : Value} {od an : Option Addr} {osl : Array (Option Value)} {kV doc pm cdv ct : Value} {p1 p2 p3 : Pos} (cl : ClsI K C) (n : NoAttr K C f)
    (h1 : PySem.W.findIn K (.ref C) x = some (some (.ref p))) (h2 : PySem.W.specialIn K (.ref p) "__get__" = some (some (.builtin "property.__get__"))) (h3 : PySem.W.takesIn K (.ref p) = some true) (h4 : PySem.W.recIn K p "property" = some (.ref g :: rest))
    (l : K.lookup g = some ⟨oc, od, .func (PySem.W.fnOf x qual (defArgs st) (defBody st) (defScope st) .none kV doc pm an cdv ct), osl⟩) (c : PySem.W.codeIn K cdv qual = true) (k : PySem.W.keepIn K (.ref g) = true)
    (S : FnScope ["self"] ["self"] (defScope st)) (hb : defBody st = [.Return (some (.Attribute (.Name "self" p1) f p2)) p3])
    (b : ∀ (kV doc pm : Value) (an : Option Addr) (cdv ct : Value) (us : List Value), us.length = 1 → bindArgs (PySem.W.fnOf x qual (defArgs st) (defBody st) (defScope st) .none kV doc pm an cdv ct) ⟨us, []⟩ = pure ([("self" : Str)].zip us)) (z : Getter K C x f → R) : R :=
  z (prop_mk h1 h2 h3 h4 l c k S hb b cl.cl n)
theorem ctup_k {vs : List V} {o : Obj} {its : Array Value} {n : Nat} (X : K.In h) (G : h.Ns mainGlobals mg) (a : PySem.W.nsIn K mainGlobals x = some (some (.ref C))) (l : K.lookup C = some o) (c : o.cls = .type "tuple") (d : o.data = .seq its n) (s : its.size ≤ sizeLine) (r : Vals vs its.toList) (z : CTup K mg x vs → R) : R :=
  z ⟨C, o, its, n, PySem.W.mg_of X G a, l, c, d, s, r⟩
end
end DL

/-! DL15: calls that hand out a new thing that is to change. -/
namespace DL
open PySem L2
section
variable {K : PySem.W.Frag} {e : Ent} {ρ : Rho} {M : List MO} {te ta tb : TE} {t u : TS} {Q : Sl → Prop} {nx bk ct : Rho → List MO → Prop} {rt : Sl → List MO → Prop}
def SpN {ι : Type} (K : PySem.W.Frag) (args : ι → List D) (pre : ι → Prop) (post : ι → MO → Prop) : Sp := fun vs H Q _ =>
  ∃ (x : ι) (F : Hp), SlsOk K [] F ((args x).map Sl.v) vs ∧ Same F H ∧ pre x ∧ ∀ p F' H' m, Move [] F H F' H' → Sta K [p] [m] F' H' → H p.1 = none → H p.2 = none → post x m → Q (.ref p.1) H'
theorem Sta.join {α : Al} {F H : Hp} {p : Addr × Addr} {m : MO} (S : Sta K α M F H) (T : Sta K [p] [m] F H) (ap : ∀ q, q ∈ α → Apart q p) : Sta K (α ++ [p]) (M ++ [m]) F H := by
  refine ⟨S.sub, by simp [S.len], fun i mo q h1 h2 => ?_, fun i j q r hij h1 h2 => ?_, fun q hq => ?_⟩
  · by_cases hi : i < α.length
    · rw [List.getElem?_append_left (by rw [S.len]; exact hi)] at h1
      rw [List.getElem?_append_left hi] at h2
      exact S.ob i mo q h1 h2
    · have hi2 : i = α.length := by
        have := (List.getElem?_eq_some_iff.mp h2).1
        simp at this; omega
      subst hi2
      rw [← S.len, List.getElem?_append_right (Nat.le_refl _)] at h1
      rw [List.getElem?_append_right (Nat.le_refl _)] at h2
      simp at h1 h2
      subst h1; subst h2
      exact T.ob 0 m p rfl rfl
  · have hj : j < α.length ∨ j = α.length := by
      have := (List.getElem?_eq_some_iff.mp h2).1
      simp at this; omega
    have hi : i < α.length := by omega
    rw [List.getElem?_append_left hi] at h1
    rcases hj with hj | hj
    · rw [List.getElem?_append_left hj] at h2
      exact S.ap i j q r hij h1 h2
    · subst hj
      rw [List.getElem?_append_right (Nat.le_refl _)] at h2
      simp at h2
      subst h2
      exact ap q (List.mem_of_getElem? h1)
  · rcases List.mem_append.mp hq with z | z
    · exact S.tr q z
    · exact T.tr q z
theorem en_callN {ι : Type} {args : ι → List D} {pre : ι → Prop} {post : ι → MO → Prop} {tl : TA} {X : XK} {QN : Sl → List MO → Prop} (h : EvA K tl ρ M fun ss => ∃ x, ss = (args x).map Sl.v ∧ pre x ∧ ∀ m, post x m → QN (.l M.length) (M ++ [m])) : EvN K e (tCall (SpN K args pre post) [] X tl) ρ M QN := fun σ α F H g k kk =>
  h σ α F H g.env g.sta _ fun vs F1 H1 ss m1 S1 o1 ⟨x, e1, hp, q⟩ => by
    subst e1
    refine ⟨x, F1, by rw [List.append_nil]; exact o1.ofD, S1.sub, hp, fun p F' H' m m2 S2 n1 n2 pm => ?_⟩
    have S3 := S1.keep0 m2 S2.sub
    have S4 := S3.join S2 fun r hr => by
      have := S1.tr r hr
      exact ⟨fun z => this.1 (by rw [z]; exact n1), fun z => this.1 (by rw [z]; exact n2), fun z => this.2 (by rw [z]; exact n1), fun z => this.2 (by rw [z]; exact n2)⟩
    have st1 := g.st.move (m1.trans (m2.widen fun _ h => by simp at h))
    have st : StepE e (α ++ [p]) F' H' := ⟨st1.ex, st1.fr, st1.tr, st1.new, by
      obtain ⟨β, b1, hβ⟩ := st1.pre
      refine ⟨β ++ [p], by rw [b1, List.append_assoc], fun r hr => ?_⟩
      rcases List.mem_append.mp hr with z | z
      · exact hβ r z
      · simp at z; subst z
        exact ⟨none_back ((g.st.move m1).tr _) n1, none_back ((g.st.move m1).tr _) n2⟩⟩
    exact kk _ _ F' H' (.l M.length) (M ++ [m]) ⟨(g.env.mono (m1.ex.trans m2.ex)).more, S4, st⟩ (m1.ex.trans m2.ex) ⟨_, rfl⟩ ⟨p, by rw [S1.len, List.getElem?_append_right (Nat.le_refl _)]; simp, rfl⟩ (q m pm)
theorem fn_runN {ι : Type} {args : ι → List D} {pre : ι → Prop} {post : ι → MO → Prop} {N : List Str} {t : TS}
    (h : ∀ x e, pre x → e.α.length = 0 → RunD K e t (startR N.length ((args x).map Sl.v)) [] (fun _ _ => False) (fun s M' => ∃ k m, s = .l k ∧ M'[k]? = some m ∧ post x m) (fun _ _ => False) (fun _ _ => False)) :
    ∀ vs H Q E, SpN K args pre post vs H Q E → t { nx := fun _ H' => Q .non H', rt := Q } (L2.start N vs) H := by
  rintro vs H Q E ⟨x, F, ho, sub, hp, k⟩
  refine h x ⟨[], F, H⟩ hp rfl _ (L2.start N vs) [] F H ⟨env_start ho, sta_nil sub, .refl⟩ ⟨fun _ _ _ _ _ _ _ _ q => q.elim, fun v s α' F' H' M' o S' st _ ⟨j, m, e1, hM, pm⟩ => ?_, fun _ _ _ _ _ _ _ _ q => q.elim, fun _ _ _ _ _ _ _ _ q => q.elim⟩
  subst e1
  obtain ⟨p, hpj, rfl⟩ := o
  obtain ⟨β, b1, hβ⟩ := st.pre
  have b1 : α' = [] ++ β := b1
  have hn := hβ p (by rw [List.nil_append] at b1; rw [← b1]; exact List.mem_of_getElem? hpj)
  exact k p F' H' m ⟨st.ex, st.fr, st.tr, st.new⟩ (sta_one S' hpj hM) hn.1 hn.2 pm
end
section
variable {P : Program} {w : World} {K : PySem.W.Frag} {mg : Str → Option Value} {base : Heap}
theorem fn_atN {ι : Type} {x : Str} {st : Stmt} {ps N : List Str} {k : Nat} {args : ι → List D} {pre : ι → Prop} {post : ι → MO → Prop} (D0 : DefAt K mg x st ps) (S : FnScope N ps (defScope st)) (hl : ∀ i, (args i).length = ps.length)
    (body : ∀ (f : Addr) (cdv : Value) (A : Around) (outer : List Env) (s : Shared) (H : Hp) (E : XK), Room k (A.deeper (PyProof.Rows.envOfC x (defScope st) s.heap.objs.size f cdv)) →
      ∃ t, PSs (cxOf CX0 P w K mg base N x (defScope st) f cdv A outer s H E).nox (defBody st) t ∧
        ∀ i e, pre i → e.α.length = 0 → RunD K e t (startR N.length ((args i).map Sl.v)) [] (fun _ _ => False) (fun s M' => ∃ k m, s = .l k ∧ M'[k]? = some m ∧ post i m) (fun _ _ => False) (fun _ _ => False)) :
    FnAt P w K mg base CX0 (k + 1) x ps (SpN K args pre post) :=
  fn_atR D0 S (fun vs H Q E ⟨i, F, o, _⟩ => by rw [← o.length, List.length_map, hl]) fun f cdv A outer s H E hr => by
    obtain ⟨t, ht, hi⟩ := body f cdv A outer s H E hr
    exact ⟨t, ht, fun vs Q E' h => fn_runN hi vs H Q E' h⟩
end
end DL

/-! DL16: sets of numbers by a list: sorted(set(xs)), len(set(xs)). -/
namespace DL
open PySem L2 PyProof.Rows
abbrev setO (w : World) : Obj := { cls := .type "set", dict := none, data := .set #[] 0 (.fresh 0 0 (!w.params.followText "set-order")) }
abbrev litO (l : Addr) : Obj := { cls := .type "list_iterator", data := .fields #[.ref l, .int 0 0] }
section
variable {P : Program} {w : World} {A : Around} {E : Value → Shared → Prop} {s : Shared}
theorem set_upd {l : Addr} {items : Array Value} (ns : List Int) (hh : A.handled = none) (hl : (s.heap.push (setO w)).IsList l items) (hls : l < s.heap.objs.size) (hit : IntsAre items.toList ns) (hb : ns.length + 1 < scanBound) {R : Result → Shared → Prop}
    (h : ∀ (s' : Shared) c, Moved (s.heap.objs.size :: [(s.heap.push (setO w)).objs.size]) (fun a b => b = a) { s with heap := (s.heap.push (setO w)).push (litO l) } s' → SetR w s'.heap s.heap.objs.size (fun j => decide (j ∈ ns)) c → R (.ok (.ret .none)) s') :
    codeAny (model P w) A (.builtin "set.update.loop" ⟨[.ref s.heap.objs.size, .ref (s.heap.push (setO w)).objs.size], []⟩) R { s with heap := (s.heap.push (setO w)).push (litO l) } := by
  have hsz : items.size = ns.length := by
    have q := IntsAre.length hit
    rwa [Array.length_toList] at q
  have h3 : A.in1.handled = none := by simp [hh]
  have hz : (s.heap.push (setO w)).objs.size = s.heap.objs.size + 1 := Heap.size_push ..
  have n1 : l ≠ (s.heap.push (setO w)).objs.size := by rw [hz]; exact Nat.ne_of_lt (Nat.lt_succ_of_lt hls)
  have n2 : s.heap.objs.size ∉ [(s.heap.push (setO w)).objs.size, l] := by
    rw [hz]
    simp only [List.mem_cons, List.not_mem_nil, or_false, not_or]
    exact ⟨Nat.ne_of_lt (Nat.lt_succ_self _), Nat.ne_of_gt hls⟩
  have hv : ∀ (i : Nat) (v : Value), items[i]? = some v → ∃ k t, ns[i]? = some k ∧ v = .int k t := fun i v e => by
    have hi : i < ns.length := by rw [← hsz]; exact (Array.getElem?_eq_some_iff.mp e).1
    obtain ⟨t, z⟩ := IntsAre.int_at hit i v (by rw [Array.getElem?_toList]; exact e)
    exact ⟨ns[i], t, List.getElem?_eq_getElem hi, by rw [z, List.getD_eq_getElem?_getD, List.getElem?_eq_getElem hi]; rfl⟩
  have g0 : ((s.heap.push (setO w)).push (litO l)).get? s.heap.objs.size = some (setO w) := Heap.get?_push_of_some _ (Heap.get?_push_size _ rfl)
  refine set_update_ints ((Walks.list h3 _ l n1 items).toS) s.heap.objs.size n2 ns hsz hb hv _ 0 _ rfl (Nat.zero_le _) ⟨⟨_, Heap.get?_push_size _ rfl, rfl, rfl⟩, hl.push _⟩ ⟨0, Nat.le_refl 0, setR_new_at g0⟩ fun s' c m _ r => h s' c m r
theorem set_listR {l : Addr} {items : Array Value} (ns : List Int) {Q : Value → Shared → Prop} (hh : A.handled = none) (hl : s.heap.IsList l items) (hit : IntsAre items.toList ns) (hb : ns.length + 1 < scanBound)
    (h : ∀ (h' : Heap) (tk c : Nat), SetR w h' s.heap.objs.size (fun j => decide (j ∈ ns)) c → (∀ b o, s.heap.get? b = some o → h'.get? b = some o) → Q (.ref s.heap.objs.size) { s with heap := h', toks := tk }) : wpAny (model P w) A (call (.type "set") [.ref l]) Q E s := by
  have hmade := F.called_set.made
  obtain ⟨cc, tl, hmro⟩ := F.called_set.mro
  have hsub := F.called_set.sub
  have h1 := F.called_set.notType
  have h2 := F.called_set.canCreate
  have hct := F.typeCall_set_1 (.ref l)
  refine wpAny_call (codeAny_of_tree ?_)
  show wpAny _ _ (callAny (.type "set") _) _ _ _
  refine wpAny_pure ⟨Code.quiet_builtin _ (by decide +kernel), codeAny_builtin F.entry_type_call ?_⟩
  rw [Around.under_plain (weight_type_call_type "set" [.ref l] []) rfl]
  repeat (any_goals (first | assumption | wp_step))
  refine codeAny_mono (code_set_led1 (.ref l) (E := E) (Q₁ := fun ob s1 => ob = .ref s.heap.objs.size ∧ s1 = { s with heap := s.heap.push (setO w) }) ⟨rfl, rfl⟩) fun r s1 hr => ?_
  match r, hr with
  | .error e, hr => exact hr
  | .ok (.ret ob), hr =>
    obtain ⟨rfl, rfl⟩ := hr
    have g0 : (s.heap.push (setO w)).get? s.heap.objs.size = some (setO w) := Heap.get?_push_size _ rfl
    have ty : Shared.TypeIs { s with heap := s.heap.push (setO w) } (.ref s.heap.objs.size) "set" := ⟨_, g0, rfl⟩
    have ini := F.called_set.init.lookup
    have bnd := F.called_set.init.bind (.ref s.heap.objs.size)
    repeat (any_goals (first | assumption | wp_step))
    refine codeAny_mono (codeAny_call_builtin (R := wants (fun r s2 => r = .none ∧ ∃ h' tk c, s2 = { s with heap := h', toks := tk } ∧ SetR w h' s.heap.objs.size (fun j => decide (j ∈ ns)) c ∧ ∀ b o, s.heap.get? b = some o → h'.get? b = some o) E) F.called_set.init.plain F.entry_set_init (check_set_init_1 ty ?_)) fun r2 s2 hr2 => ?_
    · obtain ⟨⟨cl, di, da, sl⟩, hol, e1, nl, e2⟩ := hl
      simp only at e1 e2
      subst e1; subst e2
      have a1 : (s.heap.push (setO w)).get? l = some ⟨.type "list", di, .seq items nl, sl⟩ := Heap.get?_push_of_some _ hol
      have a2 := F.sub_list_set
      have a3 := F.sub_list_frozenset
      have a4 : (Value.type "list" == Value.type "dict") = false := by decide
      have il : (s.heap.push (setO w)).IsList l items := ⟨_, a1, rfl, nl, rfl⟩
      unfold Builtin.«set.__init__» noKeywords Builtin.Frozenset.updateFrom
      generalize hPI : pyIter = PI
      wp_walk
      subst hPI
      refine wpAny_pyIter_list il (wpAny_bind (wpAny_runValue ?_))
      refine set_upd (A := A.in1.in1) ns (by simp [hh]) il (Heap.lt_size hol) hit hb fun s' c hm hS => ?_
      obtain ⟨h', g2, d', tk', os'⟩ := s'
      obtain rfl : g2 = s.gens := hm.gens
      obtain rfl : d' = s.drawn := hm.drawn
      obtain rfl : os' = s.os := hm.os
      show wpAny _ _ _ _ _ _
      refine wpAny_pure ?_
      show wpAny _ _ (ret Value.none) _ _ _
      refine wpAny_pure ⟨rfl, h', tk', c, rfl, hS, fun b o e => ?_⟩
      have lt := Heap.lt_size e
      refine hm.heap b o ?_ (Heap.get?_push_of_some _ (Heap.get?_push_of_some _ e))
      rw [Heap.size_push]
      simp only [List.mem_cons, List.not_mem_nil, or_false, not_or]
      exact ⟨Nat.ne_of_lt lt, Nat.ne_of_lt (Nat.lt_succ_of_lt lt)⟩
    · match r2, hr2 with
      | .error e, hr2 => exact hr2
      | .ok (.ret r3), hr2 =>
        obtain ⟨rfl, h', tk, c, rfl, hS, hk⟩ := hr2
        repeat (any_goals (first | assumption | wp_step))
        exact h _ _ _ hS hk
end
/-- members without repeats -/
def Mems (ns ms : List Int) : Prop := ms.Nodup ∧ ∀ k, k ∈ ms ↔ k ∈ ns
def tSortSet (K : PySem.W.Frag) (ta : TE) : TE := fun σ H Q => ta σ H fun x H1 => ∃ (l : Addr) (ns : List Int), x = V.ref l ∧ SqL K H1 l (ns.map V.int) ∧ ns.length ≤ 4000 ∧ (∀ ms, Mems ns ms → ms.length < 64) ∧ ∀ (ms : List Int) p, ms.Pairwise (· < ·) → (∀ k, k ∈ ms ↔ k ∈ ns) → H1 p = none → Q (.ref p) (upd H1 p (.lst (ms.map V.int)))
def tLenSet (K : PySem.W.Frag) (ta : TE) : TE := fun σ H Q => ta σ H fun x H1 => ∃ (l : Addr) (ns : List Int), x = V.ref l ∧ SqL K H1 l (ns.map V.int) ∧ ns.length ≤ 4000 ∧ ∀ ms : List Int, Mems ns ms → Q (.int ms.length) H1
section
variable {X : Cx}
theorem pe_sortSet {K : PySem.W.Frag} {a : Expr} {ta : TE} {p p2 q pos : Pos} (hc : X.calm = true) (hm : X.mg "sorted" = none) (hm2 : X.mg "set" = none) (hg : Gl X "sorted") (hg2 : Gl X "set") (ha : PE X a ta)
    (na : starEach [a] X.env = (false, eval a X.env) :: starEach [] X.env := by rfl) (hK : X.K = K := by rfl) : PE X (.Call (.Name "sorted" p) [.Call (.Name "set" p2) [a] [] q] [] pos) (tSortSet K ta) := by
  subst hK
  refine ⟨fun pins s σ H Q I h => ?_⟩
  refine Call_ (ld_blt I hg hm (show bootBuiltins "sorted" = some (.builtin "sorted") by decide +kernel) ?_)
  refine PyProof.Rows.callWith_builtin1 (PyProof.Rows.args_cons ?_ rfl) rfl rfl
  refine Call_ (ld_blt I hg2 hm2 PyProof.Rows.boot_set ?_)
  refine PyProof.Rows.callWith_type1 (PyProof.Rows.args_cons (thn (ha.run pins s σ H _ I h) fun v s1 ⟨x, H1, I1, r1, q1⟩ => PyProof.Rows.args_nil ?_) na) na rfl
  obtain ⟨l, ns, rfl, hq, hn, h64, q1⟩ := q1
  cases r1
  obtain ⟨its, r, pl, hz⟩ := I1.list hq
  refine set_listR ns (I1.ok.hd hc) pl.isList (by simpa using r.ints) (by unfold scanBound; omega) fun h' tk c hS hk => PyProof.Rows.args_nil ?_
  have I2 : Inv X pins σ H1 { s1 with heap := h', toks := tk } := I1.kept fun b o e => hk b o e
  have hc64 : c < 64 := by
    obtain ⟨o, es, ep, t, _, _, _, _, nd, hm, _, _, hn, _⟩ := hS
    have := h64 (es.toList.map keyOf) ⟨nd, fun k => by rw [← hm k, decide_eq_true_eq]⟩
    rw [List.length_map, Array.length_toList] at this
    omega
  refine sorted_set hS (I1.ok.hd hc) hc64 fun s' p out c2 ms k1 g1 o1 hp hget hi hs hmem hlen => ?_
  have hlen2 : (ms.map V.int).length ≤ sizeLine := by rw [List.length_map, hlen, sizeLine_eq]; omega
  have hfree : H1 p = none := I2.hok.fresh hp
  have J : Inv X pins σ (upd H1 p (.lst (ms.map V.int))) { ({ s1 with heap := h', toks := tk } : Shared) with heap := s'.heap, gens := s'.gens, drawn := s'.drawn, toks := s'.toks } :=
    I2.call (ch := []) (Un.laid k1 hp hfree) (I2.hok.laid k1 hp ⟨hlen2, out.toList, c2, vals_of_ints hi, hget⟩) (by rw [g1]; exact I2.bare) (fun _ z => nomatch z)
  have es : s' = { s1 with heap := s'.heap, gens := s'.gens, drawn := s'.drawn, toks := s'.toks } := by
    obtain ⟨x1, x2, x3, x4, x5⟩ := s'
    obtain rfl : x5 = s1.os := o1
    rfl
  rw [es]
  exact ⟨.ref p, _, J, rfl, q1 ms p hs (fun k => by rw [hmem k, decide_eq_true_eq]) hfree⟩
theorem pe_lenSet {K : PySem.W.Frag} {a : Expr} {ta : TE} {p p2 q pos : Pos} (hc : X.calm = true) (hm : X.mg "len" = none) (hm2 : X.mg "set" = none) (hg : Gl X "len") (hg2 : Gl X "set") (ha : PE X a ta)
    (na : starEach [a] X.env = (false, eval a X.env) :: starEach [] X.env := by rfl) (hK : X.K = K := by rfl) : PE X (.Call (.Name "len" p) [.Call (.Name "set" p2) [a] [] q] [] pos) (tLenSet K ta) := by
  subst hK
  refine ⟨fun pins s σ H Q I h => ?_⟩
  refine Call_ (ld_blt I hg hm PySem.boot_len ?_)
  refine PyProof.Rows.callWith_builtin1 (PyProof.Rows.args_cons ?_ rfl) rfl rfl
  refine Call_ (ld_blt I hg2 hm2 PyProof.Rows.boot_set ?_)
  refine PyProof.Rows.callWith_type1 (PyProof.Rows.args_cons (thn (ha.run pins s σ H _ I h) fun v s1 ⟨x, H1, I1, r1, q1⟩ => PyProof.Rows.args_nil ?_) na) na rfl
  obtain ⟨l, ns, rfl, hq, hn, q1⟩ := q1
  cases r1
  obtain ⟨its, r, pl, hz⟩ := I1.list hq
  refine set_listR ns (I1.ok.hd hc) pl.isList (by simpa using r.ints) (by unfold scanBound; omega) fun h' tk c hS hk => PyProof.Rows.args_nil ?_
  have I2 : Inv X pins σ H1 { s1 with heap := h', toks := tk } := I1.kept fun b o e => hk b o e
  obtain ⟨o, es, ep, t, ho, hex, hd, _, nd, hm3, hb, hf, _⟩ := hS
  have hM : Mems ns (es.toList.map keyOf) := ⟨nd, fun k => by rw [← hm3 k, decide_eq_true_eq]⟩
  have q2 := q1 _ hM
  rw [List.length_map, Array.length_toList] at q2
  exact call_len_set ho hex hd hf (by unfold scanBound at hb; omega) ⟨.int es.size, H1, I2.tok _, ⟨_, rfl⟩, q2⟩
/-- sorted(xs), any number -/
theorem pe_sortedI {K : PySem.W.Frag} {e : Expr} {t : TA} {p pos : Pos} (b : X.mg "sorted" = none) (hg : Gl X "sorted") (ha : PA X [e] t) (he : starEach [e] X.env = (false, eval e X.env) :: starEach [] X.env := by rfl) (hpl : (backTo pos (starEach [] X.env)).any (·.1) = false := by rfl) (hK : X.K = K := by rfl) : PE X (.Call (.Name "sorted" p) [e] [] pos) (tCB (rSortedI K) t) := by
  subst hK
  exact pe_callB cr_sortedI hg b (by decide +kernel) ha (by decide) (by decide) he hpl
/-- list(d), d a dict -/
theorem pe_listD {e : Expr} {t : TA} {p pos : Pos} (hc : X.calm = true) (b : X.mg "list" = none) (hg : Gl X "list") (ha : PA X [e] t) (he : starEach [e] X.env = (false, eval e X.env) :: starEach [] X.env := by rfl) (hpl : (backTo pos (starEach [] X.env)).any (·.1) = false := by rfl) : PE X (.Call (.Name "list" p) [e] [] pos) (tCB rListD t) :=
  pe_callTy (call_list_dK hc) hg b (by decide +kernel) ha (by decide) (by decide) he hpl
end
section
variable {K : PySem.W.Frag} {e : Ent} {ρ : Rho} {M : List MO} {Q : Sl → Prop} {te ta tb : TE}
theorem ev_sortSet (h : EvP K ta ρ M fun x => ∃ ns, RdL M x (D.ints ns) ∧ ns.length ≤ 4000 ∧ (∀ ms, Mems ns ms → ms.length < 64) ∧ ∀ ms : List Int, ms.Pairwise (· < ·) → (∀ k, k ∈ ms ↔ k ∈ ns) → Q (.v (.lst (D.ints ms)))) : EvP K (tSortSet K ta) ρ M Q := fun σ α F H en S k kk =>
  h σ α F H en S _ fun v F1 H1 s m1 S1 o1 ⟨ns, hr, h1, h2, q⟩ => by
    obtain ⟨a, vs, rfl, hvs, hd⟩ := hr.get S1 o1
    have ev := hd.ofInts
    subst ev
    refine ⟨a, ns, rfl, SqL.of hvs, h1, h2, fun ms p g1 g2 hp => ?_⟩
    obtain ⟨m2, S2⟩ := S1.laid (o := .lst (ms.map V.int)) hp
    exact kk (.ref p) _ _ (.v (.lst (D.ints ms))) (m1.trans m2) S2 (show Den K _ (.lst (D.ints ms)) _ from ⟨p, _, rfl, upd_same, by
      have e : D.ints ms = (ms.map V.int).map D.raw := by simp [D.ints, Function.comp_def]
      rw [e]; exact Dens.raws⟩) (q ms g1 g2)
theorem ev_lenSet (h : EvP K ta ρ M fun x => ∃ ns, RdL M x (D.ints ns) ∧ ns.length ≤ 4000 ∧ ∀ ms : List Int, Mems ns ms → Q (.v (.int ms.length))) : EvP K (tLenSet K ta) ρ M Q := fun σ α F H en S k kk =>
  h σ α F H en S _ fun v F1 H1 s m1 S1 o1 ⟨ns, hr, h1, q⟩ => by
    obtain ⟨a, vs, rfl, hvs, hd⟩ := hr.get S1 o1
    have ev := hd.ofInts
    subst ev
    exact ⟨a, ns, rfl, SqL.of hvs, h1, fun ms g => kk _ _ _ _ m1 S1 raw_ok (q ms g)⟩
theorem ec_sortedI {x : Sl} {ns : List Int} (h : RdL M x (D.ints ns)) (q : ∀ ns' : List Int, ns'.Perm ns → ns'.Pairwise (· ≤ ·) → Q (.v (.lst (D.ints ns')))) : EvC K (rSortedI K) M [x] Q := fun α F H us S o k kk => by
  obtain ⟨u, r, rfl, o1, o2⟩ := o
  have o2 : r = [] := o2
  subst o2
  obtain ⟨a, vs, rfl, hvs, hd⟩ := h.get S o1
  have ev := hd.ofInts
  subst ev
  refine ⟨a, ns, rfl, SqL.of hvs, fun ms p g1 g2 hp => ?_⟩
  obtain ⟨m2, S2⟩ := S.laid (o := .lst (ms.map V.int)) hp
  exact kk (.ref p) _ _ (.v (.lst (D.ints ms))) m2 S2 (show Den K _ (.lst (D.ints ms)) _ from ⟨p, _, rfl, upd_same, by
    have e : D.ints ms = (ms.map V.int).map D.raw := by simp [D.ints, Function.comp_def]
    rw [e]; exact Dens.raws⟩) (q ms g1 g2)
theorem ec_listD {k : Nat} {ks : List Key} {ds : List D} (hk : M[k]? = some (.dic ks ds)) (q : Q (.v (.lst (ks.map fun j => .raw (kV j))))) : EvC K rListD M [.l k] Q := fun α F H us S o kk ok => by
  obtain ⟨u, r, rfl, ⟨p, hp, rfl⟩, o2⟩ := o
  have o2 : r = [] := o2
  subst o2
  obtain ⟨hF, vs, hvs, hl, hd⟩ := S.ob k _ p hk hp
  refine ⟨p.1, _, rfl, hvs, fun x hx => ?_⟩
  have e : ((ks.zip vs).map fun kv => kV kv.1) = ks.map kV := by
    have : (fun kv : Key × V => kV kv.1) = kV ∘ Prod.fst := rfl
    rw [this, ← List.map_map, List.map_fst_zip (by omega)]
  rw [e]
  obtain ⟨m2, S2⟩ := S.laid (o := .lst (ks.map kV)) hx
  exact ok (.ref x) _ _ (.v (.lst (ks.map fun j => D.raw (kV j)))) m2 S2 (show Den K _ (.lst (ks.map fun j => D.raw (kV j))) _ from ⟨x, _, rfl, upd_same, by
    have e : (ks.map fun j => D.raw (kV j)) = (ks.map kV).map D.raw := by simp [Function.comp_def]
    rw [e]; exact Dens.raws⟩) q
end
end DL

/-! DL17: methods; lists within objects that are being made (pinned at their addresses); xs += ys. -/
namespace DL
open PySem L2
structure MFnAt (P : Program) (w : World) (K : PySem.W.Frag) (mg : Str → Option Value) (base : Heap) (k : Nat) (C : Addr) (x : Str) (ps : List Str) (sp : Sp) : Prop where
  ex : ∃ f fd, Meth K C x f ∧ Binds K fd ps [] ∧ FnOk P w K mg base CX0 k f fd ps sp
section
variable {P : Program} {w : World} {K : PySem.W.Frag} {mg : Str → Option Value} {base : Heap}
theorem mfn_at {ι : Type} {C : Addr} {x qual : Str} {st : Stmt} {ps N : List Str} {k : Nat} {args : ι → List Sl} {Mi : ι → List MO} {pre : ι → Prop} {post : ι → D → List MO → Prop} (D0 : MethAt K C x qual st ps) (S : FnScope N ps (defScope st)) (hl : ∀ i, (args i).length = ps.length)
    (body : ∀ (f : Addr) (cdv : Value) (A : Around) (outer : List Env) (s : Shared) (H : Hp) (E : XK), Room k (A.deeper (PyProof.Rows.envOfC qual (defScope st) s.heap.objs.size f cdv)) →
      ∃ t, PSs (cxOf CX0 P w K mg base N qual (defScope st) f cdv A outer s H E).nox (defBody st) t ∧
        ∀ i e, pre i → e.α.length = (Mi i).length → RunD K e t (startR N.length (args i)) (Mi i) (fun _ M' => post i .non (M'.take (Mi i).length)) (RetOk (Mi i).length (post i)) (fun _ _ => False) (fun _ _ => False)) :
    MFnAt P w K mg base (k + 1) C x ps (SpF K args Mi pre post) := by
  obtain ⟨f, fd, F, h1, h2, hb⟩ := D0.ex
  refine ⟨f, fd, ⟨h1, h2, F.kp⟩, hb, F.ok S (fun vs H Q E h => ?_) fun cdv A outer s H vs Q E hr h => ?_⟩
  · obtain ⟨i, α, F', o, _⟩ := h
    rw [← o.length, hl]
  · obtain ⟨t, ht, hi⟩ := body f cdv A outer s H E hr
    exact ⟨t, ht, fn_run hi vs H Q E h⟩
end
section
variable {X : Cx} {C : Addr} {x : Str} {k : Nat} {ps : List Str} {sp : Sp} {o e : Expr} {es : List Expr} {ta : TE} {t : TA} {apos pos : Pos}
theorem pe_mth {pl : Sem Bool} (F : MFnAt X.prog X.w X.K X.mg X.base k C x ps sp) (c : Cls X.K C) (hr : Room k X.A) (he : PE X o ta) (ha : PA X (e :: es) t)
    (hst : starEach (e :: es) X.env = (false, eval e X.env) :: starEach es X.env := by rfl) (hpl : (backTo pos (starEach es X.env)).any (·.1) = false := by rfl)
    (ht : eval (.Call (.Attribute o x apos) (e :: es) [] pos) X.env = (do
      let ov ← eval o X.env
      standAt apos.atName
      let (f, first) ← holding [ov] (getMethod ov x pl)
      callWith pos f first (backTo pos (starEach (e :: es) X.env)) (backToKw pos (keywordEach [] X.env))) := by rfl) : PE X (.Call (.Attribute o x apos) (e :: es) [] pos) (tMeth C x sp [] E0 ta t) := by
  obtain ⟨f, fd, hm, hb, F⟩ := F.ex
  exact pe_meth he c hm F hr hb .nil pass0 ha hst hpl ht
theorem pe_mth0 {pl : Sem Bool} (F : MFnAt X.prog X.w X.K X.mg X.base k C x ps sp) (c : Cls X.K C) (hr : Room k X.A) (he : PE X o ta)
    (ht : eval (.Call (.Attribute o x apos) [] [] pos) X.env = (do
      let ov ← eval o X.env
      standAt apos.atName
      let (f, first) ← holding [ov] (getMethod ov x pl)
      callWith pos f first (backTo pos (starEach [] X.env)) (backToKw pos (keywordEach [] X.env))) := by rfl) : PE X (.Call (.Attribute o x apos) [] [] pos) (tMeth C x sp [] E0 ta tNil) := by
  obtain ⟨f, fd, hm, hb, F⟩ := F.ex
  exact pe_meth0 he c hm F hr hb .nil pass0 ht
end
section
variable {K : PySem.W.Frag} {e : Ent} {ρ : Rho} {M : List MO} {te ta tb to ti : TE} {t u : TS} {Q : Sl → Prop} {QN : Sl → List MO → Prop} {nx bk ct : Rho → List MO → Prop} {rt : Sl → List MO → Prop}
theorem lookup_no {m : Str} : ∀ {ns : List Str} {vs : List V}, m ∉ ns → (ns.zip vs).lookup m = none
  | [], _, _ => rfl
  | n :: ns, [], _ => rfl
  | n :: ns, v :: vs, h => by
    have h1 : m ≠ n := fun z => h (by rw [z]; simp)
    rw [List.zip_cons_cons, List.lookup_cons]
    have : (m == n) = false := by simpa using h1
    rw [this]
    exact lookup_no fun z => h (List.mem_cons_of_mem _ z)
theorem ev_mth {ι : Type} {C : Addr} {m : Str} {args : ι → List D} {pre : ι → Prop} {post : ι → D → Prop} {tl : TA} {X : XK} (h : EvP K ta ρ M fun s => ∃ ns ds, s = .v (.ins C ns ds) ∧ m ∉ ns ∧ EvA K tl ρ M fun ss => ∃ x, s :: ss = (args x).map Sl.v ∧ pre x ∧ ∀ d, post x d → Q (.v d)) :
    EvP K (tMeth C m (SpP K args pre post) [] X ta tl) ρ M Q := fun σ α F H en S k kk =>
  h σ α F H en S _ fun v F1 H1 s m1 S1 o1 ⟨ns, ds, e1, hm, q1⟩ => by
    subst e1
    obtain ⟨a, dx, vs, rfl, h1, h2, h3⟩ := id o1
    refine ⟨a, dx, _, rfl, S1.sub _ _ h1, lookup_no hm, q1 σ α F1 H1 (en.mono m1.ex) S1 _ fun us F2 H2 ss m2 S2 o2 ⟨x, e2, hp, q⟩ => ?_⟩
    have o3 : SlsOk K α F2 ((args x).map Sl.v) (.ref a :: us) := by
      rw [← e2]
      exact ⟨_, us, rfl, o1.mono m2.ex, o2⟩
    refine ⟨x, [], F2, by rw [List.append_nil]; exact o3.ofD, sta_nil S2.sub, hp, fun v F' H' d M' m3 S3 o4 p3 => ?_⟩
    exact kk v F' H' (.v d) ((m1.trans m2).trans (m3.widen fun _ h => by simp at h)) (S2.keep0 m3 S3.sub) o4 (q d p3)
/-! pinned lists -/
theorem en_pin {tl : TA} (h : EvNA K e tl ρ M fun ss M' => ∃ ds : List D, ss = ds.map Sl.v ∧ ds.length ≤ 16777216 ∧ ∀ p : Addr, QN (.v (.raw (.ref p))) (M' ++ [.pin p ds])) : EvN K e (tLst tl) ρ M QN := fun σ α F H g k kk =>
  h σ α F H g _ fun vs α1 F1 H1 ss M1 g1 x1 ⟨β, b1⟩ o1 ⟨ds, e1, hl, q1⟩ => by
    subst e1
    have hd := o1.dens
    refine ⟨by rw [← hd.length, sizeLine_eq]; exact hl, fun p hp => ?_⟩
    have S2 := g1.sta.more (m' := .pin p ds) (o := .lst vs) hp ⟨g1.sta.sub.free hp, rfl, vs, upd_same, hd⟩
    exact kk (.ref p) _ F1 _ (.v (.raw (.ref p))) _ ⟨g1.env.more, S2, g1.st.more hp⟩ x1 ⟨β ++ [(p, p)], by rw [b1, List.append_assoc]⟩ raw_ok (q1 p)
/-- self.f = e -/
theorem r_fldN {j k : Nat} {f : Str} {C : Addr} (hc : Cls K C) (hn : NoAttr K C f) (hj : ρ[j]? = some (some (.l k))) (h : EvN K e te ρ M fun s M' => ∃ d ns ds, s = .v d ∧ M'[k]? = some (.ins C ns ds) ∧ ns.length < 1000 ∧ nx ρ (M'.set k (.ins C (putD f d ns ds).1 (putD f d ns ds).2))) :
    RunD K e (sFld K (tVar j) te f) ρ M nx rt bk ct := fun X σ α F H g ok =>
  h σ α F H g _ fun v α1 F1 H1 s M1 g1 x1 _ o1 ⟨d, ns, ds, e1, hk, hl, q1⟩ => by
    subst e1
    obtain ⟨u, h1, p, hp, rfl⟩ := g1.env.at' j _ hj
    obtain ⟨hF1, dx, vs, hvs, hlen, hd1⟩ := g1.sta.ob k _ p hk hp
    obtain ⟨ws, w1, w2, w3⟩ := putD_ok (f := f) (d := d) (v := v) o1 hlen hd1
    refine ⟨_, h1, p.1, C, dx, _, rfl, hvs, hc, hn, by rw [List.length_zip]; omega, ?_⟩
    obtain ⟨m2, S2⟩ := g1.sta.write (m' := .ins C (putD f d ns ds).1 (putD f d ns ds).2) (o := .ins C dx (putF f v (ns.zip vs))) hp hF1 ⟨hF1, dx, ws, by rw [w1]; exact upd_same, w2, w3⟩
    exact ok.nx _ _ F1 _ _ _ ⟨g1.env, S2, g1.st.move m2⟩ x1 q1
theorem pin_ob {α : Al} {F H : Hp} (S : Sta K α M F H) {k : Nat} {p : Addr} {ds : List D} (hk : M[k]? = some (.pin p ds)) : ∃ q, α[k]? = some q ∧ q.1 = p ∧ F p = none ∧ ∃ vs, H p = some (.lst vs) ∧ Dens K F ds vs := by
  obtain ⟨q, hq⟩ := sta_get S hk
  obtain ⟨h1, h2, vs, h3, h4⟩ := S.ob k _ q hk hq
  refine ⟨q, hq, h2, by rw [← h2]; exact h1, vs, by rw [← h2]; exact h3, h4⟩
theorem x_ixP {p : Addr} {i : Int} (h : ∃ (k : Nat) (ds : List D) (d : D), M[k]? = some (MO.pin p ds) ∧ atI ds i = some d ∧ Q (.v d)) : EvR K (rIx K) M (.v (.raw (.ref p))) (.v (.int i)) Q :=
  let ⟨_, _, _, hk, ha, q⟩ := h
  g_ixL (.p hk) ha q
/-- e.append(x), e a pinned list -/
theorem r_appP (h : EvP K to ρ M fun s => ∃ (p : Addr) (k : Nat) (ds : List D), s = .v (.raw (.ref p)) ∧ M[k]? = some (MO.pin p ds) ∧ EvP K te ρ M fun s' => ∃ d, s' = .v d ∧ ds.length < 16777216 ∧ nx ρ (M.set k (.pin p (ds ++ [d])))) :
    RunD K e (tDrop (tBM K "list" rAppend to (tCons te tNil))) ρ M nx rt bk ct := fun X σ α F H g ok =>
  h σ α F H g.env g.sta _ fun v F1 H1 s m1 S1 o1 ⟨p, k, ds, e1, hk, q1⟩ => by
    subst e1
    have o1 : v = .ref p := o1
    subst o1
    obtain ⟨q0, hq0, e0, hF, vs, hvs, hd⟩ := pin_ob S1 hk
    refine ⟨.inl ⟨rfl, vs, SqL.of hvs⟩, q1 σ α F1 H1 (g.env.mono m1.ex) S1 _ fun v F2 H2 s m2 S2 o2 ⟨d, e2, hl, q2⟩ => ?_⟩
    subst e2
    obtain ⟨q1', hq1, e1', hF2, vs2, hvs2, hd2⟩ := pin_ob S2 hk
    have e3 : q1' = q0 := by rw [hq0] at hq1; exact (Option.some.inj hq1).symm
    subst e3
    refine ⟨p, vs2, v, rfl, rfl, hvs2, by rw [← hd2.length, sizeLine_eq]; exact hl, ?_⟩
    subst e0
    obtain ⟨m3, S3⟩ := S2.write (m' := .pin q1'.1 (ds ++ [d])) (o := .lst (vs2 ++ [v])) hq0 hF2 ⟨hF2, rfl, _, upd_same, hd2.append (Dens.cons o2 Dens.nil)⟩
    exact ok.nx _ _ F2 _ _ _ ⟨g.env.mono (m1.trans m2).ex, S3, ((g.st.move m1).move m2).move m3⟩ (m1.trans m2).ex q2
/-- e[i] = x, e a pinned list -/
theorem r_setP (h : EvP K te ρ M fun s => EvP K to ρ M fun s1 => EvP K ti ρ M fun s2 => ∃ (d : D) (p : Addr) (k : Nat) (ds : List D) (j : Int) (n : Nat), s = .v d ∧ s1 = .v (.raw (.ref p)) ∧ M[k]? = some (MO.pin p ds) ∧ s2 = .v (.int j) ∧ ixN ds.length j = some n ∧ nx ρ (M.set k (.pin p (ds.set n d)))) :
    RunD K e (tAsg te (L2.gSub to ti rSetL)) ρ M nx rt bk ct := fun X σ α F H g ok =>
  h σ α F H g.env g.sta _ fun v F1 H1 s m1 S1 o1 q1 => q1 σ α F1 H1 (g.env.mono m1.ex) S1 _ fun u F2 H2 s1 m2 S2 o2 q2 => q2 σ α F2 H2 (g.env.mono (m1.trans m2).ex) S2 _ fun w F3 H3 s2 m3 S3 o3 ⟨d, p, k, ds, j, n, e1, e2, hk, e3, hn, q3⟩ => by
    subst e1; subst e2; subst e3
    have o2 : u = .ref p := o2
    have o3 : w = .int j := o3
    subst o2; subst o3
    obtain ⟨q0, hq0, e0, hF, vs, hvs, hd⟩ := pin_ob S3 hk
    refine ⟨p, vs, j, n, rfl, rfl, hvs, by rw [← hd.length]; exact hn, ?_⟩
    subst e0
    obtain ⟨m4, S4⟩ := S3.write (m' := .pin q0.1 (ds.set n d)) (o := .lst (vs.set n v)) hq0 hF ⟨hF, rfl, _, upd_same, hd.set (Den.mono K (m2.trans m3).ex _ _ o1) n⟩
    exact ok.nx _ _ F3 _ _ _ ⟨g.env.mono ((m1.trans m2).trans m3).ex, S4, (((g.st.move m1).move m2).move m3).move m4⟩ ((m1.trans m2).trans m3).ex q3
/-- xs += e -/
theorem ip_ext {X : Cx} : PIp X .Add rExt2 := fun pins s σ H x y v u Q I r1 r2 h => iop_ext pins s σ H x y v u Q I r1 r2 h
theorem r_augL {i k : Nat} {ds : List D} (hi : ρ[i]? = some (some (.l k))) (hk : M[k]? = some (.lst ds)) (h : EvP K te ρ M fun s => ∃ es, s = .v (.lst es) ∧ ds.length + es.length ≤ 16777216 ∧ nx ρ (M.set k (.lst (ds ++ es)))) : RunD K e (tAug i te rExt2) ρ M nx rt bk ct := fun X σ α F H g ok => by
  obtain ⟨v, h1, p, hp, rfl⟩ := g.env.at' i _ hi
  refine ⟨_, h1, h σ α F H g.env g.sta _ fun v F1 H1 s m1 S1 o1 ⟨es, e1, hl, q1⟩ => ?_⟩
  subst e1
  obtain ⟨b, zs, rfl, hb, hz⟩ := o1
  obtain ⟨hF, vs, hvs, hd⟩ := S1.ob k _ p hk hp
  refine ⟨p.1, b, vs, zs, rfl, rfl, hvs, S1.sub _ _ hb, by rw [← hd.length, ← hz.length, sizeLine_eq]; exact hl, ?_⟩
  obtain ⟨m2, S2⟩ := S1.write (m' := .lst (ds ++ es)) (o := .lst (vs ++ zs)) hp hF ⟨hF, _, upd_same, hd.append hz⟩
  have e3 : σ.set i (some (.ref p.1)) = σ := by
    apply List.ext_getElem?
    intro j
    by_cases e : i = j
    · subst e; rw [List.getElem?_set_self (List.getElem?_eq_some_iff.mp h1).1, h1]
    · rw [List.getElem?_set_ne e]
  rw [e3]
  exact ok.nx _ _ F1 _ _ _ ⟨g.env.mono m1.ex, S2, (g.st.move m1).move m2⟩ m1.ex q1
/-- x if t else y, made anew -/
theorem en_if {c : TT} (h : EvT K c ρ M fun b => if b = true then EvN K e ta ρ M QN else EvN K e tb ρ M QN) : EvN K e (tIf c ta tb) ρ M QN := fun σ α F H g k kk =>
  h σ α F H g.env g.sta _ fun b F1 H1 m1 S1 q1 => by
    cases b with
    | true => exact (show EvN K e ta ρ M QN from q1) σ α F1 H1 (g.move m1 S1) k fun v α' F' H' s M' g' x' b' o' q' => kk v α' F' H' s M' g' (m1.ex.trans x') b' o' q'
    | false => exact (show EvN K e tb ρ M QN from q1) σ α F1 H1 (g.move m1 S1) k fun v α' F' H' s M' g' x' b' o' q' => kk v α' F' H' s M' g' (m1.ex.trans x') b' o' q'
/-! pinned lists that change no more -/
theorem Good.fz {α : Al} {F H : Hp} {σ : L2.St} (g : Good K e α F H σ ρ M) {k : Nat} {p : Addr} {ds : List D} (hk : M[k]? = some (.pin p ds)) (he : e.α.length ≤ k) : ∃ F', Same F F' ∧ Den K F' (.lst ds) (.ref p) ∧ Good K e α F' H σ ρ (M.set k .dead) := by
  obtain ⟨q, hp, e0, hF, vs, hvs, hd⟩ := pin_ob g.sta hk
  subst e0
  have s1 : Same F (upd F q.1 (.lst vs)) := fun b u h => by rw [upd_ne (ne_of_none h hF)]; exact h
  have hl : k < M.length := (List.getElem?_eq_some_iff.mp hk).1
  refine ⟨upd F q.1 (.lst vs), s1, ⟨q.1, vs, rfl, upd_same, Dens.mono K s1 _ _ hd⟩, ⟨g.env.mono s1, ⟨fun b u h => ?_, by simp [g.sta.len], fun j m q' h1 h2 => ?_, g.sta.ap, g.sta.tr⟩, ⟨g.st.ex.trans s1, g.st.fr, g.st.tr, fun b h => ?_, g.st.pre⟩⟩⟩
  · by_cases e : b = q.1
    · subst e; rw [upd_same] at h; cases h; exact hvs
    · rw [upd_ne e] at h; exact g.sta.sub b u h
  · by_cases hjk : k = j
    · subst hjk
      rw [List.getElem?_set_self hl] at h1
      cases h1; trivial
    · rw [List.getElem?_set_ne hjk] at h1
      have ap := nth_ne g.sta h2 hp (Ne.symm hjk)
      exact (g.sta.ob j m q' h1 h2).keep s1 (fun z => by rw [upd_ne ap.1]; exact z) (fun z => by rw [upd_ne ap.2.2.1]; exact z) (fun _ z => z) (fun _ z => z)
  · by_cases eb : b = q.1
    · subst eb
      refine .inr ?_
      obtain ⟨β, e1, hβ⟩ := g.st.pre
      have : q ∈ β := by
        rw [e1, List.getElem?_append_right he] at hp
        exact List.mem_of_getElem? hp
      exact (hβ q this).1
    · rw [upd_ne eb] at h; exact g.st.new b h
theorem Dens.reread {F : Hp} {d d' : D} {i : Nat} {ds : List D} {vs : List V} (h : Dens K F ds vs) (hi : ds[i]? = some d) (hd : ∀ v, Den K F d v → Den K F d' v) : Dens K F (ds.set i d') vs := by
  obtain ⟨v, hv, o⟩ := h.get hi
  have := h.set (hd v o) i
  have e : vs.set i v = vs := by
    apply List.ext_getElem?
    intro j
    by_cases e : i = j
    · subst e; rw [List.getElem?_set_self (List.getElem?_eq_some_iff.mp hv).1, hv]
    · rw [List.getElem?_set_ne e]
  rwa [e] at this
theorem Sta.reob {α : Al} {F H : Hp} (S : Sta K α M F H) {j : Nat} {m m' : MO} (hj : M[j]? = some m) (h : ∀ p, MObj K F H m p → MObj K F H m' p) : Sta K α (M.set j m') F H := by
  refine ⟨S.sub, by simp [S.len], fun i mo q h1 h2 => ?_, S.ap, S.tr⟩
  by_cases e : j = i
  · subst e
    rw [List.getElem?_set_self (List.getElem?_eq_some_iff.mp hj).1] at h1
    cases h1
    exact h q (S.ob j m q hj h2)
  · rw [List.getElem?_set_ne e] at h1
    exact S.ob i mo q h1 h2
theorem r_fzI (k j i : Nat) {p C : Addr} {ns : List Str} {ds es : List D} (hk : M[k]? = some (.pin p ds)) (hj : M[j]? = some (.ins C ns es)) (hi : es[i]? = some (.raw (.ref p))) (he : e.α.length ≤ k) (hkj : k ≠ j)
    (h : RunD K e t ρ ((M.set k .dead).set j (.ins C ns (es.set i (.lst ds)))) nx rt bk ct) : RunD K e t ρ M nx rt bk ct := fun X σ α F H g ok => by
  obtain ⟨F', x, hd, g'⟩ := g.fz hk he
  refine h X σ α F' H ⟨g'.env, g'.sta.reob (m := .ins C ns es) (by rw [List.getElem?_set_ne hkj]; exact hj) fun q z => ?_, g'.st⟩ (ok.at x)
  obtain ⟨a, dx, vs, b, l, o⟩ := z
  refine ⟨a, dx, vs, b, l, o.reread hi fun v hv => ?_⟩
  have hv : v = .ref p := hv
  subst hv; exact hd
theorem r_fzP (k j i : Nat) {p b : Addr} {ds es : List D} (hk : M[k]? = some (.pin p ds)) (hj : M[j]? = some (.pin b es)) (hi : es[i]? = some (.raw (.ref p))) (he : e.α.length ≤ k) (hkj : k ≠ j)
    (h : RunD K e t ρ ((M.set k .dead).set j (.pin b (es.set i (.lst ds)))) nx rt bk ct) : RunD K e t ρ M nx rt bk ct := fun X σ α F H g ok => by
  obtain ⟨F', x, hd, g'⟩ := g.fz hk he
  refine h X σ α F' H ⟨g'.env, g'.sta.reob (m := .pin b es) (by rw [List.getElem?_set_ne hkj]; exact hj) fun q z => ?_, g'.st⟩ (ok.at x)
  obtain ⟨a, dx, vs, l, o⟩ := z
  refine ⟨a, dx, vs, l, o.reread hi fun v hv => ?_⟩
  have hv : v = .ref p := hv
  subst hv; exact hd
end
end DL

/-! DL18: comprehensions by a relation. -/
namespace DL
open PySem L2
def AllR {α β : Type} (R : α → β → Prop) : List α → List β → Prop
  | [], ys => ys = []
  | x :: xs, ys => ∃ y r, ys = y :: r ∧ R x y ∧ AllR R xs r
theorem AllR.snoc {α β : Type} {R : α → β → Prop} {x : α} {y : β} (hxy : R x y) : ∀ {xs : List α} {ys : List β}, AllR R xs ys → AllR R (xs ++ [x]) (ys ++ [y])
  | [], _, h => by
    have h : _ = [] := h
    subst h
    exact ⟨y, [], rfl, hxy, rfl⟩
  | _ :: _, _, ⟨z, r, e, h1, h2⟩ => by
    subst e
    exact ⟨z, r ++ [y], rfl, h1, h2.snoc hxy⟩
theorem AllR.len {α β : Type} {R : α → β → Prop} : ∀ {xs : List α} {ys : List β}, AllR R xs ys → ys.length = xs.length
  | [], _, h => by
    have h : _ = [] := h
    subst h; rfl
  | _ :: _, _, ⟨z, r, e, h1, h2⟩ => by
    subst e
    simp [h2.len]
section
variable {K : PySem.W.Frag} {e : Ent} {ρ : Rho} {M : List MO} {te ta tb to ti : TE} {t u : TS} {Q : Sl → Prop}
theorem ev_lcR {wi : TI} {g : TG} {vs : List Nat} (R : D → D → Prop) (h : EvI K wi ρ M fun items => items.length ≤ 16777216 ∧ (∀ (i : Nat) d, items[i]? = some d → EvG K g vs d (wipeR ρ vs) fun ρ' => EvP K te ρ' M fun s => ∃ d', s = .v d' ∧ R d d') ∧ ∀ ds, AllR R items ds → Q (.v (.lst ds))) : EvP K (tLc wi g tYes te vs) ρ M Q := by
  refine ev_lc fun σ α F H en S k kk => h σ α F H en S k fun J F' H' items m S' ok ⟨h1, h2, h3⟩ => kk J F' H' items m S' ok ⟨h1, fun i acc => AllR R (items.take i) acc, rfl, fun i d acc hi ha => ?_, fun acc ha => h3 acc (by simpa using ha)⟩
  intro σ α F H v en s hd k kk
  refine h2 i d hi σ α F H v en s hd k fun σ' ρ' en' hl hj q => kk σ' ρ' en' hl hj ?_
  intro σ α F H en S k kk
  refine kk true F H .refl S ?_
  show EvP K te ρ' M fun s => ∃ d', s = .v d' ∧ AllR R (items.take (i + 1)) (acc ++ [d'])
  refine q.mono fun s ⟨d', e1, r⟩ => ⟨d', e1, ?_⟩
  have : items.take (i + 1) = items.take i ++ [d] := by
    obtain ⟨hlt, e2⟩ := List.getElem?_eq_some_iff.mp hi
    rw [List.take_succ_eq_append_getElem hlt, e2]
  rw [this]
  exact ha.snoc r
/-- o.f, o plain data -/
theorem ev_at {f : Str} (h : EvP K te ρ M fun s => ∃ C ns ds, s = .v (.ins C ns ds) ∧ Cls K C ∧ NoAttr K C f ∧ ∃ i d, (ns.findIdx? (· == f)) = some i ∧ ds[i]? = some d ∧ Q (.v d)) : EvP K (tFld K te f) ρ M Q := fun σ α F H en S k kk =>
  h σ α F H en S _ fun v F1 H1 s m1 S1 o1 ⟨C, ns, ds, e1, hc, hn, i, d, hi, hd, q⟩ => by
    subst e1
    obtain ⟨a, dx, vs, rfl, h1, h2, h3⟩ := o1
    obtain ⟨w, hw, r⟩ := h3.get hd
    exact ⟨a, C, dx, _, w, rfl, S1.sub _ _ h1, hc, hn, lookup_zip hi hw, kk w F1 H1 _ m1 S1 (den_ok r) q⟩
end
end DL

/-! DL19: for k in a call that lays a dict of its own; t < u of nested tuples. -/
namespace DL
open PySem L2
section
variable {X : Cx} {tg e : Expr} {td : TE}
/-- the dict is new, and no one else's: locked from here on -/
def iKeysN (td : TE) : TI := fun σ H R => td σ H fun x H1 => ∃ d kvs, x = .ref d ∧ H1 d = some (.dK kvs) ∧ ∀ od, R (Itk d od kvs) (upd H1 d (.frz od (.dK kvs)))
theorem pi_keysN (he : PE X e td) : PI X tg e (iKeysN td) := by
  refine ⟨fun pins s σ H R I h => ?_⟩
  refine thn (he.run pins s σ H _ I h) fun u s1 ⟨x, H1, I1, rx, d, kvs, ex, hd, q⟩ => ?_
  subst ex
  obtain rfl : u = Value.ref d := rx
  obtain ⟨od, I2⟩ := I1.lock hd trivial
  have hz : (upd H1 d (.frz od (.dK kvs))) d = some (.frz od (.dK kvs)) := upd_same
  obtain ⟨hs, hgd, hx, es, ep, vs, hdt, hsz, kv, hm⟩ := I2.frzK hz
  refine iter_keys hs hgd hx hdt (pi_one (tk := s1.toks) I2 _ (turn_keys _ hdt) ⟨_, Heap.get?_push_size _ rfl, rfl, ?_⟩ (q od))
  rw [hsz] <;> rfl
end
section
variable {K : PySem.W.Frag} {e : Ent} {ρ : Rho} {M : List MO} {te ta tb : TE} {t u : TS} {Q : Sl → Prop} {nx bk ct : Rho → List MO → Prop} {rt : Sl → List MO → Prop}
theorem r_forKN {g : TG} (is : List Nat)
    (h : EvN K e te ρ M fun s M1 => ∃ (k : Nat) (ks : List Key) (ds : List D), s = .l k ∧ M1[k]? = some (.dic ks ds) ∧ ∀ d od kvs, ∃ I : Nat → Rho → List MO → Prop, I 0 ρ (M1.set k (.frz d od kvs ks ds)) ∧
      (∀ i key ρ' M', ks[i]? = some key → I i ρ' M' → M'[k]? = some (.frz d od kvs ks ds) → EvG K g is (.raw (kV key)) ρ' fun ρ2 => RunD K e t ρ2 M' (fun ρ3 M3 => M3[k]? = some (.frz d od kvs ks ds) ∧ I (i + 1) ρ3 M3) rt nx (fun ρ3 M3 => M3[k]? = some (.frz d od kvs ks ds) ∧ I (i + 1) ρ3 M3)) ∧
      ∀ ρ' M', I ks.length ρ' M' → M'[k]? = some (.frz d od kvs ks ds) → nx ρ' M') : RunD K e (tFor (iKeysN te) g t) ρ M nx rt bk ct := fun X σ α F H gd0 ok0 => by
  refine h σ α F H gd0 _ fun v α1 F1 H1 s M1 g1 x1 _ o1 ⟨k, ks, ds, e1, hk, q⟩ => ?_
  subst e1
  obtain ⟨p, hp, rfl⟩ := o1
  obtain ⟨hF, vs, hvs, hl, hden⟩ := g1.sta.ob k _ p hk hp
  refine ⟨p.1, ks.zip vs, rfl, hvs, fun od => ?_⟩
  obtain ⟨m2, S2⟩ := g1.sta.write (m' := .frz p.1 od (ks.zip vs) ks ds) (o := .frz od (.dK (ks.zip vs))) hp hF ⟨hF, rfl, upd_same, vs, rfl, hl, hden⟩
  obtain ⟨I, h0, hs, hd⟩ := q p.1 od (ks.zip vs)
  have gd : Good K e α1 F1 (upd H1 p.1 (.frz od (.dK (ks.zip vs)))) σ ρ (M1.set k (.frz p.1 od (ks.zip vs) ks ds)) := ⟨g1.env, S2, g1.st.move m2⟩
  have hk2 : (M1.set k (.frz p.1 od (ks.zip vs) ks ds))[k]? = some (.frz p.1 od (ks.zip vs) ks ds) := (set_frz hk).1
  have ok := ok0.at x1
  have kl : (ks.zip vs).length = ks.length := by rw [List.length_zip, ← hl, Nat.min_self]
  have kg : ∀ {i : Nat} {key : Key} {w : V}, (ks.zip vs)[i]? = some (key, w) → ks[i]? = some key := fun {i key w} q => by
    have := congrArg (Option.map Prod.fst) q
    rw [← List.getElem?_map, List.map_fst_zip (by omega)] at this
    exact this
  generalize M1.set k (.frz p.1 od (ks.zip vs) ks ds) = M2 at *
  refine ⟨fun i m σ' H' => m = ks.length - i ∧ i ≤ ks.length ∧ ∃ ρ' M' α' F', Good K e α' F' H' σ' ρ' M' ∧ Same F1 F' ∧ M'[k]? = some (.frz p.1 od (ks.zip vs) ks ds) ∧ I i ρ' M', ⟨_, rfl, Nat.zero_le _, ρ, M2, α1, F1, gd, fun _ _ z => z, hk2, h0⟩, ?_⟩
  rintro i m σ' H' ⟨rfl, hi, ρ', M', α', F', g', s', hM, pI⟩
  have hfz : H' p.1 = some (.frz od (.dK (ks.zip vs))) := (g'.sta.unl hM).1
  by_cases hlt : i < ks.length
  · refine .inr ⟨⟨hfz, by omega⟩, fun σ2 H2 => ∃ ρ2 M2 α2 F2, Good K e α2 F2 H2 σ2 ρ2 M2 ∧ Same F1 F2 ∧ M2[k]? = some (.frz p.1 od (ks.zip vs) ks ds) ∧ I (i + 1) ρ2 M2, fun σ2 H2 ⟨ρ2, M2, α2, F2, g2, s2, hM2, p2⟩ => ⟨ks.length - (i + 1), by omega, rfl, hlt, ρ2, M2, α2, F2, g2, s2, hM2, p2⟩, fun x H2 y => ?_⟩
    obtain ⟨rfl, key, w, hkw, rfl⟩ := y
    have hkey := kg hkw
    refine hs i key ρ' M' hkey pI hM σ' α' F' H2 (kV key) g'.env g'.sta.sub rfl _ fun σ3 ρ3 en3 _ _ q3 => ?_
    have ok2 := ok.at s'
    exact q3 _ σ3 α' F' H2 ⟨en3, g'.sta, g'.st⟩ ⟨fun σ4 α4 F4 H4 ρ4 M4 g4 z4 ⟨hM4, q4⟩ => ⟨ρ4, M4, α4, F4, g4, s'.trans z4, hM4, q4⟩, ok2.rt, ok2.nx, fun σ4 α4 F4 H4 ρ4 M4 g4 z4 ⟨hM4, q4⟩ => ⟨ρ4, M4, α4, F4, g4, s'.trans z4, hM4, q4⟩⟩
  · have ei : i = ks.length := by omega
    subst ei
    exact .inl ⟨⟨hfz, by omega⟩, ok.nx _ _ _ _ _ _ g' s' (hd ρ' M' pI hM)⟩
end
/-! ### t < u -/
def rLtD (K : PySem.W.Frag) : R2 := fun x y H Q => ∃ d e, Dp K H x d ∧ Dp K H y e ∧ PySem.W.alike d e = true ∧ d ≠ .none ∧ d.depth ≤ 64 ∧ Q (.bl (PySem.W.dataLt d e)) H
theorem op_ltD {X : Cx} {K : PySem.W.Frag} (hu : X.A.units + 64 < cLine) (hK : X.K = K := by rfl) : OpR X (compareOp .Lt) (rLtD K) := by
  subst hK
  intro pins s σ H x y v u Q I rx ry h
  obtain ⟨d, e, hd, he, al, nn, hz, q⟩ := h
  obtain ⟨as, r1⟩ := Dp.reads I d x v hd rx
  obtain ⟨bs, r2⟩ := Dp.reads I e y u he ry
  exact PySem.W.lt_data r1 r2 al nn (by omega) ⟨.bl _, H, I, rfl, q⟩

theorem er_ltD {K : PySem.W.Frag} {M : List MO} {Q : Sl → Prop} {x y : D} (n : Nat) (hx : x.pl n = true) (hy : y.pl n = true) (hn : n ≤ 64) (al : PySem.W.alike x.py y.py = true) (nn : x.py ≠ .none) (q : Q (.v (.bl (PySem.W.dataLt x.py y.py)))) : EvR K (rLtD K) M (.v x) (.v y) Q := fun α F H u v S o1 o2 k kk =>
  ⟨x.py, y.py, D.dp S.sub n x u hx o1, D.dp S.sub n y v hy o2, al, nn, Nat.le_trans (D.lay n x hx).2 hn, kk _ F H _ .refl S raw_ok q⟩
theorem alike_ints : ∀ ns ms : List Int, PySem.W.alikeAll (D.pyAll (D.ints ns)) (D.pyAll (D.ints ms)) = true
  | [], _ => by simp [D.pyAll, PySem.W.alikeAll]
  | n :: ns, [] => by simp [D.pyAll, PySem.W.alikeAll]
  | n :: ns, m :: ms => by
    have := alike_ints ns ms
    simp only [D.ints] at this
    simp only [D.ints, List.map_cons, D.pyAll, PySem.W.alikeAll, D.py, PySem.W.alike, this, Bool.and_self]
/-! ### max(t) of a tuple of numbers -/
def rMaxT (K : PySem.W.Frag) : List V → Hp → VK → Prop := fun vs H Q => ∃ (a : Addr) (n : Int) (ns : List Int), vs = [V.ref a] ∧ SqT K H a ((n :: ns).map V.int) ∧ Q (.int (ns.foldl max n)) H
theorem dp_ints {K : PySem.W.Frag} {H : Hp} : ∀ ns : List Int, DpAll K H (ns.map V.int) (ns.map PyData.int)
  | [] => .nil
  | n :: ns => .cons (.int n) (dp_ints ns)
theorem depth_ints : ∀ ns : List Int, PyData.depthAll (ns.map PyData.int) = 0
  | [] => by simp [PyData.depthAll]
  | n :: ns => by simp [PyData.depthAll, PyData.depth, depth_ints ns]
theorem cr_maxT {X : Cx} (hc : X.calm = true) (hu : X.A.units + 64 < cLine) : CallR X (.builtin "max") (rMaxT X.K) := by
  intro pins s σ H vs us Q I r h
  obtain ⟨a, n, ns, rfl, hs, q⟩ := h
  obtain ⟨its, rv, ⟨o, e1, e2, e3, e4⟩, _⟩ := I.tuple hs
  rw [Vals.ref1 r]
  obtain ⟨as, rd⟩ := Dp.readsAll I _ _ _ (dp_ints (K := X.K) (H := H) (n :: ns)) rv
  have dz := depth_ints (n :: ns)
  refine PySem.W.max_tuple_data (I.ok.hd hc) ⟨o, e1, e2, e3, e4⟩ (x := .int n) (xs := ns.map PyData.int) (as := as) rd ⟨fun x hx y hy => ?_, fun x hx => ?_⟩ (by
    have : PyData.depthAll (PyData.int n :: ns.map PyData.int) = 0 := dz
    omega) fun i v h' tk bs hv hr hk => ?_
  · obtain ⟨p, _, rfl⟩ := List.mem_map.mp (show x ∈ (n :: ns).map PyData.int from hx)
    obtain ⟨p', _, rfl⟩ := List.mem_map.mp (show y ∈ (n :: ns).map PyData.int from hy)
    simp [PySem.W.alike]
  · obtain ⟨p, _, rfl⟩ := List.mem_map.mp (show x ∈ (n :: ns).map PyData.int from hx)
    exact fun z => by cases z
  · rw [PySem.W.maxD_ints] at hr
    cases hr with
    | int t => exact ⟨.int _, H, I.kept hk, ⟨_, rfl⟩, q⟩
section
variable {X : Cx} {e : Expr} {t : TA} {p pos : Pos}
theorem pe_maxT {K : PySem.W.Frag} (hu : X.A.units + 64 < cLine) (b : X.mg "max" = none) (hc : X.calm = true) (hg : Gl X "max") (ha : PA X [e] t) (he : starEach [e] X.env = (false, eval e X.env) :: starEach [] X.env := by rfl) (hpl : (backTo pos (starEach [] X.env)).any (·.1) = false := by rfl) (hK : X.K = K := by rfl) : PE X (.Call (.Name "max" p) [e] [] pos) (tCB (rMaxT K) t) := by
  subst hK
  exact pe_callB (cr_maxT hc hu) hg b (by decide +kernel) ha (by decide) (by decide) he hpl
end
theorem ec_maxT {K : PySem.W.Frag} {M : List MO} {Q : Sl → Prop} {n : Int} {ns : List Int} (q : Q (.v (.int (ns.foldl max n)))) : EvC K (rMaxT K) M [.v (.tup (D.ints (n :: ns)))] Q := fun α F H us S o k kk => by
  obtain ⟨u, rfl, o1⟩ := sls1s o
  obtain ⟨a, vs, rfl, e1, d1⟩ := o1
  have e2 := d1.ofInts
  subst e2
  exact ⟨a, n, ns, rfl, sqt_same K S.sub e1, kk _ F H _ .refl S raw_ok q⟩
/-! ### [f for x in xs for y in ys] -/
section
variable {K : PySem.W.Frag} {e : Ent} {ρ : Rho} {M : List MO} {te ta tb : TE} {t u : TS} {Q : Sl → Prop}
theorem move_none {α : Al} {F H F' H' : Hp} {A : Addr} {o : HO} (mm : Move α F H F' H') (hF : F A = none) (hH : H A = some o) : F' A = none := by
  cases z : F' A with
  | none => rfl
  | some o' =>
    rcases mm.new A (by rw [z]; simp) with q | q
    · exact absurd hF q
    · rw [hH] at q; cases q
theorem ev_lc2M {wi wi1 : TI} {g g1 : TG} {vs vs1 : List Nat} (f : D → D → D) (inner : D → List D) (h : EvI K wi ρ M fun items => (items.flatMap fun d => (inner d).map (f d)).length ≤ 16777216 ∧
      (∀ (i : Nat) d, items[i]? = some d → EvG K g vs d (wipeR ρ vs) fun ρ' => EvI K wi1 ρ' M fun its1 => its1 = inner d ∧ ∀ (j : Nat) d1, its1[j]? = some d1 → EvG K g1 vs1 d1 (wipeR ρ' vs1) fun ρ2 => EvP K te ρ2 M fun s => s = .v (f d d1)) ∧
      Q (.v (.lst (items.flatMap fun d => (inner d).map (f d))))) : EvP K (tLc2 wi g tYes wi1 g1 tYes te vs vs1) ρ M Q := fun σ α F H en S k kk =>
  h σ α F H en S _ fun J F1 H1 items m1 S1 it ⟨hz, hs, hd⟩ => by
    intro A hA
    have hFA : F1 A = none := S1.sub.free hA
    have hna := S1.notin hA
    refine ⟨fun i m H' => m = items.length - i ∧ i ≤ items.length ∧ ∃ F' us, Move α F1 H1 F' H' ∧ Sta K α M F' H' ∧ H' A = some (.lst us) ∧ F' A = none ∧ Dens K F' ((items.take i).flatMap fun d => (inner d).map (f d)) us,
      ⟨_, rfl, Nat.zero_le _, F1, [], ?_, S1.extra hFA hna, upd_same, hFA, rfl⟩, ?_⟩
    · exact ⟨fun _ _ z => z, fun b o q _ => by rw [upd_ne (ne_of_none q hA)]; exact q, fun b q => by { rw [upd_ne (fun z => q (by rw [z]; exact hA))]; exact q }, fun b q => .inl q⟩
    rintro i m H' ⟨rfl, hi, F', us, mv, S', hAt, hFA', hden⟩
    by_cases hlt : i < items.length
    · have hget : items[i]? = some items[i] := List.getElem?_eq_getElem hlt
      have htk : (items.take (i + 1)).flatMap (fun d => (inner d).map (f d)) = (items.take i).flatMap (fun d => (inner d).map (f d)) ++ (inner items[i]).map (f items[i]) := by
        rw [List.take_succ_eq_append_getElem hlt, List.flatMap_append]; simp
      have hsz : ((items.take i).flatMap fun d => (inner d).map (f d)).length + (inner items[i]).length ≤ 16777216 := by
        have : items = items.take (i + 1) ++ items.drop (i + 1) := (List.take_append_drop _ _).symm
        have e2 := congrArg (fun l : List D => (l.flatMap fun d => (inner d).map (f d)).length) this
        simp only [List.flatMap_append, List.length_append, htk, List.length_map] at e2
        omega
      refine .inr ⟨((it i F' H' mv.ex S'.sub).2 _ hget).1, fun H2 => ∃ F2 us, Move α F1 H1 F2 H2 ∧ Sta K α M F2 H2 ∧ H2 A = some (.lst us) ∧ F2 A = none ∧ Dens K F2 ((items.take (i + 1)).flatMap fun d => (inner d).map (f d)) us,
        fun H2 ⟨F2, us, a, b, c, d, f⟩ => ⟨items.length - (i + 1), by omega, rfl, hlt, F2, us, a, b, c, d, f⟩, fun x H2 y => ?_⟩
      obtain ⟨F2, m2, S2, hx⟩ := it_turn it mv.ex S' hget y
      have enw := ((en.mono m1.ex).mono (mv.ex.trans m2.ex)).wipe vs
      refine hs i _ hget (L2.wipe σ vs) α F2 H2 x enw S2.sub hx _ fun σ3 ρ3 en3 l3 f3 q3 => ⟨?_, ?_⟩
      · have := wipe_eq (σ := L2.wipe σ vs) l3 f3
        rw [wipe_wipe] at this
        exact this
      unfold tYes
      refine iteT ?_
      refine q3 σ3 α F2 H2 en3 S2 _ fun J1 F3 H3 its1 m3 S3 it1 ⟨ei, hs1⟩ => ?_
      subst ei
      have mA : Move α F1 H1 F3 H3 := (mv.trans m2).trans m3
      have hA3 : H3 A = some (.lst us) := (m2.trans m3).fr A _ hAt hna
      refine ⟨fun j k H4 => k = (inner items[i]).length - j ∧ j ≤ (inner items[i]).length ∧ ∃ F4 us4, Move α F1 H1 F4 H4 ∧ Same F3 F4 ∧ Sta K α M F4 H4 ∧ H4 A = some (.lst us4) ∧ F4 A = none ∧ Dens K F4 ((items.take i).flatMap (fun d => (inner d).map (f d)) ++ ((inner items[i]).take j).map (f items[i])) us4,
        ⟨_, rfl, Nat.zero_le _, F3, us, mA, fun _ _ z => z, S3, hA3, move_none (m2.trans m3) hFA' hAt, by simpa using Dens.mono K (m2.trans m3).ex _ _ hden⟩, ?_⟩
      rintro j k H4 ⟨rfl, hj, F4, us4, mv4, s34, S4, hA4, nF4, hden4⟩
      by_cases hlt1 : j < (inner items[i]).length
      · have hget1 : (inner items[i])[j]? = some (inner items[i])[j] := List.getElem?_eq_getElem hlt1
        refine .inr ⟨((it1 j F4 H4 s34 S4.sub).2 _ hget1).1, fun H5 => ∃ F5 us5, Move α F1 H1 F5 H5 ∧ Same F3 F5 ∧ Sta K α M F5 H5 ∧ H5 A = some (.lst us5) ∧ F5 A = none ∧ Dens K F5 ((items.take i).flatMap (fun d => (inner d).map (f d)) ++ ((inner items[i]).take (j + 1)).map (f items[i])) us5,
          fun H5 ⟨F5, us5, a, b, c, d, g, h⟩ => ⟨(inner items[i]).length - (j + 1), by omega, rfl, hlt1, F5, us5, a, b, c, d, g, h⟩, fun x1 H5 y1 => ?_⟩
        obtain ⟨F5, m5, S5, hx1⟩ := it_turn it1 s34 S4 hget1 y1
        have enw1 := (en3.mono (m3.ex.trans (s34.trans m5.ex))).wipe vs1
        refine hs1 j _ hget1 (L2.wipe σ3 vs1) α F5 H5 x1 enw1 S5.sub hx1 _ fun σ6 ρ6 en6 l6 f6 q6 => ⟨?_, ?_⟩
        · have := wipe_eq (σ := L2.wipe σ3 vs1) l6 f6
          rw [wipe_wipe] at this
          exact this
        (try unfold tYes)
        refine iteT ?_
        refine q6 σ6 α F5 H5 en6 S5 _ fun v F6 H6 s m6 S6 o6 e6 => ?_
        subst e6
        have mB : Move α F4 H4 F6 H6 := m5.trans m6
        have hA6 : H6 A = some (.lst us4) := mB.fr A _ hA4 hna
        have mC : Move α F1 H1 F6 H6 := mv4.trans mB
        have nF6 : F6 A = none := move_none mB nF4 hA4
        have hl4 := hden4.length
        rw [List.length_append, List.length_map, List.length_take] at hl4
        refine ⟨us4, hA6, by rw [sizeLine_eq]; omega, F6, us4 ++ [v], ⟨mC.ex, fun b o q z => ?_, fun b q => ?_, mC.new⟩, s34.trans mB.ex, S6.extra nF6 hna, upd_same, nF6, ?_⟩
        · rw [upd_ne (ne_of_none q hA)]; exact mC.fr b o q z
        · rw [upd_ne (fun z => q (by rw [z]; exact hA))]; exact mC.tr b q
        · have e7 : (items.take i).flatMap (fun d => (inner d).map (f d)) ++ ((inner items[i]).take (j + 1)).map (f items[i]) = ((items.take i).flatMap (fun d => (inner d).map (f d)) ++ ((inner items[i]).take j).map (f items[i])) ++ [f items[i] (inner items[i])[j]] := by
            rw [List.take_succ_eq_append_getElem hlt1, List.map_append, List.append_assoc]; rfl
          rw [e7]
          exact (Dens.mono K mB.ex _ _ hden4).append (Dens.cons o6 Dens.nil)
      · have ej : j = (inner items[i]).length := by omega
        subst ej
        refine .inl ⟨(it1 _ F4 H4 s34 S4.sub).1 rfl, F4, us4, mv4, S4, hA4, nF4, ?_⟩
        rw [htk]
        rw [List.take_length] at hden4
        exact hden4
    · have ei : i = items.length := by omega
      subst ei
      rw [List.take_length] at hden
      obtain ⟨s5, S5⟩ := S'.ice hFA' hAt hna
      refine .inl ⟨(it _ F' H' mv.ex S'.sub).1 rfl, kk (.ref A) _ H' (.v (.lst _)) ⟨(m1.trans mv).ex.trans s5, fun b o q z => (m1.trans mv).fr b o q z, (m1.trans mv).tr, fun b q => ?_⟩ S5 (show Den K _ (.lst _) _ from ⟨A, us, rfl, upd_same, Dens.mono K s5 _ _ hden⟩) hd⟩
      by_cases eb : b = A
      · subst eb; exact .inr (none_back (m1.tr b) hA)
      · rw [upd_ne eb] at q; exact (m1.trans mv).new b q
end
end DL

/-! plain number theory: primes, valuations, remainders of powers -/
namespace NT
def Pr (p : Nat) : Prop := 2 ≤ p ∧ ∀ d, d ∣ p → d = 1 ∨ d = p
theorem Pr.two {p : Nat} (h : Pr p) : 2 ≤ p := h.1
theorem Pr.pos {p : Nat} (h : Pr p) : 0 < p := by have := h.1; omega
theorem Pr.cop {p n : Nat} (h : Pr p) (hn : ¬ p ∣ n) : Nat.Coprime p n := by
  have h1 := h.2 (Nat.gcd p n) (Nat.gcd_dvd_left p n)
  rcases h1 with h1 | h1
  · exact h1
  · exact absurd (h1 ▸ Nat.gcd_dvd_right p n) hn
theorem Pr.dvd_mul {p a b : Nat} (h : Pr p) (d : p ∣ a * b) : p ∣ a ∨ p ∣ b := by
  by_cases ha : p ∣ a
  · exact .inl ha
  · exact .inr ((h.cop ha).dvd_of_dvd_mul_left d)
theorem Pr.one {p : Nat} (h : Pr p) : ¬ p ∣ 1 := by
  intro d
  have := Nat.le_of_dvd (by decide) d
  have := h.1
  omega
theorem Pr.eq {p q : Nat} (hp : Pr p) (hq : Pr q) (d : p ∣ q) : p = q := by
  rcases hq.2 p d with h | h
  · have := hp.1; omega
  · exact h
theorem Pr.dvd_pow {p a : Nat} (h : Pr p) : ∀ {n : Nat}, p ∣ a ^ n → p ∣ a
  | 0, d => absurd (by simpa using d) h.one
  | n + 1, d => by
    rw [Nat.pow_succ] at d
    rcases h.dvd_mul d with d | d
    · exact Pr.dvd_pow h d
    · exact d
theorem ex_pr : ∀ (n : Nat), 2 ≤ n → ∃ p, Pr p ∧ p ∣ n := by
  intro n
  induction n using Nat.strongRecOn with
  | ind n ih =>
    intro h
    by_cases hp : Pr n
    · exact ⟨n, hp, Nat.dvd_refl n⟩
    · have : ∃ d, d ∣ n ∧ d ≠ 1 ∧ d ≠ n := by
        refine Classical.byContradiction fun z => hp ⟨h, fun d hd => ?_⟩
        refine Classical.byContradiction fun y => z ⟨d, hd, fun e => y (.inl e), fun e => y (.inr e)⟩
      obtain ⟨d, hd, h1, h2⟩ := this
      have hle := Nat.le_of_dvd (by omega) hd
      have h0 : d ≠ 0 := by
        rintro rfl
        have := Nat.zero_dvd.mp hd
        omega
      obtain ⟨p, hp, hpd⟩ := ih d (by omega) (by omega)
      exact ⟨p, hp, Nat.dvd_trans hpd hd⟩
/-! ### valuations -/
def vp (p n : Nat) : Nat := if h : 2 ≤ p ∧ 0 < n ∧ p ∣ n then 1 + vp p (n / p) else 0
termination_by n
decreasing_by exact Nat.div_lt_self h.2.1 (by omega)
theorem vp_no {p n : Nat} (h : ¬ p ∣ n) : vp p n = 0 := by
  rw [vp, dif_neg (fun z => h z.2.2)]
theorem vp_step {p n : Nat} (hp : 2 ≤ p) (hn : 0 < n) : vp p (p * n) = 1 + vp p n := by
  rw [vp, dif_pos ⟨hp, Nat.mul_pos (by omega) hn, Nat.dvd_mul_right p n⟩, Nat.mul_div_cancel_left n (by omega)]
theorem vp_pow {p m : Nat} (hp : 2 ≤ p) (hm : 0 < m) : ∀ k, vp p (p ^ k * m) = k + vp p m
  | 0 => by simp
  | k + 1 => by
    have e : p ^ (k + 1) * m = p * (p ^ k * m) := by rw [Nat.pow_succ]; grind
    rw [e, vp_step hp (Nat.mul_pos (Nat.pow_pos (by omega)) hm), vp_pow hp hm k]; omega
theorem vp_spec {p : Nat} (hp : 2 ≤ p) : ∀ (n : Nat), 0 < n → ∃ m, n = p ^ vp p n * m ∧ ¬ p ∣ m ∧ 0 < m := by
  intro n
  induction n using Nat.strongRecOn with
  | ind n ih =>
    intro hn
    by_cases h : p ∣ n
    · obtain ⟨c, rfl⟩ := h
      have hc : 0 < c := Nat.pos_of_ne_zero (fun z => by subst z; simp at hn)
      obtain ⟨m, h1, h2, h3⟩ := ih c (by
        have : 1 * c < p * c := Nat.mul_lt_mul_of_pos_right (by omega) hc
        omega) hc
      refine ⟨m, ?_, h2, h3⟩
      rw [vp_step hp hc, Nat.pow_add, Nat.pow_one, Nat.mul_assoc, ← h1]
    · exact ⟨n, by rw [vp_no h]; simp, h, hn⟩
theorem vp_mul {p : Nat} (hp : Pr p) {a b : Nat} (ha : 0 < a) (hb : 0 < b) : vp p (a * b) = vp p a + vp p b := by
  obtain ⟨c, e1, h1, p1⟩ := vp_spec hp.1 a ha
  obtain ⟨d, e2, h2, p2⟩ := vp_spec hp.1 b hb
  have e : a * b = p ^ (vp p a + vp p b) * (c * d) := by
    rw [Nat.pow_add]
    calc a * b = (p ^ vp p a * c) * (p ^ vp p b * d) := by rw [← e1, ← e2]
      _ = _ := by grind
  have : vp p (c * d) = 0 := vp_no (fun z => (hp.dvd_mul z).elim h1 h2)
  rw [e, vp_pow hp.1 (Nat.mul_pos p1 p2), this]; rfl
theorem vp_pos {p n : Nat} (hp : 2 ≤ p) (hn : 0 < n) : p ∣ n ↔ 0 < vp p n := by
  constructor
  · rintro ⟨c, rfl⟩
    have hc : 0 < c := Nat.pos_of_ne_zero (fun z => by subst z; simp at hn)
    rw [vp_step hp hc]; omega
  · intro h
    refine Classical.byContradiction fun z => ?_
    rw [vp_no z] at h; omega
theorem vp_one {p : Nat} (hp : Pr p) : vp p 1 = 0 := vp_no hp.one
theorem vp_self {p : Nat} (hp : Pr p) : vp p p = 1 := by
  have := vp_step (n := 1) hp.1 (by decide)
  rw [Nat.mul_one] at this
  rw [this, vp_one hp]
theorem vp_other {p q : Nat} (hp : Pr p) (hq : Pr q) (h : p ≠ q) : vp p q = 0 := vp_no (fun z => h (hp.eq hq z))
theorem vp_powN {p : Nat} (hp : Pr p) {a : Nat} (ha : 0 < a) : ∀ k, vp p (a ^ k) = k * vp p a
  | 0 => by simp [vp_one hp]
  | k + 1 => by rw [Nat.pow_succ, vp_mul hp (Nat.pow_pos ha) ha, vp_powN hp ha k, Nat.succ_mul]
/-- no prime: 1 -/
theorem eq_one {n : Nat} (hn : 0 < n) (h : ∀ p, Pr p → ¬ p ∣ n) : n = 1 := by
  refine Classical.byContradiction fun z => ?_
  obtain ⟨p, hp, hd⟩ := ex_pr n (by omega)
  exact h p hp hd
/-- the same primes as often: equal -/
theorem eq_of_vp : ∀ (a b : Nat), 0 < a → 0 < b → (∀ p, Pr p → vp p a = vp p b) → a = b := by
  intro a
  induction a using Nat.strongRecOn with
  | ind a ih =>
    intro b ha hb h
    by_cases h1 : a = 1
    · subst h1
      exact (eq_one hb fun p hp hd => by
        have := (vp_pos hp.1 hb).mp hd
        rw [← h p hp, vp_one hp] at this; omega).symm
    · obtain ⟨p, hp, c, rfl⟩ := ex_pr a (by omega)
      have hd : p ∣ b := (vp_pos hp.1 hb).mpr (by rw [← h p hp]; exact (vp_pos hp.1 ha).mp ⟨c, rfl⟩)
      obtain ⟨d, rfl⟩ := hd
      have hc : 0 < c := Nat.pos_of_ne_zero (fun z => by subst z; simp at ha)
      have hd : 0 < d := Nat.pos_of_ne_zero (fun z => by subst z; simp at hb)
      have := ih c (by
        have : 1 * c < p * c := Nat.mul_lt_mul_of_pos_right (by have := hp.1; omega) hc
        omega) d hc hd (fun q hq => by
          have e := h q hq
          rw [vp_mul hq hp.pos hc, vp_mul hq hp.pos hd] at e
          omega)
      rw [this]
/-- a square: each prime evenly often -/
theorem square_of_vp : ∀ (n : Nat), 0 < n → (∀ p, Pr p → vp p n % 2 = 0) → ∃ r, n = r * r := by
  intro n
  induction n using Nat.strongRecOn with
  | ind n ih =>
    intro hn h
    by_cases h1 : n = 1
    · exact ⟨1, h1⟩
    · obtain ⟨p, hp, c, rfl⟩ := ex_pr n (by omega)
      have hc : 0 < c := Nat.pos_of_ne_zero (fun z => by subst z; simp at hn)
      have e := h p hp
      rw [vp_step hp.1 hc] at e
      obtain ⟨d, rfl⟩ := (vp_pos hp.1 hc).mpr (by omega)
      have hd : 0 < d := Nat.pos_of_ne_zero (fun z => by subst z; simp at hc)
      have hp2 := hp.1
      obtain ⟨r, hr⟩ := ih d (by
        have h1 : 1 * d < p * d := Nat.mul_lt_mul_of_pos_right (by omega) hd
        have h2 : 1 * (p * d) < p * (p * d) := Nat.mul_lt_mul_of_pos_right (by omega) hc
        omega) hd (fun q hq => by
          have e := h q hq
          rw [vp_mul hq hp.pos hc, vp_mul hq hp.pos hd] at e
          omega)
      exact ⟨p * r, by rw [hr]; grind⟩
/-- the primes at most as often: a divisor -/
theorem dvd_of_vp : ∀ (a b : Nat), 0 < a → 0 < b → (∀ p, Pr p → vp p a ≤ vp p b) → a ∣ b := by
  intro a
  induction a using Nat.strongRecOn with
  | ind a ih =>
    intro b ha hb h
    by_cases h1 : a = 1
    · subst h1; exact Nat.one_dvd b
    · obtain ⟨p, hp, c, rfl⟩ := ex_pr a (by omega)
      have hc : 0 < c := Nat.pos_of_ne_zero (fun z => by subst z; simp at ha)
      have hd : p ∣ b := (vp_pos hp.1 hb).mpr (by
        have := h p hp
        rw [vp_step hp.1 hc] at this; omega)
      obtain ⟨d, rfl⟩ := hd
      have hd : 0 < d := Nat.pos_of_ne_zero (fun z => by subst z; simp at hb)
      have := ih c (by
        have : 1 * c < p * c := Nat.mul_lt_mul_of_pos_right (by have := hp.1; omega) hc
        omega) d hc hd (fun q hq => by
          have e := h q hq
          rw [vp_mul hq hp.pos hc, vp_mul hq hp.pos hd] at e
          omega)
      exact Nat.mul_dvd_mul_left p this
theorem vp_square {p r : Nat} (hp : Pr p) (hr : 0 < r) : vp p (r * r) % 2 = 0 := by
  rw [vp_mul hp hr hr]; omega
theorem dvd_pow_vp {p n : Nat} (hp : 2 ≤ p) (hn : 0 < n) : p ^ vp p n ∣ n := by
  obtain ⟨m, h, _⟩ := vp_spec hp n hn
  exact ⟨m, h⟩
theorem vp_le {p a b : Nat} (hp : Pr p) (hb : 0 < b) (h : a ∣ b) : vp p a ≤ vp p b := by
  obtain ⟨c, rfl⟩ := h
  have ha : 0 < a := Nat.pos_of_ne_zero (fun z => by subst z; simp at hb)
  have hc : 0 < c := Nat.pos_of_ne_zero (fun z => by subst z; simp at hb)
  rw [vp_mul hp ha hc]; omega
end NT

namespace NT
/-! ### Fermat, Euler's powers -/
abbrev R1 (m : Nat) : List Nat := List.range' 1 m
theorem mem_R1 {m x : Nat} : x ∈ R1 m ↔ 1 ≤ x ∧ x ≤ m := by
  rw [List.mem_range'_1]; omega
theorem perm_self {m : Nat} {f : Nat → Nat} (h1 : ∀ x, 1 ≤ x → x ≤ m → 1 ≤ f x ∧ f x ≤ m) (inj : ∀ x y, 1 ≤ x → x ≤ m → 1 ≤ y → y ≤ m → f x = f y → x = y) : ((R1 m).map f).Perm (R1 m) := by
  have nd : ((R1 m).map f).Nodup := by
    rw [List.Nodup, List.pairwise_map]
    refine List.Pairwise.imp_of_mem (R := (· ≠ ·)) (fun {x y} hx hy hxy e => ?_) List.nodup_range'
    exact hxy (inj x y (mem_R1.mp hx).1 (mem_R1.mp hx).2 (mem_R1.mp hy).1 (mem_R1.mp hy).2 e)
  have sub : (R1 m).map f ⊆ R1 m := by
    intro y hy
    obtain ⟨x, hx, rfl⟩ := List.mem_map.mp hy
    exact mem_R1.mpr (h1 x (mem_R1.mp hx).1 (mem_R1.mp hx).2)
  refine (List.perm_ext_iff_of_nodup nd List.nodup_range').mpr fun y => ⟨fun h => sub h, fun h => ?_⟩
  refine Classical.byContradiction fun z => ?_
  have nd2 : (y :: (R1 m).map f).Nodup := List.nodup_cons.mpr ⟨z, nd⟩
  have := nd2.length_le_of_subset (l₂ := R1 m) (fun w hw => by
    rcases List.mem_cons.mp hw with e | e
    · rw [e]; exact h
    · exact sub e)
  simp at this
  omega
/-- congruent by p -/
abbrev Cg (p : Nat) (a b : Int) : Prop := (p : Int) ∣ a - b
theorem Cg.refl {p : Nat} (a : Int) : Cg p a a := ⟨0, by grind⟩
theorem Cg.symm {p : Nat} {a b : Int} (h : Cg p a b) : Cg p b a := by
  obtain ⟨c, hc⟩ := h
  exact ⟨-c, by grind⟩
theorem Cg.trans {p : Nat} {a b c : Int} (h : Cg p a b) (k : Cg p b c) : Cg p a c := by
  obtain ⟨x, hx⟩ := h
  obtain ⟨y, hy⟩ := k
  exact ⟨x + y, by grind⟩
theorem Cg.mul {p : Nat} {a b c d : Int} (h : Cg p a b) (k : Cg p c d) : Cg p (a * c) (b * d) := by
  obtain ⟨x, hx⟩ := h
  obtain ⟨y, hy⟩ := k
  exact ⟨x * c + b * y, by grind⟩
theorem Cg.add {p : Nat} {a b c d : Int} (h : Cg p a b) (k : Cg p c d) : Cg p (a + c) (b + d) := by
  obtain ⟨x, hx⟩ := h
  obtain ⟨y, hy⟩ := k
  exact ⟨x + y, by grind⟩
theorem Cg.sub {p : Nat} {a b c d : Int} (h : Cg p a b) (k : Cg p c d) : Cg p (a - c) (b - d) := by
  obtain ⟨x, hx⟩ := h
  obtain ⟨y, hy⟩ := k
  exact ⟨x - y, by grind⟩
theorem Cg.pow {p : Nat} {a b : Int} (h : Cg p a b) : ∀ n : Nat, Cg p (a ^ n) (b ^ n)
  | 0 => by simpa using Cg.refl 1
  | n + 1 => by rw [Int.pow_succ, Int.pow_succ]; exact (Cg.pow h n).mul h
theorem Cg.emod {p : Nat} (a : Int) : Cg p (a % p) a := by
  refine ⟨-(a / p), ?_⟩
  have := Int.emod_add_mul_ediv a p
  grind
theorem Cg.iff {p : Nat} {a b : Int} : Cg p a b ↔ a % p = b % p := by
  constructor
  · intro h; exact Int.emod_eq_emod_iff_emod_sub_eq_zero.mpr (Int.emod_eq_zero_of_dvd h)
  · intro h
    exact Int.dvd_of_emod_eq_zero (Int.emod_eq_emod_iff_emod_sub_eq_zero.mp h)
theorem Pr.dvdI {p : Nat} (hp : Pr p) {a b : Int} (h : (p : Int) ∣ a * b) : (p : Int) ∣ a ∨ (p : Int) ∣ b := by
  rw [Int.ofNat_dvd_left, Int.natAbs_mul] at h
  rcases hp.dvd_mul h with h | h
  · exact .inl (Int.ofNat_dvd_left.mpr h)
  · exact .inr (Int.ofNat_dvd_left.mpr h)
theorem Pr.oneI {p : Nat} (hp : Pr p) : ¬ (p : Int) ∣ 1 := fun h => hp.one (by have := Int.ofNat_dvd_left.mp h; simpa using this)
theorem Pr.can {p : Nat} (hp : Pr p) {a b c : Int} (hc : ¬ (p : Int) ∣ c) (h : Cg p (c * a) (c * b)) : Cg p a b := by
  have : (p : Int) ∣ c * (a - b) := by
    obtain ⟨x, hx⟩ := h
    exact ⟨x, by grind⟩
  exact (hp.dvdI this).resolve_left hc
theorem prod_cg {p : Nat} (f g : Nat → Int) (h : ∀ x, Cg p (f x) (g x)) : ∀ l : List Nat, Cg p (l.map f).prod (l.map g).prod
  | [] => by simpa using Cg.refl 1
  | x :: l => by simp only [List.map_cons, List.prod_cons]; exact (h x).mul (prod_cg f g h l)
theorem prod_scale (c : Int) (f : Nat → Int) : ∀ l : List Nat, (l.map fun x => c * f x).prod = c ^ l.length * (l.map f).prod
  | [] => by simp
  | x :: l => by simp only [List.map_cons, List.prod_cons, List.length_cons, prod_scale c f l, Int.pow_succ]; grind
theorem prod_cast : ∀ l : List Nat, ((l.prod : Nat) : Int) = (l.map fun x : Nat => (x : Int)).prod
  | [] => rfl
  | x :: l => by simp only [List.map_cons, List.prod_cons, Int.natCast_mul, prod_cast l]
theorem fac_no {p : Nat} (hp : Pr p) {m : Nat} (hm : m < p) : ∀ l : List Nat, (∀ x, x ∈ l → 1 ≤ x ∧ x ≤ m) → ¬ (p : Int) ∣ (l.map fun x : Nat => (x : Int)).prod
  | [], _ => by simpa using hp.oneI
  | x :: l, h => by
    simp only [List.map_cons, List.prod_cons]
    intro d
    rcases hp.dvdI d with d | d
    · have := Int.natCast_dvd_natCast.mp d
      have := Nat.le_of_dvd (by have := (h x (by simp)).1; omega) this
      have := (h x (by simp)).2
      omega
    · exact fac_no hp hm l (fun y hy => h y (by simp [hy])) d
theorem emod_bd {p : Nat} (hp : Pr p) {a : Int} (ha : ¬ (p : Int) ∣ a) : 1 ≤ a % (p : Int) ∧ a % (p : Int) < p := by
  have h0 : (0 : Int) < p := by have := hp.1; omega
  have h1 := Int.emod_nonneg a (Int.ne_of_gt h0)
  have h2 := Int.emod_lt_of_pos a h0
  have : a % (p : Int) ≠ 0 := fun e => ha (Int.dvd_of_emod_eq_zero e)
  omega
theorem fermat {p : Nat} (hp : Pr p) {a : Int} (ha : ¬ (p : Int) ∣ a) : Cg p (a ^ (p - 1)) 1 := by
  have hp1 := hp.1
  let f : Nat → Nat := fun x => ((a * x) % (p : Int)).toNat
  have nd : ∀ x : Nat, 1 ≤ x → x ≤ p - 1 → ¬ (p : Int) ∣ a * x := fun x h1 h2 d => by
    rcases hp.dvdI d with d | d
    · exact ha d
    · have := Nat.le_of_dvd (by omega) (Int.natCast_dvd_natCast.mp d)
      omega
  have fe : ∀ x : Nat, ((f x : Nat) : Int) = (a * x) % (p : Int) := fun x => Int.toNat_of_nonneg (Int.emod_nonneg _ (by omega))
  have P : ((R1 (p - 1)).map f).Perm (R1 (p - 1)) := perm_self (fun x h1 h2 => by
    have := emod_bd hp (nd x h1 h2)
    have := fe x
    omega) (fun x y h1 h2 h3 h4 e => by
    have e2 : (a * x) % (p : Int) = (a * y) % (p : Int) := by rw [← fe, ← fe, e]
    have c := hp.can ha (Cg.iff.mpr e2)
    have c2 := Cg.iff.mp c
    rw [Int.emod_eq_of_lt (by omega) (by omega), Int.emod_eq_of_lt (by omega) (by omega)] at c2
    omega)
  have e1 : (((R1 (p - 1)).map f).map fun x : Nat => (x : Int)).prod = ((R1 (p - 1)).map fun x : Nat => (x : Int)).prod := by
    rw [← prod_cast, ← prod_cast, P.prod_nat]
  rw [List.map_map] at e1
  have e2 : Cg p ((R1 (p - 1)).map ((fun x : Nat => (x : Int)) ∘ f)).prod ((R1 (p - 1)).map fun x : Nat => a * (x : Int)).prod := prod_cg _ _ (fun x => by
    show Cg p ((f x : Nat) : Int) _
    rw [fe]; exact Cg.emod _) _
  rw [e1, prod_scale a (fun x : Nat => (x : Int)), List.length_range'] at e2
  refine hp.can (c := ((R1 (p - 1)).map fun x : Nat => (x : Int)).prod) (fac_no hp (m := p - 1) (by omega) _ (fun x hx => mem_R1.mp hx)) ?_
  obtain ⟨x, hx⟩ := e2
  exact ⟨-x, by grind⟩
end NT

namespace NT
/-! ### squares by an odd prime, reciprocity -/
/-- Euler's power is 1 -/
def sq (p : Nat) (a : Int) : Bool := decide (Cg p (a ^ ((p - 1) / 2)) 1)
structure Od (p : Nat) : Prop where
  pr : Pr p
  odd : p % 2 = 1
theorem Od.of {p : Nat} (h : Pr p) (h2 : p ≠ 2) : Od p := ⟨h, by
  refine Classical.byContradiction fun z => ?_
  rcases h.2 2 ⟨p / 2, by omega⟩ with e | e <;> omega⟩
theorem Od.ge {p : Nat} (h : Od p) : 3 ≤ p := by have := h.pr.1; have := h.odd; omega
theorem neg1 {p : Nat} (h : Od p) : ¬ Cg p 1 (-1) := by
  intro d
  have h3 := h.ge
  have d : (p : Int) ∣ 2 := d
  have := Int.le_of_dvd (by decide) d
  omega
theorem sq_or {p : Nat} (h : Od p) {a : Int} (ha : ¬ (p : Int) ∣ a) : Cg p (a ^ ((p - 1) / 2)) 1 ∨ Cg p (a ^ ((p - 1) / 2)) (-1) := by
  have f := fermat h.pr ha
  have e : p - 1 = (p - 1) / 2 + (p - 1) / 2 := by have := h.odd; omega
  have e2 : a ^ (p - 1) = a ^ ((p - 1) / 2) * a ^ ((p - 1) / 2) := by
    have := Int.pow_add a ((p - 1) / 2) ((p - 1) / 2)
    rw [← e] at this; exact this
  have : (p : Int) ∣ (a ^ ((p - 1) / 2) - 1) * (a ^ ((p - 1) / 2) - (-1)) := by
    rw [e2] at f
    obtain ⟨c, hc⟩ := f
    exact ⟨c, by grind⟩
  exact h.pr.dvdI this
theorem sq_f {p : Nat} (h : Od p) {a : Int} (ha : ¬ (p : Int) ∣ a) : sq p a = false ↔ Cg p (a ^ ((p - 1) / 2)) (-1) := by
  unfold sq
  rw [decide_eq_false_iff_not]
  constructor
  · intro z; exact (sq_or h ha).resolve_left z
  · intro z y; exact neg1 h (y.symm.trans z)
theorem sq_t {p : Nat} {a : Int} : sq p a = true ↔ Cg p (a ^ ((p - 1) / 2)) 1 := by
  unfold sq; rw [decide_eq_true_eq]
theorem Cg.dvd {p : Nat} {a b : Int} (h : Cg p a b) : (p : Int) ∣ a ↔ (p : Int) ∣ b := by
  obtain ⟨c, hc⟩ := h
  constructor
  · rintro ⟨x, hx⟩; exact ⟨x - c, by grind⟩
  · rintro ⟨x, hx⟩; exact ⟨x + c, by grind⟩
theorem sq_cg {p : Nat} {a b : Int} (h : Cg p a b) : sq p a = sq p b := by
  have := h.pow ((p - 1) / 2)
  unfold sq
  exact decide_eq_decide.mpr ⟨fun k => this.symm.trans k, fun k => this.trans k⟩
theorem sq_mul {p : Nat} (h : Od p) {a b : Int} (ha : ¬ (p : Int) ∣ a) (hb : ¬ (p : Int) ∣ b) : sq p (a * b) = (sq p a == sq p b) := by
  have hab : ¬ (p : Int) ∣ a * b := fun d => (h.pr.dvdI d).elim ha hb
  have e : (a * b) ^ ((p - 1) / 2) = a ^ ((p - 1) / 2) * b ^ ((p - 1) / 2) := Int.mul_pow ..
  cases h1 : sq p a <;> cases h2 : sq p b
  · have := ((sq_f h ha).mp h1).mul ((sq_f h hb).mp h2)
    rw [← e] at this
    exact sq_t.mpr (by simpa using this)
  · have := ((sq_f h ha).mp h1).mul (sq_t.mp h2)
    rw [← e] at this
    exact (sq_f h hab).mpr (by simpa using this)
  · have := (sq_t.mp h1).mul ((sq_f h hb).mp h2)
    rw [← e] at this
    exact (sq_f h hab).mpr (by simpa using this)
  · have := (sq_t.mp h1).mul (sq_t.mp h2)
    rw [← e] at this
    exact sq_t.mpr (by simpa using this)
theorem sq_sq {p : Nat} (h : Od p) {a x : Int} (ha : ¬ (p : Int) ∣ a) (e : Cg p (x * x) a) : sq p a = true := by
  have hx : ¬ (p : Int) ∣ x := fun d => ha (e.dvd.mp (Int.dvd_mul_of_dvd_left d))
  rw [← sq_cg e, sq_mul h hx hx]
  simp
theorem sq_one {p : Nat} : sq p 1 = true := by
  rw [sq_t, Int.one_pow]; exact Cg.refl 1
theorem sq_mulsq {p : Nat} (h : Od p) {a b : Int} (ha : ¬ (p : Int) ∣ a) (hb : ¬ (p : Int) ∣ b) : sq p (a * (b * b)) = sq p a := by
  have hbb : ¬ (p : Int) ∣ b * b := fun d => (h.pr.dvdI d).elim hb hb
  rw [sq_mul h ha hbb, sq_sq h hbb (Cg.refl _)]
  cases sq p a <;> rfl
theorem neg1_pow : ∀ n : Nat, (-1 : Int) ^ n = if n % 2 = 0 then 1 else -1
  | 0 => rfl
  | n + 1 => by
    rw [Int.pow_succ, neg1_pow n]
    by_cases h : n % 2 = 0
    · rw [if_pos h, if_neg (by omega)]; rfl
    · rw [if_neg h, if_pos (by omega)]; rfl
theorem cg_sign {p : Nat} (h : Od p) {n : Nat} {a : Int} (ha : ¬ (p : Int) ∣ a) (e : Cg p (a ^ ((p - 1) / 2)) ((-1) ^ n)) : sq p a = decide (n % 2 = 0) := by
  rw [neg1_pow] at e
  by_cases k : n % 2 = 0
  · rw [if_pos k] at e; rw [sq_t.mpr e]; simp [k]
  · rw [if_neg k] at e; rw [(sq_f h ha).mpr e]; simp [k]
theorem sq_neg1 {p : Nat} (h : Od p) : sq p (-1) = decide ((p - 1) / 2 % 2 = 0) := cg_sign h (fun d => h.pr.oneI (by simpa using (Int.dvd_neg.mpr d))) (Cg.refl _)
/-! Gauss -/
def rs (p a x : Nat) : Nat := a * x % p
def ff (p a x : Nat) : Nat := if rs p a x ≤ (p - 1) / 2 then rs p a x else p - rs p a x
def mu (p a : Nat) : Nat := ((R1 ((p - 1) / 2)).map fun x => if rs p a x ≤ (p - 1) / 2 then 0 else 1).sum
theorem rs_pos {p : Nat} (h : Pr p) {a x : Nat} (ha : ¬ p ∣ a) (h1 : 1 ≤ x) (h2 : x < p) : 1 ≤ rs p a x ∧ rs p a x < p := by
  have := h.1
  have h3 : rs p a x < p := Nat.mod_lt _ (by omega)
  have h4 : rs p a x ≠ 0 := fun e => by
    rcases h.dvd_mul (Nat.dvd_of_mod_eq_zero e) with d | d
    · exact ha d
    · have := Nat.le_of_dvd (by omega) d; omega
  omega
theorem ff_perm {p : Nat} (h : Od p) {a : Nat} (ha : ¬ p ∣ a) : ((R1 ((p - 1) / 2)).map (ff p a)).Perm (R1 ((p - 1) / 2)) := by
  have hge := h.ge
  have hod := h.odd
  refine perm_self (fun x h1 h2 => ?_) (fun x y h1 h2 h3 h4 e => ?_)
  · have := rs_pos h.pr ha h1 (by omega)
    unfold ff
    split <;> omega
  · have r1 := rs_pos h.pr ha h1 (by omega : x < p)
    have r2 := rs_pos h.pr ha h3 (by omega : y < p)
    have c1 : Cg p ((a : Int) * x) (rs p a x : Nat) := by
      unfold rs; rw [Int.natCast_emod, Int.natCast_mul]; exact (Cg.emod _).symm
    have c2 : Cg p ((a : Int) * y) (rs p a y : Nat) := by
      unfold rs; rw [Int.natCast_emod, Int.natCast_mul]; exact (Cg.emod _).symm
    have ha' : ¬ (p : Int) ∣ (a : Int) := fun d => ha (Int.natCast_dvd_natCast.mp d)
    by_cases q : rs p a x = rs p a y
    · rw [q] at c1
      have := Cg.iff.mp (h.pr.can ha' (c1.trans c2.symm))
      rw [Int.emod_eq_of_lt (by omega) (by omega), Int.emod_eq_of_lt (by omega) (by omega)] at this
      omega
    · have q2 : rs p a x + rs p a y = p := by
        unfold ff at e
        split at e <;> split at e <;> omega
      have c3 := c1.add c2
      have c4 : Cg p ((a : Int) * ((x : Int) + y)) (a * 0) := by
        obtain ⟨w, hw⟩ := c3
        refine ⟨w + 1, ?_⟩
        have : ((rs p a x : Nat) : Int) + (rs p a y : Nat) = p := by omega
        grind
      have := Cg.iff.mp (h.pr.can ha' c4)
      rw [Int.emod_eq_of_lt (by omega) (by omega)] at this
      simp at this
      omega
theorem gauss {p : Nat} (h : Od p) {a : Nat} (ha : ¬ p ∣ a) : sq p a = decide (mu p a % 2 = 0) := by
  have hge := h.ge
  have hod := h.odd
  have ha' : ¬ (p : Int) ∣ (a : Int) := fun d => ha (Int.natCast_dvd_natCast.mp d)
  refine cg_sign h ha' ?_
  let s : Nat → Int := fun x => if rs p a x ≤ (p - 1) / 2 then 1 else -1
  have e1 : Cg p ((R1 ((p - 1) / 2)).map fun x : Nat => (a : Int) * (x : Int)).prod ((R1 ((p - 1) / 2)).map fun x : Nat => s x * ((ff p a x : Nat) : Int)).prod := prod_cg _ _ (fun x => by
    have c1 : Cg p ((a : Int) * x) (rs p a x : Nat) := by
      unfold rs; rw [Int.natCast_emod, Int.natCast_mul]; exact (Cg.emod _).symm
    refine c1.trans ?_
    show Cg p _ ((if rs p a x ≤ (p - 1) / 2 then 1 else -1) * ((if rs p a x ≤ (p - 1) / 2 then rs p a x else p - rs p a x : Nat) : Int))
    have : rs p a x < p := Nat.mod_lt _ (by omega)
    by_cases k : rs p a x ≤ (p - 1) / 2
    · rw [if_pos k, if_pos k]; refine ⟨0, by grind⟩
    · rw [if_neg k, if_neg k, Int.ofNat_sub (by omega)]; refine ⟨1, by grind⟩) _
  have e2 : ∀ l : List Nat, (l.map fun x : Nat => s x * ((ff p a x : Nat) : Int)).prod = (-1 : Int) ^ (l.map fun x => if rs p a x ≤ (p - 1) / 2 then 0 else 1).sum * ((l.map (ff p a)).prod : Nat) := by
    intro l
    induction l with
    | nil => rfl
    | cons x l ih =>
      simp only [List.map_cons, List.prod_cons, List.sum_cons, ih, Int.natCast_mul, Int.pow_add]
      have : s x = (-1 : Int) ^ (if rs p a x ≤ (p - 1) / 2 then 0 else 1) := by
        show (if rs p a x ≤ (p - 1) / 2 then (1 : Int) else -1) = _
        split <;> rfl
      rw [this]; grind
  rw [prod_scale (a : Int) (fun x : Nat => (x : Int)), e2, (ff_perm h ha).prod_nat, List.length_range', prod_cast] at e1
  refine h.pr.can (c := ((R1 ((p - 1) / 2)).map fun x : Nat => (x : Int)).prod) (fac_no h.pr (m := (p - 1) / 2) (by omega) _ (fun x hx => mem_R1.mp hx)) ?_
  obtain ⟨x, hx⟩ := e1
  exact ⟨x, by unfold mu; grind⟩
/-! Eisenstein -/
theorem eis {p : Nat} (h : Od p) {a : Nat} (ha : ¬ p ∣ a) : (a * (R1 ((p - 1) / 2)).sum) % 2 = (((R1 ((p - 1) / 2)).map fun x => a * x / p).sum + mu p a + (R1 ((p - 1) / 2)).sum) % 2 := by
  have hge := h.ge
  have hod := h.odd
  have e : ∀ l : List Nat, (∀ x, x ∈ l → 1 ≤ x ∧ x < p) → (a * l.sum) % 2 = ((l.map fun x => a * x / p).sum + (l.map fun x => if rs p a x ≤ (p - 1) / 2 then 0 else 1).sum + (l.map (ff p a)).sum) % 2 := by
    intro l
    induction l with
    | nil => intro _; rfl
    | cons x l ih =>
      intro hl
      have := ih (fun y hy => hl y (by simp [hy]))
      simp only [List.map_cons, List.sum_cons]
      have d := Nat.div_add_mod (a * x) p
      have r1 := rs_pos h.pr ha (hl x (by simp)).1 (hl x (by simp)).2
      rw [Nat.mul_add]
      have pd : (p * (a * x / p)) % 2 = (a * x / p) % 2 := by
        rw [Nat.mul_mod, hod, Nat.one_mul, Nat.mod_mod]
      have rr : rs p a x = a * x % p := rfl
      have hf : ff p a x = if rs p a x ≤ (p - 1) / 2 then rs p a x else p - rs p a x := rfl
      rw [hf]
      split <;> omega
  have := e (R1 ((p - 1) / 2)) (fun x hx => by have := mem_R1.mp hx; omega)
  rw [(ff_perm h ha).sum_nat] at this
  exact this
theorem sumR : ∀ m : Nat, (R1 m).sum = m * (m + 1) / 2 := by
  intro m
  have : ∀ m : Nat, 2 * (R1 m).sum = m * (m + 1) := by
    intro m
    induction m with
    | zero => rfl
    | succ m ih =>
      have e : R1 (m + 1) = R1 m ++ [m + 1] := by
        show List.range' 1 (m + 1) = _
        rw [List.range'_1_concat]; simp [Nat.add_comm]
      rw [e, List.sum_append_nat]
      simp
      grind
  have := this m
  omega
theorem sq_two {p : Nat} (h : Od p) : sq p 2 = decide ((p - 1) / 2 * ((p - 1) / 2 + 1) / 2 % 2 = 0) := by
  have hge := h.ge
  have h2 : ¬ p ∣ 2 := fun d => by have := Nat.le_of_dvd (by decide) d; omega
  have e := eis h h2
  have z : ((R1 ((p - 1) / 2)).map fun x => 2 * x / p).sum = 0 := by
    have : ∀ l : List Nat, (∀ x, x ∈ l → 2 * x < p) → (l.map fun x => 2 * x / p).sum = 0 := by
      intro l
      induction l with
      | nil => intro _; rfl
      | cons x l ih =>
        intro hl
        simp only [List.map_cons, List.sum_cons, ih (fun y hy => hl y (by simp [hy]))]
        rw [Nat.div_eq_of_lt (hl x (by simp))]
    exact this _ (fun x hx => by have := mem_R1.mp hx; omega)
  rw [z, sumR] at e
  have g := gauss h h2
  rw [show ((2 : Nat) : Int) = 2 from rfl] at g
  rw [g]
  congr 1
  refine propext ⟨fun k => ?_, fun k => ?_⟩ <;> omega
/-! counting pairs -/
theorem count_swap {A : Nat → Nat → Bool} (l2 : List Nat) : ∀ l1 : List Nat, (l1.map fun x => l2.countP (A x)).sum = (l2.map fun y => l1.countP fun x => A x y).sum
  | [] => by
    simp
    induction l2 with
    | nil => rfl
    | cons y l ih => simp; exact ih
  | x :: l1 => by
    rw [List.map_cons, List.sum_cons, count_swap l2 l1]
    have : ∀ l2 : List Nat, l2.countP (A x) + (l2.map fun y => l1.countP fun x => A x y).sum = (l2.map fun y => (x :: l1).countP fun x => A x y).sum := by
      intro l2
      induction l2 with
      | nil => rfl
      | cons y l2 ih =>
        simp only [List.countP_cons, List.map_cons, List.sum_cons] at ih ⊢
        omega
    exact this l2
theorem count_le : ∀ (k m : Nat), m ≤ k → (R1 k).countP (fun y => decide (y ≤ m)) = m := by
  intro k
  induction k with
  | zero => intro m h; simp; omega
  | succ k ih =>
    intro m h
    have e : R1 (k + 1) = R1 k ++ [k + 1] := by
      show List.range' 1 (k + 1) = _
      rw [List.range'_1_concat]; simp [Nat.add_comm]
    rw [e, List.countP_append]
    by_cases hm : m = k + 1
    · subst hm
      have : (R1 k).countP (fun y => decide (y ≤ k + 1)) = (R1 k).length := List.countP_eq_length.mpr (fun y hy => by have := mem_R1.mp hy; simp; omega)
      rw [this]; simp
    · rw [ih m (by omega)]; simp; omega
theorem lattice {h k : Nat} (hc : ∀ x y, 1 ≤ x → x ≤ h → 1 ≤ y → y ≤ k → (2 * h + 1) * y ≠ (2 * k + 1) * x) :
    ((R1 h).map fun x => (2 * k + 1) * x / (2 * h + 1)).sum + ((R1 k).map fun y => (2 * h + 1) * y / (2 * k + 1)).sum = h * k := by
  have key : ∀ h k : Nat, ∀ x, 1 ≤ x → x ≤ h → (2 * k + 1) * x / (2 * h + 1) = (R1 k).countP (fun y => decide ((2 * h + 1) * y ≤ (2 * k + 1) * x)) := by
    intro h k x h1 h2
    have hle : (2 * k + 1) * x / (2 * h + 1) ≤ k := by
      rw [← Nat.lt_succ_iff, Nat.div_lt_iff_lt_mul (by omega)]
      have : (2 * k + 1) * x ≤ (2 * k + 1) * h := Nat.mul_le_mul_left _ h2
      have e1 : (2 * k + 1) * h = 2 * (k * h) + h := by grind
      have e2 : (k + 1) * (2 * h + 1) = 2 * (k * h) + k + 2 * h + 1 := by grind
      rw [Nat.succ_eq_add_one, e2]; omega
    rw [← count_le k _ hle]
    apply List.countP_congr
    intro y _
    simp only [decide_eq_true_eq]
    rw [Nat.le_div_iff_mul_le (by omega), Nat.mul_comm y]
  have e1 : ((R1 h).map fun x => (2 * k + 1) * x / (2 * h + 1)) = (R1 h).map fun x => (R1 k).countP (fun y => decide ((2 * h + 1) * y ≤ (2 * k + 1) * x)) := List.map_congr_left (fun x hx => key h k x (mem_R1.mp hx).1 (mem_R1.mp hx).2)
  have e2 : ((R1 k).map fun y => (2 * h + 1) * y / (2 * k + 1)) = (R1 k).map fun y => (R1 h).countP (fun x => decide ((2 * k + 1) * x ≤ (2 * h + 1) * y)) := List.map_congr_left (fun y hy => key k h y (mem_R1.mp hy).1 (mem_R1.mp hy).2)
  rw [e1, e2, ← count_swap (A := fun x y => decide ((2 * k + 1) * x ≤ (2 * h + 1) * y))]
  have : ∀ l : List Nat, (∀ x, x ∈ l → 1 ≤ x ∧ x ≤ h) → (l.map fun x => (R1 k).countP (fun y => decide ((2 * h + 1) * y ≤ (2 * k + 1) * x))).sum + (l.map fun x => (R1 k).countP (fun y => decide ((2 * k + 1) * x ≤ (2 * h + 1) * y))).sum = l.length * k := by
    intro l
    induction l with
    | nil => intro _; simp
    | cons x l ih =>
      intro hl
      have i := ih (fun y hy => hl y (by simp [hy]))
      simp only [List.map_cons, List.sum_cons, List.length_cons]
      have : (R1 k).countP (fun y => decide ((2 * h + 1) * y ≤ (2 * k + 1) * x)) + (R1 k).countP (fun y => decide ((2 * k + 1) * x ≤ (2 * h + 1) * y)) = k := by
        have z := List.length_eq_countP_add_countP (fun y => decide ((2 * h + 1) * y ≤ (2 * k + 1) * x)) (l := R1 k)
        rw [List.length_range'] at z
        have : (R1 k).countP (fun y => decide ((2 * k + 1) * x ≤ (2 * h + 1) * y)) = (R1 k).countP (fun y => decide (¬ decide ((2 * h + 1) * y ≤ (2 * k + 1) * x) = true)) := by
          apply List.countP_congr
          intro y hy
          have := hc x y (hl x (by simp)).1 (hl x (by simp)).2 (mem_R1.mp hy).1 (mem_R1.mp hy).2
          simp
          omega
        rw [this]; omega
      have e : (l.length + 1) * k = l.length * k + k := Nat.succ_mul ..
      omega
  have := this (R1 h) (fun x hx => mem_R1.mp hx)
  rw [List.length_range'] at this
  exact this
/-- quadratic reciprocity -/
theorem recip {p q : Nat} (hp : Od p) (hq : Od q) (hne : p ≠ q) : (sq p q == sq q p) = decide ((p - 1) / 2 * ((q - 1) / 2) % 2 = 0) := by
  have gp := hp.ge
  have gq := hq.ge
  have op := hp.odd
  have oq := hq.odd
  have h1 : ¬ p ∣ q := fun d => hne (hp.pr.eq hq.pr d)
  have h2 : ¬ q ∣ p := fun d => hne (hq.pr.eq hp.pr d).symm
  have l := lattice (h := (p - 1) / 2) (k := (q - 1) / 2) (fun x y a b c d e => by
    rw [show 2 * ((p - 1) / 2) + 1 = p by omega, show 2 * ((q - 1) / 2) + 1 = q by omega] at e
    rcases hp.pr.dvd_mul ⟨y, e.symm⟩ with z | z
    · exact h1 z
    · have := Nat.le_of_dvd (by omega) z; omega)
  rw [show 2 * ((p - 1) / 2) + 1 = p by omega, show 2 * ((q - 1) / 2) + 1 = q by omega] at l
  have e1 := eis hp h1
  have e2 := eis hq h2
  rw [Nat.mul_mod, oq] at e1
  rw [Nat.mul_mod, op] at e2
  rw [gauss hp h1, gauss hq h2, ← l]
  have : ∀ a b c : Nat, (a + b) % 2 = c % 2 → (decide (a % 2 = 0) == decide (b % 2 = 0)) = decide (c % 2 = 0) := by
    intro a b c h
    by_cases x : a % 2 = 0 <;> by_cases y : b % 2 = 0 <;> by_cases z : c % 2 = 0 <;> simp [x, y, z] <;> omega
  apply this
  omega
end NT

namespace NT
/-! ### products of primes -/
theorem prod_pos : ∀ ps : List Nat, (∀ p, p ∈ ps → Pr p) → 0 < ps.prod
  | [], _ => by simp
  | p :: ps, h => by
    rw [List.prod_cons]
    exact Nat.mul_pos (h p (by simp)).pos (prod_pos ps fun q hq => h q (by simp [hq]))
theorem vp_prod {q : Nat} (hq : Pr q) : ∀ ps : List Nat, ps.Nodup → (∀ p, p ∈ ps → Pr p) → vp q ps.prod = if q ∈ ps then 1 else 0
  | [], _, _ => by simp [vp_one hq]
  | p :: ps, nd, h => by
    obtain ⟨n1, n2⟩ := List.nodup_cons.mp nd
    have hp := h p (by simp)
    rw [List.prod_cons, vp_mul hq hp.pos (prod_pos ps fun q hq => h q (by simp [hq])), vp_prod hq ps n2 fun q hq => h q (by simp [hq])]
    by_cases e : q = p
    · subst e; rw [vp_self hq, if_neg n1, if_pos (by simp)]
    · rw [vp_other hq hp e]; simp [e]
theorem prod_dvd {n : Nat} (hn : 0 < n) (ps : List Nat) (nd : ps.Nodup) (h : ∀ p, p ∈ ps → Pr p ∧ p ∣ n) : ps.prod ∣ n := by
  refine dvd_of_vp _ _ (prod_pos ps fun p hp => (h p hp).1) hn fun q hq => ?_
  rw [vp_prod hq ps nd fun p hp => (h p hp).1]
  by_cases z : q ∈ ps
  · rw [if_pos z]; exact (vp_pos hq.1 hn).mp (h q z).2
  · rw [if_neg z]; exact Nat.zero_le _
theorem two_pow_le : ∀ ps : List Nat, (∀ p, p ∈ ps → 2 ≤ p) → 2 ^ ps.length ≤ ps.prod
  | [], _ => by simp
  | p :: ps, h => by
    rw [List.prod_cons, List.length_cons, Nat.pow_succ, Nat.mul_comm]
    exact Nat.mul_le_mul (h p (by simp)) (two_pow_le ps fun q hq => h q (by simp [hq]))
def fac : Nat → Nat
  | 0 => 1
  | n + 1 => (n + 1) * fac n
theorem fac_le : ∀ (k : Nat) (ps : List Nat), ps.length = k → ps.Nodup → (∀ p, p ∈ ps → 2 ≤ p) → fac (k + 1) ≤ ps.prod := by
  intro k
  induction k with
  | zero => intro ps hl _ _; rw [List.length_eq_zero_iff.mp hl]; decide
  | succ k ih =>
    intro ps hl nd h
    have : ∃ m, m ∈ ps ∧ k + 2 ≤ m := by
      refine Classical.byContradiction fun z => ?_
      have sub : ps ⊆ List.range' 2 k := fun m hm => by
        rw [List.mem_range'_1]
        have := h m hm
        have : ¬ k + 2 ≤ m := fun y => z ⟨m, hm, y⟩
        omega
      have := nd.length_le_of_subset sub
      rw [List.length_range', hl] at this
      omega
    obtain ⟨m, hm, hk⟩ := this
    have pe := List.perm_cons_erase hm
    rw [pe.prod_nat, List.prod_cons]
    have := ih (ps.erase m) (by rw [List.length_erase_of_mem hm, hl]; rfl) (nd.erase m) fun p hp => h p (List.mem_of_mem_erase hp)
    exact Nat.mul_le_mul hk this
theorem fac_mono {a b : Nat} (h : a ≤ b) : fac a ≤ fac b := by
  induction h with
  | refl => exact Nat.le_refl _
  | @step b h ih =>
    have : 1 * fac b ≤ (b + 1) * fac b := Nat.mul_le_mul_right _ (by omega)
    rw [Nat.one_mul] at this
    exact Nat.le_trans ih this
/-- few primes divide a number of ninety figures -/
theorem few_primes {n : Nat} (hn : 0 < n) (hb : n ≤ 10 ^ 90) (ps : List Nat) (nd : ps.Nodup) (h : ∀ p, p ∈ ps → Pr p ∧ p ∣ n) : ps.length < 64 := by
  refine Classical.byContradiction fun z => ?_
  have h1 := Nat.le_of_dvd hn (prod_dvd hn ps nd h)
  have h2 := fac_le ps.length ps rfl nd fun p hp => (h p hp).1.1
  have h3 := fac_mono (show 65 ≤ ps.length + 1 by omega)
  have h4 : 10 ^ 90 < fac 65 := by decide +kernel
  omega
/-! ascending lists -/
theorem asc_nodup {ps : List Nat} (h : ps.Pairwise (· < ·)) : ps.Nodup := h.imp fun h e => by omega
theorem asc_eq {ps qs : List Nat} (h : ps.Pairwise (· < ·)) (k : qs.Pairwise (· < ·)) (m : ∀ p, p ∈ ps ↔ p ∈ qs) : ps = qs := by
  have pm := (List.perm_ext_iff_of_nodup (asc_nodup h) (asc_nodup k)).mpr m
  exact List.Perm.eq_of_pairwise (le := (· ≤ ·)) (fun a b _ _ h1 h2 => Nat.le_antisymm h1 h2) (h.imp Nat.le_of_lt) (k.imp Nat.le_of_lt) pm
end NT

namespace NT
/-! ### symbols of two numbers by a prime -/
def vI (p : Nat) (a : Int) : Nat := vp p a.natAbs
def uI (p : Nat) (a : Int) : Int := a / ((p ^ vI p a : Nat) : Int)
theorem uI_spec {p : Nat} (hp : Pr p) {a : Int} (ha : a ≠ 0) : a = ((p ^ vI p a : Nat) : Int) * uI p a ∧ ¬ (p : Int) ∣ uI p a ∧ uI p a ≠ 0 := by
  have hd : ((p ^ vI p a : Nat) : Int) ∣ a := Int.ofNat_dvd_left.mpr (dvd_pow_vp hp.1 (Int.natAbs_pos.mpr ha))
  have e : a = ((p ^ vI p a : Nat) : Int) * uI p a := (Int.mul_ediv_cancel' hd).symm
  refine ⟨e, fun d => ?_, fun z => ha (by rw [e, z, Int.mul_zero])⟩
  obtain ⟨m, h1, h2, h3⟩ := vp_spec hp.1 a.natAbs (Int.natAbs_pos.mpr ha)
  have h4 : a.natAbs = p ^ vI p a * (uI p a).natAbs := by
    conv => lhs; rw [e]
    rw [Int.natAbs_mul, Int.natAbs_natCast]
  have h5 : m = (uI p a).natAbs := by
    have : p ^ vI p a * m = p ^ vI p a * (uI p a).natAbs := by rw [← h4]; exact h1.symm
    exact Nat.eq_of_mul_eq_mul_left (Nat.pow_pos hp.pos) this
  exact h2 (h5 ▸ Int.ofNat_dvd_left.mp d)
theorem uI_uniq {p : Nat} (hp : Pr p) {a u : Int} {k : Nat} (ha : a ≠ 0) (e : a = ((p ^ k : Nat) : Int) * u) (hu : ¬ (p : Int) ∣ u) : vI p a = k ∧ uI p a = u := by
  have u0 : u ≠ 0 := fun z => ha (by rw [e, z, Int.mul_zero])
  have h1 : vI p a = k := by
    unfold vI
    rw [e, Int.natAbs_mul, Int.natAbs_natCast, vp_pow hp.1 (Int.natAbs_pos.mpr u0), vp_no fun d => hu (Int.ofNat_dvd_left.mpr d)]
    rfl
  refine ⟨h1, ?_⟩
  unfold uI
  rw [h1, e, Int.mul_ediv_cancel_left _ (by have := Nat.pow_pos (n := k) hp.pos; omega)]
theorem vuI_mul {p : Nat} (hp : Pr p) {a b : Int} (ha : a ≠ 0) (hb : b ≠ 0) : vI p (a * b) = vI p a + vI p b ∧ uI p (a * b) = uI p a * uI p b := by
  obtain ⟨e1, n1, _⟩ := uI_spec hp ha
  obtain ⟨e2, n2, _⟩ := uI_spec hp hb
  refine uI_uniq hp (Int.mul_ne_zero ha hb) ?_ (fun d => (hp.dvdI d).elim n1 n2)
  rw [Nat.pow_add, Int.natCast_mul]
  conv => lhs; rw [e1, e2]
  grind
theorem uI_unit {p : Nat} (hp : Pr p) {a : Int} (ha : ¬ (p : Int) ∣ a) : vI p a = 0 ∧ uI p a = a := by
  have a0 : a ≠ 0 := by rintro rfl; exact ha (Int.dvd_zero _)
  exact uI_uniq (k := 0) hp a0 (by simp) ha
theorem uI_self {p : Nat} (hp : Pr p) : vI p (p : Int) = 1 ∧ uI p (p : Int) = 1 :=
  uI_uniq (k := 1) hp (by have := hp.1; omega) (by simp) hp.oneI
/-- the characters -/
def chi (p : Nat) (u : Int) : Bool := if p = 2 then decide (u % 8 = 3 ∨ u % 8 = 5) else !sq p u
def eps (p : Nat) (u : Int) : Bool := if p = 2 then decide (u % 4 = 3) else false
def cc (p : Nat) : Bool := if p = 2 then false else decide ((p - 1) / 2 % 2 = 1)
theorem odd_of {u : Int} (h : ¬ ((2 : Nat) : Int) ∣ u) : u % 2 = 1 := by
  have : ¬ (2 : Int) ∣ u := h
  omega
theorem chi_mul {p : Nat} (hp : Pr p) {u v : Int} (hu : ¬ (p : Int) ∣ u) (hv : ¬ (p : Int) ∣ v) : chi p (u * v) = (chi p u ^^ chi p v) := by
  unfold chi
  by_cases h : p = 2
  · subst h
    rw [if_pos rfl, if_pos rfl, if_pos rfl]
    have h1 := odd_of hu
    have h2 := odd_of hv
    have e : (u * v) % 8 = (u % 8) * (v % 8) % 8 := Int.mul_emod ..
    have a1 : u % 8 = 1 ∨ u % 8 = 3 ∨ u % 8 = 5 ∨ u % 8 = 7 := by omega
    have a2 : v % 8 = 1 ∨ v % 8 = 3 ∨ v % 8 = 5 ∨ v % 8 = 7 := by omega
    rw [e]
    rcases a1 with h | h | h | h <;> rcases a2 with k | k | k | k <;> rw [h, k] <;> decide
  · rw [if_neg h, if_neg h, if_neg h, sq_mul (Od.of hp h) hu hv]
    cases sq p u <;> cases sq p v <;> rfl
theorem eps_mul {p : Nat} {u v : Int} (hu : ¬ (p : Int) ∣ u) (hv : ¬ (p : Int) ∣ v) : eps p (u * v) = (eps p u ^^ eps p v) := by
  unfold eps
  by_cases h : p = 2
  · subst h
    rw [if_pos rfl, if_pos rfl, if_pos rfl]
    have h1 := odd_of hu
    have h2 := odd_of hv
    have e : (u * v) % 4 = (u % 4) * (v % 4) % 4 := Int.mul_emod ..
    have a1 : u % 4 = 1 ∨ u % 4 = 3 := by omega
    have a2 : v % 4 = 1 ∨ v % 4 = 3 := by omega
    rw [e]
    rcases a1 with h | h <;> rcases a2 with k | k <;> rw [h, k] <;> decide
  · rw [if_neg h, if_neg h, if_neg h]; rfl
theorem chi_one {p : Nat} : chi p 1 = false := by
  unfold chi
  split
  · decide
  · rw [sq_one]; rfl
theorem eps_one {p : Nat} : eps p 1 = false := by
  unfold eps
  split
  · decide
  · rfl
theorem neg_nd {p : Nat} {u : Int} (hu : ¬ (p : Int) ∣ u) : ¬ (p : Int) ∣ -u := fun d => hu (Int.dvd_neg.mp d)
theorem one_nd {p : Nat} (hp : Pr p) : ¬ (p : Int) ∣ (-1 : Int) := neg_nd hp.oneI
theorem chi_neg1 {p : Nat} (hp : Pr p) : chi p (-1) = cc p := by
  unfold chi cc
  by_cases h : p = 2
  · rw [if_pos h, if_pos h]; decide
  · rw [if_neg h, if_neg h, sq_neg1 (Od.of hp h)]
    by_cases k : (p - 1) / 2 % 2 = 0
    · have : ¬ (p - 1) / 2 % 2 = 1 := by omega
      simp [k]
    · have : (p - 1) / 2 % 2 = 1 := by omega
      simp [this]
def oI (p : Nat) (a : Int) : Bool := decide (vI p a % 2 = 1)
def hs (p : Nat) (a b : Int) : Bool := (oI p a && oI p b && cc p) ^^ (oI p b && chi p (uI p a)) ^^ (oI p a && chi p (uI p b)) ^^ (eps p (uI p a) && eps p (uI p b))
theorem hs_symm (p : Nat) (a b : Int) : hs p a b = hs p b a := by
  unfold hs
  generalize oI p a = x; generalize oI p b = y; generalize cc p = c
  generalize chi p (uI p a) = s; generalize chi p (uI p b) = t; generalize eps p (uI p a) = e; generalize eps p (uI p b) = f
  cases x <;> cases y <;> cases c <;> cases s <;> cases t <;> cases e <;> cases f <;> rfl
theorem oI_mul {p : Nat} (hp : Pr p) {a b : Int} (ha : a ≠ 0) (hb : b ≠ 0) : oI p (a * b) = (oI p a ^^ oI p b) := by
  unfold oI
  rw [(vuI_mul hp ha hb).1]
  by_cases h1 : vI p a % 2 = 1 <;> by_cases h2 : vI p b % 2 = 1 <;> simp [h1, h2] <;> omega
theorem hs_mul {p : Nat} (hp : Pr p) {a a' b : Int} (ha : a ≠ 0) (ha' : a' ≠ 0) : hs p (a * a') b = (hs p a b ^^ hs p a' b) := by
  have n1 := (uI_spec hp ha).2.1
  have n2 := (uI_spec hp ha').2.1
  unfold hs
  rw [oI_mul hp ha ha', (vuI_mul hp ha ha').2, chi_mul hp n1 n2, eps_mul n1 n2]
  generalize oI p a = x; generalize oI p a' = x'; generalize oI p b = y; generalize cc p = c
  generalize chi p (uI p a) = s; generalize chi p (uI p a') = s'; generalize chi p (uI p b) = t
  generalize eps p (uI p a) = e; generalize eps p (uI p a') = e'; generalize eps p (uI p b) = f
  cases x <;> cases x' <;> cases y <;> cases c <;> cases s <;> cases s' <;> cases t <;> cases e <;> cases e' <;> cases f <;> rfl
theorem hs_mulR {p : Nat} (hp : Pr p) {a b b' : Int} (hb : b ≠ 0) (hb' : b' ≠ 0) : hs p a (b * b') = (hs p a b ^^ hs p a b') := by
  rw [hs_symm, hs_mul hp hb hb', hs_symm p b, hs_symm p b']
theorem hs_sq {p : Nat} (hp : Pr p) {s b : Int} (hs0 : s ≠ 0) : hs p (s * s) b = false := by
  rw [hs_mul hp hs0 hs0]; cases hs p s b <;> rfl
theorem hs_mulsq {p : Nat} (hp : Pr p) {a s b : Int} (ha : a ≠ 0) (hs0 : s ≠ 0) : hs p (a * (s * s)) b = hs p a b := by
  rw [hs_mul hp ha (Int.mul_ne_zero hs0 hs0), hs_sq hp hs0]; cases hs p a b <;> rfl
/-- the same but for squares -/
theorem hs_class {p : Nat} (hp : Pr p) {a a' b : Int} (ha : a ≠ 0) (ha' : a' ≠ 0) {r : Int} (e : a * a' = r * r) : hs p a b = hs p a' b := by
  have r0 : r ≠ 0 := by
    rintro rfl
    exact Int.mul_ne_zero ha ha' (by simpa using e)
  have := hs_mul hp ha ha' (b := b)
  rw [e, hs_sq hp r0] at this
  revert this
  cases hs p a b <;> cases hs p a' b <;> simp
theorem hs_neg {p : Nat} (hp : Pr p) {a : Int} (ha : a ≠ 0) : hs p a (-a) = false := by
  have n1 := (uI_spec hp ha).2.1
  have e : -a = a * (-1) := by grind
  have h1 : vI p (-a) = vI p a ∧ uI p (-a) = -uI p a := by
    have := vuI_mul hp ha (show (-1 : Int) ≠ 0 by decide)
    obtain ⟨z1, z2⟩ := uI_unit hp (one_nd hp)
    rw [z1, z2, ← e] at this
    exact ⟨this.1, by rw [this.2]; grind⟩
  have h2 : oI p (-a) = oI p a := by unfold oI; rw [h1.1]
  have h3 : chi p (-uI p a) = (chi p (uI p a) ^^ cc p) := by
    have : -uI p a = uI p a * (-1) := by grind
    rw [this, chi_mul hp n1 (one_nd hp), chi_neg1 hp]
  have h4 : (eps p (uI p a) && eps p (-uI p a)) = false := by
    unfold eps
    by_cases h : p = 2
    · subst h
      have := odd_of n1
      rw [if_pos rfl, if_pos rfl]
      by_cases k : uI 2 a % 4 = 3
      · have : ¬ (-uI 2 a) % 4 = 3 := by omega
        simp [this]
      · simp [k]
    · rw [if_neg h, if_neg h]; rfl
  unfold hs
  rw [h1.2, h2, h3, h4]
  cases oI p a <;> cases chi p (uI p a) <;> cases cc p <;> rfl
theorem hs_self {p : Nat} (hp : Pr p) {a : Int} (ha : a ≠ 0) : hs p a a = hs p a (-1) := by
  have := hs_neg hp ha
  have e : -a = a * (-1) := by grind
  rw [e, hs_mulR hp ha (by decide)] at this
  revert this
  cases hs p a a <;> cases hs p a (-1) <;> simp
/-- units by an odd prime -/
theorem hs_unit {p : Nat} (hp : Pr p) (h2 : p ≠ 2) {a b : Int} (ha : ¬ (p : Int) ∣ a) (hb : ¬ (p : Int) ∣ b) : hs p a b = false := by
  unfold hs oI eps
  rw [(uI_unit hp ha).1, (uI_unit hp hb).1, if_neg h2]
  simp
/-! ### the product formula -/
def xs (f : Nat → Bool) : List Nat → Bool
  | [] => false
  | p :: S => f p ^^ xs f S
theorem xs_xor (f g : Nat → Bool) : ∀ S, xs (fun p => f p ^^ g p) S = (xs f S ^^ xs g S)
  | [] => rfl
  | p :: S => by
    simp only [xs, xs_xor f g S]
    cases f p <;> cases g p <;> cases xs f S <;> cases xs g S <;> rfl
theorem xs_congr {f g : Nat → Bool} : ∀ {S : List Nat}, (∀ p, p ∈ S → f p = g p) → xs f S = xs g S
  | [], _ => rfl
  | p :: S, h => by
    have e := xs_congr (f := f) (g := g) (S := S) fun q hq => h q (List.mem_cons_of_mem _ hq)
    simp only [xs, h p (by simp), e]
theorem xs_false {f : Nat → Bool} {S : List Nat} (h : ∀ p, p ∈ S → f p = false) : xs f S = false := by
  induction S with
  | nil => rfl
  | cons p S ih => simp only [xs, h p (by simp), ih fun q hq => h q (by simp [hq])]; rfl
theorem xs_erase {f : Nat → Bool} {q : Nat} : ∀ {S : List Nat}, q ∈ S → xs f S = (f q ^^ xs f (S.erase q))
  | [], h => by simp at h
  | p :: S, h => by
    by_cases e : p = q
    · subst e; rw [List.erase_cons_head]; rfl
    · have : (p :: S).erase q = p :: S.erase q := List.erase_cons_tail (by simpa using e)
      rw [this]
      simp only [xs]
      rw [xs_erase ((List.mem_cons.mp h).resolve_left (Ne.symm e))]
      cases f p <;> cases f q <;> cases xs f (S.erase q) <;> rfl
theorem xs_one {f : Nat → Bool} {q : Nat} {S : List Nat} (nd : S.Nodup) (h : q ∈ S) (z : ∀ p, p ∈ S → p ≠ q → f p = false) : xs f S = f q := by
  rw [xs_erase h, xs_false fun p hp => z p (List.mem_of_mem_erase hp) (nd.mem_erase_iff.mp hp).1]
  cases f q <;> rfl
theorem xs_two {f : Nat → Bool} {q r : Nat} {S : List Nat} (nd : S.Nodup) (h : q ∈ S) (k : r ∈ S) (hqr : q ≠ r) (z : ∀ p, p ∈ S → p ≠ q → p ≠ r → f p = false) : xs f S = (f q ^^ f r) := by
  rw [xs_erase h, xs_one (nd.erase q) (nd.mem_erase_iff.mpr ⟨Ne.symm hqr, k⟩) fun p hp hpr => z p (List.mem_of_mem_erase hp) (nd.mem_erase_iff.mp hp).1 hpr]
theorem xs_three {f : Nat → Bool} {q r t : Nat} {S : List Nat} (nd : S.Nodup) (h : q ∈ S) (k : r ∈ S) (l : t ∈ S) (hqr : q ≠ r) (hqt : q ≠ t) (hrt : r ≠ t) (z : ∀ p, p ∈ S → p ≠ q → p ≠ r → p ≠ t → f p = false) : xs f S = (f q ^^ (f r ^^ f t)) := by
  rw [xs_erase h, xs_two (nd.erase q) (nd.mem_erase_iff.mpr ⟨Ne.symm hqr, k⟩) (nd.mem_erase_iff.mpr ⟨Ne.symm hqt, l⟩) hrt fun p hp h1 h2 => z p (List.mem_of_mem_erase hp) (nd.mem_erase_iff.mp hp).1 h1 h2]
theorem xs_count (f : Nat → Bool) : ∀ S, xs f S = decide (S.countP f % 2 = 1)
  | [] => rfl
  | p :: S => by
    simp only [xs, xs_count f S, List.countP_cons]
    cases f p
    · simp
    · by_cases h : S.countP f % 2 = 1 <;> simp [h] <;> omega
def ng (a : Int) : Bool := decide (a < 0)
theorem ng_mul {a b : Int} (ha : a ≠ 0) (hb : b ≠ 0) : ng (a * b) = (ng a ^^ ng b) := by
  unfold ng
  by_cases h1 : a < 0 <;> by_cases h2 : b < 0
  · have := Int.mul_pos_of_neg_of_neg h1 h2
    simp [h1, h2]; omega
  · have := Int.mul_neg_of_neg_of_pos h1 (show 0 < b by omega)
    simp [h1, h2, this]
  · have := Int.mul_neg_of_pos_of_neg (show 0 < a by omega) h2
    simp [h1, h2, this]
  · have := Int.mul_pos (show 0 < a by omega) (show 0 < b by omega)
    simp [h1, h2]; omega
/-- the product over S and the signs -/
def pf (S : List Nat) (a b : Int) : Bool := xs (fun p => hs p a b) S ^^ (ng a && ng b)
structure Pl (S : List Nat) : Prop where
  nd : S.Nodup
  pr : ∀ p, p ∈ S → Pr p
  two : 2 ∈ S
theorem pf_mul {S : List Nat} (h : Pl S) {a a' b : Int} (ha : a ≠ 0) (ha' : a' ≠ 0) : pf S (a * a') b = (pf S a b ^^ pf S a' b) := by
  unfold pf
  rw [xs_congr fun p hp => hs_mul (h.pr p hp) ha ha', xs_xor, ng_mul ha ha']
  cases xs (fun p => hs p a b) S <;> cases xs (fun p => hs p a' b) S <;> cases ng a <;> cases ng a' <;> cases ng b <;> rfl
theorem pf_symm (S : List Nat) (a b : Int) : pf S a b = pf S b a := by
  unfold pf
  rw [xs_congr fun p _ => hs_symm p a b]
  cases ng a <;> cases ng b <;> rfl
theorem hs_one {p : Nat} (hp : Pr p) (b : Int) : hs p 1 b = false := by
  have := hs_sq hp (s := 1) (b := b) (by decide)
  simpa using this
theorem pf_one {S : List Nat} (h : Pl S) (b : Int) : pf S 1 b = false := by
  unfold pf
  rw [xs_false fun p hp => hs_one (h.pr p hp) b]
  have : ng 1 = false := rfl
  rw [this]; rfl
theorem pr2 : Pr 2 := ⟨by decide, fun d hd => by
  have := Nat.le_of_dvd (by decide) hd
  have : d ≠ 0 := by rintro rfl; exact absurd hd (by decide)
  omega⟩
theorem nd_prime {p q : Nat} (hp : Pr p) (hq : Pr q) (h : p ≠ q) : ¬ (p : Int) ∣ (q : Int) := fun d => h (hp.eq hq (Int.natCast_dvd_natCast.mp d))
theorem hs2_units {a b : Int} (ha : ¬ ((2 : Nat) : Int) ∣ a) (hb : ¬ ((2 : Nat) : Int) ∣ b) : hs 2 a b = (decide (a % 4 = 3) && decide (b % 4 = 3)) := by
  unfold hs oI
  rw [(uI_unit pr2 ha).1, (uI_unit pr2 hb).1, (uI_unit pr2 ha).2, (uI_unit pr2 hb).2]
  simp [eps]
theorem hs_pu {p : Nat} (hp : Pr p) (h2 : p ≠ 2) {b : Int} (hb : ¬ (p : Int) ∣ b) : hs p (p : Int) b = chi p b := by
  unfold hs oI
  rw [(uI_self hp).1, (uI_self hp).2, (uI_unit hp hb).1, (uI_unit hp hb).2, eps_one]
  simp
theorem hs2_2u {b : Int} (hb : ¬ ((2 : Nat) : Int) ∣ b) : hs 2 2 b = chi 2 b := by
  unfold hs oI
  have e := uI_self pr2
  rw [show ((2 : Nat) : Int) = 2 from rfl] at e
  rw [e.1, e.2, (uI_unit pr2 hb).1, (uI_unit pr2 hb).2, eps_one]
  simp
theorem pf_11 {S : List Nat} (h : Pl S) : pf S (-1) (-1) = false := by
  unfold pf
  rw [xs_one h.nd h.two fun p hp hp2 => hs_unit (h.pr p hp) hp2 (one_nd (h.pr p hp)) (one_nd (h.pr p hp)), hs2_units (one_nd pr2) (one_nd pr2)]
  decide
theorem pf_12 {S : List Nat} (h : Pl S) : pf S 2 (-1) = false := by
  unfold pf
  rw [xs_one h.nd h.two fun p hp hp2 => hs_unit (h.pr p hp) hp2 (show ¬ (p : Int) ∣ 2 from nd_prime (h.pr p hp) pr2 hp2) (one_nd (h.pr p hp)), hs2_2u (one_nd pr2)]
  decide
theorem odd_pr {q : Nat} (hq : Pr q) (h2 : q ≠ 2) : (q : Int) % 2 = 1 := by have := (Od.of hq h2).odd; omega
theorem pf_1q {S : List Nat} (h : Pl S) {q : Nat} (hq : Pr q) (h2 : q ≠ 2) (hS : q ∈ S) : pf S (q : Int) (-1) = false := by
  unfold pf
  rw [xs_two h.nd h.two hS (Ne.symm h2) fun p hp hp2 hpq => hs_unit (h.pr p hp) hp2 (nd_prime (h.pr p hp) hq hpq) (one_nd (h.pr p hp)), hs2_units (nd_prime pr2 hq (Ne.symm h2)) (one_nd pr2), hs_pu hq h2 (one_nd hq), chi_neg1 hq]
  unfold cc ng
  rw [if_neg h2]
  have := (Od.of hq h2).odd
  by_cases k : q % 4 = 3
  · have k1 : (q : Int) % 4 = 3 := by omega
    have k2 : (q - 1) / 2 % 2 = 1 := by omega
    simp [k1, k2]
  · have k1 : ¬ (q : Int) % 4 = 3 := by omega
    have k2 : ¬ (q - 1) / 2 % 2 = 1 := by omega
    have k3 : ¬ (q : Int) < 0 := by omega
    simp [k1, k2, k3]
theorem tri_par (h : Nat) : h * (h + 1) / 2 % 2 = 0 ↔ h % 4 = 0 ∨ h % 4 = 3 := by
  have e : h = 4 * (h / 4) + h % 4 := by omega
  generalize h / 4 = k at e
  have : h % 4 = 0 ∨ h % 4 = 1 ∨ h % 4 = 2 ∨ h % 4 = 3 := by omega
  rcases this with r | r | r | r <;> rw [r] at e ⊢
  · have : h * (h + 1) = 4 * (4 * (k * k) + k) := by rw [e]; grind
    omega
  · have : h * (h + 1) = 4 * (4 * (k * k) + 3 * k) + 2 := by rw [e]; grind
    omega
  · have : h * (h + 1) = 4 * (4 * (k * k) + 5 * k + 1) + 2 := by rw [e]; grind
    omega
  · have : h * (h + 1) = 4 * (4 * (k * k) + 7 * k + 3) := by rw [e]; grind
    omega
theorem pf_2q {S : List Nat} (h : Pl S) {q : Nat} (hq : Pr q) (h2 : q ≠ 2) (hS : q ∈ S) : pf S 2 (q : Int) = false := by
  unfold pf
  have o := (Od.of hq h2).odd
  have n2 : ¬ (q : Int) ∣ 2 := nd_prime hq pr2 h2
  rw [xs_two h.nd h.two hS (Ne.symm h2) fun p hp hp2 hpq => hs_unit (h.pr p hp) hp2 (show ¬ (p : Int) ∣ 2 from nd_prime (h.pr p hp) pr2 hp2) (nd_prime (h.pr p hp) hq hpq), hs2_2u (nd_prime pr2 hq (Ne.symm h2)), hs_symm, hs_pu hq h2 n2]
  unfold chi ng
  rw [if_pos rfl, if_neg h2, sq_two (Od.of hq h2)]
  have t := tri_par ((q - 1) / 2)
  by_cases k : q % 8 = 3 ∨ q % 8 = 5
  · have k1 : (q : Int) % 8 = 3 ∨ (q : Int) % 8 = 5 := by omega
    have k2 : ¬ (q - 1) / 2 * ((q - 1) / 2 + 1) / 2 % 2 = 0 := fun z => by have := t.mp z; omega
    simp [k1, k2]
  · have k1 : ¬ ((q : Int) % 8 = 3 ∨ (q : Int) % 8 = 5) := by omega
    have k2 : (q - 1) / 2 * ((q - 1) / 2 + 1) / 2 % 2 = 0 := t.mpr (by omega)
    simp [k1, k2]
theorem pf_qr {S : List Nat} (h : Pl S) {q r : Nat} (hq : Pr q) (h2 : q ≠ 2) (hS : q ∈ S) (hr : Pr r) (r2 : r ≠ 2) (rS : r ∈ S) (hqr : q ≠ r) : pf S (q : Int) (r : Int) = false := by
  unfold pf
  have o1 := (Od.of hq h2).odd
  have o2 := (Od.of hr r2).odd
  rw [xs_three h.nd h.two hS rS (Ne.symm h2) (Ne.symm r2) hqr fun p hp hp2 hpq hpr => hs_unit (h.pr p hp) hp2 (nd_prime (h.pr p hp) hq hpq) (nd_prime (h.pr p hp) hr hpr),
    hs2_units (nd_prime pr2 hq (Ne.symm h2)) (nd_prime pr2 hr (Ne.symm r2)), hs_pu hq h2 (nd_prime hq hr hqr), hs_symm, hs_pu hr r2 (nd_prime hr hq (Ne.symm hqr))]
  have R := recip (Od.of hq h2) (Od.of hr r2) hqr
  unfold chi ng
  rw [if_neg h2, if_neg r2]
  have k3 : ¬ (q : Int) < 0 := by omega
  have m : (q - 1) / 2 * ((r - 1) / 2) % 2 = ((q - 1) / 2 % 2) * ((r - 1) / 2 % 2) % 2 := Nat.mul_mod ..
  by_cases a : q % 4 = 3 <;> by_cases b : r % 4 = 3
  · have a1 : (q : Int) % 4 = 3 := by omega
    have b1 : (r : Int) % 4 = 3 := by omega
    have a2 : (q - 1) / 2 % 2 = 1 := by omega
    have b2 : (r - 1) / 2 % 2 = 1 := by omega
    rw [m, a2, b2] at R
    simp [a1, b1, k3]
    revert R
    cases sq q r <;> cases sq r q <;> simp
  · have b1 : ¬ (r : Int) % 4 = 3 := by omega
    have b2 : (r - 1) / 2 % 2 = 0 := by omega
    rw [m, b2] at R
    simp [b1, k3]
    revert R
    cases sq q r <;> cases sq r q <;> simp
  · have a1 : ¬ (q : Int) % 4 = 3 := by omega
    have a2 : (q - 1) / 2 % 2 = 0 := by omega
    rw [m, a2] at R
    simp [a1, k3]
    revert R
    cases sq q r <;> cases sq r q <;> simp
  · have a1 : ¬ (q : Int) % 4 = 3 := by omega
    have a2 : (q - 1) / 2 % 2 = 0 := by omega
    rw [m, a2] at R
    simp [a1, k3]
    revert R
    cases sq q r <;> cases sq r q <;> simp
theorem pf_self {S : List Nat} (h : Pl S) {a : Int} (ha : a ≠ 0) : pf S a a = pf S a (-1) := by
  unfold pf
  rw [xs_congr fun p hp => hs_self (h.pr p hp) ha]
  have : ng (-1) = true := rfl
  rw [this]
  cases ng a <;> rfl
/-- two primes, or -1 -/
theorem pf_q1 {S : List Nat} (h : Pl S) {q : Nat} (hS : q ∈ S) : pf S (q : Int) (-1) = false := by
  by_cases e : q = 2
  · subst e; exact pf_12 h
  · exact pf_1q h (h.pr q hS) e hS
theorem pf_pp {S : List Nat} (h : Pl S) {q r : Nat} (hS : q ∈ S) (rS : r ∈ S) : pf S (q : Int) (r : Int) = false := by
  have hq := h.pr q hS
  have hr := h.pr r rS
  by_cases e : q = r
  · subst e
    rw [pf_self h (by have := hq.1; omega)]
    exact pf_q1 h hS
  · by_cases e1 : q = 2
    · subst e1; exact pf_2q h hr (Ne.symm e) rS
    · by_cases e2 : r = 2
      · subst e2; rw [pf_symm]; exact pf_2q h hq e1 hS
      · exact pf_qr h hq e1 hS hr e2 rS e
/-- by the primes of the first number -/
theorem pf_ind {S : List Nat} (h : Pl S) {b : Int} (h1 : pf S (-1) b = false) (hq : ∀ q, q ∈ S → pf S (q : Int) b = false) : ∀ (n : Nat) (a : Int), a.natAbs = n → a ≠ 0 → (∀ p, Pr p → (p : Int) ∣ a → p ∈ S) → pf S a b = false := by
  intro n
  induction n using Nat.strongRecOn with
  | ind n ih =>
    intro a hn ha hp
    by_cases e : n = 1
    · have : a = 1 ∨ a = -1 := by omega
      rcases this with rfl | rfl
      · exact pf_one h b
      · exact h1
    · obtain ⟨p, hpr, hd⟩ := ex_pr n (by omega)
      have hd2 : (p : Int) ∣ a := Int.ofNat_dvd_left.mpr (hn ▸ hd)
      obtain ⟨c, rfl⟩ := hd2
      have c0 : c ≠ 0 := by rintro rfl; simp at ha
      have p0 : (p : Int) ≠ 0 := by have := hpr.1; omega
      have pS := hp p hpr (Int.dvd_mul_right _ _)
      rw [pf_mul h p0 c0, hq p pS]
      have hlt : c.natAbs < n := by
        rw [← hn, Int.natAbs_mul, Int.natAbs_natCast]
        have : 1 * c.natAbs < p * c.natAbs := Nat.mul_lt_mul_of_pos_right (by have := hpr.1; omega) (Int.natAbs_pos.mpr c0)
        omega
      rw [ih c.natAbs hlt c rfl c0 fun r hr hd => hp r hr (Int.dvd_mul_of_dvd_right hd)]
      rfl
/-- the product formula -/
theorem product_formula {S : List Nat} (h : Pl S) {a b : Int} (ha : a ≠ 0) (hb : b ≠ 0) (pa : ∀ p, Pr p → (p : Int) ∣ a → p ∈ S) (pb : ∀ p, Pr p → (p : Int) ∣ b → p ∈ S) : pf S a b = false := by
  refine pf_ind h ?_ (fun q hq => ?_) _ a rfl ha pa
  · rw [pf_symm]
    exact pf_ind h (pf_11 h) (fun q hq => pf_q1 h hq) _ b rfl hb pb
  · rw [pf_symm]
    refine pf_ind h ?_ (fun r hr => ?_) _ b rfl hb pb
    · rw [pf_symm]; exact pf_q1 h hq
    · exact pf_pp h hr hq
end NT

namespace NT
/-! ### a x x + b y y = z z makes the symbol trivial -/
theorem sq8 (x : Int) : ((x * x) % 8 = 1 ∧ x % 2 = 1) ∨ ((x * x) % 8 = 0 ∧ x % 2 = 0) ∨ ((x * x) % 8 = 4 ∧ x % 2 = 0) := by
  have e : (x * x) % 8 = ((x % 8) * (x % 8)) % 8 := Int.mul_emod ..
  have h : x % 8 = 0 ∨ x % 8 = 1 ∨ x % 8 = 2 ∨ x % 8 = 3 ∨ x % 8 = 4 ∨ x % 8 = 5 ∨ x % 8 = 6 ∨ x % 8 = 7 := by omega
  rcases h with h | h | h | h | h | h | h | h <;> rw [h] at e <;> omega
theorem odd8 {u : Int} (h : u % 2 = 1) : u % 8 = 1 ∨ u % 8 = 3 ∨ u % 8 = 5 ∨ u % 8 = 7 := by omega
theorem k2_00 {u v x y z : Int} (hu : u % 2 = 1) (hv : v % 2 = 1) (h : u * (x * x) + v * (y * y) = z * z) (np : ¬ (x % 2 = 0 ∧ y % 2 = 0 ∧ z % 2 = 0)) : (decide (u % 4 = 3) && decide (v % 4 = 3)) = false := by
  have e1 : (u * (x * x)) % 8 = ((u % 8) * ((x * x) % 8)) % 8 := Int.mul_emod ..
  have e2 : (v * (y * y)) % 8 = ((v % 8) * ((y * y) % 8)) % 8 := Int.mul_emod ..
  refine Classical.byContradiction fun q => ?_
  simp at q
  have u8 : u % 8 = 3 ∨ u % 8 = 7 := by omega
  have v8 : v % 8 = 3 ∨ v % 8 = 7 := by omega
  rcases sq8 x with ⟨hx, px⟩ | ⟨hx, px⟩ | ⟨hx, px⟩ <;> rcases sq8 y with ⟨hy, py⟩ | ⟨hy, py⟩ | ⟨hy, py⟩ <;> rcases sq8 z with ⟨hz, pz⟩ | ⟨hz, pz⟩ | ⟨hz, pz⟩ <;> rw [hx] at e1 <;> rw [hy] at e2 <;> omega
theorem k2_10 {u v x y z : Int} (hu : u % 2 = 1) (hv : v % 2 = 1) (h : 2 * (u * (x * x)) + v * (y * y) = z * z) (np : ¬ (x % 2 = 0 ∧ y % 2 = 0 ∧ z % 2 = 0)) : (decide (v % 8 = 3 ∨ v % 8 = 5) ^^ (decide (u % 4 = 3) && decide (v % 4 = 3))) = false := by
  have e1 : (u * (x * x)) % 8 = ((u % 8) * ((x * x) % 8)) % 8 := Int.mul_emod ..
  have e2 : (v * (y * y)) % 8 = ((v % 8) * ((y * y) % 8)) % 8 := Int.mul_emod ..
  have key : v % 8 = 1 ∨ (v % 8 = 7 ∧ u % 4 = 1) ∨ (v % 8 = 3 ∧ u % 4 = 3) := by
    rcases sq8 x with ⟨hx, px⟩ | ⟨hx, px⟩ | ⟨hx, px⟩ <;> rcases sq8 y with ⟨hy, py⟩ | ⟨hy, py⟩ | ⟨hy, py⟩ <;> rcases sq8 z with ⟨hz, pz⟩ | ⟨hz, pz⟩ | ⟨hz, pz⟩ <;> rw [hx] at e1 <;> rw [hy] at e2 <;> omega
  rcases key with k | ⟨k, l⟩ | ⟨k, l⟩
  · have : ¬ v % 4 = 3 := by omega
    simp [k, this]
  · have : ¬ u % 4 = 3 := by omega
    simp [k, this]
  · have : v % 4 = 3 := by omega
    simp [k, l, this]
theorem k2_11 {u v x y z : Int} (hu : u % 2 = 1) (hv : v % 2 = 1) (h : u * (x * x) + v * (y * y) = 2 * (z * z)) (np : ¬ (x % 2 = 0 ∧ y % 2 = 0)) : (decide (v % 8 = 3 ∨ v % 8 = 5) ^^ decide (u % 8 = 3 ∨ u % 8 = 5) ^^ (decide (u % 4 = 3) && decide (v % 4 = 3))) = false := by
  have e1 : (u * (x * x)) % 8 = ((u % 8) * ((x * x) % 8)) % 8 := Int.mul_emod ..
  have e2 : (v * (y * y)) % 8 = ((v % 8) * ((y * y) % 8)) % 8 := Int.mul_emod ..
  have key : (u + v) % 8 = 0 ∨ (u + v) % 8 = 2 := by
    rcases sq8 x with ⟨hx, px⟩ | ⟨hx, px⟩ | ⟨hx, px⟩ <;> rcases sq8 y with ⟨hy, py⟩ | ⟨hy, py⟩ | ⟨hy, py⟩ <;> rcases sq8 z with ⟨hz, pz⟩ | ⟨hz, pz⟩ | ⟨hz, pz⟩ <;> rw [hx] at e1 <;> rw [hy] at e2 <;> omega
  rcases odd8 hu with k | k | k | k <;> rcases odd8 hv with l | l | l | l <;> (try omega) <;>
  · have k4 : u % 4 = u % 8 % 4 := by omega
    have l4 : v % 4 = v % 8 % 4 := by omega
    rw [k4, l4, k, l]; decide
theorem dvd_sq {p : Nat} (hp : Pr p) {x : Int} (h : (p : Int) ∣ x * x) : (p : Int) ∣ x := (hp.dvdI h).elim id id
/-- odd primes -/
theorem kp_10 {p : Nat} (hp : Pr p) (h2 : p ≠ 2) {u v x y z : Int} (hu : ¬ (p : Int) ∣ u) (hv : ¬ (p : Int) ∣ v) (h : (p : Int) * u * (x * x) + v * (y * y) = z * z) (np : ¬ ((p : Int) ∣ x ∧ (p : Int) ∣ y ∧ (p : Int) ∣ z)) : sq p v = true := by
  have od := Od.of hp h2
  have p0 : (p : Int) ≠ 0 := by have := hp.1; omega
  have ny : ¬ (p : Int) ∣ y := fun ⟨c, hc⟩ => by
    have hz : (p : Int) ∣ z := dvd_sq hp ⟨u * (x * x) + v * (c * y), by rw [← h, hc]; grind⟩
    obtain ⟨d, hd⟩ := hz
    have hx : (p : Int) ∣ u * (x * x) := by
      have e : (p : Int) * (u * (x * x)) = (p : Int) * ((p : Int) * (d * d - v * (c * c))) := by
        rw [hc, hd] at h; grind
      exact ⟨_, Int.eq_of_mul_eq_mul_left p0 e⟩
    exact np ⟨dvd_sq hp ((hp.dvdI hx).resolve_left hu), ⟨c, hc⟩, ⟨d, hd⟩⟩
  have nvy : ¬ (p : Int) ∣ v * (y * y) := fun d => (hp.dvdI d).elim hv fun d => ny (dvd_sq hp d)
  have := sq_sq od (x := z) nvy ⟨u * (x * x), by rw [← h]; grind⟩
  rwa [sq_mulsq od hv ny] at this
theorem kp_11 {p : Nat} (hp : Pr p) (h2 : p ≠ 2) {u v x y z : Int} (hu : ¬ (p : Int) ∣ u) (hv : ¬ (p : Int) ∣ v) (h : u * (x * x) + v * (y * y) = (p : Int) * (z * z)) (np : ¬ ((p : Int) ∣ x ∧ (p : Int) ∣ y)) : sq p (-(u * v)) = true := by
  have od := Od.of hp h2
  have ny : ¬ (p : Int) ∣ y := fun ⟨c, hc⟩ => by
    have hx : (p : Int) ∣ u * (x * x) := ⟨z * z - v * (c * y), by rw [hc] at h ⊢; grind⟩
    exact np ⟨dvd_sq hp ((hp.dvdI hx).resolve_left hu), ⟨c, hc⟩⟩
  have nuv : ¬ (p : Int) ∣ -(u * v) := neg_nd fun d => (hp.dvdI d).elim hu hv
  have nvy : ¬ (p : Int) ∣ -(u * v) * (y * y) := fun d => (hp.dvdI d).elim nuv fun d => ny (dvd_sq hp d)
  have := sq_sq od (x := u * x) nvy ⟨u * (z * z), by grind⟩
  rwa [sq_mulsq od nuv ny] at this
/-- powers 0 and 1, a primitive row -/
theorem k_prim {p : Nat} (hp : Pr p) {u v x y z : Int} (hu : ¬ (p : Int) ∣ u) (hv : ¬ (p : Int) ∣ v) (e f : Bool) (h : (if e then (p : Int) else 1) * u * (x * x) + (if f then (p : Int) else 1) * v * (y * y) = z * z)
    (np : ¬ ((p : Int) ∣ x ∧ (p : Int) ∣ y ∧ (p : Int) ∣ z)) : hs p ((if e then (p : Int) else 1) * u) ((if f then (p : Int) else 1) * v) = false := by
  have p0 : (p : Int) ≠ 0 := by have := hp.1; omega
  have u0 : u ≠ 0 := by rintro rfl; exact hu (Int.dvd_zero _)
  have v0 : v ≠ 0 := by rintro rfl; exact hv (Int.dvd_zero _)
  have par : ∀ w : Int, ((2 : Nat) : Int) ∣ w ↔ w % 2 = 0 := fun w => by
    show (2 : Int) ∣ w ↔ _
    omega
  by_cases h2 : p = 2
  · subst h2
    have ou := odd_of hu
    have ov := odd_of hv
    rw [par, par, par] at np
    cases e <;> cases f <;> simp only [if_true, if_false, Int.one_mul, Bool.false_eq_true] at h ⊢
    · rw [hs2_units hu hv]; exact k2_00 ou ov h np
    · rw [hs_symm, hs_mul pr2 (by decide) v0, show (((2 : Nat) : Int)) = 2 from rfl, hs2_2u hu, hs2_units hv hu]
      have := k2_10 (u := v) (v := u) (x := y) (y := x) (z := z) ov ou (by rw [← h]; grind) (by omega)
      exact this
    · rw [hs_mul pr2 (by decide) u0, show (((2 : Nat) : Int)) = 2 from rfl, hs2_2u hv, hs2_units hu hv]
      have := k2_10 (u := u) (v := v) (x := x) (y := y) (z := z) ou ov (by rw [← h]; grind) np
      exact this
    · have hz : z % 2 = 0 := by
        rw [← par]; exact dvd_sq pr2 ⟨u * (x * x) + v * (y * y), by rw [← h]; grind⟩
      obtain ⟨d, rfl⟩ := (par z).mpr hz
      have h5 : u * (x * x) + v * (y * y) = 2 * (d * d) := by
        have : (2 : Int) * (u * (x * x) + v * (y * y)) = 2 * (2 * (d * d)) := by
          have h := h
          rw [show (((2 : Nat) : Int)) = 2 from rfl] at h
          grind
        exact Int.eq_of_mul_eq_mul_left (by decide) this
      have := k2_11 ou ov h5 (by omega)
      rw [hs_mul pr2 (by decide) u0, hs_mulR pr2 (by decide) v0, hs_mulR pr2 (by decide) v0, hs_self pr2 (by decide), hs_symm 2 u, show (((2 : Nat) : Int)) = 2 from rfl, hs2_2u hv, hs2_2u hu, hs2_2u (one_nd pr2), hs2_units hu hv]
      have e0 : chi 2 (-1) = false := by decide
      rw [e0]
      unfold chi
      rw [if_pos rfl, if_pos rfl]
      revert this
      generalize decide (v % 8 = 3 ∨ v % 8 = 5) = A
      generalize decide (u % 8 = 3 ∨ u % 8 = 5) = B
      generalize (decide (u % 4 = 3) && decide (v % 4 = 3)) = D
      cases A <;> cases B <;> cases D <;> simp
  · have cs : ∀ w : Int, chi p w = !sq p w := fun w => by unfold chi; rw [if_neg h2]
    cases e <;> cases f <;> simp only [if_true, if_false, Int.one_mul, Bool.false_eq_true] at h ⊢
    · exact hs_unit hp h2 hu hv
    · rw [hs_symm, hs_mul hp p0 v0, hs_pu hp h2 hu, hs_unit hp h2 hv hu, cs]
      rw [kp_10 hp h2 (u := v) (v := u) (x := y) (y := x) (z := z) hv hu (by rw [← h]; grind) (fun ⟨a, b, c⟩ => np ⟨b, a, c⟩)]; rfl
    · rw [hs_mul hp p0 u0, hs_pu hp h2 hv, hs_unit hp h2 hu hv, cs]
      rw [kp_10 hp h2 (x := x) (y := y) (z := z) hu hv h np]; rfl
    · have hz : (p : Int) ∣ z := dvd_sq hp ⟨u * (x * x) + v * (y * y), by rw [← h]; grind⟩
      obtain ⟨d, rfl⟩ := hz
      have h5 : u * (x * x) + v * (y * y) = (p : Int) * (d * d) := by
        have : (p : Int) * (u * (x * x) + v * (y * y)) = (p : Int) * ((p : Int) * (d * d)) := by grind
        exact Int.eq_of_mul_eq_mul_left p0 this
      have k := kp_11 hp h2 hu hv h5 (fun ⟨a, b⟩ => np ⟨a, b, Int.dvd_mul_right _ _⟩)
      rw [hs_mul hp p0 u0, hs_mulR hp p0 v0, hs_mulR hp p0 v0, hs_self hp p0, hs_symm p u, hs_pu hp h2 hv, hs_pu hp h2 hu, hs_pu hp h2 (one_nd hp), hs_unit hp h2 hu hv, cs, cs, cs]
      have e1 : -(u * v) = u * v * (-1) := by grind
      rw [e1, sq_mul (Od.of hp h2) (fun d => (hp.dvdI d).elim hu hv) (one_nd hp), sq_mul (Od.of hp h2) hu hv] at k
      revert k
      cases sq p u <;> cases sq p v <;> cases sq p (-1) <;> simp
theorem k_low {p : Nat} (hp : Pr p) {u v : Int} (hu : ¬ (p : Int) ∣ u) (hv : ¬ (p : Int) ∣ v) (e f : Bool) : ∀ (n : Nat) (x y z : Int), x.natAbs + y.natAbs + z.natAbs = n → ¬ (x = 0 ∧ y = 0 ∧ z = 0) →
    (if e then (p : Int) else 1) * u * (x * x) + (if f then (p : Int) else 1) * v * (y * y) = z * z → hs p ((if e then (p : Int) else 1) * u) ((if f then (p : Int) else 1) * v) = false := by
  have p0 : (p : Int) ≠ 0 := by have := hp.1; omega
  intro n
  induction n using Nat.strongRecOn with
  | ind n ih =>
    intro x y z hn nz h
    by_cases np : (p : Int) ∣ x ∧ (p : Int) ∣ y ∧ (p : Int) ∣ z
    · obtain ⟨⟨x1, rfl⟩, ⟨y1, rfl⟩, ⟨z1, rfl⟩⟩ := np
      have lt : ∀ w : Int, w.natAbs ≤ (p * w : Int).natAbs ∧ (w ≠ 0 → w.natAbs < (p * w : Int).natAbs) := fun w => by
        rw [Int.natAbs_mul, Int.natAbs_natCast]
        have h1 := hp.1
        refine ⟨Nat.le_mul_of_pos_left _ (by omega), fun hw => ?_⟩
        have : 1 * w.natAbs < p * w.natAbs := Nat.mul_lt_mul_of_pos_right (by omega) (Int.natAbs_pos.mpr hw)
        omega
      have nz1 : ¬ (x1 = 0 ∧ y1 = 0 ∧ z1 = 0) := fun ⟨a, b, c⟩ => nz ⟨by rw [a]; simp, by rw [b]; simp, by rw [c]; simp⟩
      refine ih _ ?_ x1 y1 z1 rfl nz1 ?_
      · have a := lt x1
        have b := lt y1
        have c := lt z1
        omega
      · have : (p : Int) * (p : Int) * ((if e then (p : Int) else 1) * u * (x1 * x1) + (if f then (p : Int) else 1) * v * (y1 * y1)) = (p : Int) * (p : Int) * (z1 * z1) := by grind
        exact Int.eq_of_mul_eq_mul_left (Int.mul_ne_zero p0 p0) this
    · exact k_prim hp hu hv e f h np
/-- an answer makes the symbol trivial -/
theorem hs_norm {p : Nat} (hp : Pr p) {a b x y z : Int} (ha : a ≠ 0) (hb : b ≠ 0) (nz : ¬ (x = 0 ∧ y = 0 ∧ z = 0)) (h : a * (x * x) + b * (y * y) = z * z) : hs p a b = false := by
  have p0 : (p : Int) ≠ 0 := by have := hp.1; omega
  have red : ∀ a : Int, a ≠ 0 → ∃ (e : Bool) (u s : Int), ¬ (p : Int) ∣ u ∧ s ≠ 0 ∧ a = (if e then (p : Int) else 1) * u * (s * s) := fun a ha => by
    obtain ⟨e1, n1, u1⟩ := uI_spec hp ha
    refine ⟨decide (vI p a % 2 = 1), uI p a, ((p ^ (vI p a / 2) : Nat) : Int), n1, by have := Nat.pow_pos (n := vI p a / 2) hp.pos; omega, ?_⟩
    conv => lhs; rw [e1]
    have e2 : vI p a = vI p a / 2 + vI p a / 2 + vI p a % 2 := by omega
    have e3 : p ^ vI p a = p ^ (vI p a / 2) * p ^ (vI p a / 2) * p ^ (vI p a % 2) := by rw [← Nat.pow_add, ← Nat.pow_add, ← e2]
    rw [e3]
    by_cases k : vI p a % 2 = 1
    · rw [k]; simp; grind
    · have k : vI p a % 2 = 0 := by omega
      rw [k]; simp; grind
  obtain ⟨e, u, s, hu, s0, ea⟩ := red a ha
  obtain ⟨f, v, t, hv, t0, eb⟩ := red b hb
  have i0 : ∀ c : Bool, (if c then (p : Int) else 1) ≠ 0 := fun c => by cases c <;> simp <;> omega
  have u0 : u ≠ 0 := by rintro rfl; exact hu (Int.dvd_zero _)
  have v0 : v ≠ 0 := by rintro rfl; exact hv (Int.dvd_zero _)
  have := k_low hp hu hv e f _ (s * x) (t * y) z rfl (fun ⟨q1, q2, q3⟩ => nz ⟨(Int.mul_eq_zero.mp q1).resolve_left s0, (Int.mul_eq_zero.mp q2).resolve_left t0, q3⟩) (by rw [← h, ea, eb]; grind)
  rw [ea, eb, hs_mulsq hp (Int.mul_ne_zero (i0 e) u0) s0, hs_symm, hs_mulsq hp (Int.mul_ne_zero (i0 f) v0) t0, hs_symm]
  exact this
end NT

namespace NT
theorem hs_neg1R {p : Nat} (hp : Pr p) {a b : Int} (ha : a ≠ 0) (hb : b ≠ 0) : hs p a (-b) = (hs p a (-1) ^^ hs p a b) := by
  have : -b = -1 * b := by omega
  rw [this, hs_mulR hp (by decide) hb]
/-- a number that two weights come to -/
theorem hs_repr {p : Nat} (hp : Pr p) {a b t x y : Int} (ha : a ≠ 0) (hb : b ≠ 0) (ht : t ≠ 0) (e : a * (x * x) + b * (y * y) = t) : hs p a b = hs p t (-(a * b)) := by
  have h := hs_norm hp (a := a * t) (b := b * t) (x := x) (y := y) (z := t) (Int.mul_ne_zero ha ht) (Int.mul_ne_zero hb ht) (fun h => ht h.2.2) (by rw [← e]; grind)
  rw [hs_mul hp ha ht, hs_mulR hp hb ht, hs_mulR hp hb ht, hs_self hp ht] at h
  rw [hs_neg1R hp ht (Int.mul_ne_zero ha hb), hs_mulR hp ha hb, hs_symm p t a, hs_symm p t b]
  revert h
  rw [hs_symm p t b]
  generalize hs p a b = A; generalize hs p a t = B; generalize hs p b t = C; generalize hs p t (-1) = D
  cases A <;> cases B <;> cases C <;> cases D <;> simp
theorem neg_sq_class {p : Nat} (hp : Pr p) {a b x y : Int} (ha : a ≠ 0) (hb : b ≠ 0) (nz : ¬ (x = 0 ∧ y = 0)) (e : a * (x * x) + b * (y * y) = 0) : hs p a b = false ∧ ∀ t, t ≠ 0 → hs p t (-(a * b)) = false := by
  have hx : x ≠ 0 := by
    rintro rfl
    have : b * (y * y) = 0 := by simpa using e
    rcases Int.mul_eq_zero.mp this with h | h
    · exact hb h
    · exact nz ⟨rfl, (Int.mul_eq_zero.mp h).elim id id⟩
  have hy : y ≠ 0 := by
    rintro rfl
    have : a * (x * x) = 0 := by simpa using e
    rcases Int.mul_eq_zero.mp this with h | h
    · exact ha h
    · exact hx ((Int.mul_eq_zero.mp h).elim id id)
  have hab : -(a * b) ≠ 0 := by have := Int.mul_ne_zero ha hb; omega
  have k : ∀ t, t ≠ 0 → hs p t (-(a * b)) = false := fun t ht => by
    have c : hs p (-(a * b)) t = hs p (-(a * b) * (x * x)) t := (hs_mulsq hp hab hx).symm
    have e2 : -(a * b) * (x * x) = (b * y) * (b * y) := by grind
    rw [hs_symm, c, e2, hs_sq hp (Int.mul_ne_zero hb hy)]
  refine ⟨?_, k⟩
  have h := k a ha
  have n := hs_neg hp ha
  have e3 : -(a * b) = -a * b := by grind
  rw [e3, hs_mulR hp (by omega) hb, n] at h
  simpa using h
theorem four_sum {p : Nat} (hp : Pr p) {a b c d : Int} (ha : a ≠ 0) (hb : b ≠ 0) (hc : c ≠ 0) (hd : d ≠ 0) :
    (hs p a c ^^ hs p a d ^^ hs p b c ^^ hs p b d) = hs p (a * b) (c * d) := by
  rw [hs_mul hp ha hb, hs_mulR hp hc hd, hs_mulR hp hc hd]
  generalize hs p a c = A; generalize hs p a d = B; generalize hs p b c = C; generalize hs p b d = D
  cases A <;> cases B <;> cases C <;> cases D <;> rfl
theorem four_law {p : Nat} (hp : Pr p) {a b c d x y z w : Int} (ha : a ≠ 0) (hb : b ≠ 0) (hc : c ≠ 0) (hd : d ≠ 0) (nz : ¬ (x = 0 ∧ y = 0 ∧ z = 0 ∧ w = 0))
    (e : a * (x * x) + b * (y * y) + c * (z * z) + d * (w * w) = 0) (sq : ∀ t, t ≠ 0 → hs p t (a * b * (c * d)) = false) :
    (hs p a b ^^ hs p c d ^^ (hs p a c ^^ hs p a d ^^ hs p b c ^^ hs p b d)) = hs p (-1) (-1) := by
  have hab := Int.mul_ne_zero ha hb
  have hcd := Int.mul_ne_zero hc hd
  have s : ∀ t, t ≠ 0 → hs p t (c * d) = hs p t (a * b) := fun t ht => by
    have := sq t ht
    rw [hs_mulR hp hab hcd] at this
    revert this
    generalize hs p t (a * b) = A; generalize hs p t (c * d) = B
    cases A <;> cases B <;> simp
  have nn : ∀ {n : Int}, n ≠ 0 → -n ≠ 0 := fun h => by omega
  have s' : ∀ t, t ≠ 0 → hs p t (-(c * d)) = hs p t (-(a * b)) := fun t ht => by rw [hs_neg1R hp ht hcd, hs_neg1R hp ht hab, s t ht]
  rw [four_sum hp ha hb hc hd, s _ hab, hs_self hp hab]
  by_cases ht : a * (x * x) + b * (y * y) = 0
  · have ht2 : c * (z * z) + d * (w * w) = 0 := by omega
    have both : hs p a b = false ∧ hs p c d = false ∧ hs p (-1) (-(a * b)) = false := by
      by_cases q : x = 0 ∧ y = 0
      · have q2 : ¬ (z = 0 ∧ w = 0) := fun h => nz ⟨q.1, q.2, h.1, h.2⟩
        obtain ⟨h1, h2⟩ := neg_sq_class hp hc hd q2 ht2
        refine ⟨?_, h1, by rw [← s' _ (by decide)]; exact h2 _ (by decide)⟩
        have h := h2 a ha
        have n := hs_neg hp ha
        rw [s' a ha] at h
        have e3 : -(a * b) = -a * b := by grind
        rw [e3, hs_mulR hp (nn ha) hb, n] at h
        simpa using h
      · obtain ⟨h1, h2⟩ := neg_sq_class hp ha hb q ht
        refine ⟨h1, ?_, h2 _ (by decide)⟩
        have h := h2 c hc
        have n := hs_neg hp hc
        rw [← s' c hc] at h
        have e3 : -(c * d) = -c * d := by grind
        rw [e3, hs_mulR hp (nn hc) hd, n] at h
        simpa using h
    rw [both.1, both.2.1]
    have k := both.2.2
    rw [hs_neg1R hp (by decide) hab] at k
    rw [hs_symm p (a * b) (-1)]
    revert k
    generalize hs p (-1) (-1) = A; generalize hs p (-1) (a * b) = B
    cases A <;> cases B <;> simp
  · have r1 := hs_repr hp ha hb ht rfl
    have ht2 : c * (z * z) + d * (w * w) = -(a * (x * x) + b * (y * y)) := by omega
    generalize a * (x * x) + b * (y * y) = t at *
    have r2 := hs_repr hp hc hd (nn ht) ht2
    have e4 : -t = -1 * t := by omega
    rw [s' _ (nn ht), e4, hs_mul hp (by decide) ht, hs_neg1R hp (by decide) hab] at r2
    rw [r1, r2, hs_symm p (a * b) (-1)]
    generalize hs p t (-(a * b)) = A; generalize hs p (-1) (-1) = B; generalize hs p (-1) (a * b) = C
    cases A <;> cases B <;> cases C <;> rfl
/-- a square at a place -/
theorem hs_local {p : Nat} {t c : Int} (ho : oI p c = false) (hc : chi p (uI p c) = false) (he : eps p (uI p c) = false) : hs p t c = false := by
  unfold hs
  rw [ho, hc, he]
  simp
end NT

namespace T
open PySem L2 DL
def top (i : Nat) : Stmt := PySem.Challenge.pw_squareweights_k13_whole_small_answers.main.body.getD i (.Pass ⟨0, 0, 0, 0⟩)
abbrev s_is_integer : Stmt := top 8
abbrev n_is_integer : List Str := ["thing", "low", "high"]
theorem sc_is_integer : FnScope n_is_integer ["thing", "low", "high"] (defScope s_is_integer) := ⟨rfl, rfl, rfl, by decide +kernel, rfl, by decide +kernel, by decide +kernel⟩
abbrev s_is_weight : Stmt := top 9
abbrev n_is_weight : List Str := ["thing", "part"]
theorem sc_is_weight : FnScope n_is_weight ["thing"] (defScope s_is_weight) := ⟨rfl, rfl, rfl, by decide +kernel, rfl, by decide +kernel, by decide +kernel⟩
abbrev s_product : Stmt := top 10
abbrev n_product : List Str := ["numbers", "found", "one"]
theorem sc_product : FnScope n_product ["numbers"] (defScope s_product) := ⟨rfl, rfl, rfl, by decide +kernel, rfl, by decide +kernel, by decide +kernel⟩
abbrev s_Form___init__ : Stmt := inClass (top 11) 0
abbrev n_Form___init__ : List Str := ["self", "weights", "index", "weight"]
theorem sc_Form___init__ : FnScope n_Form___init__ ["self", "weights"] (defScope s_Form___init__) := ⟨rfl, rfl, rfl, by decide +kernel, rfl, by decide +kernel, by decide +kernel⟩
abbrev s_Form_weights : Stmt := inClass (top 11) 1
abbrev n_Form_weights : List Str := ["self"]
theorem sc_Form_weights : FnScope n_Form_weights ["self"] (defScope s_Form_weights) := ⟨rfl, rfl, rfl, by decide +kernel, rfl, by decide +kernel, by decide +kernel⟩
abbrev s_Form_numbers : Stmt := inClass (top 11) 2
abbrev n_Form_numbers : List Str := ["self"]
theorem sc_Form_numbers : FnScope n_Form_numbers ["self"] (defScope s_Form_numbers) := ⟨rfl, rfl, rfl, by decide +kernel, rfl, by decide +kernel, by decide +kernel⟩
abbrev s_Form___len__ : Stmt := inClass (top 11) 3
abbrev n_Form___len__ : List Str := ["self"]
theorem sc_Form___len__ : FnScope n_Form___len__ ["self"] (defScope s_Form___len__) := ⟨rfl, rfl, rfl, by decide +kernel, rfl, by decide +kernel, by decide +kernel⟩
abbrev s_Form___eq__ : Stmt := inClass (top 11) 4
abbrev n_Form___eq__ : List Str := ["self", "other"]
theorem sc_Form___eq__ : FnScope n_Form___eq__ ["self", "other"] (defScope s_Form___eq__) := ⟨rfl, rfl, rfl, by decide +kernel, rfl, by decide +kernel, by decide +kernel⟩
abbrev s_come_to : Stmt := top 12
abbrev n_come_to : List Str := ["numbers", "row", "number", "one"]
theorem sc_come_to : FnScope n_come_to ["numbers", "row"] (defScope s_come_to) := ⟨rfl, rfl, rfl, by decide +kernel, rfl, by decide +kernel, by decide +kernel⟩
abbrev s_primes_of : Stmt := top 13
abbrev n_primes_of : List Str := ["weight", "found", "part", "left", "prime"]
theorem sc_primes_of : FnScope n_primes_of ["weight"] (defScope s_primes_of) := ⟨rfl, rfl, rfl, by decide +kernel, rfl, by decide +kernel, by decide +kernel⟩
abbrev s_sign_of : Stmt := top 14
abbrev n_sign_of : List Str := ["weight"]
theorem sc_sign_of : FnScope n_sign_of ["weight"] (defScope s_sign_of) := ⟨rfl, rfl, rfl, by decide +kernel, rfl, by decide +kernel, by decide +kernel⟩
abbrev s_powered : Stmt := top 16
abbrev n_powered : List Str := ["number", "times", "many", "found", "left", "here"]
theorem sc_powered : FnScope n_powered ["number", "times", "many"] (defScope s_powered) := ⟨rfl, rfl, rfl, by decide +kernel, rfl, by decide +kernel, by decide +kernel⟩
abbrev s_odd_primes_of : Stmt := top 18
abbrev n_odd_primes_of : List Str := ["weight", "known", "prime"]
theorem sc_odd_primes_of : FnScope n_odd_primes_of ["weight"] (defScope s_odd_primes_of) := ⟨rfl, rfl, rfl, by decide +kernel, rfl, by decide +kernel, by decide +kernel⟩
abbrev s_root_of : Stmt := top 19
abbrev n_root_of : List Str := ["weight", "known", "found", "prime", "again"]
theorem sc_root_of : FnScope n_root_of ["weight"] (defScope s_root_of) := ⟨rfl, rfl, rfl, by decide +kernel, rfl, by decide +kernel, by decide +kernel⟩
abbrev s_Normal___init__ : Stmt := inClass (top 20) 0
abbrev n_Normal___init__ : List Str := ["self", "rows", "sets", "prime", "has", "weight", "at", "other"]
theorem sc_Normal___init__ : FnScope n_Normal___init__ ["self", "rows"] (defScope s_Normal___init__) := ⟨rfl, rfl, rfl, by decide +kernel, rfl, by decide +kernel, by decide +kernel⟩
abbrev s_Normal_all_weights : Stmt := inClass (top 20) 1
abbrev n_Normal_all_weights : List Str := ["self", "sign", "primes"]
theorem sc_Normal_all_weights : FnScope n_Normal_all_weights ["self"] (defScope s_Normal_all_weights) := ⟨rfl, rfl, rfl, by decide +kernel, rfl, by decide +kernel, by decide +kernel⟩
abbrev s_Normal_back : Stmt := inClass (top 20) 2
abbrev n_Normal_back : List Str := ["self", "row", "whole", "one", "up", "down"]
theorem sc_Normal_back : FnScope n_Normal_back ["self", "row"] (defScope s_Normal_back) := ⟨rfl, rfl, rfl, by decide +kernel, rfl, by decide +kernel, by decide +kernel⟩
abbrev s_is_square : Stmt := top 21
abbrev n_is_square : List Str := ["number", "prime"]
theorem sc_is_square : FnScope n_is_square ["number", "prime"] (defScope s_is_square) := ⟨rfl, rfl, rfl, by decide +kernel, rfl, by decide +kernel, by decide +kernel⟩
abbrev s_two_bars : Stmt := top 22
abbrev n_two_bars : List Str := ["numbers", "even", "odd", "one", "at"]
theorem sc_two_bars : FnScope n_two_bars ["numbers"] (defScope s_two_bars) := ⟨rfl, rfl, rfl, by decide +kernel, rfl, by decide +kernel, by decide +kernel⟩
abbrev s_bars_of : Stmt := top 23
abbrev n_bars_of : List Str := ["shape", "numbers", "found", "at", "rest", "prime"]
theorem sc_bars_of : FnScope n_bars_of ["shape"] (defScope s_bars_of) := ⟨rfl, rfl, rfl, by decide +kernel, rfl, by decide +kernel, by decide +kernel⟩
abbrev s_ends_of : Stmt := top 24
abbrev n_ends_of : List Str := ["weight", "prime", "number", "many"]
theorem sc_ends_of : FnScope n_ends_of ["weight", "prime"] (defScope s_ends_of) := ⟨rfl, rfl, rfl, by decide +kernel, rfl, by decide +kernel, by decide +kernel⟩
abbrev s_symbol : Stmt := top 25
abbrev n_symbol : List Str := ["one", "other", "prime", "found", "many", "left", "more", "right"]
theorem sc_symbol : FnScope n_symbol ["one", "other", "prime"] (defScope s_symbol) := ⟨rfl, rfl, rfl, by decide +kernel, rfl, by decide +kernel, by decide +kernel⟩
abbrev s_is_local_square : Stmt := top 26
abbrev n_is_local_square : List Str := ["weight", "prime", "many", "left"]
theorem sc_is_local_square : FnScope n_is_local_square ["weight", "prime"] (defScope s_is_local_square) := ⟨rfl, rfl, rfl, by decide +kernel, rfl, by decide +kernel, by decide +kernel⟩
abbrev s_four_bar : Stmt := top 27
abbrev n_four_bar : List Str := ["rows", "prime", "whole", "found", "at", "one", "other"]
theorem sc_four_bar : FnScope n_four_bar ["rows", "prime"] (defScope s_four_bar) := ⟨rfl, rfl, rfl, by decide +kernel, rfl, by decide +kernel, by decide +kernel⟩
abbrev s_four_bars : Stmt := top 28
abbrev n_four_bars : List Str := ["rows", "known", "weight", "found", "prime"]
theorem sc_four_bars : FnScope n_four_bars ["rows"] (defScope s_four_bars) := ⟨rfl, rfl, rfl, by decide +kernel, rfl, by decide +kernel, by decide +kernel⟩
abbrev s_bad_places : Stmt := top 29
abbrev n_bad_places : List Str := ["form"]
theorem sc_bad_places : FnScope n_bad_places ["form"] (defScope s_bad_places) := ⟨rfl, rfl, rfl, by decide +kernel, rfl, by decide +kernel, by decide +kernel⟩
abbrev s_has_answer : Stmt := top 30
abbrev n_has_answer : List Str := ["form"]
theorem sc_has_answer : FnScope n_has_answer ["form"] (defScope s_has_answer) := ⟨rfl, rfl, rfl, by decide +kernel, rfl, by decide +kernel, by decide +kernel⟩
abbrev s_rows_to : Stmt := top 33
abbrev n_rows_to : List Str := ["many", "limit", "found", "again", "row", "one"]
theorem sc_rows_to : FnScope n_rows_to ["many", "limit"] (defScope s_rows_to) := ⟨rfl, rfl, rfl, by decide +kernel, rfl, by decide +kernel, by decide +kernel⟩
abbrev s_small_answer : Stmt := top 34
abbrev n_small_answer : List Str := ["form", "limit", "best", "row"]
theorem sc_small_answer : FnScope n_small_answer ["form", "limit"] (defScope s_small_answer) := ⟨rfl, rfl, rfl, by decide +kernel, rfl, by decide +kernel, by decide +kernel⟩
abbrev s__law_mix : Stmt := top 36
abbrev n__law_mix : List Str := ["_law_script", "_law_seed", "_law_state", "_law_cell"]
theorem sc__law_mix : FnScope n__law_mix ["_law_script", "_law_seed"] (defScope s__law_mix) := ⟨rfl, rfl, rfl, by decide +kernel, rfl, by decide +kernel, by decide +kernel⟩
abbrev s__law_next : Stmt := top 37
abbrev n__law_next : List Str := ["_law_h", "_law_cap", "_law_cell"]
theorem sc__law_next : FnScope n__law_next ["_law_h", "_law_cap"] (defScope s__law_next) := ⟨rfl, rfl, rfl, by decide +kernel, rfl, by decide +kernel, by decide +kernel⟩
abbrev s__law_alike : Stmt := top 38
abbrev n__law_alike : List Str := ["_law_found", "_law_due", "_law_k"]
theorem sc__law_alike : FnScope n__law_alike ["_law_found", "_law_due"] (defScope s__law_alike) := ⟨rfl, rfl, rfl, by decide +kernel, rfl, by decide +kernel, by decide +kernel⟩
abbrev s__law_pick : Stmt := top 39
abbrev n__law_pick : List Str := ["_law_h", "_law_things"]
theorem sc__law_pick : FnScope n__law_pick ["_law_h", "_law_things"] (defScope s__law_pick) := ⟨rfl, rfl, rfl, by decide +kernel, rfl, by decide +kernel, by decide +kernel⟩
abbrev s__law_weight : Stmt := top 40
abbrev n__law_weight : List Str := ["_law_h", "_law_k", "_law_parts", "_law_cap"]
theorem sc__law_weight : FnScope n__law_weight ["_law_h"] (defScope s__law_weight) := ⟨rfl, rfl, rfl, by decide +kernel, rfl, by decide +kernel, by decide +kernel⟩
abbrev s__law_come : Stmt := top 41
abbrev n__law_come : List Str := ["_law_numbers", "_law_row", "_law_at"]
theorem sc__law_come : FnScope n__law_come ["_law_numbers", "_law_row"] (defScope s__law_come) := ⟨rfl, rfl, rfl, by decide +kernel, rfl, by decide +kernel, by decide +kernel⟩
abbrev s__law_rows : Stmt := top 42
abbrev n__law_rows : List Str := ["_law_many", "_law_most", "_law_found", "_law_at", "_law_longer", "_law_row", "_law_one"]
theorem sc__law_rows : FnScope n__law_rows ["_law_many", "_law_most"] (defScope s__law_rows) := ⟨rfl, rfl, rfl, by decide +kernel, rfl, by decide +kernel, by decide +kernel⟩
abbrev s_law : Stmt := top 43
abbrev n_law : List Str := ["_law_script", "_law_h", "_law_turn", "_law_many", "_law_weights", "_law_limit", "_law_row", "_law_form", "_law_due", "_law_k"]
theorem sc_law : FnScope n_law ["_law_script"] (defScope s_law) := ⟨rfl, rfl, rfl, by decide +kernel, rfl, by decide +kernel, by decide +kernel⟩
structure Adr where
  WeightError : Addr
  InvalidWeights : Addr
  BadNumber : Addr
  Form : Addr
  Normal : Addr
structure Ctx (K : PySem.W.Frag) (mg : Str → Option Value) (a : Adr) : Prop where
  B : Blt mg
  c_MOST_PART : CInt mg "MOST_PART" 1000000
  c_MOST_PARTS : CInt mg "MOST_PARTS" 5
  c_SIZES : CTup K mg "SIZES" [.int (3), .int (4)]
  d_is_integer : DefAt K mg "is_integer" s_is_integer ["thing", "low", "high"]
  d_is_weight : DefAt K mg "is_weight" s_is_weight ["thing"]
  d_product : DefAt K mg "product" s_product ["numbers"]
  m_Form : mg "Form" = some (.ref a.Form)
  k_Form : ClsI K a.Form
  n_Form_rows : NoAttr K a.Form "rows"
  n_Form_sums : NoAttr K a.Form "sums"
  i_Form : InitAt K a.Form "Form.__init__" s_Form___init__ ["self", "weights"]
  g_Form_weights : Getter K a.Form "weights" "rows"
  g_Form_numbers : Getter K a.Form "numbers" "sums"
  e_Form___len__ : MethAt K a.Form "__len__" "Form.__len__" s_Form___len__ ["self"]
  e_Form___eq__ : MethAt K a.Form "__eq__" "Form.__eq__" s_Form___eq__ ["self", "other"]
  d_come_to : DefAt K mg "come_to" s_come_to ["numbers", "row"]
  d_primes_of : DefAt K mg "primes_of" s_primes_of ["weight"]
  d_sign_of : DefAt K mg "sign_of" s_sign_of ["weight"]
  d_powered : DefAt K mg "powered" s_powered ["number", "times", "many"]
  d_odd_primes_of : DefAt K mg "odd_primes_of" s_odd_primes_of ["weight"]
  d_root_of : DefAt K mg "root_of" s_root_of ["weight"]
  m_Normal : mg "Normal" = some (.ref a.Normal)
  k_Normal : ClsI K a.Normal
  n_Normal_bare : NoAttr K a.Normal "bare"
  n_Normal_ups : NoAttr K a.Normal "ups"
  n_Normal_downs : NoAttr K a.Normal "downs"
  n_Normal_signs : NoAttr K a.Normal "signs"
  i_Normal : InitAt K a.Normal "Normal.__init__" s_Normal___init__ ["self", "rows"]
  e_Normal_all_weights : MethAt K a.Normal "all_weights" "Normal.all_weights" s_Normal_all_weights ["self"]
  e_Normal_back : MethAt K a.Normal "back" "Normal.back" s_Normal_back ["self", "row"]
  d_is_square : DefAt K mg "is_square" s_is_square ["number", "prime"]
  d_two_bars : DefAt K mg "two_bars" s_two_bars ["numbers"]
  d_bars_of : DefAt K mg "bars_of" s_bars_of ["shape"]
  d_ends_of : DefAt K mg "ends_of" s_ends_of ["weight", "prime"]
  d_symbol : DefAt K mg "symbol" s_symbol ["one", "other", "prime"]
  d_is_local_square : DefAt K mg "is_local_square" s_is_local_square ["weight", "prime"]
  d_four_bar : DefAt K mg "four_bar" s_four_bar ["rows", "prime"]
  d_four_bars : DefAt K mg "four_bars" s_four_bars ["rows"]
  d_bad_places : DefAt K mg "bad_places" s_bad_places ["form"]
  d_has_answer : DefAt K mg "has_answer" s_has_answer ["form"]
  c_MOST_LIMIT : CInt mg "MOST_LIMIT" 9
  d_rows_to : DefAt K mg "rows_to" s_rows_to ["many", "limit"]
  d_small_answer : DefAt K mg "small_answer" s_small_answer ["form", "limit"]
  d__law_mix : DefAt K mg "_law_mix" s__law_mix ["_law_script", "_law_seed"]
  d__law_next : DefAt K mg "_law_next" s__law_next ["_law_h", "_law_cap"]
  d__law_alike : DefAt K mg "_law_alike" s__law_alike ["_law_found", "_law_due"]
  d__law_pick : DefAt K mg "_law_pick" s__law_pick ["_law_h", "_law_things"]
  d__law_weight : DefAt K mg "_law_weight" s__law_weight ["_law_h"]
  d__law_come : DefAt K mg "_law_come" s__law_come ["_law_numbers", "_law_row"]
  d__law_rows : DefAt K mg "_law_rows" s__law_rows ["_law_many", "_law_most"]
  d_law : DefAt K mg "law" s_law ["_law_script"]
local macro_rules | `(tactic| walk_at "n1") => `(tactic| first
  | with_reducible refine r_seq ?_
  | with_reducible refine r_ret ?_
  | with_reducible refine r_retN ?_
  | with_reducible refine r_next ?_
  | ((with_reducible refine x_app ?_); refine ⟨_, _, rfl, rfl, ?_⟩)
  | with_reducible refine r_drop ?_
  | with_reducible refine r_aug rfl ?_
  | with_reducible refine r_par ?_
  | ((with_reducible refine x_var ?_); refine ⟨_, rfl, ?_⟩)
  | with_reducible refine ev_c ?_
  | with_reducible refine ev_op ?_
  | with_reducible refine ev_un ?_
  | with_reducible refine ev_isiT ?_
  | with_reducible refine ev_cb ?_
  | with_reducible refine ev_tup ?_
  | with_reducible refine ev_lst ?_
  | with_reducible refine ev_if ?_
  | with_reducible refine et_test ?_
  | with_reducible refine et_B ?_
  | with_reducible refine et_and ?_
  | with_reducible refine et_or ?_
  | with_reducible refine et_not ?_
  | with_reducible refine ev_andV ?_
  | with_reducible refine ev_orV ?_
  | with_reducible refine ev_notV ?_
  | with_reducible refine eo_none ?_
  | with_reducible refine eo_some ?_
  | with_reducible refine ea_nil ?_
  | with_reducible refine ea_cons ?_
  | with_reducible refine eu_I ?_
  | with_reducible refine g_add ?_
  | with_reducible refine g_sub ?_
  | with_reducible refine x_mul ?_
  | ((with_reducible refine x_mod ?_); refine ⟨by decide, ?_⟩)
  | ((with_reducible refine x_div ?_); refine ⟨divW (b := 60) (by decide) (by decide) (by decide), ?_⟩)
  | ((with_reducible refine x_pow ?_); refine ⟨⟨by decide, by decide, by decide⟩, ?_⟩)
  | with_reducible refine x_mod ?_
  | with_reducible refine x_div ?_
  | with_reducible refine g_lt ?_
  | with_reducible refine g_le ?_
  | with_reducible refine g_gt ?_
  | with_reducible refine g_ge ?_
  | with_reducible refine g_eqI ?_
  | with_reducible refine g_neI ?_
  | with_reducible refine g_eqV rfl ?_
  | with_reducible refine g_neV rfl ?_
  | with_reducible refine g_isND ?_
  | with_reducible refine g_notND ?_
  | with_reducible refine x_ixT ?_
  | with_reducible refine x_ixL ?_
  | ((with_reducible refine x_ixM ?_); refine ⟨_, rfl, ?_⟩)
  | with_reducible refine x_lenL ?_
  | with_reducible refine x_lenT ?_
  | with_reducible refine x_lenS ?_
  | ((with_reducible refine x_lenM ?_); refine ⟨_, rfl, ?_⟩)
  | with_reducible refine ec_abs ?_
  | with_reducible refine ec_max2 ?_
  | with_reducible refine ec_min2 ?_
  | with_reducible refine ec_int1 ?_
  | with_reducible refine x_tupL ?_
  | ((with_reducible refine x_tupM ?_); refine ⟨_, rfl, ?_⟩)
  | with_reducible refine ev_chain ?_
  | with_reducible refine ev_ct ?_
  | ((with_reducible refine ei_int ?_); refine ⟨by first | assumption | constructor, ?_⟩)
  | ((with_reducible refine ei_bool ?_); refine ⟨by first | assumption | constructor, ?_⟩)
  | ((with_reducible refine ei_tuple ?_); refine ⟨by first | assumption | constructor, ?_⟩)
  | ((with_reducible refine ei_lst ?_); refine ⟨by first | assumption | constructor, ?_⟩)
  | ((with_reducible refine ei_str ?_); refine ⟨by first | assumption | constructor, ?_⟩)
  | with_reducible refine ec_callP ?_
  | with_reducible refine ec_callG ?_
  | with_reducible refine eg_tup rfl ?_
  | with_reducible refine eg_nil ?_
  | with_reducible refine eg_cons ?_
  | with_reducible refine eg_name ?_
  | (with_reducible show ∃ ds : List D, _ = List.map Sl.v ds ∧ _; first
      | refine ⟨[], rfl, le_lit rfl, ?_⟩
      | refine ⟨[_], rfl, le_lit rfl, ?_⟩
      | refine ⟨[_, _], rfl, le_lit rfl, ?_⟩
      | refine ⟨[_, _, _], rfl, le_lit rfl, ?_⟩
      | refine ⟨[_, _, _, _], rfl, le_lit rfl, ?_⟩
      | refine ⟨[_, _, _, _, _], rfl, le_lit rfl, ?_⟩
      | refine ⟨[_, _, _, _, _, _], rfl, le_lit rfl, ?_⟩
      | refine ⟨[_, _, _, _, _, _, _], rfl, le_lit rfl, ?_⟩
      | refine ⟨[_, _, _, _, _, _, _, _], rfl, le_lit rfl, ?_⟩
      | refine ⟨[_, _, _, _, _, _, _, _, _], rfl, le_lit rfl, ?_⟩
      | refine ⟨[_, _, _, _, _, _, _, _, _, _], rfl, le_lit rfl, ?_⟩
      | refine ⟨[_, _, _, _, _, _, _, _, _, _, _], rfl, le_lit rfl, ?_⟩
      | refine ⟨[_, _, _, _, _, _, _, _, _, _, _, _], rfl, le_lit rfl, ?_⟩)
  | (show ∃ b, Sl.v (D.bl _) = Sl.v (D.bl b) ∧ _; refine ⟨_, rfl, ?_⟩)
  | (show ∃ i, Sl.v (D.int _) = Sl.v (D.int i) ∧ _; refine ⟨_, rfl, ?_⟩))
local macro_rules | `(tactic| walk_at "d1") => `(tactic| first | with_reducible refine r_if ?_ | walk_at "n1")
local macro_rules | `(tactic| walk_at "n") => `(tactic| repeat walk_at "n1")
local macro_rules | `(tactic| walk_at "d") => `(tactic| repeat walk_at "d1")
section
variable {P : Program} {w : World} {K : PySem.W.Frag} {mg : Str → Option Value} {base : Heap} {a : Adr}
/-! ### forms: kinds, weights, products -/
def isI (d : D) (lo hi : Int) : Bool := match d with
  | .raw (.int i) => decide (lo ≤ i) && decide (i ≤ hi)
  | _ => false
theorem isI_of {d : D} (h1 : isIntD d = true) (h2 : isBoolD d = false) : ∃ i, d = .int i := by
  match d, h1, h2 with
  | .raw (.int i), _, _ => exact ⟨i, rfl⟩
theorem ok_is_integer (C : Ctx K mg a) : FnAt P w K mg base CX0 1 "is_integer" ["thing", "low", "high"] (SpP K (fun x : D × Int × Int => [x.1, .int x.2.1, .int x.2.2]) (fun x => Tame x.1) (fun x d => d = .bl (isI x.1 x.2.1 x.2.2))) := by
  refine fn_at C.d_is_integer sc_is_integer (fun _ => rfl) fun f cdv A outer s H E hr => ⟨_, (pss_one (ps_ret (pe_and (pe_isi (K := K) C.B.isinstance rfl (pa_cons (pv 0) (pa_cons (pe_bltn (v := .ty "int") rfl C.B.int (by decide +kernel) rfl) pa_nil))) (pe_and (pe_not (pe_isi (K := K) C.B.isinstance rfl (pa_cons (pv 0) (pa_cons (pe_bltn (v := .ty "bool") rfl C.B.bool (by decide +kernel) rfl) pa_nil)))) (pe_one (pe_chain op_gLe op_gLe (pv 1) (pv 0) (pv 2))))))), fun i e hp he => ?_⟩
  obtain ⟨d, lo, hi⟩ := i
  have hp : Tame d := hp
  dsimp only [cxOf]
  walk_at "d"
  refine ite_b (fun h1 => ?_) (fun h1 => ?_)
  · walk_at "d"
    refine ite_b (fun h2 => ?_) (fun h2 => ?_)
    · obtain ⟨j, rfl⟩ := isI_of h1 (by simpa using h2)
      walk_at "d"
      refine ite_dec (fun h3 => ?_) (fun h3 => ?_)
      · walk_at "d"
        refine ret_v ?_
        simp [isI, h3]
      · refine ret_v ?_
        simp [isI, h3]
    · refine ret_v ?_
      have : isBoolD d = true := by simpa using h2
      match d, this with
      | .raw (.bl b), _ => rfl
  · refine ret_v ?_
    match d, h1 with
    | .raw .non, _ => rfl
    | .raw (.str _), _ => rfl
    | .raw (.byt _), _ => rfl
    | .raw (.flt _), _ => rfl
    | .raw (.ref _), _ => rfl
    | .raw (.ty _), _ => rfl
    | .tup _, _ => rfl
    | .lst _, _ => rfl
    | .dic _ _, _ => rfl
    | .ins _ _ _, _ => rfl
    | .rd _, _ => rfl
/-- a part that can stand -/
def okPart (d : D) : Bool := match d with
  | .raw (.int i) => decide (-1000000 ≤ i) && decide (i ≤ 1000000) && !decide (i = 0)
  | _ => false
def isW (d : D) : Bool := match d with
  | .tup ds => decide (1 ≤ ds.length) && decide (ds.length ≤ 5) && (ds.map okPart).all id
  | _ => false
def TameW (d : D) : Prop := Tame d ∧ ∀ ds, d = .tup ds → ds.length ≤ 1000 ∧ ∀ x, x ∈ ds → Tame x
theorem isW_no {d : D} (h : isTupD d = false) : isW d = false := by
  match d, h with
  | .raw _, _ => rfl
  | .lst _, _ => rfl
  | .dic _ _, _ => rfl
  | .ins _ _ _, _ => rfl
  | .rd _, _ => rfl
theorem isTup_of {d : D} (h : isTupD d = true) : ∃ ds, d = .tup ds := by
  match d, h with
  | .tup ds, _ => exact ⟨ds, rfl⟩
theorem ok_is_weight (C : Ctx K mg a) : FnAt P w K mg base CX0 2 "is_weight" ["thing"] (SpP K (fun d : D => [d]) TameW (fun d r => r = .bl (isW d))) := by
  refine fn_at C.d_is_weight sc_is_weight (fun _ => rfl) fun f cdv A outer s H E hr => ⟨_, (pss_cons (ps_if (PW.pt (pw_or (pt_not (pt_val (pe_isi (K := K) C.B.isinstance rfl (pa_cons (pv 0) (pa_cons (pe_bltn (v := .ty "tuple") rfl C.B.tuple (by decide +kernel) rfl) pa_nil))))) (pw_or1 (pt_not (pt_chain op_gLe op_gLe pe_int (pe_len (K := K) C.B.len rfl (pa_cons (pv 0) pa_nil)) (C.c_MOST_PARTS.pe rfl))))))
    (pss_one (ps_ret pe_bl))
    pss_nil)
    (pss_one (ps_ret (pe_all (K := K) C.B.all rfl rfl (pa_cons (pe_lc (own := [("part", 1)]) (g := (gName 1)) (tt := tYes) rfl sc_is_weight.nd (pi_seq (K := K) (pv 0)) (blkOk_by (N := n_is_weight) (sc := defScope s_is_weight) (by decide +kernel)) (fun _ _ _ _ _ => (pg_name (i := 1) sc_is_weight.nd rfl (by first | exact Or.inl rfl | exact Or.inr rfl))) (fun _ _ _ _ _ => pts_nil) (fun _ _ _ _ _ => (pe_and (pe_fn (ok_is_integer C) (hr.mono (by omega)) rfl (pa_cons (pv 1) (pa_cons (pe_un un_neg (C.c_MOST_PART.pe rfl)) (pa_cons (C.c_MOST_PART.pe rfl) pa_nil)))) (pe_one (pe_cmpR (op_gNe (K := K) (by exact hr.units)) (pv 1) pe_int (nomark _)))))) pa_nil))))), fun d e hp he => ?_⟩
  have ht : Tame d := hp.1
  dsimp only [cxOf]
  walk_at "d"
  cases h1 : isTupD d with
  | false =>
    refine iteT ?_
    refine iteT ?_
    walk_at "d"
    exact ret_v (by rw [isW_no h1])
  | true =>
    obtain ⟨ds, rfl⟩ := isTup_of h1
    obtain ⟨hl, hx⟩ := hp.2 ds rfl
    refine iteF ?_
    walk_at "d"
    have fin : ∀ {M : List MO}, ¬ (1 ≤ ds.length ∧ ds.length ≤ 5) → RetOk ([] : List MO).length (fun r (_ : List MO) => r = D.bl (isW (.tup ds))) (.v (.bl false)) M := fun {M} h => ret_v (by
      show D.bl false = D.bl (decide (1 ≤ ds.length) && decide (ds.length ≤ 5) && (ds.map okPart).all id)
      by_cases z : 1 ≤ ds.length
      · rw [decide_eq_true z, decide_eq_false (fun y => h ⟨z, y⟩)]; rfl
      · rw [decide_eq_false z]; rfl)
    refine ite_dec (fun h2 => ?_) (fun h2 => ?_)
    · walk_at "d"
      refine ite_ndec (fun h3 => ?_) (fun h3 => ?_)
      · walk_at "d"
        exact fin (by omega)
      · walk_at "d"
        refine ev_lcM (fun d => .bl (okPart d)) (ei_seqT ?_)
        walk_at "d"
        refine ⟨ds, rfl, by omega, fun j x hj => ?_, ?_⟩
        · have hxt := hx x (List.mem_of_getElem? hj)
          walk_at "d"
          refine ⟨(x, -1000000, 1000000), rfl, hxt, fun r hr' => ?_⟩
          subst hr'
          refine ⟨_, rfl, ?_⟩
          refine ite_b (fun h4 => ?_) (fun h4 => ?_)
          · match x, h4 with
            | .raw (.int i), h4 =>
              have h4 : (decide (-1000000 ≤ i) && decide (i ≤ 1000000)) = true := h4
              walk_at "d"
              show Sl.v (D.bl (!decide (i = 0))) = Sl.v (.bl (decide (-1000000 ≤ i) && decide (i ≤ 1000000) && !decide (i = 0)))
              rw [h4]; rfl
          · show Sl.v (D.bl false) = Sl.v (.bl (okPart x))
            match x, h4 with
            | .raw (.int i), h4 =>
              have h4 : (decide (-1000000 ≤ i) && decide (i ≤ 1000000)) = false := h4
              show Sl.v (D.bl false) = Sl.v (.bl (decide (-1000000 ≤ i) && decide (i ≤ 1000000) && !decide (i = 0)))
              rw [h4]; rfl
            | .raw .non, _ => rfl
            | .raw (.bl _), _ => rfl
            | .raw (.str _), _ => rfl
            | .raw (.byt _), _ => rfl
            | .raw (.flt _), _ => rfl
            | .raw (.ref _), _ => rfl
            | .raw (.ty _), _ => rfl
            | .tup _, _ => rfl
            | .lst _, _ => rfl
            | .dic _ _, _ => rfl
            | .ins _ _ _, _ => rfl
            | .rd _, _ => rfl
        · walk_at "d"
          refine ec_all (bs := ds.map okPart) ?_ (ret_v ?_)
          · have : (D.bls (ds.map okPart)) = ds.map fun d => .bl (okPart d) := by simp [D.bls, Function.comp_def]
            rw [this]; exact .v
          · show D.bl _ = D.bl (decide (1 ≤ ds.length) && decide (ds.length ≤ 5) && (ds.map okPart).all id)
            rw [decide_eq_true (by omega), decide_eq_true (by omega)]; rfl
    · walk_at "d"
      refine iteT ?_
      walk_at "d"
      exact fin (by omega)
abbrev wt (ns : List Int) : D := .tup (D.ints ns)
/-- a weight's parts -/
structure Wt (ns : List Int) : Prop where
  lo : 1 ≤ ns.length
  hi : ns.length ≤ 5
  p : ∀ n, n ∈ ns → n ≠ 0 ∧ n.natAbs ≤ 1000000
theorem Wt.isW {ns : List Int} (h : Wt ns) : isW (wt ns) = true := by
  show (decide (1 ≤ (D.ints ns).length) && decide ((D.ints ns).length ≤ 5) && ((D.ints ns).map okPart).all id) = true
  rw [decide_eq_true (by rw [List.length_map]; exact h.lo), decide_eq_true (by rw [List.length_map]; exact h.hi), Bool.true_and, Bool.true_and]
  simp only [D.ints, List.map_map, List.all_eq_true, List.mem_map, id]
  rintro b ⟨n, hn, rfl⟩
  have := h.p n hn
  simp only [Function.comp, okPart, Bool.and_eq_true, decide_eq_true_eq, Bool.not_eq_true', decide_eq_false_iff_not]
  omega
theorem tameW_wt (ns : List Int) (h : ns.length ≤ 1000) : TameW (wt ns) := ⟨.tup _, fun ds e => by
  cases e
  refine ⟨by simpa using h, fun x hx => ?_⟩
  obtain ⟨n, _, rfl⟩ := List.mem_map.mp hx
  exact .int n⟩
theorem Wt.tame {ns : List Int} (h : Wt ns) : TameW (wt ns) := tameW_wt ns (by have := h.hi; omega)
def prodL (ns : List Int) : Int := ns.foldl (· * ·) 1
theorem prod_bit (ns : List Int) (h : ∀ n, n ∈ ns → n.natAbs < 2 ^ 700) : (prodL ns).natAbs < 2 ^ (700 * ns.length + 1) := by
  unfold prodL
  suffices g : ∀ (ns : List Int) (a : Int) (m : Nat), a.natAbs < 2 ^ m → (∀ n, n ∈ ns → n.natAbs < 2 ^ 700) → (ns.foldl (· * ·) a).natAbs < 2 ^ (700 * ns.length + m) by
    exact g ns 1 1 (by decide) h
  intro ns
  induction ns with
  | nil => intro a m ha _; simpa using ha
  | cons n ns ih =>
    intro a m ha h
    have := ih (a * n) (m + 700) (mul_lt ha (h n (by simp))) (fun k hk => h k (by simp [hk]))
    rw [List.foldl_cons, List.length_cons]
    exact bit_le this (by omega)
theorem prod_snoc (ns : List Int) (n : Int) : prodL (ns ++ [n]) = prodL ns * n := by
  unfold prodL
  rw [List.foldl_append]
  rfl
theorem take_snoc {α : Type} {xs : List α} {i : Nat} {x : α} (h : xs[i]? = some x) : xs.take (i + 1) = xs.take i ++ [x] := by
  have hlt := (List.getElem?_eq_some_iff.mp h).1
  rw [List.take_succ_eq_append_getElem hlt, (List.getElem?_eq_some_iff.mp h).2]
theorem ints_get {ns : List Int} {i : Nat} {d : D} (h : (D.ints ns)[i]? = some d) : ∃ n, ns[i]? = some n ∧ d = .int n := by
  rw [List.getElem?_map] at h
  obtain ⟨n, hn, e⟩ := Option.map_eq_some_iff.mp h
  exact ⟨n, hn, e.symm⟩
theorem ok_product (C : Ctx K mg a) : FnAt P w K mg base CX0 1 "product" ["numbers"] (SpP K (fun x : Bool × List Int => [D.seq x.1 (D.ints x.2)]) (fun x => x.2.length ≤ 1000 ∧ ∀ n, n ∈ x.2 → n.natAbs < 2 ^ 700) (fun x d => d = .int (prodL x.2))) := by
  refine fn_at C.d_product sc_product (fun _ => rfl) fun f cdv A outer s H E hr => ⟨_, (pss_cons (ps_set (i := 1) sc_product.nd rfl (by first | exact Or.inl rfl | exact Or.inr rfl) pe_int)
    (pss_cons (ps_for PassesOwn.never rfl (pi_seq (K := K) (pv 0)) (pg_name (i := 2) sc_product.nd rfl (by first | exact Or.inl rfl | exact Or.inr rfl))
    (pss_one (ps_set (i := 1) sc_product.nd rfl (by first | exact Or.inl rfl | exact Or.inr rfl) (pe_op (op_gMul (K := K)) (pv 1) (pv 2)))))
    (pss_one (ps_ret (pv 1))))), fun i e hp he => ?_⟩
  obtain ⟨b, ns⟩ := i
  have hl : ns.length ≤ 1000 := hp.1
  have hb : ∀ n, n ∈ ns → n.natAbs < 2 ^ 700 := hp.2
  dsimp only [cxOf]
  walk_at "d"
  refine r_asg ?_
  walk_at "d"
  refine r_for [2] ?_
  refine ei_seqS ?_
  walk_at "d"
  refine ⟨_, ⟨_, rfl⟩, fun i ρ M => ∃ o, ρ = [some (.v (D.seq b (D.ints ns))), some (.v (.int (prodL (ns.take i)))), o] ∧ M = [], ⟨_, rfl, rfl⟩, ?_, ?_⟩
  · rintro i d ρ M hi ⟨o, rfl, rfl⟩
    obtain ⟨n, hn, rfl⟩ := ints_get hi
    walk_at "d"
    refine r_asg ?_
    walk_at "d"
    refine ⟨mulW (prod_bit (ns.take i) fun k hk => hb k (List.mem_of_mem_take hk)) (hb n (List.mem_of_getElem? hn)) (by rw [List.length_take]; omega), some (.v (.int n)), ?_, rfl⟩
    rw [take_snoc hn, prod_snoc]
    rfl
  · rintro ρ M ⟨o, rfl, rfl⟩
    walk_at "d"
    refine ret_v ?_
    simp [D.ints]
theorem Wt.pre {ns : List Int} (h : Wt ns) : ns.length ≤ 1000 ∧ ∀ n, n ∈ ns → n.natAbs < 2 ^ 700 := ⟨by have := h.hi; omega, fun n hn => by
  have h1 := (h.p n hn).2
  have h2 : (1000000 : Nat) < 2 ^ 700 := Nat.lt_of_lt_of_le (show 1000000 < 2 ^ 20 by decide) (Nat.pow_le_pow_right (by decide) (by decide))
  omega⟩
theorem Wt.bit {ns : List Int} (h : Wt ns) : (prodL ns).natAbs < 2 ^ 900 := by
  have : ∀ (ns : List Int) (m : Nat) (a : Int), (∀ n, n ∈ ns → n.natAbs ≤ 1000000) → a.natAbs < 2 ^ m → (ns.foldl (· * ·) a).natAbs < 2 ^ (20 * ns.length + m) := by
    intro ns
    induction ns with
    | nil => intro m a _ ha; simpa using ha
    | cons n ns ih =>
      intro m a hh ha
      have hn : n.natAbs < 2 ^ 20 := by have := hh n List.mem_cons_self; omega
      have := ih (m + 20) (a * n) (fun k hk => hh k (List.mem_cons_of_mem _ hk)) (mul_lt ha hn)
      rw [List.foldl_cons, List.length_cons]
      exact bit_le this (by omega)
  have := this ns 1 1 (fun n hn => (h.p n hn).2) (by decide)
  have hl := h.hi
  exact bit_le this (by omega)
theorem lit_bit {i : Int} {b : Nat} (h : i.natAbs < 2 ^ 60) (hb : 60 ≤ b) : i.natAbs < 2 ^ b := bit_le h hb

end
section
variable {P : Program} {w : World} {K : PySem.W.Frag} {mg : Str → Option Value} {base : Heap} {a : Adr}
/-! ### the making of a form -/
abbrev fm (C : Addr) (ws : List (List Int)) : D := .ins C ["rows", "sums"] [.tup (ws.map wt), .tup (D.ints (ws.map prodL))]
structure Frm (ws : List (List Int)) : Prop where
  len : ws.length = 3 ∨ ws.length = 4
  w : ∀ n, n ∈ ws → Wt n
theorem enum_get {k : Int} {ds : List D} {i : Nat} {d : D} (h : (enumD k ds)[i]? = some d) : ∃ c, ds[i]? = some c ∧ d = .tup [.int (k + (i : Int)), c] := by
  unfold enumD at h
  rw [List.getElem?_mapIdx] at h
  obtain ⟨c, hc, e⟩ := Option.map_eq_some_iff.mp h
  exact ⟨c, hc, e.symm⟩
theorem map_get {α β : Type} {f : α → β} {xs : List α} {i : Nat} {y : β} (h : (xs.map f)[i]? = some y) : ∃ x, xs[i]? = some x ∧ y = f x := by
  rw [List.getElem?_map] at h
  obtain ⟨c, hc, e⟩ := Option.map_eq_some_iff.mp h
  exact ⟨c, hc, e.symm⟩
theorem ok_Form (C : Ctx K mg a) : MkAt P w K mg base 3 "Form" a.Form ["self", "weights"] (SpI K a.Form (fun ws : List (List Int) => [.tup (ws.map wt)]) Frm ["rows", "sums"] (fun ws ds => ds = [.tup (ws.map wt), .tup (D.ints (ws.map prodL))])) := by
  obtain ⟨f, fd, hM, hF, hB⟩ := C.i_Form.ex
  refine mk_at C.m_Form hM hF hB sc_Form___init__ (fun _ => rfl) fun f cdv A outer s H E hr => ⟨_, (pss_cons (ps_if (PW.pt (pw_or (pt_not (pt_val (pe_isi (K := K) C.B.isinstance rfl (pa_cons (pv 1) (pa_cons (pe_bltn (v := .ty "tuple") rfl C.B.tuple (by decide +kernel) rfl) pa_nil))))) (pw_or1 (pt_cmpR (op_gNotIn (K := K) (by exact units65 hr)) (pe_len (K := K) C.B.len rfl (pa_cons (pv 1) pa_nil)) (C.c_SIZES.pe rfl) rfl))))
    (pss_one ps_never)
    pss_nil)
    (pss_cons (ps_for PassesOwn.never rfl (pi_enB (K := K) rfl C.B.enumerate (pa_cons (pv 1) pa_nil)) (pg_tup rfl (pgs_cons (pg_name (i := 2) sc_Form___init__.nd rfl (by first | exact Or.inl rfl | exact Or.inr rfl)) (pgs_cons (pg_name (i := 3) sc_Form___init__.nd rfl (by first | exact Or.inl rfl | exact Or.inr rfl)) pgs_nil)))
    (pss_one (ps_if (pt_not (pt_val (pe_fn (ok_is_weight C) (hr.mono (by omega)) rfl (pa_cons (pv 3) pa_nil))))
    (pss_one ps_never)
    pss_nil)))
    (pss_cons (ps_fld (pv 0) (pv 1) rfl)
    (pss_one (ps_fld (pv 0) (pe_tupOf (K := K) C.B.tuple rfl (pa_cons (pe_lc (own := [("weight", 3)]) (g := (gName 3)) (tt := tYes) rfl sc_Form___init__.nd (pi_seq (K := K) (pv 1)) (blkOk_by (N := n_Form___init__) (sc := defScope s_Form___init__) (by decide +kernel)) (fun _ _ _ _ _ => (pg_name (i := 3) sc_Form___init__.nd rfl (by first | exact Or.inl rfl | exact Or.inr rfl))) (fun _ _ _ _ _ => pts_nil) (fun _ _ _ _ _ => (pe_fn (ok_product C) (hr.mono (by omega)) rfl (pa_cons (pv 3) pa_nil)))) pa_nil)) rfl))))), fun ws e hp he => ?_⟩
  have hlen : ws.length = 3 ∨ ws.length = 4 := hp.len
  dsimp only [cxOf]
  walk_at "d"
  refine iteF ?_
  walk_at "d"
  refine g_notInI (ns := [3, 4]) .t ?_
  have hin : decide (((ws.map wt).length : Int) ∈ ([3, 4] : List Int)) = true := by
    rw [List.length_map]
    rcases hlen with h | h <;> rw [h] <;> decide
  rw [hin]
  refine ⟨_, rfl, iteF ?_⟩
  walk_at "d"
  refine r_for [2, 3] ?_
  refine ei_enB ?_
  walk_at "d"
  refine ⟨_, _, rfl, .t, fun i ρ M => ∃ o1 o2, ρ = [some (.l 0), some (.v (.tup (ws.map wt))), o1, o2] ∧ M = [.ins a.Form [] []], ⟨none, none, rfl, rfl⟩, ?_, ?_⟩
  · rintro i d ρ M hi ⟨o1, o2, rfl, rfl⟩
    obtain ⟨c, hc, rfl⟩ := enum_get hi
    obtain ⟨n, hn, rfl⟩ := map_get hc
    have hw := hp.w n (List.mem_of_getElem? hn)
    walk_at "d"
    refine ⟨wt n, rfl, hw.tame, fun r er => ?_⟩
    subst er
    refine ⟨_, rfl, ?_⟩
    rw [hw.isW]
    refine iteF ?_
    walk_at "d"
    exact ⟨_, _, rfl, rfl⟩
  · rintro ρ M ⟨o1, o2, rfl, rfl⟩
    walk_at "d"
    refine r_fld C.k_Form.cl C.n_Form_rows rfl rfl (by decide) ?_
    walk_at "d"
    refine ⟨_, rfl, ?_⟩
    refine r_fld C.k_Form.cl C.n_Form_sums rfl rfl (le_lit rfl) ?_
    walk_at "d"
    refine ev_lcM (fun d => match d with | .tup ds => .int (prodL (ds.map fun | .raw (.int i) => i | _ => 0)) | _ => d) (ei_seqT ?_)
    walk_at "d"
    refine ⟨_, rfl, by rw [List.length_map]; omega, fun j x hj => ?_, ?_⟩
    · obtain ⟨n, hn, rfl⟩ := map_get hj
      have hw := hp.w n (List.mem_of_getElem? hn)
      walk_at "d"
      refine ⟨(true, n), rfl, hw.pre, fun r er => ?_⟩
      subst er
      have : (D.ints n).map (fun | .raw (.int i) => i | _ => (0 : Int)) = n := by simp [D.ints, Function.comp_def]
      show Sl.v (D.int (prodL n)) = .v (.int (prodL ((D.ints n).map fun | .raw (.int i) => i | _ => 0)))
      rw [this]
    · walk_at "d"
      refine ⟨_, rfl, _, rfl, ?_⟩
      have : (ws.map wt).map (fun d => match d with | .tup ds => D.int (prodL (ds.map fun | .raw (.int i) => i | _ => 0)) | _ => d) = D.ints (ws.map prodL) := by
        simp only [D.ints, List.map_map]
        apply List.map_congr_left
        intro n _
        have : (D.ints n).map (fun | .raw (.int i) => i | _ => (0 : Int)) = n := by simp [D.ints, Function.comp_def]
        show D.int (prodL ((D.ints n).map fun | .raw (.int i) => i | _ => 0)) = .int (prodL n)
        rw [this]
      rw [this]
      rfl
theorem ev_numbers (C : Ctx K mg a) {te : TE} {ρ : Rho} {M : List MO} {Q : Sl → Prop} {X : XK} {ws : List (List Int)} (h : EvP K te ρ M fun s => s = .v (fm a.Form ws) ∧ Q (.v (.tup (D.ints (ws.map prodL))))) : EvP K (tProp a.Form (getSp a.Form "sums") [] X te) ρ M Q := ev_prop (i := 1) rfl rfl h

end
section
variable {P : Program} {w : World} {K : PySem.W.Frag} {mg : Str → Option Value} {base : Heap} {a : Adr}
def sgn (n : Int) : Int := if n > 0 then 1 else -1
theorem ok_sign_of (C : Ctx K mg a) : FnAt P w K mg base CX0 2 "sign_of" ["weight"] (SpP K (fun ns : List Int => [wt ns]) (fun ns => Wt ns) (fun ns r => r = .int (sgn (prodL ns)))) := by
  refine fn_at C.d_sign_of sc_sign_of (fun _ => rfl) fun f cdv A outer s H E hr => ⟨_, (pss_one (ps_ret (pe_ifExp (pt_cmpR op_gGt (pe_fn (ok_product C) (hr.mono (by omega)) rfl (pa_cons (pv 0) pa_nil)) pe_int (nomark _)) pe_int (pe_un un_neg pe_int)))), fun ns e hp he => ?_⟩
  have hp : Wt ns := hp
  dsimp only [cxOf]
  walk_at "d"
  refine ⟨(true, ns), rfl, hp.pre, fun r hr' => ?_⟩
  subst hr'
  walk_at "d"
  refine ite_dec (fun h => ?_) (fun h => ?_)
  · walk_at "d"
    exact ret_v (by rw [sgn, if_pos h])
  · walk_at "d"
    exact ret_v (by rw [sgn, if_neg h])

end
section
variable {P : Program} {w : World} {K : PySem.W.Frag} {mg : Str → Option Value} {base : Heap} {a : Adr}
/-! ### primes of a weight -/
open NT in
structure Pd (ks : List Key) (ds : List D) (n : Nat) : Prop where
  len : ks.length = ds.length
  nd : ks.Nodup
  rng : ∀ k, k ∈ ks → ∃ p : Nat, k = .inl (p : Int) ∧ Pr p ∧ p ∣ n ∧ p ≤ 1000000
  val : ∀ p : Nat, Pr p → kdGet ks ds (.inl (p : Int)) = if p ∣ n then some (.int (vp p n : Nat)) else none
theorem kd_nil {k : Key} : kdGet [] [] k = none := rfl
theorem Pd.nil : Pd [] [] 1 := ⟨rfl, .nil, fun k h => by simp at h, fun p hp => by rw [if_neg hp.one]; rfl⟩
theorem Pd.get {ks : List Key} {ds : List D} {n p : Nat} (h : Pd ks ds n) (hp : NT.Pr p) : (kdGet ks ds (.inl (p : Int))).getD (.int 0) = .int (NT.vp p n : Nat) := by
  rw [h.val p hp]
  by_cases z : p ∣ n
  · rw [if_pos z]; rfl
  · rw [if_neg z, NT.vp_no z]; rfl
theorem kdPut_nd {ks : List Key} {ds : List D} {k : Key} {d : D} (h : ks.Nodup) : (kdPut ks ds k d).1.Nodup := by
  unfold kdPut
  by_cases e : (ks.any fun j => decide (j = k)) = true
  · rw [if_pos e]; exact h
  · rw [if_neg e]
    have hn : k ∉ ks := fun z => e (any_mem.mpr z)
    exact List.nodup_append.mpr ⟨h, by simp, fun a ha b hb => by simp at hb; rw [hb]; exact fun z => hn (by rw [← z]; exact ha)⟩
theorem kdPut_mem {ks : List Key} {ds : List D} {k j : Key} {d : D} (h : j ∈ (kdPut ks ds k d).1) : j ∈ ks ∨ j = k := by
  unfold kdPut at h
  by_cases e : (ks.any fun j => decide (j = k)) = true
  · rw [if_pos e] at h; exact .inl h
  · rw [if_neg e] at h
    rcases List.mem_append.mp h with z | z
    · exact .inl z
    · simp at z; exact .inr z
theorem Pd.mul {ks : List Key} {ds : List D} {n p : Nat} (h : Pd ks ds n) (hp : NT.Pr p) (hn : 0 < n) (h6 : p ≤ 1000000) : Pd (kdPut ks ds (.inl (p : Int)) (.int ((NT.vp p n : Nat) + 1 : Int))).1 (kdPut ks ds (.inl (p : Int)) (.int ((NT.vp p n : Nat) + 1 : Int))).2 (n * p) := by
  refine ⟨kdPut_len h.len, kdPut_nd h.nd, fun k hk => ?_, fun q hq => ?_⟩
  · rcases kdPut_mem hk with z | z
    · obtain ⟨q, e, hq, hd, h6⟩ := h.rng k z
      exact ⟨q, e, hq, Nat.dvd_mul_right_of_dvd hd p, h6⟩
    · exact ⟨p, z, hp, Nat.dvd_mul_left p n, h6⟩
  · rw [kdGet_put h.len]
    by_cases e : q = p
    · subst e
      rw [if_pos rfl, if_pos (Nat.dvd_mul_left q n), NT.vp_mul hp hn hp.pos, NT.vp_self hp]
      simp
    · have e' : ¬ (Sum.inl (q : Int) : Key) = Sum.inl (p : Int) := fun z => e (by have := Sum.inl.inj z; omega)
      rw [if_neg e', h.val q hq]
      have hdv : q ∣ n * p ↔ q ∣ n := ⟨fun d => (hq.dvd_mul d).resolve_right fun z => e (hq.eq hp z), fun d => Nat.dvd_mul_right_of_dvd d p⟩
      by_cases z : q ∣ n
      · rw [if_pos z, if_pos (hdv.mpr z), NT.vp_mul hq hn hp.pos, NT.vp_other hq hp e]; rfl
      · rw [if_neg z, if_neg (fun y => z (hdv.mp y))]
theorem Pd.few {ks : List Key} {ds : List D} {n : Nat} (h : Pd ks ds n) : ks.length ≤ 1000001 := by
  have sub : ks ⊆ (List.range 1000001).map fun i : Nat => (Sum.inl (i : Int) : Key) := fun k hk => by
    obtain ⟨p, e, _, _, h6⟩ := h.rng k hk
    exact List.mem_map.mpr ⟨p, List.mem_range.mpr (by omega), e.symm⟩
  have := h.nd.length_le_of_subset sub
  rw [List.length_map, List.length_range] at this
  exact this
/-- no smaller prime divides -/
def Low (p n : Nat) : Prop := ∀ q, NT.Pr q → q ∣ n → p ≤ q
theorem Low.pr {p n : Nat} (h : Low p n) (hp : 2 ≤ p) (hd : p ∣ n) : NT.Pr p := by
  refine ⟨hp, fun d hdp => ?_⟩
  by_cases h1 : d = 1
  · exact .inl h1
  · have h0 : d ≠ 0 := by
      rintro rfl
      have := Nat.zero_dvd.mp hdp; omega
    obtain ⟨q, hq, hqd⟩ := NT.ex_pr d (by omega)
    have a1 := h q hq (Nat.dvd_trans hqd (Nat.dvd_trans hdp hd))
    have a2 := Nat.le_of_dvd (by omega) hqd
    have a3 := Nat.le_of_dvd (by omega) hdp
    exact .inr (by omega)
theorem Low.big {p n : Nat} (h : Low p n) (hn : 1 < n) (h2 : n < p * p) : Low n n := by
  intro q hq hd
  obtain ⟨c, rfl⟩ := hd
  have c0 : c ≠ 0 := by rintro rfl; simp at hn
  by_cases hc : c = 1
  · subst hc; simp
  · exfalso
    obtain ⟨r, hr, c', rfl⟩ := NT.ex_pr c (by omega)
    have a1 := h q hq (Nat.dvd_mul_right q _)
    have a2 := h r hr ⟨q * c', by grind⟩
    have c1 : 0 < c' := Nat.pos_of_ne_zero (by rintro rfl; simp at c0)
    have : p * p ≤ q * r := Nat.mul_le_mul a1 a2
    have : q * r * 1 ≤ q * r * c' := Nat.mul_le_mul_left _ c1
    rw [← Nat.mul_assoc] at h2
    omega
theorem Low.le {p n : Nat} (h : Low p n) (hn : 1 < n) : p ≤ n := by
  obtain ⟨q, hq, hd⟩ := NT.ex_pr n hn
  have := Nat.le_of_dvd (by omega) hd
  have := h q hq hd
  omega
theorem Low.up {p n : Nat} (h : Low p n) (hd : ¬ p ∣ n) : Low (p + 1) n := fun q hq d => by
  have := h q hq d
  have : q ≠ p := by rintro rfl; exact hd d
  omega
theorem Low.sub {p n m : Nat} (h : Low p n) (hd : m ∣ n) : Low p m := fun q hq d => h q hq (Nat.dvd_trans d hd)
theorem low2 (n : Nat) : Low 2 n := fun q hq _ => hq.1
abbrev nP (ns : List Int) : Nat := (prodL ns).natAbs
theorem nP_pos {ns : List Int} (h : ∀ n, n ∈ ns → n ≠ 0) : 0 < nP ns := by
  have : ∀ (ns : List Int) (a : Int), a ≠ 0 → (∀ n, n ∈ ns → n ≠ 0) → ns.foldl (· * ·) a ≠ 0 := by
    intro ns
    induction ns with
    | nil => intro a ha _; exact ha
    | cons n ns ih => intro a ha h; exact ih _ (Int.mul_ne_zero ha (h n (by simp))) fun k hk => h k (by simp [hk])
  exact Int.natAbs_pos.mpr (this ns 1 (by decide) h)
theorem Wt.pos {ns : List Int} (h : Wt ns) : 0 < nP ns := nP_pos fun n hn => (h.p n hn).1
theorem ok_primes_of (C : Ctx K mg a) : FnAt P w K mg base CX0 1 "primes_of" ["weight"] (SpN K (fun ns : List Int => [wt ns]) Wt (fun ns m => ∃ ks ds, m = .dic ks ds ∧ Pd ks ds (nP ns))) := by
  refine fn_atN C.d_primes_of sc_primes_of (fun _ => rfl) fun f cdv A outer s H E hr => ⟨_, (pss_cons (ps_set (i := 1) sc_primes_of.nd rfl (by first | exact Or.inl rfl | exact Or.inr rfl) pe_dnewK)
    (pss_cons (ps_for PassesOwn.never rfl (pi_seq (K := K) (pv 0)) (pg_name (i := 2) sc_primes_of.nd rfl (by first | exact Or.inl rfl | exact Or.inr rfl))
    (pss_cons (ps_par (i := 3) (j := 4) rfl sc_primes_of.nd rfl rfl (by decide) rfl rfl (pa_cons (pe_abs C.B.abs rfl (pa_cons (pv 2) pa_nil)) (pa_cons pe_int pa_nil)) rfl)
    (pss_one (ps_while PassesOwn.never (pt_cmpR op_gGt (pv 3) pe_int (nomark _))
    (pss_cons (ps_if (pt_cmpR op_gGt (pe_op (op_gMul (K := K)) (pv 4) (pv 4)) (pv 3) (nomark _))
    (pss_one (ps_set (i := 4) sc_primes_of.nd rfl (by first | exact Or.inl rfl | exact Or.inr rfl) (pv 3)))
    pss_nil)
    (pss_cons (ps_while PassesOwn.never (pt_cmpR (op_gEq (K := K) (by exact hr.units)) (pe_op op_gMod (pv 3) (pv 4)) pe_int (nomark _))
    (pss_cons (ps_set (i := 3) sc_primes_of.nd rfl (by first | exact Or.inl rfl | exact Or.inr rfl) (pe_op op_gDiv (pv 3) (pv 4)))
    (pss_one (ps_dput (hu_of hr) (pv 1) (pv 4) (pe_op (op_gAdd (K := K)) (pe_dget2 (hu_of hr) (pv 1) (pv 4) pe_int ⟨rfl, rfl, rfl, rfl⟩) pe_int) rfl))))
    (pss_one (ps_aug (i := 4) sc_primes_of.nd rfl (by first | exact Or.inl rfl | exact Or.inr rfl) pe_int ip_add))))))))
    (pss_one (ps_ret (pv 1))))), fun ns e hp he => ?_⟩
  try dsimp only [cxOf]
  refine r_seq (r_newD ?_)
  refine r_seq ?_
  refine r_for [2] ?_
  refine ei_seqT ?_
  walk_at "d"
  refine ⟨_, rfl, fun i ρ M => ∃ (ks : List Key) (ds : List D) (o2 o3 o4 : Option Sl), ρ = [some (.v (wt ns)), some (.l 0), o2, o3, o4] ∧ M = [.dic ks ds] ∧ Pd ks ds (nP (ns.take i)), ⟨[], [], none, none, none, rfl, rfl, Pd.nil⟩, ?_, ?_⟩
  · rintro i d ρ M hi ⟨ks, ds, o2, o3, o4, rfl, rfl, pd⟩
    obtain ⟨n, hn, rfl⟩ := ints_get hi
    obtain ⟨n0, n6⟩ := hp.p n (List.mem_of_getElem? hn)
    have hpos : 0 < nP (ns.take i) := nP_pos fun k hk => (hp.p k (List.mem_of_mem_take hk)).1
    walk_at "d"
    refine ⟨_, _, rfl, ?_⟩
    have hpar : 0 < n.natAbs := Int.natAbs_pos.mpr n0
    generalize hA : n.natAbs = A at *
    have habs : (if n < 0 then -n else n) = (A : Int) := by split <;> omega
    try rw [habs]
    have hN : nP (ns.take (i + 1)) = nP (ns.take i) * A := by
      show (prodL _).natAbs = (prodL _).natAbs * A
      rw [take_snoc hn, prod_snoc, Int.natAbs_mul, hA]
    generalize hN0 : nP (ns.take i) = N0 at *
    refine r_while ⟨fun m ρ M => ∃ (ks : List Key) (ds : List D) (left pr done : Nat), ρ = [some (.v (wt ns)), some (.l 0), some (.v (.int n)), some (.v (.int (left : Int))), some (.v (.int (pr : Int)))] ∧ M = [.dic ks ds] ∧ Pd ks ds (N0 * done) ∧ left * done = A ∧ 1 ≤ left ∧ 2 ≤ pr ∧ pr ≤ A + 2 ∧ Low pr left ∧ m = left + 1 - pr,
      ⟨_, ks, ds, A, 2, 1, rfl, rfl, by simpa using pd, by simp, hpar, by omega, by omega, low2 A, rfl⟩, ?_⟩
    rintro m ρ M ⟨ks, ds, left, pr, done, rfl, rfl, pd, hd, l1, p2, pA, lo, rfl⟩
    have lA : left ≤ A := Nat.le_of_dvd hpar ⟨done, hd.symm⟩
    have d0 : 0 < done := Nat.pos_of_ne_zero (by rintro rfl; simp at hd; omega)
    walk_at "d"
    refine ite_dec (fun h1 => ?_) (fun h1 => ?_)
    · have hl := lo.le (show 1 < left by omega)
      have pb : (pr : Int).natAbs < 2 ^ 30 := by omega
      refine r_seq (r_via (fun ρ' M' => ∃ p : Nat, pr ≤ p ∧ p ≤ left ∧ Low p left ∧ ρ' = [some (.v (wt ns)), some (.l 0), some (.v (.int n)), some (.v (.int (left : Int))), some (.v (.int (p : Int)))] ∧ M' = [.dic ks ds]) ?_ ?_)
      · walk_at "d"
        refine ⟨mulW pb pb (by decide), ?_⟩
        walk_at "d"
        refine ite_dec (fun h2 => ?_) (fun h2 => ?_)
        · refine r_asg ?_
          walk_at "d"
          exact ⟨left, hl, Nat.le_refl _, lo.big (by omega) (by rw [← Int.natCast_mul] at h2; omega), rfl, rfl⟩
        · walk_at "n"
          exact ⟨pr, Nat.le_refl _, hl, lo, rfl, rfl⟩
      · rintro ρ' M' ⟨p, hp1, hp2, lop, rfl, rfl⟩
        refine r_seq ?_
        refine r_while ⟨fun m ρ M => ∃ (ks : List Key) (ds : List D) (l2 done : Nat), ρ = [some (.v (wt ns)), some (.l 0), some (.v (.int n)), some (.v (.int (l2 : Int))), some (.v (.int (p : Int)))] ∧ M = [.dic ks ds] ∧ Pd ks ds (N0 * done) ∧ l2 * done = A ∧ 1 ≤ l2 ∧ l2 ≤ left ∧ Low p l2 ∧ m = l2,
          ⟨_, ks, ds, left, done, rfl, rfl, pd, hd, l1, Nat.le_refl _, lop, rfl⟩, ?_⟩
        rintro m ρ M ⟨ks, ds, l2, done, rfl, rfl, pd, hd, l1', l2', lop, rfl⟩
        have d0 : 0 < done := Nat.pos_of_ne_zero (by rintro rfl; simp at hd; omega)
        have pz : (0 : Int) < (p : Int) := by omega
        walk_at "d"
        refine ⟨pz, ?_⟩
        walk_at "d"
        refine ite_dec (fun h2 => ?_) (fun h2 => ?_)
        · have hdv : p ∣ m := by
            have := Int.dvd_of_emod_eq_zero h2
            exact Int.natCast_dvd_natCast.mp this
          have hpr := lop.pr (by omega) hdv
          obtain ⟨c, rfl⟩ := hdv
          have c0 : 0 < c := Nat.pos_of_ne_zero (by rintro rfl; simp at l1')
          have ediv : ((p * c : Nat) : Int) / (p : Int) = (c : Int) := by
            rw [Int.natCast_mul, Int.mul_ediv_cancel_left _ (by omega)]
          have plt : c < p * c := by
            have : 1 * c < p * c := Nat.mul_lt_mul_of_pos_right (by omega) c0
            omega
          walk_at "d"
          refine r_asg ?_
          walk_at "d"
          refine ⟨divW (b := 60) pz (by omega) (by decide), ?_⟩
          rw [ediv]
          refine r_dput (kk := 0) rfl rfl ?_
          walk_at "d"
          refine ev_dgetN (ks := ks) (ds := ds) rfl (.l rfl) ?_
          walk_at "d"
          refine ⟨.inl (p : Int), rfl, _, rfl, ?_⟩
          rw [pd.get hpr]
          walk_at "d"
          refine ⟨.inl (p : Int), _, rfl, rfl, by have := pd.few; omega, ?_⟩
          have pd2 := pd.mul hpr (Nat.mul_pos (by omega) d0) (by omega)
          rw [Nat.mul_assoc] at pd2
          exact ⟨c, plt, _, _, c, done * p, rfl, rfl, pd2, by rw [← hd]; grind, c0, by omega, lop.sub ⟨p, by rw [Nat.mul_comm]⟩, rfl⟩
        · walk_at "d"
          have hnd : ¬ p ∣ m := fun z => h2 (Int.emod_eq_zero_of_dvd (Int.natCast_dvd_natCast.mpr z))
          exact ⟨_, by omega, ks, ds, m, p + 1, done, rfl, rfl, pd, hd, l1', by omega, by omega, lop.up hnd, rfl⟩
    · have e1 : left = 1 := by omega
      subst e1
      rw [Nat.one_mul] at hd
      subst hd
      exact ⟨ks, ds, _, _, _, rfl, rfl, by rw [hN]; exact pd⟩
  · rintro ρ M ⟨ks, ds, o2, o3, o4, rfl, rfl, pd⟩
    walk_at "d"
    refine ⟨0, _, rfl, rfl, ks, ds, rfl, ?_⟩
    simpa using pd

end
section
variable {P : Program} {w : World} {K : PySem.W.Frag} {mg : Str → Option Value} {base : Heap} {a : Adr}
/-! ### powers by remainders -/
theorem ok_powered (C : Ctx K mg a) : FnAt P w K mg base CX0 1 "powered" ["number", "times", "many"] (SpP K (fun x : Int × Nat × Nat => [.int x.1, .int (x.2.1 : Int), .int (x.2.2 : Int)]) (fun x => 2 ≤ x.2.2 ∧ x.2.2 ≤ 2000000 ∧ x.2.1 ≤ 2000000) (fun x d => d = .int (x.1 ^ x.2.1 % (x.2.2 : Int)))) := by
  refine fn_at C.d_powered sc_powered (fun _ => rfl) fun f cdv A outer s H E hr => ⟨_, (pss_cons (ps_par3 (i := 3) (j := 4) (l := 5) rfl sc_powered.nd rfl rfl rfl (by decide) (by decide) (by decide) rfl rfl rfl (pa_cons pe_int (pa_cons (pv 1) (pa_cons (pe_op op_gMod (pv 0) (pv 2)) pa_nil))) rfl)
    (pss_cons (ps_while PassesOwn.never (pt_cmpR op_gGt (pv 4) pe_int (nomark _))
    (pss_cons (ps_if (pt_cmpR (op_gEq (K := K) (by exact hr.units)) (pe_op op_gMod (pv 4) pe_int) pe_int (nomark _))
    (pss_one (ps_set (i := 3) sc_powered.nd rfl (by first | exact Or.inl rfl | exact Or.inr rfl) (pe_op op_gMod (pe_op (op_gMul (K := K)) (pv 3) (pv 5)) (pv 2))))
    pss_nil)
    (pss_cons (ps_set (i := 5) sc_powered.nd rfl (by first | exact Or.inl rfl | exact Or.inr rfl) (pe_op op_gMod (pe_op (op_gMul (K := K)) (pv 5) (pv 5)) (pv 2)))
    (pss_one (ps_set (i := 4) sc_powered.nd rfl (by first | exact Or.inl rfl | exact Or.inr rfl) (pe_op op_gDiv (pv 4) pe_int))))))
    (pss_one (ps_ret (pe_op op_gMod (pv 3) (pv 2)))))), fun x e hp he => ?_⟩
  obtain ⟨n, t, m⟩ := x
  obtain ⟨m2, m6, t6⟩ := hp
  have m2 : 2 ≤ m := m2
  have m6 : m ≤ 2000000 := m6
  have t6 : t ≤ 2000000 := t6
  have mz : (0 : Int) < (m : Int) := by omega
  dsimp only [cxOf]
  walk_at "d"
  refine r_par3 ?_
  refine ena_cons (en_ev ?_)
  walk_at "d"
  refine ena_cons (en_ev ?_)
  walk_at "d"
  refine ena_cons (en_ev ?_)
  walk_at "d"
  refine ⟨mz, ?_⟩
  refine ena_nil ?_
  refine ⟨_, _, _, rfl, ?_⟩
  have r0 := Int.emod_nonneg n (Int.ne_of_gt mz)
  have r1 := Int.emod_lt_of_pos n mz
  refine r_seq (r_while ⟨fun k ρ M => ∃ (fo he : Int) (le : Nat), ρ = [some (.v (.int n)), some (.v (.int (t : Int))), some (.v (.int (m : Int))), some (.v (.int fo)), some (.v (.int (le : Int))), some (.v (.int he))] ∧ M = [] ∧ 0 ≤ fo ∧ fo ≤ 2000000 ∧ 0 ≤ he ∧ he ≤ 2000000 ∧ NT.Cg m (fo * he ^ le) (n ^ t) ∧ le ≤ 2000000 ∧ k = le,
    ⟨_, 1, n % (m : Int), t, rfl, rfl, by decide, by decide, r0, by omega, by rw [Int.one_mul]; exact (NT.Cg.emod n).pow t, t6, rfl⟩, ?_⟩)
  rintro k ρ M ⟨fo, he, le, rfl, rfl, f0, f1, h0, h1, cg, l6, rfl⟩
  walk_at "d"
  refine ite_dec (fun hl => ?_) (fun hl => ?_)
  · have hl : 0 < k := by omega
    have fb : fo.natAbs < 2 ^ 60 := by omega
    have hb : he.natAbs < 2 ^ 60 := by omega
    -- the rest of the turn, with the new product
    refine r_seq (r_via (fun ρ' M' => ∃ fo2 : Int, 0 ≤ fo2 ∧ fo2 ≤ 2000000 ∧ NT.Cg m (fo2 * (he * he) ^ (k / 2)) (n ^ t) ∧ ρ' = [some (.v (.int n)), some (.v (.int (t : Int))), some (.v (.int (m : Int))), some (.v (.int fo2)), some (.v (.int (k : Int))), some (.v (.int he))] ∧ M' = []) ?_ ?_)
    · have pw : he ^ k = (he * he) ^ (k / 2) * he ^ (k % 2) := by
        have e : k = 2 * (k / 2) + k % 2 := by omega
        conv => lhs; rw [e, Int.pow_add, Int.pow_mul]
        congr 2
        exact Int.pow_succ .. |>.trans (by rw [Int.pow_succ]; simp)
      walk_at "d"
      refine ite_dec (fun ho => ?_) (fun ho => ?_)
      · have ho : k % 2 = 1 := by omega
        refine r_asg ?_
        walk_at "d"
        refine ⟨mulW fb hb (by decide), ?_⟩
        walk_at "d"
        refine ⟨mz, ?_⟩
        have q0 := Int.emod_nonneg (fo * he) (Int.ne_of_gt mz)
        have q1 := Int.emod_lt_of_pos (fo * he) mz
        refine ⟨_, q0, by omega, ?_, rfl, rfl⟩
        refine NT.Cg.trans ?_ cg
        rw [pw, ho]
        have := (NT.Cg.emod (p := m) (fo * he)).mul (NT.Cg.refl (p := m) ((he * he) ^ (k / 2)))
        refine this.trans ?_
        exact ⟨0, by simp; grind⟩
      · have ho : k % 2 = 0 := by omega
        walk_at "n"
        refine ⟨fo, f0, f1, ?_, rfl, rfl⟩
        rw [pw, ho] at cg
        simpa using cg
    · rintro ρ' M' ⟨fo2, g0, g1, cg2, rfl, rfl⟩
      walk_at "d"
      refine r_asg ?_
      walk_at "d"
      refine ⟨mulW hb hb (by decide), ?_⟩
      walk_at "d"
      refine ⟨mz, ?_⟩
      walk_at "d"
      refine r_asg ?_
      walk_at "d"
      have q0 := Int.emod_nonneg (he * he) (Int.ne_of_gt mz)
      have q1 := Int.emod_lt_of_pos (he * he) mz
      refine ⟨k / 2, by omega, fo2, _, k / 2, by rw [Int.natCast_ediv]; rfl, rfl, g0, g1, q0, by omega, ?_, by omega, rfl⟩
      refine NT.Cg.trans ?_ cg2
      exact (NT.Cg.refl fo2).mul ((NT.Cg.emod _).pow _)
  · have hl : k = 0 := by omega
    subst hl
    walk_at "d"
    refine ⟨mz, ret_v ?_⟩
    have := NT.Cg.iff.mp cg
    rw [Int.pow_zero, Int.mul_one] at this
    rw [this]
theorem sq_iff {p : Nat} (h : 2 ≤ p) (n : Int) : decide (n ^ ((p - 1) / 2) % (p : Int) = 1) = NT.sq p n := by
  unfold NT.sq
  refine decide_eq_decide.mpr ?_
  rw [NT.Cg.iff, Int.emod_eq_of_lt (a := 1) (by omega) (by omega)]
theorem ok_is_square (C : Ctx K mg a) : FnAt P w K mg base CX0 2 "is_square" ["number", "prime"] (SpP K (fun x : Int × Nat => [.int x.1, .int (x.2 : Int)]) (fun x => 2 ≤ x.2 ∧ x.2 ≤ 2000000) (fun x d => d = .bl (NT.sq x.2 x.1))) := by
  refine fn_at C.d_is_square sc_is_square (fun _ => rfl) fun f cdv A outer s H E hr => ⟨_, (pss_one (ps_ret (pe_cmpR (op_gEq (K := K) (by exact hr.units)) (pe_fn (ok_powered C) (hr.mono (by omega)) rfl (pa_cons (pv 0) (pa_cons (pe_op op_gDiv (pe_op op_gSub (pv 1) pe_int) pe_int) (pa_cons (pv 1) pa_nil)))) pe_int (nomark _)))), fun x e hp he => ?_⟩
  obtain ⟨n, p⟩ := x
  obtain ⟨p2, p6⟩ := hp
  have p2 : 2 ≤ p := p2
  have p6 : p ≤ 2000000 := p6
  dsimp only [cxOf]
  walk_at "d"
  refine ⟨(n, (p - 1) / 2, p), by simp only [List.map_cons, List.map_nil]; congr 3; show D.int _ = D.int _; congr 1; omega, ⟨p2, p6, by show (p - 1) / 2 ≤ 2000000; omega⟩, fun d ed => ?_⟩
  subst ed
  walk_at "d"
  exact ret_v (by rw [sq_iff p2])

end
section
variable {P : Program} {w : World} {K : PySem.W.Frag} {mg : Str → Option Value} {base : Heap} {a : Adr}
/-- the parts of up to four weights together -/
structure Wu (ns : List Int) : Prop where
  hi : ns.length ≤ 20
  p : ∀ n, n ∈ ns → n ≠ 0 ∧ n.natAbs ≤ 1000000
theorem Wt.u {ns : List Int} (h : Wt ns) : Wu ns := ⟨by have := h.hi; omega, h.p⟩
theorem Wu.pos {ns : List Int} (h : Wu ns) : 0 < nP ns := nP_pos fun n hn => (h.p n hn).1
theorem Wu.pre {ns : List Int} (h : Wu ns) : ns.length ≤ 1000 ∧ ∀ n, n ∈ ns → n.natAbs < 2 ^ 700 := ⟨by have := h.hi; omega, fun n hn => lit_bit (by have := (h.p n hn).2; omega) (by decide)⟩
theorem Wu.bit {ns : List Int} (h : Wu ns) : (prodL ns).natAbs < 2 ^ 900 := by
  have : ∀ (ns : List Int) (m : Nat) (a : Int), (∀ n, n ∈ ns → n.natAbs ≤ 1000000) → a.natAbs < 2 ^ m → (ns.foldl (· * ·) a).natAbs < 2 ^ (20 * ns.length + m) := by
    intro ns
    induction ns with
    | nil => intro m a _ ha; simpa using ha
    | cons n ns ih =>
      intro m a hh ha
      have hn : n.natAbs < 2 ^ 20 := by have := hh n List.mem_cons_self; omega
      have := ih (m + 20) (a * n) (fun k hk => hh k (List.mem_cons_of_mem _ hk)) (mul_lt ha hn)
      rw [List.foldl_cons, List.length_cons]
      exact bit_le this (by omega)
  have := this ns 1 1 (fun n hn => (h.p n hn).2) (by decide)
  have hl := h.hi
  exact bit_le this (by omega)
theorem par_sq {u : Int} (hu : u % 2 = 1) : ((u * u - 1) / 8) % 2 = if u % 8 = 3 ∨ u % 8 = 5 then 1 else 0 := by
  have e : u = 16 * (u / 16) + u % 16 := by omega
  generalize u / 16 = q at e
  generalize hr : u % 16 = r at e
  have e2 : u * u = 16 * (16 * (q * q) + 2 * (q * r)) + r * r := by rw [e]; grind
  generalize 16 * (q * q) + 2 * (q * r) = t at e2
  have h : r = 1 ∨ r = 3 ∨ r = 5 ∨ r = 7 ∨ r = 9 ∨ r = 11 ∨ r = 13 ∨ r = 15 := by omega
  rcases h with rfl | rfl | rfl | rfl | rfl | rfl | rfl | rfl <;> (rw [e2]; split <;> omega)
def b01 (b : Bool) : Int := if b = true then 1 else 0
theorem par_mul {x y : Int} {a b : Bool} (hx : x % 2 = b01 a) (hy : y % 2 = b01 b) : (x * y) % 2 = b01 (a && b) := by
  rw [Int.mul_emod, hx, hy]
  cases a <;> cases b <;> decide
theorem par_add {x y : Int} {a b : Bool} (hx : x % 2 = b01 a) (hy : y % 2 = b01 b) : (x + y) % 2 = b01 (a ^^ b) := by
  rw [Int.add_emod, hx, hy]
  cases a <;> cases b <;> decide
theorem par_end {x : Int} {a : Bool} (hx : x % 2 = b01 a) : decide (x % 2 = 0) = !a := by
  rw [hx]; cases a <;> decide
theorem par_nat {n : Nat} : ((n : Int)) % 2 = b01 (decide (n % 2 = 1)) := by
  unfold b01
  by_cases h : n % 2 = 1
  · simp [h]; omega
  · simp [h]; omega
open NT in
/-- one step of taking a prime out -/
theorem end_stp {p : Nat} (hpr : Pr p) {z t : Int} {k b : Nat} (z0 : z ≠ 0) (zb : z.natAbs < 2 ^ b) (e : z = ((p ^ k : Nat) : Int) * t) : t ≠ 0 ∧ t.natAbs < 2 ^ b ∧ k < b ∧ (t % (p : Int) = 0 → z = ((p ^ (k + 1) : Nat) : Int) * (t / (p : Int)) ∧ (t / (p : Int)).natAbs < t.natAbs) := by
  have p2 := hpr.1
  have t0 : t ≠ 0 := by rintro rfl; exact z0 (by rw [e]; simp)
  have hn : z.natAbs = p ^ k * t.natAbs := by rw [e, Int.natAbs_mul, Int.natAbs_natCast]
  have t1 : 0 < t.natAbs := Int.natAbs_pos.mpr t0
  have k1 : 0 < p ^ k := Nat.pow_pos hpr.pos
  refine ⟨t0, ?_, ?_, fun ht => ?_⟩
  · have : t.natAbs ≤ z.natAbs := by rw [hn]; exact Nat.le_mul_of_pos_left _ k1
    exact Nat.lt_of_le_of_lt this zb
  · have h1 : p ^ k ≤ z.natAbs := by rw [hn]; exact Nat.le_mul_of_pos_right _ t1
    have h2 : 2 ^ k ≤ p ^ k := Nat.pow_le_pow_left p2 k
    refine Classical.byContradiction fun c => ?_
    exact absurd zb (Nat.not_lt.mpr (Nat.le_trans (Nat.pow_le_pow_right (by decide) (by omega)) (Nat.le_trans h2 h1)))
  · obtain ⟨c, rfl⟩ := Int.dvd_of_emod_eq_zero ht
    have c0 : c ≠ 0 := by rintro rfl; simp at t0
    rw [Int.mul_ediv_cancel_left _ (by omega)]
    refine ⟨by rw [e, Nat.pow_succ, Int.natCast_mul]; grind, ?_⟩
    rw [Int.natAbs_mul, Int.natAbs_natCast]
    have : 1 * c.natAbs < p * c.natAbs := Nat.mul_lt_mul_of_pos_right (by omega) (Int.natAbs_pos.mpr c0)
    omega

end
section
variable {P : Program} {w : World} {K : PySem.W.Frag} {mg : Str → Option Value} {base : Heap} {a : Adr}
/-! ### the program's symbol -/
open NT in
theorem ok_ends_of (C : Ctx K mg a) : FnAt P w K mg base CX0 2 "ends_of" ["weight", "prime"] (SpP K (fun x : List Int × Nat => [wt x.1, .int (x.2 : Int)]) (fun x => Wu x.1 ∧ Pr x.2 ∧ x.2 ≤ 2000000) (fun x d => ∃ (k : Nat) (t : Int), d = .tup [.int (k : Int), .int t] ∧ prodL x.1 = ((x.2 ^ k : Nat) : Int) * t ∧ ¬ (x.2 : Int) ∣ t)) := by
  refine fn_at C.d_ends_of sc_ends_of (fun _ => rfl) fun f cdv A outer s H E hr => ⟨_, (pss_cons (ps_par (i := 2) (j := 3) rfl sc_ends_of.nd rfl rfl (by decide) rfl rfl (pa_cons (pe_fn (ok_product C) (hr.mono (by omega)) rfl (pa_cons (pv 0) pa_nil)) (pa_cons pe_int pa_nil)) rfl)
    (pss_cons (ps_while PassesOwn.never (pt_cmpR (op_gEq (K := K) (by exact hr.units)) (pe_op op_gMod (pv 2) (pv 1)) pe_int (nomark _))
    (pss_cons (ps_set (i := 2) sc_ends_of.nd rfl (by first | exact Or.inl rfl | exact Or.inr rfl) (pe_op op_gDiv (pv 2) (pv 1)))
    (pss_one (ps_aug (i := 3) sc_ends_of.nd rfl (by first | exact Or.inl rfl | exact Or.inr rfl) pe_int ip_add))))
    (pss_one (ps_ret (pe_tup (pa_cons (pv 3) (pa_cons (pv 2) pa_nil))))))), fun x e hp he => ?_⟩
  obtain ⟨v, p⟩ := x
  obtain ⟨hw, hpr, p6⟩ := hp
  have p6 : p ≤ 2000000 := p6
  have hw : Wu v := hw
  have hpr : Pr p := hpr
  have pz : (0 : Int) < (p : Int) := by have := hpr.1; omega
  have z0 : prodL v ≠ 0 := by have : 0 < (prodL v).natAbs := hw.pos; omega
  have zb := hw.bit
  dsimp only [cxOf]
  walk_at "d"
  refine ⟨(true, v), rfl, hw.pre, fun d ed => ?_⟩
  subst ed
  generalize prodL v = z at *
  walk_at "d"
  refine ⟨_, _, rfl, ?_⟩
  refine r_seq (r_while ⟨fun m ρ M => ∃ (t : Int) (k : Nat), ρ = [some (.v (wt v)), some (.v (.int (p : Int))), some (.v (.int t)), some (.v (.int (k : Int)))] ∧ M = [] ∧ z = ((p ^ k : Nat) : Int) * t ∧ m = t.natAbs, ⟨_, z, 0, rfl, rfl, by simp, rfl⟩, ?_⟩)
  rintro m ρ M ⟨t, k, rfl, rfl, ez, rfl⟩
  obtain ⟨t0, tb, k4, sp⟩ := end_stp hpr z0 zb ez
  walk_at "d"
  refine ⟨pz, ?_⟩
  walk_at "d"
  refine ite_dec (fun h1 => ?_) (fun h1 => ?_)
  · obtain ⟨s1, s2⟩ := sp h1
    walk_at "d"
    refine r_asg ?_
    walk_at "d"
    refine ⟨divW (b := 60) pz (by omega) (by decide), ?_⟩
    walk_at "d"
    exact ⟨_, s2, t / (p : Int), k + 1, rfl, rfl, s1, rfl⟩
  walk_at "d"
  exact ret_v ⟨k, t, rfl, ez, fun d => h1 (Int.emod_eq_zero_of_dvd d)⟩
open NT in
theorem ok_symbol (C : Ctx K mg a) : FnAt P w K mg base CX0 3 "symbol" ["one", "other", "prime"] (SpP K (fun x : List Int × List Int × Nat => [wt x.1, wt x.2.1, .int (x.2.2 : Int)]) (fun x => Wt x.1 ∧ Wt x.2.1 ∧ Pr x.2.2 ∧ x.2.2 ≤ 2000000) (fun x d => d = .int (b01 (hs x.2.2 (prodL x.1) (prodL x.2.1))))) := by
  refine fn_at C.d_symbol sc_symbol (fun _ => rfl) fun f cdv A outer s H E hr => ⟨_, (pss_cons (ps_asg (pe_fn (ok_ends_of C) (hr.mono (by omega)) rfl (pa_cons (pv 0) (pa_cons (pv 2) pa_nil))) (pg_tup rfl (pgs_cons (pg_name (i := 4) sc_symbol.nd rfl (by first | exact Or.inl rfl | exact Or.inr rfl)) (pgs_cons (pg_name (i := 5) sc_symbol.nd rfl (by first | exact Or.inl rfl | exact Or.inr rfl)) pgs_nil))))
    (pss_cons (ps_asg (pe_fn (ok_ends_of C) (hr.mono (by omega)) rfl (pa_cons (pv 1) (pa_cons (pv 2) pa_nil))) (pg_tup rfl (pgs_cons (pg_name (i := 6) sc_symbol.nd rfl (by first | exact Or.inl rfl | exact Or.inr rfl)) (pgs_cons (pg_name (i := 7) sc_symbol.nd rfl (by first | exact Or.inl rfl | exact Or.inr rfl)) pgs_nil))))
    (pss_cons (ps_if (pt_cmpR (op_gEq (K := K) (by exact hr.units)) (pv 2) pe_int (nomark _))
    (pss_cons (ps_set (i := 3) sc_symbol.nd rfl (by first | exact Or.inl rfl | exact Or.inr rfl) (pe_op (op_gMul (K := K)) (pe_op op_gDiv (pe_op op_gSub (pv 5) pe_int) pe_int) (pe_op op_gDiv (pe_op op_gSub (pv 7) pe_int) pe_int)))
    (pss_one (ps_ret (pe_op op_gMod (pe_op (op_gAdd (K := K)) (pe_op (op_gAdd (K := K)) (pv 3) (pe_op (op_gMul (K := K)) (pv 4) (pe_op op_gDiv (pe_op op_gSub (pe_op (op_gMul (K := K)) (pv 7) (pv 7)) pe_int) pe_int))) (pe_op (op_gMul (K := K)) (pv 6) (pe_op op_gDiv (pe_op op_gSub (pe_op (op_gMul (K := K)) (pv 5) (pv 5)) pe_int) pe_int))) pe_int))))
    pss_nil)
    (pss_cons (ps_set (i := 3) sc_symbol.nd rfl (by first | exact Or.inl rfl | exact Or.inr rfl) (pe_op (op_gMul (K := K)) (pe_op (op_gMul (K := K)) (pv 4) (pv 6)) (pe_op op_gDiv (pe_op op_gSub (pv 2) pe_int) pe_int)))
    (pss_cons (ps_aug (i := 3) sc_symbol.nd rfl (by first | exact Or.inl rfl | exact Or.inr rfl) (pe_op (op_gMul (K := K)) (pv 6) (pe_ifExp (pt_val (pe_fn (ok_is_square C) (hr.mono (by omega)) rfl (pa_cons (pv 5) (pa_cons (pv 2) pa_nil)))) pe_int pe_int)) ip_add)
    (pss_one (ps_ret (pe_op op_gMod (pe_op (op_gAdd (K := K)) (pv 3) (pe_op (op_gMul (K := K)) (pv 4) (pe_ifExp (pt_val (pe_fn (ok_is_square C) (hr.mono (by omega)) rfl (pa_cons (pv 7) (pa_cons (pv 2) pa_nil)))) pe_int pe_int))) pe_int)))))))), fun x e hp he => ?_⟩
  obtain ⟨v, u, p⟩ := x
  obtain ⟨hv, hu, hpr, p6⟩ := hp
  have hv : Wt v := hv
  have hu : Wt u := hu
  have hpr : Pr p := hpr
  have p6 : p ≤ 2000000 := p6
  have p2 := hpr.1
  dsimp only [cxOf]
  walk_at "d"
  refine r_asgG (is := [4, 5]) ?_
  walk_at "d"
  refine ⟨(v, p), rfl, ⟨hv.u, hpr, p6⟩, ?_⟩
  rintro _ ⟨k, t, rfl, ev, nt⟩
  have ev : prodL v = ((p ^ k : Nat) : Int) * t := ev
  have nt : ¬ (p : Int) ∣ t := nt
  refine ⟨_, rfl, ?_⟩
  walk_at "d"
  refine r_asgG (is := [6, 7]) ?_
  walk_at "d"
  refine ⟨(u, p), rfl, ⟨hu.u, hpr, p6⟩, ?_⟩
  rintro _ ⟨k2, t2, rfl, eu, nt2⟩
  have eu : prodL u = ((p ^ k2 : Nat) : Int) * t2 := eu
  have nt2 : ¬ (p : Int) ∣ t2 := nt2
  refine ⟨_, rfl, ?_⟩
  walk_at "d"
  have x0 : prodL v ≠ 0 := by have : 0 < (prodL v).natAbs := hv.pos; omega
  have y0 : prodL u ≠ 0 := by have : 0 < (prodL u).natAbs := hu.pos; omega
  obtain ⟨t0, tb, k4, _⟩ := end_stp hpr x0 hv.bit ev
  obtain ⟨t20, t2b, k24, _⟩ := end_stp hpr y0 hu.bit eu
  obtain ⟨vx, ux⟩ := uI_uniq hpr x0 ev nt
  obtain ⟨vy, uy⟩ := uI_uniq hpr y0 eu nt2
  have ox : oI p (prodL v) = decide (k % 2 = 1) := by unfold oI; rw [vx]
  have oy : oI p (prodL u) = decide (k2 % 2 = 1) := by unfold oI; rw [vy]
  have kb : (k : Int).natAbs < 2 ^ 60 := by omega
  have kb2 : (k2 : Int).natAbs < 2 ^ 60 := by omega
  generalize prodL v = x at *
  generalize prodL u = y at *
  by_cases e2 : p = 2
  · subst e2
    have ot := odd_of nt
    have ot2 := odd_of nt2
    have eh : hs 2 x y = ((decide (t % 4 = 3) && decide (t2 % 4 = 3)) ^^ (decide (k % 2 = 1) && decide (t2 % 8 = 3 ∨ t2 % 8 = 5)) ^^ (decide (k2 % 2 = 1) && decide (t % 8 = 3 ∨ t % 8 = 5))) := by
      unfold hs chi eps cc
      rw [ox, oy, ux, uy]
      simp only [if_true]
      generalize decide (k % 2 = 1) = a1; generalize decide (k2 % 2 = 1) = a2
      generalize decide (t % 8 = 3 ∨ t % 8 = 5) = a3; generalize decide (t2 % 8 = 3 ∨ t2 % 8 = 5) = a4
      generalize decide (t % 4 = 3) = a5; generalize decide (t2 % 4 = 3) = a6
      cases a1 <;> cases a2 <;> cases a3 <;> cases a4 <;> cases a5 <;> cases a6 <;> rfl
    have ph : ∀ {u : Int}, u % 2 = 1 → ((u - 1) / 2) % 2 = b01 (decide (u % 4 = 3)) := fun {u} hu => by
      unfold b01
      by_cases h : u % 4 = 3
      · simp [h]; omega
      · simp [h]; omega
    have pq : ∀ {u : Int}, u % 2 = 1 → ((u * u - 1) / 8) % 2 = b01 (decide (u % 8 = 3 ∨ u % 8 = 5)) := fun {u} hu => by
      rw [par_sq hu]; unfold b01
      by_cases h : u % 8 = 3 ∨ u % 8 = 5 <;> simp [h]
    have hb : ∀ {u : Int}, u.natAbs < 2 ^ 900 → ((u - 1) / 2).natAbs < 2 ^ 901 := fun {u} h => by omega
    have qb : ∀ {u : Int}, u.natAbs < 2 ^ 900 → ((u * u - 1) / 8).natAbs < 2 ^ 1801 := fun {u} h => by
      have := mul_lt h h
      omega
    refine ite_dec (fun _ => ?_) (fun h => absurd rfl h)
    walk_at "d"
    refine r_asg ?_
    walk_at "d"
    refine ⟨mulW (hb tb) (hb t2b) (by decide), ?_⟩
    walk_at "d"
    refine ⟨mulW t2b t2b (by decide), ?_⟩
    walk_at "d"
    refine ⟨mulW kb (qb t2b) (by decide), ?_⟩
    walk_at "d"
    refine ⟨mulW tb tb (by decide), ?_⟩
    walk_at "d"
    refine ⟨mulW kb2 (qb tb) (by decide), ?_⟩
    walk_at "d"
    refine ret_v ?_
    show _ = D.int (b01 (hs 2 x y))
    rw [eh, par_add (par_add (par_mul (ph ot) (ph ot2)) (par_mul par_nat (pq ot2))) (par_mul par_nat (pq ot))]
  · have eh : hs p x y = ((decide (k % 2 = 1) && decide (k2 % 2 = 1) && decide ((p - 1) / 2 % 2 = 1)) ^^ (decide (k2 % 2 = 1) && !sq p t) ^^ (decide (k % 2 = 1) && !sq p t2)) := by
      unfold hs chi eps cc
      rw [ox, oy, ux, uy, if_neg e2, if_neg e2, if_neg e2, if_neg e2]
      simp
    have ph : (((p : Int) - 1) / 2) % 2 = b01 (decide ((p - 1) / 2 % 2 = 1)) := by
      have := par_nat (n := (p - 1) / 2)
      rw [← this]; omega
    have pb : (((p : Int) - 1) / 2).natAbs < 2 ^ 60 := by omega
    refine ite_dec (fun h => absurd (by omega) e2) (fun _ => ?_)
    walk_at "n"
    refine r_asg ?_
    walk_at "n"
    refine ⟨mulW kb kb2 (by decide), ?_⟩
    walk_at "n"
    refine ⟨mulW (mul_lt kb kb2) pb (by decide), ?_⟩
    have p1 := par_mul (par_mul (par_nat (n := k)) (par_nat (n := k2))) ph
    generalize (k : Int) * (k2 : Int) * (((p : Int) - 1) / 2) = F1 at *
    walk_at "n"
    refine ⟨(t, p), rfl, ⟨p2, p6⟩, fun d ed => ?_⟩
    subst ed
    have m2 : ∀ {j : Int} {b : Bool}, j % 2 = b01 b → ((k2 : Int) * j) % 2 = b01 (decide (k2 % 2 = 1) && b) := fun h => par_mul par_nat h
    have m1 : ∀ {j : Int} {b : Bool}, j % 2 = b01 b → ((k : Int) * j) % 2 = b01 (decide (k % 2 = 1) && b) := fun h => par_mul par_nat h
    refine ⟨_, rfl, ite_b (fun h1 => ?_) (fun h1 => ?_)⟩
    · have h1 : sq p t = true := h1
      have c1 : ((0 : Int)) % 2 = b01 (!sq p t) := by rw [h1]; rfl
      walk_at "d"
      refine ⟨mulW (b := 8) kb2 (by decide) (by decide), ?_⟩
      walk_at "d"
      refine ⟨(t2, p), rfl, ⟨p2, p6⟩, fun d ed => ?_⟩
      subst ed
      refine ⟨_, rfl, ite_b (fun h2 => ?_) (fun h2 => ?_)⟩
      · have h2 : sq p t2 = true := h2
        have c2 : ((0 : Int)) % 2 = b01 (!sq p t2) := by rw [h2]; rfl
        walk_at "d"
        refine ⟨mulW (b := 8) kb (by decide) (by decide), ?_⟩
        walk_at "d"
        refine ret_v ?_
        show _ = D.int (b01 (hs p x y))
        rw [eh, par_add (par_add p1 (m2 c1)) (m1 c2)]
      · have h2 : sq p t2 = false := h2
        have c2 : ((1 : Int)) % 2 = b01 (!sq p t2) := by rw [h2]; rfl
        walk_at "d"
        refine ⟨mulW (b := 8) kb (by decide) (by decide), ?_⟩
        walk_at "d"
        refine ret_v ?_
        show _ = D.int (b01 (hs p x y))
        rw [eh, par_add (par_add p1 (m2 c1)) (m1 c2)]
    · have h1 : sq p t = false := h1
      have c1 : ((1 : Int)) % 2 = b01 (!sq p t) := by rw [h1]; rfl
      walk_at "d"
      refine ⟨mulW (b := 8) kb2 (by decide) (by decide), ?_⟩
      walk_at "d"
      refine ⟨(t2, p), rfl, ⟨p2, p6⟩, fun d ed => ?_⟩
      subst ed
      refine ⟨_, rfl, ite_b (fun h2 => ?_) (fun h2 => ?_)⟩
      · have h2 : sq p t2 = true := h2
        have c2 : ((0 : Int)) % 2 = b01 (!sq p t2) := by rw [h2]; rfl
        walk_at "d"
        refine ⟨mulW (b := 8) kb (by decide) (by decide), ?_⟩
        walk_at "d"
        refine ret_v ?_
        show _ = D.int (b01 (hs p x y))
        rw [eh, par_add (par_add p1 (m2 c1)) (m1 c2)]
      · have h2 : sq p t2 = false := h2
        have c2 : ((1 : Int)) % 2 = b01 (!sq p t2) := by rw [h2]; rfl
        walk_at "d"
        refine ⟨mulW (b := 8) kb (by decide) (by decide), ?_⟩
        walk_at "d"
        refine ret_v ?_
        show _ = D.int (b01 (hs p x y))
        rw [eh, par_add (par_add p1 (m2 c1)) (m1 c2)]

end
section
variable {P : Program} {w : World} {K : PySem.W.Frag} {mg : Str → Option Value} {base : Heap} {a : Adr}
/-! ### four weights: the program's judgement -/
theorem ev_cutE {K : PySem.W.Frag} {ρ : Rho} {M : List MO} {Q : Sl → Prop} {te : TE} {tt : TT} {wi : TI} {g : TG} {vs : List Nat} (f : Int → Bool) (h : EvI K wi ρ M fun items => ∃ ns, items = D.ints ns ∧ ns.length ≤ 16777216 ∧ (∀ n, n ∈ ns → EvG K g vs (.int n) (wipeR ρ vs) fun ρ' => EvT K tt ρ' M fun b => b = f n ∧ (b = true → EvP K te ρ' M fun s => s = .v (.int n))) ∧ Q (.v (.lst (D.ints (ns.filter f))))) : EvP K (tLc wi g tt te vs) ρ M Q := by
  refine ev_lc fun σ α F H en S k kk => h σ α F H en S k fun J F' H' items m S' ok ⟨ns, e1, h1, h2, h3⟩ => kk J F' H' items m S' ok ?_
  subst e1
  refine ⟨by simpa [D.ints] using h1, fun i acc => acc = D.ints ((ns.take i).filter f), rfl, fun i d acc hi ha => ?_, fun acc ha => ?_⟩
  · obtain ⟨n, hn, rfl⟩ := ints_get hi
    subst ha
    have hf : (ns.take (i + 1)).filter f = (ns.take i).filter f ++ (if f n = true then [n] else []) := by
      rw [take_snoc hn, List.filter_append]
      simp only [List.filter_cons, List.filter_nil]
    intro σ α F H v en s hd k kk
    refine h2 n (List.mem_of_getElem? hn) σ α F H v en s hd k fun σ' ρ' en' hl hj q => kk σ' ρ' en' hl hj ?_
    intro σ α F H en S k kk
    refine q σ α F H en S k fun b F' H' m S' ⟨eb, q2⟩ => kk b F' H' m S' ?_
    subst eb
    refine ite_b (fun hb => ?_) (fun hb => ?_)
    · refine (q2 hb).mono fun s es => ⟨_, es, ?_⟩
      show _ = D.ints _
      rw [hf, if_pos hb]; simp [D.ints]
    · show _ = D.ints _
      rw [hf, if_neg (by rw [hb]; decide)]; simp
  · have hl : (D.ints ns).length = ns.length := by simp [D.ints]
    rw [hl, List.take_length] at ha
    subst ha
    exact h3
/-- a square at a place -/
def lsq (p : Nat) (n : Int) : Bool := decide (NT.vI p n % 2 = 0) && (if p = 2 then decide (NT.uI p n % 8 = 1) else NT.sq p (NT.uI p n))
def fsum (p : Nat) (a b c d : Int) : Bool := NT.hs p (-1) (-1) ^^ (NT.hs p a b ^^ NT.hs p c d ^^ (NT.hs p a c ^^ NT.hs p a d ^^ NT.hs p b c ^^ NT.hs p b d))
def fbar (p : Nat) (a b c d : Int) : Bool := lsq p (a * b * (c * d)) && fsum p a b c d
theorem prod_app (v u : List Int) : prodL (v ++ u) = prodL v * prodL u := by
  have key : ∀ (ns : List Int) (a : Int), ns.foldl (· * ·) a = a * ns.foldl (· * ·) 1 := by
    intro ns
    induction ns with
    | nil => intro a; simp
    | cons n ns ih => intro a; rw [List.foldl_cons, List.foldl_cons, ih, ih (1 * n)]; grind
  unfold prodL
  rw [List.foldl_append, key]
theorem cat_ints (v u : List Int) : D.ints v ++ D.ints u = D.ints (v ++ u) := (List.map_append ..).symm
theorem wu4 {v0 v1 v2 v3 : List Int} (w0 : Wt v0) (w1 : Wt v1) (w2 : Wt v2) (w3 : Wt v3) : Wu (v0 ++ v1 ++ v2 ++ v3) := ⟨by have := w0.hi; have := w1.hi; have := w2.hi; have := w3.hi; simp; omega, fun n hn => by
  simp only [List.mem_append] at hn
  rcases hn with ((h | h) | h) | h
  · exact w0.p n h
  · exact w1.p n h
  · exact w2.p n h
  · exact w3.p n h⟩
open NT in
theorem ok_is_local_square (C : Ctx K mg a) : FnAt P w K mg base CX0 3 "is_local_square" ["weight", "prime"] (SpP K (fun x : List Int × Nat => [wt x.1, .int (x.2 : Int)]) (fun x => Wu x.1 ∧ Pr x.2 ∧ x.2 ≤ 2000000) (fun x d => d = .bl (lsq x.2 (prodL x.1)))) := by
  refine fn_at C.d_is_local_square sc_is_local_square (fun _ => rfl) fun f cdv A outer s H E hr => ⟨_, (pss_cons (ps_asg (pe_fn (ok_ends_of C) (hr.mono (by omega)) rfl (pa_cons (pv 0) (pa_cons (pv 1) pa_nil))) (pg_tup rfl (pgs_cons (pg_name (i := 2) sc_is_local_square.nd rfl (by first | exact Or.inl rfl | exact Or.inr rfl)) (pgs_cons (pg_name (i := 3) sc_is_local_square.nd rfl (by first | exact Or.inl rfl | exact Or.inr rfl)) pgs_nil))))
    (pss_cons (ps_if (pt_cmpR (op_gEq (K := K) (by exact hr.units)) (pe_op op_gMod (pv 2) pe_int) pe_int (nomark _))
    (pss_one (ps_ret pe_bl))
    pss_nil)
    (pss_one (ps_ret (pe_ifExp (pt_cmpR (op_gEq (K := K) (by exact hr.units)) (pv 1) pe_int (nomark _)) (pe_cmpR (op_gEq (K := K) (by exact hr.units)) (pe_op op_gMod (pv 3) pe_int) pe_int (nomark _)) (pe_fn (ok_is_square C) (hr.mono (by omega)) rfl (pa_cons (pv 3) (pa_cons (pv 1) pa_nil)))))))), fun x e hp he => ?_⟩
  obtain ⟨v, p⟩ := x
  obtain ⟨hw, hpr, p6⟩ := hp
  have p6 : p ≤ 2000000 := p6
  have hw : Wu v := hw
  have hpr : Pr p := hpr
  have p2 := hpr.1
  have x0 : prodL v ≠ 0 := by have : 0 < (prodL v).natAbs := hw.pos; omega
  dsimp only [cxOf]
  walk_at "d"
  refine r_asgG (is := [2, 3]) ?_
  walk_at "d"
  refine ⟨(v, p), rfl, ⟨hw, hpr, p6⟩, ?_⟩
  rintro _ ⟨k, t, rfl, ev, nt⟩
  have ev : prodL v = ((p ^ k : Nat) : Int) * t := ev
  have nt : ¬ (p : Int) ∣ t := nt
  refine ⟨_, rfl, ?_⟩
  obtain ⟨vx, ux⟩ := uI_uniq hpr x0 ev nt
  have el : lsq p (prodL v) = (decide (k % 2 = 0) && (if p = 2 then decide (t % 8 = 1) else sq p t)) := by unfold lsq; rw [vx, ux]
  walk_at "d"
  refine ite_dec (fun h1 => ?_) (fun h1 => ?_)
  · walk_at "d"
    refine ret_v ?_
    show _ = D.bl (lsq p (prodL v))
    rw [el, decide_eq_false (by omega)]; rfl
  · have h1 : k % 2 = 0 := by omega
    walk_at "d"
    refine ite_dec (fun h2 => ?_) (fun h2 => ?_)
    · have h2 : p = 2 := by omega
      walk_at "d"
      refine ret_v ?_
      show _ = D.bl (lsq p (prodL v))
      rw [el, decide_eq_true h1, if_pos h2]; rfl
    · have h2 : ¬ p = 2 := by omega
      walk_at "d"
      refine ⟨(t, p), rfl, ⟨p2, p6⟩, fun d ed => ?_⟩
      subst ed
      refine ret_v ?_
      show _ = D.bl (lsq p (prodL v))
      rw [el, decide_eq_true h1, if_neg h2]; rfl
theorem slT {X : Cx} {K : PySem.W.Frag} (hK : X.K = K := by rfl) : SlR X (rSlA K) := by
  subst hK
  exact sl_tupA
def lsum (p : Nat) (a : Int) (L : List (List Int)) : Bool := L.foldl (fun s v => s ^^ NT.hs p a (prodL v)) false
theorem lsum_snoc (p : Nat) (a : Int) (L : List (List Int)) (v : List Int) : lsum p a (L ++ [v]) = (lsum p a L ^^ NT.hs p a (prodL v)) := by unfold lsum; rw [List.foldl_append]; rfl
def tsum (p : Nat) (W : List (List Int)) : Nat → Bool
  | 0 => false
  | i + 1 => tsum p W i ^^ lsum p (prodL (W.getD i [])) (W.take i)
theorem tsum_four (p : Nat) (v0 v1 v2 v3 : List Int) : (NT.hs p (-1) (-1) ^^ tsum p [v0, v1, v2, v3] 4) = fsum p (prodL v0) (prodL v1) (prodL v2) (prodL v3) := by
  unfold fsum
  simp only [tsum, lsum, List.getD_cons_zero, List.getD_cons_succ, List.take_succ_cons, List.take_zero, List.foldl_cons, List.foldl_nil]
  rw [NT.hs_symm p (prodL v1) (prodL v0), NT.hs_symm p (prodL v2) (prodL v0), NT.hs_symm p (prodL v2) (prodL v1), NT.hs_symm p (prodL v3) (prodL v0), NT.hs_symm p (prodL v3) (prodL v1), NT.hs_symm p (prodL v3) (prodL v2)]
  generalize NT.hs p (-1) (-1) = z; generalize NT.hs p (prodL v0) (prodL v1) = a1; generalize NT.hs p (prodL v0) (prodL v2) = a2; generalize NT.hs p (prodL v1) (prodL v2) = a3
  generalize NT.hs p (prodL v0) (prodL v3) = a4; generalize NT.hs p (prodL v1) (prodL v3) = a5; generalize NT.hs p (prodL v2) (prodL v3) = a6
  cases z <;> cases a1 <;> cases a2 <;> cases a3 <;> cases a4 <;> cases a5 <;> cases a6 <;> rfl
theorem cut_to {α : Type} {xs : List D} {i : Nat} (h : i ≤ xs.length) : cutD xs none (some (i : Int)) = xs.take i := by
  unfold cutD HT.sIx
  have h0 : ¬ ((i : Int) < 0) := by omega
  simp only [h0, if_false, List.drop_zero, Nat.sub_zero]
  congr 1
  simp
  omega
open NT in
theorem ok_four_bar (C : Ctx K mg a) : FnAt P w K mg base CX0 4 "four_bar" ["rows", "prime"] (SpP K (fun x : List Int × List Int × List Int × List Int × Nat => [.tup [wt x.1, wt x.2.1, wt x.2.2.1, wt x.2.2.2.1], .int (x.2.2.2.2 : Int)]) (fun x => (Wt x.1 ∧ Wt x.2.1 ∧ Wt x.2.2.1 ∧ Wt x.2.2.2.1) ∧ Pr x.2.2.2.2 ∧ x.2.2.2.2 ≤ 2000000) (fun x d => d = .bl (fbar x.2.2.2.2 (prodL x.1) (prodL x.2.1) (prodL x.2.2.1) (prodL x.2.2.2.1)))) := by
  refine fn_at C.d_four_bar sc_four_bar (fun _ => rfl) fun f cdv A outer s H E hr => ⟨_, (pss_cons (ps_set (i := 2) sc_four_bar.nd rfl (by first | exact Or.inl rfl | exact Or.inr rfl) (pe_op (op_gAdd (K := K)) (pe_op (op_gAdd (K := K)) (pe_op (op_gAdd (K := K)) (pe_ix (ix_any (K := K)) (pv 0) pe_int (fun _ _ => rfl)) (pe_ix (ix_any (K := K)) (pv 0) pe_int (fun _ _ => rfl))) (pe_ix (ix_any (K := K)) (pv 0) pe_int (fun _ _ => rfl))) (pe_ix (ix_any (K := K)) (pv 0) pe_int (fun _ _ => rfl))))
    (pss_cons (ps_if (pt_not (pt_val (pe_fn (ok_is_local_square C) (hr.mono (by omega)) rfl (pa_cons (pv 2) (pa_cons (pv 1) pa_nil)))))
    (pss_one (ps_ret pe_bl))
    pss_nil)
    (pss_cons (ps_set (i := 3) sc_four_bar.nd rfl (by first | exact Or.inl rfl | exact Or.inr rfl) (pe_fn (ok_symbol C) (hr.mono (by omega)) rfl (pa_cons (pe_tup (pa_cons (pe_un un_neg pe_int) pa_nil)) (pa_cons (pe_tup (pa_cons (pe_un un_neg pe_int) pa_nil)) (pa_cons (pv 1) pa_nil)))))
    (pss_cons (ps_for PassesOwn.never rfl (pi_enB (K := K) rfl C.B.enumerate (pa_cons (pv 0) pa_nil)) (pg_tup rfl (pgs_cons (pg_name (i := 4) sc_four_bar.nd rfl (by first | exact Or.inl rfl | exact Or.inr rfl)) (pgs_cons (pg_name (i := 5) sc_four_bar.nd rfl (by first | exact Or.inl rfl | exact Or.inr rfl)) pgs_nil)))
    (pss_one (ps_for PassesOwn.never rfl (pi_seq (K := K) (pe_slice (slT (K := K)) (pv 0) po_none (po_some (pv 4)))) (pg_name (i := 6) sc_four_bar.nd rfl (by first | exact Or.inl rfl | exact Or.inr rfl))
    (pss_one (ps_aug (i := 3) sc_four_bar.nd rfl (by first | exact Or.inl rfl | exact Or.inr rfl) (pe_fn (ok_symbol C) (hr.mono (by omega)) rfl (pa_cons (pv 5) (pa_cons (pv 6) (pa_cons (pv 1) pa_nil)))) ip_add)))))
    (pss_one (ps_ret (pe_cmpR (op_gEq (K := K) (by exact hr.units)) (pe_op op_gMod (pv 3) pe_int) pe_int (nomark _)))))))), fun x e hp he => ?_⟩
  obtain ⟨v0, v1, v2, v3, p⟩ := x
  obtain ⟨⟨w0, w1, w2, w3⟩, hpr, p6⟩ := hp
  have w0 : Wt v0 := w0
  have w1 : Wt v1 := w1
  have w2 : Wt v2 := w2
  have w3 : Wt v3 := w3
  have p6 : p ≤ 2000000 := p6
  have hpr : Pr p := hpr
  have hw4 : ∀ {i : Nat} {v : List Int}, [v0, v1, v2, v3][i]? = some v → Wt v := fun {i v} h => by
    have := List.mem_of_getElem? h
    simp only [List.mem_cons, List.not_mem_nil, or_false] at this
    rcases this with rfl | rfl | rfl | rfl <;> assumption
  have l0 := w0.hi
  have l1 := w1.hi
  have l2 := w2.hi
  have l3 := w3.hi
  dsimp only [cxOf]
  walk_at "d"
  refine r_asg ?_
  walk_at "d"
  refine ⟨wt v0, rfl, ?_⟩
  walk_at "d"
  refine ⟨wt v1, rfl, ?_⟩
  refine g_addT (by simp [D.ints]; omega) ?_
  walk_at "d"
  refine ⟨wt v2, rfl, ?_⟩
  refine g_addT (by simp [D.ints]; omega) ?_
  walk_at "d"
  refine ⟨wt v3, rfl, ?_⟩
  refine g_addT (by simp [D.ints]; omega) ?_
  rw [cat_ints, cat_ints, cat_ints]
  have hu := wu4 w0 w1 w2 w3
  have e4 : prodL (v0 ++ v1 ++ v2 ++ v3) = prodL v0 * prodL v1 * (prodL v2 * prodL v3) := by rw [prod_app, prod_app, prod_app, Int.mul_assoc]
  walk_at "d"
  refine ⟨(v0 ++ v1 ++ v2 ++ v3, p), rfl, ⟨hu, hpr, p6⟩, fun d ed => ?_⟩
  subst ed
  refine ⟨_, rfl, ?_⟩
  dsimp only
  rw [e4]
  refine ite_b (fun h1 => ?_) (fun h1 => ?_)
  · have h1 : lsq p (prodL v0 * prodL v1 * (prodL v2 * prodL v3)) = false := by simpa using h1
    walk_at "d"
    refine ret_v ?_
    show _ = D.bl (fbar p _ _ _ _)
    unfold fbar
    rw [h1]; rfl
  have h1 : lsq p (prodL v0 * prodL v1 * (prodL v2 * prodL v3)) = true := by simpa using h1
  walk_at "n"
  refine r_asg ?_
  have wm : Wt [-1] := ⟨by decide, by decide, fun n hn => by simp at hn; subst hn; decide⟩
  walk_at "n"
  refine ⟨([-1], [-1], p), rfl, ⟨wm, wm, hpr, p6⟩, fun d ed => ?_⟩
  subst ed
  walk_at "n"
  refine r_for [4, 5] ?_
  refine ei_enB ?_
  walk_at "n"
  refine ⟨_, _, rfl, .t, fun i ρ M => ∃ (n : Int) (o1 o2 o3 : Option Sl), ρ = [some (.v (.tup [wt v0, wt v1, wt v2, wt v3])), some (.v (.int (p : Int))), some (.v (.tup (D.ints (v0 ++ v1 ++ v2 ++ v3)))), some (.v (.int n)), o1, o2, o3] ∧ M = [] ∧ n % 2 = b01 (hs p (-1) (-1) ^^ tsum p [v0, v1, v2, v3] i),
    ⟨_, none, none, none, rfl, rfl, ?_⟩, ?_, ?_⟩
  · show b01 (hs p (prodL [-1]) (prodL [-1])) % 2 = _
    have : prodL [-1] = -1 := rfl
    rw [this]
    simp only [tsum, Bool.bne_false, Bool.xor_false]
    generalize hs p (-1) (-1) = b
    cases b <;> rfl
  · rintro i d ρ M hi ⟨n, o1, o2, o3, rfl, rfl, en⟩
    obtain ⟨c, hc, rfl⟩ := enum_get hi
    obtain ⟨v, hv, rfl⟩ := map_get (f := wt) (xs := [v0, v1, v2, v3]) hc
    have hw := hw4 hv
    have il : i < 4 := (List.getElem?_eq_some_iff.mp hv).1
    have eg : [v0, v1, v2, v3].getD i [] = v := by rw [List.getD_eq_getElem?_getD, hv]; rfl
    rw [Int.zero_add]
    walk_at "d"
    refine r_for [6] ?_
    refine ei_seqT ?_
    refine ev_slT ?_
    walk_at "d"
    refine ⟨_, rfl, ?_⟩
    rw [cut_to (α := Nat) (show i ≤ [wt v0, wt v1, wt v2, wt v3].length by show i ≤ 4; omega)]
    have etk : [wt v0, wt v1, wt v2, wt v3].take i = ([v0, v1, v2, v3].take i).map wt := by rw [List.map_take]; rfl
    rw [etk]
    refine ⟨_, rfl, fun j ρ M => ∃ (n : Int) (o3 : Option Sl), ρ = [some (.v (.tup [wt v0, wt v1, wt v2, wt v3])), some (.v (.int (p : Int))), some (.v (.tup (D.ints (v0 ++ v1 ++ v2 ++ v3)))), some (.v (.int n)), some (.v (.int (i : Int))), some (.v (wt v)), o3] ∧ M = [] ∧ n % 2 = b01 (hs p (-1) (-1) ^^ tsum p [v0, v1, v2, v3] i ^^ lsum p (prodL v) (([v0, v1, v2, v3].take i).take j)),
      ⟨n, _, rfl, rfl, by rw [en]; simp [lsum]⟩, ?_, ?_⟩
    · rintro j d ρ M hj ⟨n, o3, rfl, rfl, en⟩
      obtain ⟨u, hu, rfl⟩ := map_get hj
      have hwu : Wt u := by
        have := List.mem_of_mem_take (List.mem_of_getElem? hu)
        obtain ⟨k, hk⟩ := List.mem_iff_getElem?.mp this
        exact hw4 hk
      walk_at "d"
      refine ⟨(v, u, p), rfl, ⟨hw, hwu, hpr, p6⟩, fun d ed => ?_⟩
      subst ed
      refine ⟨_, rfl, n + b01 (hs p (prodL v) (prodL u)), _, rfl, rfl, ?_⟩
      rw [take_snoc hu, lsum_snoc]
      have := par_add en (y := b01 (hs p (prodL v) (prodL u))) (b := hs p (prodL v) (prodL u)) (by generalize hs p (prodL v) (prodL u) = b; cases b <;> rfl)
      rw [this]
      congr 1
      generalize hs p (-1) (-1) = z1; generalize tsum p _ i = z2; generalize lsum p _ _ = z3; generalize hs p (prodL v) (prodL u) = z4
      cases z1 <;> cases z2 <;> cases z3 <;> cases z4 <;> rfl
    · rintro ρ M ⟨n, o3, rfl, rfl, en⟩
      refine ⟨n, _, _, _, rfl, rfl, ?_⟩
      rw [List.length_map, List.take_length] at en
      rw [en]
      congr 1
      simp only [tsum]
      rw [eg]
      generalize hs p (-1) (-1) = z1; generalize tsum p _ i = z2; generalize lsum p _ _ = z3
      cases z1 <;> cases z2 <;> cases z3 <;> rfl
  · rintro ρ M ⟨n, o1, o2, o3, rfl, rfl, en⟩
    have en : n % 2 = b01 (hs p (-1) (-1) ^^ tsum p [v0, v1, v2, v3] 4) := en
    rw [tsum_four] at en
    walk_at "d"
    refine ret_v ?_
    show _ = D.bl (fbar p _ _ _ _)
    unfold fbar
    rw [h1, en, Bool.true_and]
    generalize fsum p _ _ _ _ = b
    cases b <;> rfl

end
section
variable {P : Program} {w : World} {K : PySem.W.Frag} {mg : Str → Option Value} {base : Heap} {a : Adr}
/-! ### odd primes, roots -/
abbrev nI (ps : List Nat) : List Int := ps.map fun p : Nat => (p : Int)
theorem nI_mem {ps : List Nat} {p : Nat} : (p : Int) ∈ nI ps ↔ p ∈ ps := by
  constructor
  · intro h
    obtain ⟨q, hq, e⟩ := List.mem_map.mp h
    have : q = p := by omega
    rw [← this]; exact hq
  · exact fun h => List.mem_map.mpr ⟨p, h, rfl⟩
structure Ods (ps : List Nat) (n : Nat) : Prop where
  nd : ps.Nodup
  mem : ∀ p, p ∈ ps ↔ NT.Pr p ∧ NT.vp p n % 2 = 1
theorem Pd.keys {ks : List Key} {ds : List D} {n : Nat} (h : Pd ks ds n) : ∃ ps : List Nat, ks = (ps.map fun p : Nat => (Sum.inl (p : Int) : Key)) ∧ ps.Nodup ∧ (∀ p, p ∈ ps ↔ NT.Pr p ∧ p ∣ n) ∧ ∀ p, p ∈ ps → p ≤ 1000000 := by
  have : ∀ ks : List Key, (∀ k, k ∈ ks → ∃ p : Nat, k = .inl (p : Int)) → ∃ ps : List Nat, ks = ps.map fun p : Nat => (Sum.inl (p : Int) : Key) := by
    intro ks
    induction ks with
    | nil => intro _; exact ⟨[], rfl⟩
    | cons k ks ih =>
      intro hk
      obtain ⟨p, e⟩ := hk k (by simp)
      obtain ⟨ps, e2⟩ := ih fun j hj => hk j (by simp [hj])
      exact ⟨p :: ps, by rw [e, e2]; rfl⟩
  obtain ⟨ps, e⟩ := this ks fun k hk => let ⟨p, e, _⟩ := h.rng k hk; ⟨p, e⟩
  subst e
  refine ⟨ps, rfl, ?_, fun p => ⟨fun hp => ?_, fun ⟨hp, hd⟩ => ?_⟩, fun p hp => ?_⟩
  · have nd := h.nd
    rw [List.Nodup, List.pairwise_map] at nd
    exact nd.imp fun hxy e => hxy (by rw [e])
  · obtain ⟨q, e, hq, hd, _⟩ := h.rng (.inl (p : Int)) (List.mem_map.mpr ⟨p, hp, rfl⟩)
    have : p = q := by have := Sum.inl.inj e; omega
    subst this; exact ⟨hq, hd⟩
  · have v := h.val p hp
    rw [if_pos hd] at v
    have : (Sum.inl (p : Int) : Key) ∈ ps.map fun p : Nat => (Sum.inl (p : Int) : Key) := by
      refine Classical.byContradiction fun z => ?_
      have : ∀ (ks : List Key) (ds : List D) (k : Key), k ∉ ks → kdGet ks ds k = none := by
        intro ks
        induction ks with
        | nil => intro ds k _; rfl
        | cons j ks ih =>
          intro ds k hk
          cases ds with
          | nil => rfl
          | cons d ds =>
            have e1 : kdGet (j :: ks) (d :: ds) k = kdGet ks ds k := by
              have : ¬ j = k := fun y => hk (by rw [y]; simp)
              simp [kdGet, this]
            rw [e1]; exact ih ds k fun y => hk (by simp [y])
      rw [this _ _ _ z] at v; cases v
    obtain ⟨q, hq, e⟩ := List.mem_map.mp this
    have : q = p := by have := Sum.inl.inj e; omega
    rw [← this]; exact hq
  · obtain ⟨q, e, _, _, h6⟩ := h.rng (.inl (p : Int)) (List.mem_map.mpr ⟨p, hp, rfl⟩)
    have := Sum.inl.inj e; omega
def oddf (n p : Nat) : Bool := decide (((NT.vp p n : Nat) : Int) % 2 = 1)
theorem oddf_iff {n p : Nat} : oddf n p = true ↔ NT.vp p n % 2 = 1 := by
  unfold oddf
  rw [decide_eq_true_eq]; omega
theorem ok_odd_primes_of (C : Ctx K mg a) : FnAt P w K mg base CX0 2 "odd_primes_of" ["weight"] (SpP K (fun ns : List Int => [wt ns]) Wt (fun ns d => ∃ ps, d = .lst (D.ints (nI ps)) ∧ Ods ps (nP ns) ∧ ps.length ≤ 1000001)) := by
  refine fn_at C.d_odd_primes_of sc_odd_primes_of (fun _ => rfl) fun f cdv A outer s H E hr => ⟨_, (pss_cons (ps_set (i := 1) sc_odd_primes_of.nd rfl (by first | exact Or.inl rfl | exact Or.inr rfl) (pe_fn (ok_primes_of C) (hr.mono (by omega)) rfl (pa_cons (pv 0) pa_nil)))
    (pss_one (ps_ret (pe_lock (pe_lc (own := [("prime", 2)]) (g := (gName 2)) (tt := _) rfl sc_odd_primes_of.nd (pi_keys (pv 1)) (blkOk_by (N := n_odd_primes_of) (sc := defScope s_odd_primes_of) (by decide +kernel)) (fun _ _ _ _ _ => (pg_name (i := 2) sc_odd_primes_of.nd rfl (by first | exact Or.inl rfl | exact Or.inr rfl))) (fun _ _ _ _ _ => (pts_one (pt_cmpR (op_gEq (K := K) (by exact hr.units)) (pe_op op_gMod (pe_dget (hu_of hr) (pv 1) (pv 2) (fun _ _ => rfl)) pe_int) pe_int (nomark _)))) (fun _ _ _ _ _ => (pv 2))))))), fun ns e hp he => ?_⟩
  have hp : Wt ns := hp
  dsimp only [cxOf]
  refine r_seq (r_asgN (en_callN ?_))
  walk_at "d"
  refine ⟨ns, rfl, hp, ?_⟩
  rintro m ⟨ks, ds, rfl, pd⟩
  walk_at "d"
  refine ev_lock (j := 1) (k := 0) rfl rfl fun d od kvs => ?_
  have few := pd.few
  obtain ⟨ps, rfl, nd, hm, h6⟩ := pd.keys
  refine ev_lcS (ei_keys (j := 1) rfl rfl ?_)
  refine ⟨by simp at few ⊢; omega, fun i acc => acc = D.ints (nI ((ps.take i).filter (oddf (nP ns)))), rfl, ?_, ?_⟩
  · rintro i d acc hi rfl
    obtain ⟨k, hk, rfl⟩ := map_get hi
    obtain ⟨p, hpi, rfl⟩ := map_get hk
    obtain ⟨hpr, hdv⟩ := (hm p).mp (List.mem_of_getElem? hpi)
    have vv := pd.val p hpr
    rw [if_pos hdv] at vv
    have hf : (ps.take (i + 1)).filter (oddf (nP ns)) = (ps.take i).filter (oddf (nP ns)) ++ (if oddf (nP ns) p = true then [p] else []) := by
      rw [take_snoc hpi, List.filter_append]
      simp only [List.filter_cons, List.filter_nil]
    walk_at "d"
    refine ev_dget ?_
    walk_at "d"
    refine ⟨_, _, .inl (p : Int), _, .z rfl, rfl, vv, ?_⟩
    walk_at "d"
    refine ite_b (fun h => ?_) (fun h => ?_)
    · walk_at "d"
      refine ⟨_, rfl, ?_⟩
      have h : oddf (nP ns) p = true := h
      show D.ints (nI ((ps.take i).filter (oddf (nP ns)))) ++ [D.int (p : Int)] = D.ints (nI ((ps.take (i + 1)).filter (oddf (nP ns))))
      rw [hf, if_pos h]; simp [D.ints, nI]
    · have h : oddf (nP ns) p = false := h
      show D.ints (nI ((ps.take i).filter (oddf (nP ns)))) = D.ints (nI ((ps.take (i + 1)).filter (oddf (nP ns))))
      rw [hf, if_neg (by rw [h]; decide)]; simp
  · rintro acc rfl
    refine ret_v ⟨ps.filter (oddf (nP ns)), ?_, ⟨nd.filter _, fun p => ?_⟩, ?_⟩
    · simp
    · rw [List.mem_filter, hm, oddf_iff]
      constructor
      · rintro ⟨⟨a, _⟩, b⟩; exact ⟨a, b⟩
      · rintro ⟨a, b⟩; exact ⟨⟨a, (NT.vp_pos a.1 hp.pos).mpr (by omega)⟩, b⟩
    · have := List.length_filter_le (oddf (nP ns)) ps
      rw [List.length_map] at few; omega
theorem ok_root_of (C : Ctx K mg a) : FnAt P w K mg base CX0 2 "root_of" ["weight"] (SpP K (fun ns : List Int => [wt ns]) Wt (fun ns d => ∃ r : Nat, d = .int (r : Int) ∧ 0 < r ∧ ∀ q, NT.Pr q → NT.vp q r = NT.vp q (nP ns) / 2)) := by
  refine fn_at C.d_root_of sc_root_of (fun _ => rfl) fun f cdv A outer s H E hr => ⟨_, (pss_cons (ps_set (i := 1) sc_root_of.nd rfl (by first | exact Or.inl rfl | exact Or.inr rfl) (pe_fn (ok_primes_of C) (hr.mono (by omega)) rfl (pa_cons (pv 0) pa_nil)))
    (pss_cons (ps_set (i := 2) sc_root_of.nd rfl (by first | exact Or.inl rfl | exact Or.inr rfl) pe_int)
    (pss_cons (ps_lock (ps_for PassesOwn.never rfl (pi_keys (pv 1)) (pg_name (i := 3) sc_root_of.nd rfl (by first | exact Or.inl rfl | exact Or.inr rfl))
    (pss_one (ps_for PassesOwn.never rfl (pi_range1 rfl C.B.range (pa_cons (pe_op op_gDiv (pe_dget (hu_of hr) (pv 1) (pv 3) (fun _ _ => rfl)) pe_int) pa_nil)) (pg_name (i := 4) sc_root_of.nd rfl (by first | exact Or.inl rfl | exact Or.inr rfl))
    (pss_one (ps_set (i := 2) sc_root_of.nd rfl (by first | exact Or.inl rfl | exact Or.inr rfl) (pe_op (op_gMul (K := K)) (pv 2) (pv 3))))))))
    (pss_one (ps_ret (pv 2)))))), fun ns e hp he => ?_⟩
  have hp : Wt ns := hp
  have hpos := hp.pos
  dsimp only [cxOf]
  refine r_seq (r_asgN (en_callN ?_))
  walk_at "d"
  refine ⟨ns, rfl, hp, ?_⟩
  rintro m ⟨ks, ds, rfl, pd⟩
  walk_at "d"
  refine r_asg ?_
  walk_at "d"
  refine r_lock (j := 1) (k := 0) rfl rfl fun d od kvs => ?_
  obtain ⟨ps, rfl, nd, hm, h6⟩ := pd.keys
  refine r_forK (j := 1) (k := 0) [3] rfl rfl ⟨fun i ρ M => ∃ (f : Nat) (o3 o4 : Option Sl), ρ = [some (.v (wt ns)), some (.l 0), some (.v (.int (f : Int))), o3, o4] ∧ M = [.frz d od kvs (ps.map fun p : Nat => (Sum.inl (p : Int) : Key)) ds] ∧ 0 < f ∧ ∀ q, NT.Pr q → NT.vp q f = if q ∈ ps.take i then NT.vp q (nP ns) / 2 else 0,
    ⟨1, none, none, rfl, rfl, by decide, fun q hq => by simp [NT.vp_one hq]⟩, ?_, ?_⟩
  · rintro i key ρ M hi ⟨f, o3, o4, rfl, rfl, f0, fv⟩ hk
    obtain ⟨p, hpi, rfl⟩ := map_get hi
    obtain ⟨hpr, hdv⟩ := (hm p).mp (List.mem_of_getElem? hpi)
    have vv := pd.val p hpr
    rw [if_pos hdv] at vv
    have p6 := h6 p (List.mem_of_getElem? hpi)
    have hnot : p ∉ ps.take i := fun z => by
      obtain ⟨j, hj, e⟩ := List.getElem_of_mem z
      rw [List.length_take] at hj
      have hij := (List.getElem?_eq_some_iff.mp hpi)
      obtain ⟨hl, e2⟩ := hij
      rw [List.getElem_take] at e
      have := (List.pairwise_iff_getElem.mp nd) j i (by omega) hl (by omega)
      exact this (by rw [e, e2])
    generalize hv : NT.vp p (nP ns) = v at *
    have v1 : v ≤ 899 := by
      have h1 := Nat.le_of_dvd hpos (NT.dvd_pow_vp hpr.1 hpos)
      rw [hv] at h1
      have h2 : 2 ^ v ≤ p ^ v := Nat.pow_le_pow_left hpr.1 v
      have h3 : nP ns < 2 ^ 900 := hp.bit
      refine Classical.byContradiction fun z => ?_
      exact absurd h3 (Nat.not_lt.mpr (Nat.le_trans (Nat.pow_le_pow_right (by decide) (by omega)) (Nat.le_trans h2 h1)))
    refine eg_name ?_
    refine r_for [4] ?_
    refine ei_range1 ?_
    walk_at "d"
    refine ev_dget ?_
    walk_at "d"
    refine ⟨_, _, .inl (p : Int), _, .z rfl, rfl, vv, ?_⟩
    walk_at "d"
    refine ⟨_, rfl, by omega, by omega, fun j ρ M => ∃ (f : Nat) (o4 : Option Sl), ρ = [some (.v (wt ns)), some (.l 0), some (.v (.int (f : Int))), some (.v (.int (p : Int))), o4] ∧ M = [.frz d od kvs (ps.map fun p : Nat => (Sum.inl (p : Int) : Key)) ds] ∧ 0 < f ∧ ∀ q, NT.Pr q → NT.vp q f = if q = p then j else if q ∈ ps.take i then NT.vp q (nP ns) / 2 else 0,
      ⟨f, _, rfl, rfl, f0, fun q hq => ?_⟩, ?_, ?_⟩
    · rw [fv q hq]
      by_cases e : q = p
      · subst e; rw [if_pos rfl, if_neg hnot]
      · rw [if_neg e]
    · rintro j d' ρ M hj ⟨f, o4, rfl, rfl, f0, fv⟩
      obtain ⟨hjl, rfl⟩ := rangeD_get hj
      have fb : ((f : Nat) : Int).natAbs < 2 ^ 900 := by
        have : f ∣ nP ns := NT.dvd_of_vp f _ f0 hpos fun q hq => by
          rw [fv q hq]
          by_cases e : q = p
          · subst e; rw [if_pos rfl]; omega
          · rw [if_neg e]; split <;> omega
        have h1 := Nat.le_of_dvd hpos this
        have h2 := hp.bit
        exact Nat.lt_of_le_of_lt h1 h2
      walk_at "d"
      refine r_asg ?_
      walk_at "d"
      refine ⟨mulW fb (lit_bit (b := 60) (by omega) (by decide)) (by decide), f * p, _, by rw [Int.natCast_mul]; rfl, rfl, Nat.mul_pos f0 hpr.pos, fun q hq => ?_⟩
      rw [NT.vp_mul hq f0 hpr.pos, fv q hq]
      by_cases e : q = p
      · subst e; rw [if_pos rfl, if_pos rfl, NT.vp_self hq]
      · rw [if_neg e, if_neg e, NT.vp_other hq hpr e]; simp
    · rintro ρ M ⟨f, o4, rfl, rfl, f0, fv⟩
      refine ⟨rfl, f, _, _, rfl, rfl, f0, fun q hq => ?_⟩
      have hl : (rangeD 0 (((v : Nat) : Int) / 2).toNat).length = v / 2 := by rw [rangeD_len]; omega
      rw [hl] at fv
      rw [fv q hq, take_snoc hpi]
      by_cases e : q = p
      · subst e; rw [if_pos rfl, if_pos (by simp), hv]
      · rw [if_neg e]; simp [e]
  · rintro ρ M ⟨f, o3, o4, rfl, rfl, f0, fv⟩ hk
    refine ⟨rfl, ?_⟩
    walk_at "d"
    refine ret_v ⟨f, rfl, f0, fun q hq => ?_⟩
    rw [fv q hq, List.length_map, List.take_length]
    by_cases z : q ∈ ps
    · rw [if_pos z]
    · rw [if_neg z, NT.vp_no fun d => z ((hm q).mpr ⟨hq, d⟩)]

end
section
variable {P : Program} {w : World} {K : PySem.W.Frag} {mg : Str → Option Value} {base : Heap} {a : Adr}
/-! ### normal weights -/
def ob (n p : Nat) : Bool := decide (NT.vp p n % 2 = 1)
def brb (a b c p : Nat) : Bool := (ob b p == ob c p) && (ob a p != ob b p)
def upb (a b c p : Nat) : Bool := !ob a p && ob b p && ob c p
structure Bars (a b c : Nat) (bs : List Nat) : Prop where
  asc : bs.Pairwise (· < ·)
  mem : ∀ p, p ∈ bs ↔ NT.Pr p ∧ brb a b c p = true
def UpOk (a b c u : Nat) : Prop := 0 < u ∧ ∀ q, NT.Pr q → NT.vp q u = if upb a b c q = true then 1 else 0
def RtOk (n r : Nat) : Prop := 0 < r ∧ ∀ q, NT.Pr q → NT.vp q r = NT.vp q n / 2
structure Nm (v0 v1 v2 : List Int) (B0 B1 B2 : List Nat) (u0 u1 u2 r0 r1 r2 : Nat) : Prop where
  b0 : Bars (nP v0) (nP v1) (nP v2) B0
  b1 : Bars (nP v1) (nP v0) (nP v2) B1
  b2 : Bars (nP v2) (nP v0) (nP v1) B2
  u0 : UpOk (nP v0) (nP v1) (nP v2) u0
  u1 : UpOk (nP v1) (nP v0) (nP v2) u1
  u2 : UpOk (nP v2) (nP v0) (nP v1) u2
  r0 : RtOk (nP v0) r0
  r1 : RtOk (nP v1) r1
  r2 : RtOk (nP v2) r2
abbrev lI (ps : List Nat) : D := .lst (D.ints (nI ps))
/-- what a Normal holds -/
def NmD (v0 v1 v2 : List Int) (ds : List D) : Prop := ∃ B0 B1 B2 u0 u1 u2 r0 r1 r2, Nm v0 v1 v2 B0 B1 B2 u0 u1 u2 r0 r1 r2 ∧
  ds = [.lst [lI B0, lI B1, lI B2], lI [u0, u1, u2], lI [r0, r1, r2], .lst (D.ints [sgn (prodL v0), sgn (prodL v1), sgn (prodL v2)])]
theorem Ods.few {ps : List Nat} {n : Nat} (h : Ods ps n) (hn : 0 < n) (hb : n < 2 ^ 900) : ps.length ≤ 900 := by
  have h1 := Nat.le_of_dvd hn (NT.prod_dvd hn ps h.nd fun p hp => ⟨((h.mem p).mp hp).1, (NT.vp_pos ((h.mem p).mp hp).1.1 hn).mpr (by have := ((h.mem p).mp hp).2; omega)⟩)
  have h2 := NT.two_pow_le ps fun p hp => ((h.mem p).mp hp).1.1
  refine Classical.byContradiction fun z => ?_
  exact absurd hb (Nat.not_lt.mpr (Nat.le_trans (Nat.pow_le_pow_right (by decide) (by omega)) (Nat.le_trans h2 h1)))
theorem Wt.le30 {ns : List Int} (h : Wt ns) : nP ns ≤ 10 ^ 30 := by
  have : ∀ (ns : List Int) (m : Nat) (a : Int), (∀ n, n ∈ ns → n.natAbs ≤ 10 ^ 6) → a.natAbs ≤ 10 ^ m → (ns.foldl (· * ·) a).natAbs ≤ 10 ^ (6 * ns.length + m) := by
    intro ns
    induction ns with
    | nil => intro m a _ ha; simpa using ha
    | cons n ns ih =>
      intro m a hh ha
      have hn := hh n List.mem_cons_self
      have := ih (m + 6) (a * n) (fun k hk => hh k (List.mem_cons_of_mem _ hk)) (by
        rw [Int.natAbs_mul, Nat.pow_add]
        exact Nat.mul_le_mul ha hn)
      rw [List.foldl_cons, List.length_cons]
      exact Nat.le_trans this (Nat.pow_le_pow_right (by decide) (by omega))
  have := this ns 0 1 (fun n hn => (h.p n hn).2) (by decide)
  exact Nat.le_trans this (Nat.pow_le_pow_right (by decide) (by have := h.hi; omega))
theorem pr_le {v : List Int} (h : Wt v) {p : Nat} (hp : NT.Pr p) (d : p ∣ nP v) : p ≤ 1000000 := by
  have : ∀ (ns : List Int) (a : Int), p ∣ (ns.foldl (· * ·) a).natAbs → p ∣ a.natAbs ∨ ∃ n, n ∈ ns ∧ p ∣ n.natAbs := by
    intro ns
    induction ns with
    | nil => intro a h; exact .inl h
    | cons n ns ih =>
      intro a h
      rcases ih (a * n) h with z | ⟨k, hk, z⟩
      · rw [Int.natAbs_mul] at z
        rcases hp.dvd_mul z with z | z
        · exact .inl z
        · exact .inr ⟨n, by simp, z⟩
      · exact .inr ⟨k, by simp [hk], z⟩
  rcases this v 1 d with z | ⟨k, hk, z⟩
  · exact absurd z hp.one
  · have := h.p k hk
    have := Nat.le_of_dvd (by omega) z
    omega
theorem mem_few {v0 v1 v2 : List Int} (h0 : Wt v0) (h1 : Wt v1) (h2 : Wt v2) {s0 s1 s2 : List Nat} (o0 : Ods s0 (nP v0)) (o1 : Ods s1 (nP v1)) (o2 : Ods s2 (nP v2)) {ms : List Int} (hm : Mems (nI s0 ++ nI s1 ++ nI s2) ms) : ms.length < 64 := by
  have hms : ∀ k, k ∈ ms → 0 ≤ k := fun k hk => by
    have := (hm.2 k).mp hk
    simp only [List.mem_append] at this
    rcases this with (h | h) | h <;> (obtain ⟨q, _, e⟩ := List.mem_map.mp h; omega)
  have hb : nP v0 * nP v1 * nP v2 ≤ 10 ^ 90 := by
    have := Nat.mul_le_mul (Nat.mul_le_mul h0.le30 h1.le30) h2.le30
    exact Nat.le_trans this (by decide)
  have p0 := h0.pos
  have p1 := h1.pos
  have p2 := h2.pos
  have := NT.few_primes (Nat.mul_pos (Nat.mul_pos p0 p1) p2) hb (ms.map Int.toNat) (by
    rw [List.Nodup, List.pairwise_map]
    exact List.Pairwise.imp_of_mem (fun {x y} hx hy hxy e => hxy (by have := hms x hx; have := hms y hy; omega)) hm.1) (fun p hp => by
    obtain ⟨k, hk, rfl⟩ := List.mem_map.mp hp
    have hk0 := hms k hk
    have := (hm.2 k).mp hk
    simp only [List.mem_append] at this
    have ek : ((k.toNat : Nat) : Int) = k := Int.toNat_of_nonneg hk0
    rcases this with (h | h) | h
    · rw [← ek, nI_mem] at h
      have ⟨a, b⟩ := (o0.mem _).mp h
      exact ⟨a, Nat.dvd_mul_right_of_dvd (Nat.dvd_mul_right_of_dvd ((NT.vp_pos a.1 p0).mpr (by omega)) _) _⟩
    · rw [← ek, nI_mem] at h
      have ⟨a, b⟩ := (o1.mem _).mp h
      exact ⟨a, Nat.dvd_mul_right_of_dvd (Nat.dvd_mul_left_of_dvd ((NT.vp_pos a.1 p1).mpr (by omega)) _) _⟩
    · rw [← ek, nI_mem] at h
      have ⟨a, b⟩ := (o2.mem _).mp h
      exact ⟨a, Nat.dvd_mul_left_of_dvd ((NT.vp_pos a.1 p2).mpr (by omega)) _⟩)
  rwa [List.length_map] at this
theorem asc_nat {ms : List Int} (h0 : ∀ k, k ∈ ms → 0 ≤ k) (h : ms.Pairwise (· < ·)) : ∃ ps : List Nat, ms = nI ps ∧ ps.Pairwise (· < ·) := by
  refine ⟨ms.map Int.toNat, ?_, ?_⟩
  · rw [nI, List.map_map]
    have : ms = ms.map id := by simp
    conv => lhs; rw [this]
    exact List.map_congr_left fun k hk => (Int.toNat_of_nonneg (h0 k hk)).symm
  · rw [List.pairwise_map]
    exact List.Pairwise.imp_of_mem (fun {x y} hx hy hxy => by have := h0 x hx; have := h0 y hy; omega) h
theorem ints_app {a b : List Int} : D.ints a ++ D.ints b = D.ints (a ++ b) := by simp [D.ints]
def hasL (b0 b1 b2 : Bool) (i : Nat) : List Int := (if 0 < i ∧ b0 = true then [0] else []) ++ (if 1 < i ∧ b1 = true then [1] else []) ++ (if 2 < i ∧ b2 = true then [2] else [])
theorem ok_Normal (C : Ctx K mg a) : MkAt P w K mg base 4 "Normal" a.Normal ["self", "rows"] (SpI K a.Normal (fun x : List Int × List Int × List Int => [.tup [wt x.1, wt x.2.1, wt x.2.2]]) (fun x => Wt x.1 ∧ Wt x.2.1 ∧ Wt x.2.2) ["bare", "ups", "downs", "signs"] (fun x ds => NmD x.1 x.2.1 x.2.2 ds)) := by
  obtain ⟨f, fd, hM, hF, hB⟩ := C.i_Normal.ex
  refine mk_at C.m_Normal hM hF hB sc_Normal___init__ (fun _ => rfl) fun f cdv A outer s H E hr => ⟨_, (pss_cons (ps_set (i := 2) sc_Normal___init__.nd rfl (by first | exact Or.inl rfl | exact Or.inr rfl) (pe_lc (own := [("weight", 5)]) (g := (gName 5)) (tt := tYes) rfl sc_Normal___init__.nd (pi_seq (K := K) (pv 1)) (blkOk_by (N := n_Normal___init__) (sc := defScope s_Normal___init__) (by decide +kernel)) (fun _ _ _ _ _ => (pg_name (i := 5) sc_Normal___init__.nd rfl (by first | exact Or.inl rfl | exact Or.inr rfl))) (fun _ _ _ _ _ => pts_nil) (fun _ _ _ _ _ => (pe_fn (ok_odd_primes_of C) (hr.mono (by omega)) rfl (pa_cons (pv 5) pa_nil)))))
    (pss_cons (ps_fld (pv 0) (pe_lst (pa_cons (pe_lst pa_nil) (pa_cons (pe_lst pa_nil) (pa_cons (pe_lst pa_nil) pa_nil)))) rfl)
    (pss_cons (ps_fld (pv 0) (pe_lst (pa_cons pe_int (pa_cons pe_int (pa_cons pe_int pa_nil)))) rfl)
    (pss_cons (ps_fld (pv 0) (pe_lc (own := [("weight", 5)]) (g := (gName 5)) (tt := tYes) rfl sc_Normal___init__.nd (pi_seq (K := K) (pv 1)) (blkOk_by (N := n_Normal___init__) (sc := defScope s_Normal___init__) (by decide +kernel)) (fun _ _ _ _ _ => (pg_name (i := 5) sc_Normal___init__.nd rfl (by first | exact Or.inl rfl | exact Or.inr rfl))) (fun _ _ _ _ _ => pts_nil) (fun _ _ _ _ _ => (pe_fn (ok_root_of C) (hr.mono (by omega)) rfl (pa_cons (pv 5) pa_nil)))) rfl)
    (pss_cons (ps_for PassesOwn.never rfl (pi_seq (K := K) (pe_sortSet (K := K) rfl C.B.sorted C.B.set rfl rfl (pe_op (op_gAdd (K := K)) (pe_op (op_gAdd (K := K)) (pe_ix (ix_any (K := K)) (pv 2) pe_int (fun _ _ => rfl)) (pe_ix (ix_any (K := K)) (pv 2) pe_int (fun _ _ => rfl))) (pe_ix (ix_any (K := K)) (pv 2) pe_int (fun _ _ => rfl))))) (pg_name (i := 3) sc_Normal___init__.nd rfl (by first | exact Or.inl rfl | exact Or.inr rfl))
    (pss_cons (ps_setLc (i := 4) (own := [("at", 6)]) (g := (gName 6)) (tt := _) rfl sc_Normal___init__.nd rfl rfl (sw_true rfl rfl rfl (by decide +kernel)) (pi_range1 rfl C.B.range (pa_cons pe_int pa_nil)) (blkOk_by (N := n_Normal___init__) (sc := defScope s_Normal___init__) (by decide +kernel)) (fun _ _ _ _ _ => (pg_name (i := 6) sc_Normal___init__.nd rfl (by first | exact Or.inl rfl | exact Or.inr rfl))) (fun _ _ _ _ _ => (pts_one (pt_cmpR (op_gIn (K := K) (by exact units65 hr)) (pv 3) (pe_ix (ix_any (K := K)) (pv 2) (pv 6) (fun _ _ => rfl)) rfl))) (fun _ _ _ _ _ => (pv 6)))
    (pss_one (ps_if (pt_cmpR (op_gEq (K := K) (by exact hr.units)) (pe_len (K := K) C.B.len rfl (pa_cons (pv 4) pa_nil)) pe_int (nomark _))
    (pss_one (ps_expr (pe_bm PySem.F.plainAttrs_list PySem.F.slot_list_append PySem.F.type_list_append mt_append (pe_ix (ix_any (K := K)) (pe_at (K := K) (pv 0)) (pe_ix (ix_any (K := K)) (pv 4) pe_int (fun _ _ => rfl)) (fun _ _ => rfl)) (pa_cons (pv 3) pa_nil))))
    (pss_one (ps_if (pt_cmpR (op_gEq (K := K) (by exact hr.units)) (pe_len (K := K) C.B.len rfl (pa_cons (pv 4) pa_nil)) pe_int (nomark _))
    (pss_cons (ps_set (i := 7) sc_Normal___init__.nd rfl (by first | exact Or.inl rfl | exact Or.inr rfl) (pe_op op_gSub (pe_op op_gSub pe_int (pe_ix (ix_any (K := K)) (pv 4) pe_int (fun _ _ => rfl))) (pe_ix (ix_any (K := K)) (pv 4) pe_int (fun _ _ => rfl))))
    (pss_cons (ps_expr (pe_bm PySem.F.plainAttrs_list PySem.F.slot_list_append PySem.F.type_list_append mt_append (pe_ix (ix_any (K := K)) (pe_at (K := K) (pv 0)) (pv 7) (fun _ _ => rfl)) (pa_cons (pv 3) pa_nil)))
    (pss_one (ps_asg (pe_op (op_gMul (K := K)) (pe_ix (ix_any (K := K)) (pe_at (K := K) (pv 0)) (pv 7) (fun _ _ => rfl)) (pv 3)) (pg_sub (pe_at (K := K) (pv 0)) (pv 7) set_list)))))
    pss_nil))))))
    (pss_one (ps_fld (pv 0) (pe_lc (own := [("weight", 5)]) (g := (gName 5)) (tt := tYes) rfl sc_Normal___init__.nd (pi_seq (K := K) (pv 1)) (blkOk_by (N := n_Normal___init__) (sc := defScope s_Normal___init__) (by decide +kernel)) (fun _ _ _ _ _ => (pg_name (i := 5) sc_Normal___init__.nd rfl (by first | exact Or.inl rfl | exact Or.inr rfl))) (fun _ _ _ _ _ => pts_nil) (fun _ _ _ _ _ => (pe_fn (ok_sign_of C) (hr.mono (by omega)) rfl (pa_cons (pv 5) pa_nil)))) rfl))))))), fun x e hp he => ?_⟩
  obtain ⟨v0, v1, v2⟩ := x
  obtain ⟨w0, w1, w2⟩ := hp
  have w0 : Wt v0 := w0
  have w1 : Wt v1 := w1
  have w2 : Wt v2 := w2
  have he : e.α.length = 1 := he
  dsimp only [cxOf]
  -- sets
  refine r_seq (r_asg ?_)
  refine ev_lcR (fun d d' => ∃ v ps, d = wt v ∧ d' = lI ps ∧ Ods ps (nP v)) (ei_seqT ?_)
  walk_at "d"
  refine ⟨_, rfl, le_lit rfl, fun i d hi => ?_, ?_⟩
  · have : ∃ v, Wt v ∧ d = wt v := by
      match i, hi with
      | 0, hi => exact ⟨v0, w0, (Option.some.inj hi).symm⟩
      | 1, hi => exact ⟨v1, w1, (Option.some.inj hi).symm⟩
      | 2, hi => exact ⟨v2, w2, (Option.some.inj hi).symm⟩
    obtain ⟨v, hv, rfl⟩ := this
    walk_at "d"
    exact ⟨v, rfl, hv, fun d ⟨ps, e, o, _⟩ => ⟨_, rfl, v, ps, rfl, e, o⟩⟩
  rintro ds ⟨_, _, rfl, ⟨x0, s0, e0, rfl, o0⟩, _, _, rfl, ⟨x1, s1, e1, rfl, o1⟩, _, _, rfl, ⟨x2, s2, e2, rfl, o2⟩, hnil⟩
  have hnil : _ = [] := hnil
  subst hnil
  have inj : ∀ {v x : List Int}, wt v = wt x → v = x := fun {v x} h => by
    have h := D.tup.inj h
    have : ∀ (v x : List Int), D.ints v = D.ints x → v = x := by
      intro v
      induction v with
      | nil => intro x h; cases x with
        | nil => rfl
        | cons _ _ => cases h
      | cons n v ih => intro x h; cases x with
        | nil => cases h
        | cons m x =>
          have := List.cons.inj h
          rw [ih x this.2]
          have : n = m := by have := this.1; cases this; rfl
          rw [this]
    exact this v x h
  cases inj e0; cases inj e1; cases inj e2
  -- self.bare, self.ups
  refine r_seq (r_fldN C.k_Normal.cl C.n_Normal_bare rfl ?_)
  refine en_pin ?_
  refine ena_cons (en_pin (ena_nil ?_))
  refine ⟨[], rfl, le_lit rfl, fun a0 => ?_⟩
  refine ena_cons (en_pin (ena_nil ?_))
  refine ⟨[], rfl, le_lit rfl, fun a1 => ?_⟩
  refine ena_cons (en_pin (ena_nil ?_))
  refine ⟨[], rfl, le_lit rfl, fun a2 => ?_⟩
  refine ena_nil ?_
  refine ⟨[.raw (.ref a0), .raw (.ref a1), .raw (.ref a2)], rfl, le_lit rfl, fun ab => ?_⟩
  refine ⟨_, [], [], rfl, rfl, by decide, ?_⟩
  refine r_seq (r_fldN C.k_Normal.cl C.n_Normal_ups rfl ?_)
  refine en_pin ?_
  refine ena_cons (en_ev (ev_c (ena_cons (en_ev (ev_c (ena_cons (en_ev (ev_c (ena_nil ?_)))))))))
  refine ⟨[.int 1, .int 1, .int 1], rfl, le_lit rfl, fun au => ?_⟩
  refine ⟨_, _, _, rfl, rfl, le_lit rfl, ?_⟩
  -- self.downs
  refine r_seq (r_fld C.k_Normal.cl C.n_Normal_downs rfl rfl (le_lit rfl) ?_)
  refine ev_lcR (fun d d' => ∃ v, ∃ r : Nat, d = wt v ∧ d' = .int (r : Int) ∧ RtOk (nP v) r) (ei_seqT ?_)
  walk_at "d"
  refine ⟨_, rfl, le_lit rfl, fun i d hi => ?_, ?_⟩
  · have : ∃ v, Wt v ∧ d = wt v := by
      match i, hi with
      | 0, hi => exact ⟨v0, w0, (Option.some.inj hi).symm⟩
      | 1, hi => exact ⟨v1, w1, (Option.some.inj hi).symm⟩
      | 2, hi => exact ⟨v2, w2, (Option.some.inj hi).symm⟩
    obtain ⟨v, hv, rfl⟩ := this
    walk_at "d"
    exact ⟨v, rfl, hv, fun d ⟨r, e, o⟩ => ⟨_, rfl, v, r, rfl, e, o⟩⟩
  rintro ds ⟨_, _, rfl, ⟨x0, r0, e0, rfl, q0⟩, _, _, rfl, ⟨x1, r1, e1, rfl, q1⟩, _, _, rfl, ⟨x2, r2, e2, rfl, q2⟩, hnil⟩
  have hnil : _ = [] := hnil
  subst hnil
  cases inj e0; cases inj e1; cases inj e2
  refine ⟨_, rfl, ?_⟩
  -- the walk over the primes
  refine r_seq ?_
  refine r_for [3] ?_
  refine ei_seqL ?_
  refine ev_sortSet ?_
  walk_at "d"
  refine ⟨_, rfl, ?_⟩
  walk_at "d"
  refine ⟨_, rfl, ?_⟩
  have l0 := o0.few w0.pos w0.bit
  have l1 := o1.few w1.pos w1.bit
  have l2 := o2.few w2.pos w2.bit
  refine g_addL .v .v (by simp only [D.ints, nI, List.length_map]; omega) ?_
  walk_at "d"
  refine ⟨_, rfl, ?_⟩
  refine g_addL .v .v (by simp only [D.ints, nI, List.length_map, List.length_append]; omega) ?_
  rw [ints_app, ints_app]
  refine ⟨_, .v, by simp only [nI, List.length_map, List.length_append]; omega, fun ms hm => mem_few w0 w1 w2 o0 o1 o2 hm, fun ms asc hmem => ?_⟩
  obtain ⟨ps, rfl, pasc⟩ := asc_nat (fun k hk => by
    have := (hmem k).mp hk
    simp only [List.mem_append] at this
    rcases this with (h | h) | h <;> (obtain ⟨q, _, e⟩ := List.mem_map.mp h; omega)) asc
  have pm : ∀ p, p ∈ ps ↔ NT.Pr p ∧ (ob (nP v0) p = true ∨ ob (nP v1) p = true ∨ ob (nP v2) p = true) := fun p => by
    rw [← nI_mem, hmem, List.mem_append, List.mem_append, nI_mem, nI_mem, nI_mem, o0.mem, o1.mem, o2.mem]
    simp only [ob, decide_eq_true_eq]
    constructor
    · rintro ((⟨a, b⟩ | ⟨a, b⟩) | ⟨a, b⟩)
      · exact ⟨a, .inl b⟩
      · exact ⟨a, .inr (.inl b)⟩
      · exact ⟨a, .inr (.inr b)⟩
    · rintro ⟨a, b | b | b⟩
      · exact .inl (.inl ⟨a, b⟩)
      · exact .inl (.inr ⟨a, b⟩)
      · exact .inr ⟨a, b⟩
  have plen : ps.length < 64 := by
    have := mem_few w0 w1 w2 o0 o1 o2 (ms := nI ps) ⟨asc.imp fun h => by omega, hmem⟩
    simpa using this
  refine ⟨_, rfl, fun i ρ M => ∃ (o3 o4 o5 o6 o7 : Option Sl), ρ = [some (.l 0), some (.v (.tup [wt v0, wt v1, wt v2])), some (.v (.lst [lI s0, lI s1, lI s2])), o3, o4, o5, o6, o7] ∧
    M = [.ins a.Normal ["bare", "ups", "downs"] [.raw (.ref ab), .raw (.ref au), lI [r0, r1, r2]], .pin a0 (D.ints (nI ((ps.take i).filter (brb (nP v0) (nP v1) (nP v2))))), .pin a1 (D.ints (nI ((ps.take i).filter (brb (nP v1) (nP v0) (nP v2))))), .pin a2 (D.ints (nI ((ps.take i).filter (brb (nP v2) (nP v0) (nP v1))))),
      .pin ab [.raw (.ref a0), .raw (.ref a1), .raw (.ref a2)], .pin au (D.ints (nI [((ps.take i).filter (upb (nP v0) (nP v1) (nP v2))).prod, ((ps.take i).filter (upb (nP v1) (nP v0) (nP v2))).prod, ((ps.take i).filter (upb (nP v2) (nP v0) (nP v1))).prod]))],
    ⟨_, _, _, _, _, rfl, rfl⟩, ?_, ?_⟩
  · rintro i d ρ M hi ⟨o3, o4, o5, o6, o7, rfl, rfl⟩
    obtain ⟨k, hk, rfl⟩ := ints_get hi
    obtain ⟨p, hpi, rfl⟩ := map_get hk
    obtain ⟨hpr, hodd⟩ := (pm p).mp (List.mem_of_getElem? hpi)
    have fs : ∀ f : Nat → Bool, (ps.take (i + 1)).filter f = (ps.take i).filter f ++ (if f p = true then [p] else []) := fun f => by
      rw [take_snoc hpi, List.filter_append]
      simp only [List.filter_cons, List.filter_nil]
    have small : ∀ f : Nat → Bool, (D.ints (nI ((ps.take i).filter f))).length < 16777216 := fun f => by
      have := List.length_filter_le f (ps.take i)
      simp only [D.ints, nI, List.length_map]
      rw [List.length_take] at this
      omega
    have mb : ∀ {s : List Nat} {n : Nat}, Ods s n → decide ((p : Int) ∈ nI s) = ob n p := fun {s n} o => by
      rw [ob]
      refine decide_eq_decide.mpr ?_
      rw [nI_mem, o.mem]
      exact ⟨fun h => h.2, fun h => ⟨hpr, h⟩⟩
    -- a divisor's bounds
    have upBit : ∀ (f : Nat → Bool) (n : Nat), 0 < n → n < 2 ^ 900 → (∀ q, f q = true → ob n q = true) → ((((ps.take i).filter f).prod : Nat) : Int).natAbs < 2 ^ 900 := fun f n hn hb hf => by
      have := Nat.le_of_dvd hn (NT.prod_dvd hn ((ps.take i).filter f) (((NT.asc_nodup pasc).sublist (List.take_sublist i ps)).filter f) fun q hq => by
        obtain ⟨q1, q2⟩ := List.mem_filter.mp hq
        have q3 := ((pm q).mp (List.mem_of_mem_take q1)).1
        have q4 := hf q q2
        exact ⟨q3, (NT.vp_pos q3.1 hn).mpr (by rw [ob, decide_eq_true_eq] at q4; omega)⟩)
      exact Nat.lt_of_le_of_lt this hb
    have p6 : ∀ {v : List Int}, Wt v → ob (nP v) p = true → p ≤ 1000000 := fun {v} w h => by
      rw [ob, decide_eq_true_eq] at h
      exact pr_le w hpr ((NT.vp_pos hpr.1 w.pos).mpr (by omega))
    walk_at "d"
    refine r_asg ?_
    refine ev_lc (ei_range1 ?_)
    walk_at "d"
    refine ⟨_, rfl, by decide, by decide, by rw [rangeD_len]; decide, fun j acc => acc = D.ints (hasL (ob (nP v0) p) (ob (nP v1) p) (ob (nP v2) p) j), by simp [hasL], ?_, ?_⟩
    · rintro j d acc hj rfl
      obtain ⟨hjl, rfl⟩ := rangeD_get hj
      have hjl : j < 3 := hjl
      have h3 : j = 0 ∨ j = 1 ∨ j = 2 := by omega
      rcases h3 with rfl | rfl | rfl
      · walk_at "d"
        refine ⟨_, rfl, g_inI (.l .v) ?_⟩
        rw [mb o0]
        refine ⟨_, rfl, ite_b (fun h => ?_) (fun h => ?_)⟩
        · walk_at "d"
          exact ⟨_, rfl, by simp [hasL, h]⟩
        · simp [hasL, h]
      · walk_at "d"
        refine ⟨_, rfl, g_inI (.l .v) ?_⟩
        rw [mb o1]
        refine ⟨_, rfl, ite_b (fun h => ?_) (fun h => ?_)⟩
        · walk_at "d"
          exact ⟨_, rfl, by simp [hasL, h]⟩
        · simp [hasL, h]
      · walk_at "d"
        refine ⟨_, rfl, g_inI (.l .v) ?_⟩
        rw [mb o2]
        refine ⟨_, rfl, ite_b (fun h => ?_) (fun h => ?_)⟩
        · walk_at "d"
          exact ⟨_, rfl, by simp [hasL, h]⟩
        · simp [hasL, h]
    rintro acc rfl
    rw [rangeD_len]
    cases h0 : ob (nP v0) p <;> cases h1 : ob (nP v1) p <;> cases h2 : ob (nP v2) p
    · simp [h0, h1, h2] at hodd
    · have e : hasL false false true (Int.toNat 3) = [2] := by decide
      rw [e]
      walk_at "d"
      refine ite_dec (fun _ => ?_) (fun h => absurd rfl h)
      refine r_appP ?_
      refine ev_op (ev_fldM C.k_Normal.cl C.n_Normal_bare rfl rfl rfl rfl ?_)
      walk_at "d"
      refine ⟨_, rfl, ?_⟩
      refine x_ixP ⟨4, _, _, rfl, rfl, ?_⟩
      refine ⟨a2, 3, _, rfl, rfl, ?_⟩
      walk_at "d"
      refine ⟨_, rfl, small _, ⟨_, _, _, _, _, rfl, ?_⟩⟩
      simp [fs, brb, upb, h0, h1, h2, D.ints, nI]
    · have e : hasL false true false (Int.toNat 3) = [1] := by decide
      rw [e]
      walk_at "d"
      refine ite_dec (fun _ => ?_) (fun h => absurd rfl h)
      refine r_appP ?_
      refine ev_op (ev_fldM C.k_Normal.cl C.n_Normal_bare rfl rfl rfl rfl ?_)
      walk_at "d"
      refine ⟨_, rfl, ?_⟩
      refine x_ixP ⟨4, _, _, rfl, rfl, ?_⟩
      refine ⟨a1, 2, _, rfl, rfl, ?_⟩
      walk_at "d"
      refine ⟨_, rfl, small _, ⟨_, _, _, _, _, rfl, ?_⟩⟩
      simp [fs, brb, upb, h0, h1, h2, D.ints, nI]
    · have e : hasL false true true (Int.toNat 3) = [1, 2] := by decide
      rw [e]
      walk_at "d"
      refine ite_dec (fun h => absurd h (by decide)) (fun _ => ?_)
      walk_at "d"
      refine ite_dec (fun _ => ?_) (fun h => absurd rfl h)
      walk_at "d"
      refine r_asg ?_
      walk_at "d"
      refine ⟨_, rfl, ?_⟩
      walk_at "d"
      refine ⟨_, rfl, ?_⟩
      refine g_sub ?_
      refine r_seq (r_appP ?_)
      refine ev_op (ev_fldM C.k_Normal.cl C.n_Normal_bare rfl rfl rfl rfl ?_)
      walk_at "d"
      refine x_ixP ⟨4, _, _, rfl, rfl, ?_⟩
      refine ⟨a0, 1, _, rfl, rfl, ?_⟩
      walk_at "d"
      refine ⟨_, rfl, small _, ?_⟩
      refine r_setP ?_
      refine ev_op (ev_op (ev_fldM C.k_Normal.cl C.n_Normal_ups rfl rfl rfl rfl ?_))
      walk_at "d"
      refine x_ixP ⟨5, _, _, rfl, rfl, ?_⟩
      walk_at "d"
      refine ⟨mulW (upBit _ _ w1.pos w1.bit (fun q h => by simp [upb] at h; simp [h])) (lit_bit (b := 60) (by have := p6 (w1) (h1); omega) (by decide)) (by decide), ?_⟩
      refine ev_fldM C.k_Normal.cl C.n_Normal_ups rfl rfl rfl rfl ?_
      walk_at "d"
      refine ⟨_, _, 5, _, _, 0, rfl, rfl, rfl, rfl, rfl, ⟨_, _, _, _, _, rfl, ?_⟩⟩
      simp [fs, brb, upb, h0, h1, h2, D.ints, nI, List.prod_append]
    · have e : hasL true false false (Int.toNat 3) = [0] := by decide
      rw [e]
      walk_at "d"
      refine ite_dec (fun _ => ?_) (fun h => absurd rfl h)
      refine r_appP ?_
      refine ev_op (ev_fldM C.k_Normal.cl C.n_Normal_bare rfl rfl rfl rfl ?_)
      walk_at "d"
      refine ⟨_, rfl, ?_⟩
      refine x_ixP ⟨4, _, _, rfl, rfl, ?_⟩
      refine ⟨a0, 1, _, rfl, rfl, ?_⟩
      walk_at "d"
      refine ⟨_, rfl, small _, ⟨_, _, _, _, _, rfl, ?_⟩⟩
      simp [fs, brb, upb, h0, h1, h2, D.ints, nI]
    · have e : hasL true false true (Int.toNat 3) = [0, 2] := by decide
      rw [e]
      walk_at "d"
      refine ite_dec (fun h => absurd h (by decide)) (fun _ => ?_)
      walk_at "d"
      refine ite_dec (fun _ => ?_) (fun h => absurd rfl h)
      walk_at "d"
      refine r_asg ?_
      walk_at "d"
      refine ⟨_, rfl, ?_⟩
      walk_at "d"
      refine ⟨_, rfl, ?_⟩
      refine g_sub ?_
      refine r_seq (r_appP ?_)
      refine ev_op (ev_fldM C.k_Normal.cl C.n_Normal_bare rfl rfl rfl rfl ?_)
      walk_at "d"
      refine x_ixP ⟨4, _, _, rfl, rfl, ?_⟩
      refine ⟨a1, 2, _, rfl, rfl, ?_⟩
      walk_at "d"
      refine ⟨_, rfl, small _, ?_⟩
      refine r_setP ?_
      refine ev_op (ev_op (ev_fldM C.k_Normal.cl C.n_Normal_ups rfl rfl rfl rfl ?_))
      walk_at "d"
      refine x_ixP ⟨5, _, _, rfl, rfl, ?_⟩
      walk_at "d"
      refine ⟨mulW (upBit _ _ w0.pos w0.bit (fun q h => by simp [upb] at h; simp [h])) (lit_bit (b := 60) (by have := p6 (w0) (h0); omega) (by decide)) (by decide), ?_⟩
      refine ev_fldM C.k_Normal.cl C.n_Normal_ups rfl rfl rfl rfl ?_
      walk_at "d"
      refine ⟨_, _, 5, _, _, 1, rfl, rfl, rfl, rfl, rfl, ⟨_, _, _, _, _, rfl, ?_⟩⟩
      simp [fs, brb, upb, h0, h1, h2, D.ints, nI, List.prod_append]
    · have e : hasL true true false (Int.toNat 3) = [0, 1] := by decide
      rw [e]
      walk_at "d"
      refine ite_dec (fun h => absurd h (by decide)) (fun _ => ?_)
      walk_at "d"
      refine ite_dec (fun _ => ?_) (fun h => absurd rfl h)
      walk_at "d"
      refine r_asg ?_
      walk_at "d"
      refine ⟨_, rfl, ?_⟩
      walk_at "d"
      refine ⟨_, rfl, ?_⟩
      refine g_sub ?_
      refine r_seq (r_appP ?_)
      refine ev_op (ev_fldM C.k_Normal.cl C.n_Normal_bare rfl rfl rfl rfl ?_)
      walk_at "d"
      refine x_ixP ⟨4, _, _, rfl, rfl, ?_⟩
      refine ⟨a2, 3, _, rfl, rfl, ?_⟩
      walk_at "d"
      refine ⟨_, rfl, small _, ?_⟩
      refine r_setP ?_
      refine ev_op (ev_op (ev_fldM C.k_Normal.cl C.n_Normal_ups rfl rfl rfl rfl ?_))
      walk_at "d"
      refine x_ixP ⟨5, _, _, rfl, rfl, ?_⟩
      walk_at "d"
      refine ⟨mulW (upBit _ _ w0.pos w0.bit (fun q h => by simp [upb] at h; simp [h])) (lit_bit (b := 60) (by have := p6 (w0) (h0); omega) (by decide)) (by decide), ?_⟩
      refine ev_fldM C.k_Normal.cl C.n_Normal_ups rfl rfl rfl rfl ?_
      walk_at "d"
      refine ⟨_, _, 5, _, _, 2, rfl, rfl, rfl, rfl, rfl, ⟨_, _, _, _, _, rfl, ?_⟩⟩
      simp [fs, brb, upb, h0, h1, h2, D.ints, nI, List.prod_append]
    · have e : hasL true true true (Int.toNat 3) = [0, 1, 2] := by decide
      rw [e]
      walk_at "d"
      refine ite_dec (fun h => absurd h (by decide)) (fun _ => ?_)
      walk_at "d"
      refine ite_dec (fun h => absurd h (by decide)) (fun _ => ?_)
      walk_at "d"
      refine ⟨_, _, _, _, _, rfl, ?_⟩
      simp [fs, brb, upb, h0, h1, h2]
  · rintro ρ M ⟨o3, o4, o5, o6, o7, rfl, rfl⟩
    have hlen : (D.ints (nI ps)).length = ps.length := by simp [D.ints, nI]
    rw [hlen, List.take_length]
    refine r_fzP 1 4 0 rfl rfl rfl (by omega) (by decide) ?_
    refine r_fzP 2 4 1 rfl rfl rfl (by omega) (by decide) ?_
    refine r_fzP 3 4 2 rfl rfl rfl (by omega) (by decide) ?_
    refine r_fzI 4 0 0 rfl rfl rfl (by omega) (by decide) ?_
    refine r_fzI 5 0 1 rfl rfl rfl (by omega) (by decide) ?_
    refine r_fld C.k_Normal.cl C.n_Normal_signs rfl rfl (le_lit rfl) ?_
    refine ev_lcR (fun d d' => ∃ v, d = wt v ∧ d' = .int (sgn (prodL v))) (ei_seqT ?_)
    walk_at "d"
    refine ⟨_, rfl, le_lit rfl, fun i d hi => ?_, ?_⟩
    · have : ∃ v, Wt v ∧ d = wt v := by
        match i, hi with
        | 0, hi => exact ⟨v0, w0, (Option.some.inj hi).symm⟩
        | 1, hi => exact ⟨v1, w1, (Option.some.inj hi).symm⟩
        | 2, hi => exact ⟨v2, w2, (Option.some.inj hi).symm⟩
      obtain ⟨v, hv, rfl⟩ := this
      walk_at "d"
      exact ⟨v, rfl, hv, fun d e => ⟨_, rfl, v, rfl, e⟩⟩
    rintro ds ⟨_, _, rfl, ⟨x0, e0, rfl⟩, _, _, rfl, ⟨x1, e1, rfl⟩, _, _, rfl, ⟨x2, e2, rfl⟩, hnil⟩
    have hnil : _ = [] := hnil
    subst hnil
    cases inj e0; cases inj e1; cases inj e2
    have bars : ∀ (a b c : Nat), (∀ p, NT.Pr p → brb a b c p = true → ob (nP v0) p = true ∨ ob (nP v1) p = true ∨ ob (nP v2) p = true) → Bars a b c (ps.filter (brb a b c)) := fun a b c h => ⟨pasc.sublist (List.filter_sublist ..), fun p => by
      rw [List.mem_filter, pm]
      exact ⟨fun ⟨⟨a, _⟩, b⟩ => ⟨a, b⟩, fun ⟨x, y⟩ => ⟨⟨x, h p x y⟩, y⟩⟩⟩
    have ups : ∀ (a b c : Nat), (∀ p, NT.Pr p → upb a b c p = true → ob (nP v0) p = true ∨ ob (nP v1) p = true ∨ ob (nP v2) p = true) → UpOk a b c (ps.filter (upb a b c)).prod := fun a b c h => by
      have hpr : ∀ p, p ∈ ps.filter (upb a b c) → NT.Pr p := fun p hp => ((pm p).mp (List.mem_filter.mp hp).1).1
      refine ⟨NT.prod_pos _ hpr, fun q hq => ?_⟩
      rw [NT.vp_prod hq _ ((NT.asc_nodup pasc).filter _) hpr]
      have : q ∈ ps.filter (upb a b c) ↔ upb a b c q = true := by
        rw [List.mem_filter, pm]
        exact ⟨fun h => h.2, fun y => ⟨⟨hq, h q hq y⟩, y⟩⟩
      by_cases z : upb a b c q = true
      · rw [if_pos z, if_pos (this.mpr z)]
      · rw [if_neg z, if_neg (fun y => z (this.mp y))]
    refine ⟨_, rfl, _, rfl, ps.filter (brb (nP v0) (nP v1) (nP v2)), ps.filter (brb (nP v1) (nP v0) (nP v2)), ps.filter (brb (nP v2) (nP v0) (nP v1)), _, _, _, r0, r1, r2,
      ⟨bars _ _ _ fun p _ h => ?_, bars _ _ _ fun p _ h => ?_, bars _ _ _ fun p _ h => ?_, ups _ _ _ fun p _ h => ?_, ups _ _ _ fun p _ h => ?_, ups _ _ _ fun p _ h => ?_, q0, q1, q2⟩, rfl⟩
    all_goals (simp only [brb, upb] at h)
    all_goals (cases h0 : ob (nP v0) p <;> cases h1 : ob (nP v1) p <;> cases h2 : ob (nP v2) p <;> simp [h0, h1, h2] at h ⊢)

end
section
variable {P : Program} {w : World} {K : PySem.W.Frag} {mg : Str → Option Value} {base : Heap} {a : Adr}
/-! ### the normal weights' own numbers -/
structure NV where
  B0 : List Nat
  B1 : List Nat
  B2 : List Nat
  u0 : Nat
  u1 : Nat
  u2 : Nat
  r0 : Nat
  r1 : Nat
  r2 : Nat
  s0 : Int
  s1 : Int
  s2 : Int
abbrev nmD (C : Addr) (x : NV) : D := .ins C ["bare", "ups", "downs", "signs"] [.lst [lI x.B0, lI x.B1, lI x.B2], lI [x.u0, x.u1, x.u2], lI [x.r0, x.r1, x.r2], .lst (D.ints [x.s0, x.s1, x.s2])]
structure SmallB (bs : List Nat) : Prop where
  len : bs.length ≤ 1000
  le : ∀ p, p ∈ bs → p ≤ 1000000
theorem SmallB.pre {bs : List Nat} (h : SmallB bs) : (nI bs).length ≤ 1000 ∧ ∀ n, n ∈ nI bs → n.natAbs < 2 ^ 700 := by
  refine ⟨by simpa using h.len, fun n hn => ?_⟩
  obtain ⟨p, hp, rfl⟩ := List.mem_map.mp hn
  have := h.le p hp
  exact lit_bit (b := 700) (by omega) (by decide)
theorem SmallB.bit {bs : List Nat} (h : SmallB bs) : (prodL (nI bs)).natAbs < 2 ^ 700001 := by
  refine bit_le (prod_bit (nI bs) h.pre.2) ?_
  have := h.pre.1
  omega
structure NV.Ok (x : NV) : Prop where
  b0 : SmallB x.B0
  b1 : SmallB x.B1
  b2 : SmallB x.B2
  s0 : x.s0 = 1 ∨ x.s0 = -1
  s1 : x.s1 = 1 ∨ x.s1 = -1
  s2 : x.s2 = 1 ∨ x.s2 = -1
def NV.A0 (x : NV) : Int := x.s0 * prodL (nI x.B0)
def NV.A1 (x : NV) : Int := x.s1 * prodL (nI x.B1)
def NV.A2 (x : NV) : Int := x.s2 * prodL (nI x.B2)
theorem ok_Normal_all_weights (C : Ctx K mg a) : MFnAt P w K mg base 2 a.Normal "all_weights" ["self"] (SpP K (fun x : NV => [nmD a.Normal x]) NV.Ok (fun x d => d = .tup (D.ints [x.A0, x.A1, x.A2]))) := by
  refine mfn_at C.e_Normal_all_weights sc_Normal_all_weights (fun _ => rfl) fun f cdv A outer s H E hr => ⟨_, (pss_one (ps_ret (pe_tupOf (K := K) C.B.tuple rfl (pa_cons (pe_lc (own := [("sign", 1), ("primes", 2)]) (g := (gTup _ 2 (gCons (gName 1) (gCons (gName 2) gNil)))) (tt := tYes) rfl sc_Normal_all_weights.nd (pi_zipS2 (K := K) rfl C.B.zip (pa_cons (pe_at (K := K) (pv 0)) (pa_cons (pe_at (K := K) (pv 0)) pa_nil))) (blkOk_by (N := n_Normal_all_weights) (sc := defScope s_Normal_all_weights) (by decide +kernel)) (fun _ _ _ _ _ => (pg_tup rfl (pgs_cons (pg_name (i := 1) sc_Normal_all_weights.nd rfl (by first | exact Or.inl rfl | exact Or.inr rfl)) (pgs_cons (pg_name (i := 2) sc_Normal_all_weights.nd rfl (by first | exact Or.inl rfl | exact Or.inr rfl)) pgs_nil)))) (fun _ _ _ _ _ => pts_nil) (fun _ _ _ _ _ => (pe_op (op_gMul (K := K)) (pv 1) (pe_fn (ok_product C) (hr.mono (by omega)) rfl (pa_cons (pv 2) pa_nil))))) pa_nil)))), fun x e hp he => ?_⟩
  have hp : x.Ok := hp
  dsimp only [cxOf]
  refine r_ret ?_
  refine ev_cb (ea_cons ?_)
  refine ev_lcR (fun d d' => ∃ (s : Int) (B : List Nat), d = .tup [.int s, lI B] ∧ d' = .int (s * prodL (nI B))) (ei_z2 ?_)
  refine ea_cons (ev_at ?_)
  walk_at "d"
  refine ⟨_, _, _, rfl, C.k_Normal.cl, C.n_Normal_signs, _, _, rfl, rfl, ?_⟩
  refine ea_cons (ev_at ?_)
  walk_at "d"
  refine ⟨_, _, _, rfl, C.k_Normal.cl, C.n_Normal_bare, _, _, rfl, rfl, ?_⟩
  walk_at "d"
  refine ⟨_, _, _, _, rfl, .l, .l, le_lit rfl, fun i d hi => ?_, ?_⟩
  · have key : ∀ (s : Int) (B : List Nat), (s = 1 ∨ s = -1) → SmallB B → d = .tup [.int s, lI B] → EvG K (gTup K 2 (gCons (gName 1) (gCons (gName 2) gNil))) [1, 2] d (wipeR [some (.v (nmD a.Normal x)), none, none] [1, 2]) fun ρ' => EvP K (tOp (gMul K) (tVar 1) (tCall (SpP K (fun x : Bool × List Int => [D.seq x.1 (D.ints x.2)]) (fun x => x.2.length ≤ 1000 ∧ ∀ n, n ∈ x.2 → n.natAbs < 2 ^ 700) (fun x d => d = .int (prodL x.2))) [] E0 (tCons (tVar 2) tNil))) ρ' [] fun s => ∃ d', s = .v d' ∧ ∃ (s : Int) (B : List Nat), d = .tup [.int s, lI B] ∧ d' = .int (s * prodL (nI B)) := by
      rintro s B hs hB rfl
      walk_at "d"
      refine ⟨(false, nI B), rfl, hB.pre, fun r er => ?_⟩
      subst er
      walk_at "d"
      exact ⟨mulW (a := 60) (by rcases hs with h | h <;> rw [h] <;> decide) hB.bit (by decide), _, rfl, s, B, rfl, rfl⟩
    match i, hi with
    | 0, hi => exact key x.s0 x.B0 hp.s0 hp.b0 (Option.some.inj hi).symm
    | 1, hi => exact key x.s1 x.B1 hp.s1 hp.b1 (Option.some.inj hi).symm
    | 2, hi => exact key x.s2 x.B2 hp.s2 hp.b2 (Option.some.inj hi).symm
  rintro ds ⟨_, _, rfl, ⟨s0, B0, e0, rfl⟩, _, _, rfl, ⟨s1, B1, e1, rfl⟩, _, _, rfl, ⟨s2, B2, e2, rfl⟩, hnil⟩
  have hnil : _ = [] := hnil
  subst hnil
  have inj : ∀ {s t : Int} {B B' : List Nat}, D.tup [.int s, lI B] = .tup [.int t, lI B'] → s = t ∧ B = B' := fun {s t B B'} h => by
    have h := List.cons.inj (D.tup.inj h)
    have h1 : s = t := by have := h.1; cases this; rfl
    have h2 := D.lst.inj (List.cons.inj h.2).1
    refine ⟨h1, ?_⟩
    have : ∀ (B B' : List Nat), D.ints (nI B) = D.ints (nI B') → B = B' := by
      intro B
      induction B with
      | nil => intro B' h; cases B' with
        | nil => rfl
        | cons _ _ => cases h
      | cons n v ih => intro x h; cases x with
        | nil => cases h
        | cons m x =>
          have := List.cons.inj h
          rw [ih x this.2]
          have : ((n : Nat) : Int) = m := by have := this.1; injection this with this; injection this
          have : n = m := by omega
          rw [this]
    exact this _ _ h2
  obtain ⟨rfl, rfl⟩ := inj e0
  obtain ⟨rfl, rfl⟩ := inj e1
  obtain ⟨rfl, rfl⟩ := inj e2
  walk_at "d"
  exact ret_v rfl
theorem NmD.nv {C : Addr} {v0 v1 v2 : List Int} (w0 : Wt v0) (w1 : Wt v1) (w2 : Wt v2) {ds : List D} (h : NmD v0 v1 v2 ds) : ∃ x : NV, D.ins C ["bare", "ups", "downs", "signs"] ds = nmD C x ∧ x.Ok ∧ Nm v0 v1 v2 x.B0 x.B1 x.B2 x.u0 x.u1 x.u2 x.r0 x.r1 x.r2 ∧ x.s0 = sgn (prodL v0) ∧ x.s1 = sgn (prodL v1) ∧ x.s2 = sgn (prodL v2) := by
  obtain ⟨B0, B1, B2, u0, u1, u2, r0, r1, r2, nm, rfl⟩ := h
  have sg : ∀ n, sgn n = 1 ∨ sgn n = -1 := fun n => by unfold sgn; split <;> simp
  have small : ∀ {a b c : List Int} {bs : List Nat}, Wt a → Wt b → Wt c → Bars (nP a) (nP b) (nP c) bs → SmallB bs := fun {a b c bs} ha hb hc h => by
    have odd : ∀ p, p ∈ bs → NT.Pr p ∧ (p ∣ nP a ∨ p ∣ nP b) := fun p hp => by
      obtain ⟨q1, q2⟩ := (h.mem p).mp hp
      refine ⟨q1, ?_⟩
      simp only [brb, Bool.and_eq_true, ob, bne_iff_ne, ne_eq, decide_eq_decide, beq_iff_eq] at q2
      by_cases z : NT.vp p (nP a) % 2 = 1
      · exact .inl ((NT.vp_pos q1.1 ha.pos).mpr (by omega))
      · refine .inr ((NT.vp_pos q1.1 hb.pos).mpr ?_)
        have := q2.2
        omega
    refine ⟨?_, fun p hp => ?_⟩
    · have hpos := Nat.mul_pos ha.pos hb.pos
      have := NT.few_primes hpos (Nat.le_trans (Nat.mul_le_mul ha.le30 hb.le30) (by decide)) bs (NT.asc_nodup h.asc) fun p hp => by
        obtain ⟨q1, q2 | q2⟩ := odd p hp
        · exact ⟨q1, Nat.dvd_mul_right_of_dvd q2 _⟩
        · exact ⟨q1, Nat.dvd_mul_left_of_dvd q2 _⟩
      omega
    · obtain ⟨q1, q2 | q2⟩ := odd p hp
      · exact pr_le ha q1 q2
      · exact pr_le hb q1 q2
  exact ⟨⟨B0, B1, B2, u0, u1, u2, r0, r1, r2, _, _, _⟩, rfl, ⟨small w0 w1 w2 nm.b0, small w1 w0 w2 nm.b1, small w2 w0 w1 nm.b2, sg _, sg _, sg _⟩, nm, rfl, rfl, rfl⟩

end
section
variable {P : Program} {w : World} {K : PySem.W.Frag} {mg : Str → Option Value} {base : Heap} {a : Adr}
/-! ### the places that bar normal weights -/
structure NV.Fine (x : NV) : Prop where
  ok : x.Ok
  a0 : x.A0.natAbs < 2 ^ 200
  a1 : x.A1.natAbs < 2 ^ 200
  a2 : x.A2.natAbs < 2 ^ 200
  n0 : x.B0.Nodup
  n1 : x.B1.Nodup
  n2 : x.B2.Nodup
  p0 : ∀ p, p ∈ x.B0 → NT.Pr p
  p1 : ∀ p, p ∈ x.B1 → NT.Pr p
  p2 : ∀ p, p ∈ x.B2 → NT.Pr p
  d01 : ∀ p, p ∈ x.B0 → p ∉ x.B1
  d02 : ∀ p, p ∈ x.B0 → p ∉ x.B2
  d12 : ∀ p, p ∈ x.B1 → p ∉ x.B2
def twoB (x y z : Int) : Bool :=
  if x % 2 = 0 then !decide ((y + z) % 8 = 0) && !decide ((y + z + x) % 8 = 0)
  else if y % 2 = 0 then !decide ((x + z) % 8 = 0) && !decide ((x + z + y) % 8 = 0)
  else if z % 2 = 0 then !decide ((x + y) % 8 = 0) && !decide ((x + y + z) % 8 = 0)
  else !(decide ((x + z) % 4 = 0) || (decide ((y + x) % 4 = 0) || decide ((z + y) % 4 = 0)))
structure OneEv (x y z : Int) : Prop where
  xy : x % 2 = 1 ∨ y % 2 = 1
  xz : x % 2 = 1 ∨ z % 2 = 1
  yz : y % 2 = 1 ∨ z % 2 = 1
theorem ev_cut {K : PySem.W.Frag} {ρ : Rho} {M : List MO} {Q : Sl → Prop} {te : TE} {tt : TT} {wi : TI} {g : TG} {vs : List Nat} (ns : List Int) (f : Int → Bool) (h : EvI K wi ρ M fun items => items = D.ints ns ∧ ns.length ≤ 16777216 ∧ (∀ n, n ∈ ns → EvG K g vs (.int n) (wipeR ρ vs) fun ρ' => EvT K tt ρ' M fun b => b = f n ∧ (b = true → EvP K te ρ' M fun s => s = .v (.int n))) ∧ Q (.v (.lst (D.ints (ns.filter f))))) : EvP K (tLc wi g tt te vs) ρ M Q := by
  refine ev_lc fun σ α F H en S k kk => h σ α F H en S k fun J F' H' items m S' ok ⟨e1, h1, h2, h3⟩ => kk J F' H' items m S' ok ?_
  subst e1
  refine ⟨by simpa [D.ints] using h1, fun i acc => acc = D.ints ((ns.take i).filter f), rfl, fun i d acc hi ha => ?_, fun acc ha => ?_⟩
  · obtain ⟨n, hn, rfl⟩ := ints_get hi
    subst ha
    have hf : (ns.take (i + 1)).filter f = (ns.take i).filter f ++ (if f n = true then [n] else []) := by
      rw [take_snoc hn, List.filter_append]
      simp only [List.filter_cons, List.filter_nil]
    intro σ α F H v en s hd k kk
    refine h2 n (List.mem_of_getElem? hn) σ α F H v en s hd k fun σ' ρ' en' hl hj q => kk σ' ρ' en' hl hj ?_
    intro σ α F H en S k kk
    refine q σ α F H en S k fun b F' H' m S' ⟨eb, q2⟩ => kk b F' H' m S' ?_
    subst eb
    refine ite_b (fun hb => ?_) (fun hb => ?_)
    · refine (q2 hb).mono fun s es => ⟨_, es, ?_⟩
      show _ = D.ints _
      rw [hf, if_pos hb]; simp [D.ints]
    · show _ = D.ints _
      rw [hf, if_neg (by rw [hb]; decide)]; simp
  · have hl : (D.ints ns).length = ns.length := by simp [D.ints]
    rw [hl, List.take_length] at ha
    subst ha
    exact h3
theorem ok_two_bars (C : Ctx K mg a) : FnAt P w K mg base CX0 1 "two_bars" ["numbers"] (SpP K (fun x : Int × Int × Int => [.tup (D.ints [x.1, x.2.1, x.2.2])]) (fun x => OneEv x.1 x.2.1 x.2.2) (fun x d => d = .bl (twoB x.1 x.2.1 x.2.2))) := by
  refine fn_at C.d_two_bars sc_two_bars (fun _ => rfl) fun f cdv A outer s H E hr => ⟨_, (pss_cons (ps_setLc (i := 1) (own := [("one", 3)]) (g := (gName 3)) (tt := _) rfl sc_two_bars.nd rfl rfl (sw_true rfl rfl rfl (by decide +kernel)) (pi_seq (K := K) (pv 0)) (blkOk_by (N := n_two_bars) (sc := defScope s_two_bars) (by decide +kernel)) (fun _ _ _ _ _ => (pg_name (i := 3) sc_two_bars.nd rfl (by first | exact Or.inl rfl | exact Or.inr rfl))) (fun _ _ _ _ _ => (pts_one (pt_cmpR (op_gEq (K := K) (by exact hr.units)) (pe_op op_gMod (pv 3) pe_int) pe_int (nomark _)))) (fun _ _ _ _ _ => (pv 3)))
    (pss_cons (ps_set (i := 2) sc_two_bars.nd rfl (by first | exact Or.inl rfl | exact Or.inr rfl) (pe_lc (own := [("one", 3)]) (g := (gName 3)) (tt := _) rfl sc_two_bars.nd (pi_seq (K := K) (pv 0)) (blkOk_by (N := n_two_bars) (sc := defScope s_two_bars) (by decide +kernel)) (fun _ _ _ _ _ => (pg_name (i := 3) sc_two_bars.nd rfl (by first | exact Or.inl rfl | exact Or.inr rfl))) (fun _ _ _ _ _ => (pts_one (pt_cmpR (op_gEq (K := K) (by exact hr.units)) (pe_op op_gMod (pv 3) pe_int) pe_int (nomark _)))) (fun _ _ _ _ _ => (pv 3))))
    (pss_cons (ps_if (pt_cmpR (op_gEq (K := K) (by exact hr.units)) (pv 1) (pe_lst pa_nil) (nomark _))
    (pss_one (ps_ret (pe_not (pe_any (K := K) C.B.any rfl rfl (pa_cons (pe_lc (own := [("at", 4)]) (g := (gName 4)) (tt := tYes) rfl sc_two_bars.nd (pi_range1 rfl C.B.range (pa_cons pe_int pa_nil)) (blkOk_by (N := n_two_bars) (sc := defScope s_two_bars) (by decide +kernel)) (fun _ _ _ _ _ => (pg_name (i := 4) sc_two_bars.nd rfl (by first | exact Or.inl rfl | exact Or.inr rfl))) (fun _ _ _ _ _ => pts_nil) (fun _ _ _ _ _ => (pe_cmpR (op_gEq (K := K) (by exact hr.units)) (pe_op op_gMod (pe_op (op_gAdd (K := K)) (pe_ix (ix_any (K := K)) (pv 2) (pv 4) (fun _ _ => rfl)) (pe_ix (ix_any (K := K)) (pv 2) (pe_op op_gSub (pv 4) pe_int) (fun _ _ => rfl))) pe_int) pe_int (nomark _)))) pa_nil)))))
    pss_nil)
    (pss_one (ps_ret (pe_and (pe_cmpR (op_gNe (K := K) (by exact hr.units)) (pe_op op_gMod (pe_op (op_gAdd (K := K)) (pe_ix (ix_any (K := K)) (pv 2) pe_int (fun _ _ => rfl)) (pe_ix (ix_any (K := K)) (pv 2) pe_int (fun _ _ => rfl))) pe_int) pe_int (nomark _)) (pe_one (pe_cmpR (op_gNe (K := K) (by exact hr.units)) (pe_op op_gMod (pe_op (op_gAdd (K := K)) (pe_op (op_gAdd (K := K)) (pe_ix (ix_any (K := K)) (pv 2) pe_int (fun _ _ => rfl)) (pe_ix (ix_any (K := K)) (pv 2) pe_int (fun _ _ => rfl))) (pe_ix (ix_any (K := K)) (pv 1) pe_int (fun _ _ => rfl))) pe_int) pe_int (nomark _))))))))), fun x e hp he => ?_⟩
  obtain ⟨x, y, z⟩ := x
  obtain ⟨h1, h2, h3⟩ := hp
  have h1 : x % 2 = 1 ∨ y % 2 = 1 := h1
  have h2 : x % 2 = 1 ∨ z % 2 = 1 := h2
  have h3 : y % 2 = 1 ∨ z % 2 = 1 := h3
  dsimp only [cxOf]
  refine r_seq (r_asg ?_)
  refine ev_cut [x, y, z] (fun n => decide (n % 2 = 0)) (ei_seqT ?_)
  walk_at "d"
  refine ⟨_, rfl, rfl, le_lit rfl, fun n hn => ?_, ?_⟩
  · walk_at "d"
    refine ⟨rfl, fun hb => ?_⟩
    walk_at "d"
    exact rfl
  refine r_seq (r_asg ?_)
  refine ev_cut [x, y, z] (fun n => decide (n % 2 = 1)) (ei_seqT ?_)
  walk_at "d"
  refine ⟨_, rfl, rfl, le_lit rfl, fun n hn => ?_, ?_⟩
  · walk_at "d"
    refine ⟨rfl, fun hb => ?_⟩
    walk_at "d"
    exact rfl
  by_cases hx : x % 2 = 0
  · have hy : y % 2 = 1 := by omega
    have hz : z % 2 = 1 := by omega
    have ny : ¬ y % 2 = 0 := by omega
    have nz : ¬ z % 2 = 0 := by omega
    have nx : ¬ x % 2 = 1 := by omega
    have f1 : [x, y, z].filter (fun n => decide (n % 2 = 0)) = [x] := by simp [hx, hy, hz, ny, nz, nx]
    have f2 : [x, y, z].filter (fun n => decide (n % 2 = 1)) = [y, z] := by simp [hx, hy, hz, ny, nz, nx]
    rw [f1, f2]
    walk_at "d"
    refine g_eqD 5 rfl rfl (by decide) ?_
    refine ⟨_, rfl, ?_⟩
    refine iteF ?_
    walk_at "d"
    refine ⟨_, rfl, ?_⟩
    walk_at "d"
    refine ⟨_, rfl, ?_⟩
    walk_at "d"
    refine ite_ndec (fun h => ?_) (fun h => ?_)
    · walk_at "d"
      refine ⟨_, rfl, ?_⟩
      walk_at "d"
      refine ⟨_, rfl, ?_⟩
      walk_at "d"
      refine ⟨_, rfl, ?_⟩
      walk_at "d"
      exact ret_v (by simp [twoB, hx, hy, hz, ny, nz, nx, h])
    · exact ret_v (by simp [twoB, hx, hy, hz, ny, nz, nx, h])
  have nx : x % 2 = 1 := by omega
  by_cases hy : y % 2 = 0
  · have hz : z % 2 = 1 := by omega
    have ny : ¬ y % 2 = 1 := by omega
    have nz : ¬ z % 2 = 0 := by omega
    have f1 : [x, y, z].filter (fun n => decide (n % 2 = 0)) = [y] := by simp [hx, hy, hz, ny, nz, nx]
    have f2 : [x, y, z].filter (fun n => decide (n % 2 = 1)) = [x, z] := by simp [hx, hy, hz, ny, nz, nx]
    rw [f1, f2]
    walk_at "d"
    refine g_eqD 5 rfl rfl (by decide) ?_
    refine ⟨_, rfl, ?_⟩
    refine iteF ?_
    walk_at "d"
    refine ⟨_, rfl, ?_⟩
    walk_at "d"
    refine ⟨_, rfl, ?_⟩
    walk_at "d"
    refine ite_ndec (fun h => ?_) (fun h => ?_)
    · walk_at "d"
      refine ⟨_, rfl, ?_⟩
      walk_at "d"
      refine ⟨_, rfl, ?_⟩
      walk_at "d"
      refine ⟨_, rfl, ?_⟩
      walk_at "d"
      exact ret_v (by simp [twoB, hx, hy, hz, ny, nz, nx, h])
    · exact ret_v (by simp [twoB, hx, hy, hz, ny, nz, nx, h])
  have ny : y % 2 = 1 := by omega
  by_cases hz : z % 2 = 0
  · have nz : ¬ z % 2 = 1 := by omega
    have f1 : [x, y, z].filter (fun n => decide (n % 2 = 0)) = [z] := by simp [hx, hy, hz, ny, nz, nx]
    have f2 : [x, y, z].filter (fun n => decide (n % 2 = 1)) = [x, y] := by simp [hx, hy, hz, ny, nz, nx]
    rw [f1, f2]
    walk_at "d"
    refine g_eqD 5 rfl rfl (by decide) ?_
    refine ⟨_, rfl, ?_⟩
    refine iteF ?_
    walk_at "d"
    refine ⟨_, rfl, ?_⟩
    walk_at "d"
    refine ⟨_, rfl, ?_⟩
    walk_at "d"
    refine ite_ndec (fun h => ?_) (fun h => ?_)
    · walk_at "d"
      refine ⟨_, rfl, ?_⟩
      walk_at "d"
      refine ⟨_, rfl, ?_⟩
      walk_at "d"
      refine ⟨_, rfl, ?_⟩
      walk_at "d"
      exact ret_v (by simp [twoB, hx, hy, hz, ny, nz, nx, h])
    · exact ret_v (by simp [twoB, hx, hy, hz, ny, nz, nx, h])
  have nz : z % 2 = 1 := by omega
  have f1 : [x, y, z].filter (fun n => decide (n % 2 = 0)) = [] := by simp [hx, hy, hz]
  have f2 : [x, y, z].filter (fun n => decide (n % 2 = 1)) = [x, y, z] := by simp [nx, ny, nz]
  rw [f1, f2]
  walk_at "d"
  refine g_eqD 5 rfl rfl (by decide) ?_
  refine ⟨_, rfl, ?_⟩
  refine iteT ?_
  walk_at "d"
  refine ev_lcR (fun d d' => (d = .int 0 → d' = .bl (decide ((x + z) % 4 = 0))) ∧ (d = .int 1 → d' = .bl (decide ((y + x) % 4 = 0))) ∧ (d = .int 2 → d' = .bl (decide ((z + y) % 4 = 0)))) (ei_range1 ?_)
  walk_at "d"
  refine ⟨3, rfl, by decide, by decide, le_lit rfl, fun j d hj => ?_, ?_⟩
  · obtain ⟨hjl, rfl⟩ := rangeD_get hj
    have h3 : j = 0 ∨ j = 1 ∨ j = 2 := by have hjl : j < 3 := hjl; omega
    rcases h3 with rfl | rfl | rfl
    · walk_at "d"
      refine ⟨_, rfl, ?_⟩
      walk_at "d"
      refine ⟨_, rfl, ?_⟩
      walk_at "d"
      exact ⟨_, rfl, fun _ => rfl, fun h => absurd (V.int.inj (D.raw.inj h)) (by decide), fun h => absurd (V.int.inj (D.raw.inj h)) (by decide)⟩
    · walk_at "d"
      refine ⟨_, rfl, ?_⟩
      walk_at "d"
      refine ⟨_, rfl, ?_⟩
      walk_at "d"
      exact ⟨_, rfl, fun h => absurd (V.int.inj (D.raw.inj h)) (by decide), fun _ => rfl, fun h => absurd (V.int.inj (D.raw.inj h)) (by decide)⟩
    · walk_at "d"
      refine ⟨_, rfl, ?_⟩
      walk_at "d"
      refine ⟨_, rfl, ?_⟩
      walk_at "d"
      exact ⟨_, rfl, fun h => absurd (V.int.inj (D.raw.inj h)) (by decide), fun h => absurd (V.int.inj (D.raw.inj h)) (by decide), fun _ => rfl⟩
  rintro ds ⟨c0, _, rfl, ⟨g0, _, _⟩, c1, _, rfl, ⟨_, g1, _⟩, c2, _, rfl, ⟨_, _, g2⟩, hnil⟩
  have hnil : _ = [] := hnil
  subst hnil
  cases g0 rfl
  cases g1 rfl
  cases g2 rfl
  refine ea_nil ?_
  refine ec_any (bs := [decide ((x + z) % 4 = 0), decide ((y + x) % 4 = 0), decide ((z + y) % 4 = 0)]) .v ?_
  refine ⟨_, rfl, ?_⟩
  exact ret_v (by simp [twoB, hx, hy, hz])

end
section
variable {P : Program} {w : World} {K : PySem.W.Frag} {mg : Str → Option Value} {base : Heap} {a : Adr}
/-! ### the source of draws -/
theorem mix_get {cells : List Int} {i : Nat} {y : V} (h : (cells.map V.int)[i]? = some y) : ∃ z, cells[i]? = some z ∧ y = .int z := by
  rw [List.getElem?_map] at h
  obtain ⟨z, hz, e⟩ := Option.map_eq_some_iff.mp h
  exact ⟨z, hz, e.symm⟩
theorem ok__law_mix (C : Ctx K mg a) : FnAt P w K mg base CX0 1 "_law_mix" ["_law_script", "_law_seed"] (spMix K) := by
  refine fn_atR C.d__law_mix sc__law_mix (fun vs H Q E h => ?_) fun f cdv A outer s H E hr => ⟨_, (pss_cons (ps_set (i := 2) sc__law_mix.nd rfl (by first | exact Or.inl rfl | exact Or.inr rfl) (pv 1))
    (pss_cons (ps_for PassesOwn.never rfl (pi_seq (K := K) (pv 0)) (pg_name (i := 3) sc__law_mix.nd rfl (by first | exact Or.inl rfl | exact Or.inr rfl))
    (pss_one (ps_set (i := 2) sc__law_mix.nd rfl (by first | exact Or.inl rfl | exact Or.inr rfl) (pe_op op_gMod (pe_int1 C.B.int rfl (pa_cons (pe_op (op_gAdd (K := K)) (pe_op (op_gAdd (K := K)) (pe_op (op_gMul (K := K)) (pv 2) pe_int) (pe_op op_gMod (pe_int1 C.B.int rfl (pa_cons (pv 3) pa_nil)) pe_int)) pe_int) pa_nil)) pe_int))))
    (pss_one (ps_ret (pe_lst (pa_cons (pv 2) (pa_cons (pe_listOf (K := K) C.B.list rfl (pa_cons (pv 0) pa_nil)) (pa_cons pe_int pa_nil)))))))), fun vs Q E' h => ?_⟩
  · obtain ⟨a, cells, seed, rfl, _⟩ := h
    rfl
  · obtain ⟨b, cells, seed, rfl, hs, h63, s0, s1, k⟩ := h
    refine ⟨_, rfl, ⟨_, rfl, b, rfl, .inl ⟨⟨_, hs⟩, for_list (K := K) (a := b) (xs := cells.map V.int) (fun i σ H2 => ∃ (z : Int) (v : Option V), σ = [some (.ref b), some (.int seed), some (.int z), v] ∧ 0 ≤ z ∧ z < 2147483647 ∧ H2 = H)
      ⟨seed, none, rfl, s0, s1, rfl⟩ (fun i σ H2 _ ⟨_, _, _, _, _, e⟩ => by rw [e]; exact hs) ?_ ?_⟩⟩⟩
    · rintro i y σ H2 hi ⟨z, v, rfl, z0, z1, rfl⟩
      obtain ⟨c, hc, rfl⟩ := mix_get hi
      refine ⟨_, rfl, .inl (.inl ⟨z, 48271, rfl, rfl, ?_, ?_⟩)⟩
      · exact mulW (a := 40) (b := 40) (by omega) (by decide) (by decide)
      · refine ⟨_, rfl, .inl ⟨c, rfl, .inl ⟨c, 2147483629, rfl, rfl, by show (0 : Int) < 2147483629; decide, ?_⟩⟩⟩
        refine .inl ⟨_, _, rfl, rfl, .inl ⟨_, _, rfl, rfl, .inl ⟨_, rfl, .inl ⟨_, 2147483647, rfl, rfl, by show (0 : Int) < 2147483647; decide, ?_⟩⟩⟩⟩
        exact ⟨_, some (.int c), rfl, Int.emod_nonneg _ (by decide), Int.emod_lt_of_pos _ (by decide), rfl⟩
    · rintro σ H2 ⟨z, v, rfl, z0, z1, rfl⟩
      refine ⟨_, rfl, ⟨_, rfl, b, cells.map V.int, rfl, .inl hs, fun q hq => ⟨by show 3 ≤ sizeLine; decide, fun p hp => ?_⟩⟩⟩
      have hpq : p ≠ q := fun e => by rw [e, upd_same] at hp; cases hp
      refine k (p, q) _ (by rw [upd_ne hpq] at hp; exact hp) hq (fun c o h => ?_) ⟨z, 0, cells, hpq, upd_same, ?_, z0, z1, h63, by decide⟩
      · rw [upd_ne (ne_of_none (by rw [upd_ne (ne_of_none h hq)]; exact h) hp), upd_ne (ne_of_none h hq)]; exact h
      · show upd (upd H2 q _) p _ q = _
        rw [upd_ne (Ne.symm hpq), upd_same]
/-- a draw below a cap -/
abbrev SpDraw (K : PySem.W.Frag) : Sp := SpG K (fun cap : Int => [.int cap]) (fun cap => 1 ≤ cap ∧ cap.natAbs < 2 ^ 1000) (fun cap d => ∃ r, d = .int r ∧ 0 ≤ r ∧ r < cap)
theorem ok__law_next (C : Ctx K mg a) : FnAt P w K mg base CX0 1 "_law_next" ["_law_h", "_law_cap"] (SpDraw K) := by
  refine fn_atR C.d__law_next sc__law_next (fun vs H Q E h => ?_) fun f cdv A outer s H E hr => ⟨_, (pss_cons (ps_set (i := 2) sc__law_next.nd rfl (by first | exact Or.inl rfl | exact Or.inr rfl) (pe_ix (ix_any (K := K)) (pe_op (op_gAdd (K := K)) (pe_ix (ix_any (K := K)) (pv 0) pe_int (fun _ _ => rfl)) (pe_lst (pa_cons pe_int pa_nil))) (pe_op op_gMod (pe_int1 C.B.int rfl (pa_cons (pe_ix (ix_any (K := K)) (pv 0) pe_int (fun _ _ => rfl)) pa_nil)) (pe_max2 C.B.max rfl rfl (pa_cons pe_int (pa_cons (pe_len (K := K) C.B.len rfl (pa_cons (pe_ix (ix_any (K := K)) (pv 0) pe_int (fun _ _ => rfl)) pa_nil)) pa_nil)))) (fun _ _ => rfl)))
    (pss_cons (ps_if (pt_cmpR op_gGe (pv 2) (pe_op op_gPow pe_int pe_int) (nomark _))
    (pss_cons (ps_asg (pe_op op_gDiv (pv 2) (pv 1)) (pg_sub (pe_ix (ix_any (K := K)) (pv 0) pe_int (fun _ _ => rfl)) (pe_op op_gMod (pe_int1 C.B.int rfl (pa_cons (pe_ix (ix_any (K := K)) (pv 0) pe_int (fun _ _ => rfl)) pa_nil)) (pe_len (K := K) C.B.len rfl (pa_cons (pe_ix (ix_any (K := K)) (pv 0) pe_int (fun _ _ => rfl)) pa_nil))) set_list))
    (pss_one (ps_ret (pe_op op_gMod (pe_int1 C.B.int rfl (pa_cons (pv 2) pa_nil)) (pv 1)))))
    pss_nil)
    (pss_cons (ps_asg (pe_op op_gMod (pe_int1 C.B.int rfl (pa_cons (pe_op (op_gAdd (K := K)) (pe_op (op_gAdd (K := K)) (pe_op (op_gMul (K := K)) (pe_ix (ix_any (K := K)) (pv 0) pe_int (fun _ _ => rfl)) pe_int) (pe_op (op_gMul (K := K)) (pv 2) pe_int)) pe_int) pa_nil)) pe_int) (pg_sub (pv 0) pe_int set_list))
    (pss_cons (ps_asg (pe_op (op_gAdd (K := K)) (pe_ix (ix_any (K := K)) (pv 0) pe_int (fun _ _ => rfl)) pe_int) (pg_sub (pv 0) pe_int set_list))
    (pss_one (ps_ret (pe_op op_gMod (pe_int1 C.B.int rfl (pa_cons (pe_op op_gDiv (pe_ix (ix_any (K := K)) (pv 0) pe_int (fun _ _ => rfl)) pe_int) pa_nil)) (pv 1)))))))), fun vs Q E' h => ?_⟩
  · obtain ⟨cap, α, F, o, _⟩ := h
    exact o.length.symm
  · obtain ⟨cap, α, F, o, S, ⟨c1, c2⟩, k⟩ := h
    obtain ⟨v, r, rfl, ⟨p, hp, rfl⟩, o2⟩ := o
    have e2 := sls1 o2
    subst e2
    obtain ⟨hF1, hF2, st, ix, cells, hne, h1, h2, s0, s1, h63, i0⟩ := S.ob 0 .rng p rfl hp
    have hpa : p ∈ α := List.mem_of_getElem? hp
    have hα : α = [p] := by
      have := S.len
      match α, hp, this with
      | [q], hp, _ => simp at hp; rw [hp]
    -- what a state behind is worth
    have fin : ∀ (H' : Hp) (d : Int) (st' ix' : Int) (cells' : List Int), (∀ b o, H b = some o → b ≠ p.1 → b ≠ p.2 → H' b = some o) → H' p.1 = some (.lst [.int st', .ref p.2, .int ix']) → H' p.2 = some (.lst (cells'.map V.int)) → 0 ≤ st' → st' < 2147483647 → cells'.length ≤ 63 → 0 ≤ ix' → 0 ≤ d → d < cap → Q (.int d) H' := by
      intro H' d st' ix' cells' fr g1 g2 t0 t1 t2 t3 d0 d1
      have tr : ∀ b, H b ≠ none → H' b ≠ none := fun b hb => by
        by_cases e1 : b = p.1
        · rw [e1, g1]; simp
        · by_cases e2 : b = p.2
          · rw [e2, g2]; simp
          · cases z : H b with
            | none => exact absurd z hb
            | some o => rw [fr b o z e1 e2]; simp
      have sub : Same F H' := fun b o z => fr b o (S.sub b o z) (fun e => by { rw [e, hF1] at z; cases z }) (fun e => by { rw [e, hF2] at z; cases z })
      refine k (.int d) F H' (.int d) [.rng] ⟨.refl F, fun b o z q => fr b o z (q p hpa).1 (q p hpa).2, tr, fun b z => .inl z⟩ ?_ rfl ⟨rfl, d, rfl, d0, d1⟩
      refine ⟨sub, S.len, fun i m q g3 g4 => ?_, S.ap, fun q hq => ⟨tr _ (S.tr q hq).1, tr _ (S.tr q hq).2⟩⟩
      cases i with
      | zero =>
        rw [hp] at g4
        simp at g3 g4
        subst g3; subst g4
        exact ⟨hF1, hF2, st', ix', cells', hne, g1, g2, t0, t1, t2, t3⟩
      | succ i => simp at g3
    let m : Int := if (cells.length : Int) > 1 then (cells.length : Int) else 1
    have hm : 0 < m := by show 0 < (if (cells.length : Int) > 1 then (cells.length : Int) else 1); split <;> omega
    have hj0 := Int.emod_nonneg ix (show m ≠ 0 by omega)
    have hj1 := Int.emod_lt_of_pos ix hm
    obtain ⟨j, hj⟩ : ∃ j : Nat, ix % m = (j : Int) := ⟨(ix % m).toNat, by omega⟩
    have hjl : j < (cells.map V.int ++ [V.int 0]).length := by
      rw [List.length_append, List.length_map]
      show j < cells.length + 1
      have : m ≤ (cells.length : Int) + 1 := by show (if (cells.length : Int) > 1 then (cells.length : Int) else 1) ≤ _; split <;> omega
      omega
    obtain ⟨c, hc⟩ : ∃ c : Int, (cells.map V.int ++ [V.int 0])[j]? = some (V.int c) := by
      by_cases hl : j < cells.length
      · exact ⟨cells[j], by rw [List.getElem?_append_left (by simpa using hl), List.getElem?_map, List.getElem?_eq_getElem hl]; rfl⟩
      · refine ⟨0, ?_⟩
        rw [List.getElem?_append_right (by simpa using hl)]
        have : j - (cells.map V.int).length = 0 := by rw [List.length_map]; rw [List.length_append, List.length_map] at hjl; have : j < cells.length + 1 := hjl; omega
        rw [this]; rfl
    -- the cell
    refine ⟨_, rfl, .inl ⟨p.1, _, 1, .ref p.2, rfl, rfl, SqL.of h1, rfl, by decide, fun q hq => .inr (.inl (.inl ⟨p.2, q, cells.map V.int, [.int 0], rfl, rfl, ?_, upd_same, ?_, fun u hu => ?_⟩))⟩⟩
    · rw [upd_ne (ne_of_none h2 hq)]; exact h2
    · rw [List.length_map, sizeLine_eq]; show cells.length + 1 ≤ _; omega
    have nq1 := ne_of_none h1 hq
    have nq2 := ne_of_none h2 hq
    have k1 : ∀ o : HO, (upd (upd H q (.lst [.int 0])) u o) p.1 = some (.lst [.int st, .ref p.2, .int ix]) := fun o => by
      rw [upd_ne (ne_of_none (by rw [upd_ne nq1]; exact h1) hu), upd_ne nq1]; exact h1
    have k2 : ∀ o : HO, (upd (upd H q (.lst [.int 0])) u o) p.2 = some (.lst (cells.map V.int)) := fun o => by
      rw [upd_ne (ne_of_none (by rw [upd_ne nq2]; exact h2) hu), upd_ne nq2]; exact h2
    have k3 : ∀ (b : Addr) (o o' : HO), H b = some o → (upd (upd H q (.lst [.int 0])) u o') b = some o := fun b o o' z => by
      have z1 := ne_of_none z hq
      rw [upd_ne (ne_of_none (by rw [upd_ne z1]; exact z) hu), upd_ne z1]; exact z
    refine ⟨_, rfl, .inl ⟨p.1, _, 2, .int ix, rfl, rfl, SqL.of (k1 _), rfl, .inl ⟨ix, rfl, ⟨_, rfl, .inl ⟨p.1, _, 1, .ref p.2, rfl, rfl, SqL.of (k1 _), rfl, ⟨_, cells.length, rfl, .inl ⟨_, SqL.of (k2 _), by rw [List.length_map]⟩, ⟨1, (cells.length : Int), rfl, .inl ⟨ix, m, rfl, rfl, hm, ?_⟩⟩⟩⟩⟩⟩⟩⟩
    refine .inl ⟨u, _, (j : Int), .int c, rfl, congrArg V.int hj, SqL.of upd_same, atI_nat hc, ?_⟩
    -- if cell >= 10 ** 18
    refine ⟨_, rfl, 10, 18, rfl, rfl, ⟨by decide, by decide, by decide⟩, c, _, rfl, rfl, _, rfl, ite_dec (fun hge => ?_) (fun hlt => ?_)⟩
    · have hge : (1000000000000000000 : Int) ≤ c := hge
      have hjc : j < cells.length := by
        by_cases hl : j < cells.length
        · exact hl
        · rw [List.getElem?_append_right (by simpa using hl)] at hc
          have : j - (cells.map V.int).length = 0 := by rw [List.length_map]; rw [List.length_append, List.length_map] at hjl; have : j < cells.length + 1 := hjl; omega
          rw [this] at hc
          have : (0 : Int) = c := by injection hc with hc; injection hc
          omega
      have hlm : 0 < (cells.length : Int) := by omega
      have h3 := Int.emod_nonneg ix (show (cells.length : Int) ≠ 0 by omega)
      have h4 := Int.emod_lt_of_pos ix hlm
      obtain ⟨j2, hj2⟩ : ∃ j2 : Nat, ix % (cells.length : Int) = (j2 : Int) := ⟨(ix % (cells.length : Int)).toNat, by omega⟩
      refine ⟨_, rfl, _, rfl, .inl ⟨c, cap, rfl, rfl, divW (b := 1000) (by omega) c2 (by decide), ?_⟩⟩
      refine ⟨_, rfl, .inl ⟨p.1, _, 1, .ref p.2, rfl, rfl, SqL.of (k1 _), rfl, ?_⟩⟩
      refine ⟨_, rfl, .inl ⟨p.1, _, 2, .int ix, rfl, rfl, SqL.of (k1 _), rfl, .inl ⟨ix, rfl, ?_⟩⟩⟩
      refine ⟨_, rfl, .inl ⟨p.1, _, 1, .ref p.2, rfl, rfl, SqL.of (k1 _), rfl, ⟨_, cells.length, rfl, .inl ⟨_, SqL.of (k2 _), by rw [List.length_map]⟩, .inl ⟨ix, (cells.length : Int), rfl, rfl, hlm, ?_⟩⟩⟩⟩
      refine ⟨p.2, cells.map V.int, (j2 : Int), j2, rfl, congrArg V.int hj2, k2 _, ixN_nat (by rw [List.length_map]; omega), ?_⟩
      refine ⟨_, rfl, .inl ⟨c, rfl, ⟨_, rfl, .inl ⟨c, cap, rfl, rfl, by omega, ?_⟩⟩⟩⟩
      refine fin _ _ st ix (cells.set j2 (c / cap)) (fun b o z z1 z2 => ?_) ?_ ?_ s0 s1 (by rw [List.length_set]; exact h63) i0 (Int.emod_nonneg _ (by omega)) (Int.emod_lt_of_pos _ (by omega))
      · rw [upd_ne z2]; exact k3 b o _ z
      · rw [upd_ne hne]; exact k1 _
      · rw [upd_same, List.map_set]
    · have hlt : ¬ (1000000000000000000 : Int) ≤ c := hlt
      -- h[0] = int(h[0] * 48271 + cell * 69621 + 11) % 2147483647
      refine ⟨_, rfl, .inl ⟨p.1, _, 0, .int st, rfl, rfl, SqL.of (k1 _), rfl, .inl (.inl ⟨st, 48271, rfl, rfl, mulW (a := 40) (b := 40) (by omega) (by decide) (by decide), ?_⟩)⟩⟩
      refine ⟨_, rfl, .inl (.inr ⟨c, 69621, rfl, rfl, .inr ⟨by decide, by decide⟩, ?_⟩)⟩
      refine .inl ⟨_, _, rfl, rfl, .inl ⟨_, _, rfl, rfl, .inl ⟨_, rfl, .inl ⟨_, 2147483647, rfl, rfl, by show (0 : Int) < 2147483647; decide, ?_⟩⟩⟩⟩
      refine ⟨_, rfl, p.1, _, 0, 0, rfl, rfl, k1 _, rfl, ?_⟩
      -- h[2] = h[2] + 1
      refine ⟨_, rfl, .inl ⟨p.1, _, 2, .int ix, rfl, rfl, SqL.of upd_same, rfl, .inl ⟨ix, 1, rfl, rfl, ?_⟩⟩⟩
      refine ⟨_, rfl, p.1, _, 2, 2, rfl, rfl, upd_same, rfl, ?_⟩
      refine ⟨_, rfl, .inl ⟨p.1, _, 0, .int ((st * 48271 + c * 69621 + 11) % 2147483647), rfl, rfl, SqL.of upd_same, rfl, .inl ⟨_, 7, rfl, rfl, ⟨by decide, by decide⟩, ?_⟩⟩⟩
      refine .inl ⟨_, rfl, ⟨_, rfl, .inl ⟨_, cap, rfl, rfl, by omega, ?_⟩⟩⟩
      refine fin _ _ ((st * 48271 + c * 69621 + 11) % 2147483647) (ix + 1) cells (fun b o z z1 z2 => ?_) ?_ ?_ (Int.emod_nonneg _ (by decide)) (Int.emod_lt_of_pos _ (by decide)) h63 (by omega) (Int.emod_nonneg _ (by omega)) (Int.emod_lt_of_pos _ (by omega))
      · rw [upd_ne z1, upd_ne z1]; exact k3 b o _ z
      · rw [upd_same]; rfl
      · rw [upd_ne (Ne.symm hne), upd_ne (Ne.symm hne)]; exact k2 _
/-- one of some things -/
theorem ok__law_pick (C : Ctx K mg a) : FnAt P w K mg base CX0 2 "_law_pick" ["_law_h", "_law_things"] (SpG K (fun ds : List D => [.lst ds]) (fun ds => 1 ≤ ds.length ∧ ds.length ≤ 1000000) (fun ds d => d ∈ ds)) := by
  refine fn_at C.d__law_pick sc__law_pick (fun _ => rfl) fun f cdv A outer s H E hr => ⟨_, (pss_one (ps_ret (pe_ix (ix_any (K := K)) (pv 1) (pe_fn (ok__law_next C) (hr.mono (by omega)) rfl (pa_cons (pv 0) (pa_cons (pe_len (K := K) C.B.len rfl (pa_cons (pv 1) pa_nil)) pa_nil))) (fun _ _ => rfl)))), fun ds e hp he => ?_⟩
  obtain ⟨h1, h2⟩ := hp
  dsimp only [cxOf]
  walk_at "d"
  refine ⟨(ds.length : Int), 0, rfl, rfl, ⟨by omega, ?_⟩, fun r hr' => ?_⟩
  · have : (1000000 : Nat) < 2 ^ 1000 := Nat.lt_of_lt_of_le (show 1000000 < 2 ^ 20 by decide) (Nat.pow_le_pow_right (by decide) (by decide))
    omega
  obtain ⟨i, rfl, i0, i1⟩ := hr'
  walk_at "d"
  obtain ⟨j, rfl⟩ : ∃ j : Nat, i = (j : Int) := ⟨i.toNat, by omega⟩
  have hj : j < ds.length := by omega
  refine ⟨ds[j], atI_nat (List.getElem?_eq_getElem hj), ret_v ⟨rfl, List.getElem_mem hj⟩⟩

end
section
variable {P : Program} {w : World} {K : PySem.W.Frag} {mg : Str → Option Value} {base : Heap} {a : Adr}
/-! ### the plain law of normal weights -/
theorem prodL_nI (ps : List Nat) : prodL (nI ps) = (ps.prod : Nat) := by
  have : ∀ (ps : List Nat) (a : Int), (nI ps).foldl (· * ·) a = a * (ps.prod : Nat) := by
    intro ps
    induction ps with
    | nil => intro a; simp [nI]
    | cons p ps ih =>
      intro a
      show (nI ps).foldl (· * ·) (a * (p : Int)) = _
      rw [ih, List.prod_cons, Int.natCast_mul, Int.mul_assoc]
  have := this ps 1
  rw [Int.one_mul] at this
  exact this
theorem brb_swap (a b c p : Nat) : brb a b c p = brb a c b p := by
  unfold brb
  cases ob a p <;> cases ob b p <;> cases ob c p <;> rfl
theorem Bars.swap {a b c : Nat} {bs : List Nat} (h : Bars a b c bs) : Bars a c b bs := ⟨h.asc, fun p => by rw [h.mem, brb_swap]⟩
theorem Bars.pr {a b c : Nat} {bs : List Nat} (h : Bars a b c bs) : ∀ p, p ∈ bs → NT.Pr p := fun p hp => ((h.mem p).mp hp).1
theorem Bars.pos {a b c : Nat} {bs : List Nat} (h : Bars a b c bs) : 0 < bs.prod := NT.prod_pos bs h.pr
theorem Bars.vp {a b c : Nat} {bs : List Nat} (h : Bars a b c bs) {p : Nat} (hp : NT.Pr p) : NT.vp p bs.prod = if brb a b c p = true then 1 else 0 := by
  rw [NT.vp_prod hp bs (NT.asc_nodup h.asc) h.pr]
  by_cases z : brb a b c p = true
  · rw [if_pos z, if_pos ((h.mem p).mpr ⟨hp, z⟩)]
  · rw [if_neg z, if_neg fun y => z ((h.mem p).mp y).2]
theorem ob_dvd {n p : Nat} (hn : 0 < n) (hp : NT.Pr p) (h : ob n p = true) : p ∣ n := (NT.vp_pos hp.1 hn).mpr (by rw [ob, decide_eq_true_eq] at h; omega)
theorem Bars.dvd {a b c : Nat} (ha : 0 < a) (hb : 0 < b) {bs : List Nat} (h : Bars a b c bs) : bs.prod ∣ a * b := by
  refine NT.prod_dvd (Nat.mul_pos ha hb) bs (NT.asc_nodup h.asc) fun p hp => ⟨h.pr p hp, ?_⟩
  have q := ((h.mem p).mp hp).2
  unfold brb at q
  cases h1 : ob a p
  · cases h2 : ob b p
    · rw [h1, h2] at q; simp at q
    · exact Nat.dvd_mul_left_of_dvd (ob_dvd hb (h.pr p hp) h2) _
  · exact Nat.dvd_mul_right_of_dvd (ob_dvd ha (h.pr p hp) h1) _
theorem bars_cop {a b c : Nat} {x y : List Nat} (hx : Bars a b c x) (hy : Bars b a c y) : Nat.gcd x.prod y.prod = 1 := by
  refine NT.eq_one (Nat.gcd_pos_of_pos_left _ hx.pos) fun p hp d => ?_
  have h1 := (NT.vp_pos hp.1 hx.pos).mp (Nat.dvd_trans d (Nat.gcd_dvd_left _ _))
  have h2 := (NT.vp_pos hp.1 hy.pos).mp (Nat.dvd_trans d (Nat.gcd_dvd_right _ _))
  rw [hx.vp hp] at h1
  rw [hy.vp hp] at h2
  unfold brb at h1 h2
  cases ha : ob a p <;> cases hb : ob b p <;> cases hc : ob c p <;> simp [ha, hb, hc] at h1 h2
theorem bars_sq {a b c : Nat} (ha : 0 < a) (hb : 0 < b) {x y : List Nat} (hx : Bars a b c x) (hy : Bars b a c y) : ∃ r : Nat, x.prod * a * (y.prod * b) = r * r := by
  refine NT.square_of_vp _ (Nat.mul_pos (Nat.mul_pos hx.pos ha) (Nat.mul_pos hy.pos hb)) fun p hp => ?_
  rw [NT.vp_mul hp (Nat.mul_pos hx.pos ha) (Nat.mul_pos hy.pos hb), NT.vp_mul hp hx.pos ha, NT.vp_mul hp hy.pos hb, hx.vp hp, hy.vp hp]
  unfold brb
  cases h1 : ob a p <;> cases h2 : ob b p <;> cases h3 : ob c p <;> simp only [ob, decide_eq_true_eq, decide_eq_false_iff_not] at h1 h2 h3 <;> simp <;> omega
theorem Bars.le {v u : List Int} {c : Nat} (hv : Wt v) (hu : Wt u) {bs : List Nat} (h : Bars (nP v) (nP u) c bs) : bs.prod < 2 ^ 200 := by
  have := Nat.le_of_dvd (Nat.mul_pos hv.pos hu.pos) (h.dvd hv.pos hu.pos)
  have h2 := Nat.mul_le_mul hv.le30 hu.le30
  have h3 : 10 ^ 30 * 10 ^ 30 < 2 ^ 200 := by decide
  omega
theorem sgn_mul {n : Int} : sgn n * n = (n.natAbs : Int) := by
  unfold sgn
  split <;> omega
theorem sgn_abs {n : Int} : (sgn n).natAbs = 1 := by
  unfold sgn
  split <;> rfl
/-- one pair of places -/
structure Two (A n B m : Int) : Prop where
  pos : 0 < A * n
  cop : Nat.gcd A.natAbs B.natAbs = 1
  sq : ∃ r : Int, 0 ≤ r ∧ A * n * (B * m) = r * r
theorem two_of {u v : List Int} (hu : Wt u) (hv : Wt v) {c : Nat} {x y : List Nat} (hx : Bars (nP u) (nP v) c x) (hy : Bars (nP v) (nP u) c y) : Two (sgn (prodL u) * prodL (nI x)) (prodL u) (sgn (prodL v) * prodL (nI y)) (prodL v) := by
  have e : ∀ (w : List Int) (z : List Nat), sgn (prodL w) * prodL (nI z) * prodL w = ((z.prod * nP w : Nat) : Int) := fun w z => by
    rw [prodL_nI, Int.natCast_mul]
    have : sgn (prodL w) * ((z.prod : Nat) : Int) * prodL w = ((z.prod : Nat) : Int) * (sgn (prodL w) * prodL w) := by grind
    rw [this, sgn_mul]
  refine ⟨?_, ?_, ?_⟩
  · rw [e]
    have := Nat.mul_pos hx.pos hu.pos
    omega
  · rw [Int.natAbs_mul, Int.natAbs_mul, sgn_abs, sgn_abs, Nat.one_mul, Nat.one_mul, prodL_nI, prodL_nI]
    exact bars_cop hx hy
  · obtain ⟨r, hr⟩ := bars_sq hu.pos hv.pos hx hy
    refine ⟨r, by omega, ?_⟩
    rw [e, e, ← Int.natCast_mul, hr, Int.natCast_mul]
/-- the last test: divided by all primes once -/
theorem last_one {bs : List Nat} (nd : bs.Nodup) (hp : ∀ p, p ∈ bs → NT.Pr p) {left : Nat} (h0 : 0 < left) (hd : left ∣ bs.prod) (h : ∀ p, p ∈ bs → ¬ p ∣ left) : left = 1 := by
  refine NT.eq_one h0 fun q hq d => ?_
  have d2 := Nat.dvd_trans d hd
  have := (NT.vp_pos hq.1 (NT.prod_pos bs hp)).mp d2
  rw [NT.vp_prod hq bs nd hp] at this
  by_cases z : q ∈ bs
  · exact h q z d
  · rw [if_neg z] at this; omega
theorem step_one {bs : List Nat} (nd : bs.Nodup) (hp : ∀ p, p ∈ bs → NT.Pr p) {left p : Nat} (h0 : 0 < left) (hd : left ∣ bs.prod) (hpr : NT.Pr p) (h : p ∣ left) : 0 < left / p ∧ left / p ∣ bs.prod ∧ ¬ p ∣ left / p ∧ left / p ∣ left := by
  obtain ⟨c, rfl⟩ := h
  have c0 : 0 < c := Nat.pos_of_ne_zero (by rintro rfl; simp at h0)
  rw [Nat.mul_div_cancel_left c hpr.pos]
  refine ⟨c0, Nat.dvd_trans (Nat.dvd_mul_left c p) hd, fun z => ?_, Nat.dvd_mul_left c p⟩
  have h1 := NT.vp_le hpr (NT.prod_pos bs hp) hd
  rw [NT.vp_step hpr.1 c0, NT.vp_prod hpr bs nd hp] at h1
  have h2 := (NT.vp_pos hpr.1 c0).mp z
  split at h1 <;> omega
theorem nP_app {u v : List Int} : nP (u ++ v) = nP u * nP v := by
  have key : ∀ (ns : List Int) (a : Int), ns.foldl (· * ·) a = a * ns.foldl (· * ·) 1 := by
    intro ns
    induction ns with
    | nil => intro a; simp
    | cons n ns ih => intro a; rw [List.foldl_cons, List.foldl_cons, ih, ih (1 * n)]; grind
  show (prodL _).natAbs = (prodL u).natAbs * (prodL v).natAbs
  rw [← Int.natAbs_mul]
  congr 1
  unfold prodL
  rw [List.foldl_append, key]
theorem mem_prod_dvd {p : Nat} : ∀ {ps : List Nat}, p ∈ ps → p ∣ ps.prod
  | [], h => by simp at h
  | q :: ps, h => by
    rw [List.prod_cons]
    rcases List.mem_cons.mp h with e | e
    · rw [e]; exact Nat.dvd_mul_right _ _
    · exact Nat.dvd_mul_left_of_dvd (mem_prod_dvd e) _
theorem prod_dvd_mem {q : Nat} (hq : NT.Pr q) : ∀ {ps : List Nat}, (∀ p, p ∈ ps → NT.Pr p) → q ∣ ps.prod → q ∈ ps
  | [], _, h => absurd (by simpa using h) hq.one
  | p :: ps, hp, h => by
    rw [List.prod_cons] at h
    rcases hq.dvd_mul h with z | z
    · rw [hq.eq (hp p (by simp)) z]; simp
    · exact List.mem_cons_of_mem _ (prod_dvd_mem hq (fun r hr => hp r (by simp [hr])) z)

end
section
variable {P : Program} {w : World} {K : PySem.W.Frag} {mg : Str → Option Value} {base : Heap} {a : Adr}
def NV.rest0 (x : NV) : Int := -x.A2 * x.A1
def NV.rest1 (x : NV) : Int := -x.A0 * x.A2
def NV.rest2 (x : NV) : Int := -x.A1 * x.A0
def offB (p : Nat) (B : List Nat) (r : Int) : Prop := 2 < p ∧ p ∈ B ∧ NT.sq p r = false
def NV.Bad (x : NV) (p : Nat) : Prop := (p = 0 ∧ x.s0 = x.s1 ∧ x.s1 = x.s2) ∨ (p = 2 ∧ twoB x.A0 x.A1 x.A2 = true) ∨ offB p x.B0 x.rest0 ∨ offB p x.B1 x.rest1 ∨ offB p x.B2 x.rest2
def NV.upTo (x : NV) (i p : Nat) : Prop := ((p = 0 ∧ x.s0 = x.s1 ∧ x.s1 = x.s2) ∨ (p = 2 ∧ twoB x.A0 x.A1 x.A2 = true)) ∨ (0 < i ∧ offB p x.B0 x.rest0) ∨ (1 < i ∧ offB p x.B1 x.rest1) ∨ (2 < i ∧ offB p x.B2 x.rest2)
theorem odd_prod {B : List Nat} (hp : ∀ p, p ∈ B → NT.Pr p) (h : 2 ∉ B) : B.prod % 2 = 1 := by
  have h2 : NT.Pr 2 := ⟨by decide, fun d hd => by
    have := Nat.le_of_dvd (by decide) hd
    have : d ≠ 0 := by rintro rfl; exact absurd hd (by decide)
    omega⟩
  refine Classical.byContradiction fun z => ?_
  exact h (prod_dvd_mem h2 hp (Nat.dvd_of_mod_eq_zero (by omega)))
theorem odd_A {s : Int} {B : List Nat} (hs : s = 1 ∨ s = -1) (hp : ∀ p, p ∈ B → NT.Pr p) (h : 2 ∉ B) : (s * prodL (nI B)) % 2 = 1 := by
  have := odd_prod hp h
  rw [prodL_nI]
  rcases hs with e | e <;> rw [e] <;> omega
theorem NV.Fine.one {x : NV} (h : x.Fine) : OneEv x.A0 x.A1 x.A2 := by
  have o0 : 2 ∉ x.B0 → x.A0 % 2 = 1 := odd_A h.ok.s0 h.p0
  have o1 : 2 ∉ x.B1 → x.A1 % 2 = 1 := odd_A h.ok.s1 h.p1
  have o2 : 2 ∉ x.B2 → x.A2 % 2 = 1 := odd_A h.ok.s2 h.p2
  refine ⟨?_, ?_, ?_⟩
  · by_cases z : 2 ∈ x.B0
    · exact .inr (o1 (h.d01 2 z))
    · exact .inl (o0 z)
  · by_cases z : 2 ∈ x.B0
    · exact .inr (o2 (h.d02 2 z))
    · exact .inl (o0 z)
  · by_cases z : 2 ∈ x.B1
    · exact .inr (o2 (h.d12 2 z))
    · exact .inl (o1 z)
theorem mems_one {a b c : Int} {ms : List Int} (h : Mems [a, b, c] ms) : ((ms.length : Int) = 1) ↔ a = b ∧ b = c := by
  constructor
  · intro hl
    have hl : ms.length = 1 := by omega
    obtain ⟨m, rfl⟩ := List.length_eq_one_iff.mp hl
    have ha := (h.2 a).mpr (by simp)
    have hb := (h.2 b).mpr (by simp)
    have hc := (h.2 c).mpr (by simp)
    simp at ha hb hc
    exact ⟨by rw [ha, hb], by rw [hb, hc]⟩
  · rintro ⟨rfl, rfl⟩
    have h1 := h.1.length_le_of_subset (l₂ := [a]) fun k hk => by
      have := (h.2 k).mp hk
      simpa using this
    have h2 : a ∈ ms := (h.2 a).mpr (by simp)
    have := List.length_pos_of_mem h2
    simp at h1
    omega
theorem ok_bars_of (C : Ctx K mg a) : FnAt P w K mg base CX0 4 "bars_of" ["shape"] (SpP K (fun x : NV => [nmD a.Normal x]) NV.Fine (fun x d => ∃ L : List Nat, d = lI L ∧ L.Pairwise (· < ·) ∧ ∀ p, p ∈ L ↔ x.Bad p)) := by
  refine fn_at C.d_bars_of sc_bars_of (fun _ => rfl) fun f cdv A outer s H E hr => ⟨_, (pss_cons (ps_set (i := 1) sc_bars_of.nd rfl (by first | exact Or.inl rfl | exact Or.inr rfl) (pe_mth0 (ok_Normal_all_weights C) C.k_Normal.cl (hr.mono (by omega)) (pv 0)))
    (pss_cons (ps_set (i := 2) sc_bars_of.nd rfl (by first | exact Or.inl rfl | exact Or.inr rfl) (pe_ifExp (pt_cmpR (op_gEq (K := K) (by exact hr.units)) (pe_lenSet (K := K) rfl C.B.len C.B.set rfl rfl (pe_at (K := K) (pv 0))) pe_int (nomark _)) (pe_lst (pa_cons pe_int pa_nil)) (pe_lst pa_nil)))
    (pss_cons (ps_if (pt_val (pe_fn (ok_two_bars C) (hr.mono (by omega)) rfl (pa_cons (pv 1) pa_nil)))
    (pss_one (ps_expr (pe_bm PySem.F.plainAttrs_list PySem.F.slot_list_append PySem.F.type_list_append mt_append (pv 2) (pa_cons pe_int pa_nil))))
    pss_nil)
    (pss_cons (ps_for PassesOwn.never rfl (pi_range1 rfl C.B.range (pa_cons pe_int pa_nil)) (pg_name (i := 3) sc_bars_of.nd rfl (by first | exact Or.inl rfl | exact Or.inr rfl))
    (pss_cons (ps_set (i := 4) sc_bars_of.nd rfl (by first | exact Or.inl rfl | exact Or.inr rfl) (pe_op (op_gMul (K := K)) (pe_un un_neg (pe_ix (ix_any (K := K)) (pv 1) (pe_op op_gSub (pv 3) pe_int) (fun _ _ => rfl))) (pe_ix (ix_any (K := K)) (pv 1) (pe_op op_gSub (pv 3) pe_int) (fun _ _ => rfl))))
    (pss_one (ps_aug (i := 2) sc_bars_of.nd rfl (by first | exact Or.inl rfl | exact Or.inr rfl) (pe_lc (own := [("prime", 5)]) (g := (gName 5)) (tt := _) rfl sc_bars_of.nd (pi_seq (K := K) (pe_ix (ix_any (K := K)) (pe_at (K := K) (pv 0)) (pv 3) (fun _ _ => rfl))) (blkOk_by (N := n_bars_of) (sc := defScope s_bars_of) (by decide +kernel)) (fun _ _ _ _ _ => (pg_name (i := 5) sc_bars_of.nd rfl (by first | exact Or.inl rfl | exact Or.inr rfl))) (fun _ _ _ _ _ => (pts_one (PW.pt (pw_and (pt_cmpR op_gGt (pv 5) pe_int (nomark _)) (pw_and1 (pt_not (pt_val (pe_fn (ok_is_square C) (hr.mono (by omega)) rfl (pa_cons (pv 4) (pa_cons (pv 5) pa_nil)))))))))) (fun _ _ _ _ _ => (pv 5))) ip_ext))))
    (pss_one (ps_ret (pe_sortedI (K := K) C.B.sorted rfl (pa_cons (pv 2) pa_nil)))))))), fun x e hp he => ?_⟩
  have hp : x.Fine := hp
  dsimp only [cxOf]
  refine r_seq (r_asg ?_)
  refine ev_mth ?_
  walk_at "d"
  refine ⟨_, _, rfl, by decide, ?_⟩
  walk_at "d"
  refine ⟨x, rfl, hp.ok, fun d ed => ?_⟩
  subst ed
  -- the signs
  have one := hp.one
  generalize hR : ([some (.v (nmD a.Normal x)), some (.v (.tup (D.ints [x.A0, x.A1, x.A2])))] : Rho) = R at *
  refine r_seq (r_via (fun ρ' M' => ∃ fl : List Nat, ρ' = [some (.v (nmD a.Normal x)), some (.v (.tup (D.ints [x.A0, x.A1, x.A2]))), some (.l 0), none, none, none] ∧ M' = [.lst (D.ints (nI fl))] ∧ fl.Nodup ∧ fl.length ≤ 1 ∧ ∀ p, p ∈ fl ↔ p = 0 ∧ x.s0 = x.s1 ∧ x.s1 = x.s2) (r_asgN (en_if ?_)) ?_)
  · refine et_test (ev_op (ev_lenSet ?_))
    refine ev_at ?_
    walk_at "d"
    refine ⟨_, _, _, rfl, C.k_Normal.cl, C.n_Normal_signs, _, _, rfl, rfl, ?_⟩
    refine ⟨[x.s0, x.s1, x.s2], .v, le_lit rfl, fun ms hm => ?_⟩
    walk_at "d"
    have hone := mems_one hm
    refine ite_dec (fun hb => ?_) (fun hb => ?_)
    · refine en_newL ?_
      walk_at "d"
      exact ⟨[0], rfl, rfl, by simp, by simp, fun p => by simp; exact fun _ => hone.mp hb⟩
    · refine en_newL ?_
      walk_at "d"
      exact ⟨[], rfl, rfl, by simp, by simp, fun p => by simp; exact fun _ h1 h2 => hb (hone.mpr ⟨h1, h2⟩)⟩
  rintro ρ' M' ⟨fl, rfl, rfl, nd, hl, hm⟩
  -- the two
  refine r_seq (r_via (fun ρ' M' => ∃ fl : List Nat, ρ' = [some (.v (nmD a.Normal x)), some (.v (.tup (D.ints [x.A0, x.A1, x.A2]))), some (.l 0), none, none, none] ∧ M' = [.lst (D.ints (nI fl))] ∧ fl.Nodup ∧ fl.length ≤ 2 ∧ ∀ p, p ∈ fl ↔ x.upTo 0 p) ?_ ?_)
  · refine r_if ?_
    walk_at "d"
    refine ⟨(x.A0, x.A1, x.A2), rfl, one, fun d ed => ?_⟩
    subst ed
    refine ⟨_, rfl, ?_⟩
    refine ite_b (fun hb => ?_) (fun hb => ?_)
    · walk_at "d"
      refine ⟨_, rfl, by simp [D.ints, nI]; omega, fl ++ [2], rfl, by simp [D.ints, nI], ?_, by simp; omega, fun p => ?_⟩
      · refine List.nodup_append.mpr ⟨nd, by simp, fun u hu v hv => ?_⟩
        simp at hv; subst hv
        have := ((hm u).mp hu).1
        omega
      · rw [List.mem_append, hm]
        have hb : twoB x.A0 x.A1 x.A2 = true := hb
        simp [NV.upTo, hb]
    · walk_at "n"
      refine ⟨fl, rfl, rfl, nd, by omega, fun p => ?_⟩
      have hb : twoB x.A0 x.A1 x.A2 = false := hb
      rw [hm]
      simp [NV.upTo, hb]
  rintro ρ' M' ⟨fl, rfl, rfl, nd, hl, hm⟩
  walk_at "d"
  refine r_for [3] ?_
  refine ei_range1 ?_
  walk_at "d"
  refine ⟨3, rfl, by decide, by decide, fun i ρ M => ∃ (fl : List Nat) (o3 o4 o5 : Option Sl), ρ = [some (.v (nmD a.Normal x)), some (.v (.tup (D.ints [x.A0, x.A1, x.A2]))), some (.l 0), o3, o4, o5] ∧ M = [.lst (D.ints (nI fl))] ∧ fl.Nodup ∧ fl.length ≤ 2 + i * 1000 ∧ ∀ p, p ∈ fl ↔ x.upTo i p,
    ⟨fl, none, none, none, rfl, rfl, nd, by omega, hm⟩, ?_, ?_⟩
  · rintro i d ρ M hi ⟨fl, o3, o4, o5, rfl, rfl, nd, hl, hm⟩
    obtain ⟨hil, rfl⟩ := rangeD_get hi
    rw [Int.zero_add]
    obtain ⟨B, u, v, hB, hu, hv, ub, vb, sB, bnd, bpr, hup, hdis⟩ : ∃ (B : List Nat) (u v : Int), atI [lI x.B0, lI x.B1, lI x.B2] (i : Int) = some (lI B) ∧ atI (D.ints [x.A0, x.A1, x.A2]) ((i : Int) - 1) = some (.int u) ∧ atI (D.ints [x.A0, x.A1, x.A2]) ((i : Int) - 2) = some (.int v) ∧ u.natAbs < 2 ^ 200 ∧ v.natAbs < 2 ^ 200 ∧ SmallB B ∧ B.Nodup ∧ (∀ p, p ∈ B → NT.Pr p) ∧ (∀ p, x.upTo (i + 1) p ↔ x.upTo i p ∨ offB p B (-u * v)) ∧ ∀ p, x.upTo i p → ¬ offB p B (-u * v) := by
      have h3 : i = 0 ∨ i = 1 ∨ i = 2 := by have hil : i < 3 := hil; omega
      rcases h3 with rfl | rfl | rfl
      · refine ⟨x.B0, x.A2, x.A1, rfl, rfl, rfl, hp.a2, hp.a1, hp.ok.b0, hp.n0, hp.p0, fun p => ?_, fun p => ?_⟩
        · simp [NV.upTo, NV.rest0]
        · simp only [NV.upTo, offB]; rintro ((h | h) | h | h | h) h' <;> omega
      · refine ⟨x.B1, x.A0, x.A2, rfl, rfl, rfl, hp.a0, hp.a2, hp.ok.b1, hp.n1, hp.p1, fun p => ?_, fun p => ?_⟩
        · simp [NV.upTo, NV.rest1]; grind
        · have := hp.d01 p
          simp only [NV.upTo, offB]; rintro ((h | h) | h | h | h) h'
          · omega
          · omega
          · exact this h.2.2.1 h'.2.1
          · omega
          · omega
      · refine ⟨x.B2, x.A1, x.A0, rfl, rfl, rfl, hp.a1, hp.a0, hp.ok.b2, hp.n2, hp.p2, fun p => ?_, fun p => ?_⟩
        · simp [NV.upTo, NV.rest2]; grind
        · have := hp.d02 p
          have t := hp.d12 p
          simp only [NV.upTo, offB]; rintro ((h | h) | h | h | h) h'
          · omega
          · omega
          · exact this h.2.2.1 h'.2.1
          · exact t h.2.2.1 h'.2.1
          · omega
    walk_at "d"
    refine r_asg ?_
    walk_at "d"
    refine ⟨_, hu, ?_⟩
    walk_at "d"
    refine ⟨_, hv, ?_⟩
    have unb : (-u).natAbs < 2 ^ 200 := by omega
    walk_at "d"
    refine ⟨mulW unb vb (by decide), ?_⟩
    have hil2 : i < 3 := hil
    refine r_augL (k := 0) rfl rfl ?_
    refine ev_cut (nI B) (fun n => decide (n > 2) && !NT.sq n.toNat (-u * v)) (ei_seqL ?_)
    refine ev_op (ev_at ?_)
    walk_at "d"
    refine ⟨_, _, _, rfl, C.k_Normal.cl, C.n_Normal_bare, _, _, rfl, rfl, ?_⟩
    walk_at "d"
    refine ⟨_, hB, ?_⟩
    refine ⟨_, rfl, rfl, by have := sB.len; simp; omega, fun n hn => ?_, ?_⟩
    · obtain ⟨p, hpB, rfl⟩ := List.mem_map.mp hn
      have hpr := bpr p hpB
      have p6 := sB.le p hpB
      have h2 := hpr.1
      walk_at "d"
      refine ite_dec (fun h => ?_) (fun h => ?_)
      · walk_at "d"
        refine ⟨(-u * v, p), rfl, ⟨h2, by omega⟩, fun d ed => ?_⟩
        subst ed
        refine ⟨_, rfl, ?_⟩
        refine ⟨by simp; omega, fun hb => ?_⟩
        walk_at "d"
        exact rfl
      · refine ⟨by simp; omega, fun hb => ?_⟩
        cases hb
    · have ef : (nI B).filter (fun n => decide (n > 2) && !NT.sq n.toNat (-u * v)) = nI (B.filter fun p => decide (2 < p) && !NT.sq p (-u * v)) := by
        rw [nI, List.filter_map]
        congr 1
        apply List.filter_congr
        intro p _
        show (decide ((p : Int) > 2) && !NT.sq ((p : Int).toNat) (-u * v)) = (decide (2 < p) && !NT.sq p (-u * v))
        rw [Int.toNat_natCast]
        congr 1
        exact decide_eq_decide.mpr (by omega)
      rw [ef]
      refine ⟨_, rfl, by
        have := List.length_filter_le (fun p => decide (2 < p) && !NT.sq p (-u * v)) B
        have h5 := sB.len
        simp only [D.ints, nI, List.length_map]
        exact Nat.le_trans (Nat.add_le_add_left this _) (by omega), ?_⟩
      have em : ∀ p, p ∈ B.filter (fun p => decide (2 < p) && !NT.sq p (-u * v)) ↔ offB p B (-u * v) := fun p => by
        rw [List.mem_filter]
        simp only [offB, Bool.and_eq_true, decide_eq_true_eq, Bool.not_eq_true']
        grind
      refine ⟨fl ++ B.filter fun p => decide (2 < p) && !NT.sq p (-u * v), _, _, _, rfl, by simp [D.ints, nI], ?_, ?_, fun p => ?_⟩
      · refine List.nodup_append.mpr ⟨nd, bnd.filter _, fun p h1 q h2 e => ?_⟩
        subst e
        exact hdis p ((hm p).mp h1) ((em p).mp h2)
      · have := List.length_filter_le (fun p => decide (2 < p) && !NT.sq p (-u * v)) B
        have := sB.len
        rw [List.length_append]; omega
      · rw [List.mem_append, hm, em, hup]
  · rintro ρ M ⟨fl, o3, o4, o5, rfl, rfl, nd, hl, hm⟩
    walk_at "d"
    refine ec_sortedI (.l rfl) fun ns' pm srt => ?_
    have h0 : ∀ k, k ∈ ns' → 0 ≤ k := fun k hk => by
      obtain ⟨q, _, e⟩ := List.mem_map.mp (pm.mem_iff.mp hk)
      omega
    have nd' : ns'.Nodup := pm.nodup_iff.mpr (by
      rw [nI, List.Nodup, List.pairwise_map]
      exact nd.imp fun h e => h (by omega))
    have asc : ns'.Pairwise (· < ·) := by
      have := srt.and nd'
      exact this.imp fun h => by have := h.1; have := h.2; omega
    obtain ⟨L, rfl, Lasc⟩ := asc_nat h0 asc
    refine ret_v ⟨L, rfl, Lasc, fun p => ?_⟩
    rw [← nI_mem, pm.mem_iff, nI_mem, hm]
    have hl3 : (rangeD 0 (Int.toNat 3)).length = 3 := by rw [rangeD_len]; rfl
    rw [hl3]
    simp only [NV.upTo, NV.Bad]
    simp only [show (0 < 3) = True by simp, show (1 < 3) = True by simp, show (2 < 3) = True by simp, true_and, or_assoc]

end
section
variable {P : Program} {w : World} {K : PySem.W.Frag} {mg : Str → Option Value} {base : Heap} {a : Adr}
/-! ### the places that bar a form of three -/
structure NmOf (v0 v1 v2 : List Int) (x : NV) : Prop where
  nm : Nm v0 v1 v2 x.B0 x.B1 x.B2 x.u0 x.u1 x.u2 x.r0 x.r1 x.r2
  s0 : x.s0 = sgn (prodL v0)
  s1 : x.s1 = sgn (prodL v1)
  s2 : x.s2 = sgn (prodL v2)
theorem bars_dis {a b c : Nat} {x y : List Nat} (hx : Bars a b c x) (hy : Bars b a c y) : ∀ p, p ∈ x → p ∉ y := fun p h1 h2 => by
  have q1 := ((hx.mem p).mp h1).2
  have q2 := ((hy.mem p).mp h2).2
  unfold brb at q1 q2
  cases ha : ob a p <;> cases hb : ob b p <;> cases hc : ob c p <;> simp [ha, hb, hc] at q1 q2
theorem NmOf.fine {v0 v1 v2 : List Int} (w0 : Wt v0) (w1 : Wt v1) (w2 : Wt v2) {x : NV} (ok : x.Ok) (h : NmOf v0 v1 v2 x) : x.Fine := by
  have b0 := h.nm.b0
  have b1 := h.nm.b1
  have b2 := h.nm.b2
  have bit : ∀ {s : Int} {B : List Nat} {A : Int}, (s = 1 ∨ s = -1) → A = s * prodL (nI B) → B.prod < 2 ^ 200 → A.natAbs < 2 ^ 200 := fun {s B A} hs e hb => by
    rw [e, prodL_nI, Int.natAbs_mul]
    rcases hs with h | h <;> rw [h] <;> simpa using hb
  exact ⟨ok, bit ok.s0 rfl (b0.le w0 w1), bit ok.s1 rfl (b1.le w1 w0), bit ok.s2 rfl (b2.le w2 w0), NT.asc_nodup b0.asc, NT.asc_nodup b1.asc, NT.asc_nodup b2.asc, b0.pr, b1.pr, b2.pr, bars_dis b0 b1, bars_dis b0.swap b2, bars_dis b1.swap b2.swap⟩
/-- L are the places that bar three weights -/
def BadL (v0 v1 v2 : List Int) (L : List Nat) : Prop := ∃ x : NV, x.Fine ∧ NmOf v0 v1 v2 x ∧ L.Pairwise (· < ·) ∧ ∀ p, p ∈ L ↔ x.Bad p
theorem ok_four_no (C : Ctx K mg a) : FnAt P w K mg base CX0 1 "four_bars" ["rows"] (SpP K (fun _ : Unit => [.non]) (fun _ => False) (fun _ _ => True)) := fn_never C.d_four_bars fun _ h => h
theorem ok_bad_places (C : Ctx K mg a) : FnAt P w K mg base CX0 6 "bad_places" ["form"] (SpP K (fun x : List Int × List Int × List Int => [fm a.Form [x.1, x.2.1, x.2.2]]) (fun x => Wt x.1 ∧ Wt x.2.1 ∧ Wt x.2.2) (fun v d => ∃ L, d = lI L ∧ BadL v.1 v.2.1 v.2.2 L)) := by
  refine fn_at C.d_bad_places sc_bad_places (fun _ => rfl) fun f cdv A outer s H E hr => ⟨_, (pss_one (ps_ret (pe_ifExp (pt_cmpR (op_gEq (K := K) (by exact hr.units)) (pe_len (K := K) C.B.len rfl (pa_cons (pe_at (K := K) (pv 0)) pa_nil)) pe_int (nomark _)) (pe_fn (ok_bars_of C) (hr.mono (by omega)) rfl (pa_cons (pe_new (ok_Normal C) (hr.mono (by omega)) rfl (pa_cons (pe_at (K := K) (pv 0)) pa_nil)) pa_nil)) (pe_fn (ok_four_no C) (hr.mono (by omega)) rfl (pa_cons (pe_at (K := K) (pv 0)) pa_nil))))), fun x e hp he => ?_⟩
  obtain ⟨v0, v1, v2⟩ := x
  obtain ⟨w0, w1, w2⟩ := hp
  dsimp only [cxOf]
  refine r_ret ?_
  refine ev_if ?_
  refine et_test (ev_op (ev_cb (ea_cons (ev_at ?_))))
  walk_at "d"
  refine ⟨_, _, _, rfl, C.k_Form.cl, C.n_Form_rows, _, _, rfl, rfl, ?_⟩
  walk_at "d"
  refine iteT ?_
  walk_at "d"
  refine ec_new ?_
  refine ea_cons (ev_at ?_)
  walk_at "d"
  refine ⟨_, _, _, rfl, C.k_Form.cl, C.n_Form_rows, _, _, rfl, rfl, ?_⟩
  walk_at "d"
  refine ⟨(v0, v1, v2), rfl, ⟨w0, w1, w2⟩, fun ds hds => ?_⟩
  obtain ⟨x, ex, hx, nm, s0, s1, s2⟩ := NmD.nv (C := a.Normal) w0 w1 w2 hds
  rw [ex]
  have no : NmOf v0 v1 v2 x := ⟨nm, s0, s1, s2⟩
  have fi := no.fine w0 w1 w2 hx
  walk_at "d"
  refine ⟨x, rfl, fi, ?_⟩
  rintro _ ⟨L, rfl, asc, hL⟩
  exact ret_v ⟨L, rfl, x, fi, no, asc, hL⟩
theorem eqv_nil (L : List Nat) : (lI L).eqv (.lst []) = decide (L = []) := by
  cases L with
  | nil => rfl
  | cons p L => rfl
theorem frm3 {v0 v1 v2 : List Int} (w0 : Wt v0) (w1 : Wt v1) (w2 : Wt v2) : Frm [v0, v1, v2] := ⟨.inl rfl, fun n hn => by
  simp only [List.mem_cons, List.not_mem_nil, or_false] at hn
  rcases hn with rfl | rfl | rfl <;> assumption⟩
theorem ec_form3 {ta : TA} {X : XK} {ρ : Rho} {M : List MO} {Q : Sl → Prop} {C : Addr} (h : EvA K ta ρ M fun ss => ∃ v0 v1 v2, ss = [.v (.tup [wt v0, wt v1, wt v2])] ∧ (Wt v0 ∧ Wt v1 ∧ Wt v2) ∧ Q (.v (fm C [v0, v1, v2]))) :
    EvP K (tMake C (SpI K C (fun ws : List (List Int) => [.tup (ws.map wt)]) Frm ["rows", "sums"] (fun ws ds => ds = [.tup (ws.map wt), .tup (D.ints (ws.map prodL))])) [] X ta) ρ M Q := by
  refine ec_new fun σ α F H en S k kk => h σ α F H en S k fun vs F' H' ss m S' o ⟨v0, v1, v2, e, ⟨w0, w1, w2⟩, q⟩ => kk vs F' H' ss m S' o ⟨[v0, v1, v2], e, frm3 w0 w1 w2, fun ds hd => ?_⟩
  subst hd
  exact q
theorem Wt.take2 {v : List Int} (h : Wt v) : Wt (v.take 2) := ⟨by have := h.lo; rw [List.length_take]; omega, by have := h.hi; rw [List.length_take]; omega, fun n hn => h.p n (List.mem_of_mem_take hn)⟩
theorem ints_inj : ∀ {v u : List Int}, D.ints v = D.ints u → v = u
  | [], [], _ => rfl
  | [], _ :: _, h => by cases h
  | _ :: _, [], h => by cases h
  | n :: v, m :: u, h => by
    have h := List.cons.inj h
    rw [ints_inj h.2, V.int.inj (D.raw.inj h.1)]
theorem wt_inj {v u : List Int} (h : wt v = wt u) : v = u := ints_inj (D.tup.inj h)
theorem cut2 {v : List Int} : cutD (D.ints v) none (some 2) = D.ints (v.take 2) := by
  unfold cutD HT.sIx
  simp only [show ¬ (2 : Int) < 0 by decide, if_false, List.drop_zero, Nat.sub_zero]
  rw [D.ints, D.ints, List.map_take, List.length_map]
  show List.take (min 2 v.length) _ = _
  by_cases h : 2 ≤ v.length
  · rw [Nat.min_eq_left h]
  · rw [Nat.min_eq_right (by omega), List.take_of_length_le (by simp), List.take_of_length_le (by simp; omega)]

end
section
variable {P : Program} {w : World} {K : PySem.W.Frag} {mg : Str → Option Value} {base : Heap} {a : Adr}
/-! ### the places that bar four weights -/
abbrev keysN (ps : List Nat) : List Key := ps.map fun p : Nat => (Sum.inl (p : Int) : Key)
theorem keysN_mem {ps : List Nat} {p : Nat} : (Sum.inl (p : Int) : Key) ∈ keysN ps ↔ p ∈ ps := by
  constructor
  · intro h
    obtain ⟨q, hq, e⟩ := List.mem_map.mp h
    have : q = p := by have := Sum.inl.inj e; omega
    rw [← this]; exact hq
  · exact fun h => List.mem_map.mpr ⟨p, h, rfl⟩
theorem keys_put {qs : List Nat} {ds : List D} {p : Nat} {d : D} (nd : qs.Nodup) : ∃ qs' : List Nat, (kdPut (keysN qs) ds (.inl (p : Int)) d).1 = keysN qs' ∧ qs'.Nodup ∧ ∀ q, q ∈ qs' ↔ q ∈ qs ∨ q = p := by
  unfold kdPut
  by_cases e : ((keysN qs).any fun j => decide (j = Sum.inl (p : Int))) = true
  · rw [if_pos e]
    have hm : p ∈ qs := keysN_mem.mp (any_mem.mp e)
    refine ⟨qs, rfl, nd, fun q => ⟨.inl, fun h => h.elim id fun z => z ▸ hm⟩⟩
  · rw [if_neg e]
    have hm : p ∉ qs := fun h => e (any_mem.mpr (keysN_mem.mpr h))
    refine ⟨qs ++ [p], by simp [keysN], List.nodup_append.mpr ⟨nd, by simp, fun a ha b hb => by simp at hb; subst hb; exact fun z => hm (z ▸ ha)⟩, fun q => by simp⟩
structure Kn (W : List (List Int)) (qs : List Nat) : Prop where
  nd : qs.Nodup
  le : ∀ p, p ∈ qs → p ≤ 1000000
  mem : ∀ p, p ∈ qs ↔ p = 2 ∨ (NT.Pr p ∧ ∃ v, v ∈ W ∧ p ∣ nP v)
theorem Kn.few {W : List (List Int)} {qs : List Nat} (h : Kn W qs) : qs.length ≤ 1000001 := by
  have := h.nd.length_le_of_subset (l₂ := List.range 1000001) fun p hp => List.mem_range.mpr (by have := h.le p hp; omega)
  rwa [List.length_range] at this
theorem Kn.pr {W : List (List Int)} {qs : List Nat} (h : Kn W qs) {p : Nat} (hp : p ∈ qs) : NT.Pr p := by
  rcases (h.mem p).mp hp with rfl | q
  · exact NT.pr2
  · exact q.1
structure BadF (v0 v1 v2 v3 : List Int) (L : List Nat) : Prop where
  asc : L.Pairwise (· < ·)
  mem : ∀ p, p ∈ L ↔ (p = 0 ∧ sgn (prodL v0) = sgn (prodL v1) ∧ sgn (prodL v0) = sgn (prodL v2) ∧ sgn (prodL v0) = sgn (prodL v3)) ∨ (NT.Pr p ∧ (p = 2 ∨ ∃ v, v ∈ [v0, v1, v2, v3] ∧ p ∣ nP v) ∧ fbar p (prodL v0) (prodL v1) (prodL v2) (prodL v3) = true)
theorem mems_four {a b c d : Int} {ms : List Int} (h : Mems [a, b, c, d] ms) : ((ms.length : Int) = 1) ↔ a = b ∧ a = c ∧ a = d := by
  constructor
  · intro hl
    have hl : ms.length = 1 := by omega
    obtain ⟨m, rfl⟩ := List.length_eq_one_iff.mp hl
    have ha := (h.2 a).mpr (by simp)
    have hb := (h.2 b).mpr (by simp)
    have hc := (h.2 c).mpr (by simp)
    have hd := (h.2 d).mpr (by simp)
    simp at ha hb hc hd
    exact ⟨by rw [ha, hb], by rw [ha, hc], by rw [ha, hd]⟩
  · rintro ⟨rfl, rfl, rfl⟩
    have h1 := h.1.length_le_of_subset (l₂ := [a]) fun k hk => by
      have := (h.2 k).mp hk
      simpa using this
    have h2 : a ∈ ms := (h.2 a).mpr (by simp)
    have := List.length_pos_of_mem h2
    simp at h1
    omega
theorem nI_asc {ns' : List Int} {qs : List Nat} (pm : ns'.Perm (nI qs)) (srt : ns'.Pairwise (· ≤ ·)) (nd : qs.Nodup) : ∃ ps, ns' = nI ps ∧ ps.Pairwise (· < ·) ∧ ∀ p, p ∈ ps ↔ p ∈ qs := by
  have h0 : ∀ k, k ∈ ns' → 0 ≤ k := fun k hk => by
    obtain ⟨q, _, e⟩ := List.mem_map.mp (pm.mem_iff.mp hk)
    omega
  have nd' : ns'.Nodup := pm.nodup_iff.mpr (by
    rw [nI, List.Nodup, List.pairwise_map]
    exact nd.imp fun h e => h (by omega))
  have asc : ns'.Pairwise (· < ·) := by
    have := srt.and nd'
    exact this.imp fun h => by have := h.1; have := h.2; omega
  obtain ⟨L, e, Lasc⟩ := asc_nat h0 asc
  have e : ns' = nI L := e
  subst e
  exact ⟨L, rfl, Lasc, fun p => by rw [← nI_mem, pm.mem_iff, nI_mem]⟩
theorem get_after {M : List MO} {m x y : MO} {k : Nat} (h : (m :: M)[k]? = some y) (hk : k ≠ 0) : ((m :: M).set 0 x)[k]? = some y := by
  rw [List.getElem?_set_ne (Ne.symm hk)]; exact h
theorem ok_four_bars (C : Ctx K mg a) : FnAt P w K mg base CX0 5 "four_bars" ["rows"] (SpP K (fun x : List Int × List Int × List Int × List Int => [.tup [wt x.1, wt x.2.1, wt x.2.2.1, wt x.2.2.2]]) (fun x => Wt x.1 ∧ Wt x.2.1 ∧ Wt x.2.2.1 ∧ Wt x.2.2.2) (fun x d => ∃ L : List Nat, d = lI L ∧ BadF x.1 x.2.1 x.2.2.1 x.2.2.2 L)) := by
  refine fn_at C.d_four_bars sc_four_bars (fun _ => rfl) fun f cdv A outer s H E hr => ⟨_, (pss_cons (ps_set (i := 1) sc_four_bars.nd rfl (by first | exact Or.inl rfl | exact Or.inr rfl) (pe_disp (pps_cons pe_int pe_bl pps_nil) rfl rfl (by simp) (by decide)))
    (pss_cons (ps_for PassesOwn.never rfl (pi_seq (K := K) (pv 0)) (pg_name (i := 2) sc_four_bars.nd rfl (by first | exact Or.inl rfl | exact Or.inr rfl))
    (pss_one (ps_for PassesOwn.never rfl (pi_keysN (pe_fn (ok_primes_of C) (hr.mono (by omega)) rfl (pa_cons (pv 2) pa_nil))) (pg_name (i := 4) sc_four_bars.nd rfl (by first | exact Or.inl rfl | exact Or.inr rfl))
    (pss_one (ps_dput (hu_of hr) (pv 1) (pv 4) pe_bl rfl)))))
    (pss_cons (ps_set (i := 3) sc_four_bars.nd rfl (by first | exact Or.inl rfl | exact Or.inr rfl) (pe_ifExp (pt_cmpR (op_gEq (K := K) (by exact hr.units)) (pe_lenSet (K := K) rfl C.B.len C.B.set rfl rfl (pe_lc (own := [("weight", 2)]) (g := (gName 2)) (tt := tYes) rfl sc_four_bars.nd (pi_seq (K := K) (pv 0)) (blkOk_by (N := n_four_bars) (sc := defScope s_four_bars) (by decide +kernel)) (fun _ _ _ _ _ => (pg_name (i := 2) sc_four_bars.nd rfl (by first | exact Or.inl rfl | exact Or.inr rfl))) (fun _ _ _ _ _ => pts_nil) (fun _ _ _ _ _ => (pe_fn (ok_sign_of C) (hr.mono (by omega)) rfl (pa_cons (pv 2) pa_nil))))) pe_int (nomark _)) (pe_lst (pa_cons pe_int pa_nil)) (pe_lst pa_nil)))
    (pss_one (ps_ret (pe_op (op_gAdd (K := K)) (pv 3) (pe_lc (own := [("prime", 4)]) (g := (gName 4)) (tt := _) rfl sc_four_bars.nd (pi_seq (K := K) (pe_sortedI (K := K) C.B.sorted rfl (pa_cons (pe_listD rfl C.B.list rfl (pa_cons (pv 1) pa_nil)) pa_nil))) (blkOk_by (N := n_four_bars) (sc := defScope s_four_bars) (by decide +kernel)) (fun _ _ _ _ _ => (pg_name (i := 4) sc_four_bars.nd rfl (by first | exact Or.inl rfl | exact Or.inr rfl))) (fun _ _ _ _ _ => (pts_one (pt_val (pe_fn (ok_four_bar C) (hr.mono (by omega)) rfl (pa_cons (pv 0) (pa_cons (pv 4) pa_nil)))))) (fun _ _ _ _ _ => (pv 4))))))))), fun x e hp he => ?_⟩
  obtain ⟨v0, v1, v2, v3⟩ := x
  obtain ⟨w0, w1, w2, w3⟩ := hp
  have w0 : Wt v0 := w0
  have w1 : Wt v1 := w1
  have w2 : Wt v2 := w2
  have w3 : Wt v3 := w3
  have hw4 : ∀ {v : List Int}, v ∈ [v0, v1, v2, v3] → Wt v := fun {v} this => by
    simp only [List.mem_cons, List.not_mem_nil, or_false] at this
    rcases this with rfl | rfl | rfl | rfl <;> assumption
  dsimp only [cxOf]
  refine r_seq (r_asgN (en_disp1 (k := .inl 2) (v := .bl true) ?_))
  refine r_seq ?_
  refine r_for [2] ?_
  refine ei_seqT ?_
  walk_at "d"
  refine ⟨_, rfl, fun i ρ M => ∃ (qs : List Nat) (ds : List D) (rest : List MO) (o2 o3 : Option Sl), ρ = [some (.v (.tup [wt v0, wt v1, wt v2, wt v3])), some (.l 0), o2, none, o3] ∧ M = .dic (keysN qs) ds :: rest ∧ (keysN qs).length = ds.length ∧ Kn ([v0, v1, v2, v3].take i) qs,
    ⟨[2], _, [], none, none, rfl, rfl, rfl, ⟨by simp, fun p hp => by simp at hp; omega, fun p => by simp⟩⟩, ?_, ?_⟩
  · rintro i d ρ M hi ⟨qs, ds, rest, o2, o3, rfl, rfl, hl, kn⟩
    obtain ⟨v, hv, rfl⟩ := map_get (f := wt) (xs := [v0, v1, v2, v3]) hi
    have hw := hw4 (List.mem_of_getElem? hv)
    walk_at "n"
    refine r_forKN [4] (en_callN ?_)
    walk_at "n"
    refine ⟨v, rfl, hw, ?_⟩
    rintro m ⟨ks', ds', rfl, pd⟩
    refine ⟨_, ks', ds', rfl, last_mo, fun d od kvs => ?_⟩
    rw [last_set]
    obtain ⟨ps, rfl, nd', hm, h6⟩ := pd.keys
    have kl : (MO.dic (keysN qs) ds :: rest).length ≠ 0 := by simp
    generalize hkk : (MO.dic (keysN qs) ds :: rest).length = kk at *
    refine ⟨fun j ρ M => ∃ (qs : List Nat) (ds : List D) (rest : List MO) (o3 : Option Sl), ρ = [some (.v (.tup [wt v0, wt v1, wt v2, wt v3])), some (.l 0), some (.v (wt v)), none, o3] ∧ M = .dic (keysN qs) ds :: rest ∧ (keysN qs).length = ds.length ∧ qs.Nodup ∧ (∀ p, p ∈ qs → p ≤ 1000000) ∧ ∀ p, p ∈ qs ↔ (p = 2 ∨ (NT.Pr p ∧ ∃ v, v ∈ [v0, v1, v2, v3].take i ∧ p ∣ nP v)) ∨ p ∈ ps.take j,
      ⟨qs, ds, _, _, rfl, rfl, hl, kn.nd, kn.le, fun p => by rw [kn.mem]; simp⟩, ?_, ?_⟩
    · rintro j key ρ M hj ⟨qs, ds, rest, o3, rfl, rfl, hl, nd, le, mem⟩ hfz
      obtain ⟨p, hpj, rfl⟩ := map_get hj
      have hpm := List.mem_of_getElem? hpj
      walk_at "n"
      refine r_dput (kk := 0) rfl rfl ?_
      walk_at "n"
      have few : qs.length ≤ 1000001 := by
        have := nd.length_le_of_subset (l₂ := List.range 1000001) fun p hp => List.mem_range.mpr (by have := le p hp; omega)
        rwa [List.length_range] at this
      refine ⟨.inl (p : Int), _, rfl, rfl, by simp; omega, ?_⟩
      obtain ⟨qs', e1, nd2, mem2⟩ := keys_put (qs := qs) (ds := ds) (p := p) (d := .bl true) nd
      have hl2 := kdPut_len (ks := keysN qs) (ds := ds) (k := .inl (p : Int)) (d := .bl true) hl
      refine ⟨get_after hfz kl, qs', _, rest, _, rfl, by rw [← e1]; rfl, by rw [← e1]; exact hl2, nd2, fun q hq => ?_, fun q => ?_⟩
      · rcases (mem2 q).mp hq with z | rfl
        · exact le q z
        · exact h6 _ hpm
      · rw [mem2, mem, take_snoc hpj, List.mem_append, List.mem_singleton, or_assoc]
    · rintro ρ M ⟨qs, ds, rest, o3, rfl, rfl, hl, nd, le, mem⟩ _
      refine ⟨qs, ds, rest, _, _, rfl, rfl, hl, nd, le, fun p => ?_⟩
      rw [mem, List.length_map, List.take_length, hm, take_snoc hv]
      constructor
      · rintro ((h | ⟨h, u, hu, hd⟩) | ⟨h, hd⟩)
        · exact .inl h
        · exact .inr ⟨h, u, List.mem_append_left _ hu, hd⟩
        · exact .inr ⟨h, v, List.mem_append_right _ (by simp), hd⟩
      · rintro (h | ⟨h, u, hu, hd⟩)
        · exact .inl (.inl h)
        · rcases List.mem_append.mp hu with z | z
          · exact .inl (.inr ⟨h, u, z, hd⟩)
          · simp at z; subst z
            exact .inr ⟨h, hd⟩
  rintro ρ M ⟨qs, ds, rest, o2, o3, rfl, rfl, hl, kn⟩
  have kn : Kn [v0, v1, v2, v3] qs := kn
  -- the signs
  refine r_seq (r_via (fun ρ' M' => ∃ fl : List Nat, ρ' = [some (.v (.tup [wt v0, wt v1, wt v2, wt v3])), some (.l 0), o2, some (.v (lI fl)), o3] ∧ M' = .dic (keysN qs) ds :: rest ∧ fl.Pairwise (· < ·) ∧ fl.length ≤ 1 ∧ ∀ p, p ∈ fl ↔ p = 0 ∧ sgn (prodL v0) = sgn (prodL v1) ∧ sgn (prodL v0) = sgn (prodL v2) ∧ sgn (prodL v0) = sgn (prodL v3)) (r_asg (ev_if ?_)) ?_)
  · refine et_test (ev_op (ev_lenSet ?_))
    refine ev_lcM (fun d => match d with | .tup ds => .int (sgn (prodL (ds.map fun | .raw (.int i) => i | _ => 0))) | _ => d) (ei_seqT ?_)
    walk_at "d"
    refine ⟨_, rfl, le_lit rfl, fun i d hi => ?_, ?_⟩
    · obtain ⟨v, hv, rfl⟩ := map_get (f := wt) (xs := [v0, v1, v2, v3]) hi
      have hw := hw4 (List.mem_of_getElem? hv)
      walk_at "d"
      refine ⟨v, rfl, hw, fun d ed => ?_⟩
      subst ed
      have : (D.ints v).map (fun | .raw (.int i) => i | _ => (0 : Int)) = v := by simp [D.ints, Function.comp_def]
      show Sl.v (D.int (sgn (prodL v))) = .v (.int (sgn (prodL ((D.ints v).map fun | .raw (.int i) => i | _ => 0))))
      rw [this]
    · have e1 : ([wt v0, wt v1, wt v2, wt v3] : List D).map (fun d => match d with | .tup ds => D.int (sgn (prodL (ds.map fun | .raw (.int i) => i | _ => 0))) | _ => d) = D.ints [sgn (prodL v0), sgn (prodL v1), sgn (prodL v2), sgn (prodL v3)] := by
        have : ∀ v : List Int, (D.ints v).map (fun | .raw (.int i) => i | _ => (0 : Int)) = v := fun v => by simp [D.ints, Function.comp_def]
        show [D.int (sgn (prodL ((D.ints v0).map _))), D.int (sgn (prodL ((D.ints v1).map _))), D.int (sgn (prodL ((D.ints v2).map _))), D.int (sgn (prodL ((D.ints v3).map _)))] = _
        rw [this, this, this, this]; rfl
      rw [e1]
      refine ⟨_, .v, le_lit rfl, fun ms hm => ?_⟩
      walk_at "d"
      have hone := mems_four hm
      refine ite_dec (fun hb => ?_) (fun hb => ?_)
      · walk_at "d"
        exact ⟨[0], rfl, rfl, by simp, by simp, fun p => by simp; exact fun _ => hone.mp hb⟩
      · walk_at "d"
        exact ⟨[], rfl, rfl, by simp, by simp, fun p => by simp; exact fun _ h1 h2 h3 => hb (hone.mpr ⟨h1, h2, h3⟩)⟩
  rintro ρ' M' ⟨fl, rfl, rfl, fasc, fl1, fm⟩
  walk_at "n"
  refine ev_cutE (fun n => fbar n.toNat (prodL v0) (prodL v1) (prodL v2) (prodL v3)) (ei_seqL ?_)
  refine ev_cb (ea_cons (ev_cb (ea_cons ?_)))
  walk_at "n"
  refine ec_listD (k := 0) rfl ?_
  have ek : ((keysN qs).map fun j => D.raw (kV j)) = D.ints (nI qs) := by simp [keysN, D.ints, nI, kV]
  rw [ek]
  walk_at "n"
  refine ec_sortedI .v fun ns' pm srt => ?_
  obtain ⟨ps, rfl, pasc, pmem⟩ := nI_asc pm srt kn.nd
  have plen : ps.length ≤ 1000001 := by
    have := (NT.asc_nodup pasc).length_le_of_subset (l₂ := List.range 1000001) fun p hp => List.mem_range.mpr (by have := kn.le p ((pmem p).mp hp); omega)
    rwa [List.length_range] at this
  refine ⟨_, rfl, nI ps, rfl, by simp; omega, fun n hn => ?_, ?_⟩
  · obtain ⟨p, hpB, rfl⟩ := List.mem_map.mp hn
    have hq := (pmem p).mp hpB
    have h6 := kn.le p hq
    walk_at "d"
    refine ⟨(v0, v1, v2, v3, p), rfl, ⟨⟨w0, w1, w2, w3⟩, kn.pr hq, by show p ≤ 2000000; omega⟩, fun d ed => ?_⟩
    subst ed
    refine ⟨_, rfl, by simp, fun hb => ?_⟩
    walk_at "d"
    exact rfl
  · have ef : (nI ps).filter (fun n => fbar n.toNat (prodL v0) (prodL v1) (prodL v2) (prodL v3)) = nI (ps.filter fun p => fbar p (prodL v0) (prodL v1) (prodL v2) (prodL v3)) := by
      rw [nI, List.filter_map]
      congr 1
    rw [ef]
    have fle := List.length_filter_le (fun p => fbar p (prodL v0) (prodL v1) (prodL v2) (prodL v3)) ps
    refine g_addL .v .v (by simp [D.ints, nI]; omega) ?_
    refine ret_v ⟨fl ++ ps.filter fun p => fbar p (prodL v0) (prodL v1) (prodL v2) (prodL v3), by simp [D.ints, nI], ?_, fun p => ?_⟩
    · refine List.pairwise_append.mpr ⟨fasc, pasc.filter _, fun u hu v hv => ?_⟩
      have e0 := ((fm u).mp hu).1
      have := (kn.pr ((pmem v).mp (List.mem_filter.mp hv).1)).1
      omega
    · rw [List.mem_append, fm, List.mem_filter, pmem, kn.mem]
      constructor
      · rintro (h | ⟨h | ⟨h1, h2⟩, h3⟩)
        · exact .inl h
        · subst h; exact .inr ⟨NT.pr2, .inl rfl, h3⟩
        · exact .inr ⟨h1, .inr h2, h3⟩
      · rintro (h | ⟨h1, h | h2, h3⟩)
        · exact .inl h
        · exact .inr ⟨.inl h, h3⟩
        · exact .inr ⟨.inr ⟨h1, h2⟩, h3⟩
theorem ok_bad_places4 (C : Ctx K mg a) : FnAt P w K mg base CX0 6 "bad_places" ["form"] (SpP K (fun x : List Int × List Int × List Int × List Int => [fm a.Form [x.1, x.2.1, x.2.2.1, x.2.2.2]]) (fun x => Wt x.1 ∧ Wt x.2.1 ∧ Wt x.2.2.1 ∧ Wt x.2.2.2) (fun v d => ∃ L, d = lI L ∧ BadF v.1 v.2.1 v.2.2.1 v.2.2.2 L)) := by
  refine fn_at C.d_bad_places sc_bad_places (fun _ => rfl) fun f cdv A outer s H E hr => ⟨_, (pss_one (ps_ret (pe_ifExp (pt_cmpR (op_gEq (K := K) (by exact hr.units)) (pe_len (K := K) C.B.len rfl (pa_cons (pe_at (K := K) (pv 0)) pa_nil)) pe_int (nomark _)) (pe_fn (ok_bars_of C) (hr.mono (by omega)) rfl (pa_cons (pe_new (ok_Normal C) (hr.mono (by omega)) rfl (pa_cons (pe_at (K := K) (pv 0)) pa_nil)) pa_nil)) (pe_fn (ok_four_bars C) (hr.mono (by omega)) rfl (pa_cons (pe_at (K := K) (pv 0)) pa_nil))))), fun x e hp he => ?_⟩
  obtain ⟨v0, v1, v2, v3⟩ := x
  dsimp only [cxOf]
  refine r_ret ?_
  refine ev_if ?_
  refine et_test (ev_op (ev_cb (ea_cons (ev_at ?_))))
  walk_at "d"
  refine ⟨_, _, _, rfl, C.k_Form.cl, C.n_Form_rows, _, _, rfl, rfl, ?_⟩
  walk_at "d"
  refine iteF ?_
  refine ec_callP (ea_cons (ev_at ?_))
  walk_at "d"
  refine ⟨_, _, _, rfl, C.k_Form.cl, C.n_Form_rows, _, _, rfl, rfl, ?_⟩
  walk_at "d"
  refine ⟨(v0, v1, v2, v3), rfl, hp, ?_⟩
  rintro _ ⟨L, rfl, hL⟩
  exact ret_v ⟨L, rfl, hL⟩
theorem ok_has_answer4 (C : Ctx K mg a) : FnAt P w K mg base CX0 7 "has_answer" ["form"] (SpP K (fun x : List Int × List Int × List Int × List Int => [fm a.Form [x.1, x.2.1, x.2.2.1, x.2.2.2]]) (fun x => Wt x.1 ∧ Wt x.2.1 ∧ Wt x.2.2.1 ∧ Wt x.2.2.2) (fun v d => ∃ L, d = .bl (decide (L = [])) ∧ BadF v.1 v.2.1 v.2.2.1 v.2.2.2 L)) := by
  refine fn_at C.d_has_answer sc_has_answer (fun _ => rfl) fun f cdv A outer s H E hr => ⟨_, (pss_one (ps_ret (pe_cmpR (op_gEq (K := K) (by exact hr.units)) (pe_fn (ok_bad_places4 C) (hr.mono (by omega)) rfl (pa_cons (pv 0) pa_nil)) (pe_lst pa_nil) (nomark _)))), fun x e hp he => ?_⟩
  obtain ⟨v0, v1, v2, v3⟩ := x
  dsimp only [cxOf]
  walk_at "d"
  refine ⟨(v0, v1, v2, v3), rfl, hp, ?_⟩
  rintro _ ⟨L, rfl, bL⟩
  walk_at "d"
  refine g_eqD 5 (pl_lstI (n := 4) (nI L)) rfl (by decide) ?_
  rw [eqv_nil]
  exact ret_v ⟨L, rfl, bL⟩

end
section
variable {P : Program} {w : World} {K : PySem.W.Frag} {mg : Str → Option Value} {base : Heap} {a : Adr}
/-! ### weights that are alike have the same normal weights -/
theorem bars_eq {a b c a' b' c' : Nat} {x y : List Nat} (hx : Bars a b c x) (hy : Bars a' b' c' y) (h : ∀ p, NT.Pr p → brb a b c p = brb a' b' c' p) : x = y :=
  NT.asc_eq hx.asc hy.asc fun p => by
    rw [hx.mem, hy.mem]
    exact ⟨fun ⟨q1, q2⟩ => ⟨q1, by rw [← h p q1]; exact q2⟩, fun ⟨q1, q2⟩ => ⟨q1, by rw [h p q1]; exact q2⟩⟩
theorem twoB_cyc {x y z : Int} (h : OneEv x y z) : twoB y z x = twoB x y z := by
  obtain ⟨h1, h2, h3⟩ := h
  have e1 : z + x = x + z := Int.add_comm ..
  have e2 : x + z + y = z + x + y := by omega
  have e3 : z + y = y + z := Int.add_comm ..
  have e4 : y + x = x + y := Int.add_comm ..
  unfold twoB
  by_cases hx : x % 2 = 0
  · have hy : ¬ y % 2 = 0 := by omega
    have hz : ¬ z % 2 = 0 := by omega
    simp only [hx, hy, hz, if_true, if_false]
  · by_cases hy : y % 2 = 0
    · have hz : ¬ z % 2 = 0 := by omega
      simp only [hx, hy, hz, if_true, if_false, e1]
    · by_cases hz : z % 2 = 0
      · simp only [hx, hy, hz, if_true, if_false, e4, e1]
      · simp only [hx, hy, hz, if_false, e1, e3, e4]
        cases decide ((x + z) % 4 = 0) <;> cases decide ((x + y) % 4 = 0) <;> cases decide ((y + z) % 4 = 0) <;> rfl
theorem twoB_neg (x y z : Int) : twoB (-x) (-y) (-z) = twoB x y z := by
  have e : ∀ a b : Int, ∀ m : Int, (m = 2 ∨ m = 4 ∨ m = 8) → a = -b → (decide (a % m = 0) = decide (b % m = 0)) := fun a b m hm h => decide_eq_decide.mpr (by rcases hm with rfl | rfl | rfl <;> omega)
  have p : ∀ a : Int, ((-a) % 2 = 0) = (a % 2 = 0) := fun a => propext (by omega)
  unfold twoB
  simp only [p]
  rw [e (-y + -z) (y + z) 8 (by simp) (by omega), e (-y + -z + -x) (y + z + x) 8 (by simp) (by omega), e (-x + -z) (x + z) 8 (by simp) (by omega), e (-x + -z + -y) (x + z + y) 8 (by simp) (by omega),
    e (-x + -y) (x + y) 8 (by simp) (by omega), e (-x + -y + -z) (x + y + z) 8 (by simp) (by omega), e (-x + -z) (x + z) 4 (by simp) (by omega), e (-y + -x) (y + x) 4 (by simp) (by omega), e (-z + -y) (z + y) 4 (by simp) (by omega)]
theorem asc_bad {L L' : List Nat} {x y : NV} (h : L.Pairwise (· < ·)) (h' : L'.Pairwise (· < ·)) (m : ∀ p, p ∈ L ↔ x.Bad p) (m' : ∀ p, p ∈ L' ↔ y.Bad p) (e : ∀ p, x.Bad p ↔ y.Bad p) : L = L' :=
  NT.asc_eq h h' fun p => (m p).trans ((e p).trans (m' p).symm)
/-- the next order -/
theorem cyc_eq {v0 v1 v2 : List Int} {x y : NV} (fx : x.Fine) (hx : NmOf v0 v1 v2 x) (hy : NmOf v1 v2 v0 y) : y.A0 = x.A1 ∧ y.A1 = x.A2 ∧ y.A2 = x.A0 ∧ ∀ p, x.Bad p ↔ y.Bad p := by
  have b0 : y.B0 = x.B1 := bars_eq hy.nm.b0 hx.nm.b1 fun p _ => brb_swap _ _ _ p
  have b1 : y.B1 = x.B2 := bars_eq hy.nm.b1 hx.nm.b2 fun p _ => brb_swap _ _ _ p
  have b2 : y.B2 = x.B0 := bars_eq hy.nm.b2 hx.nm.b0 fun p _ => rfl
  have s0 : y.s0 = x.s1 := by rw [hy.s0, hx.s1]
  have s1 : y.s1 = x.s2 := by rw [hy.s1, hx.s2]
  have s2 : y.s2 = x.s0 := by rw [hy.s2, hx.s0]
  have a0 : y.A0 = x.A1 := by unfold NV.A0 NV.A1; rw [b0, s0]
  have a1 : y.A1 = x.A2 := by unfold NV.A1 NV.A2; rw [b1, s1]
  have a2 : y.A2 = x.A0 := by unfold NV.A2 NV.A0; rw [b2, s2]
  refine ⟨a0, a1, a2, fun p => ?_⟩
  unfold NV.Bad NV.rest0 NV.rest1 NV.rest2
  rw [a0, a1, a2, b0, b1, b2, s0, s1, s2, twoB_cyc fx.one]
  grind
/-- one sign, one number times all, squares times each -/
theorem same_eq {v0 v1 v2 u0 u1 u2 : List Int} {x y : NV} {o : Int} (ho : o = 1 ∨ o = -1) (hx : NmOf v0 v1 v2 x) (hy : NmOf u0 u1 u2 y) (hs : sgn (prodL u0) = o * sgn (prodL v0) ∧ sgn (prodL u1) = o * sgn (prodL v1) ∧ sgn (prodL u2) = o * sgn (prodL v2))
    (t : Nat → Bool) (h0 : ∀ p, NT.Pr p → ob (nP u0) p = (ob (nP v0) p ^^ t p)) (h1 : ∀ p, NT.Pr p → ob (nP u1) p = (ob (nP v1) p ^^ t p)) (h2 : ∀ p, NT.Pr p → ob (nP u2) p = (ob (nP v2) p ^^ t p)) :
    y.A0 = o * x.A0 ∧ y.A1 = o * x.A1 ∧ y.A2 = o * x.A2 ∧ ∀ p, x.Bad p ↔ y.Bad p := by
  have br : ∀ {a b c a' b' c' p : Nat}, ob a' p = (ob a p ^^ t p) → ob b' p = (ob b p ^^ t p) → ob c' p = (ob c p ^^ t p) → brb a' b' c' p = brb a b c p := fun {a b c a' b' c' p} ha hb hc => by
    unfold brb
    rw [ha, hb, hc]
    cases ob a p <;> cases ob b p <;> cases ob c p <;> cases t p <;> rfl
  have b0 : y.B0 = x.B0 := bars_eq hy.nm.b0 hx.nm.b0 fun p hp => br (h0 p hp) (h1 p hp) (h2 p hp)
  have b1 : y.B1 = x.B1 := bars_eq hy.nm.b1 hx.nm.b1 fun p hp => br (h1 p hp) (h0 p hp) (h2 p hp)
  have b2 : y.B2 = x.B2 := bars_eq hy.nm.b2 hx.nm.b2 fun p hp => br (h2 p hp) (h0 p hp) (h1 p hp)
  have s0 : y.s0 = o * x.s0 := by rw [hy.s0, hx.s0, hs.1]
  have s1 : y.s1 = o * x.s1 := by rw [hy.s1, hx.s1, hs.2.1]
  have s2 : y.s2 = o * x.s2 := by rw [hy.s2, hx.s2, hs.2.2]
  have a0 : y.A0 = o * x.A0 := by unfold NV.A0; rw [b0, s0, Int.mul_assoc]
  have a1 : y.A1 = o * x.A1 := by unfold NV.A1; rw [b1, s1, Int.mul_assoc]
  have a2 : y.A2 = o * x.A2 := by unfold NV.A2; rw [b2, s2, Int.mul_assoc]
  refine ⟨a0, a1, a2, fun p => ?_⟩
  unfold NV.Bad NV.rest0 NV.rest1 NV.rest2
  rw [a0, a1, a2, b0, b1, b2, s0, s1, s2]
  have e1 : ∀ a b : Int, -(o * a) * (o * b) = -a * b := fun a b => by rcases ho with rfl | rfl <;> grind
  have e2 : twoB (o * x.A0) (o * x.A1) (o * x.A2) = twoB x.A0 x.A1 x.A2 := by
    rcases ho with rfl | rfl
    · simp
    · have := twoB_neg x.A0 x.A1 x.A2
      simpa using this
  have e3 : ∀ a b : Int, (o * a = o * b) = (a = b) := fun a b => propext (by rcases ho with rfl | rfl <;> omega)
  rw [e1, e1, e1, e2, e3, e3]
theorem ob_mul {n m p : Nat} (hp : NT.Pr p) (hn : 0 < n) (hm : 0 < m) : ob (n * m) p = (ob n p ^^ ob m p) := by
  unfold ob
  rw [NT.vp_mul hp hn hm]
  by_cases h1 : NT.vp p n % 2 = 1 <;> by_cases h2 : NT.vp p m % 2 = 1 <;> simp [h1, h2] <;> omega
theorem ob_sq {m p : Nat} (hp : NT.Pr p) (hm : 0 < m) : ob (m * m) p = false := by
  rw [ob_mul hp hm hm]; cases ob m p <;> rfl
theorem prodL_app {u v : List Int} : prodL (u ++ v) = prodL u * prodL v := by
  have key : ∀ (ns : List Int) (a : Int), ns.foldl (· * ·) a = a * ns.foldl (· * ·) 1 := by
    intro ns
    induction ns with
    | nil => intro a; simp
    | cons n ns ih => intro a; rw [List.foldl_cons, List.foldl_cons, ih, ih (1 * n)]; grind
  unfold prodL
  rw [List.foldl_append, key]
theorem sgn_mulp {a b : Int} (hb : 0 < b) : sgn (a * b) = sgn a := by
  unfold sgn
  by_cases h : a > 0
  · rw [if_pos h, if_pos (Int.mul_pos h hb)]
  · rw [if_neg h, if_neg]
    have := Int.mul_nonpos_of_nonpos_of_nonneg (show a ≤ 0 by omega) (Int.le_of_lt hb)
    omega
theorem sgn_neg {a : Int} (ha : a ≠ 0) : sgn (-a) = -sgn a := by
  unfold sgn
  split <;> split <;> omega
theorem rot_bad {v0 v1 v2 : List Int} {L L' : List Nat} (h : BadL v0 v1 v2 L) (h' : BadL v1 v2 v0 L') : L' = L := by
  obtain ⟨x, fx, nx, ax, mx⟩ := h
  obtain ⟨y, fy, ny, ay, my⟩ := h'
  exact (asc_bad ax ay mx my (cyc_eq fx nx ny).2.2.2).symm
theorem same_bad {v0 v1 v2 u0 u1 u2 : List Int} {L L' : List Nat} {o : Int} (ho : o = 1 ∨ o = -1) (h : BadL v0 v1 v2 L) (h' : BadL u0 u1 u2 L') (hs : sgn (prodL u0) = o * sgn (prodL v0) ∧ sgn (prodL u1) = o * sgn (prodL v1) ∧ sgn (prodL u2) = o * sgn (prodL v2))
    (t : Nat → Bool) (h0 : ∀ p, NT.Pr p → ob (nP u0) p = (ob (nP v0) p ^^ t p)) (h1 : ∀ p, NT.Pr p → ob (nP u1) p = (ob (nP v1) p ^^ t p)) (h2 : ∀ p, NT.Pr p → ob (nP u2) p = (ob (nP v2) p ^^ t p)) : L' = L := by
  obtain ⟨x, fx, nx, ax, mx⟩ := h
  obtain ⟨y, fy, ny, ay, my⟩ := h'
  exact (asc_bad ax ay mx my (same_eq ho nx ny hs t h0 h1 h2).2.2.2).symm
theorem BadL.uniq {v0 v1 v2 : List Int} {L L' : List Nat} (h : BadL v0 v1 v2 L) (h' : BadL v0 v1 v2 L') : L' = L := same_bad (o := 1) (.inl rfl) h h' ⟨by simp, by simp, by simp⟩ (fun _ => false) (fun _ _ => by simp) (fun _ _ => by simp) (fun _ _ => by simp)
theorem BadL.len {v0 v1 v2 : List Int} {L : List Nat} (h : BadL v0 v1 v2 L) : L.length ≤ 1000000 := by
  obtain ⟨x, fx, nx, ax, mx⟩ := h
  have sub : L ⊆ 0 :: 2 :: (x.B0 ++ x.B1 ++ x.B2) := fun p hp => by
    rcases (mx p).mp hp with h | h | h | h | h
    · simp [h.1]
    · simp [h.1]
    · simp [h.2.1]
    · simp [h.2.1]
    · simp [h.2.1]
  have := (NT.asc_nodup ax).length_le_of_subset sub
  have := fx.ok.b0.len
  have := fx.ok.b1.len
  have := fx.ok.b2.len
  simp at *
  omega

end
section
variable {P : Program} {w : World} {K : PySem.W.Frag} {mg : Str → Option Value} {base : Heap} {a : Adr}
/-! ### the places that bar, by symbols -/
open NT in
theorem chi_two {u : Int} : chi 2 u = decide (u % 8 = 3 ∨ u % 8 = 5) := by unfold chi; rw [if_pos rfl]
theorem tw_000 {x y z : Int} (hx : x % 2 = 1) (hy : y % 2 = 1) (hz : z % 2 = 1) : (decide (-(x * z) % 4 = 3) && decide (-(y * z) % 4 = 3)) = twoB x y z := by
  have e1 : (x * z) % 4 = ((x % 4) * (z % 4)) % 4 := Int.mul_emod ..
  have e2 : (y * z) % 4 = ((y % 4) * (z % 4)) % 4 := Int.mul_emod ..
  have nx : ¬ x % 2 = 0 := by omega
  have ny : ¬ y % 2 = 0 := by omega
  have nz : ¬ z % 2 = 0 := by omega
  unfold twoB
  rw [if_neg nx, if_neg ny, if_neg nz]
  have a : x % 4 = 1 ∨ x % 4 = 3 := by omega
  have b : y % 4 = 1 ∨ y % 4 = 3 := by omega
  have c : z % 4 = 1 ∨ z % 4 = 3 := by omega
  rcases a with a | a <;> rcases b with b | b <;> rcases c with c | c <;> rw [a, c] at e1 <;> rw [b, c] at e2
  all_goals
    have f1 : (-(x * z) % 4 = 3) = ((x * z) % 4 = 1) := propext (by omega)
    have f2 : (-(y * z) % 4 = 3) = ((y * z) % 4 = 1) := propext (by omega)
    have g1 : ((x + z) % 4 = 0) = (((x % 4) + (z % 4)) % 4 = 0) := propext (by omega)
    have g2 : ((y + x) % 4 = 0) = (((y % 4) + (x % 4)) % 4 = 0) := propext (by omega)
    have g3 : ((z + y) % 4 = 0) = (((z % 4) + (y % 4)) % 4 = 0) := propext (by omega)
    simp only [f1, f2, g1, g2, g3, a, b, c, e1, e2]
    decide
/-- the even one first: c, x, y with 2 c, x, y -/
theorem tw_e {c x y : Int} (hc : c % 2 = 1) (hx : x % 2 = 1) (hy : y % 2 = 1) : (decide (-(x * y) % 8 = 3 ∨ -(x * y) % 8 = 5) ^^ (decide (-(c * y) % 4 = 3) && decide (-(x * y) % 4 = 3))) = (!decide ((x + y) % 8 = 0) && !decide ((x + y + 2 * c) % 8 = 0)) := by
  have e1 : (x * y) % 8 = ((x % 8) * (y % 8)) % 8 := Int.mul_emod ..
  have e2 : (c * y) % 8 = ((c % 8) * (y % 8)) % 8 := Int.mul_emod ..
  rcases NT.odd8 hc with k | k | k | k <;> rcases NT.odd8 hx with l | l | l | l <;> rcases NT.odd8 hy with m | m | m | m <;> rw [l, m] at e1 <;> rw [k, m] at e2
  all_goals
    have f1 : (-(x * y) % 8 = 3) = ((x * y) % 8 = 5) := propext (by omega)
    have f2 : (-(x * y) % 8 = 5) = ((x * y) % 8 = 3) := propext (by omega)
    have f3 : (-(x * y) % 4 = 3) = ((x * y) % 8 % 4 = 1) := propext (by omega)
    have f4 : (-(c * y) % 4 = 3) = ((c * y) % 8 % 4 = 1) := propext (by omega)
    have g1 : ((x + y) % 8 = 0) = (((x % 8) + (y % 8)) % 8 = 0) := propext (by omega)
    have g2 : ((x + y + 2 * c) % 8 = 0) = (((x % 8) + (y % 8) + 2 * (c % 8)) % 8 = 0) := propext (by omega)
    simp only [f1, f2, f3, f4, g1, g2, k, l, m, e1, e2]
    decide
/-- the even one last -/
theorem tw_l {c x y : Int} (hc : c % 2 = 1) (hx : x % 2 = 1) (hy : y % 2 = 1) :
    (decide (-(x * c) % 8 = 3 ∨ -(x * c) % 8 = 5) ^^ (decide (-(y * c) % 8 = 3 ∨ -(y * c) % 8 = 5) ^^ (decide (-(x * c) % 4 = 3) && decide (-(y * c) % 4 = 3)))) = (!decide ((x + y) % 8 = 0) && !decide ((x + y + 2 * c) % 8 = 0)) := by
  have e1 : (x * c) % 8 = ((x % 8) * (c % 8)) % 8 := Int.mul_emod ..
  have e2 : (y * c) % 8 = ((y % 8) * (c % 8)) % 8 := Int.mul_emod ..
  rcases NT.odd8 hc with k | k | k | k <;> rcases NT.odd8 hx with l | l | l | l <;> rcases NT.odd8 hy with m | m | m | m <;> rw [l, k] at e1 <;> rw [m, k] at e2
  all_goals
    have f1 : (-(x * c) % 8 = 3) = ((x * c) % 8 = 5) := propext (by omega)
    have f2 : (-(x * c) % 8 = 5) = ((x * c) % 8 = 3) := propext (by omega)
    have f3 : (-(x * c) % 4 = 3) = ((x * c) % 8 % 4 = 1) := propext (by omega)
    have f5 : (-(y * c) % 8 = 3) = ((y * c) % 8 = 5) := propext (by omega)
    have f6 : (-(y * c) % 8 = 5) = ((y * c) % 8 = 3) := propext (by omega)
    have f4 : (-(y * c) % 4 = 3) = ((y * c) % 8 % 4 = 1) := propext (by omega)
    have g1 : ((x + y) % 8 = 0) = (((x % 8) + (y % 8)) % 8 = 0) := propext (by omega)
    have g2 : ((x + y + 2 * c) % 8 = 0) = (((x % 8) + (y % 8) + 2 * (c % 8)) % 8 = 0) := propext (by omega)
    simp only [f1, f2, f3, f4, f5, f6, g1, g2, k, l, m, e1, e2]
    decide
/-- p once, or not at all -/
theorem A_has {s : Int} {B : List Nat} (hs : s = 1 ∨ s = -1) (nd : B.Nodup) (hp : ∀ p, p ∈ B → NT.Pr p) {p : Nat} (hm : p ∈ B) : ∃ c : Int, s * prodL (nI B) = (p : Int) * c ∧ ¬ (p : Int) ∣ c := by
  have pe := List.perm_cons_erase hm
  have hpr := hp p hm
  refine ⟨s * ((B.erase p).prod : Nat), ?_, fun d => ?_⟩
  · rw [prodL_nI, pe.prod_nat, List.prod_cons, Int.natCast_mul]; grind
  · have h1 : p ∣ (B.erase p).prod := by
      rw [Int.ofNat_dvd_left, Int.natAbs_mul] at d
      rcases hs with e | e <;> rw [e] at d <;> simpa using d
    exact (nd.not_mem_erase) (prod_dvd_mem hpr (fun q hq => hp q (List.mem_of_mem_erase hq)) h1)
theorem A_not {s : Int} {B : List Nat} (hs : s = 1 ∨ s = -1) (hp : ∀ p, p ∈ B → NT.Pr p) {p : Nat} (hpr : NT.Pr p) (hm : p ∉ B) : ¬ (p : Int) ∣ s * prodL (nI B) := fun d => by
  rw [prodL_nI, Int.ofNat_dvd_left, Int.natAbs_mul] at d
  have : p ∣ B.prod := by rcases hs with e | e <;> rw [e] at d <;> simpa using d
  exact hm (prod_dvd_mem hpr hp this)
open NT in
theorem bad_hs {x : NV} (h : x.Fine) {p : Nat} (hp : Pr p) : x.Bad p ↔ hs p (-(x.A0 * x.A2)) (-(x.A1 * x.A2)) = true := by
  have p0 : (p : Int) ≠ 0 := by have := hp.1; omega
  have i0 : p ∈ x.B0 → ∃ c : Int, x.A0 = (p : Int) * c ∧ ¬ (p : Int) ∣ c := A_has h.ok.s0 h.n0 h.p0
  have i1 : p ∈ x.B1 → ∃ c : Int, x.A1 = (p : Int) * c ∧ ¬ (p : Int) ∣ c := A_has h.ok.s1 h.n1 h.p1
  have i2 : p ∈ x.B2 → ∃ c : Int, x.A2 = (p : Int) * c ∧ ¬ (p : Int) ∣ c := A_has h.ok.s2 h.n2 h.p2
  have j0 : p ∉ x.B0 → ¬ (p : Int) ∣ x.A0 := A_not h.ok.s0 h.p0 hp
  have j1 : p ∉ x.B1 → ¬ (p : Int) ∣ x.A1 := A_not h.ok.s1 h.p1 hp
  have j2 : p ∉ x.B2 → ¬ (p : Int) ∣ x.A2 := A_not h.ok.s2 h.p2 hp
  have mm : ∀ {a b : Int}, ¬ (p : Int) ∣ a → ¬ (p : Int) ∣ b → ¬ (p : Int) ∣ -(a * b) := fun ha hb => neg_nd fun d => (hp.dvdI d).elim ha hb
  have nz : ∀ {a : Int}, ¬ (p : Int) ∣ a → a ≠ 0 := fun ha z => ha (by rw [z]; exact Int.dvd_zero _)
  have z0 : p ≠ 0 := by have := hp.1; omega
  -- the four cases
  have cases4 : (p ∈ x.B0 ∧ p ∉ x.B1 ∧ p ∉ x.B2) ∨ (p ∉ x.B0 ∧ p ∈ x.B1 ∧ p ∉ x.B2) ∨ (p ∉ x.B0 ∧ p ∉ x.B1 ∧ p ∈ x.B2) ∨ (p ∉ x.B0 ∧ p ∉ x.B1 ∧ p ∉ x.B2) := by
    by_cases a : p ∈ x.B0
    · exact .inl ⟨a, h.d01 p a, h.d02 p a⟩
    · by_cases b : p ∈ x.B1
      · exact .inr (.inl ⟨a, b, h.d12 p b⟩)
      · by_cases c : p ∈ x.B2
        · exact .inr (.inr (.inl ⟨a, b, c⟩))
        · exact .inr (.inr (.inr ⟨a, b, c⟩))
  have odd2 : p = 2 → ∀ {a : Int}, ¬ (p : Int) ∣ a → a % 2 = 1 := fun e a ha => by subst e; exact odd_of ha
  have two : p = 2 → (x.Bad p ↔ twoB x.A0 x.A1 x.A2 = true) := fun e => by
    subst e
    unfold NV.Bad offB
    simp
  rcases cases4 with ⟨a, b, c⟩ | ⟨a, b, c⟩ | ⟨a, b, c⟩ | ⟨a, b, c⟩
  · obtain ⟨k, ek, nk⟩ := i0 a
    have n1 := j1 b
    have n2 := j2 c
    have e1 : -(x.A0 * x.A2) = (p : Int) * -(k * x.A2) := by rw [ek]; grind
    by_cases e : p = 2
    · rw [two e]
      have o1 := odd2 e n1
      have o2 := odd2 e n2
      have ok := odd2 e nk
      subst e
      rw [e1, hs_mul hp p0 (nz (mm nk n2)), show (((2 : Nat) : Int)) = 2 from rfl, hs2_2u (mm n1 n2), hs2_units (mm nk n2) (mm n1 n2), chi_two, tw_e ok o1 o2]
      have ev : x.A0 % 2 = 0 := by rw [ek, show (((2 : Nat) : Int)) = 2 from rfl]; omega
      unfold twoB
      rw [if_pos ev, ek, show (((2 : Nat) : Int)) = 2 from rfl]
    · rw [e1, hs_mul hp p0 (nz (mm nk n2)), hs_pu hp e (mm n1 n2), hs_unit hp e (mm nk n2) (mm n1 n2)]
      unfold chi
      rw [if_neg e]
      have p3 : 2 < p := by have := hp.1; omega
      have er : x.rest0 = -(x.A1 * x.A2) := by unfold NV.rest0; grind
      unfold NV.Bad offB
      rw [er]
      simp [z0, e, a, b, c, p3]
  · obtain ⟨k, ek, nk⟩ := i1 b
    have n0 := j0 a
    have n2 := j2 c
    have e1 : -(x.A1 * x.A2) = (p : Int) * -(k * x.A2) := by rw [ek]; grind
    by_cases e : p = 2
    · rw [two e]
      have o0 := odd2 e n0
      have o2 := odd2 e n2
      have ok := odd2 e nk
      subst e
      rw [hs_symm, e1, hs_mul hp p0 (nz (mm nk n2)), show (((2 : Nat) : Int)) = 2 from rfl, hs2_2u (mm n0 n2), hs2_units (mm nk n2) (mm n0 n2), chi_two, tw_e ok o0 o2]
      have ev : x.A1 % 2 = 0 := by rw [ek, show (((2 : Nat) : Int)) = 2 from rfl]; omega
      have od : ¬ x.A0 % 2 = 0 := by omega
      unfold twoB
      rw [if_neg od, if_pos ev, ek, show (((2 : Nat) : Int)) = 2 from rfl]
    · rw [hs_symm, e1, hs_mul hp p0 (nz (mm nk n2)), hs_pu hp e (mm n0 n2), hs_unit hp e (mm nk n2) (mm n0 n2)]
      unfold chi
      rw [if_neg e]
      have p3 : 2 < p := by have := hp.1; omega
      have er : x.rest1 = -(x.A0 * x.A2) := by unfold NV.rest1; grind
      unfold NV.Bad offB
      rw [er]
      simp [z0, e, a, b, c, p3]
  · obtain ⟨k, ek, nk⟩ := i2 c
    have n0 := j0 a
    have n1 := j1 b
    have e1 : -(x.A0 * x.A2) = (p : Int) * -(x.A0 * k) := by rw [ek]; grind
    have e2 : -(x.A1 * x.A2) = (p : Int) * -(x.A1 * k) := by rw [ek]; grind
    by_cases e : p = 2
    · rw [two e]
      have o0 := odd2 e n0
      have o1 := odd2 e n1
      have ok := odd2 e nk
      subst e
      have e0 : chi 2 (-1) = false := by decide
      rw [e1, e2, hs_mul hp p0 (nz (mm n0 nk)), hs_mulR hp p0 (nz (mm n1 nk)), hs_mulR hp p0 (nz (mm n1 nk)), hs_self hp p0, hs_symm 2 (-(x.A0 * k)), show (((2 : Nat) : Int)) = 2 from rfl, hs2_2u (one_nd pr2), hs2_2u (mm n1 nk), hs2_2u (mm n0 nk), hs2_units (mm n0 nk) (mm n1 nk), e0, chi_two, chi_two]
      have t := tw_l ok o0 o1
      have ev : x.A2 % 2 = 0 := by rw [ek, show (((2 : Nat) : Int)) = 2 from rfl]; omega
      have od0 : ¬ x.A0 % 2 = 0 := by omega
      have od1 : ¬ x.A1 % 2 = 0 := by omega
      unfold twoB
      rw [if_neg od0, if_neg od1, if_pos ev, ek, show (((2 : Nat) : Int)) = 2 from rfl, ← t]
      generalize decide (-(x.A0 * k) % 8 = 3 ∨ -(x.A0 * k) % 8 = 5) = A
      generalize decide (-(x.A1 * k) % 8 = 3 ∨ -(x.A1 * k) % 8 = 5) = B
      generalize (decide (-(x.A0 * k) % 4 = 3) && decide (-(x.A1 * k) % 4 = 3)) = D
      cases A <;> cases B <;> cases D <;> simp
    · rw [e1, e2, hs_mul hp p0 (nz (mm n0 nk)), hs_mulR hp p0 (nz (mm n1 nk)), hs_mulR hp p0 (nz (mm n1 nk)), hs_self hp p0, hs_symm p (-(x.A0 * k)), hs_pu hp e (one_nd hp), hs_pu hp e (mm n1 nk), hs_pu hp e (mm n0 nk), hs_unit hp e (mm n0 nk) (mm n1 nk)]
      have ec : chi p (-1) = !sq p (-1) := by unfold chi; rw [if_neg e]
      have c1 : chi p (-(x.A1 * k)) = !sq p (-(x.A1 * k)) := by unfold chi; rw [if_neg e]
      have c0 : chi p (-(x.A0 * k)) = !sq p (-(x.A0 * k)) := by unfold chi; rw [if_neg e]
      have er : sq p x.rest2 = (sq p (-1) == (sq p (-(x.A0 * k)) == sq p (-(x.A1 * k)))) := by
        have od := Od.of hp e
        rw [← sq_mul od (mm n0 nk) (mm n1 nk), ← sq_mul od (one_nd hp) (fun d => (hp.dvdI d).elim (mm n0 nk) (mm n1 nk))]
        have e5 : -1 * (-(x.A0 * k) * -(x.A1 * k)) = x.rest2 * (k * k) := by unfold NV.rest2; grind
        rw [e5, sq_mulsq od ?_ nk]
        unfold NV.rest2
        intro d
        rcases hp.dvdI d with d | d
        · exact neg_nd n1 d
        · exact n0 d
      have p3 : 2 < p := by have := hp.1; omega
      unfold NV.Bad offB
      rw [er, ec, c0, c1]
      simp [z0, e, a, b, c, p3]
      cases sq p (-1) <;> cases sq p (-(x.A0 * k)) <;> cases sq p (-(x.A1 * k)) <;> simp
  · have n0 := j0 a
    have n1 := j1 b
    have n2 := j2 c
    by_cases e : p = 2
    · rw [two e]
      have o0 := odd2 e n0
      have o1 := odd2 e n1
      have o2 := odd2 e n2
      subst e
      rw [hs2_units (mm n0 n2) (mm n1 n2), tw_000 o0 o1 o2]
    · rw [hs_unit hp e (mm n0 n2) (mm n1 n2)]
      have p3 : 2 < p := by have := hp.1; omega
      unfold NV.Bad offB
      simp [z0, e, a, b, c]

end
section
variable {P : Program} {w : World} {K : PySem.W.Frag} {mg : Str → Option Value} {base : Heap} {a : Adr}
/-! ### the places, by symbols; always even in number -/
theorem A_ne {s : Int} {B : List Nat} (hs : s = 1 ∨ s = -1) (hp : ∀ p, p ∈ B → NT.Pr p) : s * prodL (nI B) ≠ 0 := by
  rw [prodL_nI]
  have := NT.prod_pos B hp
  rcases hs with e | e <;> rw [e] <;> omega
theorem NV.Fine.ne {x : NV} (h : x.Fine) : x.A0 ≠ 0 ∧ x.A1 ≠ 0 ∧ x.A2 ≠ 0 := ⟨A_ne h.ok.s0 h.p0, A_ne h.ok.s1 h.p1, A_ne h.ok.s2 h.p2⟩
open NT in
theorem bad_pr {x : NV} (h : x.Fine) {p : Nat} (hb : x.Bad p) : (p = 0 ∧ x.s0 = x.s1 ∧ x.s1 = x.s2) ∨ Pr p := by
  rcases hb with h1 | ⟨rfl, _⟩ | ⟨_, h1, _⟩ | ⟨_, h1, _⟩ | ⟨_, h1, _⟩
  · exact .inl h1
  · exact .inr pr2
  · exact .inr (h.p0 p h1)
  · exact .inr (h.p1 p h1)
  · exact .inr (h.p2 p h1)
open NT in
theorem ng_sgn {s t : Int} {B C : List Nat} (hs : s = 1 ∨ s = -1) (ht : t = 1 ∨ t = -1) (hb : ∀ p, p ∈ B → Pr p) (hc : ∀ p, p ∈ C → Pr p) : ng (-(s * prodL (nI B) * (t * prodL (nI C)))) = decide (s = t) := by
  have h1 := prod_pos B hb
  have h2 := prod_pos C hc
  have e : -(s * prodL (nI B) * (t * prodL (nI C))) = -(s * t) * ((B.prod * C.prod : Nat) : Int) := by rw [prodL_nI, prodL_nI, Int.natCast_mul]; grind
  have h3 : 0 < B.prod * C.prod := Nat.mul_pos h1 h2
  unfold ng
  rw [e]
  rcases hs with e | e <;> rcases ht with f | f <;> rw [e, f] <;> simp <;> omega
open NT in
/-- the places are even in number -/
theorem bad_even {v0 v1 v2 : List Int} {L : List Nat} (h : BadL v0 v1 v2 L) : L.length % 2 = 0 := by
  obtain ⟨x, fx, nx, ax, mx⟩ := h
  obtain ⟨z0, z1, z2⟩ := fx.ne
  have a02 : -(x.A0 * x.A2) ≠ 0 := by have := Int.mul_ne_zero z0 z2; omega
  have a12 : -(x.A1 * x.A2) ≠ 0 := by have := Int.mul_ne_zero z1 z2; omega
  let T := x.B0 ++ x.B1 ++ x.B2
  have Tnd : T.Nodup := by
    refine List.nodup_append.mpr ⟨List.nodup_append.mpr ⟨fx.n0, fx.n1, fun a ha b hb e => ?_⟩, fx.n2, fun a ha b hb e => ?_⟩
    · subst e; exact fx.d01 a ha hb
    · subst e
      rcases List.mem_append.mp ha with z | z
      · exact fx.d02 a z hb
      · exact fx.d12 a z hb
  have Tpr : ∀ p, p ∈ T → Pr p := fun p hp => by
    simp only [T, List.mem_append] at hp
    rcases hp with (z | z) | z
    · exact fx.p0 p z
    · exact fx.p1 p z
    · exact fx.p2 p z
  obtain ⟨S, pl, sub⟩ : ∃ S, Pl S ∧ ∀ p, p ∈ T → p ∈ S := by
    by_cases z : 2 ∈ T
    · exact ⟨T, ⟨Tnd, Tpr, z⟩, fun p hp => hp⟩
    · refine ⟨2 :: T, ⟨List.nodup_cons.mpr ⟨z, Tnd⟩, fun p hp => ?_, by simp⟩, fun p hp => List.mem_cons_of_mem _ hp⟩
      rcases List.mem_cons.mp hp with e | e
      · rw [e]; exact pr2
      · exact Tpr p e
  have dA : ∀ {s : Int} {B : List Nat} {p : Nat}, (s = 1 ∨ s = -1) → (∀ p, p ∈ B → Pr p) → Pr p → (p : Int) ∣ s * prodL (nI B) → p ∈ B := fun {s B p} hs hb hp d => Classical.byContradiction fun z => A_not hs hb hp z d
  have dv : ∀ p, Pr p → (p : Int) ∣ x.A0 ∨ (p : Int) ∣ x.A1 ∨ (p : Int) ∣ x.A2 → p ∈ S := fun p hp hd => by
    refine sub p ?_
    simp only [T, List.mem_append]
    rcases hd with d | d | d
    · exact .inl (.inl (dA fx.ok.s0 fx.p0 hp d))
    · exact .inl (.inr (dA fx.ok.s1 fx.p1 hp d))
    · exact .inr (dA fx.ok.s2 fx.p2 hp d)
  have pfm := product_formula pl a02 a12 (fun p hp d => dv p hp (by
    rcases hp.dvdI (Int.dvd_neg.mp d) with z | z
    · exact .inl z
    · exact .inr (.inr z))) (fun p hp d => dv p hp (by
    rcases hp.dvdI (Int.dvd_neg.mp d) with z | z
    · exact .inr (.inl z)
    · exact .inr (.inr z)))
  have g1 : ng (-(x.A0 * x.A2)) = decide (x.s0 = x.s2) := ng_sgn fx.ok.s0 fx.ok.s2 fx.p0 fx.p2
  have g2 : ng (-(x.A1 * x.A2)) = decide (x.s1 = x.s2) := ng_sgn fx.ok.s1 fx.ok.s2 fx.p1 fx.p2
  unfold pf at pfm
  rw [xs_count, g1, g2] at pfm
  let F := S.filter fun p => hs p (-(x.A0 * x.A2)) (-(x.A1 * x.A2))
  have Fm : ∀ p, p ∈ F ↔ Pr p ∧ x.Bad p := fun p => by
    simp only [F, List.mem_filter]
    constructor
    · rintro ⟨a, b⟩; exact ⟨pl.pr p a, (bad_hs fx (pl.pr p a)).mpr b⟩
    · rintro ⟨a, b⟩
      refine ⟨?_, (bad_hs fx a).mp b⟩
      rcases b with ⟨rfl, _⟩ | ⟨rfl, _⟩ | ⟨_, b, _⟩ | ⟨_, b, _⟩ | ⟨_, b, _⟩
      · exact absurd a.1 (by decide)
      · exact pl.two
      · exact sub p (by simp [T, b])
      · exact sub p (by simp [T, b])
      · exact sub p (by simp [T, b])
  have Fnd : F.Nodup := pl.nd.filter _
  have cF : S.countP (fun p => hs p (-(x.A0 * x.A2)) (-(x.A1 * x.A2))) = F.length := List.countP_eq_length_filter
  rw [cF] at pfm
  by_cases hi : x.s0 = x.s1 ∧ x.s1 = x.s2
  · have pm : L.Perm (0 :: F) := (List.perm_ext_iff_of_nodup (asc_nodup ax) (List.nodup_cons.mpr ⟨fun z => absurd ((Fm 0).mp z).1.1 (by decide), Fnd⟩)).mpr fun p => by
      rw [mx, List.mem_cons, Fm]
      constructor
      · intro hb
        rcases bad_pr fx hb with ⟨h1, _⟩ | h1
        · exact .inl h1
        · exact .inr ⟨h1, hb⟩
      · rintro (rfl | ⟨_, hb⟩)
        · exact .inl ⟨rfl, hi⟩
        · exact hb
    rw [pm.length_eq, List.length_cons]
    have e1 : x.s0 = x.s2 := by rw [hi.1, hi.2]
    rw [decide_eq_true e1, decide_eq_true hi.2] at pfm
    by_cases k : F.length % 2 = 1
    · omega
    · rw [decide_eq_false k] at pfm; cases pfm
  · have pm : L.Perm F := (List.perm_ext_iff_of_nodup (asc_nodup ax) Fnd).mpr fun p => by
      rw [mx, Fm]
      constructor
      · intro hb
        rcases bad_pr fx hb with ⟨_, h1⟩ | h1
        · exact absurd h1 hi
        · exact ⟨h1, hb⟩
      · exact fun h => h.2
    rw [pm.length_eq]
    have : (decide (x.s0 = x.s2) && decide (x.s1 = x.s2)) = false := by
      by_cases a : x.s0 = x.s2
      · by_cases b : x.s1 = x.s2
        · exact absurd ⟨by rw [a, b], b⟩ hi
        · simp [b]
      · simp [a]
    rw [this] at pfm
    by_cases k : F.length % 2 = 1
    · rw [decide_eq_true k] at pfm; cases pfm
    · omega

end
section
variable {P : Program} {w : World} {K : PySem.W.Frag} {mg : Str → Option Value} {base : Heap} {a : Adr}
/-! ### an answer bars no place -/
open NT in
theorem bad_num {v0 v1 v2 : List Int} (w0 : Wt v0) (w1 : Wt v1) (w2 : Wt v2) {x : NV} (fx : x.Fine) (nx : NmOf v0 v1 v2 x) {p : Nat} (hp : Pr p) : x.Bad p ↔ hs p (-(prodL v0 * prodL v2)) (-(prodL v1 * prodL v2)) = true := by
  obtain ⟨z0, z1, z2⟩ := fx.ne
  have nz : ∀ {v : List Int}, Wt v → prodL v ≠ 0 := fun {v} h => by have : 0 < (prodL v).natAbs := h.pos; omega
  have t0 : Two x.A0 (prodL v0) x.A2 (prodL v2) := by unfold NV.A0 NV.A2; rw [nx.s0, nx.s2]; exact two_of w0 w2 nx.nm.b0.swap nx.nm.b2
  have t1 : Two x.A1 (prodL v1) x.A2 (prodL v2) := by unfold NV.A1 NV.A2; rw [nx.s1, nx.s2]; exact two_of w1 w2 nx.nm.b1.swap nx.nm.b2.swap
  obtain ⟨r, _, hr⟩ := t0.sq
  obtain ⟨t, _, ht⟩ := t1.sq
  have k1 : -(x.A0 * x.A2) * -(prodL v0 * prodL v2) = r * r := by rw [← hr]; grind
  have k2 : -(x.A1 * x.A2) * -(prodL v1 * prodL v2) = t * t := by rw [← ht]; grind
  have m : ∀ {a b : Int}, a ≠ 0 → b ≠ 0 → -(a * b) ≠ 0 := fun ha hb => by have := Int.mul_ne_zero ha hb; omega
  rw [bad_hs fx hp, hs_class hp (m z0 z2) (m (nz w0) (nz w2)) k1, hs_symm, hs_class hp (m z1 z2) (m (nz w1) (nz w2)) k2, hs_symm]
theorem sq_nn (x : Int) : 0 ≤ x * x := by
  rcases Int.le_total 0 x with h | h
  · exact Int.mul_nonneg h h
  · exact Int.mul_nonneg_of_nonpos_of_nonpos h h
theorem sq_pos {x : Int} (h : x ≠ 0) : 0 < x * x := by
  rcases Int.lt_or_gt_of_ne h with h | h
  · exact Int.mul_pos_of_neg_of_neg h h
  · exact Int.mul_pos h h
open NT in
theorem answer_nobar {v0 v1 v2 : List Int} {L : List Nat} (w0 : Wt v0) (w1 : Wt v1) (w2 : Wt v2) (h : BadL v0 v1 v2 L) {X Y Z : Int} (nz : ¬ (X = 0 ∧ Y = 0 ∧ Z = 0)) (e : prodL v0 * (X * X) + prodL v1 * (Y * Y) + prodL v2 * (Z * Z) = 0) : L = [] := by
  obtain ⟨x, fx, nx, ax, mx⟩ := h
  have ne : ∀ {v : List Int}, Wt v → prodL v ≠ 0 := fun {v} h => by have : 0 < (prodL v).natAbs := h.pos; omega
  refine List.eq_nil_iff_forall_not_mem.mpr fun p hp => ?_
  have hb := (mx p).mp hp
  rcases bad_pr fx hb with ⟨_, h1, h2⟩ | hpr
  · rw [nx.s0, nx.s1] at h1
    rw [nx.s1, nx.s2] at h2
    have a0 := sq_nn X
    have a1 := sq_nn Y
    have a2 := sq_nn Z
    have some : 0 < X * X ∨ 0 < Y * Y ∨ 0 < Z * Z := by
      by_cases q0 : X = 0
      · by_cases q1 : Y = 0
        · by_cases q2 : Z = 0
          · exact absurd ⟨q0, q1, q2⟩ nz
          · exact .inr (.inr (sq_pos q2))
        · exact .inr (.inl (sq_pos q1))
      · exact .inl (sq_pos q0)
    have s : ∀ {v : List Int}, sgn (prodL v) = 1 ∨ sgn (prodL v) = -1 := fun {v} => by unfold sgn; split <;> simp
    have pos : ∀ {v : List Int}, Wt v → sgn (prodL v) = 1 → 0 < prodL v := fun {v} hw h => by unfold sgn at h; split at h <;> omega
    have neg : ∀ {v : List Int}, Wt v → sgn (prodL v) = -1 → prodL v < 0 := fun {v} hw h => by have := ne hw; unfold sgn at h; split at h <;> omega
    have kp : ∀ {n t : Int}, 0 < n → 0 ≤ t → 0 ≤ n * t ∧ (0 < t → 0 < n * t) := fun hn ht => ⟨Int.mul_nonneg (Int.le_of_lt hn) ht, fun h => Int.mul_pos hn h⟩
    have kn : ∀ {n t : Int}, n < 0 → 0 ≤ t → n * t ≤ 0 ∧ (0 < t → n * t < 0) := fun hn ht => ⟨Int.mul_nonpos_of_nonpos_of_nonneg (Int.le_of_lt hn) ht, fun h => Int.mul_neg_of_neg_of_pos hn h⟩
    rcases s (v := v0) with q | q
    · have b0 := kp (pos w0 q) a0
      have b1 := kp (pos w1 (by rw [← h1, q])) a1
      have b2 := kp (pos w2 (by rw [← h2, ← h1, q])) a2
      rcases some with z | z | z
      · have := b0.2 z; omega
      · have := b1.2 z; omega
      · have := b2.2 z; omega
    · have b0 := kn (neg w0 q) a0
      have b1 := kn (neg w1 (by rw [← h1, q])) a1
      have b2 := kn (neg w2 (by rw [← h2, ← h1, q])) a2
      rcases some with z | z | z
      · have := b0.2 z; omega
      · have := b1.2 z; omega
      · have := b2.2 z; omega
  · rw [bad_num w0 w1 w2 fx nx hpr] at hb
    have m : ∀ {a b : Int}, a ≠ 0 → b ≠ 0 → -(a * b) ≠ 0 := fun ha hb => by have := Int.mul_ne_zero ha hb; omega
    rw [hs_norm hpr (m (ne w0) (ne w2)) (m (ne w1) (ne w2)) (x := X) (y := Y) (z := prodL v2 * Z) (fun ⟨q1, q2, q3⟩ => nz ⟨q1, q2, (Int.mul_eq_zero.mp q3).resolve_left (ne w2)⟩) (by grind)] at hb
    cases hb

end
section
variable {P : Program} {w : World} {K : PySem.W.Frag} {mg : Str → Option Value} {base : Heap} {a : Adr}
/-! ### an answer of four weights bars no place -/
theorem sq_nn' (x : Int) : 0 ≤ x * x := by
  rcases Int.le_total 0 x with h | h
  · exact Int.mul_nonneg h h
  · exact Int.mul_nonneg_of_nonpos_of_nonpos h h
theorem sq_pos' {x : Int} (h : x ≠ 0) : 0 < x * x := by
  rcases Int.lt_or_gt_of_ne h with h | h
  · exact Int.mul_pos_of_neg_of_neg h h
  · exact Int.mul_pos h h
open NT in
theorem four_nobar {v0 v1 v2 v3 : List Int} (w0 : Wt v0) (w1 : Wt v1) (w2 : Wt v2) (w3 : Wt v3) {L : List Nat} (h : BadF v0 v1 v2 v3 L) {x y z w : Int} (nz : ¬ (x = 0 ∧ y = 0 ∧ z = 0 ∧ w = 0))
    (e : prodL v0 * (x * x) + prodL v1 * (y * y) + prodL v2 * (z * z) + prodL v3 * (w * w) = 0) : L = [] := by
  have ne : ∀ {v : List Int}, Wt v → prodL v ≠ 0 := fun {v} h => by have : 0 < (prodL v).natAbs := h.pos; omega
  refine List.eq_nil_iff_forall_not_mem.mpr fun p hp => ?_
  rcases (h.mem p).mp hp with ⟨_, h1, h2, h3⟩ | ⟨hpr, _, hf⟩
  · have a0 := sq_nn' x
    have a1 := sq_nn' y
    have a2 := sq_nn' z
    have a3 := sq_nn' w
    have some : 0 < x * x ∨ 0 < y * y ∨ 0 < z * z ∨ 0 < w * w := by
      by_cases q0 : x = 0
      · by_cases q1 : y = 0
        · by_cases q2 : z = 0
          · by_cases q3 : w = 0
            · exact absurd ⟨q0, q1, q2, q3⟩ nz
            · exact .inr (.inr (.inr (sq_pos' q3)))
          · exact .inr (.inr (.inl (sq_pos' q2)))
        · exact .inr (.inl (sq_pos' q1))
      · exact .inl (sq_pos' q0)
    have s : ∀ {v : List Int}, sgn (prodL v) = 1 ∨ sgn (prodL v) = -1 := fun {v} => by unfold sgn; split <;> simp
    have pos : ∀ {v : List Int}, Wt v → sgn (prodL v) = 1 → 0 < prodL v := fun {v} hw h => by unfold sgn at h; split at h <;> omega
    have neg : ∀ {v : List Int}, Wt v → sgn (prodL v) = -1 → prodL v < 0 := fun {v} hw h => by have := ne hw; unfold sgn at h; split at h <;> omega
    have kp : ∀ {n t : Int}, 0 < n → 0 ≤ t → 0 ≤ n * t ∧ (0 < t → 0 < n * t) := fun hn ht => ⟨Int.mul_nonneg (Int.le_of_lt hn) ht, fun h => Int.mul_pos hn h⟩
    have kn : ∀ {n t : Int}, n < 0 → 0 ≤ t → n * t ≤ 0 ∧ (0 < t → n * t < 0) := fun hn ht => ⟨Int.mul_nonpos_of_nonpos_of_nonneg (Int.le_of_lt hn) ht, fun h => Int.mul_neg_of_neg_of_pos hn h⟩
    rcases s (v := v0) with q | q
    · have b0 := kp (pos w0 q) a0
      have b1 := kp (pos w1 (by rw [← h1, q])) a1
      have b2 := kp (pos w2 (by rw [← h2, q])) a2
      have b3 := kp (pos w3 (by rw [← h3, q])) a3
      rcases some with z | z | z | z
      · have := b0.2 z; omega
      · have := b1.2 z; omega
      · have := b2.2 z; omega
      · have := b3.2 z; omega
    · have b0 := kn (neg w0 q) a0
      have b1 := kn (neg w1 (by rw [← h1, q])) a1
      have b2 := kn (neg w2 (by rw [← h2, q])) a2
      have b3 := kn (neg w3 (by rw [← h3, q])) a3
      rcases some with z | z | z | z
      · have := b0.2 z; omega
      · have := b1.2 z; omega
      · have := b2.2 z; omega
      · have := b3.2 z; omega
  · unfold fbar lsq at hf
    simp only [Bool.and_eq_true, decide_eq_true_eq] at hf
    obtain ⟨⟨f1, f2⟩, f3⟩ := hf
    have ho : oI p (prodL v0 * prodL v1 * (prodL v2 * prodL v3)) = false := by unfold oI; exact decide_eq_false (by omega)
    have hl := four_law hpr (ne w0) (ne w1) (ne w2) (ne w3) nz e fun t _ => hs_local ho (by
      unfold chi
      by_cases e2 : p = 2
      · rw [if_pos e2] at f2 ⊢
        have := of_decide_eq_true f2
        exact decide_eq_false (by omega)
      · rw [if_neg e2] at f2 ⊢
        rw [f2]; rfl) (by
      unfold eps
      by_cases e2 : p = 2
      · rw [if_pos e2] at f2 ⊢
        have := of_decide_eq_true f2
        exact decide_eq_false (by omega)
      · rw [if_neg e2])
    unfold fsum at f3
    rw [← hl] at f3
    revert f3
    generalize hs p (prodL v0) (prodL v1) = z1; generalize hs p (prodL v2) (prodL v3) = z2
    generalize (hs p (prodL v0) (prodL v2) ^^ hs p (prodL v0) (prodL v3) ^^ hs p (prodL v1) (prodL v2) ^^ hs p (prodL v1) (prodL v3)) = z3
    cases z1 <;> cases z2 <;> cases z3 <;> simp

end
section
variable {P : Program} {w : World} {K : PySem.W.Frag} {mg : Str → Option Value} {base : Heap} {a : Adr}
/-! ### what a row comes to -/
def comeL (ns ms : List Int) : Int := (List.zipWith (fun n o => n * o * o) ns ms).sum
theorem zip2_get {ns ms : List Int} {i : Nat} {d : D} (h : (zip2D (D.ints ns) (D.ints ms))[i]? = some d) : ∃ n o, n ∈ ns ∧ o ∈ ms ∧ d = .tup [.int n, .int o] ∧ ns[i]? = some n ∧ ms[i]? = some o := by
  unfold zip2D at h
  rw [List.getElem?_zipWith] at h
  cases e3 : (D.ints ns)[i]? with
  | none => rw [e3] at h; cases h
  | some d0 =>
    cases e4 : (D.ints ms)[i]? with
    | none => rw [e3, e4] at h; cases h
    | some c0 =>
      rw [e3, e4] at h
      cases h
      obtain ⟨n, hn, rfl⟩ := ints_get e3
      obtain ⟨o, ho, rfl⟩ := ints_get e4
      exact ⟨n, o, List.mem_of_getElem? hn, List.mem_of_getElem? ho, rfl, hn, ho⟩
theorem zip2_map (f : Int → Int → Int) : ∀ ns ms : List Int, (zip2D (D.ints ns) (D.ints ms)).map (fun d => match d with | .tup [.raw (.int n), .raw (.int o)] => D.int (f n o) | _ => d) = D.ints (List.zipWith f ns ms)
  | [], _ => by simp [zip2D, D.ints]
  | _ :: _, [] => by simp [zip2D, D.ints]
  | n :: ns, m :: ms => by
    have := zip2_map f ns ms
    simp only [zip2D, D.ints] at this
    simp only [zip2D, D.ints, List.map_cons, List.zipWith_cons_cons, this]
theorem ok_come_to (C : Ctx K mg a) : FnAt P w K mg base CX0 1 "come_to" ["numbers", "row"] (SpP K (fun x : Bool × List Int × Bool × List Int => [D.seq x.1 (D.ints x.2.1), D.seq x.2.2.1 (D.ints x.2.2.2)]) (fun x => (x.2.1.length ≤ 1000 ∧ ∀ n, n ∈ x.2.1 → n.natAbs < 2 ^ 4000) ∧ ∀ o, o ∈ x.2.2.2 → o.natAbs < 2 ^ 90000) (fun x d => d = .int (comeL x.2.1 x.2.2.2))) := by
  refine fn_at C.d_come_to sc_come_to (fun _ => rfl) fun f cdv A outer s H E hr => ⟨_, (pss_one (ps_ret (pe_sum (K := K) C.B.sum rfl rfl (pa_cons (pe_lc (own := [("number", 2), ("one", 3)]) (g := (gTup _ 2 (gCons (gName 2) (gCons (gName 3) gNil)))) (tt := tYes) rfl sc_come_to.nd (pi_zipS2 (K := K) rfl C.B.zip (pa_cons (pv 0) (pa_cons (pv 1) pa_nil))) (blkOk_by (N := n_come_to) (sc := defScope s_come_to) (by decide +kernel)) (fun _ _ _ _ _ => (pg_tup rfl (pgs_cons (pg_name (i := 2) sc_come_to.nd rfl (by first | exact Or.inl rfl | exact Or.inr rfl)) (pgs_cons (pg_name (i := 3) sc_come_to.nd rfl (by first | exact Or.inl rfl | exact Or.inr rfl)) pgs_nil)))) (fun _ _ _ _ _ => pts_nil) (fun _ _ _ _ _ => (pe_op (op_gMul (K := K)) (pe_op (op_gMul (K := K)) (pv 2) (pv 3)) (pv 3)))) pa_nil)))), fun x e hp he => ?_⟩
  obtain ⟨b1, ns, b2, ms⟩ := x
  obtain ⟨⟨hl, hn⟩, hm⟩ := hp
  have hl : ns.length ≤ 1000 := hl
  have hn : ∀ n, n ∈ ns → n.natAbs < 2 ^ 4000 := hn
  have hm : ∀ o, o ∈ ms → o.natAbs < 2 ^ 90000 := hm
  dsimp only [cxOf]
  refine r_ret ?_
  refine ev_cb (ea_cons (ev_lcM (fun d => match d with | .tup [.raw (.int n), .raw (.int o)] => .int (n * o * o) | _ => d) (ei_z2 ?_)))
  walk_at "d"
  refine ⟨_, _, _, _, rfl, .s, .s, ?_, fun i d hd => ?_, ?_⟩
  · unfold zip2D
    rw [List.length_zipWith]
    simp [D.ints]; omega
  · obtain ⟨n, o, n1, o1, rfl, _, _⟩ := zip2_get hd
    have nb := hn n n1
    have ob := hm o o1
    walk_at "d"
    refine ⟨mulW nb ob (by decide), ?_⟩
    walk_at "d"
    refine ⟨mulW (mul_lt nb ob) ob (by decide), ?_⟩
    walk_at "d"
    exact rfl
  · rw [zip2_map (fun n o => n * o * o)]
    walk_at "d"
    exact ec_sum .v (ret_v rfl)

end
section
variable {P : Program} {w : World} {K : PySem.W.Frag} {mg : Str → Option Value} {base : Heap} {a : Adr}
/-! ### small answers, searched -/
def rowsL (m : Nat) : Nat → List (List Int)
  | 0 => [[]]
  | n + 1 => (rowsL m n).flatMap fun r => (List.range (m + 1)).map fun o : Nat => r ++ [(o : Int)]
abbrev rD (r : List Int) : D := .tup (D.ints r)
theorem rows_len {m n : Nat} : ∀ r, r ∈ rowsL m n → r.length = n := by
  induction n with
  | zero => intro r h; simp [rowsL] at h; subst h; rfl
  | succ n ih =>
    intro r h
    simp only [rowsL, List.mem_flatMap, List.mem_map] at h
    obtain ⟨q, hq, o, _, rfl⟩ := h
    rw [List.length_append, ih q hq]; rfl
theorem rows_rng {m n : Nat} : ∀ r, r ∈ rowsL m n → ∀ o, o ∈ r → 0 ≤ o ∧ o ≤ m := by
  induction n with
  | zero => intro r h; simp [rowsL] at h; subst h; intro o ho; simp at ho
  | succ n ih =>
    intro r h o ho
    simp only [rowsL, List.mem_flatMap, List.mem_map] at h
    obtain ⟨q, hq, k, hk, rfl⟩ := h
    rw [List.mem_append] at ho
    rcases ho with z | z
    · exact ih q hq o z
    · simp at z hk; omega
theorem rows_many {m : Nat} : ∀ n, (rowsL m n).length = (m + 1) ^ n
  | 0 => rfl
  | n + 1 => by
    have key : ∀ l : List (List Int), (l.flatMap fun r => (List.range (m + 1)).map fun o : Nat => r ++ [(o : Int)]).length = l.length * (m + 1) := by
      intro l
      induction l with
      | nil => simp
      | cons r l ih => rw [List.flatMap_cons, List.length_append, ih, List.length_cons]; simp; grind
    rw [rowsL, key, rows_many n, Nat.pow_succ]
theorem rows_bound {m n : Nat} (hm : m ≤ 9) (hn : n ≤ 4) : (rowsL m n).length ≤ 10000 := by
  rw [rows_many]
  have h1 : (m + 1) ^ n ≤ 10 ^ n := Nat.pow_le_pow_left (by omega) n
  have h2 : 10 ^ n ≤ 10 ^ 4 := Nat.pow_le_pow_right (by decide) hn
  exact Nat.le_trans h1 (Nat.le_trans h2 (by decide))
theorem fm_rows (m : Nat) (l : List (List Int)) : (l.map rD).flatMap (fun d => (rangeD 0 (m + 1)).map (fun e => match d, e with | .tup ds, e => D.tup (ds ++ [e]) | d, _ => d)) = (l.flatMap fun r => (List.range (m + 1)).map fun o : Nat => r ++ [(o : Int)]).map rD := by
  induction l with
  | nil => rfl
  | cons r l ih =>
    rw [List.map_cons, List.flatMap_cons, ih, List.flatMap_cons, List.map_append]
    congr 1
    simp only [rangeD, List.map_map]
    refine List.map_congr_left fun o _ => ?_
    show D.tup (D.ints r ++ [D.int (0 + (o : Int))]) = D.tup (D.ints (r ++ [(o : Int)]))
    rw [Int.zero_add]
    simp [D.ints]
theorem ok_rows_to (C : Ctx K mg a) : FnAt P w K mg base CX0 1 "rows_to" ["many", "limit"] (SpP K (fun x : Nat × Nat => [.int (x.1 : Int), .int (x.2 : Int)]) (fun x => x.1 ≤ 4 ∧ x.2 ≤ 9) (fun x d => d = .lst ((rowsL x.2 x.1).map rD))) := by
  refine fn_at C.d_rows_to sc_rows_to (fun _ => rfl) fun f cdv A outer s H E hr => ⟨_, (pss_cons (ps_set (i := 2) sc_rows_to.nd rfl (by first | exact Or.inl rfl | exact Or.inr rfl) (pe_lst (pa_cons (pe_tup pa_nil) pa_nil)))
    (pss_cons (ps_for PassesOwn.never rfl (pi_range1 rfl C.B.range (pa_cons (pv 0) pa_nil)) (pg_name (i := 3) sc_rows_to.nd rfl (by first | exact Or.inl rfl | exact Or.inr rfl))
    (pss_one (ps_setLc2 (i := 2) (own := [("row", 4), ("one", 5)]) (g := (gName 4)) (tt := tYes) (g1 := (gName 5)) (tt1 := tYes) (vs1 := [5]) rfl sc_rows_to.nd rfl rfl (sw_true rfl rfl rfl (by decide +kernel)) (pi_seq (K := K) (pv 2)) (blkOk_by (N := n_rows_to) (sc := defScope s_rows_to) (by decide +kernel)) (by decide) (fun _ _ _ _ _ => (pg_name (i := 4) sc_rows_to.nd rfl (by first | exact Or.inl rfl | exact Or.inr rfl))) (fun _ _ _ _ _ => pts_nil) (fun _ _ _ _ _ => (pi_range1 rfl C.B.range (pa_cons (pe_op (op_gAdd (K := K)) (pv 1) pe_int) pa_nil))) (fun _ _ _ _ _ => (pg_name (i := 5) sc_rows_to.nd rfl (by first | exact Or.inl rfl | exact Or.inr rfl))) (fun _ _ _ _ _ => pts_nil) (fun _ _ _ _ _ => (pe_op (op_gAdd (K := K)) (pv 4) (pe_tup (pa_cons (pv 5) pa_nil)))))))
    (pss_one (ps_ret (pv 2))))), fun x e hp he => ?_⟩
  obtain ⟨n, m⟩ := x
  obtain ⟨hn, hm⟩ := hp
  have hn : n ≤ 4 := hn
  have hm : m ≤ 9 := hm
  dsimp only [cxOf]
  walk_at "d"
  refine r_asg ?_
  walk_at "d"
  refine r_for [3] ?_
  refine ei_range1 ?_
  walk_at "d"
  refine ⟨_, rfl, by omega, by omega, fun i ρ M => ∃ o3 o4 o5 : Option Sl, ρ = [some (.v (.int (n : Int))), some (.v (.int (m : Int))), some (.v (.lst ((rowsL m i).map rD))), o3, o4, o5] ∧ M = [], ⟨_, _, _, rfl, rfl⟩, ?_, ?_⟩
  · rintro i d ρ M hi ⟨o3, o4, o5, rfl, rfl⟩
    obtain ⟨il, rfl⟩ := rangeD_get hi
    have il : i < n := by simpa using il
    walk_at "d"
    refine r_asg ?_
    refine ev_lc2M (fun d e => match d, e with | .tup ds, e => D.tup (ds ++ [e]) | d, _ => d) (fun _ => rangeD 0 (m + 1)) (ei_seqL ?_)
    walk_at "d"
    have bnd := rows_bound hm (show i + 1 ≤ 4 by omega)
    refine ⟨_, rfl, ?_, fun j d hj => ?_, ?_⟩
    · rw [fm_rows, List.length_map]
      exact Nat.le_trans bnd (by decide)
    · obtain ⟨r, hr', rfl⟩ := map_get hj
      have rl := rows_len r (List.mem_of_getElem? hr')
      walk_at "d"
      refine ei_range1 ?_
      walk_at "d"
      refine ⟨_, rfl, by omega, by omega, ?_, fun l d1 hl => ?_⟩
      · congr 1
      · obtain ⟨ll, rfl⟩ := rangeD_get hl
        walk_at "d"
        refine g_addT (by simp [D.ints]; omega) rfl
    · rw [fm_rows]
      exact ⟨_, _, _, rfl, rfl⟩
  · rintro ρ M ⟨o3, o4, o5, rfl, rfl⟩
    rw [rangeD_len]
    walk_at "d"
    refine ret_v ?_
    have : (n : Int).toNat = n := by omega
    rw [this]
def maxL (r : List Int) : Int := match r with | n :: ns => ns.foldl max n | [] => 0
abbrev mrD (r : List Int) : D := .tup [.int (maxL r), rD r]
def ltR (r b : List Int) : Bool := PySem.W.dataLt (mrD r).py (mrD b).py
def optD : Option (List Int) → D
  | none => .non
  | some r => rD r
def hit (sums r : List Int) : Bool := decide (0 < maxL r) && decide (comeL sums r = 0)
def pick (sums : List Int) (best : Option (List Int)) (r : List Int) : Option (List Int) :=
  if hit sums r = true then (match best with
    | none => some r
    | some b => if ltR r b = true then some r else some b) else best
theorem pick_ok {sums : List Int} {S : List (List Int)} : ∀ (l : List (List Int)) (best : Option (List Int)), (∀ r, r ∈ l → r ∈ S) → (∀ b, best = some b → b ∈ S ∧ hit sums b = true) → ∀ b, l.foldl (pick sums) best = some b → b ∈ S ∧ hit sums b = true
  | [], best, _, h, b, e => h b e
  | r :: l, best, hl, h, b, e => by
    refine pick_ok l (pick sums best r) (fun q hq => hl q (List.mem_cons_of_mem _ hq)) (fun c hc => ?_) b e
    unfold pick at hc
    by_cases z : hit sums r = true
    · rw [if_pos z] at hc
      have hr := hl r List.mem_cons_self
      match best, h, hc with
      | none, _, hc => cases hc; exact ⟨hr, z⟩
      | some b', h, hc =>
        by_cases y : ltR r b' = true
        · simp only [y, if_true] at hc; cases hc; exact ⟨hr, z⟩
        · simp only [y] at hc
          exact h c (by simpa using hc)
    · rw [if_neg z] at hc
      exact h c hc
theorem lt_row {K : PySem.W.Frag} {M : List MO} {Q : Sl → Prop} {r b : List Int} (q : Q (.v (.bl (ltR r b)))) : EvR K (rLtD K) M (.v (mrD r)) (.v (mrD b)) Q := by
  refine er_ltD 5 ?_ ?_ (by decide) ?_ (by simp [D.py]) q
  · have := pl_ints (n := 3) r
    simp [D.pl, D.plAll, this]
  · have := pl_ints (n := 3) b
    simp [D.pl, D.plAll, this]
  · have := alike_ints r b
    simp only [D.py, D.pyAll, PySem.W.alike, PySem.W.alikeAll, this, Bool.and_self]
/-- the form's numbers, small enough -/
def RowOk (r : List Int) : Prop := (∃ n ns, r = n :: ns) ∧ ∀ o, o ∈ r → o.natAbs ≤ 9
theorem ok_small_answer (C : Ctx K mg a) : FnAt P w K mg base CX0 3 "small_answer" ["form", "limit"] (SpP K (fun x : List (List Int) × Nat => [fm a.Form x.1, .int (x.2 : Int)]) (fun x => Frm x.1 ∧ 1 ≤ x.2 ∧ x.2 ≤ 9) (fun x d => d = optD ((rowsL x.2 x.1.length).foldl (pick (x.1.map prodL)) none))) := by
  refine fn_at C.d_small_answer sc_small_answer (fun _ => rfl) fun f cdv A outer s H E hr => ⟨_, (pss_cons (ps_if (pt_not (pt_val (pe_fn (ok_is_integer C) (hr.mono (by omega)) rfl (pa_cons (pv 1) (pa_cons pe_int (pa_cons (C.c_MOST_LIMIT.pe rfl) pa_nil))))))
    (pss_one ps_never)
    pss_nil)
    (pss_cons (ps_set (i := 2) sc_small_answer.nd rfl (by first | exact Or.inl rfl | exact Or.inr rfl) pe_non)
    (pss_cons (ps_for PassesOwn.never rfl (pi_seq (K := K) (pe_fn (ok_rows_to C) (hr.mono (by omega)) rfl (pa_cons (pe_len (K := K) C.B.len rfl (pa_cons (pe_at (K := K) (pv 0)) pa_nil)) (pa_cons (pv 1) pa_nil)))) (pg_name (i := 3) sc_small_answer.nd rfl (by first | exact Or.inl rfl | exact Or.inr rfl))
    (pss_one (ps_if (PW.pt (pw_and (pt_cmpR op_gGt (pe_maxT (K := K) hr.units C.B.max rfl rfl (pa_cons (pv 3) pa_nil)) pe_int (nomark _)) (pw_and1 (pt_cmpR (op_gEq (K := K) (by exact hr.units)) (pe_fn (ok_come_to C) (hr.mono (by omega)) rfl (pa_cons (pe_at (K := K) (pv 0)) (pa_cons (pv 3) pa_nil))) pe_int (nomark _)))))
    (pss_one (ps_if (PW.pt (pw_or (pt_cmpR op_gIs (pv 2) pe_non (nomark _)) (pw_or1 (pt_cmpR (op_ltD (K := K) hr.units) (pe_tup (pa_cons (pe_maxT (K := K) hr.units C.B.max rfl rfl (pa_cons (pv 3) pa_nil)) (pa_cons (pv 3) pa_nil))) (pe_tup (pa_cons (pe_maxT (K := K) hr.units C.B.max rfl rfl (pa_cons (pv 2) pa_nil)) (pa_cons (pv 2) pa_nil))) (nomark _)))))
    (pss_one (ps_set (i := 2) sc_small_answer.nd rfl (by first | exact Or.inl rfl | exact Or.inr rfl) (pv 3)))
    pss_nil))
    pss_nil)))
    (pss_one (ps_ret (pv 2)))))), fun x e hp he => ?_⟩
  obtain ⟨ws, m⟩ := x
  obtain ⟨fr, m1, m9⟩ := hp
  have fr : Frm ws := fr
  have m1 : 1 ≤ m := m1
  have m9 : m ≤ 9 := m9
  have l4 : ws.length ≤ 4 := by rcases fr.len with h | h <;> omega
  have l3 : 3 ≤ ws.length := by rcases fr.len with h | h <;> omega
  have sb : ∀ n, n ∈ ws.map prodL → n.natAbs < 2 ^ 4000 := fun n hn => by
    obtain ⟨v, hv, rfl⟩ := List.mem_map.mp hn
    exact bit_le (fr.w v hv).bit (by decide)
  dsimp only [cxOf]
  walk_at "d"
  refine ⟨(.int (m : Int), 1, 9), rfl, .int _, fun r er => ?_⟩
  subst er
  refine ⟨_, rfl, ?_⟩
  have hi : isI (.int (m : Int)) 1 9 = true := by show (decide ((1 : Int) ≤ m) && decide ((m : Int) ≤ 9)) = true; rw [decide_eq_true (by omega : (1 : Int) ≤ m), decide_eq_true (by omega : (m : Int) ≤ 9)]; rfl
  dsimp only
  rw [hi]
  refine iteF ?_
  walk_at "d"
  refine r_asg ?_
  walk_at "d"
  refine r_for [3] ?_
  refine ei_seqL ?_
  refine ec_callP (ea_cons (ev_cb (ea_cons (ev_at ?_))))
  walk_at "d"
  refine ⟨_, _, _, rfl, C.k_Form.cl, C.n_Form_rows, _, _, rfl, rfl, ?_⟩
  walk_at "d"
  refine ⟨(ws.length, m), by simp, ⟨l4, m9⟩, fun d ed => ?_⟩
  subst ed
  refine ⟨_, rfl, fun i ρ M => ∃ o3 : Option Sl, ρ = [some (.v (fm a.Form ws)), some (.v (.int (m : Int))), some (.v (optD (((rowsL m ws.length).take i).foldl (pick (ws.map prodL)) none))), o3] ∧ M = [], ⟨_, rfl, rfl⟩, ?_, ?_⟩
  · rintro i d ρ M hi ⟨o3, rfl, rfl⟩
    obtain ⟨r, hr', rfl⟩ := map_get hi
    have hmem := List.mem_of_getElem? hr'
    have rl := rows_len r hmem
    have rr := rows_rng r hmem
    have hbest := pick_ok (sums := ws.map prodL) (S := rowsL m ws.length) ((rowsL m ws.length).take i) none (fun q hq => List.mem_of_mem_take hq) (fun b h => by cases h)
    have es : ((rowsL m ws.length).take (i + 1)).foldl (pick (ws.map prodL)) none = pick (ws.map prodL) (((rowsL m ws.length).take i).foldl (pick (ws.map prodL)) none) r := by
      rw [take_snoc hr', List.foldl_append]; rfl
    dsimp only
    rw [es]
    generalize ((rowsL m ws.length).take i).foldl (pick (ws.map prodL)) none = best at *
    obtain ⟨n, ns, rfl⟩ : ∃ n ns, r = n :: ns := by
      cases r with
      | nil => simp at rl; omega
      | cons n ns => exact ⟨n, ns, rfl⟩
    walk_at "d"
    refine ec_maxT ?_
    walk_at "d"
    refine ite_dec (fun h1 => ?_) (fun h1 => ?_)
    · have h1 : 0 < maxL (n :: ns) := h1
      refine et_test (ev_op (ec_callP (ea_cons (ev_at ?_))))
      walk_at "d"
      refine ⟨_, _, _, rfl, C.k_Form.cl, C.n_Form_sums, _, _, rfl, rfl, ?_⟩
      walk_at "d"
      refine ⟨(true, ws.map prodL, true, n :: ns), rfl, ⟨⟨by simp; omega, sb⟩, fun o ho => ?_⟩, fun d ed => ?_⟩
      · have := rr o ho
        have h9 : o.natAbs < 2 ^ 60 := by omega
        exact bit_le h9 (by decide)
      subst ed
      walk_at "d"
      refine ite_dec (fun h2 => ?_) (fun h2 => ?_)
      · have hh : hit (ws.map prodL) (n :: ns) = true := by
          unfold hit
          rw [decide_eq_true h1, decide_eq_true h2]; rfl
        cases best with
        | none =>
          have ep : pick (ws.map prodL) none (n :: ns) = some (n :: ns) := by unfold pick; rw [if_pos hh]
          rw [ep]
          walk_at "d"
          refine iteT ?_
          refine iteT ?_
          refine r_asg ?_
          walk_at "d"
          exact ⟨_, rfl, rfl⟩
        | some b =>
          have hbl := rows_len b (hbest b rfl).1
          obtain ⟨q, qs, rfl⟩ : ∃ n ns, b = n :: ns := by
            cases b with
            | nil => simp at hbl; omega
            | cons n ns => exact ⟨n, ns, rfl⟩
          walk_at "d"
          refine iteF ?_
          walk_at "d"
          refine ec_maxT ?_
          walk_at "d"
          refine ec_maxT ?_
          walk_at "d"
          refine lt_row (r := n :: ns) (b := q :: qs) ?_
          refine ⟨_, rfl, ?_⟩
          refine ite_b (fun h3 => ?_) (fun h3 => ?_)
          · have ep : pick (ws.map prodL) (some (q :: qs)) (n :: ns) = some (n :: ns) := by unfold pick; rw [if_pos hh]; simp [h3]
            rw [ep]
            refine r_asg ?_
            walk_at "d"
            exact ⟨_, rfl, rfl⟩
          · have ep : pick (ws.map prodL) (some (q :: qs)) (n :: ns) = some (q :: qs) := by unfold pick; rw [if_pos hh]; simp [h3]
            rw [ep]
            walk_at "n"
            exact ⟨_, rfl, rfl⟩
      · have hh : ¬ hit (ws.map prodL) (n :: ns) = true := by
          unfold hit
          rw [decide_eq_false h2]; simp
        unfold pick
        rw [if_neg hh]
        walk_at "n"
        exact ⟨_, rfl, rfl⟩
    · have h1 : ¬ 0 < maxL (n :: ns) := h1
      have hh : ¬ hit (ws.map prodL) (n :: ns) = true := by
        unfold hit
        rw [decide_eq_false h1]; simp
      unfold pick
      rw [if_neg hh]
      refine iteF ?_
      walk_at "n"
      exact ⟨_, rfl, rfl⟩
  · rintro ρ M ⟨o3, rfl, rfl⟩
    rw [List.length_map, List.take_length]
    walk_at "d"
    exact ret_v rfl

end
section
variable {P : Program} {w : World} {K : PySem.W.Frag} {mg : Str → Option Value} {base : Heap} {a : Adr}
/-! ### the places that bar a form of three or four weights -/
def BadG (ws : List (List Int)) (L : List Nat) : Prop := match ws with
  | [v0, v1, v2] => BadL v0 v1 v2 L
  | [v0, v1, v2, v3] => BadF v0 v1 v2 v3 L
  | _ => False
theorem frm_cases {ws : List (List Int)} (h : Frm ws) : (∃ v0 v1 v2, ws = [v0, v1, v2] ∧ Wt v0 ∧ Wt v1 ∧ Wt v2) ∨ (∃ v0 v1 v2 v3, ws = [v0, v1, v2, v3] ∧ Wt v0 ∧ Wt v1 ∧ Wt v2 ∧ Wt v3) := by
  match ws, h with
  | [v0, v1, v2], h => exact .inl ⟨v0, v1, v2, rfl, h.w v0 (by simp), h.w v1 (by simp), h.w v2 (by simp)⟩
  | [v0, v1, v2, v3], h => exact .inr ⟨v0, v1, v2, v3, rfl, h.w v0 (by simp), h.w v1 (by simp), h.w v2 (by simp), h.w v3 (by simp)⟩
  | [], h => have := h.len; simp at this
  | [_], h => have := h.len; simp at this
  | [_, _], h => have := h.len; simp at this
  | _ :: _ :: _ :: _ :: _ :: _, h => have := h.len; simp at this
theorem ok_bad_placesG (C : Ctx K mg a) : FnAt P w K mg base CX0 6 "bad_places" ["form"] (SpP K (fun ws : List (List Int) => [fm a.Form ws]) Frm (fun ws d => ∃ L, d = lI L ∧ BadG ws L)) := by
  refine fn_at C.d_bad_places sc_bad_places (fun _ => rfl) fun f cdv A outer s H E hr => ⟨_, (pss_one (ps_ret (pe_ifExp (pt_cmpR (op_gEq (K := K) (by exact hr.units)) (pe_len (K := K) C.B.len rfl (pa_cons (pe_at (K := K) (pv 0)) pa_nil)) pe_int (nomark _)) (pe_fn (ok_bars_of C) (hr.mono (by omega)) rfl (pa_cons (pe_new (ok_Normal C) (hr.mono (by omega)) rfl (pa_cons (pe_at (K := K) (pv 0)) pa_nil)) pa_nil)) (pe_fn (ok_four_bars C) (hr.mono (by omega)) rfl (pa_cons (pe_at (K := K) (pv 0)) pa_nil))))), fun ws e hp he => ?_⟩
  have hp : Frm ws := hp
  dsimp only [cxOf]
  refine r_ret ?_
  refine ev_if ?_
  refine et_test (ev_op (ev_cb (ea_cons (ev_at ?_))))
  walk_at "d"
  refine ⟨_, _, _, rfl, C.k_Form.cl, C.n_Form_rows, _, _, rfl, rfl, ?_⟩
  walk_at "d"
  rcases frm_cases hp with ⟨v0, v1, v2, rfl, w0, w1, w2⟩ | ⟨v0, v1, v2, v3, rfl, w0, w1, w2, w3⟩
  · refine iteT ?_
    walk_at "d"
    refine ec_new ?_
    refine ea_cons (ev_at ?_)
    walk_at "d"
    refine ⟨_, _, _, rfl, C.k_Form.cl, C.n_Form_rows, _, _, rfl, rfl, ?_⟩
    walk_at "d"
    refine ⟨(v0, v1, v2), rfl, ⟨w0, w1, w2⟩, fun ds hds => ?_⟩
    obtain ⟨x, ex, hx, nm, s0, s1, s2⟩ := NmD.nv (C := a.Normal) w0 w1 w2 hds
    rw [ex]
    have no : NmOf v0 v1 v2 x := ⟨nm, s0, s1, s2⟩
    have fi := no.fine w0 w1 w2 hx
    walk_at "d"
    refine ⟨x, rfl, fi, ?_⟩
    rintro _ ⟨L, rfl, asc, hL⟩
    exact ret_v ⟨L, rfl, x, fi, no, asc, hL⟩
  · refine iteF ?_
    refine ec_callP (ea_cons (ev_at ?_))
    walk_at "d"
    refine ⟨_, _, _, rfl, C.k_Form.cl, C.n_Form_rows, _, _, rfl, rfl, ?_⟩
    walk_at "d"
    refine ⟨(v0, v1, v2, v3), rfl, ⟨w0, w1, w2, w3⟩, ?_⟩
    rintro _ ⟨L, rfl, hL⟩
    exact ret_v ⟨L, rfl, hL⟩
theorem ok_has_answerG (C : Ctx K mg a) : FnAt P w K mg base CX0 7 "has_answer" ["form"] (SpP K (fun ws : List (List Int) => [fm a.Form ws]) Frm (fun ws d => ∃ L, d = .bl (decide (L = [])) ∧ BadG ws L)) := by
  refine fn_at C.d_has_answer sc_has_answer (fun _ => rfl) fun f cdv A outer s H E hr => ⟨_, (pss_one (ps_ret (pe_cmpR (op_gEq (K := K) (by exact hr.units)) (pe_fn (ok_bad_placesG C) (hr.mono (by omega)) rfl (pa_cons (pv 0) pa_nil)) (pe_lst pa_nil) (nomark _)))), fun ws e hp he => ?_⟩
  dsimp only [cxOf]
  walk_at "d"
  refine ⟨ws, rfl, hp, ?_⟩
  rintro _ ⟨L, rfl, bL⟩
  walk_at "d"
  refine g_eqD 5 (pl_lstI (n := 4) (nI L)) rfl (by decide) ?_
  rw [eqv_nil]
  exact ret_v ⟨L, rfl, bL⟩
theorem hit_nobar {ws : List (List Int)} (hp : Frm ws) {r : List Int} (hl : r.length = ws.length) (h : hit (ws.map prodL) r = true) {L : List Nat} (b : BadG ws L) : L = [] := by
  unfold hit at h
  rw [Bool.and_eq_true, decide_eq_true_eq, decide_eq_true_eq] at h
  obtain ⟨h1, h2⟩ := h
  rcases frm_cases hp with ⟨v0, v1, v2, rfl, w0, w1, w2⟩ | ⟨v0, v1, v2, v3, rfl, w0, w1, w2, w3⟩
  · match r, hl with
    | [x, y, z], _ =>
      refine answer_nobar w0 w1 w2 b (X := x) (Y := y) (Z := z) (fun hz => ?_) ?_
      · obtain ⟨rfl, rfl, rfl⟩ := hz
        exact absurd h1 (by decide)
      · have e : comeL ([v0, v1, v2].map prodL) [x, y, z] = prodL v0 * x * x + (prodL v1 * y * y + (prodL v2 * z * z + 0)) := rfl
        rw [e] at h2
        rw [← Int.mul_assoc, ← Int.mul_assoc, ← Int.mul_assoc]
        omega
  · match r, hl with
    | [x, y, z, w], _ =>
      refine four_nobar w0 w1 w2 w3 b (x := x) (y := y) (z := z) (w := w) (fun hz => ?_) ?_
      · obtain ⟨rfl, rfl, rfl, rfl⟩ := hz
        exact absurd h1 (by decide)
      · have e : comeL ([v0, v1, v2, v3].map prodL) [x, y, z, w] = prodL v0 * x * x + (prodL v1 * y * y + (prodL v2 * z * z + (prodL v3 * w * w + 0))) := rfl
        rw [e] at h2
        rw [← Int.mul_assoc, ← Int.mul_assoc, ← Int.mul_assoc, ← Int.mul_assoc]
        omega

end
section
variable {P : Program} {w : World} {K : PySem.W.Frag} {mg : Str → Option Value} {base : Heap} {a : Adr}
/-! ### what a row comes to, as the law counts -/
theorem x_ixS {K : PySem.W.Frag} {M : List MO} {Q : Sl → Prop} {b : Bool} {ds : List D} {i : Int} (h : ∃ d, atI ds i = some d ∧ Q (.v d)) : EvR K (rIx K) M (.v (D.seq b ds)) (.v (.int i)) Q := by
  cases b with
  | true => exact x_ixT h
  | false => exact x_ixL h
theorem atI_nat {ds : List D} {i : Nat} {d : D} (h : ds[i]? = some d) : atI ds (i : Int) = some d := by
  have hl := (List.getElem?_eq_some_iff.mp h).1
  unfold atI ixN
  have h1 : (i : Int) < (ds.length : Int) := by omega
  simp [h1, h]
theorem ok__law_come (C : Ctx K mg a) : FnAt P w K mg base CX0 1 "_law_come" ["_law_numbers", "_law_row"] (SpP K (fun x : Bool × List Int × Bool × List Int => [D.seq x.1 (D.ints x.2.1), D.seq x.2.2.1 (D.ints x.2.2.2)]) (fun x => (x.2.1.length = x.2.2.2.length ∧ x.2.1.length ≤ 1000) ∧ (∀ n, n ∈ x.2.1 → n.natAbs < 2 ^ 4000) ∧ ∀ o, o ∈ x.2.2.2 → o.natAbs < 2 ^ 90000) (fun x d => d = .int (comeL x.2.1 x.2.2.2))) := by
  refine fn_at C.d__law_come sc__law_come (fun _ => rfl) fun f cdv A outer s H E hr => ⟨_, (pss_one (ps_ret (pe_sum (K := K) C.B.sum rfl rfl (pa_cons (pe_lc (own := [("_law_at", 2)]) (g := (gName 2)) (tt := tYes) rfl sc__law_come.nd (pi_range1 rfl C.B.range (pa_cons (pe_len (K := K) C.B.len rfl (pa_cons (pv 1) pa_nil)) pa_nil)) (blkOk_by (N := n__law_come) (sc := defScope s__law_come) (by decide +kernel)) (fun _ _ _ _ _ => (pg_name (i := 2) sc__law_come.nd rfl (by first | exact Or.inl rfl | exact Or.inr rfl))) (fun _ _ _ _ _ => pts_nil) (fun _ _ _ _ _ => (pe_op (op_gMul (K := K)) (pe_op (op_gMul (K := K)) (pe_ix (ix_any (K := K)) (pv 0) (pv 2) (fun _ _ => rfl)) (pe_ix (ix_any (K := K)) (pv 1) (pv 2) (fun _ _ => rfl))) (pe_ix (ix_any (K := K)) (pv 1) (pv 2) (fun _ _ => rfl))))) pa_nil)))), fun x e hp he => ?_⟩
  obtain ⟨b1, ns, b2, ms⟩ := x
  obtain ⟨⟨hl, h3⟩, hn, hm⟩ := hp
  have hl : ns.length = ms.length := hl
  have h3 : ns.length ≤ 1000 := h3
  have hn : ∀ n, n ∈ ns → n.natAbs < 2 ^ 4000 := hn
  have hm : ∀ o, o ∈ ms → o.natAbs < 2 ^ 90000 := hm
  dsimp only [cxOf]
  refine r_ret ?_
  refine ev_cb (ea_cons (ev_lcM (fun d => match d with | .raw (.int i) => .int (ns.getD i.toNat 0 * ms.getD i.toNat 0 * ms.getD i.toNat 0) | _ => d) (ei_range1 ?_)))
  walk_at "d"
  refine ⟨(ms.length : Int), by simp [D.ints], by omega, by omega, by rw [rangeD_len]; omega, fun i d hd => ?_, ?_⟩
  · obtain ⟨il, rfl⟩ := rangeD_get hd
    have il : i < ms.length := by simpa using il
    rw [Int.zero_add]
    have g1 : ns[i]? = some (ns.getD i 0) := by rw [List.getD_eq_getElem?_getD, List.getElem?_eq_getElem (by omega)]; rfl
    have g2 : ms[i]? = some (ms.getD i 0) := by rw [List.getD_eq_getElem?_getD, List.getElem?_eq_getElem il]; rfl
    have e1 : (D.ints ns)[i]? = some (.int (ns.getD i 0)) := by rw [D.ints, List.getElem?_map, g1]; rfl
    have e2 : (D.ints ms)[i]? = some (.int (ms.getD i 0)) := by rw [D.ints, List.getElem?_map, g2]; rfl
    have nb := hn _ (List.mem_of_getElem? g1)
    have ob := hm _ (List.mem_of_getElem? g2)
    have et : ((i : Int)).toNat = i := by omega
    dsimp only
    rw [et]
    walk_at "d"
    refine x_ixS ⟨_, atI_nat e1, ?_⟩
    walk_at "d"
    refine x_ixS ⟨_, atI_nat e2, ?_⟩
    walk_at "d"
    refine ⟨mulW nb ob (by decide), ?_⟩
    walk_at "d"
    refine x_ixS ⟨_, atI_nat e2, ?_⟩
    walk_at "d"
    refine ⟨mulW (mul_lt nb ob) ob (by decide), ?_⟩
    exact rfl
  · have em : (rangeD 0 ((ms.length : Int).toNat)).map (fun d => match d with | .raw (.int i) => D.int (ns.getD i.toNat 0 * ms.getD i.toNat 0 * ms.getD i.toNat 0) | _ => d) = D.ints (List.zipWith (fun n o => n * o * o) ns ms) := by
      have et : ((ms.length : Int)).toNat = ms.length := by omega
      rw [et]
      apply List.ext_getElem?
      intro i
      rw [List.getElem?_map, D.ints, List.getElem?_map, List.getElem?_zipWith]
      by_cases il : i < ms.length
      · have e1 : (rangeD 0 ms.length)[i]? = some (.int (0 + (i : Int))) := by simp [rangeD, il]
        have g1 : ns[i]? = some (ns.getD i 0) := by rw [List.getD_eq_getElem?_getD, List.getElem?_eq_getElem (by omega)]; rfl
        have g2 : ms[i]? = some (ms.getD i 0) := by rw [List.getD_eq_getElem?_getD, List.getElem?_eq_getElem il]; rfl
        rw [e1, g1, g2, Int.zero_add]
        simp
      · have e1 : (rangeD 0 ms.length)[i]? = none := by rw [List.getElem?_eq_none]; rw [rangeD_len]; omega
        have e2 : ms[i]? = none := List.getElem?_eq_none (by omega)
        rw [e1, e2]
        cases ns[i]? <;> rfl
    rw [em]
    walk_at "d"
    exact ec_sum .v (ret_v rfl)

end
section
variable {P : Program} {w : World} {K : PySem.W.Frag} {mg : Str → Option Value} {base : Heap} {a : Adr}
/-! ### all rows, as the law lists them -/
theorem ok__law_rows (C : Ctx K mg a) : FnAt P w K mg base CX0 1 "_law_rows" ["_law_many", "_law_most"] (SpP K (fun x : Nat × Nat => [.int (x.1 : Int), .int (x.2 : Int)]) (fun x => x.1 ≤ 4 ∧ x.2 ≤ 9) (fun x d => d = .lst ((rowsL x.2 x.1).map rD))) := by
  refine fn_at C.d__law_rows sc__law_rows (fun _ => rfl) fun f cdv A outer s H E hr => ⟨_, (pss_cons (ps_set (i := 2) sc__law_rows.nd rfl (by first | exact Or.inl rfl | exact Or.inr rfl) (pe_lst (pa_cons (pe_tup pa_nil) pa_nil)))
    (pss_cons (ps_for PassesOwn.never rfl (pi_range1 rfl C.B.range (pa_cons (pv 0) pa_nil)) (pg_name (i := 3) sc__law_rows.nd rfl (by first | exact Or.inl rfl | exact Or.inr rfl))
    (pss_cons (ps_set (i := 4) sc__law_rows.nd rfl (by first | exact Or.inl rfl | exact Or.inr rfl) (pe_lst pa_nil))
    (pss_cons (ps_for PassesOwn.never rfl (pi_seq (K := K) (pv 2)) (pg_name (i := 5) sc__law_rows.nd rfl (by first | exact Or.inl rfl | exact Or.inr rfl))
    (pss_one (ps_set (i := 4) sc__law_rows.nd rfl (by first | exact Or.inl rfl | exact Or.inr rfl) (pe_op (op_gAdd (K := K)) (pv 4) (pe_lc (own := [("_law_one", 6)]) (g := (gName 6)) (tt := tYes) rfl sc__law_rows.nd (pi_range1 rfl C.B.range (pa_cons (pe_op (op_gAdd (K := K)) (pv 1) pe_int) pa_nil)) (blkOk_by (N := n__law_rows) (sc := defScope s__law_rows) (by decide +kernel)) (fun _ _ _ _ _ => (pg_name (i := 6) sc__law_rows.nd rfl (by first | exact Or.inl rfl | exact Or.inr rfl))) (fun _ _ _ _ _ => pts_nil) (fun _ _ _ _ _ => (pe_op (op_gAdd (K := K)) (pv 5) (pe_tup (pa_cons (pv 6) pa_nil)))))))))
    (pss_one (ps_set (i := 2) sc__law_rows.nd rfl (by first | exact Or.inl rfl | exact Or.inr rfl) (pv 4))))))
    (pss_one (ps_ret (pv 2))))), fun x e hp he => ?_⟩
  obtain ⟨n, m⟩ := x
  obtain ⟨hn, hm⟩ := hp
  have hn : n ≤ 4 := hn
  have hm : m ≤ 9 := hm
  dsimp only [cxOf]
  walk_at "d"
  refine r_asg ?_
  walk_at "d"
  refine r_for [3] ?_
  refine ei_range1 ?_
  walk_at "d"
  refine ⟨_, rfl, by omega, by omega, fun i ρ M => ∃ o3 o4 o5 : Option Sl, ρ = [some (.v (.int (n : Int))), some (.v (.int (m : Int))), some (.v (.lst ((rowsL m i).map rD))), o3, o4, o5, none] ∧ M = [], ⟨_, _, _, rfl, rfl⟩, ?_, ?_⟩
  · rintro i d ρ M hi ⟨o3, o4, o5, rfl, rfl⟩
    obtain ⟨il, rfl⟩ := rangeD_get hi
    have il : i < n := by simpa using il
    have bnd := rows_bound hm (show i + 1 ≤ 4 by omega)
    walk_at "d"
    refine r_asg ?_
    walk_at "d"
    refine r_seq (r_for [5] ?_)
    refine ei_seqL ?_
    walk_at "d"
    refine ⟨_, rfl, fun j ρ M => ∃ o5 : Option Sl, ρ = [some (.v (.int (n : Int))), some (.v (.int (m : Int))), some (.v (.lst ((rowsL m i).map rD))), some (.v (.int (0 + (i : Int)))), some (.v (.lst ((((rowsL m i).take j).flatMap fun r => (List.range (m + 1)).map fun o : Nat => r ++ [(o : Int)]).map rD))), o5, none] ∧ M = [], ⟨_, rfl, rfl⟩, ?_, ?_⟩
    · rintro j d ρ M hj ⟨o5, rfl, rfl⟩
      obtain ⟨r, hr', rfl⟩ := map_get hj
      have rl := rows_len r (List.mem_of_getElem? hr')
      have jl := (List.getElem?_eq_some_iff.mp hr').1
      have key : ∀ l : List (List Int), (l.flatMap fun r => (List.range (m + 1)).map fun o : Nat => r ++ [(o : Int)]).length = l.length * (m + 1) := by
        intro l
        induction l with
        | nil => simp
        | cons r l ih => rw [List.flatMap_cons, List.length_append, ih, List.length_cons]; simp; grind
      have hlen : ((rowsL m i).take j).length * (m + 1) + (m + 1) ≤ 10000 := by
        have h1 : (rowsL m (i + 1)).length = (rowsL m i).length * (m + 1) := by rw [rows_many, rows_many, Nat.pow_succ]
        have h2 : ((rowsL m i).take j).length + 1 ≤ (rowsL m i).length := by rw [List.length_take]; omega
        have h3 := Nat.mul_le_mul_right (m + 1) h2
        rw [Nat.add_mul, Nat.one_mul] at h3
        omega
      walk_at "d"
      refine r_asg ?_
      walk_at "d"
      refine ev_lcM (fun e => match e with | e => D.tup (D.ints r ++ [e])) (ei_range1 ?_)
      walk_at "d"
      refine ⟨_, rfl, by omega, by omega, by rw [rangeD_len]; omega, fun l d1 hl => ?_, ?_⟩
      · obtain ⟨ll, rfl⟩ := rangeD_get hl
        walk_at "d"
        refine g_addT (by simp [D.ints]; omega) rfl
      · have et : ((m : Int) + 1).toNat = m + 1 := by omega
        rw [et]
        have em : (rangeD 0 (m + 1)).map (fun e => match e with | e => D.tup (D.ints r ++ [e])) = ((List.range (m + 1)).map fun o : Nat => r ++ [(o : Int)]).map rD := by
          simp only [rangeD, List.map_map]
          refine List.map_congr_left fun o _ => ?_
          show D.tup (D.ints r ++ [D.int (0 + (o : Int))]) = D.tup (D.ints (r ++ [(o : Int)]))
          rw [Int.zero_add]
          simp [D.ints]
        rw [em]
        refine g_addL .v .v (by rw [List.length_map, List.length_map, key, List.length_map, List.length_range]; omega) ?_
        have e7 : ((((rowsL m i).take j).flatMap fun r => (List.range (m + 1)).map fun o : Nat => r ++ [(o : Int)]).map rD) ++ (((List.range (m + 1)).map fun o : Nat => r ++ [(o : Int)]).map rD) = ((((rowsL m i).take (j + 1)).flatMap fun r => (List.range (m + 1)).map fun o : Nat => r ++ [(o : Int)]).map rD) := by
          rw [← List.map_append, take_snoc hr', List.flatMap_append]
          simp
        rw [e7]
        exact ⟨_, rfl, rfl⟩
    · rintro ρ M ⟨o5, rfl, rfl⟩
      rw [List.length_map, List.take_length]
      refine r_next ?_
      refine r_asg ?_
      walk_at "d"
      exact ⟨_, _, _, rfl, rfl⟩
  · rintro ρ M ⟨o3, o4, o5, rfl, rfl⟩
    rw [rangeD_len]
    walk_at "d"
    refine ret_v ?_
    have : (n : Int).toNat = n := by omega
    rw [this]

end
section
variable {P : Program} {w : World} {K : PySem.W.Frag} {mg : Str → Option Value} {base : Heap} {a : Adr}
/-! ### two values of one datum are alike -/
theorem pl_tame {n : Nat} {d : D} (h : d.pl n = true) : Tame d := by
  match d, h with
  | .raw .non, _ => exact .non
  | .raw (.bl b), _ => exact .bl b
  | .raw (.int b), _ => exact .int b
  | .raw (.str b), _ => exact .str b
  | .raw (.byt b), h => simp [D.pl] at h
  | .raw (.flt b), h => simp [D.pl] at h
  | .raw (.ref b), h => simp [D.pl] at h
  | .raw (.ty b), h => simp [D.pl] at h
  | .tup ds, _ => exact .tup ds
  | .lst ds, _ => exact .lst ds
  | .dic _ _, h => simp [D.pl] at h
  | .ins _ _ _, h => simp [D.pl] at h
  | .rd _, h => simp [D.pl] at h
theorem plAll_mem {n : Nat} : ∀ {ds : List D} {d : D}, D.plAll n ds = true → d ∈ ds → d.pl n = true
  | c :: ds, d, h, hm => by
    simp only [D.plAll, Bool.and_eq_true] at h
    rcases List.mem_cons.mp hm with e | e
    · rw [e]; exact h.1
    · exact plAll_mem h.2 e
/-- .. not too long, at any depth -/
def shD : Nat → D → Prop
  | n + 1, .tup ds => ds.length ≤ 1000000 ∧ ∀ d, d ∈ ds → shD n d
  | n + 1, .lst ds => ds.length ≤ 1000000 ∧ ∀ d, d ∈ ds → shD n d
  | _, _ => True
theorem filter_nil {I : Nat → List D → Prop} : True := trivial
theorem ok__law_alike (C : Ctx K mg a) : ∀ n : Nat, n ≤ 60 → FnAt P w K mg base CX0 n "_law_alike" ["_law_found", "_law_due"] (SpP K (fun d : D => [d, d]) (fun d => ∃ m, n = m + 1 ∧ d.pl m = true ∧ shD m d) (fun d r => r = .bl true)) := by
  intro n
  induction n with
  | zero => exact fun _ => fn_never C.d__law_alike fun d ⟨m, e, _⟩ => by omega
  | succ n ih =>
    intro hn
    have ih := ih (by omega)
    refine fn_at C.d__law_alike sc__law_alike (fun _ => rfl) fun f cdv A outer s H E hr => ⟨_, (pss_cons (ps_if (pt_val (pe_isiT (K := K) C.B.isinstance rfl (pa_cons (pv 1) (pa_cons (pe_tup (pa_cons (pe_bltn (v := .ty "tuple") rfl C.B.tuple (by decide +kernel) rfl) (pa_cons (pe_bltn (v := .ty "list") rfl C.B.list (by decide +kernel) rfl) pa_nil))) pa_nil))))
    (pss_cons (ps_if (PW.pt (pw_or (pt_not (pt_val (pe_isiT (K := K) C.B.isinstance rfl (pa_cons (pv 0) (pa_cons (pe_tup (pa_cons (pe_bltn (v := .ty "tuple") rfl C.B.tuple (by decide +kernel) rfl) (pa_cons (pe_bltn (v := .ty "list") rfl C.B.list (by decide +kernel) rfl) pa_nil))) pa_nil))))) (pw_or1 (pt_cmpR (op_gNe (K := K) (by exact hr.units)) (pe_isi (K := K) C.B.isinstance rfl (pa_cons (pv 0) (pa_cons (pe_bltn (v := .ty "list") rfl C.B.list (by decide +kernel) rfl) pa_nil))) (pe_isi (K := K) C.B.isinstance rfl (pa_cons (pv 1) (pa_cons (pe_bltn (v := .ty "list") rfl C.B.list (by decide +kernel) rfl) pa_nil))) (nomark _)))))
    (pss_one (ps_ret pe_bl))
    pss_nil)
    (pss_cons (ps_if (pt_cmpR (op_gNe (K := K) (by exact hr.units)) (pe_len (K := K) C.B.len rfl (pa_cons (pv 0) pa_nil)) (pe_len (K := K) C.B.len rfl (pa_cons (pv 1) pa_nil)) (nomark _))
    (pss_one (ps_ret pe_bl))
    pss_nil)
    (pss_one (ps_ret (pe_cmpR (op_gEq (K := K) (by exact hr.units)) (pe_lc (own := [("_law_k", 2)]) (g := (gName 2)) (tt := _) rfl sc__law_alike.nd (pi_range1 rfl C.B.range (pa_cons (pe_len (K := K) C.B.len rfl (pa_cons (pv 1) pa_nil)) pa_nil)) (blkOk_by (N := n__law_alike) (sc := defScope s__law_alike) (by decide +kernel)) (fun _ _ _ _ _ => (pg_name (i := 2) sc__law_alike.nd rfl (by first | exact Or.inl rfl | exact Or.inr rfl))) (fun _ _ _ _ _ => (pts_one (pt_not (pt_val (pe_fn (ih) (hr.mono (by omega)) rfl (pa_cons (pe_ix (ix_any (K := K)) (pv 0) (pv 2) (fun _ _ => rfl)) (pa_cons (pe_ix (ix_any (K := K)) (pv 1) (pv 2) (fun _ _ => rfl)) pa_nil))))))) (fun _ _ _ _ _ => (pv 2))) (pe_lst pa_nil) (nomark _))))))
    pss_nil)
    (pss_cons (ps_if (PW.pt (pw_or (pt_cmpR op_gIs (pv 1) pe_non (nomark _)) (pw_or1 (pt_val (pe_isi (K := K) C.B.isinstance rfl (pa_cons (pv 1) (pa_cons (pe_bltn (v := .ty "str") rfl C.B.str (by decide +kernel) rfl) pa_nil)))))))
    (pss_one (ps_ret (pe_and (pe_cmpR (op_gEq (K := K) (by exact hr.units)) (pv 0) (pv 1) (nomark _)) (pe_one (pe_cmpR (op_gEq (K := K) (by exact hr.units)) (pe_isi (K := K) C.B.isinstance rfl (pa_cons (pv 0) (pa_cons (pe_bltn (v := .ty "str") rfl C.B.str (by decide +kernel) rfl) pa_nil))) (pe_isi (K := K) C.B.isinstance rfl (pa_cons (pv 1) (pa_cons (pe_bltn (v := .ty "str") rfl C.B.str (by decide +kernel) rfl) pa_nil))) (nomark _))))))
    pss_nil)
    (pss_one (ps_ret (pe_and (pe_isi (K := K) C.B.isinstance rfl (pa_cons (pv 0) (pa_cons (pe_bltn (v := .ty "int") rfl C.B.int (by decide +kernel) rfl) pa_nil))) (pe_and (pe_cmpR (op_gEq (K := K) (by exact hr.units)) (pe_isi (K := K) C.B.isinstance rfl (pa_cons (pv 0) (pa_cons (pe_bltn (v := .ty "bool") rfl C.B.bool (by decide +kernel) rfl) pa_nil))) (pe_isi (K := K) C.B.isinstance rfl (pa_cons (pv 1) (pa_cons (pe_bltn (v := .ty "bool") rfl C.B.bool (by decide +kernel) rfl) pa_nil))) (nomark _)) (pe_one (pe_cmpR (op_gEq (K := K) (by exact hr.units)) (pv 0) (pv 1) (nomark _))))))))), fun d e hp he => ?_⟩
    obtain ⟨m, e1, hpl, hsh⟩ := hp
    have e1 : m = n := by omega
    subst e1
    have ht := pl_tame hpl
    dsimp only [cxOf]
    walk_at "d"
    refine ⟨d, "tuple", "list", rfl, rfl, ht, _, _, kb_tup ht, kb_lst ht, ?_⟩
    have cs : (∃ ds, (d = .tup ds ∨ d = .lst ds) ∧ ds.length ≤ 1000000 ∧ ∀ x, x ∈ ds → ∃ k, m = k + 1 ∧ x.pl k = true ∧ shD k x) ∨ (∃ v, d = .raw v) := by
      match m, d, hpl, hsh with
      | _, .raw v, _, _ => exact .inr ⟨v, rfl⟩
      | 0, .tup ds, h, _ => simp [D.pl] at h
      | 0, .lst ds, h, _ => simp [D.pl] at h
      | k + 1, .tup ds, h, h2 => exact .inl ⟨ds, .inl rfl, h2.1, fun x hx => ⟨k, rfl, plAll_mem (by simpa [D.pl] using h) hx, h2.2 x hx⟩⟩
      | k + 1, .lst ds, h, h2 => exact .inl ⟨ds, .inr rfl, h2.1, fun x hx => ⟨k, rfl, plAll_mem (by simpa [D.pl] using h) hx, h2.2 x hx⟩⟩
      | _, .dic _ _, h, _ => simp [D.pl] at h
      | _, .ins _ _ _, h, _ => simp [D.pl] at h
      | _, .rd _, h, _ => simp [D.pl] at h
    rcases cs with ⟨ds, z, hl, hx⟩ | ⟨v, rfl⟩
    · rcases z with rfl | rfl
      all_goals
        refine ⟨_, rfl, iteT ?_⟩
        walk_at "d"
        refine ⟨_, "tuple", "list", rfl, rfl, ht, _, _, kb_tup ht, kb_lst ht, ?_⟩
        refine ⟨_, rfl, iteF ?_⟩
        walk_at "d"
        refine ite_ndec (fun h => (h rfl).elim) (fun _ => ?_)
        walk_at "d"
        refine ite_ndec (fun h => (h rfl).elim) (fun _ => ?_)
        walk_at "d"
        refine ev_lc (ei_range1 ?_)
        walk_at "d"
        refine ⟨_, rfl, by omega, by omega, by rw [rangeD_len]; omega, fun _ acc => acc = [], rfl, ?_, ?_⟩
        · rintro i c acc hi rfl
          obtain ⟨hil, rfl⟩ := rangeD_get hi
          have hil : i < ds.length := by omega
          have hget : atI ds (0 + (i : Int)) = some ds[i] := by rw [Int.zero_add]; exact atI_nat (List.getElem?_eq_getElem hil)
          walk_at "d"
          refine ⟨ds[i], hget, ?_⟩
          walk_at "d"
          refine ⟨ds[i], hget, ?_⟩
          walk_at "d"
          refine ⟨ds[i], rfl, hx _ (List.getElem_mem hil), fun r hr' => ?_⟩
          subst hr'
          refine ⟨_, rfl, iteF rfl⟩
        · rintro acc rfl
          walk_at "d"
          refine g_eqD 1 rfl rfl (by decide) ?_
          exact ret_v rfl
    · match v, hpl with
      | .non, _ =>
        refine ⟨_, rfl, iteF ?_⟩
        walk_at "d"
        refine iteT (iteT ?_)
        walk_at "d"
        refine iteT ?_
        walk_at "d"
        exact ret_v rfl
      | .bl b, _ =>
        refine ⟨_, rfl, iteF ?_⟩
        walk_at "d"
        refine iteF ?_
        walk_at "d"
        refine iteF ?_
        walk_at "d"
        refine iteT ?_
        walk_at "d"
        refine ite_dec (fun _ => ?_) (fun h => (h rfl).elim)
        walk_at "d"
        exact ret_v (by rw [decide_eq_true rfl])
      | .int b, _ =>
        refine ⟨_, rfl, iteF ?_⟩
        walk_at "d"
        refine iteF ?_
        walk_at "d"
        refine iteF ?_
        walk_at "d"
        refine iteT ?_
        walk_at "d"
        refine ite_dec (fun _ => ?_) (fun h => (h rfl).elim)
        walk_at "d"
        exact ret_v (by rw [decide_eq_true rfl])
      | .str b, _ =>
        refine ⟨_, rfl, iteF ?_⟩
        walk_at "d"
        refine iteF ?_
        walk_at "d"
        refine iteT ?_
        walk_at "d"
        refine ite_dec (fun _ => ?_) (fun h => (h rfl).elim)
        walk_at "d"
        exact ret_v rfl

end
section
variable {P : Program} {w : World} {K : PySem.W.Frag} {mg : Str → Option Value} {base : Heap} {a : Adr}
theorem wt_of (ns : List Int) (h1 : 1 ≤ ns.length) (h2 : ns.length ≤ 5) (h3 : ∀ n, n ∈ ns → n ≠ 0 ∧ n.natAbs ≤ 1000000) : Wt ns := ⟨h1, h2, h3⟩
theorem ok__law_weight (C : Ctx K mg a) : FnAt P w K mg base CX0 3 "_law_weight" ["_law_h"] (SpG K (fun _ : Unit => []) (fun _ => True) (fun _ d => ∃ ns, d = wt ns ∧ Wt ns)) := by
  refine fn_at C.d__law_weight sc__law_weight (fun _ => rfl) fun f cdv A outer s H E hr => ⟨_, (pss_cons (ps_par (i := 2) (j := 3) rfl sc__law_weight.nd rfl rfl (by decide) rfl rfl (pa_cons (pe_lst pa_nil) (pa_cons (pe_fn (ok__law_pick C) (hr.mono (by omega)) rfl (pa_cons (pv 0) (pa_cons (pe_lst (pa_cons pe_int (pa_cons pe_int (pa_cons pe_int (pa_cons pe_int (pa_cons pe_int (pa_cons (pe_op op_gPow pe_int pe_int) pa_nil))))))) pa_nil))) pa_nil)) rfl)
    (pss_cons (ps_for PassesOwn.never rfl (pi_range1 rfl C.B.range (pa_cons (pe_fn (ok__law_pick C) (hr.mono (by omega)) rfl (pa_cons (pv 0) (pa_cons (pe_lst (pa_cons pe_int (pa_cons pe_int (pa_cons pe_int (pa_cons pe_int (pa_cons pe_int (pa_cons pe_int pa_nil))))))) pa_nil))) pa_nil)) (pg_name (i := 1) sc__law_weight.nd rfl (by first | exact Or.inl rfl | exact Or.inr rfl))
    (pss_one (ps_expr (pe_bm PySem.F.plainAttrs_list PySem.F.slot_list_append PySem.F.type_list_append mt_append (pv 2) (pa_cons (pe_op (op_gMul (K := K)) (pe_op (op_gAdd (K := K)) pe_int (pe_fn (ok__law_next C) (hr.mono (by omega)) rfl (pa_cons (pv 0) (pa_cons (pv 3) pa_nil)))) (pe_fn (ok__law_pick C) (hr.mono (by omega)) rfl (pa_cons (pv 0) (pa_cons (pe_lst (pa_cons pe_int (pa_cons pe_int (pa_cons (pe_un un_neg pe_int) pa_nil)))) pa_nil)))) pa_nil)))))
    (pss_one (ps_ret (pe_tupOf (K := K) C.B.tuple rfl (pa_cons (pv 2) pa_nil)))))), fun x e hp he => ?_⟩
  have he : e.α.length = 1 := he
  dsimp only [cxOf]
  refine r_seq (r_parN ?_)
  refine ena_cons (en_newL (ea_nil ⟨[], rfl, by decide, ena_cons (en_ev ?_)⟩))
  walk_at "d"
  refine ⟨_, 0, rfl, rfl, ⟨le_lit rfl, le_lit rfl⟩, fun d hd => ?_⟩
  refine ena_nil ⟨_, _, rfl, ?_⟩
  obtain ⟨cap, rfl, c1, c2⟩ : ∃ cap : Int, d = .int cap ∧ 1 ≤ cap ∧ cap ≤ 1000000 := by
    simp only [List.mem_cons, List.not_mem_nil, or_false] at hd
    rcases hd with rfl | rfl | rfl | rfl | rfl | rfl <;> exact ⟨_, rfl, by decide, by decide⟩
  walk_at "d"
  refine r_for [1] ?_
  refine ei_range1 ?_
  walk_at "d"
  refine ⟨_, 0, rfl, rfl, ⟨le_lit rfl, le_lit rfl⟩, fun d hd => ?_⟩
  obtain ⟨q, rfl, q1, q2⟩ : ∃ q : Int, d = .int q ∧ 1 ≤ q ∧ q ≤ 5 := by
    simp only [List.mem_cons, List.not_mem_nil, or_false] at hd
    rcases hd with rfl | rfl | rfl | rfl | rfl | rfl <;> exact ⟨_, rfl, by decide, by decide⟩
  walk_at "d"
  refine ⟨q, rfl, by omega, by omega, fun i ρ M => ∃ (ns : List Int) (o1 : Option Sl), ρ = [some (.l 0), o1, some (.l 1), some (.v (.int cap))] ∧ M = [.rng, .lst (D.ints ns)] ∧ ns.length = i ∧ ∀ n, n ∈ ns → n ≠ 0 ∧ n.natAbs ≤ 1000000, ⟨[], none, rfl, rfl, rfl, fun n h => by simp at h⟩, ?_, ?_⟩
  · rintro i d ρ M hi ⟨ns, o1, rfl, rfl, hl, hb⟩
    obtain ⟨hil, rfl⟩ := rangeD_get hi
    walk_at "d"
    refine ⟨_, 0, rfl, rfl, ⟨by omega, lit_bit (by omega) (by decide)⟩, fun _ ⟨x1, e1, a1, b1⟩ => ?_⟩
    subst e1
    walk_at "d"
    refine ⟨_, 0, rfl, rfl, ⟨le_lit rfl, le_lit rfl⟩, fun d hd => ?_⟩
    obtain ⟨sg, rfl, hs⟩ : ∃ sg : Int, d = .int sg ∧ (sg = 1 ∨ sg = -1) := by
      simp only [List.mem_cons, List.not_mem_nil, or_false] at hd
      rcases hd with rfl | rfl | rfl
      · exact ⟨_, rfl, .inl rfl⟩
      · exact ⟨_, rfl, .inl rfl⟩
      · exact ⟨_, rfl, .inr rfl⟩
    walk_at "d"
    refine ⟨mulW (a := 60) (b := 60) (by omega) (by rcases hs with rfl | rfl <;> decide) (by decide), _, rfl, by simp [D.ints]; omega, ns ++ [(1 + x1) * sg], _, rfl, by simp [D.ints], by simp [hl], fun n hn => ?_⟩
    rcases List.mem_append.mp hn with h | h
    · exact hb n h
    · simp at h
      subst h
      rcases hs with rfl | rfl <;> omega
  · rintro ρ M ⟨ns, o1, rfl, rfl, hl, hb⟩
    walk_at "d"
    rw [rangeD_len] at hl
    exact ret_v ⟨rfl, ns, rfl, by omega, by omega, hb⟩

end
section
variable {P : Program} {w : World} {K : PySem.W.Frag} {mg : Str → Option Value} {base : Heap} {a : Adr}
theorem alike_ok (C : Ctx K mg a) : FnAt P w K mg base CX0 2 "_law_alike" ["_law_found", "_law_due"] (SpP K (fun d : D => [d, d]) (fun d => d = .non ∨ ∃ ns : List Int, d = .tup (D.ints ns) ∧ ns.length ≤ 1000000) (fun d r => r = .bl true)) := by
  refine (ok__law_alike C 2 (by omega)).imp ?_
  rintro vs H Q E ⟨d, α, F, o, S, h, k⟩
  refine ⟨d, α, F, o, S, ⟨1, rfl, ?_, ?_⟩, k⟩
  · rcases h with rfl | ⟨ns, rfl, _⟩
    · rfl
    · exact pl_tupI ns
  · rcases h with rfl | ⟨ns, rfl, h⟩
    · trivial
    · exact ⟨by simpa [D.ints] using h, fun d hd => by
        obtain ⟨n, _, rfl⟩ := List.mem_map.mp hd; trivial⟩
theorem allr_wt {n : Nat} : ∀ {xs ds : List D}, AllR (fun _ d' => ∃ v, d' = wt v ∧ Wt v) xs ds → ∃ ws : List (List Int), ds = ws.map wt ∧ ws.length = xs.length ∧ ∀ v, v ∈ ws → Wt v
  | [], ds, h => by
    have h : ds = [] := h
    subst h
    exact ⟨[], rfl, rfl, fun v hv => by simp at hv⟩
  | x :: xs, ds, ⟨y, r, e, ⟨v, ey, hv⟩, hr⟩ => by
    subst e; subst ey
    obtain ⟨ws, rfl, hl, hw⟩ := allr_wt (n := n) hr
    exact ⟨v :: ws, rfl, by simp [hl], fun u hu => by
      rcases List.mem_cons.mp hu with rfl | h
      · exact hv
      · exact hw u h⟩
theorem wt1 {n : Int} (h : n ≠ 0) (h2 : n.natAbs ≤ 1000000) : Wt [n] := ⟨by simp, by simp, fun k hk => by simp at hk; subst hk; exact ⟨h, h2⟩⟩
theorem ok_law (C : Ctx K mg a) : FnAt P w K mg base CX0 8 "law" ["_law_script"] (SpP K (fun cells : List Int => [.rd (D.ints cells)]) (fun cells => cells.length ≤ 63) (fun _ d => d = .bl true)) := by
  refine fn_at C.d_law sc_law (fun _ => rfl) fun f cdv A outer s H E hr => ⟨_, (pss_cons (ps_set (i := 1) sc_law.nd rfl (by first | exact Or.inl rfl | exact Or.inr rfl) (pe_fn (ok__law_mix C) (hr.mono (by omega)) rfl (pa_cons (pv 0) (pa_cons pe_int pa_nil))))
    (pss_cons (ps_for PassesOwn.never rfl (pi_range1 rfl C.B.range (pa_cons pe_int pa_nil)) (pg_name (i := 2) sc_law.nd rfl (by first | exact Or.inl rfl | exact Or.inr rfl))
    (pss_cons (ps_set (i := 3) sc_law.nd rfl (by first | exact Or.inl rfl | exact Or.inr rfl) (pe_op (op_gAdd (K := K)) pe_int (pe_fn (ok__law_next C) (hr.mono (by omega)) rfl (pa_cons (pv 1) (pa_cons pe_int pa_nil)))))
    (pss_cons (ps_set (i := 4) sc_law.nd rfl (by first | exact Or.inl rfl | exact Or.inr rfl) (pe_tupOf (K := K) C.B.tuple rfl (pa_cons (pe_lc (own := [("_law_k", 9)]) (g := (gName 9)) (tt := tYes) rfl sc_law.nd (pi_range1 rfl C.B.range (pa_cons (pv 3) pa_nil)) (blkOk_by (N := n_law) (sc := defScope s_law) (by decide +kernel)) (fun _ _ _ _ _ => (pg_name (i := 9) sc_law.nd rfl (by first | exact Or.inl rfl | exact Or.inr rfl))) (fun _ _ _ _ _ => pts_nil) (fun _ _ _ _ _ => (pe_slice (slT (K := K)) (pe_fn (ok__law_weight C) (hr.mono (by omega)) rfl (pa_cons (pv 1) pa_nil)) po_none (po_some pe_int)))) pa_nil)))
    (pss_cons (ps_if (pt_cmpR op_gGt (pe_fn (ok__law_next C) (hr.mono (by omega)) rfl (pa_cons (pv 1) (pa_cons pe_int pa_nil))) pe_int (nomark _))
    (pss_one (ps_set (i := 4) sc_law.nd rfl (by first | exact Or.inl rfl | exact Or.inr rfl) (pe_tupOf (K := K) C.B.tuple rfl (pa_cons (pe_lc (own := [("_law_k", 9)]) (g := (gName 9)) (tt := tYes) rfl sc_law.nd (pi_range1 rfl C.B.range (pa_cons (pv 3) pa_nil)) (blkOk_by (N := n_law) (sc := defScope s_law) (by decide +kernel)) (fun _ _ _ _ _ => (pg_name (i := 9) sc_law.nd rfl (by first | exact Or.inl rfl | exact Or.inr rfl))) (fun _ _ _ _ _ => pts_nil) (fun _ _ _ _ _ => (pe_tup (pa_cons (pe_op (op_gMul (K := K)) (pe_fn (ok__law_pick C) (hr.mono (by omega)) rfl (pa_cons (pv 1) (pa_cons (pe_lst (pa_cons pe_int (pa_cons pe_int (pa_cons pe_int (pa_cons pe_int (pa_cons pe_int (pa_cons pe_int pa_nil))))))) pa_nil))) (pe_fn (ok__law_pick C) (hr.mono (by omega)) rfl (pa_cons (pv 1) (pa_cons (pe_lst (pa_cons pe_int (pa_cons (pe_un un_neg pe_int) pa_nil))) pa_nil)))) pa_nil)))) pa_nil))))
    pss_nil)
    (pss_cons (ps_set (i := 5) sc_law.nd rfl (by first | exact Or.inl rfl | exact Or.inr rfl) (pe_op (op_gAdd (K := K)) pe_int (pe_fn (ok__law_next C) (hr.mono (by omega)) rfl (pa_cons (pv 1) (pa_cons (pe_ifExp (pt_cmpR (op_gEq (K := K) (by exact hr.units)) (pv 3) pe_int (nomark _)) (pe_fn (ok__law_pick C) (hr.mono (by omega)) rfl (pa_cons (pv 1) (pa_cons (pe_lst (pa_cons pe_int (pa_cons pe_int (pa_cons pe_int pa_nil)))) pa_nil))) (pe_fn (ok__law_pick C) (hr.mono (by omega)) rfl (pa_cons (pv 1) (pa_cons (pe_lst (pa_cons pe_int (pa_cons pe_int (pa_cons pe_int (pa_cons pe_int pa_nil))))) pa_nil)))) pa_nil)))))
    (pss_cons (ps_par (i := 7) (j := 8) rfl sc_law.nd rfl rfl (by decide) rfl rfl (pa_cons (pe_new (ok_Form C) (hr.mono (by omega)) rfl (pa_cons (pv 4) pa_nil)) (pa_cons pe_non pa_nil)) rfl)
    (pss_cons (ps_for PassesOwn.never rfl (pi_seq (K := K) (pe_fn (ok__law_rows C) (hr.mono (by omega)) rfl (pa_cons (pv 3) (pa_cons (pv 5) pa_nil)))) (pg_name (i := 6) sc_law.nd rfl (by first | exact Or.inl rfl | exact Or.inr rfl))
    (pss_one (ps_if (PW.pt (pw_and (pt_cmpR op_gGt (pe_maxT (K := K) hr.units C.B.max rfl rfl (pa_cons (pv 6) pa_nil)) pe_int (nomark _)) (pw_and1 (pt_cmpR (op_gEq (K := K) (by exact hr.units)) (pe_fn (ok__law_come C) (hr.mono (by omega)) rfl (pa_cons (pe_get C.g_Form_numbers C.k_Form.cl (hr.mono (by omega)) (pv 7)) (pa_cons (pv 6) pa_nil))) pe_int (nomark _)))))
    (pss_one (ps_set (i := 8) sc_law.nd rfl (by first | exact Or.inl rfl | exact Or.inr rfl) (pe_ifExp (PW.pt (pw_or (pt_cmpR op_gIs (pv 8) pe_non (nomark _)) (pw_or1 (pt_cmpR (op_ltD (K := K) hr.units) (pe_tup (pa_cons (pe_maxT (K := K) hr.units C.B.max rfl rfl (pa_cons (pv 6) pa_nil)) (pa_cons (pv 6) pa_nil))) (pe_tup (pa_cons (pe_maxT (K := K) hr.units C.B.max rfl rfl (pa_cons (pv 8) pa_nil)) (pa_cons (pv 8) pa_nil))) (nomark _))))) (pv 6) (pv 8))))
    pss_nil)))
    (pss_one (ps_if (PW.pt (pw_or (pt_not (pt_val (pe_fn (alike_ok C) (hr.mono (by omega)) rfl (pa_cons (pe_fn (ok_small_answer C) (hr.mono (by omega)) rfl (pa_cons (pv 7) (pa_cons (pv 5) pa_nil))) (pa_cons (pv 8) pa_nil))))) (pw_or1 (PW.pt (pw_and (pt_cmpR op_gIsNot (pv 8) pe_non (nomark _)) (pw_and1 (pt_not (pt_val (pe_fn (ok_has_answerG C) (hr.mono (by omega)) rfl (pa_cons (pv 7) pa_nil))))))))))
    (pss_one (ps_ret pe_bl))
    pss_nil)))))))))
    (pss_one (ps_ret pe_bl)))), fun cells e hp he => ?_⟩
  have hp : cells.length ≤ 63 := hp
  dsimp only [cxOf]
  walk_at "d"
  refine r_mix ?_
  walk_at "d"
  refine ⟨cells, 13, rfl, hp, by decide, by decide, ?_⟩
  walk_at "d"
  refine r_for [2] ?_
  refine ei_range1 ?_
  walk_at "d"
  refine ⟨5, rfl, by decide, by decide, fun i ρ M => ∃ o2 o3 o4 o5 o6 o7 o8 o9 : Option Sl, ρ = [some (.v (.rd (D.ints cells))), some (.l 0), o2, o3, o4, o5, o6, o7, o8, o9] ∧ M = [.rng], ⟨_, _, _, _, _, _, _, _, rfl, rfl⟩, ?_, ?_⟩
  · rintro i d ρ M hi ⟨o2, o3, o4, o5, o6, o7, o8, o9, rfl, rfl⟩
    obtain ⟨_, rfl⟩ := rangeD_get hi
    walk_at "d"
    refine r_asg ?_
    walk_at "d"
    refine ⟨_, 0, rfl, rfl, ⟨by decide, lit_bit (by decide) (by decide)⟩, fun _ ⟨x1, e1, a1, b1⟩ => ?_⟩
    subst e1
    obtain ⟨n, en, hn⟩ : ∃ n : Nat, 3 + x1 = (n : Int) ∧ (n = 3 ∨ n = 4) := ⟨(3 + x1).toNat, by omega, by omega⟩
    walk_at "n1"
    rw [en]
    walk_at "d"
    refine r_asg ?_
    refine ev_cb (ea_cons ?_)
    refine ev_lcR (fun d d' => ∃ v, d' = wt v ∧ Wt v) (ei_range1 ?_)
    walk_at "d"
    refine ⟨(n : Int), rfl, by omega, by omega, by rw [rangeD_len]; omega, fun j d hj => ?_, ?_⟩
    · refine eg_name ?_
      refine ev_slT ?_
      walk_at "d"
      refine ⟨(), 0, rfl, rfl, trivial, fun _ ⟨ns, e2, hn⟩ => ?_⟩
      subst e2
      walk_at "d"
      refine ⟨_, rfl, _, rfl, ns.take 2, ?_, hn.take2⟩
      rw [cut2]
    intro ds hds
    obtain ⟨ws0, rfl, hl0, hw0⟩ := allr_wt (n := 0) hds
    rw [rangeD_len] at hl0
    have hl0 : ws0.length = n := by omega
    refine ea_nil (x_tupL ?_)
    -- or small ones
    refine r_seq (r_via (fun ρ' M' => ∃ (ws : List (List Int)) (o5 o6 o7 o8 o9 : Option Sl), ρ' = [some (.v (.rd (D.ints cells))), some (.l 0), some (.v (.int (0 + (i : Int)))), some (.v (.int (n : Int))), some (.v (.tup (ws.map wt))), o5, o6, o7, o8, o9] ∧ M' = [.rng] ∧ Frm ws ∧ ws.length = n) ?_ ?_)
    · walk_at "d"
      refine ⟨_, 0, rfl, rfl, ⟨by decide, lit_bit (by decide) (by decide)⟩, fun _ ⟨x1, e1, a1, b1⟩ => ?_⟩
      subst e1
      walk_at "d"
      refine ite_dec (fun _ => ?_) (fun _ => ?_)
      · refine r_asg ?_
        refine ev_cb (ea_cons ?_)
        refine ev_lcR (fun d d' => ∃ v, d' = wt v ∧ Wt v) (ei_range1 ?_)
        walk_at "d"
        refine ⟨(n : Int), rfl, by omega, by omega, by rw [rangeD_len]; omega, fun j d hj => ?_, ?_⟩
        · walk_at "d"
          refine ⟨_, 0, rfl, rfl, ⟨le_lit rfl, le_lit rfl⟩, fun d hd => ?_⟩
          obtain ⟨x, rfl, x1, x7⟩ : ∃ c : Int, d = .int c ∧ 1 ≤ c ∧ c ≤ 13 := by
            simp only [List.mem_cons, List.not_mem_nil, or_false] at hd
            rcases hd with rfl | rfl | rfl | rfl | rfl | rfl <;> exact ⟨_, rfl, by decide, by decide⟩
          walk_at "d"
          refine ⟨_, 0, rfl, rfl, ⟨le_lit rfl, le_lit rfl⟩, fun d hd => ?_⟩
          obtain ⟨y, rfl, hy⟩ : ∃ c : Int, d = .int c ∧ (c = 1 ∨ c = -1) := by
            simp only [List.mem_cons, List.not_mem_nil, or_false] at hd
            rcases hd with rfl | rfl
            · exact ⟨1, rfl, .inl rfl⟩
            · exact ⟨-1, rfl, .inr rfl⟩
          walk_at "d"
          refine ⟨mulW (a := 60) (b := 60) (by omega) (by omega) (by decide), ?_⟩
          walk_at "d"
          refine ⟨_, rfl, [x * y], rfl, wt1 ?_ ?_⟩
          · rcases hy with rfl | rfl <;> omega
          · rcases hy with rfl | rfl <;> omega
        intro ds hds
        obtain ⟨ws, rfl, hl, hw⟩ := allr_wt (n := 0) hds
        rw [rangeD_len] at hl
        have hl : ws.length = n := by omega
        walk_at "d"
        exact ⟨ws, _, _, _, _, _, rfl, rfl, ⟨by omega, hw⟩, hl⟩
      · walk_at "n"
        exact ⟨ws0, _, _, _, _, _, rfl, rfl, ⟨by omega, hw0⟩, hl0⟩
    rintro ρ' M' ⟨ws, o5', o6', o7', o8', o9', rfl, rfl, fr, hl⟩
    -- the limit
    refine r_seq (r_via (fun ρ' M' => ∃ (m : Nat) (o6 o7 o8 o9 : Option Sl), ρ' = [some (.v (.rd (D.ints cells))), some (.l 0), some (.v (.int (0 + (i : Int)))), some (.v (.int (n : Int))), some (.v (.tup (ws.map wt))), some (.v (.int (m : Int))), o6, o7, o8, o9] ∧ M' = [.rng] ∧ 1 ≤ m ∧ m ≤ 9) ?_ ?_)
    · refine r_asg ?_
      have fin : ∀ {d : D}, (d = .int 2 ∨ d = .int 5 ∨ d = .int 9 ∨ d = .int 4) → ∃ c : Int, d = .int c ∧ 1 ≤ c ∧ c ≤ 9 := fun h => by
        rcases h with rfl | rfl | rfl | rfl <;> exact ⟨_, rfl, by decide, by decide⟩
      walk_at "d"
      refine ite_dec (fun _ => ?_) (fun _ => ?_)
      · walk_at "d"
        refine ⟨_, 0, rfl, rfl, ⟨le_lit rfl, le_lit rfl⟩, fun d hd => ?_⟩
        obtain ⟨c, rfl, c1, c9⟩ := fin (d := d) (by
          simp only [List.mem_cons, List.not_mem_nil, or_false] at hd
          rcases hd with rfl | rfl | rfl <;> simp)
        walk_at "d"
        refine ⟨_, 0, rfl, rfl, ⟨by omega, lit_bit (by omega) (by decide)⟩, fun _ ⟨x1, e1, a1, b1⟩ => ?_⟩
        subst e1
        walk_at "d"
        exact ⟨(1 + x1).toNat, _, _, _, _, by rw [Int.toNat_of_nonneg (by omega)]; rfl, rfl, by omega, by omega⟩
      · walk_at "d"
        refine ⟨_, 0, rfl, rfl, ⟨le_lit rfl, le_lit rfl⟩, fun d hd => ?_⟩
        obtain ⟨c, rfl, c1, c9⟩ := fin (d := d) (by
          simp only [List.mem_cons, List.not_mem_nil, or_false] at hd
          rcases hd with rfl | rfl | rfl | rfl <;> simp)
        walk_at "d"
        refine ⟨_, 0, rfl, rfl, ⟨by omega, lit_bit (by omega) (by decide)⟩, fun _ ⟨x1, e1, a1, b1⟩ => ?_⟩
        subst e1
        walk_at "d"
        exact ⟨(1 + x1).toNat, _, _, _, _, by rw [Int.toNat_of_nonneg (by omega)]; rfl, rfl, by omega, by omega⟩
    rintro ρ' M' ⟨m, o6', o7', o8', o9', rfl, rfl, m1, m9⟩
    have sb : ∀ n, n ∈ ws.map prodL → n.natAbs < 2 ^ 4000 := fun n hn => by
      obtain ⟨v, hv, rfl⟩ := List.mem_map.mp hn
      exact bit_le (fr.w v hv).bit (by decide)
    refine r_seq (r_par ?_)
    refine ea_cons (ec_new ?_)
    walk_at "d"
    refine ⟨ws, rfl, fr, fun ds hds => ?_⟩
    subst hds
    walk_at "n1"
    walk_at "n1"
    walk_at "n1"
    refine ⟨_, _, rfl, ?_⟩
    refine r_seq (r_for [6] ?_)
    refine ei_seqL ?_
    walk_at "d"
    refine ⟨(n, m), rfl, ⟨by omega, m9⟩, fun d ed => ?_⟩
    subst ed
    refine ⟨_, rfl, fun i2 ρ M => ∃ o6 o9 : Option Sl, ρ = [some (.v (.rd (D.ints cells))), some (.l 0), some (.v (.int (0 + (i : Int)))), some (.v (.int (n : Int))), some (.v (.tup (ws.map wt))), some (.v (.int (m : Int))), o6, some (.v (fm a.Form ws)), some (.v (optD (((rowsL m n).take i2).foldl (pick (ws.map prodL)) none))), o9] ∧ M = [.rng], ⟨_, _, rfl, rfl⟩, ?_, ?_⟩
    · rintro i2 d ρ M hi2 ⟨o6, o9, rfl, rfl⟩
      obtain ⟨r, hr', rfl⟩ := map_get hi2
      have hmem := List.mem_of_getElem? hr'
      have rl : r.length = n := rows_len r hmem
      have rr : ∀ o, o ∈ r → 0 ≤ o ∧ o ≤ (m : Int) := rows_rng r hmem
      have hbest := pick_ok (sums := ws.map prodL) (S := rowsL m n) ((rowsL m n).take i2) none (fun q hq => List.mem_of_mem_take hq) (fun b h => by cases h)
      have es : ((rowsL m n).take (i2 + 1)).foldl (pick (ws.map prodL)) none = pick (ws.map prodL) (((rowsL m n).take i2).foldl (pick (ws.map prodL)) none) r := by
        have hr' : (rowsL m n)[i2]? = some r := hr'
        rw [take_snoc hr', List.foldl_append]; rfl
      dsimp only
      rw [es]
      generalize ((rowsL m n).take i2).foldl (pick (ws.map prodL)) none = best at *
      obtain ⟨n1, ns, rfl⟩ : ∃ n ns, r = n :: ns := by
        cases r with
        | nil => simp at rl; omega
        | cons n ns => exact ⟨n, ns, rfl⟩
      walk_at "d"
      refine ec_maxT ?_
      walk_at "d"
      refine ite_dec (fun h1 => ?_) (fun h1 => ?_)
      · have h1 : 0 < maxL (n1 :: ns) := h1
        refine et_test (ev_op (ec_callP (ea_cons (ev_numbers C (ws := ws) ?_))))
        walk_at "d"
        refine ⟨rfl, ?_⟩
        walk_at "d"
        refine ⟨(true, ws.map prodL, true, n1 :: ns), rfl, ⟨⟨by show (ws.map prodL).length = (n1 :: ns).length; rw [List.length_map, rl, hl], by simp; omega⟩, sb, fun o ho => ?_⟩, fun d ed => ?_⟩
        · have := rr o ho
          have h9 : o.natAbs < 2 ^ 60 := by omega
          exact bit_le h9 (by decide)
        subst ed
        walk_at "d"
        refine ite_dec (fun h2 => ?_) (fun h2 => ?_)
        · have hh : hit (ws.map prodL) (n1 :: ns) = true := by
            unfold hit
            rw [decide_eq_true h1, decide_eq_true h2]; rfl
          refine r_asg ?_
          cases best with
          | none =>
            have ep : pick (ws.map prodL) none (n1 :: ns) = some (n1 :: ns) := by unfold pick; rw [if_pos hh]
            rw [ep]
            walk_at "d"
            refine iteT ?_
            refine iteT ?_
            walk_at "d"
            exact ⟨_, _, rfl, rfl⟩
          | some b =>
            have hbl := rows_len b (hbest b rfl).1
            obtain ⟨q, qs, rfl⟩ : ∃ n ns, b = n :: ns := by
              cases b with
              | nil => simp at hbl; omega
              | cons n ns => exact ⟨n, ns, rfl⟩
            walk_at "d"
            refine iteF ?_
            walk_at "d"
            refine ec_maxT ?_
            walk_at "d"
            refine ec_maxT ?_
            walk_at "d"
            refine lt_row (r := n1 :: ns) (b := q :: qs) ?_
            refine ⟨_, rfl, ?_⟩
            refine ite_b (fun h3 => ?_) (fun h3 => ?_)
            · have ep : pick (ws.map prodL) (some (q :: qs)) (n1 :: ns) = some (n1 :: ns) := by unfold pick; rw [if_pos hh]; simp [h3]
              rw [ep]
              walk_at "d"
              exact ⟨_, _, rfl, rfl⟩
            · have ep : pick (ws.map prodL) (some (q :: qs)) (n1 :: ns) = some (q :: qs) := by unfold pick; rw [if_pos hh]; simp [h3]
              rw [ep]
              walk_at "d"
              exact ⟨_, _, rfl, rfl⟩
        · have hh : ¬ hit (ws.map prodL) (n1 :: ns) = true := by
            unfold hit
            rw [decide_eq_false h2]; simp
          unfold pick
          rw [if_neg hh]
          walk_at "n"
          exact ⟨_, _, rfl, rfl⟩
      · have h1 : ¬ 0 < maxL (n1 :: ns) := h1
        have hh : ¬ hit (ws.map prodL) (n1 :: ns) = true := by
          unfold hit
          rw [decide_eq_false h1]; simp
        unfold pick
        rw [if_neg hh]
        refine iteF ?_
        walk_at "n"
        exact ⟨_, _, rfl, rfl⟩
    · rintro ρ M ⟨o6, o9, rfl, rfl⟩
      rw [List.length_map]
      dsimp only
      rw [List.take_length]
      have hbest := pick_ok (sums := ws.map prodL) (S := rowsL m n) (rowsL m n) none (fun q hq => hq) (fun b h => by cases h)
      walk_at "d"
      refine ⟨(ws, m), rfl, ⟨fr, m1, m9⟩, fun d ed => ?_⟩
      have ed : d = optD ((rowsL m n).foldl (pick (ws.map prodL)) none) := by rw [← hl]; exact ed
      subst ed
      generalize (rowsL m n).foldl (pick (ws.map prodL)) none = best at *
      walk_at "d"
      refine ⟨optD best, rfl, ?_, fun r er => ?_⟩
      · cases best with
        | none => exact .inl rfl
        | some b =>
          have hbl := rows_len b (hbest b rfl).1
          exact .inr ⟨b, rfl, by omega⟩
      subst er
      refine ⟨_, rfl, iteF ?_⟩
      walk_at "d"
      cases best with
      | none =>
        refine iteF ?_
        refine iteF ?_
        walk_at "n"
        exact ⟨_, _, _, _, _, _, _, _, rfl, rfl⟩
      | some b =>
        obtain ⟨hb1, hb2⟩ := hbest b rfl
        refine iteT ?_
        walk_at "d"
        refine ⟨ws, rfl, fr, ?_⟩
        rintro _ ⟨L, rfl, bL⟩
        have hz := hit_nobar fr (by rw [hl]; exact rows_len b hb1) hb2 bL
        subst hz
        refine ⟨_, rfl, ?_⟩
        refine iteF ?_
        walk_at "n"
        exact ⟨_, _, _, _, _, _, _, _, rfl, rfl⟩
  · rintro ρ M ⟨o2, o3, o4, o5, o6, o7, o8, o9, rfl, rfl⟩
    walk_at "d"
    exact ret_v rfl

end
end T
open PySem PySem.W PyProof.Rows
set_option maxRecDepth 100000 in
set_option maxHeartbeats 0 in
theorem PySem.Challenge.cw_squareweights_k13_whole_small_answers_holds : PySem.Challenge.rw_squareweights_k13_whole_small_answers.Holds := by
  w_on; o_law; k_head; (case hw => w_witness2)
  k_fill
  refine DL.walk_ofX (l := PySem.Challenge.rw_squareweights_k13_whole_small_answers) (n := 63) (k := 8) (x := "_law_script") (sp := DL.SpLaw) rfl (by decide) rfl ⟨rfl, by decide, by decide⟩ (fun w h Y => PySem.W.kIn_of Y) ?F (fun K H a ns h s => DL.spLaw_of h s)
  case F =>
    intro w mg fa h KX G X hmg
    have b_range : mg "range" = none := by
      refine' PySem.W.mg_none_of KX G ?z
      (case z => k_is)
    have b_len : mg "len" = none := by
      refine' PySem.W.mg_none_of KX G ?z
      (case z => k_is)
    have b_abs : mg "abs" = none := by
      refine' PySem.W.mg_none_of KX G ?z
      (case z => k_is)
    have b_max : mg "max" = none := by
      refine' PySem.W.mg_none_of KX G ?z
      (case z => k_is)
    have b_min : mg "min" = none := by
      refine' PySem.W.mg_none_of KX G ?z
      (case z => k_is)
    have b_sum : mg "sum" = none := by
      refine' PySem.W.mg_none_of KX G ?z
      (case z => k_is)
    have b_any : mg "any" = none := by
      refine' PySem.W.mg_none_of KX G ?z
      (case z => k_is)
    have b_all : mg "all" = none := by
      refine' PySem.W.mg_none_of KX G ?z
      (case z => k_is)
    have b_int : mg "int" = none := by
      refine' PySem.W.mg_none_of KX G ?z
      (case z => k_is)
    have b_str : mg "str" = none := by
      refine' PySem.W.mg_none_of KX G ?z
      (case z => k_is)
    have b_tuple : mg "tuple" = none := by
      refine' PySem.W.mg_none_of KX G ?z
      (case z => k_is)
    have b_list : mg "list" = none := by
      refine' PySem.W.mg_none_of KX G ?z
      (case z => k_is)
    have b_bool : mg "bool" = none := by
      refine' PySem.W.mg_none_of KX G ?z
      (case z => k_is)
    have b_set : mg "set" = none := by
      refine' PySem.W.mg_none_of KX G ?z
      (case z => k_is)
    have b_sorted : mg "sorted" = none := by
      refine' PySem.W.mg_none_of KX G ?z
      (case z => k_is)
    have b_zip : mg "zip" = none := by
      refine' PySem.W.mg_none_of KX G ?z
      (case z => k_is)
    have b_enumerate : mg "enumerate" = none := by
      refine' PySem.W.mg_none_of KX G ?z
      (case z => k_is)
    have b_isinstance : mg "isinstance" = none := by
      refine' PySem.W.mg_none_of KX G ?z
      (case z => k_is)
    have B : DL.Blt mg := ⟨b_range, b_len, b_abs, b_max, b_min, b_sum, b_any, b_all, b_int, b_str, b_tuple, b_list, b_bool, b_set, b_sorted, b_zip, b_enumerate, b_isinstance⟩
    have c_MOST_PART : DL.CInt mg "MOST_PART" 1000000 := DL.loose_int X (by simp)
    have c_MOST_PARTS : DL.CInt mg "MOST_PARTS" 5 := by
      refine' DL.cint_mk KX G ?a
      (case a => k_is)
    refine' DL.ctup_k (x := "SIZES") (vs := [.int (3), .int (4)]) KX G ?a1_ ?l1_ ?c1_ ?d1_ ?s1_ ?r1_ ?z1_
    (case a1_ => k_is); (case l1_ => k_is)
    (case c1_ => rfl); (case d1_ => rfl); (case s1_ => decide)
    (case r1_ => exact .cons ⟨_, rfl⟩ (.cons ⟨_, rfl⟩ (.nil)))
    intro c_SIZES
    refine' DL.def_k (x := "is_integer") (st := T.s_is_integer) (ps := ["thing", "low", "high"]) KX G ?a4 ?l4 ?c4 ?k4 ?b4 ?z4
    (case a4 => k_is); (case l4 => k_is); (case c4 => k_is); (case k4 => k_is)
    (case b4 => exact fun _ _ _ _ _ _ us hl => match us, hl with | [_, _, _], _ => rfl)
    intro d_is_integer
    refine' DL.def_k (x := "is_weight") (st := T.s_is_weight) (ps := ["thing"]) KX G ?a5 ?l5 ?c5 ?k5 ?b5 ?z5
    (case a5 => k_is); (case l5 => k_is); (case c5 => k_is); (case k5 => k_is)
    (case b5 => exact fun _ _ _ _ _ _ us hl => match us, hl with | [_], _ => rfl)
    intro d_is_weight
    refine' DL.def_k (x := "product") (st := T.s_product) (ps := ["numbers"]) KX G ?a6 ?l6 ?c6 ?k6 ?b6 ?z6
    (case a6 => k_is); (case l6 => k_is); (case c6 => k_is); (case k6 => k_is)
    (case b6 => exact fun _ _ _ _ _ _ us hl => match us, hl with | [_], _ => rfl)
    intro d_product
    refine' DL.cls_k (x := "Form") KX G ?a2_ ?p2_ ?h2_ ?o2_ ?s2_ ?c2_ ?g2_ ?t2_ ?m2_ ?z2_
    (case a2_ => k_is); (case p2_ => k_is); (case h2_ => k_is); (case o2_ => k_is); (case s2_ => k_is); (case c2_ => k_is); (case g2_ => k_is); (case t2_ => k_is); (case m2_ => k_is)
    intro m_Form k_Form
    refine' DL.noattr_k (f := "rows") k_Form ?h3_ ?z3_
    (case h3_ => k_is)
    intro n_Form_rows
    refine' DL.noattr_k (f := "sums") k_Form ?h4_ ?z4_
    (case h4_ => k_is)
    intro n_Form_sums
    refine' DL.init_k (qual := "Form.__init__") (st := T.s_Form___init__) (ps := ["self", "weights"]) k_Form ?m5_ ?i5_ ?f5_ ?p5_ ?l5_ ?c5_ ?k5_ ?b5_ ?z5_
    (case m5_ => k_is); (case i5_ => k_is); (case f5_ => k_is); (case p5_ => k_is); (case l5_ => k_is); (case c5_ => k_is); (case k5_ => k_is)
    (case b5_ => exact fun _ _ _ _ _ _ us hl => match us, hl with | [_, _], _ => rfl)
    intro i_Form
    refine' DL.prop_k (x := "weights") (f := "rows") (qual := "Form.weights") (st := T.s_Form_weights) k_Form n_Form_rows ?p6_ ?g6_ ?t6_ ?r6_ ?l6_ ?c6_ ?k6_ T.sc_Form_weights rfl ?b6_ ?z6_
    (case p6_ => k_is); (case g6_ => k_is); (case t6_ => k_is); (case r6_ => k_is); (case l6_ => k_is); (case c6_ => k_is); (case k6_ => k_is)
    (case b6_ => exact fun _ _ _ _ _ _ us hl => match us, hl with | [_], _ => rfl)
    intro g_Form_weights
    refine' DL.prop_k (x := "numbers") (f := "sums") (qual := "Form.numbers") (st := T.s_Form_numbers) k_Form n_Form_sums ?p7_ ?g7_ ?t7_ ?r7_ ?l7_ ?c7_ ?k7_ T.sc_Form_numbers rfl ?b7_ ?z7_
    (case p7_ => k_is); (case g7_ => k_is); (case t7_ => k_is); (case r7_ => k_is); (case l7_ => k_is); (case c7_ => k_is); (case k7_ => k_is)
    (case b7_ => exact fun _ _ _ _ _ _ us hl => match us, hl with | [_], _ => rfl)
    intro g_Form_numbers
    refine' DL.meth_k (x := "__len__") (qual := "Form.__len__") (st := T.s_Form___len__) (ps := ["self"]) k_Form ?a8_ ?i8_ ?l8_ ?c8_ ?k8_ ?b8_ ?z8_
    (case a8_ => k_is); (case i8_ => k_is); (case l8_ => k_is); (case c8_ => k_is); (case k8_ => k_is)
    (case b8_ => exact fun _ _ _ _ _ _ us hl => match us, hl with | [_], _ => rfl)
    intro e_Form___len__
    refine' DL.meth_k (x := "__eq__") (qual := "Form.__eq__") (st := T.s_Form___eq__) (ps := ["self", "other"]) k_Form ?a9_ ?i9_ ?l9_ ?c9_ ?k9_ ?b9_ ?z9_
    (case a9_ => k_is); (case i9_ => k_is); (case l9_ => k_is); (case c9_ => k_is); (case k9_ => k_is)
    (case b9_ => exact fun _ _ _ _ _ _ us hl => match us, hl with | [_, _], _ => rfl)
    intro e_Form___eq__
    refine' DL.def_k (x := "come_to") (st := T.s_come_to) (ps := ["numbers", "row"]) KX G ?a16 ?l16 ?c16 ?k16 ?b16 ?z16
    (case a16 => k_is); (case l16 => k_is); (case c16 => k_is); (case k16 => k_is)
    (case b16 => exact fun _ _ _ _ _ _ us hl => match us, hl with | [_, _], _ => rfl)
    intro d_come_to
    refine' DL.def_k (x := "primes_of") (st := T.s_primes_of) (ps := ["weight"]) KX G ?a17 ?l17 ?c17 ?k17 ?b17 ?z17
    (case a17 => k_is); (case l17 => k_is); (case c17 => k_is); (case k17 => k_is)
    (case b17 => exact fun _ _ _ _ _ _ us hl => match us, hl with | [_], _ => rfl)
    intro d_primes_of
    refine' DL.def_k (x := "sign_of") (st := T.s_sign_of) (ps := ["weight"]) KX G ?a18 ?l18 ?c18 ?k18 ?b18 ?z18
    (case a18 => k_is); (case l18 => k_is); (case c18 => k_is); (case k18 => k_is)
    (case b18 => exact fun _ _ _ _ _ _ us hl => match us, hl with | [_], _ => rfl)
    intro d_sign_of
    refine' DL.def_k (x := "powered") (st := T.s_powered) (ps := ["number", "times", "many"]) KX G ?a19 ?l19 ?c19 ?k19 ?b19 ?z19
    (case a19 => k_is); (case l19 => k_is); (case c19 => k_is); (case k19 => k_is)
    (case b19 => exact fun _ _ _ _ _ _ us hl => match us, hl with | [_, _, _], _ => rfl)
    intro d_powered
    refine' DL.def_k (x := "odd_primes_of") (st := T.s_odd_primes_of) (ps := ["weight"]) KX G ?a20 ?l20 ?c20 ?k20 ?b20 ?z20
    (case a20 => k_is); (case l20 => k_is); (case c20 => k_is); (case k20 => k_is)
    (case b20 => exact fun _ _ _ _ _ _ us hl => match us, hl with | [_], _ => rfl)
    intro d_odd_primes_of
    refine' DL.def_k (x := "root_of") (st := T.s_root_of) (ps := ["weight"]) KX G ?a21 ?l21 ?c21 ?k21 ?b21 ?z21
    (case a21 => k_is); (case l21 => k_is); (case c21 => k_is); (case k21 => k_is)
    (case b21 => exact fun _ _ _ _ _ _ us hl => match us, hl with | [_], _ => rfl)
    intro d_root_of
    refine' DL.cls_k (x := "Normal") KX G ?a10_ ?p10_ ?h10_ ?o10_ ?s10_ ?c10_ ?g10_ ?t10_ ?m10_ ?z10_
    (case a10_ => k_is); (case p10_ => k_is); (case h10_ => k_is); (case o10_ => k_is); (case s10_ => k_is); (case c10_ => k_is); (case g10_ => k_is); (case t10_ => k_is); (case m10_ => k_is)
    intro m_Normal k_Normal
    refine' DL.noattr_k (f := "bare") k_Normal ?h11_ ?z11_
    (case h11_ => k_is)
    intro n_Normal_bare
    refine' DL.noattr_k (f := "ups") k_Normal ?h12_ ?z12_
    (case h12_ => k_is)
    intro n_Normal_ups
    refine' DL.noattr_k (f := "downs") k_Normal ?h13_ ?z13_
    (case h13_ => k_is)
    intro n_Normal_downs
    refine' DL.noattr_k (f := "signs") k_Normal ?h14_ ?z14_
    (case h14_ => k_is)
    intro n_Normal_signs
    refine' DL.init_k (qual := "Normal.__init__") (st := T.s_Normal___init__) (ps := ["self", "rows"]) k_Normal ?m15_ ?i15_ ?f15_ ?p15_ ?l15_ ?c15_ ?k15_ ?b15_ ?z15_
    (case m15_ => k_is); (case i15_ => k_is); (case f15_ => k_is); (case p15_ => k_is); (case l15_ => k_is); (case c15_ => k_is); (case k15_ => k_is)
    (case b15_ => exact fun _ _ _ _ _ _ us hl => match us, hl with | [_, _], _ => rfl)
    intro i_Normal
    refine' DL.meth_k (x := "all_weights") (qual := "Normal.all_weights") (st := T.s_Normal_all_weights) (ps := ["self"]) k_Normal ?a16_ ?i16_ ?l16_ ?c16_ ?k16_ ?b16_ ?z16_
    (case a16_ => k_is); (case i16_ => k_is); (case l16_ => k_is); (case c16_ => k_is); (case k16_ => k_is)
    (case b16_ => exact fun _ _ _ _ _ _ us hl => match us, hl with | [_], _ => rfl)
    intro e_Normal_all_weights
    refine' DL.meth_k (x := "back") (qual := "Normal.back") (st := T.s_Normal_back) (ps := ["self", "row"]) k_Normal ?a17_ ?i17_ ?l17_ ?c17_ ?k17_ ?b17_ ?z17_
    (case a17_ => k_is); (case i17_ => k_is); (case l17_ => k_is); (case c17_ => k_is); (case k17_ => k_is)
    (case b17_ => exact fun _ _ _ _ _ _ us hl => match us, hl with | [_, _], _ => rfl)
    intro e_Normal_back
    refine' DL.def_k (x := "is_square") (st := T.s_is_square) (ps := ["number", "prime"]) KX G ?a31 ?l31 ?c31 ?k31 ?b31 ?z31
    (case a31 => k_is); (case l31 => k_is); (case c31 => k_is); (case k31 => k_is)
    (case b31 => exact fun _ _ _ _ _ _ us hl => match us, hl with | [_, _], _ => rfl)
    intro d_is_square
    refine' DL.def_k (x := "two_bars") (st := T.s_two_bars) (ps := ["numbers"]) KX G ?a32 ?l32 ?c32 ?k32 ?b32 ?z32
    (case a32 => k_is); (case l32 => k_is); (case c32 => k_is); (case k32 => k_is)
    (case b32 => exact fun _ _ _ _ _ _ us hl => match us, hl with | [_], _ => rfl)
    intro d_two_bars
    refine' DL.def_k (x := "bars_of") (st := T.s_bars_of) (ps := ["shape"]) KX G ?a33 ?l33 ?c33 ?k33 ?b33 ?z33
    (case a33 => k_is); (case l33 => k_is); (case c33 => k_is); (case k33 => k_is)
    (case b33 => exact fun _ _ _ _ _ _ us hl => match us, hl with | [_], _ => rfl)
    intro d_bars_of
    refine' DL.def_k (x := "ends_of") (st := T.s_ends_of) (ps := ["weight", "prime"]) KX G ?a34 ?l34 ?c34 ?k34 ?b34 ?z34
    (case a34 => k_is); (case l34 => k_is); (case c34 => k_is); (case k34 => k_is)
    (case b34 => exact fun _ _ _ _ _ _ us hl => match us, hl with | [_, _], _ => rfl)
    intro d_ends_of
    refine' DL.def_k (x := "symbol") (st := T.s_symbol) (ps := ["one", "other", "prime"]) KX G ?a35 ?l35 ?c35 ?k35 ?b35 ?z35
    (case a35 => k_is); (case l35 => k_is); (case c35 => k_is); (case k35 => k_is)
    (case b35 => exact fun _ _ _ _ _ _ us hl => match us, hl with | [_, _, _], _ => rfl)
    intro d_symbol
    refine' DL.def_k (x := "is_local_square") (st := T.s_is_local_square) (ps := ["weight", "prime"]) KX G ?a36 ?l36 ?c36 ?k36 ?b36 ?z36
    (case a36 => k_is); (case l36 => k_is); (case c36 => k_is); (case k36 => k_is)
    (case b36 => exact fun _ _ _ _ _ _ us hl => match us, hl with | [_, _], _ => rfl)
    intro d_is_local_square
    refine' DL.def_k (x := "four_bar") (st := T.s_four_bar) (ps := ["rows", "prime"]) KX G ?a37 ?l37 ?c37 ?k37 ?b37 ?z37
    (case a37 => k_is); (case l37 => k_is); (case c37 => k_is); (case k37 => k_is)
    (case b37 => exact fun _ _ _ _ _ _ us hl => match us, hl with | [_, _], _ => rfl)
    intro d_four_bar
    refine' DL.def_k (x := "four_bars") (st := T.s_four_bars) (ps := ["rows"]) KX G ?a38 ?l38 ?c38 ?k38 ?b38 ?z38
    (case a38 => k_is); (case l38 => k_is); (case c38 => k_is); (case k38 => k_is)
    (case b38 => exact fun _ _ _ _ _ _ us hl => match us, hl with | [_], _ => rfl)
    intro d_four_bars
    refine' DL.def_k (x := "bad_places") (st := T.s_bad_places) (ps := ["form"]) KX G ?a39 ?l39 ?c39 ?k39 ?b39 ?z39
    (case a39 => k_is); (case l39 => k_is); (case c39 => k_is); (case k39 => k_is)
    (case b39 => exact fun _ _ _ _ _ _ us hl => match us, hl with | [_], _ => rfl)
    intro d_bad_places
    refine' DL.def_k (x := "has_answer") (st := T.s_has_answer) (ps := ["form"]) KX G ?a40 ?l40 ?c40 ?k40 ?b40 ?z40
    (case a40 => k_is); (case l40 => k_is); (case c40 => k_is); (case k40 => k_is)
    (case b40 => exact fun _ _ _ _ _ _ us hl => match us, hl with | [_], _ => rfl)
    intro d_has_answer
    have c_MOST_LIMIT : DL.CInt mg "MOST_LIMIT" 9 := by
      refine' DL.cint_mk KX G ?a
      (case a => k_is)
    refine' DL.def_k (x := "rows_to") (st := T.s_rows_to) (ps := ["many", "limit"]) KX G ?a42 ?l42 ?c42 ?k42 ?b42 ?z42
    (case a42 => k_is); (case l42 => k_is); (case c42 => k_is); (case k42 => k_is)
    (case b42 => exact fun _ _ _ _ _ _ us hl => match us, hl with | [_, _], _ => rfl)
    intro d_rows_to
    refine' DL.def_k (x := "small_answer") (st := T.s_small_answer) (ps := ["form", "limit"]) KX G ?a43 ?l43 ?c43 ?k43 ?b43 ?z43
    (case a43 => k_is); (case l43 => k_is); (case c43 => k_is); (case k43 => k_is)
    (case b43 => exact fun _ _ _ _ _ _ us hl => match us, hl with | [_, _], _ => rfl)
    intro d_small_answer
    refine' DL.def_k (x := "_law_mix") (st := T.s__law_mix) (ps := ["_law_script", "_law_seed"]) KX G ?a44 ?l44 ?c44 ?k44 ?b44 ?z44
    (case a44 => k_is); (case l44 => k_is); (case c44 => k_is); (case k44 => k_is)
    (case b44 => exact fun _ _ _ _ _ _ us hl => match us, hl with | [_, _], _ => rfl)
    intro d__law_mix
    refine' DL.def_k (x := "_law_next") (st := T.s__law_next) (ps := ["_law_h", "_law_cap"]) KX G ?a45 ?l45 ?c45 ?k45 ?b45 ?z45
    (case a45 => k_is); (case l45 => k_is); (case c45 => k_is); (case k45 => k_is)
    (case b45 => exact fun _ _ _ _ _ _ us hl => match us, hl with | [_, _], _ => rfl)
    intro d__law_next
    refine' DL.def_k (x := "_law_alike") (st := T.s__law_alike) (ps := ["_law_found", "_law_due"]) KX G ?a46 ?l46 ?c46 ?k46 ?b46 ?z46
    (case a46 => k_is); (case l46 => k_is); (case c46 => k_is); (case k46 => k_is)
    (case b46 => exact fun _ _ _ _ _ _ us hl => match us, hl with | [_, _], _ => rfl)
    intro d__law_alike
    refine' DL.def_k (x := "_law_pick") (st := T.s__law_pick) (ps := ["_law_h", "_law_things"]) KX G ?a47 ?l47 ?c47 ?k47 ?b47 ?z47
    (case a47 => k_is); (case l47 => k_is); (case c47 => k_is); (case k47 => k_is)
    (case b47 => exact fun _ _ _ _ _ _ us hl => match us, hl with | [_, _], _ => rfl)
    intro d__law_pick
    refine' DL.def_k (x := "_law_weight") (st := T.s__law_weight) (ps := ["_law_h"]) KX G ?a48 ?l48 ?c48 ?k48 ?b48 ?z48
    (case a48 => k_is); (case l48 => k_is); (case c48 => k_is); (case k48 => k_is)
    (case b48 => exact fun _ _ _ _ _ _ us hl => match us, hl with | [_], _ => rfl)
    intro d__law_weight
    refine' DL.def_k (x := "_law_come") (st := T.s__law_come) (ps := ["_law_numbers", "_law_row"]) KX G ?a49 ?l49 ?c49 ?k49 ?b49 ?z49
    (case a49 => k_is); (case l49 => k_is); (case c49 => k_is); (case k49 => k_is)
    (case b49 => exact fun _ _ _ _ _ _ us hl => match us, hl with | [_, _], _ => rfl)
    intro d__law_come
    refine' DL.def_k (x := "_law_rows") (st := T.s__law_rows) (ps := ["_law_many", "_law_most"]) KX G ?a50 ?l50 ?c50 ?k50 ?b50 ?z50
    (case a50 => k_is); (case l50 => k_is); (case c50 => k_is); (case k50 => k_is)
    (case b50 => exact fun _ _ _ _ _ _ us hl => match us, hl with | [_, _], _ => rfl)
    intro d__law_rows
    refine' DL.def_k (x := "law") (st := T.s_law) (ps := ["_law_script"]) KX G ?a51 ?l51 ?c51 ?k51 ?b51 ?z51
    (case a51 => k_is); (case l51 => k_is); (case c51 => k_is); (case k51 => k_is)
    (case b51 => exact fun _ _ _ _ _ _ us hl => match us, hl with | [_], _ => rfl)
    intro d_law
    have C : T.Ctx _ mg ⟨0, 0, 0, _, _⟩ := ⟨B, c_MOST_PART, c_MOST_PARTS, c_SIZES, d_is_integer, d_is_weight, d_product, m_Form, k_Form, n_Form_rows, n_Form_sums, i_Form, g_Form_weights, g_Form_numbers, e_Form___len__, e_Form___eq__, d_come_to, d_primes_of, d_sign_of, d_powered, d_odd_primes_of, d_root_of, m_Normal, k_Normal, n_Normal_bare, n_Normal_ups, n_Normal_downs, n_Normal_signs, i_Normal, e_Normal_all_weights, e_Normal_back, d_is_square, d_two_bars, d_bars_of, d_ends_of, d_symbol, d_is_local_square, d_four_bar, d_four_bars, d_bad_places, d_has_answer, c_MOST_LIMIT, d_rows_to, d_small_answer, d__law_mix, d__law_next, d__law_alike, d__law_pick, d__law_weight, d__law_come, d__law_rows, d_law⟩
    exact DL.law_end (fun base X' G' => T.ok_law C) KX G hmg

