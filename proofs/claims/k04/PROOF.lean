import PyProof.Rows.All
import Wide.All
import OpenK.AllK
import Wide.FinOn
import HandS.ForMost
import HandS.Wide
import HandS.TupAny
import HandS.IsInst
import HandS.TupMul
import HandS.Property
import HandS.Style
import HandS.Deep
import KE.GoesNew
import HandS.SetFor
import HandS.SortInts
import HandS.Conv
import KE.DataCmp
import KE.DataMinMax
import HandS.TryOnly
import PySem.Challenge.RW_squareweights_k04_whole_answers
set_option Elab.async false
set_option linter.all false
set_option autoImplicit false
set_option maxRecDepth 100000
set_option maxHeartbeats 4000000
/-! DL: readings over plain data; the heap hidden. -/
namespace DL
open PySem L2

/-- plain data: what a value is, down to its leaves -/
inductive D where
  | raw (v : V)
  | tup (xs : List D)
  | lst (xs : List D)
  | dic (ks : List Key) (vs : List D)
  | ins (C : Addr) (ns : List Str) (vs : List D)
  | rd (xs : List D)
abbrev D.int (i : Int) : D := .raw (.int i)
abbrev D.bl (b : Bool) : D := .raw (.bl b)
abbrev D.non : D := .raw .non
abbrev D.str (s : Str) : D := .raw (.str s)
abbrev D.ints (ns : List Int) : List D := ns.map D.int

section
variable (K : PySem.W.Frag)
mutual
def Den (F : Hp) : D → V → Prop
  | .raw v, x => x = v
  | .tup ds, x => ∃ a vs, x = .ref a ∧ SqT K F a vs ∧ Dens F ds vs
  | .lst ds, x => ∃ a vs, x = .ref a ∧ F a = some (.lst vs) ∧ Dens F ds vs
  | .dic ks ds, x => ∃ a vs, x = .ref a ∧ F a = some (.dK (ks.zip vs)) ∧ ks.length = vs.length ∧ Dens F ds vs
  | .ins C ns ds, x => ∃ a dx vs, x = .ref a ∧ F a = some (.ins C dx (ns.zip vs)) ∧ ns.length = vs.length ∧ Dens F ds vs
  | .rd ds, x => ∃ a vs, x = .ref a ∧ SqL K F a vs ∧ Dens F ds vs
def Dens (F : Hp) : List D → List V → Prop
  | [], vs => vs = []
  | d :: ds, vs => ∃ v r, vs = v :: r ∧ Den F d v ∧ Dens F ds r
end

theorem sqt_same {F F' : Hp} {a : Addr} {xs : List V} (e : Same F F') (h : SqT K F a xs) : SqT K F' a xs := by
  rcases h with (h | ⟨o, h⟩) | h
  · exact .inl (.inl (e _ _ h))
  · exact .inl (.inr ⟨o, e _ _ h⟩)
  · exact .inr h
mutual
theorem Den.mono {F F' : Hp} (e : Same F F') : ∀ (d : D) (x : V), Den K F d x → Den K F' d x
  | .raw v, x, h => h
  | .tup ds, x, h => by
    obtain ⟨a, vs, h1, h2, h3⟩ := h
    exact ⟨a, vs, h1, sqt_same K e h2, Dens.mono e ds vs h3⟩
  | .lst ds, x, h => by
    obtain ⟨a, vs, h1, h2, h3⟩ := h
    exact ⟨a, vs, h1, e _ _ h2, Dens.mono e ds vs h3⟩
  | .dic ks ds, x, h => by
    obtain ⟨a, vs, h1, h2, h4, h3⟩ := h
    exact ⟨a, vs, h1, e _ _ h2, h4, Dens.mono e ds vs h3⟩
  | .ins C ns ds, x, h => by
    obtain ⟨a, dx, vs, h1, h2, h4, h3⟩ := h
    exact ⟨a, dx, vs, h1, e _ _ h2, h4, Dens.mono e ds vs h3⟩
  | .rd ds, x, h => by
    obtain ⟨a, vs, h1, h2, h3⟩ := h
    exact ⟨a, vs, h1, e.seq h2, Dens.mono e ds vs h3⟩
theorem Dens.mono {F F' : Hp} (e : Same F F') : ∀ (ds : List D) (vs : List V), Dens K F ds vs → Dens K F' ds vs
  | [], vs, h => h
  | d :: ds, vs, h => by
    obtain ⟨v, r, h1, h2, h3⟩ := h
    exact ⟨v, r, h1, Den.mono e d v h2, Dens.mono e ds r h3⟩
end
variable {K}
theorem Dens.nil {F : Hp} : Dens K F [] [] := rfl
theorem Dens.cons {F : Hp} {d : D} {ds : List D} {v : V} {vs : List V} (h : Den K F d v) (t : Dens K F ds vs) : Dens K F (d :: ds) (v :: vs) := ⟨v, vs, rfl, h, t⟩
theorem Dens.length {F : Hp} : ∀ {ds : List D} {vs : List V}, Dens K F ds vs → ds.length = vs.length
  | [], _, h => by
    have h : _ = [] := h
    subst h; rfl
  | d :: ds, _, h => by
    obtain ⟨v, r, rfl, _, h3⟩ := h
    simp [Dens.length h3]
theorem Dens.get {F : Hp} : ∀ {ds : List D} {vs : List V} {i : Nat} {d : D}, Dens K F ds vs → ds[i]? = some d → ∃ v, vs[i]? = some v ∧ Den K F d v
  | [], _, _, _, _, e => by simp at e
  | d :: ds, _, 0, _, h, e => by
    obtain ⟨v, r, rfl, h2, h3⟩ := h
    simp at e; subst e
    exact ⟨v, rfl, h2⟩
  | d :: ds, _, i + 1, _, h, e => by
    obtain ⟨v, r, rfl, h2, h3⟩ := h
    obtain ⟨u, q, hu⟩ := Dens.get (i := i) h3 (by simpa using e)
    exact ⟨u, by simpa using q, hu⟩
theorem Dens.get' {F : Hp} : ∀ {ds : List D} {vs : List V} {i : Nat} {v : V}, Dens K F ds vs → vs[i]? = some v → ∃ d, ds[i]? = some d ∧ Den K F d v
  | [], _, _, _, h, e => by
    have h : _ = [] := h
    subst h; simp at e
  | d :: ds, _, 0, _, h, e => by
    obtain ⟨v, r, rfl, h2, h3⟩ := h
    simp at e; subst e
    exact ⟨d, rfl, h2⟩
  | d :: ds, _, i + 1, _, h, e => by
    obtain ⟨v, r, rfl, h2, h3⟩ := h
    obtain ⟨u, q, hu⟩ := Dens.get' (i := i) h3 (by simpa using e)
    exact ⟨u, by simpa using q, hu⟩
theorem Dens.append {F : Hp} : ∀ {ds es : List D} {vs us : List V}, Dens K F ds vs → Dens K F es us → Dens K F (ds ++ es) (vs ++ us)
  | [], _, _, _, h, k => by
    have h : _ = [] := h
    subst h; exact k
  | d :: ds, _, _, _, h, k => by
    obtain ⟨v, r, rfl, h2, h3⟩ := h
    exact ⟨v, r ++ _, rfl, h2, Dens.append h3 k⟩
theorem Dens.drop {F : Hp} : ∀ (n : Nat) {ds : List D} {vs : List V}, Dens K F ds vs → Dens K F (ds.drop n) (vs.drop n)
  | 0, _, _, h => h
  | n + 1, [], _, h => by
    have h : _ = [] := h
    subst h; exact rfl
  | n + 1, d :: ds, _, h => by
    obtain ⟨v, r, rfl, h2, h3⟩ := h
    exact Dens.drop n h3
theorem Dens.take {F : Hp} : ∀ (n : Nat) {ds : List D} {vs : List V}, Dens K F ds vs → Dens K F (ds.take n) (vs.take n)
  | 0, _, _, h => rfl
  | n + 1, [], _, h => by
    have h : _ = [] := h
    subst h; exact rfl
  | n + 1, d :: ds, _, h => by
    obtain ⟨v, r, rfl, h2, h3⟩ := h
    exact ⟨v, r.take n, rfl, h2, Dens.take n h3⟩
theorem Dens.set {F : Hp} {d : D} {v : V} (hd : Den K F d v) : ∀ (i : Nat) {ds : List D} {vs : List V}, Dens K F ds vs → Dens K F (ds.set i d) (vs.set i v)
  | _, [], _, h => by
    have h : _ = [] := h
    subst h; exact rfl
  | 0, d' :: ds, _, h => by
    obtain ⟨u, r, rfl, h2, h3⟩ := h
    exact ⟨v, r, rfl, hd, h3⟩
  | i + 1, d' :: ds, _, h => by
    obtain ⟨u, r, rfl, h2, h3⟩ := h
    exact ⟨u, r.set i v, rfl, h2, Dens.set hd i h3⟩
theorem Dens.raws {F : Hp} : ∀ {xs : List V}, Dens K F (xs.map D.raw) xs
  | [] => rfl
  | x :: xs => ⟨x, xs, rfl, rfl, Dens.raws⟩
theorem Dens.ofRaws {F : Hp} : ∀ {xs : List V} {vs : List V}, Dens K F (xs.map D.raw) vs → vs = xs
  | [], _, h => h
  | x :: xs, _, h => by
    obtain ⟨v, r, rfl, h2, h3⟩ := h
    have h2 : v = x := h2
    rw [h2, Dens.ofRaws h3]
theorem Dens.ofInts {F : Hp} {ns : List Int} {vs : List V} (h : Dens K F (D.ints ns) vs) : vs = ns.map V.int := by
  have e : D.ints ns = (ns.map V.int).map D.raw := by simp [D.ints, Function.comp_def]
  rw [e] at h
  exact h.ofRaws
theorem Dens.replicate {F : Hp} {d : D} {v : V} (h : Den K F d v) : ∀ n : Nat, Dens K F (List.replicate n d) (List.replicate n v)
  | 0 => rfl
  | n + 1 => ⟨v, List.replicate n v, rfl, h, Dens.replicate h n⟩
end

/-! ### what may change: numbered things, each at an address (two, for the source of draws) -/
inductive MO where
  | lst (ds : List D)
  | dic (ks : List Key) (vs : List D)
  | ins (C : Addr) (ns : List Str) (vs : List D)
  | rng
  | dead
  | frz (d : Addr) (od : Obj) (kvs : List (Key × V)) (ks : List Key) (ds : List D)
  | pin (a : Addr) (ds : List D)
abbrev Al := List (Addr × Addr)
/-- the source of draws as it stands -/
def Rng (H : Hp) (p : Addr × Addr) : Prop := ∃ (s i : Int) (cells : List Int), p.1 ≠ p.2 ∧ H p.1 = some (.lst [.int s, .ref p.2, .int i]) ∧ H p.2 = some (.lst (cells.map V.int)) ∧
  0 ≤ s ∧ s < 2147483647 ∧ cells.length ≤ 63 ∧ 0 ≤ i
section
variable (K : PySem.W.Frag)
def MObj (F H : Hp) : MO → Addr × Addr → Prop
  | .lst ds, p => F p.1 = none ∧ ∃ vs, H p.1 = some (.lst vs) ∧ Dens K F ds vs
  | .dic ks ds, p => F p.1 = none ∧ ∃ vs, H p.1 = some (.dK (ks.zip vs)) ∧ ks.length = vs.length ∧ Dens K F ds vs
  | .ins C ns ds, p => F p.1 = none ∧ ∃ dx vs, H p.1 = some (.ins C dx (ns.zip vs)) ∧ ns.length = vs.length ∧ Dens K F ds vs
  | .rng, p => F p.1 = none ∧ F p.2 = none ∧ Rng H p
  | .dead, _ => True
  | .frz d od kvs ks ds, p => F p.1 = none ∧ p.1 = d ∧ H p.1 = some (.frz od (.dK kvs)) ∧ ∃ vs, kvs = ks.zip vs ∧ ks.length = vs.length ∧ Dens K F ds vs
  | .pin a ds, p => F p.1 = none ∧ p.1 = a ∧ ∃ vs, H p.1 = some (.lst vs) ∧ Dens K F ds vs
def Apart (p q : Addr × Addr) : Prop := p.1 ≠ q.1 ∧ p.1 ≠ q.2 ∧ p.2 ≠ q.1 ∧ p.2 ≠ q.2
structure Sta (α : Al) (M : List MO) (F H : Hp) : Prop where
  sub : Same F H
  len : M.length = α.length
  ob : ∀ (i : Nat) m p, M[i]? = some m → α[i]? = some p → MObj K F H m p
  ap : ∀ (i j : Nat) p q, i < j → α[i]? = some p → α[j]? = some q → Apart p q
  tr : ∀ p, p ∈ α → H p.1 ≠ none ∧ H p.2 ≠ none
/-- a slot: data, or the k-th thing -/
inductive Sl where
  | v (d : D)
  | l (k : Nat)
def SlOk (α : Al) (F : Hp) : Sl → V → Prop
  | .v d, x => Den K F d x
  | .l k, x => ∃ p, α[k]? = some p ∧ x = .ref p.1
abbrev Rho := List (Option Sl)
structure EnvOk (α : Al) (F : Hp) (σ : L2.St) (ρ : Rho) : Prop where
  len : σ.length = ρ.length
  at' : ∀ (i : Nat) s, ρ[i]? = some (some s) → ∃ v, σ[i]? = some (some v) ∧ SlOk K α F s v
/-- from one heap to a later one: all but the numbered things as it was -/
structure Move (α : Al) (F H F' H' : Hp) : Prop where
  ex : Same F F'
  fr : ∀ b o, H b = some o → (∀ p, p ∈ α → b ≠ p.1 ∧ b ≠ p.2) → H' b = some o
  tr : ∀ b, H b ≠ none → H' b ≠ none
  new : ∀ b, F' b ≠ none → F b ≠ none ∨ H b = none
end
theorem Move.refl {α : Al} {F H : Hp} : Move α F H F H := ⟨fun _ _ h => h, fun _ _ h _ => h, fun _ h => h, fun _ h => .inl h⟩
theorem Move.trans {α : Al} {F H F1 H1 F2 H2 : Hp} (a : Move α F H F1 H1) (b : Move α F1 H1 F2 H2) : Move α F H F2 H2 where
  ex := a.ex.trans b.ex
  fr := fun c o h k => b.fr c o (a.fr c o h k) k
  tr := fun c h => b.tr c (a.tr c h)
  new := fun c h => by
    rcases b.new c h with q | q
    · exact a.new c q
    · refine .inr ?_
      cases e : H c with
      | none => rfl
      | some o => exact absurd q (a.tr c (by rw [e]; simp))

section
variable {K : PySem.W.Frag}
theorem SlOk.mono {α : Al} {F F' : Hp} (e : Same F F') : ∀ {s : Sl} {x : V}, SlOk K α F s x → SlOk K α F' s x
  | .v d, x, h => Den.mono K e d x h
  | .l k, x, h => h
theorem EnvOk.mono {α : Al} {F F' : Hp} {σ : L2.St} {ρ : Rho} (e : Same F F') (h : EnvOk K α F σ ρ) : EnvOk K α F' σ ρ :=
  ⟨h.len, fun i s q => let ⟨v, a, b⟩ := h.at' i s q; ⟨v, a, b.mono e⟩⟩
theorem EnvOk.set {α : Al} {F : Hp} {σ : L2.St} {ρ : Rho} (h : EnvOk K α F σ ρ) (i : Nat) {s : Sl} {v : V} (hv : SlOk K α F s v) : EnvOk K α F (σ.set i (some v)) (ρ.set i (some s)) := by
  refine ⟨by simp [h.len], fun j t q => ?_⟩
  by_cases e : i = j
  · subst e
    by_cases hl : i < ρ.length
    · rw [List.getElem?_set_self hl] at q
      cases q
      exact ⟨v, by rw [List.getElem?_set_self (by rw [h.len]; exact hl)], hv⟩
    · rw [List.getElem?_eq_none (by simpa using hl)] at q; cases q
  · rw [List.getElem?_set_ne e] at q ⊢
    exact h.at' j t q
theorem EnvOk.setN {α : Al} {F : Hp} {σ : L2.St} {ρ : Rho} (h : EnvOk K α F σ ρ) (i : Nat) : EnvOk K α F (σ.set i none) (ρ.set i none) := by
  refine ⟨by simp [h.len], fun j t q => ?_⟩
  by_cases e : i = j
  · subst e
    by_cases hl : i < ρ.length
    · rw [List.getElem?_set_self hl] at q; cases q
    · rw [List.getElem?_eq_none (by simpa using hl)] at q; cases q
  · rw [List.getElem?_set_ne e] at q ⊢
    exact h.at' j t q

theorem raw_ok {α : Al} {F : Hp} {v : V} : SlOk K α F (.v (.raw v)) v := rfl
theorem den_ok {α : Al} {F : Hp} {d : D} {v : V} (h : Den K F d v) : SlOk K α F (.v d) v := h
/-! ### expressions -/
def EvP (K : PySem.W.Frag) (te : TE) (ρ : Rho) (M : List MO) (Q : Sl → Prop) : Prop := ∀ (σ : L2.St) (α : Al) (F H : Hp), EnvOk K α F σ ρ → Sta K α M F H → ∀ k : VK,
  (∀ v F' H' s, Move α F H F' H' → Sta K α M F' H' → SlOk K α F' s v → Q s → k v H') → te σ H k
def EvT (K : PySem.W.Frag) (tt : TT) (ρ : Rho) (M : List MO) (Q : Bool → Prop) : Prop := ∀ (σ : L2.St) (α : Al) (F H : Hp), EnvOk K α F σ ρ → Sta K α M F H → ∀ k : Bool → Hp → Prop,
  (∀ b F' H', Move α F H F' H' → Sta K α M F' H' → Q b → k b H') → tt σ H k
def SlsOk (K : PySem.W.Frag) (α : Al) (F : Hp) : List Sl → List V → Prop
  | [], vs => vs = []
  | s :: ss, vs => ∃ v r, vs = v :: r ∧ SlOk K α F s v ∧ SlsOk K α F ss r
theorem SlsOk.mono {α : Al} {F F' : Hp} (e : Same F F') : ∀ {ss : List Sl} {vs : List V}, SlsOk K α F ss vs → SlsOk K α F' ss vs
  | [], _, h => h
  | s :: ss, _, h => by
    obtain ⟨v, r, h1, h2, h3⟩ := h
    exact ⟨v, r, h1, h2.mono e, SlsOk.mono e h3⟩
theorem SlsOk.dens {α : Al} {F : Hp} : ∀ {ds : List D} {vs : List V}, SlsOk K α F (ds.map Sl.v) vs → Dens K F ds vs
  | [], _, h => h
  | d :: ds, _, h => by
    obtain ⟨v, r, h1, h2, h3⟩ := h
    exact ⟨v, r, h1, h2, SlsOk.dens h3⟩
theorem SlsOk.length {α : Al} {F : Hp} : ∀ {ss : List Sl} {vs : List V}, SlsOk K α F ss vs → ss.length = vs.length
  | [], _, h => by
    have h : _ = [] := h
    subst h; rfl
  | s :: ss, _, h => by
    obtain ⟨v, r, rfl, _, h3⟩ := h
    simp [SlsOk.length h3]
def EvA (K : PySem.W.Frag) (ta : TA) (ρ : Rho) (M : List MO) (Q : List Sl → Prop) : Prop := ∀ (σ : L2.St) (α : Al) (F H : Hp), EnvOk K α F σ ρ → Sta K α M F H → ∀ k : List V → Hp → Prop,
  (∀ vs F' H' ss, Move α F H F' H' → Sta K α M F' H' → SlsOk K α F' ss vs → Q ss → k vs H') → ta σ H k
def EvO (K : PySem.W.Frag) (to : TO) (ρ : Rho) (M : List MO) (Q : Option Int → Prop) : Prop := ∀ (σ : L2.St) (α : Al) (F H : Hp), EnvOk K α F σ ρ → Sta K α M F H → ∀ k : Option Int → Hp → Prop,
  (∀ o F' H', Move α F H F' H' → Sta K α M F' H' → Q o → k o H') → to σ H k
/-- operations by values -/
def EvR (K : PySem.W.Frag) (r : R2) (M : List MO) (x y : Sl) (Q : Sl → Prop) : Prop := ∀ (α : Al) (F H : Hp) (u v : V), Sta K α M F H → SlOk K α F x u → SlOk K α F y v → ∀ k : VK,
  (∀ z F' H' s, Move α F H F' H' → Sta K α M F' H' → SlOk K α F' s z → Q s → k z H') → r u v H k
def EvU (K : PySem.W.Frag) (r : V → Hp → VK → Prop) (M : List MO) (x : Sl) (Q : Sl → Prop) : Prop := ∀ (α : Al) (F H : Hp) (u : V), Sta K α M F H → SlOk K α F x u → ∀ k : VK,
  (∀ z F' H' s, Move α F H F' H' → Sta K α M F' H' → SlOk K α F' s z → Q s → k z H') → r u H k
def EvC (K : PySem.W.Frag) (r : List V → Hp → VK → Prop) (M : List MO) (xs : List Sl) (Q : Sl → Prop) : Prop := ∀ (α : Al) (F H : Hp) (us : List V), Sta K α M F H → SlsOk K α F xs us → ∀ k : VK,
  (∀ z F' H' s, Move α F H F' H' → Sta K α M F' H' → SlOk K α F' s z → Q s → k z H') → r us H k

variable {ρ : Rho} {M : List MO} {Q : Sl → Prop} {te ta tb : TE}
/-- a new object is laid -/
theorem Sta.laid {α : Al} {F H : Hp} (S : Sta K α M F H) {p : Addr} {o : HO} (hp : H p = none) : Move α F H (upd F p o) (upd H p o) ∧ Sta K α M (upd F p o) (upd H p o) := by
  have hF : F p = none := S.sub.free hp
  have s1 : Same F (upd F p o) := fun b u h => by rw [upd_ne (ne_of_none h hF)]; exact h
  have s2 : ∀ b u, H b = some u → upd H p o b = some u := fun b u h => by rw [upd_ne (ne_of_none h hp)]; exact h
  have t2 : ∀ b, H b ≠ none → upd H p o b ≠ none := fun b h => by
    have : b ≠ p := fun e => h (by rw [e]; exact hp)
    rw [upd_ne this]; exact h
  have f2 : ∀ q : Addr, F q = none → H q ≠ none → upd F p o q = none := fun q h1 h2 => by
    have : q ≠ p := fun e => h2 (by rw [e]; exact hp)
    rw [upd_ne this]; exact h1
  refine ⟨⟨s1, fun b u h _ => s2 b u h, t2, fun b h => ?_⟩, ⟨fun b u h => ?_, S.len, fun i m q h1 h2 => ?_, S.ap, fun q hq => ⟨t2 _ (S.tr q hq).1, t2 _ (S.tr q hq).2⟩⟩⟩
  · by_cases e : b = p
    · exact .inr (by rw [e]; exact hp)
    · rw [upd_ne e] at h; exact .inl h
  · by_cases e : b = p
    · subst e; rw [upd_same] at h ⊢; exact h
    · rw [upd_ne e] at h ⊢; exact S.sub b u h
  · have hq := S.tr q (List.mem_of_getElem? h2)
    have k := S.ob i m q h1 h2
    cases m with
    | lst ds => exact ⟨f2 _ k.1 hq.1, let ⟨vs, a, b⟩ := k.2; ⟨vs, s2 _ _ a, Dens.mono K s1 _ _ b⟩⟩
    | dic ks ds => exact ⟨f2 _ k.1 hq.1, let ⟨vs, a, c, b⟩ := k.2; ⟨vs, s2 _ _ a, c, Dens.mono K s1 _ _ b⟩⟩
    | pin a0 ds => exact ⟨f2 _ k.1 hq.1, k.2.1, let ⟨vs, a, b⟩ := k.2.2; ⟨vs, s2 _ _ a, Dens.mono K s1 _ _ b⟩⟩
    | frz d od kvs ks ds => exact ⟨f2 _ k.1 hq.1, k.2.1, s2 _ _ k.2.2.1, let ⟨vs, c, e, b⟩ := k.2.2.2; ⟨vs, c, e, Dens.mono K s1 _ _ b⟩⟩
    | ins C ns ds => exact ⟨f2 _ k.1 hq.1, let ⟨dx, vs, a, c, b⟩ := k.2; ⟨dx, vs, s2 _ _ a, c, Dens.mono K s1 _ _ b⟩⟩
    | rng => exact ⟨f2 _ k.1 hq.1, f2 _ k.2.1 hq.2, let ⟨s, i, c, h0, h1, h2, h3⟩ := k.2.2; ⟨s, i, c, h0, s2 _ _ h1, s2 _ _ h2, h3⟩⟩
    | dead => trivial

theorem EvP.mono {Q' : Sl → Prop} (h : EvP K te ρ M Q) (q : ∀ s, Q s → Q' s) : EvP K te ρ M Q' := fun σ α F H e S k kk => h σ α F H e S k fun v F' H' s a b c d => kk v F' H' s a b c (q s d)
theorem ev_var {i : Nat} {s : Sl} (h : ρ[i]? = some (some s)) (q : Q s) : EvP K (tVar i) ρ M Q := fun σ α F H e S k kk => by
  obtain ⟨v, h1, h2⟩ := e.at' i s h
  exact ⟨v, h1, kk v F H s .refl S h2 q⟩
theorem ev_c {v : V} (q : Q (.v (.raw v))) : EvP K (tC v) ρ M Q := fun σ α F H e S k kk => kk v F H _ .refl S raw_ok q
theorem ev_op {r : R2} (h : EvP K ta ρ M fun x => EvP K tb ρ M fun y => EvR K r M x y Q) : EvP K (tOp r ta tb) ρ M Q := fun σ α F H e S k kk =>
  h σ α F H e S _ fun u F1 H1 x m1 S1 o1 q1 => q1 σ α F1 H1 (e.mono m1.ex) S1 _ fun v F2 H2 y m2 S2 o2 q2 =>
    q2 α F2 H2 u v S2 (o1.mono m2.ex) o2 k fun z F3 H3 s m3 S3 o3 q3 => kk z F3 H3 s ((m1.trans m2).trans m3) S3 o3 q3
theorem ev_un {r : V → Hp → VK → Prop} (h : EvP K ta ρ M fun x => EvU K r M x Q) : EvP K (tUn r ta) ρ M Q := fun σ α F H e S k kk =>
  h σ α F H e S _ fun u F1 H1 x m1 S1 o1 q1 => q1 α F1 H1 u S1 o1 k fun z F3 H3 s m3 S3 o3 q3 => kk z F3 H3 s (m1.trans m3) S3 o3 q3
theorem ev_cb {r : List V → Hp → VK → Prop} {t : TA} (h : EvA K t ρ M fun xs => EvC K r M xs Q) : EvP K (tCB r t) ρ M Q := fun σ α F H e S k kk =>
  h σ α F H e S _ fun u F1 H1 x m1 S1 o1 q1 => q1 α F1 H1 u S1 o1 k fun z F3 H3 s m3 S3 o3 q3 => kk z F3 H3 s (m1.trans m3) S3 o3 q3
theorem ea_nil {Q : List Sl → Prop} (q : Q []) : EvA K tNil ρ M Q := fun σ α F H e S k kk => kk [] F H [] .refl S rfl q
theorem ea_cons {tr : TA} {Q : List Sl → Prop} (h : EvP K ta ρ M fun x => EvA K tr ρ M fun xs => Q (x :: xs)) : EvA K (tCons ta tr) ρ M Q := fun σ α F H e S k kk =>
  h σ α F H e S _ fun u F1 H1 x m1 S1 o1 q1 => q1 σ α F1 H1 (e.mono m1.ex) S1 _ fun vs F2 H2 xs m2 S2 o2 q2 =>
    kk (u :: vs) F2 H2 (x :: xs) (m1.trans m2) S2 ⟨u, vs, rfl, o1.mono m2.ex, o2⟩ q2
def AllD (ss : List Sl) (ds : List D) : Prop := ss = ds.map Sl.v
theorem ev_tup {t : TA} (h : EvA K t ρ M fun xs => ∃ ds : List D, xs = ds.map Sl.v ∧ ds.length ≤ 16777216 ∧ Q (.v (.tup ds))) : EvP K (tTup t) ρ M Q := fun σ α F H e S k kk =>
  h σ α F H e S _ fun vs F1 H1 ss m1 S1 o1 ⟨ds, e1, hl, q⟩ => by
    subst e1
    have hd := o1.dens
    refine ⟨by rw [← hd.length, sizeLine_eq]; exact hl, fun p hp => ?_⟩
    obtain ⟨m2, S2⟩ := S1.laid (o := .tup vs) hp
    exact kk _ _ _ _ (m1.trans m2) S2 (den_ok (d := .tup ds) ⟨p, vs, rfl, .inl (.inl upd_same), Dens.mono K m2.ex _ _ hd⟩) q
theorem ev_lst {t : TA} (h : EvA K t ρ M fun xs => ∃ ds : List D, xs = ds.map Sl.v ∧ ds.length ≤ 16777216 ∧ Q (.v (.lst ds))) : EvP K (tLst t) ρ M Q := fun σ α F H e S k kk =>
  h σ α F H e S _ fun vs F1 H1 ss m1 S1 o1 ⟨ds, e1, hl, q⟩ => by
    subst e1
    have hd := o1.dens
    refine ⟨by rw [← hd.length, sizeLine_eq]; exact hl, fun p hp => ?_⟩
    obtain ⟨m2, S2⟩ := S1.laid (o := .lst vs) hp
    exact kk _ _ _ _ (m1.trans m2) S2 (den_ok (d := .lst ds) ⟨p, vs, rfl, upd_same, Dens.mono K m2.ex _ _ hd⟩) q
theorem ev_if {t : TT} (h : EvT K t ρ M fun b => if b = true then EvP K ta ρ M Q else EvP K tb ρ M Q) : EvP K (tIf t ta tb) ρ M Q := fun σ α F H e S k kk =>
  h σ α F H e S _ fun b F1 H1 m1 S1 q1 => by
    cases b with
    | true => exact (show EvP K ta ρ M Q from q1) σ α F1 H1 (e.mono m1.ex) S1 k fun v F2 H2 s m2 S2 o2 q2 => kk v F2 H2 s (m1.trans m2) S2 o2 q2
    | false => exact (show EvP K tb ρ M Q from q1) σ α F1 H1 (e.mono m1.ex) S1 k fun v F2 H2 s m2 S2 o2 q2 => kk v F2 H2 s (m1.trans m2) S2 o2 q2
/-! tests -/
variable {R : Bool → Prop} {t u : TT}
theorem et_B (h : EvP K te ρ M fun s => ∃ b, s = .v (.bl b) ∧ R b) : EvT K (tB te) ρ M R := fun σ α F H e S k kk =>
  h σ α F H e S _ fun v F1 H1 s m1 S1 o1 ⟨b, e1, q⟩ => by
    subst e1
    have o1 : v = .bl b := o1
    subst o1
    exact ⟨b, rfl, kk b F1 H1 m1 S1 q⟩
theorem et_test (h : EvP K te ρ M fun s => ∃ b, s = .v (.bl b) ∧ R b) : EvT K (tTest te) ρ M R := et_B h
theorem et_and (h : EvT K t ρ M fun b => if b = true then EvT K u ρ M R else R false) : EvT K (tAnd t u) ρ M R := fun σ α F H e S k kk =>
  h σ α F H e S _ fun b F1 H1 m1 S1 q1 => by
    cases b with
    | true => exact (show EvT K u ρ M R from q1) σ α F1 H1 (e.mono m1.ex) S1 k fun c F2 H2 m2 S2 q2 => kk c F2 H2 (m1.trans m2) S2 q2
    | false => exact kk false F1 H1 m1 S1 q1
theorem et_or (h : EvT K t ρ M fun b => if b = true then R true else EvT K u ρ M R) : EvT K (tOr t u) ρ M R := fun σ α F H e S k kk =>
  h σ α F H e S _ fun b F1 H1 m1 S1 q1 => by
    cases b with
    | true => exact kk true F1 H1 m1 S1 q1
    | false => exact (show EvT K u ρ M R from q1) σ α F1 H1 (e.mono m1.ex) S1 k fun c F2 H2 m2 S2 q2 => kk c F2 H2 (m1.trans m2) S2 q2
theorem et_not (h : EvT K t ρ M fun b => R (!b)) : EvT K (tNot t) ρ M R := fun σ α F H e S k kk =>
  h σ α F H e S _ fun b F1 H1 m1 S1 q1 => kk (!b) F1 H1 m1 S1 q1
theorem ev_andV (h : EvP K ta ρ M fun s => ∃ b, s = .v (.bl b) ∧ if b = true then EvP K tb ρ M Q else Q (.v (.bl false))) : EvP K (tAndV ta tb) ρ M Q := fun σ α F H e S k kk =>
  h σ α F H e S _ fun v F1 H1 s m1 S1 o1 ⟨b, e1, q1⟩ => by
    subst e1
    have o1 : v = .bl b := o1
    subst o1
    refine ⟨b, rfl, ?_⟩
    cases b with
    | true => exact (show EvP K tb ρ M Q from q1) σ α F1 H1 (e.mono m1.ex) S1 k fun v F2 H2 s m2 S2 o2 q2 => kk v F2 H2 s (m1.trans m2) S2 o2 q2
    | false => exact kk _ F1 H1 _ m1 S1 raw_ok q1
theorem ev_orV (h : EvP K ta ρ M fun s => ∃ b, s = .v (.bl b) ∧ if b = true then Q (.v (.bl true)) else EvP K tb ρ M Q) : EvP K (tOrV ta tb) ρ M Q := fun σ α F H e S k kk =>
  h σ α F H e S _ fun v F1 H1 s m1 S1 o1 ⟨b, e1, q1⟩ => by
    subst e1
    have o1 : v = .bl b := o1
    subst o1
    refine ⟨b, rfl, ?_⟩
    cases b with
    | true => exact kk _ F1 H1 _ m1 S1 raw_ok q1
    | false => exact (show EvP K tb ρ M Q from q1) σ α F1 H1 (e.mono m1.ex) S1 k fun v F2 H2 s m2 S2 o2 q2 => kk v F2 H2 s (m1.trans m2) S2 o2 q2
theorem ev_notV (h : EvP K ta ρ M fun s => ∃ b, s = .v (.bl b) ∧ Q (.v (.bl (!b)))) : EvP K (tNotV ta) ρ M Q := fun σ α F H e S k kk =>
  h σ α F H e S _ fun v F1 H1 s m1 S1 o1 ⟨b, e1, q1⟩ => by
    subst e1
    have o1 : v = .bl b := o1
    subst o1
    exact ⟨b, rfl, kk _ F1 H1 _ m1 S1 raw_ok q1⟩
theorem eo_none {R : Option Int → Prop} (q : R none) : EvO K tNoPart ρ M R := fun σ α F H e S k kk => kk none F H .refl S q
theorem eo_some {R : Option Int → Prop} (h : EvP K te ρ M fun s => ∃ i, s = .v (.int i) ∧ R (some i)) : EvO K (tPart te) ρ M R := fun σ α F H e S k kk =>
  h σ α F H e S _ fun v F1 H1 s m1 S1 o1 ⟨i, e1, q1⟩ => by
    subst e1
    have o1 : v = .int i := o1
    subst o1
    exact ⟨i, rfl, kk _ F1 H1 m1 S1 q1⟩

/-! ### operations -/
theorem er_I0 {g : Int → Int → V} {i j : Int} (q : Q (.v (.raw (g i j)))) : EvR K (rI0 g) M (.v (.int i)) (.v (.int j)) Q := fun α F H u v S o1 o2 k kk => by
  have o1 : u = .int i := o1
  have o2 : v = .int j := o2
  subst o1; subst o2
  exact ⟨i, j, rfl, rfl, kk _ F H _ .refl S raw_ok q⟩
theorem er_I {C : Int → Int → Prop} {g : Int → Int → V} {i j : Int} (hc : C i j) (q : Q (.v (.raw (g i j)))) : EvR K (rI C g) M (.v (.int i)) (.v (.int j)) Q := fun α F H u v S o1 o2 k kk => by
  have o1 : u = .int i := o1
  have o2 : v = .int j := o2
  subst o1; subst o2
  exact ⟨i, j, rfl, rfl, hc, kk _ F H _ .refl S raw_ok q⟩
theorem eu_I {g : Int → V} {i : Int} (q : Q (.v (.raw (g i)))) : EvU K (rU g) M (.v (.int i)) Q := fun α F H u S o1 k kk => by
  have o1 : u = .int i := o1
  subst o1
  exact ⟨i, rfl, kk _ F H _ .refl S raw_ok q⟩
theorem er_eq {x y : V} (h : scal x y = true) (q : Q (.v (.bl (decide (x = y))))) : EvR K rEq M (.v (.raw x)) (.v (.raw y)) Q := fun α F H u v S o1 o2 k kk => by
  have o1 : u = x := o1
  have o2 : v = y := o2
  subst o1; subst o2
  exact ⟨h, kk _ F H _ .refl S raw_ok q⟩
theorem er_ne {x y : V} (h : scal x y = true) (q : Q (.v (.bl (!decide (x = y))))) : EvR K rNe M (.v (.raw x)) (.v (.raw y)) Q := fun α F H u v S o1 o2 k kk => by
  have o1 : u = x := o1
  have o2 : v = y := o2
  subst o1; subst o2
  exact ⟨h, kk _ F H _ .refl S raw_ok q⟩
end
end DL

/-! DL2: statements, loops, calls, sequences over plain data. -/
namespace DL
open PySem L2

/-- the entry of a def -/
structure Ent where
  α : Al
  F : Hp
  H : Hp
structure StepE (e : Ent) (α : Al) (F H : Hp) : Prop where
  ex : Same e.F F
  fr : ∀ b o, e.H b = some o → (∀ p, p ∈ e.α → b ≠ p.1 ∧ b ≠ p.2) → H b = some o
  tr : ∀ b, e.H b ≠ none → H b ≠ none
  new : ∀ b, F b ≠ none → e.F b ≠ none ∨ e.H b = none
  pre : ∃ β, α = e.α ++ β ∧ ∀ p, p ∈ β → e.H p.1 = none ∧ e.H p.2 = none
section
variable {K : PySem.W.Frag}
theorem StepE.refl {e : Ent} : StepE e e.α e.F e.H := ⟨fun _ _ h => h, fun _ _ h _ => h, fun _ h => h, fun _ h => .inl h, ⟨[], by simp, fun _ h => by simp at h⟩⟩
theorem none_back {H H' : Hp} {b : Addr} (t : H b ≠ none → H' b ≠ none) (h : H' b = none) : H b = none := by
  cases e : H b with
  | none => rfl
  | some o => exact absurd h (t (by rw [e]; simp))
theorem StepE.move {e : Ent} {α : Al} {F H F' H' : Hp} (s : StepE e α F H) (m : Move α F H F' H') : StepE e α F' H' where
  ex := s.ex.trans m.ex
  fr := fun b o h k => m.fr b o (s.fr b o h k) fun p hp => by
    obtain ⟨β, e1, hβ⟩ := s.pre
    rw [e1] at hp
    rcases List.mem_append.mp hp with q | q
    · exact k p q
    · have := hβ p q
      exact ⟨fun z => by { rw [z, this.1] at h; cases h }, fun z => by { rw [z, this.2] at h; cases h }⟩
  tr := fun b h => m.tr b (s.tr b h)
  new := fun b h => by
    rcases m.new b h with q | q
    · exact s.new b q
    · exact .inr (none_back (s.tr b) q)
  pre := s.pre
structure Good (K : PySem.W.Frag) (e : Ent) (α : Al) (F H : Hp) (σ : L2.St) (ρ : Rho) (M : List MO) : Prop where
  env : EnvOk K α F σ ρ
  sta : Sta K α M F H
  st : StepE e α F H
structure EndsD where
  nx : Rho → List MO → Prop
  rt : Sl → List MO → Prop
  bk : Rho → List MO → Prop := fun _ _ => False
  ct : Rho → List MO → Prop := fun _ _ => False
structure EndsOk (K : PySem.W.Frag) (e : Ent) (B : Hp) (E : EndsD) (X : Ends) : Prop where
  nx : ∀ σ α F H ρ M, Good K e α F H σ ρ M → Same B F → E.nx ρ M → X.nx σ H
  rt : ∀ v s α F H M, SlOk K α F s v → Sta K α M F H → StepE e α F H → Same B F → E.rt s M → X.rt v H
  bk : ∀ σ α F H ρ M, Good K e α F H σ ρ M → Same B F → E.bk ρ M → X.bk σ H
  ct : ∀ σ α F H ρ M, Good K e α F H σ ρ M → Same B F → E.ct ρ M → X.ct σ H
theorem EndsOk.at {K : PySem.W.Frag} {e : Ent} {B B' : Hp} {E : EndsD} {X : Ends} (ok : EndsOk K e B E X) (s : Same B B') : EndsOk K e B' E X :=
  ⟨fun σ α F H ρ M g z => ok.nx σ α F H ρ M g (s.trans z), fun v t α F H M a b c z => ok.rt v t α F H M a b c (s.trans z), fun σ α F H ρ M g z => ok.bk σ α F H ρ M g (s.trans z), fun σ α F H ρ M g z => ok.ct σ α F H ρ M g (s.trans z)⟩
/-- a statement run from ρ, M comes to E -/
def RunD (K : PySem.W.Frag) (e : Ent) (ts : TS) (ρ : Rho) (M : List MO) (nx : Rho → List MO → Prop) (rt : Sl → List MO → Prop) (bk ct : Rho → List MO → Prop) : Prop := ∀ X σ α F H, Good K e α F H σ ρ M → EndsOk K e F ⟨nx, rt, bk, ct⟩ X → ts X σ H

variable {e : Ent} {ρ : Rho} {M : List MO} {nx bk ct : Rho → List MO → Prop} {rt : Sl → List MO → Prop} {te : TE} {t u : TS}
theorem Good.move {α : Al} {F H F' H' : Hp} {σ : L2.St} (g : Good K e α F H σ ρ M) (m : Move α F H F' H') (S : Sta K α M F' H') : Good K e α F' H' σ ρ M :=
  ⟨g.env.mono m.ex, S, g.st.move m⟩
theorem r_next (q : nx ρ M) : RunD K e tNext ρ M nx rt bk ct := fun X σ α F H g ok => ok.nx σ α F H ρ M g (.refl F) q
theorem r_break (q : bk ρ M) : RunD K e tBreak ρ M nx rt bk ct := fun X σ α F H g ok => ok.bk σ α F H ρ M g (.refl F) q
theorem r_cont (q : ct ρ M) : RunD K e tCont ρ M nx rt bk ct := fun X σ α F H g ok => ok.ct σ α F H ρ M g (.refl F) q
theorem r_seq (h : RunD K e t ρ M (fun ρ' M' => RunD K e u ρ' M' nx rt bk ct) rt bk ct) : RunD K e (tSeq t u) ρ M nx rt bk ct := fun X σ α F H g ok =>
  h { X with nx := u X } σ α F H g ⟨fun σ' α' F' H' ρ' M' g' z' q' => q' X σ' α' F' H' g' (ok.at z'), ok.rt, ok.bk, ok.ct⟩
theorem loc_ok {α : Al} {F : Hp} {k : Nat} {p : Addr × Addr} (h : α[k]? = some p) : SlOk K α F (.l k) (.ref p.1) := ⟨p, h, rfl⟩
theorem r_asg {i : Nat} (h : EvP K te ρ M fun s => nx (ρ.set i (some s)) M) : RunD K e (tAsg te (gName i)) ρ M nx rt bk ct := fun X σ α F H g ok =>
  h σ α F H g.env g.sta _ fun v F1 H1 s m1 S1 o1 q1 => ok.nx _ α F1 H1 _ M ⟨(g.env.mono m1.ex).set i o1, S1, g.st.move m1⟩ m1.ex q1
theorem r_drop (h : EvP K te ρ M fun _ => nx ρ M) : RunD K e (tDrop te) ρ M nx rt bk ct := fun X σ α F H g ok =>
  h σ α F H g.env g.sta _ fun v F1 H1 s m1 S1 o1 q1 => ok.nx _ α F1 H1 _ M (g.move m1 S1) m1.ex q1
theorem r_ret (h : EvP K te ρ M fun s => rt s M) : RunD K e (tRet te) ρ M nx rt bk ct := fun X σ α F H g ok =>
  h σ α F H g.env g.sta _ fun v F1 H1 s m1 S1 o1 q1 => ok.rt v s α F1 H1 M o1 S1 (g.st.move m1) m1.ex q1
theorem r_retN (h : rt (.v .non) M) : RunD K e tRetN ρ M nx rt bk ct := fun X σ α F H g ok => ok.rt _ _ α F H M raw_ok g.sta g.st (.refl F) h
theorem r_if {c : TT} (h : EvT K c ρ M fun b => if b = true then RunD K e t ρ M nx rt bk ct else RunD K e u ρ M nx rt bk ct) : RunD K e (tIfS c t u) ρ M nx rt bk ct := fun X σ α F H g ok =>
  h σ α F H g.env g.sta _ fun b F1 H1 m1 S1 q1 => by
    cases b with
    | true => exact (show RunD K e t ρ M nx rt bk ct from q1) X σ α F1 H1 (g.move m1 S1) (ok.at m1.ex)
    | false => exact (show RunD K e u ρ M nx rt bk ct from q1) X σ α F1 H1 (g.move m1 S1) (ok.at m1.ex)
theorem r_aug {i : Nat} {f : Int → Int → Int} {x : Int} (hx : ρ[i]? = some (some (.v (.int x)))) (h : EvP K te ρ M fun s => ∃ y, s = .v (.int y) ∧ nx (ρ.set i (some (.v (.int (f x y))))) M) : RunD K e (tAug i te (ipI f)) ρ M nx rt bk ct := fun X σ α F H g ok => by
  obtain ⟨v, h1, h2⟩ := g.env.at' i _ hx
  have h2 : v = .int x := h2
  subst h2
  refine ⟨_, h1, h σ α F H g.env g.sta _ fun v F1 H1 s m1 S1 o1 ⟨y, e1, q1⟩ => ?_⟩
  subst e1
  have o1 : v = .int y := o1
  subst o1
  exact ⟨x, y, rfl, rfl, ok.nx _ α F1 H1 _ M ⟨(g.env.mono m1.ex).set i raw_ok, S1, g.st.move m1⟩ m1.ex q1⟩
theorem r_par {i j : Nat} {ta : TA} (h : EvA K ta ρ M fun ss => ∃ a b, ss = [a, b] ∧ nx ((ρ.set i (some a)).set j (some b)) M) : RunD K e (tPar i j ta) ρ M nx rt bk ct := fun X σ α F H g ok =>
  h σ α F H g.env g.sta _ fun vs F1 H1 ss m1 S1 o1 ⟨a, b, e1, q1⟩ => by
    subst e1
    obtain ⟨v, r, rfl, hv, r2⟩ := o1
    obtain ⟨w, r', rfl, hw, r3⟩ := r2
    have r3 : r' = [] := r3
    subst r3
    exact ⟨v, w, rfl, ok.nx _ α F1 H1 _ M ⟨((g.env.mono m1.ex).set i hv).set j hw, S1, g.st.move m1⟩ m1.ex q1⟩
theorem RunD.mono {nx' bk' ct' : Rho → List MO → Prop} {rt' : Sl → List MO → Prop} (h : RunD K e t ρ M nx rt bk ct) (h1 : ∀ ρ M, nx ρ M → nx' ρ M) (h2 : ∀ s M, rt s M → rt' s M) (h3 : ∀ ρ M, bk ρ M → bk' ρ M) (h4 : ∀ ρ M, ct ρ M → ct' ρ M) : RunD K e t ρ M nx' rt' bk' ct' := fun X σ α F H g ok =>
  h X σ α F H g ⟨fun σ α F H ρ M g z q => ok.nx σ α F H ρ M g z (h1 ρ M q), fun v s α F H M a b c z q => ok.rt v s α F H M a b c z (h2 s M q), fun σ α F H ρ M g z q => ok.bk σ α F H ρ M g z (h3 ρ M q), fun σ α F H ρ M g z q => ok.ct σ α F H ρ M g z (h4 ρ M q)⟩

/-! ### changing things -/
theorem nth_ne {α : Al} {F H : Hp} {M : List MO} (S : Sta K α M F H) {i j : Nat} {p q : Addr × Addr} (hi : α[i]? = some p) (hj : α[j]? = some q) (h : i ≠ j) : Apart p q := by
  rcases Nat.lt_or_gt_of_ne h with l | l
  · exact S.ap i j p q l hi hj
  · obtain ⟨a, b, c, d⟩ := S.ap j i q p l hj hi
    exact ⟨a.symm, c.symm, b.symm, d.symm⟩
/-- the k-th thing is another now -/
theorem Sta.write {α : Al} {F H : Hp} {M : List MO} (S : Sta K α M F H) {k : Nat} {p : Addr × Addr} {m' : MO} {o : HO} (hp : α[k]? = some p) (hF : F p.1 = none) (hm : MObj K F (upd H p.1 o) m' p) : Move α F H F (upd H p.1 o) ∧ Sta K α (M.set k m') F (upd H p.1 o) := by
  have hpm : p ∈ α := List.mem_of_getElem? hp
  have t2 : ∀ b, H b ≠ none → upd H p.1 o b ≠ none := fun b h => by
    by_cases e : b = p.1
    · subst e; rw [upd_same]; simp
    · rw [upd_ne e]; exact h
  refine ⟨⟨fun _ _ h => h, fun b u h k => by rw [upd_ne (k p hpm).1]; exact h, t2, fun b h => .inl h⟩, ⟨fun b u h => ?_, by simp [S.len], fun i m q h1 h2 => ?_, S.ap, fun q hq => ⟨t2 _ (S.tr q hq).1, t2 _ (S.tr q hq).2⟩⟩⟩
  · rw [upd_ne (fun z => by rw [z, hF] at h; cases h)]; exact S.sub b u h
  · by_cases hik : k = i
    · subst hik
      have hl : k < M.length := by rw [S.len]; exact (List.getElem?_eq_some_iff.mp h2).1
      rw [List.getElem?_set_self hl] at h1
      cases h1
      rw [hp] at h2; cases h2
      exact hm
    · rw [List.getElem?_set_ne hik] at h1
      have ap := nth_ne S h2 hp (Ne.symm hik)
      have kk := S.ob i m q h1 h2
      have s1 : upd H p.1 o q.1 = H q.1 := upd_ne ap.1
      have s2 : upd H p.1 o q.2 = H q.2 := upd_ne ap.2.2.1
      cases m with
      | lst ds => exact ⟨kk.1, by rw [s1]; exact kk.2⟩
      | dic ks ds => exact ⟨kk.1, by rw [s1]; exact kk.2⟩
      | pin a0 ds => exact ⟨kk.1, by rw [s1]; exact kk.2⟩
      | frz d od kvs ks ds => exact ⟨kk.1, by rw [s1]; exact kk.2⟩
      | ins C ns ds => exact ⟨kk.1, by rw [s1]; exact kk.2⟩
      | rng => exact ⟨kk.1, kk.2.1, by unfold Rng; rw [s1, s2]; exact kk.2.2⟩
      | dead => trivial
/-- a new thing -/
theorem Sta.more {α : Al} {F H : Hp} {M : List MO} (S : Sta K α M F H) {p : Addr} {m' : MO} {o : HO} (hp : H p = none) (hm : MObj K F (upd H p o) m' (p, p)) : Sta K (α ++ [(p, p)]) (M ++ [m']) F (upd H p o) := by
  have hF : F p = none := S.sub.free hp
  have s2 : ∀ b u, H b = some u → upd H p o b = some u := fun b u h => by rw [upd_ne (ne_of_none h hp)]; exact h
  have t2 : ∀ b, H b ≠ none → upd H p o b ≠ none := fun b h => by
    have : b ≠ p := fun e => h (by rw [e]; exact hp)
    rw [upd_ne this]; exact h
  refine ⟨fun b u h => s2 b u (S.sub b u h), by simp [S.len], fun i m q h1 h2 => ?_, fun i j q r hij h1 h2 => ?_, fun q hq => ?_⟩
  · by_cases hi : i < α.length
    · rw [List.getElem?_append_left (by rw [S.len]; exact hi)] at h1
      rw [List.getElem?_append_left hi] at h2
      have kk := S.ob i m q h1 h2
      cases m with
      | lst ds => exact ⟨kk.1, let ⟨vs, a, b⟩ := kk.2; ⟨vs, s2 _ _ a, b⟩⟩
      | dic ks ds => exact ⟨kk.1, let ⟨vs, a, b⟩ := kk.2; ⟨vs, s2 _ _ a, b⟩⟩
      | pin a0 ds => exact ⟨kk.1, kk.2.1, let ⟨vs, a, b⟩ := kk.2.2; ⟨vs, s2 _ _ a, b⟩⟩
      | frz d od kvs ks ds => exact ⟨kk.1, kk.2.1, s2 _ _ kk.2.2.1, kk.2.2.2⟩
      | ins C ns ds => exact ⟨kk.1, let ⟨dx, vs, a, b⟩ := kk.2; ⟨dx, vs, s2 _ _ a, b⟩⟩
      | rng => exact ⟨kk.1, kk.2.1, let ⟨s, i, c, h0, h1, h2, h3⟩ := kk.2.2; ⟨s, i, c, h0, s2 _ _ h1, s2 _ _ h2, h3⟩⟩
      | dead => trivial
    · have hi2 : i = α.length := by
        have := (List.getElem?_eq_some_iff.mp h2).1
        simp at this; omega
      subst hi2
      rw [← S.len, List.getElem?_append_right (Nat.le_refl _)] at h1
      rw [List.getElem?_append_right (Nat.le_refl _)] at h2
      simp at h1 h2
      subst h1; subst h2
      exact hm
  · have hj : j < α.length ∨ j = α.length := by
      have := (List.getElem?_eq_some_iff.mp h2).1
      simp at this; omega
    have hi : i < α.length := by omega
    rw [List.getElem?_append_left hi] at h1
    rcases hj with hj | hj
    · rw [List.getElem?_append_left hj] at h2
      exact S.ap i j q r hij h1 h2
    · subst hj
      rw [List.getElem?_append_right (Nat.le_refl _)] at h2
      simp at h2
      subst h2
      have hq := S.tr q (List.mem_of_getElem? h1)
      have n1 : q.1 ≠ p := fun z => hq.1 (by rw [z]; exact hp)
      have n2 : q.2 ≠ p := fun z => hq.2 (by rw [z]; exact hp)
      exact ⟨n1, n1, n2, n2⟩
  · rcases List.mem_append.mp hq with z | z
    · exact ⟨t2 _ (S.tr q z).1, t2 _ (S.tr q z).2⟩
    · simp at z; subst z
      show upd H p o p ≠ none ∧ upd H p o p ≠ none
      rw [upd_same]; simp
theorem SlOk.more {α β : Al} {F : Hp} : ∀ {s : Sl} {x : V}, SlOk K α F s x → SlOk K (α ++ β) F s x
  | .v d, x, h => h
  | .l k, x, ⟨p, h1, h2⟩ => ⟨p, by rw [List.getElem?_append_left (List.getElem?_eq_some_iff.mp h1).1]; exact h1, h2⟩
theorem EnvOk.more {α β : Al} {F : Hp} {σ : L2.St} (h : EnvOk K α F σ ρ) : EnvOk K (α ++ β) F σ ρ := ⟨h.len, fun i s q => let ⟨v, a, b⟩ := h.at' i s q; ⟨v, a, b.more⟩⟩
theorem StepE.more {α : Al} {F H : Hp} (s : StepE e α F H) {p : Addr} {o : HO} (hp : H p = none) : StepE e (α ++ [(p, p)]) F (upd H p o) where
  ex := s.ex
  fr := fun b u h k => by
    have := s.fr b u h k
    rw [upd_ne (ne_of_none this hp)]; exact this
  tr := fun b h => by
    have := s.tr b h
    have n : b ≠ p := fun z => this (by rw [z]; exact hp)
    rw [upd_ne n]; exact this
  new := s.new
  pre := by
    obtain ⟨β, e1, hβ⟩ := s.pre
    refine ⟨β ++ [(p, p)], by rw [e1, List.append_assoc], fun q hq => ?_⟩
    rcases List.mem_append.mp hq with z | z
    · exact hβ q z
    · simp at z; subst z
      exact ⟨none_back (s.tr p) hp, none_back (s.tr p) hp⟩
theorem sta_len {α : Al} {F H : Hp} (S : Sta K α M F H) {p : Addr} : (α ++ [(p, p)])[M.length]? = some (p, p) := by
  rw [S.len, List.getElem?_append_right (Nat.le_refl _)]; simp
/-- name = [..], a list that is to change -/
theorem r_newL {i : Nat} {ta : TA} (h : EvA K ta ρ M fun ss => ∃ ds : List D, ss = ds.map Sl.v ∧ ds.length ≤ 16777216 ∧ nx (ρ.set i (some (.l M.length))) (M ++ [.lst ds])) : RunD K e (tAsg (tLst ta) (gName i)) ρ M nx rt bk ct := fun X σ α F H g ok =>
  h σ α F H g.env g.sta _ fun vs F1 H1 ss m1 S1 o1 ⟨ds, e1, hl, q1⟩ => by
    subst e1
    have hd := o1.dens
    refine ⟨by rw [← hd.length, sizeLine_eq]; exact hl, fun p hp => ?_⟩
    have S2 := S1.more (m' := .lst ds) (o := .lst vs) hp ⟨S1.sub.free hp, vs, upd_same, hd⟩
    exact ok.nx _ _ F1 _ _ _ ⟨((g.env.mono m1.ex).more).set i (loc_ok (p := (p, p)) (sta_len S1)), S2, (g.st.move m1).more hp⟩ m1.ex q1
theorem r_newD {i : Nat} (q : nx (ρ.set i (some (.l M.length))) (M ++ [.dic [] []])) : RunD K e (tAsg tDNewK (gName i)) ρ M nx rt bk ct := fun X σ α F H g ok p hp => by
  have S2 := g.sta.more (m' := .dic [] []) (o := .dK []) hp ⟨g.sta.sub.free hp, [], upd_same, rfl, rfl⟩
  exact ok.nx _ _ F _ _ _ ⟨g.env.more.set i (loc_ok (p := (p, p)) (sta_len g.sta)), S2, g.st.more hp⟩ (.refl F) q
/-- a list that is made by any expression, held as one that is to change: nobody else knows it -/
theorem sta_get {α : Al} {F H : Hp} (S : Sta K α M F H) {k : Nat} {m : MO} (h : M[k]? = some m) : ∃ p, α[k]? = some p := by
  have : k < α.length := by rw [← S.len]; exact (List.getElem?_eq_some_iff.mp h).1
  exact ⟨α[k], List.getElem?_eq_getElem this⟩
/-- xs.append(e) -/
theorem r_app {i k : Nat} {ds : List D} (hi : ρ[i]? = some (some (.l k))) (hk : M[k]? = some (.lst ds)) (h : EvP K te ρ M fun s => ∃ d, s = .v d ∧ ds.length < 16777216 ∧ nx ρ (M.set k (.lst (ds ++ [d])))) :
    RunD K e (tDrop (tBM K "list" rAppend (tVar i) (tCons te tNil))) ρ M nx rt bk ct := fun X σ α F H g ok => by
  obtain ⟨v, h1, p, hp, rfl⟩ := g.env.at' i _ hi
  obtain ⟨hF, vs, hvs, _⟩ := g.sta.ob k _ p hk hp
  refine ⟨_, h1, .inl ⟨rfl, vs, SqL.of hvs⟩, h σ α F H g.env g.sta _ fun v F1 H1 s m1 S1 o1 ⟨d, e1, hl, q1⟩ => ?_⟩
  subst e1
  obtain ⟨hF1, vs1, hvs1, hd1⟩ := S1.ob k _ p hk hp
  refine ⟨p.1, vs1, v, rfl, rfl, hvs1, by rw [← hd1.length, sizeLine_eq]; exact hl, ?_⟩
  obtain ⟨m2, S2⟩ := S1.write (m' := .lst (ds ++ [d])) (o := .lst (vs1 ++ [v])) hp hF1 ⟨hF1, _, upd_same, hd1.append (Dens.cons o1 Dens.nil)⟩
  exact ok.nx _ _ F1 _ _ _ ⟨(g.env.mono m1.ex), S2, (g.st.move m1).move m2⟩ m1.ex q1
theorem ixN_nat {n j : Nat} (hj : j < n) : ixN n (j : Int) = some j := by
  unfold ixN
  rw [if_pos (by omega), if_pos (by omega)]
  simp
/-- xs[i] = e -/
theorem r_setL {i k : Nat} {ds : List D} {ti : TE} (hi : ρ[i]? = some (some (.l k))) (hk : M[k]? = some (.lst ds)) (h : EvP K te ρ M fun s => EvP K ti ρ M fun s' => ∃ d j n, s = .v d ∧ s' = .v (.int j) ∧ ixN ds.length j = some n ∧ nx ρ (M.set k (.lst (ds.set n d)))) :
    RunD K e (tAsg te (gSub (tVar i) ti rSetL)) ρ M nx rt bk ct := fun X σ α F H g ok =>
  h σ α F H g.env g.sta _ fun v F1 H1 s m1 S1 o1 q1 => by
    obtain ⟨u, h1, p, hp, rfl⟩ := g.env.at' i _ hi
    refine ⟨_, h1, q1 σ α F1 H1 (g.env.mono m1.ex) S1 _ fun w F2 H2 s' m2 S2 o2 ⟨d, j, n, e1, e2, hn, q2⟩ => ?_⟩
    subst e1; subst e2
    have o2 : w = .int j := o2
    subst o2
    obtain ⟨hF1, vs1, hvs1, hd1⟩ := S2.ob k _ p hk hp
    refine ⟨p.1, vs1, j, n, rfl, rfl, hvs1, by rw [← hd1.length]; exact hn, ?_⟩
    obtain ⟨m3, S3⟩ := S2.write (m' := .lst (ds.set n d)) (o := .lst (vs1.set n v)) hp hF1 ⟨hF1, _, upd_same, hd1.set (Den.mono K m2.ex _ _ o1) n⟩
    exact ok.nx _ _ F2 _ _ _ ⟨(g.env.mono (m1.trans m2).ex), S3, (g.st.move (m1.trans m2)).move m3⟩ (m1.trans m2).ex q2
/-- a list of one's own that changes no more -/
theorem Good.freeze {α : Al} {F H : Hp} {σ : L2.St} (g : Good K e α F H σ ρ M) {i k : Nat} {ds : List D} (hi : ρ[i]? = some (some (.l k))) (hk : M[k]? = some (.lst ds)) (he : e.α.length ≤ k) :
    ∃ F', Same F F' ∧ Good K e α F' H σ (ρ.set i (some (.v (.lst ds)))) (M.set k .dead) := by
  obtain ⟨v, h1, p, hp, rfl⟩ := g.env.at' i _ hi
  obtain ⟨hF, vs, hvs, hd⟩ := g.sta.ob k _ p hk hp
  have s1 : Same F (upd F p.1 (.lst vs)) := fun b u h => by rw [upd_ne (ne_of_none h hF)]; exact h
  have hl : k < M.length := (List.getElem?_eq_some_iff.mp hk).1
  refine ⟨upd F p.1 (.lst vs), s1, ⟨?_, ⟨fun b u h => ?_, by simp [g.sta.len], fun j m q h1 h2 => ?_, g.sta.ap, g.sta.tr⟩, ⟨g.st.ex.trans s1, g.st.fr, g.st.tr, fun b h => ?_, g.st.pre⟩⟩⟩
  · have hv := (g.env.mono s1).set i (s := .v (.lst ds)) (v := .ref p.1) (show Den K _ (.lst ds) _ from ⟨p.1, vs, rfl, upd_same, Dens.mono K s1 _ _ hd⟩)
    have hl2 : i < σ.length := (List.getElem?_eq_some_iff.mp h1).1
    have e3 : σ.set i (some (.ref p.1)) = σ := by
      apply List.ext_getElem?
      intro j
      by_cases e : i = j
      · subst e; rw [List.getElem?_set_self hl2, h1]
      · rw [List.getElem?_set_ne e]
    rw [e3] at hv
    exact hv
  · by_cases e : b = p.1
    · subst e; rw [upd_same] at h; cases h; exact hvs
    · rw [upd_ne e] at h; exact g.sta.sub b u h
  · by_cases hjk : k = j
    · subst hjk
      rw [List.getElem?_set_self hl] at h1
      cases h1; trivial
    · rw [List.getElem?_set_ne hjk] at h1
      have ap := nth_ne g.sta h2 hp (Ne.symm hjk)
      have kk := g.sta.ob j m q h1 h2
      have z1 : ∀ b, b ≠ p.1 → F b = none → upd F p.1 (.lst vs) b = none := fun b n z => by rw [upd_ne n]; exact z
      cases m with
      | lst ds => exact ⟨z1 _ ap.1 kk.1, let ⟨vs, a, b⟩ := kk.2; ⟨vs, a, Dens.mono K s1 _ _ b⟩⟩
      | dic ks ds => exact ⟨z1 _ ap.1 kk.1, let ⟨vs, a, c, b⟩ := kk.2; ⟨vs, a, c, Dens.mono K s1 _ _ b⟩⟩
      | pin a0 ds => exact ⟨z1 _ ap.1 kk.1, kk.2.1, let ⟨vs, a, b⟩ := kk.2.2; ⟨vs, a, Dens.mono K s1 _ _ b⟩⟩
      | frz d od kvs ks ds => exact ⟨z1 _ ap.1 kk.1, kk.2.1, kk.2.2.1, let ⟨vs, c, e, b⟩ := kk.2.2.2; ⟨vs, c, e, Dens.mono K s1 _ _ b⟩⟩
      | ins C ns ds => exact ⟨z1 _ ap.1 kk.1, let ⟨dx, vs, a, c, b⟩ := kk.2; ⟨dx, vs, a, c, Dens.mono K s1 _ _ b⟩⟩
      | rng => exact ⟨z1 _ ap.1 kk.1, z1 _ ap.2.2.1 kk.2.1, kk.2.2⟩
      | dead => trivial
  · by_cases eb : b = p.1
    · subst eb
      refine .inr ?_
      obtain ⟨β, e1, hβ⟩ := g.st.pre
      have : p ∈ β := by
        rw [e1, List.getElem?_append_right he] at hp
        exact List.mem_of_getElem? hp
      exact (hβ p this).1
    · rw [upd_ne eb] at h; exact g.st.new b h
theorem r_freeze (i k : Nat) {ds : List D} (hi : ρ[i]? = some (some (.l k))) (hk : M[k]? = some (.lst ds)) (he : e.α.length ≤ k) (h : RunD K e t (ρ.set i (some (.v (.lst ds)))) (M.set k .dead) nx rt bk ct) : RunD K e t ρ M nx rt bk ct := fun X σ α F H g ok => by
  obtain ⟨F', z, g'⟩ := g.freeze hi hk he
  exact h X σ α F' H g' (ok.at z)
/-- the last things are forgotten -/
theorem Good.forget {α : Al} {F H : Hp} {σ : L2.St} (g : Good K e α F H σ ρ M) (n : Nat) (i : Nat) : Good K e α F H σ (ρ.set i none) M := by
  refine ⟨⟨by simp [g.env.len], fun j s q => ?_⟩, g.sta, g.st⟩
  by_cases hj : i = j
  · subst hj
    by_cases hl : i < ρ.length
    · rw [List.getElem?_set_self hl] at q; cases q
    · rw [List.getElem?_eq_none (by simpa using hl)] at q; cases q
  · rw [List.getElem?_set_ne hj] at q
    exact g.env.at' j s q
end
end DL

/-! DL3: walks, loops, comprehensions, calls over plain data. -/
namespace DL
open PySem L2
section
variable {K : PySem.W.Frag} {e : Ent} {ρ : Rho} {M : List MO} {nx bk ct : Rho → List MO → Prop} {rt : Sl → List MO → Prop} {Q : Sl → Prop} {te ta tb : TE} {t u : TS}

/-! ### what is walked -/
def ItOk (K : PySem.W.Frag) (J : It) (F : Hp) (items : List D) : Prop := ∀ (i : Nat) (F1 H : Hp), Same F F1 → Same F1 H → (items.length = i → J.stop i H) ∧
  ∀ d, items[i]? = some d → J.go i H ∧ ∀ x H', J.yld i H x H' → (H' = H ∧ Den K F1 d x) ∨ ∃ T vs ds, x = .ref T ∧ H T = none ∧ H' = upd H T (.tup vs) ∧ d = .tup ds ∧ Dens K F1 ds vs
def EvI (K : PySem.W.Frag) (wi : TI) (ρ : Rho) (M : List MO) (R : List D → Prop) : Prop := ∀ (σ : L2.St) (α : Al) (F H : Hp), EnvOk K α F σ ρ → Sta K α M F H → ∀ k : It → Hp → Prop,
  (∀ J F' H' items, Move α F H F' H' → Sta K α M F' H' → ItOk K J F' items → R items → k J H') → wi σ H k
theorem it_turn {α : Al} {J : It} {F F1 H : Hp} {items : List D} {i : Nat} {d : D} {x : V} {H' : Hp} (ok : ItOk K J F items) (s1 : Same F F1) (S : Sta K α M F1 H) (hd : items[i]? = some d) (y : J.yld i H x H') :
    ∃ F2, Move α F1 H F2 H' ∧ Sta K α M F2 H' ∧ Den K F2 d x := by
  rcases ((ok i F1 H s1 S.sub).2 d hd).2 x H' y with ⟨rfl, h⟩ | ⟨T, vs, ds, rfl, hT, rfl, rfl, h⟩
  · exact ⟨F1, .refl, S, h⟩
  · obtain ⟨m, S2⟩ := S.laid (o := .tup vs) hT
    exact ⟨_, m, S2, T, vs, rfl, .inl (.inl upd_same), Dens.mono K m.ex _ _ h⟩
theorem itl_ok {F : Hp} {a : Addr} {vs : List V} {ds : List D} (h : F a = some (.lst vs)) (hd : Dens K F ds vs) : ItOk K (Itl K a) F ds := fun i F1 H s1 s2 => by
  have hH : SqL K H a vs := SqL.of (s2 _ _ (s1 _ _ h))
  refine ⟨fun hl => ⟨vs, hH, by rw [← hd.length]; exact Nat.le_of_eq hl⟩, fun d e => ?_⟩
  obtain ⟨v, e2, r⟩ := hd.get e
  refine ⟨⟨vs, v, hH, e2⟩, fun x H' y => .inl ⟨y.1, ?_⟩⟩
  have := y.2 vs hH
  rw [e2] at this; cases this
  exact Den.mono K s1 _ _ r
theorem itt_ok {F : Hp} {a : Addr} {vs : List V} {ds : List D} (h : SqT K F a vs) (hd : Dens K F ds vs) : ItOk K (Itt K a) F ds := fun i F1 H s1 s2 => by
  have hH : SqT K H a vs := sqt_same K s2 (sqt_same K s1 h)
  refine ⟨fun hl => ⟨vs, hH, by rw [← hd.length]; exact Nat.le_of_eq hl⟩, fun d e => ?_⟩
  obtain ⟨v, e2, r⟩ := hd.get e
  refine ⟨⟨vs, v, hH, e2⟩, fun x H' y => .inl ⟨y.1, ?_⟩⟩
  have := y.2 vs hH
  rw [e2] at this; cases this
  exact Den.mono K s1 _ _ r
def rangeD (lo : Int) (n : Nat) : List D := (List.range n).map fun i : Nat => D.int (lo + (i : Int))
theorem rangeD_len {lo : Int} {n : Nat} : (rangeD lo n).length = n := by simp [rangeD]
theorem rangeD_get {lo : Int} {n i : Nat} {d : D} (h : (rangeD lo n)[i]? = some d) : i < n ∧ d = .int (lo + i) := by
  unfold rangeD at h
  rw [List.getElem?_map] at h
  by_cases hi : i < n
  · rw [List.getElem?_range hi] at h
    simp at h
    exact ⟨hi, h.symm⟩
  · rw [List.getElem?_eq_none (by simpa using hi)] at h; cases h
theorem itr_ok {F : Hp} {lo : Int} {n : Nat} : ItOk K (Itr lo n) F (rangeD lo n) := fun i F1 H s1 s2 => by
  refine ⟨fun hl => by rw [rangeD_len] at hl; exact Nat.le_of_eq hl, fun d e => ?_⟩
  obtain ⟨hi, rfl⟩ := rangeD_get e
  exact ⟨hi, fun x H' y => .inl ⟨y.1, y.2⟩⟩
theorem ei_list {R : List D → Prop} (h : EvP K te ρ M fun s => ∃ ds, s = .v (.lst ds) ∧ R ds) : EvI K (iList K te) ρ M R := fun σ α F H en S k kk =>
  h σ α F H en S _ fun v F1 H1 s m1 S1 o1 ⟨ds, e1, q⟩ => by
    subst e1
    obtain ⟨a, vs, rfl, h1, h2⟩ := o1
    exact ⟨a, rfl, ⟨vs, SqL.of (S1.sub _ _ h1)⟩, kk _ F1 H1 ds m1 S1 (itl_ok h1 h2) q⟩
theorem ei_tup {R : List D → Prop} (h : EvP K te ρ M fun s => ∃ ds, s = .v (.tup ds) ∧ R ds) : EvI K (iTup K te) ρ M R := fun σ α F H en S k kk =>
  h σ α F H en S _ fun v F1 H1 s m1 S1 o1 ⟨ds, e1, q⟩ => by
    subst e1
    obtain ⟨a, vs, rfl, h1, h2⟩ := o1
    exact ⟨a, rfl, ⟨vs, sqt_same K S1.sub h1⟩, kk _ F1 H1 ds m1 S1 (itt_ok h1 h2) q⟩
theorem ei_range1 {tl : TA} {R : List D → Prop} (h : EvA K tl ρ M fun ss => ∃ n, ss = [.v (.int n)] ∧ -(2 ^ 62) ≤ n ∧ n < 2 ^ 62 ∧ R (rangeD 0 n.toNat)) : EvI K (iRng1 tl) ρ M R := fun σ α F H en S k kk =>
  h σ α F H en S _ fun vs F1 H1 ss m1 S1 o1 ⟨n, e1, h1, h2, q⟩ => by
    subst e1
    obtain ⟨v, r, rfl, hv, r2⟩ := o1
    have hv : v = .int n := hv
    have r2 : r = [] := r2
    subst hv; subst r2
    exact ⟨n, rfl, h1, h2, kk _ F1 H1 _ m1 S1 itr_ok q⟩
theorem ei_range2 {tl : TA} {R : List D → Prop} (h : EvA K tl ρ M fun ss => ∃ i j, ss = [.v (.int i), .v (.int j)] ∧ (-(2 ^ 62) ≤ i ∧ i < 2 ^ 62 ∧ -(2 ^ 62) ≤ j ∧ j < 2 ^ 62) ∧ R (rangeD i (j - i).toNat)) : EvI K (iRng2 tl) ρ M R := fun σ α F H en S k kk =>
  h σ α F H en S _ fun vs F1 H1 ss m1 S1 o1 ⟨i, j, e1, h1, q⟩ => by
    subst e1
    obtain ⟨v, r, rfl, hv, r2⟩ := o1
    obtain ⟨w, r', rfl, hw, r3⟩ := r2
    have hv : v = .int i := hv
    have hw : w = .int j := hw
    have r3 : r' = [] := r3
    subst hv; subst hw; subst r3
    exact ⟨i, j, rfl, h1, kk _ F1 H1 _ m1 S1 itr_ok q⟩
theorem ei_enum {tl : TA} {R : List D → Prop} (h : EvA K tl ρ M fun ss => ∃ ds : List D, ss = [.v (.lst ds)] ∧ R (ds.mapIdx fun i d => .tup [.int (i : Int), d])) : EvI K (iEnum K tl) ρ M R := fun σ α F H en S k kk =>
  h σ α F H en S _ fun vs F1 H1 ss m1 S1 o1 ⟨ds, e1, q⟩ => by
    subst e1
    obtain ⟨v, r, rfl, hv, r2⟩ := o1
    have r2 : r = [] := r2
    subst r2
    obtain ⟨a, us, rfl, h1, h2⟩ := hv
    refine ⟨a, us, rfl, SqL.of (S1.sub _ _ h1), kk _ F1 H1 _ m1 S1 (fun i F2 H2 s1 s2 => ?_) q⟩
    have hH : SqL K H2 a us := SqL.of (s2 _ _ (s1 _ _ h1))
    refine ⟨fun hl => ⟨us, hH, by rw [← h2.length]; exact Nat.le_of_eq (by simpa using hl)⟩, fun d e => ?_⟩
    rw [List.getElem?_mapIdx] at e
    cases e3 : ds[i]? with
    | none => rw [e3] at e; cases e
    | some d0 =>
      rw [e3] at e
      cases e
      obtain ⟨v, e2, r⟩ := h2.get e3
      refine ⟨⟨us, v, hH, e2⟩, fun x H' ⟨T, y, ex, hT, eH, hy⟩ => .inr ⟨T, _, _, ex, hT, eH, rfl, ?_⟩⟩
      have := hy us hH
      rw [e2] at this; cases this
      exact Dens.cons rfl (Dens.cons (Den.mono K s1 _ _ r) Dens.nil)
theorem ei_zip {tl : TA} {R : List D → Prop} (h : EvA K tl ρ M fun ss => ∃ ds es : List D, ss = [.v (.lst ds), .v (.lst es)] ∧ R (ds.zipWith (fun d c => .tup [d, c]) es)) : EvI K (iZip K tl) ρ M R := fun σ α F H en S k kk =>
  h σ α F H en S _ fun vs F1 H1 ss m1 S1 o1 ⟨ds, es, e1, q⟩ => by
    subst e1
    obtain ⟨v, r, rfl, hv, r2⟩ := o1
    obtain ⟨w, r', rfl, hw, r3⟩ := r2
    have r3 : r' = [] := r3
    subst r3
    obtain ⟨a, us, rfl, h1, h2⟩ := hv
    obtain ⟨b, ws, rfl, h3, h4⟩ := hw
    refine ⟨a, b, us, ws, rfl, SqL.of (S1.sub _ _ h1), SqL.of (S1.sub _ _ h3), kk _ F1 H1 _ m1 S1 (fun i F2 H2 s1 s2 => ?_) q⟩
    have hH : SqL K H2 a us := SqL.of (s2 _ _ (s1 _ _ h1))
    have hH' : SqL K H2 b ws := SqL.of (s2 _ _ (s1 _ _ h3))
    refine ⟨fun hl => ⟨us, ws, hH, hH', ?_⟩, fun d e => ?_⟩
    · rw [List.length_zipWith, h2.length, h4.length] at hl; omega
    · rw [List.getElem?_zipWith] at e
      cases e3 : ds[i]? with
      | none => rw [e3] at e; cases e
      | some d0 =>
        cases e4 : es[i]? with
        | none => rw [e3, e4] at e; cases e
        | some c0 =>
          rw [e3, e4] at e
          cases e
          obtain ⟨v, e5, r⟩ := h2.get e3
          obtain ⟨w, e6, r'⟩ := h4.get e4
          refine ⟨⟨us, ws, v, w, hH, hH', e5, e6⟩, fun x H' ⟨T, y, z, ex, hT, eH, hy, hz⟩ => .inr ⟨T, _, _, ex, hT, eH, rfl, ?_⟩⟩
          have p1 := hy us hH
          have p2 := hz ws hH'
          rw [e5] at p1; cases p1
          rw [e6] at p2; cases p2
          exact Dens.cons (Den.mono K s1 _ _ r) (Dens.cons (Den.mono K s1 _ _ r') Dens.nil)

/-! ### targets: names, tuples of names -/
def EvG (K : PySem.W.Frag) (g : TG) (is : List Nat) (d : D) (ρ : Rho) (R : Rho → Prop) : Prop := ∀ (σ : L2.St) (α : Al) (F H : Hp) (v : V), EnvOk K α F σ ρ → Same F H → Den K F d v → ∀ k : L2.St → Hp → Prop,
  (∀ σ' ρ', EnvOk K α F σ' ρ' → σ'.length = σ.length → (∀ j : Nat, j ∉ is → σ'[j]? = σ[j]?) → R ρ' → k σ' H) → g v σ H k
def EvGs (K : PySem.W.Frag) (g : TGs) (is : List Nat) (ds : List D) (ρ : Rho) (R : Rho → Prop) : Prop := ∀ (σ : L2.St) (α : Al) (F H : Hp) (vs : List V), EnvOk K α F σ ρ → Same F H → Dens K F ds vs → ∀ k : L2.St → Hp → Prop,
  (∀ σ' ρ', EnvOk K α F σ' ρ' → σ'.length = σ.length → (∀ j : Nat, j ∉ is → σ'[j]? = σ[j]?) → R ρ' → k σ' H) → g vs σ H k
theorem eg_name {i : Nat} {is : List Nat} {d : D} {R : Rho → Prop} (q : R (ρ.set i (some (.v d)))) (hi : i ∈ is := by simp) : EvG K (gName i) is d ρ R := fun σ α F H v en s h k kk =>
  kk _ _ (en.set i (s := .v d) h) (by simp) (fun j hj => List.getElem?_set_ne (fun z => hj (by rw [← z]; exact hi))) q
theorem eg_nil {is : List Nat} {R : Rho → Prop} (q : R ρ) : EvGs K gNil is [] ρ R := fun σ α F H vs en s h k kk => by
  have h : vs = [] := h
  exact ⟨h, kk _ _ en rfl (fun _ _ => rfl) q⟩
theorem eg_cons {g : TG} {gs : TGs} {is : List Nat} {d : D} {ds : List D} {R : Rho → Prop} (h : EvG K g is d ρ fun ρ' => EvGs K gs is ds ρ' R) : EvGs K (gCons g gs) is (d :: ds) ρ R := fun σ α F H vs en s hd k kk => by
  obtain ⟨v, r, rfl, h1, h2⟩ := hd
  exact ⟨v, r, rfl, h σ α F H v en s h1 _ fun σ' ρ' en' l' f' q => q σ' α F H r en' s h2 k fun σ2 ρ2 en2 l2 f2 q2 => kk σ2 ρ2 en2 (l2.trans l') (fun j hj => (f2 j hj).trans (f' j hj)) q2⟩
theorem eg_tup {g : TGs} {is : List Nat} {n : Nat} {ds : List D} {R : Rho → Prop} (hl : ds.length = n) (h : EvGs K g is ds ρ R) : EvG K (gTup K n g) is (.tup ds) ρ R := fun σ α F H v en s hd k kk => by
  obtain ⟨a, vs, rfl, h1, h2⟩ := hd
  exact ⟨a, vs, rfl, sqt_same K s h1, by rw [← h2.length]; exact hl, h σ α F H vs en s h2 k kk⟩
/-- a, b = e -/
theorem r_asgG {g : TG} {is : List Nat} (h : EvP K te ρ M fun s => ∃ d, s = .v d ∧ EvG K g is d ρ fun ρ' => nx ρ' M) : RunD K e (tAsg te g) ρ M nx rt bk ct := fun X σ α F H gd ok =>
  h σ α F H gd.env gd.sta _ fun v F1 H1 s m1 S1 o1 ⟨d, e1, q⟩ => by
    subst e1
    exact q σ α F1 H1 v (gd.env.mono m1.ex) S1.sub o1 _ fun σ' ρ' en' _ _ q' => ok.nx _ α F1 H1 _ M ⟨en', S1, gd.st.move m1⟩ m1.ex q'

/-! ### for -/
theorem r_for {wi : TI} {g : TG} (is : List Nat) (h : EvI K wi ρ M fun items => ∃ I : Nat → Rho → List MO → Prop, I 0 ρ M ∧
      (∀ i d ρ' M', items[i]? = some d → I i ρ' M' → EvG K g is d ρ' fun ρ2 => RunD K e t ρ2 M' (I (i + 1)) rt nx (I (i + 1))) ∧
      ∀ ρ' M', I items.length ρ' M' → nx ρ' M') : RunD K e (tFor wi g t) ρ M nx rt bk ct := fun X σ α F H gd ok =>
  h σ α F H gd.env gd.sta _ fun J F1 H1 items m1 S1 it ⟨I, h0, hs, hd⟩ => by
    refine ⟨fun i m σ' H' => m = items.length - i ∧ i ≤ items.length ∧ ∃ ρ' M' α' F', Good K e α' F' H' σ' ρ' M' ∧ Same F1 F' ∧ I i ρ' M', ⟨_, rfl, Nat.zero_le _, ρ, M, α, F1, gd.move m1 S1, fun _ _ z => z, h0⟩, ?_⟩
    rintro i m σ' H' ⟨rfl, hi, ρ', M', α', F', g', s', p⟩
    by_cases hlt : i < items.length
    · have hget : items[i]? = some items[i] := List.getElem?_eq_getElem hlt
      refine .inr ⟨((it i F' H' s' g'.sta.sub).2 _ hget).1, fun σ2 H2 => ∃ ρ2 M2 α2 F2, Good K e α2 F2 H2 σ2 ρ2 M2 ∧ Same F1 F2 ∧ I (i + 1) ρ2 M2, fun σ2 H2 ⟨ρ2, M2, α2, F2, g2, s2, p2⟩ => ⟨items.length - (i + 1), by omega, rfl, hlt, ρ2, M2, α2, F2, g2, s2, p2⟩, fun x H2 y => ?_⟩
      obtain ⟨F2, m2, S2, hx⟩ := it_turn it s' g'.sta hget y
      have g2 := g'.move m2 S2
      refine hs i _ ρ' M' hget p σ' α' F2 H2 x g2.env S2.sub hx _ fun σ3 ρ3 en3 _ _ q3 => ?_
      have s12 : Same F1 F2 := s'.trans m2.ex
      have ok2 := ok.at (m1.ex.trans s12)
      exact q3 _ σ3 α' F2 H2 ⟨en3, S2, g2.st⟩ ⟨fun σ4 α4 F4 H4 ρ4 M4 g4 z4 q4 => ⟨ρ4, M4, α4, F4, g4, s12.trans z4, q4⟩, ok2.rt, ok2.nx, fun σ4 α4 F4 H4 ρ4 M4 g4 z4 q4 => ⟨ρ4, M4, α4, F4, g4, s12.trans z4, q4⟩⟩
    · have ei : i = items.length := by omega
      subst ei
      exact .inl ⟨(it _ F' H' s' g'.sta.sub).1 rfl, ok.nx _ _ _ _ _ _ g' (m1.ex.trans s') (hd ρ' M' p)⟩

/-! ### while -/
theorem r_while {c : TT} (h : ∃ I : Nat → Rho → List MO → Prop, (∃ m, I m ρ M) ∧ ∀ m ρ' M', I m ρ' M' → EvT K c ρ' M' fun b => if b = true then RunD K e t ρ' M' (fun ρ2 M2 => ∃ m', m' < m ∧ I m' ρ2 M2) rt nx (fun ρ2 M2 => ∃ m', m' < m ∧ I m' ρ2 M2) else nx ρ' M') :
    RunD K e (tWhile c t) ρ M nx rt bk ct := fun X σ α F H gd ok => by
  obtain ⟨I, ⟨m0, h0⟩, hs⟩ := h
  refine ⟨fun m σ' H' => ∃ ρ' M' α' F', Good K e α' F' H' σ' ρ' M' ∧ Same F F' ∧ I m ρ' M', ⟨m0, ρ, M, α, F, gd, .refl F, h0⟩, ?_⟩
  rintro m σ' H' ⟨ρ', M', α', F', g', s', p⟩
  refine hs m ρ' M' p σ' α' F' H' g'.env g'.sta _ fun b F2 H2 m2 S2 q2 => ?_
  cases b with
  | true =>
    refine iteT ⟨fun σ2 H2 => ∃ m', m' < m ∧ ∃ ρ2 M2 α2 F2, Good K e α2 F2 H2 σ2 ρ2 M2 ∧ Same F F2 ∧ I m' ρ2 M2, fun σ2 H2 z => z, ?_⟩
    have s12 : Same F F2 := s'.trans m2.ex
    have ok2 := ok.at s12
    have q2 : RunD K e t ρ' M' (fun ρ2 M2 => ∃ m', m' < m ∧ I m' ρ2 M2) rt nx (fun ρ2 M2 => ∃ m', m' < m ∧ I m' ρ2 M2) := q2
    exact q2 _ σ' α' F2 H2 (g'.move m2 S2) ⟨fun σ4 α4 F4 H4 ρ4 M4 g4 z4 ⟨m', l, q4⟩ => ⟨m', l, ρ4, M4, α4, F4, g4, s12.trans z4, q4⟩, ok2.rt, ok2.nx, fun σ4 α4 F4 H4 ρ4 M4 g4 z4 ⟨m', l, q4⟩ => ⟨m', l, ρ4, M4, α4, F4, g4, s12.trans z4, q4⟩⟩
  | false =>
    refine iteF ?_
    exact ok.nx _ _ _ _ _ _ (g'.move m2 S2) (s'.trans m2.ex) q2

/-! ### an object of nobody: it is tracked, not frozen, no numbered thing -/
theorem Sta.extra {α : Al} {F H : Hp} (S : Sta K α M F H) {p : Addr} {o : HO} (hF : F p = none) (ha : ∀ q, q ∈ α → p ≠ q.1 ∧ p ≠ q.2) : Sta K α M F (upd H p o) := by
  have s2 : ∀ b, b ≠ p → upd H p o b = H b := fun b h => upd_ne h
  have t2 : ∀ b, H b ≠ none → upd H p o b ≠ none := fun b h => by
    by_cases e : b = p
    · subst e; rw [upd_same]; simp
    · rw [upd_ne e]; exact h
  refine ⟨fun b u h => ?_, S.len, fun i m q h1 h2 => ?_, S.ap, fun q hq => ⟨t2 _ (S.tr q hq).1, t2 _ (S.tr q hq).2⟩⟩
  · rw [upd_ne (fun z => by rw [z, hF] at h; cases h)]; exact S.sub b u h
  · have ap := ha q (List.mem_of_getElem? h2)
    have kk := S.ob i m q h1 h2
    have s1 := s2 q.1 (Ne.symm ap.1)
    have s3 := s2 q.2 (Ne.symm ap.2)
    cases m with
    | lst ds => exact ⟨kk.1, by rw [s1]; exact kk.2⟩
    | dic ks ds => exact ⟨kk.1, by rw [s1]; exact kk.2⟩
    | pin a0 ds => exact ⟨kk.1, by rw [s1]; exact kk.2⟩
    | frz d od kvs ks ds => exact ⟨kk.1, by rw [s1]; exact kk.2⟩
    | ins C ns ds => exact ⟨kk.1, by rw [s1]; exact kk.2⟩
    | rng => exact ⟨kk.1, kk.2.1, by unfold Rng; rw [s1, s3]; exact kk.2.2⟩
    | dead => trivial
theorem Sta.ice {α : Al} {F H : Hp} (S : Sta K α M F H) {p : Addr} {o : HO} (hF : F p = none) (hH : H p = some o) (ha : ∀ q, q ∈ α → p ≠ q.1 ∧ p ≠ q.2) : Same F (upd F p o) ∧ Sta K α M (upd F p o) H := by
  have s1 : Same F (upd F p o) := fun b u h => by rw [upd_ne (ne_of_none h hF)]; exact h
  refine ⟨s1, fun b u h => ?_, S.len, fun i m q h1 h2 => ?_, S.ap, S.tr⟩
  · by_cases e : b = p
    · subst e; rw [upd_same] at h; cases h; exact hH
    · rw [upd_ne e] at h; exact S.sub b u h
  · have ap := ha q (List.mem_of_getElem? h2)
    have kk := S.ob i m q h1 h2
    have z1 : ∀ b, b ≠ p → F b = none → upd F p o b = none := fun b n z => by rw [upd_ne n]; exact z
    cases m with
    | lst ds => exact ⟨z1 _ (Ne.symm ap.1) kk.1, let ⟨vs, a, b⟩ := kk.2; ⟨vs, a, Dens.mono K s1 _ _ b⟩⟩
    | dic ks ds => exact ⟨z1 _ (Ne.symm ap.1) kk.1, let ⟨vs, a, c, b⟩ := kk.2; ⟨vs, a, c, Dens.mono K s1 _ _ b⟩⟩
    | pin a0 ds => exact ⟨z1 _ (Ne.symm ap.1) kk.1, kk.2.1, let ⟨vs, a, b⟩ := kk.2.2; ⟨vs, a, Dens.mono K s1 _ _ b⟩⟩
    | frz d od kvs ks ds => exact ⟨z1 _ (Ne.symm ap.1) kk.1, kk.2.1, kk.2.2.1, let ⟨vs, c, e, b⟩ := kk.2.2.2; ⟨vs, c, e, Dens.mono K s1 _ _ b⟩⟩
    | ins C ns ds => exact ⟨z1 _ (Ne.symm ap.1) kk.1, let ⟨dx, vs, a, c, b⟩ := kk.2; ⟨dx, vs, a, c, Dens.mono K s1 _ _ b⟩⟩
    | rng => exact ⟨z1 _ (Ne.symm ap.1) kk.1, z1 _ (Ne.symm ap.2) kk.2.1, kk.2.2⟩
    | dead => trivial
theorem Sta.notin {α : Al} {F H : Hp} (S : Sta K α M F H) {p : Addr} (hp : H p = none) : ∀ q, q ∈ α → p ≠ q.1 ∧ p ≠ q.2 := fun q hq =>
  ⟨fun z => (S.tr q hq).1 (by rw [← z]; exact hp), fun z => (S.tr q hq).2 (by rw [← z]; exact hp)⟩

/-! ### comprehensions -/
def wipeR (ρ : Rho) : List Nat → Rho
  | [] => ρ
  | v :: vs => (wipeR ρ vs).set v none
theorem EnvOk.wipe {α : Al} {F : Hp} {σ : L2.St} (h : EnvOk K α F σ ρ) : ∀ vs : List Nat, EnvOk K α F (L2.wipe σ vs) (wipeR ρ vs)
  | [] => h
  | v :: vs => (EnvOk.wipe h vs).setN v
theorem wipe_in {σ : L2.St} {i : Nat} : ∀ {vs : List Nat}, i ∈ vs → (L2.wipe σ vs)[i]? = if i < σ.length then some none else none
  | [], h => by simp at h
  | v :: vs, h => by
    unfold L2.wipe
    by_cases e : v = i
    · subst e
      by_cases hl : v < σ.length
      · rw [List.getElem?_set_self (by rw [wipe_length]; exact hl), if_pos hl]
      · rw [List.getElem?_eq_none (by rw [List.length_set, wipe_length]; omega), if_neg hl]
    · rw [List.getElem?_set_ne e]
      exact wipe_in (by simpa [Ne.symm e] using h)
theorem wipe_eq {σ σ' : L2.St} {vs : List Nat} (hl : σ'.length = σ.length) (h : ∀ j : Nat, j ∉ vs → σ'[j]? = σ[j]?) : L2.wipe σ' vs = L2.wipe σ vs := by
  apply List.ext_getElem?
  intro j
  by_cases e : j ∈ vs
  · rw [wipe_in e, wipe_in e, hl]
  · rw [wipe_out e, wipe_out e, h j e]
theorem wipe_wipe {σ : L2.St} {vs : List Nat} : L2.wipe (L2.wipe σ vs) vs = L2.wipe σ vs := wipe_eq (wipe_length σ vs) fun j e => wipe_out e
theorem ev_lc {wi : TI} {g : TG} {tt : TT} {vs : List Nat} (h : EvI K wi ρ M fun items => items.length ≤ 16777216 ∧ ∃ I : Nat → List D → Prop, I 0 [] ∧
      (∀ i d acc, items[i]? = some d → I i acc → EvG K g vs d (wipeR ρ vs) fun ρ' => EvT K tt ρ' M fun b => if b = true then EvP K te ρ' M (fun s => ∃ d', s = .v d' ∧ I (i + 1) (acc ++ [d'])) else I (i + 1) acc) ∧
      ∀ acc, I items.length acc → Q (.v (.lst acc))) : EvP K (tLc wi g tt te vs) ρ M Q := fun σ α F H en S k kk =>
  h σ α F H en S _ fun J F1 H1 items m1 S1 it ⟨hz, I, h0, hs, hd⟩ => by
    intro A hA
    have hFA : F1 A = none := S1.sub.free hA
    have hna := S1.notin hA
    refine ⟨fun i m H' => m = items.length - i ∧ i ≤ items.length ∧ ∃ F' acc us, Move α F1 H1 F' H' ∧ Sta K α M F' H' ∧ H' A = some (.lst us) ∧ F' A = none ∧ Dens K F' acc us ∧ acc.length ≤ i ∧ I i acc,
      ⟨_, rfl, Nat.zero_le _, F1, [], [], ?_, S1.extra hFA hna, upd_same, hFA, rfl, Nat.le_refl _, h0⟩, ?_⟩
    · exact ⟨fun _ _ z => z, fun b o q _ => by rw [upd_ne (ne_of_none q hA)]; exact q, fun b q => by { rw [upd_ne (fun z => q (by rw [z]; exact hA))]; exact q }, fun b q => .inl q⟩
    rintro i m H' ⟨rfl, hi, F', acc, us, mv, S', hAt, hFA', hden, hlen, p⟩
    by_cases hlt : i < items.length
    · have hget : items[i]? = some items[i] := List.getElem?_eq_getElem hlt
      refine .inr ⟨((it i F' H' mv.ex S'.sub).2 _ hget).1, fun H2 => ∃ F2 acc us, Move α F1 H1 F2 H2 ∧ Sta K α M F2 H2 ∧ H2 A = some (.lst us) ∧ F2 A = none ∧ Dens K F2 acc us ∧ acc.length ≤ i + 1 ∧ I (i + 1) acc,
        fun H2 ⟨F2, acc, us, a, b, c, d, f, g, h⟩ => ⟨items.length - (i + 1), by omega, rfl, hlt, F2, acc, us, a, b, c, d, f, g, h⟩, fun x H2 y => ?_⟩
      obtain ⟨F2, m2, S2, hx⟩ := it_turn it mv.ex S' hget y
      have enw := ((en.mono m1.ex).mono (mv.ex.trans m2.ex)).wipe vs
      refine hs i _ acc hget p (L2.wipe σ vs) α F2 H2 x enw S2.sub hx _ fun σ3 ρ3 en3 l3 f3 q3 => ⟨?_, ?_⟩
      · have := wipe_eq (σ := L2.wipe σ vs) l3 f3
        rw [wipe_wipe] at this
        exact this
      refine q3 σ3 α F2 H2 en3 S2 _ fun b F3 H3 m3 S3 q4 => ?_
      have mA : Move α F' H' F3 H3 := m2.trans m3
      have hA3 : H3 A = some (.lst us) := mA.fr A _ hAt hna
      have nF : ∀ F4 H4, Move α F' H' F4 H4 → F4 A = none := fun F4 H4 mm => by
        cases z : F4 A with
        | none => rfl
        | some o =>
          rcases mm.new A (by rw [z]; simp) with q | q
          · exact absurd hFA' q
          · rw [hAt] at q; cases q
      cases b with
      | true =>
        refine iteT ?_
        have q4 : EvP K te ρ3 M (fun s => ∃ d', s = .v d' ∧ I (i + 1) (acc ++ [d'])) := q4
        refine q4 σ3 α F3 H3 (en3.mono m3.ex) S3 _ fun v F4 H4 s m4 S4 o4 ⟨d', e4, p4⟩ => ?_
        subst e4
        have mB : Move α F' H' F4 H4 := mA.trans m4
        have hA4 : H4 A = some (.lst us) := mB.fr A _ hAt hna
        have mC : Move α F1 H1 F4 H4 := mv.trans mB
        refine ⟨us, hA4, by rw [← hden.length, sizeLine_eq]; omega, F4, acc ++ [d'], us ++ [v], ⟨mC.ex, fun b o q z => ?_, fun b q => ?_, mC.new⟩, S4.extra (nF _ _ mB) hna, upd_same, nF _ _ mB, (Dens.mono K mB.ex _ _ hden).append (Dens.cons o4 Dens.nil), by simp; omega, p4⟩
        · rw [upd_ne (ne_of_none q hA)]; exact mC.fr b o q z
        · rw [upd_ne (fun z => q (by rw [z]; exact hA))]; exact mC.tr b q
      | false =>
        refine iteF ?_
        exact ⟨F3, acc, us, mv.trans mA, S3, hA3, nF _ _ mA, Dens.mono K mA.ex _ _ hden, by omega, q4⟩
    · have ei : i = items.length := by omega
      subst ei
      obtain ⟨s5, S5⟩ := S'.ice hFA' hAt hna
      refine .inl ⟨(it _ F' H' mv.ex S'.sub).1 rfl, kk (.ref A) _ H' (.v (.lst acc)) ⟨(m1.trans mv).ex.trans s5, fun b o q z => (m1.trans mv).fr b o q z, (m1.trans mv).tr, fun b q => ?_⟩ S5 (show Den K _ (.lst acc) _ from ⟨A, us, rfl, upd_same, Dens.mono K s5 _ _ hden⟩) (hd acc p)⟩
      by_cases eb : b = A
      · subst eb; exact .inr (none_back (m1.tr b) hA)
      · rw [upd_ne eb] at q; exact (m1.trans mv).new b q
/-- .. of what is known item by item -/
theorem ev_lcM {wi : TI} {g : TG} {vs : List Nat} (f : D → D) (h : EvI K wi ρ M fun items => items.length ≤ 16777216 ∧
      (∀ (i : Nat) d, items[i]? = some d → EvG K g vs d (wipeR ρ vs) fun ρ' => EvP K te ρ' M fun s => s = .v (f d)) ∧ Q (.v (.lst (items.map f)))) : EvP K (tLc wi g tYes te vs) ρ M Q := by
  refine ev_lc fun σ α F H en S k kk => h σ α F H en S k fun J F1 H1 items m S1 ok ⟨hz, hs, hd⟩ => kk J F1 H1 items m S1 ok ⟨hz, fun i acc => acc = (items.take i).map f, by simp, fun i d acc hget ea => ?_, fun acc ea => ?_⟩
  · have ea : acc = (items.take i).map f := ea
    intro σ α F H v en s hd k kk
    refine hs i d hget σ α F H v en s hd k fun σ' ρ' a b c q => kk σ' ρ' a b c ?_
    intro σ α F H en S k kk
    refine kk true F H .refl S ?_
    refine iteT (q.mono fun s es => ⟨_, es, ?_⟩)
    subst ea
    have hi : i < items.length := (List.getElem?_eq_some_iff.mp hget).1
    have e2 : items[i] = d := (List.getElem?_eq_some_iff.mp hget).2
    rw [List.take_succ_eq_append_getElem hi, List.map_append, e2]
    rfl
  · have ea : acc = (items.take items.length).map f := ea
    rw [List.take_length] at ea
    subst ea
    exact hd

/-! ### calls -/
/-- a def's promise: args by x, things by x; what comes out of x, and the things then -/
def SpF {ι : Type} (K : PySem.W.Frag) (args : ι → List Sl) (Mi : ι → List MO) (pre : ι → Prop) (post : ι → D → List MO → Prop) : Sp := fun vs H Q _ =>
  ∃ (x : ι) (α : Al) (F : Hp), SlsOk K α F (args x) vs ∧ Sta K α (Mi x) F H ∧ pre x ∧ ∀ v F' H' d M', Move α F H F' H' → Sta K α M' F' H' → Den K F' d v → post x d M' → Q v H'
/-- plain data in, plain data out -/
def SpP {ι : Type} (K : PySem.W.Frag) (args : ι → List D) (pre : ι → Prop) (post : ι → D → Prop) : Sp := SpF K (fun x => (args x).map Sl.v) (fun _ => []) pre (fun x d _ => post x d)
/-- .. with the source of draws ahead -/
def SpG {ι : Type} (K : PySem.W.Frag) (args : ι → List D) (pre : ι → Prop) (post : ι → D → Prop) : Sp := SpF K (fun x => .l 0 :: (args x).map Sl.v) (fun _ => [.rng]) pre (fun x d M' => M' = [.rng] ∧ post x d)
theorem SlsOk.ofD {α β : Al} {F : Hp} : ∀ {ds : List D} {vs : List V}, SlsOk K α F (ds.map Sl.v) vs → SlsOk K β F (ds.map Sl.v) vs
  | [], _, h => h
  | d :: ds, _, h => by
    obtain ⟨v, r, h1, h2, h3⟩ := h
    exact ⟨v, r, h1, h2, SlsOk.ofD h3⟩
theorem sta_nil {F H : Hp} (s : Same F H) : Sta K [] [] F H := ⟨s, rfl, fun i m p h => by simp at h, fun i j p q _ h => by simp at h, fun p h => by simp at h⟩
theorem Move.widen {α β : Al} {F H F' H' : Hp} (m : Move α F H F' H') (h : ∀ p, p ∈ α → p ∈ β) : Move β F H F' H' := ⟨m.ex, fun b o q k => m.fr b o q fun p hp => k p (h p hp), m.tr, m.new⟩
theorem MObj.keep {F H F' H' : Hp} {m : MO} {p : Addr × Addr} (h : MObj K F H m p) (s : Same F F') (h1 : F p.1 = none → F' p.1 = none) (h2 : F p.2 = none → F' p.2 = none) (k1 : ∀ o, H p.1 = some o → H' p.1 = some o) (k2 : ∀ o, H p.2 = some o → H' p.2 = some o) : MObj K F' H' m p := by
  cases m with
  | lst ds => exact ⟨h1 h.1, let ⟨vs, a, b⟩ := h.2; ⟨vs, k1 _ a, Dens.mono K s _ _ b⟩⟩
  | dic ks ds => exact ⟨h1 h.1, let ⟨vs, a, c, b⟩ := h.2; ⟨vs, k1 _ a, c, Dens.mono K s _ _ b⟩⟩
  | pin a0 ds => exact ⟨h1 h.1, h.2.1, let ⟨vs, a, b⟩ := h.2.2; ⟨vs, k1 _ a, Dens.mono K s _ _ b⟩⟩
  | frz d od kvs ks ds => exact ⟨h1 h.1, h.2.1, k1 _ h.2.2.1, let ⟨vs, c, e, b⟩ := h.2.2.2; ⟨vs, c, e, Dens.mono K s _ _ b⟩⟩
  | ins C ns ds => exact ⟨h1 h.1, let ⟨dx, vs, a, c, b⟩ := h.2; ⟨dx, vs, k1 _ a, c, Dens.mono K s _ _ b⟩⟩
  | rng => exact ⟨h1 h.1, h2 h.2.1, let ⟨s, i, c, h0, a1, a2, h3⟩ := h.2.2; ⟨s, i, c, h0, k1 _ a1, k2 _ a2, h3⟩⟩
  | dead => trivial
theorem Move.fnone {α : Al} {F H F' H' : Hp} (m : Move α F H F' H') {b : Addr} (h1 : H b ≠ none) (h : F b = none) : F' b = none := by
  cases z : F' b with
  | none => rfl
  | some o =>
    rcases m.new b (by rw [z]; simp) with q | q
    · exact absurd h q
    · exact absurd q h1
/-- behind a call that knows none of the things -/
theorem Sta.keep0 {α : Al} {F H F' H' : Hp} (S : Sta K α M F H) (m : Move [] F H F' H') (s' : Same F' H') : Sta K α M F' H' := by
  refine ⟨s', S.len, fun i mo p h1 h2 => ?_, S.ap, fun p hp => ⟨m.tr _ (S.tr p hp).1, m.tr _ (S.tr p hp).2⟩⟩
  have hp := S.tr p (List.mem_of_getElem? h2)
  exact (S.ob i mo p h1 h2).keep m.ex (m.fnone hp.1) (m.fnone hp.2) (fun o q => m.fr _ o q fun p hp => by simp at hp) (fun o q => m.fr _ o q fun p hp => by simp at hp)
/-- behind a call that knows the j-th thing alone -/
theorem Sta.keep1 {α : Al} {F H F' H' : Hp} {j : Nat} {p0 : Addr × Addr} {m' : MO} (S : Sta K α M F H) (hj : α[j]? = some p0) (m : Move [p0] F H F' H') (s' : Sta K [p0] [m'] F' H') : Sta K α (M.set j m') F' H' := by
  refine ⟨s'.sub, by simp [S.len], fun i mo p h1 h2 => ?_, S.ap, fun p hp => ⟨m.tr _ (S.tr p hp).1, m.tr _ (S.tr p hp).2⟩⟩
  by_cases hij : j = i
  · subst hij
    have hl : j < M.length := by rw [S.len]; exact (List.getElem?_eq_some_iff.mp h2).1
    rw [List.getElem?_set_self hl] at h1
    cases h1
    rw [hj] at h2; cases h2
    exact s'.ob 0 m' p0 rfl rfl
  · rw [List.getElem?_set_ne hij] at h1
    have hp := S.tr p (List.mem_of_getElem? h2)
    have ap := nth_ne S h2 hj (Ne.symm hij)
    exact (S.ob i mo p h1 h2).keep m.ex (m.fnone hp.1) (m.fnone hp.2)
      (fun o q => m.fr _ o q fun r hr => by { simp at hr; subst hr; exact ⟨ap.1, ap.2.1⟩ }) (fun o q => m.fr _ o q fun r hr => by { simp at hr; subst hr; exact ⟨ap.2.2.1, ap.2.2.2⟩ })
theorem sta_one {α : Al} {F H : Hp} {j : Nat} {p0 : Addr × Addr} {m0 : MO} (S : Sta K α M F H) (hj : α[j]? = some p0) (hm : M[j]? = some m0) : Sta K [p0] [m0] F H := by
  refine ⟨S.sub, rfl, fun i m p h1 h2 => ?_, fun i j p q hij h1 h2 => ?_, fun p hp => ?_⟩
  · cases i with
    | zero =>
      simp at h1 h2
      subst h1; subst h2
      exact S.ob j m0 p0 hm hj
    | succ i => simp at h1
  · cases j with
    | zero => omega
    | succ j => simp at h2
  · simp at hp; subst hp
    exact S.tr p (List.mem_of_getElem? hj)
theorem ec_callP {ι : Type} {args : ι → List D} {pre : ι → Prop} {post : ι → D → Prop} {ta : TA} {X : XK} (h : EvA K ta ρ M fun ss => ∃ x, ss = (args x).map Sl.v ∧ pre x ∧ ∀ d, post x d → Q (.v d)) : EvP K (tCall (SpP K args pre post) [] X ta) ρ M Q := fun σ α F H en S k kk =>
  h σ α F H en S _ fun vs F1 H1 ss m1 S1 o1 ⟨x, e1, hp, q⟩ => by
    subst e1
    refine ⟨x, [], F1, by rw [List.append_nil]; exact o1.ofD, sta_nil S1.sub, hp, fun v F' H' d M' m2 S2 o2 p2 => ?_⟩
    exact kk v F' H' (.v d) (m1.trans (m2.widen fun _ h => by simp at h)) (S1.keep0 m2 S2.sub) o2 (q d p2)
theorem ec_callG {ι : Type} {args : ι → List D} {pre : ι → Prop} {post : ι → D → Prop} {ta : TA} {X : XK} (h : EvA K ta ρ M fun ss => ∃ x j, ss = .l j :: (args x).map Sl.v ∧ M[j]? = some .rng ∧ pre x ∧ ∀ d, post x d → Q (.v d)) : EvP K (tCall (SpG K args pre post) [] X ta) ρ M Q := fun σ α F H en S k kk =>
  h σ α F H en S _ fun vs F1 H1 ss m1 S1 o1 ⟨x, j, e1, hj, hp, q⟩ => by
    subst e1
    obtain ⟨v0, r, rfl, ⟨p0, hp0, rfl⟩, o2⟩ := o1
    have S0 := sta_one S1 hp0 hj
    refine ⟨x, [p0], F1, by rw [List.append_nil]; exact ⟨_, r, rfl, ⟨p0, rfl, rfl⟩, o2.ofD⟩, S0, hp, fun v F' H' d M' m2 S2 o3 ⟨eM, p2⟩ => ?_⟩
    subst eM
    have S3 := S1.keep1 hp0 m2 S2
    have e2 : M.set j .rng = M := by
      have hl : j < M.length := (List.getElem?_eq_some_iff.mp hj).1
      apply List.ext_getElem?
      intro i
      by_cases hij : j = i
      · subst hij; rw [List.getElem?_set_self hl, hj]
      · rw [List.getElem?_set_ne hij]
    rw [e2] at S3
    exact kk v F' H' (.v d) (m1.trans (m2.widen fun p hp => by { simp at hp; subst hp; exact List.mem_of_getElem? hp0 })) S3 o3 (q d p2)

/-! ### a def's body -/
def startR (n : Nat) (ss : List Sl) : Rho := ss.map some ++ List.replicate (n - ss.length) none
theorem env_start {α : Al} {F : Hp} {N : List Str} : ∀ {ss : List Sl} {vs : List V}, SlsOk K α F ss vs → EnvOk K α F (L2.start N vs) (startR N.length ss) := fun {ss vs} h => by
  have hl := h.length
  refine ⟨by simp [L2.start, startR, hl], fun i s q => ?_⟩
  unfold startR at q
  have hi : i < ss.length := by
    by_cases hi : i < ss.length
    · exact hi
    · rw [List.getElem?_append_right (by simpa using hi), List.getElem?_replicate] at q
      split at q <;> cases q
  rw [List.getElem?_append_left (by simpa using hi), List.getElem?_map] at q
  have gen : ∀ {ss : List Sl} {vs : List V} {i : Nat} {s : Sl}, SlsOk K α F ss vs → ss[i]? = some s → ∃ v, vs[i]? = some v ∧ SlOk K α F s v := by
    intro ss
    induction ss with
    | nil => intro vs i s _ e; simp at e
    | cons a r ih =>
      intro vs i s h e
      obtain ⟨v, r', rfl, h2, h3⟩ := h
      cases i with
      | zero => simp at e; subst e; exact ⟨v, rfl, h2⟩
      | succ i =>
        obtain ⟨u, q, hu⟩ := ih h3 (by simpa using e)
        exact ⟨u, by simpa using q, hu⟩
  cases e : ss[i]? with
  | none => rw [e] at q; cases q
  | some s' =>
    rw [e] at q; cases q
    obtain ⟨v, hv, ho⟩ := gen h e
    refine ⟨v, ?_, ho⟩
    unfold L2.start
    rw [List.getElem?_append_left (by simpa [← hl] using hi), List.getElem?_map, hv]
    rfl
/-- what a def may hand back -/
def RetOk (n : Nat) (post : D → List MO → Prop) (s : Sl) (M' : List MO) : Prop :=
  (∃ d, s = .v d ∧ post d (M'.take n)) ∨ (∃ k ds, s = .l k ∧ n ≤ k ∧ M'[k]? = some (.lst ds) ∧ post (.lst ds) (M'.take n)) ∨
  ∃ k ks ds, s = .l k ∧ n ≤ k ∧ M'[k]? = some (.dic ks ds) ∧ post (.dic ks ds) (M'.take n)
theorem Sta.prefix {α β : Al} {F H : Hp} (S : Sta K (α ++ β) M F H) : Sta K α (M.take α.length) F H := by
  refine ⟨S.sub, ?_, fun i m p h1 h2 => ?_, fun i j p q hij h1 h2 => ?_, fun p hp => S.tr p (List.mem_append_left _ hp)⟩
  · rw [List.length_take, S.len]; simp
  · have hi : i < α.length := (List.getElem?_eq_some_iff.mp h2).1
    rw [List.getElem?_take_of_lt hi] at h1
    exact S.ob i m p h1 (by rw [List.getElem?_append_left hi]; exact h2)
  · have hi : i < α.length := (List.getElem?_eq_some_iff.mp h1).1
    have hj : j < α.length := (List.getElem?_eq_some_iff.mp h2).1
    exact S.ap i j p q hij (by rw [List.getElem?_append_left hi]; exact h1) (by rw [List.getElem?_append_left hj]; exact h2)
theorem fn_run {ι : Type} {args : ι → List Sl} {Mi : ι → List MO} {pre : ι → Prop} {post : ι → D → List MO → Prop} {N : List Str} {t : TS}
    (h : ∀ x e, pre x → e.α.length = (Mi x).length → RunD K e t (startR N.length (args x)) (Mi x) (fun _ M' => post x .non (M'.take (Mi x).length)) (RetOk (Mi x).length (post x)) (fun _ _ => False) (fun _ _ => False)) :
    ∀ vs H Q E, SpF K args Mi pre post vs H Q E → t { nx := fun _ H' => Q .non H', rt := Q } (L2.start N vs) H := by
  rintro vs H Q E ⟨x, α, F, ho, S, hp, k⟩
  have fin : ∀ {α' : Al} {F' H' : Hp} {M' : List MO}, Sta K α' M' F' H' → StepE ⟨α, F, H⟩ α' F' H' → Move α F H F' H' ∧ Sta K α (M'.take (Mi x).length) F' H' := fun {α' F' H' M'} S' st => by
    obtain ⟨β, e1, _⟩ := st.pre
    have e1 : α' = α ++ β := e1
    subst e1
    refine ⟨⟨st.ex, st.fr, st.tr, st.new⟩, ?_⟩
    have := S'.prefix
    rw [S.len]; exact this
  refine h x ⟨α, F, H⟩ hp S.len.symm _ (L2.start N vs) α F H ⟨env_start ho, S, .refl⟩ ⟨fun σ' α' F' H' ρ' M' g _ q => ?_, fun v s α' F' H' M' o S' st _ q => ?_, fun _ _ _ _ _ _ _ _ q => q.elim, fun _ _ _ _ _ _ _ _ q => q.elim⟩
  · obtain ⟨m, S2⟩ := fin g.sta g.st
    exact k .non F' H' .non _ m S2 rfl q
  · obtain ⟨m, S2⟩ := fin S' st
    rcases q with ⟨d, rfl, p⟩ | ⟨j, ds, rfl, hj, hM, p⟩ | ⟨j, ks, ds, rfl, hj, hM, p⟩
    · exact k v F' H' d _ m S2 o p
    all_goals
      obtain ⟨p0, hp0, rfl⟩ := o
      have hob := S'.ob j _ p0 hM hp0
      have hna : ∀ q, q ∈ α → p0.1 ≠ q.1 ∧ p0.1 ≠ q.2 := fun q hq => by
        obtain ⟨β, e1, _⟩ := st.pre
        have e1 : α' = α ++ β := e1
        obtain ⟨i, hi⟩ := List.mem_iff_getElem?.mp hq
        have hil : i < α.length := (List.getElem?_eq_some_iff.mp hi).1
        have ap := nth_ne S' hp0 (show α'[i]? = some q by rw [e1, List.getElem?_append_left hil]; exact hi) (by have := S.len; omega)
        exact ⟨ap.1, ap.2.1⟩
      have hnew : H p0.1 = none := by
        obtain ⟨β, e1, hβ⟩ := st.pre
        have e1 : α' = α ++ β := e1
        rw [e1, List.getElem?_append_right (by have := S.len; omega)] at hp0
        exact (hβ p0 (List.mem_of_getElem? hp0)).1
    · obtain ⟨hF, us, hus, hd⟩ := hob
      obtain ⟨s5, S5⟩ := S2.ice hF hus hna
      refine k (.ref p0.1) _ H' (.lst ds) _ ⟨m.ex.trans s5, m.fr, m.tr, fun b q => ?_⟩ S5 ⟨p0.1, us, rfl, upd_same, Dens.mono K s5 _ _ hd⟩ p
      by_cases eb : b = p0.1
      · subst eb; exact .inr hnew
      · rw [upd_ne eb] at q; exact m.new b q
    · obtain ⟨hF, us, hus, hl, hd⟩ := hob
      obtain ⟨s5, S5⟩ := S2.ice hF hus hna
      refine k (.ref p0.1) _ H' (.dic ks ds) _ ⟨m.ex.trans s5, m.fr, m.tr, fun b q => ?_⟩ S5 ⟨p0.1, us, rfl, upd_same, hl, Dens.mono K s5 _ _ hd⟩ p
      by_cases eb : b = p0.1
      · subst eb; exact .inr hnew
      · rw [upd_ne eb] at q; exact m.new b q
end
end DL

/-! DL4: sequences and built-ins over plain data. -/
namespace DL
open PySem L2
section
variable {K : PySem.W.Frag} {e : Ent} {ρ : Rho} {M : List MO} {Q : Sl → Prop} {te ta tb : TE} {t u : TS}

/-- a slot that is read as a list, a tuple -/
inductive RdL (M : List MO) : Sl → List D → Prop
  | v {ds : List D} : RdL M (.v (.lst ds)) ds
  | l {k : Nat} {ds : List D} : M[k]? = some (.lst ds) → RdL M (.l k) ds
  | p {k : Nat} {a : Addr} {ds : List D} : M[k]? = some (.pin a ds) → RdL M (.v (.raw (.ref a))) ds
theorem RdL.get {α : Al} {F H : Hp} {s : Sl} {ds : List D} {u : V} (h : RdL M s ds) (S : Sta K α M F H) (o : SlOk K α F s u) : ∃ a vs, u = .ref a ∧ H a = some (.lst vs) ∧ Dens K F ds vs := by
  cases h with
  | v =>
    obtain ⟨a, vs, h1, h2, h3⟩ := o
    exact ⟨a, vs, h1, S.sub _ _ h2, h3⟩
  | l hk =>
    obtain ⟨p, hp, rfl⟩ := o
    obtain ⟨_, vs, h1, h2⟩ := S.ob _ _ p hk hp
    exact ⟨p.1, vs, rfl, h1, h2⟩
  | @p k a ds hk =>
    have o : u = .ref a := o
    subst o
    obtain ⟨q, hq⟩ := sta_get S hk
    obtain ⟨_, h2, vs, h3, h4⟩ := S.ob _ _ q hk hq
    exact ⟨a, vs, rfl, by rw [← h2]; exact h3, h4⟩
inductive RdS (M : List MO) : Sl → List D → Prop
  | l {s : Sl} {ds : List D} : RdL M s ds → RdS M s ds
  | t {ds : List D} : RdS M (.v (.tup ds)) ds
  | r {ds : List D} : RdS M (.v (.rd ds)) ds
theorem RdS.get {α : Al} {F H : Hp} {s : Sl} {ds : List D} {u : V} (h : RdS M s ds) (S : Sta K α M F H) (o : SlOk K α F s u) : ∃ a vs, u = .ref a ∧ (SqL K H a vs ∨ SqT K H a vs) ∧ Dens K F ds vs := by
  cases h with
  | l h =>
    obtain ⟨a, vs, h1, h2, h3⟩ := h.get S o
    exact ⟨a, vs, h1, .inl (SqL.of h2), h3⟩
  | t =>
    obtain ⟨a, vs, h1, h2, h3⟩ := o
    exact ⟨a, vs, h1, .inr (sqt_same K S.sub h2), h3⟩
  | r =>
    obtain ⟨a, vs, h1, h2, h3⟩ := o
    exact ⟨a, vs, h1, .inl (S.sub.seq h2), h3⟩
theorem atI_get {F : Hp} {ds : List D} {vs : List V} {i : Int} {d : D} (h : Dens K F ds vs) (ha : atI ds i = some d) : ∃ v, atI vs i = some v ∧ Den K F d v := by
  unfold atI at ha ⊢
  rw [← h.length]
  cases e : ixN ds.length i with
  | none => rw [e] at ha; cases ha
  | some j =>
    rw [e] at ha
    exact h.get ha
theorem er_ixL {x : Sl} {ds : List D} {i : Int} {d : D} (h : RdL M x ds) (ha : atI ds i = some d) (q : Q (.v d)) : EvR K (rIxL K) M x (.v (.int i)) Q := fun α F H u v S o1 o2 k kk => by
  obtain ⟨a, vs, rfl, h1, h2⟩ := h.get S o1
  have o2 : v = .int i := o2
  subst o2
  obtain ⟨w, hw, r⟩ := atI_get h2 ha
  exact ⟨a, vs, i, w, rfl, rfl, SqL.of h1, hw, kk w F H _ .refl S (den_ok r) q⟩
theorem er_ixT {ds : List D} {i : Int} {d : D} (ha : atI ds i = some d) (q : Q (.v d)) : EvR K (rIxT K) M (.v (.tup ds)) (.v (.int i)) Q := fun α F H u v S o1 o2 k kk => by
  obtain ⟨a, vs, rfl, h1, h2⟩ := o1
  have o2 : v = .int i := o2
  subst o2
  obtain ⟨w, hw, r⟩ := atI_get h2 ha
  exact ⟨a, vs, i, w, rfl, rfl, sqt_same K S.sub h1, hw, kk w F H _ .refl S (den_ok r) q⟩
theorem er_in {neg : Bool} {x : V} {y : Sl} {xs : List V} (h : RdS M y (xs.map D.raw)) (hx : flatV x = true) (hf : xs.all flatV = true) (q : Q (.v (.bl (if neg then !inV x xs else inV x xs)))) : EvR K (rIn K neg) M (.v (.raw x)) y Q := fun α F H u v S o1 o2 k kk => by
  have o1 : u = x := o1
  subst o1
  obtain ⟨a, vs, rfl, h1, h2⟩ := h.get S o2
  have h3 := h2.ofRaws
  subst h3
  exact ⟨a, vs, rfl, h1, hx, hf, kk _ F H _ .refl S raw_ok q⟩
theorem inV_ints {i : Int} : ∀ {ns : List Int}, inV (.int i) (ns.map V.int) = decide (i ∈ ns)
  | [] => by simp [inV]
  | n :: ns => by
    have := inV_ints (i := i) (ns := ns)
    unfold inV at this ⊢
    rw [List.map_cons, List.any_cons, this]
    by_cases h : i = n
    · subst h; simp [eqV]
    · simp [eqV, h, Ne.symm h]
/-- .. whole numbers -/
theorem er_inI {neg : Bool} {i : Int} {y : Sl} {ns : List Int} (h : RdS M y (D.ints ns)) (q : Q (.v (.bl (if neg then !decide (i ∈ ns) else decide (i ∈ ns))))) : EvR K (rIn K neg) M (.v (.int i)) y Q := by
  have e1 : D.ints ns = (ns.map V.int).map D.raw := by simp [D.ints, Function.comp_def]
  rw [e1] at h
  refine er_in h rfl (by simp [flatV]) ?_
  rw [inV_ints]
  exact q
theorem er_cat {x y : Sl} {ds es : List D} (h1 : RdL M x ds) (h2 : RdL M y es) (hz : ds.length + es.length ≤ 16777216) (q : Q (.v (.lst (ds ++ es)))) : EvR K rCat M x y Q := fun α F H u v S o1 o2 k kk => by
  obtain ⟨a, vs, rfl, e1, d1⟩ := h1.get S o1
  obtain ⟨b, us, rfl, e2, d2⟩ := h2.get S o2
  refine ⟨a, b, vs, us, rfl, rfl, e1, e2, by rw [← d1.length, ← d2.length, sizeLine_eq]; exact hz, fun p hp => ?_⟩
  obtain ⟨m2, S2⟩ := S.laid (o := .lst (vs ++ us)) hp
  exact kk _ _ _ _ m2 S2 (den_ok (d := .lst (ds ++ es)) ⟨p, _, rfl, upd_same, Dens.mono K m2.ex _ _ (d1.append d2)⟩) q
theorem er_catT {ds es : List D} (hz : ds.length + es.length ≤ 16777216) (q : Q (.v (.tup (ds ++ es)))) : EvR K (rCatA K) M (.v (.tup ds)) (.v (.tup es)) Q := fun α F H u v S o1 o2 k kk => by
  obtain ⟨a, vs, rfl, e1, d1⟩ := o1
  obtain ⟨b, us, rfl, e2, d2⟩ := o2
  refine ⟨a, b, vs, us, rfl, rfl, sqt_same K S.sub e1, sqt_same K S.sub e2, by rw [← d1.length, ← d2.length, sizeLine_eq]; exact hz, fun z => ?_, fun _ z => ?_, fun _ _ p hp => ?_⟩
  · subst z
    have : ds = [] := by cases ds with
      | nil => rfl
      | cons _ _ => obtain ⟨_, _, z, _⟩ := d1; cases z
    subst this
    exact kk _ F H _ .refl S (den_ok (d := .tup ([] ++ es)) ⟨b, us, rfl, e2, d2⟩) q
  · subst z
    have : es = [] := by cases es with
      | nil => rfl
      | cons _ _ => obtain ⟨_, _, z, _⟩ := d2; cases z
    subst this
    exact kk _ F H _ .refl S (den_ok (d := .tup (ds ++ [])) ⟨a, vs, rfl, e1, by rw [List.append_nil]; exact d1⟩) q
  · obtain ⟨m2, S2⟩ := S.laid (o := .tup (vs ++ us)) hp
    exact kk _ _ _ _ m2 S2 (den_ok (d := .tup (ds ++ es)) ⟨p, _, rfl, .inl (.inl upd_same), Dens.mono K m2.ex _ _ (d1.append d2)⟩) q
theorem Dens.flat {F : Hp} {ds : List D} {vs : List V} (h : Dens K F ds vs) : ∀ n : Nat, Dens K F (List.replicate n ds).flatten (List.replicate n vs).flatten
  | 0 => rfl
  | n + 1 => by
    rw [List.replicate_succ, List.replicate_succ, List.flatten_cons, List.flatten_cons]
    exact h.append (Dens.flat h n)
theorem er_rep {x : Sl} {ds : List D} {i : Int} (h : RdL M x ds) (h1 : -(2 ^ 63) ≤ i) (h2 : i < 2 ^ 63) (hz : ds.length * i.toNat ≤ 16777216) (q : Q (.v (.lst (List.replicate i.toNat ds).flatten))) : EvR K rRep M x (.v (.int i)) Q := fun α F H u v S o1 o2 k kk => by
  obtain ⟨a, vs, rfl, e1, d1⟩ := h.get S o1
  have o2 : v = .int i := o2
  subst o2
  refine ⟨a, i, vs, rfl, rfl, e1, h1, h2, by rw [← d1.length, sizeLine_eq]; exact hz, fun p hp => ?_⟩
  obtain ⟨m2, S2⟩ := S.laid (o := .lst (List.replicate i.toNat vs).flatten) hp
  exact kk _ _ _ _ m2 S2 (den_ok (d := .lst _) ⟨p, _, rfl, upd_same, Dens.mono K m2.ex _ _ (d1.flat _)⟩) q
theorem er_repT {ds : List D} {i : Int} (h0 : ds ≠ []) (h1 : 2 ≤ i) (h2 : i ≤ 1000) (hz : ds.length ≤ 1000) (q : Q (.v (.tup (List.replicate i.toNat ds).flatten))) : EvR K (rRepT K) M (.v (.tup ds)) (.v (.int i)) Q := fun α F H u v S o1 o2 k kk => by
  obtain ⟨a, vs, rfl, e1, d1⟩ := o1
  have o2 : v = .int i := o2
  subst o2
  refine ⟨a, i, vs, rfl, rfl, sqt_same K S.sub e1, fun z => h0 (by subst z; cases ds with
    | nil => rfl
    | cons _ _ => obtain ⟨_, _, z, _⟩ := d1; cases z), h1, h2, by rw [← d1.length]; exact hz, fun p hp => ?_⟩
  obtain ⟨m2, S2⟩ := S.laid (o := .tup (List.replicate i.toNat vs).flatten) hp
  exact kk _ _ _ _ m2 S2 (den_ok (d := .tup _) ⟨p, _, rfl, .inl (.inl upd_same), Dens.mono K m2.ex _ _ (d1.flat _)⟩) q
/-! slices -/
def cutD (xs : List D) (lo hi : Option Int) : List D := (xs.drop (HT.sIx xs.length 0 lo)).take (HT.sIx xs.length xs.length hi - HT.sIx xs.length 0 lo)
theorem Dens.cut {F : Hp} {ds : List D} {vs : List V} (h : Dens K F ds vs) (lo hi : Option Int) : Dens K F (cutD ds lo hi) (cutV vs lo hi) := by
  unfold cutD cutV
  rw [h.length]
  exact (h.drop _).take _
theorem ev_slL {tl th : TO} (h : EvP K te ρ M fun x => EvO K tl ρ M fun lo => EvO K th ρ M fun hi => ∃ ds, RdL M x ds ∧ Q (.v (.lst (cutD ds lo hi)))) : EvP K (tSl (rSlL K) te tl th) ρ M Q := fun σ α F H en S k kk =>
  h σ α F H en S _ fun v F1 H1 x m1 S1 o1 q1 => q1 σ α F1 H1 (en.mono m1.ex) S1 _ fun lo F2 H2 m2 S2 q2 => q2 σ α F2 H2 (en.mono (m1.trans m2).ex) S2 _ fun hi F3 H3 m3 S3 ⟨ds, hr, q⟩ => by
    obtain ⟨a, vs, rfl, e1, d1⟩ := hr.get S3 (o1.mono (m2.trans m3).ex)
    refine ⟨a, vs, rfl, SqL.of e1, fun p hp => ?_⟩
    obtain ⟨m4, S4⟩ := S3.laid (o := .lst (cutV vs lo hi)) hp
    exact kk _ _ _ _ (((m1.trans m2).trans m3).trans m4) S4 (den_ok (d := .lst _) ⟨p, _, rfl, upd_same, Dens.mono K m4.ex _ _ (d1.cut lo hi)⟩) q
theorem cut_whole {F : Hp} {ds : List D} {lo hi : Option Int} (h : HT.sIx ds.length 0 lo = 0 ∧ HT.sIx ds.length ds.length hi = ds.length) : cutD ds lo hi = ds := by
  unfold cutD
  rw [h.1, h.2]
  simp
theorem ev_slT {tl th : TO} (h : EvP K te ρ M fun x => EvO K tl ρ M fun lo => EvO K th ρ M fun hi => ∃ ds, x = .v (.tup ds) ∧ Q (.v (.tup (cutD ds lo hi)))) : EvP K (tSl (rSlA K) te tl th) ρ M Q := fun σ α F H en S k kk =>
  h σ α F H en S _ fun v F1 H1 x m1 S1 o1 q1 => q1 σ α F1 H1 (en.mono m1.ex) S1 _ fun lo F2 H2 m2 S2 q2 => q2 σ α F2 H2 (en.mono (m1.trans m2).ex) S2 _ fun hi F3 H3 m3 S3 ⟨ds, hr, q⟩ => by
    subst hr
    obtain ⟨a, vs, rfl, e1, d1⟩ := o1.mono (m2.trans m3).ex
    refine ⟨a, vs, rfl, sqt_same K S3.sub e1, fun z => ?_, fun _ p hp => ?_⟩
    · rw [cut_whole (F := F3) (by rw [d1.length]; exact z)] at q
      exact kk _ _ _ _ ((m1.trans m2).trans m3) S3 (den_ok (d := .tup ds) ⟨a, vs, rfl, e1, d1⟩) q
    · obtain ⟨m4, S4⟩ := S3.laid (o := .tup (cutV vs lo hi)) hp
      exact kk _ _ _ _ (((m1.trans m2).trans m3).trans m4) S4 (den_ok (d := .tup _) ⟨p, _, rfl, .inl (.inl upd_same), Dens.mono K m4.ex _ _ (d1.cut lo hi)⟩) q

/-! ### built-ins -/
def rLen (K : PySem.W.Frag) : List V → Hp → VK → Prop := fun xs H Q => ∃ x n, xs = [x] ∧ LenV K x H n ∧ Q (.int n) H
theorem ec_len {x : Sl} {ds : List D} (h : RdS M x ds) (q : Q (.v (.int (ds.length : Int)))) : EvC K (rLen K) M [x] Q := fun α F H us S o k kk => by
  obtain ⟨v, r, rfl, o1, o2⟩ := o
  have o2 : r = [] := o2
  subst o2
  obtain ⟨a, vs, rfl, e1, d1⟩ := h.get S o1
  refine ⟨_, vs.length, rfl, ?_, ?_⟩
  · rcases e1 with e1 | e1
    · exact .inl ⟨vs, e1, rfl⟩
    · exact .inr ⟨vs, e1, rfl⟩
  · rw [← d1.length]
    exact kk _ F H _ .refl S raw_ok q
theorem ec_lenS {y : Str} (h : y.length ≤ 16777216) (q : Q (.v (.int (y.length : Int)))) : EvC K (rLen K) M [.v (.str y)] Q := fun α F H us S o k kk => by
  obtain ⟨v, r, rfl, o1, o2⟩ := o
  have o2 : r = [] := o2
  have o1 : v = .str y := o1
  subst o2; subst o1
  exact ⟨_, y.length, rfl, ⟨by rw [sizeLine_eq]; exact h, rfl⟩, kk _ F H _ .refl S raw_ok q⟩
theorem sls1 {α : Al} {F : Hp} {d : V} {us : List V} (o : SlsOk K α F [.v (.raw d)] us) : us = [d] := by
  obtain ⟨v, r, rfl, o1, o2⟩ := o
  have o2 : r = [] := o2
  have o1 : v = d := o1
  rw [o2, o1]
theorem sls2 {α : Al} {F : Hp} {d e : V} {us : List V} (o : SlsOk K α F [.v (.raw d), .v (.raw e)] us) : us = [d, e] := by
  obtain ⟨v, r, rfl, o1, o2⟩ := o
  have o1 : v = d := o1
  rw [sls1 o2, o1]
def rAbs : List V → Hp → VK → Prop := fun xs H Q => ∃ i, xs = [.int i] ∧ Q (.int (if i < 0 then -i else i)) H
theorem ec_abs {i : Int} (q : Q (.v (.int (if i < 0 then -i else i)))) : EvC K rAbs M [.v (.int i)] Q := fun α F H us S o k kk => ⟨i, sls1 o, kk _ F H _ .refl S raw_ok q⟩
def rMax2 : List V → Hp → VK → Prop := fun xs H Q => ∃ i j, xs = [.int i, .int j] ∧ Q (.int (if j > i then j else i)) H
def rMin2 : List V → Hp → VK → Prop := fun xs H Q => ∃ i j, xs = [.int i, .int j] ∧ Q (.int (if j < i then j else i)) H
theorem ec_max2 {i j : Int} (q : Q (.v (.int (if j > i then j else i)))) : EvC K rMax2 M [.v (.int i), .v (.int j)] Q := fun α F H us S o k kk => ⟨i, j, sls2 o, kk _ F H _ .refl S raw_ok q⟩
theorem ec_min2 {i j : Int} (q : Q (.v (.int (if j < i then j else i)))) : EvC K rMin2 M [.v (.int i), .v (.int j)] Q := fun α F H us S o k kk => ⟨i, j, sls2 o, kk _ F H _ .refl S raw_ok q⟩
def rInt1 : List V → Hp → VK → Prop := fun xs H Q => (∃ i, xs = [.int i] ∧ Q (.int i) H) ∨ ∃ k, xs = [.bl k] ∧ Q (.int (if k then 1 else 0)) H
theorem ec_int1 {i : Int} (q : Q (.v (.int i))) : EvC K rInt1 M [.v (.int i)] Q := fun α F H us S o k kk => .inl ⟨i, sls1 o, kk _ F H _ .refl S raw_ok q⟩
def rStrI : List V → Hp → VK → Prop := fun xs H Q => ∃ i : Int, xs = [.int i] ∧ i.natAbs.log2 < 1920 ∧ Q (.str (toString i)) H
theorem ec_strI {i : Int} (h : i.natAbs.log2 < 1920) (q : Q (.v (.raw (.str (toString i))))) : EvC K rStrI M [.v (.int i)] Q := fun α F H us S o k kk => ⟨i, sls1 o, h, kk _ F H _ .refl S raw_ok q⟩
theorem sls1s {α : Al} {F : Hp} {s : Sl} {us : List V} (o : SlsOk K α F [s] us) : ∃ u, us = [u] ∧ SlOk K α F s u := by
  obtain ⟨v, r, rfl, o1, o2⟩ := o
  have o2 : r = [] := o2
  exact ⟨v, by rw [o2], o1⟩
theorem ec_sum {x : Sl} {ns : List Int} (h : RdL M x (D.ints ns)) (q : Q (.v (.int ns.sum))) : EvC K (rSum K) M [x] Q := fun α F H us S o k kk => by
  obtain ⟨u, rfl, o1⟩ := sls1s o
  obtain ⟨a, vs, rfl, e1, d1⟩ := h.get S o1
  have e2 := d1.ofInts
  subst e2
  exact ⟨a, ns, rfl, SqL.of e1, kk _ F H _ .refl S raw_ok q⟩
theorem ec_max {x : Sl} {ns : List Int} (h : RdL M x (D.ints ns)) (hn : 0 < ns.length) (q : ∀ m, m ∈ ns → (∀ y, y ∈ ns → y ≤ m) → Q (.v (.int m))) : EvC K (rMax K) M [x] Q := fun α F H us S o k kk => by
  obtain ⟨u, rfl, o1⟩ := sls1s o
  obtain ⟨a, vs, rfl, e1, d1⟩ := h.get S o1
  have e2 := d1.ofInts
  subst e2
  exact ⟨a, ns, rfl, SqL.of e1, hn, fun m h1 h2 => kk _ F H _ .refl S raw_ok (q m h1 h2)⟩
theorem ec_min {x : Sl} {ns : List Int} (h : RdL M x (D.ints ns)) (hn : 0 < ns.length) (q : ∀ m, m ∈ ns → (∀ y, y ∈ ns → m ≤ y) → Q (.v (.int m))) : EvC K (rMin K) M [x] Q := fun α F H us S o k kk => by
  obtain ⟨u, rfl, o1⟩ := sls1s o
  obtain ⟨a, vs, rfl, e1, d1⟩ := h.get S o1
  have e2 := d1.ofInts
  subst e2
  exact ⟨a, ns, rfl, SqL.of e1, hn, fun m h1 h2 => kk _ F H _ .refl S raw_ok (q m h1 h2)⟩
abbrev D.bls (bs : List Bool) : List D := bs.map D.bl
theorem Dens.ofBls {F : Hp} {bs : List Bool} {vs : List V} (h : Dens K F (D.bls bs) vs) : vs = bs.map V.bl := by
  have e : D.bls bs = (bs.map V.bl).map D.raw := by simp [D.bls, Function.comp_def]
  rw [e] at h
  exact h.ofRaws
theorem ec_any {x : Sl} {bs : List Bool} (h : RdL M x (D.bls bs)) (q : Q (.v (.bl (bs.any id)))) : EvC K (rAny K) M [x] Q := fun α F H us S o k kk => by
  obtain ⟨u, rfl, o1⟩ := sls1s o
  obtain ⟨a, vs, rfl, e1, d1⟩ := h.get S o1
  have e2 := d1.ofBls
  subst e2
  exact ⟨a, bs, rfl, SqL.of e1, kk _ F H _ .refl S raw_ok q⟩
theorem ec_all {x : Sl} {bs : List Bool} (h : RdL M x (D.bls bs)) (q : Q (.v (.bl (bs.all id)))) : EvC K (rAll K) M [x] Q := fun α F H us S o k kk => by
  obtain ⟨u, rfl, o1⟩ := sls1s o
  obtain ⟨a, vs, rfl, e1, d1⟩ := h.get S o1
  have e2 := d1.ofBls
  subst e2
  exact ⟨a, bs, rfl, SqL.of e1, kk _ F H _ .refl S raw_ok q⟩
def rTupOf (K : PySem.W.Frag) : List V → Hp → VK → Prop := fun xs H Q => ∃ p ys, xs = [.ref p] ∧ ((SqL K H p ys ∧ ∀ l, H l = none → Q (.ref l) (upd H l (.tup ys))) ∨ (SqT K H p ys ∧ Q (.ref p) H))
def rListOf (K : PySem.W.Frag) : List V → Hp → VK → Prop := fun xs H Q => ∃ p ys, xs = [.ref p] ∧ (SqL K H p ys ∨ SqT K H p ys) ∧ ∀ l, H l = none → Q (.ref l) (upd H l (.lst ys))
theorem ec_tupOf {x : Sl} {ds : List D} (h : RdS M x ds) (q : Q (.v (.tup ds))) : EvC K (rTupOf K) M [x] Q := fun α F H us S o k kk => by
  obtain ⟨u, rfl, o1⟩ := sls1s o
  cases h with
  | l h =>
    obtain ⟨a, vs, rfl, e1, d1⟩ := h.get S o1
    refine ⟨a, vs, rfl, .inl ⟨SqL.of e1, fun p hp => ?_⟩⟩
    obtain ⟨m2, S2⟩ := S.laid (o := .tup vs) hp
    exact kk _ _ _ _ m2 S2 (den_ok (d := .tup ds) ⟨p, _, rfl, .inl (.inl upd_same), Dens.mono K m2.ex _ _ d1⟩) q
  | t =>
    obtain ⟨a, vs, rfl, e1, d1⟩ := o1
    exact ⟨a, vs, rfl, .inr ⟨sqt_same K S.sub e1, kk _ F H _ .refl S (den_ok (d := .tup ds) ⟨a, vs, rfl, e1, d1⟩) q⟩⟩
  | r =>
    obtain ⟨a, vs, rfl, e1, d1⟩ := o1
    refine ⟨a, vs, rfl, .inl ⟨S.sub.seq e1, fun p hp => ?_⟩⟩
    obtain ⟨m2, S2⟩ := S.laid (o := .tup vs) hp
    exact kk _ _ _ _ m2 S2 (den_ok (d := .tup ds) ⟨p, _, rfl, .inl (.inl upd_same), Dens.mono K m2.ex _ _ d1⟩) q
theorem ec_listOf {x : Sl} {ds : List D} (h : RdS M x ds) (q : Q (.v (.lst ds))) : EvC K (rListOf K) M [x] Q := fun α F H us S o k kk => by
  obtain ⟨u, rfl, o1⟩ := sls1s o
  obtain ⟨a, vs, rfl, e1, d1⟩ := h.get S o1
  refine ⟨a, vs, rfl, e1, fun p hp => ?_⟩
  obtain ⟨m2, S2⟩ := S.laid (o := .lst vs) hp
  exact kk _ _ _ _ m2 S2 (den_ok (d := .lst ds) ⟨p, _, rfl, upd_same, Dens.mono K m2.ex _ _ d1⟩) q
theorem ec_sorted {x : Sl} {ns : List Int} (h : RdL M x (D.ints ns)) (h64 : ns.length < 64) (q : ∀ ns' : List Int, ns'.Perm ns → ns'.Pairwise (· ≤ ·) → Q (.v (.lst (D.ints ns')))) : EvC K (rSorted K) M [x] Q := fun α F H us S o k kk => by
  obtain ⟨u, rfl, o1⟩ := sls1s o
  obtain ⟨a, vs, rfl, e1, d1⟩ := h.get S o1
  have e2 := d1.ofInts
  subst e2
  refine ⟨a, ns, rfl, SqL.of e1, h64, fun ns' p h1 h2 hp => ?_⟩
  obtain ⟨m2, S2⟩ := S.laid (o := .lst (ns'.map V.int)) hp
  refine kk _ _ _ _ m2 S2 (den_ok (d := .lst (D.ints ns')) ⟨p, _, rfl, upd_same, ?_⟩) (q ns' h1 h2)
  have e : D.ints ns' = (ns'.map V.int).map D.raw := by simp [D.ints, Function.comp_def]
  rw [e]; exact Dens.raws

/-! ### == at any depth -/
mutual
def D.py : D → PyData
  | .raw (.bl b) => .bool b
  | .raw (.int i) => .int i
  | .raw (.str x) => .str x
  | .raw _ => .none
  | .tup ds => .tuple (D.pyAll ds)
  | .lst ds => .list (D.pyAll ds)
  | .dic _ _ => .none
  | .ins _ _ _ => .none
  | .rd _ => .none
def D.pyAll : List D → List PyData
  | [] => []
  | d :: ds => d.py :: D.pyAll ds
end
mutual
/-- plain: flat things, tuples and lists of such, n deep at most -/
def D.pl : Nat → D → Bool
  | _, .raw .non => true
  | _, .raw (.bl _) => true
  | _, .raw (.int _) => true
  | _, .raw (.str x) => x.cps.all (· < 0x110000)
  | _, .raw _ => false
  | 0, .tup _ => false
  | n + 1, .tup ds => D.plAll n ds
  | 0, .lst _ => false
  | n + 1, .lst ds => D.plAll n ds
  | _, .dic _ _ => false
  | _, .ins _ _ _ => false
  | _, .rd _ => false
def D.plAll : Nat → List D → Bool
  | _, [] => true
  | n, d :: ds => d.pl n && D.plAll n ds
end
mutual
theorem D.dp {F H : Hp} (s : Same F H) : ∀ (n : Nat) (d : D) (v : V), d.pl n = true → Den K F d v → Dp K H v d.py
  | n, .raw .non, v, h, o => by
    have o : v = .non := o
    subst o; simp only [D.py]; exact .non
  | n, .raw (.bl b), v, h, o => by
    have o : v = .bl b := o
    subst o; simp only [D.py]; exact .bl b
  | n, .raw (.int b), v, h, o => by
    have o : v = .int b := o
    subst o; simp only [D.py]; exact .int b
  | n, .raw (.str b), v, h, o => by
    have o : v = .str b := o
    subst o; simp only [D.py]; exact .str b
  | n, .raw (.byt b), v, h, o => by simp [D.pl] at h
  | n, .raw (.flt b), v, h, o => by simp [D.pl] at h
  | n, .raw (.ref b), v, h, o => by simp [D.pl] at h
  | n, .raw (.ty b), v, h, o => by simp [D.pl] at h
  | 0, .tup ds, v, h, o => by simp [D.pl] at h
  | n + 1, .tup ds, v, h, o => by
    obtain ⟨a, vs, rfl, h1, h2⟩ := o
    simp only [D.py]
    exact .tup (sqt_same K s h1) (D.dpAll s n ds vs (by simpa [D.pl] using h) h2)
  | 0, .lst ds, v, h, o => by simp [D.pl] at h
  | n + 1, .lst ds, v, h, o => by
    obtain ⟨a, vs, rfl, h1, h2⟩ := o
    simp only [D.py]
    exact .lst (SqL.of (s _ _ h1)) (D.dpAll s n ds vs (by simpa [D.pl] using h) h2)
  | n, .dic _ _, v, h, o => by simp [D.pl] at h
  | n, .ins _ _ _, v, h, o => by simp [D.pl] at h
  | n, .rd _, v, h, o => by simp [D.pl] at h
theorem D.dpAll {F H : Hp} (s : Same F H) : ∀ (n : Nat) (ds : List D) (vs : List V), D.plAll n ds = true → Dens K F ds vs → DpAll K H vs (D.pyAll ds)
  | n, [], vs, h, o => by
    have o : vs = [] := o
    subst o; simp only [D.pyAll]; exact .nil
  | n, d :: ds, vs, h, o => by
    obtain ⟨v, r, rfl, h1, h2⟩ := o
    simp only [D.plAll, Bool.and_eq_true] at h
    simp only [D.pyAll]
    exact .cons (D.dp s n d v h.1 h1) (D.dpAll s n ds r h.2 h2)
end
mutual
theorem D.lay : ∀ (n : Nat) (d : D), d.pl n = true → d.py.canLay0 = true ∧ d.py.depth ≤ n
  | n, .raw .non, h => by simp [D.py, PyData.canLay0, PyData.depth]
  | n, .raw (.bl b), h => by simp [D.py, PyData.canLay0, PyData.depth]
  | n, .raw (.int b), h => by simp [D.py, PyData.canLay0, PyData.depth]
  | n, .raw (.str b), h => by
    simp only [D.pl] at h
    simp only [D.py, PyData.canLay0, PyData.depth, PyData.strOk]
    exact ⟨h, Nat.zero_le _⟩
  | n, .raw (.byt b), h => by simp [D.pl] at h
  | n, .raw (.flt b), h => by simp [D.pl] at h
  | n, .raw (.ref b), h => by simp [D.pl] at h
  | n, .raw (.ty b), h => by simp [D.pl] at h
  | 0, .tup ds, h => by simp [D.pl] at h
  | n + 1, .tup ds, h => by
    have := D.layAll n ds (by simpa [D.pl] using h)
    simp only [D.py, PyData.canLay0, PyData.depth]
    exact ⟨this.1, by omega⟩
  | 0, .lst ds, h => by simp [D.pl] at h
  | n + 1, .lst ds, h => by
    have := D.layAll n ds (by simpa [D.pl] using h)
    simp only [D.py, PyData.canLay0, PyData.depth]
    exact ⟨this.1, by omega⟩
  | n, .dic _ _, h => by simp [D.pl] at h
  | n, .ins _ _ _, h => by simp [D.pl] at h
  | n, .rd _, h => by simp [D.pl] at h
theorem D.layAll : ∀ (n : Nat) (ds : List D), D.plAll n ds = true → PyData.canLayAll0 (D.pyAll ds) = true ∧ PyData.depthAll (D.pyAll ds) ≤ n
  | n, [], h => by simp [D.pyAll, PyData.canLayAll0, PyData.depthAll]
  | n, d :: ds, h => by
    simp only [D.plAll, Bool.and_eq_true] at h
    have h1 := D.lay n d h.1
    have h2 := D.layAll n ds h.2
    simp only [D.pyAll, PyData.canLayAll0, PyData.depthAll, h1.1, h2.1, Bool.and_self, true_and]
    omega
end
theorem D.shaped {n : Nat} {d : D} (h : d.pl n = true) (hn : n ≤ 64) : SeqAt.shaped d.py = true := by
  have := D.lay n d h
  unfold SeqAt.shaped
  rw [this.1, Bool.true_and]
  exact decide_eq_true (by omega)
def D.eqv (x y : D) : Bool := PyData.eqv x.py y.py
theorem er_eqD {x y : D} (n : Nat) (hx : x.pl n = true) (hy : y.pl n = true) (hn : n ≤ 64) (q : Q (.v (.bl (x.eqv y)))) : EvR K (rEqD K) M (.v x) (.v y) Q := fun α F H u v S o1 o2 k kk =>
  ⟨x.py, y.py, D.dp S.sub n x u hx o1, D.dp S.sub n y v hy o2, D.shaped hx hn, D.shaped hy hn, kk _ F H _ .refl S raw_ok q⟩
theorem er_neD {x y : D} (n : Nat) (hx : x.pl n = true) (hy : y.pl n = true) (hn : n ≤ 64) (q : Q (.v (.bl (!x.eqv y)))) : EvR K (rNeD K) M (.v x) (.v y) Q := fun α F H u v S o1 o2 k kk =>
  ⟨x.py, y.py, D.dp S.sub n x u hx o1, D.dp S.sub n y v hy o2, D.shaped hx hn, D.shaped hy hn, kk _ F H _ .refl S raw_ok q⟩
theorem eqvAll_ints : ∀ ns ms : List Int, PyData.eqvAll (D.pyAll (D.ints ns)) (D.pyAll (D.ints ms)) = decide (ns = ms)
  | [], [] => by simp [D.pyAll, PyData.eqvAll]
  | [], m :: ms => by simp [D.pyAll, PyData.eqvAll]
  | n :: ns, [] => by simp [D.pyAll, PyData.eqvAll]
  | n :: ns, m :: ms => by
    have := eqvAll_ints ns ms
    simp only [D.ints] at this
    simp only [List.map_cons, D.pyAll, PyData.eqvAll, D.ints, this, D.py, PyData.eqv]
    by_cases h : n = m <;> by_cases h' : ns = ms <;> simp [h, h']
theorem eqv_lstI (ns ms : List Int) : D.eqv (.lst (D.ints ns)) (.lst (D.ints ms)) = decide (ns = ms) := by
  simp only [D.eqv, D.py, PyData.eqv, eqvAll_ints]
theorem eqv_tupI (ns ms : List Int) : D.eqv (.tup (D.ints ns)) (.tup (D.ints ms)) = decide (ns = ms) := by
  simp only [D.eqv, D.py, PyData.eqv, eqvAll_ints]
theorem pl_ints {n : Nat} : ∀ ns : List Int, D.plAll n (D.ints ns) = true
  | [] => by simp [D.plAll]
  | m :: ns => by
    have := pl_ints (n := n) ns
    simp only [D.ints, List.map_cons, D.plAll, D.pl, Bool.true_and] at this ⊢
    exact this
theorem pl_lstI {n : Nat} (ns : List Int) : (D.lst (D.ints ns)).pl (n + 1) = true := by simp only [D.pl]; exact pl_ints ns
theorem pl_tupI {n : Nat} (ns : List Int) : (D.tup (D.ints ns)).pl (n + 1) = true := by simp only [D.pl]; exact pl_ints ns
theorem eqv_refl {n : Nat} {d : D} (h : d.pl n = true) : d.eqv d = true := SeqAt.eqv_refl _ (D.lay n d h).1
/-! ### attributes -/
theorem lookup_zip {f : Str} : ∀ {ns : List Str} {vs : List V} {i : Nat} {v : V}, (ns.findIdx? (· == f)) = some i → vs[i]? = some v → (ns.zip vs).lookup f = some v
  | [], _, _, _, h, _ => by simp at h
  | n :: ns, [], i, v, _, e => by simp at e
  | n :: ns, w :: vs, i, v, h, e => by
    rw [List.findIdx?_cons] at h
    by_cases hn : n = f
    · subst hn
      rw [if_pos (by simp)] at h
      cases h
      simp at e; subst e
      simp
    · rw [if_neg (by simpa using hn)] at h
      obtain ⟨j, hj, rfl⟩ := Option.map_eq_some_iff.mp h
      have e' : vs[j]? = some v := by simpa using e
      rw [List.zip_cons_cons, List.lookup_cons, show (f == n) = false from by simpa using Ne.symm hn]
      exact lookup_zip hj e'
theorem ev_fld {f : Str} {C : Addr} {ns : List Str} {ds : List D} {i : Nat} {d : D} (hc : Cls K C) (hn : NoAttr K C f) (hi : (ns.findIdx? (· == f)) = some i) (hd : ds[i]? = some d) (h : EvP K te ρ M fun s => s = .v (.ins C ns ds) ∧ Q (.v d)) : EvP K (tFld K te f) ρ M Q := fun σ α F H en S k kk =>
  h σ α F H en S _ fun v F1 H1 s m1 S1 o1 ⟨e1, q⟩ => by
    subst e1
    obtain ⟨a, dx, vs, rfl, h1, h2, h3⟩ := o1
    obtain ⟨w, hw, r⟩ := h3.get hd
    exact ⟨a, C, dx, _, w, rfl, S1.sub _ _ h1, hc, hn, lookup_zip hi hw, kk w F1 H1 _ m1 S1 (den_ok r) q⟩
theorem ev_fldM {f : Str} {C : Addr} {ns : List Str} {ds : List D} {i j k : Nat} {d : D} (hc : Cls K C) (hn : NoAttr K C f) (hi : (ns.findIdx? (· == f)) = some i) (hd : ds[i]? = some d) (hj : ρ[j]? = some (some (.l k))) (hk : M[k]? = some (.ins C ns ds)) (q : Q (.v d)) : EvP K (tFld K (tVar j) f) ρ M Q := fun σ α F H en S kk1 kk => by
  obtain ⟨v, h1, p, hp, rfl⟩ := en.at' j _ hj
  obtain ⟨hF, dx, vs, h2, hl, h3⟩ := S.ob k _ p hk hp
  obtain ⟨w, hw, r⟩ := h3.get hd
  exact ⟨_, h1, p.1, C, dx, _, w, rfl, h2, hc, hn, lookup_zip hi hw, kk w F H _ .refl S (den_ok r) q⟩
end
end DL

/-! DL5: operators of any kind, walks of any sequence, calls by name. -/
namespace DL
open PySem L2
section
variable {X : Cx}
def rOr (r s : R2) : R2 := fun x y H Q => r x y H Q ∨ s x y H Q
theorem opOr {f : Value → Value → Sem Value} {r s : R2} (h1 : OpR X f r) (h2 : OpR X f s) : OpR X f (rOr r s) := fun pins st σ H x y v u Q I rx ry h => by
  rcases h with h | h
  · exact h1 pins st σ H x y v u Q I rx ry h
  · exact h2 pins st σ H x y v u Q I rx ry h
def rAddS : R2 := fun x y H Q => ∃ i j, x = .str i ∧ y = .str j ∧ i.length + j.length ≤ sizeLine ∧ Q (.str (i ++ j)) H
def gAdd (K : PySem.W.Frag) : R2 := rOr (rI0 fun i j => .int (i + j)) (rOr (rOr rCat (rCatA K)) rAddS)
theorem op_gAdd {K : PySem.W.Frag} (hK : X.K = K := by rfl) : OpR X (binaryOp .Add) (gAdd K) := by
  subst hK
  exact opOr op_add (opOr (opOr op_cat op_catA) op_add_str)
def gMul (K : PySem.W.Frag) : R2 := rOr (rOr (rI CMulW fun i j => .int (i * j)) (rI CMul fun i j => .int (i * j))) (rOr rRep (rRepT K))
theorem op_gMul {K : PySem.W.Frag} (hK : X.K = K := by rfl) : OpR X (binaryOp .Mult) (gMul K) := by
  subst hK
  exact opOr (opOr op_mulW op_mul) (opOr op_rep op_repT)
def gSub : R2 := rI0 fun i j => .int (i - j)
theorem op_gSub : OpR X (binaryOp .Sub) gSub := op_sub
def gDiv : R2 := rOr (rI CDivW fun i j => .int (i / j)) (rI CDivN fun i j => .int (i.fdiv j))
theorem op_gDiv : OpR X (binaryOp .FloorDiv) gDiv := opOr op_fdivW op_fdivN
def gMod : R2 := rOr (rI (fun _ j => 0 < j) fun i j => .int (i % j)) (rI (fun _ j => j ≠ 0) fun i j => .int (i.fmod j))
theorem op_gMod : OpR X (binaryOp .Mod) gMod := opOr op_mod op_modN
def gPow : R2 := rI CPow fun i j => .int (i ^ j.toNat)
theorem op_gPow : OpR X (binaryOp .Pow) gPow := op_pow
def gEq (K : PySem.W.Frag) : R2 := rOr rEq (rEqD K)
def gNe (K : PySem.W.Frag) : R2 := rOr rNe (rNeD K)
theorem op_gEq {K : PySem.W.Frag} (hu : X.A.units + 64 < cLine) (hK : X.K = K := by rfl) : OpR X (compareOp .Eq) (gEq K) := by
  subst hK
  exact opOr op_eq (op_eqD hu)
theorem op_gNe {K : PySem.W.Frag} (hu : X.A.units + 64 < cLine) (hK : X.K = K := by rfl) : OpR X (compareOp .NotEq) (gNe K) := by
  subst hK
  exact opOr op_ne (op_neD hu)
def gLt : R2 := rI0 fun i j => .bl (decide (i < j))
def gLe : R2 := rI0 fun i j => .bl (decide (i ≤ j))
def gGt : R2 := rI0 fun i j => .bl (decide (j < i))
def gGe : R2 := rI0 fun i j => .bl (decide (j ≤ i))
theorem op_gLt : OpR X (compareOp .Lt) gLt := op_lt
theorem op_gLe : OpR X (compareOp .LtE) gLe := op_le
theorem op_gGt : OpR X (compareOp .Gt) gGt := op_gt
theorem op_gGe : OpR X (compareOp .GtE) gGe := op_ge
def gIsN : R2 := fun x y H Q => y = .non ∧ Q (.bl (decide (x = .non))) H
def gNotN : R2 := fun x y H Q => y = .non ∧ Q (.bl (!decide (x = .non))) H
theorem op_gIs : OpR X (compareOp .Is) gIsN := op_isN
theorem op_gIsNot : OpR X (compareOp .IsNot) gNotN := op_notN
def gIn (K : PySem.W.Frag) : R2 := rOr (rIn K false) (rInD K)
def gNotIn (K : PySem.W.Frag) : R2 := rOr (rIn K true) (rNotInD K)
theorem op_gIn {K : PySem.W.Frag} (hu : X.A.units + 65 < cLine) (hK : X.K = K := by rfl) : OpR X (compareOp .In) (gIn K) := by
  subst hK
  exact opOr op_in_seq (op_inD hu)
theorem op_gNotIn {K : PySem.W.Frag} (hu : X.A.units + 65 < cLine) (hK : X.K = K := by rfl) : OpR X (compareOp .NotIn) (gNotIn K) := by
  subst hK
  exact opOr op_notIn_seq (op_notInD hu)
theorem ix_any {K : PySem.W.Frag} (hK : X.K = K := by rfl) : IxR X (rIx K) := by
  subst hK
  exact ix_seq
/-! walks -/
def iSeq (K : PySem.W.Frag) (tl : TE) : TI := fun σ H R => tl σ H fun x H1 => ∃ a, x = .ref a ∧ (((∃ xs, SqL K H1 a xs) ∧ R (Itl K a) H1) ∨ ((∃ xs, SqT K H1 a xs) ∧ R (Itt K a) H1))
theorem pi_seq {K : PySem.W.Frag} {tg l : Expr} {tl : TE} (hl : PE X l tl) (hK : X.K = K := by rfl) : PI X tg l (iSeq K tl) := by
  subst hK
  refine ⟨fun pins s σ H R I h => ?_⟩
  refine thn (hl.run pins s σ H _ I h) fun v s1 ⟨x, H1, I1, r1, q1⟩ => ?_
  obtain ⟨a, e, q1⟩ := q1
  subst e
  cases r1
  rcases q1 with ⟨⟨xs, hq⟩, q⟩ | ⟨⟨xs, hq⟩, q⟩
  · obtain ⟨its, rv, p, hz⟩ := I1.list hq
    refine wpAny_pyIter_list p.isList ?_
    refine ⟨s1.heap.objs.size, [s1.heap.objs.size], _, _, H1, rfl, I1.kept (t' := s1.toks) fun b o e => Heap.get?_push_of_some _ e, turn_list a _, ⟨_, Heap.get?_push_size _ rfl, rfl, rfl⟩, fun b hb => ?_, q⟩
    have e : b = s1.heap.objs.size := by simpa using hb
    subst e
    exact I1.fpOk (Nat.le_refl _) (I1.hok.fresh (Nat.le_refl _))
  · obtain ⟨its, rv, p, hz⟩ := I1.tuple hq
    refine wpAny_pyIter_tuple (show s1.heap.IsTuple a its.toArray from p) ?_
    refine ⟨s1.heap.objs.size, [s1.heap.objs.size], _, _, H1, rfl, I1.kept (t' := s1.toks) fun b o e => Heap.get?_push_of_some _ e, turn_tuple a _, ⟨_, Heap.get?_push_size _ rfl, rfl, rfl⟩, fun b hb => ?_, q⟩
    have e : b = s1.heap.objs.size := by simpa using hb
    subst e
    exact I1.fpOk (Nat.le_refl _) (I1.hok.fresh (Nat.le_refl _))
/-! calls by name -/
def FnAt (P : Program) (w : World) (K : PySem.W.Frag) (mg : Str → Option Value) (base : Heap) (CX : CXT) (k : Nat) (x : Str) (ps : List Str) (sp : Sp) : Prop :=
  ∃ f fd, (mg x = some (.ref f) ∧ (∃ oc od osl, K.lookup f = some ⟨oc, od, .func fd, osl⟩)) ∧ PySem.W.keepIn K (.ref f) = true ∧ (∀ (s : Shared) (us : List Value), us.length = ps.length → BindsTo s fd ⟨us, []⟩ (ps.zip us)) ∧ FnOk P w K mg base CX k f fd ps sp
theorem FnAt.imp {P : Program} {w : World} {K : PySem.W.Frag} {mg : Str → Option Value} {base : Heap} {CX : CXT} {k : Nat} {x : Str} {ps : List Str} {sp sp' : Sp} (F : FnAt P w K mg base CX k x ps sp) (h : ∀ vs H Q E, sp' vs H Q E → sp vs H Q E) : FnAt P w K mg base CX k x ps sp' :=
  let ⟨f, fd, a, b, c, d⟩ := F
  ⟨f, fd, a, b, c, d.imp h⟩
structure DefAt (K : PySem.W.Frag) (mg : Str → Option Value) (x : Str) (st : Stmt) (ps : List Str) : Prop where
  ex : ∃ f fd, Fun K x x st f fd ∧ mg x = some (.ref f) ∧ (∀ (s : Shared) (us : List Value), us.length = ps.length → BindsTo s fd ⟨us, []⟩ (ps.zip us))
theorem binds_of {K : PySem.W.Frag} {fd : FuncData} {ps : List Str} (h : ∀ (s : Shared) (us : List Value), us.length = ps.length → BindsTo s fd ⟨us, []⟩ (ps.zip us)) : Binds K fd ps [] := fun s us _ hl => by
  rw [List.append_nil] at hl ⊢
  exact h s us hl
theorem fun_look {K : PySem.W.Frag} {x qual : Str} {st : Stmt} {f : Addr} {fd : FuncData} (F : Fun K x qual st f fd) : ∃ oc od osl, K.lookup f = some ⟨oc, od, .func fd, osl⟩ := by
  obtain ⟨oc, od, kV, doc, pm, an, cdv, ct, osl, rfl, lk, _⟩ := F.ex
  exact ⟨oc, od, osl, lk⟩
theorem pe_fn {x : Str} {k : Nat} {ps : List Str} {sp : Sp} {e : Expr} {es : List Expr} {t : TA} {p pos : Pos} (F : FnAt X.prog X.w X.K X.mg X.base CX0 k x ps sp) (hr : Room k X.A) (hg : Gl X x) (ha : PA X (e :: es) t) (hdb : (x == ("__debug__" : Str)) = false := by decide)
    (he : starEach (e :: es) X.env = (false, eval e X.env) :: starEach es X.env := by rfl) (hpl : (backTo pos (starEach es X.env)).any (·.1) = false := by rfl) : PE X (.Call (.Name x p) (e :: es) [] pos) (tCall sp [] E0 t) := by
  obtain ⟨f, fd, ⟨hm, _⟩, hk, hb, F⟩ := F
  exact pe_call F hr hg hm hk (binds_of hb) .nil pass0 ha hdb he hpl
/-- the built-in names are the built-ins -/
structure Blt (mg : Str → Option Value) : Prop where
  range : mg "range" = none
  len : mg "len" = none
  abs : mg "abs" = none
  max : mg "max" = none
  min : mg "min" = none
  sum : mg "sum" = none
  any : mg "any" = none
  all : mg "all" = none
  int : mg "int" = none
  str : mg "str" = none
  tuple : mg "tuple" = none
  list : mg "list" = none
  bool : mg "bool" = none
  set : mg "set" = none
  sorted : mg "sorted" = none
  zip : mg "zip" = none
  enumerate : mg "enumerate" = none
  isinstance : mg "isinstance" = none
section
variable {e e2 : Expr} {t : TA} {p pos : Pos}
theorem pe_len {K : PySem.W.Frag} (b : X.mg "len" = none) (hg : Gl X "len") (ha : PA X [e] t) (he : starEach [e] X.env = (false, eval e X.env) :: starEach [] X.env := by rfl) (hpl : (backTo pos (starEach [] X.env)).any (·.1) = false := by rfl) (hK : X.K = K := by rfl) : PE X (.Call (.Name "len" p) [e] [] pos) (tCB (rLen K) t) := by
  subst hK
  exact pe_callB call_len hg b PySem.boot_len ha (by decide) (by decide) he hpl
theorem pe_abs (b : X.mg "abs" = none) (hg : Gl X "abs") (ha : PA X [e] t) (he : starEach [e] X.env = (false, eval e X.env) :: starEach [] X.env := by rfl) (hpl : (backTo pos (starEach [] X.env)).any (·.1) = false := by rfl) : PE X (.Call (.Name "abs" p) [e] [] pos) (tCB rAbs t) := pe_callB call_abs hg b (by decide +kernel) ha (by decide) (by decide) he hpl
theorem pe_max2 (b : X.mg "max" = none) (hc : X.calm = true) (hg : Gl X "max") (ha : PA X [e, e2] t) (he : starEach [e, e2] X.env = (false, eval e X.env) :: starEach [e2] X.env := by rfl) (hpl : (backTo pos (starEach [e2] X.env)).any (·.1) = false := by rfl) : PE X (.Call (.Name "max" p) [e, e2] [] pos) (tCB rMax2 t) := pe_callB (call_max2 hc) hg b (by decide +kernel) ha (by decide) (by decide) he hpl
theorem pe_min2 (b : X.mg "min" = none) (hc : X.calm = true) (hg : Gl X "min") (ha : PA X [e, e2] t) (he : starEach [e, e2] X.env = (false, eval e X.env) :: starEach [e2] X.env := by rfl) (hpl : (backTo pos (starEach [e2] X.env)).any (·.1) = false := by rfl) : PE X (.Call (.Name "min" p) [e, e2] [] pos) (tCB rMin2 t) := pe_callB (call_min2 hc) hg b (by decide +kernel) ha (by decide) (by decide) he hpl
theorem pe_max1 {K : PySem.W.Frag} (b : X.mg "max" = none) (hc : X.calm = true) (hg : Gl X "max") (ha : PA X [e] t) (he : starEach [e] X.env = (false, eval e X.env) :: starEach [] X.env := by rfl) (hpl : (backTo pos (starEach [] X.env)).any (·.1) = false := by rfl) (hK : X.K = K := by rfl) : PE X (.Call (.Name "max" p) [e] [] pos) (tCB (rMax K) t) := by
  subst hK
  exact pe_callB (cr_max hc) hg b (by decide +kernel) ha (by decide) (by decide) he hpl
theorem pe_min1 {K : PySem.W.Frag} (b : X.mg "min" = none) (hc : X.calm = true) (hg : Gl X "min") (ha : PA X [e] t) (he : starEach [e] X.env = (false, eval e X.env) :: starEach [] X.env := by rfl) (hpl : (backTo pos (starEach [] X.env)).any (·.1) = false := by rfl) (hK : X.K = K := by rfl) : PE X (.Call (.Name "min" p) [e] [] pos) (tCB (rMin K) t) := by
  subst hK
  exact pe_callB (cr_min hc) hg b (by decide +kernel) ha (by decide) (by decide) he hpl
theorem pe_sum {K : PySem.W.Frag} (b : X.mg "sum" = none) (hc : X.calm = true) (hg : Gl X "sum") (ha : PA X [e] t) (he : starEach [e] X.env = (false, eval e X.env) :: starEach [] X.env := by rfl) (hpl : (backTo pos (starEach [] X.env)).any (·.1) = false := by rfl) (hK : X.K = K := by rfl) : PE X (.Call (.Name "sum" p) [e] [] pos) (tCB (rSum K) t) := by
  subst hK
  exact pe_callB (cr_sum hc) hg b (by decide +kernel) ha (by decide) (by decide) he hpl
theorem pe_any {K : PySem.W.Frag} (b : X.mg "any" = none) (hc : X.calm = true) (hg : Gl X "any") (ha : PA X [e] t) (he : starEach [e] X.env = (false, eval e X.env) :: starEach [] X.env := by rfl) (hpl : (backTo pos (starEach [] X.env)).any (·.1) = false := by rfl) (hK : X.K = K := by rfl) : PE X (.Call (.Name "any" p) [e] [] pos) (tCB (rAny K) t) := by
  subst hK
  exact pe_callB (cr_any hc) hg b (by decide +kernel) ha (by decide) (by decide) he hpl
theorem pe_all {K : PySem.W.Frag} (b : X.mg "all" = none) (hc : X.calm = true) (hg : Gl X "all") (ha : PA X [e] t) (he : starEach [e] X.env = (false, eval e X.env) :: starEach [] X.env := by rfl) (hpl : (backTo pos (starEach [] X.env)).any (·.1) = false := by rfl) (hK : X.K = K := by rfl) : PE X (.Call (.Name "all" p) [e] [] pos) (tCB (rAll K) t) := by
  subst hK
  exact pe_callB (cr_all hc) hg b (by decide +kernel) ha (by decide) (by decide) he hpl
theorem pe_sorted {K : PySem.W.Frag} (b : X.mg "sorted" = none) (hg : Gl X "sorted") (ha : PA X [e] t) (he : starEach [e] X.env = (false, eval e X.env) :: starEach [] X.env := by rfl) (hpl : (backTo pos (starEach [] X.env)).any (·.1) = false := by rfl) (hK : X.K = K := by rfl) : PE X (.Call (.Name "sorted" p) [e] [] pos) (tCB (rSorted K) t) := by
  subst hK
  exact pe_callB cr_sorted hg b (by decide +kernel) ha (by decide) (by decide) he hpl
theorem pe_int1 (b : X.mg "int" = none) (hg : Gl X "int") (ha : PA X [e] t) (he : starEach [e] X.env = (false, eval e X.env) :: starEach [] X.env := by rfl) (hpl : (backTo pos (starEach [] X.env)).any (·.1) = false := by rfl) : PE X (.Call (.Name "int" p) [e] [] pos) (tCB rInt1 t) := pe_callTy call_int1 hg b (by decide +kernel) ha (by decide) (by decide) he hpl
theorem pe_strI (b : X.mg "str" = none) (hg : Gl X "str") (ha : PA X [e] t) (he : starEach [e] X.env = (false, eval e X.env) :: starEach [] X.env := by rfl) (hpl : (backTo pos (starEach [] X.env)).any (·.1) = false := by rfl) : PE X (.Call (.Name "str" p) [e] [] pos) (tCB rStrI t) := pe_callTy call_str_int hg b (by decide +kernel) ha (by decide) (by decide) he hpl
theorem pe_tupOf {K : PySem.W.Frag} (b : X.mg "tuple" = none) (hg : Gl X "tuple") (ha : PA X [e] t) (he : starEach [e] X.env = (false, eval e X.env) :: starEach [] X.env := by rfl) (hpl : (backTo pos (starEach [] X.env)).any (·.1) = false := by rfl) (hK : X.K = K := by rfl) : PE X (.Call (.Name "tuple" p) [e] [] pos) (tCB (rTupOf K) t) := by
  subst hK
  exact pe_callTy call_tuple_of hg b (by decide +kernel) ha (by decide) (by decide) he hpl
theorem pe_listOf {K : PySem.W.Frag} (b : X.mg "list" = none) (hg : Gl X "list") (ha : PA X [e] t) (he : starEach [e] X.env = (false, eval e X.env) :: starEach [] X.env := by rfl) (hpl : (backTo pos (starEach [] X.env)).any (·.1) = false := by rfl) (hK : X.K = K := by rfl) : PE X (.Call (.Name "list" p) [e] [] pos) (tCB (rListOf K) t) := by
  subst hK
  exact pe_callTy call_list_of hg b (by decide +kernel) ha (by decide) (by decide) he hpl
end
end
/-! ### their readings -/
section
variable {K : PySem.W.Frag} {e : Ent} {ρ : Rho} {M : List MO} {Q : Sl → Prop} {te ta tb : TE} {x y : Sl}
theorem er_l {r s : R2} (h : EvR K r M x y Q) : EvR K (rOr r s) M x y Q := fun α F H u v S o1 o2 k kk => .inl (h α F H u v S o1 o2 k kk)
theorem er_r {r s : R2} (h : EvR K s M x y Q) : EvR K (rOr r s) M x y Q := fun α F H u v S o1 o2 k kk => .inr (h α F H u v S o1 o2 k kk)
theorem g_add {i j : Int} (q : Q (.v (.int (i + j)))) : EvR K (gAdd K) M (.v (.int i)) (.v (.int j)) Q := er_l (er_I0 q)
theorem g_addL {ds es : List D} (h1 : RdL M x ds) (h2 : RdL M y es) (hz : ds.length + es.length ≤ 16777216) (q : Q (.v (.lst (ds ++ es)))) : EvR K (gAdd K) M x y Q := er_r (er_l (er_l (er_cat h1 h2 hz q)))
theorem g_addT {ds es : List D} (hz : ds.length + es.length ≤ 16777216) (q : Q (.v (.tup (ds ++ es)))) : EvR K (gAdd K) M (.v (.tup ds)) (.v (.tup es)) Q := er_r (er_l (er_r (er_catT hz q)))
theorem g_addS {i j : Str} (hz : i.length + j.length ≤ 16777216) (q : Q (.v (.str (i ++ j)))) : EvR K (gAdd K) M (.v (.str i)) (.v (.str j)) Q := er_r (er_r fun α F H u v S o1 o2 k kk => by
  have o1 : u = .str i := o1
  have o2 : v = .str j := o2
  subst o1; subst o2
  exact ⟨i, j, rfl, rfl, by rw [sizeLine_eq]; exact hz, kk _ F H _ .refl S raw_ok q⟩)
theorem g_sub {i j : Int} (q : Q (.v (.int (i - j)))) : EvR K gSub M (.v (.int i)) (.v (.int j)) Q := er_I0 q
theorem g_mul {i j : Int} (hc : CMulW i j) (q : Q (.v (.int (i * j)))) : EvR K (gMul K) M (.v (.int i)) (.v (.int j)) Q := er_l (er_l (er_I hc q))
theorem g_mulS {i j : Int} (hc : CMul i j) (q : Q (.v (.int (i * j)))) : EvR K (gMul K) M (.v (.int i)) (.v (.int j)) Q := er_l (er_r (er_I hc q))
theorem g_rep {ds : List D} {i : Int} (h : RdL M x ds) (h1 : -(2 ^ 63) ≤ i) (h2 : i < 2 ^ 63) (hz : ds.length * i.toNat ≤ 16777216) (q : Q (.v (.lst (List.replicate i.toNat ds).flatten))) : EvR K (gMul K) M x (.v (.int i)) Q := er_r (er_l (er_rep h h1 h2 hz q))
theorem g_repT {ds : List D} {i : Int} (h0 : ds ≠ []) (h1 : 2 ≤ i) (h2 : i ≤ 1000) (hz : ds.length ≤ 1000) (q : Q (.v (.tup (List.replicate i.toNat ds).flatten))) : EvR K (gMul K) M (.v (.tup ds)) (.v (.int i)) Q := er_r (er_r (er_repT h0 h1 h2 hz q))
theorem g_div {i j : Int} (hc : CDivW i j) (q : Q (.v (.int (i / j)))) : EvR K gDiv M (.v (.int i)) (.v (.int j)) Q := er_l (er_I hc q)
theorem g_fdiv {i j : Int} (hc : CDivN i j) (q : Q (.v (.int (i.fdiv j)))) : EvR K gDiv M (.v (.int i)) (.v (.int j)) Q := er_r (er_I hc q)
theorem g_mod {i j : Int} (hc : 0 < j) (q : Q (.v (.int (i % j)))) : EvR K gMod M (.v (.int i)) (.v (.int j)) Q := er_l (er_I hc q)
theorem g_fmod {i j : Int} (hc : j ≠ 0) (q : Q (.v (.int (i.fmod j)))) : EvR K gMod M (.v (.int i)) (.v (.int j)) Q := er_r (er_I hc q)
theorem g_pow {i j : Int} (hc : CPow i j) (q : Q (.v (.int (i ^ j.toNat)))) : EvR K gPow M (.v (.int i)) (.v (.int j)) Q := er_I hc q
theorem g_lt {i j : Int} (q : Q (.v (.bl (decide (i < j))))) : EvR K gLt M (.v (.int i)) (.v (.int j)) Q := er_I0 q
theorem g_le {i j : Int} (q : Q (.v (.bl (decide (i ≤ j))))) : EvR K gLe M (.v (.int i)) (.v (.int j)) Q := er_I0 q
theorem g_gt {i j : Int} (q : Q (.v (.bl (decide (j < i))))) : EvR K gGt M (.v (.int i)) (.v (.int j)) Q := er_I0 q
theorem g_ge {i j : Int} (q : Q (.v (.bl (decide (j ≤ i))))) : EvR K gGe M (.v (.int i)) (.v (.int j)) Q := er_I0 q
theorem dec_int' {i j : Int} : decide (V.int i = V.int j) = decide (i = j) := by simp
theorem g_eqI {i j : Int} (q : Q (.v (.bl (decide (i = j))))) : EvR K (gEq K) M (.v (.int i)) (.v (.int j)) Q := er_l (er_eq rfl (by rw [dec_int']; exact q))
theorem g_neI {i j : Int} (q : Q (.v (.bl (!decide (i = j))))) : EvR K (gNe K) M (.v (.int i)) (.v (.int j)) Q := er_l (er_ne rfl (by rw [dec_int']; exact q))
theorem g_eqV {a b : V} (h : scal a b = true) (q : Q (.v (.bl (decide (a = b))))) : EvR K (gEq K) M (.v (.raw a)) (.v (.raw b)) Q := er_l (er_eq h q)
theorem g_neV {a b : V} (h : scal a b = true) (q : Q (.v (.bl (!decide (a = b))))) : EvR K (gNe K) M (.v (.raw a)) (.v (.raw b)) Q := er_l (er_ne h q)
theorem g_eqD {a b : D} (n : Nat) (hx : a.pl n = true) (hy : b.pl n = true) (hn : n ≤ 64) (q : Q (.v (.bl (a.eqv b)))) : EvR K (gEq K) M (.v a) (.v b) Q := er_r (er_eqD n hx hy hn q)
theorem g_neD {a b : D} (n : Nat) (hx : a.pl n = true) (hy : b.pl n = true) (hn : n ≤ 64) (q : Q (.v (.bl (!a.eqv b)))) : EvR K (gNe K) M (.v a) (.v b) Q := er_r (er_neD n hx hy hn q)
theorem g_isN {s : Sl} (b : Bool) (h : ∀ (α : Al) (F : Hp) v, SlOk K α F s v → decide (v = .non) = b) (q : Q (.v (.bl b))) : EvR K gIsN M s (.v .non) Q := fun α F H u v S o1 o2 k kk => by
  have o2 : v = .non := o2
  subst o2
  exact ⟨rfl, by rw [h α F u o1]; exact kk _ F H _ .refl S raw_ok q⟩
theorem g_notN {s : Sl} (b : Bool) (h : ∀ (α : Al) (F : Hp) v, SlOk K α F s v → decide (v = .non) = b) (q : Q (.v (.bl (!b)))) : EvR K gNotN M s (.v .non) Q := fun α F H u v S o1 o2 k kk => by
  have o2 : v = .non := o2
  subst o2
  exact ⟨rfl, by rw [h α F u o1]; exact kk _ F H _ .refl S raw_ok q⟩
theorem g_inI {i : Int} {y : Sl} {ns : List Int} (h : RdS M y (D.ints ns)) (q : Q (.v (.bl (decide (i ∈ ns))))) : EvR K (gIn K) M (.v (.int i)) y Q := er_l (er_inI (neg := false) h q)
theorem g_notInI {i : Int} {y : Sl} {ns : List Int} (h : RdS M y (D.ints ns)) (q : Q (.v (.bl (!decide (i ∈ ns))))) : EvR K (gNotIn K) M (.v (.int i)) y Q := er_l (er_inI (neg := true) h q)
theorem g_in {x : V} {y : Sl} {xs : List V} (h : RdS M y (xs.map D.raw)) (hx : flatV x = true) (hf : xs.all flatV = true) (q : Q (.v (.bl (inV x xs)))) : EvR K (gIn K) M (.v (.raw x)) y Q := er_l (er_in (neg := false) h hx hf q)
theorem g_notIn {x : V} {y : Sl} {xs : List V} (h : RdS M y (xs.map D.raw)) (hx : flatV x = true) (hf : xs.all flatV = true) (q : Q (.v (.bl (!inV x xs)))) : EvR K (gNotIn K) M (.v (.raw x)) y Q := er_l (er_in (neg := true) h hx hf q)
theorem py_any {c : D} : ∀ ds : List D, ((D.pyAll ds).any fun z => PyData.eqv z c.py) = ds.any fun z => z.eqv c
  | [] => by simp [D.pyAll]
  | d :: ds => by simp only [D.pyAll, List.any_cons, py_any ds, D.eqv]
theorem g_inD {c : D} {ds : List D} (n : Nat) (hx : c.pl n = true) (hy : (D.lst ds).pl n = true) (hn : n ≤ 64) (q : Q (.v (.bl (ds.any fun z => z.eqv c)))) : EvR K (gIn K) M (.v c) (.v (.lst ds)) Q := er_r fun α F H u v S o1 o2 k kk => by
  have e1 := D.dp S.sub n _ v hy o2
  have e2 := D.shaped hy hn
  simp only [D.py] at e1 e2
  exact ⟨c.py, D.pyAll ds, D.dp S.sub n c u hx o1, e1, D.shaped hx hn, e2, by rw [py_any]; exact kk _ F H _ .refl S raw_ok q⟩
theorem g_notInD {c : D} {ds : List D} (n : Nat) (hx : c.pl n = true) (hy : (D.lst ds).pl n = true) (hn : n ≤ 64) (q : Q (.v (.bl (!ds.any fun z => z.eqv c)))) : EvR K (gNotIn K) M (.v c) (.v (.lst ds)) Q := er_r fun α F H u v S o1 o2 k kk => by
  have e1 := D.dp S.sub n _ v hy o2
  have e2 := D.shaped hy hn
  simp only [D.py] at e1 e2
  exact ⟨c.py, D.pyAll ds, D.dp S.sub n c u hx o1, e1, D.shaped hx hn, e2, by rw [py_any]; exact kk _ F H _ .refl S raw_ok q⟩
/-- is it None? -/
def D.isNon : D → Bool
  | .raw .non => true
  | _ => false
theorem isNon_ok {d : D} (α : Al) (F : Hp) (v : V) (o : SlOk K α F (.v d) v) : decide (v = .non) = d.isNon := by
  cases d with
  | raw x =>
    have o : v = x := o
    subst o
    cases v <;> simp [D.isNon]
  | tup ds => obtain ⟨a, vs, rfl, _⟩ := o; simp [D.isNon]
  | lst ds => obtain ⟨a, vs, rfl, _⟩ := o; simp [D.isNon]
  | dic ks ds => obtain ⟨a, vs, rfl, _⟩ := o; simp [D.isNon]
  | ins C ns ds => obtain ⟨a, dx, vs, rfl, _⟩ := o; simp [D.isNon]
  | rd ds => obtain ⟨a, vs, rfl, _⟩ := o; simp [D.isNon]
theorem g_isND {d : D} (q : Q (.v (.bl d.isNon))) : EvR K gIsN M (.v d) (.v .non) Q := g_isN _ isNon_ok q
theorem g_notND {d : D} (q : Q (.v (.bl (!d.isNon)))) : EvR K gNotN M (.v d) (.v .non) Q := g_notN _ isNon_ok q
theorem g_ixT {ds : List D} {i : Int} {d : D} (ha : atI ds i = some d) (q : Q (.v d)) : EvR K (rIx K) M (.v (.tup ds)) (.v (.int i)) Q := fun α F H u v S o1 o2 k kk => .inr (.inl (er_ixT ha q α F H u v S o1 o2 k kk))
theorem g_ixL {ds : List D} {i : Int} {d : D} (h : RdL M x ds) (ha : atI ds i = some d) (q : Q (.v d)) : EvR K (rIx K) M x (.v (.int i)) Q := fun α F H u v S o1 o2 k kk => .inl (er_ixL h ha q α F H u v S o1 o2 k kk)
/-- walks -/
def D.seq (b : Bool) (ds : List D) : D := if b then .tup ds else .lst ds
theorem RdS.seq {b : Bool} {ds : List D} : RdS M (.v (D.seq b ds)) ds := by
  cases b with
  | true => exact .t
  | false => exact .l .v
theorem ei_seqS {R : List D → Prop} (h : EvP K te ρ M fun s => ∃ ds, (∃ b, s = .v (D.seq b ds)) ∧ R ds) : EvI K (iSeq K te) ρ M R := fun σ α F H en S k kk =>
  h σ α F H en S _ fun v F1 H1 s m1 S1 o1 ⟨ds, ⟨b, e1⟩, q⟩ => by
    subst e1
    cases b with
    | true =>
      obtain ⟨a, vs, rfl, h1, h2⟩ := o1
      exact ⟨a, rfl, .inr ⟨⟨vs, sqt_same K S1.sub h1⟩, kk _ F1 H1 ds m1 S1 (itt_ok h1 h2) q⟩⟩
    | false =>
      obtain ⟨a, vs, rfl, h1, h2⟩ := o1
      exact ⟨a, rfl, .inl ⟨⟨vs, SqL.of (S1.sub _ _ h1)⟩, kk _ F1 H1 ds m1 S1 (itl_ok h1 h2) q⟩⟩
theorem ei_seqL {R : List D → Prop} (h : EvP K te ρ M fun s => ∃ ds, s = .v (.lst ds) ∧ R ds) : EvI K (iSeq K te) ρ M R := ei_seqS (h.mono fun s ⟨ds, e, r⟩ => ⟨ds, ⟨false, e⟩, r⟩)
theorem ei_seqT {R : List D → Prop} (h : EvP K te ρ M fun s => ∃ ds, s = .v (.tup ds) ∧ R ds) : EvI K (iSeq K te) ρ M R := ei_seqS (h.mono fun s ⟨ds, e, r⟩ => ⟨ds, ⟨true, e⟩, r⟩)
end
section
variable {P : Program} {w : World} {K : PySem.W.Frag} {mg : Str → Option Value} {base : Heap}
/-- a def that keeps a promise over plain data -/
theorem fn_at {ι : Type} {x : Str} {st : Stmt} {ps N : List Str} {k : Nat} {args : ι → List Sl} {Mi : ι → List MO} {pre : ι → Prop} {post : ι → D → List MO → Prop} (D0 : DefAt K mg x st ps) (S : FnScope N ps (defScope st)) (hl : ∀ i, (args i).length = ps.length)
    (body : ∀ (f : Addr) (cdv : Value) (A : Around) (outer : List Env) (s : Shared) (H : Hp) (E : XK), Room k (A.deeper (PyProof.Rows.envOfC x (defScope st) s.heap.objs.size f cdv)) →
      ∃ t, PSs (cxOf CX0 P w K mg base N x (defScope st) f cdv A outer s H E).nox (defBody st) t ∧
        ∀ i e, pre i → e.α.length = (Mi i).length → RunD K e t (startR N.length (args i)) (Mi i) (fun _ M' => post i .non (M'.take (Mi i).length)) (RetOk (Mi i).length (post i)) (fun _ _ => False) (fun _ _ => False)) :
    FnAt P w K mg base CX0 (k + 1) x ps (SpF K args Mi pre post) := by
  obtain ⟨f, fd, F, hm, hb⟩ := D0.ex
  refine ⟨f, fd, ⟨hm, fun_look F⟩, F.kp, hb, F.ok S (fun vs H Q E h => ?_) fun cdv A outer s H vs Q E hr h => ?_⟩
  · obtain ⟨i, α, F', o, _⟩ := h
    rw [← o.length, hl]
  · obtain ⟨t, ht, hi⟩ := body f cdv A outer s H E hr
    exact ⟨t, ht, fn_run hi vs H Q E h⟩
end
end DL

/-! DL6: the readings once more, each with one question. -/
namespace DL
open PySem L2
section
variable {K : PySem.W.Frag} {e : Ent} {ρ : Rho} {M : List MO} {Q : Sl → Prop} {te ta tb : TE} {x y : Sl} {nx bk ct : Rho → List MO → Prop} {rt : Sl → List MO → Prop}
theorem x_var {i : Nat} (h : ∃ s, ρ[i]? = some (some s) ∧ Q s) : EvP K (tVar i) ρ M Q := let ⟨_, a, b⟩ := h; ev_var a b
theorem x_mul {i j : Int} (h : CMulW i j ∧ Q (.v (.int (i * j)))) : EvR K (gMul K) M (.v (.int i)) (.v (.int j)) Q := g_mul h.1 h.2
theorem x_div {i j : Int} (h : CDivW i j ∧ Q (.v (.int (i / j)))) : EvR K gDiv M (.v (.int i)) (.v (.int j)) Q := g_div h.1 h.2
theorem x_mod {i j : Int} (h : 0 < j ∧ Q (.v (.int (i % j)))) : EvR K gMod M (.v (.int i)) (.v (.int j)) Q := g_mod h.1 h.2
theorem x_pow {i j : Int} (h : CPow i j ∧ Q (.v (.int (i ^ j.toNat)))) : EvR K gPow M (.v (.int i)) (.v (.int j)) Q := g_pow h.1 h.2
theorem x_ixT {ds : List D} {i : Int} (h : ∃ d, atI ds i = some d ∧ Q (.v d)) : EvR K (rIx K) M (.v (.tup ds)) (.v (.int i)) Q := let ⟨_, a, b⟩ := h; g_ixT a b
theorem x_ixL {ds : List D} {i : Int} (h : ∃ d, atI ds i = some d ∧ Q (.v d)) : EvR K (rIx K) M (.v (.lst ds)) (.v (.int i)) Q := let ⟨_, a, b⟩ := h; g_ixL .v a b
theorem x_ixM {k : Nat} {i : Int} (h : ∃ ds, M[k]? = some (.lst ds) ∧ ∃ d, atI ds i = some d ∧ Q (.v d)) : EvR K (rIx K) M (.l k) (.v (.int i)) Q := let ⟨_, z, _, a, b⟩ := h; g_ixL (.l z) a b
theorem x_lenL {ds : List D} (q : Q (.v (.int (ds.length : Int)))) : EvC K (rLen K) M [.v (.lst ds)] Q := ec_len (.l .v) q
theorem x_lenT {ds : List D} (q : Q (.v (.int (ds.length : Int)))) : EvC K (rLen K) M [.v (.tup ds)] Q := ec_len .t q
theorem x_lenS {b : Bool} {ds : List D} (q : Q (.v (.int (ds.length : Int)))) : EvC K (rLen K) M [.v (D.seq b ds)] Q := ec_len .seq q
theorem x_lenM {k : Nat} (h : ∃ ds, M[k]? = some (.lst ds) ∧ Q (.v (.int (ds.length : Int)))) : EvC K (rLen K) M [.l k] Q := let ⟨_, z, b⟩ := h; ec_len (.l (.l z)) b
theorem x_tupL {ds : List D} (q : Q (.v (.tup ds))) : EvC K (rTupOf K) M [.v (.lst ds)] Q := ec_tupOf (.l .v) q
theorem x_tupM {k : Nat} (h : ∃ ds, M[k]? = some (.lst ds) ∧ Q (.v (.tup ds))) : EvC K (rTupOf K) M [.l k] Q := let ⟨_, z, b⟩ := h; ec_tupOf (.l (.l z)) b
theorem x_app {i : Nat} (h : ∃ k ds, ρ[i]? = some (some (.l k)) ∧ M[k]? = some (.lst ds) ∧ EvP K te ρ M fun s => ∃ d, s = .v d ∧ ds.length < 16777216 ∧ nx ρ (M.set k (.lst (ds ++ [d])))) :
    RunD K e (tDrop (tBM K "list" rAppend (tVar i) (tCons te tNil))) ρ M nx rt bk ct := let ⟨_, _, a, b, c⟩ := h; r_app a b c
theorem units65 {k : Nat} {A : Around} (r : Room k A) : A.units + 65 < cLine := by have := r.un; omega
theorem r_via {t : TS} (I : Rho → List MO → Prop) (h1 : RunD K e t ρ M I rt bk ct) (h2 : ∀ ρ' M', I ρ' M' → nx ρ' M') : RunD K e t ρ M nx rt bk ct := h1.mono h2 (fun _ _ h => h) (fun _ _ h => h) (fun _ _ h => h)
theorem env_intro {ρ : Rho} {l : (Nat → Option Sl) → Rho} {R : Prop} (h : ρ = l (fun i => ρ.getD i none)) (r : R) : ∃ o, ρ = l o ∧ R := ⟨_, h, r⟩
theorem ite_dec {c A B : Prop} [Decidable c] (h1 : c → A) (h2 : ¬ c → B) : if decide c = true then A else B := by
  by_cases h : c
  · rw [if_pos (decide_eq_true h)]; exact h1 h
  · rw [if_neg (by simpa using h)]; exact h2 h
theorem ite_ndec {c A B : Prop} [Decidable c] (h1 : ¬ c → A) (h2 : c → B) : if (!decide c) = true then A else B := by
  by_cases h : c
  · rw [if_neg (by simpa using h)]; exact h2 h
  · rw [if_pos (by simpa using h)]; exact h1 h
theorem ite_b {b : Bool} {A B : Prop} (h1 : b = true → A) (h2 : b = false → B) : if b = true then A else B := by
  cases b with
  | true => rw [if_pos rfl]; exact h1 rfl
  | false => rw [if_neg (by simp)]; exact h2 rfl
theorem le_lit {n m : Nat} (h : Nat.ble n m = true) : n ≤ m := Nat.le_of_ble_eq_true h
theorem mulW {i j : Int} {a b : Nat} (ha : i.natAbs < 2 ^ a) (hb : j.natAbs < 2 ^ b) (h : a + b ≤ 999990) : CMulW i j :=
  wide_mul (a := a + 1) (b := b + 1) (Nat.lt_of_lt_of_le ha (Nat.pow_le_pow_right (by decide) (by omega))) (Nat.lt_of_lt_of_le hb (Nat.pow_le_pow_right (by decide) (by omega))) (by omega) (by omega) (by omega)
theorem divW {i j : Int} {b : Nat} (h : 0 < j) (hb : j.natAbs < 2 ^ b) (h9 : b ≤ 8990) : CDivW i j := wide_div (b := b + 1) h (Nat.lt_of_lt_of_le hb (Nat.pow_le_pow_right (by decide) (by omega))) (by omega) (by omega)
theorem mul_lt {i j : Int} {a b : Nat} (ha : i.natAbs < 2 ^ a) (hb : j.natAbs < 2 ^ b) : (i * j).natAbs < 2 ^ (a + b) := wide_lt ha hb
theorem bit_le {i : Int} {a b : Nat} (ha : i.natAbs < 2 ^ a) (h : a ≤ b) : i.natAbs < 2 ^ b := Nat.lt_of_lt_of_le ha (Nat.pow_le_pow_right (by decide) h)
theorem add_lt {i j : Int} {a : Nat} (ha : i.natAbs < 2 ^ a) (hb : j.natAbs < 2 ^ a) : (i + j).natAbs < 2 ^ (a + 1) := by
  rw [Nat.pow_succ]; omega
theorem sub_lt {i j : Int} {a : Nat} (ha : i.natAbs < 2 ^ a) (hb : j.natAbs < 2 ^ a) : (i - j).natAbs < 2 ^ (a + 1) := by
  rw [Nat.pow_succ]; omega
theorem ret_v {n : Nat} {post : D → List MO → Prop} {d : D} {M' : List MO} (h : post d (M'.take n)) : RetOk n post (.v d) M' := .inl ⟨d, rfl, h⟩
end
/-- a whole number of the module's top -/
structure CInt (mg : Str → Option Value) (x : Str) (i : Int) : Prop where
  ex : ∃ t, mg x = some (.int i t)
theorem CInt.pe {X : Cx} {x : Str} {i : Int} {pos : Pos} (c : CInt X.mg x i) (hg : Gl X x) (hd : (x == ("__debug__" : Str)) = false := by decide) : PE X (.Name x pos) (tC (.int i)) := by
  obtain ⟨t, h⟩ := c.ex
  exact pe_glob hg h ⟨t, rfl⟩ hd
end DL

/-! DL7: the source of draws; new things of a call. -/
namespace DL
open PySem L2
section
variable {K : PySem.W.Frag} {e : Ent} {ρ : Rho} {M : List MO} {Q : Sl → Prop} {te ta tb : TE} {x y : Sl} {nx bk ct : Rho → List MO → Prop} {rt : Sl → List MO → Prop}
theorem Sta.add {α : Al} {F H H' : Hp} (S : Sta K α M F H) {p : Addr × Addr} {m' : MO} (s : Same H H') (h1 : H p.1 = none) (h2 : H p.2 = none) (k1 : H' p.1 ≠ none) (k2 : H' p.2 ≠ none) (hm : MObj K F H' m' p) : Sta K (α ++ [p]) (M ++ [m']) F H' := by
  have t2 : ∀ b, H b ≠ none → H' b ≠ none := fun b h => by
    cases z : H b with
    | none => exact absurd z h
    | some o => rw [s b o z]; simp
  refine ⟨S.sub.trans s, by simp [S.len], fun i m q h1 h2 => ?_, fun i j q r hij g1 g2 => ?_, fun q hq => ?_⟩
  · by_cases hi : i < α.length
    · rw [List.getElem?_append_left (by rw [S.len]; exact hi)] at h1
      rw [List.getElem?_append_left hi] at h2
      exact (S.ob i m q h1 h2).keep (.refl F) (fun z => z) (fun z => z) (fun o z => s _ o z) (fun o z => s _ o z)
    · have hi2 : i = α.length := by
        have := (List.getElem?_eq_some_iff.mp h2).1
        simp at this; omega
      subst hi2
      rw [← S.len, List.getElem?_append_right (Nat.le_refl _)] at h1
      rw [List.getElem?_append_right (Nat.le_refl _)] at h2
      simp at h1 h2
      subst h1; subst h2
      exact hm
  · have hj : j < α.length ∨ j = α.length := by
      have := (List.getElem?_eq_some_iff.mp g2).1
      simp at this; omega
    have hi : i < α.length := by omega
    rw [List.getElem?_append_left hi] at g1
    rcases hj with hj | hj
    · rw [List.getElem?_append_left hj] at g2
      exact S.ap i j q r hij g1 g2
    · subst hj
      rw [List.getElem?_append_right (Nat.le_refl _)] at g2
      simp at g2
      subst g2
      have hq := S.tr q (List.mem_of_getElem? g1)
      exact ⟨fun z => hq.1 (by rw [z]; exact h1), fun z => hq.1 (by rw [z]; exact h2), fun z => hq.2 (by rw [z]; exact h1), fun z => hq.2 (by rw [z]; exact h2)⟩
  · rcases List.mem_append.mp hq with z | z
    · exact ⟨t2 _ (S.tr q z).1, t2 _ (S.tr q z).2⟩
    · simp at z; subst z
      exact ⟨k1, k2⟩
theorem StepE.add {α : Al} {F H H' : Hp} (st : StepE e α F H) {p : Addr × Addr} (s : Same H H') (h1 : H p.1 = none) (h2 : H p.2 = none) : StepE e (α ++ [p]) F H' where
  ex := st.ex
  fr := fun b u h k => s b u (st.fr b u h k)
  tr := fun b h => by
    have := st.tr b h
    cases z : H b with
    | none => exact absurd z this
    | some o => rw [s b o z]; simp
  new := st.new
  pre := by
    obtain ⟨β, e1, hβ⟩ := st.pre
    refine ⟨β ++ [p], by rw [e1, List.append_assoc], fun q hq => ?_⟩
    rcases List.mem_append.mp hq with z | z
    · exact hβ q z
    · simp at z; subst z
      exact ⟨none_back (st.tr _) h1, none_back (st.tr _) h2⟩
/-- the making of a source of draws -/
def spMix (K : PySem.W.Frag) : Sp := fun vs H Q _ => ∃ (a : Addr) (cells : List Int) (seed : Int), vs = [.ref a, .int seed] ∧ SqL K H a (cells.map V.int) ∧ cells.length ≤ 63 ∧ 0 ≤ seed ∧ seed < 2147483647 ∧
  ∀ p H', H p.1 = none → H p.2 = none → Same H H' → Rng H' p → Q (.ref p.1) H'
theorem r_mix {i : Nat} {t : TA} {X : XK} (h : EvA K t ρ M fun ss => ∃ (cells : List Int) (seed : Int), ss = [.v (.rd (D.ints cells)), .v (.int seed)] ∧ cells.length ≤ 63 ∧ 0 ≤ seed ∧ seed < 2147483647 ∧ nx (ρ.set i (some (.l M.length))) (M ++ [.rng])) :
    RunD K e (tAsg (tCall (spMix K) [] X t) (gName i)) ρ M nx rt bk ct := fun Y σ α F H g ok =>
  h σ α F H g.env g.sta _ fun vs F1 H1 ss m1 S1 o1 ⟨cells, seed, e1, h63, s0, s1, q1⟩ => by
    subst e1
    obtain ⟨v, r, rfl, o1, o2⟩ := o1
    obtain ⟨w, r', rfl, o3, o4⟩ := o2
    have o4 : r' = [] := o4
    have o3 : w = .int seed := o3
    subst o3; subst o4
    obtain ⟨a, us, rfl, hs, hd⟩ := o1
    have e2 := hd.ofInts
    subst e2
    refine ⟨a, cells, seed, rfl, S1.sub.seq hs, h63, s0, s1, fun p H' n1 n2 s2 R => ?_⟩
    have k1 : H' p.1 ≠ none := by
      obtain ⟨_, _, _, _, z, _⟩ := R
      rw [z]; simp
    have k2 : H' p.2 ≠ none := by
      obtain ⟨_, _, _, _, _, z, _⟩ := R
      rw [z]; simp
    have S2 := S1.add (m' := .rng) s2 n1 n2 k1 k2 ⟨S1.sub.free n1, S1.sub.free n2, R⟩
    exact ok.nx _ _ F1 _ _ _ ⟨((g.env.mono m1.ex).more).set i (loc_ok (p := p) (by rw [S1.len, List.getElem?_append_right (Nat.le_refl _)]; simp)), S2, (g.st.move m1).add s2 n1 n2⟩ m1.ex q1
end
section
variable {P : Program} {w : World} {K : PySem.W.Frag} {mg : Str → Option Value} {base : Heap}
theorem fn_atR {x : Str} {st : Stmt} {ps N : List Str} {k : Nat} {sp : Sp} (D0 : DefAt K mg x st ps) (S : FnScope N ps (defScope st)) (hl : ∀ vs H Q E, sp vs H Q E → vs.length = ps.length)
    (body : ∀ (f : Addr) (cdv : Value) (A : Around) (outer : List Env) (s : Shared) (H : Hp) (E : XK), Room k (A.deeper (PyProof.Rows.envOfC x (defScope st) s.heap.objs.size f cdv)) →
      ∃ t, PSs (cxOf CX0 P w K mg base N x (defScope st) f cdv A outer s H E).nox (defBody st) t ∧ ∀ vs Q E', sp vs H Q E' → t { nx := fun _ H' => Q .non H', rt := Q } (L2.start N vs) H) :
    FnAt P w K mg base CX0 (k + 1) x ps sp := by
  obtain ⟨f, fd, F, hm, hb⟩ := D0.ex
  refine ⟨f, fd, ⟨hm, fun_look F⟩, F.kp, hb, F.ok S hl fun cdv A outer s H vs Q E hr h => ?_⟩
  obtain ⟨t, ht, hi⟩ := body f cdv A outer s H E hr
  exact ⟨t, ht, hi vs Q E h⟩
/-- a def that is never called so -/
theorem fn_never {ι : Type} {x : Str} {st : Stmt} {ps : List Str} {k : Nat} {args : ι → List D} {pre : ι → Prop} {post : ι → D → Prop} (D0 : DefAt K mg x st ps) (h : ∀ i, ¬ pre i) : FnAt P w K mg base CX0 k x ps (SpP K args pre post) := by
  obtain ⟨f, fd, F, hm, hb⟩ := D0.ex
  exact ⟨f, fd, ⟨hm, fun_look F⟩, F.kp, hb, fun vs H Q E z => (h _ z.choose_spec.choose_spec.choose_spec.2.2.1).elim, fun A outer s H args us vs Q E _ _ _ _ z => (h _ z.choose_spec.choose_spec.choose_spec.2.2.1).elim⟩
theorem def_mk {x : Str} {st : Stmt} {ps : List Str} {h : Heap} {f : Addr} {oc : Value} {od an : Option Addr} {osl : Array (Option Value)} {kV doc pm cdv ct : Value} (X : K.In h) (G : h.Ns mainGlobals mg)
    (a : PySem.W.nsIn K mainGlobals x = some (some (.ref f))) (l : K.lookup f = some ⟨oc, od, .func (PySem.W.fnOf x x (defArgs st) (defBody st) (defScope st) .none kV doc pm an cdv ct), osl⟩)
    (c : PySem.W.codeIn K cdv x = true) (k : PySem.W.keepIn K (.ref f) = true)
    (b : ∀ (kV doc pm : Value) (an : Option Addr) (cdv ct : Value) (us : List Value), us.length = ps.length → bindArgs (PySem.W.fnOf x x (defArgs st) (defBody st) (defScope st) .none kV doc pm an cdv ct) ⟨us, []⟩ = pure (ps.zip us)) : DefAt K mg x st ps :=
  ⟨f, _, fun_mk l c k, PySem.W.mg_of X G a, fun _ us hl => .of_eq (b _ _ _ _ _ _ us hl)⟩
/-- the law's def, for the end of a row -/
theorem law_end {x y : Str} {k : Nat} {sp : Sp} {fa : Addr} (h : ∀ base : Heap, K.In base → base.Ns mainGlobals mg → FnAt P w K mg base CX0 k x [y] sp) {g : Heap} (X : K.In g) (G : g.Ns mainGlobals mg) (hm : mg x = some (.ref fa)) :
    ∃ fd : FuncData, (∀ (s : Shared) (u : Value), BindsTo s fd ⟨[u], []⟩ [(y, u)]) ∧ ∀ base : Heap, K.In base → base.Ns mainGlobals mg → FnOk P w K mg base CX0 k fa fd [y] sp := by
  obtain ⟨f, fd, ⟨hf, oc, od, osl, lk⟩, _, hb, _⟩ := h g X G
  rw [hm] at hf
  cases hf
  refine ⟨fd, fun s u => hb s [u] rfl, fun base X' G' => ?_⟩
  obtain ⟨f', fd', ⟨hf', oc', od', osl', lk'⟩, _, _, F⟩ := h base X' G'
  rw [hm] at hf'
  cases hf'
  rw [lk] at lk'
  cases lk'
  exact F
end
end DL

/-! DL8: kinds of things; classes. -/
namespace DL
open PySem L2
section
variable {K : PySem.W.Frag} {e : Ent} {ρ : Rho} {M : List MO} {Q : Sl → Prop} {te ta tb : TE} {x y : Sl} {nx bk ct : Rho → List MO → Prop} {rt : Sl → List MO → Prop}
/-- a class of the text whose instances are told apart by isinstance -/
structure ClsI (K : PySem.W.Frag) (C : Addr) : Prop where
  cl : Cls K C
  ha : PySem.W.findIn K (.ref C) "__class__" = some (some (.builtin "object.__class__"))
  hn : PySem.W.specialIn K (.builtin "object.__class__") "__get__" = some (some (.builtin "getset_descriptor.__get__"))
  htk : PySem.W.takesIn K (.builtin "object.__class__") = some true
  hm : PySem.W.mroIn K C (.type "object") = some true
/-- the kind of a thing -/
inductive Kind (K : PySem.W.Frag) : D → Value → Prop
  | non : Kind K .non (.type "NoneType")
  | bl (b : Bool) : Kind K (.bl b) (.type "bool")
  | int (i : Int) : Kind K (.int i) (.type "int")
  | str (s : Str) : Kind K (.str s) (.type "str")
  | tup (ds : List D) : Kind K (.tup ds) (.type "tuple")
  | lst (ds : List D) : Kind K (.lst ds) (.type "list")
  | dic (ks : List Key) (ds : List D) : Kind K (.dic ks ds) (.type "dict")
  | ins (C : Addr) (ns : List Str) (ds : List D) (c : ClsI K C) : Kind K (.ins C ns ds) (.ref C)
theorem Kind.ty {α : Al} {F H : Hp} {d : D} {t : Value} {v : V} (k : Kind K d t) (S : Sta K α M F H) (o : SlOk K α F (.v d) v) : TyX K H v t := by
  cases k with
  | non =>
    have o : v = .non := o
    subst o; exact .base .non
  | bl b =>
    have o : v = .bl b := o
    subst o; exact .base (.bl b)
  | int b =>
    have o : v = .int b := o
    subst o; exact .base (.int b)
  | str b =>
    have o : v = .str b := o
    subst o; exact .base (.str b)
  | tup ds =>
    obtain ⟨a, vs, rfl, h1, _⟩ := o
    rcases sqt_same K S.sub h1 with (h | ⟨ob, h⟩) | ⟨ob, its, n, h, c, _⟩
    · exact .base (.tup h)
    · exact .fTuple h
    · exact .kTuple h c
  | lst ds =>
    obtain ⟨a, vs, rfl, h1, _⟩ := o
    exact .base (.lst (S.sub _ _ h1))
  | dic ks ds =>
    obtain ⟨a, vs, rfl, h1, _⟩ := o
    exact .base (.dK (S.sub _ _ h1))
  | ins C ns ds c =>
    obtain ⟨a, dx, vs, rfl, h1, _⟩ := o
    exact .base (.ins (S.sub _ _ h1) c.cl c.ha c.hn c.htk c.hm)
theorem sls2s {α : Al} {F : Hp} {s s' : Sl} {us : List V} (o : SlsOk K α F [s, s'] us) : ∃ u u', us = [u, u'] ∧ SlOk K α F s u ∧ SlOk K α F s' u' := by
  obtain ⟨v, r, rfl, o1, o2⟩ := o
  obtain ⟨u, rfl, o3⟩ := sls1s o2
  exact ⟨v, u, rfl, o1, o3⟩
theorem ec_isi {d : D} {t : Value} {T : String} {b : Bool} (k : Kind K d t) (h : PySem.W.kitOne K t (.type T) = some b) (q : Q (.v (.bl b))) : EvC K (rIsi K) M [.v d, .v (.raw (.ty T))] Q := fun α F H us S o kk0 kk => by
  obtain ⟨u, u', rfl, o1, o2⟩ := sls2s o
  have o2 : u' = .ty T := o2
  subst o2
  exact ⟨u, _, t, _, b, rfl, .ty T, k.ty S o1, h, kk _ F H _ .refl S raw_ok q⟩
theorem ec_isiC {d : D} {t : Value} {C : Addr} {b : Bool} (k : Kind K d t) (h : PySem.W.kitOne K t (.ref C) = some b) (q : Q (.v (.bl b))) : EvC K (rIsi K) M [.v d, .v (.raw (.ref C))] Q := fun α F H us S o kk0 kk => by
  obtain ⟨u, u', rfl, o1, o2⟩ := sls2s o
  have o2 : u' = .ref C := o2
  subst o2
  exact ⟨u, _, t, _, b, rfl, .own C, k.ty S o1, h, kk _ F H _ .refl S raw_ok q⟩
/-- what a class's attributes read through a property -/
theorem ev_prop {f : Str} {C : Addr} {ns : List Str} {ds : List D} {i : Nat} {d : D} {X : XK} (hi : (ns.findIdx? (· == f)) = some i) (hd : ds[i]? = some d) (h : EvP K te ρ M fun s => s = .v (.ins C ns ds) ∧ Q (.v d)) : EvP K (tProp C (getSp C f) [] X te) ρ M Q := fun σ α F H en S k kk =>
  h σ α F H en S _ fun v F1 H1 s m1 S1 o1 ⟨e1, q⟩ => by
    subst e1
    obtain ⟨a, dx, vs, rfl, h1, h2, h3⟩ := o1
    obtain ⟨w, hw, r⟩ := h3.get hd
    exact ⟨a, dx, _, rfl, S1.sub _ _ h1, a, dx, _, w, rfl, S1.sub _ _ h1, lookup_zip hi hw, kk w F1 H1 _ m1 S1 (den_ok r) q⟩
/-- a method of the class: its def, plain -/
structure MethAt (K : PySem.W.Frag) (C : Addr) (x qual : Str) (st : Stmt) (ps : List Str) : Prop where
  ex : ∃ f fd, Fun K x qual st f fd ∧ PySem.W.findIn K (.ref C) x = some (some (.ref f)) ∧ PySem.W.isFn K (.ref f) = true ∧ Binds K fd ps []
structure PropAt (K : PySem.W.Frag) (C : Addr) (x f qual : Str) (st : Stmt) : Prop where
  ex : ∃ p g fd, PropOf K C x p g ∧ Fun K x qual st g fd ∧ Binds K fd ["self"] []
end
section
variable {X : Cx} {e : Expr} {es : List Expr} {t : TA} {p pos : Pos} {ta : TE}
theorem pe_isi {K : PySem.W.Frag} {e2 : Expr} (b : X.mg "isinstance" = none) (hg : Gl X "isinstance") (ha : PA X [e, e2] t) (he : starEach [e, e2] X.env = (false, eval e X.env) :: starEach [e2] X.env := by rfl) (hpl : (backTo pos (starEach [e2] X.env)).any (·.1) = false := by rfl) (hK : X.K = K := by rfl) : PE X (.Call (.Name "isinstance" p) [e, e2] [] pos) (tCB (rIsi K) t) := by
  subst hK
  exact pe_callB call_isi hg b PyProof.Rows.boot_isinstance ha (by decide) (by decide) he hpl
theorem pe_cls {x : Str} {C : Addr} (hm : X.mg x = some (.ref C)) (hg : Gl X x) (hd : (x == ("__debug__" : Str)) = false := by decide) : PE X (.Name x pos) (tC (.ref C)) := pe_glob hg hm rfl hd
theorem pe_at {K : PySem.W.Frag} {f : Str} (he : PE X e ta) (hb : attributeBase e f X.env (eval e X.env) = eval e X.env := by rfl) (hK : X.K = K := by rfl) : PE X (.Attribute e f pos) (tFld K ta f) := by
  subst hK
  exact pe_fld he hb
/-- a property whose getter hands back the attribute of that name -/
structure Getter (K : PySem.W.Frag) (C : Addr) (x f : Str) : Prop where
  ok : ∀ (P : Program) (w : World) (mg : Str → Option Value) (base : Heap), ∃ p g fd, PropOf K C x p g ∧ FnOk P w K mg base CX0 1 g fd ["self"] (getSp C f) ∧ Binds K fd ["self"] []
theorem pe_get {x f : Str} {C : Addr} (G : Getter X.K C x f) (c : Cls X.K C) (hr : Room 2 X.A) (he : PE X e ta) (hab : attributeBase e x X.env (eval e X.env) = eval e X.env := by rfl) : PE X (.Attribute e x pos) (tProp C (getSp C f) [] E0 ta) := by
  obtain ⟨p, g, fd, hp, F, hb⟩ := G.ok X.prog X.w X.mg X.base
  exact pe_prop he c hp F hr hb .nil pass0 hab
end
section
variable {K : PySem.W.Frag} {C : Addr} {x f : Str}
/-- the getter: def x(self): return self.f -/
theorem getter_mk {p g : Addr} {fd : FuncData} {qual : Str} {st : Stmt} {p1 p2 p3 : Pos} (hp : PropOf K C x p g) (F : Fun K x qual st g fd) (S : FnScope ["self"] ["self"] (defScope st)) (hb : defBody st = [.Return (some (.Attribute (.Name "self" p1) f p2)) p3]) (bd : Binds K fd ["self"] []) (c : Cls K C) (n : NoAttr K C f) : Getter K C x f := by
  refine ⟨fun P w mg base => ⟨p, g, fd, hp, F.ok S (fun vs H Q E h => ?_) (fun cdv A outer s H vs Q E hr h => ?_), bd⟩⟩
  · obtain ⟨a, dx, fs, v, e, _⟩ := h
    rw [e]; rfl
  · obtain ⟨a, dx, fs, v, e, ea, l, q⟩ := h
    subst e
    rw [hb]
    refine ⟨_, pss_one (ps_ret (pe_fld (pe_var (i := 0) rfl ((S.par "self" (List.Mem.head _)).elim (fun z => .inl z) (fun z => .inr (.inl z)))) rfl)), ?_⟩
    exact ⟨.ref a, rfl, a, C, dx, fs, v, rfl, ea, c, n, l, q⟩
theorem meth_mk {qual : Str} {st : Stmt} {ps : List Str} {f : Addr} {oc : Value} {od an : Option Addr} {osl : Array (Option Value)} {kV doc pm cdv ct : Value}
    (a : PySem.W.findIn K (.ref C) x = some (some (.ref f))) (i : PySem.W.isFn K (.ref f) = true) (l : K.lookup f = some ⟨oc, od, .func (PySem.W.fnOf x qual (defArgs st) (defBody st) (defScope st) .none kV doc pm an cdv ct), osl⟩)
    (c : PySem.W.codeIn K cdv qual = true) (k : PySem.W.keepIn K (.ref f) = true)
    (b : ∀ (kV doc pm : Value) (an : Option Addr) (cdv ct : Value) (us : List Value), us.length = ps.length → bindArgs (PySem.W.fnOf x qual (defArgs st) (defBody st) (defScope st) .none kV doc pm an cdv ct) ⟨us, []⟩ = pure (ps.zip us)) : MethAt K C x qual st ps :=
  ⟨f, _, fun_mk l c k, a, i, (fun_mk (st := st) l c k).binds b⟩
theorem prop_mk {qual : Str} {st : Stmt} {p g : Addr} {rest : List Value} {oc : Value} {od an : Option Addr} {osl : Array (Option Value)} {kV doc pm cdv ct : Value} {p1 p2 p3 : Pos}
    (h1 : PySem.W.findIn K (.ref C) x = some (some (.ref p))) (h2 : PySem.W.specialIn K (.ref p) "__get__" = some (some (.builtin "property.__get__"))) (h3 : PySem.W.takesIn K (.ref p) = some true) (h4 : PySem.W.recIn K p "property" = some (.ref g :: rest))
    (l : K.lookup g = some ⟨oc, od, .func (PySem.W.fnOf x qual (defArgs st) (defBody st) (defScope st) .none kV doc pm an cdv ct), osl⟩) (c : PySem.W.codeIn K cdv qual = true) (k : PySem.W.keepIn K (.ref g) = true)
    (S : FnScope ["self"] ["self"] (defScope st)) (hb : defBody st = [.Return (some (.Attribute (.Name "self" p1) f p2)) p3])
    (b : ∀ (kV doc pm : Value) (an : Option Addr) (cdv ct : Value) (us : List Value), us.length = 1 → bindArgs (PySem.W.fnOf x qual (defArgs st) (defBody st) (defScope st) .none kV doc pm an cdv ct) ⟨us, []⟩ = pure ([("self" : Str)].zip us)) (cl : Cls K C) (n : NoAttr K C f) : Getter K C x f :=
  getter_mk ⟨h1, h2, h3, ⟨rest, h4⟩⟩ (fun_mk l c k) S hb ((fun_mk (st := st) l c k).binds b) cl n
end
/-! ### the making of an object -/
section
variable {P : Program} {w : World} {K : PySem.W.Frag} {mg : Str → Option Value} {base : Heap}
/-- a class whose __init__ takes plain data and leaves an object of plain data -/
def SpI {ι : Type} (K : PySem.W.Frag) (C : Addr) (args : ι → List D) (pre : ι → Prop) (ns : List Str) (post : ι → List D → Prop) : Sp := fun vs H Q _ =>
  ∃ (x : ι) (a dx : Addr) (F : Hp) (us : List V), vs = .ref a :: us ∧ Dens K F (args x) us ∧ Same F H ∧ F a = none ∧ F dx = none ∧ a ≠ dx ∧ H a = some (.ins C dx []) ∧ pre x ∧
    ∀ F' H' ds, Same F F' → Same F' H' → (∀ b o, H b = some o → b ≠ a → H' b = some o) → (∀ b, F' b ≠ none → F b ≠ none ∨ H b = none ∨ b = a) → Den K F' (.ins C ns ds) (.ref a) → post x ds → Q .non H'
structure MkAt (P : Program) (w : World) (K : PySem.W.Frag) (mg : Str → Option Value) (base : Heap) (k : Nat) (x : Str) (C : Addr) (ps : List Str) (sp : Sp) : Prop where
  ex : ∃ f fd, mg x = some (.ref C) ∧ Mk K C f ∧ Binds K fd ps [] ∧ FnOk P w K mg base CX0 k f fd ps sp
theorem pe_new {X : Cx} {x : Str} {C : Addr} {k : Nat} {ps : List Str} {sp : Sp} {e : Expr} {es : List Expr} {t : TA} {p pos : Pos} (F : MkAt X.prog X.w X.K X.mg X.base k x C ps sp) (hr : Room (k + 1) X.A) (hg : Gl X x) (ha : PA X (e :: es) t) (hdb : (x == ("__debug__" : Str)) = false := by decide)
    (he : starEach (e :: es) X.env = (false, eval e X.env) :: starEach es X.env := by rfl) (hpl : (backTo pos (starEach es X.env)).any (·.1) = false := by rfl) : PE X (.Call (.Name x p) (e :: es) [] pos) (tMake C sp [] E0 t) := by
  obtain ⟨f, fd, hm, hM, hb, F⟩ := F.ex
  exact pe_make hM F hr hg hm hb .nil pass0 ha hdb he hpl
theorem ec_new {ι : Type} {C : Addr} {args : ι → List D} {pre : ι → Prop} {ns : List Str} {post : ι → List D → Prop} {ta : TA} {X : XK} {ρ : Rho} {M : List MO} {Q : Sl → Prop} (h : EvA K ta ρ M fun ss => ∃ x, ss = (args x).map Sl.v ∧ pre x ∧ ∀ ds, post x ds → Q (.v (.ins C ns ds))) : EvP K (tMake C (SpI K C args pre ns post) [] X ta) ρ M Q := fun σ α F H en S k kk =>
  h σ α F H en S _ fun vs F1 H1 ss m1 S1 o1 ⟨x, e1, hp, q⟩ => by
    subst e1
    intro a dx ha hdx hne
    have hd := o1.dens
    have n1 := S1.notin ha
    have n2 := S1.notin hdx
    have s1 : Same H1 (upd (upd H1 dx (.own a)) a (.ins C dx [])) := fun b o z => by
      rw [upd_ne (ne_of_none z ha), upd_ne (ne_of_none z hdx)]; exact z
    refine ⟨x, a, dx, F1, vs, by rw [List.append_nil], hd, S1.sub.trans s1, S1.sub.free ha, S1.sub.free hdx, Ne.symm hne, upd_same, hp, fun F' H' ds f1 f2 fr nw hden hpost => ⟨rfl, ?_⟩⟩
    have fr1 : ∀ b o, H1 b = some o → H' b = some o := fun b o z => fr b o (s1 b o z) (ne_of_none z ha)
    have mv : Move [] F1 H1 F' H' := ⟨f1, fun b o z _ => fr1 b o z, fun b z => by
      cases y : H1 b with
      | none => exact absurd y z
      | some o => rw [fr1 b o y]; simp, fun b z => by
      rcases nw b z with y | y | y
      · exact .inl y
      · refine .inr ?_
        cases w : H1 b with
        | none => rfl
        | some o => rw [s1 b o w] at y; cases y
      · subst y; exact .inr ha⟩
    exact kk _ F' H' _ (m1.trans (mv.widen fun _ h => by simp at h)) (S1.keep0 mv f2) (den_ok hden) (q ds hpost)
/-- from the body of __init__: self is the 0-th thing -/
theorem init_run {ι : Type} {C : Addr} {args : ι → List D} {pre : ι → Prop} {ns : List Str} {post : ι → List D → Prop} {N : List Str} {t : TS}
    (h : ∀ x e, pre x → e.α.length = 1 → RunD K e t (startR N.length (.l 0 :: (args x).map Sl.v)) [.ins C [] []] (fun _ M' => ∃ ds, M'[0]? = some (.ins C ns ds) ∧ post x ds) (fun s M' => s = .v .non ∧ ∃ ds, M'[0]? = some (.ins C ns ds) ∧ post x ds) (fun _ _ => False) (fun _ _ => False)) :
    ∀ vs H Q E, SpI K C args pre ns post vs H Q E → t { nx := fun _ H' => Q .non H', rt := Q } (L2.start N vs) H := by
  rintro vs H Q E ⟨x, a, dx, F, us, rfl, hd, sub, ha, hdx, hne, hH, hp, k⟩
  have S : Sta K [(a, a)] [.ins C [] []] F H := by
    refine ⟨sub, rfl, fun i m p h1 h2 => ?_, fun i j p q hij h1 h2 => ?_, fun p hq => ?_⟩
    · cases i with
      | zero =>
        simp at h1 h2
        subst h1; subst h2
        exact ⟨ha, dx, [], hH, rfl, rfl⟩
      | succ i => simp at h1
    · cases j with
      | zero => omega
      | succ j => simp at h2
    · simp at hq; subst hq
      rw [hH]; simp
  have fin : ∀ {α' : Al} {F' H' : Hp} {M' : List MO}, Sta K α' M' F' H' → StepE ⟨[(a, a)], F, H⟩ α' F' H' → (∃ ds, M'[0]? = some (.ins C ns ds) ∧ post x ds) → Q .non H' := fun {α' F' H' M'} S' st ⟨ds, hM, hpost⟩ => by
    obtain ⟨β, e1, _⟩ := st.pre
    have e1 : α' = [(a, a)] ++ β := e1
    have h0 : α'[0]? = some (a, a) := by rw [e1]; rfl
    obtain ⟨hFa, dx', vs', hH', hl, hden⟩ := S'.ob 0 _ _ hM h0
    have hFa : F' a = none := hFa
    have hH' : H' a = some (.ins C dx' (ns.zip vs')) := hH'
    have s5 : Same F' (upd F' a (.ins C dx' (ns.zip vs'))) := fun b u h => by rw [upd_ne (ne_of_none h hFa)]; exact h
    refine k (upd F' a (.ins C dx' (ns.zip vs'))) H' ds (st.ex.trans s5) (fun b o z => ?_) (fun b o z hb => st.fr b o z fun p hp => ?_) (fun b z => ?_) ⟨a, dx', vs', rfl, upd_same, hl, Dens.mono K s5 _ _ hden⟩ hpost
    · by_cases e : b = a
      · subst e; rw [upd_same] at z; cases z; exact hH'
      · rw [upd_ne e] at z; exact S'.sub b o z
    · have hp : p ∈ [(a, a)] := hp
      simp at hp; subst hp; exact ⟨hb, hb⟩
    · by_cases e : b = a
      · exact .inr (.inr e)
      · rw [upd_ne e] at z
        rcases st.new b z with y | y
        · exact .inl y
        · exact .inr (.inl y)
  have ho : SlsOk K [(a, a)] F (.l 0 :: (args x).map Sl.v) (.ref a :: us) := by
    refine ⟨_, us, rfl, ⟨(a, a), rfl, rfl⟩, ?_⟩
    have : ∀ {ds : List D} {us : List V}, Dens K F ds us → SlsOk K [(a, a)] F (ds.map Sl.v) us := by
      intro ds
      induction ds with
      | nil => intro us h; exact h
      | cons d ds ih =>
        intro us h
        obtain ⟨v, r, rfl, h2, h3⟩ := h
        exact ⟨v, r, rfl, h2, ih h3⟩
    exact this hd
  refine h x ⟨[(a, a)], F, H⟩ hp rfl _ _ _ F H ⟨env_start ho, S, .refl⟩ ⟨fun σ' α' F' H' ρ' M' g _ q => fin g.sta g.st q, fun v s α' F' H' M' o S' st _ ⟨e1, q⟩ => ?_, fun _ _ _ _ _ _ _ _ q => q.elim, fun _ _ _ _ _ _ _ _ q => q.elim⟩
  subst e1
  have o : v = .non := o
  subst o
  exact fin S' st q
theorem mk_at {ι : Type} {x : Str} {C f : Addr} {st : Stmt} {ps N ns : List Str} {k : Nat} {args : ι → List D} {pre : ι → Prop} {post : ι → List D → Prop} {fd : FuncData} {qual : Str} (hm : mg x = some (.ref C)) (M : Mk K C f) (F : Fun K "__init__" qual st f fd) (B : Binds K fd ps []) (S : FnScope N ps (defScope st)) (hl : ∀ i, (args i).length + 1 = ps.length)
    (body : ∀ (f : Addr) (cdv : Value) (A : Around) (outer : List Env) (s : Shared) (H : Hp) (E : XK), Room k (A.deeper (PyProof.Rows.envOfC qual (defScope st) s.heap.objs.size f cdv)) →
      ∃ t, PSs (cxOf CX0 P w K mg base N qual (defScope st) f cdv A outer s H E).nox (defBody st) t ∧
        ∀ i e, pre i → e.α.length = 1 → RunD K e t (startR N.length (.l 0 :: (args i).map Sl.v)) [.ins C [] []] (fun _ M' => ∃ ds, M'[0]? = some (.ins C ns ds) ∧ post i ds) (fun s M' => s = .v .non ∧ ∃ ds, M'[0]? = some (.ins C ns ds) ∧ post i ds) (fun _ _ => False) (fun _ _ => False)) :
    MkAt P w K mg base (k + 1) x C ps (SpI K C args pre ns post) := by
  refine ⟨f, fd, hm, M, B, F.ok S (fun vs H Q E h => ?_) fun cdv A outer s H vs Q E hr h => ?_⟩
  · obtain ⟨i, a, dx, F', us, rfl, o, _⟩ := h
    rw [← hl i, o.length]; rfl
  · obtain ⟨t, ht, hi⟩ := body f cdv A outer s H E hr
    exact ⟨t, ht, init_run hi vs H Q E h⟩
end
/-! ### attributes of the thing at slot j -/
section
variable {K : PySem.W.Frag} {e : Ent} {ρ : Rho} {M : List MO} {te : TE} {nx bk ct : Rho → List MO → Prop} {rt : Sl → List MO → Prop}
def putD (f : Str) (d : D) : List Str → List D → List Str × List D
  | n :: ns, x :: xs => if n = f then (n :: ns, d :: xs) else let (a, b) := putD f d ns xs; (n :: a, x :: b)
  | _, _ => ([f], [d])
theorem putD_ok {F : Hp} {f : Str} {d : D} {v : V} (hv : Den K F d v) : ∀ {ns : List Str} {ds : List D} {vs : List V}, ns.length = vs.length → Dens K F ds vs →
    ∃ ws, putF f v (ns.zip vs) = (putD f d ns ds).1.zip ws ∧ (putD f d ns ds).1.length = ws.length ∧ Dens K F (putD f d ns ds).2 ws
  | [], [], vs, hl, h => by
    have h : vs = [] := h
    subst h
    exact ⟨[v], rfl, rfl, Dens.cons hv Dens.nil⟩
  | [], d' :: ds, vs, hl, h => by
    obtain ⟨u, r, rfl, _⟩ := h
    simp at hl
  | n :: ns, [], vs, hl, h => by
    have h : vs = [] := h
    subst h; simp at hl
  | n :: ns, d' :: ds, vs, hl, h => by
    obtain ⟨u, r, rfl, h2, h3⟩ := h
    by_cases hn : n = f
    · refine ⟨v :: r, ?_, ?_, ?_⟩
      · simp [putF, putD, hn]
      · simp [putD, hn]; simpa using hl
      · simp only [putD, if_pos hn]; exact Dens.cons hv h3
    · obtain ⟨ws, e1, e2, e3⟩ := putD_ok (f := f) hv (ns := ns) (ds := ds) (vs := r) (by simpa using hl) h3
      refine ⟨u :: ws, ?_, ?_, ?_⟩
      · simp only [List.zip_cons_cons, putF, putD, if_neg hn, e1]
      · simp only [putD, if_neg hn, List.length_cons, e2]
      · simp only [putD, if_neg hn]; exact Dens.cons h2 e3
/-- self.f = e -/
theorem r_fld {j k : Nat} {f : Str} {C : Addr} {ns : List Str} {ds : List D} (hc : Cls K C) (hn : NoAttr K C f) (hj : ρ[j]? = some (some (.l k))) (hk : M[k]? = some (.ins C ns ds)) (hl : ns.length < 1000) (h : EvP K te ρ M fun s => ∃ d, s = .v d ∧ nx ρ (M.set k (.ins C (putD f d ns ds).1 (putD f d ns ds).2))) :
    RunD K e (sFld K (tVar j) te f) ρ M nx rt bk ct := fun X σ α F H g ok =>
  h σ α F H g.env g.sta _ fun v F1 H1 s m1 S1 o1 ⟨d, e1, q1⟩ => by
    subst e1
    obtain ⟨u, h1, p, hp, rfl⟩ := g.env.at' j _ hj
    obtain ⟨hF1, dx, vs, hvs, hlen, hd1⟩ := S1.ob k _ p hk hp
    obtain ⟨ws, w1, w2, w3⟩ := putD_ok (f := f) (d := d) (v := v) o1 hlen hd1
    refine ⟨_, h1, p.1, C, dx, _, rfl, hvs, hc, hn, by rw [List.length_zip]; omega, ?_⟩
    obtain ⟨m2, S2⟩ := S1.write (m' := .ins C (putD f d ns ds).1 (putD f d ns ds).2) (o := .ins C dx (putF f v (ns.zip vs))) hp hF1 ⟨hF1, dx, ws, by rw [w1]; exact upd_same, w2, w3⟩
    exact ok.nx _ _ F1 _ _ _ ⟨g.env.mono m1.ex, S2, (g.st.move m1).move m2⟩ m1.ex q1
end
end DL

/-! DL9: chains of comparisons, constants, further built-ins. -/
namespace DL
open PySem L2
section
variable {K : PySem.W.Frag} {e : Ent} {ρ : Rho} {M : List MO} {Q : Sl → Prop} {R : Bool → Prop} {te ta tb tc : TE} {x y : Sl} {nx bk ct : Rho → List MO → Prop} {rt : Sl → List MO → Prop}
theorem ev_chain {r r' : R2} (h : EvP K ta ρ M fun x => EvP K tb ρ M fun y => EvR K r M x y fun z => ∃ k, z = .v (.bl k) ∧ if k = true then EvP K tc ρ M (fun w => EvR K r' M y w Q) else Q (.v (.bl false))) : EvP K (tChain r r' ta tb tc) ρ M Q := fun σ α F H en S k kk =>
  h σ α F H en S _ fun u F1 H1 x m1 S1 o1 q1 => q1 σ α F1 H1 (en.mono m1.ex) S1 _ fun v F2 H2 y m2 S2 o2 q2 =>
    q2 α F2 H2 u v S2 (o1.mono m2.ex) o2 _ fun z F3 H3 s m3 S3 o3 ⟨b, e1, q3⟩ => by
      subst e1
      have o3 : z = .bl b := o3
      subst o3
      refine ⟨b, rfl, ?_⟩
      cases b with
      | true =>
        have q3 : EvP K tc ρ M (fun w => EvR K r' M y w Q) := q3
        refine iteT ?_
        exact q3 σ α F3 H3 (en.mono ((m1.trans m2).trans m3).ex) S3 _ fun w F4 H4 s4 m4 S4 o4 q4 =>
          q4 α F4 H4 v w S4 (o2.mono (m3.trans m4).ex) o4 k fun z F5 H5 s5 m5 S5 o5 q5 => kk z F5 H5 s5 ((((m1.trans m2).trans m3).trans m4).trans m5) S5 o5 q5
      | false =>
        refine iteF ?_
        exact kk _ F3 H3 _ ((m1.trans m2).trans m3) S3 raw_ok q3
end
/-- a tuple of the module's top -/
structure CTup (K : PySem.W.Frag) (mg : Str → Option Value) (x : Str) (vs : List V) : Prop where
  ex : ∃ a o its n, mg x = some (.ref a) ∧ K.lookup a = some o ∧ o.cls = .type "tuple" ∧ o.data = .seq its n ∧ its.size ≤ sizeLine ∧ Vals vs its.toList
def tCT (K : PySem.W.Frag) (vs : List V) : TE := fun _ H Q => ∀ a, (∀ F, SqT K F a vs) → Q (.ref a) H
theorem CTup.pe {X : Cx} {K : PySem.W.Frag} {x : Str} {vs : List V} {pos : Pos} (c : CTup K X.mg x vs) (hg : Gl X x) (hd : (x == ("__debug__" : Str)) = false := by decide) (hK : X.K = K := by rfl) : PE X (.Name x pos) (tCT K vs) := by
  subst hK
  obtain ⟨a, o, its, n, h, rest⟩ := c.ex
  exact ⟨fun _ _ _ H _ I q => ld_glob I hg h ⟨.ref a, H, I, rfl, q a fun F => .inr ⟨o, its, n, rest⟩⟩ hd⟩
section
variable {K : PySem.W.Frag} {ρ : Rho} {M : List MO} {Q : Sl → Prop}
theorem ev_ct {vs : List V} (q : Q (.v (.tup (vs.map D.raw)))) : EvP K (tCT K vs) ρ M Q := fun σ α F H en S k kk a h =>
  kk (.ref a) F H _ .refl S (den_ok (d := .tup (vs.map D.raw)) ⟨a, vs, rfl, h F, Dens.raws⟩) q
end
theorem pe_isiT {X : Cx} {K : PySem.W.Frag} {e e2 : Expr} {t : TA} {p pos : Pos} (b : X.mg "isinstance" = none) (hg : Gl X "isinstance") (ha : PA X [e, e2] t) (he : starEach [e, e2] X.env = (false, eval e X.env) :: starEach [e2] X.env := by rfl) (hpl : (backTo pos (starEach [e2] X.env)).any (·.1) = false := by rfl) (hK : X.K = K := by rfl) : PE X (.Call (.Name "isinstance" p) [e, e2] [] pos) (tCB (rIsiT K) t) := by
  subst hK
  exact pe_callB call_isiT hg b PyProof.Rows.boot_isinstance ha (by decide) (by decide) he hpl
theorem sl_any {X : Cx} {K : PySem.W.Frag} (hK : X.K = K := by rfl) : SlR X (fun x lo hi H Q => rSlL K x lo hi H Q ∨ rSlA K x lo hi H Q) := by
  subst hK
  exact SlR.or sl_list sl_tupA
structure InitAt (K : PySem.W.Frag) (C : Addr) (qual : Str) (st : Stmt) (ps : List Str) : Prop where
  ex : ∃ f fd, Mk K C f ∧ Fun K "__init__" qual st f fd ∧ Binds K fd ps []
/-- things of a built-in kind -/
inductive Tame : D → Prop
  | non : Tame .non
  | bl (b : Bool) : Tame (.bl b)
  | int (i : Int) : Tame (.int i)
  | str (s : Str) : Tame (.str s)
  | tup (ds : List D) : Tame (.tup ds)
  | lst (ds : List D) : Tame (.lst ds)
  | dic (ks : List Key) (ds : List D) : Tame (.dic ks ds)
def D.tyn : D → String
  | .raw .non => "NoneType"
  | .raw (.bl _) => "bool"
  | .raw (.int _) => "int"
  | .raw (.str _) => "str"
  | .tup _ => "tuple"
  | .lst _ => "list"
  | .dic _ _ => "dict"
  | _ => ""
theorem Tame.kind {K : PySem.W.Frag} {d : D} (t : Tame d) : Kind K d (.type d.tyn) := by
  cases t with
  | non => exact .non
  | bl b => exact .bl b
  | int b => exact .int b
  | str b => exact .str b
  | tup b => exact .tup b
  | lst b => exact .lst b
  | dic a b => exact .dic a b
def isIntD : D → Bool
  | .raw (.int _) => true
  | .raw (.bl _) => true
  | _ => false
def isBoolD : D → Bool
  | .raw (.bl _) => true
  | _ => false
def isTupD : D → Bool
  | .tup _ => true
  | _ => false
def isLstD : D → Bool
  | .lst _ => true
  | _ => false
def isStrD : D → Bool
  | .raw (.str _) => true
  | _ => false
section
variable {K : PySem.W.Frag} {M : List MO} {Q : Sl → Prop}
theorem kb_int {d : D} (t : Tame d) : PySem.W.kitOne K (.type d.tyn) (.type "int") = some (isIntD d) := by
  cases t with
  | non => exact kit_ty (show kitB "NoneType" "int" = some false by decide +kernel)
  | bl b => exact kit_ty (show kitB "bool" "int" = some true by decide +kernel)
  | int b => exact kit_ty (show kitB "int" "int" = some true by decide +kernel)
  | str b => exact kit_ty (show kitB "str" "int" = some false by decide +kernel)
  | tup b => exact kit_ty (show kitB "tuple" "int" = some false by decide +kernel)
  | lst b => exact kit_ty (show kitB "list" "int" = some false by decide +kernel)
  | dic p b => exact kit_ty (show kitB "dict" "int" = some false by decide +kernel)
theorem kb_bool {d : D} (t : Tame d) : PySem.W.kitOne K (.type d.tyn) (.type "bool") = some (isBoolD d) := by
  cases t with
  | non => exact kit_ty (show kitB "NoneType" "bool" = some false by decide +kernel)
  | bl b => exact kit_ty (show kitB "bool" "bool" = some true by decide +kernel)
  | int b => exact kit_ty (show kitB "int" "bool" = some false by decide +kernel)
  | str b => exact kit_ty (show kitB "str" "bool" = some false by decide +kernel)
  | tup b => exact kit_ty (show kitB "tuple" "bool" = some false by decide +kernel)
  | lst b => exact kit_ty (show kitB "list" "bool" = some false by decide +kernel)
  | dic p b => exact kit_ty (show kitB "dict" "bool" = some false by decide +kernel)
theorem kb_tup {d : D} (t : Tame d) : PySem.W.kitOne K (.type d.tyn) (.type "tuple") = some (isTupD d) := by
  cases t with
  | non => exact kit_ty (show kitB "NoneType" "tuple" = some false by decide +kernel)
  | bl b => exact kit_ty (show kitB "bool" "tuple" = some false by decide +kernel)
  | int b => exact kit_ty (show kitB "int" "tuple" = some false by decide +kernel)
  | str b => exact kit_ty (show kitB "str" "tuple" = some false by decide +kernel)
  | tup b => exact kit_ty (show kitB "tuple" "tuple" = some true by decide +kernel)
  | lst b => exact kit_ty (show kitB "list" "tuple" = some false by decide +kernel)
  | dic p b => exact kit_ty (show kitB "dict" "tuple" = some false by decide +kernel)
theorem kb_lst {d : D} (t : Tame d) : PySem.W.kitOne K (.type d.tyn) (.type "list") = some (isLstD d) := by
  cases t with
  | non => exact kit_ty (show kitB "NoneType" "list" = some false by decide +kernel)
  | bl b => exact kit_ty (show kitB "bool" "list" = some false by decide +kernel)
  | int b => exact kit_ty (show kitB "int" "list" = some false by decide +kernel)
  | str b => exact kit_ty (show kitB "str" "list" = some false by decide +kernel)
  | tup b => exact kit_ty (show kitB "tuple" "list" = some false by decide +kernel)
  | lst b => exact kit_ty (show kitB "list" "list" = some true by decide +kernel)
  | dic p b => exact kit_ty (show kitB "dict" "list" = some false by decide +kernel)
theorem kb_str {d : D} (t : Tame d) : PySem.W.kitOne K (.type d.tyn) (.type "str") = some (isStrD d) := by
  cases t with
  | non => exact kit_ty (show kitB "NoneType" "str" = some false by decide +kernel)
  | bl b => exact kit_ty (show kitB "bool" "str" = some false by decide +kernel)
  | int b => exact kit_ty (show kitB "int" "str" = some false by decide +kernel)
  | str b => exact kit_ty (show kitB "str" "str" = some true by decide +kernel)
  | tup b => exact kit_ty (show kitB "tuple" "str" = some false by decide +kernel)
  | lst b => exact kit_ty (show kitB "list" "str" = some false by decide +kernel)
  | dic p b => exact kit_ty (show kitB "dict" "str" = some false by decide +kernel)
/-- isinstance(x, (T1, T2)), the tuple written there -/
theorem ev_isiT {ρ : Rho} {ta : TE} {tc : TA} (h : EvP K ta ρ M fun s => EvA K tc ρ M fun ss => ∃ (d : D) (T1 T2 : String), s = .v d ∧ ss = [.v (.raw (.ty T1)), .v (.raw (.ty T2))] ∧ Tame d ∧ ∃ b1 b2, PySem.W.kitOne K (.type d.tyn) (.type T1) = some b1 ∧ PySem.W.kitOne K (.type d.tyn) (.type T2) = some b2 ∧ Q (.v (.bl (b1 || b2)))) :
    EvP K (tCB (rIsiT K) (tCons ta (tCons (tTup tc) tNil))) ρ M Q := fun σ α F H en S k kk =>
  h σ α F H en S _ fun u F1 H1 x m1 S1 o1 q1 => q1 σ α F1 H1 (en.mono m1.ex) S1 _ fun vs F2 H2 ss m2 S2 o2 ⟨d, T1, T2, e1, e2, tm, b1, b2, k1, k2, q⟩ => by
    subst e1; subst e2
    have e3 := sls2 o2
    subst e3
    refine ⟨by show 2 ≤ sizeLine; decide, fun p hp => ?_⟩
    obtain ⟨m3, S3⟩ := S2.laid (o := .tup [.ty T1, .ty T2]) hp
    have m12 := (m1.trans m2).trans m3
    refine ⟨u, p, [.ty T1, .ty T2], .type d.tyn, [.type T1, .type T2], b1 || b2, rfl, upd_same, .cons (.ty T1) (.cons (.ty T2) .nil), tm.kind.ty S3 (o1.mono (m2.trans m3).ex), ?_, kk _ _ _ _ m12 S3 raw_ok q⟩
    refine kitAny_cons k1 (fun e => ?_) (fun e => by rw [e]; rfl)
    rw [e, Bool.false_or]
    refine kitAny_cons k2 (fun e => ?_) (fun e => e)
    rw [e]; exact kitAny_nil
theorem ei_int {d : D} (q : Tame d ∧ Q (.v (.bl (isIntD d)))) : EvC K (rIsi K) M [.v d, .v (.raw (.ty "int"))] Q := ec_isi q.1.kind (kb_int q.1) q.2
theorem ei_bool {d : D} (q : Tame d ∧ Q (.v (.bl (isBoolD d)))) : EvC K (rIsi K) M [.v d, .v (.raw (.ty "bool"))] Q := ec_isi q.1.kind (kb_bool q.1) q.2
theorem ei_tuple {d : D} (q : Tame d ∧ Q (.v (.bl (isTupD d)))) : EvC K (rIsi K) M [.v d, .v (.raw (.ty "tuple"))] Q := ec_isi q.1.kind (kb_tup q.1) q.2
theorem ei_lst {d : D} (q : Tame d ∧ Q (.v (.bl (isLstD d)))) : EvC K (rIsi K) M [.v d, .v (.raw (.ty "list"))] Q := ec_isi q.1.kind (kb_lst q.1) q.2
theorem ei_str {d : D} (q : Tame d ∧ Q (.v (.bl (isStrD d)))) : EvC K (rIsi K) M [.v d, .v (.raw (.ty "str"))] Q := ec_isi q.1.kind (kb_str q.1) q.2
end
end DL

/-! DL10: expressions that make things that are to change; several targets; dicts. -/
namespace DL
open PySem L2
section
variable {K : PySem.W.Frag} {e : Ent} {ρ : Rho} {M : List MO} {te ta tb : TE} {nx bk ct : Rho → List MO → Prop} {rt : Sl → List MO → Prop}
def EvN (K : PySem.W.Frag) (e : Ent) (te : TE) (ρ : Rho) (M : List MO) (Q : Sl → List MO → Prop) : Prop := ∀ (σ : L2.St) (α : Al) (F H : Hp), Good K e α F H σ ρ M → ∀ k : VK,
  (∀ v α' F' H' s M', Good K e α' F' H' σ ρ M' → Same F F' → (∃ β, α' = α ++ β) → SlOk K α' F' s v → Q s M' → k v H') → te σ H k
def EvNA (K : PySem.W.Frag) (e : Ent) (ta : TA) (ρ : Rho) (M : List MO) (Q : List Sl → List MO → Prop) : Prop := ∀ (σ : L2.St) (α : Al) (F H : Hp), Good K e α F H σ ρ M → ∀ k : List V → Hp → Prop,
  (∀ vs α' F' H' ss M', Good K e α' F' H' σ ρ M' → Same F F' → (∃ β, α' = α ++ β) → SlsOk K α' F' ss vs → Q ss M' → k vs H') → ta σ H k
theorem en_ev {Q : Sl → List MO → Prop} (h : EvP K te ρ M fun s => Q s M) : EvN K e te ρ M Q := fun σ α F H g k kk =>
  h σ α F H g.env g.sta k fun v F1 H1 s m1 S1 o1 q1 => kk v α F1 H1 s M (g.move m1 S1) m1.ex ⟨[], by simp⟩ o1 q1
theorem en_newL {ta : TA} {Q : Sl → List MO → Prop} (h : EvA K ta ρ M fun ss => ∃ ds : List D, ss = ds.map Sl.v ∧ ds.length ≤ 16777216 ∧ Q (.l M.length) (M ++ [.lst ds])) : EvN K e (tLst ta) ρ M Q := fun σ α F H g k kk =>
  h σ α F H g.env g.sta _ fun vs F1 H1 ss m1 S1 o1 ⟨ds, e1, hl, q1⟩ => by
    subst e1
    have hd := o1.dens
    refine ⟨by rw [← hd.length, sizeLine_eq]; exact hl, fun p hp => ?_⟩
    have S2 := S1.more (m' := .lst ds) (o := .lst vs) hp ⟨S1.sub.free hp, vs, upd_same, hd⟩
    exact kk _ _ F1 _ _ _ ⟨(g.env.mono m1.ex).more, S2, (g.st.move m1).more hp⟩ m1.ex ⟨_, rfl⟩ (loc_ok (p := (p, p)) (sta_len S1)) q1
theorem en_newD {Q : Sl → List MO → Prop} (q : Q (.l M.length) (M ++ [.dic [] []])) : EvN K e tDNewK ρ M Q := fun σ α F H g k kk p hp => by
  have S2 := g.sta.more (m' := .dic [] []) (o := .dK []) hp ⟨g.sta.sub.free hp, [], upd_same, rfl, rfl⟩
  exact kk _ _ F _ _ _ ⟨g.env.more, S2, g.st.more hp⟩ (.refl F) ⟨_, rfl⟩ (loc_ok (p := (p, p)) (sta_len g.sta)) q
theorem SlsOk.more {α β : Al} {F : Hp} : ∀ {ss : List Sl} {vs : List V}, SlsOk K α F ss vs → SlsOk K (α ++ β) F ss vs
  | [], _, h => h
  | s :: ss, _, ⟨v, r, h1, h2, h3⟩ => ⟨v, r, h1, h2.more, SlsOk.more h3⟩
theorem ena_nil {Q : List Sl → List MO → Prop} (q : Q [] M) : EvNA K e tNil ρ M Q := fun σ α F H g k kk => kk [] α F H [] M g (.refl F) ⟨[], by simp⟩ rfl q
theorem ena_cons {tr : TA} {Q : List Sl → List MO → Prop} (h : EvN K e ta ρ M fun s M' => EvNA K e tr ρ M' fun ss M2 => Q (s :: ss) M2) : EvNA K e (tCons ta tr) ρ M Q := fun σ α F H g k kk =>
  h σ α F H g _ fun v α1 F1 H1 s M1 g1 x1 ⟨β1, b1⟩ o1 q1 => q1 σ α1 F1 H1 g1 _ fun vs α2 F2 H2 ss M2 g2 x2 ⟨β2, b2⟩ o2 q2 => by
    subst b1; subst b2
    exact kk (v :: vs) _ F2 H2 (s :: ss) M2 g2 (x1.trans x2) ⟨β1 ++ β2, by rw [List.append_assoc]⟩ ⟨v, vs, rfl, (o1.mono x2).more, o2⟩ q2
theorem r_asgN {i : Nat} (h : EvN K e te ρ M fun s M' => nx (ρ.set i (some s)) M') : RunD K e (tAsg te (gName i)) ρ M nx rt bk ct := fun X σ α F H g ok =>
  h σ α F H g _ fun v α1 F1 H1 s M1 g1 x1 _ o1 q1 => ok.nx _ α1 F1 H1 _ M1 ⟨g1.env.set i o1, g1.sta, g1.st⟩ x1 q1
theorem r_parN {i j : Nat} {ta : TA} (h : EvNA K e ta ρ M fun ss M' => ∃ a b, ss = [a, b] ∧ nx ((ρ.set i (some a)).set j (some b)) M') : RunD K e (tPar i j ta) ρ M nx rt bk ct := fun X σ α F H g ok =>
  h σ α F H g _ fun vs α1 F1 H1 ss M1 g1 x1 _ o1 ⟨a, b, e1, q1⟩ => by
    subst e1
    obtain ⟨v, r, rfl, hv, r2⟩ := o1
    obtain ⟨w, rfl, hw⟩ := sls1s r2
    exact ⟨v, w, rfl, ok.nx _ α1 F1 H1 _ M1 ⟨(g1.env.set i hv).set j hw, g1.sta, g1.st⟩ x1 q1⟩
theorem r_par3 {i j l : Nat} {ta : TA} (h : EvNA K e ta ρ M fun ss M' => ∃ a b c, ss = [a, b, c] ∧ nx (((ρ.set i (some a)).set j (some b)).set l (some c)) M') : RunD K e (tPar3 i j l ta) ρ M nx rt bk ct := fun X σ α F H g ok =>
  h σ α F H g _ fun vs α1 F1 H1 ss M1 g1 x1 _ o1 ⟨a, b, c, e1, q1⟩ => by
    subst e1
    obtain ⟨v, r, rfl, hv, r2⟩ := o1
    obtain ⟨w, r', rfl, hw, r3⟩ := r2
    obtain ⟨z, rfl, hz⟩ := sls1s r3
    exact ⟨v, w, z, rfl, ok.nx _ α1 F1 H1 _ M1 ⟨((g1.env.set i hv).set j hw).set l hz, g1.sta, g1.st⟩ x1 q1⟩
/-- a tuple of slots unpacked into names -/
def EvGn (g : TGs) (ss : List Sl) (ρ : Rho) (R : Rho → Prop) (K : PySem.W.Frag) : Prop := ∀ (σ : L2.St) (α : Al) (F H : Hp) (vs : List V), EnvOk K α F σ ρ → SlsOk K α F ss vs → ∀ k : L2.St → Hp → Prop, (∀ σ' ρ', EnvOk K α F σ' ρ' → R ρ' → k σ' H) → g vs σ H k
theorem egn_nil {R : Rho → Prop} (q : R ρ) : EvGn gNil [] ρ R K := fun σ α F H vs en o k kk => ⟨o, kk _ _ en q⟩
theorem egn_cons {i : Nat} {gs : TGs} {s : Sl} {ss : List Sl} {R : Rho → Prop} (h : EvGn gs ss (ρ.set i (some s)) R K) : EvGn (gCons (gName i) gs) (s :: ss) ρ R K := fun σ α F H vs en o k kk => by
  obtain ⟨v, r, rfl, h1, h2⟩ := o
  exact ⟨v, r, rfl, h (σ.set i (some v)) α F H r (en.set i h1) h2 k kk⟩
theorem r_tupN {n : Nat} {ta : TA} {gs : TGs} (hn : n ≤ 1000) (h : EvNA K e ta ρ M fun ss M' => ss.length = n ∧ EvGn gs ss ρ (fun ρ' => nx ρ' M') K) : RunD K e (tAsg (tTup ta) (gTup K n gs)) ρ M nx rt bk ct := fun X σ α F H g ok =>
  h σ α F H g _ fun vs α1 F1 H1 ss M1 g1 x1 _ o1 ⟨hl, q1⟩ => by
    have hv := o1.length
    refine ⟨by rw [← hv, sizeLine_eq]; omega, fun p hp => ⟨p, vs, rfl, .inl (.inl upd_same), by rw [← hv]; exact hl, ?_⟩⟩
    have hFp : F1 p = none := g1.sta.sub.free hp
    have S2 := g1.sta.extra (o := .tup vs) hFp (g1.sta.notin hp)
    refine q1 σ α1 F1 _ vs g1.env o1 _ fun σ' ρ' en' q' => ok.nx _ α1 F1 _ _ M1 ⟨en', S2, ⟨g1.st.ex, fun b o z k => ?_, fun b z => ?_, g1.st.new, g1.st.pre⟩⟩ x1 q'
    · have := g1.st.fr b o z k
      rw [upd_ne (ne_of_none this hp)]; exact this
    · have := g1.st.tr b z
      have n : b ≠ p := fun y => this (by rw [y]; exact hp)
      rw [upd_ne n]; exact this

/-! ### dicts -/
def kdGet (ks : List Key) (ds : List D) (k : Key) : Option D := ((ks.zip ds).find? fun p => decide (p.1 = k)).map (·.2)
def kdPut (ks : List Key) (ds : List D) (k : Key) (d : D) : List Key × List D := if (ks.any fun j => decide (j = k)) = true then (ks, (ks.zip ds).map fun p => if p.1 = k then d else p.2) else (ks ++ [k], ds ++ [d])
theorem kd_val {F : Hp} {k : Key} : ∀ {ks : List Key} {ds : List D} {vs : List V}, ks.length = vs.length → Dens K F ds vs → (∀ d, kdGet ks ds k = some d → ∃ v, valV (ks.zip vs) k = some v ∧ Den K F d v) ∧ (kdGet ks ds k = none → valV (ks.zip vs) k = none)
  | [], ds, vs, _, _ => ⟨fun d h => by simp [kdGet] at h, fun _ => rfl⟩
  | j :: ks, [], vs, hl, h => by
    have h : vs = [] := h
    subst h; simp at hl
  | j :: ks, d :: ds, vs, hl, h => by
    obtain ⟨v, r, rfl, h2, h3⟩ := h
    have ih := kd_val (k := k) (ks := ks) (by simpa using hl) h3
    by_cases e : j = k
    · subst e
      refine ⟨fun d' h => ?_, fun h => ?_⟩
      · simp [kdGet] at h
        subst h
        exact ⟨v, by simp [valV], h2⟩
      · simp [kdGet] at h
    · have e1 : kdGet (j :: ks) (d :: ds) k = kdGet ks ds k := by simp [kdGet, e]
      have e2 : valV ((j :: ks).zip (v :: r)) k = valV (ks.zip r) k := by simp [valV, e]
      rw [e1, e2]; exact ih
theorem kd_mapv {F : Hp} {k : Key} {d : D} {v : V} (hd : Den K F d v) : ∀ {ks : List Key} {ds : List D} {vs : List V}, ks.length = vs.length → Dens K F ds vs →
    ∃ us, ((ks.zip vs).map fun kv => if kv.1 = k then (kv.1, v) else kv) = ks.zip us ∧ ks.length = us.length ∧ Dens K F ((ks.zip ds).map fun p => if p.1 = k then d else p.2) us
  | [], ds, vs, hl, h => ⟨[], rfl, rfl, by simp [Dens]⟩
  | j :: ks, [], vs, hl, h => by
    have h : vs = [] := h
    subst h; simp at hl
  | j :: ks, c :: ds, vs, hl, h => by
    obtain ⟨w, r, rfl, h2, h3⟩ := h
    obtain ⟨us, u1, u2, u3⟩ := kd_mapv (k := k) hd (ks := ks) (by simpa using hl) h3
    by_cases e : j = k
    · exact ⟨v :: us, by simp [e]; exact u1, by simp [u2], by simp only [List.zip_cons_cons, List.map_cons, if_pos e]; exact Dens.cons hd u3⟩
    · exact ⟨w :: us, by simp [e]; exact u1, by simp [u2], by simp only [List.zip_cons_cons, List.map_cons, if_neg e]; exact Dens.cons h2 u3⟩
theorem any_zip {k : Key} : ∀ {ks : List Key} {vs : List V}, ks.length = vs.length → ((ks.zip vs).any fun kv => decide (kv.1 = k)) = ks.any fun j => decide (j = k)
  | [], [], _ => rfl
  | j :: ks, v :: vs, h => by
    rw [List.zip_cons_cons, List.any_cons, List.any_cons, any_zip (by simpa using h)]
theorem any_mem {k : Key} {ks : List Key} : (ks.any fun j => decide (j = k)) = true ↔ k ∈ ks := by
  rw [List.any_eq_true]
  constructor
  · rintro ⟨j, hj, e⟩
    have e : j = k := of_decide_eq_true e
    rw [← e]; exact hj
  · exact fun h => ⟨k, h, decide_eq_true rfl⟩
theorem kd_put {F : Hp} {k : Key} {d : D} {v : V} (hd : Den K F d v) {ks : List Key} {ds : List D} {vs : List V} (hl : ks.length = vs.length) (h : Dens K F ds vs) :
    ∃ us, putK (ks.zip vs) k v = (kdPut ks ds k d).1.zip us ∧ (kdPut ks ds k d).1.length = us.length ∧ Dens K F (kdPut ks ds k d).2 us := by
  unfold putK kdPut
  rw [any_zip hl]
  by_cases e : (ks.any fun j => decide (j = k)) = true
  · rw [if_pos e, if_pos e]
    exact kd_mapv hd hl h
  · rw [if_neg e, if_neg e]
    exact ⟨vs ++ [v], by rw [List.zip_append hl]; rfl, by simp [hl], h.append (Dens.cons hd Dens.nil)⟩
theorem kdGet_put {k j : Key} {d : D} : ∀ {ks : List Key} {ds : List D}, ks.length = ds.length → kdGet (kdPut ks ds k d).1 (kdPut ks ds k d).2 j = if j = k then some d else kdGet ks ds j := by
  intro ks ds hl
  unfold kdPut
  by_cases e : k ∈ ks
  · rw [if_pos (any_mem.mpr e)]
    show kdGet ks ((ks.zip ds).map fun p => if p.1 = k then d else p.2) j = _
    induction ks generalizing ds with
    | nil => simp at e
    | cons i ks ih =>
      cases ds with
      | nil => simp at hl
      | cons c ds =>
        simp only [List.zip_cons_cons, List.map_cons]
        by_cases hi : i = j
        · subst hi
          by_cases hk : i = k
          · simp [kdGet, hk]
          · simp [kdGet, hk]
        · have e1 : ∀ (c : D) (ds : List D), kdGet (i :: ks) (c :: ds) j = kdGet ks ds j := fun c ds => by simp [kdGet, hi]
          rw [e1, e1]
          by_cases e2 : k ∈ ks
          · exact ih (by simpa using hl) e2
          · have hik : i = k := by
              rcases List.mem_cons.mp e with z | z
              · exact z.symm
              · exact absurd z e2
            have hjk : ¬ j = k := fun z => hi (hik.trans z.symm)
            rw [if_neg hjk]
            have : (ks.zip ds).map (fun p => if p.1 = k then d else p.2) = (ks.zip ds).map (·.2) := by
              apply List.map_congr_left
              intro p hp
              have := (List.of_mem_zip (show (p.1, p.2) ∈ ks.zip ds from hp)).1
              rw [if_neg (fun z => e2 (by rw [← z]; exact this))]
            rw [this]
            have h2 : (ks.zip ds).map (·.2) = ds := by
              apply List.map_snd_zip
              simp at hl; omega
            rw [h2]
  · rw [if_neg (fun z => e (any_mem.mp z))]
    show kdGet (ks ++ [k]) (ds ++ [d]) j = _
    unfold kdGet
    rw [List.zip_append hl, List.find?_append]
    by_cases hj : j = k
    · subst hj
      have : (ks.zip ds).find? (fun p => decide (p.1 = j)) = none := by
        rw [List.find?_eq_none]
        intro p hp
        have := (List.of_mem_zip (show (p.1, p.2) ∈ ks.zip ds from hp)).1
        simpa using fun z => e (by rw [← z]; exact this)
      rw [this]; simp
    · simp [hj, Ne.symm hj]
theorem kdPut_len {ks : List Key} {ds : List D} {k : Key} {d : D} (h : ks.length = ds.length) : (kdPut ks ds k d).1.length = (kdPut ks ds k d).2.length := by
  unfold kdPut
  split
  · simp; omega
  · simp [h]
theorem kdPut_le {ks : List Key} {ds : List D} {k : Key} {d : D} : (kdPut ks ds k d).1.length ≤ ks.length + 1 := by
  unfold kdPut
  split <;> simp
/-- which dict a slot tells -/
inductive RdD (M : List MO) : Sl → List Key → List D → Prop
  | v {ks : List Key} {ds : List D} : RdD M (.v (.dic ks ds)) ks ds
  | l {k : Nat} {ks : List Key} {ds : List D} : M[k]? = some (.dic ks ds) → RdD M (.l k) ks ds
  | z {k : Nat} {d : Addr} {od : Obj} {kvs : List (Key × V)} {ks : List Key} {ds : List D} : M[k]? = some (.frz d od kvs ks ds) → RdD M (.l k) ks ds
theorem RdD.get {α : Al} {F H : Hp} {s : Sl} {ks : List Key} {ds : List D} {u : V} (h : RdD M s ks ds) (S : Sta K α M F H) (o : SlOk K α F s u) : ∃ a vs, u = .ref a ∧ Rd H a (.dK (ks.zip vs)) ∧ ks.length = vs.length ∧ Dens K F ds vs := by
  cases h with
  | v =>
    obtain ⟨a, vs, h1, h2, h3⟩ := o
    exact ⟨a, vs, h1, .inl (S.sub _ _ h2), h3⟩
  | l hk =>
    obtain ⟨p, hp, rfl⟩ := o
    obtain ⟨_, vs, h1, h2⟩ := S.ob _ _ p hk hp
    exact ⟨p.1, vs, rfl, .inl h1, h2⟩
  | z hk =>
    obtain ⟨p, hp, rfl⟩ := o
    obtain ⟨_, _, h1, vs, e, h2⟩ := S.ob _ _ p hk hp
    subst e
    exact ⟨p.1, vs, rfl, .inr ⟨_, h1⟩, h2⟩
variable {Q : Sl → Prop}
theorem ev_dget {td ty : TE} (h : EvP K td ρ M fun x => EvP K ty ρ M fun y => ∃ ks ds k d, RdD M x ks ds ∧ y = .v (.raw (kV k)) ∧ kdGet ks ds k = some d ∧ Q (.v d)) : EvP K (tDGet td ty) ρ M Q := fun σ α F H en S k kk =>
  h σ α F H en S _ fun u F1 H1 x m1 S1 o1 q1 => q1 σ α F1 H1 (en.mono m1.ex) S1 _ fun v F2 H2 y m2 S2 o2 ⟨ks, ds, k, d, hr, ey, hg, q⟩ => by
    subst ey
    have o2 : v = kV k := o2
    subst o2
    obtain ⟨a, vs, rfl, h1, h2, h3⟩ := hr.get S2 (o1.mono m2.ex)
    obtain ⟨w, hw, hd⟩ := (kd_val (k := k) h2 h3).1 d hg
    exact ⟨a, w, rfl, .inl ⟨_, k, h1, rfl, hw.symm⟩, kk w F2 H2 _ (m1.trans m2) S2 (den_ok hd) q⟩
theorem some_is {k : Key} {F : Hp} {ks : List Key} {ds : List D} {vs : List V} (h2 : ks.length = vs.length) (h3 : Dens K F ds vs) : (valV (ks.zip vs) k).isSome = (kdGet ks ds k).isSome := by
  have := kd_val (K := K) (F := F) (k := k) h2 h3
  cases e : kdGet ks ds k with
  | none => rw [this.2 e]; rfl
  | some d =>
    obtain ⟨v, hv, _⟩ := this.1 d e
    rw [hv]; rfl
theorem ev_din {td ty : TE} (h : EvP K ty ρ M fun y => EvP K td ρ M fun x => ∃ ks ds k, RdD M x ks ds ∧ y = .v (.raw (kV k)) ∧ Q (.v (.bl (kdGet ks ds k).isSome))) : EvP K (tDIn ty td) ρ M Q := fun σ α F H en S k kk =>
  h σ α F H en S _ fun u F1 H1 x m1 S1 o1 q1 => q1 σ α F1 H1 (en.mono m1.ex) S1 _ fun v F2 H2 y m2 S2 o2 ⟨ks, ds, k, hr, ey, q⟩ => by
    subst ey
    have o1 : u = kV k := o1
    subst o1
    obtain ⟨a, vs, rfl, h1, h2, h3⟩ := hr.get S2 o2
    refine ⟨a, _, rfl, .inl ⟨_, k, h1, rfl, rfl⟩, ?_⟩
    rw [some_is h2 h3]
    exact kk _ F2 H2 _ (m1.trans m2) S2 raw_ok q
theorem ev_dnotin {td ty : TE} (h : EvP K ty ρ M fun y => EvP K td ρ M fun x => ∃ ks ds k, RdD M x ks ds ∧ y = .v (.raw (kV k)) ∧ Q (.v (.bl (!(kdGet ks ds k).isSome)))) : EvP K (tDNotIn ty td) ρ M Q := fun σ α F H en S k kk =>
  h σ α F H en S _ fun u F1 H1 x m1 S1 o1 q1 => q1 σ α F1 H1 (en.mono m1.ex) S1 _ fun v F2 H2 y m2 S2 o2 ⟨ks, ds, k, hr, ey, q⟩ => by
    subst ey
    have o1 : u = kV k := o1
    subst o1
    obtain ⟨a, vs, rfl, h1, h2, h3⟩ := hr.get S2 o2
    refine ⟨a, _, rfl, .inl ⟨_, k, h1, rfl, rfl⟩, ?_⟩
    rw [some_is h2 h3]
    exact kk _ F2 H2 _ (m1.trans m2) S2 raw_ok q
theorem ev_dget2 {td ty tx : TE} (h : EvP K td ρ M fun x => EvP K ty ρ M fun y => EvP K tx ρ M fun z => ∃ ks ds k, RdD M x ks ds ∧ y = .v (.raw (kV k)) ∧ ∃ dz, z = .v dz ∧ Q (.v ((kdGet ks ds k).getD dz))) (hd : ∀ (σ : L2.St) (α : Al) (F H : Hp), EnvOk K α F σ ρ → Sta K α M F H → ∀ k : VK, (∀ v, (∃ a vs, v = .ref a ∧ ∃ ks : List Key, H a = some (.dK (ks.zip vs))) → k v H) → td σ H k) :
    True := trivial
/-- d.get(k, x), d a name -/
theorem ev_dgetN {i : Nat} {ty tx : TE} {s : Sl} {ks : List Key} {ds : List D} (hi : ρ[i]? = some (some s)) (hs : RdD M s ks ds) (h : EvP K ty ρ M fun y => EvP K tx ρ M fun z => ∃ k, y = .v (.raw (kV k)) ∧ ∃ dz, z = .v dz ∧ Q (.v ((kdGet ks ds k).getD dz))) : EvP K (tDGet2 (tVar i) ty tx) ρ M Q := fun σ α F H en S k kk => by
  obtain ⟨u, h1, h2⟩ := en.at' i s hi
  obtain ⟨a, vs, rfl, h3, _, _⟩ := hs.get S h2
  refine ⟨_, h1, a, rfl, .inl ⟨_, h3⟩, ?_⟩
  refine h σ α F H en S _ fun v F1 H1 y m1 S1 o1 q1 => q1 σ α F1 H1 (en.mono m1.ex) S1 _ fun z F2 H2 sz m2 S2 o2 ⟨k0, ey, dz, ez, q⟩ => ?_
  subst ey; subst ez
  have o1 : v = kV k0 := o1
  subst o1
  obtain ⟨a', vs', e1, h4, h5, h6⟩ := hs.get S2 (h2.mono (m1.trans m2).ex)
  cases e1
  refine ⟨_, .inl ⟨_, k0, h4, rfl, rfl⟩, ?_⟩
  have hv := kd_val (k := k0) h5 h6
  cases e : kdGet ks ds k0 with
  | none =>
    rw [hv.2 e]
    rw [e] at q
    exact kk z F2 H2 (.v dz) (m1.trans m2) S2 o2 q
  | some d =>
    obtain ⟨w, hw, hd⟩ := hv.1 d e
    rw [hw]
    rw [e] at q
    exact kk w F2 H2 (.v d) (m1.trans m2) S2 (den_ok hd) q
/-- d[k] = v, d a name -/
theorem r_dput {i kk : Nat} {ty : TE} {ks : List Key} {ds : List D} (hi : ρ[i]? = some (some (.l kk))) (hk : M[kk]? = some (.dic ks ds)) (h : EvP K te ρ M fun s => EvP K ty ρ M fun y => ∃ k d, s = .v d ∧ y = .v (.raw (kV k)) ∧ ks.length < 16777216 ∧ nx ρ (M.set kk (.dic (kdPut ks ds k d).1 (kdPut ks ds k d).2))) :
    RunD K e (sDPut (tVar i) ty te) ρ M nx rt bk ct := fun X σ α F H g ok =>
  h σ α F H g.env g.sta _ fun v F1 H1 s m1 S1 o1 q1 => by
    obtain ⟨u, h1, p, hp, rfl⟩ := g.env.at' i _ hi
    refine ⟨_, h1, q1 σ α F1 H1 (g.env.mono m1.ex) S1 _ fun w F2 H2 y m2 S2 o2 ⟨k, d, es, ey, hz, q⟩ => ?_⟩
    subst es; subst ey
    have o2 : w = kV k := o2
    subst o2
    obtain ⟨hF2, vs, hvs, hl, hd⟩ := S2.ob kk _ p hk hp
    obtain ⟨us, u1, u2, u3⟩ := kd_put (k := k) (Den.mono K m2.ex _ _ o1) hl hd
    refine ⟨p.1, _, rfl, .inl ⟨_, k, hvs, rfl, by rw [List.length_zip, sizeLine_eq]; omega, rfl⟩, ?_⟩
    obtain ⟨m3, S3⟩ := S2.write (m' := .dic (kdPut ks ds k d).1 (kdPut ks ds k d).2) (o := .dK (putK (ks.zip vs) k v)) hp hF2 ⟨hF2, us, by rw [u1]; exact upd_same, u2, u3⟩
    exact ok.nx _ _ F2 _ _ _ ⟨g.env.mono (m1.trans m2).ex, S3, (g.st.move (m1.trans m2)).move m3⟩ (m1.trans m2).ex q
end
end DL

/-! DL11: the end of a row. -/
namespace DL
open PySem L2
theorem walk_ofX {l : PySem.W.OpenLaw} {n k : Nat} {q : Program} {loose : List Str} {XP : (Str → Option Value) → Heap → Prop} {YP : World → Heap → Prop} {d : DefRec} {K : Params → PySem.W.Frag} {x : Str} {sp : PySem.W.Frag → Sp}
    (hn : l.most = some n) (hn2 : n ≤ sizeLine) (hdf : d.params.defaults = []) (hr : Room k callerA) (hY : ∀ (w : World) (h : Heap), YP w h → (K w.params).In h)
    (F : ∀ (w : World) (mg : Str → Option Value) (fa : Addr) (h : Heap), (K w.params).In h → h.Ns mainGlobals mg → XP mg h → mg d.name = some (.ref fa) →
      ∃ fd : FuncData, (∀ (s : Shared) (u : Value), BindsTo s fd ⟨[u], []⟩ [(x, u)]) ∧
        ∀ base : Heap, (K w.params).In base → base.Ns mainGlobals mg → FnOk l.prog w (K w.params) mg base CX0 k fa fd [x] (sp (K w.params)))
    (hsp : ∀ (K : PySem.W.Frag) (H : Hp) (a : Addr) (ns : List Int), ns.length ≤ n → SqL K H a (ns.map V.int) → sp K [.ref a] H (fun v _ => v = .bl true) fun _ _ _ => False) :
    PySem.W.WalkO q loose XP YP l.row.toRowW d [] (fun f vs => PySem.call f vs) := by
  refine Att.attach_call hn hdf fun w s₀ s₁ mg mb fa o pm cd doc a vs ns G Y ho hd hcd hmg hobj hints hlen hg => ?_
  have KX := hY w _ Y
  obtain ⟨fd, hb, hF⟩ := F w mg fa _ KX G.T.g G.X hmg
  exact law_call KX G.T.g G.T.b G.T.builtins G.T.nolimit hg hobj hints (Nat.le_trans hlen hn2) hr hF hb (fun H hO hS => hsp (K w.params) H a ns hlen hS) fun _ _ _ z => z
/-- the law's promise -/
abbrev SpLaw (K : PySem.W.Frag) : Sp := SpP K (fun cells : List Int => [.rd (D.ints cells)]) (fun cells => cells.length ≤ 63) (fun _ d => d = .bl true)
theorem spLaw_of {K : PySem.W.Frag} {H : Hp} {a : Addr} {ns : List Int} (h : ns.length ≤ 63) (s : SqL K H a (ns.map V.int)) : SpLaw K [.ref a] H (fun v _ => v = .bl true) fun _ _ _ => False := by
  refine ⟨ns, [], H, ⟨_, [], rfl, ⟨a, ns.map V.int, rfl, s, ?_⟩, rfl⟩, sta_nil (.refl H), h, fun v F' H' d M' _ _ o e => ?_⟩
  · have e : D.ints ns = (ns.map V.int).map D.raw := by simp [D.ints, Function.comp_def]
    rw [e]; exact Dens.raws
  · subst e; exact o
theorem loose_int {p : Program} {lv : List (Str × PySem.W.WData)} {mg : Str → Option Value} {h : Heap} {x : Str} {i : Int} (X : PySem.W.XL p lv mg h) (m : (x, PySem.W.WData.int i) ∈ lv) : CInt mg x i := by
  obtain ⟨v, h1, h2⟩ := X.2.val _ m
  cases h2
  exact ⟨_, h1⟩
theorem cint_mk {K : PySem.W.Frag} {mg : Str → Option Value} {h : Heap} {x : Str} {i : Int} {t : Tok} (X : K.In h) (G : h.Ns mainGlobals mg) (a : PySem.W.nsIn K mainGlobals x = some (some (.int i t))) : CInt mg x i :=
  ⟨⟨t, PySem.W.mg_of X G a⟩⟩
theorem def_k {K : PySem.W.Frag} {mg : Str → Option Value} {R : Prop} {x : Str} {st : Stmt} {ps : List Str} {h : Heap} {f : Addr} {oc : Value} {od an : Option Addr} {osl : Array (Option Value)} {kV doc pm cdv ct : Value} (X : K.In h) (G : h.Ns mainGlobals mg)
    (a : PySem.W.nsIn K mainGlobals x = some (some (.ref f))) (l : K.lookup f = some ⟨oc, od, .func (PySem.W.fnOf x x (defArgs st) (defBody st) (defScope st) .none kV doc pm an cdv ct), osl⟩)
    (c : PySem.W.codeIn K cdv x = true) (k : PySem.W.keepIn K (.ref f) = true)
    (b : ∀ (kV doc pm : Value) (an : Option Addr) (cdv ct : Value) (us : List Value), us.length = ps.length → bindArgs (PySem.W.fnOf x x (defArgs st) (defBody st) (defScope st) .none kV doc pm an cdv ct) ⟨us, []⟩ = pure (ps.zip us)) (z : DefAt K mg x st ps → R) : R :=
  z (def_mk X G a l c k b)
end DL

/-! DL12: enumerate and zip over lists and tuples in any mix. -/
namespace DL
open PySem L2 PyProof.Rows
/-- a list or a tuple -/
def SqB (K : PySem.W.Frag) (H : Hp) : Bool → Addr → List V → Prop
  | true, a, xs => SqT K H a xs
  | false, a, xs => SqL K H a xs
def ItB (h : Heap) : Bool → Addr → Addr → Nat → Prop
  | true, it, a, i => h.IsTupleIter it a i
  | false, it, a, i => h.IsListIter it a i
def IsB (h : Heap) : Bool → Addr → Array Value → Prop
  | true, a, its => h.IsTuple a its
  | false, a, its => h.IsList a its
def itO : Bool → Addr → Obj
  | true, a => { cls := .type "tuple_iterator", data := .fields #[.ref a, .int 0 0] }
  | false, a => { cls := .type "list_iterator", data := .fields #[.ref a, .int 0 0] }
section
variable {prog : Program} {w : World} {A : Around}
theorem draws_b (hh : A.handled = none) (it a : Addr) (hne : a ≠ it) (b : Bool) (items : Array Value) : Draws prog w A it [it, a] items.size (fun i v => items[i]? = some v) (fun i h => ItB h b it a i ∧ IsB h b a items) := by
  cases b with
  | true => exact Draws.tuple hh it a hne items
  | false => exact Draws.list hh it a hne items
theorem begins_b (b : Bool) (a : Addr) (items : Array Value) : Begins (.ref a) (itO b a) (fun h => IsB h b a items) := by
  cases b with
  | true => exact begins_tuple a items
  | false => exact begins_list a items
theorem itB_new {h : Heap} {b : Bool} {it a : Addr} (e : h.get? it = some (itO b a)) : ItB h b it a 0 := by
  cases b with
  | true => exact ⟨_, e, rfl, rfl⟩
  | false => exact ⟨_, e, rfl, rfl⟩
theorem ItB.at {h h' : Heap} {b : Bool} {it a : Addr} {i : Nat} (x : ItB h b it a i) (k : ∀ o, h.get? it = some o → h'.get? it = some o) : ItB h' b it a i := by
  cases b with
  | true => exact Heap.IsTupleIter.at x k
  | false => exact Heap.IsListIter.at x k
theorem ItB.obj {h : Heap} {b : Bool} {it a : Addr} {i : Nat} (x : ItB h b it a i) : ∃ o, h.get? it = some o ∧ ∀ v, o.data ≠ .cell v := by
  cases b with
  | true =>
    obtain ⟨o, e, _, d⟩ := x
    exact ⟨o, e, fun v q => by rw [d] at q; cases q⟩
  | false =>
    obtain ⟨o, e, _, d⟩ := x
    exact ⟨o, e, fun v q => by rw [d] at q; cases q⟩
variable {X : Cx} {pins : List (Addr × Obj)} {σ : L2.St} {H : Hp} {s : Shared} {b : Bool} {a : Addr} {xs ys : List V}
theorem inv_b (I : Inv X pins σ H s) (h : SqB X.K H b a xs) : ∃ its : List Value, Vals xs its ∧ IsB s.heap b a its.toArray ∧ xs.length ≤ sizeLine := by
  cases b with
  | true => exact I.tuple h
  | false =>
    obtain ⟨its, r, p, z⟩ := I.list h
    exact ⟨its, r, p.isList, z⟩
theorem inv_bj (I : Inv X pins σ H s) (h : SqB X.K H b a xs) (h' : SqB X.K H b a ys) : xs = ys := by
  cases b with
  | true => exact I.tuple_inj h h'
  | false => exact I.list_inj h h'
theorem inv_lt (I : Inv X pins σ H s) (h : SqB X.K H b a xs) : a < s.heap.objs.size := by
  obtain ⟨its, _, p, _⟩ := inv_b I h
  cases b with
  | true => obtain ⟨o, e, _⟩ := p; exact Heap.lt_size e
  | false => obtain ⟨o, e, _⟩ := p; exact Heap.lt_size e
end
/-- the sequence at a as it stands at each turn, the number from k on and the item in a new pair -/
def ItE (K : PySem.W.Frag) (k : Int) (b : Bool) (a : Addr) : It :=
  ⟨fun i H => ∃ xs x, SqB K H b a xs ∧ xs[i]? = some x,
    fun i H v H' => ∃ T x, v = .ref T ∧ H T = none ∧ H' = upd H T (.tup [.int (k + (i : Int)), x]) ∧ ∀ ys, SqB K H b a ys → ys[i]? = some x,
    fun i H => ∃ xs : List V, SqB K H b a xs ∧ xs.length = i⟩
theorem turn_enumB {P : Program} {w : World} {K : PySem.W.Frag} {elts : List Expr} {kk : Nat} {tpos : Pos} (k : Int) (b : Bool) (a e it : Addr) (hei : e ≠ it) (hea : e ≠ a) (hai : a ≠ it) :
    Turn P w K (.Tuple elts kk tpos) (ItE K k b a) [e, it] e (fun i h => (∃ old, IsEnum h e it (k + (i : Int)) old) ∧ ItB h b it a i) where
  mem := by simp
  obj := fun i h st c hc => by
    obtain ⟨⟨old, he⟩, hit⟩ := st
    have e' : c = e ∨ c = it := by simpa using hc
    rcases e' with z | z
    · rw [z]; exact ⟨_, he, fun v q => nomatch q⟩
    · rw [z]; exact hit.obj
  keep := fun i h h' st q => by
    obtain ⟨⟨old, he⟩, hit⟩ := st
    exact ⟨⟨old, q e (by simp) _ he⟩, hit.at fun o z => q it (by simp) o z⟩
  item := by
    intro X hP hw hK hc i pins s σ H E I hf st hg
    subst hP hw hK
    obtain ⟨⟨old, he⟩, hit⟩ := st
    obtain ⟨xs, x, hq, hx⟩ := hg
    obtain ⟨its, rv, p, hz⟩ := inv_b I hq
    obtain ⟨u, hu, ru⟩ := rv.get hx
    have hil : i < its.toArray.size := by
      have := (List.getElem?_eq_some_iff.mp hu).1
      simpa using this
    have hel : e < s.heap.objs.size := Heap.lt_size he
    have hil2 : it < s.heap.objs.size := by obtain ⟨o, q, _⟩ := hit.obj; exact Heap.lt_size q
    refine (GoesN.enumFrom (P := fun j v => its.toArray[j]? = some v) k (draws_b (A := X.A.in1) (I.ok.hd hc) it a hai b its.toArray) e hei (by simp [hei, hea]) (by simp)).goes i s
      (fun u s2 => ∃ x H', Inv X pins σ H' s2 ∧ RelV x u ∧ (ItE X.K k b a).yld i H x H' ∧ ((∃ old, IsEnum s2.heap e it (k + ((i + 1 : Nat) : Int)) old) ∧ ItB s2.heap b it a (i + 1)) ∧ ∀ c ∈ [e, it], H' c = none) E hil ⟨⟨old, he⟩, hit, p⟩ ?_
    rintro v h' tk ⟨T, t, y, rfl, hT, hy, hIs⟩ ⟨he', hit', _⟩ hkeep htk
    have hyu : y = u := by
      have : its.toArray[i]? = some u := by simpa using hu
      rw [this] at hy; cases hy; rfl
    subst hyu
    have new : ObjOk X.prog X.w (upd H T (.tup [.int (k + (i : Int)), x])) h' T (.tup [.int (k + (i : Int)), x]) :=
      ⟨by show 2 ≤ sizeLine; decide, [.int (k + (i : Int)) t, y], .cons ⟨_, rfl⟩ (.cons ru .nil), hIs⟩
    have I1 : Inv X pins σ (upd H T (.tup [.int (k + (i : Int)), x])) { s with heap := h', toks := tk } := I.turnedNew (t' := tk) (ch := [e, it]) hkeep hf hT new
    refine ⟨.ref T, _, I1, rfl, ⟨T, x, rfl, I.hok.fresh hT, rfl, fun ys hys => by rw [inv_bj I hys hq]; exact hx⟩, ⟨he', hit'⟩, fun c hcm => ?_⟩
    have hlt : c < s.heap.objs.size := by
      have e' : c = e ∨ c = it := by simpa using hcm
      rcases e' with z | z
      · rw [z]; exact hel
      · rw [z]; exact hil2
    rw [upd_ne (Nat.ne_of_lt (Nat.lt_of_lt_of_le hlt hT))]
    exact (hf c hcm).1
  done := by
    intro X hP hw hK hc i pins s σ H E I hf st hg
    subst hP hw hK
    obtain ⟨⟨old, he⟩, hit⟩ := st
    obtain ⟨xs, hq, hx⟩ := hg
    obtain ⟨its, rv, p, hz⟩ := inv_b I hq
    have hl := rv.length
    have hn : its.toArray.size = i := by simp; omega
    subst hn
    exact (GoesN.enumFrom (P := fun j v => its.toArray[j]? = some v) (elts := elts) (x1 := kk) (pos := tpos) k (draws_b (A := X.A.in1) (I.ok.hd hc) it a hai b its.toArray) e hei (by simp [hei, hea]) (by simp)).stops s
      (fun s1 => Inv X pins σ H s1) E ⟨⟨old, he⟩, hit, p⟩ fun h' tk hkeep htk => I.turnedL (t' := tk) (ch := [e, it]) hkeep hf
  self := fun A i s Q E st h => let ⟨⟨_, he⟩, _⟩ := st; wpAny_pyIter_enum he h
def iEnB2 (K : PySem.W.Frag) (ta : TA) : TI := fun σ H R => ta σ H fun vs H1 => ∃ b a xs k, vs = [.ref a, .int k] ∧ -(2 ^ 63) ≤ k ∧ k < 2 ^ 63 ∧ SqB K H1 b a xs ∧ R (ItE K k b a) H1
def iEnB (K : PySem.W.Frag) (ta : TA) : TI := fun σ H R => ta σ H fun vs H1 => ∃ b a xs, vs = [.ref a] ∧ SqB K H1 b a xs ∧ R (ItE K 0 b a) H1
set_option maxHeartbeats 1000000 in
theorem meets_enum1 {v : Value} {o : Obj} {H : Heap → Prop} (B : Begins v o H) :
    Meets (Builtin.«enumerate.__new__» ⟨[.type "enumerate", v], []⟩) (fun _ R s => H s.heap ∧
      R (.ok (.ret (.ref (s.heap.push o).objs.size))) { s with heap := (s.heap.push o).push { cls := .type "enumerate", data := .fields #[.none, .bool false, .ref s.heap.objs.size, rawInt 0, .none, .none] } }) :=
  .of_wp fun prog w A R s h => by
    obtain ⟨hp, g, d, tk, os⟩ := s; obtain ⟨h1, h⟩ := h
    have hsub := sub_enumerate
    have q1 : ∀ {A' : Around} {E : Value → Shared → Prop} {Q : Value → Shared → Prop}, Q (.ref hp.objs.size) ⟨hp.push o, g, d, tk, os⟩ → wpAny (model prog w) A' (pyIter v) Q E ⟨hp, g, d, tk, os⟩ :=
      fun q => B.iter prog w _ _ ⟨hp, g, d, tk, os⟩ _ h1 q
    wp_walk using q1
    refine wpAny_stack_any fun st => wpAny_pure ?_
    split
    · rename_i c _ _ _ _ _
      cases (c == Value.type "enumerate")
      · wp_walk using q1
        exact ⟨_, rfl, h⟩
      · wp_walk using q1
        exact ⟨_, rfl, h⟩
    · wp_walk using q1
      exact ⟨_, rfl, h⟩
section
variable {prog : Program} {w : World} {A : Around} {E : Value → Shared → Prop} {s : Shared}
theorem enum_begins1 {v : Value} {o : Obj} {H : Heap → Prop} {Q : Value → Shared → Prop} (B : Begins v o H) (h1 : H s.heap)
    (h : ∀ h', IsEnum h' (s.heap.objs.size + 1) s.heap.objs.size 0 .none → h'.get? s.heap.objs.size = some o → h'.objs.size = s.heap.objs.size + 2 →
      (∀ b o, s.heap.get? b = some o → h'.get? b = some o) → Q (.ref (s.heap.objs.size + 1)) { s with heap := h' }) :
    wpAny (model prog w) A (call (.type "enumerate") [v]) Q E s := by
  refine callType_new F.called_enumerate (by decide) (F.typeCall_enumerate_1 _) (F.newCall_enumerate_1 _) (fun obj => F.args_object_init_2 obj _) F.entry_enumerate_new (meets_enum1 B) ⟨h1, ?_⟩
  have hz : (s.heap.push o).objs.size = s.heap.objs.size + 1 := Heap.size_push ..
  show _ ∧ _
  rw [hz]
  have he : IsEnum ((s.heap.push o).push { cls := .type "enumerate", data := .fields #[.none, .bool false, .ref s.heap.objs.size, rawInt 0, .none, .none] }) (s.heap.objs.size + 1) s.heap.objs.size 0 .none := by
    have := Heap.get?_push_size (s.heap.push o) (o := { cls := .type "enumerate", data := .fields #[.none, .bool false, .ref s.heap.objs.size, rawInt 0, .none, .none] }) rfl
    rw [hz] at this; exact this
  refine ⟨⟨_, he, rfl⟩, h _ he (Heap.get?_push_of_some _ (Heap.get?_push_size _ B.free)) (by rw [Heap.size_push, hz]) fun b o x => Heap.get?_push_of_some _ (Heap.get?_push_of_some _ x)⟩
end
section
variable {X : Cx} {e e2 : Expr} {ta : TA} {p pos tpos : Pos} {elts : List Expr} {kk : Nat}
theorem pi_enB {K : PySem.W.Frag} (hg : Gl X "enumerate") (hm : X.mg "enumerate" = none) (ha : PA X [e] ta) (hs : starEach [e] X.env = [(false, eval e X.env)] := by rfl) (hK : X.K = K := by rfl) :
    PI X (.Tuple elts kk tpos) (.Call (.Name "enumerate" p) [e] [] pos) (iEnB K ta) := by
  subst hK
  refine ⟨fun pins s σ H R I h => ?_⟩
  refine Call_ (ld_blt I hg hm boot_enumerate (PyProof.Rows.callWith_type1 (thn (ha.run pos pins s σ H _ I h) fun us s1 ⟨vs, H1, I1, r1, q1⟩ => ?_) hs rfl))
  obtain ⟨b, a, xs, ex, hq, q⟩ := q1
  subst ex
  cases r1 with
  | cons r rr =>
    cases rr
    cases r
    obtain ⟨its, rv, p', hz⟩ := inv_b I1 hq
    have hal := inv_lt I1 hq
    refine enum_begins1 (begins_b b a its.toArray) p' fun h' he hit hsz hk => wpAny_pyIter_enum he ?_
    have I2 : Inv X pins σ H1 { s1 with heap := h' } := I1.kept (t' := s1.toks) hk
    have n1 : (s1.heap.objs.size + 1 : Nat) ≠ s1.heap.objs.size := Nat.succ_ne_self _
    have n2 : (s1.heap.objs.size + 1 : Nat) ≠ a := by
      have : (a : Nat) < s1.heap.objs.size := hal
      exact Nat.ne_of_gt (Nat.lt_succ_of_lt this)
    refine ⟨s1.heap.objs.size + 1, [s1.heap.objs.size + 1, s1.heap.objs.size], _, _, H1, rfl, I2, turn_enumB 0 b a (s1.heap.objs.size + 1) s1.heap.objs.size n1 n2 (Nat.ne_of_lt hal), ⟨⟨.none, he⟩, itB_new hit⟩, fun c hb => ?_, q⟩
    have e' : c = s1.heap.objs.size + 1 ∨ c = s1.heap.objs.size := by simpa using hb
    have hle : s1.heap.objs.size ≤ c := by
      rcases e' with z | z
      · rw [z]; exact Nat.le_add_right _ _
      · rw [z]; exact Nat.le_refl _
    exact I1.fpOk hle (I1.hok.fresh hle)
theorem pi_enB2 {K : PySem.W.Frag} (hg : Gl X "enumerate") (hm : X.mg "enumerate" = none) (ha : PA X [e, e2] ta) (hs : starEach [e, e2] X.env = (false, eval e X.env) :: starEach [e2] X.env := by rfl) (hpl : (backTo pos (starEach [e2] X.env)).any (·.1) = false := by rfl) (hK : X.K = K := by rfl) :
    PI X (.Tuple elts kk tpos) (.Call (.Name "enumerate" p) [e, e2] [] pos) (iEnB2 K ta) := by
  subst hK
  refine ⟨fun pins s σ H R I h => ?_⟩
  refine Call_ (ld_blt I hg hm boot_enumerate (PyProof.Rows.callWith_type1 (thn (ha.run pos pins s σ H _ I h) fun us s1 ⟨vs, H1, I1, r1, q1⟩ => ?_) hs hpl))
  obtain ⟨b, a, xs, k, ex, k0, k1, hq, q⟩ := q1
  subst ex
  cases r1 with
  | cons r rr =>
  cases rr with
  | cons r' rr =>
    cases rr
    cases r
    obtain ⟨t, rfl⟩ := r'
    obtain ⟨its, rv, p', hz⟩ := inv_b I1 hq
    have hal := inv_lt I1 hq
    refine enum_begins (begins_b b a its.toArray) p' k0 k1 fun h' he hit hsz hk => wpAny_pyIter_enum he ?_
    have I2 : Inv X pins σ H1 { s1 with heap := h' } := I1.kept (t' := s1.toks) hk
    have n1 : (s1.heap.objs.size + 1 : Nat) ≠ s1.heap.objs.size := Nat.succ_ne_self _
    have n2 : (s1.heap.objs.size + 1 : Nat) ≠ a := by
      have : (a : Nat) < s1.heap.objs.size := hal
      exact Nat.ne_of_gt (Nat.lt_succ_of_lt this)
    refine ⟨s1.heap.objs.size + 1, [s1.heap.objs.size + 1, s1.heap.objs.size], _, _, H1, rfl, I2, turn_enumB k b a (s1.heap.objs.size + 1) s1.heap.objs.size n1 n2 (Nat.ne_of_lt hal), ⟨⟨.none, by rw [show k + ((0 : Nat) : Int) = k by simp]; exact he⟩, itB_new hit⟩, fun c hb => ?_, q⟩
    have e' : c = s1.heap.objs.size + 1 ∨ c = s1.heap.objs.size := by simpa using hb
    have hle : s1.heap.objs.size ≤ c := by
      rcases e' with z | z
      · rw [z]; exact Nat.le_add_right _ _
      · rw [z]; exact Nat.le_refl _
    exact I1.fpOk hle (I1.hok.fresh hle)
end
/-! zip of two, of three -/
def ItZ2 (K : PySem.W.Frag) (b1 : Bool) (a1 : Addr) (b2 : Bool) (a2 : Addr) : It :=
  ⟨fun i H => ∃ (xs ys : List V) (x y : V), SqB K H b1 a1 xs ∧ SqB K H b2 a2 ys ∧ xs[i]? = some x ∧ ys[i]? = some y,
    fun i H v H' => ∃ T x y, v = .ref T ∧ H T = none ∧ H' = upd H T (.tup [x, y]) ∧ (∀ xs, SqB K H b1 a1 xs → xs[i]? = some x) ∧ ∀ ys, SqB K H b2 a2 ys → ys[i]? = some y,
    fun i H => ∃ xs ys : List V, SqB K H b1 a1 xs ∧ SqB K H b2 a2 ys ∧ min xs.length ys.length = i⟩
def ItZ3 (K : PySem.W.Frag) (b1 : Bool) (a1 : Addr) (b2 : Bool) (a2 : Addr) (b3 : Bool) (a3 : Addr) : It :=
  ⟨fun i H => ∃ (xs ys zs : List V) (x y z : V), SqB K H b1 a1 xs ∧ SqB K H b2 a2 ys ∧ SqB K H b3 a3 zs ∧ xs[i]? = some x ∧ ys[i]? = some y ∧ zs[i]? = some z,
    fun i H v H' => ∃ T x y z, v = .ref T ∧ H T = none ∧ H' = upd H T (.tup [x, y, z]) ∧ (∀ xs, SqB K H b1 a1 xs → xs[i]? = some x) ∧ (∀ ys, SqB K H b2 a2 ys → ys[i]? = some y) ∧ ∀ zs, SqB K H b3 a3 zs → zs[i]? = some z,
    fun i H => ∃ xs ys zs : List V, SqB K H b1 a1 xs ∧ SqB K H b2 a2 ys ∧ SqB K H b3 a3 zs ∧ min (min xs.length ys.length) zs.length = i⟩
theorem turn_z2 {P : Program} {w : World} {K : PySem.W.Frag} {elts : List Expr} {kk : Nat} {tpos : Pos} {b1 : Bool} {a1 : Addr} {b2 : Bool} {a2 z TI TO i1 i2 : Addr} (S : ZipSep2 z TI TO i1 i2 [i1, a1] [i2, a2]) (n1 : a1 ≠ i1) (n2 : a2 ≠ i2) :
    Turn P w K (.Tuple elts kk tpos) (ItZ2 K b1 a1 b2 a2) [z, TI, TO, i1, i2] z (fun i h => IsZip h z TI TO .none ∧ IsTupOf2 h TI (.ref i1) (.ref i2) ∧ (∃ c1 c2, IsTupOf2 h TO c1 c2) ∧ ItB h b1 i1 a1 i ∧ ItB h b2 i2 a2 i) where
  mem := by simp
  obj := fun i h st c hc => by
    obtain ⟨hz, hTI, ⟨c1, c2, hTO⟩, h1, h2⟩ := st
    have e' : c = z ∨ c = TI ∨ c = TO ∨ c = i1 ∨ c = i2 := by simpa using hc
    rcases e' with q | q | q | q | q
    · rw [q]; exact ⟨_, hz, fun v q => nomatch q⟩
    · rw [q]; exact ⟨_, hTI, fun v q => nomatch q⟩
    · rw [q]; exact ⟨_, hTO, fun v q => nomatch q⟩
    · rw [q]; exact h1.obj
    · rw [q]; exact h2.obj
  keep := fun i h h' st k => by
    obtain ⟨hz, hTI, ⟨c1, c2, hTO⟩, h1, h2⟩ := st
    exact ⟨k z (by simp) _ hz, k TI (by simp) _ hTI, ⟨c1, c2, k TO (by simp) _ hTO⟩, h1.at fun o q => k i1 (by simp) o q, h2.at fun o q => k i2 (by simp) o q⟩
  item := by
    intro X hP hw hK hc i pins s σ H E I hf st hg
    subst hP hw hK
    obtain ⟨hz, hTI, ⟨c1, c2, hTO⟩, h1, h2⟩ := st
    obtain ⟨xs, ys, x, y, hqx, hqy, hx, hy⟩ := hg
    obtain ⟨its, rv, p, _⟩ := inv_b I hqx
    obtain ⟨its2, rv2, p2, _⟩ := inv_b I hqy
    obtain ⟨u, hu, ru⟩ := rv.get hx
    obtain ⟨u2, hu2, ru2⟩ := rv2.get hy
    have l1 : i < its.toArray.size := by
      have := (List.getElem?_eq_some_iff.mp hu).1
      simpa using this
    have l2 : i < its2.toArray.size := by
      have := (List.getElem?_eq_some_iff.mp hu2).1
      simpa using this
    refine (GoesN.zip2 (P1 := fun j v => its.toArray[j]? = some v) (P2 := fun j v => its2.toArray[j]? = some v) S (draws_b (A := X.A.in1) (I.ok.hd hc) i1 a1 n1 b1 its.toArray) (draws_b (A := X.A.in1) (I.ok.hd hc) i2 a2 n2 b2 its2.toArray)).goes i s
      (fun u s2 => ∃ x H', Inv X pins σ H' s2 ∧ RelV x u ∧ (ItZ2 X.K b1 a1 b2 a2).yld i H x H' ∧ (IsZip s2.heap z TI TO .none ∧ IsTupOf2 s2.heap TI (.ref i1) (.ref i2) ∧ (∃ c1 c2, IsTupOf2 s2.heap TO c1 c2) ∧ ItB s2.heap b1 i1 a1 (i + 1) ∧ ItB s2.heap b2 i2 a2 (i + 1)) ∧ ∀ c ∈ [z, TI, TO, i1, i2], H' c = none) E (by omega) ⟨hz, hTI, ⟨c1, c2, hTO⟩, ⟨h1, p⟩, ⟨h2, p2⟩⟩ ?_
    rintro v h' tk ⟨T, y1, y2, rfl, hT, hy1, hy2, hIs⟩ ⟨hz', hTI', hTO', ⟨h1', _⟩, ⟨h2', _⟩⟩ hkeep htk
    have e1 : y1 = u := by
      have : its.toArray[i]? = some u := by simpa using hu
      rw [this] at hy1; cases hy1; rfl
    have e2 : y2 = u2 := by
      have : its2.toArray[i]? = some u2 := by simpa using hu2
      rw [this] at hy2; cases hy2; rfl
    subst e1; subst e2
    have new : ObjOk X.prog X.w (upd H T (.tup [x, y])) h' T (.tup [x, y]) := ⟨by show 2 ≤ sizeLine; decide, [y1, y2], .cons ru (.cons ru2 .nil), hIs⟩
    have I1 : Inv X pins σ (upd H T (.tup [x, y])) { s with heap := h', toks := tk } := I.turnedNew (t' := tk) (ch := [z, TO, i1, i2]) hkeep (fun c hm => hf c (by simp at hm ⊢; rcases hm with h | h | h | h <;> simp [h])) hT new
    refine ⟨.ref T, _, I1, rfl, ⟨T, x, y, rfl, I.hok.fresh hT, rfl, fun l hl => by rw [inv_bj I hl hqx]; exact hx, fun l hl => by rw [inv_bj I hl hqy]; exact hy⟩, ⟨hz', hTI', hTO', h1', h2'⟩, fun c hcm => ?_⟩
    have hlt : c < s.heap.objs.size := by
      have e' : c = z ∨ c = TI ∨ c = TO ∨ c = i1 ∨ c = i2 := by simpa using hcm
      rcases e' with q | q | q | q | q
      · rw [q]; exact Heap.lt_size hz
      · rw [q]; exact Heap.lt_size hTI
      · rw [q]; exact Heap.lt_size hTO
      · rw [q]; obtain ⟨o, e1, _⟩ := h1.obj; exact Heap.lt_size e1
      · rw [q]; obtain ⟨o, e1, _⟩ := h2.obj; exact Heap.lt_size e1
    rw [upd_ne (Nat.ne_of_lt (Nat.lt_of_lt_of_le hlt hT))]
    exact (hf c hcm).1
  done := by
    intro X hP hw hK hc i pins s σ H E I hf st hg
    subst hP hw hK
    obtain ⟨hz, hTI, ⟨c1, c2, hTO⟩, h1, h2⟩ := st
    obtain ⟨xs, ys, hqx, hqy, hend⟩ := hg
    obtain ⟨its, rv, p, _⟩ := inv_b I hqx
    obtain ⟨its2, rv2, p2, _⟩ := inv_b I hqy
    have l1 := rv.length
    have l2 := rv2.length
    have hn : min its.toArray.size its2.toArray.size = i := by simp; omega
    subst hn
    exact (GoesN.zip2 (P1 := fun j v => its.toArray[j]? = some v) (P2 := fun j v => its2.toArray[j]? = some v) (elts := elts) (x1 := kk) (pos := tpos) S (draws_b (A := X.A.in1) (I.ok.hd hc) i1 a1 n1 b1 its.toArray) (draws_b (A := X.A.in1) (I.ok.hd hc) i2 a2 n2 b2 its2.toArray)).stops s
      (fun s1 => Inv X pins σ H s1) E ⟨hz, hTI, ⟨c1, c2, hTO⟩, ⟨h1, p⟩, ⟨h2, p2⟩⟩ fun h' tk hkeep htk => I.turnedL (t' := tk) (ch := [z, TO, i1, i2]) hkeep (fun c hm => hf c (by simp at hm ⊢; rcases hm with h | h | h | h <;> simp [h]))
  self := fun A i s Q E st h => wpAny_pyIter_zip st.1 h
theorem turn_z3 {P : Program} {w : World} {K : PySem.W.Frag} {elts : List Expr} {kk : Nat} {tpos : Pos} {b1 : Bool} {a1 : Addr} {b2 : Bool} {a2 : Addr} {b3 : Bool} {a3 z TI TO i1 i2 i3 : Addr} (S : ZipSep3 z TI TO i1 i2 i3 [i1, a1] [i2, a2] [i3, a3]) (n1 : a1 ≠ i1) (n2 : a2 ≠ i2) (n3 : a3 ≠ i3) :
    Turn P w K (.Tuple elts kk tpos) (ItZ3 K b1 a1 b2 a2 b3 a3) [z, TI, TO, i1, i2, i3] z (fun i h => IsZip h z TI TO .none ∧ IsTupOf3 h TI (.ref i1) (.ref i2) (.ref i3) ∧ (∃ c1 c2 c3, IsTupOf3 h TO c1 c2 c3) ∧ ItB h b1 i1 a1 i ∧ ItB h b2 i2 a2 i ∧ ItB h b3 i3 a3 i) where
  mem := by simp
  obj := fun i h st c hc => by
    obtain ⟨hz, hTI, ⟨c1, c2, c3, hTO⟩, h1, h2, h3⟩ := st
    have e' : c = z ∨ c = TI ∨ c = TO ∨ c = i1 ∨ c = i2 ∨ c = i3 := by simpa using hc
    rcases e' with q | q | q | q | q | q
    · rw [q]; exact ⟨_, hz, fun v q => nomatch q⟩
    · rw [q]; exact ⟨_, hTI, fun v q => nomatch q⟩
    · rw [q]; exact ⟨_, hTO, fun v q => nomatch q⟩
    · rw [q]; exact h1.obj
    · rw [q]; exact h2.obj
    · rw [q]; exact h3.obj
  keep := fun i h h' st k => by
    obtain ⟨hz, hTI, ⟨c1, c2, c3, hTO⟩, h1, h2, h3⟩ := st
    exact ⟨k z (by simp) _ hz, k TI (by simp) _ hTI, ⟨c1, c2, c3, k TO (by simp) _ hTO⟩, h1.at fun o q => k i1 (by simp) o q, h2.at fun o q => k i2 (by simp) o q, h3.at fun o q => k i3 (by simp) o q⟩
  item := by
    intro X hP hw hK hc i pins s σ H E I hf st hg
    subst hP hw hK
    obtain ⟨hz, hTI, ⟨c1, c2, c3, hTO⟩, h1, h2, h3⟩ := st
    obtain ⟨xs, ys, ws, x, y, w0, hqx, hqy, hqw, hx, hy, hw0⟩ := hg
    obtain ⟨its, rv, p, _⟩ := inv_b I hqx
    obtain ⟨its2, rv2, p2, _⟩ := inv_b I hqy
    obtain ⟨its3, rv3, p3, _⟩ := inv_b I hqw
    obtain ⟨u, hu, ru⟩ := rv.get hx
    obtain ⟨u2, hu2, ru2⟩ := rv2.get hy
    obtain ⟨u3, hu3, ru3⟩ := rv3.get hw0
    have l1 : i < its.toArray.size := by
      have := (List.getElem?_eq_some_iff.mp hu).1
      simpa using this
    have l2 : i < its2.toArray.size := by
      have := (List.getElem?_eq_some_iff.mp hu2).1
      simpa using this
    have l3 : i < its3.toArray.size := by
      have := (List.getElem?_eq_some_iff.mp hu3).1
      simpa using this
    refine (GoesN.zip3 (P1 := fun j v => its.toArray[j]? = some v) (P2 := fun j v => its2.toArray[j]? = some v) (P3 := fun j v => its3.toArray[j]? = some v) S (draws_b (A := X.A.in1) (I.ok.hd hc) i1 a1 n1 b1 its.toArray) (draws_b (A := X.A.in1) (I.ok.hd hc) i2 a2 n2 b2 its2.toArray) (draws_b (A := X.A.in1) (I.ok.hd hc) i3 a3 n3 b3 its3.toArray)).goes i s
      (fun u s2 => ∃ x H', Inv X pins σ H' s2 ∧ RelV x u ∧ (ItZ3 X.K b1 a1 b2 a2 b3 a3).yld i H x H' ∧ (IsZip s2.heap z TI TO .none ∧ IsTupOf3 s2.heap TI (.ref i1) (.ref i2) (.ref i3) ∧ (∃ c1 c2 c3, IsTupOf3 s2.heap TO c1 c2 c3) ∧ ItB s2.heap b1 i1 a1 (i + 1) ∧ ItB s2.heap b2 i2 a2 (i + 1) ∧ ItB s2.heap b3 i3 a3 (i + 1)) ∧ ∀ c ∈ [z, TI, TO, i1, i2, i3], H' c = none) E (by omega) ⟨hz, hTI, ⟨c1, c2, c3, hTO⟩, ⟨h1, p⟩, ⟨h2, p2⟩, ⟨h3, p3⟩⟩ ?_
    rintro v h' tk ⟨T, y1, y2, y3, rfl, hT, hy1, hy2, hy3, hIs⟩ ⟨hz', hTI', hTO', ⟨h1', _⟩, ⟨h2', _⟩, ⟨h3', _⟩⟩ hkeep htk
    have e1 : y1 = u := by
      have : its.toArray[i]? = some u := by simpa using hu
      rw [this] at hy1; cases hy1; rfl
    have e2 : y2 = u2 := by
      have : its2.toArray[i]? = some u2 := by simpa using hu2
      rw [this] at hy2; cases hy2; rfl
    have e3 : y3 = u3 := by
      have : its3.toArray[i]? = some u3 := by simpa using hu3
      rw [this] at hy3; cases hy3; rfl
    subst e1; subst e2; subst e3
    have new : ObjOk X.prog X.w (upd H T (.tup [x, y, w0])) h' T (.tup [x, y, w0]) := ⟨by show 3 ≤ sizeLine; decide, [y1, y2, y3], .cons ru (.cons ru2 (.cons ru3 .nil)), hIs⟩
    have I1 : Inv X pins σ (upd H T (.tup [x, y, w0])) { s with heap := h', toks := tk } := I.turnedNew (t' := tk) (ch := [z, TO, i1, i2, i3]) hkeep (fun c hm => hf c (by simp at hm ⊢; rcases hm with h | h | h | h | h <;> simp [h])) hT new
    refine ⟨.ref T, _, I1, rfl, ⟨T, x, y, w0, rfl, I.hok.fresh hT, rfl, fun l hl => by rw [inv_bj I hl hqx]; exact hx, fun l hl => by rw [inv_bj I hl hqy]; exact hy, fun l hl => by rw [inv_bj I hl hqw]; exact hw0⟩, ⟨hz', hTI', hTO', h1', h2', h3'⟩, fun c hcm => ?_⟩
    have hlt : c < s.heap.objs.size := by
      have e' : c = z ∨ c = TI ∨ c = TO ∨ c = i1 ∨ c = i2 ∨ c = i3 := by simpa using hcm
      rcases e' with q | q | q | q | q | q
      · rw [q]; exact Heap.lt_size hz
      · rw [q]; exact Heap.lt_size hTI
      · rw [q]; exact Heap.lt_size hTO
      · rw [q]; obtain ⟨o, e1, _⟩ := h1.obj; exact Heap.lt_size e1
      · rw [q]; obtain ⟨o, e1, _⟩ := h2.obj; exact Heap.lt_size e1
      · rw [q]; obtain ⟨o, e1, _⟩ := h3.obj; exact Heap.lt_size e1
    rw [upd_ne (Nat.ne_of_lt (Nat.lt_of_lt_of_le hlt hT))]
    exact (hf c hcm).1
  done := by
    intro X hP hw hK hc i pins s σ H E I hf st hg
    subst hP hw hK
    obtain ⟨hz, hTI, ⟨c1, c2, c3, hTO⟩, h1, h2, h3⟩ := st
    obtain ⟨xs, ys, ws, hqx, hqy, hqw, hend⟩ := hg
    obtain ⟨its, rv, p, _⟩ := inv_b I hqx
    obtain ⟨its2, rv2, p2, _⟩ := inv_b I hqy
    obtain ⟨its3, rv3, p3, _⟩ := inv_b I hqw
    have l1 := rv.length
    have l2 := rv2.length
    have l3 := rv3.length
    have hn : min (min its.toArray.size its2.toArray.size) its3.toArray.size = i := by
      rw [show its.toArray.size = xs.length by simp; omega, show its2.toArray.size = ys.length by simp; omega, show its3.toArray.size = ws.length by simp; omega]; exact hend
    subst hn
    exact (GoesN.zip3 (P1 := fun j v => its.toArray[j]? = some v) (P2 := fun j v => its2.toArray[j]? = some v) (P3 := fun j v => its3.toArray[j]? = some v) (elts := elts) (x1 := kk) (pos := tpos) S (draws_b (A := X.A.in1) (I.ok.hd hc) i1 a1 n1 b1 its.toArray) (draws_b (A := X.A.in1) (I.ok.hd hc) i2 a2 n2 b2 its2.toArray) (draws_b (A := X.A.in1) (I.ok.hd hc) i3 a3 n3 b3 its3.toArray)).stops s
      (fun s1 => Inv X pins σ H s1) E ⟨hz, hTI, ⟨c1, c2, c3, hTO⟩, ⟨h1, p⟩, ⟨h2, p2⟩, ⟨h3, p3⟩⟩ fun h' tk hkeep htk => I.turnedL (t' := tk) (ch := [z, TO, i1, i2, i3]) hkeep (fun c hm => hf c (by simp at hm ⊢; rcases hm with h | h | h | h | h <;> simp [h]))
  self := fun A i s Q E st h => wpAny_pyIter_zip st.1 h
def iZ2 (K : PySem.W.Frag) (ta : TA) : TI := fun σ H R => ta σ H fun vs H1 => ∃ b1 a1 b2 a2 xs ys, vs = [.ref a1, .ref a2] ∧ SqB K H1 b1 a1 xs ∧ SqB K H1 b2 a2 ys ∧ R (ItZ2 K b1 a1 b2 a2) H1
def iZ3 (K : PySem.W.Frag) (ta : TA) : TI := fun σ H R => ta σ H fun vs H1 => ∃ b1 a1 b2 a2 b3 a3 xs ys zs, vs = [.ref a1, .ref a2, .ref a3] ∧ SqB K H1 b1 a1 xs ∧ SqB K H1 b2 a2 ys ∧ SqB K H1 b3 a3 zs ∧ R (ItZ3 K b1 a1 b2 a2 b3 a3) H1
section
variable {X : Cx} {e e2 e3 : Expr} {ta : TA} {p pos tpos : Pos} {elts : List Expr} {kk : Nat}
theorem le_add_any (n k : Nat) : n ≤ n + k := Nat.le_add_right _ _
theorem pi_zipS2 {K : PySem.W.Frag} (hg : Gl X "zip") (hm : X.mg "zip" = none) (ha : PA X [e, e2] ta) (hs : starEach [e, e2] X.env = (false, eval e X.env) :: starEach [e2] X.env := by rfl) (hpl : (backTo pos (starEach [e2] X.env)).any (·.1) = false := by rfl) (hK : X.K = K := by rfl) :
    PI X (.Tuple elts kk tpos) (.Call (.Name "zip" p) [e, e2] [] pos) (iZ2 K ta) := by
  subst hK
  refine ⟨fun pins s σ H R I h => ?_⟩
  refine Call_ (ld_blt I hg hm PyProof.Rows.boot_zip (PyProof.Rows.callWith_type1 (thn (ha.run pos pins s σ H _ I h) fun us s1 ⟨vs, H1, I1, r1, q1⟩ => ?_) hs hpl))
  obtain ⟨b1, a1, b2, a2, xs, ys, ex, hq1, hq2, q⟩ := q1
  subst ex
  cases r1 with
  | cons r rr =>
  cases rr with
  | cons r' rr =>
    cases rr
    cases r
    cases r'
    obtain ⟨its, rv, p1, _⟩ := inv_b I1 hq1
    obtain ⟨its2, rv2, p2, _⟩ := inv_b I1 hq2
    have g1 : (a1 : Nat) < s1.heap.objs.size := inv_lt I1 hq1
    have g2 : (a2 : Nat) < s1.heap.objs.size := inv_lt I1 hq2
    refine zip_begins2 (begins_b b1 a1 its.toArray) (begins_b b2 a2 its2.toArray) p1 p2 fun h' hz hTI hTO h1 h2 hsz hk => wpAny_pyIter_zip hz ?_
    have I2 : Inv X pins σ H1 { s1 with heap := h' } := I1.kept (t' := s1.toks) hk
    refine ⟨s1.heap.objs.size + 4, [s1.heap.objs.size + 4, s1.heap.objs.size + 2, s1.heap.objs.size + 3, s1.heap.objs.size, s1.heap.objs.size + 1], _, _, H1, rfl, I2,
      turn_z2 (zip_sep2 (fp1 := [a1]) (fp2 := [a2]) (fun c hc => by simp at hc; rw [hc]; exact g1) (fun c hc => by simp at hc; rw [hc]; exact g2)) (Nat.ne_of_lt g1) (Nat.ne_of_lt (Nat.lt_of_lt_of_le g2 (Nat.le_add_right _ _))), ⟨hz, hTI, ⟨_, _, hTO⟩, itB_new h1, itB_new h2⟩, fun c hcm => ?_, q⟩
    have e' : c = s1.heap.objs.size + 4 ∨ c = s1.heap.objs.size + 2 ∨ c = s1.heap.objs.size + 3 ∨ c = s1.heap.objs.size ∨ c = s1.heap.objs.size + 1 := by simpa using hcm
    have hle : s1.heap.objs.size ≤ c := by
      rcases e' with z | z | z | z | z
      · rw [z]; exact le_add_any _ _
      · rw [z]; exact le_add_any _ _
      · rw [z]; exact le_add_any _ _
      · rw [z]; exact Nat.le_refl _
      · rw [z]; exact le_add_any _ _
    exact I1.fpOk hle (I1.hok.fresh hle)
theorem pi_zipS3 {K : PySem.W.Frag} (hg : Gl X "zip") (hm : X.mg "zip" = none) (ha : PA X [e, e2, e3] ta) (hs : starEach [e, e2, e3] X.env = (false, eval e X.env) :: starEach [e2, e3] X.env := by rfl) (hpl : (backTo pos (starEach [e2, e3] X.env)).any (·.1) = false := by rfl) (hK : X.K = K := by rfl) :
    PI X (.Tuple elts kk tpos) (.Call (.Name "zip" p) [e, e2, e3] [] pos) (iZ3 K ta) := by
  subst hK
  refine ⟨fun pins s σ H R I h => ?_⟩
  refine Call_ (ld_blt I hg hm PyProof.Rows.boot_zip (PyProof.Rows.callWith_type1 (thn (ha.run pos pins s σ H _ I h) fun us s1 ⟨vs, H1, I1, r1, q1⟩ => ?_) hs hpl))
  obtain ⟨b1, a1, b2, a2, b3, a3, xs, ys, zs, ex, hq1, hq2, hq3, q⟩ := q1
  subst ex
  cases r1 with
  | cons r rr =>
  cases rr with
  | cons r' rr =>
  cases rr with
  | cons r'' rr =>
    cases rr
    cases r
    cases r'
    cases r''
    obtain ⟨its, rv, p1, _⟩ := inv_b I1 hq1
    obtain ⟨its2, rv2, p2, _⟩ := inv_b I1 hq2
    obtain ⟨its3, rv3, p3, _⟩ := inv_b I1 hq3
    have g1 : (a1 : Nat) < s1.heap.objs.size := inv_lt I1 hq1
    have g2 : (a2 : Nat) < s1.heap.objs.size := inv_lt I1 hq2
    have g3 : (a3 : Nat) < s1.heap.objs.size := inv_lt I1 hq3
    refine zip_begins3 (begins_b b1 a1 its.toArray) (begins_b b2 a2 its2.toArray) (begins_b b3 a3 its3.toArray) p1 p2 p3 fun h' hz hTI hTO h1 h2 h3 hsz hk => wpAny_pyIter_zip hz ?_
    have I2 : Inv X pins σ H1 { s1 with heap := h' } := I1.kept (t' := s1.toks) hk
    refine ⟨s1.heap.objs.size + 5, [s1.heap.objs.size + 5, s1.heap.objs.size + 3, s1.heap.objs.size + 4, s1.heap.objs.size, s1.heap.objs.size + 1, s1.heap.objs.size + 2], _, _, H1, rfl, I2,
      turn_z3 (zip_sep3 (fp1 := [a1]) (fp2 := [a2]) (fp3 := [a3]) (fun c hc => by simp at hc; rw [hc]; exact g1) (fun c hc => by simp at hc; rw [hc]; exact g2) (fun c hc => by simp at hc; rw [hc]; exact g3)) (Nat.ne_of_lt g1) (Nat.ne_of_lt (Nat.lt_of_lt_of_le g2 (Nat.le_add_right _ _))) (Nat.ne_of_lt (Nat.lt_of_lt_of_le g3 (Nat.le_add_right _ _))), ⟨hz, hTI, ⟨_, _, _, hTO⟩, itB_new h1, itB_new h2, itB_new h3⟩, fun c hcm => ?_, q⟩
    have e' : c = s1.heap.objs.size + 5 ∨ c = s1.heap.objs.size + 3 ∨ c = s1.heap.objs.size + 4 ∨ c = s1.heap.objs.size ∨ c = s1.heap.objs.size + 1 ∨ c = s1.heap.objs.size + 2 := by simpa using hcm
    have hle : s1.heap.objs.size ≤ c := by
      rcases e' with z | z | z | z | z | z
      · rw [z]; exact le_add_any _ _
      · rw [z]; exact le_add_any _ _
      · rw [z]; exact le_add_any _ _
      · rw [z]; exact Nat.le_refl _
      · rw [z]; exact le_add_any _ _
      · rw [z]; exact le_add_any _ _
    exact I1.fpOk hle (I1.hok.fresh hle)
end
/-! ### their readings -/
/-- frozen sequences -/
inductive FrS : Sl → List D → Prop
  | l {ds : List D} : FrS (.v (.lst ds)) ds
  | t {ds : List D} : FrS (.v (.tup ds)) ds
  | s {b : Bool} {ds : List D} : FrS (.v (D.seq b ds)) ds
theorem sqb_same {K : PySem.W.Frag} {F F' : Hp} {b : Bool} {a : Addr} {xs : List V} (e : Same F F') (h : SqB K F b a xs) : SqB K F' b a xs := by
  cases b with
  | true => exact sqt_same K e h
  | false => exact e.seq h
section
variable {K : PySem.W.Frag} {ρ : Rho} {M : List MO}
theorem FrS.get {α : Al} {F : Hp} {s : Sl} {ds : List D} {u : V} (h : FrS s ds) (o : SlOk K α F s u) : ∃ b a vs, u = .ref a ∧ SqB K F b a vs ∧ Dens K F ds vs := by
  have L : ∀ {u : V}, SlOk K α F (.v (.lst ds)) u → ∃ b a vs, u = .ref a ∧ SqB K F b a vs ∧ Dens K F ds vs := fun o => by
    obtain ⟨a, vs, h1, h2, h3⟩ := o
    exact ⟨false, a, vs, h1, SqL.of h2, h3⟩
  have T : ∀ {u : V}, SlOk K α F (.v (.tup ds)) u → ∃ b a vs, u = .ref a ∧ SqB K F b a vs ∧ Dens K F ds vs := fun o => by
    obtain ⟨a, vs, h1, h2, h3⟩ := o
    exact ⟨true, a, vs, h1, h2, h3⟩
  cases h with
  | l => exact L o
  | t => exact T o
  | @s b _ =>
    cases b with
    | true => exact T o
    | false => exact L o
def enumD (k : Int) (ds : List D) : List D := ds.mapIdx fun i d => .tup [.int (k + (i : Int)), d]
theorem ite_ok {F : Hp} {k : Int} {b : Bool} {a : Addr} {vs : List V} {ds : List D} (h : SqB K F b a vs) (hd : Dens K F ds vs) : ItOk K (ItE K k b a) F (enumD k ds) := fun i F1 H s1 s2 => by
  have hH := sqb_same s2 (sqb_same s1 h)
  refine ⟨fun hl => ⟨vs, hH, by rw [← hd.length]; simpa [enumD] using hl⟩, fun d e => ?_⟩
  unfold enumD at e
  rw [List.getElem?_mapIdx] at e
  cases e3 : ds[i]? with
  | none => rw [e3] at e; cases e
  | some d0 =>
    rw [e3] at e
    cases e
    obtain ⟨v, e2, r⟩ := hd.get e3
    refine ⟨⟨vs, v, hH, e2⟩, fun x H' ⟨T, y, ex, hT, eH, hy⟩ => .inr ⟨T, _, _, ex, hT, eH, rfl, ?_⟩⟩
    have := hy vs hH
    rw [e2] at this; cases this
    exact Dens.cons rfl (Dens.cons (Den.mono K s1 _ _ r) Dens.nil)
theorem ei_enB {tl : TA} {R : List D → Prop} (h : EvA K tl ρ M fun ss => ∃ s ds, ss = [s] ∧ FrS s ds ∧ R (enumD 0 ds)) : EvI K (iEnB K tl) ρ M R := fun σ α F H en S k kk =>
  h σ α F H en S _ fun vs F1 H1 ss m1 S1 o1 ⟨s, ds, e1, hr, q⟩ => by
    subst e1
    obtain ⟨v, r, rfl, hv, r2⟩ := o1
    have r2 : r = [] := r2
    subst r2
    obtain ⟨b, a, us, rfl, h1, h2⟩ := hr.get hv
    exact ⟨b, a, us, rfl, sqb_same S1.sub h1, kk _ F1 H1 _ m1 S1 (ite_ok h1 h2) q⟩
theorem ei_enB2 {tl : TA} {R : List D → Prop} (h : EvA K tl ρ M fun ss => ∃ s j ds, ss = [s, .v (.int j)] ∧ FrS s ds ∧ (-(2 ^ 63) ≤ j ∧ j < 2 ^ 63) ∧ R (enumD j ds)) : EvI K (iEnB2 K tl) ρ M R := fun σ α F H en S k kk =>
  h σ α F H en S _ fun vs F1 H1 ss m1 S1 o1 ⟨s, j, ds, e1, hr, hj, q⟩ => by
    subst e1
    obtain ⟨v, r, rfl, hv, r2⟩ := o1
    obtain ⟨w, r', rfl, hw, r3⟩ := r2
    have r3 : r' = [] := r3
    have hw : w = .int j := hw
    subst r3; subst hw
    obtain ⟨b, a, us, rfl, h1, h2⟩ := hr.get hv
    exact ⟨b, a, us, j, rfl, hj.1, hj.2, sqb_same S1.sub h1, kk _ F1 H1 _ m1 S1 (ite_ok h1 h2) q⟩
def zip2D (ds es : List D) : List D := ds.zipWith (fun d c => .tup [d, c]) es
theorem ei_z2 {tl : TA} {R : List D → Prop} (h : EvA K tl ρ M fun ss => ∃ s1 s2 ds es, ss = [s1, s2] ∧ FrS s1 ds ∧ FrS s2 es ∧ R (zip2D ds es)) : EvI K (iZ2 K tl) ρ M R := fun σ α F H en S k kk =>
  h σ α F H en S _ fun vs F1 H1 ss m1 S1 o1 ⟨t1, t2, ds, es, e1, hr1, hr2, q⟩ => by
    subst e1
    obtain ⟨v, r, rfl, hv, r2⟩ := o1
    obtain ⟨w, r', rfl, hw, r3⟩ := r2
    have r3 : r' = [] := r3
    subst r3
    obtain ⟨b, a, us, rfl, h1, h2⟩ := hr1.get hv
    obtain ⟨b', a', ws, rfl, h3, h4⟩ := hr2.get hw
    refine ⟨b, a, b', a', us, ws, rfl, sqb_same S1.sub h1, sqb_same S1.sub h3, kk _ F1 H1 _ m1 S1 (fun i F2 H2 s1 s2 => ?_) q⟩
    have hH := sqb_same s2 (sqb_same s1 h1)
    have hH' := sqb_same s2 (sqb_same s1 h3)
    refine ⟨fun hl => ⟨us, ws, hH, hH', ?_⟩, fun d e => ?_⟩
    · unfold zip2D at hl
      rw [List.length_zipWith, h2.length, h4.length] at hl; exact hl
    · unfold zip2D at e
      rw [List.getElem?_zipWith] at e
      cases e3 : ds[i]? with
      | none => rw [e3] at e; cases e
      | some d0 =>
        cases e4 : es[i]? with
        | none => rw [e3, e4] at e; cases e
        | some c0 =>
          rw [e3, e4] at e
          cases e
          obtain ⟨v, e5, r⟩ := h2.get e3
          obtain ⟨w, e6, r'⟩ := h4.get e4
          refine ⟨⟨us, ws, v, w, hH, hH', e5, e6⟩, fun x H' ⟨T, y, z, ex, hT, eH, hy, hz⟩ => .inr ⟨T, _, _, ex, hT, eH, rfl, ?_⟩⟩
          have p1 := hy us hH
          have p2 := hz ws hH'
          rw [e5] at p1; cases p1
          rw [e6] at p2; cases p2
          exact Dens.cons (Den.mono K s1 _ _ r) (Dens.cons (Den.mono K s1 _ _ r') Dens.nil)
def zip3D : List D → List D → List D → List D
  | d :: ds, c :: cs, e :: es => .tup [d, c, e] :: zip3D ds cs es
  | _, _, _ => []
theorem zip3D_len : ∀ {ds cs es : List D}, (zip3D ds cs es).length = min (min ds.length cs.length) es.length
  | [], _, _ => by simp [zip3D]
  | _ :: _, [], _ => by simp [zip3D]
  | _ :: _, _ :: _, [] => by simp [zip3D]
  | d :: ds, c :: cs, e :: es => by
    have := zip3D_len (ds := ds) (cs := cs) (es := es)
    simp only [zip3D, List.length_cons, this]; omega
theorem zip3D_get : ∀ {ds cs es : List D} {i : Nat} {x : D}, (zip3D ds cs es)[i]? = some x → ∃ d c e, ds[i]? = some d ∧ cs[i]? = some c ∧ es[i]? = some e ∧ x = .tup [d, c, e]
  | [], _, _, i, x, h => by simp [zip3D] at h
  | _ :: _, [], _, i, x, h => by simp [zip3D] at h
  | _ :: _, _ :: _, [], i, x, h => by simp [zip3D] at h
  | d :: ds, c :: cs, e :: es, 0, x, h => by
    simp [zip3D] at h
    exact ⟨d, c, e, rfl, rfl, rfl, h.symm⟩
  | d :: ds, c :: cs, e :: es, i + 1, x, h => by
    simp only [zip3D, List.getElem?_cons_succ] at h ⊢
    exact zip3D_get h
theorem ei_z3 {tl : TA} {R : List D → Prop} (h : EvA K tl ρ M fun ss => ∃ s1 s2 s3 ds es fs, ss = [s1, s2, s3] ∧ FrS s1 ds ∧ FrS s2 es ∧ FrS s3 fs ∧ R (zip3D ds es fs)) : EvI K (iZ3 K tl) ρ M R := fun σ α F H en S k kk =>
  h σ α F H en S _ fun vs F1 H1 ss m1 S1 o1 ⟨t1, t2, t3, ds, es, fs, e1, hr1, hr2, hr3, q⟩ => by
    subst e1
    obtain ⟨v, r, rfl, hv, r2⟩ := o1
    obtain ⟨w, r', rfl, hw, r3⟩ := r2
    obtain ⟨y, r'', rfl, hy, r4⟩ := r3
    have r4 : r'' = [] := r4
    subst r4
    obtain ⟨b, a, us, rfl, h1, h2⟩ := hr1.get hv
    obtain ⟨b', a', ws, rfl, h3, h4⟩ := hr2.get hw
    obtain ⟨b'', a'', ys, rfl, h5, h6⟩ := hr3.get hy
    refine ⟨b, a, b', a', b'', a'', us, ws, ys, rfl, sqb_same S1.sub h1, sqb_same S1.sub h3, sqb_same S1.sub h5, kk _ F1 H1 _ m1 S1 (fun i F2 H2 s1 s2 => ?_) q⟩
    have hH := sqb_same s2 (sqb_same s1 h1)
    have hH' := sqb_same s2 (sqb_same s1 h3)
    have hH'' := sqb_same s2 (sqb_same s1 h5)
    refine ⟨fun hl => ⟨us, ws, ys, hH, hH', hH'', ?_⟩, fun d e => ?_⟩
    · rw [zip3D_len, h2.length, h4.length, h6.length] at hl; exact hl
    · obtain ⟨d0, c0, f0, e3, e4, e5, rfl⟩ := zip3D_get e
      obtain ⟨v, e6, r⟩ := h2.get e3
      obtain ⟨w, e7, r'⟩ := h4.get e4
      obtain ⟨y, e8, r''⟩ := h6.get e5
      refine ⟨⟨us, ws, ys, v, w, y, hH, hH', hH'', e6, e7, e8⟩, fun x H' ⟨T, y1, y2, y3, ex, hT, eH, q1, q2, q3⟩ => .inr ⟨T, _, _, ex, hT, eH, rfl, ?_⟩⟩
      have p1 := q1 us hH
      have p2 := q2 ws hH'
      have p3 := q3 ys hH''
      rw [e6] at p1; cases p1
      rw [e7] at p2; cases p2
      rw [e8] at p3; cases p3
      exact Dens.cons (Den.mono K s1 _ _ r) (Dens.cons (Den.mono K s1 _ _ r') (Dens.cons (Den.mono K s1 _ _ r'') Dens.nil))
end
end DL

/-! DL13: dicts that are walked; displays; xs[i] += e; calls that hand out new things. -/
namespace DL
open PySem L2
section
variable {K : PySem.W.Frag} {e : Ent} {ρ : Rho} {M : List MO} {te ta tb : TE} {t u : TS} {Q : Sl → Prop} {nx bk ct : Rho → List MO → Prop} {rt : Sl → List MO → Prop}
theorem Sta.unl {α : Al} {F H : Hp} {k : Nat} {d : Addr} {od : Obj} {kvs : List (Key × V)} {ks : List Key} {ds : List D} (S : Sta K α M F H) (hM : M[k]? = some (.frz d od kvs ks ds)) :
    H d = some (.frz od (.dK kvs)) ∧ Move α F H F (upd H d (.dK kvs)) ∧ Sta K α (M.set k (.dic ks ds)) F (upd H d (.dK kvs)) := by
  obtain ⟨q, hq⟩ := sta_get S hM
  obtain ⟨hF, hd, hH, vs, e1, hl, hden⟩ := S.ob k _ q hM hq
  subst hd
  exact ⟨hH, S.write (m' := .dic ks ds) (o := .dK kvs) hq hF ⟨hF, vs, by rw [e1]; exact upd_same, hl, hden⟩⟩
theorem r_lock {j k : Nat} {ks : List Key} {ds : List D} (hj : ρ[j]? = some (some (.l k))) (hk : M[k]? = some (.dic ks ds))
    (h : ∀ d od kvs, RunD K e t ρ (M.set k (.frz d od kvs ks ds)) (fun ρ' M' => M'[k]? = some (.frz d od kvs ks ds) ∧ nx ρ' (M'.set k (.dic ks ds))) (fun s M' => M'[k]? = some (.frz d od kvs ks ds) ∧ rt s (M'.set k (.dic ks ds)))
      (fun ρ' M' => M'[k]? = some (.frz d od kvs ks ds) ∧ bk ρ' (M'.set k (.dic ks ds))) (fun ρ' M' => M'[k]? = some (.frz d od kvs ks ds) ∧ ct ρ' (M'.set k (.dic ks ds)))) :
    RunD K e (tLock t) ρ M nx rt bk ct := fun X σ α F H g ok => by
  obtain ⟨v, h1, p, hp, rfl⟩ := g.env.at' j _ hj
  obtain ⟨hF, vs, hvs, hl, hd⟩ := g.sta.ob k _ p hk hp
  refine ⟨p.1, .dK (ks.zip vs), hvs, trivial, fun od => ?_⟩
  obtain ⟨m2, S2⟩ := g.sta.write (m' := .frz p.1 od (ks.zip vs) ks ds) (o := .frz od (.dK (ks.zip vs))) hp hF ⟨hF, rfl, upd_same, vs, rfl, hl, hd⟩
  refine h p.1 od (ks.zip vs) _ σ α F _ ⟨g.env, S2, g.st.move m2⟩ ⟨fun σ' α' F' H' ρ' M' g' z ⟨hM, q⟩ => ?_, fun w s α' F' H' M' o S' st z ⟨hM, q⟩ => ?_, fun σ' α' F' H' ρ' M' g' z ⟨hM, q⟩ => ?_, fun σ' α' F' H' ρ' M' g' z ⟨hM, q⟩ => ?_⟩
  · obtain ⟨a1, a2, a3⟩ := g'.sta.unl hM
    exact ⟨a1, ok.nx _ α' F' _ _ _ ⟨g'.env, a3, g'.st.move a2⟩ z q⟩
  · obtain ⟨a1, a2, a3⟩ := S'.unl hM
    exact ⟨a1, ok.rt _ s α' F' _ _ o a3 (st.move a2) z q⟩
  · obtain ⟨a1, a2, a3⟩ := g'.sta.unl hM
    exact ⟨a1, ok.bk _ α' F' _ _ _ ⟨g'.env, a3, g'.st.move a2⟩ z q⟩
  · obtain ⟨a1, a2, a3⟩ := g'.sta.unl hM
    exact ⟨a1, ok.ct _ α' F' _ _ _ ⟨g'.env, a3, g'.st.move a2⟩ z q⟩
theorem set_frz {k : Nat} {m m' : MO} (hk : M[k]? = some m) : (M.set k m')[k]? = some m' ∧ (M.set k m').set k m = M := by
  have hl : k < M.length := (List.getElem?_eq_some_iff.mp hk).1
  refine ⟨List.getElem?_set_self hl, ?_⟩
  rw [List.set_set]
  apply List.ext_getElem?
  intro i
  by_cases e : k = i
  · subst e; rw [List.getElem?_set_self hl, hk]
  · rw [List.getElem?_set_ne e]
theorem ev_lock {j k : Nat} {ks : List Key} {ds : List D} (hj : ρ[j]? = some (some (.l k))) (hk : M[k]? = some (.dic ks ds))
    (h : ∀ d od kvs, EvP K te ρ (M.set k (.frz d od kvs ks ds)) Q) : EvP K (tLockE te) ρ M Q := fun σ α F H en S kk0 kk => by
  obtain ⟨v, h1, p, hp, rfl⟩ := en.at' j _ hj
  obtain ⟨hF, vs, hvs, hl, hd⟩ := S.ob k _ p hk hp
  refine ⟨p.1, .dK (ks.zip vs), hvs, trivial, fun od => ?_⟩
  obtain ⟨m2, S2⟩ := S.write (m' := .frz p.1 od (ks.zip vs) ks ds) (o := .frz od (.dK (ks.zip vs))) hp hF ⟨hF, rfl, upd_same, vs, rfl, hl, hd⟩
  refine h p.1 od (ks.zip vs) σ α F _ en S2 _ fun w F' H' s m3 S3 o3 q3 => ?_
  obtain ⟨b1, b2⟩ := set_frz (m' := .frz p.1 od (ks.zip vs) ks ds) hk
  obtain ⟨a1, a2, a3⟩ := S3.unl b1
  rw [b2] at a3
  exact ⟨a1, kk _ F' _ s ((m2.trans m3).trans a2) a3 o3 q3⟩
/-- for k in d, the dict locked -/
theorem r_forK {j k : Nat} {g : TG} {d : Addr} {od : Obj} {kvs : List (Key × V)} {ks : List Key} {ds : List D} (is : List Nat) (hj : ρ[j]? = some (some (.l k))) (hk : M[k]? = some (.frz d od kvs ks ds))
    (h : ∃ I : Nat → Rho → List MO → Prop, I 0 ρ M ∧
      (∀ i key ρ' M', ks[i]? = some key → I i ρ' M' → M'[k]? = some (.frz d od kvs ks ds) → EvG K g is (.raw (kV key)) ρ' fun ρ2 => RunD K e t ρ2 M' (fun ρ3 M3 => M3[k]? = some (.frz d od kvs ks ds) ∧ I (i + 1) ρ3 M3) rt nx (fun ρ3 M3 => M3[k]? = some (.frz d od kvs ks ds) ∧ I (i + 1) ρ3 M3)) ∧
      ∀ ρ' M', I ks.length ρ' M' → M'[k]? = some (.frz d od kvs ks ds) → nx ρ' M') : RunD K e (tFor (iKeys (tVar j)) g t) ρ M nx rt bk ct := fun X σ α F H gd ok => by
  obtain ⟨v, h1, p, hp, rfl⟩ := gd.env.at' j _ hj
  obtain ⟨hF, hpd, hH, vs, ekv, hl, hden⟩ := gd.sta.ob k _ p hk hp
  subst hpd
  obtain ⟨I, h0, hs, hd⟩ := h
  have kl : kvs.length = ks.length := by rw [ekv, List.length_zip, ← hl, Nat.min_self]
  have kg : ∀ {i : Nat} {key : Key} {w : V}, kvs[i]? = some (key, w) → ks[i]? = some key := fun {i key w} q => by
    rw [ekv] at q
    have := congrArg (Option.map Prod.fst) q
    rw [← List.getElem?_map, List.map_fst_zip (by omega)] at this
    exact this
  refine ⟨_, h1, p.1, od, rfl, .inl ⟨kvs, hH, ?_⟩⟩
  refine ⟨fun i m σ' H' => m = ks.length - i ∧ i ≤ ks.length ∧ ∃ ρ' M' α' F', Good K e α' F' H' σ' ρ' M' ∧ Same F F' ∧ M'[k]? = some (.frz p.1 od kvs ks ds) ∧ I i ρ' M', ⟨_, rfl, Nat.zero_le _, ρ, M, α, F, gd, fun _ _ z => z, hk, h0⟩, ?_⟩
  rintro i m σ' H' ⟨rfl, hi, ρ', M', α', F', g', s', hM, pI⟩
  have hfz : H' p.1 = some (.frz od (.dK kvs)) := (g'.sta.unl hM).1
  by_cases hlt : i < ks.length
  · have hget : ks[i]? = some ks[i] := List.getElem?_eq_getElem hlt
    refine .inr ⟨⟨hfz, by omega⟩, fun σ2 H2 => ∃ ρ2 M2 α2 F2, Good K e α2 F2 H2 σ2 ρ2 M2 ∧ Same F F2 ∧ M2[k]? = some (.frz p.1 od kvs ks ds) ∧ I (i + 1) ρ2 M2, fun σ2 H2 ⟨ρ2, M2, α2, F2, g2, s2, hM2, p2⟩ => ⟨ks.length - (i + 1), by omega, rfl, hlt, ρ2, M2, α2, F2, g2, s2, hM2, p2⟩, fun x H2 y => ?_⟩
    obtain ⟨rfl, key, w, hkw, rfl⟩ := y
    have hkey := kg hkw
    refine hs i key ρ' M' hkey pI hM σ' α' F' H2 (kV key) g'.env g'.sta.sub rfl _ fun σ3 ρ3 en3 _ _ q3 => ?_
    have ok2 := ok.at s'
    exact q3 _ σ3 α' F' H2 ⟨en3, g'.sta, g'.st⟩ ⟨fun σ4 α4 F4 H4 ρ4 M4 g4 z4 ⟨hM4, q4⟩ => ⟨ρ4, M4, α4, F4, g4, s'.trans z4, hM4, q4⟩, ok2.rt, ok2.nx, fun σ4 α4 F4 H4 ρ4 M4 g4 z4 ⟨hM4, q4⟩ => ⟨ρ4, M4, α4, F4, g4, s'.trans z4, hM4, q4⟩⟩
  · have ei : i = ks.length := by omega
    subst ei
    exact .inl ⟨⟨hfz, by omega⟩, ok.nx _ _ _ _ _ _ g' s' (hd ρ' M' pI hM)⟩
/-! comprehensions over what stands in a numbered thing -/
def ItOkS (K : PySem.W.Frag) (α : Al) (M : List MO) (J : It) (F : Hp) (items : List D) : Prop := ∀ (i : Nat) (F1 H : Hp), Same F F1 → Sta K α M F1 H → (items.length = i → J.stop i H) ∧
  ∀ d, items[i]? = some d → J.go i H ∧ ∀ x H', J.yld i H x H' → H' = H ∧ Den K F1 d x
def EvIS (K : PySem.W.Frag) (wi : TI) (ρ : Rho) (M : List MO) (R : List D → Prop) : Prop := ∀ (σ : L2.St) (α : Al) (F H : Hp), EnvOk K α F σ ρ → Sta K α M F H → ∀ k : It → Hp → Prop,
  (∀ J F' H' items, Move α F H F' H' → Sta K α M F' H' → ItOkS K α M J F' items → R items → k J H') → wi σ H k
theorem it_turnS {α : Al} {J : It} {F F1 H : Hp} {items : List D} {i : Nat} {d : D} {x : V} {H' : Hp} (ok : ItOkS K α M J F items) (s1 : Same F F1) (S : Sta K α M F1 H) (hd : items[i]? = some d) (y : J.yld i H x H') :
    ∃ F2, Move α F1 H F2 H' ∧ Sta K α M F2 H' ∧ Den K F2 d x := by
  obtain ⟨rfl, h⟩ := ((ok i F1 H s1 S).2 d hd).2 x H' y
  exact ⟨F1, .refl, S, h⟩
theorem ei_keys {j k : Nat} {d : Addr} {od : Obj} {kvs : List (Key × V)} {ks : List Key} {ds : List D} {R : List D → Prop} (hj : ρ[j]? = some (some (.l k))) (hk : M[k]? = some (.frz d od kvs ks ds)) (q : R (ks.map fun key => .raw (kV key))) : EvIS K (iKeys (tVar j)) ρ M R := fun σ α F H en S kk0 kk => by
  obtain ⟨v, h1, p, hp, rfl⟩ := en.at' j _ hj
  obtain ⟨hF, hpd, hH, vs, ekv, hl, hden⟩ := S.ob k _ p hk hp
  subst hpd
  have kl : kvs.length = ks.length := by rw [ekv, List.length_zip, ← hl, Nat.min_self]
  refine ⟨_, h1, p.1, od, rfl, .inl ⟨kvs, hH, kk _ F H _ .refl S (fun i F1 H1 s1 S1 => ?_) q⟩⟩
  have hfz := (S1.unl hk).1
  refine ⟨fun hz => ⟨hfz, by rw [List.length_map] at hz; omega⟩, fun x hx => ?_⟩
  rw [List.getElem?_map] at hx
  obtain ⟨key, hkey, rfl⟩ := Option.map_eq_some_iff.mp hx
  have := (List.getElem?_eq_some_iff.mp hkey).1
  refine ⟨⟨hfz, by omega⟩, fun y H' ⟨e1, key', w, hkw, e2⟩ => ⟨e1, ?_⟩⟩
  subst e2
  rw [ekv] at hkw
  have z := congrArg (Option.map Prod.fst) hkw
  rw [← List.getElem?_map, List.map_fst_zip (by omega), hkey] at z
  have z : key = key' := by simpa using z
  subst z
  rfl
theorem ev_lcS {wi : TI} {g : TG} {tt : TT} {vs : List Nat} (h : EvIS K wi ρ M fun items => items.length ≤ 16777216 ∧ ∃ I : Nat → List D → Prop, I 0 [] ∧
      (∀ i d acc, items[i]? = some d → I i acc → EvG K g vs d (wipeR ρ vs) fun ρ' => EvT K tt ρ' M fun b => if b = true then EvP K te ρ' M (fun s => ∃ d', s = .v d' ∧ I (i + 1) (acc ++ [d'])) else I (i + 1) acc) ∧
      ∀ acc, I items.length acc → Q (.v (.lst acc))) : EvP K (tLc wi g tt te vs) ρ M Q := fun σ α F H en S k kk =>
  h σ α F H en S _ fun J F1 H1 items m1 S1 it ⟨hz, I, h0, hs, hd⟩ => by
    intro A hA
    have hFA : F1 A = none := S1.sub.free hA
    have hna := S1.notin hA
    refine ⟨fun i m H' => m = items.length - i ∧ i ≤ items.length ∧ ∃ F' acc us, Move α F1 H1 F' H' ∧ Sta K α M F' H' ∧ H' A = some (.lst us) ∧ F' A = none ∧ Dens K F' acc us ∧ acc.length ≤ i ∧ I i acc,
      ⟨_, rfl, Nat.zero_le _, F1, [], [], ?_, S1.extra hFA hna, upd_same, hFA, rfl, Nat.le_refl _, h0⟩, ?_⟩
    · exact ⟨fun _ _ z => z, fun b o q _ => by rw [upd_ne (ne_of_none q hA)]; exact q, fun b q => by { rw [upd_ne (fun z => q (by rw [z]; exact hA))]; exact q }, fun b q => .inl q⟩
    rintro i m H' ⟨rfl, hi, F', acc, us, mv, S', hAt, hFA', hden, hlen, p⟩
    by_cases hlt : i < items.length
    · have hget : items[i]? = some items[i] := List.getElem?_eq_getElem hlt
      refine .inr ⟨((it i F' H' mv.ex S').2 _ hget).1, fun H2 => ∃ F2 acc us, Move α F1 H1 F2 H2 ∧ Sta K α M F2 H2 ∧ H2 A = some (.lst us) ∧ F2 A = none ∧ Dens K F2 acc us ∧ acc.length ≤ i + 1 ∧ I (i + 1) acc,
        fun H2 ⟨F2, acc, us, a, b, c, d, f, g, h⟩ => ⟨items.length - (i + 1), by omega, rfl, hlt, F2, acc, us, a, b, c, d, f, g, h⟩, fun x H2 y => ?_⟩
      obtain ⟨F2, m2, S2, hx⟩ := it_turnS it mv.ex S' hget y
      have enw := ((en.mono m1.ex).mono (mv.ex.trans m2.ex)).wipe vs
      refine hs i _ acc hget p (L2.wipe σ vs) α F2 H2 x enw S2.sub hx _ fun σ3 ρ3 en3 l3 f3 q3 => ⟨?_, ?_⟩
      · have := wipe_eq (σ := L2.wipe σ vs) l3 f3
        rw [wipe_wipe] at this
        exact this
      refine q3 σ3 α F2 H2 en3 S2 _ fun b F3 H3 m3 S3 q4 => ?_
      have mA : Move α F' H' F3 H3 := m2.trans m3
      have hA3 : H3 A = some (.lst us) := mA.fr A _ hAt hna
      have nF : ∀ F4 H4, Move α F' H' F4 H4 → F4 A = none := fun F4 H4 mm => by
        cases z : F4 A with
        | none => rfl
        | some o =>
          rcases mm.new A (by rw [z]; simp) with q | q
          · exact absurd hFA' q
          · rw [hAt] at q; cases q
      cases b with
      | true =>
        refine iteT ?_
        have q4 : EvP K te ρ3 M (fun s => ∃ d', s = .v d' ∧ I (i + 1) (acc ++ [d'])) := q4
        refine q4 σ3 α F3 H3 (en3.mono m3.ex) S3 _ fun v F4 H4 s m4 S4 o4 ⟨d', e4, p4⟩ => ?_
        subst e4
        have mB : Move α F' H' F4 H4 := mA.trans m4
        have hA4 : H4 A = some (.lst us) := mB.fr A _ hAt hna
        have mC : Move α F1 H1 F4 H4 := mv.trans mB
        refine ⟨us, hA4, by rw [← hden.length, sizeLine_eq]; omega, F4, acc ++ [d'], us ++ [v], ⟨mC.ex, fun b o q z => ?_, fun b q => ?_, mC.new⟩, S4.extra (nF _ _ mB) hna, upd_same, nF _ _ mB, (Dens.mono K mB.ex _ _ hden).append (Dens.cons o4 Dens.nil), by simp; omega, p4⟩
        · rw [upd_ne (ne_of_none q hA)]; exact mC.fr b o q z
        · rw [upd_ne (fun z => q (by rw [z]; exact hA))]; exact mC.tr b q
      | false =>
        refine iteF ?_
        exact ⟨F3, acc, us, mv.trans mA, S3, hA3, nF _ _ mA, Dens.mono K mA.ex _ _ hden, by omega, q4⟩
    · have ei : i = items.length := by omega
      subst ei
      obtain ⟨s5, S5⟩ := S'.ice hFA' hAt hna
      refine .inl ⟨(it _ F' H' mv.ex S').1 rfl, kk (.ref A) _ H' (.v (.lst acc)) ⟨(m1.trans mv).ex.trans s5, fun b o q z => (m1.trans mv).fr b o q z, (m1.trans mv).tr, fun b q => ?_⟩ S5 (show Den K _ (.lst acc) _ from ⟨A, us, rfl, upd_same, Dens.mono K s5 _ _ hden⟩) (hd acc p)⟩
      by_cases eb : b = A
      · subst eb; exact .inr (none_back (m1.tr b) hA)
      · rw [upd_ne eb] at q; exact (m1.trans mv).new b q
/-- [..] * n, as a list that is to change -/
theorem en_rep {QN : Sl → List MO → Prop} (h : EvP K ta ρ M fun x => EvP K tb ρ M fun y => ∃ ds i, RdL M x ds ∧ y = .v (.int i) ∧ (-(2 ^ 63) ≤ i ∧ i < 2 ^ 63 ∧ ds.length * i.toNat ≤ 16777216) ∧ QN (.l M.length) (M ++ [.lst (List.replicate i.toNat ds).flatten])) : EvN K e (tOp (gMul K) ta tb) ρ M QN := fun σ α F H g kk0 kk =>
  h σ α F H g.env g.sta _ fun u F1 H1 x m1 S1 o1 q1 => q1 σ α F1 H1 (g.env.mono m1.ex) S1 _ fun v F2 H2 y m2 S2 o2 ⟨ds, i, hr, ey, ⟨i0, i1, hz⟩, q⟩ => by
    subst ey
    have o2 : v = .int i := o2
    subst o2
    obtain ⟨a, vs, rfl, e1, d1⟩ := hr.get S2 (o1.mono m2.ex)
    refine .inr (.inl ⟨a, i, vs, rfl, rfl, e1, i0, i1, by rw [← d1.length, sizeLine_eq]; exact hz, fun p hp => ?_⟩)
    have S3 := S2.more (m' := .lst (List.replicate i.toNat ds).flatten) (o := .lst (List.replicate i.toNat vs).flatten) hp ⟨S2.sub.free hp, _, upd_same, d1.flat _⟩
    exact kk _ _ F2 _ _ _ ⟨(g.env.mono (m1.trans m2).ex).more, S3, (g.st.move (m1.trans m2)).more hp⟩ (m1.trans m2).ex ⟨_, rfl⟩ (loc_ok (p := (p, p)) (sta_len S2)) q
theorem last_mo {m : MO} : (M ++ [m])[M.length]? = some m := by simp
theorem last_set {m m' : MO} : (M ++ [m]).set M.length m' = M ++ [m'] := by simp
/-- {k: v} of two numbers .. -/
theorem en_disp1 {k : Key} {v : V} {QN : Sl → List MO → Prop} (q : QN (.l M.length) (M ++ [.dic [k] [.raw v]])) : EvN K e (tDisp [(tC (kV k), tC v)]) ρ M QN := fun σ α F H g kk0 kk p hp => by
  refine ⟨upd_same, [(k, v)], rfl, le_lit rfl, ?_⟩
  have e1 : upd (upd H p (.dK [])) p (.dK (mergeK [] [(k, v)])) = upd H p (.dK [(k, v)]) := by
    funext b
    by_cases hb : b = p
    · subst hb; rw [upd_same, upd_same]; rfl
    · rw [upd_ne hb, upd_ne hb, upd_ne hb]
  rw [e1]
  have S2 := g.sta.more (m' := .dic [k] [.raw v]) (o := .dK [(k, v)]) hp ⟨g.sta.sub.free hp, [v], upd_same, rfl, Dens.cons rfl Dens.nil⟩
  exact kk _ _ F _ _ _ ⟨g.env.more, S2, g.st.more hp⟩ (.refl F) ⟨_, rfl⟩ (loc_ok (p := (p, p)) (sta_len g.sta)) q
/-- xs[i] += e -/
def pgL (K : PySem.W.Frag) : V → V → Hp → VK → Prop := rIxL K
theorem r_augS {j k : Nat} {ds : List D} {ti : TE} {f : Int → Int → Int} (hj : ρ[j]? = some (some (.l k))) (hk : M[k]? = some (.lst ds))
    (h : EvP K ti ρ M fun s' => ∃ i n x, s' = .v (.int i) ∧ ixN ds.length i = some n ∧ ds[n]? = some (.int x) ∧ EvP K te ρ M fun s => ∃ y, s = .v (.int y) ∧ nx ρ (M.set k (.lst (ds.set n (.int (f x y)))))) :
    RunD K e (tAugS (tVar j) ti te (pgL K) (ipI f) rSetL) ρ M nx rt bk ct := fun X σ α F H g ok => by
  obtain ⟨u, h1, p, hp, rfl⟩ := g.env.at' j _ hj
  refine ⟨_, h1, h σ α F H g.env g.sta _ fun w F1 H1 s' m1 S1 o1 ⟨i, n, x, e1, hn, hx, q1⟩ => ?_⟩
  subst e1
  have o1 : w = .int i := o1
  subst o1
  obtain ⟨hF1, vs1, hvs1, hd1⟩ := S1.ob k _ p hk hp
  obtain ⟨z, hz, hzd⟩ := hd1.get hx
  have hzd : z = .int x := hzd
  subst hzd
  refine ⟨p.1, vs1, i, .int x, rfl, rfl, SqL.of hvs1, by unfold atI; rw [← hd1.length, hn]; exact hz, ?_⟩
  refine q1 σ α F1 H1 (g.env.mono m1.ex) S1 _ fun v F2 H2 s m2 S2 o2 ⟨y, e2, q2⟩ => ?_
  subst e2
  have o2 : v = .int y := o2
  subst o2
  obtain ⟨hF2, vs2, hvs2, hd2⟩ := S2.ob k _ p hk hp
  refine ⟨x, y, rfl, rfl, p.1, vs2, i, n, rfl, rfl, hvs2, by rw [← hd2.length]; exact hn, ?_⟩
  obtain ⟨m3, S3⟩ := S2.write (m' := .lst (ds.set n (.int (f x y)))) (o := .lst (vs2.set n (.int (f x y)))) hp hF2 ⟨hF2, _, upd_same, hd2.set (d := D.int (f x y)) (v := .int (f x y)) rfl n⟩
  exact ok.nx _ _ F2 _ _ _ ⟨(g.env.mono (m1.trans m2).ex), S3, (g.st.move (m1.trans m2)).move m3⟩ (m1.trans m2).ex q2
end
section
variable {X : Cx}
theorem pget_list {K : PySem.W.Frag} (hK : X.K = K := by rfl) : PGet X (pgL K) := by
  subst hK
  intro pins s σ H o i ov iv Q I r1 r2 h
  obtain ⟨p, xs, k, z, rfl, rfl, hq, he, q⟩ := h
  cases r1
  obtain ⟨t, rfl⟩ := r2
  obtain ⟨its, r, pl, hz⟩ := I.list hq
  obtain ⟨j, h1, h2, h3, h4, h5⟩ := L2.atI_get he
  obtain ⟨w, ew, rw'⟩ := r.get h2
  have hl := r.length
  have hn := line63
  have fin : EP X pins σ Q w s := ⟨z, H, I, rw', q⟩
  by_cases h0 : 0 ≤ k
  · have hj : k.toNat = j := by
      rw [seqIndex_of h0 h5] at h1
      exact Option.some.inj h1
    exact wpAny_getItem_list pl.isList h0 (by omega) (by rw [hj]; simpa using ew) fin
  · have hj : (k + (its.toArray.size : Int)).toNat = j := by
      rw [seqIndex_neg (by omega) h4] at h1
      rw [List.size_toArray, ← hl]
      exact Option.some.inj h1
    exact wpAny_getItem_list_neg pl.isList (by omega) (by rw [List.size_toArray] <;> omega) (by omega) (by rw [hj]; simpa using ew) fin
end
end DL

/-! DL14: the end of a row, for classes and tuples. -/
namespace DL
open PySem L2
section
variable {K : PySem.W.Frag} {mg : Str → Option Value} {R : Prop} {x f : Str} {h : Heap} {C : Addr}
theorem cls_k (X : K.In h) (G : h.Ns mainGlobals mg) (a : PySem.W.nsIn K mainGlobals x = some (some (.ref C))) (pg : PySem.W.plainGet K C Str.empty = true) (hd : PySem.W.hasDictIn K C = true) (po : PySem.W.plainOver K C = true) (sa : PySem.W.findIn K (.ref C) "__setattr__" = some (some (.builtin "object.__setattr__")))
    (ha : PySem.W.findIn K (.ref C) "__class__" = some (some (.builtin "object.__class__"))) (hn : PySem.W.specialIn K (.builtin "object.__class__") "__get__" = some (some (.builtin "getset_descriptor.__get__"))) (htk : PySem.W.takesIn K (.builtin "object.__class__") = some true) (hm : PySem.W.mroIn K C (.type "object") = some true)
    (z : mg x = some (.ref C) → ClsI K C → R) : R := z (PySem.W.mg_of X G a) ⟨⟨pg, hd, po, sa⟩, ha, hn, htk, hm⟩
theorem noattr_k (k : ClsI K C) (h : PySem.W.findIn K (.ref C) f = some none) (z : NoAttr K C f → R) : R := z h
theorem init_k {qual : Str} {st : Stmt} {ps : List Str} {f : Addr} {oc : Value} {od an : Option Addr} {osl : Array (Option Value)} {kV doc pm cdv ct : Value} (cl : ClsI K C)
    (m : PySem.W.makesIn K C = true) (i : PySem.W.findIn K (.ref C) "__init__" = some (some (.ref f))) (fn : PySem.W.isFn K (.ref f) = true) (kp : PySem.W.keepIn K (.ref C) = true) (l : K.lookup f = some ⟨oc, od, .func (PySem.W.fnOf "__init__" qual (defArgs st) (defBody st) (defScope st) .none kV doc pm an cdv ct), osl⟩)
    (c : PySem.W.codeIn K cdv qual = true) (k : PySem.W.keepIn K (.ref f) = true)
    (b : ∀ (kV doc pm : Value) (an : Option Addr) (cdv ct : Value) (us : List Value), us.length = ps.length → bindArgs (PySem.W.fnOf "__init__" qual (defArgs st) (defBody st) (defScope st) .none kV doc pm an cdv ct) ⟨us, []⟩ = pure (ps.zip us)) (z : InitAt K C qual st ps → R) : R :=
  z ⟨f, _, ⟨m, i, fn, kp⟩, fun_mk l c k, (fun_mk (st := st) l c k).binds b⟩
theorem meth_k {qual : Str} {st : Stmt} {ps : List Str} {f : Addr} {oc : Value} {od an : Option Addr} {osl : Array (Option Value)} {kV doc pm cdv ct : Value} (cl : ClsI K C)
    (a : PySem.W.findIn K (.ref C) x = some (some (.ref f))) (i : PySem.W.isFn K (.ref f) = true) (l : K.lookup f = some ⟨oc, od, .func (PySem.W.fnOf x qual (defArgs st) (defBody st) (defScope st) .none kV doc pm an cdv ct), osl⟩)
    (c : PySem.W.codeIn K cdv qual = true) (k : PySem.W.keepIn K (.ref f) = true)
    (b : ∀ (kV doc pm : Value) (an : Option Addr) (cdv ct : Value) (us : List Value), us.length = ps.length → bindArgs (PySem.W.fnOf x qual (defArgs st) (defBody st) (defScope st) .none kV doc pm an cdv ct) ⟨us, []⟩ = pure (ps.zip us)) (z : MethAt K C x qual st ps → R) : R :=
  z (meth_mk a i l c k b)
theorem prop_k {qual : Str} {st : Stmt} {p g : Addr} {rest : List Value} {oc : Value} {od an : Option Addr} {osl : Array (Option Value)} {kV doc pm cdv ct : Value} {p1 p2 p3 : Pos} (cl : ClsI K C) (n : NoAttr K C f)
    (h1 : PySem.W.findIn K (.ref C) x = some (some (.ref p))) (h2 : PySem.W.specialIn K (.ref p) "__get__" = some (some (.builtin "property.__get__"))) (h3 : PySem.W.takesIn K (.ref p) = some true) (h4 : PySem.W.recIn K p "property" = some (.ref g :: rest))
    (l : K.lookup g = some ⟨oc, od, .func (PySem.W.fnOf x qual (defArgs st) (defBody st) (defScope st) .none kV doc pm an cdv ct), osl⟩) (c : PySem.W.codeIn K cdv qual = true) (k : PySem.W.keepIn K (.ref g) = true)
    (S : FnScope ["self"] ["self"] (defScope st)) (hb : defBody st = [.Return (some (.Attribute (.Name "self" p1) f p2)) p3])
    (b : ∀ (kV doc pm : Value) (an : Option Addr) (cdv ct : Value) (us : List Value), us.length = 1 → bindArgs (PySem.W.fnOf x qual (defArgs st) (defBody st) (defScope st) .none kV doc pm an cdv ct) ⟨us, []⟩ = pure ([("self" : Str)].zip us)) (z : Getter K C x f → R) : R :=
  z (prop_mk h1 h2 h3 h4 l c k S hb b cl.cl n)
theorem ctup_k {vs : List V} {o : Obj} {its : Array Value} {n : Nat} (X : K.In h) (G : h.Ns mainGlobals mg) (a : PySem.W.nsIn K mainGlobals x = some (some (.ref C))) (l : K.lookup C = some o) (c : o.cls = .type "tuple") (d : o.data = .seq its n) (s : its.size ≤ sizeLine) (r : Vals vs its.toList) (z : CTup K mg x vs → R) : R :=
  z ⟨C, o, its, n, PySem.W.mg_of X G a, l, c, d, s, r⟩
end
end DL

/-! DL15: calls that hand out a new thing that is to change. -/
namespace DL
open PySem L2
section
variable {K : PySem.W.Frag} {e : Ent} {ρ : Rho} {M : List MO} {te ta tb : TE} {t u : TS} {Q : Sl → Prop} {nx bk ct : Rho → List MO → Prop} {rt : Sl → List MO → Prop}
def SpN {ι : Type} (K : PySem.W.Frag) (args : ι → List D) (pre : ι → Prop) (post : ι → MO → Prop) : Sp := fun vs H Q _ =>
  ∃ (x : ι) (F : Hp), SlsOk K [] F ((args x).map Sl.v) vs ∧ Same F H ∧ pre x ∧ ∀ p F' H' m, Move [] F H F' H' → Sta K [p] [m] F' H' → H p.1 = none → H p.2 = none → post x m → Q (.ref p.1) H'
theorem Sta.join {α : Al} {F H : Hp} {p : Addr × Addr} {m : MO} (S : Sta K α M F H) (T : Sta K [p] [m] F H) (ap : ∀ q, q ∈ α → Apart q p) : Sta K (α ++ [p]) (M ++ [m]) F H := by
  refine ⟨S.sub, by simp [S.len], fun i mo q h1 h2 => ?_, fun i j q r hij h1 h2 => ?_, fun q hq => ?_⟩
  · by_cases hi : i < α.length
    · rw [List.getElem?_append_left (by rw [S.len]; exact hi)] at h1
      rw [List.getElem?_append_left hi] at h2
      exact S.ob i mo q h1 h2
    · have hi2 : i = α.length := by
        have := (List.getElem?_eq_some_iff.mp h2).1
        simp at this; omega
      subst hi2
      rw [← S.len, List.getElem?_append_right (Nat.le_refl _)] at h1
      rw [List.getElem?_append_right (Nat.le_refl _)] at h2
      simp at h1 h2
      subst h1; subst h2
      exact T.ob 0 m p rfl rfl
  · have hj : j < α.length ∨ j = α.length := by
      have := (List.getElem?_eq_some_iff.mp h2).1
      simp at this; omega
    have hi : i < α.length := by omega
    rw [List.getElem?_append_left hi] at h1
    rcases hj with hj | hj
    · rw [List.getElem?_append_left hj] at h2
      exact S.ap i j q r hij h1 h2
    · subst hj
      rw [List.getElem?_append_right (Nat.le_refl _)] at h2
      simp at h2
      subst h2
      exact ap q (List.mem_of_getElem? h1)
  · rcases List.mem_append.mp hq with z | z
    · exact S.tr q z
    · exact T.tr q z
theorem en_callN {ι : Type} {args : ι → List D} {pre : ι → Prop} {post : ι → MO → Prop} {tl : TA} {X : XK} {QN : Sl → List MO → Prop} (h : EvA K tl ρ M fun ss => ∃ x, ss = (args x).map Sl.v ∧ pre x ∧ ∀ m, post x m → QN (.l M.length) (M ++ [m])) : EvN K e (tCall (SpN K args pre post) [] X tl) ρ M QN := fun σ α F H g k kk =>
  h σ α F H g.env g.sta _ fun vs F1 H1 ss m1 S1 o1 ⟨x, e1, hp, q⟩ => by
    subst e1
    refine ⟨x, F1, by rw [List.append_nil]; exact o1.ofD, S1.sub, hp, fun p F' H' m m2 S2 n1 n2 pm => ?_⟩
    have S3 := S1.keep0 m2 S2.sub
    have S4 := S3.join S2 fun r hr => by
      have := S1.tr r hr
      exact ⟨fun z => this.1 (by rw [z]; exact n1), fun z => this.1 (by rw [z]; exact n2), fun z => this.2 (by rw [z]; exact n1), fun z => this.2 (by rw [z]; exact n2)⟩
    have st1 := g.st.move (m1.trans (m2.widen fun _ h => by simp at h))
    have st : StepE e (α ++ [p]) F' H' := ⟨st1.ex, st1.fr, st1.tr, st1.new, by
      obtain ⟨β, b1, hβ⟩ := st1.pre
      refine ⟨β ++ [p], by rw [b1, List.append_assoc], fun r hr => ?_⟩
      rcases List.mem_append.mp hr with z | z
      · exact hβ r z
      · simp at z; subst z
        exact ⟨none_back ((g.st.move m1).tr _) n1, none_back ((g.st.move m1).tr _) n2⟩⟩
    exact kk _ _ F' H' (.l M.length) (M ++ [m]) ⟨(g.env.mono (m1.ex.trans m2.ex)).more, S4, st⟩ (m1.ex.trans m2.ex) ⟨_, rfl⟩ ⟨p, by rw [S1.len, List.getElem?_append_right (Nat.le_refl _)]; simp, rfl⟩ (q m pm)
theorem fn_runN {ι : Type} {args : ι → List D} {pre : ι → Prop} {post : ι → MO → Prop} {N : List Str} {t : TS}
    (h : ∀ x e, pre x → e.α.length = 0 → RunD K e t (startR N.length ((args x).map Sl.v)) [] (fun _ _ => False) (fun s M' => ∃ k m, s = .l k ∧ M'[k]? = some m ∧ post x m) (fun _ _ => False) (fun _ _ => False)) :
    ∀ vs H Q E, SpN K args pre post vs H Q E → t { nx := fun _ H' => Q .non H', rt := Q } (L2.start N vs) H := by
  rintro vs H Q E ⟨x, F, ho, sub, hp, k⟩
  refine h x ⟨[], F, H⟩ hp rfl _ (L2.start N vs) [] F H ⟨env_start ho, sta_nil sub, .refl⟩ ⟨fun _ _ _ _ _ _ _ _ q => q.elim, fun v s α' F' H' M' o S' st _ ⟨j, m, e1, hM, pm⟩ => ?_, fun _ _ _ _ _ _ _ _ q => q.elim, fun _ _ _ _ _ _ _ _ q => q.elim⟩
  subst e1
  obtain ⟨p, hpj, rfl⟩ := o
  obtain ⟨β, b1, hβ⟩ := st.pre
  have b1 : α' = [] ++ β := b1
  have hn := hβ p (by rw [List.nil_append] at b1; rw [← b1]; exact List.mem_of_getElem? hpj)
  exact k p F' H' m ⟨st.ex, st.fr, st.tr, st.new⟩ (sta_one S' hpj hM) hn.1 hn.2 pm
end
section
variable {P : Program} {w : World} {K : PySem.W.Frag} {mg : Str → Option Value} {base : Heap}
theorem fn_atN {ι : Type} {x : Str} {st : Stmt} {ps N : List Str} {k : Nat} {args : ι → List D} {pre : ι → Prop} {post : ι → MO → Prop} (D0 : DefAt K mg x st ps) (S : FnScope N ps (defScope st)) (hl : ∀ i, (args i).length = ps.length)
    (body : ∀ (f : Addr) (cdv : Value) (A : Around) (outer : List Env) (s : Shared) (H : Hp) (E : XK), Room k (A.deeper (PyProof.Rows.envOfC x (defScope st) s.heap.objs.size f cdv)) →
      ∃ t, PSs (cxOf CX0 P w K mg base N x (defScope st) f cdv A outer s H E).nox (defBody st) t ∧
        ∀ i e, pre i → e.α.length = 0 → RunD K e t (startR N.length ((args i).map Sl.v)) [] (fun _ _ => False) (fun s M' => ∃ k m, s = .l k ∧ M'[k]? = some m ∧ post i m) (fun _ _ => False) (fun _ _ => False)) :
    FnAt P w K mg base CX0 (k + 1) x ps (SpN K args pre post) :=
  fn_atR D0 S (fun vs H Q E ⟨i, F, o, _⟩ => by rw [← o.length, List.length_map, hl]) fun f cdv A outer s H E hr => by
    obtain ⟨t, ht, hi⟩ := body f cdv A outer s H E hr
    exact ⟨t, ht, fun vs Q E' h => fn_runN hi vs H Q E' h⟩
end
end DL

/-! DL16: sets of numbers by a list: sorted(set(xs)), len(set(xs)). -/
namespace DL
open PySem L2 PyProof.Rows
abbrev setO (w : World) : Obj := { cls := .type "set", dict := none, data := .set #[] 0 (.fresh 0 0 (!w.params.followText "set-order")) }
abbrev litO (l : Addr) : Obj := { cls := .type "list_iterator", data := .fields #[.ref l, .int 0 0] }
section
variable {P : Program} {w : World} {A : Around} {E : Value → Shared → Prop} {s : Shared}
theorem set_upd {l : Addr} {items : Array Value} (ns : List Int) (hh : A.handled = none) (hl : (s.heap.push (setO w)).IsList l items) (hls : l < s.heap.objs.size) (hit : IntsAre items.toList ns) (hb : ns.length + 1 < scanBound) {R : Result → Shared → Prop}
    (h : ∀ (s' : Shared) c, Moved (s.heap.objs.size :: [(s.heap.push (setO w)).objs.size]) (fun a b => b = a) { s with heap := (s.heap.push (setO w)).push (litO l) } s' → SetR w s'.heap s.heap.objs.size (fun j => decide (j ∈ ns)) c → R (.ok (.ret .none)) s') :
    codeAny (model P w) A (.builtin "set.update.loop" ⟨[.ref s.heap.objs.size, .ref (s.heap.push (setO w)).objs.size], []⟩) R { s with heap := (s.heap.push (setO w)).push (litO l) } := by
  have hsz : items.size = ns.length := by
    have q := IntsAre.length hit
    rwa [Array.length_toList] at q
  have h3 : A.in1.handled = none := by simp [hh]
  have hz : (s.heap.push (setO w)).objs.size = s.heap.objs.size + 1 := Heap.size_push ..
  have n1 : l ≠ (s.heap.push (setO w)).objs.size := by rw [hz]; exact Nat.ne_of_lt (Nat.lt_succ_of_lt hls)
  have n2 : s.heap.objs.size ∉ [(s.heap.push (setO w)).objs.size, l] := by
    rw [hz]
    simp only [List.mem_cons, List.not_mem_nil, or_false, not_or]
    exact ⟨Nat.ne_of_lt (Nat.lt_succ_self _), Nat.ne_of_gt hls⟩
  have hv : ∀ (i : Nat) (v : Value), items[i]? = some v → ∃ k t, ns[i]? = some k ∧ v = .int k t := fun i v e => by
    have hi : i < ns.length := by rw [← hsz]; exact (Array.getElem?_eq_some_iff.mp e).1
    obtain ⟨t, z⟩ := IntsAre.int_at hit i v (by rw [Array.getElem?_toList]; exact e)
    exact ⟨ns[i], t, List.getElem?_eq_getElem hi, by rw [z, List.getD_eq_getElem?_getD, List.getElem?_eq_getElem hi]; rfl⟩
  have g0 : ((s.heap.push (setO w)).push (litO l)).get? s.heap.objs.size = some (setO w) := Heap.get?_push_of_some _ (Heap.get?_push_size _ rfl)
  refine set_update_ints ((Walks.list h3 _ l n1 items).toS) s.heap.objs.size n2 ns hsz hb hv _ 0 _ rfl (Nat.zero_le _) ⟨⟨_, Heap.get?_push_size _ rfl, rfl, rfl⟩, hl.push _⟩ ⟨0, Nat.le_refl 0, setR_new_at g0⟩ fun s' c m _ r => h s' c m r
theorem set_listR {l : Addr} {items : Array Value} (ns : List Int) {Q : Value → Shared → Prop} (hh : A.handled = none) (hl : s.heap.IsList l items) (hit : IntsAre items.toList ns) (hb : ns.length + 1 < scanBound)
    (h : ∀ (h' : Heap) (tk c : Nat), SetR w h' s.heap.objs.size (fun j => decide (j ∈ ns)) c → (∀ b o, s.heap.get? b = some o → h'.get? b = some o) → Q (.ref s.heap.objs.size) { s with heap := h', toks := tk }) : wpAny (model P w) A (call (.type "set") [.ref l]) Q E s := by
  have hmade := F.called_set.made
  obtain ⟨cc, tl, hmro⟩ := F.called_set.mro
  have hsub := F.called_set.sub
  have h1 := F.called_set.notType
  have h2 := F.called_set.canCreate
  have hct := F.typeCall_set_1 (.ref l)
  refine wpAny_call (codeAny_of_tree ?_)
  show wpAny _ _ (callAny (.type "set") _) _ _ _
  refine wpAny_pure ⟨Code.quiet_builtin _ (by decide +kernel), codeAny_builtin F.entry_type_call ?_⟩
  rw [Around.under_plain (weight_type_call_type "set" [.ref l] []) rfl]
  repeat (any_goals (first | assumption | wp_step))
  refine codeAny_mono (code_set_led1 (.ref l) (E := E) (Q₁ := fun ob s1 => ob = .ref s.heap.objs.size ∧ s1 = { s with heap := s.heap.push (setO w) }) ⟨rfl, rfl⟩) fun r s1 hr => ?_
  match r, hr with
  | .error e, hr => exact hr
  | .ok (.ret ob), hr =>
    obtain ⟨rfl, rfl⟩ := hr
    have g0 : (s.heap.push (setO w)).get? s.heap.objs.size = some (setO w) := Heap.get?_push_size _ rfl
    have ty : Shared.TypeIs { s with heap := s.heap.push (setO w) } (.ref s.heap.objs.size) "set" := ⟨_, g0, rfl⟩
    have ini := F.called_set.init.lookup
    have bnd := F.called_set.init.bind (.ref s.heap.objs.size)
    repeat (any_goals (first | assumption | wp_step))
    refine codeAny_mono (codeAny_call_builtin (R := wants (fun r s2 => r = .none ∧ ∃ h' tk c, s2 = { s with heap := h', toks := tk } ∧ SetR w h' s.heap.objs.size (fun j => decide (j ∈ ns)) c ∧ ∀ b o, s.heap.get? b = some o → h'.get? b = some o) E) F.called_set.init.plain F.entry_set_init (check_set_init_1 ty ?_)) fun r2 s2 hr2 => ?_
    · obtain ⟨⟨cl, di, da, sl⟩, hol, e1, nl, e2⟩ := hl
      simp only at e1 e2
      subst e1; subst e2
      have a1 : (s.heap.push (setO w)).get? l = some ⟨.type "list", di, .seq items nl, sl⟩ := Heap.get?_push_of_some _ hol
      have a2 := F.sub_list_set
      have a3 := F.sub_list_frozenset
      have a4 : (Value.type "list" == Value.type "dict") = false := by decide
      have il : (s.heap.push (setO w)).IsList l items := ⟨_, a1, rfl, nl, rfl⟩
      unfold Builtin.«set.__init__» noKeywords Builtin.Frozenset.updateFrom
      generalize hPI : pyIter = PI
      wp_walk
      subst hPI
      refine wpAny_pyIter_list il (wpAny_bind (wpAny_runValue ?_))
      refine set_upd (A := A.in1.in1) ns (by simp [hh]) il (Heap.lt_size hol) hit hb fun s' c hm hS => ?_
      obtain ⟨h', g2, d', tk', os'⟩ := s'
      obtain rfl : g2 = s.gens := hm.gens
      obtain rfl : d' = s.drawn := hm.drawn
      obtain rfl : os' = s.os := hm.os
      show wpAny _ _ _ _ _ _
      refine wpAny_pure ?_
      show wpAny _ _ (ret Value.none) _ _ _
      refine wpAny_pure ⟨rfl, h', tk', c, rfl, hS, fun b o e => ?_⟩
      have lt := Heap.lt_size e
      refine hm.heap b o ?_ (Heap.get?_push_of_some _ (Heap.get?_push_of_some _ e))
      rw [Heap.size_push]
      simp only [List.mem_cons, List.not_mem_nil, or_false, not_or]
      exact ⟨Nat.ne_of_lt lt, Nat.ne_of_lt (Nat.lt_succ_of_lt lt)⟩
    · match r2, hr2 with
      | .error e, hr2 => exact hr2
      | .ok (.ret r3), hr2 =>
        obtain ⟨rfl, h', tk, c, rfl, hS, hk⟩ := hr2
        repeat (any_goals (first | assumption | wp_step))
        exact h _ _ _ hS hk
end
/-- members without repeats -/
def Mems (ns ms : List Int) : Prop := ms.Nodup ∧ ∀ k, k ∈ ms ↔ k ∈ ns
def tSortSet (K : PySem.W.Frag) (ta : TE) : TE := fun σ H Q => ta σ H fun x H1 => ∃ (l : Addr) (ns : List Int), x = V.ref l ∧ SqL K H1 l (ns.map V.int) ∧ ns.length ≤ 4000 ∧ (∀ ms, Mems ns ms → ms.length < 64) ∧ ∀ (ms : List Int) p, ms.Pairwise (· < ·) → (∀ k, k ∈ ms ↔ k ∈ ns) → H1 p = none → Q (.ref p) (upd H1 p (.lst (ms.map V.int)))
def tLenSet (K : PySem.W.Frag) (ta : TE) : TE := fun σ H Q => ta σ H fun x H1 => ∃ (l : Addr) (ns : List Int), x = V.ref l ∧ SqL K H1 l (ns.map V.int) ∧ ns.length ≤ 4000 ∧ ∀ ms : List Int, Mems ns ms → Q (.int ms.length) H1
section
variable {X : Cx}
theorem pe_sortSet {K : PySem.W.Frag} {a : Expr} {ta : TE} {p p2 q pos : Pos} (hc : X.calm = true) (hm : X.mg "sorted" = none) (hm2 : X.mg "set" = none) (hg : Gl X "sorted") (hg2 : Gl X "set") (ha : PE X a ta)
    (na : starEach [a] X.env = (false, eval a X.env) :: starEach [] X.env := by rfl) (hK : X.K = K := by rfl) : PE X (.Call (.Name "sorted" p) [.Call (.Name "set" p2) [a] [] q] [] pos) (tSortSet K ta) := by
  subst hK
  refine ⟨fun pins s σ H Q I h => ?_⟩
  refine Call_ (ld_blt I hg hm (show bootBuiltins "sorted" = some (.builtin "sorted") by decide +kernel) ?_)
  refine PyProof.Rows.callWith_builtin1 (PyProof.Rows.args_cons ?_ rfl) rfl rfl
  refine Call_ (ld_blt I hg2 hm2 PyProof.Rows.boot_set ?_)
  refine PyProof.Rows.callWith_type1 (PyProof.Rows.args_cons (thn (ha.run pins s σ H _ I h) fun v s1 ⟨x, H1, I1, r1, q1⟩ => PyProof.Rows.args_nil ?_) na) na rfl
  obtain ⟨l, ns, rfl, hq, hn, h64, q1⟩ := q1
  cases r1
  obtain ⟨its, r, pl, hz⟩ := I1.list hq
  refine set_listR ns (I1.ok.hd hc) pl.isList (by simpa using r.ints) (by unfold scanBound; omega) fun h' tk c hS hk => PyProof.Rows.args_nil ?_
  have I2 : Inv X pins σ H1 { s1 with heap := h', toks := tk } := I1.kept fun b o e => hk b o e
  have hc64 : c < 64 := by
    obtain ⟨o, es, ep, t, _, _, _, _, nd, hm, _, _, hn, _⟩ := hS
    have := h64 (es.toList.map keyOf) ⟨nd, fun k => by rw [← hm k, decide_eq_true_eq]⟩
    rw [List.length_map, Array.length_toList] at this
    omega
  refine sorted_set hS (I1.ok.hd hc) hc64 fun s' p out c2 ms k1 g1 o1 hp hget hi hs hmem hlen => ?_
  have hlen2 : (ms.map V.int).length ≤ sizeLine := by rw [List.length_map, hlen, sizeLine_eq]; omega
  have hfree : H1 p = none := I2.hok.fresh hp
  have J : Inv X pins σ (upd H1 p (.lst (ms.map V.int))) { ({ s1 with heap := h', toks := tk } : Shared) with heap := s'.heap, gens := s'.gens, drawn := s'.drawn, toks := s'.toks } :=
    I2.call (ch := []) (Un.laid k1 hp hfree) (I2.hok.laid k1 hp ⟨hlen2, out.toList, c2, vals_of_ints hi, hget⟩) (by rw [g1]; exact I2.bare) (fun _ z => nomatch z)
  have es : s' = { s1 with heap := s'.heap, gens := s'.gens, drawn := s'.drawn, toks := s'.toks } := by
    obtain ⟨x1, x2, x3, x4, x5⟩ := s'
    obtain rfl : x5 = s1.os := o1
    rfl
  rw [es]
  exact ⟨.ref p, _, J, rfl, q1 ms p hs (fun k => by rw [hmem k, decide_eq_true_eq]) hfree⟩
theorem pe_lenSet {K : PySem.W.Frag} {a : Expr} {ta : TE} {p p2 q pos : Pos} (hc : X.calm = true) (hm : X.mg "len" = none) (hm2 : X.mg "set" = none) (hg : Gl X "len") (hg2 : Gl X "set") (ha : PE X a ta)
    (na : starEach [a] X.env = (false, eval a X.env) :: starEach [] X.env := by rfl) (hK : X.K = K := by rfl) : PE X (.Call (.Name "len" p) [.Call (.Name "set" p2) [a] [] q] [] pos) (tLenSet K ta) := by
  subst hK
  refine ⟨fun pins s σ H Q I h => ?_⟩
  refine Call_ (ld_blt I hg hm PySem.boot_len ?_)
  refine PyProof.Rows.callWith_builtin1 (PyProof.Rows.args_cons ?_ rfl) rfl rfl
  refine Call_ (ld_blt I hg2 hm2 PyProof.Rows.boot_set ?_)
  refine PyProof.Rows.callWith_type1 (PyProof.Rows.args_cons (thn (ha.run pins s σ H _ I h) fun v s1 ⟨x, H1, I1, r1, q1⟩ => PyProof.Rows.args_nil ?_) na) na rfl
  obtain ⟨l, ns, rfl, hq, hn, q1⟩ := q1
  cases r1
  obtain ⟨its, r, pl, hz⟩ := I1.list hq
  refine set_listR ns (I1.ok.hd hc) pl.isList (by simpa using r.ints) (by unfold scanBound; omega) fun h' tk c hS hk => PyProof.Rows.args_nil ?_
  have I2 : Inv X pins σ H1 { s1 with heap := h', toks := tk } := I1.kept fun b o e => hk b o e
  obtain ⟨o, es, ep, t, ho, hex, hd, _, nd, hm3, hb, hf, _⟩ := hS
  have hM : Mems ns (es.toList.map keyOf) := ⟨nd, fun k => by rw [← hm3 k, decide_eq_true_eq]⟩
  have q2 := q1 _ hM
  rw [List.length_map, Array.length_toList] at q2
  exact call_len_set ho hex hd hf (by unfold scanBound at hb; omega) ⟨.int es.size, H1, I2.tok _, ⟨_, rfl⟩, q2⟩
/-- sorted(xs), any number -/
theorem pe_sortedI {K : PySem.W.Frag} {e : Expr} {t : TA} {p pos : Pos} (b : X.mg "sorted" = none) (hg : Gl X "sorted") (ha : PA X [e] t) (he : starEach [e] X.env = (false, eval e X.env) :: starEach [] X.env := by rfl) (hpl : (backTo pos (starEach [] X.env)).any (·.1) = false := by rfl) (hK : X.K = K := by rfl) : PE X (.Call (.Name "sorted" p) [e] [] pos) (tCB (rSortedI K) t) := by
  subst hK
  exact pe_callB cr_sortedI hg b (by decide +kernel) ha (by decide) (by decide) he hpl
/-- list(d), d a dict -/
theorem pe_listD {e : Expr} {t : TA} {p pos : Pos} (hc : X.calm = true) (b : X.mg "list" = none) (hg : Gl X "list") (ha : PA X [e] t) (he : starEach [e] X.env = (false, eval e X.env) :: starEach [] X.env := by rfl) (hpl : (backTo pos (starEach [] X.env)).any (·.1) = false := by rfl) : PE X (.Call (.Name "list" p) [e] [] pos) (tCB rListD t) :=
  pe_callTy (call_list_dK hc) hg b (by decide +kernel) ha (by decide) (by decide) he hpl
end
section
variable {K : PySem.W.Frag} {e : Ent} {ρ : Rho} {M : List MO} {Q : Sl → Prop} {te ta tb : TE}
theorem ev_sortSet (h : EvP K ta ρ M fun x => ∃ ns, RdL M x (D.ints ns) ∧ ns.length ≤ 4000 ∧ (∀ ms, Mems ns ms → ms.length < 64) ∧ ∀ ms : List Int, ms.Pairwise (· < ·) → (∀ k, k ∈ ms ↔ k ∈ ns) → Q (.v (.lst (D.ints ms)))) : EvP K (tSortSet K ta) ρ M Q := fun σ α F H en S k kk =>
  h σ α F H en S _ fun v F1 H1 s m1 S1 o1 ⟨ns, hr, h1, h2, q⟩ => by
    obtain ⟨a, vs, rfl, hvs, hd⟩ := hr.get S1 o1
    have ev := hd.ofInts
    subst ev
    refine ⟨a, ns, rfl, SqL.of hvs, h1, h2, fun ms p g1 g2 hp => ?_⟩
    obtain ⟨m2, S2⟩ := S1.laid (o := .lst (ms.map V.int)) hp
    exact kk (.ref p) _ _ (.v (.lst (D.ints ms))) (m1.trans m2) S2 (show Den K _ (.lst (D.ints ms)) _ from ⟨p, _, rfl, upd_same, by
      have e : D.ints ms = (ms.map V.int).map D.raw := by simp [D.ints, Function.comp_def]
      rw [e]; exact Dens.raws⟩) (q ms g1 g2)
theorem ev_lenSet (h : EvP K ta ρ M fun x => ∃ ns, RdL M x (D.ints ns) ∧ ns.length ≤ 4000 ∧ ∀ ms : List Int, Mems ns ms → Q (.v (.int ms.length))) : EvP K (tLenSet K ta) ρ M Q := fun σ α F H en S k kk =>
  h σ α F H en S _ fun v F1 H1 s m1 S1 o1 ⟨ns, hr, h1, q⟩ => by
    obtain ⟨a, vs, rfl, hvs, hd⟩ := hr.get S1 o1
    have ev := hd.ofInts
    subst ev
    exact ⟨a, ns, rfl, SqL.of hvs, h1, fun ms g => kk _ _ _ _ m1 S1 raw_ok (q ms g)⟩
theorem ec_sortedI {x : Sl} {ns : List Int} (h : RdL M x (D.ints ns)) (q : ∀ ns' : List Int, ns'.Perm ns → ns'.Pairwise (· ≤ ·) → Q (.v (.lst (D.ints ns')))) : EvC K (rSortedI K) M [x] Q := fun α F H us S o k kk => by
  obtain ⟨u, r, rfl, o1, o2⟩ := o
  have o2 : r = [] := o2
  subst o2
  obtain ⟨a, vs, rfl, hvs, hd⟩ := h.get S o1
  have ev := hd.ofInts
  subst ev
  refine ⟨a, ns, rfl, SqL.of hvs, fun ms p g1 g2 hp => ?_⟩
  obtain ⟨m2, S2⟩ := S.laid (o := .lst (ms.map V.int)) hp
  exact kk (.ref p) _ _ (.v (.lst (D.ints ms))) m2 S2 (show Den K _ (.lst (D.ints ms)) _ from ⟨p, _, rfl, upd_same, by
    have e : D.ints ms = (ms.map V.int).map D.raw := by simp [D.ints, Function.comp_def]
    rw [e]; exact Dens.raws⟩) (q ms g1 g2)
theorem ec_listD {k : Nat} {ks : List Key} {ds : List D} (hk : M[k]? = some (.dic ks ds)) (q : Q (.v (.lst (ks.map fun j => .raw (kV j))))) : EvC K rListD M [.l k] Q := fun α F H us S o kk ok => by
  obtain ⟨u, r, rfl, ⟨p, hp, rfl⟩, o2⟩ := o
  have o2 : r = [] := o2
  subst o2
  obtain ⟨hF, vs, hvs, hl, hd⟩ := S.ob k _ p hk hp
  refine ⟨p.1, _, rfl, hvs, fun x hx => ?_⟩
  have e : ((ks.zip vs).map fun kv => kV kv.1) = ks.map kV := by
    have : (fun kv : Key × V => kV kv.1) = kV ∘ Prod.fst := rfl
    rw [this, ← List.map_map, List.map_fst_zip (by omega)]
  rw [e]
  obtain ⟨m2, S2⟩ := S.laid (o := .lst (ks.map kV)) hx
  exact ok (.ref x) _ _ (.v (.lst (ks.map fun j => D.raw (kV j)))) m2 S2 (show Den K _ (.lst (ks.map fun j => D.raw (kV j))) _ from ⟨x, _, rfl, upd_same, by
    have e : (ks.map fun j => D.raw (kV j)) = (ks.map kV).map D.raw := by simp [Function.comp_def]
    rw [e]; exact Dens.raws⟩) q
end
end DL

/-! DL17: methods; lists within objects that are being made (pinned at their addresses); xs += ys. -/
namespace DL
open PySem L2
structure MFnAt (P : Program) (w : World) (K : PySem.W.Frag) (mg : Str → Option Value) (base : Heap) (k : Nat) (C : Addr) (x : Str) (ps : List Str) (sp : Sp) : Prop where
  ex : ∃ f fd, Meth K C x f ∧ Binds K fd ps [] ∧ FnOk P w K mg base CX0 k f fd ps sp
section
variable {P : Program} {w : World} {K : PySem.W.Frag} {mg : Str → Option Value} {base : Heap}
theorem mfn_at {ι : Type} {C : Addr} {x qual : Str} {st : Stmt} {ps N : List Str} {k : Nat} {args : ι → List Sl} {Mi : ι → List MO} {pre : ι → Prop} {post : ι → D → List MO → Prop} (D0 : MethAt K C x qual st ps) (S : FnScope N ps (defScope st)) (hl : ∀ i, (args i).length = ps.length)
    (body : ∀ (f : Addr) (cdv : Value) (A : Around) (outer : List Env) (s : Shared) (H : Hp) (E : XK), Room k (A.deeper (PyProof.Rows.envOfC qual (defScope st) s.heap.objs.size f cdv)) →
      ∃ t, PSs (cxOf CX0 P w K mg base N qual (defScope st) f cdv A outer s H E).nox (defBody st) t ∧
        ∀ i e, pre i → e.α.length = (Mi i).length → RunD K e t (startR N.length (args i)) (Mi i) (fun _ M' => post i .non (M'.take (Mi i).length)) (RetOk (Mi i).length (post i)) (fun _ _ => False) (fun _ _ => False)) :
    MFnAt P w K mg base (k + 1) C x ps (SpF K args Mi pre post) := by
  obtain ⟨f, fd, F, h1, h2, hb⟩ := D0.ex
  refine ⟨f, fd, ⟨h1, h2, F.kp⟩, hb, F.ok S (fun vs H Q E h => ?_) fun cdv A outer s H vs Q E hr h => ?_⟩
  · obtain ⟨i, α, F', o, _⟩ := h
    rw [← o.length, hl]
  · obtain ⟨t, ht, hi⟩ := body f cdv A outer s H E hr
    exact ⟨t, ht, fn_run hi vs H Q E h⟩
end
section
variable {X : Cx} {C : Addr} {x : Str} {k : Nat} {ps : List Str} {sp : Sp} {o e : Expr} {es : List Expr} {ta : TE} {t : TA} {apos pos : Pos}
theorem pe_mth {pl : Sem Bool} (F : MFnAt X.prog X.w X.K X.mg X.base k C x ps sp) (c : Cls X.K C) (hr : Room k X.A) (he : PE X o ta) (ha : PA X (e :: es) t)
    (hst : starEach (e :: es) X.env = (false, eval e X.env) :: starEach es X.env := by rfl) (hpl : (backTo pos (starEach es X.env)).any (·.1) = false := by rfl)
    (ht : eval (.Call (.Attribute o x apos) (e :: es) [] pos) X.env = (do
      let ov ← eval o X.env
      standAt apos.atName
      let (f, first) ← holding [ov] (getMethod ov x pl)
      callWith pos f first (backTo pos (starEach (e :: es) X.env)) (backToKw pos (keywordEach [] X.env))) := by rfl) : PE X (.Call (.Attribute o x apos) (e :: es) [] pos) (tMeth C x sp [] E0 ta t) := by
  obtain ⟨f, fd, hm, hb, F⟩ := F.ex
  exact pe_meth he c hm F hr hb .nil pass0 ha hst hpl ht
theorem pe_mth0 {pl : Sem Bool} (F : MFnAt X.prog X.w X.K X.mg X.base k C x ps sp) (c : Cls X.K C) (hr : Room k X.A) (he : PE X o ta)
    (ht : eval (.Call (.Attribute o x apos) [] [] pos) X.env = (do
      let ov ← eval o X.env
      standAt apos.atName
      let (f, first) ← holding [ov] (getMethod ov x pl)
      callWith pos f first (backTo pos (starEach [] X.env)) (backToKw pos (keywordEach [] X.env))) := by rfl) : PE X (.Call (.Attribute o x apos) [] [] pos) (tMeth C x sp [] E0 ta tNil) := by
  obtain ⟨f, fd, hm, hb, F⟩ := F.ex
  exact pe_meth0 he c hm F hr hb .nil pass0 ht
end
section
variable {K : PySem.W.Frag} {e : Ent} {ρ : Rho} {M : List MO} {te ta tb to ti : TE} {t u : TS} {Q : Sl → Prop} {QN : Sl → List MO → Prop} {nx bk ct : Rho → List MO → Prop} {rt : Sl → List MO → Prop}
theorem lookup_no {m : Str} : ∀ {ns : List Str} {vs : List V}, m ∉ ns → (ns.zip vs).lookup m = none
  | [], _, _ => rfl
  | n :: ns, [], _ => rfl
  | n :: ns, v :: vs, h => by
    have h1 : m ≠ n := fun z => h (by rw [z]; simp)
    rw [List.zip_cons_cons, List.lookup_cons]
    have : (m == n) = false := by simpa using h1
    rw [this]
    exact lookup_no fun z => h (List.mem_cons_of_mem _ z)
theorem ev_mth {ι : Type} {C : Addr} {m : Str} {args : ι → List D} {pre : ι → Prop} {post : ι → D → Prop} {tl : TA} {X : XK} (h : EvP K ta ρ M fun s => ∃ ns ds, s = .v (.ins C ns ds) ∧ m ∉ ns ∧ EvA K tl ρ M fun ss => ∃ x, s :: ss = (args x).map Sl.v ∧ pre x ∧ ∀ d, post x d → Q (.v d)) :
    EvP K (tMeth C m (SpP K args pre post) [] X ta tl) ρ M Q := fun σ α F H en S k kk =>
  h σ α F H en S _ fun v F1 H1 s m1 S1 o1 ⟨ns, ds, e1, hm, q1⟩ => by
    subst e1
    obtain ⟨a, dx, vs, rfl, h1, h2, h3⟩ := id o1
    refine ⟨a, dx, _, rfl, S1.sub _ _ h1, lookup_no hm, q1 σ α F1 H1 (en.mono m1.ex) S1 _ fun us F2 H2 ss m2 S2 o2 ⟨x, e2, hp, q⟩ => ?_⟩
    have o3 : SlsOk K α F2 ((args x).map Sl.v) (.ref a :: us) := by
      rw [← e2]
      exact ⟨_, us, rfl, o1.mono m2.ex, o2⟩
    refine ⟨x, [], F2, by rw [List.append_nil]; exact o3.ofD, sta_nil S2.sub, hp, fun v F' H' d M' m3 S3 o4 p3 => ?_⟩
    exact kk v F' H' (.v d) ((m1.trans m2).trans (m3.widen fun _ h => by simp at h)) (S2.keep0 m3 S3.sub) o4 (q d p3)
/-! pinned lists -/
theorem en_pin {tl : TA} (h : EvNA K e tl ρ M fun ss M' => ∃ ds : List D, ss = ds.map Sl.v ∧ ds.length ≤ 16777216 ∧ ∀ p : Addr, QN (.v (.raw (.ref p))) (M' ++ [.pin p ds])) : EvN K e (tLst tl) ρ M QN := fun σ α F H g k kk =>
  h σ α F H g _ fun vs α1 F1 H1 ss M1 g1 x1 ⟨β, b1⟩ o1 ⟨ds, e1, hl, q1⟩ => by
    subst e1
    have hd := o1.dens
    refine ⟨by rw [← hd.length, sizeLine_eq]; exact hl, fun p hp => ?_⟩
    have S2 := g1.sta.more (m' := .pin p ds) (o := .lst vs) hp ⟨g1.sta.sub.free hp, rfl, vs, upd_same, hd⟩
    exact kk (.ref p) _ F1 _ (.v (.raw (.ref p))) _ ⟨g1.env.more, S2, g1.st.more hp⟩ x1 ⟨β ++ [(p, p)], by rw [b1, List.append_assoc]⟩ raw_ok (q1 p)
/-- self.f = e -/
theorem r_fldN {j k : Nat} {f : Str} {C : Addr} (hc : Cls K C) (hn : NoAttr K C f) (hj : ρ[j]? = some (some (.l k))) (h : EvN K e te ρ M fun s M' => ∃ d ns ds, s = .v d ∧ M'[k]? = some (.ins C ns ds) ∧ ns.length < 1000 ∧ nx ρ (M'.set k (.ins C (putD f d ns ds).1 (putD f d ns ds).2))) :
    RunD K e (sFld K (tVar j) te f) ρ M nx rt bk ct := fun X σ α F H g ok =>
  h σ α F H g _ fun v α1 F1 H1 s M1 g1 x1 _ o1 ⟨d, ns, ds, e1, hk, hl, q1⟩ => by
    subst e1
    obtain ⟨u, h1, p, hp, rfl⟩ := g1.env.at' j _ hj
    obtain ⟨hF1, dx, vs, hvs, hlen, hd1⟩ := g1.sta.ob k _ p hk hp
    obtain ⟨ws, w1, w2, w3⟩ := putD_ok (f := f) (d := d) (v := v) o1 hlen hd1
    refine ⟨_, h1, p.1, C, dx, _, rfl, hvs, hc, hn, by rw [List.length_zip]; omega, ?_⟩
    obtain ⟨m2, S2⟩ := g1.sta.write (m' := .ins C (putD f d ns ds).1 (putD f d ns ds).2) (o := .ins C dx (putF f v (ns.zip vs))) hp hF1 ⟨hF1, dx, ws, by rw [w1]; exact upd_same, w2, w3⟩
    exact ok.nx _ _ F1 _ _ _ ⟨g1.env, S2, g1.st.move m2⟩ x1 q1
theorem pin_ob {α : Al} {F H : Hp} (S : Sta K α M F H) {k : Nat} {p : Addr} {ds : List D} (hk : M[k]? = some (.pin p ds)) : ∃ q, α[k]? = some q ∧ q.1 = p ∧ F p = none ∧ ∃ vs, H p = some (.lst vs) ∧ Dens K F ds vs := by
  obtain ⟨q, hq⟩ := sta_get S hk
  obtain ⟨h1, h2, vs, h3, h4⟩ := S.ob k _ q hk hq
  refine ⟨q, hq, h2, by rw [← h2]; exact h1, vs, by rw [← h2]; exact h3, h4⟩
theorem x_ixP {p : Addr} {i : Int} (h : ∃ (k : Nat) (ds : List D) (d : D), M[k]? = some (MO.pin p ds) ∧ atI ds i = some d ∧ Q (.v d)) : EvR K (rIx K) M (.v (.raw (.ref p))) (.v (.int i)) Q :=
  let ⟨_, _, _, hk, ha, q⟩ := h
  g_ixL (.p hk) ha q
/-- e.append(x), e a pinned list -/
theorem r_appP (h : EvP K to ρ M fun s => ∃ (p : Addr) (k : Nat) (ds : List D), s = .v (.raw (.ref p)) ∧ M[k]? = some (MO.pin p ds) ∧ EvP K te ρ M fun s' => ∃ d, s' = .v d ∧ ds.length < 16777216 ∧ nx ρ (M.set k (.pin p (ds ++ [d])))) :
    RunD K e (tDrop (tBM K "list" rAppend to (tCons te tNil))) ρ M nx rt bk ct := fun X σ α F H g ok =>
  h σ α F H g.env g.sta _ fun v F1 H1 s m1 S1 o1 ⟨p, k, ds, e1, hk, q1⟩ => by
    subst e1
    have o1 : v = .ref p := o1
    subst o1
    obtain ⟨q0, hq0, e0, hF, vs, hvs, hd⟩ := pin_ob S1 hk
    refine ⟨.inl ⟨rfl, vs, SqL.of hvs⟩, q1 σ α F1 H1 (g.env.mono m1.ex) S1 _ fun v F2 H2 s m2 S2 o2 ⟨d, e2, hl, q2⟩ => ?_⟩
    subst e2
    obtain ⟨q1', hq1, e1', hF2, vs2, hvs2, hd2⟩ := pin_ob S2 hk
    have e3 : q1' = q0 := by rw [hq0] at hq1; exact (Option.some.inj hq1).symm
    subst e3
    refine ⟨p, vs2, v, rfl, rfl, hvs2, by rw [← hd2.length, sizeLine_eq]; exact hl, ?_⟩
    subst e0
    obtain ⟨m3, S3⟩ := S2.write (m' := .pin q1'.1 (ds ++ [d])) (o := .lst (vs2 ++ [v])) hq0 hF2 ⟨hF2, rfl, _, upd_same, hd2.append (Dens.cons o2 Dens.nil)⟩
    exact ok.nx _ _ F2 _ _ _ ⟨g.env.mono (m1.trans m2).ex, S3, ((g.st.move m1).move m2).move m3⟩ (m1.trans m2).ex q2
/-- e[i] = x, e a pinned list -/
theorem r_setP (h : EvP K te ρ M fun s => EvP K to ρ M fun s1 => EvP K ti ρ M fun s2 => ∃ (d : D) (p : Addr) (k : Nat) (ds : List D) (j : Int) (n : Nat), s = .v d ∧ s1 = .v (.raw (.ref p)) ∧ M[k]? = some (MO.pin p ds) ∧ s2 = .v (.int j) ∧ ixN ds.length j = some n ∧ nx ρ (M.set k (.pin p (ds.set n d)))) :
    RunD K e (tAsg te (L2.gSub to ti rSetL)) ρ M nx rt bk ct := fun X σ α F H g ok =>
  h σ α F H g.env g.sta _ fun v F1 H1 s m1 S1 o1 q1 => q1 σ α F1 H1 (g.env.mono m1.ex) S1 _ fun u F2 H2 s1 m2 S2 o2 q2 => q2 σ α F2 H2 (g.env.mono (m1.trans m2).ex) S2 _ fun w F3 H3 s2 m3 S3 o3 ⟨d, p, k, ds, j, n, e1, e2, hk, e3, hn, q3⟩ => by
    subst e1; subst e2; subst e3
    have o2 : u = .ref p := o2
    have o3 : w = .int j := o3
    subst o2; subst o3
    obtain ⟨q0, hq0, e0, hF, vs, hvs, hd⟩ := pin_ob S3 hk
    refine ⟨p, vs, j, n, rfl, rfl, hvs, by rw [← hd.length]; exact hn, ?_⟩
    subst e0
    obtain ⟨m4, S4⟩ := S3.write (m' := .pin q0.1 (ds.set n d)) (o := .lst (vs.set n v)) hq0 hF ⟨hF, rfl, _, upd_same, hd.set (Den.mono K (m2.trans m3).ex _ _ o1) n⟩
    exact ok.nx _ _ F3 _ _ _ ⟨g.env.mono ((m1.trans m2).trans m3).ex, S4, (((g.st.move m1).move m2).move m3).move m4⟩ ((m1.trans m2).trans m3).ex q3
/-- xs += e -/
theorem ip_ext {X : Cx} : PIp X .Add rExt2 := fun pins s σ H x y v u Q I r1 r2 h => iop_ext pins s σ H x y v u Q I r1 r2 h
theorem r_augL {i k : Nat} {ds : List D} (hi : ρ[i]? = some (some (.l k))) (hk : M[k]? = some (.lst ds)) (h : EvP K te ρ M fun s => ∃ es, s = .v (.lst es) ∧ ds.length + es.length ≤ 16777216 ∧ nx ρ (M.set k (.lst (ds ++ es)))) : RunD K e (tAug i te rExt2) ρ M nx rt bk ct := fun X σ α F H g ok => by
  obtain ⟨v, h1, p, hp, rfl⟩ := g.env.at' i _ hi
  refine ⟨_, h1, h σ α F H g.env g.sta _ fun v F1 H1 s m1 S1 o1 ⟨es, e1, hl, q1⟩ => ?_⟩
  subst e1
  obtain ⟨b, zs, rfl, hb, hz⟩ := o1
  obtain ⟨hF, vs, hvs, hd⟩ := S1.ob k _ p hk hp
  refine ⟨p.1, b, vs, zs, rfl, rfl, hvs, S1.sub _ _ hb, by rw [← hd.length, ← hz.length, sizeLine_eq]; exact hl, ?_⟩
  obtain ⟨m2, S2⟩ := S1.write (m' := .lst (ds ++ es)) (o := .lst (vs ++ zs)) hp hF ⟨hF, _, upd_same, hd.append hz⟩
  have e3 : σ.set i (some (.ref p.1)) = σ := by
    apply List.ext_getElem?
    intro j
    by_cases e : i = j
    · subst e; rw [List.getElem?_set_self (List.getElem?_eq_some_iff.mp h1).1, h1]
    · rw [List.getElem?_set_ne e]
  rw [e3]
  exact ok.nx _ _ F1 _ _ _ ⟨g.env.mono m1.ex, S2, (g.st.move m1).move m2⟩ m1.ex q1
/-- x if t else y, made anew -/
theorem en_if {c : TT} (h : EvT K c ρ M fun b => if b = true then EvN K e ta ρ M QN else EvN K e tb ρ M QN) : EvN K e (tIf c ta tb) ρ M QN := fun σ α F H g k kk =>
  h σ α F H g.env g.sta _ fun b F1 H1 m1 S1 q1 => by
    cases b with
    | true => exact (show EvN K e ta ρ M QN from q1) σ α F1 H1 (g.move m1 S1) k fun v α' F' H' s M' g' x' b' o' q' => kk v α' F' H' s M' g' (m1.ex.trans x') b' o' q'
    | false => exact (show EvN K e tb ρ M QN from q1) σ α F1 H1 (g.move m1 S1) k fun v α' F' H' s M' g' x' b' o' q' => kk v α' F' H' s M' g' (m1.ex.trans x') b' o' q'
/-! pinned lists that change no more -/
theorem Good.fz {α : Al} {F H : Hp} {σ : L2.St} (g : Good K e α F H σ ρ M) {k : Nat} {p : Addr} {ds : List D} (hk : M[k]? = some (.pin p ds)) (he : e.α.length ≤ k) : ∃ F', Same F F' ∧ Den K F' (.lst ds) (.ref p) ∧ Good K e α F' H σ ρ (M.set k .dead) := by
  obtain ⟨q, hp, e0, hF, vs, hvs, hd⟩ := pin_ob g.sta hk
  subst e0
  have s1 : Same F (upd F q.1 (.lst vs)) := fun b u h => by rw [upd_ne (ne_of_none h hF)]; exact h
  have hl : k < M.length := (List.getElem?_eq_some_iff.mp hk).1
  refine ⟨upd F q.1 (.lst vs), s1, ⟨q.1, vs, rfl, upd_same, Dens.mono K s1 _ _ hd⟩, ⟨g.env.mono s1, ⟨fun b u h => ?_, by simp [g.sta.len], fun j m q' h1 h2 => ?_, g.sta.ap, g.sta.tr⟩, ⟨g.st.ex.trans s1, g.st.fr, g.st.tr, fun b h => ?_, g.st.pre⟩⟩⟩
  · by_cases e : b = q.1
    · subst e; rw [upd_same] at h; cases h; exact hvs
    · rw [upd_ne e] at h; exact g.sta.sub b u h
  · by_cases hjk : k = j
    · subst hjk
      rw [List.getElem?_set_self hl] at h1
      cases h1; trivial
    · rw [List.getElem?_set_ne hjk] at h1
      have ap := nth_ne g.sta h2 hp (Ne.symm hjk)
      exact (g.sta.ob j m q' h1 h2).keep s1 (fun z => by rw [upd_ne ap.1]; exact z) (fun z => by rw [upd_ne ap.2.2.1]; exact z) (fun _ z => z) (fun _ z => z)
  · by_cases eb : b = q.1
    · subst eb
      refine .inr ?_
      obtain ⟨β, e1, hβ⟩ := g.st.pre
      have : q ∈ β := by
        rw [e1, List.getElem?_append_right he] at hp
        exact List.mem_of_getElem? hp
      exact (hβ q this).1
    · rw [upd_ne eb] at h; exact g.st.new b h
theorem Dens.reread {F : Hp} {d d' : D} {i : Nat} {ds : List D} {vs : List V} (h : Dens K F ds vs) (hi : ds[i]? = some d) (hd : ∀ v, Den K F d v → Den K F d' v) : Dens K F (ds.set i d') vs := by
  obtain ⟨v, hv, o⟩ := h.get hi
  have := h.set (hd v o) i
  have e : vs.set i v = vs := by
    apply List.ext_getElem?
    intro j
    by_cases e : i = j
    · subst e; rw [List.getElem?_set_self (List.getElem?_eq_some_iff.mp hv).1, hv]
    · rw [List.getElem?_set_ne e]
  rwa [e] at this
theorem Sta.reob {α : Al} {F H : Hp} (S : Sta K α M F H) {j : Nat} {m m' : MO} (hj : M[j]? = some m) (h : ∀ p, MObj K F H m p → MObj K F H m' p) : Sta K α (M.set j m') F H := by
  refine ⟨S.sub, by simp [S.len], fun i mo q h1 h2 => ?_, S.ap, S.tr⟩
  by_cases e : j = i
  · subst e
    rw [List.getElem?_set_self (List.getElem?_eq_some_iff.mp hj).1] at h1
    cases h1
    exact h q (S.ob j m q hj h2)
  · rw [List.getElem?_set_ne e] at h1
    exact S.ob i mo q h1 h2
theorem r_fzI (k j i : Nat) {p C : Addr} {ns : List Str} {ds es : List D} (hk : M[k]? = some (.pin p ds)) (hj : M[j]? = some (.ins C ns es)) (hi : es[i]? = some (.raw (.ref p))) (he : e.α.length ≤ k) (hkj : k ≠ j)
    (h : RunD K e t ρ ((M.set k .dead).set j (.ins C ns (es.set i (.lst ds)))) nx rt bk ct) : RunD K e t ρ M nx rt bk ct := fun X σ α F H g ok => by
  obtain ⟨F', x, hd, g'⟩ := g.fz hk he
  refine h X σ α F' H ⟨g'.env, g'.sta.reob (m := .ins C ns es) (by rw [List.getElem?_set_ne hkj]; exact hj) fun q z => ?_, g'.st⟩ (ok.at x)
  obtain ⟨a, dx, vs, b, l, o⟩ := z
  refine ⟨a, dx, vs, b, l, o.reread hi fun v hv => ?_⟩
  have hv : v = .ref p := hv
  subst hv; exact hd
theorem r_fzP (k j i : Nat) {p b : Addr} {ds es : List D} (hk : M[k]? = some (.pin p ds)) (hj : M[j]? = some (.pin b es)) (hi : es[i]? = some (.raw (.ref p))) (he : e.α.length ≤ k) (hkj : k ≠ j)
    (h : RunD K e t ρ ((M.set k .dead).set j (.pin b (es.set i (.lst ds)))) nx rt bk ct) : RunD K e t ρ M nx rt bk ct := fun X σ α F H g ok => by
  obtain ⟨F', x, hd, g'⟩ := g.fz hk he
  refine h X σ α F' H ⟨g'.env, g'.sta.reob (m := .pin b es) (by rw [List.getElem?_set_ne hkj]; exact hj) fun q z => ?_, g'.st⟩ (ok.at x)
  obtain ⟨a, dx, vs, l, o⟩ := z
  refine ⟨a, dx, vs, l, o.reread hi fun v hv => ?_⟩
  have hv : v = .ref p := hv
  subst hv; exact hd
end
end DL

/-! DL18: comprehensions by a relation. -/
namespace DL
open PySem L2
def AllR {α β : Type} (R : α → β → Prop) : List α → List β → Prop
  | [], ys => ys = []
  | x :: xs, ys => ∃ y r, ys = y :: r ∧ R x y ∧ AllR R xs r
theorem AllR.snoc {α β : Type} {R : α → β → Prop} {x : α} {y : β} (hxy : R x y) : ∀ {xs : List α} {ys : List β}, AllR R xs ys → AllR R (xs ++ [x]) (ys ++ [y])
  | [], _, h => by
    have h : _ = [] := h
    subst h
    exact ⟨y, [], rfl, hxy, rfl⟩
  | _ :: _, _, ⟨z, r, e, h1, h2⟩ => by
    subst e
    exact ⟨z, r ++ [y], rfl, h1, h2.snoc hxy⟩
theorem AllR.len {α β : Type} {R : α → β → Prop} : ∀ {xs : List α} {ys : List β}, AllR R xs ys → ys.length = xs.length
  | [], _, h => by
    have h : _ = [] := h
    subst h; rfl
  | _ :: _, _, ⟨z, r, e, h1, h2⟩ => by
    subst e
    simp [h2.len]
section
variable {K : PySem.W.Frag} {e : Ent} {ρ : Rho} {M : List MO} {te ta tb to ti : TE} {t u : TS} {Q : Sl → Prop}
theorem ev_lcR {wi : TI} {g : TG} {vs : List Nat} (R : D → D → Prop) (h : EvI K wi ρ M fun items => items.length ≤ 16777216 ∧ (∀ (i : Nat) d, items[i]? = some d → EvG K g vs d (wipeR ρ vs) fun ρ' => EvP K te ρ' M fun s => ∃ d', s = .v d' ∧ R d d') ∧ ∀ ds, AllR R items ds → Q (.v (.lst ds))) : EvP K (tLc wi g tYes te vs) ρ M Q := by
  refine ev_lc fun σ α F H en S k kk => h σ α F H en S k fun J F' H' items m S' ok ⟨h1, h2, h3⟩ => kk J F' H' items m S' ok ⟨h1, fun i acc => AllR R (items.take i) acc, rfl, fun i d acc hi ha => ?_, fun acc ha => h3 acc (by simpa using ha)⟩
  intro σ α F H v en s hd k kk
  refine h2 i d hi σ α F H v en s hd k fun σ' ρ' en' hl hj q => kk σ' ρ' en' hl hj ?_
  intro σ α F H en S k kk
  refine kk true F H .refl S ?_
  show EvP K te ρ' M fun s => ∃ d', s = .v d' ∧ AllR R (items.take (i + 1)) (acc ++ [d'])
  refine q.mono fun s ⟨d', e1, r⟩ => ⟨d', e1, ?_⟩
  have : items.take (i + 1) = items.take i ++ [d] := by
    obtain ⟨hlt, e2⟩ := List.getElem?_eq_some_iff.mp hi
    rw [List.take_succ_eq_append_getElem hlt, e2]
  rw [this]
  exact ha.snoc r
/-- o.f, o plain data -/
theorem ev_at {f : Str} (h : EvP K te ρ M fun s => ∃ C ns ds, s = .v (.ins C ns ds) ∧ Cls K C ∧ NoAttr K C f ∧ ∃ i d, (ns.findIdx? (· == f)) = some i ∧ ds[i]? = some d ∧ Q (.v d)) : EvP K (tFld K te f) ρ M Q := fun σ α F H en S k kk =>
  h σ α F H en S _ fun v F1 H1 s m1 S1 o1 ⟨C, ns, ds, e1, hc, hn, i, d, hi, hd, q⟩ => by
    subst e1
    obtain ⟨a, dx, vs, rfl, h1, h2, h3⟩ := o1
    obtain ⟨w, hw, r⟩ := h3.get hd
    exact ⟨a, C, dx, _, w, rfl, S1.sub _ _ h1, hc, hn, lookup_zip hi hw, kk w F1 H1 _ m1 S1 (den_ok r) q⟩
end
end DL

/-! DL19: for k in a call that lays a dict of its own; t < u of nested tuples. -/
namespace DL
open PySem L2
section
variable {X : Cx} {tg e : Expr} {td : TE}
/-- the dict is new, and no one else's: locked from here on -/
def iKeysN (td : TE) : TI := fun σ H R => td σ H fun x H1 => ∃ d kvs, x = .ref d ∧ H1 d = some (.dK kvs) ∧ ∀ od, R (Itk d od kvs) (upd H1 d (.frz od (.dK kvs)))
theorem pi_keysN (he : PE X e td) : PI X tg e (iKeysN td) := by
  refine ⟨fun pins s σ H R I h => ?_⟩
  refine thn (he.run pins s σ H _ I h) fun u s1 ⟨x, H1, I1, rx, d, kvs, ex, hd, q⟩ => ?_
  subst ex
  obtain rfl : u = Value.ref d := rx
  obtain ⟨od, I2⟩ := I1.lock hd trivial
  have hz : (upd H1 d (.frz od (.dK kvs))) d = some (.frz od (.dK kvs)) := upd_same
  obtain ⟨hs, hgd, hx, es, ep, vs, hdt, hsz, kv, hm⟩ := I2.frzK hz
  refine iter_keys hs hgd hx hdt (pi_one (tk := s1.toks) I2 _ (turn_keys _ hdt) ⟨_, Heap.get?_push_size _ rfl, rfl, ?_⟩ (q od))
  rw [hsz] <;> rfl
end
section
variable {K : PySem.W.Frag} {e : Ent} {ρ : Rho} {M : List MO} {te ta tb : TE} {t u : TS} {Q : Sl → Prop} {nx bk ct : Rho → List MO → Prop} {rt : Sl → List MO → Prop}
theorem r_forKN {g : TG} (is : List Nat)
    (h : EvN K e te ρ M fun s M1 => ∃ (k : Nat) (ks : List Key) (ds : List D), s = .l k ∧ M1[k]? = some (.dic ks ds) ∧ ∀ d od kvs, ∃ I : Nat → Rho → List MO → Prop, I 0 ρ (M1.set k (.frz d od kvs ks ds)) ∧
      (∀ i key ρ' M', ks[i]? = some key → I i ρ' M' → M'[k]? = some (.frz d od kvs ks ds) → EvG K g is (.raw (kV key)) ρ' fun ρ2 => RunD K e t ρ2 M' (fun ρ3 M3 => M3[k]? = some (.frz d od kvs ks ds) ∧ I (i + 1) ρ3 M3) rt nx (fun ρ3 M3 => M3[k]? = some (.frz d od kvs ks ds) ∧ I (i + 1) ρ3 M3)) ∧
      ∀ ρ' M', I ks.length ρ' M' → M'[k]? = some (.frz d od kvs ks ds) → nx ρ' M') : RunD K e (tFor (iKeysN te) g t) ρ M nx rt bk ct := fun X σ α F H gd0 ok0 => by
  refine h σ α F H gd0 _ fun v α1 F1 H1 s M1 g1 x1 _ o1 ⟨k, ks, ds, e1, hk, q⟩ => ?_
  subst e1
  obtain ⟨p, hp, rfl⟩ := o1
  obtain ⟨hF, vs, hvs, hl, hden⟩ := g1.sta.ob k _ p hk hp
  refine ⟨p.1, ks.zip vs, rfl, hvs, fun od => ?_⟩
  obtain ⟨m2, S2⟩ := g1.sta.write (m' := .frz p.1 od (ks.zip vs) ks ds) (o := .frz od (.dK (ks.zip vs))) hp hF ⟨hF, rfl, upd_same, vs, rfl, hl, hden⟩
  obtain ⟨I, h0, hs, hd⟩ := q p.1 od (ks.zip vs)
  have gd : Good K e α1 F1 (upd H1 p.1 (.frz od (.dK (ks.zip vs)))) σ ρ (M1.set k (.frz p.1 od (ks.zip vs) ks ds)) := ⟨g1.env, S2, g1.st.move m2⟩
  have hk2 : (M1.set k (.frz p.1 od (ks.zip vs) ks ds))[k]? = some (.frz p.1 od (ks.zip vs) ks ds) := (set_frz hk).1
  have ok := ok0.at x1
  have kl : (ks.zip vs).length = ks.length := by rw [List.length_zip, ← hl, Nat.min_self]
  have kg : ∀ {i : Nat} {key : Key} {w : V}, (ks.zip vs)[i]? = some (key, w) → ks[i]? = some key := fun {i key w} q => by
    have := congrArg (Option.map Prod.fst) q
    rw [← List.getElem?_map, List.map_fst_zip (by omega)] at this
    exact this
  generalize M1.set k (.frz p.1 od (ks.zip vs) ks ds) = M2 at *
  refine ⟨fun i m σ' H' => m = ks.length - i ∧ i ≤ ks.length ∧ ∃ ρ' M' α' F', Good K e α' F' H' σ' ρ' M' ∧ Same F1 F' ∧ M'[k]? = some (.frz p.1 od (ks.zip vs) ks ds) ∧ I i ρ' M', ⟨_, rfl, Nat.zero_le _, ρ, M2, α1, F1, gd, fun _ _ z => z, hk2, h0⟩, ?_⟩
  rintro i m σ' H' ⟨rfl, hi, ρ', M', α', F', g', s', hM, pI⟩
  have hfz : H' p.1 = some (.frz od (.dK (ks.zip vs))) := (g'.sta.unl hM).1
  by_cases hlt : i < ks.length
  · refine .inr ⟨⟨hfz, by omega⟩, fun σ2 H2 => ∃ ρ2 M2 α2 F2, Good K e α2 F2 H2 σ2 ρ2 M2 ∧ Same F1 F2 ∧ M2[k]? = some (.frz p.1 od (ks.zip vs) ks ds) ∧ I (i + 1) ρ2 M2, fun σ2 H2 ⟨ρ2, M2, α2, F2, g2, s2, hM2, p2⟩ => ⟨ks.length - (i + 1), by omega, rfl, hlt, ρ2, M2, α2, F2, g2, s2, hM2, p2⟩, fun x H2 y => ?_⟩
    obtain ⟨rfl, key, w, hkw, rfl⟩ := y
    have hkey := kg hkw
    refine hs i key ρ' M' hkey pI hM σ' α' F' H2 (kV key) g'.env g'.sta.sub rfl _ fun σ3 ρ3 en3 _ _ q3 => ?_
    have ok2 := ok.at s'
    exact q3 _ σ3 α' F' H2 ⟨en3, g'.sta, g'.st⟩ ⟨fun σ4 α4 F4 H4 ρ4 M4 g4 z4 ⟨hM4, q4⟩ => ⟨ρ4, M4, α4, F4, g4, s'.trans z4, hM4, q4⟩, ok2.rt, ok2.nx, fun σ4 α4 F4 H4 ρ4 M4 g4 z4 ⟨hM4, q4⟩ => ⟨ρ4, M4, α4, F4, g4, s'.trans z4, hM4, q4⟩⟩
  · have ei : i = ks.length := by omega
    subst ei
    exact .inl ⟨⟨hfz, by omega⟩, ok.nx _ _ _ _ _ _ g' s' (hd ρ' M' pI hM)⟩
end
/-! ### t < u -/
def rLtD (K : PySem.W.Frag) : R2 := fun x y H Q => ∃ d e, Dp K H x d ∧ Dp K H y e ∧ PySem.W.alike d e = true ∧ d ≠ .none ∧ d.depth ≤ 64 ∧ Q (.bl (PySem.W.dataLt d e)) H
theorem op_ltD {X : Cx} {K : PySem.W.Frag} (hu : X.A.units + 64 < cLine) (hK : X.K = K := by rfl) : OpR X (compareOp .Lt) (rLtD K) := by
  subst hK
  intro pins s σ H x y v u Q I rx ry h
  obtain ⟨d, e, hd, he, al, nn, hz, q⟩ := h
  obtain ⟨as, r1⟩ := Dp.reads I d x v hd rx
  obtain ⟨bs, r2⟩ := Dp.reads I e y u he ry
  exact PySem.W.lt_data r1 r2 al nn (by omega) ⟨.bl _, H, I, rfl, q⟩

theorem er_ltD {K : PySem.W.Frag} {M : List MO} {Q : Sl → Prop} {x y : D} (n : Nat) (hx : x.pl n = true) (hy : y.pl n = true) (hn : n ≤ 64) (al : PySem.W.alike x.py y.py = true) (nn : x.py ≠ .none) (q : Q (.v (.bl (PySem.W.dataLt x.py y.py)))) : EvR K (rLtD K) M (.v x) (.v y) Q := fun α F H u v S o1 o2 k kk =>
  ⟨x.py, y.py, D.dp S.sub n x u hx o1, D.dp S.sub n y v hy o2, al, nn, Nat.le_trans (D.lay n x hx).2 hn, kk _ F H _ .refl S raw_ok q⟩
theorem alike_ints : ∀ ns ms : List Int, PySem.W.alikeAll (D.pyAll (D.ints ns)) (D.pyAll (D.ints ms)) = true
  | [], _ => by simp [D.pyAll, PySem.W.alikeAll]
  | n :: ns, [] => by simp [D.pyAll, PySem.W.alikeAll]
  | n :: ns, m :: ms => by
    have := alike_ints ns ms
    simp only [D.ints] at this
    simp only [D.ints, List.map_cons, D.pyAll, PySem.W.alikeAll, D.py, PySem.W.alike, this, Bool.and_self]
/-! ### max(t) of a tuple of numbers -/
def rMaxT (K : PySem.W.Frag) : List V → Hp → VK → Prop := fun vs H Q => ∃ (a : Addr) (n : Int) (ns : List Int), vs = [V.ref a] ∧ SqT K H a ((n :: ns).map V.int) ∧ Q (.int (ns.foldl max n)) H
theorem dp_ints {K : PySem.W.Frag} {H : Hp} : ∀ ns : List Int, DpAll K H (ns.map V.int) (ns.map PyData.int)
  | [] => .nil
  | n :: ns => .cons (.int n) (dp_ints ns)
theorem depth_ints : ∀ ns : List Int, PyData.depthAll (ns.map PyData.int) = 0
  | [] => by simp [PyData.depthAll]
  | n :: ns => by simp [PyData.depthAll, PyData.depth, depth_ints ns]
theorem cr_maxT {X : Cx} (hc : X.calm = true) (hu : X.A.units + 64 < cLine) : CallR X (.builtin "max") (rMaxT X.K) := by
  intro pins s σ H vs us Q I r h
  obtain ⟨a, n, ns, rfl, hs, q⟩ := h
  obtain ⟨its, rv, ⟨o, e1, e2, e3, e4⟩, _⟩ := I.tuple hs
  rw [Vals.ref1 r]
  obtain ⟨as, rd⟩ := Dp.readsAll I _ _ _ (dp_ints (K := X.K) (H := H) (n :: ns)) rv
  have dz := depth_ints (n :: ns)
  refine PySem.W.max_tuple_data (I.ok.hd hc) ⟨o, e1, e2, e3, e4⟩ (x := .int n) (xs := ns.map PyData.int) (as := as) rd ⟨fun x hx y hy => ?_, fun x hx => ?_⟩ (by
    have : PyData.depthAll (PyData.int n :: ns.map PyData.int) = 0 := dz
    omega) fun i v h' tk bs hv hr hk => ?_
  · obtain ⟨p, _, rfl⟩ := List.mem_map.mp (show x ∈ (n :: ns).map PyData.int from hx)
    obtain ⟨p', _, rfl⟩ := List.mem_map.mp (show y ∈ (n :: ns).map PyData.int from hy)
    simp [PySem.W.alike]
  · obtain ⟨p, _, rfl⟩ := List.mem_map.mp (show x ∈ (n :: ns).map PyData.int from hx)
    exact fun z => by cases z
  · rw [PySem.W.maxD_ints] at hr
    cases hr with
    | int t => exact ⟨.int _, H, I.kept hk, ⟨_, rfl⟩, q⟩
section
variable {X : Cx} {e : Expr} {t : TA} {p pos : Pos}
theorem pe_maxT {K : PySem.W.Frag} (hu : X.A.units + 64 < cLine) (b : X.mg "max" = none) (hc : X.calm = true) (hg : Gl X "max") (ha : PA X [e] t) (he : starEach [e] X.env = (false, eval e X.env) :: starEach [] X.env := by rfl) (hpl : (backTo pos (starEach [] X.env)).any (·.1) = false := by rfl) (hK : X.K = K := by rfl) : PE X (.Call (.Name "max" p) [e] [] pos) (tCB (rMaxT K) t) := by
  subst hK
  exact pe_callB (cr_maxT hc hu) hg b (by decide +kernel) ha (by decide) (by decide) he hpl
end
theorem ec_maxT {K : PySem.W.Frag} {M : List MO} {Q : Sl → Prop} {n : Int} {ns : List Int} (q : Q (.v (.int (ns.foldl max n)))) : EvC K (rMaxT K) M [.v (.tup (D.ints (n :: ns)))] Q := fun α F H us S o k kk => by
  obtain ⟨u, rfl, o1⟩ := sls1s o
  obtain ⟨a, vs, rfl, e1, d1⟩ := o1
  have e2 := d1.ofInts
  subst e2
  exact ⟨a, n, ns, rfl, sqt_same K S.sub e1, kk _ F H _ .refl S raw_ok q⟩
/-! ### [f for x in xs for y in ys] -/
section
variable {K : PySem.W.Frag} {e : Ent} {ρ : Rho} {M : List MO} {te ta tb : TE} {t u : TS} {Q : Sl → Prop}
theorem move_none {α : Al} {F H F' H' : Hp} {A : Addr} {o : HO} (mm : Move α F H F' H') (hF : F A = none) (hH : H A = some o) : F' A = none := by
  cases z : F' A with
  | none => rfl
  | some o' =>
    rcases mm.new A (by rw [z]; simp) with q | q
    · exact absurd hF q
    · rw [hH] at q; cases q
theorem ev_lc2M {wi wi1 : TI} {g g1 : TG} {vs vs1 : List Nat} (f : D → D → D) (inner : D → List D) (h : EvI K wi ρ M fun items => (items.flatMap fun d => (inner d).map (f d)).length ≤ 16777216 ∧
      (∀ (i : Nat) d, items[i]? = some d → EvG K g vs d (wipeR ρ vs) fun ρ' => EvI K wi1 ρ' M fun its1 => its1 = inner d ∧ ∀ (j : Nat) d1, its1[j]? = some d1 → EvG K g1 vs1 d1 (wipeR ρ' vs1) fun ρ2 => EvP K te ρ2 M fun s => s = .v (f d d1)) ∧
      Q (.v (.lst (items.flatMap fun d => (inner d).map (f d))))) : EvP K (tLc2 wi g tYes wi1 g1 tYes te vs vs1) ρ M Q := fun σ α F H en S k kk =>
  h σ α F H en S _ fun J F1 H1 items m1 S1 it ⟨hz, hs, hd⟩ => by
    intro A hA
    have hFA : F1 A = none := S1.sub.free hA
    have hna := S1.notin hA
    refine ⟨fun i m H' => m = items.length - i ∧ i ≤ items.length ∧ ∃ F' us, Move α F1 H1 F' H' ∧ Sta K α M F' H' ∧ H' A = some (.lst us) ∧ F' A = none ∧ Dens K F' ((items.take i).flatMap fun d => (inner d).map (f d)) us,
      ⟨_, rfl, Nat.zero_le _, F1, [], ?_, S1.extra hFA hna, upd_same, hFA, rfl⟩, ?_⟩
    · exact ⟨fun _ _ z => z, fun b o q _ => by rw [upd_ne (ne_of_none q hA)]; exact q, fun b q => by { rw [upd_ne (fun z => q (by rw [z]; exact hA))]; exact q }, fun b q => .inl q⟩
    rintro i m H' ⟨rfl, hi, F', us, mv, S', hAt, hFA', hden⟩
    by_cases hlt : i < items.length
    · have hget : items[i]? = some items[i] := List.getElem?_eq_getElem hlt
      have htk : (items.take (i + 1)).flatMap (fun d => (inner d).map (f d)) = (items.take i).flatMap (fun d => (inner d).map (f d)) ++ (inner items[i]).map (f items[i]) := by
        rw [List.take_succ_eq_append_getElem hlt, List.flatMap_append]; simp
      have hsz : ((items.take i).flatMap fun d => (inner d).map (f d)).length + (inner items[i]).length ≤ 16777216 := by
        have : items = items.take (i + 1) ++ items.drop (i + 1) := (List.take_append_drop _ _).symm
        have e2 := congrArg (fun l : List D => (l.flatMap fun d => (inner d).map (f d)).length) this
        simp only [List.flatMap_append, List.length_append, htk, List.length_map] at e2
        omega
      refine .inr ⟨((it i F' H' mv.ex S'.sub).2 _ hget).1, fun H2 => ∃ F2 us, Move α F1 H1 F2 H2 ∧ Sta K α M F2 H2 ∧ H2 A = some (.lst us) ∧ F2 A = none ∧ Dens K F2 ((items.take (i + 1)).flatMap fun d => (inner d).map (f d)) us,
        fun H2 ⟨F2, us, a, b, c, d, f⟩ => ⟨items.length - (i + 1), by omega, rfl, hlt, F2, us, a, b, c, d, f⟩, fun x H2 y => ?_⟩
      obtain ⟨F2, m2, S2, hx⟩ := it_turn it mv.ex S' hget y
      have enw := ((en.mono m1.ex).mono (mv.ex.trans m2.ex)).wipe vs
      refine hs i _ hget (L2.wipe σ vs) α F2 H2 x enw S2.sub hx _ fun σ3 ρ3 en3 l3 f3 q3 => ⟨?_, ?_⟩
      · have := wipe_eq (σ := L2.wipe σ vs) l3 f3
        rw [wipe_wipe] at this
        exact this
      unfold tYes
      refine iteT ?_
      refine q3 σ3 α F2 H2 en3 S2 _ fun J1 F3 H3 its1 m3 S3 it1 ⟨ei, hs1⟩ => ?_
      subst ei
      have mA : Move α F1 H1 F3 H3 := (mv.trans m2).trans m3
      have hA3 : H3 A = some (.lst us) := (m2.trans m3).fr A _ hAt hna
      refine ⟨fun j k H4 => k = (inner items[i]).length - j ∧ j ≤ (inner items[i]).length ∧ ∃ F4 us4, Move α F1 H1 F4 H4 ∧ Same F3 F4 ∧ Sta K α M F4 H4 ∧ H4 A = some (.lst us4) ∧ F4 A = none ∧ Dens K F4 ((items.take i).flatMap (fun d => (inner d).map (f d)) ++ ((inner items[i]).take j).map (f items[i])) us4,
        ⟨_, rfl, Nat.zero_le _, F3, us, mA, fun _ _ z => z, S3, hA3, move_none (m2.trans m3) hFA' hAt, by simpa using Dens.mono K (m2.trans m3).ex _ _ hden⟩, ?_⟩
      rintro j k H4 ⟨rfl, hj, F4, us4, mv4, s34, S4, hA4, nF4, hden4⟩
      by_cases hlt1 : j < (inner items[i]).length
      · have hget1 : (inner items[i])[j]? = some (inner items[i])[j] := List.getElem?_eq_getElem hlt1
        refine .inr ⟨((it1 j F4 H4 s34 S4.sub).2 _ hget1).1, fun H5 => ∃ F5 us5, Move α F1 H1 F5 H5 ∧ Same F3 F5 ∧ Sta K α M F5 H5 ∧ H5 A = some (.lst us5) ∧ F5 A = none ∧ Dens K F5 ((items.take i).flatMap (fun d => (inner d).map (f d)) ++ ((inner items[i]).take (j + 1)).map (f items[i])) us5,
          fun H5 ⟨F5, us5, a, b, c, d, g, h⟩ => ⟨(inner items[i]).length - (j + 1), by omega, rfl, hlt1, F5, us5, a, b, c, d, g, h⟩, fun x1 H5 y1 => ?_⟩
        obtain ⟨F5, m5, S5, hx1⟩ := it_turn it1 s34 S4 hget1 y1
        have enw1 := (en3.mono (m3.ex.trans (s34.trans m5.ex))).wipe vs1
        refine hs1 j _ hget1 (L2.wipe σ3 vs1) α F5 H5 x1 enw1 S5.sub hx1 _ fun σ6 ρ6 en6 l6 f6 q6 => ⟨?_, ?_⟩
        · have := wipe_eq (σ := L2.wipe σ3 vs1) l6 f6
          rw [wipe_wipe] at this
          exact this
        (try unfold tYes)
        refine iteT ?_
        refine q6 σ6 α F5 H5 en6 S5 _ fun v F6 H6 s m6 S6 o6 e6 => ?_
        subst e6
        have mB : Move α F4 H4 F6 H6 := m5.trans m6
        have hA6 : H6 A = some (.lst us4) := mB.fr A _ hA4 hna
        have mC : Move α F1 H1 F6 H6 := mv4.trans mB
        have nF6 : F6 A = none := move_none mB nF4 hA4
        have hl4 := hden4.length
        rw [List.length_append, List.length_map, List.length_take] at hl4
        refine ⟨us4, hA6, by rw [sizeLine_eq]; omega, F6, us4 ++ [v], ⟨mC.ex, fun b o q z => ?_, fun b q => ?_, mC.new⟩, s34.trans mB.ex, S6.extra nF6 hna, upd_same, nF6, ?_⟩
        · rw [upd_ne (ne_of_none q hA)]; exact mC.fr b o q z
        · rw [upd_ne (fun z => q (by rw [z]; exact hA))]; exact mC.tr b q
        · have e7 : (items.take i).flatMap (fun d => (inner d).map (f d)) ++ ((inner items[i]).take (j + 1)).map (f items[i]) = ((items.take i).flatMap (fun d => (inner d).map (f d)) ++ ((inner items[i]).take j).map (f items[i])) ++ [f items[i] (inner items[i])[j]] := by
            rw [List.take_succ_eq_append_getElem hlt1, List.map_append, List.append_assoc]; rfl
          rw [e7]
          exact (Dens.mono K mB.ex _ _ hden4).append (Dens.cons o6 Dens.nil)
      · have ej : j = (inner items[i]).length := by omega
        subst ej
        refine .inl ⟨(it1 _ F4 H4 s34 S4.sub).1 rfl, F4, us4, mv4, S4, hA4, nF4, ?_⟩
        rw [htk]
        rw [List.take_length] at hden4
        exact hden4
    · have ei : i = items.length := by omega
      subst ei
      rw [List.take_length] at hden
      obtain ⟨s5, S5⟩ := S'.ice hFA' hAt hna
      refine .inl ⟨(it _ F' H' mv.ex S'.sub).1 rfl, kk (.ref A) _ H' (.v (.lst _)) ⟨(m1.trans mv).ex.trans s5, fun b o q z => (m1.trans mv).fr b o q z, (m1.trans mv).tr, fun b q => ?_⟩ S5 (show Den K _ (.lst _) _ from ⟨A, us, rfl, upd_same, Dens.mono K s5 _ _ hden⟩) hd⟩
      by_cases eb : b = A
      · subst eb; exact .inr (none_back (m1.tr b) hA)
      · rw [upd_ne eb] at q; exact (m1.trans mv).new b q
end
end DL

/-! DL20: a, b, c = a list. -/
namespace DL
open PySem L2
section
variable {K : PySem.W.Frag} {ρ : Rho}
theorem eg_lst {g : TGs} {is : List Nat} {n : Nat} {ds : List D} {R : Rho → Prop} (hl : ds.length = n) (h : EvGs K g is ds ρ R) : EvG K (gLst K n g) is (.lst ds) ρ R := fun σ α F H v en s hd k kk => by
  obtain ⟨a, vs, rfl, h1, h2⟩ := hd
  exact ⟨a, vs, rfl, SqL.of (s _ _ h1), by rw [← h2.length]; exact hl, h σ α F H vs en s h2 k kk⟩
theorem relab {env : Env} : ∀ {names : List (Str × NameKind)} {x : Str}, (names.lookup x = some .cell ∨ names.lookup x = some .free) →
    (names.map fun (n, k) => if (k == NameKind.free && env.scope.kind == .function && env.kindOf n == some .cell) then (n, NameKind.cell) else (n, k)).lookup x = some .cell ∨
    (names.map fun (n, k) => if (k == NameKind.free && env.scope.kind == .function && env.kindOf n == some .cell) then (n, NameKind.cell) else (n, k)).lookup x = some .free
  | [], _, h => by simp at h
  | (n, k) :: r, x, h => by
    simp only [List.map_cons]
    by_cases e : x = n
    · subst e
      have hk : k = .cell ∨ k = .free := by
        have e1 : ((x, k) :: r).lookup x = some k := by simp [List.lookup]
        rw [e1] at h
        rcases h with h | h <;> cases h
        · exact .inl rfl
        · exact .inr rfl
      split
      · exact .inl (by simp [List.lookup])
      · rcases hk with rfl | rfl
        · exact .inl (by simp [List.lookup])
        · exact .inr (by simp [List.lookup])
    · have e0 : (x == n) = false := by simpa using e
      have e1 : ∀ k : NameKind, ∀ l : List (Str × NameKind), ((n, k) :: l).lookup x = l.lookup x := fun k l => by simp [List.lookup, e0]
      rw [e1] at h
      have ih := relab (env := env) h
      split
      · rw [e1]; exact ih
      · rw [e1]; exact ih
/-- a comprehension within a comprehension -/
theorem blkOk_in {X : Cx} {N : List Str} {scope0 scope : Scope} {own : List (Str × Nat)} {s : Shared} {H : Hp} {cl : List (Str × Addr)} {C : Addr} {fp : List Addr} {e : Env} (h : blkC N scope0 scope own = true) (hN : X.N = N := by rfl) :
    BlkOk (X.blk s H scope0 (compEnvC scope0 cl C e) fp).N (X.blk s H scope0 (compEnvC scope0 cl C e) fp).env.scope scope own := by
  subst hN
  have b : BlkOk X.N scope0 scope own := blkOk_by h
  exact ⟨b.kind, b.uniq, b.ix, fun y hy e => relab (b.free y hy e), b.own⟩
end
end DL

/-! DL21: min of a tuple. -/
namespace DL
open PySem L2
/-! ### min(t) of a tuple of numbers -/
def rMinT (K : PySem.W.Frag) : List V → Hp → VK → Prop := fun vs H Q => ∃ (a : Addr) (n : Int) (ns : List Int), vs = [V.ref a] ∧ SqT K H a ((n :: ns).map V.int) ∧ Q (.int (ns.foldl min n)) H
theorem cr_minT {X : Cx} (hc : X.calm = true) (hu : X.A.units + 64 < cLine) : CallR X (.builtin "min") (rMinT X.K) := by
  intro pins s σ H vs us Q I r h
  obtain ⟨a, n, ns, rfl, hs, q⟩ := h
  obtain ⟨its, rv, ⟨o, e1, e2, e3, e4⟩, _⟩ := I.tuple hs
  rw [Vals.ref1 r]
  obtain ⟨as, rd⟩ := Dp.readsAll I _ _ _ (dp_ints (K := X.K) (H := H) (n :: ns)) rv
  have dz := depth_ints (n :: ns)
  refine PySem.W.min_tuple_data (I.ok.hd hc) ⟨o, e1, e2, e3, e4⟩ (x := .int n) (xs := ns.map PyData.int) (as := as) rd ⟨fun x hx y hy => ?_, fun x hx => ?_⟩ (by
    have : PyData.depthAll (PyData.int n :: ns.map PyData.int) = 0 := dz
    omega) fun i v h' tk bs hv hr hk => ?_
  · obtain ⟨p, _, rfl⟩ := List.mem_map.mp (show x ∈ (n :: ns).map PyData.int from hx)
    obtain ⟨p', _, rfl⟩ := List.mem_map.mp (show y ∈ (n :: ns).map PyData.int from hy)
    simp [PySem.W.alike]
  · obtain ⟨p, _, rfl⟩ := List.mem_map.mp (show x ∈ (n :: ns).map PyData.int from hx)
    exact fun z => by cases z
  · rw [PySem.W.minD_ints] at hr
    cases hr with
    | int t => exact ⟨.int _, H, I.kept hk, ⟨_, rfl⟩, q⟩
section
variable {X : Cx} {e : Expr} {t : TA} {p pos : Pos}
theorem pe_minT {K : PySem.W.Frag} (hu : X.A.units + 64 < cLine) (b : X.mg "min" = none) (hc : X.calm = true) (hg : Gl X "min") (ha : PA X [e] t) (he : starEach [e] X.env = (false, eval e X.env) :: starEach [] X.env := by rfl) (hpl : (backTo pos (starEach [] X.env)).any (·.1) = false := by rfl) (hK : X.K = K := by rfl) : PE X (.Call (.Name "min" p) [e] [] pos) (tCB (rMinT K) t) := by
  subst hK
  exact pe_callB (cr_minT hc hu) hg b (by decide +kernel) ha (by decide) (by decide) he hpl
end
theorem ec_minT {K : PySem.W.Frag} {M : List MO} {Q : Sl → Prop} {n : Int} {ns : List Int} (q : Q (.v (.int (ns.foldl min n)))) : EvC K (rMinT K) M [.v (.tup (D.ints (n :: ns)))] Q := fun α F H us S o k kk => by
  obtain ⟨u, rfl, o1⟩ := sls1s o
  obtain ⟨a, vs, rfl, e1, d1⟩ := o1
  have e2 := d1.ofInts
  subst e2
  exact ⟨a, n, ns, rfl, sqt_same K S.sub e1, kk _ F H _ .refl S raw_ok q⟩
end DL

/-! plain number theory: primes, valuations, remainders of powers -/
namespace NT
def Pr (p : Nat) : Prop := 2 ≤ p ∧ ∀ d, d ∣ p → d = 1 ∨ d = p
theorem Pr.two {p : Nat} (h : Pr p) : 2 ≤ p := h.1
theorem Pr.pos {p : Nat} (h : Pr p) : 0 < p := by have := h.1; omega
theorem Pr.cop {p n : Nat} (h : Pr p) (hn : ¬ p ∣ n) : Nat.Coprime p n := by
  have h1 := h.2 (Nat.gcd p n) (Nat.gcd_dvd_left p n)
  rcases h1 with h1 | h1
  · exact h1
  · exact absurd (h1 ▸ Nat.gcd_dvd_right p n) hn
theorem Pr.dvd_mul {p a b : Nat} (h : Pr p) (d : p ∣ a * b) : p ∣ a ∨ p ∣ b := by
  by_cases ha : p ∣ a
  · exact .inl ha
  · exact .inr ((h.cop ha).dvd_of_dvd_mul_left d)
theorem Pr.one {p : Nat} (h : Pr p) : ¬ p ∣ 1 := by
  intro d
  have := Nat.le_of_dvd (by decide) d
  have := h.1
  omega
theorem Pr.eq {p q : Nat} (hp : Pr p) (hq : Pr q) (d : p ∣ q) : p = q := by
  rcases hq.2 p d with h | h
  · have := hp.1; omega
  · exact h
theorem Pr.dvd_pow {p a : Nat} (h : Pr p) : ∀ {n : Nat}, p ∣ a ^ n → p ∣ a
  | 0, d => absurd (by simpa using d) h.one
  | n + 1, d => by
    rw [Nat.pow_succ] at d
    rcases h.dvd_mul d with d | d
    · exact Pr.dvd_pow h d
    · exact d
theorem ex_pr : ∀ (n : Nat), 2 ≤ n → ∃ p, Pr p ∧ p ∣ n := by
  intro n
  induction n using Nat.strongRecOn with
  | ind n ih =>
    intro h
    by_cases hp : Pr n
    · exact ⟨n, hp, Nat.dvd_refl n⟩
    · have : ∃ d, d ∣ n ∧ d ≠ 1 ∧ d ≠ n := by
        refine Classical.byContradiction fun z => hp ⟨h, fun d hd => ?_⟩
        refine Classical.byContradiction fun y => z ⟨d, hd, fun e => y (.inl e), fun e => y (.inr e)⟩
      obtain ⟨d, hd, h1, h2⟩ := this
      have hle := Nat.le_of_dvd (by omega) hd
      have h0 : d ≠ 0 := by
        rintro rfl
        have := Nat.zero_dvd.mp hd
        omega
      obtain ⟨p, hp, hpd⟩ := ih d (by omega) (by omega)
      exact ⟨p, hp, Nat.dvd_trans hpd hd⟩
/-! ### valuations -/
def vp (p n : Nat) : Nat := if h : 2 ≤ p ∧ 0 < n ∧ p ∣ n then 1 + vp p (n / p) else 0
termination_by n
decreasing_by exact Nat.div_lt_self h.2.1 (by omega)
theorem vp_no {p n : Nat} (h : ¬ p ∣ n) : vp p n = 0 := by
  rw [vp, dif_neg (fun z => h z.2.2)]
theorem vp_step {p n : Nat} (hp : 2 ≤ p) (hn : 0 < n) : vp p (p * n) = 1 + vp p n := by
  rw [vp, dif_pos ⟨hp, Nat.mul_pos (by omega) hn, Nat.dvd_mul_right p n⟩, Nat.mul_div_cancel_left n (by omega)]
theorem vp_pow {p m : Nat} (hp : 2 ≤ p) (hm : 0 < m) : ∀ k, vp p (p ^ k * m) = k + vp p m
  | 0 => by simp
  | k + 1 => by
    have e : p ^ (k + 1) * m = p * (p ^ k * m) := by rw [Nat.pow_succ]; grind
    rw [e, vp_step hp (Nat.mul_pos (Nat.pow_pos (by omega)) hm), vp_pow hp hm k]; omega
theorem vp_spec {p : Nat} (hp : 2 ≤ p) : ∀ (n : Nat), 0 < n → ∃ m, n = p ^ vp p n * m ∧ ¬ p ∣ m ∧ 0 < m := by
  intro n
  induction n using Nat.strongRecOn with
  | ind n ih =>
    intro hn
    by_cases h : p ∣ n
    · obtain ⟨c, rfl⟩ := h
      have hc : 0 < c := Nat.pos_of_ne_zero (fun z => by subst z; simp at hn)
      obtain ⟨m, h1, h2, h3⟩ := ih c (by
        have : 1 * c < p * c := Nat.mul_lt_mul_of_pos_right (by omega) hc
        omega) hc
      refine ⟨m, ?_, h2, h3⟩
      rw [vp_step hp hc, Nat.pow_add, Nat.pow_one, Nat.mul_assoc, ← h1]
    · exact ⟨n, by rw [vp_no h]; simp, h, hn⟩
theorem vp_mul {p : Nat} (hp : Pr p) {a b : Nat} (ha : 0 < a) (hb : 0 < b) : vp p (a * b) = vp p a + vp p b := by
  obtain ⟨c, e1, h1, p1⟩ := vp_spec hp.1 a ha
  obtain ⟨d, e2, h2, p2⟩ := vp_spec hp.1 b hb
  have e : a * b = p ^ (vp p a + vp p b) * (c * d) := by
    rw [Nat.pow_add]
    calc a * b = (p ^ vp p a * c) * (p ^ vp p b * d) := by rw [← e1, ← e2]
      _ = _ := by grind
  have : vp p (c * d) = 0 := vp_no (fun z => (hp.dvd_mul z).elim h1 h2)
  rw [e, vp_pow hp.1 (Nat.mul_pos p1 p2), this]; rfl
theorem vp_pos {p n : Nat} (hp : 2 ≤ p) (hn : 0 < n) : p ∣ n ↔ 0 < vp p n := by
  constructor
  · rintro ⟨c, rfl⟩
    have hc : 0 < c := Nat.pos_of_ne_zero (fun z => by subst z; simp at hn)
    rw [vp_step hp hc]; omega
  · intro h
    refine Classical.byContradiction fun z => ?_
    rw [vp_no z] at h; omega
theorem vp_one {p : Nat} (hp : Pr p) : vp p 1 = 0 := vp_no hp.one
theorem vp_self {p : Nat} (hp : Pr p) : vp p p = 1 := by
  have := vp_step (n := 1) hp.1 (by decide)
  rw [Nat.mul_one] at this
  rw [this, vp_one hp]
theorem vp_other {p q : Nat} (hp : Pr p) (hq : Pr q) (h : p ≠ q) : vp p q = 0 := vp_no (fun z => h (hp.eq hq z))
theorem vp_powN {p : Nat} (hp : Pr p) {a : Nat} (ha : 0 < a) : ∀ k, vp p (a ^ k) = k * vp p a
  | 0 => by simp [vp_one hp]
  | k + 1 => by rw [Nat.pow_succ, vp_mul hp (Nat.pow_pos ha) ha, vp_powN hp ha k, Nat.succ_mul]
/-- no prime: 1 -/
theorem eq_one {n : Nat} (hn : 0 < n) (h : ∀ p, Pr p → ¬ p ∣ n) : n = 1 := by
  refine Classical.byContradiction fun z => ?_
  obtain ⟨p, hp, hd⟩ := ex_pr n (by omega)
  exact h p hp hd
/-- the same primes as often: equal -/
theorem eq_of_vp : ∀ (a b : Nat), 0 < a → 0 < b → (∀ p, Pr p → vp p a = vp p b) → a = b := by
  intro a
  induction a using Nat.strongRecOn with
  | ind a ih =>
    intro b ha hb h
    by_cases h1 : a = 1
    · subst h1
      exact (eq_one hb fun p hp hd => by
        have := (vp_pos hp.1 hb).mp hd
        rw [← h p hp, vp_one hp] at this; omega).symm
    · obtain ⟨p, hp, c, rfl⟩ := ex_pr a (by omega)
      have hd : p ∣ b := (vp_pos hp.1 hb).mpr (by rw [← h p hp]; exact (vp_pos hp.1 ha).mp ⟨c, rfl⟩)
      obtain ⟨d, rfl⟩ := hd
      have hc : 0 < c := Nat.pos_of_ne_zero (fun z => by subst z; simp at ha)
      have hd : 0 < d := Nat.pos_of_ne_zero (fun z => by subst z; simp at hb)
      have := ih c (by
        have : 1 * c < p * c := Nat.mul_lt_mul_of_pos_right (by have := hp.1; omega) hc
        omega) d hc hd (fun q hq => by
          have e := h q hq
          rw [vp_mul hq hp.pos hc, vp_mul hq hp.pos hd] at e
          omega)
      rw [this]
/-- a square: each prime evenly often -/
theorem square_of_vp : ∀ (n : Nat), 0 < n → (∀ p, Pr p → vp p n % 2 = 0) → ∃ r, n = r * r := by
  intro n
  induction n using Nat.strongRecOn with
  | ind n ih =>
    intro hn h
    by_cases h1 : n = 1
    · exact ⟨1, h1⟩
    · obtain ⟨p, hp, c, rfl⟩ := ex_pr n (by omega)
      have hc : 0 < c := Nat.pos_of_ne_zero (fun z => by subst z; simp at hn)
      have e := h p hp
      rw [vp_step hp.1 hc] at e
      obtain ⟨d, rfl⟩ := (vp_pos hp.1 hc).mpr (by omega)
      have hd : 0 < d := Nat.pos_of_ne_zero (fun z => by subst z; simp at hc)
      have hp2 := hp.1
      obtain ⟨r, hr⟩ := ih d (by
        have h1 : 1 * d < p * d := Nat.mul_lt_mul_of_pos_right (by omega) hd
        have h2 : 1 * (p * d) < p * (p * d) := Nat.mul_lt_mul_of_pos_right (by omega) hc
        omega) hd (fun q hq => by
          have e := h q hq
          rw [vp_mul hq hp.pos hc, vp_mul hq hp.pos hd] at e
          omega)
      exact ⟨p * r, by rw [hr]; grind⟩
/-- the primes at most as often: a divisor -/
theorem dvd_of_vp : ∀ (a b : Nat), 0 < a → 0 < b → (∀ p, Pr p → vp p a ≤ vp p b) → a ∣ b := by
  intro a
  induction a using Nat.strongRecOn with
  | ind a ih =>
    intro b ha hb h
    by_cases h1 : a = 1
    · subst h1; exact Nat.one_dvd b
    · obtain ⟨p, hp, c, rfl⟩ := ex_pr a (by omega)
      have hc : 0 < c := Nat.pos_of_ne_zero (fun z => by subst z; simp at ha)
      have hd : p ∣ b := (vp_pos hp.1 hb).mpr (by
        have := h p hp
        rw [vp_step hp.1 hc] at this; omega)
      obtain ⟨d, rfl⟩ := hd
      have hd : 0 < d := Nat.pos_of_ne_zero (fun z => by subst z; simp at hb)
      have := ih c (by
        have : 1 * c < p * c := Nat.mul_lt_mul_of_pos_right (by have := hp.1; omega) hc
        omega) d hc hd (fun q hq => by
          have e := h q hq
          rw [vp_mul hq hp.pos hc, vp_mul hq hp.pos hd] at e
          omega)
      exact Nat.mul_dvd_mul_left p this
theorem vp_square {p r : Nat} (hp : Pr p) (hr : 0 < r) : vp p (r * r) % 2 = 0 := by
  rw [vp_mul hp hr hr]; omega
theorem dvd_pow_vp {p n : Nat} (hp : 2 ≤ p) (hn : 0 < n) : p ^ vp p n ∣ n := by
  obtain ⟨m, h, _⟩ := vp_spec hp n hn
  exact ⟨m, h⟩
theorem vp_le {p a b : Nat} (hp : Pr p) (hb : 0 < b) (h : a ∣ b) : vp p a ≤ vp p b := by
  obtain ⟨c, rfl⟩ := h
  have ha : 0 < a := Nat.pos_of_ne_zero (fun z => by subst z; simp at hb)
  have hc : 0 < c := Nat.pos_of_ne_zero (fun z => by subst z; simp at hb)
  rw [vp_mul hp ha hc]; omega
end NT

namespace NT
/-! ### Fermat, Euler's powers -/
abbrev R1 (m : Nat) : List Nat := List.range' 1 m
theorem mem_R1 {m x : Nat} : x ∈ R1 m ↔ 1 ≤ x ∧ x ≤ m := by
  rw [List.mem_range'_1]; omega
theorem perm_self {m : Nat} {f : Nat → Nat} (h1 : ∀ x, 1 ≤ x → x ≤ m → 1 ≤ f x ∧ f x ≤ m) (inj : ∀ x y, 1 ≤ x → x ≤ m → 1 ≤ y → y ≤ m → f x = f y → x = y) : ((R1 m).map f).Perm (R1 m) := by
  have nd : ((R1 m).map f).Nodup := by
    rw [List.Nodup, List.pairwise_map]
    refine List.Pairwise.imp_of_mem (R := (· ≠ ·)) (fun {x y} hx hy hxy e => ?_) List.nodup_range'
    exact hxy (inj x y (mem_R1.mp hx).1 (mem_R1.mp hx).2 (mem_R1.mp hy).1 (mem_R1.mp hy).2 e)
  have sub : (R1 m).map f ⊆ R1 m := by
    intro y hy
    obtain ⟨x, hx, rfl⟩ := List.mem_map.mp hy
    exact mem_R1.mpr (h1 x (mem_R1.mp hx).1 (mem_R1.mp hx).2)
  refine (List.perm_ext_iff_of_nodup nd List.nodup_range').mpr fun y => ⟨fun h => sub h, fun h => ?_⟩
  refine Classical.byContradiction fun z => ?_
  have nd2 : (y :: (R1 m).map f).Nodup := List.nodup_cons.mpr ⟨z, nd⟩
  have := nd2.length_le_of_subset (l₂ := R1 m) (fun w hw => by
    rcases List.mem_cons.mp hw with e | e
    · rw [e]; exact h
    · exact sub e)
  simp at this
  omega
/-- congruent by p -/
abbrev Cg (p : Nat) (a b : Int) : Prop := (p : Int) ∣ a - b
theorem Cg.refl {p : Nat} (a : Int) : Cg p a a := ⟨0, by grind⟩
theorem Cg.symm {p : Nat} {a b : Int} (h : Cg p a b) : Cg p b a := by
  obtain ⟨c, hc⟩ := h
  exact ⟨-c, by grind⟩
theorem Cg.trans {p : Nat} {a b c : Int} (h : Cg p a b) (k : Cg p b c) : Cg p a c := by
  obtain ⟨x, hx⟩ := h
  obtain ⟨y, hy⟩ := k
  exact ⟨x + y, by grind⟩
theorem Cg.mul {p : Nat} {a b c d : Int} (h : Cg p a b) (k : Cg p c d) : Cg p (a * c) (b * d) := by
  obtain ⟨x, hx⟩ := h
  obtain ⟨y, hy⟩ := k
  exact ⟨x * c + b * y, by grind⟩
theorem Cg.add {p : Nat} {a b c d : Int} (h : Cg p a b) (k : Cg p c d) : Cg p (a + c) (b + d) := by
  obtain ⟨x, hx⟩ := h
  obtain ⟨y, hy⟩ := k
  exact ⟨x + y, by grind⟩
theorem Cg.sub {p : Nat} {a b c d : Int} (h : Cg p a b) (k : Cg p c d) : Cg p (a - c) (b - d) := by
  obtain ⟨x, hx⟩ := h
  obtain ⟨y, hy⟩ := k
  exact ⟨x - y, by grind⟩
theorem Cg.pow {p : Nat} {a b : Int} (h : Cg p a b) : ∀ n : Nat, Cg p (a ^ n) (b ^ n)
  | 0 => by simpa using Cg.refl 1
  | n + 1 => by rw [Int.pow_succ, Int.pow_succ]; exact (Cg.pow h n).mul h
theorem Cg.emod {p : Nat} (a : Int) : Cg p (a % p) a := by
  refine ⟨-(a / p), ?_⟩
  have := Int.emod_add_mul_ediv a p
  grind
theorem Cg.iff {p : Nat} {a b : Int} : Cg p a b ↔ a % p = b % p := by
  constructor
  · intro h; exact Int.emod_eq_emod_iff_emod_sub_eq_zero.mpr (Int.emod_eq_zero_of_dvd h)
  · intro h
    exact Int.dvd_of_emod_eq_zero (Int.emod_eq_emod_iff_emod_sub_eq_zero.mp h)
theorem Pr.dvdI {p : Nat} (hp : Pr p) {a b : Int} (h : (p : Int) ∣ a * b) : (p : Int) ∣ a ∨ (p : Int) ∣ b := by
  rw [Int.ofNat_dvd_left, Int.natAbs_mul] at h
  rcases hp.dvd_mul h with h | h
  · exact .inl (Int.ofNat_dvd_left.mpr h)
  · exact .inr (Int.ofNat_dvd_left.mpr h)
theorem Pr.oneI {p : Nat} (hp : Pr p) : ¬ (p : Int) ∣ 1 := fun h => hp.one (by have := Int.ofNat_dvd_left.mp h; simpa using this)
theorem Pr.can {p : Nat} (hp : Pr p) {a b c : Int} (hc : ¬ (p : Int) ∣ c) (h : Cg p (c * a) (c * b)) : Cg p a b := by
  have : (p : Int) ∣ c * (a - b) := by
    obtain ⟨x, hx⟩ := h
    exact ⟨x, by grind⟩
  exact (hp.dvdI this).resolve_left hc
theorem prod_cg {p : Nat} (f g : Nat → Int) (h : ∀ x, Cg p (f x) (g x)) : ∀ l : List Nat, Cg p (l.map f).prod (l.map g).prod
  | [] => by simpa using Cg.refl 1
  | x :: l => by simp only [List.map_cons, List.prod_cons]; exact (h x).mul (prod_cg f g h l)
theorem prod_scale (c : Int) (f : Nat → Int) : ∀ l : List Nat, (l.map fun x => c * f x).prod = c ^ l.length * (l.map f).prod
  | [] => by simp
  | x :: l => by simp only [List.map_cons, List.prod_cons, List.length_cons, prod_scale c f l, Int.pow_succ]; grind
theorem prod_cast : ∀ l : List Nat, ((l.prod : Nat) : Int) = (l.map fun x : Nat => (x : Int)).prod
  | [] => rfl
  | x :: l => by simp only [List.map_cons, List.prod_cons, Int.natCast_mul, prod_cast l]
theorem fac_no {p : Nat} (hp : Pr p) {m : Nat} (hm : m < p) : ∀ l : List Nat, (∀ x, x ∈ l → 1 ≤ x ∧ x ≤ m) → ¬ (p : Int) ∣ (l.map fun x : Nat => (x : Int)).prod
  | [], _ => by simpa using hp.oneI
  | x :: l, h => by
    simp only [List.map_cons, List.prod_cons]
    intro d
    rcases hp.dvdI d with d | d
    · have := Int.natCast_dvd_natCast.mp d
      have := Nat.le_of_dvd (by have := (h x (by simp)).1; omega) this
      have := (h x (by simp)).2
      omega
    · exact fac_no hp hm l (fun y hy => h y (by simp [hy])) d
theorem emod_bd {p : Nat} (hp : Pr p) {a : Int} (ha : ¬ (p : Int) ∣ a) : 1 ≤ a % (p : Int) ∧ a % (p : Int) < p := by
  have h0 : (0 : Int) < p := by have := hp.1; omega
  have h1 := Int.emod_nonneg a (Int.ne_of_gt h0)
  have h2 := Int.emod_lt_of_pos a h0
  have : a % (p : Int) ≠ 0 := fun e => ha (Int.dvd_of_emod_eq_zero e)
  omega
theorem fermat {p : Nat} (hp : Pr p) {a : Int} (ha : ¬ (p : Int) ∣ a) : Cg p (a ^ (p - 1)) 1 := by
  have hp1 := hp.1
  let f : Nat → Nat := fun x => ((a * x) % (p : Int)).toNat
  have nd : ∀ x : Nat, 1 ≤ x → x ≤ p - 1 → ¬ (p : Int) ∣ a * x := fun x h1 h2 d => by
    rcases hp.dvdI d with d | d
    · exact ha d
    · have := Nat.le_of_dvd (by omega) (Int.natCast_dvd_natCast.mp d)
      omega
  have fe : ∀ x : Nat, ((f x : Nat) : Int) = (a * x) % (p : Int) := fun x => Int.toNat_of_nonneg (Int.emod_nonneg _ (by omega))
  have P : ((R1 (p - 1)).map f).Perm (R1 (p - 1)) := perm_self (fun x h1 h2 => by
    have := emod_bd hp (nd x h1 h2)
    have := fe x
    omega) (fun x y h1 h2 h3 h4 e => by
    have e2 : (a * x) % (p : Int) = (a * y) % (p : Int) := by rw [← fe, ← fe, e]
    have c := hp.can ha (Cg.iff.mpr e2)
    have c2 := Cg.iff.mp c
    rw [Int.emod_eq_of_lt (by omega) (by omega), Int.emod_eq_of_lt (by omega) (by omega)] at c2
    omega)
  have e1 : (((R1 (p - 1)).map f).map fun x : Nat => (x : Int)).prod = ((R1 (p - 1)).map fun x : Nat => (x : Int)).prod := by
    rw [← prod_cast, ← prod_cast, P.prod_nat]
  rw [List.map_map] at e1
  have e2 : Cg p ((R1 (p - 1)).map ((fun x : Nat => (x : Int)) ∘ f)).prod ((R1 (p - 1)).map fun x : Nat => a * (x : Int)).prod := prod_cg _ _ (fun x => by
    show Cg p ((f x : Nat) : Int) _
    rw [fe]; exact Cg.emod _) _
  rw [e1, prod_scale a (fun x : Nat => (x : Int)), List.length_range'] at e2
  refine hp.can (c := ((R1 (p - 1)).map fun x : Nat => (x : Int)).prod) (fac_no hp (m := p - 1) (by omega) _ (fun x hx => mem_R1.mp hx)) ?_
  obtain ⟨x, hx⟩ := e2
  exact ⟨-x, by grind⟩
end NT

namespace NT
/-! ### squares by an odd prime, reciprocity -/
/-- Euler's power is 1 -/
def sq (p : Nat) (a : Int) : Bool := decide (Cg p (a ^ ((p - 1) / 2)) 1)
structure Od (p : Nat) : Prop where
  pr : Pr p
  odd : p % 2 = 1
theorem Od.of {p : Nat} (h : Pr p) (h2 : p ≠ 2) : Od p := ⟨h, by
  refine Classical.byContradiction fun z => ?_
  rcases h.2 2 ⟨p / 2, by omega⟩ with e | e <;> omega⟩
theorem Od.ge {p : Nat} (h : Od p) : 3 ≤ p := by have := h.pr.1; have := h.odd; omega
theorem neg1 {p : Nat} (h : Od p) : ¬ Cg p 1 (-1) := by
  intro d
  have h3 := h.ge
  have d : (p : Int) ∣ 2 := d
  have := Int.le_of_dvd (by decide) d
  omega
theorem sq_or {p : Nat} (h : Od p) {a : Int} (ha : ¬ (p : Int) ∣ a) : Cg p (a ^ ((p - 1) / 2)) 1 ∨ Cg p (a ^ ((p - 1) / 2)) (-1) := by
  have f := fermat h.pr ha
  have e : p - 1 = (p - 1) / 2 + (p - 1) / 2 := by have := h.odd; omega
  have e2 : a ^ (p - 1) = a ^ ((p - 1) / 2) * a ^ ((p - 1) / 2) := by
    have := Int.pow_add a ((p - 1) / 2) ((p - 1) / 2)
    rw [← e] at this; exact this
  have : (p : Int) ∣ (a ^ ((p - 1) / 2) - 1) * (a ^ ((p - 1) / 2) - (-1)) := by
    rw [e2] at f
    obtain ⟨c, hc⟩ := f
    exact ⟨c, by grind⟩
  exact h.pr.dvdI this
theorem sq_f {p : Nat} (h : Od p) {a : Int} (ha : ¬ (p : Int) ∣ a) : sq p a = false ↔ Cg p (a ^ ((p - 1) / 2)) (-1) := by
  unfold sq
  rw [decide_eq_false_iff_not]
  constructor
  · intro z; exact (sq_or h ha).resolve_left z
  · intro z y; exact neg1 h (y.symm.trans z)
theorem sq_t {p : Nat} {a : Int} : sq p a = true ↔ Cg p (a ^ ((p - 1) / 2)) 1 := by
  unfold sq; rw [decide_eq_true_eq]
theorem Cg.dvd {p : Nat} {a b : Int} (h : Cg p a b) : (p : Int) ∣ a ↔ (p : Int) ∣ b := by
  obtain ⟨c, hc⟩ := h
  constructor
  · rintro ⟨x, hx⟩; exact ⟨x - c, by grind⟩
  · rintro ⟨x, hx⟩; exact ⟨x + c, by grind⟩
theorem sq_cg {p : Nat} {a b : Int} (h : Cg p a b) : sq p a = sq p b := by
  have := h.pow ((p - 1) / 2)
  unfold sq
  exact decide_eq_decide.mpr ⟨fun k => this.symm.trans k, fun k => this.trans k⟩
theorem sq_mul {p : Nat} (h : Od p) {a b : Int} (ha : ¬ (p : Int) ∣ a) (hb : ¬ (p : Int) ∣ b) : sq p (a * b) = (sq p a == sq p b) := by
  have hab : ¬ (p : Int) ∣ a * b := fun d => (h.pr.dvdI d).elim ha hb
  have e : (a * b) ^ ((p - 1) / 2) = a ^ ((p - 1) / 2) * b ^ ((p - 1) / 2) := Int.mul_pow ..
  cases h1 : sq p a <;> cases h2 : sq p b
  · have := ((sq_f h ha).mp h1).mul ((sq_f h hb).mp h2)
    rw [← e] at this
    exact sq_t.mpr (by simpa using this)
  · have := ((sq_f h ha).mp h1).mul (sq_t.mp h2)
    rw [← e] at this
    exact (sq_f h hab).mpr (by simpa using this)
  · have := (sq_t.mp h1).mul ((sq_f h hb).mp h2)
    rw [← e] at this
    exact (sq_f h hab).mpr (by simpa using this)
  · have := (sq_t.mp h1).mul (sq_t.mp h2)
    rw [← e] at this
    exact sq_t.mpr (by simpa using this)
theorem sq_sq {p : Nat} (h : Od p) {a x : Int} (ha : ¬ (p : Int) ∣ a) (e : Cg p (x * x) a) : sq p a = true := by
  have hx : ¬ (p : Int) ∣ x := fun d => ha (e.dvd.mp (Int.dvd_mul_of_dvd_left d))
  rw [← sq_cg e, sq_mul h hx hx]
  simp
theorem sq_one {p : Nat} : sq p 1 = true := by
  rw [sq_t, Int.one_pow]; exact Cg.refl 1
theorem sq_mulsq {p : Nat} (h : Od p) {a b : Int} (ha : ¬ (p : Int) ∣ a) (hb : ¬ (p : Int) ∣ b) : sq p (a * (b * b)) = sq p a := by
  have hbb : ¬ (p : Int) ∣ b * b := fun d => (h.pr.dvdI d).elim hb hb
  rw [sq_mul h ha hbb, sq_sq h hbb (Cg.refl _)]
  cases sq p a <;> rfl
theorem neg1_pow : ∀ n : Nat, (-1 : Int) ^ n = if n % 2 = 0 then 1 else -1
  | 0 => rfl
  | n + 1 => by
    rw [Int.pow_succ, neg1_pow n]
    by_cases h : n % 2 = 0
    · rw [if_pos h, if_neg (by omega)]; rfl
    · rw [if_neg h, if_pos (by omega)]; rfl
theorem cg_sign {p : Nat} (h : Od p) {n : Nat} {a : Int} (ha : ¬ (p : Int) ∣ a) (e : Cg p (a ^ ((p - 1) / 2)) ((-1) ^ n)) : sq p a = decide (n % 2 = 0) := by
  rw [neg1_pow] at e
  by_cases k : n % 2 = 0
  · rw [if_pos k] at e; rw [sq_t.mpr e]; simp [k]
  · rw [if_neg k] at e; rw [(sq_f h ha).mpr e]; simp [k]
theorem sq_neg1 {p : Nat} (h : Od p) : sq p (-1) = decide ((p - 1) / 2 % 2 = 0) := cg_sign h (fun d => h.pr.oneI (by simpa using (Int.dvd_neg.mpr d))) (Cg.refl _)
/-! Gauss -/
def rs (p a x : Nat) : Nat := a * x % p
def ff (p a x : Nat) : Nat := if rs p a x ≤ (p - 1) / 2 then rs p a x else p - rs p a x
def mu (p a : Nat) : Nat := ((R1 ((p - 1) / 2)).map fun x => if rs p a x ≤ (p - 1) / 2 then 0 else 1).sum
theorem rs_pos {p : Nat} (h : Pr p) {a x : Nat} (ha : ¬ p ∣ a) (h1 : 1 ≤ x) (h2 : x < p) : 1 ≤ rs p a x ∧ rs p a x < p := by
  have := h.1
  have h3 : rs p a x < p := Nat.mod_lt _ (by omega)
  have h4 : rs p a x ≠ 0 := fun e => by
    rcases h.dvd_mul (Nat.dvd_of_mod_eq_zero e) with d | d
    · exact ha d
    · have := Nat.le_of_dvd (by omega) d; omega
  omega
theorem ff_perm {p : Nat} (h : Od p) {a : Nat} (ha : ¬ p ∣ a) : ((R1 ((p - 1) / 2)).map (ff p a)).Perm (R1 ((p - 1) / 2)) := by
  have hge := h.ge
  have hod := h.odd
  refine perm_self (fun x h1 h2 => ?_) (fun x y h1 h2 h3 h4 e => ?_)
  · have := rs_pos h.pr ha h1 (by omega)
    unfold ff
    split <;> omega
  · have r1 := rs_pos h.pr ha h1 (by omega : x < p)
    have r2 := rs_pos h.pr ha h3 (by omega : y < p)
    have c1 : Cg p ((a : Int) * x) (rs p a x : Nat) := by
      unfold rs; rw [Int.natCast_emod, Int.natCast_mul]; exact (Cg.emod _).symm
    have c2 : Cg p ((a : Int) * y) (rs p a y : Nat) := by
      unfold rs; rw [Int.natCast_emod, Int.natCast_mul]; exact (Cg.emod _).symm
    have ha' : ¬ (p : Int) ∣ (a : Int) := fun d => ha (Int.natCast_dvd_natCast.mp d)
    by_cases q : rs p a x = rs p a y
    · rw [q] at c1
      have := Cg.iff.mp (h.pr.can ha' (c1.trans c2.symm))
      rw [Int.emod_eq_of_lt (by omega) (by omega), Int.emod_eq_of_lt (by omega) (by omega)] at this
      omega
    · have q2 : rs p a x + rs p a y = p := by
        unfold ff at e
        split at e <;> split at e <;> omega
      have c3 := c1.add c2
      have c4 : Cg p ((a : Int) * ((x : Int) + y)) (a * 0) := by
        obtain ⟨w, hw⟩ := c3
        refine ⟨w + 1, ?_⟩
        have : ((rs p a x : Nat) : Int) + (rs p a y : Nat) = p := by omega
        grind
      have := Cg.iff.mp (h.pr.can ha' c4)
      rw [Int.emod_eq_of_lt (by omega) (by omega)] at this
      simp at this
      omega
theorem gauss {p : Nat} (h : Od p) {a : Nat} (ha : ¬ p ∣ a) : sq p a = decide (mu p a % 2 = 0) := by
  have hge := h.ge
  have hod := h.odd
  have ha' : ¬ (p : Int) ∣ (a : Int) := fun d => ha (Int.natCast_dvd_natCast.mp d)
  refine cg_sign h ha' ?_
  let s : Nat → Int := fun x => if rs p a x ≤ (p - 1) / 2 then 1 else -1
  have e1 : Cg p ((R1 ((p - 1) / 2)).map fun x : Nat => (a : Int) * (x : Int)).prod ((R1 ((p - 1) / 2)).map fun x : Nat => s x * ((ff p a x : Nat) : Int)).prod := prod_cg _ _ (fun x => by
    have c1 : Cg p ((a : Int) * x) (rs p a x : Nat) := by
      unfold rs; rw [Int.natCast_emod, Int.natCast_mul]; exact (Cg.emod _).symm
    refine c1.trans ?_
    show Cg p _ ((if rs p a x ≤ (p - 1) / 2 then 1 else -1) * ((if rs p a x ≤ (p - 1) / 2 then rs p a x else p - rs p a x : Nat) : Int))
    have : rs p a x < p := Nat.mod_lt _ (by omega)
    by_cases k : rs p a x ≤ (p - 1) / 2
    · rw [if_pos k, if_pos k]; refine ⟨0, by grind⟩
    · rw [if_neg k, if_neg k, Int.ofNat_sub (by omega)]; refine ⟨1, by grind⟩) _
  have e2 : ∀ l : List Nat, (l.map fun x : Nat => s x * ((ff p a x : Nat) : Int)).prod = (-1 : Int) ^ (l.map fun x => if rs p a x ≤ (p - 1) / 2 then 0 else 1).sum * ((l.map (ff p a)).prod : Nat) := by
    intro l
    induction l with
    | nil => rfl
    | cons x l ih =>
      simp only [List.map_cons, List.prod_cons, List.sum_cons, ih, Int.natCast_mul, Int.pow_add]
      have : s x = (-1 : Int) ^ (if rs p a x ≤ (p - 1) / 2 then 0 else 1) := by
        show (if rs p a x ≤ (p - 1) / 2 then (1 : Int) else -1) = _
        split <;> rfl
      rw [this]; grind
  rw [prod_scale (a : Int) (fun x : Nat => (x : Int)), e2, (ff_perm h ha).prod_nat, List.length_range', prod_cast] at e1
  refine h.pr.can (c := ((R1 ((p - 1) / 2)).map fun x : Nat => (x : Int)).prod) (fac_no h.pr (m := (p - 1) / 2) (by omega) _ (fun x hx => mem_R1.mp hx)) ?_
  obtain ⟨x, hx⟩ := e1
  exact ⟨x, by unfold mu; grind⟩
/-! Eisenstein -/
theorem eis {p : Nat} (h : Od p) {a : Nat} (ha : ¬ p ∣ a) : (a * (R1 ((p - 1) / 2)).sum) % 2 = (((R1 ((p - 1) / 2)).map fun x => a * x / p).sum + mu p a + (R1 ((p - 1) / 2)).sum) % 2 := by
  have hge := h.ge
  have hod := h.odd
  have e : ∀ l : List Nat, (∀ x, x ∈ l → 1 ≤ x ∧ x < p) → (a * l.sum) % 2 = ((l.map fun x => a * x / p).sum + (l.map fun x => if rs p a x ≤ (p - 1) / 2 then 0 else 1).sum + (l.map (ff p a)).sum) % 2 := by
    intro l
    induction l with
    | nil => intro _; rfl
    | cons x l ih =>
      intro hl
      have := ih (fun y hy => hl y (by simp [hy]))
      simp only [List.map_cons, List.sum_cons]
      have d := Nat.div_add_mod (a * x) p
      have r1 := rs_pos h.pr ha (hl x (by simp)).1 (hl x (by simp)).2
      rw [Nat.mul_add]
      have pd : (p * (a * x / p)) % 2 = (a * x / p) % 2 := by
        rw [Nat.mul_mod, hod, Nat.one_mul, Nat.mod_mod]
      have rr : rs p a x = a * x % p := rfl
      have hf : ff p a x = if rs p a x ≤ (p - 1) / 2 then rs p a x else p - rs p a x := rfl
      rw [hf]
      split <;> omega
  have := e (R1 ((p - 1) / 2)) (fun x hx => by have := mem_R1.mp hx; omega)
  rw [(ff_perm h ha).sum_nat] at this
  exact this
theorem sumR : ∀ m : Nat, (R1 m).sum = m * (m + 1) / 2 := by
  intro m
  have : ∀ m : Nat, 2 * (R1 m).sum = m * (m + 1) := by
    intro m
    induction m with
    | zero => rfl
    | succ m ih =>
      have e : R1 (m + 1) = R1 m ++ [m + 1] := by
        show List.range' 1 (m + 1) = _
        rw [List.range'_1_concat]; simp [Nat.add_comm]
      rw [e, List.sum_append_nat]
      simp
      grind
  have := this m
  omega
theorem sq_two {p : Nat} (h : Od p) : sq p 2 = decide ((p - 1) / 2 * ((p - 1) / 2 + 1) / 2 % 2 = 0) := by
  have hge := h.ge
  have h2 : ¬ p ∣ 2 := fun d => by have := Nat.le_of_dvd (by decide) d; omega
  have e := eis h h2
  have z : ((R1 ((p - 1) / 2)).map fun x => 2 * x / p).sum = 0 := by
    have : ∀ l : List Nat, (∀ x, x ∈ l → 2 * x < p) → (l.map fun x => 2 * x / p).sum = 0 := by
      intro l
      induction l with
      | nil => intro _; rfl
      | cons x l ih =>
        intro hl
        simp only [List.map_cons, List.sum_cons, ih (fun y hy => hl y (by simp [hy]))]
        rw [Nat.div_eq_of_lt (hl x (by simp))]
    exact this _ (fun x hx => by have := mem_R1.mp hx; omega)
  rw [z, sumR] at e
  have g := gauss h h2
  rw [show ((2 : Nat) : Int) = 2 from rfl] at g
  rw [g]
  congr 1
  refine propext ⟨fun k => ?_, fun k => ?_⟩ <;> omega
/-! counting pairs -/
theorem count_swap {A : Nat → Nat → Bool} (l2 : List Nat) : ∀ l1 : List Nat, (l1.map fun x => l2.countP (A x)).sum = (l2.map fun y => l1.countP fun x => A x y).sum
  | [] => by
    simp
    induction l2 with
    | nil => rfl
    | cons y l ih => simp; exact ih
  | x :: l1 => by
    rw [List.map_cons, List.sum_cons, count_swap l2 l1]
    have : ∀ l2 : List Nat, l2.countP (A x) + (l2.map fun y => l1.countP fun x => A x y).sum = (l2.map fun y => (x :: l1).countP fun x => A x y).sum := by
      intro l2
      induction l2 with
      | nil => rfl
      | cons y l2 ih =>
        simp only [List.countP_cons, List.map_cons, List.sum_cons] at ih ⊢
        omega
    exact this l2
theorem count_le : ∀ (k m : Nat), m ≤ k → (R1 k).countP (fun y => decide (y ≤ m)) = m := by
  intro k
  induction k with
  | zero => intro m h; simp; omega
  | succ k ih =>
    intro m h
    have e : R1 (k + 1) = R1 k ++ [k + 1] := by
      show List.range' 1 (k + 1) = _
      rw [List.range'_1_concat]; simp [Nat.add_comm]
    rw [e, List.countP_append]
    by_cases hm : m = k + 1
    · subst hm
      have : (R1 k).countP (fun y => decide (y ≤ k + 1)) = (R1 k).length := List.countP_eq_length.mpr (fun y hy => by have := mem_R1.mp hy; simp; omega)
      rw [this]; simp
    · rw [ih m (by omega)]; simp; omega
theorem lattice {h k : Nat} (hc : ∀ x y, 1 ≤ x → x ≤ h → 1 ≤ y → y ≤ k → (2 * h + 1) * y ≠ (2 * k + 1) * x) :
    ((R1 h).map fun x => (2 * k + 1) * x / (2 * h + 1)).sum + ((R1 k).map fun y => (2 * h + 1) * y / (2 * k + 1)).sum = h * k := by
  have key : ∀ h k : Nat, ∀ x, 1 ≤ x → x ≤ h → (2 * k + 1) * x / (2 * h + 1) = (R1 k).countP (fun y => decide ((2 * h + 1) * y ≤ (2 * k + 1) * x)) := by
    intro h k x h1 h2
    have hle : (2 * k + 1) * x / (2 * h + 1) ≤ k := by
      rw [← Nat.lt_succ_iff, Nat.div_lt_iff_lt_mul (by omega)]
      have : (2 * k + 1) * x ≤ (2 * k + 1) * h := Nat.mul_le_mul_left _ h2
      have e1 : (2 * k + 1) * h = 2 * (k * h) + h := by grind
      have e2 : (k + 1) * (2 * h + 1) = 2 * (k * h) + k + 2 * h + 1 := by grind
      rw [Nat.succ_eq_add_one, e2]; omega
    rw [← count_le k _ hle]
    apply List.countP_congr
    intro y _
    simp only [decide_eq_true_eq]
    rw [Nat.le_div_iff_mul_le (by omega), Nat.mul_comm y]
  have e1 : ((R1 h).map fun x => (2 * k + 1) * x / (2 * h + 1)) = (R1 h).map fun x => (R1 k).countP (fun y => decide ((2 * h + 1) * y ≤ (2 * k + 1) * x)) := List.map_congr_left (fun x hx => key h k x (mem_R1.mp hx).1 (mem_R1.mp hx).2)
  have e2 : ((R1 k).map fun y => (2 * h + 1) * y / (2 * k + 1)) = (R1 k).map fun y => (R1 h).countP (fun x => decide ((2 * k + 1) * x ≤ (2 * h + 1) * y)) := List.map_congr_left (fun y hy => key k h y (mem_R1.mp hy).1 (mem_R1.mp hy).2)
  rw [e1, e2, ← count_swap (A := fun x y => decide ((2 * k + 1) * x ≤ (2 * h + 1) * y))]
  have : ∀ l : List Nat, (∀ x, x ∈ l → 1 ≤ x ∧ x ≤ h) → (l.map fun x => (R1 k).countP (fun y => decide ((2 * h + 1) * y ≤ (2 * k + 1) * x))).sum + (l.map fun x => (R1 k).countP (fun y => decide ((2 * k + 1) * x ≤ (2 * h + 1) * y))).sum = l.length * k := by
    intro l
    induction l with
    | nil => intro _; simp
    | cons x l ih =>
      intro hl
      have i := ih (fun y hy => hl y (by simp [hy]))
      simp only [List.map_cons, List.sum_cons, List.length_cons]
      have : (R1 k).countP (fun y => decide ((2 * h + 1) * y ≤ (2 * k + 1) * x)) + (R1 k).countP (fun y => decide ((2 * k + 1) * x ≤ (2 * h + 1) * y)) = k := by
        have z := List.length_eq_countP_add_countP (fun y => decide ((2 * h + 1) * y ≤ (2 * k + 1) * x)) (l := R1 k)
        rw [List.length_range'] at z
        have : (R1 k).countP (fun y => decide ((2 * k + 1) * x ≤ (2 * h + 1) * y)) = (R1 k).countP (fun y => decide (¬ decide ((2 * h + 1) * y ≤ (2 * k + 1) * x) = true)) := by
          apply List.countP_congr
          intro y hy
          have := hc x y (hl x (by simp)).1 (hl x (by simp)).2 (mem_R1.mp hy).1 (mem_R1.mp hy).2
          simp
          omega
        rw [this]; omega
      have e : (l.length + 1) * k = l.length * k + k := Nat.succ_mul ..
      omega
  have := this (R1 h) (fun x hx => mem_R1.mp hx)
  rw [List.length_range'] at this
  exact this
/-- quadratic reciprocity -/
theorem recip {p q : Nat} (hp : Od p) (hq : Od q) (hne : p ≠ q) : (sq p q == sq q p) = decide ((p - 1) / 2 * ((q - 1) / 2) % 2 = 0) := by
  have gp := hp.ge
  have gq := hq.ge
  have op := hp.odd
  have oq := hq.odd
  have h1 : ¬ p ∣ q := fun d => hne (hp.pr.eq hq.pr d)
  have h2 : ¬ q ∣ p := fun d => hne (hq.pr.eq hp.pr d).symm
  have l := lattice (h := (p - 1) / 2) (k := (q - 1) / 2) (fun x y a b c d e => by
    rw [show 2 * ((p - 1) / 2) + 1 = p by omega, show 2 * ((q - 1) / 2) + 1 = q by omega] at e
    rcases hp.pr.dvd_mul ⟨y, e.symm⟩ with z | z
    · exact h1 z
    · have := Nat.le_of_dvd (by omega) z; omega)
  rw [show 2 * ((p - 1) / 2) + 1 = p by omega, show 2 * ((q - 1) / 2) + 1 = q by omega] at l
  have e1 := eis hp h1
  have e2 := eis hq h2
  rw [Nat.mul_mod, oq] at e1
  rw [Nat.mul_mod, op] at e2
  rw [gauss hp h1, gauss hq h2, ← l]
  have : ∀ a b c : Nat, (a + b) % 2 = c % 2 → (decide (a % 2 = 0) == decide (b % 2 = 0)) = decide (c % 2 = 0) := by
    intro a b c h
    by_cases x : a % 2 = 0 <;> by_cases y : b % 2 = 0 <;> by_cases z : c % 2 = 0 <;> simp [x, y, z] <;> omega
  apply this
  omega
end NT

namespace NT
/-! ### products of primes -/
theorem prod_pos : ∀ ps : List Nat, (∀ p, p ∈ ps → Pr p) → 0 < ps.prod
  | [], _ => by simp
  | p :: ps, h => by
    rw [List.prod_cons]
    exact Nat.mul_pos (h p (by simp)).pos (prod_pos ps fun q hq => h q (by simp [hq]))
theorem vp_prod {q : Nat} (hq : Pr q) : ∀ ps : List Nat, ps.Nodup → (∀ p, p ∈ ps → Pr p) → vp q ps.prod = if q ∈ ps then 1 else 0
  | [], _, _ => by simp [vp_one hq]
  | p :: ps, nd, h => by
    obtain ⟨n1, n2⟩ := List.nodup_cons.mp nd
    have hp := h p (by simp)
    rw [List.prod_cons, vp_mul hq hp.pos (prod_pos ps fun q hq => h q (by simp [hq])), vp_prod hq ps n2 fun q hq => h q (by simp [hq])]
    by_cases e : q = p
    · subst e; rw [vp_self hq, if_neg n1, if_pos (by simp)]
    · rw [vp_other hq hp e]; simp [e]
theorem prod_dvd {n : Nat} (hn : 0 < n) (ps : List Nat) (nd : ps.Nodup) (h : ∀ p, p ∈ ps → Pr p ∧ p ∣ n) : ps.prod ∣ n := by
  refine dvd_of_vp _ _ (prod_pos ps fun p hp => (h p hp).1) hn fun q hq => ?_
  rw [vp_prod hq ps nd fun p hp => (h p hp).1]
  by_cases z : q ∈ ps
  · rw [if_pos z]; exact (vp_pos hq.1 hn).mp (h q z).2
  · rw [if_neg z]; exact Nat.zero_le _
theorem two_pow_le : ∀ ps : List Nat, (∀ p, p ∈ ps → 2 ≤ p) → 2 ^ ps.length ≤ ps.prod
  | [], _ => by simp
  | p :: ps, h => by
    rw [List.prod_cons, List.length_cons, Nat.pow_succ, Nat.mul_comm]
    exact Nat.mul_le_mul (h p (by simp)) (two_pow_le ps fun q hq => h q (by simp [hq]))
def fac : Nat → Nat
  | 0 => 1
  | n + 1 => (n + 1) * fac n
theorem fac_le : ∀ (k : Nat) (ps : List Nat), ps.length = k → ps.Nodup → (∀ p, p ∈ ps → 2 ≤ p) → fac (k + 1) ≤ ps.prod := by
  intro k
  induction k with
  | zero => intro ps hl _ _; rw [List.length_eq_zero_iff.mp hl]; decide
  | succ k ih =>
    intro ps hl nd h
    have : ∃ m, m ∈ ps ∧ k + 2 ≤ m := by
      refine Classical.byContradiction fun z => ?_
      have sub : ps ⊆ List.range' 2 k := fun m hm => by
        rw [List.mem_range'_1]
        have := h m hm
        have : ¬ k + 2 ≤ m := fun y => z ⟨m, hm, y⟩
        omega
      have := nd.length_le_of_subset sub
      rw [List.length_range', hl] at this
      omega
    obtain ⟨m, hm, hk⟩ := this
    have pe := List.perm_cons_erase hm
    rw [pe.prod_nat, List.prod_cons]
    have := ih (ps.erase m) (by rw [List.length_erase_of_mem hm, hl]; rfl) (nd.erase m) fun p hp => h p (List.mem_of_mem_erase hp)
    exact Nat.mul_le_mul hk this
theorem fac_mono {a b : Nat} (h : a ≤ b) : fac a ≤ fac b := by
  induction h with
  | refl => exact Nat.le_refl _
  | @step b h ih =>
    have : 1 * fac b ≤ (b + 1) * fac b := Nat.mul_le_mul_right _ (by omega)
    rw [Nat.one_mul] at this
    exact Nat.le_trans ih this
/-- few primes divide a number of ninety figures -/
theorem few_primes {n : Nat} (hn : 0 < n) (hb : n ≤ 10 ^ 90) (ps : List Nat) (nd : ps.Nodup) (h : ∀ p, p ∈ ps → Pr p ∧ p ∣ n) : ps.length < 64 := by
  refine Classical.byContradiction fun z => ?_
  have h1 := Nat.le_of_dvd hn (prod_dvd hn ps nd h)
  have h2 := fac_le ps.length ps rfl nd fun p hp => (h p hp).1.1
  have h3 := fac_mono (show 65 ≤ ps.length + 1 by omega)
  have h4 : 10 ^ 90 < fac 65 := by decide +kernel
  omega
/-! ascending lists -/
theorem asc_nodup {ps : List Nat} (h : ps.Pairwise (· < ·)) : ps.Nodup := h.imp fun h e => by omega
theorem asc_eq {ps qs : List Nat} (h : ps.Pairwise (· < ·)) (k : qs.Pairwise (· < ·)) (m : ∀ p, p ∈ ps ↔ p ∈ qs) : ps = qs := by
  have pm := (List.perm_ext_iff_of_nodup (asc_nodup h) (asc_nodup k)).mpr m
  exact List.Perm.eq_of_pairwise (le := (· ≤ ·)) (fun a b _ _ h1 h2 => Nat.le_antisymm h1 h2) (h.imp Nat.le_of_lt) (k.imp Nat.le_of_lt) pm
end NT

namespace NT
/-! ### symbols of two numbers by a prime -/
def vI (p : Nat) (a : Int) : Nat := vp p a.natAbs
def uI (p : Nat) (a : Int) : Int := a / ((p ^ vI p a : Nat) : Int)
theorem uI_spec {p : Nat} (hp : Pr p) {a : Int} (ha : a ≠ 0) : a = ((p ^ vI p a : Nat) : Int) * uI p a ∧ ¬ (p : Int) ∣ uI p a ∧ uI p a ≠ 0 := by
  have hd : ((p ^ vI p a : Nat) : Int) ∣ a := Int.ofNat_dvd_left.mpr (dvd_pow_vp hp.1 (Int.natAbs_pos.mpr ha))
  have e : a = ((p ^ vI p a : Nat) : Int) * uI p a := (Int.mul_ediv_cancel' hd).symm
  refine ⟨e, fun d => ?_, fun z => ha (by rw [e, z, Int.mul_zero])⟩
  obtain ⟨m, h1, h2, h3⟩ := vp_spec hp.1 a.natAbs (Int.natAbs_pos.mpr ha)
  have h4 : a.natAbs = p ^ vI p a * (uI p a).natAbs := by
    conv => lhs; rw [e]
    rw [Int.natAbs_mul, Int.natAbs_natCast]
  have h5 : m = (uI p a).natAbs := by
    have : p ^ vI p a * m = p ^ vI p a * (uI p a).natAbs := by rw [← h4]; exact h1.symm
    exact Nat.eq_of_mul_eq_mul_left (Nat.pow_pos hp.pos) this
  exact h2 (h5 ▸ Int.ofNat_dvd_left.mp d)
theorem uI_uniq {p : Nat} (hp : Pr p) {a u : Int} {k : Nat} (ha : a ≠ 0) (e : a = ((p ^ k : Nat) : Int) * u) (hu : ¬ (p : Int) ∣ u) : vI p a = k ∧ uI p a = u := by
  have u0 : u ≠ 0 := fun z => ha (by rw [e, z, Int.mul_zero])
  have h1 : vI p a = k := by
    unfold vI
    rw [e, Int.natAbs_mul, Int.natAbs_natCast, vp_pow hp.1 (Int.natAbs_pos.mpr u0), vp_no fun d => hu (Int.ofNat_dvd_left.mpr d)]
    rfl
  refine ⟨h1, ?_⟩
  unfold uI
  rw [h1, e, Int.mul_ediv_cancel_left _ (by have := Nat.pow_pos (n := k) hp.pos; omega)]
theorem vuI_mul {p : Nat} (hp : Pr p) {a b : Int} (ha : a ≠ 0) (hb : b ≠ 0) : vI p (a * b) = vI p a + vI p b ∧ uI p (a * b) = uI p a * uI p b := by
  obtain ⟨e1, n1, _⟩ := uI_spec hp ha
  obtain ⟨e2, n2, _⟩ := uI_spec hp hb
  refine uI_uniq hp (Int.mul_ne_zero ha hb) ?_ (fun d => (hp.dvdI d).elim n1 n2)
  rw [Nat.pow_add, Int.natCast_mul]
  conv => lhs; rw [e1, e2]
  grind
theorem uI_unit {p : Nat} (hp : Pr p) {a : Int} (ha : ¬ (p : Int) ∣ a) : vI p a = 0 ∧ uI p a = a := by
  have a0 : a ≠ 0 := by rintro rfl; exact ha (Int.dvd_zero _)
  exact uI_uniq (k := 0) hp a0 (by simp) ha
theorem uI_self {p : Nat} (hp : Pr p) : vI p (p : Int) = 1 ∧ uI p (p : Int) = 1 :=
  uI_uniq (k := 1) hp (by have := hp.1; omega) (by simp) hp.oneI
/-- the characters -/
def chi (p : Nat) (u : Int) : Bool := if p = 2 then decide (u % 8 = 3 ∨ u % 8 = 5) else !sq p u
def eps (p : Nat) (u : Int) : Bool := if p = 2 then decide (u % 4 = 3) else false
def cc (p : Nat) : Bool := if p = 2 then false else decide ((p - 1) / 2 % 2 = 1)
theorem odd_of {u : Int} (h : ¬ ((2 : Nat) : Int) ∣ u) : u % 2 = 1 := by
  have : ¬ (2 : Int) ∣ u := h
  omega
theorem chi_mul {p : Nat} (hp : Pr p) {u v : Int} (hu : ¬ (p : Int) ∣ u) (hv : ¬ (p : Int) ∣ v) : chi p (u * v) = (chi p u ^^ chi p v) := by
  unfold chi
  by_cases h : p = 2
  · subst h
    rw [if_pos rfl, if_pos rfl, if_pos rfl]
    have h1 := odd_of hu
    have h2 := odd_of hv
    have e : (u * v) % 8 = (u % 8) * (v % 8) % 8 := Int.mul_emod ..
    have a1 : u % 8 = 1 ∨ u % 8 = 3 ∨ u % 8 = 5 ∨ u % 8 = 7 := by omega
    have a2 : v % 8 = 1 ∨ v % 8 = 3 ∨ v % 8 = 5 ∨ v % 8 = 7 := by omega
    rw [e]
    rcases a1 with h | h | h | h <;> rcases a2 with k | k | k | k <;> rw [h, k] <;> decide
  · rw [if_neg h, if_neg h, if_neg h, sq_mul (Od.of hp h) hu hv]
    cases sq p u <;> cases sq p v <;> rfl
theorem eps_mul {p : Nat} {u v : Int} (hu : ¬ (p : Int) ∣ u) (hv : ¬ (p : Int) ∣ v) : eps p (u * v) = (eps p u ^^ eps p v) := by
  unfold eps
  by_cases h : p = 2
  · subst h
    rw [if_pos rfl, if_pos rfl, if_pos rfl]
    have h1 := odd_of hu
    have h2 := odd_of hv
    have e : (u * v) % 4 = (u % 4) * (v % 4) % 4 := Int.mul_emod ..
    have a1 : u % 4 = 1 ∨ u % 4 = 3 := by omega
    have a2 : v % 4 = 1 ∨ v % 4 = 3 := by omega
    rw [e]
    rcases a1 with h | h <;> rcases a2 with k | k <;> rw [h, k] <;> decide
  · rw [if_neg h, if_neg h, if_neg h]; rfl
theorem chi_one {p : Nat} : chi p 1 = false := by
  unfold chi
  split
  · decide
  · rw [sq_one]; rfl
theorem eps_one {p : Nat} : eps p 1 = false := by
  unfold eps
  split
  · decide
  · rfl
theorem neg_nd {p : Nat} {u : Int} (hu : ¬ (p : Int) ∣ u) : ¬ (p : Int) ∣ -u := fun d => hu (Int.dvd_neg.mp d)
theorem one_nd {p : Nat} (hp : Pr p) : ¬ (p : Int) ∣ (-1 : Int) := neg_nd hp.oneI
theorem chi_neg1 {p : Nat} (hp : Pr p) : chi p (-1) = cc p := by
  unfold chi cc
  by_cases h : p = 2
  · rw [if_pos h, if_pos h]; decide
  · rw [if_neg h, if_neg h, sq_neg1 (Od.of hp h)]
    by_cases k : (p - 1) / 2 % 2 = 0
    · have : ¬ (p - 1) / 2 % 2 = 1 := by omega
      simp [k]
    · have : (p - 1) / 2 % 2 = 1 := by omega
      simp [this]
def oI (p : Nat) (a : Int) : Bool := decide (vI p a % 2 = 1)
def hs (p : Nat) (a b : Int) : Bool := (oI p a && oI p b && cc p) ^^ (oI p b && chi p (uI p a)) ^^ (oI p a && chi p (uI p b)) ^^ (eps p (uI p a) && eps p (uI p b))
theorem hs_symm (p : Nat) (a b : Int) : hs p a b = hs p b a := by
  unfold hs
  generalize oI p a = x; generalize oI p b = y; generalize cc p = c
  generalize chi p (uI p a) = s; generalize chi p (uI p b) = t; generalize eps p (uI p a) = e; generalize eps p (uI p b) = f
  cases x <;> cases y <;> cases c <;> cases s <;> cases t <;> cases e <;> cases f <;> rfl
theorem oI_mul {p : Nat} (hp : Pr p) {a b : Int} (ha : a ≠ 0) (hb : b ≠ 0) : oI p (a * b) = (oI p a ^^ oI p b) := by
  unfold oI
  rw [(vuI_mul hp ha hb).1]
  by_cases h1 : vI p a % 2 = 1 <;> by_cases h2 : vI p b % 2 = 1 <;> simp [h1, h2] <;> omega
theorem hs_mul {p : Nat} (hp : Pr p) {a a' b : Int} (ha : a ≠ 0) (ha' : a' ≠ 0) : hs p (a * a') b = (hs p a b ^^ hs p a' b) := by
  have n1 := (uI_spec hp ha).2.1
  have n2 := (uI_spec hp ha').2.1
  unfold hs
  rw [oI_mul hp ha ha', (vuI_mul hp ha ha').2, chi_mul hp n1 n2, eps_mul n1 n2]
  generalize oI p a = x; generalize oI p a' = x'; generalize oI p b = y; generalize cc p = c
  generalize chi p (uI p a) = s; generalize chi p (uI p a') = s'; generalize chi p (uI p b) = t
  generalize eps p (uI p a) = e; generalize eps p (uI p a') = e'; generalize eps p (uI p b) = f
  cases x <;> cases x' <;> cases y <;> cases c <;> cases s <;> cases s' <;> cases t <;> cases e <;> cases e' <;> cases f <;> rfl
theorem hs_mulR {p : Nat} (hp : Pr p) {a b b' : Int} (hb : b ≠ 0) (hb' : b' ≠ 0) : hs p a (b * b') = (hs p a b ^^ hs p a b') := by
  rw [hs_symm, hs_mul hp hb hb', hs_symm p b, hs_symm p b']
theorem hs_sq {p : Nat} (hp : Pr p) {s b : Int} (hs0 : s ≠ 0) : hs p (s * s) b = false := by
  rw [hs_mul hp hs0 hs0]; cases hs p s b <;> rfl
theorem hs_mulsq {p : Nat} (hp : Pr p) {a s b : Int} (ha : a ≠ 0) (hs0 : s ≠ 0) : hs p (a * (s * s)) b = hs p a b := by
  rw [hs_mul hp ha (Int.mul_ne_zero hs0 hs0), hs_sq hp hs0]; cases hs p a b <;> rfl
/-- the same but for squares -/
theorem hs_class {p : Nat} (hp : Pr p) {a a' b : Int} (ha : a ≠ 0) (ha' : a' ≠ 0) {r : Int} (e : a * a' = r * r) : hs p a b = hs p a' b := by
  have r0 : r ≠ 0 := by
    rintro rfl
    exact Int.mul_ne_zero ha ha' (by simpa using e)
  have := hs_mul hp ha ha' (b := b)
  rw [e, hs_sq hp r0] at this
  revert this
  cases hs p a b <;> cases hs p a' b <;> simp
theorem hs_neg {p : Nat} (hp : Pr p) {a : Int} (ha : a ≠ 0) : hs p a (-a) = false := by
  have n1 := (uI_spec hp ha).2.1
  have e : -a = a * (-1) := by grind
  have h1 : vI p (-a) = vI p a ∧ uI p (-a) = -uI p a := by
    have := vuI_mul hp ha (show (-1 : Int) ≠ 0 by decide)
    obtain ⟨z1, z2⟩ := uI_unit hp (one_nd hp)
    rw [z1, z2, ← e] at this
    exact ⟨this.1, by rw [this.2]; grind⟩
  have h2 : oI p (-a) = oI p a := by unfold oI; rw [h1.1]
  have h3 : chi p (-uI p a) = (chi p (uI p a) ^^ cc p) := by
    have : -uI p a = uI p a * (-1) := by grind
    rw [this, chi_mul hp n1 (one_nd hp), chi_neg1 hp]
  have h4 : (eps p (uI p a) && eps p (-uI p a)) = false := by
    unfold eps
    by_cases h : p = 2
    · subst h
      have := odd_of n1
      rw [if_pos rfl, if_pos rfl]
      by_cases k : uI 2 a % 4 = 3
      · have : ¬ (-uI 2 a) % 4 = 3 := by omega
        simp [this]
      · simp [k]
    · rw [if_neg h, if_neg h]; rfl
  unfold hs
  rw [h1.2, h2, h3, h4]
  cases oI p a <;> cases chi p (uI p a) <;> cases cc p <;> rfl
theorem hs_self {p : Nat} (hp : Pr p) {a : Int} (ha : a ≠ 0) : hs p a a = hs p a (-1) := by
  have := hs_neg hp ha
  have e : -a = a * (-1) := by grind
  rw [e, hs_mulR hp ha (by decide)] at this
  revert this
  cases hs p a a <;> cases hs p a (-1) <;> simp
/-- units by an odd prime -/
theorem hs_unit {p : Nat} (hp : Pr p) (h2 : p ≠ 2) {a b : Int} (ha : ¬ (p : Int) ∣ a) (hb : ¬ (p : Int) ∣ b) : hs p a b = false := by
  unfold hs oI eps
  rw [(uI_unit hp ha).1, (uI_unit hp hb).1, if_neg h2]
  simp
/-! ### the product formula -/
def xs (f : Nat → Bool) : List Nat → Bool
  | [] => false
  | p :: S => f p ^^ xs f S
theorem xs_xor (f g : Nat → Bool) : ∀ S, xs (fun p => f p ^^ g p) S = (xs f S ^^ xs g S)
  | [] => rfl
  | p :: S => by
    simp only [xs, xs_xor f g S]
    cases f p <;> cases g p <;> cases xs f S <;> cases xs g S <;> rfl
theorem xs_congr {f g : Nat → Bool} : ∀ {S : List Nat}, (∀ p, p ∈ S → f p = g p) → xs f S = xs g S
  | [], _ => rfl
  | p :: S, h => by
    have e := xs_congr (f := f) (g := g) (S := S) fun q hq => h q (List.mem_cons_of_mem _ hq)
    simp only [xs, h p (by simp), e]
theorem xs_false {f : Nat → Bool} {S : List Nat} (h : ∀ p, p ∈ S → f p = false) : xs f S = false := by
  induction S with
  | nil => rfl
  | cons p S ih => simp only [xs, h p (by simp), ih fun q hq => h q (by simp [hq])]; rfl
theorem xs_erase {f : Nat → Bool} {q : Nat} : ∀ {S : List Nat}, q ∈ S → xs f S = (f q ^^ xs f (S.erase q))
  | [], h => by simp at h
  | p :: S, h => by
    by_cases e : p = q
    · subst e; rw [List.erase_cons_head]; rfl
    · have : (p :: S).erase q = p :: S.erase q := List.erase_cons_tail (by simpa using e)
      rw [this]
      simp only [xs]
      rw [xs_erase ((List.mem_cons.mp h).resolve_left (Ne.symm e))]
      cases f p <;> cases f q <;> cases xs f (S.erase q) <;> rfl
theorem xs_one {f : Nat → Bool} {q : Nat} {S : List Nat} (nd : S.Nodup) (h : q ∈ S) (z : ∀ p, p ∈ S → p ≠ q → f p = false) : xs f S = f q := by
  rw [xs_erase h, xs_false fun p hp => z p (List.mem_of_mem_erase hp) (nd.mem_erase_iff.mp hp).1]
  cases f q <;> rfl
theorem xs_two {f : Nat → Bool} {q r : Nat} {S : List Nat} (nd : S.Nodup) (h : q ∈ S) (k : r ∈ S) (hqr : q ≠ r) (z : ∀ p, p ∈ S → p ≠ q → p ≠ r → f p = false) : xs f S = (f q ^^ f r) := by
  rw [xs_erase h, xs_one (nd.erase q) (nd.mem_erase_iff.mpr ⟨Ne.symm hqr, k⟩) fun p hp hpr => z p (List.mem_of_mem_erase hp) (nd.mem_erase_iff.mp hp).1 hpr]
theorem xs_three {f : Nat → Bool} {q r t : Nat} {S : List Nat} (nd : S.Nodup) (h : q ∈ S) (k : r ∈ S) (l : t ∈ S) (hqr : q ≠ r) (hqt : q ≠ t) (hrt : r ≠ t) (z : ∀ p, p ∈ S → p ≠ q → p ≠ r → p ≠ t → f p = false) : xs f S = (f q ^^ (f r ^^ f t)) := by
  rw [xs_erase h, xs_two (nd.erase q) (nd.mem_erase_iff.mpr ⟨Ne.symm hqr, k⟩) (nd.mem_erase_iff.mpr ⟨Ne.symm hqt, l⟩) hrt fun p hp h1 h2 => z p (List.mem_of_mem_erase hp) (nd.mem_erase_iff.mp hp).1 h1 h2]
theorem xs_count (f : Nat → Bool) : ∀ S, xs f S = decide (S.countP f % 2 = 1)
  | [] => rfl
  | p :: S => by
    simp only [xs, xs_count f S, List.countP_cons]
    cases f p
    · simp
    · by_cases h : S.countP f % 2 = 1 <;> simp [h] <;> omega
def ng (a : Int) : Bool := decide (a < 0)
theorem ng_mul {a b : Int} (ha : a ≠ 0) (hb : b ≠ 0) : ng (a * b) = (ng a ^^ ng b) := by
  unfold ng
  by_cases h1 : a < 0 <;> by_cases h2 : b < 0
  · have := Int.mul_pos_of_neg_of_neg h1 h2
    simp [h1, h2]; omega
  · have := Int.mul_neg_of_neg_of_pos h1 (show 0 < b by omega)
    simp [h1, h2, this]
  · have := Int.mul_neg_of_pos_of_neg (show 0 < a by omega) h2
    simp [h1, h2, this]
  · have := Int.mul_pos (show 0 < a by omega) (show 0 < b by omega)
    simp [h1, h2]; omega
/-- the product over S and the signs -/
def pf (S : List Nat) (a b : Int) : Bool := xs (fun p => hs p a b) S ^^ (ng a && ng b)
structure Pl (S : List Nat) : Prop where
  nd : S.Nodup
  pr : ∀ p, p ∈ S → Pr p
  two : 2 ∈ S
theorem pf_mul {S : List Nat} (h : Pl S) {a a' b : Int} (ha : a ≠ 0) (ha' : a' ≠ 0) : pf S (a * a') b = (pf S a b ^^ pf S a' b) := by
  unfold pf
  rw [xs_congr fun p hp => hs_mul (h.pr p hp) ha ha', xs_xor, ng_mul ha ha']
  cases xs (fun p => hs p a b) S <;> cases xs (fun p => hs p a' b) S <;> cases ng a <;> cases ng a' <;> cases ng b <;> rfl
theorem pf_symm (S : List Nat) (a b : Int) : pf S a b = pf S b a := by
  unfold pf
  rw [xs_congr fun p _ => hs_symm p a b]
  cases ng a <;> cases ng b <;> rfl
theorem hs_one {p : Nat} (hp : Pr p) (b : Int) : hs p 1 b = false := by
  have := hs_sq hp (s := 1) (b := b) (by decide)
  simpa using this
theorem pf_one {S : List Nat} (h : Pl S) (b : Int) : pf S 1 b = false := by
  unfold pf
  rw [xs_false fun p hp => hs_one (h.pr p hp) b]
  have : ng 1 = false := rfl
  rw [this]; rfl
theorem pr2 : Pr 2 := ⟨by decide, fun d hd => by
  have := Nat.le_of_dvd (by decide) hd
  have : d ≠ 0 := by rintro rfl; exact absurd hd (by decide)
  omega⟩
theorem nd_prime {p q : Nat} (hp : Pr p) (hq : Pr q) (h : p ≠ q) : ¬ (p : Int) ∣ (q : Int) := fun d => h (hp.eq hq (Int.natCast_dvd_natCast.mp d))
theorem hs2_units {a b : Int} (ha : ¬ ((2 : Nat) : Int) ∣ a) (hb : ¬ ((2 : Nat) : Int) ∣ b) : hs 2 a b = (decide (a % 4 = 3) && decide (b % 4 = 3)) := by
  unfold hs oI
  rw [(uI_unit pr2 ha).1, (uI_unit pr2 hb).1, (uI_unit pr2 ha).2, (uI_unit pr2 hb).2]
  simp [eps]
theorem hs_pu {p : Nat} (hp : Pr p) (h2 : p ≠ 2) {b : Int} (hb : ¬ (p : Int) ∣ b) : hs p (p : Int) b = chi p b := by
  unfold hs oI
  rw [(uI_self hp).1, (uI_self hp).2, (uI_unit hp hb).1, (uI_unit hp hb).2, eps_one]
  simp
theorem hs2_2u {b : Int} (hb : ¬ ((2 : Nat) : Int) ∣ b) : hs 2 2 b = chi 2 b := by
  unfold hs oI
  have e := uI_self pr2
  rw [show ((2 : Nat) : Int) = 2 from rfl] at e
  rw [e.1, e.2, (uI_unit pr2 hb).1, (uI_unit pr2 hb).2, eps_one]
  simp
theorem pf_11 {S : List Nat} (h : Pl S) : pf S (-1) (-1) = false := by
  unfold pf
  rw [xs_one h.nd h.two fun p hp hp2 => hs_unit (h.pr p hp) hp2 (one_nd (h.pr p hp)) (one_nd (h.pr p hp)), hs2_units (one_nd pr2) (one_nd pr2)]
  decide
theorem pf_12 {S : List Nat} (h : Pl S) : pf S 2 (-1) = false := by
  unfold pf
  rw [xs_one h.nd h.two fun p hp hp2 => hs_unit (h.pr p hp) hp2 (show ¬ (p : Int) ∣ 2 from nd_prime (h.pr p hp) pr2 hp2) (one_nd (h.pr p hp)), hs2_2u (one_nd pr2)]
  decide
theorem odd_pr {q : Nat} (hq : Pr q) (h2 : q ≠ 2) : (q : Int) % 2 = 1 := by have := (Od.of hq h2).odd; omega
theorem pf_1q {S : List Nat} (h : Pl S) {q : Nat} (hq : Pr q) (h2 : q ≠ 2) (hS : q ∈ S) : pf S (q : Int) (-1) = false := by
  unfold pf
  rw [xs_two h.nd h.two hS (Ne.symm h2) fun p hp hp2 hpq => hs_unit (h.pr p hp) hp2 (nd_prime (h.pr p hp) hq hpq) (one_nd (h.pr p hp)), hs2_units (nd_prime pr2 hq (Ne.symm h2)) (one_nd pr2), hs_pu hq h2 (one_nd hq), chi_neg1 hq]
  unfold cc ng
  rw [if_neg h2]
  have := (Od.of hq h2).odd
  by_cases k : q % 4 = 3
  · have k1 : (q : Int) % 4 = 3 := by omega
    have k2 : (q - 1) / 2 % 2 = 1 := by omega
    simp [k1, k2]
  · have k1 : ¬ (q : Int) % 4 = 3 := by omega
    have k2 : ¬ (q - 1) / 2 % 2 = 1 := by omega
    have k3 : ¬ (q : Int) < 0 := by omega
    simp [k1, k2, k3]
theorem tri_par (h : Nat) : h * (h + 1) / 2 % 2 = 0 ↔ h % 4 = 0 ∨ h % 4 = 3 := by
  have e : h = 4 * (h / 4) + h % 4 := by omega
  generalize h / 4 = k at e
  have : h % 4 = 0 ∨ h % 4 = 1 ∨ h % 4 = 2 ∨ h % 4 = 3 := by omega
  rcases this with r | r | r | r <;> rw [r] at e ⊢
  · have : h * (h + 1) = 4 * (4 * (k * k) + k) := by rw [e]; grind
    omega
  · have : h * (h + 1) = 4 * (4 * (k * k) + 3 * k) + 2 := by rw [e]; grind
    omega
  · have : h * (h + 1) = 4 * (4 * (k * k) + 5 * k + 1) + 2 := by rw [e]; grind
    omega
  · have : h * (h + 1) = 4 * (4 * (k * k) + 7 * k + 3) := by rw [e]; grind
    omega
theorem pf_2q {S : List Nat} (h : Pl S) {q : Nat} (hq : Pr q) (h2 : q ≠ 2) (hS : q ∈ S) : pf S 2 (q : Int) = false := by
  unfold pf
  have o := (Od.of hq h2).odd
  have n2 : ¬ (q : Int) ∣ 2 := nd_prime hq pr2 h2
  rw [xs_two h.nd h.two hS (Ne.symm h2) fun p hp hp2 hpq => hs_unit (h.pr p hp) hp2 (show ¬ (p : Int) ∣ 2 from nd_prime (h.pr p hp) pr2 hp2) (nd_prime (h.pr p hp) hq hpq), hs2_2u (nd_prime pr2 hq (Ne.symm h2)), hs_symm, hs_pu hq h2 n2]
  unfold chi ng
  rw [if_pos rfl, if_neg h2, sq_two (Od.of hq h2)]
  have t := tri_par ((q - 1) / 2)
  by_cases k : q % 8 = 3 ∨ q % 8 = 5
  · have k1 : (q : Int) % 8 = 3 ∨ (q : Int) % 8 = 5 := by omega
    have k2 : ¬ (q - 1) / 2 * ((q - 1) / 2 + 1) / 2 % 2 = 0 := fun z => by have := t.mp z; omega
    simp [k1, k2]
  · have k1 : ¬ ((q : Int) % 8 = 3 ∨ (q : Int) % 8 = 5) := by omega
    have k2 : (q - 1) / 2 * ((q - 1) / 2 + 1) / 2 % 2 = 0 := t.mpr (by omega)
    simp [k1, k2]
theorem pf_qr {S : List Nat} (h : Pl S) {q r : Nat} (hq : Pr q) (h2 : q ≠ 2) (hS : q ∈ S) (hr : Pr r) (r2 : r ≠ 2) (rS : r ∈ S) (hqr : q ≠ r) : pf S (q : Int) (r : Int) = false := by
  unfold pf
  have o1 := (Od.of hq h2).odd
  have o2 := (Od.of hr r2).odd
  rw [xs_three h.nd h.two hS rS (Ne.symm h2) (Ne.symm r2) hqr fun p hp hp2 hpq hpr => hs_unit (h.pr p hp) hp2 (nd_prime (h.pr p hp) hq hpq) (nd_prime (h.pr p hp) hr hpr),
    hs2_units (nd_prime pr2 hq (Ne.symm h2)) (nd_prime pr2 hr (Ne.symm r2)), hs_pu hq h2 (nd_prime hq hr hqr), hs_symm, hs_pu hr r2 (nd_prime hr hq (Ne.symm hqr))]
  have R := recip (Od.of hq h2) (Od.of hr r2) hqr
  unfold chi ng
  rw [if_neg h2, if_neg r2]
  have k3 : ¬ (q : Int) < 0 := by omega
  have m : (q - 1) / 2 * ((r - 1) / 2) % 2 = ((q - 1) / 2 % 2) * ((r - 1) / 2 % 2) % 2 := Nat.mul_mod ..
  by_cases a : q % 4 = 3 <;> by_cases b : r % 4 = 3
  · have a1 : (q : Int) % 4 = 3 := by omega
    have b1 : (r : Int) % 4 = 3 := by omega
    have a2 : (q - 1) / 2 % 2 = 1 := by omega
    have b2 : (r - 1) / 2 % 2 = 1 := by omega
    rw [m, a2, b2] at R
    simp [a1, b1, k3]
    revert R
    cases sq q r <;> cases sq r q <;> simp
  · have b1 : ¬ (r : Int) % 4 = 3 := by omega
    have b2 : (r - 1) / 2 % 2 = 0 := by omega
    rw [m, b2] at R
    simp [b1, k3]
    revert R
    cases sq q r <;> cases sq r q <;> simp
  · have a1 : ¬ (q : Int) % 4 = 3 := by omega
    have a2 : (q - 1) / 2 % 2 = 0 := by omega
    rw [m, a2] at R
    simp [a1, k3]
    revert R
    cases sq q r <;> cases sq r q <;> simp
  · have a1 : ¬ (q : Int) % 4 = 3 := by omega
    have a2 : (q - 1) / 2 % 2 = 0 := by omega
    rw [m, a2] at R
    simp [a1, k3]
    revert R
    cases sq q r <;> cases sq r q <;> simp
theorem pf_self {S : List Nat} (h : Pl S) {a : Int} (ha : a ≠ 0) : pf S a a = pf S a (-1) := by
  unfold pf
  rw [xs_congr fun p hp => hs_self (h.pr p hp) ha]
  have : ng (-1) = true := rfl
  rw [this]
  cases ng a <;> rfl
/-- two primes, or -1 -/
theorem pf_q1 {S : List Nat} (h : Pl S) {q : Nat} (hS : q ∈ S) : pf S (q : Int) (-1) = false := by
  by_cases e : q = 2
  · subst e; exact pf_12 h
  · exact pf_1q h (h.pr q hS) e hS
theorem pf_pp {S : List Nat} (h : Pl S) {q r : Nat} (hS : q ∈ S) (rS : r ∈ S) : pf S (q : Int) (r : Int) = false := by
  have hq := h.pr q hS
  have hr := h.pr r rS
  by_cases e : q = r
  · subst e
    rw [pf_self h (by have := hq.1; omega)]
    exact pf_q1 h hS
  · by_cases e1 : q = 2
    · subst e1; exact pf_2q h hr (Ne.symm e) rS
    · by_cases e2 : r = 2
      · subst e2; rw [pf_symm]; exact pf_2q h hq e1 hS
      · exact pf_qr h hq e1 hS hr e2 rS e
/-- by the primes of the first number -/
theorem pf_ind {S : List Nat} (h : Pl S) {b : Int} (h1 : pf S (-1) b = false) (hq : ∀ q, q ∈ S → pf S (q : Int) b = false) : ∀ (n : Nat) (a : Int), a.natAbs = n → a ≠ 0 → (∀ p, Pr p → (p : Int) ∣ a → p ∈ S) → pf S a b = false := by
  intro n
  induction n using Nat.strongRecOn with
  | ind n ih =>
    intro a hn ha hp
    by_cases e : n = 1
    · have : a = 1 ∨ a = -1 := by omega
      rcases this with rfl | rfl
      · exact pf_one h b
      · exact h1
    · obtain ⟨p, hpr, hd⟩ := ex_pr n (by omega)
      have hd2 : (p : Int) ∣ a := Int.ofNat_dvd_left.mpr (hn ▸ hd)
      obtain ⟨c, rfl⟩ := hd2
      have c0 : c ≠ 0 := by rintro rfl; simp at ha
      have p0 : (p : Int) ≠ 0 := by have := hpr.1; omega
      have pS := hp p hpr (Int.dvd_mul_right _ _)
      rw [pf_mul h p0 c0, hq p pS]
      have hlt : c.natAbs < n := by
        rw [← hn, Int.natAbs_mul, Int.natAbs_natCast]
        have : 1 * c.natAbs < p * c.natAbs := Nat.mul_lt_mul_of_pos_right (by have := hpr.1; omega) (Int.natAbs_pos.mpr c0)
        omega
      rw [ih c.natAbs hlt c rfl c0 fun r hr hd => hp r hr (Int.dvd_mul_of_dvd_right hd)]
      rfl
/-- the product formula -/
theorem product_formula {S : List Nat} (h : Pl S) {a b : Int} (ha : a ≠ 0) (hb : b ≠ 0) (pa : ∀ p, Pr p → (p : Int) ∣ a → p ∈ S) (pb : ∀ p, Pr p → (p : Int) ∣ b → p ∈ S) : pf S a b = false := by
  refine pf_ind h ?_ (fun q hq => ?_) _ a rfl ha pa
  · rw [pf_symm]
    exact pf_ind h (pf_11 h) (fun q hq => pf_q1 h hq) _ b rfl hb pb
  · rw [pf_symm]
    refine pf_ind h ?_ (fun r hr => ?_) _ b rfl hb pb
    · rw [pf_symm]; exact pf_q1 h hq
    · exact pf_pp h hr hq
end NT

namespace NT
/-! ### a x x + b y y = z z makes the symbol trivial -/
theorem sq8 (x : Int) : ((x * x) % 8 = 1 ∧ x % 2 = 1) ∨ ((x * x) % 8 = 0 ∧ x % 2 = 0) ∨ ((x * x) % 8 = 4 ∧ x % 2 = 0) := by
  have e : (x * x) % 8 = ((x % 8) * (x % 8)) % 8 := Int.mul_emod ..
  have h : x % 8 = 0 ∨ x % 8 = 1 ∨ x % 8 = 2 ∨ x % 8 = 3 ∨ x % 8 = 4 ∨ x % 8 = 5 ∨ x % 8 = 6 ∨ x % 8 = 7 := by omega
  rcases h with h | h | h | h | h | h | h | h <;> rw [h] at e <;> omega
theorem odd8 {u : Int} (h : u % 2 = 1) : u % 8 = 1 ∨ u % 8 = 3 ∨ u % 8 = 5 ∨ u % 8 = 7 := by omega
theorem k2_00 {u v x y z : Int} (hu : u % 2 = 1) (hv : v % 2 = 1) (h : u * (x * x) + v * (y * y) = z * z) (np : ¬ (x % 2 = 0 ∧ y % 2 = 0 ∧ z % 2 = 0)) : (decide (u % 4 = 3) && decide (v % 4 = 3)) = false := by
  have e1 : (u * (x * x)) % 8 = ((u % 8) * ((x * x) % 8)) % 8 := Int.mul_emod ..
  have e2 : (v * (y * y)) % 8 = ((v % 8) * ((y * y) % 8)) % 8 := Int.mul_emod ..
  refine Classical.byContradiction fun q => ?_
  simp at q
  have u8 : u % 8 = 3 ∨ u % 8 = 7 := by omega
  have v8 : v % 8 = 3 ∨ v % 8 = 7 := by omega
  rcases sq8 x with ⟨hx, px⟩ | ⟨hx, px⟩ | ⟨hx, px⟩ <;> rcases sq8 y with ⟨hy, py⟩ | ⟨hy, py⟩ | ⟨hy, py⟩ <;> rcases sq8 z with ⟨hz, pz⟩ | ⟨hz, pz⟩ | ⟨hz, pz⟩ <;> rw [hx] at e1 <;> rw [hy] at e2 <;> omega
theorem k2_10 {u v x y z : Int} (hu : u % 2 = 1) (hv : v % 2 = 1) (h : 2 * (u * (x * x)) + v * (y * y) = z * z) (np : ¬ (x % 2 = 0 ∧ y % 2 = 0 ∧ z % 2 = 0)) : (decide (v % 8 = 3 ∨ v % 8 = 5) ^^ (decide (u % 4 = 3) && decide (v % 4 = 3))) = false := by
  have e1 : (u * (x * x)) % 8 = ((u % 8) * ((x * x) % 8)) % 8 := Int.mul_emod ..
  have e2 : (v * (y * y)) % 8 = ((v % 8) * ((y * y) % 8)) % 8 := Int.mul_emod ..
  have key : v % 8 = 1 ∨ (v % 8 = 7 ∧ u % 4 = 1) ∨ (v % 8 = 3 ∧ u % 4 = 3) := by
    rcases sq8 x with ⟨hx, px⟩ | ⟨hx, px⟩ | ⟨hx, px⟩ <;> rcases sq8 y with ⟨hy, py⟩ | ⟨hy, py⟩ | ⟨hy, py⟩ <;> rcases sq8 z with ⟨hz, pz⟩ | ⟨hz, pz⟩ | ⟨hz, pz⟩ <;> rw [hx] at e1 <;> rw [hy] at e2 <;> omega
  rcases key with k | ⟨k, l⟩ | ⟨k, l⟩
  · have : ¬ v % 4 = 3 := by omega
    simp [k, this]
  · have : ¬ u % 4 = 3 := by omega
    simp [k, this]
  · have : v % 4 = 3 := by omega
    simp [k, l, this]
theorem k2_11 {u v x y z : Int} (hu : u % 2 = 1) (hv : v % 2 = 1) (h : u * (x * x) + v * (y * y) = 2 * (z * z)) (np : ¬ (x % 2 = 0 ∧ y % 2 = 0)) : (decide (v % 8 = 3 ∨ v % 8 = 5) ^^ decide (u % 8 = 3 ∨ u % 8 = 5) ^^ (decide (u % 4 = 3) && decide (v % 4 = 3))) = false := by
  have e1 : (u * (x * x)) % 8 = ((u % 8) * ((x * x) % 8)) % 8 := Int.mul_emod ..
  have e2 : (v * (y * y)) % 8 = ((v % 8) * ((y * y) % 8)) % 8 := Int.mul_emod ..
  have key : (u + v) % 8 = 0 ∨ (u + v) % 8 = 2 := by
    rcases sq8 x with ⟨hx, px⟩ | ⟨hx, px⟩ | ⟨hx, px⟩ <;> rcases sq8 y with ⟨hy, py⟩ | ⟨hy, py⟩ | ⟨hy, py⟩ <;> rcases sq8 z with ⟨hz, pz⟩ | ⟨hz, pz⟩ | ⟨hz, pz⟩ <;> rw [hx] at e1 <;> rw [hy] at e2 <;> omega
  rcases odd8 hu with k | k | k | k <;> rcases odd8 hv with l | l | l | l <;> (try omega) <;>
  · have k4 : u % 4 = u % 8 % 4 := by omega
    have l4 : v % 4 = v % 8 % 4 := by omega
    rw [k4, l4, k, l]; decide
theorem dvd_sq {p : Nat} (hp : Pr p) {x : Int} (h : (p : Int) ∣ x * x) : (p : Int) ∣ x := (hp.dvdI h).elim id id
/-- odd primes -/
theorem kp_10 {p : Nat} (hp : Pr p) (h2 : p ≠ 2) {u v x y z : Int} (hu : ¬ (p : Int) ∣ u) (hv : ¬ (p : Int) ∣ v) (h : (p : Int) * u * (x * x) + v * (y * y) = z * z) (np : ¬ ((p : Int) ∣ x ∧ (p : Int) ∣ y ∧ (p : Int) ∣ z)) : sq p v = true := by
  have od := Od.of hp h2
  have p0 : (p : Int) ≠ 0 := by have := hp.1; omega
  have ny : ¬ (p : Int) ∣ y := fun ⟨c, hc⟩ => by
    have hz : (p : Int) ∣ z := dvd_sq hp ⟨u * (x * x) + v * (c * y), by rw [← h, hc]; grind⟩
    obtain ⟨d, hd⟩ := hz
    have hx : (p : Int) ∣ u * (x * x) := by
      have e : (p : Int) * (u * (x * x)) = (p : Int) * ((p : Int) * (d * d - v * (c * c))) := by
        rw [hc, hd] at h; grind
      exact ⟨_, Int.eq_of_mul_eq_mul_left p0 e⟩
    exact np ⟨dvd_sq hp ((hp.dvdI hx).resolve_left hu), ⟨c, hc⟩, ⟨d, hd⟩⟩
  have nvy : ¬ (p : Int) ∣ v * (y * y) := fun d => (hp.dvdI d).elim hv fun d => ny (dvd_sq hp d)
  have := sq_sq od (x := z) nvy ⟨u * (x * x), by rw [← h]; grind⟩
  rwa [sq_mulsq od hv ny] at this
theorem kp_11 {p : Nat} (hp : Pr p) (h2 : p ≠ 2) {u v x y z : Int} (hu : ¬ (p : Int) ∣ u) (hv : ¬ (p : Int) ∣ v) (h : u * (x * x) + v * (y * y) = (p : Int) * (z * z)) (np : ¬ ((p : Int) ∣ x ∧ (p : Int) ∣ y)) : sq p (-(u * v)) = true := by
  have od := Od.of hp h2
  have ny : ¬ (p : Int) ∣ y := fun ⟨c, hc⟩ => by
    have hx : (p : Int) ∣ u * (x * x) := ⟨z * z - v * (c * y), by rw [hc] at h ⊢; grind⟩
    exact np ⟨dvd_sq hp ((hp.dvdI hx).resolve_left hu), ⟨c, hc⟩⟩
  have nuv : ¬ (p : Int) ∣ -(u * v) := neg_nd fun d => (hp.dvdI d).elim hu hv
  have nvy : ¬ (p : Int) ∣ -(u * v) * (y * y) := fun d => (hp.dvdI d).elim nuv fun d => ny (dvd_sq hp d)
  have := sq_sq od (x := u * x) nvy ⟨u * (z * z), by grind⟩
  rwa [sq_mulsq od nuv ny] at this
/-- powers 0 and 1, a primitive row -/
theorem k_prim {p : Nat} (hp : Pr p) {u v x y z : Int} (hu : ¬ (p : Int) ∣ u) (hv : ¬ (p : Int) ∣ v) (e f : Bool) (h : (if e then (p : Int) else 1) * u * (x * x) + (if f then (p : Int) else 1) * v * (y * y) = z * z)
    (np : ¬ ((p : Int) ∣ x ∧ (p : Int) ∣ y ∧ (p : Int) ∣ z)) : hs p ((if e then (p : Int) else 1) * u) ((if f then (p : Int) else 1) * v) = false := by
  have p0 : (p : Int) ≠ 0 := by have := hp.1; omega
  have u0 : u ≠ 0 := by rintro rfl; exact hu (Int.dvd_zero _)
  have v0 : v ≠ 0 := by rintro rfl; exact hv (Int.dvd_zero _)
  have par : ∀ w : Int, ((2 : Nat) : Int) ∣ w ↔ w % 2 = 0 := fun w => by
    show (2 : Int) ∣ w ↔ _
    omega
  by_cases h2 : p = 2
  · subst h2
    have ou := odd_of hu
    have ov := odd_of hv
    rw [par, par, par] at np
    cases e <;> cases f <;> simp only [if_true, if_false, Int.one_mul, Bool.false_eq_true] at h ⊢
    · rw [hs2_units hu hv]; exact k2_00 ou ov h np
    · rw [hs_symm, hs_mul pr2 (by decide) v0, show (((2 : Nat) : Int)) = 2 from rfl, hs2_2u hu, hs2_units hv hu]
      have := k2_10 (u := v) (v := u) (x := y) (y := x) (z := z) ov ou (by rw [← h]; grind) (by omega)
      exact this
    · rw [hs_mul pr2 (by decide) u0, show (((2 : Nat) : Int)) = 2 from rfl, hs2_2u hv, hs2_units hu hv]
      have := k2_10 (u := u) (v := v) (x := x) (y := y) (z := z) ou ov (by rw [← h]; grind) np
      exact this
    · have hz : z % 2 = 0 := by
        rw [← par]; exact dvd_sq pr2 ⟨u * (x * x) + v * (y * y), by rw [← h]; grind⟩
      obtain ⟨d, rfl⟩ := (par z).mpr hz
      have h5 : u * (x * x) + v * (y * y) = 2 * (d * d) := by
        have : (2 : Int) * (u * (x * x) + v * (y * y)) = 2 * (2 * (d * d)) := by
          have h := h
          rw [show (((2 : Nat) : Int)) = 2 from rfl] at h
          grind
        exact Int.eq_of_mul_eq_mul_left (by decide) this
      have := k2_11 ou ov h5 (by omega)
      rw [hs_mul pr2 (by decide) u0, hs_mulR pr2 (by decide) v0, hs_mulR pr2 (by decide) v0, hs_self pr2 (by decide), hs_symm 2 u, show (((2 : Nat) : Int)) = 2 from rfl, hs2_2u hv, hs2_2u hu, hs2_2u (one_nd pr2), hs2_units hu hv]
      have e0 : chi 2 (-1) = false := by decide
      rw [e0]
      unfold chi
      rw [if_pos rfl, if_pos rfl]
      revert this
      generalize decide (v % 8 = 3 ∨ v % 8 = 5) = A
      generalize decide (u % 8 = 3 ∨ u % 8 = 5) = B
      generalize (decide (u % 4 = 3) && decide (v % 4 = 3)) = D
      cases A <;> cases B <;> cases D <;> simp
  · have cs : ∀ w : Int, chi p w = !sq p w := fun w => by unfold chi; rw [if_neg h2]
    cases e <;> cases f <;> simp only [if_true, if_false, Int.one_mul, Bool.false_eq_true] at h ⊢
    · exact hs_unit hp h2 hu hv
    · rw [hs_symm, hs_mul hp p0 v0, hs_pu hp h2 hu, hs_unit hp h2 hv hu, cs]
      rw [kp_10 hp h2 (u := v) (v := u) (x := y) (y := x) (z := z) hv hu (by rw [← h]; grind) (fun ⟨a, b, c⟩ => np ⟨b, a, c⟩)]; rfl
    · rw [hs_mul hp p0 u0, hs_pu hp h2 hv, hs_unit hp h2 hu hv, cs]
      rw [kp_10 hp h2 (x := x) (y := y) (z := z) hu hv h np]; rfl
    · have hz : (p : Int) ∣ z := dvd_sq hp ⟨u * (x * x) + v * (y * y), by rw [← h]; grind⟩
      obtain ⟨d, rfl⟩ := hz
      have h5 : u * (x * x) + v * (y * y) = (p : Int) * (d * d) := by
        have : (p : Int) * (u * (x * x) + v * (y * y)) = (p : Int) * ((p : Int) * (d * d)) := by grind
        exact Int.eq_of_mul_eq_mul_left p0 this
      have k := kp_11 hp h2 hu hv h5 (fun ⟨a, b⟩ => np ⟨a, b, Int.dvd_mul_right _ _⟩)
      rw [hs_mul hp p0 u0, hs_mulR hp p0 v0, hs_mulR hp p0 v0, hs_self hp p0, hs_symm p u, hs_pu hp h2 hv, hs_pu hp h2 hu, hs_pu hp h2 (one_nd hp), hs_unit hp h2 hu hv, cs, cs, cs]
      have e1 : -(u * v) = u * v * (-1) := by grind
      rw [e1, sq_mul (Od.of hp h2) (fun d => (hp.dvdI d).elim hu hv) (one_nd hp), sq_mul (Od.of hp h2) hu hv] at k
      revert k
      cases sq p u <;> cases sq p v <;> cases sq p (-1) <;> simp
theorem k_low {p : Nat} (hp : Pr p) {u v : Int} (hu : ¬ (p : Int) ∣ u) (hv : ¬ (p : Int) ∣ v) (e f : Bool) : ∀ (n : Nat) (x y z : Int), x.natAbs + y.natAbs + z.natAbs = n → ¬ (x = 0 ∧ y = 0 ∧ z = 0) →
    (if e then (p : Int) else 1) * u * (x * x) + (if f then (p : Int) else 1) * v * (y * y) = z * z → hs p ((if e then (p : Int) else 1) * u) ((if f then (p : Int) else 1) * v) = false := by
  have p0 : (p : Int) ≠ 0 := by have := hp.1; omega
  intro n
  induction n using Nat.strongRecOn with
  | ind n ih =>
    intro x y z hn nz h
    by_cases np : (p : Int) ∣ x ∧ (p : Int) ∣ y ∧ (p : Int) ∣ z
    · obtain ⟨⟨x1, rfl⟩, ⟨y1, rfl⟩, ⟨z1, rfl⟩⟩ := np
      have lt : ∀ w : Int, w.natAbs ≤ (p * w : Int).natAbs ∧ (w ≠ 0 → w.natAbs < (p * w : Int).natAbs) := fun w => by
        rw [Int.natAbs_mul, Int.natAbs_natCast]
        have h1 := hp.1
        refine ⟨Nat.le_mul_of_pos_left _ (by omega), fun hw => ?_⟩
        have : 1 * w.natAbs < p * w.natAbs := Nat.mul_lt_mul_of_pos_right (by omega) (Int.natAbs_pos.mpr hw)
        omega
      have nz1 : ¬ (x1 = 0 ∧ y1 = 0 ∧ z1 = 0) := fun ⟨a, b, c⟩ => nz ⟨by rw [a]; simp, by rw [b]; simp, by rw [c]; simp⟩
      refine ih _ ?_ x1 y1 z1 rfl nz1 ?_
      · have a := lt x1
        have b := lt y1
        have c := lt z1
        omega
      · have : (p : Int) * (p : Int) * ((if e then (p : Int) else 1) * u * (x1 * x1) + (if f then (p : Int) else 1) * v * (y1 * y1)) = (p : Int) * (p : Int) * (z1 * z1) := by grind
        exact Int.eq_of_mul_eq_mul_left (Int.mul_ne_zero p0 p0) this
    · exact k_prim hp hu hv e f h np
/-- an answer makes the symbol trivial -/
theorem hs_norm {p : Nat} (hp : Pr p) {a b x y z : Int} (ha : a ≠ 0) (hb : b ≠ 0) (nz : ¬ (x = 0 ∧ y = 0 ∧ z = 0)) (h : a * (x * x) + b * (y * y) = z * z) : hs p a b = false := by
  have p0 : (p : Int) ≠ 0 := by have := hp.1; omega
  have red : ∀ a : Int, a ≠ 0 → ∃ (e : Bool) (u s : Int), ¬ (p : Int) ∣ u ∧ s ≠ 0 ∧ a = (if e then (p : Int) else 1) * u * (s * s) := fun a ha => by
    obtain ⟨e1, n1, u1⟩ := uI_spec hp ha
    refine ⟨decide (vI p a % 2 = 1), uI p a, ((p ^ (vI p a / 2) : Nat) : Int), n1, by have := Nat.pow_pos (n := vI p a / 2) hp.pos; omega, ?_⟩
    conv => lhs; rw [e1]
    have e2 : vI p a = vI p a / 2 + vI p a / 2 + vI p a % 2 := by omega
    have e3 : p ^ vI p a = p ^ (vI p a / 2) * p ^ (vI p a / 2) * p ^ (vI p a % 2) := by rw [← Nat.pow_add, ← Nat.pow_add, ← e2]
    rw [e3]
    by_cases k : vI p a % 2 = 1
    · rw [k]; simp; grind
    · have k : vI p a % 2 = 0 := by omega
      rw [k]; simp; grind
  obtain ⟨e, u, s, hu, s0, ea⟩ := red a ha
  obtain ⟨f, v, t, hv, t0, eb⟩ := red b hb
  have i0 : ∀ c : Bool, (if c then (p : Int) else 1) ≠ 0 := fun c => by cases c <;> simp <;> omega
  have u0 : u ≠ 0 := by rintro rfl; exact hu (Int.dvd_zero _)
  have v0 : v ≠ 0 := by rintro rfl; exact hv (Int.dvd_zero _)
  have := k_low hp hu hv e f _ (s * x) (t * y) z rfl (fun ⟨q1, q2, q3⟩ => nz ⟨(Int.mul_eq_zero.mp q1).resolve_left s0, (Int.mul_eq_zero.mp q2).resolve_left t0, q3⟩) (by rw [← h, ea, eb]; grind)
  rw [ea, eb, hs_mulsq hp (Int.mul_ne_zero (i0 e) u0) s0, hs_symm, hs_mulsq hp (Int.mul_ne_zero (i0 f) v0) t0, hs_symm]
  exact this
end NT

namespace NT
theorem hs_neg1R {p : Nat} (hp : Pr p) {a b : Int} (ha : a ≠ 0) (hb : b ≠ 0) : hs p a (-b) = (hs p a (-1) ^^ hs p a b) := by
  have : -b = -1 * b := by omega
  rw [this, hs_mulR hp (by decide) hb]
/-- a number that two weights come to -/
theorem hs_repr {p : Nat} (hp : Pr p) {a b t x y : Int} (ha : a ≠ 0) (hb : b ≠ 0) (ht : t ≠ 0) (e : a * (x * x) + b * (y * y) = t) : hs p a b = hs p t (-(a * b)) := by
  have h := hs_norm hp (a := a * t) (b := b * t) (x := x) (y := y) (z := t) (Int.mul_ne_zero ha ht) (Int.mul_ne_zero hb ht) (fun h => ht h.2.2) (by rw [← e]; grind)
  rw [hs_mul hp ha ht, hs_mulR hp hb ht, hs_mulR hp hb ht, hs_self hp ht] at h
  rw [hs_neg1R hp ht (Int.mul_ne_zero ha hb), hs_mulR hp ha hb, hs_symm p t a, hs_symm p t b]
  revert h
  rw [hs_symm p t b]
  generalize hs p a b = A; generalize hs p a t = B; generalize hs p b t = C; generalize hs p t (-1) = D
  cases A <;> cases B <;> cases C <;> cases D <;> simp
theorem neg_sq_class {p : Nat} (hp : Pr p) {a b x y : Int} (ha : a ≠ 0) (hb : b ≠ 0) (nz : ¬ (x = 0 ∧ y = 0)) (e : a * (x * x) + b * (y * y) = 0) : hs p a b = false ∧ ∀ t, t ≠ 0 → hs p t (-(a * b)) = false := by
  have hx : x ≠ 0 := by
    rintro rfl
    have : b * (y * y) = 0 := by simpa using e
    rcases Int.mul_eq_zero.mp this with h | h
    · exact hb h
    · exact nz ⟨rfl, (Int.mul_eq_zero.mp h).elim id id⟩
  have hy : y ≠ 0 := by
    rintro rfl
    have : a * (x * x) = 0 := by simpa using e
    rcases Int.mul_eq_zero.mp this with h | h
    · exact ha h
    · exact hx ((Int.mul_eq_zero.mp h).elim id id)
  have hab : -(a * b) ≠ 0 := by have := Int.mul_ne_zero ha hb; omega
  have k : ∀ t, t ≠ 0 → hs p t (-(a * b)) = false := fun t ht => by
    have c : hs p (-(a * b)) t = hs p (-(a * b) * (x * x)) t := (hs_mulsq hp hab hx).symm
    have e2 : -(a * b) * (x * x) = (b * y) * (b * y) := by grind
    rw [hs_symm, c, e2, hs_sq hp (Int.mul_ne_zero hb hy)]
  refine ⟨?_, k⟩
  have h := k a ha
  have n := hs_neg hp ha
  have e3 : -(a * b) = -a * b := by grind
  rw [e3, hs_mulR hp (by omega) hb, n] at h
  simpa using h
theorem four_sum {p : Nat} (hp : Pr p) {a b c d : Int} (ha : a ≠ 0) (hb : b ≠ 0) (hc : c ≠ 0) (hd : d ≠ 0) :
    (hs p a c ^^ hs p a d ^^ hs p b c ^^ hs p b d) = hs p (a * b) (c * d) := by
  rw [hs_mul hp ha hb, hs_mulR hp hc hd, hs_mulR hp hc hd]
  generalize hs p a c = A; generalize hs p a d = B; generalize hs p b c = C; generalize hs p b d = D
  cases A <;> cases B <;> cases C <;> cases D <;> rfl
theorem four_law {p : Nat} (hp : Pr p) {a b c d x y z w : Int} (ha : a ≠ 0) (hb : b ≠ 0) (hc : c ≠ 0) (hd : d ≠ 0) (nz : ¬ (x = 0 ∧ y = 0 ∧ z = 0 ∧ w = 0))
    (e : a * (x * x) + b * (y * y) + c * (z * z) + d * (w * w) = 0) (sq : ∀ t, t ≠ 0 → hs p t (a * b * (c * d)) = false) :
    (hs p a b ^^ hs p c d ^^ (hs p a c ^^ hs p a d ^^ hs p b c ^^ hs p b d)) = hs p (-1) (-1) := by
  have hab := Int.mul_ne_zero ha hb
  have hcd := Int.mul_ne_zero hc hd
  have s : ∀ t, t ≠ 0 → hs p t (c * d) = hs p t (a * b) := fun t ht => by
    have := sq t ht
    rw [hs_mulR hp hab hcd] at this
    revert this
    generalize hs p t (a * b) = A; generalize hs p t (c * d) = B
    cases A <;> cases B <;> simp
  have nn : ∀ {n : Int}, n ≠ 0 → -n ≠ 0 := fun h => by omega
  have s' : ∀ t, t ≠ 0 → hs p t (-(c * d)) = hs p t (-(a * b)) := fun t ht => by rw [hs_neg1R hp ht hcd, hs_neg1R hp ht hab, s t ht]
  rw [four_sum hp ha hb hc hd, s _ hab, hs_self hp hab]
  by_cases ht : a * (x * x) + b * (y * y) = 0
  · have ht2 : c * (z * z) + d * (w * w) = 0 := by omega
    have both : hs p a b = false ∧ hs p c d = false ∧ hs p (-1) (-(a * b)) = false := by
      by_cases q : x = 0 ∧ y = 0
      · have q2 : ¬ (z = 0 ∧ w = 0) := fun h => nz ⟨q.1, q.2, h.1, h.2⟩
        obtain ⟨h1, h2⟩ := neg_sq_class hp hc hd q2 ht2
        refine ⟨?_, h1, by rw [← s' _ (by decide)]; exact h2 _ (by decide)⟩
        have h := h2 a ha
        have n := hs_neg hp ha
        rw [s' a ha] at h
        have e3 : -(a * b) = -a * b := by grind
        rw [e3, hs_mulR hp (nn ha) hb, n] at h
        simpa using h
      · obtain ⟨h1, h2⟩ := neg_sq_class hp ha hb q ht
        refine ⟨h1, ?_, h2 _ (by decide)⟩
        have h := h2 c hc
        have n := hs_neg hp hc
        rw [← s' c hc] at h
        have e3 : -(c * d) = -c * d := by grind
        rw [e3, hs_mulR hp (nn hc) hd, n] at h
        simpa using h
    rw [both.1, both.2.1]
    have k := both.2.2
    rw [hs_neg1R hp (by decide) hab] at k
    rw [hs_symm p (a * b) (-1)]
    revert k
    generalize hs p (-1) (-1) = A; generalize hs p (-1) (a * b) = B
    cases A <;> cases B <;> simp
  · have r1 := hs_repr hp ha hb ht rfl
    have ht2 : c * (z * z) + d * (w * w) = -(a * (x * x) + b * (y * y)) := by omega
    generalize a * (x * x) + b * (y * y) = t at *
    have r2 := hs_repr hp hc hd (nn ht) ht2
    have e4 : -t = -1 * t := by omega
    rw [s' _ (nn ht), e4, hs_mul hp (by decide) ht, hs_neg1R hp (by decide) hab] at r2
    rw [r1, r2, hs_symm p (a * b) (-1)]
    generalize hs p t (-(a * b)) = A; generalize hs p (-1) (-1) = B; generalize hs p (-1) (a * b) = C
    cases A <;> cases B <;> cases C <;> rfl
/-- a square at a place -/
theorem hs_local {p : Nat} {t c : Int} (ho : oI p c = false) (hc : chi p (uI p c) = false) (he : eps p (uI p c) = false) : hs p t c = false := by
  unfold hs
  rw [ho, hc, he]
  simp
end NT

namespace NT
/-! ### few roots; a number that is no square; Tonelli's and Shanks' steps -/
def Ev : List Int → Int → Int
  | [], _ => 0
  | c :: cs, x => c + x * Ev cs x
def Dv : List Int → Int → List Int
  | [], _ => []
  | [_], _ => []
  | _ :: d :: cs, a => Ev (d :: cs) a :: Dv (d :: cs) a
theorem ev_dv : ∀ (f : List Int) (x a : Int), Ev f x - Ev f a = (x - a) * Ev (Dv f a) x
  | [], x, a => by simp [Ev, Dv]
  | [c], x, a => by simp only [Ev, Dv]; grind
  | c :: d :: cs, x, a => by
    have ih := ev_dv (d :: cs) x a
    show (c + x * Ev (d :: cs) x) - (c + a * Ev (d :: cs) a) = (x - a) * (Ev (d :: cs) a + x * Ev (Dv (d :: cs) a) x)
    generalize Ev (d :: cs) x = p at *
    generalize Ev (d :: cs) a = q at *
    generalize Ev (Dv (d :: cs) a) x = r at *
    grind
theorem dv_len : ∀ (f : List Int) (a : Int), (Dv f a).length = f.length - 1
  | [], a => rfl
  | [c], a => rfl
  | c :: d :: cs, a => by rw [Dv, List.length_cons, dv_len (d :: cs) a]; simp
theorem dv_last : ∀ (f : List Int) (a : Int), 2 ≤ f.length → (Dv f a).getLast? = f.getLast?
  | [], a, h => by simp at h
  | [c], a, h => by simp at h
  | [c, d], a, _ => by simp [Dv, Ev]
  | c :: d :: e :: cs, a, _ => by
    have ih := dv_last (d :: e :: cs) a (by simp)
    rw [Dv]
    have l1 : Dv (d :: e :: cs) a ≠ [] := by rw [Dv]; simp
    rw [List.getLast?_cons_of_ne_nil l1, ih]
    exact (List.getLast?_cons_of_ne_nil (by simp)).symm
theorem lagrange {p : Nat} (hp : Pr p) : ∀ (n : Nat) (f : List Int), f.length = n + 1 → (∀ c, f.getLast? = some c → ¬ (p : Int) ∣ c) → ∀ rs : List Int, rs.Pairwise (fun a b => ¬ (p : Int) ∣ b - a) → (∀ r, r ∈ rs → (p : Int) ∣ Ev f r) → rs.length ≤ n
  | 0, f, hf, hl, rs, _, hr => by
    obtain ⟨c, rfl⟩ := List.length_eq_one_iff.mp hf
    cases rs with
    | nil => simp
    | cons r rs =>
      have := hr r (by simp)
      simp only [Ev, Int.mul_zero, Int.add_zero] at this
      exact absurd this (hl c rfl)
  | n + 1, f, hf, hl, rs, hd, hr => by
    cases rs with
    | nil => simp
    | cons r rs =>
      have h1 := hr r (by simp)
      rw [List.pairwise_cons] at hd
      have := lagrange hp n (Dv f r) (by rw [dv_len]; omega) (by rw [dv_last f r (by omega)]; exact hl) rs hd.2 fun s hs => by
        have h2 := hr s (by simp [hs])
        have h3 : (p : Int) ∣ (s - r) * Ev (Dv f r) s := by rw [← ev_dv]; exact Int.dvd_sub h2 h1
        exact (hp.dvdI h3).resolve_left (hd.1 s hs)
      simp; omega
theorem ev_pow : ∀ (m : Nat) (x : Int), Ev (List.replicate m 0 ++ [1]) x = x ^ m
  | 0, x => by simp [Ev]
  | m + 1, x => by
    rw [List.replicate_succ, List.cons_append, Ev, ev_pow m x, Int.pow_succ]
    grind
/-- some number is no square -/
theorem nonres {p : Nat} (h : Od p) : ∃ a : Nat, 2 ≤ a ∧ a < p ∧ sq p (a : Int) = false := by
  have hp := h.pr
  have ho := h.odd
  have h3 := h.ge
  refine Classical.byContradiction fun c => ?_
  have all : ∀ a : Nat, 1 ≤ a → a ≤ p - 1 → sq p (a : Int) = true := fun a h1 h2 => by
    by_cases e : a = 1
    · subst e; exact sq_one
    · cases hs : sq p (a : Int) with
      | true => rfl
      | false => exact absurd ⟨a, by omega, by omega, hs⟩ c
  have := lagrange hp ((p - 1) / 2) ((-1) :: (List.replicate ((p - 1) / 2 - 1) 0 ++ [1])) (by simp; omega) (fun c hc => by
    rw [List.getLast?_cons_of_ne_nil (by simp), List.getLast?_append] at hc
    simp at hc
    subst hc
    exact hp.oneI) ((R1 (p - 1)).map fun x : Nat => (x : Int)) (by
    rw [List.pairwise_map]
    refine List.Pairwise.imp_of_mem (R := (· < ·)) (fun {a b} ha hb hab d => ?_) List.pairwise_lt_range'
    have a1 := mem_R1.mp ha
    have b1 := mem_R1.mp hb
    have : (b : Int) - (a : Int) = ((b - a : Nat) : Int) := by omega
    rw [this] at d
    have := Nat.le_of_dvd (by omega) (Int.natCast_dvd_natCast.mp d)
    omega) (fun r hr => by
    obtain ⟨a, ha, rfl⟩ := List.mem_map.mp hr
    have a1 := mem_R1.mp ha
    have := sq_t.mp (all a a1.1 a1.2)
    rw [Ev, ev_pow]
    have e : (a : Int) * (a : Int) ^ ((p - 1) / 2 - 1) = (a : Int) ^ ((p - 1) / 2) := by
      have : (p - 1) / 2 = ((p - 1) / 2 - 1) + 1 := by omega
      conv => rhs; rw [this, Int.pow_succ]
      grind
    rw [e]
    obtain ⟨k, hk⟩ := this
    exact ⟨k, by omega⟩)
  simp at this
  omega
theorem Cg.one_or {p : Nat} (hp : Pr p) {a : Int} (h : Cg p (a * a) 1) : Cg p a 1 ∨ Cg p a (-1) := by
  have : (p : Int) ∣ (a - 1) * (a + 1) := by
    obtain ⟨k, hk⟩ := h
    exact ⟨k, by grind⟩
  rcases hp.dvdI this with h | h
  · exact .inl h
  · exact .inr (by show (p : Int) ∣ a - -1; rwa [Int.sub_neg])
/-- a number on the way, with what is left of it -/
structure TS (p : Nat) (n f r w : Int) (m : Nat) : Prop where
  m1 : 1 ≤ m
  fsq : Cg p (f * f) (n * r)
  hw : Cg p (w ^ (2 ^ (m - 1))) (-1)
  hr : Cg p (r ^ (2 ^ (m - 1))) 1
theorem pow_two_succ (a : Int) (k : Nat) : a ^ (2 ^ (k + 1)) = (a ^ (2 ^ k)) * (a ^ (2 ^ k)) := by
  rw [Nat.pow_succ, Int.pow_mul]
  generalize a ^ 2 ^ k = t
  exact Int.pow_succ .. |>.trans (by rw [Int.pow_succ]; simp)
theorem TS.start {p : Nat} (h : Od p) {n : Int} (hn : sq p n = true) {z : Int} (hz0 : ¬ (p : Int) ∣ z) (hz : NT.sq p z = false) {part many : Nat} (hm : 1 ≤ many) (e : p - 1 = part * 2 ^ many) (ho : part % 2 = 1) {f r w : Int}
    (hf : Cg p f (n ^ ((part + 1) / 2))) (hr : Cg p r (n ^ part)) (hw : Cg p w (z ^ part)) : TS p n f r w many := by
  have e2 : (p - 1) / 2 = part * 2 ^ (many - 1) := by
    have : many = (many - 1) + 1 := by omega
    rw [this, Nat.pow_succ] at e
    rw [e, ← Nat.mul_assoc]
    omega
  refine ⟨hm, ?_, ?_, ?_⟩
  · refine (hf.mul hf).trans ?_
    refine Cg.trans ?_ ((Cg.refl n).mul hr.symm)
    have : n ^ ((part + 1) / 2) * n ^ ((part + 1) / 2) = n * n ^ part := by
      rw [← Int.pow_add]
      have : (part + 1) / 2 + (part + 1) / 2 = part + 1 := by omega
      rw [this, Int.pow_succ]; grind
    rw [this]
    exact Cg.refl _
  · refine (hw.pow _).trans ?_
    rw [← Int.pow_mul, ← e2]
    exact (sq_f h hz0).mp hz
  · refine (hr.pow _).trans ?_
    rw [← Int.pow_mul, ← e2]
    exact sq_t.mp hn
/-- the least power of two by which a number comes to 1 -/
theorem TS.least {p : Nat} {n f r w : Int} {m : Nat} (h : TS p n f r w m) {t : Nat} (ht : ∀ j, j < t → ¬ Cg p (r ^ (2 ^ j)) 1) : t ≤ m - 1 := by
  refine Nat.not_lt.mp fun c => ht (m - 1) c h.hr
theorem TS.next {p : Nat} (hp : Pr p) {n f r w : Int} {m t : Nat} (h : TS p n f r w m) (ht : ∀ j, j < t → ¬ Cg p (r ^ (2 ^ j)) 1) (h1 : Cg p (r ^ (2 ^ t)) 1) (t1 : 1 ≤ t) {s w2 r2 f2 : Int}
    (hs : Cg p s (w ^ (2 ^ (m - t - 1)))) (hf2 : Cg p f2 (f * s)) (hw2 : Cg p w2 (s * s)) (hr2 : Cg p r2 (r * w2)) : TS p n f2 r2 w2 t := by
  have tm := h.least ht
  have hm := h.m1
  have ew : Cg p w2 (w ^ (2 ^ (m - t))) := by
    refine hw2.trans ((hs.mul hs).trans ?_)
    have : m - t = (m - t - 1) + 1 := by omega
    rw [this, pow_two_succ]
    exact Cg.refl _
  have ew2 : Cg p (w2 ^ (2 ^ (t - 1))) (-1) := by
    refine (ew.pow _).trans ?_
    rw [← Int.pow_mul, ← Nat.pow_add]
    have : m - t + (t - 1) = m - 1 := by omega
    rw [this]
    exact h.hw
  have er : Cg p (r ^ (2 ^ (t - 1))) (-1) := by
    have e : t = (t - 1) + 1 := by omega
    rw [e, pow_two_succ] at h1
    exact (Cg.one_or hp h1).resolve_left (ht (t - 1) (by omega))
  refine ⟨t1, ?_, ew2, ?_⟩
  · refine (hf2.mul hf2).trans ?_
    have e1 : f * s * (f * s) = f * f * (s * s) := by grind
    rw [e1]
    refine (h.fsq.mul (hw2.symm)).trans ?_
    have e2 : n * r * w2 = n * (r * w2) := by grind
    rw [e2]
    exact (Cg.refl n).mul hr2.symm
  · refine (hr2.pow _).trans ?_
    rw [Int.mul_pow]
    exact (er.mul ew2).trans (Cg.refl 1)
theorem TS.done {p : Nat} {n f r w : Int} {m : Nat} (h : TS p n f r w m) (hr : Cg p r 1) : Cg p (f * f) n := by
  refine h.fsq.trans (((Cg.refl n).mul hr).trans ?_)
  rw [Int.mul_one]
  exact Cg.refl _
end NT

namespace NT
/-! ### grids of rows of three numbers -/
structure V3 where
  x : Int
  y : Int
  z : Int
theorem V3.eq {u v : V3} (h1 : u.x = v.x) (h2 : u.y = v.y) (h3 : u.z = v.z) : u = v := by
  cases u; cases v; simp at h1 h2 h3; subst h1; subst h2; subst h3; rfl
def dot (s u v : V3) : Int := s.x * u.x * v.x + s.y * u.y * v.y + s.z * u.z * v.z
abbrev Qd (s u : V3) : Int := dot s u u
def less (u v : V3) (t : Int) : V3 := ⟨u.x - t * v.x, u.y - t * v.y, u.z - t * v.z⟩
def det (u v w : V3) : Int := u.x * (v.y * w.z - v.z * w.y) - u.y * (v.x * w.z - v.z * w.x) + u.z * (v.x * w.y - v.y * w.x)
def near (over under : Int) : Int := (2 * over + under) / (2 * under)
theorem near_spec {o u : Int} (h : 0 < u) : -u ≤ 2 * (o - near o u * u) ∧ 2 * (o - near o u * u) ≤ u := by
  unfold near
  have h2 : (0 : Int) < 2 * u := by omega
  have e := Int.emod_add_mul_ediv (2 * o + u) (2 * u)
  have r0 := Int.emod_nonneg (2 * o + u) (Int.ne_of_gt h2)
  have r1 := Int.emod_lt_of_pos (2 * o + u) h2
  generalize (2 * o + u) / (2 * u) = t at *
  generalize (2 * o + u) % (2 * u) = r at *
  have e2 : 2 * u * t = 2 * (t * u) := by grind
  rw [e2] at e
  generalize t * u = k at *
  omega
structure Pos3 (s : V3) : Prop where
  x : 0 < s.x
  y : 0 < s.y
  z : 0 < s.z
theorem sqn (x : Int) : 0 ≤ x * x := by
  rcases Int.le_total 0 x with h | h
  · exact Int.mul_nonneg h h
  · exact Int.mul_nonneg_of_nonpos_of_nonpos h h
theorem sqp {x : Int} (h : x ≠ 0) : 0 < x * x := by
  rcases Int.lt_or_gt_of_ne h with h | h
  · exact Int.mul_pos_of_neg_of_neg h h
  · exact Int.mul_pos h h
theorem w_nonneg {a x : Int} (h : 0 < a) : 0 ≤ a * x * x := by rw [Int.mul_assoc]; exact Int.mul_nonneg (by omega) (sqn x)
theorem w_ge {a x : Int} (h : 0 < a) : x * x ≤ a * x * x := by
  rw [Int.mul_assoc]
  have := Int.mul_le_mul_of_nonneg_right (show 1 ≤ a by omega) (sqn x)
  omega
theorem abs_le_sq (x : Int) : (x.natAbs : Int) ≤ x * x := by
  have : (x.natAbs : Int) * x.natAbs = x * x := by rw [← Int.natCast_mul]; exact Int.natAbs_mul_self
  by_cases h : x = 0
  · subst h; simp
  · have h1 : 1 ≤ (x.natAbs : Int) := by omega
    have := Int.mul_le_mul_of_nonneg_right h1 (show 0 ≤ (x.natAbs : Int) by omega)
    omega
theorem Q_nonneg {s : V3} (h : Pos3 s) (u : V3) : 0 ≤ Qd s u := by
  have := w_nonneg (x := u.x) h.x
  have := w_nonneg (x := u.y) h.y
  have := w_nonneg (x := u.z) h.z
  unfold Qd dot
  omega
/-- a row's numbers are no greater than what it measures -/
theorem Q_ge {s : V3} (h : Pos3 s) (u : V3) : (u.x.natAbs : Int) ≤ Qd s u ∧ (u.y.natAbs : Int) ≤ Qd s u ∧ (u.z.natAbs : Int) ≤ Qd s u := by
  have a1 := w_nonneg (x := u.x) h.x
  have a2 := w_nonneg (x := u.y) h.y
  have a3 := w_nonneg (x := u.z) h.z
  have b1 := w_ge (x := u.x) h.x
  have b2 := w_ge (x := u.y) h.y
  have b3 := w_ge (x := u.z) h.z
  have c1 := abs_le_sq u.x
  have c2 := abs_le_sq u.y
  have c3 := abs_le_sq u.z
  unfold Qd dot
  omega
theorem Q_pos {s : V3} (h : Pos3 s) {u : V3} (hu : ¬ (u.x = 0 ∧ u.y = 0 ∧ u.z = 0)) : 0 < Qd s u := by
  obtain ⟨h1, h2, h3⟩ := Q_ge h u
  omega
theorem det_ne {u v w : V3} (h : det u v w ≠ 0) : ¬ (u.x = 0 ∧ u.y = 0 ∧ u.z = 0) ∧ ¬ (v.x = 0 ∧ v.y = 0 ∧ v.z = 0) ∧ ¬ (w.x = 0 ∧ w.y = 0 ∧ w.z = 0) := by
  refine ⟨fun ⟨a, b, c⟩ => h ?_, fun ⟨a, b, c⟩ => h ?_, fun ⟨a, b, c⟩ => h ?_⟩ <;> (unfold det; rw [a, b, c]; simp)
theorem det_swap (u v w : V3) : det v u w = - det u v w := by unfold det; grind
theorem det_swap2 (u v w : V3) : det u w v = - det u v w := by unfold det; grind
theorem det_less2 (u v w : V3) (t : Int) : det u (less v u t) w = det u v w := by unfold det less; dsimp only; grind
theorem det_less3 (u v w : V3) (i j : Int) : det u v (less (less w u i) v j) = det u v w := by unfold det less; dsimp only; grind
theorem dot_symm (s u v : V3) : dot s u v = dot s v u := by unfold dot; grind
theorem dot_less (s u v : V3) (t : Int) : dot s u (less v u t) = dot s u v - t * dot s u u := by unfold dot less; dsimp only; grind
theorem dot_less' (s u v w : V3) (t : Int) : dot s w (less v u t) = dot s w v - t * dot s w u := by unfold dot less; dsimp only; grind
/-! two rows -/
def byTwo (s : V3) : Nat → V3 → V3 → V3 × V3
  | 0, u, v => (u, v)
  | n + 1, u, v =>
    if dot s u u > dot s v v then
      (if near (dot s v u) (dot s v v) = 0 then (v, u) else if dot s (less u v (near (dot s v u) (dot s v v))) (less u v (near (dot s v u) (dot s v v))) ≥ dot s v v then (v, less u v (near (dot s v u) (dot s v v))) else byTwo s n v (less u v (near (dot s v u) (dot s v v))))
    else
      (if near (dot s u v) (dot s u u) = 0 then (u, v) else if dot s (less v u (near (dot s u v) (dot s u u))) (less v u (near (dot s u v) (dot s u u))) ≥ dot s u u then (u, less v u (near (dot s u v) (dot s u u))) else byTwo s n u (less v u (near (dot s u v) (dot s u u))))
/-- a kind of rows that goes with differences -/
def Kind3 (P : V3 → Prop) : Prop := ∀ u v t, P u → P v → P (less u v t)
structure Two3 (s : V3) (P : V3 → Prop) (w : V3) (d0 q0 : Int) (f g : V3) : Prop where
  le : Qd s f ≤ Qd s g
  in1 : -(Qd s f) ≤ 2 * dot s f g
  in2 : 2 * dot s f g ≤ Qd s f
  p1 : P f
  p2 : P g
  dt : det f g w = d0 ∨ det f g w = -d0
  sum : Qd s f + Qd s g ≤ q0
theorem byTwo_ok {s : V3} (hs : Pos3 s) {P : V3 → Prop} (hP : Kind3 P) (w : V3) : ∀ (n : Nat) (u v : V3), det u v w ≠ 0 → P u → P v → Qd s u + Qd s v < (n : Int) → Two3 s P w (det u v w) (Qd s u + Qd s v) (byTwo s n u v).1 (byTwo s n u v).2
  | 0, u, v, _, _, _, hq => by have := Q_nonneg hs u; have := Q_nonneg hs v; omega
  | n + 1, u, v, hd, pu, pv, hq => by
    have key : ∀ u v : V3, det u v w ≠ 0 → P u → P v → Qd s u + Qd s v < ((n + 1 : Nat) : Int) → Qd s u ≤ Qd s v →
        Two3 s P w (det u v w) (Qd s u + Qd s v) (if near (dot s u v) (dot s u u) = 0 then (u, v) else if dot s (less v u (near (dot s u v) (dot s u u))) (less v u (near (dot s u v) (dot s u u))) ≥ dot s u u then (u, less v u (near (dot s u v) (dot s u u))) else byTwo s n u (less v u (near (dot s u v) (dot s u u)))).1
          (if near (dot s u v) (dot s u u) = 0 then (u, v) else if dot s (less v u (near (dot s u v) (dot s u u))) (less v u (near (dot s u v) (dot s u u))) ≥ dot s u u then (u, less v u (near (dot s u v) (dot s u u))) else byTwo s n u (less v u (near (dot s u v) (dot s u u)))).2 := fun u v hd pu pv hq hle => by
      have qu := Q_pos hs (det_ne hd).1
      obtain ⟨n1, n2⟩ := near_spec (o := dot s u v) (u := dot s u u) qu
      by_cases z : near (dot s u v) (dot s u u) = 0
      · rw [if_pos z]
        rw [z, Int.zero_mul, Int.sub_zero] at n1 n2
        exact ⟨hle, n1, n2, pu, pv, .inl rfl, Int.le_refl _⟩
      · rw [if_neg z]
        have e1 := dot_less s u v (near (dot s u v) (dot s u u))
        have e2 := det_less2 u v w (near (dot s u v) (dot s u u))
        have p2 := hP v u (near (dot s u v) (dot s u u)) pv pu
        have e3 : Qd s (less v u (near (dot s u v) (dot s u u))) = Qd s v - near (dot s u v) (dot s u u) * (dot s u v + (dot s u v - near (dot s u v) (dot s u u) * Qd s u)) := by unfold Qd dot less; dsimp only; grind
        generalize near (dot s u v) (dot s u u) = t at *
        generalize less v u t = v' at *
        by_cases y : dot s v' v' ≥ dot s u u
        · rw [if_pos y]
          have hdec : Qd s v' ≤ Qd s v := by
            rw [e3]
            -- t * (d + (d - t q)) >= 0
            have hq0 : 0 < dot s u u := qu
            generalize dot s u v = d at *
            show Qd s v - t * (d + (d - t * dot s u u)) ≤ Qd s v
            generalize dot s u u = q at *
            have : 0 ≤ t * (d + (d - t * q)) := by
              rcases Int.lt_or_gt_of_ne z with ht | ht
              · have h1 : t * q ≤ -1 * q := Int.mul_le_mul_of_nonneg_right (by omega) (by omega)
                exact Int.mul_nonneg_of_nonpos_of_nonpos (by omega) (by omega)
              · have h1 : 1 * q ≤ t * q := Int.mul_le_mul_of_nonneg_right (by omega) (by omega)
                exact Int.mul_nonneg (by omega) (by omega)
            omega
          refine ⟨y, ?_, ?_, pu, p2, .inl e2, by show Qd s u + Qd s v' ≤ _; omega⟩
          · show _ ≤ 2 * dot s u v'; rw [e1]; exact n1
          · show 2 * dot s u v' ≤ _; rw [e1]; exact n2
        · rw [if_neg y]
          have y : Qd s v' < Qd s u := by show dot s v' v' < dot s u u; omega
          have r := byTwo_ok hs hP w n u v' (by rw [e2]; exact hd) pu p2 (by omega)
          rw [e2] at r
          exact ⟨r.le, r.in1, r.in2, r.p1, r.p2, r.dt, by have := r.sum; omega⟩
    unfold byTwo
    by_cases c : dot s u u > dot s v v
    · rw [if_pos c]
      have r := key v u (by rw [det_swap]; omega) pv pu (by omega) (by show dot s v v ≤ dot s u u; omega)
      rw [det_swap] at r
      exact ⟨r.le, r.in1, r.in2, r.p1, r.p2, by have := r.dt; omega, by have := r.sum; omega⟩
    · rw [if_neg c]
      exact key u v hd pu pv hq (by show dot s u u ≤ dot s v v; omega)
/-! three rows -/
def pm : List (Int × Int) := [(-1, -1), (-1, 0), (-1, 1), (0, -1), (0, 0), (0, 1), (1, -1), (1, 0), (1, 1)]
def cand (f g w : V3) (i j : Int) : List V3 := pm.map fun p => less (less w f (i + p.1)) g (j + p.2)
def minBy (s : V3) (best : Option V3) (r : V3) : Option V3 := match best with
  | none => some r
  | some b => if dot s r r < dot s b b then some r else some b
theorem minBy_ok (s : V3) : ∀ (l : List V3) (best : Option V3), (l ≠ [] ∨ best ≠ none) → ∃ b, l.foldl (minBy s) best = some b ∧ (b ∈ l ∨ best = some b) ∧ (∀ r, r ∈ l → dot s b b ≤ dot s r r) ∧ (∀ c, best = some c → dot s b b ≤ dot s c c)
  | [], best, h => by
    cases best with
    | none => simp at h
    | some b => exact ⟨b, rfl, .inr rfl, fun r hr => by simp at hr, fun c hc => by cases hc; exact Int.le_refl _⟩
  | r :: l, best, _ => by
    have ne : minBy s best r ≠ none := by
      unfold minBy
      cases best with
      | none => simp
      | some b => dsimp only; split <;> simp
    obtain ⟨b, e1, e2, e3, e4⟩ := minBy_ok s l (minBy s best r) (.inr ne)
    refine ⟨b, e1, ?_, ?_, ?_⟩
    · rcases e2 with h | h
      · exact .inl (List.mem_cons_of_mem _ h)
      · unfold minBy at h
        cases best with
        | none => cases h; exact .inl List.mem_cons_self
        | some c =>
          dsimp only at h
          split at h
          · cases h; exact .inl List.mem_cons_self
          · exact .inr h
    · intro q hq
      rcases List.mem_cons.mp hq with rfl | hq
      · unfold minBy at e4
        cases best with
        | none => exact e4 _ rfl
        | some c =>
          dsimp only at e4
          by_cases z : dot s q q < dot s c c
          · rw [if_pos z] at e4; exact e4 _ rfl
          · rw [if_neg z] at e4
            have := e4 c rfl; omega
      · exact e3 q hq
    · intro c hc
      subst hc
      unfold minBy at e4
      dsimp only at e4
      by_cases z : dot s r r < dot s c c
      · rw [if_pos z] at e4
        have := e4 r rfl; omega
      · rw [if_neg z] at e4; exact e4 c rfl
def iOf (s f g w : V3) : Int := near (dot s f w * dot s g g - dot s g w * dot s f g) (dot s f f * dot s g g - dot s f g * dot s f g)
def jOf (s f g w : V3) : Int := near (dot s g w * dot s f f - dot s f w * dot s f g) (dot s f f * dot s g g - dot s f g * dot s f g)
def short (s f g w : V3) : V3 := ((cand f g w (iOf s f g w) (jOf s f g w)).foldl (minBy s) none).getD w
theorem short_ok (s f g w : V3) : (∃ i j, short s f g w = less (less w f i) g j) ∧ ∀ a b : Int, (a = -1 ∨ a = 0 ∨ a = 1) → (b = -1 ∨ b = 0 ∨ b = 1) → Qd s (short s f g w) ≤ Qd s (less (less w f (iOf s f g w + a)) g (jOf s f g w + b)) := by
  unfold short
  obtain ⟨r, e1, e2, e3, _⟩ := minBy_ok s (cand f g w (iOf s f g w) (jOf s f g w)) none (.inl (by simp [cand, pm]))
  rw [e1]
  refine ⟨?_, fun a b ha hb => ?_⟩
  · rcases e2 with h | h
    · obtain ⟨p, _, e⟩ := List.mem_map.mp h
      exact ⟨_, _, e.symm⟩
    · cases h
  · refine e3 _ (List.mem_map.mpr ⟨(a, b), ?_, rfl⟩)
    unfold pm
    rcases ha with rfl | rfl | rfl <;> rcases hb with rfl | rfl | rfl <;> simp
end NT

namespace NT
/-! ### a short row -/
def gram (Q1 Q2 Q3 m p q : Int) : Int := Q1 * Q2 * Q3 + 2 * (p * q * m) - Q1 * (q * q) - Q2 * (p * p) - Q3 * (m * m)
theorem gram_id (Q1 Q2 Q3 m p q : Int) : Q3 * (Q1 * Q2 - m * m) * (Q1 * Q2 - m * m) = gram Q1 Q2 Q3 m p q * (Q1 * Q2 - m * m) + ((p * Q2 - q * m) * (p * Q2 - q * m) * Q1 + 2 * ((p * Q2 - q * m) * (q * Q1 - p * m) * m) + (q * Q1 - p * m) * (q * Q1 - p * m) * Q2) := by
  unfold gram
  grind
theorem gram_det (s u v w : V3) : gram (Qd s u) (Qd s v) (Qd s w) (dot s u v) (dot s u w) (dot s v w) = s.x * s.y * s.z * (det u v w * det u v w) := by
  unfold gram det Qd dot
  obtain ⟨a, b, c⟩ := s
  obtain ⟨x1, y1, z1⟩ := u
  obtain ⟨x2, y2, z2⟩ := v
  obtain ⟨x3, y3, z3⟩ := w
  dsimp only
  grind
/-- what is least of two is at most what they weigh together -/
theorem avg {d t D E0 E1 X : Int} (hd : 0 < d) (ht : 0 ≤ t) (htd : t ≤ d) (h0 : X ≤ D + E0) (h1 : X ≤ D + E1) : d * X ≤ d * D + ((d - t) * E0 + t * E1) := by
  have a0 := Int.mul_le_mul_of_nonneg_left h0 (show 0 ≤ d - t by omega)
  have a1 := Int.mul_le_mul_of_nonneg_left h1 ht
  rw [Int.mul_add, Int.sub_mul, Int.sub_mul, Int.sub_mul] at a0
  rw [Int.mul_add] at a1
  rw [Int.sub_mul]
  omega
theorem quarter {d t : Int} (h0 : -d ≤ 2 * t) (h1 : 2 * t ≤ d) : 4 * (t * t) ≤ d * d := by
  have h2 : 0 ≤ d - 2 * t := by omega
  have h3 : 0 ≤ d + 2 * t := by omega
  have := Int.mul_nonneg h2 h3
  have e : (d - 2 * t) * (d + 2 * t) = d * d - 4 * (t * t) := by grind
  omega
theorem quarter2 {d t : Int} : 4 * (t * (d - t)) ≤ d * d := by
  have := sqn (d - 2 * t)
  have e : (d - 2 * t) * (d - 2 * t) = d * d - 4 * (t * (d - t)) := by grind
  omega
theorem short_bound {s f g w : V3} (hs : Pos3 s) (hq : 0 < Qd s f) (hle : Qd s f ≤ Qd s g) (i1 : -(Qd s f) ≤ 2 * dot s f g) (i2 : 2 * dot s f g ≤ Qd s f) (hb : Qd s g ≤ Qd s (short s f g w)) :
    3 * (Qd s f * Qd s f * Qd s f) ≤ 8 * (s.x * s.y * s.z * (det f g w * det f g w)) := by
  have hsh := (short_ok s f g w).2
  have qw := gram_det s f g
  -- the residues
  have res : ∀ a b : Int, Qd s (less (less w f (iOf s f g w + a)) g (jOf s f g w + b)) * (Qd s f * Qd s g - dot s f g * dot s f g) * (Qd s f * Qd s g - dot s f g * dot s f g) = s.x * s.y * s.z * (det f g w * det f g w) * (Qd s f * Qd s g - dot s f g * dot s f g) +
      ((dot s f w * Qd s g - dot s g w * dot s f g - (iOf s f g w + a) * (Qd s f * Qd s g - dot s f g * dot s f g)) * (dot s f w * Qd s g - dot s g w * dot s f g - (iOf s f g w + a) * (Qd s f * Qd s g - dot s f g * dot s f g)) * Qd s f +
        2 * ((dot s f w * Qd s g - dot s g w * dot s f g - (iOf s f g w + a) * (Qd s f * Qd s g - dot s f g * dot s f g)) * (dot s g w * Qd s f - dot s f w * dot s f g - (jOf s f g w + b) * (Qd s f * Qd s g - dot s f g * dot s f g)) * dot s f g) +
        (dot s g w * Qd s f - dot s f w * dot s f g - (jOf s f g w + b) * (Qd s f * Qd s g - dot s f g * dot s f g)) * (dot s g w * Qd s f - dot s f w * dot s f g - (jOf s f g w + b) * (Qd s f * Qd s g - dot s f g * dot s f g)) * Qd s g) := fun a b => by
    have e0 := qw (less (less w f (iOf s f g w + a)) g (jOf s f g w + b))
    rw [det_less3] at e0
    have e1 : dot s f (less (less w f (iOf s f g w + a)) g (jOf s f g w + b)) = dot s f w - (iOf s f g w + a) * Qd s f - (jOf s f g w + b) * dot s f g := by rw [dot_less', dot_less']
    have e2 : dot s g (less (less w f (iOf s f g w + a)) g (jOf s f g w + b)) = dot s g w - (iOf s f g w + a) * dot s f g - (jOf s f g w + b) * Qd s g := by rw [dot_less', dot_less', dot_symm s g f]
    rw [e1, e2] at e0
    have e3 := gram_id (Qd s f) (Qd s g) (Qd s (less (less w f (iOf s f g w + a)) g (jOf s f g w + b))) (dot s f g) (dot s f w - (iOf s f g w + a) * Qd s f - (jOf s f g w + b) * dot s f g) (dot s g w - (iOf s f g w + a) * dot s f g - (jOf s f g w + b) * Qd s g)
    rw [e0] at e3
    rw [e3]
    generalize Qd s f = Q1
    generalize Qd s g = Q2
    generalize dot s f g = m
    generalize dot s f w = p
    generalize dot s g w = q
    generalize iOf s f g w + a = i
    generalize jOf s f g w + b = j
    generalize s.x * s.y * s.z * (det f g w * det f g w) = D
    grind
  have n1 := fun (h : 0 < dot s f f * dot s g g - dot s f g * dot s f g) => near_spec (o := dot s f w * dot s g g - dot s g w * dot s f g) (u := dot s f f * dot s g g - dot s f g * dot s f g) h
  have n2 := fun (h : 0 < dot s f f * dot s g g - dot s f g * dot s f g) => near_spec (o := dot s g w * dot s f f - dot s f w * dot s f g) (u := dot s f f * dot s g g - dot s f g * dot s f g) h
  change ∀ h : 0 < Qd s f * Qd s g - dot s f g * dot s f g, -(Qd s f * Qd s g - dot s f g * dot s f g) ≤ 2 * (dot s f w * Qd s g - dot s g w * dot s f g - iOf s f g w * (Qd s f * Qd s g - dot s f g * dot s f g)) ∧ 2 * (dot s f w * Qd s g - dot s g w * dot s f g - iOf s f g w * (Qd s f * Qd s g - dot s f g * dot s f g)) ≤ Qd s f * Qd s g - dot s f g * dot s f g at n1
  change ∀ h : 0 < Qd s f * Qd s g - dot s f g * dot s f g, -(Qd s f * Qd s g - dot s f g * dot s f g) ≤ 2 * (dot s g w * Qd s f - dot s f w * dot s f g - jOf s f g w * (Qd s f * Qd s g - dot s f g * dot s f g)) ∧ 2 * (dot s g w * Qd s f - dot s f w * dot s f g - jOf s f g w * (Qd s f * Qd s g - dot s f g * dot s f g)) ≤ Qd s f * Qd s g - dot s f g * dot s f g at n2
  have r0 := res 0 0
  have r1 := res 1 0
  have r2 := res (-1) 0
  have b0 := hsh 0 0 (.inr (.inl rfl)) (.inr (.inl rfl))
  have b1 := hsh 1 0 (.inr (.inr rfl)) (.inr (.inl rfl))
  have b2 := hsh (-1) 0 (.inl rfl) (.inr (.inl rfl))
  clear hsh res qw
  generalize Qd s (less (less w f (iOf s f g w + 0)) g (jOf s f g w + 0)) = q0 at *
  generalize Qd s (less (less w f (iOf s f g w + 1)) g (jOf s f g w + 0)) = q1 at *
  generalize Qd s (less (less w f (iOf s f g w + -1)) g (jOf s f g w + 0)) = q2 at *
  generalize Qd s (short s f g w) = qb at *
  generalize s.x * s.y * s.z * (det f g w * det f g w) = D at *
  generalize Qd s f = Q1 at *
  generalize Qd s g = Q2 at *
  generalize dot s f g = m at *
  generalize iOf s f g w = i at *
  generalize jOf s f g w = j at *
  generalize dot s f w = p at *
  generalize dot s g w = q at *
  rw [Int.add_zero, Int.add_zero] at r0
  rw [Int.add_zero] at r1 r2
  -- 4 d >= 3 Q1 Q2
  have m4 := quarter (d := Q1) (t := m) i1 i2
  have q12 : Q1 * Q1 ≤ Q1 * Q2 := Int.mul_le_mul_of_nonneg_left hle (by omega)
  have q11 : 0 < Q1 * Q1 := Int.mul_pos hq hq
  have d4 : 3 * (Q1 * Q2) ≤ 4 * (Q1 * Q2 - m * m) := by omega
  have dp : 0 < Q1 * Q2 - m * m := by omega
  obtain ⟨u1, u2⟩ := n1 dp
  obtain ⟨v1, v2⟩ := n2 dp
  have e1 : p * Q2 - q * m - (i + 1) * (Q1 * Q2 - m * m) = (p * Q2 - q * m - i * (Q1 * Q2 - m * m)) - (Q1 * Q2 - m * m) := by grind
  have e2 : p * Q2 - q * m - (i + -1) * (Q1 * Q2 - m * m) = (p * Q2 - q * m - i * (Q1 * Q2 - m * m)) + (Q1 * Q2 - m * m) := by grind
  rw [e1] at r1
  rw [e2] at r2
  generalize p * Q2 - q * m - i * (Q1 * Q2 - m * m) = u at *
  generalize q * Q1 - p * m - j * (Q1 * Q2 - m * m) = v at *
  clear n1 n2 e1 e2
  generalize hd : Q1 * Q2 - m * m = d at *
  have dd : 0 < d * d := Int.mul_pos dp dp
  have sc : ∀ {x : Int}, qb ≤ x → qb * d * d ≤ x * d * d := fun h => by
    rw [Int.mul_assoc, Int.mul_assoc]
    exact Int.mul_le_mul_of_nonneg_right h (by omega)
  have c0 := sc b0
  have c1 := sc b1
  have c2 := sc b2
  rw [r0] at c0
  rw [r1] at c1
  rw [r2] at c2
  have v4 := quarter v1 v2
  have Q2p : 0 ≤ Q2 := by omega
  -- the mean of two
  have mean : 4 * (d * (qb * d * d)) ≤ 4 * (d * (D * d)) + d * (d * d * (Q1 + Q2)) := by
    have fin : ∀ {t : Int}, 0 ≤ t → t ≤ d → d * (qb * d * d) ≤ d * (D * d) + d * (t * (d - t) * Q1 + v * v * Q2) → 4 * (d * (qb * d * d)) ≤ 4 * (d * (D * d)) + d * (d * d * (Q1 + Q2)) := fun {t} h0 h1 h => by
      have a1 : 4 * (t * (d - t)) * Q1 ≤ d * d * Q1 := Int.mul_le_mul_of_nonneg_right quarter2 (by omega)
      have a2 : 4 * (v * v) * Q2 ≤ d * d * Q2 := Int.mul_le_mul_of_nonneg_right v4 Q2p
      have a3 : d * (4 * (t * (d - t)) * Q1 + 4 * (v * v) * Q2) ≤ d * (d * d * Q1 + d * d * Q2) := Int.mul_le_mul_of_nonneg_left (by omega) (by omega)
      have a4 : d * (4 * (t * (d - t)) * Q1 + 4 * (v * v) * Q2) = 4 * (d * (t * (d - t) * Q1 + v * v * Q2)) := by grind
      have a5 : d * (d * d * Q1 + d * d * Q2) = d * (d * d * (Q1 + Q2)) := by grind
      omega
    rcases Int.le_total 0 u with hu | hu
    · refine fin hu (by omega) ?_
      have := avg dp hu (show u ≤ d by omega) c0 c1
      have e : (d - u) * (u * u * Q1 + 2 * (u * v * m) + v * v * Q2) + u * ((u - d) * (u - d) * Q1 + 2 * ((u - d) * v * m) + v * v * Q2) = d * (u * (d - u) * Q1 + v * v * Q2) := by grind
      rw [e] at this
      exact this
    · refine fin (t := -u) (by omega) (by omega) ?_
      have := avg dp (show 0 ≤ -u by omega) (show -u ≤ d by omega) c0 c2
      have e : (d - -u) * (u * u * Q1 + 2 * (u * v * m) + v * v * Q2) + -u * ((u + d) * (u + d) * Q1 + 2 * ((u + d) * v * m) + v * v * Q2) = d * (-u * (d - -u) * Q1 + v * v * Q2) := by grind
      rw [e] at this
      exact this
  have f1 : d * d * (4 * qb * d) ≤ d * d * (4 * D + d * (Q1 + Q2)) := by
    have x1 : d * d * (4 * qb * d) = 4 * (d * (qb * d * d)) := by grind
    have x2 : d * d * (4 * D + d * (Q1 + Q2)) = 4 * (d * (D * d)) + d * (d * d * (Q1 + Q2)) := by grind
    omega
  have f2 : 4 * qb * d ≤ 4 * D + d * (Q1 + Q2) := Int.le_of_mul_le_mul_left f1 dd
  have f3 : d * (2 * Q2) ≤ 4 * D := by
    have y1 : d * (4 * Q2) ≤ d * (4 * qb) := Int.mul_le_mul_of_nonneg_left (by omega) (by omega)
    have y2 : d * (Q1 + Q2) ≤ d * (2 * Q2) := Int.mul_le_mul_of_nonneg_left (by omega) (by omega)
    have y3 : 4 * qb * d = d * (4 * qb) := by grind
    have y4 : d * (4 * Q2) = d * (2 * Q2) + d * (2 * Q2) := by grind
    omega
  have g1 : 3 * (Q1 * Q2) * Q2 ≤ 4 * d * Q2 := Int.mul_le_mul_of_nonneg_right d4 Q2p
  have g2 : Q1 * Q1 * Q1 ≤ Q1 * Q2 * Q2 := Int.mul_le_mul q12 hle (by omega) (by omega)
  have g3 : 3 * (Q1 * Q2) * Q2 = 3 * (Q1 * Q2 * Q2) := by grind
  have g4 : 4 * d * Q2 = 2 * (d * (2 * Q2)) := by grind
  omega
end NT

namespace NT
/-! ### the short base; grids made narrower -/
def fuel2 (s u v : V3) : Nat := (Qd s u + Qd s v).toNat + 1
def two (s u v : V3) : V3 × V3 := byTwo s (fuel2 s u v) u v
def shBase (s : V3) : Nat → V3 → V3 → V3 → V3 × V3 × V3
  | 0, u, v, w => (u, v, w)
  | n + 1, u, v, w =>
    if Qd s (short s (two s u v).1 (two s u v).2 w) ≥ Qd s (two s u v).2 then ((two s u v).1, (two s u v).2, short s (two s u v).1 (two s u v).2 w)
    else shBase s n (two s u v).1 (short s (two s u v).1 (two s u v).2 w) (two s u v).2
theorem two_ok {s : V3} (hs : Pos3 s) {P : V3 → Prop} (hP : Kind3 P) {u v w : V3} (hd : det u v w ≠ 0) (pu : P u) (pv : P v) : Two3 s P w (det u v w) (Qd s u + Qd s v) (two s u v).1 (two s u v).2 := by
  have h1 := Q_nonneg hs u
  have h2 := Q_nonneg hs v
  exact byTwo_ok hs hP w _ u v hd pu pv (by unfold fuel2; omega)
structure Sh3 (s : V3) (P : V3 → Prop) (d2 q0 : Int) (f : V3) : Prop where
  p : P f
  ne : ¬ (f.x = 0 ∧ f.y = 0 ∧ f.z = 0)
  bd : 3 * (Qd s f * Qd s f * Qd s f) ≤ 8 * (s.x * s.y * s.z * d2)
theorem short_p {s : V3} {P : V3 → Prop} (hP : Kind3 P) {f g w : V3} (pf : P f) (pg : P g) (pw : P w) : P (short s f g w) ∧ det f g (short s f g w) = det f g w := by
  obtain ⟨i, j, e⟩ := (short_ok s f g w).1
  rw [e]
  exact ⟨hP _ _ _ (hP _ _ _ pw pf) pg, det_less3 f g w i j⟩
theorem shBase_ok {s : V3} (hs : Pos3 s) {P : V3 → Prop} (hP : Kind3 P) : ∀ (n : Nat) (u v w : V3), det u v w ≠ 0 → P u → P v → P w → Qd s u + Qd s v < (n : Int) → Sh3 s P (det u v w * det u v w) 0 (shBase s n u v w).1
  | 0, u, v, w, _, _, _, _, hq => by have := Q_nonneg hs u; have := Q_nonneg hs v; omega
  | n + 1, u, v, w, hd, pu, pv, pw, hq => by
    have t := two_ok hs hP hd pu pv
    unfold shBase
    generalize (two s u v).1 = f at *
    generalize (two s u v).2 = g at *
    obtain ⟨ps, es⟩ := short_p (s := s) hP t.p1 t.p2 pw
    have dsq : det f g w * det f g w = det u v w * det u v w := by
      rcases t.dt with e | e <;> rw [e] <;> grind
    have dne : det f g w ≠ 0 := by rcases t.dt with e | e <;> rw [e] <;> omega
    by_cases c : Qd s (short s f g w) ≥ Qd s g
    · rw [if_pos c]
      have fne := (det_ne dne).1
      have := short_bound hs (Q_pos hs fne) t.le t.in1 t.in2 c
      rw [dsq] at this
      exact ⟨t.p1, fne, this⟩
    · rw [if_neg c]
      have e2 : det f (short s f g w) g = - det f g w := by rw [det_swap2, es]
      have r := shBase_ok hs hP n f (short s f g w) g (by rw [e2]; omega) t.p1 ps t.p2 (by have := t.sum; omega)
      have e3 : det f (short s f g w) g * det f (short s f g w) g = det u v w * det u v w := by rw [e2, ← dsq]; grind
      rw [e3] at r
      exact r
theorem cube_lt {q n : Int} (hn : 0 < n) (hq : 0 < q) (h : 3 * (q * q * q) ≤ 128 * (n * n * n)) : q < 4 * n := by
  refine Int.not_le.mp fun c => ?_
  have a1 : (4 * n) * (4 * n) ≤ q * q := Int.mul_le_mul c c (by omega) (by omega)
  have a2 : (4 * n) * (4 * n) * (4 * n) ≤ q * q * q := Int.mul_le_mul a1 c (by omega) (sqn q)
  have a3 : (4 * n) * (4 * n) * (4 * n) = 64 * (n * n * n) := by grind
  have a4 : 0 < n * n * n := Int.mul_pos (Int.mul_pos hn hn) hn
  omega
/-- a short row of a grid whose rows come to multiples of 4 n comes to nought -/
theorem short_zero {s : V3} (hs : Pos3 s) {P : V3 → Prop} {d : Int} (hd : d * d = 16 * (s.x * s.y * s.z * (s.x * s.y * s.z))) {f : V3} (h : Sh3 s P (d * d) 0 f) {e : V3} (he : (e.x = 1 ∨ e.x = -1) ∧ (e.y = 1 ∨ e.y = -1) ∧ (e.z = 1 ∨ e.z = -1))
    (hm : 4 * (s.x * s.y * s.z) ∣ e.x * s.x * f.x * f.x + e.y * s.y * f.y * f.y + e.z * s.z * f.z * f.z) : e.x * s.x * f.x * f.x + e.y * s.y * f.y * f.y + e.z * s.z * f.z * f.z = 0 := by
  have np : 0 < s.x * s.y * s.z := Int.mul_pos (Int.mul_pos hs.x hs.y) hs.z
  have qp := Q_pos hs h.ne
  have b := h.bd
  rw [hd] at b
  have lt := cube_lt np qp (by
    have : 8 * (s.x * s.y * s.z * (16 * (s.x * s.y * s.z * (s.x * s.y * s.z)))) = 128 * (s.x * s.y * s.z * (s.x * s.y * s.z) * (s.x * s.y * s.z)) := by grind
    omega)
  have w1 := w_nonneg (x := f.x) hs.x
  have w2 := w_nonneg (x := f.y) hs.y
  have w3 := w_nonneg (x := f.z) hs.z
  have q : Qd s f = s.x * f.x * f.x + s.y * f.y * f.y + s.z * f.z * f.z := rfl
  rw [q] at lt
  have c : ∀ {a x t : Int}, (a = 1 ∨ a = -1) → a * x * t * t = a * (x * t * t) := fun _ => by grind
  rw [c he.1, c he.2.1, c he.2.2] at hm ⊢
  generalize s.x * f.x * f.x = X at *
  generalize s.y * f.y * f.y = Y at *
  generalize s.z * f.z * f.z = Z at *
  have bd : (e.x * X + e.y * Y + e.z * Z).natAbs < (4 * (s.x * s.y * s.z)).natAbs := by
    rcases he.1 with e1 | e1 <;> rcases he.2.1 with e2 | e2 <;> rcases he.2.2 with e3 | e3 <;> rw [e1, e2, e3] <;> omega
  exact Int.eq_zero_of_dvd_of_natAbs_lt_natAbs hm bd
/-! rules -/
def val (k u : V3) : Int := k.x * u.x + k.y * u.y + k.z * u.z
theorem val_less (k u v : V3) (t : Int) : val k (less u v t) = val k u - t * val k v := by unfold val less; dsimp only; grind
def smul (u : V3) (t : Int) : V3 := ⟨u.x * t, u.y * t, u.z * t⟩
theorem smul_less (u : V3) (t : Int) : smul u t = less u u (1 - t) := by unfold smul less; apply V3.eq <;> dsimp only <;> grind
theorem rule_kind (k : V3) (m : Int) : Kind3 fun u => m ∣ val k u := fun u v t hu hv => by
  show m ∣ val k (less u v t)
  rw [val_less]
  exact Int.dvd_sub hu (Int.dvd_mul_of_dvd_right hv)
theorem kind_and {P R : V3 → Prop} (h1 : Kind3 P) (h2 : Kind3 R) : Kind3 fun u => P u ∧ R u := fun u v t hu hv => ⟨h1 u v t hu.1 hv.1, h2 u v t hu.2 hv.2⟩
theorem kind_all {α : Type} {l : List α} {P : α → V3 → Prop} (h : ∀ a, Kind3 (P a)) : Kind3 fun u => ∀ a, a ∈ l → P a u := fun u v t hu hv a ha => h a u v t (hu a ha) (hv a ha)
/-- one row times many, another less so much of it -/
theorem nar_rule {k u v : V3} {m inv : Int} (hi : m ∣ val k u * inv - 1) {more : Int} (hmore : m ∣ more - val k v * inv) : m ∣ val k (less v u more) ∧ m ∣ val k (smul u m) := by
  constructor
  · rw [val_less]
    obtain ⟨a, ha⟩ := hi
    obtain ⟨b, hb⟩ := hmore
    have e1 : val k u * inv = m * a + 1 := by omega
    have e2 : more = m * b + val k v * inv := by omega
    refine ⟨-(b * val k u) - val k v * a, ?_⟩
    rw [e2]
    have : val k v * inv * val k u = val k v * (m * a + 1) := by rw [← e1]; grind
    grind
  · unfold val smul
    dsimp only
    exact ⟨k.x * u.x + k.y * u.y + k.z * u.z, by grind⟩
theorem det_n0 (u v w : V3) (m i j : Int) : det (smul u m) (less v u i) (less w u j) = m * det u v w := by unfold det smul less; dsimp only; grind
theorem det_n1 (u v w : V3) (m i j : Int) : det (less u v i) (smul v m) (less w v j) = m * det u v w := by unfold det smul less; dsimp only; grind
theorem det_n2 (u v w : V3) (m i j : Int) : det (less u w i) (less v w j) (smul w m) = m * det u v w := by unfold det smul less; dsimp only; grind
/-- some row's value is free -/
theorem some_free {p : Nat} (hp : Pr p) {k u v w : V3} (hk : k.x = 1 ∨ k.y = 1 ∨ k.z = 1) (hd : ¬ (p : Int) ∣ det u v w) : ¬ (p : Int) ∣ val k u ∨ ¬ (p : Int) ∣ val k v ∨ ¬ (p : Int) ∣ val k w := by
  refine Classical.byContradiction fun c => hd ?_
  have a1 : (p : Int) ∣ val k u := Classical.byContradiction fun z => c (.inl z)
  have a2 : (p : Int) ∣ val k v := Classical.byContradiction fun z => c (.inr (.inl z))
  have a3 : (p : Int) ∣ val k w := Classical.byContradiction fun z => c (.inr (.inr z))
  obtain ⟨x, hx⟩ := a1
  obtain ⟨y, hy⟩ := a2
  obtain ⟨z, hz⟩ := a3
  have e1 : k.x * det u v w = val k u * (v.y * w.z - v.z * w.y) - val k v * (u.y * w.z - u.z * w.y) + val k w * (u.y * v.z - u.z * v.y) := by unfold det val; grind
  have e2 : k.y * det u v w = - (val k u * (v.x * w.z - v.z * w.x)) + val k v * (u.x * w.z - u.z * w.x) - val k w * (u.x * v.z - u.z * v.x) := by unfold det val; grind
  have e3 : k.z * det u v w = val k u * (v.x * w.y - v.y * w.x) - val k v * (u.x * w.y - u.y * w.x) + val k w * (u.x * v.y - u.y * v.x) := by unfold det val; grind
  rw [hx, hy, hz] at e1 e2 e3
  rcases hk with h | h | h
  · rw [h, Int.one_mul] at e1
    rw [e1]
    exact ⟨x * (v.y * w.z - v.z * w.y) - y * (u.y * w.z - u.z * w.y) + z * (u.y * v.z - u.z * v.y), by grind⟩
  · rw [h, Int.one_mul] at e2
    rw [e2]
    exact ⟨-(x * (v.x * w.z - v.z * w.x)) + y * (u.x * w.z - u.z * w.x) - z * (u.x * v.z - u.z * v.x), by grind⟩
  · rw [h, Int.one_mul] at e3
    rw [e3]
    exact ⟨x * (v.x * w.y - v.y * w.x) - y * (u.x * w.y - u.y * w.x) + z * (u.x * v.y - u.y * v.x), by grind⟩
/-! what the rules come to -/
theorem sq_cong {x y : Int} (h : (4 : Int) ∣ x - y) : (8 : Int) ∣ x * x - y * y := by
  obtain ⟨k, hk⟩ := h
  have e : x = y + 4 * k := by omega
  subst e
  exact ⟨y * k + 2 * (k * k), by grind⟩
theorem odd_sq {x : Int} (h : x % 2 = 1) : ∃ k, x * x = 8 * k + 1 := by
  have e : x = 2 * (x / 2) + 1 := by omega
  generalize x / 2 = t at e
  subst e
  have : t * (t + 1) % 2 = 0 := by
    rcases Int.emod_two_eq t with h | h
    · rw [Int.mul_emod, h]; simp
    · have : (t + 1) % 2 = 0 := by omega
      rw [Int.mul_emod, this]; simp
  refine ⟨t * (t + 1) / 2, ?_⟩
  have e2 : t * (t + 1) = 2 * (t * (t + 1) / 2) := by omega
  have : (2 * t + 1) * (2 * t + 1) = 4 * (t * (t + 1)) + 1 := by grind
  omega
theorem even_sq {x : Int} (h : x % 2 = 0) : ∃ k, x * x = 4 * k := by
  have e : x = 2 * (x / 2) := by omega
  generalize x / 2 = t at e
  subst e
  exact ⟨t * t, by grind⟩
/-- all odd: x even, y and z alike, b + c a multiple of 4 -/
theorem rule_odd {a b c x y z : Int} (hbc : (4 : Int) ∣ b + c) (hx : (2 : Int) ∣ x) (hyz : (2 : Int) ∣ y - z) : (4 : Int) ∣ a * (x * x) + b * (y * y) + c * (z * z) := by
  obtain ⟨k, hk⟩ := hbc
  obtain ⟨i, hi⟩ := even_sq (x := x) (by omega)
  have ec : c = 4 * k - b := by omega
  rw [hi, ec]
  rcases Int.emod_two_eq y with h | h
  · obtain ⟨p, hp⟩ := even_sq h
    obtain ⟨q, hq⟩ := even_sq (x := z) (by omega)
    rw [hp, hq]
    exact ⟨a * i + b * p + (4 * k - b) * q, by grind⟩
  · obtain ⟨p, hp⟩ := odd_sq h
    obtain ⟨q, hq⟩ := odd_sq (x := z) (by omega)
    rw [hp, hq]
    exact ⟨a * i + 2 * b * p + (4 * k - b) * (2 * q) + k, by grind⟩
/-- a even: y and z alike by 4; x even, or alike too -/
theorem rule_even {a b c x y z : Int} (ha : (2 : Int) ∣ a) (hbc : (2 : Int) ∣ b + c) (hyz : (4 : Int) ∣ y - z) (h : ((8 : Int) ∣ b + c ∧ (2 : Int) ∣ x) ∨ ((8 : Int) ∣ b + c + a ∧ (2 : Int) ∣ x + y)) : (8 : Int) ∣ a * (x * x) + b * (y * y) + c * (z * z) := by
  obtain ⟨t, ht⟩ := sq_cong hyz
  obtain ⟨a2, ea⟩ := ha
  have ez : z * z = y * y - 8 * t := by omega
  rw [ez]
  rcases h with ⟨⟨k, hk⟩, hx⟩ | ⟨⟨k, hk⟩, hxy⟩
  · obtain ⟨i, hi⟩ := even_sq (x := x) (by omega)
    have ec : c = 8 * k - b := by omega
    rw [hi, ec, ea]
    exact ⟨a2 * i + k * (y * y) - (8 * k - b) * t, by grind⟩
  · rcases Int.emod_two_eq y with h | h
    · obtain ⟨i, hi⟩ := even_sq (x := x) (by omega)
      obtain ⟨j, hj⟩ := even_sq h
      obtain ⟨e, he⟩ := hbc
      have ec : c = 2 * e - b := by omega
      rw [hi, hj, ec, ea]
      exact ⟨a2 * i + e * j - (2 * e - b) * t, by grind⟩
    · obtain ⟨i, hi⟩ := odd_sq (x := x) (by omega)
      obtain ⟨j, hj⟩ := odd_sq h
      have ec : c = 8 * k - b - a := by omega
      rw [hi, hj, ec]
      exact ⟨a * i + k + (8 * k - a) * j - (8 * k - b - a) * t, by grind⟩
/-- by an odd prime that divides a -/
theorem rule_prime {p : Nat} {a b c x y z r : Int} (ha : (p : Int) ∣ a) (hr : (p : Int) ∣ b * (r * r) + c) (hyz : (p : Int) ∣ y - r * z) : (p : Int) ∣ a * (x * x) + b * (y * y) + c * (z * z) := by
  obtain ⟨i, hi⟩ := ha
  obtain ⟨j, hj⟩ := hr
  obtain ⟨k, hk⟩ := hyz
  have ey : y = r * z + p * k := by omega
  have ec : c = p * j - b * (r * r) := by omega
  rw [hi, ey, ec]
  exact ⟨i * (x * x) + b * (2 * (r * z * k) + p * (k * k)) + j * (z * z), by grind⟩
end NT

namespace NT
/-! ### Mordell's step -/
structure Ways (a b c x y z X Y Z many : Int) : Prop where
  ap : 0 < a
  bp : 0 < b
  cp : 0 < c
  zp : 0 < z
  e : a * (x * x) + b * (y * y) = c * (z * z)
  w : x * Y - y * X = many
abbrev whole (a b c X Y Z : Int) : Int := a * (X * X) + b * (Y * Y) - c * (Z * Z)
abbrev both (a b c x y z X Y Z : Int) : Int := a * (x * X) + b * (y * Y) - c * (z * Z)
def stp (W B t T : Int) : Int := W * t - 2 * B * T
theorem step_eq {a b c x y z X Y Z : Int} (e : a * (x * x) + b * (y * y) = c * (z * z)) :
    a * (stp (whole a b c X Y Z) (both a b c x y z X Y Z) x X * stp (whole a b c X Y Z) (both a b c x y z X Y Z) x X) + b * (stp (whole a b c X Y Z) (both a b c x y z X Y Z) y Y * stp (whole a b c X Y Z) (both a b c x y z X Y Z) y Y) = c * (stp (whole a b c X Y Z) (both a b c x y z X Y Z) z Z * stp (whole a b c X Y Z) (both a b c x y z X Y Z) z Z) := by
  have hW : whole a b c X Y Z = a * (X * X) + b * (Y * Y) - c * (Z * Z) := rfl
  have hB : both a b c x y z X Y Z = a * (x * X) + b * (y * Y) - c * (z * Z) := rfl
  generalize whole a b c X Y Z = W at *
  generalize both a b c x y z X Y Z = B at *
  unfold stp
  have k : a * ((W * x - 2 * B * X) * (W * x - 2 * B * X)) + b * ((W * y - 2 * B * Y) * (W * y - 2 * B * Y)) - c * ((W * z - 2 * B * Z) * (W * z - 2 * B * Z)) = W * W * (a * (x * x) + b * (y * y) - c * (z * z)) - 4 * (W * B) * (a * (x * X) + b * (y * Y) - c * (z * Z)) + 4 * (B * B) * (a * (X * X) + b * (Y * Y) - c * (Z * Z)) := by grind
  rw [← hW, ← hB] at k
  have z0 : a * (x * x) + b * (y * y) - c * (z * z) = 0 := by omega
  rw [z0] at k
  have : W * W * 0 - 4 * (W * B) * B + 4 * (B * B) * W = 0 := by grind
  omega
theorem step_z {a b c x y z X Y Z many : Int} (e : a * (x * x) + b * (y * y) = c * (z * z)) (w : x * Y - y * X = many) :
    c * (z * stp (whole a b c X Y Z) (both a b c x y z X Y Z) z Z) = both a b c x y z X Y Z * both a b c x y z X Y Z + a * b * (many * many) := by
  unfold stp
  subst w
  have h1 : c * (z * ((a * (X * X) + b * (Y * Y) - c * (Z * Z)) * z - 2 * (a * (x * X) + b * (y * Y) - c * (z * Z)) * Z)) = (c * (z * z)) * (a * (X * X) + b * (Y * Y)) - 2 * (a * (x * X) + b * (y * Y)) * (c * (z * Z)) + (c * (z * Z)) * (c * (z * Z)) := by grind
  show c * (z * ((a * (X * X) + b * (Y * Y) - c * (Z * Z)) * z - 2 * (a * (x * X) + b * (y * Y) - c * (z * Z)) * Z)) = _
  rw [h1, ← e]
  show _ = (a * (x * X) + b * (y * Y) - c * (z * Z)) * (a * (x * X) + b * (y * Y) - c * (z * Z)) + a * b * ((x * Y - y * X) * (x * Y - y * X))
  generalize c * (z * Z) = t
  grind
/-- many divides what is taken -/
theorem step_dvd {a b c x y z X Y Z many m1 m2 : Int} (e : a * (x * x) + b * (y * y) = c * (z * z)) (w : x * Y - y * X = many) (bz : x * m1 + y * m2 = 1) (hc : many ∣ c) :
    many ∣ whole a b c X Y Z ∧ many ∣ both a b c x y z X Y Z := by
  obtain ⟨k, hk⟩ := hc
  have eY : x * Y = y * X + many := by omega
  have o1 : x * (a * (x * X) + b * (y * Y)) = many * (k * X * (z * z) + b * y) := by
    have : x * (a * (x * X) + b * (y * Y)) = X * (a * (x * x)) + b * y * (x * Y) := by grind
    rw [this, eY]
    have : X * (a * (x * x)) + b * y * (y * X + many) = X * (a * (x * x) + b * (y * y)) + b * y * many := by grind
    rw [this, e, hk]; grind
  have o2 : y * (a * (x * X) + b * (y * Y)) = many * (k * Y * (z * z) - a * x) := by
    have : y * (a * (x * X) + b * (y * Y)) = a * x * (y * X) + Y * (b * (y * y)) := by grind
    have eX : y * X = x * Y - many := by omega
    rw [this, eX]
    have : a * x * (x * Y - many) + Y * (b * (y * y)) = Y * (a * (x * x) + b * (y * y)) - a * x * many := by grind
    rw [this, e, hk]; grind
  have over : many ∣ a * (x * X) + b * (y * Y) := by
    refine ⟨m1 * (k * X * (z * z) + b * y) + m2 * (k * Y * (z * z) - a * x), ?_⟩
    have : a * (x * X) + b * (y * Y) = (x * m1 + y * m2) * (a * (x * X) + b * (y * Y)) := by rw [bz, Int.one_mul]
    rw [this]
    have : (x * m1 + y * m2) * (a * (x * X) + b * (y * Y)) = m1 * (x * (a * (x * X) + b * (y * Y))) + m2 * (y * (a * (x * X) + b * (y * Y))) := by grind
    rw [this, o1, o2]; grind
  have w1 : many ∣ x * (a * (X * X) + b * (Y * Y)) := by
    have : x * (a * (X * X) + b * (Y * Y)) = X * (a * (x * X)) + b * Y * (x * Y) := by grind
    rw [this, eY]
    have : X * (a * (x * X)) + b * Y * (y * X + many) = X * (a * (x * X) + b * (y * Y)) + many * (b * Y) := by grind
    rw [this]
    exact Int.dvd_add (Int.dvd_mul_of_dvd_right over) (Int.dvd_mul_right _ _)
  have w2 : many ∣ y * (a * (X * X) + b * (Y * Y)) := by
    have eX : y * X = x * Y - many := by omega
    have : y * (a * (X * X) + b * (Y * Y)) = a * X * (y * X) + Y * (b * (y * Y)) := by grind
    rw [this, eX]
    have : a * X * (x * Y - many) + Y * (b * (y * Y)) = Y * (a * (x * X) + b * (y * Y)) - many * (a * X) := by grind
    rw [this]
    exact Int.dvd_sub (Int.dvd_mul_of_dvd_right over) (Int.dvd_mul_right _ _)
  have w3 : many ∣ a * (X * X) + b * (Y * Y) := by
    have : a * (X * X) + b * (Y * Y) = m1 * (x * (a * (X * X) + b * (Y * Y))) + m2 * (y * (a * (X * X) + b * (Y * Y))) := by
      have : m1 * (x * (a * (X * X) + b * (Y * Y))) + m2 * (y * (a * (X * X) + b * (Y * Y))) = (x * m1 + y * m2) * (a * (X * X) + b * (Y * Y)) := by grind
      rw [this, bz, Int.one_mul]
    rw [this]
    exact Int.dvd_add (Int.dvd_mul_of_dvd_right w1) (Int.dvd_mul_of_dvd_right w2)
  have hck : ∀ t : Int, many ∣ c * t := fun t => by rw [hk, Int.mul_assoc]; exact Int.dvd_mul_right _ _
  exact ⟨Int.dvd_sub w3 (hck _), Int.dvd_sub over (hck _)⟩
theorem par_sqr (t : Int) : (t * t) % 2 = t % 2 := by
  rcases Int.emod_two_eq t with h | h
  · rw [Int.mul_emod, h]; simp
  · rw [Int.mul_emod, h]; simp
/-- the number by which the new row can be divided -/
def cut (c : Int) : Int := if c % 2 = 1 then 2 * c else c / 2
theorem step_cut {a b c x y z X Y Z m1 m2 : Int} (cp : 0 < c) (e : a * (x * x) + b * (y * y) = c * (z * z)) (bz : x * m1 + y * m2 = 1) (w : x * Y - y * X = if c % 2 = 1 then c else c / 2) (hZ : c % 2 = 1 → (Z - (a * X + b * Y)) % 2 = 0) (t T : Int) :
    cut c ∣ stp (whole a b c X Y Z) (both a b c x y z X Y Z) t T := by
  unfold cut stp
  by_cases h : c % 2 = 1
  · rw [if_pos h] at w ⊢
    obtain ⟨⟨k, hk⟩, ⟨l, hl⟩⟩ := step_dvd (Z := Z) e w bz (Int.dvd_refl c)
    have ev : whole a b c X Y Z % 2 = 0 := by
      have h1 := hZ h
      have s1 : ∀ {u t : Int}, (u * (t * t) - u * t) % 2 = 0 := fun {u t} => by
        have : u * (t * t) - u * t = u * (t * t - t) := by grind
        rw [this, Int.mul_emod]
        have := par_sqr t
        have : (t * t - t) % 2 = 0 := by omega
        rw [this]; simp
      have x1 := s1 (u := a) (t := X)
      have x2 := s1 (u := b) (t := Y)
      have x3 := s1 (u := c) (t := Z)
      have x4 : (c * Z - Z) % 2 = 0 := by
        have : c * Z - Z = (c - 1) * Z := by grind
        rw [this, Int.mul_emod]
        have : (c - 1) % 2 = 0 := by omega
        rw [this]; simp
      show (a * (X * X) + b * (Y * Y) - c * (Z * Z)) % 2 = 0
      generalize a * (X * X) = p1 at *
      generalize b * (Y * Y) = p2 at *
      generalize c * (Z * Z) = p3 at *
      generalize a * X = p4 at *
      generalize b * Y = p5 at *
      generalize c * Z = p6 at *
      omega
    rw [hk] at ev ⊢
    rw [hl]
    have hk2 : k % 2 = 0 := by
      rw [Int.mul_emod, h] at ev
      simpa using ev
    refine ⟨k / 2 * t - l * T, ?_⟩
    have : k = 2 * (k / 2) := by omega
    generalize k / 2 = j at *
    subst this
    grind
  · rw [if_neg h] at w ⊢
    obtain ⟨⟨k, hk⟩, ⟨l, hl⟩⟩ := step_dvd (Z := Z) e w bz (c := c) ⟨2, by omega⟩
    rw [hk, hl]
    exact ⟨k * t - 2 * l * T, by grind⟩
/-- the new row's last number is above 0, and lesser -/
theorem step_less {a b c x y z X Y Z : Int} (ap : 0 < a) (bp : 0 < b) (cp : 0 < c) (zp : 0 < z) (e : a * (x * x) + b * (y * y) = c * (z * z)) (w : x * Y - y * X = if c % 2 = 1 then c else c / 2) (big : a * b < z * z)
    (hb : (c % 2 = 1 → -(c * z) ≤ both a b c x y z X Y Z ∧ both a b c x y z X Y Z ≤ c * z) ∧ (c % 2 = 0 → -(c * z) ≤ 2 * both a b c x y z X Y Z ∧ 2 * both a b c x y z X Y Z ≤ c * z)) :
    0 < stp (whole a b c X Y Z) (both a b c x y z X Y Z) z Z ∧ stp (whole a b c X Y Z) (both a b c x y z X Y Z) z Z < cut c * z := by
  have h := step_z (Z := Z) e w
  generalize stp (whole a b c X Y Z) (both a b c x y z X Y Z) z Z = z' at *
  generalize both a b c x y z X Y Z = B at *
  have ab : 0 < a * b := Int.mul_pos ap bp
  have cz : 0 < c * z := Int.mul_pos cp zp
  have mp : 0 < (if c % 2 = 1 then c else c / 2) := by split <;> omega
  have hp : 0 < c * (z * z') := by
    rw [h]
    have := sqn B
    have := Int.mul_pos ab (Int.mul_pos mp mp)
    omega
  have e1 : c * (z * z') = c * z * z' := by grind
  refine ⟨?_, ?_⟩
  · rw [e1] at hp
    exact Int.pos_of_mul_pos_right hp cz |> fun h => h
  · unfold cut
    by_cases hc : c % 2 = 1
    · rw [if_pos hc] at h ⊢
      obtain ⟨b1, b2⟩ := hb.1 hc
      have q : B * B ≤ c * z * (c * z) := by
        have := Int.mul_nonneg (show 0 ≤ c * z - B by omega) (show 0 ≤ c * z + B by omega)
        have e : (c * z - B) * (c * z + B) = c * z * (c * z) - B * B := by grind
        omega
      have r : a * b * (c * c) < z * z * (c * c) := Int.mul_lt_mul_of_pos_right big (Int.mul_pos cp cp)
      have k : c * z * z' < c * z * (2 * c * z) := by
        have : c * z * (2 * c * z) = c * z * (c * z) + z * z * (c * c) := by grind
        omega
      exact Int.lt_of_mul_lt_mul_left k (by omega)
    · rw [if_neg hc] at h ⊢
      obtain ⟨b1, b2⟩ := hb.2 (by omega)
      obtain ⟨d, hd⟩ : ∃ d, c = 2 * d := ⟨c / 2, by omega⟩
      subst hd
      have hd2 : 2 * d / 2 = d := by omega
      rw [hd2] at h ⊢
      have q : B * B ≤ d * z * (d * z) := by
        have : 2 * d * z = 2 * (d * z) := by grind
        rw [this] at b1 b2
        have := Int.mul_nonneg (show 0 ≤ d * z - B by omega) (show 0 ≤ d * z + B by omega)
        have e : (d * z - B) * (d * z + B) = d * z * (d * z) - B * B := by grind
        omega
      have r : a * b * (d * d) < z * z * (d * d) := Int.mul_lt_mul_of_pos_right big (Int.mul_pos (by omega) (by omega))
      have k : 2 * d * z * z' < 2 * d * z * (d * z) := by
        have : 2 * d * z * (d * z) = d * z * (d * z) + z * z * (d * d) := by grind
        omega
      exact Int.lt_of_mul_lt_mul_left k (by omega)
/-- the nearest number of the right kind -/
def pick2 (over under odd : Int) : Int := 2 * ((over - odd * under + under) / (2 * under)) + odd
theorem pick2_spec {o u k : Int} (h : 0 < u) : -u ≤ o - u * pick2 o u k ∧ o - u * pick2 o u k ≤ u := by
  unfold pick2
  have h2 : (0 : Int) < 2 * u := by omega
  have e := Int.emod_add_mul_ediv (o - k * u + u) (2 * u)
  have r0 := Int.emod_nonneg (o - k * u + u) (Int.ne_of_gt h2)
  have r1 := Int.emod_lt_of_pos (o - k * u + u) h2
  generalize (o - k * u + u) / (2 * u) = t at *
  generalize (o - k * u + u) % (2 * u) = r at *
  have e2 : u * (2 * t + k) = 2 * u * t + k * u := by grind
  rw [e2]
  omega
end NT

namespace NT
/-! ### square roots by a prime, as computed -/
def lstO (p : Nat) : Nat → Nat → Nat
  | 0, a => a
  | n + 1, a => if sq p (a : Int) = true then lstO p n (a + 1) else a
theorem lstO_ok {p : Nat} : ∀ (n a b : Nat), a ≤ b → b < a + n → sq p (b : Int) = false → sq p (lstO p n a : Nat) = false ∧ a ≤ lstO p n a ∧ lstO p n a ≤ b
  | 0, a, b, h1, h2, _ => by omega
  | n + 1, a, b, h1, h2, hb => by
    unfold lstO
    by_cases c : sq p (a : Int) = true
    · rw [if_pos c]
      have : a ≠ b := by rintro rfl; rw [hb] at c; cases c
      obtain ⟨x, y, z⟩ := lstO_ok n (a + 1) b (by omega) (by omega) hb
      exact ⟨x, by omega, z⟩
    · rw [if_neg c]
      exact ⟨by simpa using c, Nat.le_refl _, h1⟩
def oddF (p : Nat) : Nat := lstO p p 2
theorem oddF_ok {p : Nat} (h : Od p) : sq p (oddF p : Nat) = false ∧ 2 ≤ oddF p ∧ oddF p < p := by
  obtain ⟨b, b2, bp, hb⟩ := nonres h
  obtain ⟨x, y, z⟩ := lstO_ok p 2 b b2 (by omega) hb
  exact ⟨x, y, Nat.lt_of_le_of_lt z bp⟩
def lstT (p : Nat) : Nat → Int → Nat
  | 0, _ => 0
  | n + 1, h => if h = 1 then 0 else lstT p n (h * h % (p : Int)) + 1
def sqk (p : Nat) : Nat → Int → Int
  | 0, s => s
  | n + 1, s => sqk p n (s * s % (p : Int))
theorem sqk_cg {p : Nat} : ∀ (k : Nat) (s : Int), Cg p (sqk p k s) (s ^ (2 ^ k))
  | 0, s => by rw [sqk, Nat.pow_zero, Int.pow_succ, Int.pow_zero, Int.one_mul]; exact Cg.refl s
  | k + 1, s => by
    rw [sqk]
    refine (sqk_cg k _).trans ?_
    refine ((Cg.emod (p := p) (s * s)).pow _).trans ?_
    rw [pow_two_succ, Int.mul_pow]
    exact Cg.refl _
theorem sqk_bd {p : Nat} (hp : 0 < (p : Int)) : ∀ (k : Nat) (s : Int), 0 ≤ s → s < p → 0 ≤ sqk p k s ∧ sqk p k s < p
  | 0, s, h0, h1 => ⟨h0, h1⟩
  | k + 1, s, _, _ => sqk_bd hp k _ (Int.emod_nonneg _ (Int.ne_of_gt hp)) (Int.emod_lt_of_pos _ hp)
theorem one_iff {p : Nat} (hp : 2 ≤ p) {h : Int} (h0 : 0 ≤ h) (h1 : h < p) : h = 1 ↔ Cg p h 1 := by
  rw [Cg.iff, Int.emod_eq_of_lt h0 h1, Int.emod_eq_of_lt (by decide) (by omega)]
theorem lst_ok {p : Nat} (hp : 2 ≤ p) {r : Int} : ∀ (n t : Nat) (h : Int), 0 ≤ h → h < p → Cg p h (r ^ (2 ^ t)) → (∀ j, j < t → ¬ Cg p (r ^ (2 ^ j)) 1) → (∃ j, j < t + n ∧ Cg p (r ^ (2 ^ j)) 1) →
    (∀ j, j < lstT p n h + t → ¬ Cg p (r ^ (2 ^ j)) 1) ∧ Cg p (r ^ (2 ^ (lstT p n h + t))) 1
  | 0, t, h, _, _, _, hn, ⟨j, hj, hc⟩ => absurd hc (hn j (by omega))
  | n + 1, t, h, h0, h1, hc, hn, hj => by
    unfold lstT
    by_cases c : h = 1
    · rw [if_pos c, Nat.zero_add]
      exact ⟨hn, hc.symm.trans ((one_iff hp h0 h1).mp c)⟩
    · rw [if_neg c]
      have hp0 : (0 : Int) < p := by omega
      have nt : ¬ Cg p (r ^ (2 ^ t)) 1 := fun z => c ((one_iff hp h0 h1).mpr (hc.trans z))
      have r' := lst_ok hp n (t + 1) (h * h % (p : Int)) (Int.emod_nonneg _ (Int.ne_of_gt hp0)) (Int.emod_lt_of_pos _ hp0) (by
        refine (Cg.emod _).trans ((hc.mul hc).trans ?_)
        rw [pow_two_succ]; exact Cg.refl _) (fun j hj => by
          by_cases e : j = t
          · subst e; exact nt
          · exact hn j (by omega)) (by obtain ⟨j, a, b⟩ := hj; exact ⟨j, by omega, b⟩)
      have e : lstT p n (h * h % (p : Int)) + 1 + t = lstT p n (h * h % (p : Int)) + (t + 1) := by omega
      rw [e]
      exact r'
theorem TS.lst {p : Nat} (hp : 2 ≤ p) {n f r w : Int} {m : Nat} (h : TS p n f r w m) (r0 : 0 ≤ r) (r1 : r < p) : (∀ j, j < lstT p m r → ¬ Cg p (r ^ (2 ^ j)) 1) ∧ Cg p (r ^ (2 ^ (lstT p m r))) 1 ∧ lstT p m r ≤ m - 1 := by
  obtain ⟨a, b⟩ := lst_ok hp m 0 r r0 r1 (by rw [Nat.pow_zero, Int.pow_succ, Int.pow_zero, Int.one_mul]; exact Cg.refl r) (fun j hj => by omega) ⟨m - 1, by have := h.m1; omega, h.hr⟩
  exact ⟨a, b, h.least a⟩
theorem TS.lst1 {p : Nat} {m : Nat} {r : Int} (hm : 1 ≤ m) (hr : r ≠ 1) : 1 ≤ lstT p m r := by
  cases m with
  | zero => omega
  | succ m => unfold lstT; rw [if_neg hr]; omega
def tsR (p : Nat) : Nat → Int → Int → Int → Nat → Int
  | 0, f, _, _, _ => f
  | k + 1, f, r, w, m => if r = 1 then f else
    tsR p k (f * sqk p (m - lstT p m r - 1) w % (p : Int)) (r * (sqk p (m - lstT p m r - 1) w * sqk p (m - lstT p m r - 1) w % (p : Int)) % (p : Int)) (sqk p (m - lstT p m r - 1) w * sqk p (m - lstT p m r - 1) w % (p : Int)) (lstT p m r)
theorem TS.step {p : Nat} (hp : Pr p) {n f r w : Int} {m : Nat} (h : TS p n f r w m) (r0 : 0 ≤ r) (r1 : r < p) (hr : r ≠ 1) :
    TS p n (f * sqk p (m - lstT p m r - 1) w % (p : Int)) (r * (sqk p (m - lstT p m r - 1) w * sqk p (m - lstT p m r - 1) w % (p : Int)) % (p : Int)) (sqk p (m - lstT p m r - 1) w * sqk p (m - lstT p m r - 1) w % (p : Int)) (lstT p m r) := by
  obtain ⟨a, b, c⟩ := h.lst hp.1 r0 r1
  exact h.next hp a b (TS.lst1 h.m1 hr) (sqk_cg _ _) (Cg.emod _) (Cg.emod _) (Cg.emod _)
theorem tsR_ok {p : Nat} (hp : Pr p) {n : Int} : ∀ (k : Nat) (f r w : Int) (m : Nat), TS p n f r w m → m ≤ k → 0 ≤ r → r < p → 0 ≤ f → f < p → Cg p (tsR p k f r w m * tsR p k f r w m) n ∧ 0 ≤ tsR p k f r w m ∧ tsR p k f r w m < p
  | 0, f, r, w, m, h, hk, _, _, _, _ => by have := h.m1; omega
  | k + 1, f, r, w, m, h, hk, r0, r1, f0, f1 => by
    unfold tsR
    by_cases c : r = 1
    · rw [if_pos c]
      exact ⟨h.done (by rw [c]; exact Cg.refl 1), f0, f1⟩
    · rw [if_neg c]
      have hp0 : (0 : Int) < p := by have := hp.1; omega
      have l := (h.lst hp.1 r0 r1).2.2
      have m1 := h.m1
      exact tsR_ok hp k _ _ _ _ (h.step hp r0 r1 c) (by omega) (Int.emod_nonneg _ (Int.ne_of_gt hp0)) (Int.emod_lt_of_pos _ hp0) (Int.emod_nonneg _ (Int.ne_of_gt hp0)) (Int.emod_lt_of_pos _ hp0)
def manyF (p : Nat) : Nat := vp 2 (p - 1)
def partF (p : Nat) : Nat := (p - 1) / 2 ^ manyF p
theorem part_ok {p : Nat} (h : Od p) : p - 1 = partF p * 2 ^ manyF p ∧ partF p % 2 = 1 ∧ 1 ≤ manyF p := by
  have h3 := h.ge
  have ho := h.odd
  obtain ⟨m, e, nd, m0⟩ := vp_spec (p := 2) (by decide) (p - 1) (by omega)
  have hm : 1 ≤ manyF p := (vp_pos (by decide) (by omega)).mp ⟨(p - 1) / 2, by omega⟩
  have pp : 0 < 2 ^ manyF p := Nat.pow_pos (by decide)
  have ep : partF p = m := by
    unfold partF
    conv => lhs; rw [e]
    exact Nat.mul_div_cancel_left _ pp
  refine ⟨?_, ?_, hm⟩
  · rw [ep, Nat.mul_comm]; exact e
  · rw [ep]; omega
theorem part_uniq {p q k : Nat} (hp : 2 ≤ p) (e : q * 2 ^ k = p - 1) (ho : q % 2 = 1) : k = manyF p ∧ q = partF p := by
  have q0 : 0 < q := by omega
  have hk : k = manyF p := by
    unfold manyF
    rw [← e, Nat.mul_comm, vp_pow (by decide) q0, vp_no (by omega)]; rfl
  refine ⟨hk, ?_⟩
  unfold partF
  rw [← hk, ← e, Nat.mul_div_cancel _ (Nat.pow_pos (by decide))]
def sqrtF (p : Nat) (n : Int) : Int := tsR p (manyF p) ((n % (p : Int)) ^ ((partF p + 1) / 2) % (p : Int)) ((n % (p : Int)) ^ partF p % (p : Int)) ((oddF p : Int) ^ partF p % (p : Int)) (manyF p)
theorem sqrt_start {p : Nat} (h : Od p) {n : Int} (hn : sq p n = true) : TS p n ((n % (p : Int)) ^ ((partF p + 1) / 2) % (p : Int)) ((n % (p : Int)) ^ partF p % (p : Int)) ((oddF p : Int) ^ partF p % (p : Int)) (manyF p) := by
  obtain ⟨e, ho, hm⟩ := part_ok h
  obtain ⟨z1, z2, z3⟩ := oddF_ok h
  refine TS.start h hn (z := (oddF p : Int)) (fun d => ?_) z1 hm e ho ((Cg.emod _).trans ((Cg.emod n).pow _)) ((Cg.emod _).trans ((Cg.emod n).pow _)) (Cg.emod _)
  have := Nat.le_of_dvd (by omega) (Int.natCast_dvd_natCast.mp d)
  omega
theorem sqrtF_ok {p : Nat} (h : Od p) {n : Int} (hn : sq p n = true) : Cg p (sqrtF p n * sqrtF p n) n ∧ 0 ≤ sqrtF p n ∧ sqrtF p n < p := by
  have hp0 : (0 : Int) < p := by have := h.ge; omega
  exact tsR_ok h.pr _ _ _ _ _ (sqrt_start h hn) (Nat.le_refl _) (Int.emod_nonneg _ (Int.ne_of_gt hp0)) (Int.emod_lt_of_pos _ hp0) (Int.emod_nonneg _ (Int.ne_of_gt hp0)) (Int.emod_lt_of_pos _ hp0)
end NT

namespace NT
/-! ### a grid by its rules -/
abbrev B3 := V3 × V3 × V3
def freeF (v : Int) (m : Nat) : Bool := if m = 2 ∨ m = 4 ∨ m = 8 then decide (v % 2 = 1) else !decide (v % (m : Int) = 0)
def expo (m : Nat) : Nat := if m = 4 ∨ m = 8 then m / 2 - 1 else m - 2
def invF (k u : V3) (m : Nat) : Int := (val k u % (m : Int)) ^ expo m % (m : Int)
def moreF (k u v : V3) (m : Nat) : Int := val k v % (m : Int) * invF k u m % (m : Int)
def narF (b : B3) (k : V3) (m : Nat) : B3 :=
  if freeF (val k b.1 % (m : Int)) m = true then (smul b.1 m, less b.2.1 b.1 (moreF k b.1 b.2.1 m), less b.2.2 b.1 (moreF k b.1 b.2.2 m))
  else if freeF (val k b.2.1 % (m : Int)) m = true then (less b.1 b.2.1 (moreF k b.2.1 b.1 m), smul b.2.1 m, less b.2.2 b.2.1 (moreF k b.2.1 b.2.2 m))
  else (less b.1 b.2.2 (moreF k b.2.2 b.1 m), less b.2.1 b.2.2 (moreF k b.2.2 b.2.1 m), smul b.2.2 m)
def Md (m : Nat) : Prop := m = 2 ∨ m = 4 ∨ Od m
theorem Md.two {m : Nat} (h : Md m) : 2 ≤ m := by
  rcases h with rfl | rfl | h
  · decide
  · decide
  · have := h.ge; omega
theorem od_ne {m : Nat} (h : Od m) : ¬ (m = 2 ∨ m = 4 ∨ m = 8) := by have := h.odd; omega
theorem inv_ok {m : Nat} (hm : Md m) {k u : V3} (h : freeF (val k u % (m : Int)) m = true) : (m : Int) ∣ val k u * invF k u m - 1 := by
  unfold invF
  generalize val k u = v at *
  rcases hm with rfl | rfl | ho
  · unfold freeF at h
    rw [if_pos (.inl rfl)] at h
    have h := of_decide_eq_true h
    have : expo 2 = 0 := rfl
    rw [this, Int.pow_zero]
    have h2 : v % 2 % 2 = 1 := h
    have e : (1 : Int) % ((2 : Nat) : Int) = 1 := rfl
    rw [e]
    show (2 : Int) ∣ v * 1 - 1
    omega
  · unfold freeF at h
    rw [if_pos (.inr (.inl rfl))] at h
    have h := of_decide_eq_true h
    have : expo 4 = 1 := rfl
    rw [this, Int.pow_succ, Int.pow_zero, Int.one_mul]
    have h2 : v % 4 % 2 = 1 := h
    show (4 : Int) ∣ v * (v % 4 % 4) - 1
    have : v % 4 = 1 ∨ v % 4 = 3 := by omega
    have hv := Int.emod_add_mul_ediv v 4
    rcases this with e | e <;> rw [e] at hv ⊢ <;> generalize v / 4 = q at * <;> omega
  · unfold freeF at h
    rw [if_neg (od_ne ho)] at h
    have nd : ¬ (m : Int) ∣ v := fun d => by
      have := Int.emod_eq_zero_of_dvd d
      rw [this] at h
      simp at h
    have e : expo m = m - 2 := by unfold expo; rw [if_neg (fun z => od_ne ho (.inr z))]
    rw [e]
    have c1 : Cg m ((v % (m : Int)) ^ (m - 2) % (m : Int)) (v ^ (m - 2)) := (Cg.emod _).trans ((Cg.emod v).pow _)
    have c2 := (Cg.refl (p := m) v).mul c1
    have e2 : v * v ^ (m - 2) = v ^ (m - 1) := by
      have h3 := ho.ge
      have : m - 1 = (m - 2) + 1 := by omega
      rw [this, Int.pow_succ]; grind
    rw [e2] at c2
    exact c2.trans (fermat ho.pr nd)
def All3 (P : V3 → Prop) (b : B3) : Prop := P b.1 ∧ P b.2.1 ∧ P b.2.2
def detB (b : B3) : Int := det b.1 b.2.1 b.2.2
def Le3 (B : Nat) (u : V3) : Prop := u.x.natAbs ≤ B ∧ u.y.natAbs ≤ B ∧ u.z.natAbs ≤ B
theorem more_rng {k u v : V3} {m : Nat} (hm : 0 < m) : 0 ≤ moreF k u v m ∧ moreF k u v m < m := by
  unfold moreF
  exact ⟨Int.emod_nonneg _ (by omega), Int.emod_lt_of_pos _ (by omega)⟩
theorem le_smul {B m : Nat} {u : V3} (h : Le3 B u) : Le3 (m * B) (smul u m) := by
  have k : ∀ {x : Int}, x.natAbs ≤ B → (x * (m : Int)).natAbs ≤ m * B := fun {x} hx => by
    rw [Int.natAbs_mul, Int.natAbs_natCast, Nat.mul_comm]
    exact Nat.mul_le_mul_left _ hx
  exact ⟨k h.1, k h.2.1, k h.2.2⟩
theorem le_less {B m : Nat} {u v : V3} {t : Int} (hu : Le3 B u) (hv : Le3 B v) (h0 : 0 ≤ t) (h1 : t < (m : Int)) : Le3 (m * B) (less u v t) := by
  have k : ∀ {x y : Int}, x.natAbs ≤ B → y.natAbs ≤ B → (x - t * y).natAbs ≤ m * B := fun {x y} hx hy => by
    have h2 : (x - t * y).natAbs ≤ x.natAbs + (t * y).natAbs := by omega
    have h3 : (t * y).natAbs ≤ (m - 1) * B := by
      rw [Int.natAbs_mul]
      exact Nat.mul_le_mul (by omega) hy
    have h4 : m * B = B + (m - 1) * B := by
      have : m = 1 + (m - 1) := by omega
      conv => lhs; rw [this, Nat.add_mul, Nat.one_mul]
    omega
  exact ⟨k hu.1 hv.1, k hu.2.1 hv.2.1, k hu.2.2 hv.2.2⟩
structure NarOk (b b' : B3) (k : V3) (m : Nat) : Prop where
  dt : detB b' = m * detB b
  rule : All3 (fun u => (m : Int) ∣ val k u) b'
  kind : ∀ P : V3 → Prop, Kind3 P → All3 P b → All3 P b'
  bd : ∀ B, All3 (Le3 B) b → All3 (Le3 (m * B)) b'
theorem nar_ok {m : Nat} (hm : Md m) {b : B3} {k : V3} (hf : freeF (val k b.1 % (m : Int)) m = true ∨ freeF (val k b.2.1 % (m : Int)) m = true ∨ freeF (val k b.2.2 % (m : Int)) m = true) : NarOk b (narF b k m) k m := by
  obtain ⟨u, v, w⟩ := b
  have m0 : 0 < m := by have := hm.two; omega
  have mo : ∀ a c : V3, (m : Int) ∣ moreF k a c m - val k c * invF k a m := fun a c => by
    unfold moreF
    exact (Cg.emod _).trans ((Cg.emod _).mul (Cg.refl _))
  have ks : ∀ {P : V3 → Prop}, Kind3 P → ∀ {a : V3}, P a → P (smul a m) := by
    intro P hP a ha
    rw [smul_less]
    exact hP _ _ _ ha ha
  unfold narF
  dsimp only at hf ⊢
  by_cases c0 : freeF (val k u % (m : Int)) m = true
  · rw [if_pos c0]
    have i := inv_ok hm c0
    have r1 := nar_rule i (mo u v)
    have r2 := nar_rule i (mo u w)
    refine ⟨det_n0 _ _ _ _ _ _, ⟨r1.2, r1.1, r2.1⟩, fun P hP h => ⟨ks hP h.1, hP _ _ _ h.2.1 h.1, hP _ _ _ h.2.2 h.1⟩, fun B h => ⟨le_smul h.1, ?_, ?_⟩⟩
    · have q := more_rng (k := k) (u := u) (v := v) m0
      exact le_less h.2.1 h.1 q.1 q.2
    · have q := more_rng (k := k) (u := u) (v := w) m0
      exact le_less h.2.2 h.1 q.1 q.2
  · rw [if_neg c0]
    by_cases c1 : freeF (val k v % (m : Int)) m = true
    · rw [if_pos c1]
      have i := inv_ok hm c1
      have r1 := nar_rule i (mo v u)
      have r2 := nar_rule i (mo v w)
      refine ⟨det_n1 _ _ _ _ _ _, ⟨r1.1, r1.2, r2.1⟩, fun P hP h => ⟨hP _ _ _ h.1 h.2.1, ks hP h.2.1, hP _ _ _ h.2.2 h.2.1⟩, fun B h => ⟨?_, le_smul h.2.1, ?_⟩⟩
      · have q := more_rng (k := k) (u := v) (v := u) m0
        exact le_less h.1 h.2.1 q.1 q.2
      · have q := more_rng (k := k) (u := v) (v := w) m0
        exact le_less h.2.2 h.2.1 q.1 q.2
    · rw [if_neg c1]
      have c2 : freeF (val k w % (m : Int)) m = true := (hf.resolve_left c0).resolve_left c1
      have i := inv_ok hm c2
      have r1 := nar_rule i (mo w u)
      have r2 := nar_rule i (mo w v)
      refine ⟨det_n2 _ _ _ _ _ _, ⟨r1.1, r2.1, r1.2⟩, fun P hP h => ⟨hP _ _ _ h.1 h.2.2, hP _ _ _ h.2.1 h.2.2, ks hP h.2.2⟩, fun B h => ⟨?_, ?_, le_smul h.2.2⟩⟩
      · have q := more_rng (k := k) (u := w) (v := u) m0
        exact le_less h.1 h.2.2 q.1 q.2
      · have q := more_rng (k := k) (u := w) (v := v) m0
        exact le_less h.2.1 h.2.2 q.1 q.2
abbrev Rule := V3 × Nat
def foldR (b : B3) (rs : List Rule) : B3 := rs.foldl (fun b r => narF b r.1 r.2) b
/-- some row is free, at each rule in turn -/
def Free (b : B3) (k : V3) (m : Nat) : Prop := freeF (val k b.1 % (m : Int)) m = true ∨ freeF (val k b.2.1 % (m : Int)) m = true ∨ freeF (val k b.2.2 % (m : Int)) m = true
def Frees (b : B3) : List Rule → Prop
  | [] => True
  | r :: rs => Md r.2 ∧ Free b r.1 r.2 ∧ Frees (narF b r.1 r.2) rs
structure FoldOk (b b' : B3) (rs : List Rule) : Prop where
  dt : detB b' = ((rs.map (·.2)).prod : Nat) * detB b
  rule : ∀ r, r ∈ rs → All3 (fun u => (r.2 : Int) ∣ val r.1 u) b'
  kind : ∀ P : V3 → Prop, Kind3 P → All3 P b → All3 P b'
  bd : ∀ B, All3 (Le3 B) b → All3 (Le3 ((rs.map (·.2)).prod * B)) b'
theorem fold_ok : ∀ (rs : List Rule) (b : B3), Frees b rs → FoldOk b (foldR b rs) rs
  | [], b, _ => ⟨by simp [foldR], fun r hr => by simp at hr, fun P _ h => h, fun B h => by simpa [foldR] using h⟩
  | r :: rs, b, ⟨hm, hf, h⟩ => by
    have n := nar_ok hm hf
    have f := fold_ok rs _ h
    refine ⟨?_, fun q hq => ?_, fun P hP hb => f.kind P hP (n.kind P hP hb), fun B hB => ?_⟩
    · show detB (foldR (narF b r.1 r.2) rs) = _
      rw [f.dt, n.dt, List.map_cons, List.prod_cons, Int.natCast_mul]
      grind
    · rcases List.mem_cons.mp hq with rfl | hq
      · exact f.kind _ (rule_kind _ _) n.rule
      · exact f.rule q hq
    · have := f.bd _ (n.bd B hB)
      rw [List.map_cons, List.prod_cons]
      have e : r.2 * (rs.map (·.2)).prod * B = (rs.map (·.2)).prod * (r.2 * B) := by
        rw [Nat.mul_comm r.2, Nat.mul_assoc]
      rw [e]
      exact this
theorem frees_app : ∀ (rs ss : List Rule) (b : B3), Frees b rs → Frees (foldR b rs) ss → Frees b (rs ++ ss)
  | [], ss, b, _, h => h
  | r :: rs, ss, b, ⟨h1, h2, h3⟩, h => ⟨h1, h2, frees_app rs ss _ h3 h⟩
/-- rules by primes that do not divide what is there -/
theorem frees_pr : ∀ (rs : List Rule) (b : B3), (∀ r, r ∈ rs → Od r.2 ∧ (r.1.x = 1 ∨ r.1.y = 1 ∨ r.1.z = 1) ∧ ¬ (r.2 : Int) ∣ detB b) → (rs.map (·.2)).Nodup → Frees b rs
  | [], b, _, _ => trivial
  | r :: rs, b, h, nd => by
    obtain ⟨ho, hk, hd⟩ := h r List.mem_cons_self
    have free : Free b r.1 r.2 := by
      have fe : ∀ {u : V3}, ¬ (r.2 : Int) ∣ val r.1 u → freeF (val r.1 u % (r.2 : Int)) r.2 = true := fun {u} hn => by
        unfold freeF
        rw [if_neg (od_ne ho), Int.emod_emod_of_dvd _ (Int.dvd_refl _)]
        have : ¬ val r.1 u % (r.2 : Int) = 0 := fun z => hn (Int.dvd_of_emod_eq_zero z)
        simp [this]
      rcases some_free ho.pr hk hd with h | h | h
      · exact .inl (fe h)
      · exact .inr (.inl (fe h))
      · exact .inr (.inr (fe h))
    refine ⟨.inr (.inr ho), free, ?_⟩
    have n := nar_ok (.inr (.inr ho)) free
    rw [List.map_cons, List.nodup_cons] at nd
    refine frees_pr rs _ (fun q hq => ?_) nd.2
    obtain ⟨q1, q2, q3⟩ := h q (List.mem_cons_of_mem _ hq)
    refine ⟨q1, q2, fun d => ?_⟩
    rw [n.dt] at d
    rcases q1.pr.dvdI d with d | d
    · have e := q1.pr.eq ho.pr (Int.natCast_dvd_natCast.mp d)
      exact nd.1 (List.mem_map.mpr ⟨q, hq, e⟩)
    · exact q3 d
def I3 : B3 := (⟨1, 0, 0⟩, ⟨0, 1, 0⟩, ⟨0, 0, 1⟩)
def axis (i : Nat) : V3 := if i = 0 then ⟨1, 0, 0⟩ else if i = 1 then ⟨0, 1, 0⟩ else ⟨0, 0, 1⟩
/-- 1 ahead of a place, a factor two ahead of it -/
def apart (i : Nat) (t : Int) : V3 := if i = 0 then ⟨0, t, 1⟩ else if i = 1 then ⟨1, 0, t⟩ else ⟨t, 1, 0⟩
def withp (i : Nat) : V3 := if i = 0 then ⟨1, 0, 1⟩ else if i = 1 then ⟨1, 1, 0⟩ else ⟨0, 1, 1⟩
/-- the place, the one ahead, the one two ahead -/
def at0 (a : V3) (i : Nat) : Int := if i = 0 then a.x else if i = 1 then a.y else a.z
def at1 (a : V3) (i : Nat) : Int := if i = 0 then a.z else if i = 1 then a.x else a.y
def at2 (a : V3) (i : Nat) : Int := if i = 0 then a.y else if i = 1 then a.z else a.x
def evenAt (a : V3) : Option Nat := if a.x % 2 = 0 then some 0 else if a.y % 2 = 0 then some 1 else if a.z % 2 = 0 then some 2 else none
def fourAt (a : V3) : Nat := if (at1 a 0 + at2 a 0) % 4 = 0 then 0 else if (at1 a 1 + at2 a 1) % 4 = 0 then 1 else 2
def twoR (a : V3) : List Rule := match evenAt a with
  | none => [(axis (fourAt a), 2), (apart (fourAt a) (-1), 2)]
  | some i => if (at1 a i + at2 a i) % 8 = 0 then [(apart i (-1), 4), (axis i, 2)] else [(apart i (-1), 4), (withp i, 2)]
theorem two_frees (a : V3) : Frees I3 (twoR a) := by
  unfold twoR
  have f4 : fourAt a = 0 ∨ fourAt a = 1 ∨ fourAt a = 2 := by
    unfold fourAt
    split
    · exact .inl rfl
    · split
      · exact .inr (.inl rfl)
      · exact .inr (.inr rfl)
  have e3 : ∀ i, evenAt a = some i → i = 0 ∨ i = 1 ∨ i = 2 := fun i => by
    unfold evenAt
    split
    · intro h; cases h; simp
    · split
      · intro h; cases h; simp
      · split
        · intro h; cases h; simp
        · intro h; cases h
  have m2 : Md 2 := .inl rfl
  have m4 : Md 4 := .inr (.inl rfl)
  cases he : evenAt a with
  | none =>
    rcases f4 with h | h | h <;> (dsimp only; rw [h]; refine ⟨m2, ?_, m2, ?_, trivial⟩ <;> (unfold Free; decide))
  | some i =>
    dsimp only
    rcases e3 i he with h | h | h <;> subst h <;> split <;> (refine ⟨m4, ?_, m2, ?_, trivial⟩ <;> (unfold Free; decide))
theorem two_prod (a : V3) : ((twoR a).map (·.2)).prod = if evenAt a = none then 4 else 8 := by
  unfold twoR
  cases evenAt a with
  | none => rfl
  | some i => dsimp only; split <;> rfl
end NT

namespace NT
/-! ### the grid of three weights without common parts -/
def restF (a : V3) (i p : Nat) : Int := -(at2 a i) * ((at1 a i % (p : Int)) ^ (p - 2) % (p : Int))
def oddRi (a : V3) (B : List Nat) (i : Nat) : List Rule := (B.filter fun p => decide (2 < p)).map fun p => (apart i (-(sqrtF p (restF a i p))), p)
def gridR (a : V3) (B0 B1 B2 : List Nat) : List Rule := twoR a ++ (oddRi a B0 0 ++ oddRi a B1 1 ++ oddRi a B2 2)
structure Fine3 (a : V3) (B0 B1 B2 : List Nat) : Prop where
  ax : a.x.natAbs = B0.prod
  ay : a.y.natAbs = B1.prod
  az : a.z.natAbs = B2.prod
  n0 : B0.Nodup
  n1 : B1.Nodup
  n2 : B2.Nodup
  p0 : ∀ p, p ∈ B0 → Pr p
  p1 : ∀ p, p ∈ B1 → Pr p
  p2 : ∀ p, p ∈ B2 → Pr p
  d01 : ∀ p, p ∈ B0 → p ∉ B1
  d02 : ∀ p, p ∈ B0 → p ∉ B2
  d12 : ∀ p, p ∈ B1 → p ∉ B2
  s0 : ∀ p, p ∈ B0 → 2 < p → sq p (-a.z * a.y) = true
  s1 : ∀ p, p ∈ B1 → 2 < p → sq p (-a.x * a.z) = true
  s2 : ∀ p, p ∈ B2 → 2 < p → sq p (-a.y * a.x) = true
  four : evenAt a = none → (at1 a (fourAt a) + at2 a (fourAt a)) % 4 = 0
  eight : ∀ i, evenAt a = some i → (at1 a i + at2 a i) % 8 = 0 ∨ (at1 a i + at2 a i + at0 a i) % 8 = 0
theorem pr_in {B : List Nat} (hp : ∀ p, p ∈ B → Pr p) {p : Nat} (h : Pr p) (d : p ∣ B.prod) : p ∈ B := by
  induction B with
  | nil => simp at d; exact absurd d (by have := h.1; omega)
  | cons q B ih =>
    rw [List.prod_cons] at d
    rcases h.dvd_mul d with d | d
    · rw [h.eq (hp q (by simp)) d]; simp
    · exact List.mem_cons_of_mem _ (ih (fun r hr => hp r (by simp [hr])) d)
theorem in_dvd {p : Nat} : ∀ {B : List Nat}, p ∈ B → p ∣ B.prod
  | q :: B, h => by
    rw [List.prod_cons]
    rcases List.mem_cons.mp h with rfl | h
    · exact Nat.dvd_mul_right _ _
    · exact Nat.dvd_mul_left_of_dvd (in_dvd h) _
theorem nd_of {a : Int} {B : List Nat} (e : a.natAbs = B.prod) (hp : ∀ p, p ∈ B → Pr p) {p : Nat} (h : Pr p) (hn : p ∉ B) : ¬ (p : Int) ∣ a := fun d => hn (pr_in hp h (by rw [← e]; exact Int.ofNat_dvd_left.mp d))
theorem inv_cg {p : Nat} (h : Od p) {u : Int} (hu : ¬ (p : Int) ∣ u) : Cg p (u * ((u % (p : Int)) ^ (p - 2) % (p : Int))) 1 := by
  have c1 : Cg p ((u % (p : Int)) ^ (p - 2) % (p : Int)) (u ^ (p - 2)) := (Cg.emod _).trans ((Cg.emod u).pow _)
  have c2 := (Cg.refl (p := p) u).mul c1
  have e2 : u * u ^ (p - 2) = u ^ (p - 1) := by
    have h3 := h.ge
    have : p - 1 = (p - 2) + 1 := by omega
    rw [this, Int.pow_succ]; grind
  rw [e2] at c2
  exact c2.trans (fermat h.pr hu)
/-- the rest is a square -/
theorem rest_sq {p : Nat} (h : Od p) {u v : Int} (hu : ¬ (p : Int) ∣ u) (hv : ¬ (p : Int) ∣ v) (hs : sq p (-u * v) = true) : sq p (-v * ((u % (p : Int)) ^ (p - 2) % (p : Int))) = true := by
  have hi := inv_cg h hu
  generalize (u % (p : Int)) ^ (p - 2) % (p : Int) = w at *
  have nw : ¬ (p : Int) ∣ w := fun d => h.pr.oneI ((Cg.dvd hi).mp (Int.dvd_mul_of_dvd_right d))
  have nvw : ¬ (p : Int) ∣ -v * w := fun d => by
    rcases h.pr.dvdI d with d | d
    · exact hv (Int.dvd_neg.mp d)
    · exact nw d
  rw [← sq_mulsq h nvw hu]
  have : Cg p (-v * w * (u * u)) (-u * v) := by
    have e : -v * w * (u * u) = (-u * v) * (u * w) := by grind
    have k := (Cg.refl (p := p) (-u * v)).mul hi
    rw [Int.mul_one] at k
    rw [e]; exact k
  rw [sq_cg this]
  exact hs
/-- a root of the rest is a rule's factor -/
theorem rest_rule {p : Nat} (h : Od p) {u v : Int} (hu : ¬ (p : Int) ∣ u) {r : Int} (hr : Cg p (r * r) (-v * ((u % (p : Int)) ^ (p - 2) % (p : Int)))) : (p : Int) ∣ u * (r * r) + v := by
  have hi := inv_cg h hu
  generalize (u % (p : Int)) ^ (p - 2) % (p : Int) = w at *
  have k := (Cg.refl (p := p) u).mul hr
  have e : u * (-v * w) = -v * (u * w) := by grind
  rw [e] at k
  have k2 := k.trans ((Cg.refl (p := p) (-v)).mul hi)
  obtain ⟨c, hc⟩ := k2
  exact ⟨c, by omega⟩
def ev3 (a u : V3) : Int := a.x * u.x * u.x + a.y * u.y * u.y + a.z * u.z * u.z
theorem ev_at (a u : V3) (i : Nat) (hi : i < 3) : ev3 a u = at0 a i * (at0 u i * at0 u i) + at1 a i * (at1 u i * at1 u i) + at2 a i * (at2 u i * at2 u i) := by
  have h3 : i = 0 ∨ i = 1 ∨ i = 2 := by omega
  unfold ev3
  rcases h3 with rfl | rfl | rfl
  · show _ = a.x * (u.x * u.x) + a.z * (u.z * u.z) + a.y * (u.y * u.y); grind
  · show _ = a.y * (u.y * u.y) + a.x * (u.x * u.x) + a.z * (u.z * u.z); grind
  · show _ = a.z * (u.z * u.z) + a.y * (u.y * u.y) + a.x * (u.x * u.x); grind
theorem val_axis (i : Nat) (hi : i < 3) (u : V3) : val (axis i) u = at0 u i := by
  have h3 : i = 0 ∨ i = 1 ∨ i = 2 := by omega
  rcases h3 with rfl | rfl | rfl
  · show 1 * u.x + 0 * u.y + 0 * u.z = u.x; omega
  · show 0 * u.x + 1 * u.y + 0 * u.z = u.y; omega
  · show 0 * u.x + 0 * u.y + 1 * u.z = u.z; omega
theorem val_apart (i : Nat) (hi : i < 3) (t : Int) (u : V3) : val (apart i t) u = at1 u i + t * at2 u i := by
  have h3 : i = 0 ∨ i = 1 ∨ i = 2 := by omega
  rcases h3 with rfl | rfl | rfl
  · show 0 * u.x + t * u.y + 1 * u.z = u.z + t * u.y; omega
  · show 1 * u.x + 0 * u.y + t * u.z = u.x + t * u.z; omega
  · show t * u.x + 1 * u.y + 0 * u.z = u.y + t * u.x; omega
theorem val_with (i : Nat) (hi : i < 3) (u : V3) : val (withp i) u = at0 u i + at1 u i := by
  have h3 : i = 0 ∨ i = 1 ∨ i = 2 := by omega
  rcases h3 with rfl | rfl | rfl
  · show 1 * u.x + 0 * u.y + 1 * u.z = u.x + u.z; omega
  · show 1 * u.x + 1 * u.y + 0 * u.z = u.y + u.x; omega
  · show 0 * u.x + 1 * u.y + 1 * u.z = u.z + u.y; omega
theorem even_is {a : V3} {i : Nat} (h : evenAt a = some i) : i < 3 ∧ at0 a i % 2 = 0 := by
  unfold evenAt at h
  split at h
  · cases h; exact ⟨by decide, by assumption⟩
  · split at h
    · cases h; exact ⟨by decide, by assumption⟩
    · split at h
      · cases h; exact ⟨by decide, by assumption⟩
      · cases h
theorem even_no {a : V3} (h : evenAt a = none) : a.x % 2 = 1 ∧ a.y % 2 = 1 ∧ a.z % 2 = 1 := by
  unfold evenAt at h
  split at h
  · cases h
  · split at h
    · cases h
    · split at h
      · cases h
      · omega
theorem four_lt (a : V3) : fourAt a < 3 := by unfold fourAt; split <;> (try split) <;> omega
/-- by the rules of two -/
theorem two_dvd {a : V3} {B0 B1 B2 : List Nat} (h : Fine3 a B0 B1 B2) {u : V3} (hu : ∀ r, r ∈ twoR a → (r.2 : Int) ∣ val r.1 u) : ((if evenAt a = none then 4 else 8 : Nat) : Int) ∣ ev3 a u := by
  unfold twoR at hu
  cases he : evenAt a with
  | none =>
    rw [he] at hu
    have f3 := four_lt a
    have h1 := hu (axis (fourAt a), 2) (by simp)
    have h2 := hu (apart (fourAt a) (-1), 2) (by simp)
    rw [val_axis _ f3] at h1
    rw [val_apart _ f3] at h2
    rw [if_pos rfl, ev_at a u _ f3]
    have h1 : (2 : Int) ∣ at0 u (fourAt a) := h1
    have h2 : (2 : Int) ∣ at1 u (fourAt a) + -1 * at2 u (fourAt a) := h2
    exact rule_odd (Int.dvd_of_emod_eq_zero (h.four he)) h1 (by omega)
  | some i =>
    rw [he] at hu
    obtain ⟨i3, ie⟩ := even_is he
    rw [if_neg (by simp), ev_at a u _ i3]
    have od : (2 : Int) ∣ at1 a i + at2 a i := by
      rcases h.eight i he with h8 | h8 <;> omega
    dsimp only at hu
    by_cases c : (at1 a i + at2 a i) % 8 = 0
    · rw [if_pos c] at hu
      have h1 := hu (apart i (-1), 4) (by simp)
      have h2 := hu (axis i, 2) (by simp)
      rw [val_apart _ i3] at h1
      rw [val_axis _ i3] at h2
      have h1 : (4 : Int) ∣ at1 u i + -1 * at2 u i := h1
      have h2 : (2 : Int) ∣ at0 u i := h2
      exact rule_even (by omega) od (by omega) (.inl ⟨by omega, h2⟩)
    · rw [if_neg c] at hu
      have h1 := hu (apart i (-1), 4) (by simp)
      have h2 := hu (withp i, 2) (by simp)
      rw [val_apart _ i3] at h1
      rw [val_with _ i3] at h2
      have h1 : (4 : Int) ∣ at1 u i + -1 * at2 u i := h1
      have h2 : (2 : Int) ∣ at0 u i + at1 u i := h2
      have h8 := (h.eight i he).resolve_left c
      exact rule_even (by omega) od (by omega) (.inr ⟨by omega, h2⟩)
structure At3 (a : V3) (B : List Nat) (i : Nat) : Prop where
  i3 : i < 3
  pr : ∀ p, p ∈ B → Pr p
  dv : ∀ p, p ∈ B → (p : Int) ∣ at0 a i
  u : ∀ p, p ∈ B → ¬ (p : Int) ∣ at1 a i
  v : ∀ p, p ∈ B → ¬ (p : Int) ∣ at2 a i
  s : ∀ p, p ∈ B → 2 < p → sq p (-(at1 a i) * at2 a i) = true
theorem Fine3.at {a : V3} {B0 B1 B2 : List Nat} (h : Fine3 a B0 B1 B2) : At3 a B0 0 ∧ At3 a B1 1 ∧ At3 a B2 2 := by
  have dv : ∀ {t : Int} {B : List Nat}, t.natAbs = B.prod → ∀ p, p ∈ B → (p : Int) ∣ t := fun e p hp => Int.ofNat_dvd_left.mpr (by rw [e]; exact in_dvd hp)
  refine ⟨⟨by decide, h.p0, dv h.ax, fun p hp => nd_of h.az h.p2 (h.p0 p hp) (h.d02 p hp), fun p hp => nd_of h.ay h.p1 (h.p0 p hp) (h.d01 p hp), h.s0⟩,
    ⟨by decide, h.p1, dv h.ay, fun p hp => nd_of h.ax h.p0 (h.p1 p hp) (fun z => h.d01 p z hp), fun p hp => nd_of h.az h.p2 (h.p1 p hp) (h.d12 p hp), h.s1⟩,
    ⟨by decide, h.p2, dv h.az, fun p hp => nd_of h.ay h.p1 (h.p2 p hp) (fun z => h.d12 p z hp), fun p hp => nd_of h.ax h.p0 (h.p2 p hp) (fun z => h.d02 p z hp), h.s2⟩⟩
theorem At3.od {a : V3} {B : List Nat} {i : Nat} (h : At3 a B i) {p : Nat} (hp : p ∈ B) (h2 : 2 < p) : Od p := Od.of (h.pr p hp) (by omega)
theorem At3.root {a : V3} {B : List Nat} {i : Nat} (h : At3 a B i) {p : Nat} (hp : p ∈ B) (h2 : 2 < p) : sq p (restF a i p) = true := rest_sq (h.od hp h2) (h.u p hp) (h.v p hp) (h.s p hp h2)
theorem At3.rule {a : V3} {B : List Nat} {i : Nat} (h : At3 a B i) {u : V3} (hu : ∀ r, r ∈ oddRi a B i → (r.2 : Int) ∣ val r.1 u) : ∀ p, p ∈ B → 2 < p → (p : Int) ∣ ev3 a u := fun p hp h2 => by
  have hr := hu (apart i (-(sqrtF p (restF a i p))), p) (List.mem_map.mpr ⟨p, List.mem_filter.mpr ⟨hp, decide_eq_true h2⟩, rfl⟩)
  have ho := h.od hp h2
  obtain ⟨e1, _, _⟩ := sqrtF_ok ho (h.root hp h2)
  rw [val_apart _ h.i3] at hr
  rw [ev_at a u i h.i3]
  refine rule_prime (r := sqrtF p (restF a i p)) (h.dv p hp) (rest_rule ho (h.u p hp) e1) ?_
  have : at1 u i - sqrtF p (restF a i p) * at2 u i = at1 u i + -(sqrtF p (restF a i p)) * at2 u i := by grind
  rw [this]; exact hr
theorem odd_prod (B : List Nat) : (B.filter fun p => decide (2 < p)).prod * (if 2 ∈ B then 2 else 1) = B.prod ∨ ¬ (B.Nodup ∧ ∀ p, p ∈ B → Pr p) := by
  by_cases c : B.Nodup ∧ ∀ p, p ∈ B → Pr p
  · left
    induction B with
    | nil => simp
    | cons q B ih =>
      rw [List.nodup_cons] at c
      have ih := ih ⟨c.1.2, fun p hp => c.2 p (by simp [hp])⟩
      have q2 := (c.2 q (by simp)).1
      by_cases e : q = 2
      · subst e
        have n2 : 2 ∉ B := c.1.1
        rw [if_neg n2, Nat.mul_one] at ih
        rw [List.filter_cons, if_neg (by decide), if_pos (by simp), ih, List.prod_cons, Nat.mul_comm]
      · have e2 : decide (2 < q) = true := decide_eq_true (by omega)
        rw [List.filter_cons, if_pos e2, List.prod_cons, List.prod_cons, ← ih]
        have : (2 ∈ q :: B) ↔ 2 ∈ B := by simp [Ne.symm e]
        simp only [this]
        rw [Nat.mul_assoc]
  · right; exact c
theorem map_snd (a : V3) (B : List Nat) (i : Nat) : (oddRi a B i).map (·.2) = B.filter fun p => decide (2 < p) := by
  unfold oddRi
  rw [List.map_map]
  exact List.map_id _
theorem odd_cop {B : List Nat} (hp : ∀ p, p ∈ B → Pr p) : (B.filter fun p => decide (2 < p)).prod % 2 = 1 := by
  induction B with
  | nil => rfl
  | cons q B ih =>
    have ih := ih fun p h => hp p (by simp [h])
    rw [List.filter_cons]
    by_cases c : decide (2 < q) = true
    · rw [if_pos c, List.prod_cons, Nat.mul_mod, ih]
      have c := of_decide_eq_true c
      have := (Od.of (hp q (by simp)) (by omega)).odd
      rw [this]
    · rw [if_neg c]; exact ih
end NT

namespace NT
/-! ### the grid's row comes to nought -/
theorem short_f2 {s f g w : V3} (hs : Pos3 s) (hq : 0 < Qd s f) (hle : Qd s f ≤ Qd s g) (i1 : -(Qd s f) ≤ 2 * dot s f g) (i2 : 2 * dot s f g ≤ Qd s f) :
    0 < Qd s f * Qd s g - dot s f g * dot s f g ∧ 4 * Qd s (short s f g w) * (Qd s f * Qd s g - dot s f g * dot s f g) ≤ 4 * (s.x * s.y * s.z * (det f g w * det f g w)) + (Qd s f * Qd s g - dot s f g * dot s f g) * (Qd s f + Qd s g) := by
  have hsh := (short_ok s f g w).2
  have qw := gram_det s f g
  -- the residues
  have res : ∀ a b : Int, Qd s (less (less w f (iOf s f g w + a)) g (jOf s f g w + b)) * (Qd s f * Qd s g - dot s f g * dot s f g) * (Qd s f * Qd s g - dot s f g * dot s f g) = s.x * s.y * s.z * (det f g w * det f g w) * (Qd s f * Qd s g - dot s f g * dot s f g) +
      ((dot s f w * Qd s g - dot s g w * dot s f g - (iOf s f g w + a) * (Qd s f * Qd s g - dot s f g * dot s f g)) * (dot s f w * Qd s g - dot s g w * dot s f g - (iOf s f g w + a) * (Qd s f * Qd s g - dot s f g * dot s f g)) * Qd s f +
        2 * ((dot s f w * Qd s g - dot s g w * dot s f g - (iOf s f g w + a) * (Qd s f * Qd s g - dot s f g * dot s f g)) * (dot s g w * Qd s f - dot s f w * dot s f g - (jOf s f g w + b) * (Qd s f * Qd s g - dot s f g * dot s f g)) * dot s f g) +
        (dot s g w * Qd s f - dot s f w * dot s f g - (jOf s f g w + b) * (Qd s f * Qd s g - dot s f g * dot s f g)) * (dot s g w * Qd s f - dot s f w * dot s f g - (jOf s f g w + b) * (Qd s f * Qd s g - dot s f g * dot s f g)) * Qd s g) := fun a b => by
    have e0 := qw (less (less w f (iOf s f g w + a)) g (jOf s f g w + b))
    rw [det_less3] at e0
    have e1 : dot s f (less (less w f (iOf s f g w + a)) g (jOf s f g w + b)) = dot s f w - (iOf s f g w + a) * Qd s f - (jOf s f g w + b) * dot s f g := by rw [dot_less', dot_less']
    have e2 : dot s g (less (less w f (iOf s f g w + a)) g (jOf s f g w + b)) = dot s g w - (iOf s f g w + a) * dot s f g - (jOf s f g w + b) * Qd s g := by rw [dot_less', dot_less', dot_symm s g f]
    rw [e1, e2] at e0
    have e3 := gram_id (Qd s f) (Qd s g) (Qd s (less (less w f (iOf s f g w + a)) g (jOf s f g w + b))) (dot s f g) (dot s f w - (iOf s f g w + a) * Qd s f - (jOf s f g w + b) * dot s f g) (dot s g w - (iOf s f g w + a) * dot s f g - (jOf s f g w + b) * Qd s g)
    rw [e0] at e3
    rw [e3]
    generalize Qd s f = Q1
    generalize Qd s g = Q2
    generalize dot s f g = m
    generalize dot s f w = p
    generalize dot s g w = q
    generalize iOf s f g w + a = i
    generalize jOf s f g w + b = j
    generalize s.x * s.y * s.z * (det f g w * det f g w) = D
    grind
  have n1 := fun (h : 0 < dot s f f * dot s g g - dot s f g * dot s f g) => near_spec (o := dot s f w * dot s g g - dot s g w * dot s f g) (u := dot s f f * dot s g g - dot s f g * dot s f g) h
  have n2 := fun (h : 0 < dot s f f * dot s g g - dot s f g * dot s f g) => near_spec (o := dot s g w * dot s f f - dot s f w * dot s f g) (u := dot s f f * dot s g g - dot s f g * dot s f g) h
  change ∀ h : 0 < Qd s f * Qd s g - dot s f g * dot s f g, -(Qd s f * Qd s g - dot s f g * dot s f g) ≤ 2 * (dot s f w * Qd s g - dot s g w * dot s f g - iOf s f g w * (Qd s f * Qd s g - dot s f g * dot s f g)) ∧ 2 * (dot s f w * Qd s g - dot s g w * dot s f g - iOf s f g w * (Qd s f * Qd s g - dot s f g * dot s f g)) ≤ Qd s f * Qd s g - dot s f g * dot s f g at n1
  change ∀ h : 0 < Qd s f * Qd s g - dot s f g * dot s f g, -(Qd s f * Qd s g - dot s f g * dot s f g) ≤ 2 * (dot s g w * Qd s f - dot s f w * dot s f g - jOf s f g w * (Qd s f * Qd s g - dot s f g * dot s f g)) ∧ 2 * (dot s g w * Qd s f - dot s f w * dot s f g - jOf s f g w * (Qd s f * Qd s g - dot s f g * dot s f g)) ≤ Qd s f * Qd s g - dot s f g * dot s f g at n2
  have r0 := res 0 0
  have r1 := res 1 0
  have r2 := res (-1) 0
  have b0 := hsh 0 0 (.inr (.inl rfl)) (.inr (.inl rfl))
  have b1 := hsh 1 0 (.inr (.inr rfl)) (.inr (.inl rfl))
  have b2 := hsh (-1) 0 (.inl rfl) (.inr (.inl rfl))
  clear hsh res qw
  generalize Qd s (less (less w f (iOf s f g w + 0)) g (jOf s f g w + 0)) = q0 at *
  generalize Qd s (less (less w f (iOf s f g w + 1)) g (jOf s f g w + 0)) = q1 at *
  generalize Qd s (less (less w f (iOf s f g w + -1)) g (jOf s f g w + 0)) = q2 at *
  generalize Qd s (short s f g w) = qb at *
  generalize s.x * s.y * s.z * (det f g w * det f g w) = D at *
  generalize Qd s f = Q1 at *
  generalize Qd s g = Q2 at *
  generalize dot s f g = m at *
  generalize iOf s f g w = i at *
  generalize jOf s f g w = j at *
  generalize dot s f w = p at *
  generalize dot s g w = q at *
  rw [Int.add_zero, Int.add_zero] at r0
  rw [Int.add_zero] at r1 r2
  -- 4 d >= 3 Q1 Q2
  have m4 := quarter (d := Q1) (t := m) i1 i2
  have q12 : Q1 * Q1 ≤ Q1 * Q2 := Int.mul_le_mul_of_nonneg_left hle (by omega)
  have q11 : 0 < Q1 * Q1 := Int.mul_pos hq hq
  have d4 : 3 * (Q1 * Q2) ≤ 4 * (Q1 * Q2 - m * m) := by omega
  have dp : 0 < Q1 * Q2 - m * m := by omega
  obtain ⟨u1, u2⟩ := n1 dp
  obtain ⟨v1, v2⟩ := n2 dp
  have e1 : p * Q2 - q * m - (i + 1) * (Q1 * Q2 - m * m) = (p * Q2 - q * m - i * (Q1 * Q2 - m * m)) - (Q1 * Q2 - m * m) := by grind
  have e2 : p * Q2 - q * m - (i + -1) * (Q1 * Q2 - m * m) = (p * Q2 - q * m - i * (Q1 * Q2 - m * m)) + (Q1 * Q2 - m * m) := by grind
  rw [e1] at r1
  rw [e2] at r2
  generalize p * Q2 - q * m - i * (Q1 * Q2 - m * m) = u at *
  generalize q * Q1 - p * m - j * (Q1 * Q2 - m * m) = v at *
  clear n1 n2 e1 e2
  generalize hd : Q1 * Q2 - m * m = d at *
  have dd : 0 < d * d := Int.mul_pos dp dp
  have sc : ∀ {x : Int}, qb ≤ x → qb * d * d ≤ x * d * d := fun h => by
    rw [Int.mul_assoc, Int.mul_assoc]
    exact Int.mul_le_mul_of_nonneg_right h (by omega)
  have c0 := sc b0
  have c1 := sc b1
  have c2 := sc b2
  rw [r0] at c0
  rw [r1] at c1
  rw [r2] at c2
  have v4 := quarter v1 v2
  have Q2p : 0 ≤ Q2 := by omega
  -- the mean of two
  have mean : 4 * (d * (qb * d * d)) ≤ 4 * (d * (D * d)) + d * (d * d * (Q1 + Q2)) := by
    have fin : ∀ {t : Int}, 0 ≤ t → t ≤ d → d * (qb * d * d) ≤ d * (D * d) + d * (t * (d - t) * Q1 + v * v * Q2) → 4 * (d * (qb * d * d)) ≤ 4 * (d * (D * d)) + d * (d * d * (Q1 + Q2)) := fun {t} h0 h1 h => by
      have a1 : 4 * (t * (d - t)) * Q1 ≤ d * d * Q1 := Int.mul_le_mul_of_nonneg_right quarter2 (by omega)
      have a2 : 4 * (v * v) * Q2 ≤ d * d * Q2 := Int.mul_le_mul_of_nonneg_right v4 Q2p
      have a3 : d * (4 * (t * (d - t)) * Q1 + 4 * (v * v) * Q2) ≤ d * (d * d * Q1 + d * d * Q2) := Int.mul_le_mul_of_nonneg_left (by omega) (by omega)
      have a4 : d * (4 * (t * (d - t)) * Q1 + 4 * (v * v) * Q2) = 4 * (d * (t * (d - t) * Q1 + v * v * Q2)) := by grind
      have a5 : d * (d * d * Q1 + d * d * Q2) = d * (d * d * (Q1 + Q2)) := by grind
      omega
    rcases Int.le_total 0 u with hu | hu
    · refine fin hu (by omega) ?_
      have := avg dp hu (show u ≤ d by omega) c0 c1
      have e : (d - u) * (u * u * Q1 + 2 * (u * v * m) + v * v * Q2) + u * ((u - d) * (u - d) * Q1 + 2 * ((u - d) * v * m) + v * v * Q2) = d * (u * (d - u) * Q1 + v * v * Q2) := by grind
      rw [e] at this
      exact this
    · refine fin (t := -u) (by omega) (by omega) ?_
      have := avg dp (show 0 ≤ -u by omega) (show -u ≤ d by omega) c0 c2
      have e : (d - -u) * (u * u * Q1 + 2 * (u * v * m) + v * v * Q2) + -u * ((u + d) * (u + d) * Q1 + 2 * ((u + d) * v * m) + v * v * Q2) = d * (-u * (d - -u) * Q1 + v * v * Q2) := by grind
      rw [e] at this
      exact this
  have f1 : d * d * (4 * qb * d) ≤ d * d * (4 * D + d * (Q1 + Q2)) := by
    have x1 : d * d * (4 * qb * d) = 4 * (d * (qb * d * d)) := by grind
    have x2 : d * d * (4 * D + d * (Q1 + Q2)) = 4 * (d * (D * d)) + d * (d * d * (Q1 + Q2)) := by grind
    omega
  have f2 : 4 * qb * d ≤ 4 * D + d * (Q1 + Q2) := Int.le_of_mul_le_mul_left f1 dd
  exact ⟨dp, f2⟩

structure Sh4 (s : V3) (d2 q0 : Int) (b : B3) : Prop where
  f : Qd s b.1 ≤ q0
  g : Qd s b.2.1 ≤ q0
  l : Qd s b.2.2 ≤ s.x * s.y * s.z * d2 + q0
theorem shBase_bd {s : V3} (hs : Pos3 s) (q0 : Int) : ∀ (n : Nat) (u v w : V3), det u v w ≠ 0 → Qd s u + Qd s v < (n : Int) → Qd s u + Qd s v ≤ q0 → Sh4 s (det u v w * det u v w) q0 (shBase s n u v w)
  | 0, u, v, w, _, hq, _ => by have := Q_nonneg hs u; have := Q_nonneg hs v; omega
  | n + 1, u, v, w, hd, hq, h0 => by
    have hP : Kind3 (fun _ => True) := fun _ _ _ _ _ => trivial
    have t := two_ok (w := w) hs hP hd trivial trivial
    unfold shBase
    generalize (two s u v).1 = f at *
    generalize (two s u v).2 = g at *
    obtain ⟨_, es⟩ := short_p (s := s) hP (f := f) (g := g) (w := w) trivial trivial trivial
    have dsq : det f g w * det f g w = det u v w * det u v w := by
      rcases t.dt with e | e <;> rw [e] <;> grind
    have dne : det f g w ≠ 0 := by rcases t.dt with e | e <;> rw [e] <;> omega
    have qf := Q_nonneg hs f
    have qg := Q_nonneg hs g
    have ts := t.sum
    by_cases c : Qd s (short s f g w) ≥ Qd s g
    · rw [if_pos c]
      obtain ⟨dp, f2⟩ := short_f2 (w := w) hs (Q_pos hs (det_ne dne).1) t.le t.in1 t.in2
      rw [dsq] at f2
      refine ⟨by show Qd s f ≤ q0; omega, by show Qd s g ≤ q0; omega, ?_⟩
      show Qd s (short s f g w) ≤ _
      generalize Qd s (short s f g w) = l at *
      generalize Qd s f * Qd s g - dot s f g * dot s f g = d at *
      have hD : 0 ≤ s.x * s.y * s.z * (det u v w * det u v w) := Int.mul_nonneg (Int.le_of_lt (Int.mul_pos (Int.mul_pos hs.x hs.y) hs.z)) (sqn _)
      generalize s.x * s.y * s.z * (det u v w * det u v w) = D at *
      refine Int.not_lt.mp fun z => ?_
      have a1 : (4 * (D + q0) + 4) * d ≤ 4 * l * d := Int.mul_le_mul_of_nonneg_right (by omega) (by omega)
      have a2 : D * 1 ≤ D * d := Int.mul_le_mul_of_nonneg_left (by omega) hD
      have a3 : d * (Qd s f + Qd s g) ≤ d * (4 * q0) := Int.mul_le_mul_of_nonneg_left (by omega) (by omega)
      have a4 : (4 * (D + q0) + 4) * d = 4 * (D * d) + d * (4 * q0) + 4 * d := by grind
      omega
    · rw [if_neg c]
      have e2 : det f (short s f g w) g = - det f g w := by rw [det_swap2, es]
      have r := shBase_bd hs q0 n f (short s f g w) g (by rw [e2]; omega) (by omega) (by omega)
      have e3 : det f (short s f g w) g * det f (short s f g w) g = det u v w * det u v w := by rw [e2, ← dsq]; grind
      rw [e3] at r
      exact r
def absV (a : V3) : V3 := ⟨a.x.natAbs, a.y.natAbs, a.z.natAbs⟩
def gridB (a : V3) (B0 B1 B2 : List Nat) : B3 := foldR I3 (gridR a B0 B1 B2)
def baseF (a : V3) (B0 B1 B2 : List Nat) : B3 := shBase (absV a) (fuel2 (absV a) (gridB a B0 B1 B2).1 (gridB a B0 B1 B2).2.1) (gridB a B0 B1 B2).1 (gridB a B0 B1 B2).2.1 (gridB a B0 B1 B2).2.2
theorem two_in {t : Int} {B : List Nat} (e : t.natAbs = B.prod) (hp : ∀ p, p ∈ B → Pr p) : 2 ∈ B ↔ t % 2 = 0 := by
  constructor
  · intro h
    have : 2 ∣ t.natAbs := by rw [e]; exact in_dvd h
    omega
  · intro h
    exact pr_in hp pr2 (by rw [← e]; omega)
theorem grid_prod {a : V3} {B0 B1 B2 : List Nat} (h : Fine3 a B0 B1 B2) : ((gridR a B0 B1 B2).map (·.2)).prod = 4 * (B0.prod * B1.prod * B2.prod) := by
  unfold gridR
  rw [List.map_append, List.map_append, List.map_append, List.prod_append, List.prod_append, List.prod_append, map_snd, map_snd, map_snd, two_prod]
  have o0 := (odd_prod B0).resolve_right (fun z => z ⟨h.n0, h.p0⟩)
  have o1 := (odd_prod B1).resolve_right (fun z => z ⟨h.n1, h.p1⟩)
  have o2 := (odd_prod B2).resolve_right (fun z => z ⟨h.n2, h.p2⟩)
  have t0 := two_in h.ax h.p0
  have t1 := two_in h.ay h.p1
  have t2 := two_in h.az h.p2
  have x01 := h.d01 2
  have x02 := h.d02 2
  have x12 := h.d12 2
  generalize (B0.filter fun p => decide (2 < p)).prod = X at *
  generalize (B1.filter fun p => decide (2 < p)).prod = Y at *
  generalize (B2.filter fun p => decide (2 < p)).prod = Z at *
  cases he : evenAt a with
  | none =>
    obtain ⟨e0, e1, e2⟩ := even_no he
    have m0 : 2 ∉ B0 := fun z => by have := t0.mp z; omega
    have m1 : 2 ∉ B1 := fun z => by have := t1.mp z; omega
    have m2 : 2 ∉ B2 := fun z => by have := t2.mp z; omega
    rw [if_neg m0, Nat.mul_one] at o0
    rw [if_neg m1, Nat.mul_one] at o1
    rw [if_neg m2, Nat.mul_one] at o2
    rw [o0, o1, o2, if_pos rfl]
  | some i =>
    obtain ⟨i3, ie⟩ := even_is he
    rw [if_neg (by simp), ← o0, ← o1, ← o2]
    have h3 : i = 0 ∨ i = 1 ∨ i = 2 := by omega
    rcases h3 with rfl | rfl | rfl
    · have m0 : 2 ∈ B0 := t0.mpr ie
      rw [if_pos m0, if_neg (x01 m0), if_neg (x02 m0)]
      grind
    · have m1 : 2 ∈ B1 := t1.mpr ie
      rw [if_neg (fun z => x01 z m1), if_pos m1, if_neg (x12 m1)]
      grind
    · have m2 : 2 ∈ B2 := t2.mpr ie
      rw [if_neg (fun z => x02 z m2), if_neg (fun z => x12 z m2), if_pos m2]
      grind
theorem odd_mem {a : V3} {B : List Nat} {i : Nat} (h : At3 a B i) {r : Rule} (hr : r ∈ oddRi a B i) : r.2 ∈ B ∧ 2 < r.2 ∧ Od r.2 ∧ (r.1.x = 1 ∨ r.1.y = 1 ∨ r.1.z = 1) := by
  obtain ⟨p, hp, rfl⟩ := List.mem_map.mp hr
  obtain ⟨h1, h2⟩ := List.mem_filter.mp hp
  have h2 := of_decide_eq_true h2
  refine ⟨h1, h2, h.od h1 h2, ?_⟩
  have h3 : i = 0 ∨ i = 1 ∨ i = 2 := by have := h.i3; omega
  rcases h3 with rfl | rfl | rfl
  · exact .inr (.inr rfl)
  · exact .inl rfl
  · exact .inr (.inl rfl)
theorem grid_frees {a : V3} {B0 B1 B2 : List Nat} (h : Fine3 a B0 B1 B2) : Frees I3 (gridR a B0 B1 B2) := by
  obtain ⟨a0, a1, a2⟩ := h.at
  have tf := two_frees a
  refine frees_app _ _ _ tf (frees_pr _ _ (fun r hr => ?_) ?_)
  · have k : Od r.2 ∧ (r.1.x = 1 ∨ r.1.y = 1 ∨ r.1.z = 1) := by
      rcases List.mem_append.mp hr with hr | hr
      · rcases List.mem_append.mp hr with hr | hr
        · exact (odd_mem a0 hr).2.2
        · exact (odd_mem a1 hr).2.2
      · exact (odd_mem a2 hr).2.2
    refine ⟨k.1, k.2, fun d => ?_⟩
    have f := (fold_ok _ _ tf).dt
    rw [f, two_prod] at d
    have e1 : detB I3 = 1 := by decide
    rw [e1, Int.mul_one] at d
    have := Int.natCast_dvd_natCast.mp d
    have ho := k.1.odd
    have g3 := k.1.ge
    have : r.2 ∣ 8 := by
      split at this
      · exact Nat.dvd_trans this (by decide)
      · exact this
    have hle := Nat.le_of_dvd (by decide) this
    have : r.2 = 3 ∨ r.2 = 5 ∨ r.2 = 7 := by omega
    rcases this with e | e | e <;> (rw [e] at this; exact absurd this (by decide))
  · rw [List.map_append, List.map_append, map_snd, map_snd, map_snd]
    refine List.nodup_append.mpr ⟨List.nodup_append.mpr ⟨h.n0.filter _, h.n1.filter _, fun x hx y hy e => ?_⟩, h.n2.filter _, fun x hx y hy e => ?_⟩
    · subst e
      exact h.d01 x (List.mem_filter.mp hx).1 (List.mem_filter.mp hy).1
    · subst e
      rcases List.mem_append.mp hx with hx | hx
      · exact h.d02 x (List.mem_filter.mp hx).1 (List.mem_filter.mp hy).1
      · exact h.d12 x (List.mem_filter.mp hx).1 (List.mem_filter.mp hy).1
theorem grid_dvd {a : V3} {B0 B1 B2 : List Nat} (h : Fine3 a B0 B1 B2) {u : V3} (hu : ∀ r, r ∈ gridR a B0 B1 B2 → (r.2 : Int) ∣ val r.1 u) : ((4 * (B0.prod * B1.prod * B2.prod) : Nat) : Int) ∣ ev3 a u := by
  obtain ⟨a0, a1, a2⟩ := h.at
  have ht := two_dvd h (u := u) fun r hr => hu r (List.mem_append_left _ hr)
  have r0 := a0.rule (u := u) fun r hr => hu r (List.mem_append_right _ (List.mem_append_left _ (List.mem_append_left _ hr)))
  have r1 := a1.rule (u := u) fun r hr => hu r (List.mem_append_right _ (List.mem_append_left _ (List.mem_append_right _ hr)))
  have r2 := a2.rule (u := u) fun r hr => hu r (List.mem_append_right _ (List.mem_append_right _ hr))
  by_cases z : ev3 a u = 0
  · rw [z]; exact Int.dvd_zero _
  have pos : 0 < (ev3 a u).natAbs := Int.natAbs_pos.mpr z
  rw [Int.ofNat_dvd_left] at ht ⊢
  rw [← grid_prod h]
  unfold gridR
  rw [List.map_append, List.prod_append, two_prod, List.map_append, List.map_append, map_snd, map_snd, map_snd]
  have nd : ((B0.filter fun p => decide (2 < p)) ++ (B1.filter fun p => decide (2 < p)) ++ (B2.filter fun p => decide (2 < p))).Nodup := by
    refine List.nodup_append.mpr ⟨List.nodup_append.mpr ⟨h.n0.filter _, h.n1.filter _, fun x hx y hy e => ?_⟩, h.n2.filter _, fun x hx y hy e => ?_⟩
    · subst e
      exact h.d01 x (List.mem_filter.mp hx).1 (List.mem_filter.mp hy).1
    · subst e
      rcases List.mem_append.mp hx with hx | hx
      · exact h.d02 x (List.mem_filter.mp hx).1 (List.mem_filter.mp hy).1
      · exact h.d12 x (List.mem_filter.mp hx).1 (List.mem_filter.mp hy).1
  have od := prod_dvd pos _ nd fun p hp => by
    have k : ∀ {B : List Nat}, (∀ p, p ∈ B → Pr p) → (∀ p, p ∈ B → 2 < p → (p : Int) ∣ ev3 a u) → p ∈ (B.filter fun p => decide (2 < p)) → Pr p ∧ p ∣ (ev3 a u).natAbs := fun hB hr hm => by
      obtain ⟨m1, m2⟩ := List.mem_filter.mp hm
      exact ⟨hB p m1, Int.ofNat_dvd_left.mp (hr p m1 (of_decide_eq_true m2))⟩
    rcases List.mem_append.mp hp with hp | hp
    · rcases List.mem_append.mp hp with hp | hp
      · exact k h.p0 r0 hp
      · exact k h.p1 r1 hp
    · exact k h.p2 r2 hp
  have cop : ((B0.filter fun p => decide (2 < p)) ++ (B1.filter fun p => decide (2 < p)) ++ (B2.filter fun p => decide (2 < p))).prod % 2 = 1 := by
    rw [List.prod_append, List.prod_append, Nat.mul_mod, Nat.mul_mod (B0.filter fun p => decide (2 < p)).prod, odd_cop h.p0, odd_cop h.p1, odd_cop h.p2]
  generalize ((B0.filter fun p => decide (2 < p)) ++ (B1.filter fun p => decide (2 < p)) ++ (B2.filter fun p => decide (2 < p))).prod = q at *
  have c2 : Nat.Coprime 2 q := (pr2.cop (by omega))
  have c4 : Nat.Coprime (if evenAt a = none then 4 else 8) q := by
    split
    · exact Nat.Coprime.pow_left 2 c2
    · exact Nat.Coprime.pow_left 3 c2
  exact Nat.Coprime.mul_dvd_of_dvd_of_dvd c4 ht od
structure GridOk (a : V3) (B0 B1 B2 : List Nat) : Prop where
  pos : Pos3 (absV a)
  dt : detB (gridB a B0 B1 B2) = 4 * (B0.prod * B1.prod * B2.prod : Nat)
  bd : All3 (Le3 (4 * (B0.prod * B1.prod * B2.prod))) (gridB a B0 B1 B2)
  ne : ¬ ((baseF a B0 B1 B2).1.x = 0 ∧ (baseF a B0 B1 B2).1.y = 0 ∧ (baseF a B0 B1 B2).1.z = 0)
  zero : ev3 a (baseF a B0 B1 B2).1 = 0
theorem grid_ok {a : V3} {B0 B1 B2 : List Nat} (h : Fine3 a B0 B1 B2) : GridOk a B0 B1 B2 := by
  have f := fold_ok _ _ (grid_frees h)
  have np : ∀ {t : Int} {B : List Nat}, t.natAbs = B.prod → (∀ p, p ∈ B → Pr p) → (0 : Int) < t.natAbs := fun e hp => by
    rw [e]; have := prod_pos _ hp; omega
  have pos : Pos3 (absV a) := ⟨np h.ax h.p0, np h.ay h.p1, np h.az h.p2⟩
  have dt : detB (gridB a B0 B1 B2) = 4 * (B0.prod * B1.prod * B2.prod : Nat) := by
    have := f.dt
    rw [grid_prod h] at this
    have e1 : detB I3 = 1 := by decide
    rw [e1, Int.mul_one] at this
    unfold gridB
    rw [this]; omega
  have N0 : 0 < B0.prod * B1.prod * B2.prod := Nat.mul_pos (Nat.mul_pos (prod_pos _ h.p0) (prod_pos _ h.p1)) (prod_pos _ h.p2)
  have bd : All3 (Le3 (4 * (B0.prod * B1.prod * B2.prod))) (gridB a B0 B1 B2) := by
    have := f.bd 1 ⟨⟨by decide, by decide, by decide⟩, ⟨by decide, by decide, by decide⟩, ⟨by decide, by decide, by decide⟩⟩
    rw [grid_prod h, Nat.mul_one] at this
    exact this
  have hd : det (gridB a B0 B1 B2).1 (gridB a B0 B1 B2).2.1 (gridB a B0 B1 B2).2.2 = 4 * (B0.prod * B1.prod * B2.prod : Nat) := dt
  have hk : Kind3 (fun u => ∀ r, r ∈ gridR a B0 B1 B2 → (r.2 : Int) ∣ val r.1 u) := kind_all fun r => rule_kind r.1 r.2
  have rl : ∀ r, r ∈ gridR a B0 B1 B2 → All3 (fun u => (r.2 : Int) ∣ val r.1 u) (gridB a B0 B1 B2) := f.rule
  have q1 := Q_nonneg pos (gridB a B0 B1 B2).1
  have q2 := Q_nonneg pos (gridB a B0 B1 B2).2.1
  have sh := shBase_ok pos hk (fuel2 (absV a) (gridB a B0 B1 B2).1 (gridB a B0 B1 B2).2.1) _ _ (gridB a B0 B1 B2).2.2 (by rw [hd]; omega) (fun r hr => (rl r hr).1) (fun r hr => (rl r hr).2.1) (fun r hr => (rl r hr).2.2) (by unfold fuel2; omega)
  rw [hd] at sh
  have es : (absV a).x * (absV a).y * (absV a).z = (B0.prod * B1.prod * B2.prod : Nat) := by
    show (a.x.natAbs : Int) * a.y.natAbs * a.z.natAbs = _
    rw [h.ax, h.ay, h.az, Int.natCast_mul, Int.natCast_mul]
  refine ⟨pos, dt, bd, sh.ne, ?_⟩
  have hv := grid_dvd h sh.p
  have sx : ∀ {t : Int}, t ≠ 0 → ∃ e : Int, (e = 1 ∨ e = -1) ∧ e * (t.natAbs : Int) = t := fun {t} ht => by
    rcases Int.lt_or_gt_of_ne ht with h | h
    · exact ⟨-1, .inr rfl, by omega⟩
    · exact ⟨1, .inl rfl, by omega⟩
  have hx := pos.x
  have hy := pos.y
  have hz := pos.z
  obtain ⟨e0, f0, g0⟩ := sx (t := a.x) (by intro z; rw [show (absV a).x = (a.x.natAbs : Int) from rfl, z] at hx; simp at hx)
  obtain ⟨e1, f1, g1⟩ := sx (t := a.y) (by intro z; rw [show (absV a).y = (a.y.natAbs : Int) from rfl, z] at hy; simp at hy)
  obtain ⟨e2, f2, g2⟩ := sx (t := a.z) (by intro z; rw [show (absV a).z = (a.z.natAbs : Int) from rfl, z] at hz; simp at hz)
  have key := short_zero pos (P := fun u => ∀ r, r ∈ gridR a B0 B1 B2 → (r.2 : Int) ∣ val r.1 u) (d := 4 * (B0.prod * B1.prod * B2.prod : Nat)) (by rw [es]; grind) sh (e := ⟨e0, e1, e2⟩) ⟨f0, f1, f2⟩
  have ee : ∀ u : V3, e0 * (absV a).x * u.x * u.x + e1 * (absV a).y * u.y * u.y + e2 * (absV a).z * u.z * u.z = ev3 a u := fun u => by
    show e0 * (a.x.natAbs : Int) * u.x * u.x + e1 * (a.y.natAbs : Int) * u.y * u.y + e2 * (a.z.natAbs : Int) * u.z * u.z = _
    rw [g0, g1, g2]; rfl
  dsimp only at key
  rw [ee, es] at key
  have hv' : 4 * ((B0.prod * B1.prod * B2.prod : Nat) : Int) ∣ ev3 a (shBase (absV a) (fuel2 (absV a) (gridB a B0 B1 B2).1 (gridB a B0 B1 B2).2.1) (gridB a B0 B1 B2).1 (gridB a B0 B1 B2).2.1 (gridB a B0 B1 B2).2.2).1 := by
    have : ((4 * (B0.prod * B1.prod * B2.prod) : Nat) : Int) = 4 * ((B0.prod * B1.prod * B2.prod : Nat) : Int) := by omega
    rw [this] at hv
    exact hv
  exact key hv'
end NT

namespace NT
/-! ### greatest common divisors of rows -/
def gcdL (r : List Int) : Nat := r.foldl (fun g x => Nat.gcd g x.natAbs) 0
def lowL (r : List Int) : List Int := r.map fun x => x / (gcdL r : Int)
theorem gcdL_foldl : ∀ (r : List Int) (g : Nat), (r.foldl (fun g x => Nat.gcd g x.natAbs) g ∣ g ∧ ∀ x, x ∈ r → r.foldl (fun g x => Nat.gcd g x.natAbs) g ∣ x.natAbs) ∧ ∀ d, d ∣ g → (∀ x, x ∈ r → d ∣ x.natAbs) → d ∣ r.foldl (fun g x => Nat.gcd g x.natAbs) g
  | [], g => ⟨⟨Nat.dvd_refl g, fun x hx => by simp at hx⟩, fun d hd _ => hd⟩
  | y :: r, g => by
    obtain ⟨⟨h1, h2⟩, h3⟩ := gcdL_foldl r (Nat.gcd g y.natAbs)
    refine ⟨⟨Nat.dvd_trans h1 (Nat.gcd_dvd_left _ _), fun x hx => ?_⟩, fun d hd hx => h3 d (Nat.dvd_gcd hd (hx y (by simp))) fun x hr => hx x (by simp [hr])⟩
    rcases List.mem_cons.mp hx with rfl | hx
    · exact Nat.dvd_trans h1 (Nat.gcd_dvd_right _ _)
    · exact h2 x hx
theorem gcdL_dvd {r : List Int} {x : Int} (h : x ∈ r) : gcdL r ∣ x.natAbs := (gcdL_foldl r 0).1.2 x h
theorem dvd_gcdL {r : List Int} {d : Nat} (h : ∀ x, x ∈ r → d ∣ x.natAbs) : d ∣ gcdL r := (gcdL_foldl r 0).2 d (Nat.dvd_zero d) h
theorem gcdL_pos {r : List Int} {x : Int} (h : x ∈ r) (hx : x ≠ 0) : 0 < gcdL r := Nat.pos_of_ne_zero fun z => by
  have := gcdL_dvd h
  rw [z] at this
  have := Nat.zero_dvd.mp this
  omega
theorem low_mul {r : List Int} {x : Int} (h : x ∈ r) : (gcdL r : Int) * (x / (gcdL r : Int)) = x := Int.mul_ediv_cancel' (Int.ofNat_dvd_left.mpr (gcdL_dvd h))
theorem low_prim {r : List Int} (hg : 0 < gcdL r) : gcdL (lowL r) = 1 := by
  have h : gcdL r * gcdL (lowL r) ∣ gcdL r := dvd_gcdL fun x hx => by
    have h1 : gcdL (lowL r) ∣ (x / (gcdL r : Int)).natAbs := gcdL_dvd (List.mem_map.mpr ⟨x, hx, rfl⟩)
    have e := low_mul hx
    have : x.natAbs = gcdL r * (x / (gcdL r : Int)).natAbs := by
      conv => lhs; rw [← e]
      rw [Int.natAbs_mul, Int.natAbs_natCast]
    rw [this]
    exact Nat.mul_dvd_mul_left _ h1
  obtain ⟨c, hc⟩ := h
  have : gcdL r * 1 = gcdL r * (gcdL (lowL r) * c) := by rw [← Nat.mul_assoc, ← hc, Nat.mul_one]
  have := Nat.eq_of_mul_eq_mul_left hg this
  exact Nat.eq_one_of_mul_eq_one_right this.symm
/-! ### numbers that come to 1 together -/
def parG : Nat → Int × Int → Int × Int → Int → Int → Int × Int
  | 0, h, _, l, _ => (h.1 * l, h.2 * l)
  | n + 1, h, t, l, r => if r = 0 then (h.1 * l, h.2 * l) else parG n t (h.1 - l / r * t.1, h.2 - l / r * t.2) r (l - l / r * r)
def parF (x y : Int) : Int × Int := parG (y.natAbs + 1) (1, 0) (0, 1) x y
structure Par (x y : Int) (h t : Int × Int) (l r : Int) : Prop where
  l0 : 0 ≤ l
  r0 : 0 ≤ r
  e1 : x * h.1 + y * h.2 = l
  e2 : x * t.1 + y * t.2 = r
  g : Nat.gcd l.natAbs r.natAbs = 1
theorem par_mod {l r : Int} (hr : r ≠ 0) (r0 : 0 ≤ r) : l - l / r * r = l % r := by
  have := Int.emod_add_mul_ediv l r
  have e : l / r * r = r * (l / r) := Int.mul_comm _ _
  omega
theorem Par.step {x y : Int} {h t : Int × Int} {l r : Int} (p : Par x y h t l r) (hr : r ≠ 0) : Par x y t (h.1 - l / r * t.1, h.2 - l / r * t.2) r (l - l / r * r) := by
  have r0 := p.r0
  have l0 := p.l0
  refine ⟨r0, ?_, p.e2, ?_, ?_⟩
  · rw [par_mod hr r0]; exact Int.emod_nonneg _ hr
  · show x * (h.1 - l / r * t.1) + y * (h.2 - l / r * t.2) = _
    have e1 := p.e1
    have e2 := p.e2
    have : x * (h.1 - l / r * t.1) + y * (h.2 - l / r * t.2) = (x * h.1 + y * h.2) - l / r * (x * t.1 + y * t.2) := by grind
    rw [this, e1, e2]
  · rw [par_mod hr r0]
    have : (l % r).natAbs = l.natAbs % r.natAbs := by
      rw [Int.natAbs_emod_of_nonneg l0]
    rw [this, Nat.gcd_comm, ← Nat.gcd_rec, Nat.gcd_comm]
    exact p.g
theorem parG_ok {x y : Int} : ∀ (n : Nat) (h t : Int × Int) (l r : Int), Par x y h t l r → r.natAbs < n → x * (parG n h t l r).1 + y * (parG n h t l r).2 = 1
  | 0, _, _, _, _, _, hn => by omega
  | n + 1, h, t, l, r, p, hn => by
    unfold parG
    by_cases c : r = 0
    · rw [if_pos c]
      have g := p.g
      rw [c] at g
      have l0 := p.l0
      have : l = 1 := by simp at g; omega
      have e1 := p.e1
      subst this
      dsimp only
      rw [Int.mul_one, Int.mul_one]; exact e1
    · rw [if_neg c]
      have r0 := p.r0
      refine parG_ok n _ _ _ _ (p.step c) ?_
      rw [par_mod c r0]
      have := Int.emod_lt_of_pos l (show 0 < r by omega)
      have := Int.emod_nonneg l c
      omega
theorem par_start {x y : Int} (hx : 0 ≤ x) (hy : 0 ≤ y) (g : Nat.gcd x.natAbs y.natAbs = 1) : Par x y (1, 0) (0, 1) x y := ⟨hx, hy, by simp, by simp, g⟩
theorem parF_ok {x y : Int} (hx : 0 ≤ x) (hy : 0 ≤ y) (g : Nat.gcd x.natAbs y.natAbs = 1) : x * (parF x y).1 + y * (parF x y).2 = 1 := parG_ok _ _ _ _ _ (par_start hx hy g) (Nat.lt_succ_self _)
/-! ### the step, as computed -/
def manyC (c : Int) : Int := if c % 2 = 1 then c else c / 2
def wayX (c x y : Int) : Int := -(manyC c) * (parF x y).2
def wayY (c x y : Int) : Int := manyC c * (parF x y).1
def overF (a b c x y : Int) : Int := a * x * wayX c x y + b * y * wayY c x y
def wayZ (a b c x y z : Int) : Int := if c % 2 = 1 then pick2 (overF a b c x y) (c * z) ((a * wayX c x y + b * wayY c x y) % 2) else near (overF a b c x y) (c * z)
def wholeF (a b c x y z : Int) : Int := a * wayX c x y * wayX c x y + b * wayY c x y * wayY c x y - c * wayZ a b c x y z * wayZ a b c x y z
def bothF (a b c x y z : Int) : Int := overF a b c x y - c * z * wayZ a b c x y z
def absI (t : Int) : Int := if t < 0 then -t else t
theorem absI_eq (t : Int) : absI t = (t.natAbs : Int) := by unfold absI; split <;> omega
def rowF (a b c x y z : Int) : List Int := [absI (wholeF a b c x y z * x - 2 * bothF a b c x y z * wayX c x y), absI (wholeF a b c x y z * y - 2 * bothF a b c x y z * wayY c x y), absI (wholeF a b c x y z * z - 2 * bothF a b c x y z * wayZ a b c x y z)]
/-! ### a step -/
def sqf (n : Nat) : Prop := ∀ d : Nat, d * d ∣ n → d = 1
structure Ans3 (a b c x y z : Int) : Prop where
  x0 : 0 ≤ x
  y0 : 0 ≤ y
  z0 : 0 < z
  e : a * (x * x) + b * (y * y) = c * (z * z)
  g : gcdL [x, y, z] = 1
theorem Ans3.co {a b c x y z : Int} (h : Ans3 a b c x y z) (hc : sqf c.natAbs) : Nat.gcd x.natAbs y.natAbs = 1 := by
  apply hc
  have hx : ((Nat.gcd x.natAbs y.natAbs : Nat) : Int) ∣ x := Int.ofNat_dvd_left.mpr (Nat.gcd_dvd_left _ _)
  have hy : ((Nat.gcd x.natAbs y.natAbs : Nat) : Int) ∣ y := Int.ofNat_dvd_left.mpr (Nat.gcd_dvd_right _ _)
  have hg : Nat.gcd (Nat.gcd x.natAbs y.natAbs) z.natAbs = 1 := by
    have := h.g
    unfold gcdL at this
    simpa using this
  generalize Nat.gcd x.natAbs y.natAbs = d at *
  obtain ⟨k, rfl⟩ := hx
  obtain ⟨l, rfl⟩ := hy
  have hz : ((d * d : Nat) : Int) ∣ c * (z * z) := by
    rw [← h.e]
    exact ⟨a * (k * k) + b * (l * l), by push_cast; grind⟩
  have hz : d * d ∣ c.natAbs * (z.natAbs * z.natAbs) := by
    have := Int.ofNat_dvd_left.mp hz
    rwa [Int.natAbs_mul, Int.natAbs_mul] at this
  have co : Nat.Coprime (d * d) (z.natAbs * z.natAbs) := Nat.Coprime.mul_left (Nat.Coprime.mul_right hg hg) (Nat.Coprime.mul_right hg hg)
  exact co.dvd_of_dvd_mul_right hz
def stepF (a b c : Int) (r : Int × Int × Int) : Int × Int × Int := (absI (wholeF a b c r.1 r.2.1 r.2.2 * r.1 - 2 * bothF a b c r.1 r.2.1 r.2.2 * wayX c r.1 r.2.1) / (gcdL (rowF a b c r.1 r.2.1 r.2.2) : Int), absI (wholeF a b c r.1 r.2.1 r.2.2 * r.2.1 - 2 * bothF a b c r.1 r.2.1 r.2.2 * wayY c r.1 r.2.1) / (gcdL (rowF a b c r.1 r.2.1 r.2.2) : Int), absI (wholeF a b c r.1 r.2.1 r.2.2 * r.2.2 - 2 * bothF a b c r.1 r.2.1 r.2.2 * wayZ a b c r.1 r.2.1 r.2.2) / (gcdL (rowF a b c r.1 r.2.1 r.2.2) : Int))
theorem absI_sq (t : Int) : absI t * absI t = t * t := by unfold absI; split <;> grind
theorem absI_nn (t : Int) : 0 ≤ absI t := by unfold absI; split <;> omega
theorem step_ok {a b c x y z : Int} (ap : 0 < a) (bp : 0 < b) (cp : 0 < c) (hc : sqf c.natAbs) (h : Ans3 a b c x y z) (big : a * b < z * z) :
    gcdL (rowF a b c x y z) ≠ 0 ∧ Ans3 a b c (stepF a b c (x, y, z)).1 (stepF a b c (x, y, z)).2.1 (stepF a b c (x, y, z)).2.2 ∧ (stepF a b c (x, y, z)).2.2 < z := by
  have co := h.co hc
  have bz := parF_ok h.x0 h.y0 co
  have w : x * wayY c x y - y * wayX c x y = if c % 2 = 1 then c else c / 2 := by
    have : x * wayY c x y - y * wayX c x y = manyC c * (x * (parF x y).1 + y * (parF x y).2) := by unfold wayX wayY; grind
    rw [this, bz, Int.mul_one]; rfl
  have eW : wholeF a b c x y z = whole a b c (wayX c x y) (wayY c x y) (wayZ a b c x y z) := by unfold wholeF whole; grind
  have eB : bothF a b c x y z = both a b c x y z (wayX c x y) (wayY c x y) (wayZ a b c x y z) := by unfold bothF both overF; grind
  have cz : 0 < c * z := Int.mul_pos cp h.z0
  have hZ : c % 2 = 1 → (wayZ a b c x y z - (a * wayX c x y + b * wayY c x y)) % 2 = 0 := fun c1 => by
    unfold wayZ
    rw [if_pos c1]
    unfold pick2
    omega
  have hb : (c % 2 = 1 → -(c * z) ≤ both a b c x y z (wayX c x y) (wayY c x y) (wayZ a b c x y z) ∧ both a b c x y z (wayX c x y) (wayY c x y) (wayZ a b c x y z) ≤ c * z) ∧ (c % 2 = 0 → -(c * z) ≤ 2 * both a b c x y z (wayX c x y) (wayY c x y) (wayZ a b c x y z) ∧ 2 * both a b c x y z (wayX c x y) (wayY c x y) (wayZ a b c x y z) ≤ c * z) := by
    rw [← eB]
    unfold bothF
    refine ⟨fun c1 => ?_, fun c1 => ?_⟩
    · have : wayZ a b c x y z = pick2 (overF a b c x y) (c * z) ((a * wayX c x y + b * wayY c x y) % 2) := by unfold wayZ; rw [if_pos c1]
      rw [this]
      exact pick2_spec cz
    · have : wayZ a b c x y z = near (overF a b c x y) (c * z) := by unfold wayZ; rw [if_neg (by omega)]
      rw [this]
      have := near_spec (o := overF a b c x y) cz
      rw [Int.mul_comm (c * z)]
      exact this
  have se := step_eq (X := wayX c x y) (Y := wayY c x y) (Z := wayZ a b c x y z) h.e
  have sl := step_less ap bp cp h.z0 h.e w big hb
  have sc := step_cut cp h.e bz w hZ
  rw [← eW, ← eB] at se sl
  have sc : ∀ t T, cut c ∣ stp (wholeF a b c x y z) (bothF a b c x y z) t T := fun t T => by rw [eW, eB]; exact sc t T
  have r1 : rowF a b c x y z = [absI (stp (wholeF a b c x y z) (bothF a b c x y z) x (wayX c x y)), absI (stp (wholeF a b c x y z) (bothF a b c x y z) y (wayY c x y)), absI (stp (wholeF a b c x y z) (bothF a b c x y z) z (wayZ a b c x y z))] := rfl
  have s1 : stepF a b c (x, y, z) = (absI (stp (wholeF a b c x y z) (bothF a b c x y z) x (wayX c x y)) / (gcdL (rowF a b c x y z) : Int), absI (stp (wholeF a b c x y z) (bothF a b c x y z) y (wayY c x y)) / (gcdL (rowF a b c x y z) : Int), absI (stp (wholeF a b c x y z) (bothF a b c x y z) z (wayZ a b c x y z)) / (gcdL (rowF a b c x y z) : Int)) := rfl
  rw [s1]
  dsimp only
  have sx := sc x (wayX c x y)
  have sy := sc y (wayY c x y)
  have sz := sc z (wayZ a b c x y z)
  rw [r1]
  generalize stp (wholeF a b c x y z) (bothF a b c x y z) x (wayX c x y) = p at *
  generalize stp (wholeF a b c x y z) (bothF a b c x y z) y (wayY c x y) = q at *
  generalize stp (wholeF a b c x y z) (bothF a b c x y z) z (wayZ a b c x y z) = r at *
  clear r1 s1 eW eB sc hb hZ w bz
  have cutp : 0 < cut c := by unfold cut; split <;> omega
  have ra : absI r = r := by unfold absI; split <;> omega
  have gp : 0 < gcdL [absI p, absI q, absI r] := gcdL_pos (x := absI r) (by simp) (by omega)
  have dv : (cut c).natAbs ∣ gcdL [absI p, absI q, absI r] := dvd_gcdL fun t ht => by
    have k : ∀ u, cut c ∣ u → (cut c).natAbs ∣ (absI u).natAbs := fun u hu => by
      rw [absI_eq, Int.natAbs_natCast]; exact Int.natAbs_dvd_natAbs.mpr hu
    simp only [List.mem_cons, List.not_mem_nil, or_false] at ht
    rcases ht with rfl | rfl | rfl
    · exact k _ sx
    · exact k _ sy
    · exact k _ sz
  have lp : gcdL (lowL [absI p, absI q, absI r]) = 1 := low_prim gp
  have m1 := low_mul (r := [absI p, absI q, absI r]) (x := absI p) (by simp)
  have m2 := low_mul (r := [absI p, absI q, absI r]) (x := absI q) (by simp)
  have m3 := low_mul (r := [absI p, absI q, absI r]) (x := absI r) (by simp)
  have le : cut c ≤ (gcdL [absI p, absI q, absI r] : Int) := by have := Nat.le_of_dvd gp dv; omega
  unfold lowL at lp
  dsimp only [List.map] at lp
  have n1 := absI_nn p
  have n2 := absI_nn q
  have q1 := absI_sq p
  have q2 := absI_sq q
  have q3 := absI_sq r
  generalize gcdL [absI p, absI q, absI r] = G at *
  have Gp : (0 : Int) < G := by omega
  have d1 : 0 ≤ absI p / (G : Int) := Int.ediv_nonneg n1 (by omega)
  have d2 : 0 ≤ absI q / (G : Int) := Int.ediv_nonneg n2 (by omega)
  generalize absI p / (G : Int) = p' at *
  generalize absI q / (G : Int) = q' at *
  generalize absI r / (G : Int) = r' at *
  refine ⟨by omega, ⟨d1, d2, ?_, ?_, lp⟩, ?_⟩
  · exact Int.pos_of_mul_pos_right (a := (G : Int)) (by omega) Gp
  · rw [← q1, ← q2, ← q3, ← m1, ← m2, ← m3] at se
    have gg : (0 : Int) < (G : Int) * G := Int.mul_pos Gp Gp
    have : (G : Int) * G * (a * (p' * p') + b * (q' * q')) = G * G * (c * (r' * r')) := by grind
    exact Int.eq_of_mul_eq_mul_left (by omega) this
  · have : cut c * z ≤ G * z := Int.mul_le_mul_of_nonneg_right le (by have := h.z0; omega)
    have : (G : Int) * r' < G * z := by omega
    exact Int.lt_of_mul_lt_mul_left this (by omega)
/-! ### down to a small answer -/
def smallG (a b c : Int) : Nat → Int × Int × Int → Int × Int × Int
  | 0, r => r
  | n + 1, r => if r.2.2 * r.2.2 > a * b then smallG a b c n (stepF a b c r) else r
theorem small_ok {a b c : Int} (ap : 0 < a) (bp : 0 < b) (cp : 0 < c) (hc : sqf c.natAbs) : ∀ (n : Nat) (r : Int × Int × Int), Ans3 a b c r.1 r.2.1 r.2.2 → r.2.2 < (n : Int) → Ans3 a b c (smallG a b c n r).1 (smallG a b c n r).2.1 (smallG a b c n r).2.2 ∧ (smallG a b c n r).2.2 * (smallG a b c n r).2.2 ≤ a * b
  | 0, r, h, hn => by have := h.z0; omega
  | n + 1, r, h, hn => by
    unfold smallG
    by_cases big : r.2.2 * r.2.2 > a * b
    · rw [if_pos big]
      obtain ⟨_, h1, h2⟩ := step_ok ap bp cp hc h big
      have h2 : (stepF a b c r).2.2 < r.2.2 := h2
      exact small_ok ap bp cp hc n _ h1 (by omega)
    · rw [if_neg big]
      exact ⟨h, by omega⟩
theorem Ans3.small {a b c x y z : Int} (ap : 0 < a) (bp : 0 < b) (h : Ans3 a b c x y z) (cp : 0 < c) (hz : z * z ≤ a * b) : x * x ≤ b * c ∧ y * y ≤ c * a := by
  have e := h.e
  have xx := sqn x
  have yy := sqn y
  have k : c * (z * z) ≤ c * (a * b) := Int.mul_le_mul_of_nonneg_left hz (by omega)
  have k1 : 0 ≤ b * (y * y) := Int.mul_nonneg (by omega) yy
  have k2 : 0 ≤ a * (x * x) := Int.mul_nonneg (by omega) xx
  constructor
  · have : a * (x * x) ≤ a * (b * c) := by
      have : c * (a * b) = a * (b * c) := by grind
      omega
    exact Int.le_of_mul_le_mul_left this ap
  · have : b * (y * y) ≤ b * (c * a) := by
      have : c * (a * b) = b * (c * a) := by grind
      omega
    exact Int.le_of_mul_le_mul_left this bp
end NT

namespace NT
/-! ### the grid's rules, one by one -/
theorem frees_at : ∀ (rs : List Rule) (b : B3) (i : Nat) (r : Rule), Frees b rs → rs[i]? = some r → Md r.2 ∧ Free (foldR b (rs.take i)) r.1 r.2 ∧ Frees b (rs.take i)
  | [], b, i, r, _, h => by simp at h
  | q :: rs, b, 0, r, ⟨h1, h2, _⟩, h => by
    have e : q = r := by simpa using h
    subst e
    exact ⟨h1, h2, trivial⟩
  | q :: rs, b, i + 1, r, ⟨h1, h2, h3⟩, h => by
    have k := frees_at rs _ i r h3 (by simpa using h)
    exact ⟨k.1, k.2.1, h1, h2, k.2.2⟩
theorem frees_md : ∀ (rs : List Rule) (b : B3), Frees b rs → ∀ r, r ∈ rs → Md r.2
  | [], _, _, r, h => by simp at h
  | q :: rs, b, ⟨h1, _, h3⟩, r, h => by
    rcases List.mem_cons.mp h with rfl | h
    · exact h1
    · exact frees_md rs _ h3 r h
theorem prod_take : ∀ (rs : List Rule) (i : Nat), (∀ r, r ∈ rs → Md r.2) → ((rs.take i).map (·.2)).prod ≤ (rs.map (·.2)).prod ∧ 0 < (rs.map (·.2)).prod
  | [], i, _ => by simp
  | q :: rs, 0, h => by
    have k := (prod_take rs 0 fun r hr => h r (by simp [hr])).2
    have m := (h q (by simp)).two
    have p : 0 < ((q :: rs).map (·.2)).prod := by rw [List.map_cons, List.prod_cons]; exact Nat.mul_pos (by omega) k
    exact ⟨p, p⟩
  | q :: rs, i + 1, h => by
    have k := prod_take rs i fun r hr => h r (by simp [hr])
    have m := (h q (by simp)).two
    rw [List.take_succ_cons, List.map_cons, List.map_cons, List.prod_cons, List.prod_cons]
    exact ⟨Nat.mul_le_mul_left _ k.1, Nat.mul_pos (by omega) k.2⟩
theorem Le3.mono {A B : Nat} {u : V3} (h : Le3 A u) (k : A ≤ B) : Le3 B u := ⟨Nat.le_trans h.1 k, Nat.le_trans h.2.1 k, Nat.le_trans h.2.2 k⟩
theorem fold_take_bd {rs : List Rule} (h : Frees I3 rs) {i : Nat} {r : Rule} (hi : rs[i]? = some r) : All3 (Le3 ((rs.map (·.2)).prod)) (foldR I3 (rs.take i)) := by
  have f := (fold_ok _ _ (frees_at _ _ _ _ h hi).2.2).bd 1 ⟨⟨by decide, by decide, by decide⟩, ⟨by decide, by decide, by decide⟩, ⟨by decide, by decide, by decide⟩⟩
  rw [Nat.mul_one] at f
  have k := (prod_take rs i (frees_md _ _ h)).1
  exact ⟨f.1.mono k, f.2.1.mono k, f.2.2.mono k⟩
theorem rule_bd {a : V3} {B0 B1 B2 : List Nat} (h : Fine3 a B0 B1 B2) (s0 : ∀ p, p ∈ B0 → p ≤ 1000000) (s1 : ∀ p, p ∈ B1 → p ≤ 1000000) (s2 : ∀ p, p ∈ B2 → p ≤ 1000000) : ∀ r, r ∈ gridR a B0 B1 B2 → r.2 ≤ 2000000 ∧ r.1.x.natAbs ≤ 1000000 ∧ r.1.y.natAbs ≤ 1000000 ∧ r.1.z.natAbs ≤ 1000000 := by
  have c0 : (0 : Int).natAbs ≤ 1000000 := by decide
  have c1 : (1 : Int).natAbs ≤ 1000000 := by decide
  have cm : (-1 : Int).natAbs ≤ 1000000 := by decide
  have n2 : 2 ≤ 2000000 := by decide
  have n4 : 4 ≤ 2000000 := by decide
  have ap : ∀ (i : Nat) (t : Int), t.natAbs ≤ 1000000 → (apart i t).x.natAbs ≤ 1000000 ∧ (apart i t).y.natAbs ≤ 1000000 ∧ (apart i t).z.natAbs ≤ 1000000 := fun i t ht => by
    unfold apart
    split
    · exact ⟨c0, ht, c1⟩
    · split
      · exact ⟨c1, c0, ht⟩
      · exact ⟨ht, c1, c0⟩
  have ax : ∀ i : Nat, (axis i).x.natAbs ≤ 1000000 ∧ (axis i).y.natAbs ≤ 1000000 ∧ (axis i).z.natAbs ≤ 1000000 := fun i => by
    unfold axis
    split
    · exact ⟨by decide, by decide, by decide⟩
    · split
      · exact ⟨by decide, by decide, by decide⟩
      · exact ⟨by decide, by decide, by decide⟩
  have wp : ∀ i : Nat, (withp i).x.natAbs ≤ 1000000 ∧ (withp i).y.natAbs ≤ 1000000 ∧ (withp i).z.natAbs ≤ 1000000 := fun i => by
    unfold withp
    split
    · exact ⟨by decide, by decide, by decide⟩
    · split
      · exact ⟨by decide, by decide, by decide⟩
      · exact ⟨by decide, by decide, by decide⟩
  have od : ∀ {B : List Nat} {i : Nat}, At3 a B i → (∀ p, p ∈ B → p ≤ 1000000) → ∀ r, r ∈ oddRi a B i → r.2 ≤ 2000000 ∧ r.1.x.natAbs ≤ 1000000 ∧ r.1.y.natAbs ≤ 1000000 ∧ r.1.z.natAbs ≤ 1000000 := fun {B i} h3 hB r hr => by
    unfold oddRi at hr
    obtain ⟨p, hp, rfl⟩ := List.mem_map.mp hr
    obtain ⟨hp, h2⟩ := List.mem_filter.mp hp
    have h2 : 2 < p := by simpa using h2
    have q := (sqrtF_ok (h3.od hp h2) (h3.root hp h2)).2
    have l := hB p hp
    exact ⟨by show p ≤ _; omega, ap i _ (by omega)⟩
  obtain ⟨a0, a1, a2⟩ := h.at
  intro r hr
  unfold gridR at hr
  rcases List.mem_append.mp hr with hr | hr
  · unfold twoR at hr
    split at hr
    · simp only [List.mem_cons, List.not_mem_nil, or_false] at hr
      rcases hr with rfl | rfl
      · exact ⟨n2, ax _⟩
      · exact ⟨n2, ap _ _ cm⟩
    · split at hr
      · simp only [List.mem_cons, List.not_mem_nil, or_false] at hr
        rcases hr with rfl | rfl
        · exact ⟨n4, ap _ _ cm⟩
        · exact ⟨n2, ax _⟩
      · simp only [List.mem_cons, List.not_mem_nil, or_false] at hr
        rcases hr with rfl | rfl
        · exact ⟨n4, ap _ _ cm⟩
        · exact ⟨n2, wp _⟩
  · rcases List.mem_append.mp hr with hr | hr
    · rcases List.mem_append.mp hr with hr | hr
      · exact od a0 s0 r hr
      · exact od a1 s1 r hr
    · exact od a2 s2 r hr
/-! ### how long the numbers are -/
def Lg (b : Nat) (t : Int) : Prop := t.natAbs < 2 ^ b
def Lg3 (b : Nat) (u : V3) : Prop := Lg b u.x ∧ Lg b u.y ∧ Lg b u.z
theorem Lg.mul {x y : Int} {a b : Nat} (h : Lg a x) (k : Lg b y) : Lg (a + b) (x * y) := by
  show (x * y).natAbs < _
  rw [Int.natAbs_mul, Nat.pow_add]
  exact Nat.mul_lt_mul'' h k
theorem Lg.le {x : Int} {a b : Nat} (h : Lg a x) (k : a ≤ b) : Lg b x := Nat.lt_of_lt_of_le h (Nat.pow_le_pow_right (by decide) k)
theorem Lg.add {x y : Int} {a : Nat} (h : Lg a x) (k : Lg a y) : Lg (a + 1) (x + y) := by
  show (x + y).natAbs < _
  have h : x.natAbs < 2 ^ a := h
  have k : y.natAbs < 2 ^ a := k
  rw [Nat.pow_succ]; omega
theorem half {x Q : Int} {b : Nat} (h : x * x ≤ Q) (hq : Lg (b + b) Q) : Lg b x := by
  refine Classical.byContradiction fun n => ?_
  have n : 2 ^ b ≤ x.natAbs := by
    have : ¬ x.natAbs < 2 ^ b := n
    omega
  have k := Nat.mul_le_mul n n
  rw [← Nat.pow_add, ← Int.natAbs_mul] at k
  have hq : Q.natAbs < 2 ^ (b + b) := hq
  have := sqn x
  omega
theorem Q_sq {s : V3} (h : Pos3 s) (u : V3) : u.x * u.x ≤ Qd s u ∧ u.y * u.y ≤ Qd s u ∧ u.z * u.z ≤ Qd s u := by
  have a1 := w_nonneg (x := u.x) h.x
  have a2 := w_nonneg (x := u.y) h.y
  have a3 := w_nonneg (x := u.z) h.z
  have b1 := w_ge (x := u.x) h.x
  have b2 := w_ge (x := u.y) h.y
  have b3 := w_ge (x := u.z) h.z
  unfold Qd dot
  refine ⟨?_, ?_, ?_⟩ <;> omega
theorem Q_half {s : V3} (h : Pos3 s) {u : V3} {b : Nat} (hq : Lg (b + b) (Qd s u)) : Lg3 b u := by
  obtain ⟨h1, h2, h3⟩ := Q_sq h u
  exact ⟨half h1 hq, half h2 hq, half h3 hq⟩
theorem Q_lg {s u : V3} {a b : Nat} (hs : Lg3 a s) (hu : Lg3 b u) : Lg (a + b + b + 2) (Qd s u) := by
  have k : ∀ {x y : Int}, Lg a x → Lg b y → Lg (a + b + b) (x * y * y) := fun h1 h2 => (h1.mul h2).mul h2
  unfold Qd dot
  exact ((k hs.1 hu.1).add (k hs.2.1 hu.2.1)).add ((k hs.2.2 hu.2.2).le (Nat.le_succ _))
structure BaseBd (a : V3) (B0 B1 B2 : List Nat) : Prop where
  n : 4 * (B0.prod * B1.prod * B2.prod) < 2 ^ 602
  g : All3 (Lg3 602) (gridB a B0 B1 B2)
  q : Lg 1407 (Qd (absV a) (gridB a B0 B1 B2).1 + Qd (absV a) (gridB a B0 B1 B2).2.1)
  b : All3 (Lg3 903) (baseF a B0 B1 B2)
theorem base_bd {a : V3} {B0 B1 B2 : List Nat} (h : Fine3 a B0 B1 B2) (l : Lg3 200 a) : BaseBd a B0 B1 B2 := by
  have o := grid_ok h
  have N : 4 * (B0.prod * B1.prod * B2.prod) < 2 ^ 602 := by
    have m : Lg (200 + 200 + 200) (a.x * a.y * a.z) := (l.1.mul l.2.1).mul l.2.2
    have m : (a.x * a.y * a.z).natAbs < 2 ^ 600 := m
    rw [Int.natAbs_mul, Int.natAbs_mul, h.ax, h.ay, h.az] at m
    omega
  have g : All3 (Lg3 602) (gridB a B0 B1 B2) := by
    have k : ∀ {u : V3}, Le3 (4 * (B0.prod * B1.prod * B2.prod)) u → Lg3 602 u := fun q => ⟨Nat.lt_of_le_of_lt q.1 N, Nat.lt_of_le_of_lt q.2.1 N, Nat.lt_of_le_of_lt q.2.2 N⟩
    exact ⟨k o.bd.1, k o.bd.2.1, k o.bd.2.2⟩
  have ka : ∀ t : Int, Lg 200 t → Lg 200 ((t.natAbs : Nat) : Int) := fun t h => by
    show Int.natAbs _ < _
    rw [Int.natAbs_natCast]; exact h
  have la : Lg3 200 (absV a) := ⟨ka _ l.1, ka _ l.2.1, ka _ l.2.2⟩
  have q : Lg 1407 (Qd (absV a) (gridB a B0 B1 B2).1 + Qd (absV a) (gridB a B0 B1 B2).2.1) := by
    have k1 := Q_lg la g.1
    have k2 := Q_lg la g.2.1
    exact (k1.add k2).le (by omega)
  have hd : det (gridB a B0 B1 B2).1 (gridB a B0 B1 B2).2.1 (gridB a B0 B1 B2).2.2 ≠ 0 := by
    have e : det (gridB a B0 B1 B2).1 (gridB a B0 B1 B2).2.1 (gridB a B0 B1 B2).2.2 = 4 * (B0.prod * B1.prod * B2.prod : Nat) := o.dt
    have N0 : 0 < B0.prod * B1.prod * B2.prod := Nat.mul_pos (Nat.mul_pos (prod_pos _ h.p0) (prod_pos _ h.p1)) (prod_pos _ h.p2)
    omega
  have s := shBase_bd o.pos (Qd (absV a) (gridB a B0 B1 B2).1 + Qd (absV a) (gridB a B0 B1 B2).2.1) (fuel2 (absV a) (gridB a B0 B1 B2).1 (gridB a B0 B1 B2).2.1) _ _ _ hd (by
    have := Q_nonneg o.pos (gridB a B0 B1 B2).1
    have := Q_nonneg o.pos (gridB a B0 B1 B2).2.1
    unfold fuel2; omega) (Int.le_refl _)
  have dl : Lg 602 (det (gridB a B0 B1 B2).1 (gridB a B0 B1 B2).2.1 (gridB a B0 B1 B2).2.2) := by
    have e : det (gridB a B0 B1 B2).1 (gridB a B0 B1 B2).2.1 (gridB a B0 B1 B2).2.2 = 4 * (B0.prod * B1.prod * B2.prod : Nat) := o.dt
    show (Int.natAbs _) < _
    rw [e]
    exact Nat.lt_of_le_of_lt (by omega) N
  have sd : Lg 1804 ((absV a).x * (absV a).y * (absV a).z * (det (gridB a B0 B1 B2).1 (gridB a B0 B1 B2).2.1 (gridB a B0 B1 B2).2.2 * det (gridB a B0 B1 B2).1 (gridB a B0 B1 B2).2.1 (gridB a B0 B1 B2).2.2)) := (((la.1.mul la.2.1).mul la.2.2).mul (dl.mul dl)).le (by decide)
  have tot := sd.add (q.le (show 1407 ≤ 1804 by decide))
  have sqd := sqn (det (gridB a B0 B1 B2).1 (gridB a B0 B1 B2).2.1 (gridB a B0 B1 B2).2.2)
  have xyz : 0 ≤ (absV a).x * (absV a).y * (absV a).z := Int.mul_nonneg (Int.mul_nonneg (Int.le_of_lt o.pos.x) (Int.le_of_lt o.pos.y)) (Int.le_of_lt o.pos.z)
  have sn : 0 ≤ (absV a).x * (absV a).y * (absV a).z * (det (gridB a B0 B1 B2).1 (gridB a B0 B1 B2).2.1 (gridB a B0 B1 B2).2.2 * det (gridB a B0 B1 B2).1 (gridB a B0 B1 B2).2.1 (gridB a B0 B1 B2).2.2) := Int.mul_nonneg xyz sqd
  refine ⟨N, g, q, ?_⟩
  have le : ∀ {u : V3}, Qd (absV a) u ≤ (absV a).x * (absV a).y * (absV a).z * (det (gridB a B0 B1 B2).1 (gridB a B0 B1 B2).2.1 (gridB a B0 B1 B2).2.2 * det (gridB a B0 B1 B2).1 (gridB a B0 B1 B2).2.1 (gridB a B0 B1 B2).2.2) + (Qd (absV a) (gridB a B0 B1 B2).1 + Qd (absV a) (gridB a B0 B1 B2).2.1) → Lg3 903 u := fun {u} hu => by
    refine Q_half o.pos (Lg.le (a := 1805) (b := 903 + 903) ?_ (by decide))
    have := Q_nonneg o.pos u
    exact Nat.lt_of_le_of_lt (by omega) tot
  have q1 := Q_nonneg o.pos (gridB a B0 B1 B2).1
  have q2 := Q_nonneg o.pos (gridB a B0 B1 B2).2.1
  exact ⟨le (by have := s.f; unfold baseF; omega), le (by have := s.g; unfold baseF; omega), le s.l⟩
def rowsF (a : V3) (L : List V3) : List V3 := L.filter fun u => decide (¬ (u.x = 0 ∧ u.y = 0 ∧ u.z = 0) ∧ ev3 a u = 0)
end NT

namespace NT
/-! ### how long a step's numbers are -/
structure PB (b : Nat) (x y : Int) (h t : Int × Int) (l r : Int) : Prop where
  h1 : h.1.natAbs ≤ y.natAbs + 1
  h2 : h.2.natAbs ≤ x.natAbs + 1
  t1 : t.1.natAbs ≤ y.natAbs + 1
  t2 : t.2.natAbs ≤ x.natAbs + 1
  s1 : h.1.natAbs * r.natAbs + t.1.natAbs * l.natAbs ≤ y.natAbs
  s2 : h.2.natAbs * r.natAbs + t.2.natAbs * l.natAbs ≤ x.natAbs
  lb : Lg b l
  rb : Lg b r
theorem pb_start {b : Nat} {x y : Int} (hx : Lg b x) (hy : Lg b y) : PB b x y (1, 0) (0, 1) x y := ⟨by simp, by simp, by simp, by simp, by simp, by simp, hx, hy⟩
theorem PB.step {b : Nat} {x y : Int} {h t : Int × Int} {l r : Int} (p : PB b x y h t l r) (l0 : 0 ≤ l) (r0 : 0 ≤ r) (hr : r ≠ 0) : PB b x y t (h.1 - l / r * t.1, h.2 - l / r * t.2) r (l - l / r * r) := by
  have em := par_mod (l := l) hr r0
  have m0 := Int.emod_nonneg l hr
  have m1 := Int.emod_lt_of_pos l (show 0 < r by omega)
  have q0 : 0 ≤ l / r := Int.ediv_nonneg l0 r0
  have qr : 0 ≤ l / r * r := Int.mul_nonneg q0 r0
  have el : l.natAbs = (l / r).natAbs * r.natAbs + (l - l / r * r).natAbs := by
    rw [← Int.natAbs_mul]; omega
  have key : ∀ {H T Y : Int}, H.natAbs * r.natAbs + T.natAbs * l.natAbs ≤ Y.natAbs → T.natAbs * (l - l / r * r).natAbs + (H - l / r * T).natAbs * r.natAbs ≤ Y.natAbs := fun {H T Y} k => by
    have n := Int.natAbs_sub_le H (l / r * T)
    rw [Int.natAbs_mul] at n
    rw [el] at k
    generalize (l - l / r * r).natAbs = R' at *
    generalize (H - l / r * T).natAbs = N at *
    have m := Nat.mul_le_mul_right r.natAbs n
    have e : (H.natAbs + (l / r).natAbs * T.natAbs) * r.natAbs + T.natAbs * R' = H.natAbs * r.natAbs + T.natAbs * ((l / r).natAbs * r.natAbs + R') := by grind
    omega
  have k1 := key p.s1
  have k2 := key p.s2
  have rp : 1 ≤ r.natAbs := by omega
  have up : ∀ {A N Y : Nat}, A + N * r.natAbs ≤ Y → N ≤ Y + 1 := fun {A N Y} k => by
    have : N * 1 ≤ N * r.natAbs := Nat.mul_le_mul_left _ rp
    omega
  have rb := p.rb
  refine ⟨p.t1, p.t2, up k1, up k2, k1, k2, p.rb, ?_⟩
  show Int.natAbs _ < _
  have rb : r.natAbs < 2 ^ b := rb
  omega
theorem parG_lg {b : Nat} {x y : Int} : ∀ (n : Nat) (h t : Int × Int) (l r : Int), Par x y h t l r → PB b x y h t l r → r.natAbs < n → (parG n h t l r).1.natAbs ≤ y.natAbs + 1 ∧ (parG n h t l r).2.natAbs ≤ x.natAbs + 1
  | 0, _, _, _, _, _, _, hn => by omega
  | n + 1, h, t, l, r, p, q, hn => by
    unfold parG
    by_cases c : r = 0
    · rw [if_pos c]
      have g := p.g
      rw [c] at g
      have l0 := p.l0
      have : l = 1 := by simp at g; omega
      subst this
      dsimp only
      rw [Int.mul_one, Int.mul_one]
      exact ⟨q.h1, q.h2⟩
    · rw [if_neg c]
      have r0 := p.r0
      refine parG_lg n _ _ _ _ (p.step c) (q.step p.l0 r0 c) ?_
      rw [par_mod c r0]
      have := Int.emod_lt_of_pos l (show 0 < r by omega)
      have := Int.emod_nonneg l c
      omega
theorem Lg.sub {x y : Int} {a : Nat} (h : Lg a x) (k : Lg a y) : Lg (a + 1) (x - y) := by
  show (x - y).natAbs < _
  have h : x.natAbs < 2 ^ a := h
  have k : y.natAbs < 2 ^ a := k
  rw [Nat.pow_succ]; omega
theorem Lg.succ {b : Nat} {x y : Int} (h : x.natAbs ≤ y.natAbs + 1) (k : Lg b y) : Lg (b + 1) x := by
  show x.natAbs < _
  have k : y.natAbs < 2 ^ b := k
  rw [Nat.pow_succ]; omega
theorem Lg.neg {a : Nat} {x : Int} (h : Lg a x) : Lg a (-x) := by
  show (-x).natAbs < _
  rw [Int.natAbs_neg]; exact h
theorem pick_lg {o u p : Int} (hu : 0 < u) (h1 : -u ≤ o - u * p) (h2 : o - u * p ≤ u) : p.natAbs ≤ o.natAbs + 1 := by
  refine Classical.byContradiction fun n => ?_
  rcases Int.le_total 0 p with hp | hp
  · have : u * (o.natAbs + 2) ≤ u * p := Int.mul_le_mul_of_nonneg_left (by omega) (by omega)
    have e : u * ((o.natAbs : Int) + 2) = u * o.natAbs + 2 * u := by grind
    have : 1 * (o.natAbs : Int) ≤ u * o.natAbs := Int.mul_le_mul_of_nonneg_right (by omega) (by omega)
    omega
  · have : u * p ≤ u * (-(o.natAbs + 2)) := Int.mul_le_mul_of_nonneg_left (by omega) (by omega)
    have e : u * (-((o.natAbs : Int) + 2)) = -(u * o.natAbs) - 2 * u := by grind
    have : 1 * (o.natAbs : Int) ≤ u * o.natAbs := Int.mul_le_mul_of_nonneg_right (by omega) (by omega)
    omega
theorem Ans3.lg {a b c x y z : Int} (ap : 0 < a) (bp : 0 < b) (cp : 0 < c) (h : Ans3 a b c x y z) (hc : Lg 200 c) (hz : Lg 907 z) : Lg 1107 x ∧ Lg 1107 y := by
  have e := h.e
  have xx := sqn x
  have yy := sqn y
  have zz := sqn z
  have h1 : 1 * (x * x) ≤ a * (x * x) := Int.mul_le_mul_of_nonneg_right (by omega) xx
  have h2 : 1 * (y * y) ≤ b * (y * y) := Int.mul_le_mul_of_nonneg_right (by omega) yy
  have h3 : c * (z * z) ≤ c * (c * (z * z)) := by
    have : 1 * (c * (z * z)) ≤ c * (c * (z * z)) := Int.mul_le_mul_of_nonneg_right (by omega) (Int.mul_nonneg (by omega) zz)
    omega
  have cz := hc.mul hz
  have q : Lg (1107 + 1107) (c * z * (c * z)) := (cz.mul cz).le (by omega)
  have e2 : c * (c * (z * z)) = c * z * (c * z) := by grind
  exact ⟨half (by omega) q, half (by omega) q⟩
structure StepLg (a b c x y z : Int) : Prop where
  m : Lg 200 (manyC c)
  p1 : Lg 1108 (parF x y).1
  p2 : Lg 1108 (parF x y).2
  wx : Lg 1308 (wayX c x y)
  wy : Lg 1308 (wayY c x y)
  ov : Lg 2616 (overF a b c x y)
  un : Lg 1107 (c * z)
  wz : Lg 2617 (wayZ a b c x y z)
  wh : Lg 5440 (wholeF a b c x y z)
  bo : Lg 3730 (bothF a b c x y z)
  row : ∀ t, t ∈ rowF a b c x y z → Lg 6600 t
theorem step_lg {a b c x y z : Int} (ap : 0 < a) (bp : 0 < b) (cp : 0 < c) (hc : sqf c.natAbs) (h : Ans3 a b c x y z) (la : Lg 200 a) (lb : Lg 200 b) (lc : Lg 200 c) (lz : Lg 907 z) : StepLg a b c x y z := by
  obtain ⟨lx, ly⟩ := h.lg ap bp cp lc lz
  have co := h.co hc
  have pl : (parF x y).1.natAbs ≤ y.natAbs + 1 ∧ (parF x y).2.natAbs ≤ x.natAbs + 1 := parG_lg (b := 1107) _ _ _ _ _ (par_start h.x0 h.y0 co) (pb_start lx ly) (Nat.lt_succ_self _)
  have m : Lg 200 (manyC c) := by
    unfold manyC
    split
    · exact lc
    · have lc : c.natAbs < 2 ^ 200 := lc
      show Int.natAbs _ < _
      omega
  have p1 : Lg 1108 (parF x y).1 := Lg.succ pl.1 ly
  have p2 : Lg 1108 (parF x y).2 := Lg.succ pl.2 lx
  have wx : Lg 1308 (wayX c x y) := by
    have k := m.neg.mul p2
    exact k.le (by omega)
  have wy : Lg 1308 (wayY c x y) := by
    have k := m.mul p1
    exact k.le (by omega)
  have ov : Lg 2616 (overF a b c x y) := by
    have k1 := (la.mul lx).mul wx
    have k2 := (lb.mul ly).mul wy
    have k := k1.add k2
    exact k.le (by omega)
  have un : Lg 1107 (c * z) := by
    have k := lc.mul lz
    exact k.le (by omega)
  have cz : 0 < c * z := Int.mul_pos cp h.z0
  have wz : Lg 2617 (wayZ a b c x y z) := by
    refine Lg.succ (y := overF a b c x y) ?_ ov
    unfold wayZ
    split
    · have k := pick2_spec (o := overF a b c x y) (k := (a * wayX c x y + b * wayY c x y) % 2) cz
      exact pick_lg cz k.1 k.2
    · have k := near_spec (o := overF a b c x y) cz
      have e : near (overF a b c x y) (c * z) * (c * z) = c * z * near (overF a b c x y) (c * z) := Int.mul_comm _ _
      exact pick_lg cz (by omega) (by omega)
  have wh : Lg 5440 (wholeF a b c x y z) := by
    have k1 := ((la.mul wx).mul wx).add ((lb.mul wy).mul wy)
    have k2 := (lc.mul wz).mul wz
    have k1 : Lg 5434 (a * wayX c x y * wayX c x y + b * wayY c x y * wayY c x y) := k1.le (by omega)
    have k2 : Lg 5434 (c * wayZ a b c x y z * wayZ a b c x y z) := k2.le (by omega)
    exact (k1.sub k2).le (by omega)
  have bo : Lg 3730 (bothF a b c x y z) := by
    have k1 : Lg 3724 (overF a b c x y) := ov.le (by omega)
    have k2 := un.mul wz
    have k2 : Lg 3724 (c * z * wayZ a b c x y z) := k2.le (by omega)
    exact (k1.sub k2).le (by omega)
  have ro : ∀ {t T : Int}, Lg 1107 t → Lg 2617 T → Lg 6600 (absI (wholeF a b c x y z * t - 2 * bothF a b c x y z * T)) := fun {t T} ht hT => by
    have k1 : Lg 6547 (wholeF a b c x y z * t) := (wh.mul ht).le (by omega)
    have two : Lg 2 (2 : Int) := by show Int.natAbs _ < _; decide
    have k2 : Lg 6547 (2 * bothF a b c x y z * T) := ((two.mul bo).mul hT).le (by omega)
    have k3 : Lg 6600 (wholeF a b c x y z * t - 2 * bothF a b c x y z * T) := (k1.sub k2).le (by omega)
    show Int.natAbs _ < _
    rw [absI_eq, Int.natAbs_natCast]
    exact k3
  refine ⟨m, p1, p2, wx, wy, ov, un, wz, wh, bo, fun t ht => ?_⟩
  unfold rowF at ht
  simp only [List.mem_cons, List.not_mem_nil, or_false] at ht
  rcases ht with rfl | rfl | rfl
  · exact ro lx (wx.le (by omega))
  · exact ro ly (wy.le (by omega))
  · exact ro (lz.le (by omega)) wz
end NT

namespace NT
/-! ### the small row -/
def ord0 (t : Nat) : Nat := if t = 0 then 1 else 0
def ord1 (t : Nat) : Nat := if t = 2 then 1 else 2
def thirdF (a : V3) : Nat := if 0 < a.x then (if 0 < a.y then 2 else if 0 < a.z then 1 else 0) else if 0 < a.y then (if 0 < a.z then 0 else 1) else 2
def smallT (a r : V3) (t : Nat) : Int × Int × Int := smallG (absI (at0 a (ord0 t))) (absI (at0 a (ord1 t))) (absI (at0 a t)) ((at0 r t).natAbs + 1) (absI (at0 r (ord0 t)), absI (at0 r (ord1 t)), absI (at0 r t))
def placed (t : Nat) (h : Int × Int × Int) : V3 := ⟨if t = 0 then h.2.2 else h.1, if t = 0 then h.1 else if t = 1 then h.2.2 else h.2.1, if t = 2 then h.2.2 else h.2.1⟩
def smallR (a r : V3) : V3 := placed (thirdF a) (smallT a r (thirdF a))
structure Mixed (a : V3) : Prop where
  x : a.x ≠ 0
  y : a.y ≠ 0
  z : a.z ≠ 0
  p : ¬ (0 < a.x ∧ 0 < a.y ∧ 0 < a.z)
  n : ¬ (a.x < 0 ∧ a.y < 0 ∧ a.z < 0)
theorem gcd3 (x y z : Int) : gcdL [x, y, z] = Nat.gcd (Nat.gcd x.natAbs y.natAbs) z.natAbs := by
  simp [gcdL]
theorem absI_n (t : Int) : (absI t).natAbs = t.natAbs := by rw [absI_eq, Int.natAbs_natCast]
theorem absI_p {t : Int} (h : t ≠ 0) : 0 < absI t := by unfold absI; split <;> omega
theorem third_lt (a : V3) : thirdF a = 0 ∨ thirdF a = 1 ∨ thirdF a = 2 := by
  unfold thirdF
  split
  · split
    · exact .inr (.inr rfl)
    · split
      · exact .inr (.inl rfl)
      · exact .inl rfl
  · split
    · split
      · exact .inl rfl
      · exact .inr (.inl rfl)
    · exact .inr (.inr rfl)
theorem gcd_perm {x y z x' y' z' : Int} (h : gcdL [x, y, z] = 1) (k : (x' = x ∧ y' = y ∧ z' = z) ∨ (x' = y ∧ y' = z ∧ z' = x) ∨ (x' = x ∧ y' = z ∧ z' = y) ∨ (x' = z ∧ y' = x ∧ z' = y)) : gcdL [absI x', absI y', absI z'] = 1 := by
  rw [gcd3] at h ⊢
  rw [absI_n, absI_n, absI_n]
  have d : ∀ g : Nat, g ∣ x.natAbs → g ∣ y.natAbs → g ∣ z.natAbs → g = 1 := fun g h1 h2 h3 => Nat.dvd_one.mp (by rw [← h]; exact Nat.dvd_gcd (Nat.dvd_gcd h1 h2) h3)
  have k1 := Nat.gcd_dvd_left (Nat.gcd x'.natAbs y'.natAbs) z'.natAbs
  have k2 := Nat.gcd_dvd_right (Nat.gcd x'.natAbs y'.natAbs) z'.natAbs
  have k3 := Nat.dvd_trans k1 (Nat.gcd_dvd_left _ _)
  have k4 := Nat.dvd_trans k1 (Nat.gcd_dvd_right _ _)
  rcases k with ⟨rfl, rfl, rfl⟩ | ⟨rfl, rfl, rfl⟩ | ⟨rfl, rfl, rfl⟩ | ⟨rfl, rfl, rfl⟩
  · exact d _ k3 k4 k2
  · exact d _ k2 k3 k4
  · exact d _ k3 k2 k4
  · exact d _ k4 k2 k3
/-- a row that comes to nought, as an answer -/
theorem ans_of {a b c x y z : Int} (ap : a ≠ 0) (bp : b ≠ 0) (cp : c ≠ 0) (sg : (0 < a ∧ 0 < b ∧ c < 0) ∨ (a < 0 ∧ b < 0 ∧ 0 < c)) (e : a * x * x + b * y * y + c * z * z = 0) (g : gcdL [absI x, absI y, absI z] = 1) : Ans3 (absI a) (absI b) (absI c) (absI x) (absI y) (absI z) := by
  have xx := sqn x
  have yy := sqn y
  have zz := sqn z
  have q1 := absI_sq x
  have q2 := absI_sq y
  have q3 := absI_sq z
  have e' : absI a * (absI x * absI x) + absI b * (absI y * absI y) = absI c * (absI z * absI z) := by
    rw [q1, q2, q3]
    have r : a * (x * x) + b * (y * y) + c * (z * z) = 0 := by rw [← e]; grind
    rcases sg with ⟨h1, h2, h3⟩ | ⟨h1, h2, h3⟩
    · have e1 : absI a = a := by unfold absI; rw [if_neg (by omega)]
      have e2 : absI b = b := by unfold absI; rw [if_neg (by omega)]
      have e3 : absI c = -c := by unfold absI; rw [if_pos h3]
      rw [e1, e2, e3]
      have : -c * (z * z) = -(c * (z * z)) := by grind
      omega
    · have e1 : absI a = -a := by unfold absI; rw [if_pos h1]
      have e2 : absI b = -b := by unfold absI; rw [if_pos h2]
      have e3 : absI c = c := by unfold absI; rw [if_neg (by omega)]
      rw [e1, e2, e3]
      have : -a * (x * x) = -(a * (x * x)) := by grind
      have : -b * (y * y) = -(b * (y * y)) := by grind
      omega
  refine ⟨absI_nn _, absI_nn _, absI_p fun z0 => ?_, e', g⟩
  subst z0
  have az : absI (0 : Int) = 0 := by decide
  rw [az] at e' g
  have w1 : 0 ≤ absI a * (absI x * absI x) := Int.mul_nonneg (absI_nn _) (sqn _)
  have w2 : 0 ≤ absI b * (absI y * absI y) := Int.mul_nonneg (absI_nn _) (sqn _)
  have z1 : absI a * (absI x * absI x) = 0 := by omega
  have z2 : absI b * (absI y * absI y) = 0 := by omega
  have pa := absI_p ap
  have pb := absI_p bp
  have x0 : absI x = 0 := by
    rcases Int.mul_eq_zero.mp z1 with h | h
    · omega
    · rcases Int.mul_eq_zero.mp h with h | h <;> exact h
  have y0 : absI y = 0 := by
    rcases Int.mul_eq_zero.mp z2 with h | h
    · omega
    · rcases Int.mul_eq_zero.mp h with h | h <;> exact h
  rw [x0, y0] at g
  exact absurd g (by decide)
theorem Mixed.third {a : V3} (h : Mixed a) : at0 a (ord0 (thirdF a)) ≠ 0 ∧ at0 a (ord1 (thirdF a)) ≠ 0 ∧ at0 a (thirdF a) ≠ 0 ∧ ((0 < at0 a (ord0 (thirdF a)) ∧ 0 < at0 a (ord1 (thirdF a)) ∧ at0 a (thirdF a) < 0) ∨ (at0 a (ord0 (thirdF a)) < 0 ∧ at0 a (ord1 (thirdF a)) < 0 ∧ 0 < at0 a (thirdF a))) := by
  obtain ⟨x, y, z⟩ := a
  obtain ⟨hx, hy, hz, hp, hn⟩ := h
  dsimp only at hx hy hz hp hn
  unfold thirdF
  dsimp only
  split
  · split
    · exact ⟨hx, hy, hz, .inl ⟨by assumption, by assumption, by show z < 0; omega⟩⟩
    · split
      · exact ⟨hx, hz, hy, .inl ⟨by assumption, by assumption, by show y < 0; omega⟩⟩
      · exact ⟨hy, hz, hx, .inr ⟨by show y < 0; omega, by show z < 0; omega, by assumption⟩⟩
  · split
    · split
      · exact ⟨hy, hz, hx, .inl ⟨by assumption, by assumption, by show x < 0; omega⟩⟩
      · exact ⟨hx, hz, hy, .inr ⟨by show x < 0; omega, by show z < 0; omega, by assumption⟩⟩
    · exact ⟨hx, hy, hz, .inr ⟨by show x < 0; omega, by show y < 0; omega, by show 0 < z; omega⟩⟩
theorem at_ans {a r : V3} (h : Mixed a) (e : ev3 a r = 0) (g : gcdL [r.x, r.y, r.z] = 1) : Ans3 (absI (at0 a (ord0 (thirdF a)))) (absI (at0 a (ord1 (thirdF a)))) (absI (at0 a (thirdF a))) (absI (at0 r (ord0 (thirdF a)))) (absI (at0 r (ord1 (thirdF a)))) (absI (at0 r (thirdF a))) := by
  obtain ⟨h1, h2, h3, sg⟩ := h.third
  have e : a.x * r.x * r.x + a.y * r.y * r.y + a.z * r.z * r.z = 0 := e
  refine ans_of h1 h2 h3 sg ?_ ?_
  · rcases third_lt a with t | t | t
    · rw [t]; show a.y * r.y * r.y + a.z * r.z * r.z + a.x * r.x * r.x = 0; omega
    · rw [t]; show a.x * r.x * r.x + a.z * r.z * r.z + a.y * r.y * r.y = 0; omega
    · rw [t]; exact e
  · rcases third_lt a with t | t | t
    · rw [t]; exact gcd_perm g (.inr (.inl ⟨rfl, rfl, rfl⟩))
    · rw [t]; exact gcd_perm g (.inr (.inr (.inl ⟨rfl, rfl, rfl⟩)))
    · rw [t]; exact gcd_perm g (.inl ⟨rfl, rfl, rfl⟩)
structure SmallOk (a u : V3) : Prop where
  x0 : 0 ≤ u.x
  y0 : 0 ≤ u.y
  z0 : 0 ≤ u.z
  e : ev3 a u = 0
  g : gcdL [u.x, u.y, u.z] = 1
  bx : u.x * u.x ≤ absI (a.y * a.z)
  yb : u.y * u.y ≤ absI (a.z * a.x)
  bz : u.z * u.z ≤ absI (a.x * a.y)
theorem absI_mul (s t : Int) : absI s * absI t = absI (s * t) := by
  rw [absI_eq, absI_eq, absI_eq, Int.natAbs_mul]; push_cast; rfl
/-- what is found is put back -/
theorem small_back {a : V3} (m : Mixed a) {h : Int × Int × Int} (k : Ans3 (absI (at0 a (ord0 (thirdF a)))) (absI (at0 a (ord1 (thirdF a)))) (absI (at0 a (thirdF a))) h.1 h.2.1 h.2.2) (hz : h.2.2 * h.2.2 ≤ absI (at0 a (ord0 (thirdF a))) * absI (at0 a (ord1 (thirdF a)))) : SmallOk a (placed (thirdF a) h) := by
  obtain ⟨h1, h2, h3, sg⟩ := m.third
  have p1 := absI_p h1
  have p2 := absI_p h2
  have p3 := absI_p h3
  obtain ⟨bx, yb⟩ := k.small p1 p2 p3 hz
  have e := k.e
  have e' : at0 a (ord0 (thirdF a)) * (h.1 * h.1) + at0 a (ord1 (thirdF a)) * (h.2.1 * h.2.1) + at0 a (thirdF a) * (h.2.2 * h.2.2) = 0 := by
    rcases sg with ⟨s1, s2, s3⟩ | ⟨s1, s2, s3⟩
    · have e1 : absI (at0 a (ord0 (thirdF a))) = at0 a (ord0 (thirdF a)) := by unfold absI; rw [if_neg (by omega)]
      have e2 : absI (at0 a (ord1 (thirdF a))) = at0 a (ord1 (thirdF a)) := by unfold absI; rw [if_neg (by omega)]
      have e3 : absI (at0 a (thirdF a)) = -at0 a (thirdF a) := by unfold absI; rw [if_pos s3]
      rw [e1, e2, e3] at e
      have : -at0 a (thirdF a) * (h.2.2 * h.2.2) = -(at0 a (thirdF a) * (h.2.2 * h.2.2)) := by grind
      omega
    · have e1 : absI (at0 a (ord0 (thirdF a))) = -at0 a (ord0 (thirdF a)) := by unfold absI; rw [if_pos s1]
      have e2 : absI (at0 a (ord1 (thirdF a))) = -at0 a (ord1 (thirdF a)) := by unfold absI; rw [if_pos s2]
      have e3 : absI (at0 a (thirdF a)) = at0 a (thirdF a) := by unfold absI; rw [if_neg (by omega)]
      rw [e1, e2, e3] at e
      have : -at0 a (ord0 (thirdF a)) * (h.1 * h.1) = -(at0 a (ord0 (thirdF a)) * (h.1 * h.1)) := by grind
      have : -at0 a (ord1 (thirdF a)) * (h.2.1 * h.2.1) = -(at0 a (ord1 (thirdF a)) * (h.2.1 * h.2.1)) := by grind
      omega
  have g := k.g
  have k1 := k.x0
  have k2 := k.y0
  have k3 := k.z0
  rw [absI_mul] at hz bx yb
  have ab : ∀ {t : Int}, 0 ≤ t → absI t = t := fun h => by unfold absI; rw [if_neg (by omega)]
  have asc : ∀ s t : Int, s * t * t = s * (t * t) := fun s t => Int.mul_assoc s t t
  have gp := fun (x y z : Int) q => gcd_perm (x' := x) (y' := y) (z' := z) g q
  rcases third_lt a with t | t | t
  · rw [t] at hz bx yb e' ⊢
    refine ⟨by show 0 ≤ h.2.2; omega, k1, k2, ?_, ?_, hz, ?_, ?_⟩
    · show a.x * h.2.2 * h.2.2 + a.y * h.1 * h.1 + a.z * h.2.1 * h.2.1 = 0
      rw [asc, asc, asc]
      have e' : a.y * (h.1 * h.1) + a.z * (h.2.1 * h.2.1) + a.x * (h.2.2 * h.2.2) = 0 := e'
      omega
    · have := gp h.2.2 h.1 h.2.1 (.inr (.inr (.inr ⟨rfl, rfl, rfl⟩)))
      rw [ab (t := h.2.2) (by omega), ab k1, ab k2] at this
      exact this
    · exact bx
    · exact yb
  · rw [t] at hz bx yb e' ⊢
    refine ⟨k1, by show 0 ≤ h.2.2; omega, k2, ?_, ?_, ?_, ?_, ?_⟩
    · show a.x * h.1 * h.1 + a.y * h.2.2 * h.2.2 + a.z * h.2.1 * h.2.1 = 0
      rw [asc, asc, asc]
      have e' : a.x * (h.1 * h.1) + a.z * (h.2.1 * h.2.1) + a.y * (h.2.2 * h.2.2) = 0 := e'
      omega
    · have := gp h.1 h.2.2 h.2.1 (.inr (.inr (.inl ⟨rfl, rfl, rfl⟩)))
      rw [ab (t := h.2.2) (by omega), ab k1, ab k2] at this
      exact this
    · show h.1 * h.1 ≤ absI (a.y * a.z)
      rw [Int.mul_comm a.y]; exact bx
    · show h.2.2 * h.2.2 ≤ absI (a.z * a.x)
      rw [Int.mul_comm a.z]; exact hz
    · show h.2.1 * h.2.1 ≤ absI (a.x * a.y)
      rw [Int.mul_comm a.x]; exact yb
  · rw [t] at hz bx yb e' ⊢
    refine ⟨k1, k2, by show 0 ≤ h.2.2; omega, ?_, g, bx, yb, hz⟩
    show a.x * h.1 * h.1 + a.y * h.2.1 * h.2.1 + a.z * h.2.2 * h.2.2 = 0
    rw [asc, asc, asc]
    exact e'
theorem small_fin {a r : V3} (m : Mixed a) (s : sqf (at0 a (thirdF a)).natAbs) (e : ev3 a r = 0) (g : gcdL [r.x, r.y, r.z] = 1) : SmallOk a (smallR a r) := by
  have k := at_ans m e g
  obtain ⟨h1, h2, h3, _⟩ := m.third
  have q := small_ok (absI_p h1) (absI_p h2) (absI_p h3) (by rw [absI_n]; exact s) ((at0 r (thirdF a)).natAbs + 1) (absI (at0 r (ord0 (thirdF a))), absI (at0 r (ord1 (thirdF a))), absI (at0 r (thirdF a))) k (by show absI _ < _; rw [absI_eq]; omega)
  exact small_back m q.1 q.2
end NT

namespace NT
/-! ### rows without a common divisor -/
def gcdV (u : V3) : Nat := gcdL [u.x, u.y, u.z]
def lowV (u : V3) : V3 := ⟨u.x / (gcdV u : Int), u.y / (gcdV u : Int), u.z / (gcdV u : Int)⟩
theorem gcdV_ne {u : V3} (h : ¬ (u.x = 0 ∧ u.y = 0 ∧ u.z = 0)) : gcdV u ≠ 0 := fun z => by
  have k : ∀ t, t ∈ [u.x, u.y, u.z] → t = 0 := fun t ht => Classical.byContradiction fun n => by
    have := gcdL_pos ht n
    unfold gcdV at z
    omega
  exact h ⟨k _ (by simp), k _ (by simp), k _ (by simp)⟩
theorem ne_gcdV {u : V3} (h : gcdV u = 1) : ¬ (u.x = 0 ∧ u.y = 0 ∧ u.z = 0) := fun ⟨h1, h2, h3⟩ => by
  unfold gcdV at h
  rw [h1, h2, h3] at h
  exact absurd h (by decide)
theorem lowV_mul (u : V3) : (gcdV u : Int) * (lowV u).x = u.x ∧ (gcdV u : Int) * (lowV u).y = u.y ∧ (gcdV u : Int) * (lowV u).z = u.z :=
  ⟨low_mul (r := [u.x, u.y, u.z]) (by simp), low_mul (r := [u.x, u.y, u.z]) (by simp), low_mul (r := [u.x, u.y, u.z]) (by simp)⟩
theorem lowV_gcd {u : V3} (h : gcdV u ≠ 0) : gcdV (lowV u) = 1 := low_prim (r := [u.x, u.y, u.z]) (Nat.pos_of_ne_zero h)
theorem lowV_zero {a u : V3} (h : gcdV u ≠ 0) (e : ev3 a u = 0) : ev3 a (lowV u) = 0 := by
  obtain ⟨h1, h2, h3⟩ := lowV_mul u
  unfold ev3 at e ⊢
  rw [← h1, ← h2, ← h3] at e
  generalize (lowV u).x = x at *
  generalize (lowV u).y = y at *
  generalize (lowV u).z = z at *
  have g : (gcdV u : Int) ≠ 0 := by omega
  generalize (gcdV u : Int) = G at *
  have k : G * (G * (a.x * x * x + a.y * y * y + a.z * z * z)) = 0 := by rw [← e]; grind
  rcases Int.mul_eq_zero.mp k with h | h
  · exact absurd h g
  · rcases Int.mul_eq_zero.mp h with h | h
    · exact absurd h g
    · exact h
theorem div_le (x : Int) (g : Nat) : (x / (g : Int)).natAbs ≤ x.natAbs := by
  have h := Int.mul_ediv_self_le (x := x) (k := (g : Int))
  rcases Nat.eq_zero_or_pos g with rfl | gp
  · simp
  · have e := Int.emod_add_mul_ediv x (g : Int)
    have m0 := Int.emod_nonneg x (show (g : Int) ≠ 0 by omega)
    have m1 := Int.emod_lt_of_pos x (show (0 : Int) < g by omega)
    rcases Int.le_total 0 (x / (g : Int)) with hq | hq
    · have : 1 * (x / (g : Int)) ≤ (g : Int) * (x / (g : Int)) := Int.mul_le_mul_of_nonneg_right (by omega) hq
      omega
    · have : (g : Int) * (x / (g : Int)) ≤ 1 * (x / (g : Int)) := Int.mul_le_mul_of_nonpos_right (by omega) hq
      rcases Int.lt_or_le (x / (g : Int)) 0 with hl | hl
      · have k : (g : Int) * (x / (g : Int) + 1) ≤ 1 * (x / (g : Int) + 1) := Int.mul_le_mul_of_nonpos_right (by omega) (by omega)
        have k2 : (g : Int) * (x / (g : Int) + 1) = g * (x / (g : Int)) + g := by rw [Int.mul_add, Int.mul_one]
        omega
      · have : x / (g : Int) = 0 := by omega
        rw [this]; simp
theorem lowV_lg {b : Nat} {u : V3} (h : Lg3 b u) : Lg3 b (lowV u) := ⟨Nat.lt_of_le_of_lt (div_le _ _) h.1, Nat.lt_of_le_of_lt (div_le _ _) h.2.1, Nat.lt_of_le_of_lt (div_le _ _) h.2.2⟩
theorem sqf_prod {B : List Nat} (nd : B.Nodup) (hp : ∀ p, p ∈ B → Pr p) : sqf B.prod := fun d hd => by
  have bp := prod_pos _ hp
  have dp : 0 < d := Nat.pos_of_ne_zero fun z => by
    subst z
    have := Nat.zero_dvd.mp (by simpa using hd)
    omega
  refine eq_of_vp _ _ dp (by decide) fun p h => ?_
  rw [vp_one h]
  have k := vp_le h bp hd
  rw [vp_mul h dp dp, vp_prod h B nd hp] at k
  split at k <;> omega
theorem absV_zero {a u : V3} (e : ev3 a u = 0) : ev3 a (absV u) = 0 := by
  have k : ∀ t : Int, ((t.natAbs : Nat) : Int) * ((t.natAbs : Nat) : Int) = t * t := fun t => by
    have := absI_sq t
    rw [absI_eq] at this
    exact this
  have e : a.x * u.x * u.x + a.y * u.y * u.y + a.z * u.z * u.z = 0 := e
  show a.x * ((u.x.natAbs : Nat) : Int) * ((u.x.natAbs : Nat) : Int) + a.y * ((u.y.natAbs : Nat) : Int) * ((u.y.natAbs : Nat) : Int) + a.z * ((u.z.natAbs : Nat) : Int) * ((u.z.natAbs : Nat) : Int) = 0
  rw [Int.mul_assoc, Int.mul_assoc a.y, Int.mul_assoc a.z, k, k, k, ← Int.mul_assoc, ← Int.mul_assoc, ← Int.mul_assoc]
  exact e
theorem absV_gcd (u : V3) : gcdV (absV u) = gcdV u := by
  unfold gcdV
  rw [gcd3, gcd3]
  unfold absV
  simp
structure AnsV (a u : V3) : Prop where
  x0 : 0 ≤ u.x
  y0 : 0 ≤ u.y
  z0 : 0 ≤ u.z
  e : ev3 a u = 0
  g : gcdV u = 1
theorem ansV_of {a u : V3} (h : gcdV u ≠ 0) (e : ev3 a u = 0) : AnsV a (absV (lowV u)) := ⟨Int.natCast_nonneg _, Int.natCast_nonneg _, Int.natCast_nonneg _, absV_zero (lowV_zero h e), by rw [absV_gcd, lowV_gcd h]⟩
theorem small_lg {a u : V3} (h : SmallOk a u) (l : Lg3 200 a) : Lg3 200 u := by
  have k : ∀ {s t : Int}, Lg 200 s → Lg 200 t → Lg (200 + 200) (absI (s * t)) := fun h1 h2 => by
    show Int.natAbs _ < _
    rw [absI_n]
    exact h1.mul h2
  exact ⟨half h.bx (k l.2.1 l.2.2), half h.yb (k l.2.2 l.1), half h.bz (k l.1 l.2.1)⟩
end NT

namespace T
open PySem L2 DL
def top (i : Nat) : Stmt := PySem.Challenge.pw_squareweights_k04_whole_answers.main.body.getD i (.Pass ⟨0, 0, 0, 0⟩)
abbrev s_is_integer : Stmt := top 8
abbrev n_is_integer : List Str := ["thing", "low", "high"]
theorem sc_is_integer : FnScope n_is_integer ["thing", "low", "high"] (defScope s_is_integer) := ⟨rfl, rfl, rfl, by decide +kernel, rfl, by decide +kernel, by decide +kernel⟩
abbrev s_is_weight : Stmt := top 9
abbrev n_is_weight : List Str := ["thing", "part"]
theorem sc_is_weight : FnScope n_is_weight ["thing"] (defScope s_is_weight) := ⟨rfl, rfl, rfl, by decide +kernel, rfl, by decide +kernel, by decide +kernel⟩
abbrev s_product : Stmt := top 10
abbrev n_product : List Str := ["numbers", "found", "one"]
theorem sc_product : FnScope n_product ["numbers"] (defScope s_product) := ⟨rfl, rfl, rfl, by decide +kernel, rfl, by decide +kernel, by decide +kernel⟩
abbrev s_Form___init__ : Stmt := inClass (top 11) 0
abbrev n_Form___init__ : List Str := ["self", "weights", "index", "weight"]
theorem sc_Form___init__ : FnScope n_Form___init__ ["self", "weights"] (defScope s_Form___init__) := ⟨rfl, rfl, rfl, by decide +kernel, rfl, by decide +kernel, by decide +kernel⟩
abbrev s_Form_weights : Stmt := inClass (top 11) 1
abbrev n_Form_weights : List Str := ["self"]
theorem sc_Form_weights : FnScope n_Form_weights ["self"] (defScope s_Form_weights) := ⟨rfl, rfl, rfl, by decide +kernel, rfl, by decide +kernel, by decide +kernel⟩
abbrev s_Form_numbers : Stmt := inClass (top 11) 2
abbrev n_Form_numbers : List Str := ["self"]
theorem sc_Form_numbers : FnScope n_Form_numbers ["self"] (defScope s_Form_numbers) := ⟨rfl, rfl, rfl, by decide +kernel, rfl, by decide +kernel, by decide +kernel⟩
abbrev s_Form___len__ : Stmt := inClass (top 11) 3
abbrev n_Form___len__ : List Str := ["self"]
theorem sc_Form___len__ : FnScope n_Form___len__ ["self"] (defScope s_Form___len__) := ⟨rfl, rfl, rfl, by decide +kernel, rfl, by decide +kernel, by decide +kernel⟩
abbrev s_Form___eq__ : Stmt := inClass (top 11) 4
abbrev n_Form___eq__ : List Str := ["self", "other"]
theorem sc_Form___eq__ : FnScope n_Form___eq__ ["self", "other"] (defScope s_Form___eq__) := ⟨rfl, rfl, rfl, by decide +kernel, rfl, by decide +kernel, by decide +kernel⟩
abbrev s_check_three : Stmt := top 12
abbrev n_check_three : List Str := ["form"]
theorem sc_check_three : FnScope n_check_three ["form"] (defScope s_check_three) := ⟨rfl, rfl, rfl, by decide +kernel, rfl, by decide +kernel, by decide +kernel⟩
abbrev s_divisor : Stmt := top 13
abbrev n_divisor : List Str := ["one", "two"]
theorem sc_divisor : FnScope n_divisor ["one", "two"] (defScope s_divisor) := ⟨rfl, rfl, rfl, by decide +kernel, rfl, by decide +kernel, by decide +kernel⟩
abbrev s_lowest : Stmt := top 14
abbrev n_lowest : List Str := ["row", "common", "one"]
theorem sc_lowest : FnScope n_lowest ["row"] (defScope s_lowest) := ⟨rfl, rfl, rfl, by decide +kernel, rfl, by decide +kernel, by decide +kernel⟩
abbrev s_come_to : Stmt := top 15
abbrev n_come_to : List Str := ["numbers", "row", "number", "one"]
theorem sc_come_to : FnScope n_come_to ["numbers", "row"] (defScope s_come_to) := ⟨rfl, rfl, rfl, by decide +kernel, rfl, by decide +kernel, by decide +kernel⟩
abbrev s_primes_of : Stmt := top 16
abbrev n_primes_of : List Str := ["weight", "found", "part", "left", "prime"]
theorem sc_primes_of : FnScope n_primes_of ["weight"] (defScope s_primes_of) := ⟨rfl, rfl, rfl, by decide +kernel, rfl, by decide +kernel, by decide +kernel⟩
abbrev s_sign_of : Stmt := top 17
abbrev n_sign_of : List Str := ["weight"]
theorem sc_sign_of : FnScope n_sign_of ["weight"] (defScope s_sign_of) := ⟨rfl, rfl, rfl, by decide +kernel, rfl, by decide +kernel, by decide +kernel⟩
abbrev s_powered : Stmt := top 19
abbrev n_powered : List Str := ["number", "times", "many", "found", "left", "here"]
theorem sc_powered : FnScope n_powered ["number", "times", "many"] (defScope s_powered) := ⟨rfl, rfl, rfl, by decide +kernel, rfl, by decide +kernel, by decide +kernel⟩
abbrev s_turned : Stmt := top 20
abbrev n_turned : List Str := ["number", "prime"]
theorem sc_turned : FnScope n_turned ["number", "prime"] (defScope s_turned) := ⟨rfl, rfl, rfl, by decide +kernel, rfl, by decide +kernel, by decide +kernel⟩
abbrev s_odd_one : Stmt := top 21
abbrev n_odd_one : List Str := ["prime", "found"]
theorem sc_odd_one : FnScope n_odd_one ["prime"] (defScope s_odd_one) := ⟨rfl, rfl, rfl, by decide +kernel, rfl, by decide +kernel, by decide +kernel⟩
abbrev s_square_root : Stmt := top 22
abbrev n_square_root : List Str := ["number", "prime", "power", "found", "rest", "part", "many", "step", "again", "times", "here"]
theorem sc_square_root : FnScope n_square_root ["number", "prime"] (defScope s_square_root) := ⟨rfl, rfl, rfl, by decide +kernel, rfl, by decide +kernel, by decide +kernel⟩
abbrev s_narrowed : Stmt := top 24
abbrev n_narrowed : List Str := ["base", "form", "many", "values", "at", "times", "found", "place", "row", "more", "one", "two"]
theorem sc_narrowed : FnScope n_narrowed ["base", "form", "many"] (defScope s_narrowed) := ⟨rfl, rfl, rfl, by decide +kernel, rfl, by decide +kernel, by decide +kernel⟩
abbrev s_is_free : Stmt := top 25
abbrev n_is_free : List Str := ["value", "many"]
theorem sc_is_free : FnScope n_is_free ["value", "many"] (defScope s_is_free) := ⟨rfl, rfl, rfl, by decide +kernel, rfl, by decide +kernel, by decide +kernel⟩
abbrev s_dot : Stmt := top 26
abbrev n_dot : List Str := ["sizes", "one", "other", "size", "first", "second"]
theorem sc_dot : FnScope n_dot ["sizes", "one", "other"] (defScope s_dot) := ⟨rfl, rfl, rfl, by decide +kernel, rfl, by decide +kernel, by decide +kernel⟩
abbrev s_nearest : Stmt := top 27
abbrev n_nearest : List Str := ["over", "under"]
theorem sc_nearest : FnScope n_nearest ["over", "under"] (defScope s_nearest) := ⟨rfl, rfl, rfl, by decide +kernel, rfl, by decide +kernel, by decide +kernel⟩
abbrev s_less : Stmt := top 28
abbrev n_less : List Str := ["row", "other", "times", "one", "two"]
theorem sc_less : FnScope n_less ["row", "other", "times"] (defScope s_less) := ⟨rfl, rfl, rfl, by decide +kernel, rfl, by decide +kernel, by decide +kernel⟩
abbrev s_by_two : Stmt := top 29
abbrev n_by_two : List Str := ["sizes", "one", "other", "times"]
theorem sc_by_two : FnScope n_by_two ["sizes", "one", "other"] (defScope s_by_two) := ⟨rfl, rfl, rfl, by decide +kernel, rfl, by decide +kernel, by decide +kernel⟩
abbrev s_shortened : Stmt := top 30
abbrev n_shortened : List Str := ["sizes", "first", "second", "third", "under", "best", "more", "one", "two", "both", "here", "there", "mine", "yours", "again", "row", "size"]
theorem sc_shortened : FnScope n_shortened ["sizes", "first", "second", "third"] (defScope s_shortened) := ⟨rfl, rfl, rfl, by decide +kernel, rfl, by decide +kernel, by decide +kernel⟩
abbrev s_short_base : Stmt := top 31
abbrev n_short_base : List Str := ["sizes", "base", "first", "second", "third", "later"]
theorem sc_short_base : FnScope n_short_base ["sizes", "base"] (defScope s_short_base) := ⟨rfl, rfl, rfl, by decide +kernel, rfl, by decide +kernel, by decide +kernel⟩
abbrev s_near_rows : Stmt := top 32
abbrev n_near_rows : List Str := ["base", "found", "one", "two", "three", "row", "here", "there", "last"]
theorem sc_near_rows : FnScope n_near_rows ["base"] (defScope s_near_rows) := ⟨rfl, rfl, rfl, by decide +kernel, rfl, by decide +kernel, by decide +kernel⟩
abbrev s_odd_primes_of : Stmt := top 34
abbrev n_odd_primes_of : List Str := ["weight", "known", "prime"]
theorem sc_odd_primes_of : FnScope n_odd_primes_of ["weight"] (defScope s_odd_primes_of) := ⟨rfl, rfl, rfl, by decide +kernel, rfl, by decide +kernel, by decide +kernel⟩
abbrev s_root_of : Stmt := top 35
abbrev n_root_of : List Str := ["weight", "known", "found", "prime", "again"]
theorem sc_root_of : FnScope n_root_of ["weight"] (defScope s_root_of) := ⟨rfl, rfl, rfl, by decide +kernel, rfl, by decide +kernel, by decide +kernel⟩
abbrev s_Normal___init__ : Stmt := inClass (top 36) 0
abbrev n_Normal___init__ : List Str := ["self", "rows", "sets", "prime", "has", "weight", "at", "other"]
theorem sc_Normal___init__ : FnScope n_Normal___init__ ["self", "rows"] (defScope s_Normal___init__) := ⟨rfl, rfl, rfl, by decide +kernel, rfl, by decide +kernel, by decide +kernel⟩
abbrev s_Normal_all_weights : Stmt := inClass (top 36) 1
abbrev n_Normal_all_weights : List Str := ["self", "sign", "primes"]
theorem sc_Normal_all_weights : FnScope n_Normal_all_weights ["self"] (defScope s_Normal_all_weights) := ⟨rfl, rfl, rfl, by decide +kernel, rfl, by decide +kernel, by decide +kernel⟩
abbrev s_Normal_back : Stmt := inClass (top 36) 2
abbrev n_Normal_back : List Str := ["self", "row", "whole", "one", "up", "down"]
theorem sc_Normal_back : FnScope n_Normal_back ["self", "row"] (defScope s_Normal_back) := ⟨rfl, rfl, rfl, by decide +kernel, rfl, by decide +kernel, by decide +kernel⟩
abbrev s_is_square : Stmt := top 37
abbrev n_is_square : List Str := ["number", "prime"]
theorem sc_is_square : FnScope n_is_square ["number", "prime"] (defScope s_is_square) := ⟨rfl, rfl, rfl, by decide +kernel, rfl, by decide +kernel, by decide +kernel⟩
abbrev s_two_bars : Stmt := top 38
abbrev n_two_bars : List Str := ["numbers", "even", "odd", "one", "at"]
theorem sc_two_bars : FnScope n_two_bars ["numbers"] (defScope s_two_bars) := ⟨rfl, rfl, rfl, by decide +kernel, rfl, by decide +kernel, by decide +kernel⟩
abbrev s_bars_of : Stmt := top 39
abbrev n_bars_of : List Str := ["shape", "numbers", "found", "at", "rest", "prime"]
theorem sc_bars_of : FnScope n_bars_of ["shape"] (defScope s_bars_of) := ⟨rfl, rfl, rfl, by decide +kernel, rfl, by decide +kernel, by decide +kernel⟩
abbrev s_ends_of : Stmt := top 40
abbrev n_ends_of : List Str := ["weight", "prime", "number", "many"]
theorem sc_ends_of : FnScope n_ends_of ["weight", "prime"] (defScope s_ends_of) := ⟨rfl, rfl, rfl, by decide +kernel, rfl, by decide +kernel, by decide +kernel⟩
abbrev s_symbol : Stmt := top 41
abbrev n_symbol : List Str := ["one", "other", "prime", "found", "many", "left", "more", "right"]
theorem sc_symbol : FnScope n_symbol ["one", "other", "prime"] (defScope s_symbol) := ⟨rfl, rfl, rfl, by decide +kernel, rfl, by decide +kernel, by decide +kernel⟩
abbrev s_is_local_square : Stmt := top 42
abbrev n_is_local_square : List Str := ["weight", "prime", "many", "left"]
theorem sc_is_local_square : FnScope n_is_local_square ["weight", "prime"] (defScope s_is_local_square) := ⟨rfl, rfl, rfl, by decide +kernel, rfl, by decide +kernel, by decide +kernel⟩
abbrev s_four_bar : Stmt := top 43
abbrev n_four_bar : List Str := ["rows", "prime", "whole", "found", "at", "one", "other"]
theorem sc_four_bar : FnScope n_four_bar ["rows", "prime"] (defScope s_four_bar) := ⟨rfl, rfl, rfl, by decide +kernel, rfl, by decide +kernel, by decide +kernel⟩
abbrev s_four_bars : Stmt := top 44
abbrev n_four_bars : List Str := ["rows", "known", "weight", "found", "prime"]
theorem sc_four_bars : FnScope n_four_bars ["rows"] (defScope s_four_bars) := ⟨rfl, rfl, rfl, by decide +kernel, rfl, by decide +kernel, by decide +kernel⟩
abbrev s_bad_places : Stmt := top 45
abbrev n_bad_places : List Str := ["form"]
theorem sc_bad_places : FnScope n_bad_places ["form"] (defScope s_bad_places) := ⟨rfl, rfl, rfl, by decide +kernel, rfl, by decide +kernel, by decide +kernel⟩
abbrev s_two_rules : Stmt := top 47
abbrev n_two_rules : List Str := ["numbers", "even", "at", "apart", "place"]
theorem sc_two_rules : FnScope n_two_rules ["numbers"] (defScope s_two_rules) := ⟨rfl, rfl, rfl, by decide +kernel, rfl, by decide +kernel, by decide +kernel⟩
abbrev s_unit : Stmt := top 48
abbrev n_unit : List Str := ["at", "other", "factor", "found"]
theorem sc_unit : FnScope n_unit ["at", "other", "factor"] (defScope s_unit) := ⟨rfl, rfl, rfl, by decide +kernel, rfl, by decide +kernel, by decide +kernel⟩
abbrev s_odd_rules : Stmt := top 49
abbrev n_odd_rules : List Str := ["shape", "at", "numbers", "found", "prime", "rest"]
theorem sc_odd_rules : FnScope n_odd_rules ["shape"] (defScope s_odd_rules) := ⟨rfl, rfl, rfl, by decide +kernel, rfl, by decide +kernel, by decide +kernel⟩
abbrev s_grid_row : Stmt := top 50
abbrev n_grid_row : List Str := ["shape", "numbers", "base", "rows", "factors", "many", "row", "one"]
theorem sc_grid_row : FnScope n_grid_row ["shape"] (defScope s_grid_row) := ⟨rfl, rfl, rfl, by decide +kernel, rfl, by decide +kernel, by decide +kernel⟩
abbrev s_parted : Stmt := top 51
abbrev n_parted : List Str := ["one", "other", "here", "there", "left", "right", "times"]
theorem sc_parted : FnScope n_parted ["one", "other"] (defScope s_parted) := ⟨rfl, rfl, rfl, by decide +kernel, rfl, by decide +kernel, by decide +kernel⟩
abbrev s_step_down : Stmt := top 52
abbrev n_step_down : List Str := ["numbers", "row", "many", "way", "whole", "both", "first", "second", "third", "one", "two", "last", "more", "less", "there", "here", "over", "under", "odd", "at", "mine", "yours"]
theorem sc_step_down : FnScope n_step_down ["numbers", "row"] (defScope s_step_down) := ⟨rfl, rfl, rfl, by decide +kernel, rfl, by decide +kernel, by decide +kernel⟩
abbrev s_small_row : Stmt := top 53
abbrev n_small_row : List Str := ["numbers", "row", "plus", "third", "order", "sizes", "here", "found", "at", "one"]
theorem sc_small_row : FnScope n_small_row ["numbers", "row"] (defScope s_small_row) := ⟨rfl, rfl, rfl, by decide +kernel, rfl, by decide +kernel, by decide +kernel⟩
abbrev s_answer_of : Stmt := top 54
abbrev n_answer_of : List Str := ["rows", "shape", "row", "one"]
theorem sc_answer_of : FnScope n_answer_of ["rows"] (defScope s_answer_of) := ⟨rfl, rfl, rfl, by decide +kernel, rfl, by decide +kernel, by decide +kernel⟩
abbrev s_answer : Stmt := top 55
abbrev n_answer : List Str := ["form"]
theorem sc_answer : FnScope n_answer ["form"] (defScope s_answer) := ⟨rfl, rfl, rfl, by decide +kernel, rfl, by decide +kernel, by decide +kernel⟩
abbrev s__law_mix : Stmt := top 57
abbrev n__law_mix : List Str := ["_law_script", "_law_seed", "_law_state", "_law_cell"]
theorem sc__law_mix : FnScope n__law_mix ["_law_script", "_law_seed"] (defScope s__law_mix) := ⟨rfl, rfl, rfl, by decide +kernel, rfl, by decide +kernel, by decide +kernel⟩
abbrev s__law_next : Stmt := top 58
abbrev n__law_next : List Str := ["_law_h", "_law_cap", "_law_cell"]
theorem sc__law_next : FnScope n__law_next ["_law_h", "_law_cap"] (defScope s__law_next) := ⟨rfl, rfl, rfl, by decide +kernel, rfl, by decide +kernel, by decide +kernel⟩
abbrev s__law_pick : Stmt := top 59
abbrev n__law_pick : List Str := ["_law_h", "_law_things"]
theorem sc__law_pick : FnScope n__law_pick ["_law_h", "_law_things"] (defScope s__law_pick) := ⟨rfl, rfl, rfl, by decide +kernel, rfl, by decide +kernel, by decide +kernel⟩
abbrev s__law_weight : Stmt := top 60
abbrev n__law_weight : List Str := ["_law_h", "_law_k", "_law_parts", "_law_cap"]
theorem sc__law_weight : FnScope n__law_weight ["_law_h"] (defScope s__law_weight) := ⟨rfl, rfl, rfl, by decide +kernel, rfl, by decide +kernel, by decide +kernel⟩
abbrev s__law_product : Stmt := top 61
abbrev n__law_product : List Str := ["_law_numbers", "_law_found", "_law_one"]
theorem sc__law_product : FnScope n__law_product ["_law_numbers"] (defScope s__law_product) := ⟨rfl, rfl, rfl, by decide +kernel, rfl, by decide +kernel, by decide +kernel⟩
abbrev s__law_come : Stmt := top 62
abbrev n__law_come : List Str := ["_law_numbers", "_law_row", "_law_at"]
theorem sc__law_come : FnScope n__law_come ["_law_numbers", "_law_row"] (defScope s__law_come) := ⟨rfl, rfl, rfl, by decide +kernel, rfl, by decide +kernel, by decide +kernel⟩
abbrev s__law_gcd : Stmt := top 63
abbrev n__law_gcd : List Str := ["_law_numbers", "_law_found", "_law_one", "_law_left"]
theorem sc__law_gcd : FnScope n__law_gcd ["_law_numbers"] (defScope s__law_gcd) := ⟨rfl, rfl, rfl, by decide +kernel, rfl, by decide +kernel, by decide +kernel⟩
abbrev s__law_is_answer : Stmt := top 64
abbrev n__law_is_answer : List Str := ["_law_numbers", "_law_thing", "_law_one"]
theorem sc__law_is_answer : FnScope n__law_is_answer ["_law_numbers", "_law_thing"] (defScope s__law_is_answer) := ⟨rfl, rfl, rfl, by decide +kernel, rfl, by decide +kernel, by decide +kernel⟩
abbrev s__law_told : Stmt := top 65
abbrev n__law_told : List Str := ["_law_h", "_law_b", "_law_norms", "_law_k", "_law_common", "_law_square", "_law_found", "_law_spot", "_law_number", "_law_u", "_law_v"]
theorem sc__law_told : FnScope n__law_told ["_law_h"] (defScope s__law_told) := ⟨rfl, rfl, rfl, by decide +kernel, rfl, by decide +kernel, by decide +kernel⟩
abbrev s__law_plain : Stmt := top 66
abbrev n__law_plain : List Str := ["_law_h", "_law_found", "_law_spot", "_law_one", "_law_other"]
theorem sc__law_plain : FnScope n__law_plain ["_law_h"] (defScope s__law_plain) := ⟨rfl, rfl, rfl, by decide +kernel, rfl, by decide +kernel, by decide +kernel⟩
abbrev s_law : Stmt := top 67
abbrev n_law : List Str := ["_law_script", "_law_h", "_law_great", "_law_turn", "_law_weights", "_law_form", "_law_found", "_law_k"]
theorem sc_law : FnScope n_law ["_law_script"] (defScope s_law) := ⟨rfl, rfl, rfl, by decide +kernel, rfl, by decide +kernel, by decide +kernel⟩
structure Adr where
  WeightError : Addr
  InvalidWeights : Addr
  BadForm : Addr
  Form : Addr
  Normal : Addr
structure Ctx (K : PySem.W.Frag) (mg : Str → Option Value) (a : Adr) : Prop where
  B : Blt mg
  c_MOST_PART : CInt mg "MOST_PART" 1000000
  c_MOST_PARTS : CInt mg "MOST_PARTS" 5
  c_SIZES : CTup K mg "SIZES" [.int (3), .int (4)]
  d_is_integer : DefAt K mg "is_integer" s_is_integer ["thing", "low", "high"]
  d_is_weight : DefAt K mg "is_weight" s_is_weight ["thing"]
  d_product : DefAt K mg "product" s_product ["numbers"]
  m_Form : mg "Form" = some (.ref a.Form)
  k_Form : ClsI K a.Form
  n_Form_rows : NoAttr K a.Form "rows"
  n_Form_sums : NoAttr K a.Form "sums"
  i_Form : InitAt K a.Form "Form.__init__" s_Form___init__ ["self", "weights"]
  g_Form_weights : Getter K a.Form "weights" "rows"
  g_Form_numbers : Getter K a.Form "numbers" "sums"
  e_Form___len__ : MethAt K a.Form "__len__" "Form.__len__" s_Form___len__ ["self"]
  e_Form___eq__ : MethAt K a.Form "__eq__" "Form.__eq__" s_Form___eq__ ["self", "other"]
  d_check_three : DefAt K mg "check_three" s_check_three ["form"]
  d_divisor : DefAt K mg "divisor" s_divisor ["one", "two"]
  d_lowest : DefAt K mg "lowest" s_lowest ["row"]
  d_come_to : DefAt K mg "come_to" s_come_to ["numbers", "row"]
  d_primes_of : DefAt K mg "primes_of" s_primes_of ["weight"]
  d_sign_of : DefAt K mg "sign_of" s_sign_of ["weight"]
  d_powered : DefAt K mg "powered" s_powered ["number", "times", "many"]
  d_turned : DefAt K mg "turned" s_turned ["number", "prime"]
  d_odd_one : DefAt K mg "odd_one" s_odd_one ["prime"]
  d_square_root : DefAt K mg "square_root" s_square_root ["number", "prime"]
  d_narrowed : DefAt K mg "narrowed" s_narrowed ["base", "form", "many"]
  d_is_free : DefAt K mg "is_free" s_is_free ["value", "many"]
  d_dot : DefAt K mg "dot" s_dot ["sizes", "one", "other"]
  d_nearest : DefAt K mg "nearest" s_nearest ["over", "under"]
  d_less : DefAt K mg "less" s_less ["row", "other", "times"]
  d_by_two : DefAt K mg "by_two" s_by_two ["sizes", "one", "other"]
  d_shortened : DefAt K mg "shortened" s_shortened ["sizes", "first", "second", "third"]
  d_short_base : DefAt K mg "short_base" s_short_base ["sizes", "base"]
  d_near_rows : DefAt K mg "near_rows" s_near_rows ["base"]
  d_odd_primes_of : DefAt K mg "odd_primes_of" s_odd_primes_of ["weight"]
  d_root_of : DefAt K mg "root_of" s_root_of ["weight"]
  m_Normal : mg "Normal" = some (.ref a.Normal)
  k_Normal : ClsI K a.Normal
  n_Normal_bare : NoAttr K a.Normal "bare"
  n_Normal_ups : NoAttr K a.Normal "ups"
  n_Normal_downs : NoAttr K a.Normal "downs"
  n_Normal_signs : NoAttr K a.Normal "signs"
  i_Normal : InitAt K a.Normal "Normal.__init__" s_Normal___init__ ["self", "rows"]
  e_Normal_all_weights : MethAt K a.Normal "all_weights" "Normal.all_weights" s_Normal_all_weights ["self"]
  e_Normal_back : MethAt K a.Normal "back" "Normal.back" s_Normal_back ["self", "row"]
  d_is_square : DefAt K mg "is_square" s_is_square ["number", "prime"]
  d_two_bars : DefAt K mg "two_bars" s_two_bars ["numbers"]
  d_bars_of : DefAt K mg "bars_of" s_bars_of ["shape"]
  d_ends_of : DefAt K mg "ends_of" s_ends_of ["weight", "prime"]
  d_symbol : DefAt K mg "symbol" s_symbol ["one", "other", "prime"]
  d_is_local_square : DefAt K mg "is_local_square" s_is_local_square ["weight", "prime"]
  d_four_bar : DefAt K mg "four_bar" s_four_bar ["rows", "prime"]
  d_four_bars : DefAt K mg "four_bars" s_four_bars ["rows"]
  d_bad_places : DefAt K mg "bad_places" s_bad_places ["form"]
  d_two_rules : DefAt K mg "two_rules" s_two_rules ["numbers"]
  d_unit : DefAt K mg "unit" s_unit ["at", "other", "factor"]
  d_odd_rules : DefAt K mg "odd_rules" s_odd_rules ["shape"]
  d_grid_row : DefAt K mg "grid_row" s_grid_row ["shape"]
  d_parted : DefAt K mg "parted" s_parted ["one", "other"]
  d_step_down : DefAt K mg "step_down" s_step_down ["numbers", "row"]
  d_small_row : DefAt K mg "small_row" s_small_row ["numbers", "row"]
  d_answer_of : DefAt K mg "answer_of" s_answer_of ["rows"]
  d_answer : DefAt K mg "answer" s_answer ["form"]
  d__law_mix : DefAt K mg "_law_mix" s__law_mix ["_law_script", "_law_seed"]
  d__law_next : DefAt K mg "_law_next" s__law_next ["_law_h", "_law_cap"]
  d__law_pick : DefAt K mg "_law_pick" s__law_pick ["_law_h", "_law_things"]
  d__law_weight : DefAt K mg "_law_weight" s__law_weight ["_law_h"]
  d__law_come : DefAt K mg "_law_come" s__law_come ["_law_numbers", "_law_row"]
  d__law_gcd : DefAt K mg "_law_gcd" s__law_gcd ["_law_numbers"]
  d__law_is_answer : DefAt K mg "_law_is_answer" s__law_is_answer ["_law_numbers", "_law_thing"]
  d__law_told : DefAt K mg "_law_told" s__law_told ["_law_h"]
  d__law_plain : DefAt K mg "_law_plain" s__law_plain ["_law_h"]
  d_law : DefAt K mg "law" s_law ["_law_script"]
local macro_rules | `(tactic| walk_at "n1") => `(tactic| first
  | with_reducible refine r_seq ?_
  | with_reducible refine r_ret ?_
  | with_reducible refine r_retN ?_
  | with_reducible refine r_next ?_
  | ((with_reducible refine x_app ?_); refine ⟨_, _, rfl, rfl, ?_⟩)
  | with_reducible refine r_drop ?_
  | with_reducible refine r_aug rfl ?_
  | with_reducible refine r_par ?_
  | ((with_reducible refine x_var ?_); refine ⟨_, rfl, ?_⟩)
  | with_reducible refine ev_c ?_
  | with_reducible refine ev_op ?_
  | with_reducible refine ev_un ?_
  | with_reducible refine ev_isiT ?_
  | with_reducible refine ev_cb ?_
  | with_reducible refine ev_tup ?_
  | with_reducible refine ev_lst ?_
  | with_reducible refine ev_if ?_
  | with_reducible refine et_test ?_
  | with_reducible refine et_B ?_
  | with_reducible refine et_and ?_
  | with_reducible refine et_or ?_
  | with_reducible refine et_not ?_
  | with_reducible refine ev_andV ?_
  | with_reducible refine ev_orV ?_
  | with_reducible refine ev_notV ?_
  | with_reducible refine eo_none ?_
  | with_reducible refine eo_some ?_
  | with_reducible refine ea_nil ?_
  | with_reducible refine ea_cons ?_
  | with_reducible refine eu_I ?_
  | with_reducible refine g_add ?_
  | with_reducible refine g_sub ?_
  | with_reducible refine x_mul ?_
  | ((with_reducible refine x_mod ?_); refine ⟨by decide, ?_⟩)
  | ((with_reducible refine x_div ?_); refine ⟨divW (b := 60) (by decide) (by decide) (by decide), ?_⟩)
  | ((with_reducible refine x_pow ?_); refine ⟨⟨by decide, by decide, by decide⟩, ?_⟩)
  | with_reducible refine x_mod ?_
  | with_reducible refine x_div ?_
  | with_reducible refine g_lt ?_
  | with_reducible refine g_le ?_
  | with_reducible refine g_gt ?_
  | with_reducible refine g_ge ?_
  | with_reducible refine g_eqI ?_
  | with_reducible refine g_neI ?_
  | with_reducible refine g_eqV rfl ?_
  | with_reducible refine g_neV rfl ?_
  | with_reducible refine g_isND ?_
  | with_reducible refine g_notND ?_
  | with_reducible refine x_ixT ?_
  | with_reducible refine x_ixL ?_
  | ((with_reducible refine x_ixM ?_); refine ⟨_, rfl, ?_⟩)
  | with_reducible refine x_lenL ?_
  | with_reducible refine x_lenT ?_
  | with_reducible refine x_lenS ?_
  | ((with_reducible refine x_lenM ?_); refine ⟨_, rfl, ?_⟩)
  | with_reducible refine ec_abs ?_
  | with_reducible refine ec_max2 ?_
  | with_reducible refine ec_min2 ?_
  | with_reducible refine ec_int1 ?_
  | with_reducible refine x_tupL ?_
  | ((with_reducible refine x_tupM ?_); refine ⟨_, rfl, ?_⟩)
  | with_reducible refine ev_chain ?_
  | with_reducible refine ev_ct ?_
  | ((with_reducible refine ei_int ?_); refine ⟨by first | assumption | constructor, ?_⟩)
  | ((with_reducible refine ei_bool ?_); refine ⟨by first | assumption | constructor, ?_⟩)
  | ((with_reducible refine ei_tuple ?_); refine ⟨by first | assumption | constructor, ?_⟩)
  | ((with_reducible refine ei_lst ?_); refine ⟨by first | assumption | constructor, ?_⟩)
  | ((with_reducible refine ei_str ?_); refine ⟨by first | assumption | constructor, ?_⟩)
  | with_reducible refine ec_callP ?_
  | with_reducible refine ec_callG ?_
  | with_reducible refine eg_tup rfl ?_
  | with_reducible refine eg_nil ?_
  | with_reducible refine eg_cons ?_
  | with_reducible refine eg_name ?_
  | (with_reducible show ∃ ds : List D, _ = List.map Sl.v ds ∧ _; first
      | refine ⟨[], rfl, le_lit rfl, ?_⟩
      | refine ⟨[_], rfl, le_lit rfl, ?_⟩
      | refine ⟨[_, _], rfl, le_lit rfl, ?_⟩
      | refine ⟨[_, _, _], rfl, le_lit rfl, ?_⟩
      | refine ⟨[_, _, _, _], rfl, le_lit rfl, ?_⟩
      | refine ⟨[_, _, _, _, _], rfl, le_lit rfl, ?_⟩
      | refine ⟨[_, _, _, _, _, _], rfl, le_lit rfl, ?_⟩
      | refine ⟨[_, _, _, _, _, _, _], rfl, le_lit rfl, ?_⟩
      | refine ⟨[_, _, _, _, _, _, _, _], rfl, le_lit rfl, ?_⟩
      | refine ⟨[_, _, _, _, _, _, _, _, _], rfl, le_lit rfl, ?_⟩
      | refine ⟨[_, _, _, _, _, _, _, _, _, _], rfl, le_lit rfl, ?_⟩
      | refine ⟨[_, _, _, _, _, _, _, _, _, _, _], rfl, le_lit rfl, ?_⟩
      | refine ⟨[_, _, _, _, _, _, _, _, _, _, _, _], rfl, le_lit rfl, ?_⟩)
  | (show ∃ b, Sl.v (D.bl _) = Sl.v (D.bl b) ∧ _; refine ⟨_, rfl, ?_⟩)
  | (show ∃ i, Sl.v (D.int _) = Sl.v (D.int i) ∧ _; refine ⟨_, rfl, ?_⟩))
local macro_rules | `(tactic| walk_at "d1") => `(tactic| first | with_reducible refine r_if ?_ | walk_at "n1")
local macro_rules | `(tactic| walk_at "n") => `(tactic| repeat walk_at "n1")
local macro_rules | `(tactic| walk_at "d") => `(tactic| repeat walk_at "d1")
section
variable {P : Program} {w : World} {K : PySem.W.Frag} {mg : Str → Option Value} {base : Heap} {a : Adr}
/-! ### forms: kinds, weights, products -/
def isI (d : D) (lo hi : Int) : Bool := match d with
  | .raw (.int i) => decide (lo ≤ i) && decide (i ≤ hi)
  | _ => false
theorem isI_of {d : D} (h1 : isIntD d = true) (h2 : isBoolD d = false) : ∃ i, d = .int i := by
  match d, h1, h2 with
  | .raw (.int i), _, _ => exact ⟨i, rfl⟩
theorem ok_is_integer (C : Ctx K mg a) : FnAt P w K mg base CX0 1 "is_integer" ["thing", "low", "high"] (SpP K (fun x : D × Int × Int => [x.1, .int x.2.1, .int x.2.2]) (fun x => Tame x.1) (fun x d => d = .bl (isI x.1 x.2.1 x.2.2))) := by
  refine fn_at C.d_is_integer sc_is_integer (fun _ => rfl) fun f cdv A outer s H E hr => ⟨_, (pss_one (ps_ret (pe_and (pe_isi (K := K) C.B.isinstance rfl (pa_cons (pv 0) (pa_cons (pe_bltn (v := .ty "int") rfl C.B.int (by decide +kernel) rfl) pa_nil))) (pe_and (pe_not (pe_isi (K := K) C.B.isinstance rfl (pa_cons (pv 0) (pa_cons (pe_bltn (v := .ty "bool") rfl C.B.bool (by decide +kernel) rfl) pa_nil)))) (pe_one (pe_chain op_gLe op_gLe (pv 1) (pv 0) (pv 2))))))), fun i e hp he => ?_⟩
  obtain ⟨d, lo, hi⟩ := i
  have hp : Tame d := hp
  dsimp only [cxOf]
  walk_at "d"
  refine ite_b (fun h1 => ?_) (fun h1 => ?_)
  · walk_at "d"
    refine ite_b (fun h2 => ?_) (fun h2 => ?_)
    · obtain ⟨j, rfl⟩ := isI_of h1 (by simpa using h2)
      walk_at "d"
      refine ite_dec (fun h3 => ?_) (fun h3 => ?_)
      · walk_at "d"
        refine ret_v ?_
        simp [isI, h3]
      · refine ret_v ?_
        simp [isI, h3]
    · refine ret_v ?_
      have : isBoolD d = true := by simpa using h2
      match d, this with
      | .raw (.bl b), _ => rfl
  · refine ret_v ?_
    match d, h1 with
    | .raw .non, _ => rfl
    | .raw (.str _), _ => rfl
    | .raw (.byt _), _ => rfl
    | .raw (.flt _), _ => rfl
    | .raw (.ref _), _ => rfl
    | .raw (.ty _), _ => rfl
    | .tup _, _ => rfl
    | .lst _, _ => rfl
    | .dic _ _, _ => rfl
    | .ins _ _ _, _ => rfl
    | .rd _, _ => rfl
/-- a part that can stand -/
def okPart (d : D) : Bool := match d with
  | .raw (.int i) => decide (-1000000 ≤ i) && decide (i ≤ 1000000) && !decide (i = 0)
  | _ => false
def isW (d : D) : Bool := match d with
  | .tup ds => decide (1 ≤ ds.length) && decide (ds.length ≤ 5) && (ds.map okPart).all id
  | _ => false
def TameW (d : D) : Prop := Tame d ∧ ∀ ds, d = .tup ds → ds.length ≤ 1000 ∧ ∀ x, x ∈ ds → Tame x
theorem isW_no {d : D} (h : isTupD d = false) : isW d = false := by
  match d, h with
  | .raw _, _ => rfl
  | .lst _, _ => rfl
  | .dic _ _, _ => rfl
  | .ins _ _ _, _ => rfl
  | .rd _, _ => rfl
theorem isTup_of {d : D} (h : isTupD d = true) : ∃ ds, d = .tup ds := by
  match d, h with
  | .tup ds, _ => exact ⟨ds, rfl⟩
theorem ok_is_weight (C : Ctx K mg a) : FnAt P w K mg base CX0 2 "is_weight" ["thing"] (SpP K (fun d : D => [d]) TameW (fun d r => r = .bl (isW d))) := by
  refine fn_at C.d_is_weight sc_is_weight (fun _ => rfl) fun f cdv A outer s H E hr => ⟨_, (pss_cons (ps_if (PW.pt (pw_or (pt_not (pt_val (pe_isi (K := K) C.B.isinstance rfl (pa_cons (pv 0) (pa_cons (pe_bltn (v := .ty "tuple") rfl C.B.tuple (by decide +kernel) rfl) pa_nil))))) (pw_or1 (pt_not (pt_chain op_gLe op_gLe pe_int (pe_len (K := K) C.B.len rfl (pa_cons (pv 0) pa_nil)) (C.c_MOST_PARTS.pe rfl))))))
    (pss_one (ps_ret pe_bl))
    pss_nil)
    (pss_one (ps_ret (pe_all (K := K) C.B.all rfl rfl (pa_cons (pe_lc (own := [("part", 1)]) (g := (gName 1)) (tt := tYes) rfl sc_is_weight.nd (pi_seq (K := K) (pv 0)) (blkOk_by (N := n_is_weight) (sc := defScope s_is_weight) (by decide +kernel)) (fun _ _ _ _ _ => (pg_name (i := 1) sc_is_weight.nd rfl (by first | exact Or.inl rfl | exact Or.inr rfl))) (fun _ _ _ _ _ => pts_nil) (fun _ _ _ _ _ => (pe_and (pe_fn (ok_is_integer C) (hr.mono (by omega)) rfl (pa_cons (pv 1) (pa_cons (pe_un un_neg (C.c_MOST_PART.pe rfl)) (pa_cons (C.c_MOST_PART.pe rfl) pa_nil)))) (pe_one (pe_cmpR (op_gNe (K := K) (by exact hr.units)) (pv 1) pe_int (nomark _)))))) pa_nil))))), fun d e hp he => ?_⟩
  have ht : Tame d := hp.1
  dsimp only [cxOf]
  walk_at "d"
  cases h1 : isTupD d with
  | false =>
    refine iteT ?_
    refine iteT ?_
    walk_at "d"
    exact ret_v (by rw [isW_no h1])
  | true =>
    obtain ⟨ds, rfl⟩ := isTup_of h1
    obtain ⟨hl, hx⟩ := hp.2 ds rfl
    refine iteF ?_
    walk_at "d"
    have fin : ∀ {M : List MO}, ¬ (1 ≤ ds.length ∧ ds.length ≤ 5) → RetOk ([] : List MO).length (fun r (_ : List MO) => r = D.bl (isW (.tup ds))) (.v (.bl false)) M := fun {M} h => ret_v (by
      show D.bl false = D.bl (decide (1 ≤ ds.length) && decide (ds.length ≤ 5) && (ds.map okPart).all id)
      by_cases z : 1 ≤ ds.length
      · rw [decide_eq_true z, decide_eq_false (fun y => h ⟨z, y⟩)]; rfl
      · rw [decide_eq_false z]; rfl)
    refine ite_dec (fun h2 => ?_) (fun h2 => ?_)
    · walk_at "d"
      refine ite_ndec (fun h3 => ?_) (fun h3 => ?_)
      · walk_at "d"
        exact fin (by omega)
      · walk_at "d"
        refine ev_lcM (fun d => .bl (okPart d)) (ei_seqT ?_)
        walk_at "d"
        refine ⟨ds, rfl, by omega, fun j x hj => ?_, ?_⟩
        · have hxt := hx x (List.mem_of_getElem? hj)
          walk_at "d"
          refine ⟨(x, -1000000, 1000000), rfl, hxt, fun r hr' => ?_⟩
          subst hr'
          refine ⟨_, rfl, ?_⟩
          refine ite_b (fun h4 => ?_) (fun h4 => ?_)
          · match x, h4 with
            | .raw (.int i), h4 =>
              have h4 : (decide (-1000000 ≤ i) && decide (i ≤ 1000000)) = true := h4
              walk_at "d"
              show Sl.v (D.bl (!decide (i = 0))) = Sl.v (.bl (decide (-1000000 ≤ i) && decide (i ≤ 1000000) && !decide (i = 0)))
              rw [h4]; rfl
          · show Sl.v (D.bl false) = Sl.v (.bl (okPart x))
            match x, h4 with
            | .raw (.int i), h4 =>
              have h4 : (decide (-1000000 ≤ i) && decide (i ≤ 1000000)) = false := h4
              show Sl.v (D.bl false) = Sl.v (.bl (decide (-1000000 ≤ i) && decide (i ≤ 1000000) && !decide (i = 0)))
              rw [h4]; rfl
            | .raw .non, _ => rfl
            | .raw (.bl _), _ => rfl
            | .raw (.str _), _ => rfl
            | .raw (.byt _), _ => rfl
            | .raw (.flt _), _ => rfl
            | .raw (.ref _), _ => rfl
            | .raw (.ty _), _ => rfl
            | .tup _, _ => rfl
            | .lst _, _ => rfl
            | .dic _ _, _ => rfl
            | .ins _ _ _, _ => rfl
            | .rd _, _ => rfl
        · walk_at "d"
          refine ec_all (bs := ds.map okPart) ?_ (ret_v ?_)
          · have : (D.bls (ds.map okPart)) = ds.map fun d => .bl (okPart d) := by simp [D.bls, Function.comp_def]
            rw [this]; exact .v
          · show D.bl _ = D.bl (decide (1 ≤ ds.length) && decide (ds.length ≤ 5) && (ds.map okPart).all id)
            rw [decide_eq_true (by omega), decide_eq_true (by omega)]; rfl
    · walk_at "d"
      refine iteT ?_
      walk_at "d"
      exact fin (by omega)
abbrev wt (ns : List Int) : D := .tup (D.ints ns)
/-- a weight's parts -/
structure Wt (ns : List Int) : Prop where
  lo : 1 ≤ ns.length
  hi : ns.length ≤ 5
  p : ∀ n, n ∈ ns → n ≠ 0 ∧ n.natAbs ≤ 1000000
theorem Wt.isW {ns : List Int} (h : Wt ns) : isW (wt ns) = true := by
  show (decide (1 ≤ (D.ints ns).length) && decide ((D.ints ns).length ≤ 5) && ((D.ints ns).map okPart).all id) = true
  rw [decide_eq_true (by rw [List.length_map]; exact h.lo), decide_eq_true (by rw [List.length_map]; exact h.hi), Bool.true_and, Bool.true_and]
  simp only [D.ints, List.map_map, List.all_eq_true, List.mem_map, id]
  rintro b ⟨n, hn, rfl⟩
  have := h.p n hn
  simp only [Function.comp, okPart, Bool.and_eq_true, decide_eq_true_eq, Bool.not_eq_true', decide_eq_false_iff_not]
  omega
theorem tameW_wt (ns : List Int) (h : ns.length ≤ 1000) : TameW (wt ns) := ⟨.tup _, fun ds e => by
  cases e
  refine ⟨by simpa using h, fun x hx => ?_⟩
  obtain ⟨n, _, rfl⟩ := List.mem_map.mp hx
  exact .int n⟩
theorem Wt.tame {ns : List Int} (h : Wt ns) : TameW (wt ns) := tameW_wt ns (by have := h.hi; omega)
def prodL (ns : List Int) : Int := ns.foldl (· * ·) 1
theorem prod_bit (ns : List Int) (h : ∀ n, n ∈ ns → n.natAbs < 2 ^ 700) : (prodL ns).natAbs < 2 ^ (700 * ns.length + 1) := by
  unfold prodL
  suffices g : ∀ (ns : List Int) (a : Int) (m : Nat), a.natAbs < 2 ^ m → (∀ n, n ∈ ns → n.natAbs < 2 ^ 700) → (ns.foldl (· * ·) a).natAbs < 2 ^ (700 * ns.length + m) by
    exact g ns 1 1 (by decide) h
  intro ns
  induction ns with
  | nil => intro a m ha _; simpa using ha
  | cons n ns ih =>
    intro a m ha h
    have := ih (a * n) (m + 700) (mul_lt ha (h n (by simp))) (fun k hk => h k (by simp [hk]))
    rw [List.foldl_cons, List.length_cons]
    exact bit_le this (by omega)
theorem prod_snoc (ns : List Int) (n : Int) : prodL (ns ++ [n]) = prodL ns * n := by
  unfold prodL
  rw [List.foldl_append]
  rfl
theorem take_snoc {α : Type} {xs : List α} {i : Nat} {x : α} (h : xs[i]? = some x) : xs.take (i + 1) = xs.take i ++ [x] := by
  have hlt := (List.getElem?_eq_some_iff.mp h).1
  rw [List.take_succ_eq_append_getElem hlt, (List.getElem?_eq_some_iff.mp h).2]
theorem ints_get {ns : List Int} {i : Nat} {d : D} (h : (D.ints ns)[i]? = some d) : ∃ n, ns[i]? = some n ∧ d = .int n := by
  rw [List.getElem?_map] at h
  obtain ⟨n, hn, e⟩ := Option.map_eq_some_iff.mp h
  exact ⟨n, hn, e.symm⟩
theorem ok_product (C : Ctx K mg a) : FnAt P w K mg base CX0 1 "product" ["numbers"] (SpP K (fun x : Bool × List Int => [D.seq x.1 (D.ints x.2)]) (fun x => x.2.length ≤ 1000 ∧ ∀ n, n ∈ x.2 → n.natAbs < 2 ^ 700) (fun x d => d = .int (prodL x.2))) := by
  refine fn_at C.d_product sc_product (fun _ => rfl) fun f cdv A outer s H E hr => ⟨_, (pss_cons (ps_set (i := 1) sc_product.nd rfl (by first | exact Or.inl rfl | exact Or.inr rfl) pe_int)
    (pss_cons (ps_for PassesOwn.never rfl (pi_seq (K := K) (pv 0)) (pg_name (i := 2) sc_product.nd rfl (by first | exact Or.inl rfl | exact Or.inr rfl))
    (pss_one (ps_set (i := 1) sc_product.nd rfl (by first | exact Or.inl rfl | exact Or.inr rfl) (pe_op (op_gMul (K := K)) (pv 1) (pv 2)))))
    (pss_one (ps_ret (pv 1))))), fun i e hp he => ?_⟩
  obtain ⟨b, ns⟩ := i
  have hl : ns.length ≤ 1000 := hp.1
  have hb : ∀ n, n ∈ ns → n.natAbs < 2 ^ 700 := hp.2
  dsimp only [cxOf]
  walk_at "d"
  refine r_asg ?_
  walk_at "d"
  refine r_for [2] ?_
  refine ei_seqS ?_
  walk_at "d"
  refine ⟨_, ⟨_, rfl⟩, fun i ρ M => ∃ o, ρ = [some (.v (D.seq b (D.ints ns))), some (.v (.int (prodL (ns.take i)))), o] ∧ M = [], ⟨_, rfl, rfl⟩, ?_, ?_⟩
  · rintro i d ρ M hi ⟨o, rfl, rfl⟩
    obtain ⟨n, hn, rfl⟩ := ints_get hi
    walk_at "d"
    refine r_asg ?_
    walk_at "d"
    refine ⟨mulW (prod_bit (ns.take i) fun k hk => hb k (List.mem_of_mem_take hk)) (hb n (List.mem_of_getElem? hn)) (by rw [List.length_take]; omega), some (.v (.int n)), ?_, rfl⟩
    rw [take_snoc hn, prod_snoc]
    rfl
  · rintro ρ M ⟨o, rfl, rfl⟩
    walk_at "d"
    refine ret_v ?_
    simp [D.ints]
theorem Wt.pre {ns : List Int} (h : Wt ns) : ns.length ≤ 1000 ∧ ∀ n, n ∈ ns → n.natAbs < 2 ^ 700 := ⟨by have := h.hi; omega, fun n hn => by
  have h1 := (h.p n hn).2
  have h2 : (1000000 : Nat) < 2 ^ 700 := Nat.lt_of_lt_of_le (show 1000000 < 2 ^ 20 by decide) (Nat.pow_le_pow_right (by decide) (by decide))
  omega⟩
theorem Wt.bit {ns : List Int} (h : Wt ns) : (prodL ns).natAbs < 2 ^ 900 := by
  have : ∀ (ns : List Int) (m : Nat) (a : Int), (∀ n, n ∈ ns → n.natAbs ≤ 1000000) → a.natAbs < 2 ^ m → (ns.foldl (· * ·) a).natAbs < 2 ^ (20 * ns.length + m) := by
    intro ns
    induction ns with
    | nil => intro m a _ ha; simpa using ha
    | cons n ns ih =>
      intro m a hh ha
      have hn : n.natAbs < 2 ^ 20 := by have := hh n List.mem_cons_self; omega
      have := ih (m + 20) (a * n) (fun k hk => hh k (List.mem_cons_of_mem _ hk)) (mul_lt ha hn)
      rw [List.foldl_cons, List.length_cons]
      exact bit_le this (by omega)
  have := this ns 1 1 (fun n hn => (h.p n hn).2) (by decide)
  have hl := h.hi
  exact bit_le this (by omega)
theorem lit_bit {i : Int} {b : Nat} (h : i.natAbs < 2 ^ 60) (hb : 60 ≤ b) : i.natAbs < 2 ^ b := bit_le h hb

end
section
variable {P : Program} {w : World} {K : PySem.W.Frag} {mg : Str → Option Value} {base : Heap} {a : Adr}
/-! ### the making of a form -/
abbrev fm (C : Addr) (ws : List (List Int)) : D := .ins C ["rows", "sums"] [.tup (ws.map wt), .tup (D.ints (ws.map prodL))]
structure Frm (ws : List (List Int)) : Prop where
  len : ws.length = 3 ∨ ws.length = 4
  w : ∀ n, n ∈ ws → Wt n
theorem enum_get {k : Int} {ds : List D} {i : Nat} {d : D} (h : (enumD k ds)[i]? = some d) : ∃ c, ds[i]? = some c ∧ d = .tup [.int (k + (i : Int)), c] := by
  unfold enumD at h
  rw [List.getElem?_mapIdx] at h
  obtain ⟨c, hc, e⟩ := Option.map_eq_some_iff.mp h
  exact ⟨c, hc, e.symm⟩
theorem map_get {α β : Type} {f : α → β} {xs : List α} {i : Nat} {y : β} (h : (xs.map f)[i]? = some y) : ∃ x, xs[i]? = some x ∧ y = f x := by
  rw [List.getElem?_map] at h
  obtain ⟨c, hc, e⟩ := Option.map_eq_some_iff.mp h
  exact ⟨c, hc, e.symm⟩
theorem ok_Form (C : Ctx K mg a) : MkAt P w K mg base 3 "Form" a.Form ["self", "weights"] (SpI K a.Form (fun ws : List (List Int) => [.tup (ws.map wt)]) Frm ["rows", "sums"] (fun ws ds => ds = [.tup (ws.map wt), .tup (D.ints (ws.map prodL))])) := by
  obtain ⟨f, fd, hM, hF, hB⟩ := C.i_Form.ex
  refine mk_at C.m_Form hM hF hB sc_Form___init__ (fun _ => rfl) fun f cdv A outer s H E hr => ⟨_, (pss_cons (ps_if (PW.pt (pw_or (pt_not (pt_val (pe_isi (K := K) C.B.isinstance rfl (pa_cons (pv 1) (pa_cons (pe_bltn (v := .ty "tuple") rfl C.B.tuple (by decide +kernel) rfl) pa_nil))))) (pw_or1 (pt_cmpR (op_gNotIn (K := K) (by exact units65 hr)) (pe_len (K := K) C.B.len rfl (pa_cons (pv 1) pa_nil)) (C.c_SIZES.pe rfl) rfl))))
    (pss_one ps_never)
    pss_nil)
    (pss_cons (ps_for PassesOwn.never rfl (pi_enB (K := K) rfl C.B.enumerate (pa_cons (pv 1) pa_nil)) (pg_tup rfl (pgs_cons (pg_name (i := 2) sc_Form___init__.nd rfl (by first | exact Or.inl rfl | exact Or.inr rfl)) (pgs_cons (pg_name (i := 3) sc_Form___init__.nd rfl (by first | exact Or.inl rfl | exact Or.inr rfl)) pgs_nil)))
    (pss_one (ps_if (pt_not (pt_val (pe_fn (ok_is_weight C) (hr.mono (by omega)) rfl (pa_cons (pv 3) pa_nil))))
    (pss_one ps_never)
    pss_nil)))
    (pss_cons (ps_fld (pv 0) (pv 1) rfl)
    (pss_one (ps_fld (pv 0) (pe_tupOf (K := K) C.B.tuple rfl (pa_cons (pe_lc (own := [("weight", 3)]) (g := (gName 3)) (tt := tYes) rfl sc_Form___init__.nd (pi_seq (K := K) (pv 1)) (blkOk_by (N := n_Form___init__) (sc := defScope s_Form___init__) (by decide +kernel)) (fun _ _ _ _ _ => (pg_name (i := 3) sc_Form___init__.nd rfl (by first | exact Or.inl rfl | exact Or.inr rfl))) (fun _ _ _ _ _ => pts_nil) (fun _ _ _ _ _ => (pe_fn (ok_product C) (hr.mono (by omega)) rfl (pa_cons (pv 3) pa_nil)))) pa_nil)) rfl))))), fun ws e hp he => ?_⟩
  have hlen : ws.length = 3 ∨ ws.length = 4 := hp.len
  dsimp only [cxOf]
  walk_at "d"
  refine iteF ?_
  walk_at "d"
  refine g_notInI (ns := [3, 4]) .t ?_
  have hin : decide (((ws.map wt).length : Int) ∈ ([3, 4] : List Int)) = true := by
    rw [List.length_map]
    rcases hlen with h | h <;> rw [h] <;> decide
  rw [hin]
  refine ⟨_, rfl, iteF ?_⟩
  walk_at "d"
  refine r_for [2, 3] ?_
  refine ei_enB ?_
  walk_at "d"
  refine ⟨_, _, rfl, .t, fun i ρ M => ∃ o1 o2, ρ = [some (.l 0), some (.v (.tup (ws.map wt))), o1, o2] ∧ M = [.ins a.Form [] []], ⟨none, none, rfl, rfl⟩, ?_, ?_⟩
  · rintro i d ρ M hi ⟨o1, o2, rfl, rfl⟩
    obtain ⟨c, hc, rfl⟩ := enum_get hi
    obtain ⟨n, hn, rfl⟩ := map_get hc
    have hw := hp.w n (List.mem_of_getElem? hn)
    walk_at "d"
    refine ⟨wt n, rfl, hw.tame, fun r er => ?_⟩
    subst er
    refine ⟨_, rfl, ?_⟩
    rw [hw.isW]
    refine iteF ?_
    walk_at "d"
    exact ⟨_, _, rfl, rfl⟩
  · rintro ρ M ⟨o1, o2, rfl, rfl⟩
    walk_at "d"
    refine r_fld C.k_Form.cl C.n_Form_rows rfl rfl (by decide) ?_
    walk_at "d"
    refine ⟨_, rfl, ?_⟩
    refine r_fld C.k_Form.cl C.n_Form_sums rfl rfl (le_lit rfl) ?_
    walk_at "d"
    refine ev_lcM (fun d => match d with | .tup ds => .int (prodL (ds.map fun | .raw (.int i) => i | _ => 0)) | _ => d) (ei_seqT ?_)
    walk_at "d"
    refine ⟨_, rfl, by rw [List.length_map]; omega, fun j x hj => ?_, ?_⟩
    · obtain ⟨n, hn, rfl⟩ := map_get hj
      have hw := hp.w n (List.mem_of_getElem? hn)
      walk_at "d"
      refine ⟨(true, n), rfl, hw.pre, fun r er => ?_⟩
      subst er
      have : (D.ints n).map (fun | .raw (.int i) => i | _ => (0 : Int)) = n := by simp [D.ints, Function.comp_def]
      show Sl.v (D.int (prodL n)) = .v (.int (prodL ((D.ints n).map fun | .raw (.int i) => i | _ => 0)))
      rw [this]
    · walk_at "d"
      refine ⟨_, rfl, _, rfl, ?_⟩
      have : (ws.map wt).map (fun d => match d with | .tup ds => D.int (prodL (ds.map fun | .raw (.int i) => i | _ => 0)) | _ => d) = D.ints (ws.map prodL) := by
        simp only [D.ints, List.map_map]
        apply List.map_congr_left
        intro n _
        have : (D.ints n).map (fun | .raw (.int i) => i | _ => (0 : Int)) = n := by simp [D.ints, Function.comp_def]
        show D.int (prodL ((D.ints n).map fun | .raw (.int i) => i | _ => 0)) = .int (prodL n)
        rw [this]
      rw [this]
      rfl
theorem ev_numbers (C : Ctx K mg a) {te : TE} {ρ : Rho} {M : List MO} {Q : Sl → Prop} {X : XK} {ws : List (List Int)} (h : EvP K te ρ M fun s => s = .v (fm a.Form ws) ∧ Q (.v (.tup (D.ints (ws.map prodL))))) : EvP K (tProp a.Form (getSp a.Form "sums") [] X te) ρ M Q := ev_prop (i := 1) rfl rfl h

end
section
variable {P : Program} {w : World} {K : PySem.W.Frag} {mg : Str → Option Value} {base : Heap} {a : Adr}
def sgn (n : Int) : Int := if n > 0 then 1 else -1
theorem ok_sign_of (C : Ctx K mg a) : FnAt P w K mg base CX0 2 "sign_of" ["weight"] (SpP K (fun ns : List Int => [wt ns]) (fun ns => Wt ns) (fun ns r => r = .int (sgn (prodL ns)))) := by
  refine fn_at C.d_sign_of sc_sign_of (fun _ => rfl) fun f cdv A outer s H E hr => ⟨_, (pss_one (ps_ret (pe_ifExp (pt_cmpR op_gGt (pe_fn (ok_product C) (hr.mono (by omega)) rfl (pa_cons (pv 0) pa_nil)) pe_int (nomark _)) pe_int (pe_un un_neg pe_int)))), fun ns e hp he => ?_⟩
  have hp : Wt ns := hp
  dsimp only [cxOf]
  walk_at "d"
  refine ⟨(true, ns), rfl, hp.pre, fun r hr' => ?_⟩
  subst hr'
  walk_at "d"
  refine ite_dec (fun h => ?_) (fun h => ?_)
  · walk_at "d"
    exact ret_v (by rw [sgn, if_pos h])
  · walk_at "d"
    exact ret_v (by rw [sgn, if_neg h])

end
section
variable {P : Program} {w : World} {K : PySem.W.Frag} {mg : Str → Option Value} {base : Heap} {a : Adr}
/-! ### primes of a weight -/
open NT in
structure Pd (ks : List Key) (ds : List D) (n : Nat) : Prop where
  len : ks.length = ds.length
  nd : ks.Nodup
  rng : ∀ k, k ∈ ks → ∃ p : Nat, k = .inl (p : Int) ∧ Pr p ∧ p ∣ n ∧ p ≤ 1000000
  val : ∀ p : Nat, Pr p → kdGet ks ds (.inl (p : Int)) = if p ∣ n then some (.int (vp p n : Nat)) else none
theorem kd_nil {k : Key} : kdGet [] [] k = none := rfl
theorem Pd.nil : Pd [] [] 1 := ⟨rfl, .nil, fun k h => by simp at h, fun p hp => by rw [if_neg hp.one]; rfl⟩
theorem Pd.get {ks : List Key} {ds : List D} {n p : Nat} (h : Pd ks ds n) (hp : NT.Pr p) : (kdGet ks ds (.inl (p : Int))).getD (.int 0) = .int (NT.vp p n : Nat) := by
  rw [h.val p hp]
  by_cases z : p ∣ n
  · rw [if_pos z]; rfl
  · rw [if_neg z, NT.vp_no z]; rfl
theorem kdPut_nd {ks : List Key} {ds : List D} {k : Key} {d : D} (h : ks.Nodup) : (kdPut ks ds k d).1.Nodup := by
  unfold kdPut
  by_cases e : (ks.any fun j => decide (j = k)) = true
  · rw [if_pos e]; exact h
  · rw [if_neg e]
    have hn : k ∉ ks := fun z => e (any_mem.mpr z)
    exact List.nodup_append.mpr ⟨h, by simp, fun a ha b hb => by simp at hb; rw [hb]; exact fun z => hn (by rw [← z]; exact ha)⟩
theorem kdPut_mem {ks : List Key} {ds : List D} {k j : Key} {d : D} (h : j ∈ (kdPut ks ds k d).1) : j ∈ ks ∨ j = k := by
  unfold kdPut at h
  by_cases e : (ks.any fun j => decide (j = k)) = true
  · rw [if_pos e] at h; exact .inl h
  · rw [if_neg e] at h
    rcases List.mem_append.mp h with z | z
    · exact .inl z
    · simp at z; exact .inr z
theorem Pd.mul {ks : List Key} {ds : List D} {n p : Nat} (h : Pd ks ds n) (hp : NT.Pr p) (hn : 0 < n) (h6 : p ≤ 1000000) : Pd (kdPut ks ds (.inl (p : Int)) (.int ((NT.vp p n : Nat) + 1 : Int))).1 (kdPut ks ds (.inl (p : Int)) (.int ((NT.vp p n : Nat) + 1 : Int))).2 (n * p) := by
  refine ⟨kdPut_len h.len, kdPut_nd h.nd, fun k hk => ?_, fun q hq => ?_⟩
  · rcases kdPut_mem hk with z | z
    · obtain ⟨q, e, hq, hd, h6⟩ := h.rng k z
      exact ⟨q, e, hq, Nat.dvd_mul_right_of_dvd hd p, h6⟩
    · exact ⟨p, z, hp, Nat.dvd_mul_left p n, h6⟩
  · rw [kdGet_put h.len]
    by_cases e : q = p
    · subst e
      rw [if_pos rfl, if_pos (Nat.dvd_mul_left q n), NT.vp_mul hp hn hp.pos, NT.vp_self hp]
      simp
    · have e' : ¬ (Sum.inl (q : Int) : Key) = Sum.inl (p : Int) := fun z => e (by have := Sum.inl.inj z; omega)
      rw [if_neg e', h.val q hq]
      have hdv : q ∣ n * p ↔ q ∣ n := ⟨fun d => (hq.dvd_mul d).resolve_right fun z => e (hq.eq hp z), fun d => Nat.dvd_mul_right_of_dvd d p⟩
      by_cases z : q ∣ n
      · rw [if_pos z, if_pos (hdv.mpr z), NT.vp_mul hq hn hp.pos, NT.vp_other hq hp e]; rfl
      · rw [if_neg z, if_neg (fun y => z (hdv.mp y))]
theorem Pd.few {ks : List Key} {ds : List D} {n : Nat} (h : Pd ks ds n) : ks.length ≤ 1000001 := by
  have sub : ks ⊆ (List.range 1000001).map fun i : Nat => (Sum.inl (i : Int) : Key) := fun k hk => by
    obtain ⟨p, e, _, _, h6⟩ := h.rng k hk
    exact List.mem_map.mpr ⟨p, List.mem_range.mpr (by omega), e.symm⟩
  have := h.nd.length_le_of_subset sub
  rw [List.length_map, List.length_range] at this
  exact this
/-- no smaller prime divides -/
def Low (p n : Nat) : Prop := ∀ q, NT.Pr q → q ∣ n → p ≤ q
theorem Low.pr {p n : Nat} (h : Low p n) (hp : 2 ≤ p) (hd : p ∣ n) : NT.Pr p := by
  refine ⟨hp, fun d hdp => ?_⟩
  by_cases h1 : d = 1
  · exact .inl h1
  · have h0 : d ≠ 0 := by
      rintro rfl
      have := Nat.zero_dvd.mp hdp; omega
    obtain ⟨q, hq, hqd⟩ := NT.ex_pr d (by omega)
    have a1 := h q hq (Nat.dvd_trans hqd (Nat.dvd_trans hdp hd))
    have a2 := Nat.le_of_dvd (by omega) hqd
    have a3 := Nat.le_of_dvd (by omega) hdp
    exact .inr (by omega)
theorem Low.big {p n : Nat} (h : Low p n) (hn : 1 < n) (h2 : n < p * p) : Low n n := by
  intro q hq hd
  obtain ⟨c, rfl⟩ := hd
  have c0 : c ≠ 0 := by rintro rfl; simp at hn
  by_cases hc : c = 1
  · subst hc; simp
  · exfalso
    obtain ⟨r, hr, c', rfl⟩ := NT.ex_pr c (by omega)
    have a1 := h q hq (Nat.dvd_mul_right q _)
    have a2 := h r hr ⟨q * c', by grind⟩
    have c1 : 0 < c' := Nat.pos_of_ne_zero (by rintro rfl; simp at c0)
    have : p * p ≤ q * r := Nat.mul_le_mul a1 a2
    have : q * r * 1 ≤ q * r * c' := Nat.mul_le_mul_left _ c1
    rw [← Nat.mul_assoc] at h2
    omega
theorem Low.le {p n : Nat} (h : Low p n) (hn : 1 < n) : p ≤ n := by
  obtain ⟨q, hq, hd⟩ := NT.ex_pr n hn
  have := Nat.le_of_dvd (by omega) hd
  have := h q hq hd
  omega
theorem Low.up {p n : Nat} (h : Low p n) (hd : ¬ p ∣ n) : Low (p + 1) n := fun q hq d => by
  have := h q hq d
  have : q ≠ p := by rintro rfl; exact hd d
  omega
theorem Low.sub {p n m : Nat} (h : Low p n) (hd : m ∣ n) : Low p m := fun q hq d => h q hq (Nat.dvd_trans d hd)
theorem low2 (n : Nat) : Low 2 n := fun q hq _ => hq.1
abbrev nP (ns : List Int) : Nat := (prodL ns).natAbs
theorem nP_pos {ns : List Int} (h : ∀ n, n ∈ ns → n ≠ 0) : 0 < nP ns := by
  have : ∀ (ns : List Int) (a : Int), a ≠ 0 → (∀ n, n ∈ ns → n ≠ 0) → ns.foldl (· * ·) a ≠ 0 := by
    intro ns
    induction ns with
    | nil => intro a ha _; exact ha
    | cons n ns ih => intro a ha h; exact ih _ (Int.mul_ne_zero ha (h n (by simp))) fun k hk => h k (by simp [hk])
  exact Int.natAbs_pos.mpr (this ns 1 (by decide) h)
theorem Wt.pos {ns : List Int} (h : Wt ns) : 0 < nP ns := nP_pos fun n hn => (h.p n hn).1
theorem ok_primes_of (C : Ctx K mg a) : FnAt P w K mg base CX0 1 "primes_of" ["weight"] (SpN K (fun ns : List Int => [wt ns]) Wt (fun ns m => ∃ ks ds, m = .dic ks ds ∧ Pd ks ds (nP ns))) := by
  refine fn_atN C.d_primes_of sc_primes_of (fun _ => rfl) fun f cdv A outer s H E hr => ⟨_, (pss_cons (ps_set (i := 1) sc_primes_of.nd rfl (by first | exact Or.inl rfl | exact Or.inr rfl) pe_dnewK)
    (pss_cons (ps_for PassesOwn.never rfl (pi_seq (K := K) (pv 0)) (pg_name (i := 2) sc_primes_of.nd rfl (by first | exact Or.inl rfl | exact Or.inr rfl))
    (pss_cons (ps_par (i := 3) (j := 4) rfl sc_primes_of.nd rfl rfl (by decide) rfl rfl (pa_cons (pe_abs C.B.abs rfl (pa_cons (pv 2) pa_nil)) (pa_cons pe_int pa_nil)) rfl)
    (pss_one (ps_while PassesOwn.never (pt_cmpR op_gGt (pv 3) pe_int (nomark _))
    (pss_cons (ps_if (pt_cmpR op_gGt (pe_op (op_gMul (K := K)) (pv 4) (pv 4)) (pv 3) (nomark _))
    (pss_one (ps_set (i := 4) sc_primes_of.nd rfl (by first | exact Or.inl rfl | exact Or.inr rfl) (pv 3)))
    pss_nil)
    (pss_cons (ps_while PassesOwn.never (pt_cmpR (op_gEq (K := K) (by exact hr.units)) (pe_op op_gMod (pv 3) (pv 4)) pe_int (nomark _))
    (pss_cons (ps_set (i := 3) sc_primes_of.nd rfl (by first | exact Or.inl rfl | exact Or.inr rfl) (pe_op op_gDiv (pv 3) (pv 4)))
    (pss_one (ps_dput (hu_of hr) (pv 1) (pv 4) (pe_op (op_gAdd (K := K)) (pe_dget2 (hu_of hr) (pv 1) (pv 4) pe_int ⟨rfl, rfl, rfl, rfl⟩) pe_int) rfl))))
    (pss_one (ps_aug (i := 4) sc_primes_of.nd rfl (by first | exact Or.inl rfl | exact Or.inr rfl) pe_int ip_add))))))))
    (pss_one (ps_ret (pv 1))))), fun ns e hp he => ?_⟩
  try dsimp only [cxOf]
  refine r_seq (r_newD ?_)
  refine r_seq ?_
  refine r_for [2] ?_
  refine ei_seqT ?_
  walk_at "d"
  refine ⟨_, rfl, fun i ρ M => ∃ (ks : List Key) (ds : List D) (o2 o3 o4 : Option Sl), ρ = [some (.v (wt ns)), some (.l 0), o2, o3, o4] ∧ M = [.dic ks ds] ∧ Pd ks ds (nP (ns.take i)), ⟨[], [], none, none, none, rfl, rfl, Pd.nil⟩, ?_, ?_⟩
  · rintro i d ρ M hi ⟨ks, ds, o2, o3, o4, rfl, rfl, pd⟩
    obtain ⟨n, hn, rfl⟩ := ints_get hi
    obtain ⟨n0, n6⟩ := hp.p n (List.mem_of_getElem? hn)
    have hpos : 0 < nP (ns.take i) := nP_pos fun k hk => (hp.p k (List.mem_of_mem_take hk)).1
    walk_at "d"
    refine ⟨_, _, rfl, ?_⟩
    have hpar : 0 < n.natAbs := Int.natAbs_pos.mpr n0
    generalize hA : n.natAbs = A at *
    have habs : (if n < 0 then -n else n) = (A : Int) := by split <;> omega
    try rw [habs]
    have hN : nP (ns.take (i + 1)) = nP (ns.take i) * A := by
      show (prodL _).natAbs = (prodL _).natAbs * A
      rw [take_snoc hn, prod_snoc, Int.natAbs_mul, hA]
    generalize hN0 : nP (ns.take i) = N0 at *
    refine r_while ⟨fun m ρ M => ∃ (ks : List Key) (ds : List D) (left pr done : Nat), ρ = [some (.v (wt ns)), some (.l 0), some (.v (.int n)), some (.v (.int (left : Int))), some (.v (.int (pr : Int)))] ∧ M = [.dic ks ds] ∧ Pd ks ds (N0 * done) ∧ left * done = A ∧ 1 ≤ left ∧ 2 ≤ pr ∧ pr ≤ A + 2 ∧ Low pr left ∧ m = left + 1 - pr,
      ⟨_, ks, ds, A, 2, 1, rfl, rfl, by simpa using pd, by simp, hpar, by omega, by omega, low2 A, rfl⟩, ?_⟩
    rintro m ρ M ⟨ks, ds, left, pr, done, rfl, rfl, pd, hd, l1, p2, pA, lo, rfl⟩
    have lA : left ≤ A := Nat.le_of_dvd hpar ⟨done, hd.symm⟩
    have d0 : 0 < done := Nat.pos_of_ne_zero (by rintro rfl; simp at hd; omega)
    walk_at "d"
    refine ite_dec (fun h1 => ?_) (fun h1 => ?_)
    · have hl := lo.le (show 1 < left by omega)
      have pb : (pr : Int).natAbs < 2 ^ 30 := by omega
      refine r_seq (r_via (fun ρ' M' => ∃ p : Nat, pr ≤ p ∧ p ≤ left ∧ Low p left ∧ ρ' = [some (.v (wt ns)), some (.l 0), some (.v (.int n)), some (.v (.int (left : Int))), some (.v (.int (p : Int)))] ∧ M' = [.dic ks ds]) ?_ ?_)
      · walk_at "d"
        refine ⟨mulW pb pb (by decide), ?_⟩
        walk_at "d"
        refine ite_dec (fun h2 => ?_) (fun h2 => ?_)
        · refine r_asg ?_
          walk_at "d"
          exact ⟨left, hl, Nat.le_refl _, lo.big (by omega) (by rw [← Int.natCast_mul] at h2; omega), rfl, rfl⟩
        · walk_at "n"
          exact ⟨pr, Nat.le_refl _, hl, lo, rfl, rfl⟩
      · rintro ρ' M' ⟨p, hp1, hp2, lop, rfl, rfl⟩
        refine r_seq ?_
        refine r_while ⟨fun m ρ M => ∃ (ks : List Key) (ds : List D) (l2 done : Nat), ρ = [some (.v (wt ns)), some (.l 0), some (.v (.int n)), some (.v (.int (l2 : Int))), some (.v (.int (p : Int)))] ∧ M = [.dic ks ds] ∧ Pd ks ds (N0 * done) ∧ l2 * done = A ∧ 1 ≤ l2 ∧ l2 ≤ left ∧ Low p l2 ∧ m = l2,
          ⟨_, ks, ds, left, done, rfl, rfl, pd, hd, l1, Nat.le_refl _, lop, rfl⟩, ?_⟩
        rintro m ρ M ⟨ks, ds, l2, done, rfl, rfl, pd, hd, l1', l2', lop, rfl⟩
        have d0 : 0 < done := Nat.pos_of_ne_zero (by rintro rfl; simp at hd; omega)
        have pz : (0 : Int) < (p : Int) := by omega
        walk_at "d"
        refine ⟨pz, ?_⟩
        walk_at "d"
        refine ite_dec (fun h2 => ?_) (fun h2 => ?_)
        · have hdv : p ∣ m := by
            have := Int.dvd_of_emod_eq_zero h2
            exact Int.natCast_dvd_natCast.mp this
          have hpr := lop.pr (by omega) hdv
          obtain ⟨c, rfl⟩ := hdv
          have c0 : 0 < c := Nat.pos_of_ne_zero (by rintro rfl; simp at l1')
          have ediv : ((p * c : Nat) : Int) / (p : Int) = (c : Int) := by
            rw [Int.natCast_mul, Int.mul_ediv_cancel_left _ (by omega)]
          have plt : c < p * c := by
            have : 1 * c < p * c := Nat.mul_lt_mul_of_pos_right (by omega) c0
            omega
          walk_at "d"
          refine r_asg ?_
          walk_at "d"
          refine ⟨divW (b := 60) pz (by omega) (by decide), ?_⟩
          rw [ediv]
          refine r_dput (kk := 0) rfl rfl ?_
          walk_at "d"
          refine ev_dgetN (ks := ks) (ds := ds) rfl (.l rfl) ?_
          walk_at "d"
          refine ⟨.inl (p : Int), rfl, _, rfl, ?_⟩
          rw [pd.get hpr]
          walk_at "d"
          refine ⟨.inl (p : Int), _, rfl, rfl, by have := pd.few; omega, ?_⟩
          have pd2 := pd.mul hpr (Nat.mul_pos (by omega) d0) (by omega)
          rw [Nat.mul_assoc] at pd2
          exact ⟨c, plt, _, _, c, done * p, rfl, rfl, pd2, by rw [← hd]; grind, c0, by omega, lop.sub ⟨p, by rw [Nat.mul_comm]⟩, rfl⟩
        · walk_at "d"
          have hnd : ¬ p ∣ m := fun z => h2 (Int.emod_eq_zero_of_dvd (Int.natCast_dvd_natCast.mpr z))
          exact ⟨_, by omega, ks, ds, m, p + 1, done, rfl, rfl, pd, hd, l1', by omega, by omega, lop.up hnd, rfl⟩
    · have e1 : left = 1 := by omega
      subst e1
      rw [Nat.one_mul] at hd
      subst hd
      exact ⟨ks, ds, _, _, _, rfl, rfl, by rw [hN]; exact pd⟩
  · rintro ρ M ⟨ks, ds, o2, o3, o4, rfl, rfl, pd⟩
    walk_at "d"
    refine ⟨0, _, rfl, rfl, ks, ds, rfl, ?_⟩
    simpa using pd

end
section
variable {P : Program} {w : World} {K : PySem.W.Frag} {mg : Str → Option Value} {base : Heap} {a : Adr}
/-! ### powers by remainders -/
theorem ok_powered (C : Ctx K mg a) : FnAt P w K mg base CX0 1 "powered" ["number", "times", "many"] (SpP K (fun x : Int × Nat × Nat => [.int x.1, .int (x.2.1 : Int), .int (x.2.2 : Int)]) (fun x => 2 ≤ x.2.2 ∧ x.2.2 ≤ 2000000 ∧ x.2.1 ≤ 2000000) (fun x d => d = .int (x.1 ^ x.2.1 % (x.2.2 : Int)))) := by
  refine fn_at C.d_powered sc_powered (fun _ => rfl) fun f cdv A outer s H E hr => ⟨_, (pss_cons (ps_par3 (i := 3) (j := 4) (l := 5) rfl sc_powered.nd rfl rfl rfl (by decide) (by decide) (by decide) rfl rfl rfl (pa_cons pe_int (pa_cons (pv 1) (pa_cons (pe_op op_gMod (pv 0) (pv 2)) pa_nil))) rfl)
    (pss_cons (ps_while PassesOwn.never (pt_cmpR op_gGt (pv 4) pe_int (nomark _))
    (pss_cons (ps_if (pt_cmpR (op_gEq (K := K) (by exact hr.units)) (pe_op op_gMod (pv 4) pe_int) pe_int (nomark _))
    (pss_one (ps_set (i := 3) sc_powered.nd rfl (by first | exact Or.inl rfl | exact Or.inr rfl) (pe_op op_gMod (pe_op (op_gMul (K := K)) (pv 3) (pv 5)) (pv 2))))
    pss_nil)
    (pss_cons (ps_set (i := 5) sc_powered.nd rfl (by first | exact Or.inl rfl | exact Or.inr rfl) (pe_op op_gMod (pe_op (op_gMul (K := K)) (pv 5) (pv 5)) (pv 2)))
    (pss_one (ps_set (i := 4) sc_powered.nd rfl (by first | exact Or.inl rfl | exact Or.inr rfl) (pe_op op_gDiv (pv 4) pe_int))))))
    (pss_one (ps_ret (pe_op op_gMod (pv 3) (pv 2)))))), fun x e hp he => ?_⟩
  obtain ⟨n, t, m⟩ := x
  obtain ⟨m2, m6, t6⟩ := hp
  have m2 : 2 ≤ m := m2
  have m6 : m ≤ 2000000 := m6
  have t6 : t ≤ 2000000 := t6
  have mz : (0 : Int) < (m : Int) := by omega
  dsimp only [cxOf]
  walk_at "d"
  refine r_par3 ?_
  refine ena_cons (en_ev ?_)
  walk_at "d"
  refine ena_cons (en_ev ?_)
  walk_at "d"
  refine ena_cons (en_ev ?_)
  walk_at "d"
  refine ⟨mz, ?_⟩
  refine ena_nil ?_
  refine ⟨_, _, _, rfl, ?_⟩
  have r0 := Int.emod_nonneg n (Int.ne_of_gt mz)
  have r1 := Int.emod_lt_of_pos n mz
  refine r_seq (r_while ⟨fun k ρ M => ∃ (fo he : Int) (le : Nat), ρ = [some (.v (.int n)), some (.v (.int (t : Int))), some (.v (.int (m : Int))), some (.v (.int fo)), some (.v (.int (le : Int))), some (.v (.int he))] ∧ M = [] ∧ 0 ≤ fo ∧ fo ≤ 2000000 ∧ 0 ≤ he ∧ he ≤ 2000000 ∧ NT.Cg m (fo * he ^ le) (n ^ t) ∧ le ≤ 2000000 ∧ k = le,
    ⟨_, 1, n % (m : Int), t, rfl, rfl, by decide, by decide, r0, by omega, by rw [Int.one_mul]; exact (NT.Cg.emod n).pow t, t6, rfl⟩, ?_⟩)
  rintro k ρ M ⟨fo, he, le, rfl, rfl, f0, f1, h0, h1, cg, l6, rfl⟩
  walk_at "d"
  refine ite_dec (fun hl => ?_) (fun hl => ?_)
  · have hl : 0 < k := by omega
    have fb : fo.natAbs < 2 ^ 60 := by omega
    have hb : he.natAbs < 2 ^ 60 := by omega
    -- the rest of the turn, with the new product
    refine r_seq (r_via (fun ρ' M' => ∃ fo2 : Int, 0 ≤ fo2 ∧ fo2 ≤ 2000000 ∧ NT.Cg m (fo2 * (he * he) ^ (k / 2)) (n ^ t) ∧ ρ' = [some (.v (.int n)), some (.v (.int (t : Int))), some (.v (.int (m : Int))), some (.v (.int fo2)), some (.v (.int (k : Int))), some (.v (.int he))] ∧ M' = []) ?_ ?_)
    · have pw : he ^ k = (he * he) ^ (k / 2) * he ^ (k % 2) := by
        have e : k = 2 * (k / 2) + k % 2 := by omega
        conv => lhs; rw [e, Int.pow_add, Int.pow_mul]
        congr 2
        exact Int.pow_succ .. |>.trans (by rw [Int.pow_succ]; simp)
      walk_at "d"
      refine ite_dec (fun ho => ?_) (fun ho => ?_)
      · have ho : k % 2 = 1 := by omega
        refine r_asg ?_
        walk_at "d"
        refine ⟨mulW fb hb (by decide), ?_⟩
        walk_at "d"
        refine ⟨mz, ?_⟩
        have q0 := Int.emod_nonneg (fo * he) (Int.ne_of_gt mz)
        have q1 := Int.emod_lt_of_pos (fo * he) mz
        refine ⟨_, q0, by omega, ?_, rfl, rfl⟩
        refine NT.Cg.trans ?_ cg
        rw [pw, ho]
        have := (NT.Cg.emod (p := m) (fo * he)).mul (NT.Cg.refl (p := m) ((he * he) ^ (k / 2)))
        refine this.trans ?_
        exact ⟨0, by simp; grind⟩
      · have ho : k % 2 = 0 := by omega
        walk_at "n"
        refine ⟨fo, f0, f1, ?_, rfl, rfl⟩
        rw [pw, ho] at cg
        simpa using cg
    · rintro ρ' M' ⟨fo2, g0, g1, cg2, rfl, rfl⟩
      walk_at "d"
      refine r_asg ?_
      walk_at "d"
      refine ⟨mulW hb hb (by decide), ?_⟩
      walk_at "d"
      refine ⟨mz, ?_⟩
      walk_at "d"
      refine r_asg ?_
      walk_at "d"
      have q0 := Int.emod_nonneg (he * he) (Int.ne_of_gt mz)
      have q1 := Int.emod_lt_of_pos (he * he) mz
      refine ⟨k / 2, by omega, fo2, _, k / 2, by rw [Int.natCast_ediv]; rfl, rfl, g0, g1, q0, by omega, ?_, by omega, rfl⟩
      refine NT.Cg.trans ?_ cg2
      exact (NT.Cg.refl fo2).mul ((NT.Cg.emod _).pow _)
  · have hl : k = 0 := by omega
    subst hl
    walk_at "d"
    refine ⟨mz, ret_v ?_⟩
    have := NT.Cg.iff.mp cg
    rw [Int.pow_zero, Int.mul_one] at this
    rw [this]
theorem sq_iff {p : Nat} (h : 2 ≤ p) (n : Int) : decide (n ^ ((p - 1) / 2) % (p : Int) = 1) = NT.sq p n := by
  unfold NT.sq
  refine decide_eq_decide.mpr ?_
  rw [NT.Cg.iff, Int.emod_eq_of_lt (a := 1) (by omega) (by omega)]
theorem ok_is_square (C : Ctx K mg a) : FnAt P w K mg base CX0 2 "is_square" ["number", "prime"] (SpP K (fun x : Int × Nat => [.int x.1, .int (x.2 : Int)]) (fun x => 2 ≤ x.2 ∧ x.2 ≤ 2000000) (fun x d => d = .bl (NT.sq x.2 x.1))) := by
  refine fn_at C.d_is_square sc_is_square (fun _ => rfl) fun f cdv A outer s H E hr => ⟨_, (pss_one (ps_ret (pe_cmpR (op_gEq (K := K) (by exact hr.units)) (pe_fn (ok_powered C) (hr.mono (by omega)) rfl (pa_cons (pv 0) (pa_cons (pe_op op_gDiv (pe_op op_gSub (pv 1) pe_int) pe_int) (pa_cons (pv 1) pa_nil)))) pe_int (nomark _)))), fun x e hp he => ?_⟩
  obtain ⟨n, p⟩ := x
  obtain ⟨p2, p6⟩ := hp
  have p2 : 2 ≤ p := p2
  have p6 : p ≤ 2000000 := p6
  dsimp only [cxOf]
  walk_at "d"
  refine ⟨(n, (p - 1) / 2, p), by simp only [List.map_cons, List.map_nil]; congr 3; show D.int _ = D.int _; congr 1; omega, ⟨p2, p6, by show (p - 1) / 2 ≤ 2000000; omega⟩, fun d ed => ?_⟩
  subst ed
  walk_at "d"
  exact ret_v (by rw [sq_iff p2])

end
section
variable {P : Program} {w : World} {K : PySem.W.Frag} {mg : Str → Option Value} {base : Heap} {a : Adr}
/-! ### square roots by a prime -/
open NT in
theorem ok_turned (C : Ctx K mg a) : FnAt P w K mg base CX0 2 "turned" ["number", "prime"] (SpP K (fun x : Int × Nat => [.int x.1, .int (x.2 : Int)]) (fun x => 2 ≤ x.2 ∧ x.2 ≤ 2000000) (fun x d => d = .int ((x.1 % (x.2 : Int)) ^ (x.2 - 2) % (x.2 : Int)))) := by
  refine fn_at C.d_turned sc_turned (fun _ => rfl) fun f cdv A outer s H E hr => ⟨_, (pss_one (ps_ret (pe_fn (ok_powered C) (hr.mono (by omega)) rfl (pa_cons (pe_op op_gMod (pv 0) (pv 1)) (pa_cons (pe_op op_gSub (pv 1) pe_int) (pa_cons (pv 1) pa_nil)))))), fun x e hp he => ?_⟩
  obtain ⟨n, p⟩ := x
  obtain ⟨p2, p6⟩ := hp
  have p2 : 2 ≤ p := p2
  have p6 : p ≤ 2000000 := p6
  have pz : (0 : Int) < (p : Int) := by omega
  dsimp only [cxOf]
  walk_at "d"
  refine ⟨pz, ?_⟩
  walk_at "d"
  refine ⟨(n % (p : Int), p - 2, p), by simp only [List.map_cons, List.map_nil]; congr 3; show D.int _ = D.int _; congr 1; omega, ⟨p2, p6, by show p - 2 ≤ 2000000; omega⟩, fun d ed => ?_⟩
  subst ed
  exact ret_v rfl
open NT in
theorem ok_odd_one (C : Ctx K mg a) : FnAt P w K mg base CX0 2 "odd_one" ["prime"] (SpP K (fun p : Nat => [.int (p : Int)]) (fun p => Od p ∧ p ≤ 2000000) (fun p d => d = .int (oddF p : Int))) := by
  refine fn_at C.d_odd_one sc_odd_one (fun _ => rfl) fun f cdv A outer s H E hr => ⟨_, (pss_cons (ps_set (i := 1) sc_odd_one.nd rfl (by first | exact Or.inl rfl | exact Or.inr rfl) pe_int)
    (pss_cons (ps_while PassesOwn.never (pt_cmpR (op_gEq (K := K) (by exact hr.units)) (pe_fn (ok_powered C) (hr.mono (by omega)) rfl (pa_cons (pv 1) (pa_cons (pe_op op_gDiv (pe_op op_gSub (pv 0) pe_int) pe_int) (pa_cons (pv 0) pa_nil)))) pe_int (nomark _))
    (pss_one (ps_aug (i := 1) sc_odd_one.nd rfl (by first | exact Or.inl rfl | exact Or.inr rfl) pe_int ip_add)))
    (pss_one (ps_ret (pv 1))))), fun p e hp he => ?_⟩
  obtain ⟨ho, p6⟩ := hp
  have p6 : p ≤ 2000000 := p6
  have p3 := ho.ge
  have p2 : 2 ≤ p := by omega
  obtain ⟨o1, o2, o3⟩ := oddF_ok ho
  dsimp only [cxOf]
  walk_at "d"
  refine r_asg ?_
  walk_at "d"
  refine r_seq (r_while ⟨fun m ρ M => ∃ k n : Nat, ρ = [some (.v (.int (p : Int))), some (.v (.int (k : Int)))] ∧ M = [] ∧ lstO p n k = oddF p ∧ 2 ≤ k ∧ k < p ∧ n + k = p + 2 ∧ m = n, ⟨_, 2, p, rfl, rfl, rfl, by decide, by omega, rfl, rfl⟩, ?_⟩)
  rintro m ρ M ⟨k, n, rfl, rfl, hk, k2, kp, hn, rfl⟩
  walk_at "d"
  have ea : ((p : Int) - 1) / 2 = (((p - 1) / 2 : Nat) : Int) := by omega
  refine ⟨((k : Int), (p - 1) / 2, p), by rw [ea]; rfl, ⟨by show 2 ≤ p; omega, p6, by show (p - 1) / 2 ≤ 2000000; omega⟩, fun d ed => ?_⟩
  subst ed
  walk_at "d"
  obtain ⟨m', rfl⟩ : ∃ m', m = m' + 1 := ⟨m - 1, by omega⟩
  refine ite_dec (fun h => ?_) (fun h => ?_)
  · have hs : sq p (k : Int) = true := by rw [← sq_iff p2 (k : Int)]; exact decide_eq_true h
    rw [lstO, if_pos hs] at hk
    have hkp : k + 1 < p := by
      refine Classical.byContradiction fun z => ?_
      have e : k + 1 = p := by omega
      have m1 : m' = 2 := by omega
      subst m1
      have : p ≤ oddF p := by
        rw [← hk, ← e]
        unfold lstO
        split
        · unfold lstO
          split
          · unfold lstO; omega
          · omega
        · omega
      omega
    walk_at "d"
    exact ⟨_, (by omega : m' < m' + 1), k + 1, m', by simp, rfl, hk, by omega, hkp, by omega, rfl⟩
  · have hs : ¬ sq p (k : Int) = true := by rw [← sq_iff p2 (k : Int)]; exact fun z => h (of_decide_eq_true z)
    rw [lstO, if_neg hs] at hk
    refine r_next ?_
    walk_at "d"
    refine ret_v ?_
    show D.int (k : Int) = D.int ((oddF p : Nat) : Int)
    rw [hk]
open NT in
theorem ok_square_root (C : Ctx K mg a) : FnAt P w K mg base CX0 3 "square_root" ["number", "prime"] (SpP K (fun x : Int × Nat => [.int x.1, .int (x.2 : Int)]) (fun x => Od x.2 ∧ x.2 ≤ 2000000 ∧ sq x.2 x.1 = true) (fun x d => d = .int (sqrtF x.2 x.1))) := by
  refine fn_at C.d_square_root sc_square_root (fun _ => rfl) fun f cdv A outer s H E hr => ⟨_, (pss_cons (ps_par (i := 5) (j := 6) rfl sc_square_root.nd rfl rfl (by decide) rfl rfl (pa_cons (pe_op op_gSub (pv 1) pe_int) (pa_cons pe_int pa_nil)) rfl)
    (pss_cons (ps_while PassesOwn.never (pt_cmpR (op_gEq (K := K) (by exact hr.units)) (pe_op op_gMod (pv 5) pe_int) pe_int (nomark _))
    (pss_cons (ps_set (i := 5) sc_square_root.nd rfl (by first | exact Or.inl rfl | exact Or.inr rfl) (pe_op op_gDiv (pv 5) pe_int))
    (pss_one (ps_aug (i := 6) sc_square_root.nd rfl (by first | exact Or.inl rfl | exact Or.inr rfl) pe_int ip_add))))
    (pss_cons (ps_set (i := 2) sc_square_root.nd rfl (by first | exact Or.inl rfl | exact Or.inr rfl) (pe_fn (ok_powered C) (hr.mono (by omega)) rfl (pa_cons (pe_fn (ok_odd_one C) (hr.mono (by omega)) rfl (pa_cons (pv 1) pa_nil)) (pa_cons (pv 5) (pa_cons (pv 1) pa_nil)))))
    (pss_cons (ps_set (i := 3) sc_square_root.nd rfl (by first | exact Or.inl rfl | exact Or.inr rfl) (pe_fn (ok_powered C) (hr.mono (by omega)) rfl (pa_cons (pe_op op_gMod (pv 0) (pv 1)) (pa_cons (pe_op op_gDiv (pe_op (op_gAdd (K := K)) (pv 5) pe_int) pe_int) (pa_cons (pv 1) pa_nil)))))
    (pss_cons (ps_set (i := 4) sc_square_root.nd rfl (by first | exact Or.inl rfl | exact Or.inr rfl) (pe_fn (ok_powered C) (hr.mono (by omega)) rfl (pa_cons (pe_op op_gMod (pv 0) (pv 1)) (pa_cons (pv 5) (pa_cons (pv 1) pa_nil)))))
    (pss_cons (ps_while PassesOwn.never (pt_cmpR (op_gNe (K := K) (by exact hr.units)) (pv 4) pe_int (nomark _))
    (pss_cons (ps_par (i := 9) (j := 10) rfl sc_square_root.nd rfl rfl (by decide) rfl rfl (pa_cons pe_int (pa_cons (pv 4) pa_nil)) rfl)
    (pss_cons (ps_while PassesOwn.never (pt_cmpR (op_gNe (K := K) (by exact hr.units)) (pv 10) pe_int (nomark _))
    (pss_cons (ps_set (i := 10) sc_square_root.nd rfl (by first | exact Or.inl rfl | exact Or.inr rfl) (pe_op op_gMod (pe_op (op_gMul (K := K)) (pv 10) (pv 10)) (pv 1)))
    (pss_one (ps_aug (i := 9) sc_square_root.nd rfl (by first | exact Or.inl rfl | exact Or.inr rfl) pe_int ip_add))))
    (pss_cons (ps_set (i := 7) sc_square_root.nd rfl (by first | exact Or.inl rfl | exact Or.inr rfl) (pv 2))
    (pss_cons (ps_for PassesOwn.never rfl (pi_range1 rfl C.B.range (pa_cons (pe_op op_gSub (pe_op op_gSub (pv 6) (pv 9)) pe_int) pa_nil)) (pg_name (i := 8) sc_square_root.nd rfl (by first | exact Or.inl rfl | exact Or.inr rfl))
    (pss_one (ps_set (i := 7) sc_square_root.nd rfl (by first | exact Or.inl rfl | exact Or.inr rfl) (pe_op op_gMod (pe_op (op_gMul (K := K)) (pv 7) (pv 7)) (pv 1)))))
    (pss_cons (ps_set (i := 3) sc_square_root.nd rfl (by first | exact Or.inl rfl | exact Or.inr rfl) (pe_op op_gMod (pe_op (op_gMul (K := K)) (pv 3) (pv 7)) (pv 1)))
    (pss_cons (ps_set (i := 2) sc_square_root.nd rfl (by first | exact Or.inl rfl | exact Or.inr rfl) (pe_op op_gMod (pe_op (op_gMul (K := K)) (pv 7) (pv 7)) (pv 1)))
    (pss_cons (ps_set (i := 4) sc_square_root.nd rfl (by first | exact Or.inl rfl | exact Or.inr rfl) (pe_op op_gMod (pe_op (op_gMul (K := K)) (pv 4) (pv 2)) (pv 1)))
    (pss_one (ps_set (i := 6) sc_square_root.nd rfl (by first | exact Or.inl rfl | exact Or.inr rfl) (pv 9)))))))))))
    (pss_one (ps_ret (pv 3))))))))), fun x e hp he => ?_⟩
  obtain ⟨n, p⟩ := x
  obtain ⟨ho, p6, hs⟩ := hp
  have p6 : p ≤ 2000000 := p6
  have ho : Od p := ho
  have hs : sq p n = true := hs
  have p3 := ho.ge
  have p2 := ho.pr.1
  have pz : (0 : Int) < (p : Int) := by omega
  have st := sqrt_start ho hs
  obtain ⟨q1, q2, q3⟩ := part_ok ho
  dsimp only [cxOf]
  walk_at "d"
  refine ⟨_, _, rfl, ?_⟩
  refine r_seq (r_while ⟨fun m ρ M => ∃ q k : Nat, ρ = [some (.v (.int n)), some (.v (.int (p : Int))), none, none, none, some (.v (.int (q : Int))), some (.v (.int (k : Int))), none, none, none, none] ∧ M = [] ∧ q * 2 ^ k = p - 1 ∧ 1 ≤ q ∧ m = q, ⟨_, p - 1, 0, (by rw [show (p : Int) - 1 = ((p - 1 : Nat) : Int) by omega]; rfl), rfl, by simp, by omega, rfl⟩, ?_⟩)
  rintro m ρ M ⟨q, k, rfl, rfl, eq, qp, rfl⟩
  walk_at "d"
  refine ite_dec (fun h => ?_) (fun h => ?_)
  · have h : m % 2 = 0 := by omega
    walk_at "d"
    refine r_asg ?_
    walk_at "d"
    refine ⟨m / 2, by omega, m / 2, k + 1, ?_, rfl, ?_, by omega, rfl⟩
    · have : (m : Int) / 2 = ((m / 2 : Nat) : Int) := by omega
      rw [this]; rfl
    · rw [← eq, Nat.pow_succ]
      have : m = 2 * (m / 2) := by omega
      generalize m / 2 = j at *
      subst this
      grind
  have h : m % 2 = 1 := by omega
  obtain ⟨ek, em⟩ := part_uniq p2 eq h
  subst ek; subst em
  have kb : manyF p < 30 := by
    have h1 : 2 ^ manyF p ≤ p - 1 := by rw [q1]; exact Nat.le_mul_of_pos_left _ (by omega)
    refine Nat.not_le.mp fun z => ?_
    have h2 : 2 ^ 30 ≤ 2 ^ manyF p := Nat.pow_le_pow_right (by decide) z
    have : (2 : Nat) ^ 30 = 1073741824 := by decide
    omega
  have qb : partF p ≤ p - 1 := by rw [q1]; exact Nat.le_mul_of_pos_right _ (Nat.pow_pos (by decide))
  obtain ⟨o1, o2, o3⟩ := oddF_ok ho
  -- power, found, rest
  walk_at "d"
  refine r_asg ?_
  walk_at "d"
  refine ⟨p, rfl, ⟨ho, p6⟩, fun d ed => ?_⟩
  subst ed
  walk_at "d"
  refine ⟨((oddF p : Nat), partF p, p), rfl, ⟨p2, p6, by show partF p ≤ 2000000; omega⟩, fun d ed => ?_⟩
  subst ed
  walk_at "d"
  refine r_asg ?_
  walk_at "d"
  refine ⟨pz, ?_⟩
  walk_at "d"
  refine ⟨(n % (p : Int), (partF p + 1) / 2, p), rfl, ⟨p2, p6, by show (partF p + 1) / 2 ≤ 2000000; omega⟩, fun d ed => ?_⟩
  subst ed
  walk_at "d"
  refine r_asg ?_
  walk_at "d"
  refine ⟨pz, ?_⟩
  walk_at "d"
  refine ⟨(n % (p : Int), partF p, p), rfl, ⟨p2, p6, by show partF p ≤ 2000000; omega⟩, fun d ed => ?_⟩
  subst ed
  have md : ∀ x : Int, 0 ≤ x % (p : Int) ∧ x % (p : Int) < p := fun x => ⟨Int.emod_nonneg _ (Int.ne_of_gt pz), Int.emod_lt_of_pos _ pz⟩
  have bb : ∀ {x : Int}, 0 ≤ x → x < p → x.natAbs < 2 ^ 60 := fun h0 h1 => by omega
  have R0 : sqrtF p n = tsR p (manyF p) ((n % (p : Int)) ^ ((partF p + 1) / 2) % (p : Int)) ((n % (p : Int)) ^ partF p % (p : Int)) ((oddF p : Int) ^ partF p % (p : Int)) (manyF p) := rfl
  dsimp only at *
  have f0 := md ((n % (p : Int)) ^ ((partF p + 1) / 2))
  have g0 := md ((n % (p : Int)) ^ partF p)
  have w0 := md ((oddF p : Int) ^ partF p)
  generalize (n % (p : Int)) ^ ((partF p + 1) / 2) % (p : Int) = F0 at *
  generalize (n % (p : Int)) ^ partF p % (p : Int) = G0 at *
  generalize (oddF p : Int) ^ partF p % (p : Int) = W0 at *
  refine r_seq (r_while ⟨fun m ρ M => ∃ (k j : Nat) (F G W : Int) (o7 o8 o9 o10 : Option Sl), ρ = [some (.v (.int n)), some (.v (.int (p : Int))), some (.v (.int W)), some (.v (.int F)), some (.v (.int G)), some (.v (.int (partF p : Int))), some (.v (.int (j : Int))), o7, o8, o9, o10] ∧ M = [] ∧ tsR p k F G W j = sqrtF p n ∧ TS p n F G W j ∧ j ≤ k ∧ (0 ≤ F ∧ F < p) ∧ (0 ≤ G ∧ G < p) ∧ (0 ≤ W ∧ W < p) ∧ k < 30 ∧ m = k,
    ⟨_, manyF p, manyF p, F0, G0, W0, _, _, _, _, rfl, rfl, R0.symm, st, Nat.le_refl _, f0, g0, w0, kb, rfl⟩, ?_⟩)
  rintro m ρ M ⟨k, j, F, G, W, o7, o8, o9, o10, rfl, rfl, hR, ts, jk, hF, hG, hW, k30, rfl⟩
  walk_at "d"
  refine ite_ndec (fun h1 => ?_) (fun h1 => ?_)
  · have j1 := ts.m1
    obtain ⟨m', rfl⟩ : ∃ m', m = m' + 1 := ⟨m - 1, by omega⟩
    rw [tsR, if_neg h1] at hR
    obtain ⟨l1, l2, l3⟩ := ts.lst p2 hG.1 hG.2
    have l4 := TS.lst1 (p := p) j1 h1
    have ts2 := ts.step ho.pr hG.1 hG.2 h1
    walk_at "d"
    refine ⟨_, _, rfl, ?_⟩
    refine r_seq (r_while ⟨fun m ρ M => ∃ (i t : Nat) (h : Int), ρ = [some (.v (.int n)), some (.v (.int (p : Int))), some (.v (.int W)), some (.v (.int F)), some (.v (.int G)), some (.v (.int (partF p : Int))), some (.v (.int (j : Int))), o7, o8, some (.v (.int (t : Int))), some (.v (.int h))] ∧ M = [] ∧ lstT p i h + t = lstT p j G ∧ i + t = j ∧ (0 ≤ h ∧ h < p) ∧ Cg p h (G ^ (2 ^ t)) ∧ m = i,
      ⟨_, j, 0, G, rfl, rfl, rfl, rfl, hG, by rw [Nat.pow_zero, Int.pow_succ, Int.pow_zero, Int.one_mul]; exact Cg.refl _, rfl⟩, ?_⟩)
    rintro m2 ρ M ⟨i, t, h, rfl, rfl, hT, hi, hh, hc, rfl⟩
    walk_at "d"
    refine ite_ndec (fun h2 => ?_) (fun h2 => ?_)
    · have tj : t ≠ j := by
        rintro rfl
        have : m2 = 0 := by omega
        subst this
        rw [lstT] at hT
        omega
      obtain ⟨i', rfl⟩ : ∃ i', m2 = i' + 1 := ⟨m2 - 1, by omega⟩
      rw [lstT, if_neg h2] at hT
      walk_at "d"
      refine r_asg ?_
      walk_at "d"
      refine ⟨mulW (bb hh.1 hh.2) (bb hh.1 hh.2) (by decide), ?_⟩
      walk_at "d"
      refine ⟨pz, ?_⟩
      walk_at "d"
      refine ⟨i', by omega, i', t + 1, h * h % (p : Int), rfl, rfl, by omega, by omega, md _, ?_, rfl⟩
      refine (Cg.emod _).trans ((hc.mul hc).trans ?_)
      rw [pow_two_succ]; exact Cg.refl _
    · have ht : t = lstT p j G := by
        cases m2 with
        | zero => rw [lstT] at hT; omega
        | succ i => rw [lstT, if_pos h2] at hT; omega
      subst ht
      -- the step
      (try refine r_next ?_)
      walk_at "d"
      refine r_asg ?_
      walk_at "d"
      refine r_seq (r_for [8] ?_)
      refine ei_range1 ?_
      walk_at "d"
      refine ⟨_, rfl, by omega, by omega, fun i ρ M => ∃ (S : Int) (o8 : Option Sl), ρ = [some (.v (.int n)), some (.v (.int (p : Int))), some (.v (.int W)), some (.v (.int F)), some (.v (.int G)), some (.v (.int (partF p : Int))), some (.v (.int (j : Int))), some (.v (.int S)), o8, some (.v (.int ((lstT p j G : Nat) : Int))), some (.v (.int h))] ∧ M = [] ∧ (0 ≤ S ∧ S < p) ∧ i ≤ j - lstT p j G - 1 ∧ sqk p (j - lstT p j G - 1 - i) S = sqk p (j - lstT p j G - 1) W,
        ⟨W, _, rfl, rfl, hW, Nat.zero_le _, rfl⟩, ?_, ?_⟩
      · rintro i d ρ M hi ⟨S, o8, rfl, rfl, hS, il, eS⟩
        obtain ⟨il2, rfl⟩ := rangeD_get hi
        have il2 : i < j - lstT p j G - 1 := by omega
        walk_at "d"
        refine r_asg ?_
        walk_at "d"
        refine ⟨mulW (bb hS.1 hS.2) (bb hS.1 hS.2) (by decide), ?_⟩
        walk_at "d"
        refine ⟨pz, ?_⟩
        refine ⟨_, _, rfl, rfl, md _, il2, ?_⟩
        have e : j - lstT p j G - 1 - i = (j - lstT p j G - 1 - (i + 1)) + 1 := by omega
        rw [e, sqk] at eS
        exact eS
      · rintro ρ M ⟨S, o8, rfl, rfl, hS, il, eS⟩
        have e0 : j - lstT p j G - 1 - (rangeD 0 (((j : Int) - ((lstT p j G : Nat) : Int) - 1).toNat)).length = 0 := by rw [rangeD_len]; omega
        rw [e0, sqk] at eS
        subst eS
        generalize sqk p (j - lstT p j G - 1) W = S at *
        (try refine r_next ?_)
        walk_at "d"
        refine r_asg ?_
        walk_at "d"
        refine ⟨mulW (bb hF.1 hF.2) (bb hS.1 hS.2) (by decide), ?_⟩
        walk_at "d"
        refine ⟨pz, ?_⟩
        walk_at "d"
        refine r_asg ?_
        walk_at "d"
        refine ⟨mulW (bb hS.1 hS.2) (bb hS.1 hS.2) (by decide), ?_⟩
        walk_at "d"
        refine ⟨pz, ?_⟩
        walk_at "d"
        refine r_asg ?_
        walk_at "d"
        have hw2 := md (S * S)
        refine ⟨mulW (bb hG.1 hG.2) (bb hw2.1 hw2.2) (by decide), ?_⟩
        walk_at "d"
        refine ⟨pz, ?_⟩
        walk_at "d"
        refine r_asg ?_
        walk_at "d"
        exact ⟨m', by omega, m', lstT p j G, _, _, _, _, _, _, _, rfl, rfl, hR, ts2, by omega, md _, md _, md _, by omega, rfl⟩
  · walk_at "d"
    refine ret_v ?_
    show D.int F = D.int (sqrtF p n)
    rw [← hR]
    congr 1
    cases m with
    | zero => rfl
    | succ m => rw [tsR, if_pos h1]

end
section
variable {P : Program} {w : World} {K : PySem.W.Frag} {mg : Str → Option Value} {base : Heap} {a : Adr}
/-! ### rows of three numbers -/
abbrev vD (u : NT.V3) : D := .lst (D.ints [u.x, u.y, u.z])
def Bt (b : Nat) (u : NT.V3) : Prop := u.x.natAbs < 2 ^ b ∧ u.y.natAbs < 2 ^ b ∧ u.z.natAbs < 2 ^ b
theorem Bt.le {a b : Nat} {u : NT.V3} (h : Bt a u) (hab : a ≤ b) : Bt b u := ⟨bit_le h.1 hab, bit_le h.2.1 hab, bit_le h.2.2 hab⟩
open NT in
theorem ok_is_free (C : Ctx K mg a) : FnAt P w K mg base CX0 1 "is_free" ["value", "many"] (SpP K (fun x : Int × Nat => [.int x.1, .int (x.2 : Int)]) (fun x => 0 < x.2) (fun x d => d = .bl (freeF x.1 x.2))) := by
  refine fn_at C.d_is_free sc_is_free (fun _ => rfl) fun f cdv A outer s H E hr => ⟨_, (pss_one (ps_ret (pe_ifExp (pt_cmpR (op_gIn (K := K) (by exact units65 hr)) (pv 1) (pe_tup (pa_cons pe_int (pa_cons pe_int (pa_cons pe_int pa_nil)))) rfl) (pe_cmpR (op_gEq (K := K) (by exact hr.units)) (pe_op op_gMod (pv 0) pe_int) pe_int (nomark _)) (pe_cmpR (op_gNe (K := K) (by exact hr.units)) (pe_op op_gMod (pv 0) (pv 1)) pe_int (nomark _))))), fun x e hp he => ?_⟩
  obtain ⟨v, m⟩ := x
  have hp : 0 < m := hp
  dsimp only [cxOf]
  walk_at "d"
  refine g_inI (ns := [2, 4, 8]) .t ?_
  refine ⟨_, rfl, ?_⟩
  refine ite_dec (fun h => ?_) (fun h => ?_)
  · have hm : m = 2 ∨ m = 4 ∨ m = 8 := by
      simp only [List.mem_cons, List.not_mem_nil, or_false] at h
      omega
    walk_at "d"
    refine ret_v ?_
    show _ = D.bl (freeF v m)
    unfold freeF
    rw [if_pos hm]
  · have hm : ¬ (m = 2 ∨ m = 4 ∨ m = 8) := fun z => h (by
      simp only [List.mem_cons, List.not_mem_nil, or_false]
      omega)
    walk_at "d"
    refine ⟨by omega, ?_⟩
    walk_at "d"
    refine ret_v ?_
    show _ = D.bl (freeF v m)
    unfold freeF
    rw [if_neg hm]
open NT in
theorem ok_dot (C : Ctx K mg a) : FnAt P w K mg base CX0 1 "dot" ["sizes", "one", "other"] (SpP K (fun x : V3 × V3 × V3 => [vD x.1, vD x.2.1, vD x.2.2]) (fun x => Bt 300 x.1 ∧ Bt 100000 x.2.1 ∧ Bt 100000 x.2.2) (fun x d => d = .int (dot x.1 x.2.1 x.2.2))) := by
  refine fn_at C.d_dot sc_dot (fun _ => rfl) fun f cdv A outer s H E hr => ⟨_, (pss_one (ps_ret (pe_sum (K := K) C.B.sum rfl rfl (pa_cons (pe_lc (own := [("size", 3), ("first", 4), ("second", 5)]) (g := (gTup _ 3 (gCons (gName 3) (gCons (gName 4) (gCons (gName 5) gNil))))) (tt := tYes) rfl sc_dot.nd (pi_zipS3 (K := K) rfl C.B.zip (pa_cons (pv 0) (pa_cons (pv 1) (pa_cons (pv 2) pa_nil)))) (blkOk_by (N := n_dot) (sc := defScope s_dot) (by decide +kernel)) (fun _ _ _ _ _ => (pg_tup rfl (pgs_cons (pg_name (i := 3) sc_dot.nd rfl (by first | exact Or.inl rfl | exact Or.inr rfl)) (pgs_cons (pg_name (i := 4) sc_dot.nd rfl (by first | exact Or.inl rfl | exact Or.inr rfl)) (pgs_cons (pg_name (i := 5) sc_dot.nd rfl (by first | exact Or.inl rfl | exact Or.inr rfl)) pgs_nil))))) (fun _ _ _ _ _ => pts_nil) (fun _ _ _ _ _ => (pe_op (op_gMul (K := K)) (pe_op (op_gMul (K := K)) (pv 3) (pv 4)) (pv 5)))) pa_nil)))), fun x e hp he => ?_⟩
  obtain ⟨s', u, v⟩ := x
  obtain ⟨hs, hu, hv⟩ := hp
  have hs : Bt 300 s' := hs
  have hu : Bt 100000 u := hu
  have hv : Bt 100000 v := hv
  dsimp only [cxOf]
  refine r_ret ?_
  refine ev_cb (ea_cons (ev_lcM (fun d => match d with | .tup [.raw (.int a), .raw (.int b), .raw (.int c)] => .int (a * b * c) | _ => d) (ei_z3 ?_)))
  walk_at "d"
  refine ⟨_, _, _, _, _, _, rfl, .l, .l, .l, le_lit rfl, fun i d hi => ?_, ?_⟩
  · have : ∃ a b c : Int, d = .tup [.int a, .int b, .int c] ∧ a.natAbs < 2 ^ 300 ∧ b.natAbs < 2 ^ 100000 ∧ c.natAbs < 2 ^ 100000 := by
      match i, hi with
      | 0, hi => exact ⟨_, _, _, (Option.some.inj hi).symm, hs.1, hu.1, hv.1⟩
      | 1, hi => exact ⟨_, _, _, (Option.some.inj hi).symm, hs.2.1, hu.2.1, hv.2.1⟩
      | 2, hi => exact ⟨_, _, _, (Option.some.inj hi).symm, hs.2.2, hu.2.2, hv.2.2⟩
    obtain ⟨x, y, z, rfl, hx, hy, hz⟩ := this
    walk_at "d"
    refine ⟨mulW hx hy (by decide), ?_⟩
    walk_at "d"
    refine ⟨mulW (mul_lt hx hy) hz (by decide), ?_⟩
    walk_at "d"
    exact rfl
  · walk_at "d"
    refine ec_sum (ns := [s'.x * u.x * v.x, s'.y * u.y * v.y, s'.z * u.z * v.z]) .v (ret_v ?_)
    have e : s'.x * u.x * v.x + (s'.y * u.y * v.y + (s'.z * u.z * v.z + 0)) = dot s' u v := by unfold dot; omega
    show D.int (s'.x * u.x * v.x + (s'.y * u.y * v.y + (s'.z * u.z * v.z + 0))) = D.int (dot s' u v)
    rw [e]
open NT in
theorem near_bd {o u : Int} (h : 0 < u) : (near o u).natAbs ≤ o.natAbs + 1 := by
  obtain ⟨h1, h2⟩ := near_spec (o := o) h
  generalize near o u = t at *
  refine Nat.not_lt.mp fun c => ?_
  rcases Int.le_total 0 t with ht | ht
  · have : (o.natAbs + 2 : Int) * u ≤ t * u := Int.mul_le_mul_of_nonneg_right (by omega) (by omega)
    have e : (o.natAbs + 2 : Int) * u = (o.natAbs : Int) * u + 2 * u := by grind
    have k : (o.natAbs : Int) * 1 ≤ (o.natAbs : Int) * u := Int.mul_le_mul_of_nonneg_left (by omega) (by omega)
    omega
  · have : t * u ≤ -(o.natAbs + 2 : Int) * u := Int.mul_le_mul_of_nonneg_right (by omega) (by omega)
    have e : -(o.natAbs + 2 : Int) * u = -((o.natAbs : Int) * u) - 2 * u := by grind
    have k : (o.natAbs : Int) * 1 ≤ (o.natAbs : Int) * u := Int.mul_le_mul_of_nonneg_left (by omega) (by omega)
    omega
open NT in
theorem ok_nearest (C : Ctx K mg a) : FnAt P w K mg base CX0 1 "nearest" ["over", "under"] (SpP K (fun x : Int × Int => [.int x.1, .int x.2]) (fun x => 0 < x.2 ∧ x.2.natAbs < 2 ^ 8900 ∧ x.1.natAbs < 2 ^ 100000) (fun x d => d = .int (near x.1 x.2))) := by
  refine fn_at C.d_nearest sc_nearest (fun _ => rfl) fun f cdv A outer s H E hr => ⟨_, (pss_one (ps_ret (pe_op op_gDiv (pe_op (op_gAdd (K := K)) (pe_op (op_gMul (K := K)) pe_int (pv 0)) (pv 1)) (pe_op (op_gMul (K := K)) pe_int (pv 1))))), fun x e hp he => ?_⟩
  obtain ⟨o, u⟩ := x
  obtain ⟨h0, hu, ho⟩ := hp
  have h0 : 0 < u := h0
  have hu : u.natAbs < 2 ^ 8900 := hu
  have ho : o.natAbs < 2 ^ 100000 := ho
  have h2 : (2 : Int).natAbs < 2 ^ 60 := by decide
  dsimp only [cxOf]
  walk_at "d"
  refine ⟨mulW h2 ho (by decide), ?_⟩
  walk_at "d"
  refine ⟨mulW h2 hu (by decide), ?_⟩
  walk_at "d"
  refine ⟨divW (b := 8960) (by omega) (by have := mul_lt h2 hu; exact this) (by decide), ?_⟩
  exact ret_v rfl
open NT in
theorem ok_less (C : Ctx K mg a) : FnAt P w K mg base CX0 1 "less" ["row", "other", "times"] (SpP K (fun x : V3 × V3 × Int => [vD x.1, vD x.2.1, .int x.2.2]) (fun x => Bt 100000 x.2.1 ∧ x.2.2.natAbs < 2 ^ 50000) (fun x d => d = vD (less x.1 x.2.1 x.2.2))) := by
  refine fn_at C.d_less sc_less (fun _ => rfl) fun f cdv A outer s H E hr => ⟨_, (pss_one (ps_ret (pe_lc (own := [("one", 3), ("two", 4)]) (g := (gTup _ 2 (gCons (gName 3) (gCons (gName 4) gNil)))) (tt := tYes) rfl sc_less.nd (pi_zipS2 (K := K) rfl C.B.zip (pa_cons (pv 0) (pa_cons (pv 1) pa_nil))) (blkOk_by (N := n_less) (sc := defScope s_less) (by decide +kernel)) (fun _ _ _ _ _ => (pg_tup rfl (pgs_cons (pg_name (i := 3) sc_less.nd rfl (by first | exact Or.inl rfl | exact Or.inr rfl)) (pgs_cons (pg_name (i := 4) sc_less.nd rfl (by first | exact Or.inl rfl | exact Or.inr rfl)) pgs_nil)))) (fun _ _ _ _ _ => pts_nil) (fun _ _ _ _ _ => (pe_op op_gSub (pv 3) (pe_op (op_gMul (K := K)) (pv 2) (pv 4))))))), fun x e hp he => ?_⟩
  obtain ⟨u, v, t⟩ := x
  obtain ⟨hv, ht⟩ := hp
  have hv : Bt 100000 v := hv
  have ht : t.natAbs < 2 ^ 50000 := ht
  dsimp only [cxOf]
  refine r_ret ?_
  refine ev_lcM (fun d => match d with | .tup [.raw (.int a), .raw (.int b)] => .int (a - t * b) | _ => d) (ei_z2 ?_)
  walk_at "d"
  refine ⟨_, _, _, _, rfl, .l, .l, le_lit rfl, fun i d hi => ?_, ?_⟩
  · have : ∃ a b : Int, d = .tup [.int a, .int b] ∧ b.natAbs < 2 ^ 100000 := by
      match i, hi with
      | 0, hi => exact ⟨_, _, (Option.some.inj hi).symm, hv.1⟩
      | 1, hi => exact ⟨_, _, (Option.some.inj hi).symm, hv.2.1⟩
      | 2, hi => exact ⟨_, _, (Option.some.inj hi).symm, hv.2.2⟩
    obtain ⟨x, y, rfl, hy⟩ := this
    walk_at "d"
    refine ⟨mulW ht hy (by decide), ?_⟩
    walk_at "d"
    exact rfl
  · exact ret_v rfl

end
section
variable {P : Program} {w : World} {K : PySem.W.Frag} {mg : Str → Option Value} {base : Heap} {a : Adr}
/-! ### two rows as short as can be, three rows -/
open NT in
theorem Qb {s : V3} (hs : Pos3 s) {u : V3} {b : Nat} (h : (Qd s u).natAbs < 2 ^ b) : Bt b u := by
  obtain ⟨h1, h2, h3⟩ := Q_ge hs u
  have h0 := Q_nonneg hs u
  exact ⟨by omega, by omega, by omega⟩
open NT in
theorem dot_bt {s u v : V3} (hs : Bt 300 s) {a b : Nat} (hu : Bt a u) (hv : Bt b v) : (dot s u v).natAbs < 2 ^ (302 + a + b) := by
  have h1 := mul_lt (mul_lt hs.1 hu.1) hv.1
  have h2 := mul_lt (mul_lt hs.2.1 hu.2.1) hv.2.1
  have h3 := mul_lt (mul_lt hs.2.2 hu.2.2) hv.2.2
  have e : dot s u v = s.x * u.x * v.x + s.y * u.y * v.y + s.z * u.z * v.z := rfl
  rw [e]
  have := add_lt (add_lt h1 h2) (bit_le h3 (Nat.le_succ _))
  exact bit_le this (by omega)
theorem bd_succ {a b k : Nat} (h1 : a ≤ b + 1) (h2 : b < 2 ^ k) : a < 2 ^ (k + 1) := by
  have := Nat.pow_succ' (m := 2) (n := k)
  omega
open NT in
def stp2 (s : V3) (n : Nat) (u v : V3) : V3 × V3 :=
  if near (dot s u v) (dot s u u) = 0 then (u, v) else if dot s (less v u (near (dot s u v) (dot s u u))) (less v u (near (dot s u v) (dot s u u))) ≥ dot s u u then (u, less v u (near (dot s u v) (dot s u u))) else byTwo s n u (less v u (near (dot s u v) (dot s u u)))
open NT in
theorem ok_by_two (C : Ctx K mg a) : FnAt P w K mg base CX0 2 "by_two" ["sizes", "one", "other"] (SpP K (fun x : V3 × V3 × V3 => [vD x.1, vD x.2.1, vD x.2.2]) (fun x => (Pos3 x.1 ∧ Bt 300 x.1) ∧ (∃ w, det x.2.1 x.2.2 w ≠ 0) ∧ (Qd x.1 x.2.1 + Qd x.1 x.2.2).natAbs < 2 ^ 4000) (fun x d => d = .tup [vD (two x.1 x.2.1 x.2.2).1, vD (two x.1 x.2.1 x.2.2).2])) := by
  refine fn_at C.d_by_two sc_by_two (fun _ => rfl) fun f cdv A outer s H E hr => ⟨_, (pss_one (ps_while PassesOwn.never (pt_val pe_bl)
    (pss_cons (ps_if (pt_cmpR op_gGt (pe_fn (ok_dot C) (hr.mono (by omega)) rfl (pa_cons (pv 0) (pa_cons (pv 1) (pa_cons (pv 1) pa_nil)))) (pe_fn (ok_dot C) (hr.mono (by omega)) rfl (pa_cons (pv 0) (pa_cons (pv 2) (pa_cons (pv 2) pa_nil)))) (nomark _))
    (pss_one (ps_par (i := 1) (j := 2) rfl sc_by_two.nd rfl rfl (by decide) rfl rfl (pa_cons (pv 2) (pa_cons (pv 1) pa_nil)) rfl))
    pss_nil)
    (pss_cons (ps_set (i := 3) sc_by_two.nd rfl (by first | exact Or.inl rfl | exact Or.inr rfl) (pe_fn (ok_nearest C) (hr.mono (by omega)) rfl (pa_cons (pe_fn (ok_dot C) (hr.mono (by omega)) rfl (pa_cons (pv 0) (pa_cons (pv 1) (pa_cons (pv 2) pa_nil)))) (pa_cons (pe_fn (ok_dot C) (hr.mono (by omega)) rfl (pa_cons (pv 0) (pa_cons (pv 1) (pa_cons (pv 1) pa_nil)))) pa_nil))))
    (pss_cons (ps_if (pt_cmpR (op_gEq (K := K) (by exact hr.units)) (pv 3) pe_int (nomark _))
    (pss_one (ps_ret (pe_tup (pa_cons (pv 1) (pa_cons (pv 2) pa_nil)))))
    pss_nil)
    (pss_cons (ps_set (i := 2) sc_by_two.nd rfl (by first | exact Or.inl rfl | exact Or.inr rfl) (pe_fn (ok_less C) (hr.mono (by omega)) rfl (pa_cons (pv 2) (pa_cons (pv 1) (pa_cons (pv 3) pa_nil)))))
    (pss_one (ps_if (pt_cmpR op_gGe (pe_fn (ok_dot C) (hr.mono (by omega)) rfl (pa_cons (pv 0) (pa_cons (pv 2) (pa_cons (pv 2) pa_nil)))) (pe_fn (ok_dot C) (hr.mono (by omega)) rfl (pa_cons (pv 0) (pa_cons (pv 1) (pa_cons (pv 1) pa_nil)))) (nomark _))
    (pss_one (ps_ret (pe_tup (pa_cons (pv 1) (pa_cons (pv 2) pa_nil)))))
    pss_nil)))))))), fun x e hp he => ?_⟩
  obtain ⟨s', u, v⟩ := x
  obtain ⟨⟨hs, hsb⟩, ⟨w0, hd⟩, hq⟩ := hp
  have hs : Pos3 s' := hs
  have hsb : Bt 300 s' := hsb
  have hd : det u v w0 ≠ 0 := hd
  have hq : (Qd s' u + Qd s' v).natAbs < 2 ^ 4000 := hq
  dsimp only [cxOf]
  refine r_while ⟨fun m ρ M => ∃ (n : Nat) (u' v' : V3) (o3 : Option Sl), ρ = [some (.v (vD s')), some (.v (vD u')), some (.v (vD v')), o3] ∧ M = [] ∧ byTwo s' n u' v' = two s' u v ∧ det u' v' w0 ≠ 0 ∧ Qd s' u' + Qd s' v' < (n : Int) ∧ (Qd s' u' + Qd s' v').natAbs < 2 ^ 4000 ∧ m = n,
    ⟨_, fuel2 s' u v, u, v, none, rfl, rfl, rfl, hd, by have := Q_nonneg hs u; have := Q_nonneg hs v; unfold fuel2; omega, hq, rfl⟩, ?_⟩
  clear hd hq
  generalize two s' u v = R0
  rintro m ρ M ⟨n, u, v, o3, rfl, rfl, hR, hd, hn, hq, rfl⟩
  have q0 := Q_nonneg hs u
  have q1 := Q_nonneg hs v
  obtain ⟨n, rfl⟩ : ∃ n, m = n + 1 := ⟨m - 1, by omega⟩
  have bu : Bt 4000 u := Qb hs (by omega)
  have bv : Bt 4000 v := Qb hs (by omega)
  walk_at "d"
  refine iteT ?_
  refine r_seq (r_via (fun ρ' M' => ∃ (u v : V3), ρ' = [some (.v (vD s')), some (.v (vD u)), some (.v (vD v)), o3] ∧ M' = [] ∧ stp2 s' n u v = R0 ∧ det u v w0 ≠ 0 ∧ Qd s' u + Qd s' v < ((n + 1 : Nat) : Int) ∧ (Qd s' u + Qd s' v).natAbs < 2 ^ 4000 ∧ Qd s' u ≤ Qd s' v) ?_ ?_)
  · refine r_if ?_
    walk_at "d"
    refine ⟨(s', u, u), rfl, ⟨hsb, bu.le (by decide), bu.le (by decide)⟩, fun d ed => ?_⟩
    subst ed
    walk_at "d"
    refine ⟨(s', v, v), rfl, ⟨hsb, bv.le (by decide), bv.le (by decide)⟩, fun d ed => ?_⟩
    subst ed
    walk_at "d"
    refine ite_dec (fun h => ?_) (fun h => ?_)
    · have h : dot s' v v < dot s' u u := h
      walk_at "d"
      refine ⟨_, _, rfl, ?_⟩
      refine ⟨v, u, rfl, rfl, ?_, by rw [det_swap]; omega, by omega, by rw [Int.add_comm]; exact hq, by show dot s' v v ≤ dot s' u u; omega⟩
      rw [byTwo, if_pos h] at hR
      exact hR
    · have h : ¬ dot s' u u > dot s' v v := h
      walk_at "n"
      refine ⟨u, v, rfl, rfl, ?_, hd, hn, hq, by show dot s' u u ≤ dot s' v v; omega⟩
      rw [byTwo, if_neg h] at hR
      exact hR
  clear hR hd hn hq q0 q1 bu bv u v
  rintro ρ' M' ⟨u, v, rfl, rfl, hR, hd, hn, hq, hle⟩
  have q0 := Q_nonneg hs u
  have q1 := Q_nonneg hs v
  have qp := Q_pos hs (det_ne hd).1
  have bu : Bt 4000 u := Qb hs (by omega)
  have bv : Bt 4000 v := Qb hs (by omega)
  have dub := dot_bt hsb bu bv
  have tb := near_bd (o := dot s' u v) qp
  have tb2 : (near (dot s' u v) (dot s' u u)).natAbs < 2 ^ 50000 := by
    have h2 := bd_succ tb dub
    exact bit_le h2 (by decide)
  walk_at "d"
  refine r_asg ?_
  walk_at "d"
  refine ⟨(s', u, v), rfl, ⟨hsb, bu.le (by decide), bv.le (by decide)⟩, fun d ed => ?_⟩
  subst ed
  walk_at "d"
  refine ⟨(s', u, u), rfl, ⟨hsb, bu.le (by decide), bu.le (by decide)⟩, fun d ed => ?_⟩
  subst ed
  walk_at "d"
  refine ⟨(dot s' u v, dot s' u u), rfl, ⟨qp, ?_, bit_le dub (by decide)⟩, fun d ed => ?_⟩
  · have : (Qd s' u).natAbs < 2 ^ 4000 := by omega
    exact bit_le this (by decide)
  subst ed
  unfold stp2 at hR
  walk_at "d"
  refine ite_dec (fun h => ?_) (fun h => ?_)
  · have h : near (dot s' u v) (dot s' u u) = 0 := h
    rw [if_pos h] at hR
    walk_at "d"
    refine ret_v ?_
    show _ = D.tup [vD R0.1, vD R0.2]
    rw [← hR]
  · have h : ¬ near (dot s' u v) (dot s' u u) = 0 := h
    rw [if_neg h] at hR
    walk_at "d"
    refine r_asg ?_
    walk_at "d"
    refine ⟨(v, u, near (dot s' u v) (dot s' u u)), rfl, ⟨bu.le (by decide), tb2⟩, fun d ed => ?_⟩
    subst ed
    have hd2 := det_less2 u v w0 (near (dot s' u v) (dot s' u u))
    have bv2 : Bt 100000 (less v u (near (dot s' u v) (dot s' u u))) := by
      have k : ∀ {x y : Int}, x.natAbs < 2 ^ 4000 → y.natAbs < 2 ^ 4000 → (x - near (dot s' u v) (dot s' u u) * y).natAbs < 2 ^ 100000 := fun hx hy => by
        have h1 := bit_le hx (show 4000 ≤ 50000 + 4000 by decide)
        exact bit_le (sub_lt h1 (mul_lt tb2 hy)) (by decide)
      exact ⟨k bv.1 bu.1, k bv.2.1 bu.2.1, k bv.2.2 bu.2.2⟩
    generalize less v u (near (dot s' u v) (dot s' u u)) = v2 at *
    walk_at "d"
    refine ⟨(s', v2, v2), rfl, ⟨hsb, bv2, bv2⟩, fun d ed => ?_⟩
    subst ed
    walk_at "d"
    refine ⟨(s', u, u), rfl, ⟨hsb, bu.le (by decide), bu.le (by decide)⟩, fun d ed => ?_⟩
    subst ed
    walk_at "d"
    refine ite_dec (fun h2 => ?_) (fun h2 => ?_)
    · have h2 : dot s' v2 v2 ≥ dot s' u u := h2
      rw [if_pos h2] at hR
      walk_at "d"
      refine ret_v ?_
      show _ = D.tup [vD R0.1, vD R0.2]
      rw [← hR]
    · have h2 : ¬ dot s' v2 v2 ≥ dot s' u u := h2
      rw [if_neg h2] at hR
      have q2 := Q_nonneg hs v2
      have lt : Qd s' v2 < Qd s' u := by show dot s' v2 v2 < dot s' u u; omega
      walk_at "n"
      exact ⟨n, by omega, n, u, v2, _, rfl, rfl, hR, by rw [hd2]; exact hd, by omega, by omega, rfl⟩

end
section
variable {P : Program} {w : World} {K : PySem.W.Frag} {mg : Str → Option Value} {base : Heap} {a : Adr}
/-! ### the third row, the short base -/
open NT in
theorem cand_get (f g w : V3) (a b : Int) : ∀ i j : Nat, i < 3 → j < 3 → (cand f g w a b)[3 * i + j]? = some (less (less w f (a + ((i : Int) - 1))) g (b + ((j : Int) - 1))) := by
  intro i j hi hj
  have h1 : i = 0 ∨ i = 1 ∨ i = 2 := by omega
  have h2 : j = 0 ∨ j = 1 ∨ j = 2 := by omega
  rcases h1 with rfl | rfl | rfl <;> rcases h2 with rfl | rfl | rfl <;> rfl
open NT in
def optB (s : V3) : Option V3 → D
  | none => .non
  | some r => .tup [.int (dot s r r), vD r]
theorem seven (i : Int) : -1 + i = i - 1 := by omega
open NT in
theorem ok_shortened (C : Ctx K mg a) : FnAt P w K mg base CX0 2 "shortened" ["sizes", "first", "second", "third"] (SpP K (fun x : V3 × V3 × V3 × V3 => [vD x.1, vD x.2.1, vD x.2.2.1, vD x.2.2.2]) (fun x => (Pos3 x.1 ∧ Bt 300 x.1) ∧ (Bt 4000 x.2.1 ∧ Bt 4000 x.2.2.1 ∧ Bt 4000 x.2.2.2) ∧ ((Qd x.1 x.2.1).natAbs < 2 ^ 4000 ∧ (Qd x.1 x.2.2.1).natAbs < 2 ^ 4000) ∧ 0 < dot x.1 x.2.1 x.2.1 * dot x.1 x.2.2.1 x.2.2.1 - dot x.1 x.2.1 x.2.2.1 * dot x.1 x.2.1 x.2.2.1) (fun x d => d = vD (short x.1 x.2.1 x.2.2.1 x.2.2.2) ∧ Bt 100000 (short x.1 x.2.1 x.2.2.1 x.2.2.2))) := by
  refine fn_at C.d_shortened sc_shortened (fun _ => rfl) fun f cdv A outer s H E hr => ⟨_, (pss_cons (ps_par3 (i := 7) (j := 8) (l := 9) rfl sc_shortened.nd rfl rfl rfl (by decide) (by decide) (by decide) rfl rfl rfl (pa_cons (pe_fn (ok_dot C) (hr.mono (by omega)) rfl (pa_cons (pv 0) (pa_cons (pv 1) (pa_cons (pv 1) pa_nil)))) (pa_cons (pe_fn (ok_dot C) (hr.mono (by omega)) rfl (pa_cons (pv 0) (pa_cons (pv 2) (pa_cons (pv 2) pa_nil)))) (pa_cons (pe_fn (ok_dot C) (hr.mono (by omega)) rfl (pa_cons (pv 0) (pa_cons (pv 1) (pa_cons (pv 2) pa_nil)))) pa_nil))) rfl)
    (pss_cons (ps_par (i := 10) (j := 11) rfl sc_shortened.nd rfl rfl (by decide) rfl rfl (pa_cons (pe_fn (ok_dot C) (hr.mono (by omega)) rfl (pa_cons (pv 0) (pa_cons (pv 1) (pa_cons (pv 3) pa_nil)))) (pa_cons (pe_fn (ok_dot C) (hr.mono (by omega)) rfl (pa_cons (pv 0) (pa_cons (pv 2) (pa_cons (pv 3) pa_nil)))) pa_nil)) rfl)
    (pss_cons (ps_set (i := 4) sc_shortened.nd rfl (by first | exact Or.inl rfl | exact Or.inr rfl) (pe_op op_gSub (pe_op (op_gMul (K := K)) (pv 7) (pv 8)) (pe_op (op_gMul (K := K)) (pv 9) (pv 9))))
    (pss_cons (ps_par (i := 12) (j := 13) rfl sc_shortened.nd rfl rfl (by decide) rfl rfl (pa_cons (pe_fn (ok_nearest C) (hr.mono (by omega)) rfl (pa_cons (pe_op op_gSub (pe_op (op_gMul (K := K)) (pv 10) (pv 8)) (pe_op (op_gMul (K := K)) (pv 11) (pv 9))) (pa_cons (pv 4) pa_nil))) (pa_cons (pe_fn (ok_nearest C) (hr.mono (by omega)) rfl (pa_cons (pe_op op_gSub (pe_op (op_gMul (K := K)) (pv 11) (pv 7)) (pe_op (op_gMul (K := K)) (pv 10) (pv 9))) (pa_cons (pv 4) pa_nil))) pa_nil)) rfl)
    (pss_cons (ps_set (i := 5) sc_shortened.nd rfl (by first | exact Or.inl rfl | exact Or.inr rfl) pe_non)
    (pss_cons (ps_for PassesOwn.never rfl (pi_seq (K := K) (pe_tup (pa_cons (pe_un un_neg pe_int) (pa_cons pe_int (pa_cons pe_int pa_nil))))) (pg_name (i := 6) sc_shortened.nd rfl (by first | exact Or.inl rfl | exact Or.inr rfl))
    (pss_one (ps_for PassesOwn.never rfl (pi_seq (K := K) (pe_tup (pa_cons (pe_un un_neg pe_int) (pa_cons pe_int (pa_cons pe_int pa_nil))))) (pg_name (i := 14) sc_shortened.nd rfl (by first | exact Or.inl rfl | exact Or.inr rfl))
    (pss_cons (ps_set (i := 15) sc_shortened.nd rfl (by first | exact Or.inl rfl | exact Or.inr rfl) (pe_fn (ok_less C) (hr.mono (by omega)) rfl (pa_cons (pe_fn (ok_less C) (hr.mono (by omega)) rfl (pa_cons (pv 3) (pa_cons (pv 1) (pa_cons (pe_op (op_gAdd (K := K)) (pv 12) (pv 6)) pa_nil)))) (pa_cons (pv 2) (pa_cons (pe_op (op_gAdd (K := K)) (pv 13) (pv 14)) pa_nil)))))
    (pss_cons (ps_set (i := 16) sc_shortened.nd rfl (by first | exact Or.inl rfl | exact Or.inr rfl) (pe_fn (ok_dot C) (hr.mono (by omega)) rfl (pa_cons (pv 0) (pa_cons (pv 15) (pa_cons (pv 15) pa_nil)))))
    (pss_one (ps_if (PW.pt (pw_or (pt_cmpR op_gIs (pv 5) pe_non (nomark _)) (pw_or1 (pt_cmpR op_gLt (pv 16) (pe_ix (ix_any (K := K)) (pv 5) pe_int (fun _ _ => rfl)) (nomark _)))))
    (pss_one (ps_set (i := 5) sc_shortened.nd rfl (by first | exact Or.inl rfl | exact Or.inr rfl) (pe_tup (pa_cons (pv 16) (pa_cons (pv 15) pa_nil)))))
    pss_nil)))))))
    (pss_one (ps_ret (pe_ix (ix_any (K := K)) (pv 5) pe_int (fun _ _ => rfl)))))))))), fun x e hp he => ?_⟩
  obtain ⟨s', f', g, w0⟩ := x
  obtain ⟨⟨hs, hsb⟩, ⟨bf, bg, bw⟩, ⟨qf, qg⟩, hu⟩ := hp
  have hs : Pos3 s' := hs
  have hsb : Bt 300 s' := hsb
  have bf : Bt 4000 f' := bf
  have bg : Bt 4000 g := bg
  have bw : Bt 4000 w0 := bw
  have qf : (Qd s' f').natAbs < 2 ^ 4000 := qf
  have qg : (Qd s' g).natAbs < 2 ^ 4000 := qg
  have hu : 0 < dot s' f' f' * dot s' g g - dot s' f' g * dot s' f' g := hu
  have dfg := dot_bt hsb bf bg
  have dfw := dot_bt hsb bf bw
  have dgw := dot_bt hsb bg bw
  have up : ∀ {i : Int} {b : Nat}, i.natAbs < 2 ^ b → b ≤ 20000 → i.natAbs < 2 ^ 20000 := fun h hb => bit_le h hb
  have ub : (dot s' f' f' * dot s' g g - dot s' f' g * dot s' f' g).natAbs < 2 ^ 8900 := by
    have h1 := mul_lt qf qg
    have h2 := sqn (dot s' f' g)
    have h3 : (dot s' f' f' * dot s' g g - dot s' f' g * dot s' f' g).natAbs ≤ (Qd s' f' * Qd s' g).natAbs := by
      have : Qd s' f' * Qd s' g = dot s' f' f' * dot s' g g := rfl
      rw [this]; omega
    exact bit_le (Nat.lt_of_le_of_lt h3 h1) (by decide)
  have ob : ∀ {i j k l : Int}, i.natAbs < 2 ^ 8302 → j.natAbs < 2 ^ 8302 → k.natAbs < 2 ^ 8302 → l.natAbs < 2 ^ 8302 → (i * j - k * l).natAbs < 2 ^ 20000 := fun h1 h2 h3 h4 => bit_le (sub_lt (mul_lt h1 h2) (mul_lt h3 h4)) (by decide)
  have qf' : (dot s' f' f').natAbs < 2 ^ 8302 := bit_le qf (by decide)
  have qg' : (dot s' g g).natAbs < 2 ^ 8302 := bit_le qg (by decide)
  have oi := ob dfw qg' dgw dfg
  have oj := ob dgw qf' dfw dfg
  have ib := bd_succ (near_bd (o := dot s' f' w0 * dot s' g g - dot s' g w0 * dot s' f' g) hu) oi
  have jb := bd_succ (near_bd (o := dot s' g w0 * dot s' f' f' - dot s' f' w0 * dot s' f' g) hu) oj
  dsimp only [cxOf]
  refine r_seq (r_par3 ?_)
  refine ena_cons (en_ev ?_)
  walk_at "d"
  refine ⟨(s', f', f'), rfl, ⟨hsb, bf.le (by decide), bf.le (by decide)⟩, fun d ed => ?_⟩
  subst ed
  refine ena_cons (en_ev ?_)
  walk_at "d"
  refine ⟨(s', g, g), rfl, ⟨hsb, bg.le (by decide), bg.le (by decide)⟩, fun d ed => ?_⟩
  subst ed
  refine ena_cons (en_ev ?_)
  walk_at "d"
  refine ⟨(s', f', g), rfl, ⟨hsb, bf.le (by decide), bg.le (by decide)⟩, fun d ed => ?_⟩
  subst ed
  refine ena_nil ⟨_, _, _, rfl, ?_⟩
  walk_at "d"
  refine ⟨(s', f', w0), rfl, ⟨hsb, bf.le (by decide), bw.le (by decide)⟩, fun d ed => ?_⟩
  subst ed
  walk_at "d"
  refine ⟨(s', g, w0), rfl, ⟨hsb, bg.le (by decide), bw.le (by decide)⟩, fun d ed => ?_⟩
  subst ed
  walk_at "d"
  refine ⟨_, _, rfl, ?_⟩
  walk_at "d"
  refine r_asg ?_
  walk_at "d"
  refine ⟨mulW qf' qg' (by decide), ?_⟩
  walk_at "d"
  refine ⟨mulW dfg dfg (by decide), ?_⟩
  walk_at "d"
  refine ⟨mulW dfw qg' (by decide), ?_⟩
  walk_at "d"
  refine ⟨mulW dgw dfg (by decide), ?_⟩
  walk_at "d"
  refine ⟨(dot s' f' w0 * dot s' g g - dot s' g w0 * dot s' f' g, dot s' f' f' * dot s' g g - dot s' f' g * dot s' f' g), rfl, ⟨hu, ub, bit_le oi (by decide)⟩, fun d ed => ?_⟩
  subst ed
  walk_at "d"
  refine ⟨mulW dgw qf' (by decide), ?_⟩
  walk_at "d"
  refine ⟨mulW dfw dfg (by decide), ?_⟩
  walk_at "d"
  refine ⟨(dot s' g w0 * dot s' f' f' - dot s' f' w0 * dot s' f' g, dot s' f' f' * dot s' g g - dot s' f' g * dot s' f' g), rfl, ⟨hu, ub, bit_le oj (by decide)⟩, fun d ed => ?_⟩
  subst ed
  walk_at "d"
  refine ⟨_, _, rfl, ?_⟩
  have ei : near (dot s' f' w0 * dot s' g g - dot s' g w0 * dot s' f' g) (dot s' f' f' * dot s' g g - dot s' f' g * dot s' f' g) = iOf s' f' g w0 := rfl
  have ej : near (dot s' g w0 * dot s' f' f' - dot s' f' w0 * dot s' f' g) (dot s' f' f' * dot s' g g - dot s' f' g * dot s' f' g) = jOf s' f' g w0 := rfl
  rw [ei] at ib
  rw [ej] at jb
  dsimp only
  rw [ei, ej]
  have lb : ∀ {u v : V3} {t : Int} {p q : Nat} (r : Nat), Bt p u → Bt q v → t.natAbs < 2 ^ 20002 → p ≤ r → 20002 + q ≤ r → Bt (r + 1) (less u v t) := by
    intro u v t p q r hu hv ht hpr hqr
    have k : ∀ {x y : Int}, x.natAbs < 2 ^ p → y.natAbs < 2 ^ q → (x - t * y).natAbs < 2 ^ (r + 1) := fun hx hy => sub_lt (bit_le hx hpr) (bit_le (mul_lt ht hy) hqr)
    exact ⟨k hu.1 hv.1, k hu.2.1 hv.2.1, k hu.2.2 hv.2.2⟩
  have hall : ∀ r, r ∈ cand f' g w0 (iOf s' f' g w0) (jOf s' f' g w0) → Bt 100000 r := by
    intro r hr
    obtain ⟨q, hq, rfl⟩ := List.mem_map.mp hr
    have q1 : q.1.natAbs ≤ 1 ∧ q.2.natAbs ≤ 1 := by
      unfold pm at hq
      simp only [List.mem_cons, List.not_mem_nil, or_false] at hq
      rcases hq with rfl | rfl | rfl | rfl | rfl | rfl | rfl | rfl | rfl <;> decide
    have t1 : (iOf s' f' g w0 + q.1).natAbs < 2 ^ 20002 := add_lt ib (lit_bit (by omega) (by decide))
    have t2 : (jOf s' f' g w0 + q.2).natAbs < 2 ^ 20002 := add_lt jb (lit_bit (by omega) (by decide))
    exact (lb 24010 (lb 24002 bw bf t1 (by decide) (by decide)) bg t2 (by decide) (by decide)).le (by decide)
  have hsh : ∀ b, (cand f' g w0 (iOf s' f' g w0) (jOf s' f' g w0)).foldl (minBy s') none = some b → short s' f' g w0 = b ∧ Bt 100000 b := fun b hb => by
    refine ⟨by unfold short; rw [hb]; rfl, ?_⟩
    obtain ⟨r, e1, e2, _⟩ := minBy_ok s' (cand f' g w0 (iOf s' f' g w0) (jOf s' f' g w0)) none (.inl (by simp [cand, pm]))
    rw [e1] at hb
    cases hb
    rcases e2 with h | h
    · exact hall _ h
    · cases h
  have hne : (cand f' g w0 (iOf s' f' g w0) (jOf s' f' g w0)).foldl (minBy s') none ≠ none := by
    obtain ⟨r, e1, _⟩ := minBy_ok s' (cand f' g w0 (iOf s' f' g w0) (jOf s' f' g w0)) none (.inl (by simp [cand, pm]))
    rw [e1]; simp
  have hlen : (cand f' g w0 (iOf s' f' g w0) (jOf s' f' g w0)).length = 9 := by simp [cand, pm]
  have hget := cand_get f' g w0 (iOf s' f' g w0) (jOf s' f' g w0)
  generalize iOf s' f' g w0 = I0 at *
  generalize jOf s' f' g w0 = J0 at *
  generalize cand f' g w0 I0 J0 = L at *
  generalize short s' f' g w0 = SH at *
  generalize dot s' f' f' * dot s' g g - dot s' f' g * dot s' f' g = UN at *
  generalize dot s' f' f' = a1 at *
  generalize dot s' g g = a2 at *
  generalize dot s' f' g = a3 at *
  generalize dot s' f' w0 = a4 at *
  generalize dot s' g w0 = a5 at *
  clear oi oj ob ub dfg dfw dgw qf qg qf' qg' hu
  walk_at "d"
  refine r_asg ?_
  walk_at "d"
  refine r_for [6] ?_
  refine ei_seqT ?_
  walk_at "d"
  refine ⟨_, rfl, fun i ρ M => ∃ (o6 o14 o15 o16 : Option Sl), ρ = [some (.v (vD s')), some (.v (vD f')), some (.v (vD g)), some (.v (vD w0)), some (.v (.int UN)), some (.v (optB s' ((L.take (3 * i)).foldl (minBy s') none))), o6, some (.v (.int a1)), some (.v (.int a2)), some (.v (.int a3)), some (.v (.int a4)), some (.v (.int a5)), some (.v (.int I0)), some (.v (.int J0)), o14, o15, o16] ∧ M = [], ⟨_, _, _, _, rfl, rfl⟩, ?_, ?_⟩
  · rintro i d ρ M hi ⟨o6, o14, o15, o16, rfl, rfl⟩
    obtain ⟨il, rfl⟩ : i < 3 ∧ d = .int ((i : Int) - 1) := by
      match i, hi with
      | 0, hi => exact ⟨by decide, (Option.some.inj hi).symm⟩
      | 1, hi => exact ⟨by decide, (Option.some.inj hi).symm⟩
      | 2, hi => exact ⟨by decide, (Option.some.inj hi).symm⟩
    walk_at "d"
    refine r_for [14] ?_
    refine ei_seqT ?_
    walk_at "d"
    refine ⟨_, rfl, fun j ρ M => ∃ (o14 o15 o16 : Option Sl), ρ = [some (.v (vD s')), some (.v (vD f')), some (.v (vD g)), some (.v (vD w0)), some (.v (.int UN)), some (.v (optB s' ((L.take (3 * i + j)).foldl (minBy s') none))), some (.v (.int ((i : Int) - 1))), some (.v (.int a1)), some (.v (.int a2)), some (.v (.int a3)), some (.v (.int a4)), some (.v (.int a5)), some (.v (.int I0)), some (.v (.int J0)), o14, o15, o16] ∧ M = [], ⟨_, _, _, rfl, rfl⟩, ?_, ?_⟩
    · rintro j d ρ M hj ⟨o14, o15, o16, rfl, rfl⟩
      obtain ⟨jl, rfl⟩ : j < 3 ∧ d = .int ((j : Int) - 1) := by
        match j, hj with
        | 0, hj => exact ⟨by decide, (Option.some.inj hj).symm⟩
        | 1, hj => exact ⟨by decide, (Option.some.inj hj).symm⟩
        | 2, hj => exact ⟨by decide, (Option.some.inj hj).symm⟩
      have hg := hget i j il jl
      have es : (L.take (3 * i + (j + 1))).foldl (minBy s') none = minBy s' ((L.take (3 * i + j)).foldl (minBy s') none) (less (less w0 f' (I0 + ((i : Int) - 1))) g (J0 + ((j : Int) - 1))) := by
        have : 3 * i + (j + 1) = 3 * i + j + 1 := by omega
        rw [this, take_snoc hg, List.foldl_append]; rfl
      dsimp only
      rw [es]
      generalize (L.take (3 * i + j)).foldl (minBy s') none = best at *
      have t1 : (I0 + ((i : Int) - 1)).natAbs < 2 ^ 20002 := add_lt ib (lit_bit (by omega) (by decide))
      have t2 : (J0 + ((j : Int) - 1)).natAbs < 2 ^ 20002 := add_lt jb (lit_bit (by omega) (by decide))
      have r1 := lb 24002 bw bf t1 (by decide) (by decide)
      have r2 := lb 24010 r1 bg t2 (by decide) (by decide)
      walk_at "d"
      refine r_asg ?_
      walk_at "d"
      refine ⟨(w0, f', I0 + ((i : Int) - 1)), rfl, ⟨bf.le (by decide), bit_le t1 (by decide)⟩, fun d ed => ?_⟩
      subst ed
      walk_at "d"
      refine ⟨(less w0 f' (I0 + ((i : Int) - 1)), g, J0 + ((j : Int) - 1)), rfl, ⟨bg.le (by decide), bit_le t2 (by decide)⟩, fun d ed => ?_⟩
      subst ed
      dsimp only
      generalize less (less w0 f' (I0 + ((i : Int) - 1))) g (J0 + ((j : Int) - 1)) = r at *
      walk_at "d"
      refine r_asg ?_
      walk_at "d"
      refine ⟨(s', r, r), rfl, ⟨hsb, r2.le (by decide), r2.le (by decide)⟩, fun d ed => ?_⟩
      subst ed
      walk_at "d"
      cases best with
      | none =>
        refine iteT ?_
        refine iteT ?_
        refine r_asg ?_
        walk_at "d"
        exact ⟨_, _, _, rfl, rfl⟩
      | some b =>
        refine iteF ?_
        walk_at "d"
        refine x_ixT ⟨_, rfl, ?_⟩
        walk_at "d"
        refine ite_dec (fun h => ?_) (fun h => ?_)
        · have em : minBy s' (some b) r = some r := by unfold minBy; dsimp only; rw [if_pos h]
          rw [em]
          refine r_asg ?_
          walk_at "d"
          exact ⟨_, _, _, rfl, rfl⟩
        · have em : minBy s' (some b) r = some b := by unfold minBy; dsimp only; rw [if_neg h]
          rw [em]
          walk_at "n"
          exact ⟨_, _, _, rfl, rfl⟩
    · rintro ρ M ⟨o14, o15, o16, rfl, rfl⟩
      exact ⟨_, _, _, _, rfl, rfl⟩
  · rintro ρ M ⟨o6, o14, o15, o16, rfl, rfl⟩
    rw [show ∀ n, n = 3 → L.take (3 * n) = L from fun n hn => by rw [hn]; exact List.take_of_length_le (by omega)]
    · cases hb : L.foldl (minBy s') none with
      | none => exact absurd hb hne
      | some b =>
        obtain ⟨hs1, hs2⟩ := hsh b hb
        subst hs1
        walk_at "d"
        refine x_ixT ⟨_, rfl, ?_⟩
        exact ret_v ⟨rfl, hs2⟩
    · rfl
open NT in
theorem ok_short_base (C : Ctx K mg a) : FnAt P w K mg base CX0 3 "short_base" ["sizes", "base"] (SpP K (fun x : V3 × V3 × V3 × V3 => [vD x.1, .lst [vD x.2.1, vD x.2.2.1, vD x.2.2.2]]) (fun x => (Pos3 x.1 ∧ Bt 300 x.1) ∧ det x.2.1 x.2.2.1 x.2.2.2 ≠ 0 ∧ (Qd x.1 x.2.1 + Qd x.1 x.2.2.1).natAbs < 2 ^ 4000 ∧ Bt 4000 x.2.2.2) (fun x d => ∃ b : B3, b = shBase x.1 (fuel2 x.1 x.2.1 x.2.2.1) x.2.1 x.2.2.1 x.2.2.2 ∧ d = .lst [vD b.1, vD b.2.1, vD b.2.2])) := by
  refine fn_at C.d_short_base sc_short_base (fun _ => rfl) fun f cdv A outer s H E hr => ⟨_, (pss_cons (ps_asg (pv 1) (pg_lst rfl (pgs_cons (pg_name (i := 2) sc_short_base.nd rfl (by first | exact Or.inl rfl | exact Or.inr rfl)) (pgs_cons (pg_name (i := 3) sc_short_base.nd rfl (by first | exact Or.inl rfl | exact Or.inr rfl)) (pgs_cons (pg_name (i := 4) sc_short_base.nd rfl (by first | exact Or.inl rfl | exact Or.inr rfl)) pgs_nil)))))
    (pss_one (ps_while PassesOwn.never (pt_val pe_bl)
    (pss_cons (ps_asg (pe_fn (ok_by_two C) (hr.mono (by omega)) rfl (pa_cons (pv 0) (pa_cons (pv 2) (pa_cons (pv 3) pa_nil)))) (pg_tup rfl (pgs_cons (pg_name (i := 2) sc_short_base.nd rfl (by first | exact Or.inl rfl | exact Or.inr rfl)) (pgs_cons (pg_name (i := 3) sc_short_base.nd rfl (by first | exact Or.inl rfl | exact Or.inr rfl)) pgs_nil))))
    (pss_cons (ps_set (i := 5) sc_short_base.nd rfl (by first | exact Or.inl rfl | exact Or.inr rfl) (pe_fn (ok_shortened C) (hr.mono (by omega)) rfl (pa_cons (pv 0) (pa_cons (pv 2) (pa_cons (pv 3) (pa_cons (pv 4) pa_nil))))))
    (pss_cons (ps_if (pt_cmpR op_gGe (pe_fn (ok_dot C) (hr.mono (by omega)) rfl (pa_cons (pv 0) (pa_cons (pv 5) (pa_cons (pv 5) pa_nil)))) (pe_fn (ok_dot C) (hr.mono (by omega)) rfl (pa_cons (pv 0) (pa_cons (pv 3) (pa_cons (pv 3) pa_nil)))) (nomark _))
    (pss_one (ps_ret (pe_lst (pa_cons (pv 2) (pa_cons (pv 3) (pa_cons (pv 5) pa_nil))))))
    pss_nil)
    (pss_one (ps_par (i := 4) (j := 3) rfl sc_short_base.nd rfl rfl (by decide) rfl rfl (pa_cons (pv 3) (pa_cons (pv 5) pa_nil)) rfl)))))))), fun x e hp he => ?_⟩
  obtain ⟨s', u, v, w0⟩ := x
  obtain ⟨⟨hs, hsb⟩, hd, hq, bw⟩ := hp
  have hs : Pos3 s' := hs
  have hsb : Bt 300 s' := hsb
  have hd : det u v w0 ≠ 0 := hd
  have hq : (Qd s' u + Qd s' v).natAbs < 2 ^ 4000 := hq
  have bw : Bt 4000 w0 := bw
  have kT : Kind3 (fun _ => True) := fun _ _ _ _ _ => trivial
  dsimp only [cxOf]
  refine r_seq (r_asgG (is := [2, 3, 4]) ?_)
  walk_at "d"
  refine ⟨_, rfl, ?_⟩
  refine eg_lst rfl ?_
  walk_at "d"
  refine r_while ⟨fun m ρ M => ∃ (n : Nat) (u' v' w' : V3) (o5 : Option Sl), ρ = [some (.v (vD s')), some (.v (.lst [vD u, vD v, vD w0])), some (.v (vD u')), some (.v (vD v')), some (.v (vD w')), o5] ∧ M = [] ∧ shBase s' n u' v' w' = shBase s' (fuel2 s' u v) u v w0 ∧ det u' v' w' ≠ 0 ∧ Qd s' u' + Qd s' v' < (n : Int) ∧ (Qd s' u' + Qd s' v').natAbs < 2 ^ 4000 ∧ Bt 4000 w' ∧ m = n,
    ⟨_, fuel2 s' u v, u, v, w0, none, rfl, rfl, rfl, hd, by have := Q_nonneg hs u; have := Q_nonneg hs v; unfold fuel2; omega, hq, bw, rfl⟩, ?_⟩
  generalize hR0 : shBase s' (fuel2 s' u v) u v w0 = R0
  rintro m ρ M ⟨n, u1, v1, w1, o5, rfl, rfl, hR, hd, hn, hq, bw, rfl⟩
  have q0 := Q_nonneg hs u1
  have q1 := Q_nonneg hs v1
  obtain ⟨n, rfl⟩ : ∃ n, m = n + 1 := ⟨m - 1, by omega⟩
  have t := two_ok (w := w1) hs kT hd trivial trivial
  rw [shBase] at hR
  walk_at "d"
  refine iteT ?_
  walk_at "d"
  refine r_asgG (is := [2, 3]) ?_
  walk_at "d"
  refine ⟨(s', u1, v1), rfl, ⟨⟨hs, hsb⟩, ⟨w1, hd⟩, hq⟩, fun d ed => ?_⟩
  subst ed
  dsimp only
  generalize (two s' u1 v1).1 = f' at *
  generalize (two s' u1 v1).2 = g at *
  have dne : det f' g w1 ≠ 0 := by rcases t.dt with e | e <;> rw [e] <;> omega
  have tsum := t.sum
  have qf := Q_nonneg hs f'
  have qg := Q_nonneg hs g
  have qfp := Q_pos hs (det_ne dne).1
  have nf : (Qd s' f').natAbs < 2 ^ 4000 := by omega
  have ng : (Qd s' g).natAbs < 2 ^ 4000 := by omega
  have bf := Qb hs nf
  have bg := Qb hs ng
  have hu : 0 < dot s' f' f' * dot s' g g - dot s' f' g * dot s' f' g := by
    have m4 := quarter (d := Qd s' f') (t := dot s' f' g) t.in1 t.in2
    have q12 : Qd s' f' * Qd s' f' ≤ Qd s' f' * Qd s' g := Int.mul_le_mul_of_nonneg_left t.le (by omega)
    have q11 : 0 < Qd s' f' * Qd s' f' := Int.mul_pos qfp qfp
    show 0 < Qd s' f' * Qd s' g - dot s' f' g * dot s' f' g
    omega
  have sp := short_p (s := s') kT (f := f') (g := g) (w := w1) trivial trivial trivial
  walk_at "d"
  refine ⟨_, rfl, ?_⟩
  walk_at "d"
  refine r_asg ?_
  walk_at "d"
  refine ⟨(s', f', g, w1), rfl, ⟨⟨hs, hsb⟩, ⟨bf, bg, bw⟩, ⟨nf, ng⟩, hu⟩, ?_⟩
  rintro _ ⟨rfl, sbt⟩
  dsimp only at sbt ⊢
  generalize hl : short s' f' g w1 = l at *
  walk_at "d"
  refine ⟨(s', l, l), rfl, ⟨hsb, sbt, sbt⟩, fun d ed => ?_⟩
  subst ed
  walk_at "d"
  refine ⟨(s', g, g), rfl, ⟨hsb, bg.le (by decide), bg.le (by decide)⟩, fun d ed => ?_⟩
  subst ed
  walk_at "d"
  have ql := Q_nonneg hs l
  refine ite_dec (fun h => ?_) (fun h => ?_)
  · have h : Qd s' l ≥ Qd s' g := h
    rw [if_pos h] at hR
    walk_at "d"
    refine ret_v ⟨R0, rfl, ?_⟩
    rw [← hR]
  · have h : ¬ Qd s' l ≥ Qd s' g := h
    rw [if_neg h] at hR
    have e2 : det f' l g = - det f' g w1 := by rw [det_swap2, sp.2]
    walk_at "n"
    refine ⟨_, _, rfl, ?_⟩
    exact ⟨n, by omega, n, f', l, g, _, rfl, rfl, hR, by rw [e2]; omega, by omega, by omega, bg, rfl⟩

end
section
variable {P : Program} {w : World} {K : PySem.W.Frag} {mg : Str → Option Value} {base : Heap} {a : Adr}
theorem ev_cutE {K : PySem.W.Frag} {ρ : Rho} {M : List MO} {Q : Sl → Prop} {te : TE} {tt : TT} {wi : TI} {g : TG} {vs : List Nat} (f : Int → Bool) (h : EvI K wi ρ M fun items => ∃ ns, items = D.ints ns ∧ ns.length ≤ 16777216 ∧ (∀ n, n ∈ ns → EvG K g vs (.int n) (wipeR ρ vs) fun ρ' => EvT K tt ρ' M fun b => b = f n ∧ (b = true → EvP K te ρ' M fun s => s = .v (.int n))) ∧ Q (.v (.lst (D.ints (ns.filter f))))) : EvP K (tLc wi g tt te vs) ρ M Q := by
  refine ev_lc fun σ α F H en S k kk => h σ α F H en S k fun J F' H' items m S' ok ⟨ns, e1, h1, h2, h3⟩ => kk J F' H' items m S' ok ?_
  subst e1
  refine ⟨by simpa [D.ints] using h1, fun i acc => acc = D.ints ((ns.take i).filter f), rfl, fun i d acc hi ha => ?_, fun acc ha => ?_⟩
  · obtain ⟨n, hn, rfl⟩ := ints_get hi
    subst ha
    have hf : (ns.take (i + 1)).filter f = (ns.take i).filter f ++ (if f n = true then [n] else []) := by
      rw [take_snoc hn, List.filter_append]
      simp only [List.filter_cons, List.filter_nil]
    intro σ α F H v en s hd k kk
    refine h2 n (List.mem_of_getElem? hn) σ α F H v en s hd k fun σ' ρ' en' hl hj q => kk σ' ρ' en' hl hj ?_
    intro σ α F H en S k kk
    refine q σ α F H en S k fun b F' H' m S' ⟨eb, q2⟩ => kk b F' H' m S' ?_
    subst eb
    refine ite_b (fun hb => ?_) (fun hb => ?_)
    · refine (q2 hb).mono fun s es => ⟨_, es, ?_⟩
      show _ = D.ints _
      rw [hf, if_pos hb]; simp [D.ints]
    · show _ = D.ints _
      rw [hf, if_neg (by rw [hb]; decide)]; simp
  · have hl : (D.ints ns).length = ns.length := by simp [D.ints]
    rw [hl, List.take_length] at ha
    subst ha
    exact h3

end
section
variable {P : Program} {w : World} {K : PySem.W.Frag} {mg : Str → Option Value} {base : Heap} {a : Adr}
/-! ### narrowed grids, near rows -/
abbrev bD (b : NT.B3) : D := .lst [vD b.1, vD b.2.1, vD b.2.2]
open NT in
theorem val_bt {k u : V3} {a b : Nat} (hk : Bt a k) (hu : Bt b u) : (val k u).natAbs < 2 ^ (a + b + 2) := by
  have h1 := mul_lt hk.1 hu.1
  have h2 := mul_lt hk.2.1 hu.2.1
  have h3 := mul_lt hk.2.2 hu.2.2
  have e : val k u = k.x * u.x + k.y * u.y + k.z * u.z := rfl
  rw [e]
  exact add_lt (add_lt h1 h2) (bit_le h3 (Nat.le_succ _))
theorem atI_ofN {ds : List D} {i : Nat} {d : D} (h : ds[i]? = some d) : atI ds (i : Int) = some d := by
  have hl := (List.getElem?_eq_some_iff.mp h).1
  unfold atI ixN
  have h1 : (i : Int) < (ds.length : Int) := by omega
  simp [h1, h]
open NT in
theorem ok_narrowed (C : Ctx K mg a) : FnAt P w K mg base CX0 2 "narrowed" ["base", "form", "many"] (SpP K (fun x : B3 × V3 × Nat => [bD x.1, vD x.2.1, .int (x.2.2 : Int)]) (fun x => (Bt 3000 x.1.1 ∧ Bt 3000 x.1.2.1 ∧ Bt 3000 x.1.2.2) ∧ Bt 60 x.2.1 ∧ (Md x.2.2 ∧ x.2.2 ≤ 2000000) ∧ Free x.1 x.2.1 x.2.2) (fun x d => d = bD (narF x.1 x.2.1 x.2.2))) := by
  refine fn_at C.d_narrowed sc_narrowed (fun _ => rfl) fun f cdv A outer s H E hr => ⟨_, (pss_cons (ps_set (i := 3) sc_narrowed.nd rfl (by first | exact Or.inl rfl | exact Or.inr rfl) (pe_lc (own := [("row", 8)]) (g := (gName 8)) (tt := tYes) rfl sc_narrowed.nd (pi_seq (K := K) (pv 0)) (blkOk_by (N := n_narrowed) (sc := defScope s_narrowed) (by decide +kernel)) (fun _ _ _ _ _ => (pg_name (i := 8) sc_narrowed.nd rfl (by first | exact Or.inl rfl | exact Or.inr rfl))) (fun _ _ _ _ _ => pts_nil) (fun _ _ _ _ _ => (pe_op op_gMod (pe_sum (K := K) C.B.sum rfl rfl (pa_cons (pe_lc (own := [("one", 10), ("two", 11)]) (g := (gTup _ 2 (gCons (gName 10) (gCons (gName 11) gNil)))) (tt := tYes) rfl sc_narrowed.nd (pi_zipS2 (K := K) rfl C.B.zip (pa_cons (pv 1) (pa_cons (pv 8) pa_nil))) (blkOk_in (N := n_narrowed) (by decide +kernel)) (fun _ _ _ _ _ => (pg_tup rfl (pgs_cons (pg_name (i := 10) sc_narrowed.nd rfl (by first | exact Or.inl rfl | exact Or.inr rfl)) (pgs_cons (pg_name (i := 11) sc_narrowed.nd rfl (by first | exact Or.inl rfl | exact Or.inr rfl)) pgs_nil)))) (fun _ _ _ _ _ => pts_nil) (fun _ _ _ _ _ => (pe_op (op_gMul (K := K)) (pv 10) (pv 11)))) pa_nil)) (pv 2)))))
    (pss_cons (ps_set (i := 4) sc_narrowed.nd rfl (by first | exact Or.inl rfl | exact Or.inr rfl) (pe_ix (ix_any (K := K)) (pe_lc (own := [("place", 7)]) (g := (gName 7)) (tt := _) rfl sc_narrowed.nd (pi_range1 rfl C.B.range (pa_cons pe_int pa_nil)) (blkOk_by (N := n_narrowed) (sc := defScope s_narrowed) (by decide +kernel)) (fun _ _ _ _ _ => (pg_name (i := 7) sc_narrowed.nd rfl (by first | exact Or.inl rfl | exact Or.inr rfl))) (fun _ _ _ _ _ => (pts_one (pt_val (pe_fn (ok_is_free C) (hr.mono (by omega)) rfl (pa_cons (pe_ix (ix_any (K := K)) (pv 3) (pv 7) (fun _ _ => rfl)) (pa_cons (pv 2) pa_nil)))))) (fun _ _ _ _ _ => (pv 7))) pe_int (fun _ _ => rfl)))
    (pss_cons (ps_set (i := 5) sc_narrowed.nd rfl (by first | exact Or.inl rfl | exact Or.inr rfl) (pe_fn (ok_powered C) (hr.mono (by omega)) rfl (pa_cons (pe_ix (ix_any (K := K)) (pv 3) (pv 4) (fun _ _ => rfl)) (pa_cons (pe_ifExp (pt_cmpR (op_gIn (K := K) (by exact units65 hr)) (pv 2) (pe_tup (pa_cons pe_int (pa_cons pe_int pa_nil))) rfl) (pe_op op_gSub (pe_op op_gDiv (pv 2) pe_int) pe_int) (pe_op op_gSub (pv 2) pe_int)) (pa_cons (pv 2) pa_nil)))))
    (pss_cons (ps_set (i := 6) sc_narrowed.nd rfl (by first | exact Or.inl rfl | exact Or.inr rfl) (pe_lst pa_nil))
    (pss_cons (ps_for PassesOwn.never rfl (pi_enB (K := K) rfl C.B.enumerate (pa_cons (pv 0) pa_nil)) (pg_tup rfl (pgs_cons (pg_name (i := 7) sc_narrowed.nd rfl (by first | exact Or.inl rfl | exact Or.inr rfl)) (pgs_cons (pg_name (i := 8) sc_narrowed.nd rfl (by first | exact Or.inl rfl | exact Or.inr rfl)) pgs_nil)))
    (pss_one (ps_if (pt_cmpR (op_gEq (K := K) (by exact hr.units)) (pv 7) (pv 4) (nomark _))
    (pss_one (ps_expr (pe_bm PySem.F.plainAttrs_list PySem.F.slot_list_append PySem.F.type_list_append mt_append (pv 6) (pa_cons (pe_lc (own := [("one", 10)]) (g := (gName 10)) (tt := tYes) rfl sc_narrowed.nd (pi_seq (K := K) (pv 8)) (blkOk_by (N := n_narrowed) (sc := defScope s_narrowed) (by decide +kernel)) (fun _ _ _ _ _ => (pg_name (i := 10) sc_narrowed.nd rfl (by first | exact Or.inl rfl | exact Or.inr rfl))) (fun _ _ _ _ _ => pts_nil) (fun _ _ _ _ _ => (pe_op (op_gMul (K := K)) (pv 10) (pv 2)))) pa_nil))))
    (pss_cons (ps_set (i := 9) sc_narrowed.nd rfl (by first | exact Or.inl rfl | exact Or.inr rfl) (pe_op op_gMod (pe_op (op_gMul (K := K)) (pe_ix (ix_any (K := K)) (pv 3) (pv 7) (fun _ _ => rfl)) (pv 5)) (pv 2)))
    (pss_one (ps_expr (pe_bm PySem.F.plainAttrs_list PySem.F.slot_list_append PySem.F.type_list_append mt_append (pv 6) (pa_cons (pe_lc (own := [("one", 10), ("two", 11)]) (g := (gTup _ 2 (gCons (gName 10) (gCons (gName 11) gNil)))) (tt := tYes) rfl sc_narrowed.nd (pi_zipS2 (K := K) rfl C.B.zip (pa_cons (pv 8) (pa_cons (pe_ix (ix_any (K := K)) (pv 0) (pv 4) (fun _ _ => rfl)) pa_nil))) (blkOk_by (N := n_narrowed) (sc := defScope s_narrowed) (by decide +kernel)) (fun _ _ _ _ _ => (pg_tup rfl (pgs_cons (pg_name (i := 10) sc_narrowed.nd rfl (by first | exact Or.inl rfl | exact Or.inr rfl)) (pgs_cons (pg_name (i := 11) sc_narrowed.nd rfl (by first | exact Or.inl rfl | exact Or.inr rfl)) pgs_nil)))) (fun _ _ _ _ _ => pts_nil) (fun _ _ _ _ _ => (pe_op op_gSub (pv 10) (pe_op (op_gMul (K := K)) (pv 9) (pv 11))))) pa_nil))))))))
    (pss_one (ps_ret (pv 6)))))))), fun x e hp he => ?_⟩
  obtain ⟨⟨b0, b1, b2⟩, k, m⟩ := x
  obtain ⟨⟨h0, h1, h2⟩, hk, ⟨hm, m6⟩, hf⟩ := hp
  have h0 : Bt 3000 b0 := h0
  have h1 : Bt 3000 b1 := h1
  have h2 : Bt 3000 b2 := h2
  have hk : Bt 60 k := hk
  have hm : Md m := hm
  have m6 : m ≤ 2000000 := m6
  have hf : Free (b0, b1, b2) k m := hf
  have m2 := hm.two
  have mz : (0 : Int) < (m : Int) := by omega
  have hb3 : ∀ {i : Nat} {d : D}, ([vD b0, vD b1, vD b2] : List D)[i]? = some d → ∃ u : V3, d = vD u ∧ Bt 3000 u := by
    intro i d hi
    match i, hi with
    | 0, hi => exact ⟨b0, (Option.some.inj hi).symm, h0⟩
    | 1, hi => exact ⟨b1, (Option.some.inj hi).symm, h1⟩
    | 2, hi => exact ⟨b2, (Option.some.inj hi).symm, h2⟩
  dsimp only [cxOf]
  refine r_seq (r_asg ?_)
  refine ev_lcM (fun d => match d with | .lst [.raw (.int x), .raw (.int y), .raw (.int z)] => .int ((k.x * x + k.y * y + k.z * z) % (m : Int)) | _ => d) (ei_seqL ?_)
  walk_at "d"
  refine ⟨_, rfl, le_lit rfl, fun i d hi => ?_, ?_⟩
  · obtain ⟨u, rfl, hu⟩ := hb3 hi
    refine eg_name ?_
    refine ev_op (ev_cb (ea_cons (ev_lcM (fun d => match d with | .tup [.raw (.int a), .raw (.int b)] => .int (a * b) | _ => d) (ei_z2 ?_))))
    walk_at "d"
    refine ⟨_, _, _, _, rfl, .l, .l, le_lit rfl, fun i d hi => ?_, ?_⟩
    · have : ∃ a b : Int, d = .tup [.int a, .int b] ∧ a.natAbs < 2 ^ 60 ∧ b.natAbs < 2 ^ 3000 := by
        match i, hi with
        | 0, hi => exact ⟨_, _, (Option.some.inj hi).symm, hk.1, hu.1⟩
        | 1, hi => exact ⟨_, _, (Option.some.inj hi).symm, hk.2.1, hu.2.1⟩
        | 2, hi => exact ⟨_, _, (Option.some.inj hi).symm, hk.2.2, hu.2.2⟩
      obtain ⟨x, y, rfl, hx, hy⟩ := this
      walk_at "d"
      refine ⟨mulW hx hy (by decide), ?_⟩
      exact rfl
    · walk_at "d"
      refine ec_sum (ns := [k.x * u.x, k.y * u.y, k.z * u.z]) .v ?_
      walk_at "d"
      refine ⟨mz, ?_⟩
      have e1 : ([k.x * u.x, k.y * u.y, k.z * u.z] : List Int).sum = k.x * u.x + k.y * u.y + k.z * u.z := by
        show k.x * u.x + (k.y * u.y + (k.z * u.z + 0)) = _
        omega
      rw [e1]
      rfl
  have ev : ([vD b0, vD b1, vD b2] : List D).map (fun d => match d with | .lst [.raw (.int x), .raw (.int y), .raw (.int z)] => D.int ((k.x * x + k.y * y + k.z * z) % (m : Int)) | _ => d) = D.ints [val k b0 % (m : Int), val k b1 % (m : Int), val k b2 % (m : Int)] := rfl
  rw [ev]
  have md : ∀ x : Int, 0 ≤ x % (m : Int) ∧ x % (m : Int) < m := fun x => ⟨Int.emod_nonneg _ (Int.ne_of_gt mz), Int.emod_lt_of_pos _ mz⟩
  -- the place
  obtain ⟨q, hq3, hqf, hqn, hnar⟩ : ∃ q : Nat, q < 3 ∧ freeF (val k ([b0, b1, b2].getD q b0) % (m : Int)) m = true ∧ (∀ j, j < q → freeF (val k ([b0, b1, b2].getD j b0) % (m : Int)) m = false) ∧
      narF (b0, b1, b2) k m = (if q = 0 then smul b0 m else less b0 ([b0, b1, b2].getD q b0) (moreF k ([b0, b1, b2].getD q b0) b0 m), if q = 1 then smul b1 m else less b1 ([b0, b1, b2].getD q b0) (moreF k ([b0, b1, b2].getD q b0) b1 m), if q = 2 then smul b2 m else less b2 ([b0, b1, b2].getD q b0) (moreF k ([b0, b1, b2].getD q b0) b2 m)) := by
    unfold narF
    by_cases c0 : freeF (val k b0 % (m : Int)) m = true
    · exact ⟨0, by decide, c0, fun j hj => by omega, by dsimp only; rw [if_pos c0]; rfl⟩
    · by_cases c1 : freeF (val k b1 % (m : Int)) m = true
      · refine ⟨1, by decide, c1, fun j hj => ?_, by dsimp only; rw [if_neg c0, if_pos c1]; rfl⟩
        have : j = 0 := by omega
        subst this
        simpa using c0
      · have c2 : freeF (val k b2 % (m : Int)) m = true := (hf.resolve_left c0).resolve_left c1
        refine ⟨2, by decide, c2, fun j hj => ?_, by dsimp only; rw [if_neg c0, if_neg c1]; rfl⟩
        have : j = 0 ∨ j = 1 := by omega
        rcases this with rfl | rfl
        · simpa using c0
        · simpa using c1
  rw [hnar]
  generalize hbq : [b0, b1, b2].getD q b0 = bq at *
  have hbqB : Bt 3000 bq := by
    have : q = 0 ∨ q = 1 ∨ q = 2 := by omega
    rcases this with rfl | rfl | rfl <;> (subst hbq; assumption)
  have atv : ∀ {j : Nat}, j < 3 → atI (D.ints [val k b0 % (m : Int), val k b1 % (m : Int), val k b2 % (m : Int)]) (j : Int) = some (.int (val k ([b0, b1, b2].getD j b0) % (m : Int))) := by
    intro j hj
    have : j = 0 ∨ j = 1 ∨ j = 2 := by omega
    rcases this with rfl | rfl | rfl <;> rfl
  walk_at "n1"
  refine r_asg ?_
  refine ev_op ?_
  refine ev_cutE (fun n => freeF (val k ([b0, b1, b2].getD n.toNat b0) % (m : Int)) m) (ei_range1 ?_)
  walk_at "d"
  refine ⟨3, rfl, by decide, by decide, [0, 1, 2], rfl, by decide, fun n hn => ?_, ?_⟩
  · obtain ⟨j, rfl, hj⟩ : ∃ j : Nat, n = (j : Int) ∧ j < 3 := by
      simp only [List.mem_cons, List.not_mem_nil, or_false] at hn
      rcases hn with rfl | rfl | rfl
      · exact ⟨0, rfl, by decide⟩
      · exact ⟨1, rfl, by decide⟩
      · exact ⟨2, rfl, by decide⟩
    walk_at "d"
    refine ⟨_, atv hj, ?_⟩
    walk_at "d"
    refine ⟨(val k ([b0, b1, b2].getD j b0) % (m : Int), m), rfl, by show 0 < m; omega, fun d ed => ?_⟩
    subst ed
    refine ⟨_, rfl, rfl, fun hb => ?_⟩
    walk_at "d"
    exact rfl
  have hfil : ∃ r, ([0, 1, 2] : List Int).filter (fun n => freeF (val k ([b0, b1, b2].getD n.toNat b0) % (m : Int)) m) = (q : Int) :: r := by
    have : q = 0 ∨ q = 1 ∨ q = 2 := by omega
    rcases this with rfl | rfl | rfl
    · have e0 : freeF (val k ([b0, b1, b2].getD (0 : Int).toNat b0) % (m : Int)) m = true := by rw [← hbq] at hqf; exact hqf
      rw [List.filter_cons, if_pos e0]
      exact ⟨_, rfl⟩
    · have e0 := hqn 0 (by decide)
      have e1 : freeF (val k ([b0, b1, b2].getD (1 : Int).toNat b0) % (m : Int)) m = true := by rw [← hbq] at hqf; exact hqf
      have e0 : freeF (val k ([b0, b1, b2].getD (0 : Int).toNat b0) % (m : Int)) m = false := e0
      rw [List.filter_cons, if_neg (by rw [e0]; decide), List.filter_cons, if_pos e1]
      exact ⟨_, rfl⟩
    · have e0 : freeF (val k ([b0, b1, b2].getD (0 : Int).toNat b0) % (m : Int)) m = false := hqn 0 (by decide)
      have e1 : freeF (val k ([b0, b1, b2].getD (1 : Int).toNat b0) % (m : Int)) m = false := hqn 1 (by decide)
      have e2 : freeF (val k ([b0, b1, b2].getD (2 : Int).toNat b0) % (m : Int)) m = true := by rw [← hbq] at hqf; exact hqf
      rw [List.filter_cons, if_neg (by rw [e0]; decide), List.filter_cons, if_neg (by rw [e1]; decide), List.filter_cons, if_pos e2]
      exact ⟨_, rfl⟩
  obtain ⟨r, er⟩ := hfil
  rw [er]
  walk_at "d"
  refine ⟨.int (q : Int), atI_ofN (i := 0) rfl, ?_⟩
  -- times
  have hvq := atv hq3
  rw [hbq] at hvq
  have pe : 2 ≤ m ∧ m ≤ 2000000 ∧ expo m ≤ 2000000 := ⟨m2, m6, by unfold expo; split <;> omega⟩
  have hex : ∀ {z : Int}, z = (expo m : Int) → ([Sl.v (D.int (val k bq % (m : Int))), .v (.int z), .v (.int (m : Int))] : List Sl) = ([D.int (val k bq % (m : Int)), .int ((expo m : Nat) : Int), .int (m : Int)]).map Sl.v := fun h => by rw [h]; rfl
  have powv : (val k bq % (m : Int)) ^ expo m % (m : Int) = invF k bq m := rfl
  refine r_seq (r_via (fun ρ' M' => ρ' = [some (.v (bD (b0, b1, b2))), some (.v (vD k)), some (.v (.int (m : Int))), some (.v (.lst (D.ints [val k b0 % (m : Int), val k b1 % (m : Int), val k b2 % (m : Int)]))), some (.v (.int (q : Int))), some (.v (.int (invF k bq m))), none, none, none, none, none, none] ∧ M' = []) (r_asg ?_) ?_)
  · walk_at "d"
    refine ⟨_, hvq, ?_⟩
    walk_at "d"
    refine g_inI (ns := [4, 8]) .t ?_
    refine ⟨_, rfl, ?_⟩
    refine ite_dec (fun h => ?_) (fun h => ?_)
    · have h48 : m = 4 ∨ m = 8 := by
        simp only [List.mem_cons, List.not_mem_nil, or_false] at h
        omega
      walk_at "d"
      refine ⟨(val k bq % (m : Int), expo m, m), hex ?_, pe, fun d ed => ?_⟩
      · unfold expo
        rw [if_pos h48]
        rcases h48 with rfl | rfl <;> rfl
      · subst ed
        exact ⟨rfl, rfl⟩
    · have h48 : ¬ (m = 4 ∨ m = 8) := fun z => h (by
        simp only [List.mem_cons, List.not_mem_nil, or_false]
        omega)
      walk_at "d"
      refine ⟨(val k bq % (m : Int), expo m, m), hex ?_, pe, fun d ed => ?_⟩
      · unfold expo
        rw [if_neg h48]
        omega
      · subst ed
        exact ⟨rfl, rfl⟩
  rintro ρ' M' ⟨rfl, rfl⟩
  have iv := md ((val k bq % (m : Int)) ^ expo m)
  rw [powv] at iv
  have nB : ∀ {u : V3}, Bt 3000 u → ∀ {x : Int}, (x = u.x ∨ x = u.y ∨ x = u.z) → x.natAbs < 2 ^ 3000 := by
    intro u hu x hx
    rcases hx with rfl | rfl | rfl
    · exact hu.1
    · exact hu.2.1
    · exact hu.2.2
  have hB : ∀ {i : Nat}, i < 3 → Bt 3000 ([b0, b1, b2].getD i b0) := by
    intro i hi
    have : i = 0 ∨ i = 1 ∨ i = 2 := by omega
    rcases this with rfl | rfl | rfl
    · exact h0
    · exact h1
    · exact h2
  have m60 : (m : Int).natAbs < 2 ^ 60 := by omega
  refine r_seq (r_newL (ea_nil ⟨[], rfl, by decide, ?_⟩))
  refine r_seq (r_for [7, 8] ?_)
  refine ei_enB ?_
  walk_at "d"
  refine ⟨_, _, rfl, .l, fun i ρ M => ∃ (o7 o8 o9 : Option Sl), ρ = [some (.v (bD (b0, b1, b2))), some (.v (vD k)), some (.v (.int (m : Int))), some (.v (.lst (D.ints [val k b0 % (m : Int), val k b1 % (m : Int), val k b2 % (m : Int)]))), some (.v (.int (q : Int))), some (.v (.int (invF k bq m))), some (.l 0), o7, o8, o9, none, none] ∧ M = [.lst ((List.range i).map fun j => vD (if q = j then smul ([b0, b1, b2].getD j b0) m else less ([b0, b1, b2].getD j b0) bq (moreF k bq ([b0, b1, b2].getD j b0) m)))], ⟨_, _, _, rfl, rfl⟩, ?_, ?_⟩
  · rintro i d ρ M hi ⟨o7, o8, o9, rfl, rfl⟩
    obtain ⟨c, hc, rfl⟩ := enum_get hi
    obtain ⟨il, rfl⟩ : i < 3 ∧ c = vD ([b0, b1, b2].getD i b0) := by
      match i, hc with
      | 0, hc => exact ⟨by decide, (Option.some.inj hc).symm⟩
      | 1, hc => exact ⟨by decide, (Option.some.inj hc).symm⟩
      | 2, hc => exact ⟨by decide, (Option.some.inj hc).symm⟩
    rw [Int.zero_add]
    have hu := hB il
    have hval := atv il
    dsimp only
    rw [List.range_succ, List.map_append]
    generalize hU : [b0, b1, b2].getD i b0 = u at *
    walk_at "d"
    refine ite_dec (fun h => ?_) (fun h => ?_)
    · have h : q = i := by omega
      have en : ([i].map fun j => vD (if q = j then smul ([b0, b1, b2].getD j b0) m else less ([b0, b1, b2].getD j b0) bq (moreF k bq ([b0, b1, b2].getD j b0) m))) = [vD (smul u m)] := by
        rw [List.map_cons, List.map_nil, if_pos h, hU]
      rw [en]
      refine x_app ⟨0, _, rfl, rfl, ?_⟩
      refine ev_lcM (fun d => match d with | .raw (.int x) => .int (x * (m : Int)) | _ => d) (ei_seqL ?_)
      walk_at "d"
      refine ⟨_, rfl, le_lit rfl, fun j d hj => ?_, ?_⟩
      · obtain ⟨x, rfl, hx⟩ : ∃ x : Int, d = .int x ∧ x.natAbs < 2 ^ 3000 := by
          match j, hj with
          | 0, hj => exact ⟨_, (Option.some.inj hj).symm, hu.1⟩
          | 1, hj => exact ⟨_, (Option.some.inj hj).symm, hu.2.1⟩
          | 2, hj => exact ⟨_, (Option.some.inj hj).symm, hu.2.2⟩
        walk_at "d"
        exact ⟨mulW hx m60 (by decide), rfl⟩
      · refine ⟨_, rfl, by simp; omega, ?_⟩
        exact ⟨_, _, _, rfl, rfl⟩
    · have h : ¬ q = i := by omega
      have en : ([i].map fun j => vD (if q = j then smul ([b0, b1, b2].getD j b0) m else less ([b0, b1, b2].getD j b0) bq (moreF k bq ([b0, b1, b2].getD j b0) m))) = [vD (less u bq (moreF k bq u m))] := by
        rw [List.map_cons, List.map_nil, if_neg h, hU]
      rw [en]
      have mr := md (val k u % (m : Int) * invF k bq m)
      have vr := md (val k u)
      walk_at "d"
      refine r_asg ?_
      walk_at "d"
      refine ⟨_, hval, ?_⟩
      walk_at "d"
      refine ⟨mulW (a := 60) (b := 60) (by omega) (by omega) (by decide), ?_⟩
      walk_at "d"
      refine ⟨mz, ?_⟩
      have em : val k u % (m : Int) * invF k bq m % (m : Int) = moreF k bq u m := rfl
      rw [em] at mr ⊢
      have mb : (moreF k bq u m).natAbs < 2 ^ 60 := by omega
      refine x_app ⟨0, _, rfl, rfl, ?_⟩
      refine ev_lcM (fun d => match d with | .tup [.raw (.int x), .raw (.int y)] => .int (x - moreF k bq u m * y) | _ => d) (ei_z2 ?_)
      walk_at "d"
      refine ⟨vD bq, ?_, ?_⟩
      · have : ([vD b0, vD b1, vD b2] : List D)[q]? = some (vD bq) := by
          have hq : q = 0 ∨ q = 1 ∨ q = 2 := by omega
          rcases hq with rfl | rfl | rfl <;> (rw [← hbq]; rfl)
        exact atI_ofN this
      walk_at "d"
      refine ⟨_, _, _, _, rfl, .l, .l, le_lit rfl, fun j d hj => ?_, ?_⟩
      · obtain ⟨x, y, rfl, hy⟩ : ∃ x y : Int, d = .tup [.int x, .int y] ∧ y.natAbs < 2 ^ 3000 := by
          match j, hj with
          | 0, hj => exact ⟨_, _, (Option.some.inj hj).symm, hbqB.1⟩
          | 1, hj => exact ⟨_, _, (Option.some.inj hj).symm, hbqB.2.1⟩
          | 2, hj => exact ⟨_, _, (Option.some.inj hj).symm, hbqB.2.2⟩
        walk_at "d"
        refine ⟨mulW mb hy (by decide), ?_⟩
        walk_at "d"
        exact rfl
      · refine ⟨_, rfl, by simp; omega, ?_⟩
        exact ⟨_, _, _, rfl, rfl⟩
  · rintro ρ M ⟨o7, o8, o9, rfl, rfl⟩
    refine r_freeze 6 0 rfl rfl (by have : e.α.length = 0 := he; omega) ?_
    walk_at "d"
    exact ret_v rfl

end
section
variable {P : Program} {w : World} {K : PySem.W.Frag} {mg : Str → Option Value} {base : Heap} {a : Adr}
/-! ### near rows -/
open NT in
def comb (b : B3) (i j k : Int) : V3 := ⟨i * b.1.x + j * b.2.1.x + k * b.2.2.x, i * b.1.y + j * b.2.1.y + k * b.2.2.y, i * b.1.z + j * b.2.1.z + k * b.2.2.z⟩
open NT in
def nearK (b : B3) (i j n : Nat) : List V3 := (List.range n).map fun k : Nat => comb b (i : Int) (-2 + (j : Int)) (-2 + (k : Int))
open NT in
def nearJ (b : B3) (i n : Nat) : List V3 := (List.range n).flatMap fun j => nearK b i j 5
open NT in
def nearI (b : B3) (n : Nat) : List V3 := (List.range n).flatMap fun i => nearJ b i 5
open NT in
theorem near_len (b : B3) : (∀ i j n, (nearK b i j n).length = n) ∧ (∀ i n, (nearJ b i n).length = 5 * n) ∧ ∀ n, (nearI b n).length = 25 * n := by
  have hk : ∀ i j n, (nearK b i j n).length = n := fun i j n => by simp [nearK]
  have hj : ∀ i n, (nearJ b i n).length = 5 * n := fun i n => by
    induction n with
    | zero => rfl
    | succ n ih =>
      unfold nearJ at ih ⊢
      rw [List.range_succ, List.flatMap_append, List.length_append, ih]
      simp [hk]; omega
  refine ⟨hk, hj, fun n => ?_⟩
  induction n with
  | zero => rfl
  | succ n ih =>
    unfold nearI at ih ⊢
    rw [List.range_succ, List.flatMap_append, List.length_append, ih]
    simp [hj]; omega
open NT in
theorem ok_near_rows (C : Ctx K mg a) : FnAt P w K mg base CX0 1 "near_rows" ["base"] (SpP K (fun b : B3 => [bD b]) (fun b => Bt 5000 b.1 ∧ Bt 5000 b.2.1 ∧ Bt 5000 b.2.2) (fun b d => d = .lst ((nearI b 3).map vD))) := by
  refine fn_at C.d_near_rows sc_near_rows (fun _ => rfl) fun f cdv A outer s H E hr => ⟨_, (pss_cons (ps_set (i := 1) sc_near_rows.nd rfl (by first | exact Or.inl rfl | exact Or.inr rfl) (pe_lst pa_nil))
    (pss_cons (ps_for PassesOwn.never rfl (pi_range1 rfl C.B.range (pa_cons pe_int pa_nil)) (pg_name (i := 2) sc_near_rows.nd rfl (by first | exact Or.inl rfl | exact Or.inr rfl))
    (pss_one (ps_for PassesOwn.never rfl (pi_range2 rfl C.B.range (pa_cons (pe_un un_neg pe_int) (pa_cons pe_int pa_nil))) (pg_name (i := 3) sc_near_rows.nd rfl (by first | exact Or.inl rfl | exact Or.inr rfl))
    (pss_one (ps_for PassesOwn.never rfl (pi_range2 rfl C.B.range (pa_cons (pe_un un_neg pe_int) (pa_cons pe_int pa_nil))) (pg_name (i := 4) sc_near_rows.nd rfl (by first | exact Or.inl rfl | exact Or.inr rfl))
    (pss_cons (ps_setLc (i := 5) (own := [("here", 6), ("there", 7), ("last", 8)]) (g := (gTup _ 3 (gCons (gName 6) (gCons (gName 7) (gCons (gName 8) gNil))))) (tt := tYes) rfl sc_near_rows.nd rfl rfl (sw_true rfl rfl rfl (by decide +kernel)) (pi_zipS3 (K := K) rfl C.B.zip (pa_cons (pe_ix (ix_any (K := K)) (pv 0) pe_int (fun _ _ => rfl)) (pa_cons (pe_ix (ix_any (K := K)) (pv 0) pe_int (fun _ _ => rfl)) (pa_cons (pe_ix (ix_any (K := K)) (pv 0) pe_int (fun _ _ => rfl)) pa_nil)))) (blkOk_by (N := n_near_rows) (sc := defScope s_near_rows) (by decide +kernel)) (fun _ _ _ _ _ => (pg_tup rfl (pgs_cons (pg_name (i := 6) sc_near_rows.nd rfl (by first | exact Or.inl rfl | exact Or.inr rfl)) (pgs_cons (pg_name (i := 7) sc_near_rows.nd rfl (by first | exact Or.inl rfl | exact Or.inr rfl)) (pgs_cons (pg_name (i := 8) sc_near_rows.nd rfl (by first | exact Or.inl rfl | exact Or.inr rfl)) pgs_nil))))) (fun _ _ _ _ _ => pts_nil) (fun _ _ _ _ _ => (pe_op (op_gAdd (K := K)) (pe_op (op_gAdd (K := K)) (pe_op (op_gMul (K := K)) (pv 2) (pv 6)) (pe_op (op_gMul (K := K)) (pv 3) (pv 7))) (pe_op (op_gMul (K := K)) (pv 4) (pv 8)))))
    (pss_one (ps_expr (pe_bm PySem.F.plainAttrs_list PySem.F.slot_list_append PySem.F.type_list_append mt_append (pv 1) (pa_cons (pv 5) pa_nil))))))))))
    (pss_one (ps_ret (pv 1))))), fun b e hp he => ?_⟩
  obtain ⟨b0, b1, b2⟩ := b
  obtain ⟨h0, h1, h2⟩ := hp
  have h0 : Bt 5000 b0 := h0
  have h1 : Bt 5000 b1 := h1
  have h2 : Bt 5000 b2 := h2
  obtain ⟨lk, lj, li⟩ := near_len (b0, b1, b2)
  dsimp only [cxOf]
  refine r_seq (r_newL (ea_nil ⟨[], rfl, by decide, ?_⟩))
  refine r_seq (r_for [2] ?_)
  refine ei_range1 ?_
  walk_at "d"
  refine ⟨3, rfl, by decide, by decide, fun i ρ M => ∃ (o2 o3 o4 o5 : Option Sl), ρ = [some (.v (bD (b0, b1, b2))), some (.l 0), o2, o3, o4, o5, none, none, none] ∧ M = [.lst ((nearI (b0, b1, b2) i).map vD)], ⟨_, _, _, _, rfl, rfl⟩, ?_, ?_⟩
  · rintro i d ρ M hi ⟨o2, o3, o4, o5, rfl, rfl⟩
    obtain ⟨il, rfl⟩ := rangeD_get hi
    have il : i < 3 := il
    rw [Int.zero_add]
    have ei : nearI (b0, b1, b2) (i + 1) = nearI (b0, b1, b2) i ++ nearJ (b0, b1, b2) i 5 := by
      unfold nearI
      rw [List.range_succ, List.flatMap_append]; simp
    walk_at "d"
    refine r_for [3] ?_
    refine ei_range2 ?_
    walk_at "d"
    refine ⟨-2, 3, rfl, by decide, fun j ρ M => ∃ (o3 o4 o5 : Option Sl), ρ = [some (.v (bD (b0, b1, b2))), some (.l 0), some (.v (.int (i : Int))), o3, o4, o5, none, none, none] ∧ M = [.lst ((nearI (b0, b1, b2) i ++ nearJ (b0, b1, b2) i j).map vD)], ⟨_, _, _, rfl, by simp [nearJ]⟩, ?_, ?_⟩
    · rintro j d ρ M hj ⟨o3, o4, o5, rfl, rfl⟩
      obtain ⟨jl, rfl⟩ := rangeD_get hj
      have jl : j < 5 := jl
      have ej : nearJ (b0, b1, b2) i (j + 1) = nearJ (b0, b1, b2) i j ++ nearK (b0, b1, b2) i j 5 := by
        unfold nearJ
        rw [List.range_succ, List.flatMap_append]; simp
      walk_at "d"
      refine r_for [4] ?_
      refine ei_range2 ?_
      walk_at "d"
      refine ⟨-2, 3, rfl, by decide, fun k ρ M => ∃ (o4 o5 : Option Sl), ρ = [some (.v (bD (b0, b1, b2))), some (.l 0), some (.v (.int (i : Int))), some (.v (.int (-2 + (j : Int)))), o4, o5, none, none, none] ∧ M = [.lst ((nearI (b0, b1, b2) i ++ nearJ (b0, b1, b2) i j ++ nearK (b0, b1, b2) i j k).map vD)], ⟨_, _, rfl, by simp [nearK]⟩, ?_, ?_⟩
      · rintro k d ρ M hk ⟨o4, o5, rfl, rfl⟩
        obtain ⟨kl, rfl⟩ := rangeD_get hk
        have kl : k < 5 := kl
        have ek : nearK (b0, b1, b2) i j (k + 1) = nearK (b0, b1, b2) i j k ++ [comb (b0, b1, b2) (i : Int) (-2 + (j : Int)) (-2 + (k : Int))] := by
          unfold nearK
          rw [List.range_succ, List.map_append]; rfl
        have ib : ((i : Int)).natAbs < 2 ^ 60 := by omega
        have jb : (-2 + (j : Int)).natAbs < 2 ^ 60 := by omega
        have kb : (-2 + (k : Int)).natAbs < 2 ^ 60 := by omega
        walk_at "d"
        refine r_asg ?_
        refine ev_lcM (fun d => match d with | .tup [.raw (.int x), .raw (.int y), .raw (.int z)] => .int ((i : Int) * x + (-2 + (j : Int)) * y + (-2 + (k : Int)) * z) | _ => d) (ei_z3 ?_)
        walk_at "d"
        refine ⟨_, rfl, ?_⟩
        walk_at "d"
        refine ⟨_, rfl, ?_⟩
        walk_at "d"
        refine ⟨_, rfl, ?_⟩
        walk_at "d"
        refine ⟨_, _, _, _, _, _, rfl, .l, .l, .l, le_lit rfl, fun l d hl => ?_, ?_⟩
        · obtain ⟨x, y, z, rfl, hx, hy, hz⟩ : ∃ x y z : Int, d = .tup [.int x, .int y, .int z] ∧ x.natAbs < 2 ^ 5000 ∧ y.natAbs < 2 ^ 5000 ∧ z.natAbs < 2 ^ 5000 := by
            match l, hl with
            | 0, hl => exact ⟨_, _, _, (Option.some.inj hl).symm, h0.1, h1.1, h2.1⟩
            | 1, hl => exact ⟨_, _, _, (Option.some.inj hl).symm, h0.2.1, h1.2.1, h2.2.1⟩
            | 2, hl => exact ⟨_, _, _, (Option.some.inj hl).symm, h0.2.2, h1.2.2, h2.2.2⟩
          walk_at "d"
          refine ⟨mulW ib hx (by decide), ?_⟩
          walk_at "d"
          refine ⟨mulW jb hy (by decide), ?_⟩
          walk_at "d"
          refine ⟨mulW kb hz (by decide), ?_⟩
          walk_at "d"
          exact rfl
        · have l3 : (nearI (b0, b1, b2) i ++ nearJ (b0, b1, b2) i j ++ nearK (b0, b1, b2) i j k).length < 16777216 := by
            rw [List.length_append, List.length_append, lk, lj, li]; omega
          have er : D.lst ((zip3D (D.ints [b0.x, b0.y, b0.z]) (D.ints [b1.x, b1.y, b1.z]) (D.ints [b2.x, b2.y, b2.z])).map (fun d => match d with | .tup [.raw (.int x), .raw (.int y), .raw (.int z)] => D.int ((i : Int) * x + (-2 + (j : Int)) * y + (-2 + (k : Int)) * z) | _ => d)) = vD (comb (b0, b1, b2) (i : Int) (-2 + (j : Int)) (-2 + (k : Int))) := rfl
          rw [er]
          walk_at "d"
          refine ⟨_, rfl, by rw [List.length_map]; exact l3, ?_⟩
          refine ⟨_, _, rfl, ?_⟩
          rw [ek]
          simp [List.map_append, List.append_assoc]
      · rintro ρ M ⟨o4, o5, rfl, rfl⟩
        refine ⟨_, _, _, rfl, ?_⟩
        rw [ej, ← List.append_assoc]
        rfl
    · rintro ρ M ⟨o3, o4, o5, rfl, rfl⟩
      refine ⟨_, _, _, _, rfl, ?_⟩
      rw [ei]
      rfl
  · rintro ρ M ⟨o2, o3, o4, o5, rfl, rfl⟩
    refine r_freeze 1 0 rfl rfl (by have : e.α.length = 0 := he; omega) ?_
    walk_at "d"
    exact ret_v rfl

end
section
variable {P : Program} {w : World} {K : PySem.W.Frag} {mg : Str → Option Value} {base : Heap} {a : Adr}
/-! ### odd primes, roots -/
abbrev nI (ps : List Nat) : List Int := ps.map fun p : Nat => (p : Int)
theorem nI_mem {ps : List Nat} {p : Nat} : (p : Int) ∈ nI ps ↔ p ∈ ps := by
  constructor
  · intro h
    obtain ⟨q, hq, e⟩ := List.mem_map.mp h
    have : q = p := by omega
    rw [← this]; exact hq
  · exact fun h => List.mem_map.mpr ⟨p, h, rfl⟩
structure Ods (ps : List Nat) (n : Nat) : Prop where
  nd : ps.Nodup
  mem : ∀ p, p ∈ ps ↔ NT.Pr p ∧ NT.vp p n % 2 = 1
theorem Pd.keys {ks : List Key} {ds : List D} {n : Nat} (h : Pd ks ds n) : ∃ ps : List Nat, ks = (ps.map fun p : Nat => (Sum.inl (p : Int) : Key)) ∧ ps.Nodup ∧ (∀ p, p ∈ ps ↔ NT.Pr p ∧ p ∣ n) ∧ ∀ p, p ∈ ps → p ≤ 1000000 := by
  have : ∀ ks : List Key, (∀ k, k ∈ ks → ∃ p : Nat, k = .inl (p : Int)) → ∃ ps : List Nat, ks = ps.map fun p : Nat => (Sum.inl (p : Int) : Key) := by
    intro ks
    induction ks with
    | nil => intro _; exact ⟨[], rfl⟩
    | cons k ks ih =>
      intro hk
      obtain ⟨p, e⟩ := hk k (by simp)
      obtain ⟨ps, e2⟩ := ih fun j hj => hk j (by simp [hj])
      exact ⟨p :: ps, by rw [e, e2]; rfl⟩
  obtain ⟨ps, e⟩ := this ks fun k hk => let ⟨p, e, _⟩ := h.rng k hk; ⟨p, e⟩
  subst e
  refine ⟨ps, rfl, ?_, fun p => ⟨fun hp => ?_, fun ⟨hp, hd⟩ => ?_⟩, fun p hp => ?_⟩
  · have nd := h.nd
    rw [List.Nodup, List.pairwise_map] at nd
    exact nd.imp fun hxy e => hxy (by rw [e])
  · obtain ⟨q, e, hq, hd, _⟩ := h.rng (.inl (p : Int)) (List.mem_map.mpr ⟨p, hp, rfl⟩)
    have : p = q := by have := Sum.inl.inj e; omega
    subst this; exact ⟨hq, hd⟩
  · have v := h.val p hp
    rw [if_pos hd] at v
    have : (Sum.inl (p : Int) : Key) ∈ ps.map fun p : Nat => (Sum.inl (p : Int) : Key) := by
      refine Classical.byContradiction fun z => ?_
      have : ∀ (ks : List Key) (ds : List D) (k : Key), k ∉ ks → kdGet ks ds k = none := by
        intro ks
        induction ks with
        | nil => intro ds k _; rfl
        | cons j ks ih =>
          intro ds k hk
          cases ds with
          | nil => rfl
          | cons d ds =>
            have e1 : kdGet (j :: ks) (d :: ds) k = kdGet ks ds k := by
              have : ¬ j = k := fun y => hk (by rw [y]; simp)
              simp [kdGet, this]
            rw [e1]; exact ih ds k fun y => hk (by simp [y])
      rw [this _ _ _ z] at v; cases v
    obtain ⟨q, hq, e⟩ := List.mem_map.mp this
    have : q = p := by have := Sum.inl.inj e; omega
    rw [← this]; exact hq
  · obtain ⟨q, e, _, _, h6⟩ := h.rng (.inl (p : Int)) (List.mem_map.mpr ⟨p, hp, rfl⟩)
    have := Sum.inl.inj e; omega
def oddf (n p : Nat) : Bool := decide (((NT.vp p n : Nat) : Int) % 2 = 1)
theorem oddf_iff {n p : Nat} : oddf n p = true ↔ NT.vp p n % 2 = 1 := by
  unfold oddf
  rw [decide_eq_true_eq]; omega
theorem ok_odd_primes_of (C : Ctx K mg a) : FnAt P w K mg base CX0 2 "odd_primes_of" ["weight"] (SpP K (fun ns : List Int => [wt ns]) Wt (fun ns d => ∃ ps, d = .lst (D.ints (nI ps)) ∧ Ods ps (nP ns) ∧ ps.length ≤ 1000001)) := by
  refine fn_at C.d_odd_primes_of sc_odd_primes_of (fun _ => rfl) fun f cdv A outer s H E hr => ⟨_, (pss_cons (ps_set (i := 1) sc_odd_primes_of.nd rfl (by first | exact Or.inl rfl | exact Or.inr rfl) (pe_fn (ok_primes_of C) (hr.mono (by omega)) rfl (pa_cons (pv 0) pa_nil)))
    (pss_one (ps_ret (pe_lock (pe_lc (own := [("prime", 2)]) (g := (gName 2)) (tt := _) rfl sc_odd_primes_of.nd (pi_keys (pv 1)) (blkOk_by (N := n_odd_primes_of) (sc := defScope s_odd_primes_of) (by decide +kernel)) (fun _ _ _ _ _ => (pg_name (i := 2) sc_odd_primes_of.nd rfl (by first | exact Or.inl rfl | exact Or.inr rfl))) (fun _ _ _ _ _ => (pts_one (pt_cmpR (op_gEq (K := K) (by exact hr.units)) (pe_op op_gMod (pe_dget (hu_of hr) (pv 1) (pv 2) (fun _ _ => rfl)) pe_int) pe_int (nomark _)))) (fun _ _ _ _ _ => (pv 2))))))), fun ns e hp he => ?_⟩
  have hp : Wt ns := hp
  dsimp only [cxOf]
  refine r_seq (r_asgN (en_callN ?_))
  walk_at "d"
  refine ⟨ns, rfl, hp, ?_⟩
  rintro m ⟨ks, ds, rfl, pd⟩
  walk_at "d"
  refine ev_lock (j := 1) (k := 0) rfl rfl fun d od kvs => ?_
  have few := pd.few
  obtain ⟨ps, rfl, nd, hm, h6⟩ := pd.keys
  refine ev_lcS (ei_keys (j := 1) rfl rfl ?_)
  refine ⟨by simp at few ⊢; omega, fun i acc => acc = D.ints (nI ((ps.take i).filter (oddf (nP ns)))), rfl, ?_, ?_⟩
  · rintro i d acc hi rfl
    obtain ⟨k, hk, rfl⟩ := map_get hi
    obtain ⟨p, hpi, rfl⟩ := map_get hk
    obtain ⟨hpr, hdv⟩ := (hm p).mp (List.mem_of_getElem? hpi)
    have vv := pd.val p hpr
    rw [if_pos hdv] at vv
    have hf : (ps.take (i + 1)).filter (oddf (nP ns)) = (ps.take i).filter (oddf (nP ns)) ++ (if oddf (nP ns) p = true then [p] else []) := by
      rw [take_snoc hpi, List.filter_append]
      simp only [List.filter_cons, List.filter_nil]
    walk_at "d"
    refine ev_dget ?_
    walk_at "d"
    refine ⟨_, _, .inl (p : Int), _, .z rfl, rfl, vv, ?_⟩
    walk_at "d"
    refine ite_b (fun h => ?_) (fun h => ?_)
    · walk_at "d"
      refine ⟨_, rfl, ?_⟩
      have h : oddf (nP ns) p = true := h
      show D.ints (nI ((ps.take i).filter (oddf (nP ns)))) ++ [D.int (p : Int)] = D.ints (nI ((ps.take (i + 1)).filter (oddf (nP ns))))
      rw [hf, if_pos h]; simp [D.ints, nI]
    · have h : oddf (nP ns) p = false := h
      show D.ints (nI ((ps.take i).filter (oddf (nP ns)))) = D.ints (nI ((ps.take (i + 1)).filter (oddf (nP ns))))
      rw [hf, if_neg (by rw [h]; decide)]; simp
  · rintro acc rfl
    refine ret_v ⟨ps.filter (oddf (nP ns)), ?_, ⟨nd.filter _, fun p => ?_⟩, ?_⟩
    · simp
    · rw [List.mem_filter, hm, oddf_iff]
      constructor
      · rintro ⟨⟨a, _⟩, b⟩; exact ⟨a, b⟩
      · rintro ⟨a, b⟩; exact ⟨⟨a, (NT.vp_pos a.1 hp.pos).mpr (by omega)⟩, b⟩
    · have := List.length_filter_le (oddf (nP ns)) ps
      rw [List.length_map] at few; omega
theorem ok_root_of (C : Ctx K mg a) : FnAt P w K mg base CX0 2 "root_of" ["weight"] (SpP K (fun ns : List Int => [wt ns]) Wt (fun ns d => ∃ r : Nat, d = .int (r : Int) ∧ 0 < r ∧ ∀ q, NT.Pr q → NT.vp q r = NT.vp q (nP ns) / 2)) := by
  refine fn_at C.d_root_of sc_root_of (fun _ => rfl) fun f cdv A outer s H E hr => ⟨_, (pss_cons (ps_set (i := 1) sc_root_of.nd rfl (by first | exact Or.inl rfl | exact Or.inr rfl) (pe_fn (ok_primes_of C) (hr.mono (by omega)) rfl (pa_cons (pv 0) pa_nil)))
    (pss_cons (ps_set (i := 2) sc_root_of.nd rfl (by first | exact Or.inl rfl | exact Or.inr rfl) pe_int)
    (pss_cons (ps_lock (ps_for PassesOwn.never rfl (pi_keys (pv 1)) (pg_name (i := 3) sc_root_of.nd rfl (by first | exact Or.inl rfl | exact Or.inr rfl))
    (pss_one (ps_for PassesOwn.never rfl (pi_range1 rfl C.B.range (pa_cons (pe_op op_gDiv (pe_dget (hu_of hr) (pv 1) (pv 3) (fun _ _ => rfl)) pe_int) pa_nil)) (pg_name (i := 4) sc_root_of.nd rfl (by first | exact Or.inl rfl | exact Or.inr rfl))
    (pss_one (ps_set (i := 2) sc_root_of.nd rfl (by first | exact Or.inl rfl | exact Or.inr rfl) (pe_op (op_gMul (K := K)) (pv 2) (pv 3))))))))
    (pss_one (ps_ret (pv 2)))))), fun ns e hp he => ?_⟩
  have hp : Wt ns := hp
  have hpos := hp.pos
  dsimp only [cxOf]
  refine r_seq (r_asgN (en_callN ?_))
  walk_at "d"
  refine ⟨ns, rfl, hp, ?_⟩
  rintro m ⟨ks, ds, rfl, pd⟩
  walk_at "d"
  refine r_asg ?_
  walk_at "d"
  refine r_lock (j := 1) (k := 0) rfl rfl fun d od kvs => ?_
  obtain ⟨ps, rfl, nd, hm, h6⟩ := pd.keys
  refine r_forK (j := 1) (k := 0) [3] rfl rfl ⟨fun i ρ M => ∃ (f : Nat) (o3 o4 : Option Sl), ρ = [some (.v (wt ns)), some (.l 0), some (.v (.int (f : Int))), o3, o4] ∧ M = [.frz d od kvs (ps.map fun p : Nat => (Sum.inl (p : Int) : Key)) ds] ∧ 0 < f ∧ ∀ q, NT.Pr q → NT.vp q f = if q ∈ ps.take i then NT.vp q (nP ns) / 2 else 0,
    ⟨1, none, none, rfl, rfl, by decide, fun q hq => by simp [NT.vp_one hq]⟩, ?_, ?_⟩
  · rintro i key ρ M hi ⟨f, o3, o4, rfl, rfl, f0, fv⟩ hk
    obtain ⟨p, hpi, rfl⟩ := map_get hi
    obtain ⟨hpr, hdv⟩ := (hm p).mp (List.mem_of_getElem? hpi)
    have vv := pd.val p hpr
    rw [if_pos hdv] at vv
    have p6 := h6 p (List.mem_of_getElem? hpi)
    have hnot : p ∉ ps.take i := fun z => by
      obtain ⟨j, hj, e⟩ := List.getElem_of_mem z
      rw [List.length_take] at hj
      have hij := (List.getElem?_eq_some_iff.mp hpi)
      obtain ⟨hl, e2⟩ := hij
      rw [List.getElem_take] at e
      have := (List.pairwise_iff_getElem.mp nd) j i (by omega) hl (by omega)
      exact this (by rw [e, e2])
    generalize hv : NT.vp p (nP ns) = v at *
    have v1 : v ≤ 899 := by
      have h1 := Nat.le_of_dvd hpos (NT.dvd_pow_vp hpr.1 hpos)
      rw [hv] at h1
      have h2 : 2 ^ v ≤ p ^ v := Nat.pow_le_pow_left hpr.1 v
      have h3 : nP ns < 2 ^ 900 := hp.bit
      refine Classical.byContradiction fun z => ?_
      exact absurd h3 (Nat.not_lt.mpr (Nat.le_trans (Nat.pow_le_pow_right (by decide) (by omega)) (Nat.le_trans h2 h1)))
    refine eg_name ?_
    refine r_for [4] ?_
    refine ei_range1 ?_
    walk_at "d"
    refine ev_dget ?_
    walk_at "d"
    refine ⟨_, _, .inl (p : Int), _, .z rfl, rfl, vv, ?_⟩
    walk_at "d"
    refine ⟨_, rfl, by omega, by omega, fun j ρ M => ∃ (f : Nat) (o4 : Option Sl), ρ = [some (.v (wt ns)), some (.l 0), some (.v (.int (f : Int))), some (.v (.int (p : Int))), o4] ∧ M = [.frz d od kvs (ps.map fun p : Nat => (Sum.inl (p : Int) : Key)) ds] ∧ 0 < f ∧ ∀ q, NT.Pr q → NT.vp q f = if q = p then j else if q ∈ ps.take i then NT.vp q (nP ns) / 2 else 0,
      ⟨f, _, rfl, rfl, f0, fun q hq => ?_⟩, ?_, ?_⟩
    · rw [fv q hq]
      by_cases e : q = p
      · subst e; rw [if_pos rfl, if_neg hnot]
      · rw [if_neg e]
    · rintro j d' ρ M hj ⟨f, o4, rfl, rfl, f0, fv⟩
      obtain ⟨hjl, rfl⟩ := rangeD_get hj
      have fb : ((f : Nat) : Int).natAbs < 2 ^ 900 := by
        have : f ∣ nP ns := NT.dvd_of_vp f _ f0 hpos fun q hq => by
          rw [fv q hq]
          by_cases e : q = p
          · subst e; rw [if_pos rfl]; omega
          · rw [if_neg e]; split <;> omega
        have h1 := Nat.le_of_dvd hpos this
        have h2 := hp.bit
        exact Nat.lt_of_le_of_lt h1 h2
      walk_at "d"
      refine r_asg ?_
      walk_at "d"
      refine ⟨mulW fb (lit_bit (b := 60) (by omega) (by decide)) (by decide), f * p, _, by rw [Int.natCast_mul]; rfl, rfl, Nat.mul_pos f0 hpr.pos, fun q hq => ?_⟩
      rw [NT.vp_mul hq f0 hpr.pos, fv q hq]
      by_cases e : q = p
      · subst e; rw [if_pos rfl, if_pos rfl, NT.vp_self hq]
      · rw [if_neg e, if_neg e, NT.vp_other hq hpr e]; simp
    · rintro ρ M ⟨f, o4, rfl, rfl, f0, fv⟩
      refine ⟨rfl, f, _, _, rfl, rfl, f0, fun q hq => ?_⟩
      have hl : (rangeD 0 (((v : Nat) : Int) / 2).toNat).length = v / 2 := by rw [rangeD_len]; omega
      rw [hl] at fv
      rw [fv q hq, take_snoc hpi]
      by_cases e : q = p
      · subst e; rw [if_pos rfl, if_pos (by simp), hv]
      · rw [if_neg e]; simp [e]
  · rintro ρ M ⟨f, o3, o4, rfl, rfl, f0, fv⟩ hk
    refine ⟨rfl, ?_⟩
    walk_at "d"
    refine ret_v ⟨f, rfl, f0, fun q hq => ?_⟩
    rw [fv q hq, List.length_map, List.take_length]
    by_cases z : q ∈ ps
    · rw [if_pos z]
    · rw [if_neg z, NT.vp_no fun d => z ((hm q).mpr ⟨hq, d⟩)]

end
section
variable {P : Program} {w : World} {K : PySem.W.Frag} {mg : Str → Option Value} {base : Heap} {a : Adr}
/-! ### normal weights -/
def ob (n p : Nat) : Bool := decide (NT.vp p n % 2 = 1)
def brb (a b c p : Nat) : Bool := (ob b p == ob c p) && (ob a p != ob b p)
def upb (a b c p : Nat) : Bool := !ob a p && ob b p && ob c p
structure Bars (a b c : Nat) (bs : List Nat) : Prop where
  asc : bs.Pairwise (· < ·)
  mem : ∀ p, p ∈ bs ↔ NT.Pr p ∧ brb a b c p = true
def UpOk (a b c u : Nat) : Prop := 0 < u ∧ ∀ q, NT.Pr q → NT.vp q u = if upb a b c q = true then 1 else 0
def RtOk (n r : Nat) : Prop := 0 < r ∧ ∀ q, NT.Pr q → NT.vp q r = NT.vp q n / 2
structure Nm (v0 v1 v2 : List Int) (B0 B1 B2 : List Nat) (u0 u1 u2 r0 r1 r2 : Nat) : Prop where
  b0 : Bars (nP v0) (nP v1) (nP v2) B0
  b1 : Bars (nP v1) (nP v0) (nP v2) B1
  b2 : Bars (nP v2) (nP v0) (nP v1) B2
  u0 : UpOk (nP v0) (nP v1) (nP v2) u0
  u1 : UpOk (nP v1) (nP v0) (nP v2) u1
  u2 : UpOk (nP v2) (nP v0) (nP v1) u2
  r0 : RtOk (nP v0) r0
  r1 : RtOk (nP v1) r1
  r2 : RtOk (nP v2) r2
abbrev lI (ps : List Nat) : D := .lst (D.ints (nI ps))
/-- what a Normal holds -/
def NmD (v0 v1 v2 : List Int) (ds : List D) : Prop := ∃ B0 B1 B2 u0 u1 u2 r0 r1 r2, Nm v0 v1 v2 B0 B1 B2 u0 u1 u2 r0 r1 r2 ∧
  ds = [.lst [lI B0, lI B1, lI B2], lI [u0, u1, u2], lI [r0, r1, r2], .lst (D.ints [sgn (prodL v0), sgn (prodL v1), sgn (prodL v2)])]
theorem Ods.few {ps : List Nat} {n : Nat} (h : Ods ps n) (hn : 0 < n) (hb : n < 2 ^ 900) : ps.length ≤ 900 := by
  have h1 := Nat.le_of_dvd hn (NT.prod_dvd hn ps h.nd fun p hp => ⟨((h.mem p).mp hp).1, (NT.vp_pos ((h.mem p).mp hp).1.1 hn).mpr (by have := ((h.mem p).mp hp).2; omega)⟩)
  have h2 := NT.two_pow_le ps fun p hp => ((h.mem p).mp hp).1.1
  refine Classical.byContradiction fun z => ?_
  exact absurd hb (Nat.not_lt.mpr (Nat.le_trans (Nat.pow_le_pow_right (by decide) (by omega)) (Nat.le_trans h2 h1)))
theorem Wt.le30 {ns : List Int} (h : Wt ns) : nP ns ≤ 10 ^ 30 := by
  have : ∀ (ns : List Int) (m : Nat) (a : Int), (∀ n, n ∈ ns → n.natAbs ≤ 10 ^ 6) → a.natAbs ≤ 10 ^ m → (ns.foldl (· * ·) a).natAbs ≤ 10 ^ (6 * ns.length + m) := by
    intro ns
    induction ns with
    | nil => intro m a _ ha; simpa using ha
    | cons n ns ih =>
      intro m a hh ha
      have hn := hh n List.mem_cons_self
      have := ih (m + 6) (a * n) (fun k hk => hh k (List.mem_cons_of_mem _ hk)) (by
        rw [Int.natAbs_mul, Nat.pow_add]
        exact Nat.mul_le_mul ha hn)
      rw [List.foldl_cons, List.length_cons]
      exact Nat.le_trans this (Nat.pow_le_pow_right (by decide) (by omega))
  have := this ns 0 1 (fun n hn => (h.p n hn).2) (by decide)
  exact Nat.le_trans this (Nat.pow_le_pow_right (by decide) (by have := h.hi; omega))
theorem pr_le {v : List Int} (h : Wt v) {p : Nat} (hp : NT.Pr p) (d : p ∣ nP v) : p ≤ 1000000 := by
  have : ∀ (ns : List Int) (a : Int), p ∣ (ns.foldl (· * ·) a).natAbs → p ∣ a.natAbs ∨ ∃ n, n ∈ ns ∧ p ∣ n.natAbs := by
    intro ns
    induction ns with
    | nil => intro a h; exact .inl h
    | cons n ns ih =>
      intro a h
      rcases ih (a * n) h with z | ⟨k, hk, z⟩
      · rw [Int.natAbs_mul] at z
        rcases hp.dvd_mul z with z | z
        · exact .inl z
        · exact .inr ⟨n, by simp, z⟩
      · exact .inr ⟨k, by simp [hk], z⟩
  rcases this v 1 d with z | ⟨k, hk, z⟩
  · exact absurd z hp.one
  · have := h.p k hk
    have := Nat.le_of_dvd (by omega) z
    omega
theorem mem_few {v0 v1 v2 : List Int} (h0 : Wt v0) (h1 : Wt v1) (h2 : Wt v2) {s0 s1 s2 : List Nat} (o0 : Ods s0 (nP v0)) (o1 : Ods s1 (nP v1)) (o2 : Ods s2 (nP v2)) {ms : List Int} (hm : Mems (nI s0 ++ nI s1 ++ nI s2) ms) : ms.length < 64 := by
  have hms : ∀ k, k ∈ ms → 0 ≤ k := fun k hk => by
    have := (hm.2 k).mp hk
    simp only [List.mem_append] at this
    rcases this with (h | h) | h <;> (obtain ⟨q, _, e⟩ := List.mem_map.mp h; omega)
  have hb : nP v0 * nP v1 * nP v2 ≤ 10 ^ 90 := by
    have := Nat.mul_le_mul (Nat.mul_le_mul h0.le30 h1.le30) h2.le30
    exact Nat.le_trans this (by decide)
  have p0 := h0.pos
  have p1 := h1.pos
  have p2 := h2.pos
  have := NT.few_primes (Nat.mul_pos (Nat.mul_pos p0 p1) p2) hb (ms.map Int.toNat) (by
    rw [List.Nodup, List.pairwise_map]
    exact List.Pairwise.imp_of_mem (fun {x y} hx hy hxy e => hxy (by have := hms x hx; have := hms y hy; omega)) hm.1) (fun p hp => by
    obtain ⟨k, hk, rfl⟩ := List.mem_map.mp hp
    have hk0 := hms k hk
    have := (hm.2 k).mp hk
    simp only [List.mem_append] at this
    have ek : ((k.toNat : Nat) : Int) = k := Int.toNat_of_nonneg hk0
    rcases this with (h | h) | h
    · rw [← ek, nI_mem] at h
      have ⟨a, b⟩ := (o0.mem _).mp h
      exact ⟨a, Nat.dvd_mul_right_of_dvd (Nat.dvd_mul_right_of_dvd ((NT.vp_pos a.1 p0).mpr (by omega)) _) _⟩
    · rw [← ek, nI_mem] at h
      have ⟨a, b⟩ := (o1.mem _).mp h
      exact ⟨a, Nat.dvd_mul_right_of_dvd (Nat.dvd_mul_left_of_dvd ((NT.vp_pos a.1 p1).mpr (by omega)) _) _⟩
    · rw [← ek, nI_mem] at h
      have ⟨a, b⟩ := (o2.mem _).mp h
      exact ⟨a, Nat.dvd_mul_left_of_dvd ((NT.vp_pos a.1 p2).mpr (by omega)) _⟩)
  rwa [List.length_map] at this
theorem asc_nat {ms : List Int} (h0 : ∀ k, k ∈ ms → 0 ≤ k) (h : ms.Pairwise (· < ·)) : ∃ ps : List Nat, ms = nI ps ∧ ps.Pairwise (· < ·) := by
  refine ⟨ms.map Int.toNat, ?_, ?_⟩
  · rw [nI, List.map_map]
    have : ms = ms.map id := by simp
    conv => lhs; rw [this]
    exact List.map_congr_left fun k hk => (Int.toNat_of_nonneg (h0 k hk)).symm
  · rw [List.pairwise_map]
    exact List.Pairwise.imp_of_mem (fun {x y} hx hy hxy => by have := h0 x hx; have := h0 y hy; omega) h
theorem ints_app {a b : List Int} : D.ints a ++ D.ints b = D.ints (a ++ b) := by simp [D.ints]
def hasL (b0 b1 b2 : Bool) (i : Nat) : List Int := (if 0 < i ∧ b0 = true then [0] else []) ++ (if 1 < i ∧ b1 = true then [1] else []) ++ (if 2 < i ∧ b2 = true then [2] else [])
theorem ok_Normal (C : Ctx K mg a) : MkAt P w K mg base 4 "Normal" a.Normal ["self", "rows"] (SpI K a.Normal (fun x : List Int × List Int × List Int => [.tup [wt x.1, wt x.2.1, wt x.2.2]]) (fun x => Wt x.1 ∧ Wt x.2.1 ∧ Wt x.2.2) ["bare", "ups", "downs", "signs"] (fun x ds => NmD x.1 x.2.1 x.2.2 ds)) := by
  obtain ⟨f, fd, hM, hF, hB⟩ := C.i_Normal.ex
  refine mk_at C.m_Normal hM hF hB sc_Normal___init__ (fun _ => rfl) fun f cdv A outer s H E hr => ⟨_, (pss_cons (ps_set (i := 2) sc_Normal___init__.nd rfl (by first | exact Or.inl rfl | exact Or.inr rfl) (pe_lc (own := [("weight", 5)]) (g := (gName 5)) (tt := tYes) rfl sc_Normal___init__.nd (pi_seq (K := K) (pv 1)) (blkOk_by (N := n_Normal___init__) (sc := defScope s_Normal___init__) (by decide +kernel)) (fun _ _ _ _ _ => (pg_name (i := 5) sc_Normal___init__.nd rfl (by first | exact Or.inl rfl | exact Or.inr rfl))) (fun _ _ _ _ _ => pts_nil) (fun _ _ _ _ _ => (pe_fn (ok_odd_primes_of C) (hr.mono (by omega)) rfl (pa_cons (pv 5) pa_nil)))))
    (pss_cons (ps_fld (pv 0) (pe_lst (pa_cons (pe_lst pa_nil) (pa_cons (pe_lst pa_nil) (pa_cons (pe_lst pa_nil) pa_nil)))) rfl)
    (pss_cons (ps_fld (pv 0) (pe_lst (pa_cons pe_int (pa_cons pe_int (pa_cons pe_int pa_nil)))) rfl)
    (pss_cons (ps_fld (pv 0) (pe_lc (own := [("weight", 5)]) (g := (gName 5)) (tt := tYes) rfl sc_Normal___init__.nd (pi_seq (K := K) (pv 1)) (blkOk_by (N := n_Normal___init__) (sc := defScope s_Normal___init__) (by decide +kernel)) (fun _ _ _ _ _ => (pg_name (i := 5) sc_Normal___init__.nd rfl (by first | exact Or.inl rfl | exact Or.inr rfl))) (fun _ _ _ _ _ => pts_nil) (fun _ _ _ _ _ => (pe_fn (ok_root_of C) (hr.mono (by omega)) rfl (pa_cons (pv 5) pa_nil)))) rfl)
    (pss_cons (ps_for PassesOwn.never rfl (pi_seq (K := K) (pe_sortSet (K := K) rfl C.B.sorted C.B.set rfl rfl (pe_op (op_gAdd (K := K)) (pe_op (op_gAdd (K := K)) (pe_ix (ix_any (K := K)) (pv 2) pe_int (fun _ _ => rfl)) (pe_ix (ix_any (K := K)) (pv 2) pe_int (fun _ _ => rfl))) (pe_ix (ix_any (K := K)) (pv 2) pe_int (fun _ _ => rfl))))) (pg_name (i := 3) sc_Normal___init__.nd rfl (by first | exact Or.inl rfl | exact Or.inr rfl))
    (pss_cons (ps_setLc (i := 4) (own := [("at", 6)]) (g := (gName 6)) (tt := _) rfl sc_Normal___init__.nd rfl rfl (sw_true rfl rfl rfl (by decide +kernel)) (pi_range1 rfl C.B.range (pa_cons pe_int pa_nil)) (blkOk_by (N := n_Normal___init__) (sc := defScope s_Normal___init__) (by decide +kernel)) (fun _ _ _ _ _ => (pg_name (i := 6) sc_Normal___init__.nd rfl (by first | exact Or.inl rfl | exact Or.inr rfl))) (fun _ _ _ _ _ => (pts_one (pt_cmpR (op_gIn (K := K) (by exact units65 hr)) (pv 3) (pe_ix (ix_any (K := K)) (pv 2) (pv 6) (fun _ _ => rfl)) rfl))) (fun _ _ _ _ _ => (pv 6)))
    (pss_one (ps_if (pt_cmpR (op_gEq (K := K) (by exact hr.units)) (pe_len (K := K) C.B.len rfl (pa_cons (pv 4) pa_nil)) pe_int (nomark _))
    (pss_one (ps_expr (pe_bm PySem.F.plainAttrs_list PySem.F.slot_list_append PySem.F.type_list_append mt_append (pe_ix (ix_any (K := K)) (pe_at (K := K) (pv 0)) (pe_ix (ix_any (K := K)) (pv 4) pe_int (fun _ _ => rfl)) (fun _ _ => rfl)) (pa_cons (pv 3) pa_nil))))
    (pss_one (ps_if (pt_cmpR (op_gEq (K := K) (by exact hr.units)) (pe_len (K := K) C.B.len rfl (pa_cons (pv 4) pa_nil)) pe_int (nomark _))
    (pss_cons (ps_set (i := 7) sc_Normal___init__.nd rfl (by first | exact Or.inl rfl | exact Or.inr rfl) (pe_op op_gSub (pe_op op_gSub pe_int (pe_ix (ix_any (K := K)) (pv 4) pe_int (fun _ _ => rfl))) (pe_ix (ix_any (K := K)) (pv 4) pe_int (fun _ _ => rfl))))
    (pss_cons (ps_expr (pe_bm PySem.F.plainAttrs_list PySem.F.slot_list_append PySem.F.type_list_append mt_append (pe_ix (ix_any (K := K)) (pe_at (K := K) (pv 0)) (pv 7) (fun _ _ => rfl)) (pa_cons (pv 3) pa_nil)))
    (pss_one (ps_asg (pe_op (op_gMul (K := K)) (pe_ix (ix_any (K := K)) (pe_at (K := K) (pv 0)) (pv 7) (fun _ _ => rfl)) (pv 3)) (pg_sub (pe_at (K := K) (pv 0)) (pv 7) set_list)))))
    pss_nil))))))
    (pss_one (ps_fld (pv 0) (pe_lc (own := [("weight", 5)]) (g := (gName 5)) (tt := tYes) rfl sc_Normal___init__.nd (pi_seq (K := K) (pv 1)) (blkOk_by (N := n_Normal___init__) (sc := defScope s_Normal___init__) (by decide +kernel)) (fun _ _ _ _ _ => (pg_name (i := 5) sc_Normal___init__.nd rfl (by first | exact Or.inl rfl | exact Or.inr rfl))) (fun _ _ _ _ _ => pts_nil) (fun _ _ _ _ _ => (pe_fn (ok_sign_of C) (hr.mono (by omega)) rfl (pa_cons (pv 5) pa_nil)))) rfl))))))), fun x e hp he => ?_⟩
  obtain ⟨v0, v1, v2⟩ := x
  obtain ⟨w0, w1, w2⟩ := hp
  have w0 : Wt v0 := w0
  have w1 : Wt v1 := w1
  have w2 : Wt v2 := w2
  have he : e.α.length = 1 := he
  dsimp only [cxOf]
  -- sets
  refine r_seq (r_asg ?_)
  refine ev_lcR (fun d d' => ∃ v ps, d = wt v ∧ d' = lI ps ∧ Ods ps (nP v)) (ei_seqT ?_)
  walk_at "d"
  refine ⟨_, rfl, le_lit rfl, fun i d hi => ?_, ?_⟩
  · have : ∃ v, Wt v ∧ d = wt v := by
      match i, hi with
      | 0, hi => exact ⟨v0, w0, (Option.some.inj hi).symm⟩
      | 1, hi => exact ⟨v1, w1, (Option.some.inj hi).symm⟩
      | 2, hi => exact ⟨v2, w2, (Option.some.inj hi).symm⟩
    obtain ⟨v, hv, rfl⟩ := this
    walk_at "d"
    exact ⟨v, rfl, hv, fun d ⟨ps, e, o, _⟩ => ⟨_, rfl, v, ps, rfl, e, o⟩⟩
  rintro ds ⟨_, _, rfl, ⟨x0, s0, e0, rfl, o0⟩, _, _, rfl, ⟨x1, s1, e1, rfl, o1⟩, _, _, rfl, ⟨x2, s2, e2, rfl, o2⟩, hnil⟩
  have hnil : _ = [] := hnil
  subst hnil
  have inj : ∀ {v x : List Int}, wt v = wt x → v = x := fun {v x} h => by
    have h := D.tup.inj h
    have : ∀ (v x : List Int), D.ints v = D.ints x → v = x := by
      intro v
      induction v with
      | nil => intro x h; cases x with
        | nil => rfl
        | cons _ _ => cases h
      | cons n v ih => intro x h; cases x with
        | nil => cases h
        | cons m x =>
          have := List.cons.inj h
          rw [ih x this.2]
          have : n = m := by have := this.1; cases this; rfl
          rw [this]
    exact this v x h
  cases inj e0; cases inj e1; cases inj e2
  -- self.bare, self.ups
  refine r_seq (r_fldN C.k_Normal.cl C.n_Normal_bare rfl ?_)
  refine en_pin ?_
  refine ena_cons (en_pin (ena_nil ?_))
  refine ⟨[], rfl, le_lit rfl, fun a0 => ?_⟩
  refine ena_cons (en_pin (ena_nil ?_))
  refine ⟨[], rfl, le_lit rfl, fun a1 => ?_⟩
  refine ena_cons (en_pin (ena_nil ?_))
  refine ⟨[], rfl, le_lit rfl, fun a2 => ?_⟩
  refine ena_nil ?_
  refine ⟨[.raw (.ref a0), .raw (.ref a1), .raw (.ref a2)], rfl, le_lit rfl, fun ab => ?_⟩
  refine ⟨_, [], [], rfl, rfl, by decide, ?_⟩
  refine r_seq (r_fldN C.k_Normal.cl C.n_Normal_ups rfl ?_)
  refine en_pin ?_
  refine ena_cons (en_ev (ev_c (ena_cons (en_ev (ev_c (ena_cons (en_ev (ev_c (ena_nil ?_)))))))))
  refine ⟨[.int 1, .int 1, .int 1], rfl, le_lit rfl, fun au => ?_⟩
  refine ⟨_, _, _, rfl, rfl, le_lit rfl, ?_⟩
  -- self.downs
  refine r_seq (r_fld C.k_Normal.cl C.n_Normal_downs rfl rfl (le_lit rfl) ?_)
  refine ev_lcR (fun d d' => ∃ v, ∃ r : Nat, d = wt v ∧ d' = .int (r : Int) ∧ RtOk (nP v) r) (ei_seqT ?_)
  walk_at "d"
  refine ⟨_, rfl, le_lit rfl, fun i d hi => ?_, ?_⟩
  · have : ∃ v, Wt v ∧ d = wt v := by
      match i, hi with
      | 0, hi => exact ⟨v0, w0, (Option.some.inj hi).symm⟩
      | 1, hi => exact ⟨v1, w1, (Option.some.inj hi).symm⟩
      | 2, hi => exact ⟨v2, w2, (Option.some.inj hi).symm⟩
    obtain ⟨v, hv, rfl⟩ := this
    walk_at "d"
    exact ⟨v, rfl, hv, fun d ⟨r, e, o⟩ => ⟨_, rfl, v, r, rfl, e, o⟩⟩
  rintro ds ⟨_, _, rfl, ⟨x0, r0, e0, rfl, q0⟩, _, _, rfl, ⟨x1, r1, e1, rfl, q1⟩, _, _, rfl, ⟨x2, r2, e2, rfl, q2⟩, hnil⟩
  have hnil : _ = [] := hnil
  subst hnil
  cases inj e0; cases inj e1; cases inj e2
  refine ⟨_, rfl, ?_⟩
  -- the walk over the primes
  refine r_seq ?_
  refine r_for [3] ?_
  refine ei_seqL ?_
  refine ev_sortSet ?_
  walk_at "d"
  refine ⟨_, rfl, ?_⟩
  walk_at "d"
  refine ⟨_, rfl, ?_⟩
  have l0 := o0.few w0.pos w0.bit
  have l1 := o1.few w1.pos w1.bit
  have l2 := o2.few w2.pos w2.bit
  refine g_addL .v .v (by simp only [D.ints, nI, List.length_map]; omega) ?_
  walk_at "d"
  refine ⟨_, rfl, ?_⟩
  refine g_addL .v .v (by simp only [D.ints, nI, List.length_map, List.length_append]; omega) ?_
  rw [ints_app, ints_app]
  refine ⟨_, .v, by simp only [nI, List.length_map, List.length_append]; omega, fun ms hm => mem_few w0 w1 w2 o0 o1 o2 hm, fun ms asc hmem => ?_⟩
  obtain ⟨ps, rfl, pasc⟩ := asc_nat (fun k hk => by
    have := (hmem k).mp hk
    simp only [List.mem_append] at this
    rcases this with (h | h) | h <;> (obtain ⟨q, _, e⟩ := List.mem_map.mp h; omega)) asc
  have pm : ∀ p, p ∈ ps ↔ NT.Pr p ∧ (ob (nP v0) p = true ∨ ob (nP v1) p = true ∨ ob (nP v2) p = true) := fun p => by
    rw [← nI_mem, hmem, List.mem_append, List.mem_append, nI_mem, nI_mem, nI_mem, o0.mem, o1.mem, o2.mem]
    simp only [ob, decide_eq_true_eq]
    constructor
    · rintro ((⟨a, b⟩ | ⟨a, b⟩) | ⟨a, b⟩)
      · exact ⟨a, .inl b⟩
      · exact ⟨a, .inr (.inl b)⟩
      · exact ⟨a, .inr (.inr b)⟩
    · rintro ⟨a, b | b | b⟩
      · exact .inl (.inl ⟨a, b⟩)
      · exact .inl (.inr ⟨a, b⟩)
      · exact .inr ⟨a, b⟩
  have plen : ps.length < 64 := by
    have := mem_few w0 w1 w2 o0 o1 o2 (ms := nI ps) ⟨asc.imp fun h => by omega, hmem⟩
    simpa using this
  refine ⟨_, rfl, fun i ρ M => ∃ (o3 o4 o5 o6 o7 : Option Sl), ρ = [some (.l 0), some (.v (.tup [wt v0, wt v1, wt v2])), some (.v (.lst [lI s0, lI s1, lI s2])), o3, o4, o5, o6, o7] ∧
    M = [.ins a.Normal ["bare", "ups", "downs"] [.raw (.ref ab), .raw (.ref au), lI [r0, r1, r2]], .pin a0 (D.ints (nI ((ps.take i).filter (brb (nP v0) (nP v1) (nP v2))))), .pin a1 (D.ints (nI ((ps.take i).filter (brb (nP v1) (nP v0) (nP v2))))), .pin a2 (D.ints (nI ((ps.take i).filter (brb (nP v2) (nP v0) (nP v1))))),
      .pin ab [.raw (.ref a0), .raw (.ref a1), .raw (.ref a2)], .pin au (D.ints (nI [((ps.take i).filter (upb (nP v0) (nP v1) (nP v2))).prod, ((ps.take i).filter (upb (nP v1) (nP v0) (nP v2))).prod, ((ps.take i).filter (upb (nP v2) (nP v0) (nP v1))).prod]))],
    ⟨_, _, _, _, _, rfl, rfl⟩, ?_, ?_⟩
  · rintro i d ρ M hi ⟨o3, o4, o5, o6, o7, rfl, rfl⟩
    obtain ⟨k, hk, rfl⟩ := ints_get hi
    obtain ⟨p, hpi, rfl⟩ := map_get hk
    obtain ⟨hpr, hodd⟩ := (pm p).mp (List.mem_of_getElem? hpi)
    have fs : ∀ f : Nat → Bool, (ps.take (i + 1)).filter f = (ps.take i).filter f ++ (if f p = true then [p] else []) := fun f => by
      rw [take_snoc hpi, List.filter_append]
      simp only [List.filter_cons, List.filter_nil]
    have small : ∀ f : Nat → Bool, (D.ints (nI ((ps.take i).filter f))).length < 16777216 := fun f => by
      have := List.length_filter_le f (ps.take i)
      simp only [D.ints, nI, List.length_map]
      rw [List.length_take] at this
      omega
    have mb : ∀ {s : List Nat} {n : Nat}, Ods s n → decide ((p : Int) ∈ nI s) = ob n p := fun {s n} o => by
      rw [ob]
      refine decide_eq_decide.mpr ?_
      rw [nI_mem, o.mem]
      exact ⟨fun h => h.2, fun h => ⟨hpr, h⟩⟩
    -- a divisor's bounds
    have upBit : ∀ (f : Nat → Bool) (n : Nat), 0 < n → n < 2 ^ 900 → (∀ q, f q = true → ob n q = true) → ((((ps.take i).filter f).prod : Nat) : Int).natAbs < 2 ^ 900 := fun f n hn hb hf => by
      have := Nat.le_of_dvd hn (NT.prod_dvd hn ((ps.take i).filter f) (((NT.asc_nodup pasc).sublist (List.take_sublist i ps)).filter f) fun q hq => by
        obtain ⟨q1, q2⟩ := List.mem_filter.mp hq
        have q3 := ((pm q).mp (List.mem_of_mem_take q1)).1
        have q4 := hf q q2
        exact ⟨q3, (NT.vp_pos q3.1 hn).mpr (by rw [ob, decide_eq_true_eq] at q4; omega)⟩)
      exact Nat.lt_of_le_of_lt this hb
    have p6 : ∀ {v : List Int}, Wt v → ob (nP v) p = true → p ≤ 1000000 := fun {v} w h => by
      rw [ob, decide_eq_true_eq] at h
      exact pr_le w hpr ((NT.vp_pos hpr.1 w.pos).mpr (by omega))
    walk_at "d"
    refine r_asg ?_
    refine ev_lc (ei_range1 ?_)
    walk_at "d"
    refine ⟨_, rfl, by decide, by decide, by rw [rangeD_len]; decide, fun j acc => acc = D.ints (hasL (ob (nP v0) p) (ob (nP v1) p) (ob (nP v2) p) j), by simp [hasL], ?_, ?_⟩
    · rintro j d acc hj rfl
      obtain ⟨hjl, rfl⟩ := rangeD_get hj
      have hjl : j < 3 := hjl
      have h3 : j = 0 ∨ j = 1 ∨ j = 2 := by omega
      rcases h3 with rfl | rfl | rfl
      · walk_at "d"
        refine ⟨_, rfl, g_inI (.l .v) ?_⟩
        rw [mb o0]
        refine ⟨_, rfl, ite_b (fun h => ?_) (fun h => ?_)⟩
        · walk_at "d"
          exact ⟨_, rfl, by simp [hasL, h]⟩
        · simp [hasL, h]
      · walk_at "d"
        refine ⟨_, rfl, g_inI (.l .v) ?_⟩
        rw [mb o1]
        refine ⟨_, rfl, ite_b (fun h => ?_) (fun h => ?_)⟩
        · walk_at "d"
          exact ⟨_, rfl, by simp [hasL, h]⟩
        · simp [hasL, h]
      · walk_at "d"
        refine ⟨_, rfl, g_inI (.l .v) ?_⟩
        rw [mb o2]
        refine ⟨_, rfl, ite_b (fun h => ?_) (fun h => ?_)⟩
        · walk_at "d"
          exact ⟨_, rfl, by simp [hasL, h]⟩
        · simp [hasL, h]
    rintro acc rfl
    rw [rangeD_len]
    cases h0 : ob (nP v0) p <;> cases h1 : ob (nP v1) p <;> cases h2 : ob (nP v2) p
    · simp [h0, h1, h2] at hodd
    · have e : hasL false false true (Int.toNat 3) = [2] := by decide
      rw [e]
      walk_at "d"
      refine ite_dec (fun _ => ?_) (fun h => absurd rfl h)
      refine r_appP ?_
      refine ev_op (ev_fldM C.k_Normal.cl C.n_Normal_bare rfl rfl rfl rfl ?_)
      walk_at "d"
      refine ⟨_, rfl, ?_⟩
      refine x_ixP ⟨4, _, _, rfl, rfl, ?_⟩
      refine ⟨a2, 3, _, rfl, rfl, ?_⟩
      walk_at "d"
      refine ⟨_, rfl, small _, ⟨_, _, _, _, _, rfl, ?_⟩⟩
      simp [fs, brb, upb, h0, h1, h2, D.ints, nI]
    · have e : hasL false true false (Int.toNat 3) = [1] := by decide
      rw [e]
      walk_at "d"
      refine ite_dec (fun _ => ?_) (fun h => absurd rfl h)
      refine r_appP ?_
      refine ev_op (ev_fldM C.k_Normal.cl C.n_Normal_bare rfl rfl rfl rfl ?_)
      walk_at "d"
      refine ⟨_, rfl, ?_⟩
      refine x_ixP ⟨4, _, _, rfl, rfl, ?_⟩
      refine ⟨a1, 2, _, rfl, rfl, ?_⟩
      walk_at "d"
      refine ⟨_, rfl, small _, ⟨_, _, _, _, _, rfl, ?_⟩⟩
      simp [fs, brb, upb, h0, h1, h2, D.ints, nI]
    · have e : hasL false true true (Int.toNat 3) = [1, 2] := by decide
      rw [e]
      walk_at "d"
      refine ite_dec (fun h => absurd h (by decide)) (fun _ => ?_)
      walk_at "d"
      refine ite_dec (fun _ => ?_) (fun h => absurd rfl h)
      walk_at "d"
      refine r_asg ?_
      walk_at "d"
      refine ⟨_, rfl, ?_⟩
      walk_at "d"
      refine ⟨_, rfl, ?_⟩
      refine g_sub ?_
      refine r_seq (r_appP ?_)
      refine ev_op (ev_fldM C.k_Normal.cl C.n_Normal_bare rfl rfl rfl rfl ?_)
      walk_at "d"
      refine x_ixP ⟨4, _, _, rfl, rfl, ?_⟩
      refine ⟨a0, 1, _, rfl, rfl, ?_⟩
      walk_at "d"
      refine ⟨_, rfl, small _, ?_⟩
      refine r_setP ?_
      refine ev_op (ev_op (ev_fldM C.k_Normal.cl C.n_Normal_ups rfl rfl rfl rfl ?_))
      walk_at "d"
      refine x_ixP ⟨5, _, _, rfl, rfl, ?_⟩
      walk_at "d"
      refine ⟨mulW (upBit _ _ w1.pos w1.bit (fun q h => by simp [upb] at h; simp [h])) (lit_bit (b := 60) (by have := p6 (w1) (h1); omega) (by decide)) (by decide), ?_⟩
      refine ev_fldM C.k_Normal.cl C.n_Normal_ups rfl rfl rfl rfl ?_
      walk_at "d"
      refine ⟨_, _, 5, _, _, 0, rfl, rfl, rfl, rfl, rfl, ⟨_, _, _, _, _, rfl, ?_⟩⟩
      simp [fs, brb, upb, h0, h1, h2, D.ints, nI, List.prod_append]
    · have e : hasL true false false (Int.toNat 3) = [0] := by decide
      rw [e]
      walk_at "d"
      refine ite_dec (fun _ => ?_) (fun h => absurd rfl h)
      refine r_appP ?_
      refine ev_op (ev_fldM C.k_Normal.cl C.n_Normal_bare rfl rfl rfl rfl ?_)
      walk_at "d"
      refine ⟨_, rfl, ?_⟩
      refine x_ixP ⟨4, _, _, rfl, rfl, ?_⟩
      refine ⟨a0, 1, _, rfl, rfl, ?_⟩
      walk_at "d"
      refine ⟨_, rfl, small _, ⟨_, _, _, _, _, rfl, ?_⟩⟩
      simp [fs, brb, upb, h0, h1, h2, D.ints, nI]
    · have e : hasL true false true (Int.toNat 3) = [0, 2] := by decide
      rw [e]
      walk_at "d"
      refine ite_dec (fun h => absurd h (by decide)) (fun _ => ?_)
      walk_at "d"
      refine ite_dec (fun _ => ?_) (fun h => absurd rfl h)
      walk_at "d"
      refine r_asg ?_
      walk_at "d"
      refine ⟨_, rfl, ?_⟩
      walk_at "d"
      refine ⟨_, rfl, ?_⟩
      refine g_sub ?_
      refine r_seq (r_appP ?_)
      refine ev_op (ev_fldM C.k_Normal.cl C.n_Normal_bare rfl rfl rfl rfl ?_)
      walk_at "d"
      refine x_ixP ⟨4, _, _, rfl, rfl, ?_⟩
      refine ⟨a1, 2, _, rfl, rfl, ?_⟩
      walk_at "d"
      refine ⟨_, rfl, small _, ?_⟩
      refine r_setP ?_
      refine ev_op (ev_op (ev_fldM C.k_Normal.cl C.n_Normal_ups rfl rfl rfl rfl ?_))
      walk_at "d"
      refine x_ixP ⟨5, _, _, rfl, rfl, ?_⟩
      walk_at "d"
      refine ⟨mulW (upBit _ _ w0.pos w0.bit (fun q h => by simp [upb] at h; simp [h])) (lit_bit (b := 60) (by have := p6 (w0) (h0); omega) (by decide)) (by decide), ?_⟩
      refine ev_fldM C.k_Normal.cl C.n_Normal_ups rfl rfl rfl rfl ?_
      walk_at "d"
      refine ⟨_, _, 5, _, _, 1, rfl, rfl, rfl, rfl, rfl, ⟨_, _, _, _, _, rfl, ?_⟩⟩
      simp [fs, brb, upb, h0, h1, h2, D.ints, nI, List.prod_append]
    · have e : hasL true true false (Int.toNat 3) = [0, 1] := by decide
      rw [e]
      walk_at "d"
      refine ite_dec (fun h => absurd h (by decide)) (fun _ => ?_)
      walk_at "d"
      refine ite_dec (fun _ => ?_) (fun h => absurd rfl h)
      walk_at "d"
      refine r_asg ?_
      walk_at "d"
      refine ⟨_, rfl, ?_⟩
      walk_at "d"
      refine ⟨_, rfl, ?_⟩
      refine g_sub ?_
      refine r_seq (r_appP ?_)
      refine ev_op (ev_fldM C.k_Normal.cl C.n_Normal_bare rfl rfl rfl rfl ?_)
      walk_at "d"
      refine x_ixP ⟨4, _, _, rfl, rfl, ?_⟩
      refine ⟨a2, 3, _, rfl, rfl, ?_⟩
      walk_at "d"
      refine ⟨_, rfl, small _, ?_⟩
      refine r_setP ?_
      refine ev_op (ev_op (ev_fldM C.k_Normal.cl C.n_Normal_ups rfl rfl rfl rfl ?_))
      walk_at "d"
      refine x_ixP ⟨5, _, _, rfl, rfl, ?_⟩
      walk_at "d"
      refine ⟨mulW (upBit _ _ w0.pos w0.bit (fun q h => by simp [upb] at h; simp [h])) (lit_bit (b := 60) (by have := p6 (w0) (h0); omega) (by decide)) (by decide), ?_⟩
      refine ev_fldM C.k_Normal.cl C.n_Normal_ups rfl rfl rfl rfl ?_
      walk_at "d"
      refine ⟨_, _, 5, _, _, 2, rfl, rfl, rfl, rfl, rfl, ⟨_, _, _, _, _, rfl, ?_⟩⟩
      simp [fs, brb, upb, h0, h1, h2, D.ints, nI, List.prod_append]
    · have e : hasL true true true (Int.toNat 3) = [0, 1, 2] := by decide
      rw [e]
      walk_at "d"
      refine ite_dec (fun h => absurd h (by decide)) (fun _ => ?_)
      walk_at "d"
      refine ite_dec (fun h => absurd h (by decide)) (fun _ => ?_)
      walk_at "d"
      refine ⟨_, _, _, _, _, rfl, ?_⟩
      simp [fs, brb, upb, h0, h1, h2]
  · rintro ρ M ⟨o3, o4, o5, o6, o7, rfl, rfl⟩
    have hlen : (D.ints (nI ps)).length = ps.length := by simp [D.ints, nI]
    rw [hlen, List.take_length]
    refine r_fzP 1 4 0 rfl rfl rfl (by omega) (by decide) ?_
    refine r_fzP 2 4 1 rfl rfl rfl (by omega) (by decide) ?_
    refine r_fzP 3 4 2 rfl rfl rfl (by omega) (by decide) ?_
    refine r_fzI 4 0 0 rfl rfl rfl (by omega) (by decide) ?_
    refine r_fzI 5 0 1 rfl rfl rfl (by omega) (by decide) ?_
    refine r_fld C.k_Normal.cl C.n_Normal_signs rfl rfl (le_lit rfl) ?_
    refine ev_lcR (fun d d' => ∃ v, d = wt v ∧ d' = .int (sgn (prodL v))) (ei_seqT ?_)
    walk_at "d"
    refine ⟨_, rfl, le_lit rfl, fun i d hi => ?_, ?_⟩
    · have : ∃ v, Wt v ∧ d = wt v := by
        match i, hi with
        | 0, hi => exact ⟨v0, w0, (Option.some.inj hi).symm⟩
        | 1, hi => exact ⟨v1, w1, (Option.some.inj hi).symm⟩
        | 2, hi => exact ⟨v2, w2, (Option.some.inj hi).symm⟩
      obtain ⟨v, hv, rfl⟩ := this
      walk_at "d"
      exact ⟨v, rfl, hv, fun d e => ⟨_, rfl, v, rfl, e⟩⟩
    rintro ds ⟨_, _, rfl, ⟨x0, e0, rfl⟩, _, _, rfl, ⟨x1, e1, rfl⟩, _, _, rfl, ⟨x2, e2, rfl⟩, hnil⟩
    have hnil : _ = [] := hnil
    subst hnil
    cases inj e0; cases inj e1; cases inj e2
    have bars : ∀ (a b c : Nat), (∀ p, NT.Pr p → brb a b c p = true → ob (nP v0) p = true ∨ ob (nP v1) p = true ∨ ob (nP v2) p = true) → Bars a b c (ps.filter (brb a b c)) := fun a b c h => ⟨pasc.sublist (List.filter_sublist ..), fun p => by
      rw [List.mem_filter, pm]
      exact ⟨fun ⟨⟨a, _⟩, b⟩ => ⟨a, b⟩, fun ⟨x, y⟩ => ⟨⟨x, h p x y⟩, y⟩⟩⟩
    have ups : ∀ (a b c : Nat), (∀ p, NT.Pr p → upb a b c p = true → ob (nP v0) p = true ∨ ob (nP v1) p = true ∨ ob (nP v2) p = true) → UpOk a b c (ps.filter (upb a b c)).prod := fun a b c h => by
      have hpr : ∀ p, p ∈ ps.filter (upb a b c) → NT.Pr p := fun p hp => ((pm p).mp (List.mem_filter.mp hp).1).1
      refine ⟨NT.prod_pos _ hpr, fun q hq => ?_⟩
      rw [NT.vp_prod hq _ ((NT.asc_nodup pasc).filter _) hpr]
      have : q ∈ ps.filter (upb a b c) ↔ upb a b c q = true := by
        rw [List.mem_filter, pm]
        exact ⟨fun h => h.2, fun y => ⟨⟨hq, h q hq y⟩, y⟩⟩
      by_cases z : upb a b c q = true
      · rw [if_pos z, if_pos (this.mpr z)]
      · rw [if_neg z, if_neg (fun y => z (this.mp y))]
    refine ⟨_, rfl, _, rfl, ps.filter (brb (nP v0) (nP v1) (nP v2)), ps.filter (brb (nP v1) (nP v0) (nP v2)), ps.filter (brb (nP v2) (nP v0) (nP v1)), _, _, _, r0, r1, r2,
      ⟨bars _ _ _ fun p _ h => ?_, bars _ _ _ fun p _ h => ?_, bars _ _ _ fun p _ h => ?_, ups _ _ _ fun p _ h => ?_, ups _ _ _ fun p _ h => ?_, ups _ _ _ fun p _ h => ?_, q0, q1, q2⟩, rfl⟩
    all_goals (simp only [brb, upb] at h)
    all_goals (cases h0 : ob (nP v0) p <;> cases h1 : ob (nP v1) p <;> cases h2 : ob (nP v2) p <;> simp [h0, h1, h2] at h ⊢)

end
section
variable {P : Program} {w : World} {K : PySem.W.Frag} {mg : Str → Option Value} {base : Heap} {a : Adr}
/-! ### the normal weights' own numbers -/
structure NV where
  B0 : List Nat
  B1 : List Nat
  B2 : List Nat
  u0 : Nat
  u1 : Nat
  u2 : Nat
  r0 : Nat
  r1 : Nat
  r2 : Nat
  s0 : Int
  s1 : Int
  s2 : Int
abbrev nmD (C : Addr) (x : NV) : D := .ins C ["bare", "ups", "downs", "signs"] [.lst [lI x.B0, lI x.B1, lI x.B2], lI [x.u0, x.u1, x.u2], lI [x.r0, x.r1, x.r2], .lst (D.ints [x.s0, x.s1, x.s2])]
structure SmallB (bs : List Nat) : Prop where
  len : bs.length ≤ 1000
  le : ∀ p, p ∈ bs → p ≤ 1000000
theorem SmallB.pre {bs : List Nat} (h : SmallB bs) : (nI bs).length ≤ 1000 ∧ ∀ n, n ∈ nI bs → n.natAbs < 2 ^ 700 := by
  refine ⟨by simpa using h.len, fun n hn => ?_⟩
  obtain ⟨p, hp, rfl⟩ := List.mem_map.mp hn
  have := h.le p hp
  exact lit_bit (b := 700) (by omega) (by decide)
theorem SmallB.bit {bs : List Nat} (h : SmallB bs) : (prodL (nI bs)).natAbs < 2 ^ 700001 := by
  refine bit_le (prod_bit (nI bs) h.pre.2) ?_
  have := h.pre.1
  omega
structure NV.Ok (x : NV) : Prop where
  b0 : SmallB x.B0
  b1 : SmallB x.B1
  b2 : SmallB x.B2
  s0 : x.s0 = 1 ∨ x.s0 = -1
  s1 : x.s1 = 1 ∨ x.s1 = -1
  s2 : x.s2 = 1 ∨ x.s2 = -1
def NV.A0 (x : NV) : Int := x.s0 * prodL (nI x.B0)
def NV.A1 (x : NV) : Int := x.s1 * prodL (nI x.B1)
def NV.A2 (x : NV) : Int := x.s2 * prodL (nI x.B2)
theorem ok_Normal_all_weights (C : Ctx K mg a) : MFnAt P w K mg base 2 a.Normal "all_weights" ["self"] (SpP K (fun x : NV => [nmD a.Normal x]) NV.Ok (fun x d => d = .tup (D.ints [x.A0, x.A1, x.A2]))) := by
  refine mfn_at C.e_Normal_all_weights sc_Normal_all_weights (fun _ => rfl) fun f cdv A outer s H E hr => ⟨_, (pss_one (ps_ret (pe_tupOf (K := K) C.B.tuple rfl (pa_cons (pe_lc (own := [("sign", 1), ("primes", 2)]) (g := (gTup _ 2 (gCons (gName 1) (gCons (gName 2) gNil)))) (tt := tYes) rfl sc_Normal_all_weights.nd (pi_zipS2 (K := K) rfl C.B.zip (pa_cons (pe_at (K := K) (pv 0)) (pa_cons (pe_at (K := K) (pv 0)) pa_nil))) (blkOk_by (N := n_Normal_all_weights) (sc := defScope s_Normal_all_weights) (by decide +kernel)) (fun _ _ _ _ _ => (pg_tup rfl (pgs_cons (pg_name (i := 1) sc_Normal_all_weights.nd rfl (by first | exact Or.inl rfl | exact Or.inr rfl)) (pgs_cons (pg_name (i := 2) sc_Normal_all_weights.nd rfl (by first | exact Or.inl rfl | exact Or.inr rfl)) pgs_nil)))) (fun _ _ _ _ _ => pts_nil) (fun _ _ _ _ _ => (pe_op (op_gMul (K := K)) (pv 1) (pe_fn (ok_product C) (hr.mono (by omega)) rfl (pa_cons (pv 2) pa_nil))))) pa_nil)))), fun x e hp he => ?_⟩
  have hp : x.Ok := hp
  dsimp only [cxOf]
  refine r_ret ?_
  refine ev_cb (ea_cons ?_)
  refine ev_lcR (fun d d' => ∃ (s : Int) (B : List Nat), d = .tup [.int s, lI B] ∧ d' = .int (s * prodL (nI B))) (ei_z2 ?_)
  refine ea_cons (ev_at ?_)
  walk_at "d"
  refine ⟨_, _, _, rfl, C.k_Normal.cl, C.n_Normal_signs, _, _, rfl, rfl, ?_⟩
  refine ea_cons (ev_at ?_)
  walk_at "d"
  refine ⟨_, _, _, rfl, C.k_Normal.cl, C.n_Normal_bare, _, _, rfl, rfl, ?_⟩
  walk_at "d"
  refine ⟨_, _, _, _, rfl, .l, .l, le_lit rfl, fun i d hi => ?_, ?_⟩
  · have key : ∀ (s : Int) (B : List Nat), (s = 1 ∨ s = -1) → SmallB B → d = .tup [.int s, lI B] → EvG K (gTup K 2 (gCons (gName 1) (gCons (gName 2) gNil))) [1, 2] d (wipeR [some (.v (nmD a.Normal x)), none, none] [1, 2]) fun ρ' => EvP K (tOp (gMul K) (tVar 1) (tCall (SpP K (fun x : Bool × List Int => [D.seq x.1 (D.ints x.2)]) (fun x => x.2.length ≤ 1000 ∧ ∀ n, n ∈ x.2 → n.natAbs < 2 ^ 700) (fun x d => d = .int (prodL x.2))) [] E0 (tCons (tVar 2) tNil))) ρ' [] fun s => ∃ d', s = .v d' ∧ ∃ (s : Int) (B : List Nat), d = .tup [.int s, lI B] ∧ d' = .int (s * prodL (nI B)) := by
      rintro s B hs hB rfl
      walk_at "d"
      refine ⟨(false, nI B), rfl, hB.pre, fun r er => ?_⟩
      subst er
      walk_at "d"
      exact ⟨mulW (a := 60) (by rcases hs with h | h <;> rw [h] <;> decide) hB.bit (by decide), _, rfl, s, B, rfl, rfl⟩
    match i, hi with
    | 0, hi => exact key x.s0 x.B0 hp.s0 hp.b0 (Option.some.inj hi).symm
    | 1, hi => exact key x.s1 x.B1 hp.s1 hp.b1 (Option.some.inj hi).symm
    | 2, hi => exact key x.s2 x.B2 hp.s2 hp.b2 (Option.some.inj hi).symm
  rintro ds ⟨_, _, rfl, ⟨s0, B0, e0, rfl⟩, _, _, rfl, ⟨s1, B1, e1, rfl⟩, _, _, rfl, ⟨s2, B2, e2, rfl⟩, hnil⟩
  have hnil : _ = [] := hnil
  subst hnil
  have inj : ∀ {s t : Int} {B B' : List Nat}, D.tup [.int s, lI B] = .tup [.int t, lI B'] → s = t ∧ B = B' := fun {s t B B'} h => by
    have h := List.cons.inj (D.tup.inj h)
    have h1 : s = t := by have := h.1; cases this; rfl
    have h2 := D.lst.inj (List.cons.inj h.2).1
    refine ⟨h1, ?_⟩
    have : ∀ (B B' : List Nat), D.ints (nI B) = D.ints (nI B') → B = B' := by
      intro B
      induction B with
      | nil => intro B' h; cases B' with
        | nil => rfl
        | cons _ _ => cases h
      | cons n v ih => intro x h; cases x with
        | nil => cases h
        | cons m x =>
          have := List.cons.inj h
          rw [ih x this.2]
          have : ((n : Nat) : Int) = m := by have := this.1; injection this with this; injection this
          have : n = m := by omega
          rw [this]
    exact this _ _ h2
  obtain ⟨rfl, rfl⟩ := inj e0
  obtain ⟨rfl, rfl⟩ := inj e1
  obtain ⟨rfl, rfl⟩ := inj e2
  walk_at "d"
  exact ret_v rfl
theorem NmD.nv {C : Addr} {v0 v1 v2 : List Int} (w0 : Wt v0) (w1 : Wt v1) (w2 : Wt v2) {ds : List D} (h : NmD v0 v1 v2 ds) : ∃ x : NV, D.ins C ["bare", "ups", "downs", "signs"] ds = nmD C x ∧ x.Ok ∧ Nm v0 v1 v2 x.B0 x.B1 x.B2 x.u0 x.u1 x.u2 x.r0 x.r1 x.r2 ∧ x.s0 = sgn (prodL v0) ∧ x.s1 = sgn (prodL v1) ∧ x.s2 = sgn (prodL v2) := by
  obtain ⟨B0, B1, B2, u0, u1, u2, r0, r1, r2, nm, rfl⟩ := h
  have sg : ∀ n, sgn n = 1 ∨ sgn n = -1 := fun n => by unfold sgn; split <;> simp
  have small : ∀ {a b c : List Int} {bs : List Nat}, Wt a → Wt b → Wt c → Bars (nP a) (nP b) (nP c) bs → SmallB bs := fun {a b c bs} ha hb hc h => by
    have odd : ∀ p, p ∈ bs → NT.Pr p ∧ (p ∣ nP a ∨ p ∣ nP b) := fun p hp => by
      obtain ⟨q1, q2⟩ := (h.mem p).mp hp
      refine ⟨q1, ?_⟩
      simp only [brb, Bool.and_eq_true, ob, bne_iff_ne, ne_eq, decide_eq_decide, beq_iff_eq] at q2
      by_cases z : NT.vp p (nP a) % 2 = 1
      · exact .inl ((NT.vp_pos q1.1 ha.pos).mpr (by omega))
      · refine .inr ((NT.vp_pos q1.1 hb.pos).mpr ?_)
        have := q2.2
        omega
    refine ⟨?_, fun p hp => ?_⟩
    · have hpos := Nat.mul_pos ha.pos hb.pos
      have := NT.few_primes hpos (Nat.le_trans (Nat.mul_le_mul ha.le30 hb.le30) (by decide)) bs (NT.asc_nodup h.asc) fun p hp => by
        obtain ⟨q1, q2 | q2⟩ := odd p hp
        · exact ⟨q1, Nat.dvd_mul_right_of_dvd q2 _⟩
        · exact ⟨q1, Nat.dvd_mul_left_of_dvd q2 _⟩
      omega
    · obtain ⟨q1, q2 | q2⟩ := odd p hp
      · exact pr_le ha q1 q2
      · exact pr_le hb q1 q2
  exact ⟨⟨B0, B1, B2, u0, u1, u2, r0, r1, r2, _, _, _⟩, rfl, ⟨small w0 w1 w2 nm.b0, small w1 w0 w2 nm.b1, small w2 w0 w1 nm.b2, sg _, sg _, sg _⟩, nm, rfl, rfl, rfl⟩

end
section
variable {P : Program} {w : World} {K : PySem.W.Frag} {mg : Str → Option Value} {base : Heap} {a : Adr}
/-! ### the places that bar normal weights -/
structure NV.Fine (x : NV) : Prop where
  ok : x.Ok
  a0 : x.A0.natAbs < 2 ^ 200
  a1 : x.A1.natAbs < 2 ^ 200
  a2 : x.A2.natAbs < 2 ^ 200
  n0 : x.B0.Nodup
  n1 : x.B1.Nodup
  n2 : x.B2.Nodup
  p0 : ∀ p, p ∈ x.B0 → NT.Pr p
  p1 : ∀ p, p ∈ x.B1 → NT.Pr p
  p2 : ∀ p, p ∈ x.B2 → NT.Pr p
  d01 : ∀ p, p ∈ x.B0 → p ∉ x.B1
  d02 : ∀ p, p ∈ x.B0 → p ∉ x.B2
  d12 : ∀ p, p ∈ x.B1 → p ∉ x.B2
def twoB (x y z : Int) : Bool :=
  if x % 2 = 0 then !decide ((y + z) % 8 = 0) && !decide ((y + z + x) % 8 = 0)
  else if y % 2 = 0 then !decide ((x + z) % 8 = 0) && !decide ((x + z + y) % 8 = 0)
  else if z % 2 = 0 then !decide ((x + y) % 8 = 0) && !decide ((x + y + z) % 8 = 0)
  else !(decide ((x + z) % 4 = 0) || (decide ((y + x) % 4 = 0) || decide ((z + y) % 4 = 0)))
structure OneEv (x y z : Int) : Prop where
  xy : x % 2 = 1 ∨ y % 2 = 1
  xz : x % 2 = 1 ∨ z % 2 = 1
  yz : y % 2 = 1 ∨ z % 2 = 1
theorem ev_cut {K : PySem.W.Frag} {ρ : Rho} {M : List MO} {Q : Sl → Prop} {te : TE} {tt : TT} {wi : TI} {g : TG} {vs : List Nat} (ns : List Int) (f : Int → Bool) (h : EvI K wi ρ M fun items => items = D.ints ns ∧ ns.length ≤ 16777216 ∧ (∀ n, n ∈ ns → EvG K g vs (.int n) (wipeR ρ vs) fun ρ' => EvT K tt ρ' M fun b => b = f n ∧ (b = true → EvP K te ρ' M fun s => s = .v (.int n))) ∧ Q (.v (.lst (D.ints (ns.filter f))))) : EvP K (tLc wi g tt te vs) ρ M Q := by
  refine ev_lc fun σ α F H en S k kk => h σ α F H en S k fun J F' H' items m S' ok ⟨e1, h1, h2, h3⟩ => kk J F' H' items m S' ok ?_
  subst e1
  refine ⟨by simpa [D.ints] using h1, fun i acc => acc = D.ints ((ns.take i).filter f), rfl, fun i d acc hi ha => ?_, fun acc ha => ?_⟩
  · obtain ⟨n, hn, rfl⟩ := ints_get hi
    subst ha
    have hf : (ns.take (i + 1)).filter f = (ns.take i).filter f ++ (if f n = true then [n] else []) := by
      rw [take_snoc hn, List.filter_append]
      simp only [List.filter_cons, List.filter_nil]
    intro σ α F H v en s hd k kk
    refine h2 n (List.mem_of_getElem? hn) σ α F H v en s hd k fun σ' ρ' en' hl hj q => kk σ' ρ' en' hl hj ?_
    intro σ α F H en S k kk
    refine q σ α F H en S k fun b F' H' m S' ⟨eb, q2⟩ => kk b F' H' m S' ?_
    subst eb
    refine ite_b (fun hb => ?_) (fun hb => ?_)
    · refine (q2 hb).mono fun s es => ⟨_, es, ?_⟩
      show _ = D.ints _
      rw [hf, if_pos hb]; simp [D.ints]
    · show _ = D.ints _
      rw [hf, if_neg (by rw [hb]; decide)]; simp
  · have hl : (D.ints ns).length = ns.length := by simp [D.ints]
    rw [hl, List.take_length] at ha
    subst ha
    exact h3
theorem ok_two_bars (C : Ctx K mg a) : FnAt P w K mg base CX0 1 "two_bars" ["numbers"] (SpP K (fun x : Int × Int × Int => [.tup (D.ints [x.1, x.2.1, x.2.2])]) (fun x => OneEv x.1 x.2.1 x.2.2) (fun x d => d = .bl (twoB x.1 x.2.1 x.2.2))) := by
  refine fn_at C.d_two_bars sc_two_bars (fun _ => rfl) fun f cdv A outer s H E hr => ⟨_, (pss_cons (ps_setLc (i := 1) (own := [("one", 3)]) (g := (gName 3)) (tt := _) rfl sc_two_bars.nd rfl rfl (sw_true rfl rfl rfl (by decide +kernel)) (pi_seq (K := K) (pv 0)) (blkOk_by (N := n_two_bars) (sc := defScope s_two_bars) (by decide +kernel)) (fun _ _ _ _ _ => (pg_name (i := 3) sc_two_bars.nd rfl (by first | exact Or.inl rfl | exact Or.inr rfl))) (fun _ _ _ _ _ => (pts_one (pt_cmpR (op_gEq (K := K) (by exact hr.units)) (pe_op op_gMod (pv 3) pe_int) pe_int (nomark _)))) (fun _ _ _ _ _ => (pv 3)))
    (pss_cons (ps_set (i := 2) sc_two_bars.nd rfl (by first | exact Or.inl rfl | exact Or.inr rfl) (pe_lc (own := [("one", 3)]) (g := (gName 3)) (tt := _) rfl sc_two_bars.nd (pi_seq (K := K) (pv 0)) (blkOk_by (N := n_two_bars) (sc := defScope s_two_bars) (by decide +kernel)) (fun _ _ _ _ _ => (pg_name (i := 3) sc_two_bars.nd rfl (by first | exact Or.inl rfl | exact Or.inr rfl))) (fun _ _ _ _ _ => (pts_one (pt_cmpR (op_gEq (K := K) (by exact hr.units)) (pe_op op_gMod (pv 3) pe_int) pe_int (nomark _)))) (fun _ _ _ _ _ => (pv 3))))
    (pss_cons (ps_if (pt_cmpR (op_gEq (K := K) (by exact hr.units)) (pv 1) (pe_lst pa_nil) (nomark _))
    (pss_one (ps_ret (pe_not (pe_any (K := K) C.B.any rfl rfl (pa_cons (pe_lc (own := [("at", 4)]) (g := (gName 4)) (tt := tYes) rfl sc_two_bars.nd (pi_range1 rfl C.B.range (pa_cons pe_int pa_nil)) (blkOk_by (N := n_two_bars) (sc := defScope s_two_bars) (by decide +kernel)) (fun _ _ _ _ _ => (pg_name (i := 4) sc_two_bars.nd rfl (by first | exact Or.inl rfl | exact Or.inr rfl))) (fun _ _ _ _ _ => pts_nil) (fun _ _ _ _ _ => (pe_cmpR (op_gEq (K := K) (by exact hr.units)) (pe_op op_gMod (pe_op (op_gAdd (K := K)) (pe_ix (ix_any (K := K)) (pv 2) (pv 4) (fun _ _ => rfl)) (pe_ix (ix_any (K := K)) (pv 2) (pe_op op_gSub (pv 4) pe_int) (fun _ _ => rfl))) pe_int) pe_int (nomark _)))) pa_nil)))))
    pss_nil)
    (pss_one (ps_ret (pe_and (pe_cmpR (op_gNe (K := K) (by exact hr.units)) (pe_op op_gMod (pe_op (op_gAdd (K := K)) (pe_ix (ix_any (K := K)) (pv 2) pe_int (fun _ _ => rfl)) (pe_ix (ix_any (K := K)) (pv 2) pe_int (fun _ _ => rfl))) pe_int) pe_int (nomark _)) (pe_one (pe_cmpR (op_gNe (K := K) (by exact hr.units)) (pe_op op_gMod (pe_op (op_gAdd (K := K)) (pe_op (op_gAdd (K := K)) (pe_ix (ix_any (K := K)) (pv 2) pe_int (fun _ _ => rfl)) (pe_ix (ix_any (K := K)) (pv 2) pe_int (fun _ _ => rfl))) (pe_ix (ix_any (K := K)) (pv 1) pe_int (fun _ _ => rfl))) pe_int) pe_int (nomark _))))))))), fun x e hp he => ?_⟩
  obtain ⟨x, y, z⟩ := x
  obtain ⟨h1, h2, h3⟩ := hp
  have h1 : x % 2 = 1 ∨ y % 2 = 1 := h1
  have h2 : x % 2 = 1 ∨ z % 2 = 1 := h2
  have h3 : y % 2 = 1 ∨ z % 2 = 1 := h3
  dsimp only [cxOf]
  refine r_seq (r_asg ?_)
  refine ev_cut [x, y, z] (fun n => decide (n % 2 = 0)) (ei_seqT ?_)
  walk_at "d"
  refine ⟨_, rfl, rfl, le_lit rfl, fun n hn => ?_, ?_⟩
  · walk_at "d"
    refine ⟨rfl, fun hb => ?_⟩
    walk_at "d"
    exact rfl
  refine r_seq (r_asg ?_)
  refine ev_cut [x, y, z] (fun n => decide (n % 2 = 1)) (ei_seqT ?_)
  walk_at "d"
  refine ⟨_, rfl, rfl, le_lit rfl, fun n hn => ?_, ?_⟩
  · walk_at "d"
    refine ⟨rfl, fun hb => ?_⟩
    walk_at "d"
    exact rfl
  by_cases hx : x % 2 = 0
  · have hy : y % 2 = 1 := by omega
    have hz : z % 2 = 1 := by omega
    have ny : ¬ y % 2 = 0 := by omega
    have nz : ¬ z % 2 = 0 := by omega
    have nx : ¬ x % 2 = 1 := by omega
    have f1 : [x, y, z].filter (fun n => decide (n % 2 = 0)) = [x] := by simp [hx, hy, hz, ny, nz, nx]
    have f2 : [x, y, z].filter (fun n => decide (n % 2 = 1)) = [y, z] := by simp [hx, hy, hz, ny, nz, nx]
    rw [f1, f2]
    walk_at "d"
    refine g_eqD 5 rfl rfl (by decide) ?_
    refine ⟨_, rfl, ?_⟩
    refine iteF ?_
    walk_at "d"
    refine ⟨_, rfl, ?_⟩
    walk_at "d"
    refine ⟨_, rfl, ?_⟩
    walk_at "d"
    refine ite_ndec (fun h => ?_) (fun h => ?_)
    · walk_at "d"
      refine ⟨_, rfl, ?_⟩
      walk_at "d"
      refine ⟨_, rfl, ?_⟩
      walk_at "d"
      refine ⟨_, rfl, ?_⟩
      walk_at "d"
      exact ret_v (by simp [twoB, hx, hy, hz, ny, nz, nx, h])
    · exact ret_v (by simp [twoB, hx, hy, hz, ny, nz, nx, h])
  have nx : x % 2 = 1 := by omega
  by_cases hy : y % 2 = 0
  · have hz : z % 2 = 1 := by omega
    have ny : ¬ y % 2 = 1 := by omega
    have nz : ¬ z % 2 = 0 := by omega
    have f1 : [x, y, z].filter (fun n => decide (n % 2 = 0)) = [y] := by simp [hx, hy, hz, ny, nz, nx]
    have f2 : [x, y, z].filter (fun n => decide (n % 2 = 1)) = [x, z] := by simp [hx, hy, hz, ny, nz, nx]
    rw [f1, f2]
    walk_at "d"
    refine g_eqD 5 rfl rfl (by decide) ?_
    refine ⟨_, rfl, ?_⟩
    refine iteF ?_
    walk_at "d"
    refine ⟨_, rfl, ?_⟩
    walk_at "d"
    refine ⟨_, rfl, ?_⟩
    walk_at "d"
    refine ite_ndec (fun h => ?_) (fun h => ?_)
    · walk_at "d"
      refine ⟨_, rfl, ?_⟩
      walk_at "d"
      refine ⟨_, rfl, ?_⟩
      walk_at "d"
      refine ⟨_, rfl, ?_⟩
      walk_at "d"
      exact ret_v (by simp [twoB, hx, hy, hz, ny, nz, nx, h])
    · exact ret_v (by simp [twoB, hx, hy, hz, ny, nz, nx, h])
  have ny : y % 2 = 1 := by omega
  by_cases hz : z % 2 = 0
  · have nz : ¬ z % 2 = 1 := by omega
    have f1 : [x, y, z].filter (fun n => decide (n % 2 = 0)) = [z] := by simp [hx, hy, hz, ny, nz, nx]
    have f2 : [x, y, z].filter (fun n => decide (n % 2 = 1)) = [x, y] := by simp [hx, hy, hz, ny, nz, nx]
    rw [f1, f2]
    walk_at "d"
    refine g_eqD 5 rfl rfl (by decide) ?_
    refine ⟨_, rfl, ?_⟩
    refine iteF ?_
    walk_at "d"
    refine ⟨_, rfl, ?_⟩
    walk_at "d"
    refine ⟨_, rfl, ?_⟩
    walk_at "d"
    refine ite_ndec (fun h => ?_) (fun h => ?_)
    · walk_at "d"
      refine ⟨_, rfl, ?_⟩
      walk_at "d"
      refine ⟨_, rfl, ?_⟩
      walk_at "d"
      refine ⟨_, rfl, ?_⟩
      walk_at "d"
      exact ret_v (by simp [twoB, hx, hy, hz, ny, nz, nx, h])
    · exact ret_v (by simp [twoB, hx, hy, hz, ny, nz, nx, h])
  have nz : z % 2 = 1 := by omega
  have f1 : [x, y, z].filter (fun n => decide (n % 2 = 0)) = [] := by simp [hx, hy, hz]
  have f2 : [x, y, z].filter (fun n => decide (n % 2 = 1)) = [x, y, z] := by simp [nx, ny, nz]
  rw [f1, f2]
  walk_at "d"
  refine g_eqD 5 rfl rfl (by decide) ?_
  refine ⟨_, rfl, ?_⟩
  refine iteT ?_
  walk_at "d"
  refine ev_lcR (fun d d' => (d = .int 0 → d' = .bl (decide ((x + z) % 4 = 0))) ∧ (d = .int 1 → d' = .bl (decide ((y + x) % 4 = 0))) ∧ (d = .int 2 → d' = .bl (decide ((z + y) % 4 = 0)))) (ei_range1 ?_)
  walk_at "d"
  refine ⟨3, rfl, by decide, by decide, le_lit rfl, fun j d hj => ?_, ?_⟩
  · obtain ⟨hjl, rfl⟩ := rangeD_get hj
    have h3 : j = 0 ∨ j = 1 ∨ j = 2 := by have hjl : j < 3 := hjl; omega
    rcases h3 with rfl | rfl | rfl
    · walk_at "d"
      refine ⟨_, rfl, ?_⟩
      walk_at "d"
      refine ⟨_, rfl, ?_⟩
      walk_at "d"
      exact ⟨_, rfl, fun _ => rfl, fun h => absurd (V.int.inj (D.raw.inj h)) (by decide), fun h => absurd (V.int.inj (D.raw.inj h)) (by decide)⟩
    · walk_at "d"
      refine ⟨_, rfl, ?_⟩
      walk_at "d"
      refine ⟨_, rfl, ?_⟩
      walk_at "d"
      exact ⟨_, rfl, fun h => absurd (V.int.inj (D.raw.inj h)) (by decide), fun _ => rfl, fun h => absurd (V.int.inj (D.raw.inj h)) (by decide)⟩
    · walk_at "d"
      refine ⟨_, rfl, ?_⟩
      walk_at "d"
      refine ⟨_, rfl, ?_⟩
      walk_at "d"
      exact ⟨_, rfl, fun h => absurd (V.int.inj (D.raw.inj h)) (by decide), fun h => absurd (V.int.inj (D.raw.inj h)) (by decide), fun _ => rfl⟩
  rintro ds ⟨c0, _, rfl, ⟨g0, _, _⟩, c1, _, rfl, ⟨_, g1, _⟩, c2, _, rfl, ⟨_, _, g2⟩, hnil⟩
  have hnil : _ = [] := hnil
  subst hnil
  cases g0 rfl
  cases g1 rfl
  cases g2 rfl
  refine ea_nil ?_
  refine ec_any (bs := [decide ((x + z) % 4 = 0), decide ((y + x) % 4 = 0), decide ((z + y) % 4 = 0)]) .v ?_
  refine ⟨_, rfl, ?_⟩
  exact ret_v (by simp [twoB, hx, hy, hz])

end
section
variable {P : Program} {w : World} {K : PySem.W.Frag} {mg : Str → Option Value} {base : Heap} {a : Adr}
/-! ### rules -/
open NT in
def unitF (i j : Nat) (t : Int) : V3 := ⟨(if j = 0 then t else 0) + (if i = 0 then 1 else 0), (if j = 1 then t else 0) + (if i = 1 then 1 else 0), (if j = 2 then t else 0) + (if i = 2 then 1 else 0)⟩
theorem ixN3 {k : Int} {i : Nat} (hi : i < 3) (h : k = (i : Int) ∨ k = (i : Int) - 3) : ixN 3 k = some i := by
  have h3 : i = 0 ∨ i = 1 ∨ i = 2 := by omega
  rcases h3 with rfl | rfl | rfl <;> rcases h with rfl | rfl <;> rfl
open NT in
theorem ok_unit (C : Ctx K mg a) : FnAt P w K mg base CX0 1 "unit" ["at", "other", "factor"] (SpP K (fun x : (Int × Nat) × (Int × Nat) × Int => [.int x.1.1, .int x.2.1.1, .int x.2.2]) (fun x => (x.1.2 < 3 ∧ (x.1.1 = (x.1.2 : Int) ∨ x.1.1 = (x.1.2 : Int) - 3)) ∧ (x.2.1.2 < 3 ∧ (x.2.1.1 = (x.2.1.2 : Int) ∨ x.2.1.1 = (x.2.1.2 : Int) - 3))) (fun x d => d = vD (unitF x.1.2 x.2.1.2 x.2.2))) := by
  refine fn_at C.d_unit sc_unit (fun _ => rfl) fun f cdv A outer s H E hr => ⟨_, (pss_cons (ps_set (i := 3) sc_unit.nd rfl (by first | exact Or.inl rfl | exact Or.inr rfl) (pe_lst (pa_cons pe_int (pa_cons pe_int (pa_cons pe_int pa_nil)))))
    (pss_cons (ps_augS (pv 3) (pv 1) (pget_list (K := K)) (pv 2) ip_add set_list)
    (pss_cons (ps_augS (pv 3) (pv 0) (pget_list (K := K)) pe_int ip_add set_list)
    (pss_one (ps_ret (pv 3)))))), fun x e hp he => ?_⟩
  obtain ⟨⟨ia, i⟩, ⟨ja, j⟩, t⟩ := x
  obtain ⟨⟨hi, hia⟩, ⟨hj, hja⟩⟩ := hp
  have hi : i < 3 := hi
  have hj : j < 3 := hj
  have e1 := ixN3 hi hia
  have e2 := ixN3 hj hja
  have e1 : ixN 3 ia = some i := e1
  have e2 : ixN 3 ja = some j := e2
  have he : e.α.length = 0 := he
  dsimp only [cxOf]
  refine r_seq (r_newL ?_)
  walk_at "d"
  have hj3 : j = 0 ∨ j = 1 ∨ j = 2 := by omega
  have hi3 : i = 0 ∨ i = 1 ∨ i = 2 := by omega
  refine r_augS (k := 0) rfl rfl ?_
  walk_at "d"
  rcases hj3 with rfl | rfl | rfl
  all_goals
    refine ⟨_, _, _, rfl, e2, rfl, ?_⟩
    walk_at "d"
    refine r_augS (k := 0) rfl rfl ?_
    walk_at "d"
    rcases hi3 with rfl | rfl | rfl
    all_goals
      refine ⟨_, _, _, rfl, e1, rfl, ?_⟩
      refine ev_c ⟨_, rfl, ?_⟩
      refine r_freeze 3 0 rfl rfl (by omega) ?_
      walk_at "d"
      refine ret_v ?_
      unfold unitF
      simp [D.ints]
open NT in
abbrev rlD (r : Rule) : D := .tup [vD r.1, .int (r.2 : Int)]
open NT in
theorem unit_axis (i : Nat) (hi : i < 3) : unitF i 0 0 = axis i := by
  have h3 : i = 0 ∨ i = 1 ∨ i = 2 := by omega
  rcases h3 with rfl | rfl | rfl <;> rfl
/-- the places one and two ahead -/
def ah1 (i : Nat) : Nat := if i = 0 then 2 else i - 1
def ah2 (i : Nat) : Nat := if i = 0 then 1 else if i = 1 then 2 else 0
open NT in
theorem unit_apart (i : Nat) (hi : i < 3) (t : Int) : unitF (ah1 i) (ah2 i) t = apart i t := by
  have h3 : i = 0 ∨ i = 1 ∨ i = 2 := by omega
  rcases h3 with rfl | rfl | rfl <;> (unfold unitF apart ah1 ah2; simp)
open NT in
theorem unit_with (i : Nat) (hi : i < 3) : unitF i (ah1 i) 1 = withp i := by
  have h3 : i = 0 ∨ i = 1 ∨ i = 2 := by omega
  rcases h3 with rfl | rfl | rfl <;> rfl
open NT in
theorem ok_two_rules (C : Ctx K mg a) : FnAt P w K mg base CX0 2 "two_rules" ["numbers"] (SpP K (fun a : V3 => [.tup (D.ints [a.x, a.y, a.z])]) (fun a => OneEv a.x a.y a.z ∧ twoB a.x a.y a.z = false) (fun a d => d = .lst ((twoR a).map rlD))) := by
  refine fn_at C.d_two_rules sc_two_rules (fun _ => rfl) fun f cdv A outer s H E hr => ⟨_, (pss_cons (ps_setLc (i := 1) (own := [("at", 2)]) (g := (gName 2)) (tt := _) rfl sc_two_rules.nd rfl rfl (sw_true rfl rfl rfl (by decide +kernel)) (pi_range1 rfl C.B.range (pa_cons pe_int pa_nil)) (blkOk_by (N := n_two_rules) (sc := defScope s_two_rules) (by decide +kernel)) (fun _ _ _ _ _ => (pg_name (i := 2) sc_two_rules.nd rfl (by first | exact Or.inl rfl | exact Or.inr rfl))) (fun _ _ _ _ _ => (pts_one (pt_cmpR (op_gEq (K := K) (by exact hr.units)) (pe_op op_gMod (pe_ix (ix_any (K := K)) (pv 0) (pv 2) (fun _ _ => rfl)) pe_int) pe_int (nomark _)))) (fun _ _ _ _ _ => (pv 2)))
    (pss_cons (ps_if (pt_cmpR (op_gEq (K := K) (by exact hr.units)) (pv 1) (pe_lst pa_nil) (nomark _))
    (pss_cons (ps_set (i := 2) sc_two_rules.nd rfl (by first | exact Or.inl rfl | exact Or.inr rfl) (pe_ix (ix_any (K := K)) (pe_lc (own := [("place", 4)]) (g := (gName 4)) (tt := _) rfl sc_two_rules.nd (pi_range1 rfl C.B.range (pa_cons pe_int pa_nil)) (blkOk_by (N := n_two_rules) (sc := defScope s_two_rules) (by decide +kernel)) (fun _ _ _ _ _ => (pg_name (i := 4) sc_two_rules.nd rfl (by first | exact Or.inl rfl | exact Or.inr rfl))) (fun _ _ _ _ _ => (pts_one (pt_cmpR (op_gEq (K := K) (by exact hr.units)) (pe_op op_gMod (pe_op (op_gAdd (K := K)) (pe_ix (ix_any (K := K)) (pv 0) (pe_op op_gSub (pv 4) pe_int) (fun _ _ => rfl)) (pe_ix (ix_any (K := K)) (pv 0) (pe_op op_gSub (pv 4) pe_int) (fun _ _ => rfl))) pe_int) pe_int (nomark _)))) (fun _ _ _ _ _ => (pv 4))) pe_int (fun _ _ => rfl)))
    (pss_one (ps_ret (pe_lst (pa_cons (pe_tup (pa_cons (pe_fn (ok_unit C) (hr.mono (by omega)) rfl (pa_cons (pv 2) (pa_cons pe_int (pa_cons pe_int pa_nil)))) (pa_cons pe_int pa_nil))) (pa_cons (pe_tup (pa_cons (pe_fn (ok_unit C) (hr.mono (by omega)) rfl (pa_cons (pe_op op_gSub (pv 2) pe_int) (pa_cons (pe_op op_gSub (pv 2) pe_int) (pa_cons (pe_un un_neg pe_int) pa_nil)))) (pa_cons pe_int pa_nil))) pa_nil))))))
    pss_nil)
    (pss_cons (ps_set (i := 2) sc_two_rules.nd rfl (by first | exact Or.inl rfl | exact Or.inr rfl) (pe_ix (ix_any (K := K)) (pv 1) pe_int (fun _ _ => rfl)))
    (pss_cons (ps_set (i := 3) sc_two_rules.nd rfl (by first | exact Or.inl rfl | exact Or.inr rfl) (pe_tup (pa_cons (pe_fn (ok_unit C) (hr.mono (by omega)) rfl (pa_cons (pe_op op_gSub (pv 2) pe_int) (pa_cons (pe_op op_gSub (pv 2) pe_int) (pa_cons (pe_un un_neg pe_int) pa_nil)))) (pa_cons pe_int pa_nil))))
    (pss_cons (ps_if (pt_cmpR (op_gEq (K := K) (by exact hr.units)) (pe_op op_gMod (pe_op (op_gAdd (K := K)) (pe_ix (ix_any (K := K)) (pv 0) (pe_op op_gSub (pv 2) pe_int) (fun _ _ => rfl)) (pe_ix (ix_any (K := K)) (pv 0) (pe_op op_gSub (pv 2) pe_int) (fun _ _ => rfl))) pe_int) pe_int (nomark _))
    (pss_one (ps_ret (pe_lst (pa_cons (pv 3) (pa_cons (pe_tup (pa_cons (pe_fn (ok_unit C) (hr.mono (by omega)) rfl (pa_cons (pv 2) (pa_cons pe_int (pa_cons pe_int pa_nil)))) (pa_cons pe_int pa_nil))) pa_nil)))))
    pss_nil)
    (pss_one (ps_ret (pe_lst (pa_cons (pv 3) (pa_cons (pe_tup (pa_cons (pe_fn (ok_unit C) (hr.mono (by omega)) rfl (pa_cons (pv 2) (pa_cons (pe_op op_gSub (pv 2) pe_int) (pa_cons pe_int pa_nil)))) (pa_cons pe_int pa_nil))) pa_nil)))))))))), fun a' e hp he => ?_⟩
  obtain ⟨one, nb⟩ := hp
  obtain ⟨o1, o2, o3⟩ := one
  have at0v : ∀ {j : Nat}, j < 3 → atI (D.ints [a'.x, a'.y, a'.z]) (j : Int) = some (.int (at0 a' j)) := by
    intro j hj
    have h3 : j = 0 ∨ j = 1 ∨ j = 2 := by omega
    rcases h3 with rfl | rfl | rfl <;> rfl
  have at1v : ∀ {j : Nat}, j < 3 → atI (D.ints [a'.x, a'.y, a'.z]) ((j : Int) - 1) = some (.int (at1 a' j)) := by
    intro j hj
    have h3 : j = 0 ∨ j = 1 ∨ j = 2 := by omega
    rcases h3 with rfl | rfl | rfl <;> rfl
  have at2v : ∀ {j : Nat}, j < 3 → atI (D.ints [a'.x, a'.y, a'.z]) ((j : Int) - 2) = some (.int (at2 a' j)) := by
    intro j hj
    have h3 : j = 0 ∨ j = 1 ∨ j = 2 := by omega
    rcases h3 with rfl | rfl | rfl <;> rfl
  have j3 : ∀ {n : Int}, n ∈ ([0, 1, 2] : List Int) → ∃ j : Nat, n = (j : Int) ∧ j < 3 := by
    intro n hn
    simp only [List.mem_cons, List.not_mem_nil, or_false] at hn
    rcases hn with rfl | rfl | rfl
    · exact ⟨0, rfl, by decide⟩
    · exact ⟨1, rfl, by decide⟩
    · exact ⟨2, rfl, by decide⟩
  have apre : ∀ {i : Nat}, i < 3 → (ah1 i < 3 ∧ ((i : Int) - 1 = (ah1 i : Int) ∨ (i : Int) - 1 = (ah1 i : Int) - 3)) ∧ (ah2 i < 3 ∧ ((i : Int) - 2 = (ah2 i : Int) ∨ (i : Int) - 2 = (ah2 i : Int) - 3)) := by
    intro i hi
    have h3 : i = 0 ∨ i = 1 ∨ i = 2 := by omega
    rcases h3 with rfl | rfl | rfl <;> decide
  dsimp only [cxOf]
  refine r_seq (r_asg ?_)
  refine ev_cutE (fun n => decide (at0 a' n.toNat % 2 = 0)) (ei_range1 ?_)
  walk_at "d"
  refine ⟨3, rfl, by decide, by decide, [0, 1, 2], rfl, by decide, fun n hn => ?_, ?_⟩
  · obtain ⟨j, rfl, hj⟩ := j3 hn
    walk_at "d"
    refine ⟨_, at0v hj, ?_⟩
    walk_at "d"
    refine ⟨rfl, fun hb => ?_⟩
    walk_at "d"
    exact rfl
  have hfil : ([0, 1, 2] : List Int).filter (fun n => decide (at0 a' n.toNat % 2 = 0)) = (match evenAt a' with | none => [] | some i => [(i : Int)]) := by
    have f0 : at0 a' (0 : Int).toNat = a'.x := rfl
    have f1 : at0 a' (1 : Int).toNat = a'.y := rfl
    have f2 : at0 a' (2 : Int).toNat = a'.z := rfl
    simp only [List.filter_cons, List.filter_nil, f0, f1, f2]
    unfold evenAt
    by_cases c0 : a'.x % 2 = 0
    · have c1 : ¬ a'.y % 2 = 0 := by omega
      have c2 : ¬ a'.z % 2 = 0 := by omega
      simp [c0, c1, c2]
    · by_cases c1 : a'.y % 2 = 0
      · have c2 : ¬ a'.z % 2 = 0 := by omega
        simp [c0, c1, c2]
      · by_cases c2 : a'.z % 2 = 0
        · simp [c0, c1, c2]
        · simp [c0, c1, c2]
  rw [hfil]
  cases he2 : evenAt a' with
  | none =>
    dsimp only
    walk_at "d"
    refine g_eqD 5 (pl_lstI (n := 4) []) rfl (by decide) ?_
    have eqv0 : (D.lst (D.ints [])).eqv (.lst []) = true := rfl
    rw [eqv0]
    refine ⟨_, rfl, iteT ?_⟩
    have hodd : a'.x % 2 = 1 ∧ a'.y % 2 = 1 ∧ a'.z % 2 = 1 := by
      unfold evenAt at he2
      split at he2
      · cases he2
      · split at he2
        · cases he2
        · split at he2
          · cases he2
          · omega
    walk_at "d"
    refine r_asg ?_
    refine ev_op ?_
    refine ev_cutE (fun n => decide ((at1 a' n.toNat + at2 a' n.toNat) % 4 = 0)) (ei_range1 ?_)
    walk_at "d"
    refine ⟨3, rfl, by decide, by decide, [0, 1, 2], rfl, by decide, fun n hn => ?_, ?_⟩
    · obtain ⟨j, rfl, hj⟩ := j3 hn
      walk_at "d"
      refine ⟨_, at1v hj, ?_⟩
      walk_at "d"
      refine ⟨_, at2v hj, ?_⟩
      walk_at "d"
      refine ⟨rfl, fun hb => ?_⟩
      walk_at "d"
      exact rfl
    have nb4 : (a'.z + a'.y) % 4 = 0 ∨ (a'.x + a'.z) % 4 = 0 ∨ (a'.y + a'.x) % 4 = 0 := by
      have nb : twoB a'.x a'.y a'.z = false := nb
      unfold twoB at nb
      rw [if_neg (by omega), if_neg (by omega), if_neg (by omega)] at nb
      simp only [Bool.not_eq_false', Bool.or_eq_true, decide_eq_true_eq] at nb
      omega
    have hf4 : ∃ r, ([0, 1, 2] : List Int).filter (fun n => decide ((at1 a' n.toNat + at2 a' n.toNat) % 4 = 0)) = (fourAt a' : Int) :: r := by
      have f0 : at1 a' (0 : Int).toNat + at2 a' (0 : Int).toNat = a'.z + a'.y := rfl
      have f1 : at1 a' (1 : Int).toNat + at2 a' (1 : Int).toNat = a'.x + a'.z := rfl
      have f2 : at1 a' (2 : Int).toNat + at2 a' (2 : Int).toNat = a'.y + a'.x := rfl
      have g0 : at1 a' 0 + at2 a' 0 = a'.z + a'.y := rfl
      have g1 : at1 a' 1 + at2 a' 1 = a'.x + a'.z := rfl
      simp only [List.filter_cons, List.filter_nil, f0, f1, f2]
      unfold fourAt
      rw [g0, g1]
      by_cases c0 : (a'.z + a'.y) % 4 = 0
      · simp [c0]
      · by_cases c1 : (a'.x + a'.z) % 4 = 0
        · simp [c0, c1]
        · have c2 : (a'.y + a'.x) % 4 = 0 := by omega
          simp [c0, c1, c2]
    obtain ⟨r, er⟩ := hf4
    have f3 : fourAt a' < 3 := by unfold fourAt; split <;> (try split) <;> omega
    rw [er]
    walk_at "d"
    refine ⟨.int (fourAt a' : Int), atI_ofN (i := 0) rfl, ?_⟩
    have et : twoR a' = [(axis (fourAt a'), 2), (apart (fourAt a') (-1), 2)] := by unfold twoR; rw [he2]
    rw [et]
    generalize fourAt a' = i at *
    walk_at "d"
    refine ⟨((i, i), (0, 0), 0), rfl, ⟨⟨f3, .inl rfl⟩, ⟨by show 0 < 3; decide, .inl rfl⟩⟩, fun d ed => ?_⟩
    subst ed
    walk_at "d"
    obtain ⟨p1, p2⟩ := apre f3
    refine ⟨(((i : Int) - 1, ah1 i), ((i : Int) - 2, ah2 i), -1), rfl, ⟨p1, p2⟩, fun d ed => ?_⟩
    subst ed
    walk_at "d"
    refine ret_v ?_
    dsimp only
    rw [unit_axis i f3, unit_apart i f3]
    rfl
  | some i =>
    dsimp only
    have i3 : i < 3 := by
      unfold evenAt at he2
      split at he2
      · cases he2; decide
      · split at he2
        · cases he2; decide
        · split at he2
          · cases he2; decide
          · cases he2
    walk_at "d"
    refine g_eqD 5 (pl_lstI (n := 4) [(i : Int)]) rfl (by decide) ?_
    have eqv0 : (D.lst (D.ints [(i : Int)])).eqv (.lst []) = false := rfl
    rw [eqv0]
    refine ⟨_, rfl, iteF ?_⟩
    obtain ⟨p1, p2⟩ := apre i3
    walk_at "d"
    refine r_asg ?_
    walk_at "d"
    refine ⟨.int (i : Int), atI_ofN (i := 0) rfl, ?_⟩
    walk_at "d"
    refine r_asg ?_
    walk_at "d"
    refine ⟨(((i : Int) - 1, ah1 i), ((i : Int) - 2, ah2 i), -1), rfl, ⟨p1, p2⟩, fun d ed => ?_⟩
    subst ed
    dsimp only
    rw [unit_apart i i3]
    walk_at "d"
    refine ⟨_, at1v i3, ?_⟩
    walk_at "d"
    refine ⟨_, at2v i3, ?_⟩
    walk_at "d"
    refine ite_dec (fun h => ?_) (fun h => ?_)
    · walk_at "d"
      refine ⟨((i, i), (0, 0), 0), rfl, ⟨⟨i3, .inl rfl⟩, ⟨by show 0 < 3; decide, .inl rfl⟩⟩, fun d ed => ?_⟩
      subst ed
      walk_at "d"
      refine ret_v ?_
      have et : twoR a' = [(apart i (-1), 4), (axis i, 2)] := by unfold twoR; rw [he2]; dsimp only; rw [if_pos h]
      dsimp only
      rw [et, unit_axis i i3]
      rfl
    · walk_at "d"
      refine ⟨((i, i), ((i : Int) - 1, ah1 i), 1), rfl, ⟨⟨i3, .inl rfl⟩, p1⟩, fun d ed => ?_⟩
      subst ed
      walk_at "d"
      refine ret_v ?_
      have et : twoR a' = [(apart i (-1), 4), (withp i, 2)] := by unfold twoR; rw [he2]; dsimp only; rw [if_neg h]
      dsimp only
      rw [et, unit_with i i3]
      rfl

end
section
variable {P : Program} {w : World} {K : PySem.W.Frag} {mg : Str → Option Value} {base : Heap} {a : Adr}
/-! ### the source of draws -/
theorem mix_get {cells : List Int} {i : Nat} {y : V} (h : (cells.map V.int)[i]? = some y) : ∃ z, cells[i]? = some z ∧ y = .int z := by
  rw [List.getElem?_map] at h
  obtain ⟨z, hz, e⟩ := Option.map_eq_some_iff.mp h
  exact ⟨z, hz, e.symm⟩
theorem ok__law_mix (C : Ctx K mg a) : FnAt P w K mg base CX0 1 "_law_mix" ["_law_script", "_law_seed"] (spMix K) := by
  refine fn_atR C.d__law_mix sc__law_mix (fun vs H Q E h => ?_) fun f cdv A outer s H E hr => ⟨_, (pss_cons (ps_set (i := 2) sc__law_mix.nd rfl (by first | exact Or.inl rfl | exact Or.inr rfl) (pv 1))
    (pss_cons (ps_for PassesOwn.never rfl (pi_seq (K := K) (pv 0)) (pg_name (i := 3) sc__law_mix.nd rfl (by first | exact Or.inl rfl | exact Or.inr rfl))
    (pss_one (ps_set (i := 2) sc__law_mix.nd rfl (by first | exact Or.inl rfl | exact Or.inr rfl) (pe_op op_gMod (pe_int1 C.B.int rfl (pa_cons (pe_op (op_gAdd (K := K)) (pe_op (op_gAdd (K := K)) (pe_op (op_gMul (K := K)) (pv 2) pe_int) (pe_op op_gMod (pe_int1 C.B.int rfl (pa_cons (pv 3) pa_nil)) pe_int)) pe_int) pa_nil)) pe_int))))
    (pss_one (ps_ret (pe_lst (pa_cons (pv 2) (pa_cons (pe_listOf (K := K) C.B.list rfl (pa_cons (pv 0) pa_nil)) (pa_cons pe_int pa_nil)))))))), fun vs Q E' h => ?_⟩
  · obtain ⟨a, cells, seed, rfl, _⟩ := h
    rfl
  · obtain ⟨b, cells, seed, rfl, hs, h63, s0, s1, k⟩ := h
    refine ⟨_, rfl, ⟨_, rfl, b, rfl, .inl ⟨⟨_, hs⟩, for_list (K := K) (a := b) (xs := cells.map V.int) (fun i σ H2 => ∃ (z : Int) (v : Option V), σ = [some (.ref b), some (.int seed), some (.int z), v] ∧ 0 ≤ z ∧ z < 2147483647 ∧ H2 = H)
      ⟨seed, none, rfl, s0, s1, rfl⟩ (fun i σ H2 _ ⟨_, _, _, _, _, e⟩ => by rw [e]; exact hs) ?_ ?_⟩⟩⟩
    · rintro i y σ H2 hi ⟨z, v, rfl, z0, z1, rfl⟩
      obtain ⟨c, hc, rfl⟩ := mix_get hi
      refine ⟨_, rfl, .inl (.inl ⟨z, 48271, rfl, rfl, ?_, ?_⟩)⟩
      · exact mulW (a := 40) (b := 40) (by omega) (by decide) (by decide)
      · refine ⟨_, rfl, .inl ⟨c, rfl, .inl ⟨c, 2147483629, rfl, rfl, by show (0 : Int) < 2147483629; decide, ?_⟩⟩⟩
        refine .inl ⟨_, _, rfl, rfl, .inl ⟨_, _, rfl, rfl, .inl ⟨_, rfl, .inl ⟨_, 2147483647, rfl, rfl, by show (0 : Int) < 2147483647; decide, ?_⟩⟩⟩⟩
        exact ⟨_, some (.int c), rfl, Int.emod_nonneg _ (by decide), Int.emod_lt_of_pos _ (by decide), rfl⟩
    · rintro σ H2 ⟨z, v, rfl, z0, z1, rfl⟩
      refine ⟨_, rfl, ⟨_, rfl, b, cells.map V.int, rfl, .inl hs, fun q hq => ⟨by show 3 ≤ sizeLine; decide, fun p hp => ?_⟩⟩⟩
      have hpq : p ≠ q := fun e => by rw [e, upd_same] at hp; cases hp
      refine k (p, q) _ (by rw [upd_ne hpq] at hp; exact hp) hq (fun c o h => ?_) ⟨z, 0, cells, hpq, upd_same, ?_, z0, z1, h63, by decide⟩
      · rw [upd_ne (ne_of_none (by rw [upd_ne (ne_of_none h hq)]; exact h) hp), upd_ne (ne_of_none h hq)]; exact h
      · show upd (upd H2 q _) p _ q = _
        rw [upd_ne (Ne.symm hpq), upd_same]
/-- a draw below a cap -/
abbrev SpDraw (K : PySem.W.Frag) : Sp := SpG K (fun cap : Int => [.int cap]) (fun cap => 1 ≤ cap ∧ cap.natAbs < 2 ^ 1000) (fun cap d => ∃ r, d = .int r ∧ 0 ≤ r ∧ r < cap)
theorem ok__law_next (C : Ctx K mg a) : FnAt P w K mg base CX0 1 "_law_next" ["_law_h", "_law_cap"] (SpDraw K) := by
  refine fn_atR C.d__law_next sc__law_next (fun vs H Q E h => ?_) fun f cdv A outer s H E hr => ⟨_, (pss_cons (ps_set (i := 2) sc__law_next.nd rfl (by first | exact Or.inl rfl | exact Or.inr rfl) (pe_ix (ix_any (K := K)) (pe_op (op_gAdd (K := K)) (pe_ix (ix_any (K := K)) (pv 0) pe_int (fun _ _ => rfl)) (pe_lst (pa_cons pe_int pa_nil))) (pe_op op_gMod (pe_int1 C.B.int rfl (pa_cons (pe_ix (ix_any (K := K)) (pv 0) pe_int (fun _ _ => rfl)) pa_nil)) (pe_max2 C.B.max rfl rfl (pa_cons pe_int (pa_cons (pe_len (K := K) C.B.len rfl (pa_cons (pe_ix (ix_any (K := K)) (pv 0) pe_int (fun _ _ => rfl)) pa_nil)) pa_nil)))) (fun _ _ => rfl)))
    (pss_cons (ps_if (pt_cmpR op_gGe (pv 2) (pe_op op_gPow pe_int pe_int) (nomark _))
    (pss_cons (ps_asg (pe_op op_gDiv (pv 2) (pv 1)) (pg_sub (pe_ix (ix_any (K := K)) (pv 0) pe_int (fun _ _ => rfl)) (pe_op op_gMod (pe_int1 C.B.int rfl (pa_cons (pe_ix (ix_any (K := K)) (pv 0) pe_int (fun _ _ => rfl)) pa_nil)) (pe_len (K := K) C.B.len rfl (pa_cons (pe_ix (ix_any (K := K)) (pv 0) pe_int (fun _ _ => rfl)) pa_nil))) set_list))
    (pss_one (ps_ret (pe_op op_gMod (pe_int1 C.B.int rfl (pa_cons (pv 2) pa_nil)) (pv 1)))))
    pss_nil)
    (pss_cons (ps_asg (pe_op op_gMod (pe_int1 C.B.int rfl (pa_cons (pe_op (op_gAdd (K := K)) (pe_op (op_gAdd (K := K)) (pe_op (op_gMul (K := K)) (pe_ix (ix_any (K := K)) (pv 0) pe_int (fun _ _ => rfl)) pe_int) (pe_op (op_gMul (K := K)) (pv 2) pe_int)) pe_int) pa_nil)) pe_int) (pg_sub (pv 0) pe_int set_list))
    (pss_cons (ps_asg (pe_op (op_gAdd (K := K)) (pe_ix (ix_any (K := K)) (pv 0) pe_int (fun _ _ => rfl)) pe_int) (pg_sub (pv 0) pe_int set_list))
    (pss_one (ps_ret (pe_op op_gMod (pe_int1 C.B.int rfl (pa_cons (pe_op op_gDiv (pe_ix (ix_any (K := K)) (pv 0) pe_int (fun _ _ => rfl)) pe_int) pa_nil)) (pv 1)))))))), fun vs Q E' h => ?_⟩
  · obtain ⟨cap, α, F, o, _⟩ := h
    exact o.length.symm
  · obtain ⟨cap, α, F, o, S, ⟨c1, c2⟩, k⟩ := h
    obtain ⟨v, r, rfl, ⟨p, hp, rfl⟩, o2⟩ := o
    have e2 := sls1 o2
    subst e2
    obtain ⟨hF1, hF2, st, ix, cells, hne, h1, h2, s0, s1, h63, i0⟩ := S.ob 0 .rng p rfl hp
    have hpa : p ∈ α := List.mem_of_getElem? hp
    have hα : α = [p] := by
      have := S.len
      match α, hp, this with
      | [q], hp, _ => simp at hp; rw [hp]
    -- what a state behind is worth
    have fin : ∀ (H' : Hp) (d : Int) (st' ix' : Int) (cells' : List Int), (∀ b o, H b = some o → b ≠ p.1 → b ≠ p.2 → H' b = some o) → H' p.1 = some (.lst [.int st', .ref p.2, .int ix']) → H' p.2 = some (.lst (cells'.map V.int)) → 0 ≤ st' → st' < 2147483647 → cells'.length ≤ 63 → 0 ≤ ix' → 0 ≤ d → d < cap → Q (.int d) H' := by
      intro H' d st' ix' cells' fr g1 g2 t0 t1 t2 t3 d0 d1
      have tr : ∀ b, H b ≠ none → H' b ≠ none := fun b hb => by
        by_cases e1 : b = p.1
        · rw [e1, g1]; simp
        · by_cases e2 : b = p.2
          · rw [e2, g2]; simp
          · cases z : H b with
            | none => exact absurd z hb
            | some o => rw [fr b o z e1 e2]; simp
      have sub : Same F H' := fun b o z => fr b o (S.sub b o z) (fun e => by { rw [e, hF1] at z; cases z }) (fun e => by { rw [e, hF2] at z; cases z })
      refine k (.int d) F H' (.int d) [.rng] ⟨.refl F, fun b o z q => fr b o z (q p hpa).1 (q p hpa).2, tr, fun b z => .inl z⟩ ?_ rfl ⟨rfl, d, rfl, d0, d1⟩
      refine ⟨sub, S.len, fun i m q g3 g4 => ?_, S.ap, fun q hq => ⟨tr _ (S.tr q hq).1, tr _ (S.tr q hq).2⟩⟩
      cases i with
      | zero =>
        rw [hp] at g4
        simp at g3 g4
        subst g3; subst g4
        exact ⟨hF1, hF2, st', ix', cells', hne, g1, g2, t0, t1, t2, t3⟩
      | succ i => simp at g3
    let m : Int := if (cells.length : Int) > 1 then (cells.length : Int) else 1
    have hm : 0 < m := by show 0 < (if (cells.length : Int) > 1 then (cells.length : Int) else 1); split <;> omega
    have hj0 := Int.emod_nonneg ix (show m ≠ 0 by omega)
    have hj1 := Int.emod_lt_of_pos ix hm
    obtain ⟨j, hj⟩ : ∃ j : Nat, ix % m = (j : Int) := ⟨(ix % m).toNat, by omega⟩
    have hjl : j < (cells.map V.int ++ [V.int 0]).length := by
      rw [List.length_append, List.length_map]
      show j < cells.length + 1
      have : m ≤ (cells.length : Int) + 1 := by show (if (cells.length : Int) > 1 then (cells.length : Int) else 1) ≤ _; split <;> omega
      omega
    obtain ⟨c, hc⟩ : ∃ c : Int, (cells.map V.int ++ [V.int 0])[j]? = some (V.int c) := by
      by_cases hl : j < cells.length
      · exact ⟨cells[j], by rw [List.getElem?_append_left (by simpa using hl), List.getElem?_map, List.getElem?_eq_getElem hl]; rfl⟩
      · refine ⟨0, ?_⟩
        rw [List.getElem?_append_right (by simpa using hl)]
        have : j - (cells.map V.int).length = 0 := by rw [List.length_map]; rw [List.length_append, List.length_map] at hjl; have : j < cells.length + 1 := hjl; omega
        rw [this]; rfl
    -- the cell
    refine ⟨_, rfl, .inl ⟨p.1, _, 1, .ref p.2, rfl, rfl, SqL.of h1, rfl, by decide, fun q hq => .inr (.inl (.inl ⟨p.2, q, cells.map V.int, [.int 0], rfl, rfl, ?_, upd_same, ?_, fun u hu => ?_⟩))⟩⟩
    · rw [upd_ne (ne_of_none h2 hq)]; exact h2
    · rw [List.length_map, sizeLine_eq]; show cells.length + 1 ≤ _; omega
    have nq1 := ne_of_none h1 hq
    have nq2 := ne_of_none h2 hq
    have k1 : ∀ o : HO, (upd (upd H q (.lst [.int 0])) u o) p.1 = some (.lst [.int st, .ref p.2, .int ix]) := fun o => by
      rw [upd_ne (ne_of_none (by rw [upd_ne nq1]; exact h1) hu), upd_ne nq1]; exact h1
    have k2 : ∀ o : HO, (upd (upd H q (.lst [.int 0])) u o) p.2 = some (.lst (cells.map V.int)) := fun o => by
      rw [upd_ne (ne_of_none (by rw [upd_ne nq2]; exact h2) hu), upd_ne nq2]; exact h2
    have k3 : ∀ (b : Addr) (o o' : HO), H b = some o → (upd (upd H q (.lst [.int 0])) u o') b = some o := fun b o o' z => by
      have z1 := ne_of_none z hq
      rw [upd_ne (ne_of_none (by rw [upd_ne z1]; exact z) hu), upd_ne z1]; exact z
    refine ⟨_, rfl, .inl ⟨p.1, _, 2, .int ix, rfl, rfl, SqL.of (k1 _), rfl, .inl ⟨ix, rfl, ⟨_, rfl, .inl ⟨p.1, _, 1, .ref p.2, rfl, rfl, SqL.of (k1 _), rfl, ⟨_, cells.length, rfl, .inl ⟨_, SqL.of (k2 _), by rw [List.length_map]⟩, ⟨1, (cells.length : Int), rfl, .inl ⟨ix, m, rfl, rfl, hm, ?_⟩⟩⟩⟩⟩⟩⟩⟩
    refine .inl ⟨u, _, (j : Int), .int c, rfl, congrArg V.int hj, SqL.of upd_same, atI_nat hc, ?_⟩
    -- if cell >= 10 ** 18
    refine ⟨_, rfl, 10, 18, rfl, rfl, ⟨by decide, by decide, by decide⟩, c, _, rfl, rfl, _, rfl, ite_dec (fun hge => ?_) (fun hlt => ?_)⟩
    · have hge : (1000000000000000000 : Int) ≤ c := hge
      have hjc : j < cells.length := by
        by_cases hl : j < cells.length
        · exact hl
        · rw [List.getElem?_append_right (by simpa using hl)] at hc
          have : j - (cells.map V.int).length = 0 := by rw [List.length_map]; rw [List.length_append, List.length_map] at hjl; have : j < cells.length + 1 := hjl; omega
          rw [this] at hc
          have : (0 : Int) = c := by injection hc with hc; injection hc
          omega
      have hlm : 0 < (cells.length : Int) := by omega
      have h3 := Int.emod_nonneg ix (show (cells.length : Int) ≠ 0 by omega)
      have h4 := Int.emod_lt_of_pos ix hlm
      obtain ⟨j2, hj2⟩ : ∃ j2 : Nat, ix % (cells.length : Int) = (j2 : Int) := ⟨(ix % (cells.length : Int)).toNat, by omega⟩
      refine ⟨_, rfl, _, rfl, .inl ⟨c, cap, rfl, rfl, divW (b := 1000) (by omega) c2 (by decide), ?_⟩⟩
      refine ⟨_, rfl, .inl ⟨p.1, _, 1, .ref p.2, rfl, rfl, SqL.of (k1 _), rfl, ?_⟩⟩
      refine ⟨_, rfl, .inl ⟨p.1, _, 2, .int ix, rfl, rfl, SqL.of (k1 _), rfl, .inl ⟨ix, rfl, ?_⟩⟩⟩
      refine ⟨_, rfl, .inl ⟨p.1, _, 1, .ref p.2, rfl, rfl, SqL.of (k1 _), rfl, ⟨_, cells.length, rfl, .inl ⟨_, SqL.of (k2 _), by rw [List.length_map]⟩, .inl ⟨ix, (cells.length : Int), rfl, rfl, hlm, ?_⟩⟩⟩⟩
      refine ⟨p.2, cells.map V.int, (j2 : Int), j2, rfl, congrArg V.int hj2, k2 _, ixN_nat (by rw [List.length_map]; omega), ?_⟩
      refine ⟨_, rfl, .inl ⟨c, rfl, ⟨_, rfl, .inl ⟨c, cap, rfl, rfl, by omega, ?_⟩⟩⟩⟩
      refine fin _ _ st ix (cells.set j2 (c / cap)) (fun b o z z1 z2 => ?_) ?_ ?_ s0 s1 (by rw [List.length_set]; exact h63) i0 (Int.emod_nonneg _ (by omega)) (Int.emod_lt_of_pos _ (by omega))
      · rw [upd_ne z2]; exact k3 b o _ z
      · rw [upd_ne hne]; exact k1 _
      · rw [upd_same, List.map_set]
    · have hlt : ¬ (1000000000000000000 : Int) ≤ c := hlt
      -- h[0] = int(h[0] * 48271 + cell * 69621 + 11) % 2147483647
      refine ⟨_, rfl, .inl ⟨p.1, _, 0, .int st, rfl, rfl, SqL.of (k1 _), rfl, .inl (.inl ⟨st, 48271, rfl, rfl, mulW (a := 40) (b := 40) (by omega) (by decide) (by decide), ?_⟩)⟩⟩
      refine ⟨_, rfl, .inl (.inr ⟨c, 69621, rfl, rfl, .inr ⟨by decide, by decide⟩, ?_⟩)⟩
      refine .inl ⟨_, _, rfl, rfl, .inl ⟨_, _, rfl, rfl, .inl ⟨_, rfl, .inl ⟨_, 2147483647, rfl, rfl, by show (0 : Int) < 2147483647; decide, ?_⟩⟩⟩⟩
      refine ⟨_, rfl, p.1, _, 0, 0, rfl, rfl, k1 _, rfl, ?_⟩
      -- h[2] = h[2] + 1
      refine ⟨_, rfl, .inl ⟨p.1, _, 2, .int ix, rfl, rfl, SqL.of upd_same, rfl, .inl ⟨ix, 1, rfl, rfl, ?_⟩⟩⟩
      refine ⟨_, rfl, p.1, _, 2, 2, rfl, rfl, upd_same, rfl, ?_⟩
      refine ⟨_, rfl, .inl ⟨p.1, _, 0, .int ((st * 48271 + c * 69621 + 11) % 2147483647), rfl, rfl, SqL.of upd_same, rfl, .inl ⟨_, 7, rfl, rfl, ⟨by decide, by decide⟩, ?_⟩⟩⟩
      refine .inl ⟨_, rfl, ⟨_, rfl, .inl ⟨_, cap, rfl, rfl, by omega, ?_⟩⟩⟩
      refine fin _ _ ((st * 48271 + c * 69621 + 11) % 2147483647) (ix + 1) cells (fun b o z z1 z2 => ?_) ?_ ?_ (Int.emod_nonneg _ (by decide)) (Int.emod_lt_of_pos _ (by decide)) h63 (by omega) (Int.emod_nonneg _ (by omega)) (Int.emod_lt_of_pos _ (by omega))
      · rw [upd_ne z1, upd_ne z1]; exact k3 b o _ z
      · rw [upd_same]; rfl
      · rw [upd_ne (Ne.symm hne), upd_ne (Ne.symm hne)]; exact k2 _
/-- one of some things -/
theorem ok__law_pick (C : Ctx K mg a) : FnAt P w K mg base CX0 2 "_law_pick" ["_law_h", "_law_things"] (SpG K (fun ds : List D => [.lst ds]) (fun ds => 1 ≤ ds.length ∧ ds.length ≤ 1000000) (fun ds d => d ∈ ds)) := by
  refine fn_at C.d__law_pick sc__law_pick (fun _ => rfl) fun f cdv A outer s H E hr => ⟨_, (pss_one (ps_ret (pe_ix (ix_any (K := K)) (pv 1) (pe_fn (ok__law_next C) (hr.mono (by omega)) rfl (pa_cons (pv 0) (pa_cons (pe_len (K := K) C.B.len rfl (pa_cons (pv 1) pa_nil)) pa_nil))) (fun _ _ => rfl)))), fun ds e hp he => ?_⟩
  obtain ⟨h1, h2⟩ := hp
  dsimp only [cxOf]
  walk_at "d"
  refine ⟨(ds.length : Int), 0, rfl, rfl, ⟨by omega, ?_⟩, fun r hr' => ?_⟩
  · have : (1000000 : Nat) < 2 ^ 1000 := Nat.lt_of_lt_of_le (show 1000000 < 2 ^ 20 by decide) (Nat.pow_le_pow_right (by decide) (by decide))
    omega
  obtain ⟨i, rfl, i0, i1⟩ := hr'
  walk_at "d"
  obtain ⟨j, rfl⟩ : ∃ j : Nat, i = (j : Int) := ⟨i.toNat, by omega⟩
  have hj : j < ds.length := by omega
  refine ⟨ds[j], atI_nat (List.getElem?_eq_getElem hj), ret_v ⟨rfl, List.getElem_mem hj⟩⟩

end
section
variable {P : Program} {w : World} {K : PySem.W.Frag} {mg : Str → Option Value} {base : Heap} {a : Adr}
/-! ### the plain law of normal weights -/
theorem prodL_nI (ps : List Nat) : prodL (nI ps) = (ps.prod : Nat) := by
  have : ∀ (ps : List Nat) (a : Int), (nI ps).foldl (· * ·) a = a * (ps.prod : Nat) := by
    intro ps
    induction ps with
    | nil => intro a; simp [nI]
    | cons p ps ih =>
      intro a
      show (nI ps).foldl (· * ·) (a * (p : Int)) = _
      rw [ih, List.prod_cons, Int.natCast_mul, Int.mul_assoc]
  have := this ps 1
  rw [Int.one_mul] at this
  exact this
theorem brb_swap (a b c p : Nat) : brb a b c p = brb a c b p := by
  unfold brb
  cases ob a p <;> cases ob b p <;> cases ob c p <;> rfl
theorem Bars.swap {a b c : Nat} {bs : List Nat} (h : Bars a b c bs) : Bars a c b bs := ⟨h.asc, fun p => by rw [h.mem, brb_swap]⟩
theorem Bars.pr {a b c : Nat} {bs : List Nat} (h : Bars a b c bs) : ∀ p, p ∈ bs → NT.Pr p := fun p hp => ((h.mem p).mp hp).1
theorem Bars.pos {a b c : Nat} {bs : List Nat} (h : Bars a b c bs) : 0 < bs.prod := NT.prod_pos bs h.pr
theorem Bars.vp {a b c : Nat} {bs : List Nat} (h : Bars a b c bs) {p : Nat} (hp : NT.Pr p) : NT.vp p bs.prod = if brb a b c p = true then 1 else 0 := by
  rw [NT.vp_prod hp bs (NT.asc_nodup h.asc) h.pr]
  by_cases z : brb a b c p = true
  · rw [if_pos z, if_pos ((h.mem p).mpr ⟨hp, z⟩)]
  · rw [if_neg z, if_neg fun y => z ((h.mem p).mp y).2]
theorem ob_dvd {n p : Nat} (hn : 0 < n) (hp : NT.Pr p) (h : ob n p = true) : p ∣ n := (NT.vp_pos hp.1 hn).mpr (by rw [ob, decide_eq_true_eq] at h; omega)
theorem Bars.dvd {a b c : Nat} (ha : 0 < a) (hb : 0 < b) {bs : List Nat} (h : Bars a b c bs) : bs.prod ∣ a * b := by
  refine NT.prod_dvd (Nat.mul_pos ha hb) bs (NT.asc_nodup h.asc) fun p hp => ⟨h.pr p hp, ?_⟩
  have q := ((h.mem p).mp hp).2
  unfold brb at q
  cases h1 : ob a p
  · cases h2 : ob b p
    · rw [h1, h2] at q; simp at q
    · exact Nat.dvd_mul_left_of_dvd (ob_dvd hb (h.pr p hp) h2) _
  · exact Nat.dvd_mul_right_of_dvd (ob_dvd ha (h.pr p hp) h1) _
theorem bars_cop {a b c : Nat} {x y : List Nat} (hx : Bars a b c x) (hy : Bars b a c y) : Nat.gcd x.prod y.prod = 1 := by
  refine NT.eq_one (Nat.gcd_pos_of_pos_left _ hx.pos) fun p hp d => ?_
  have h1 := (NT.vp_pos hp.1 hx.pos).mp (Nat.dvd_trans d (Nat.gcd_dvd_left _ _))
  have h2 := (NT.vp_pos hp.1 hy.pos).mp (Nat.dvd_trans d (Nat.gcd_dvd_right _ _))
  rw [hx.vp hp] at h1
  rw [hy.vp hp] at h2
  unfold brb at h1 h2
  cases ha : ob a p <;> cases hb : ob b p <;> cases hc : ob c p <;> simp [ha, hb, hc] at h1 h2
theorem bars_sq {a b c : Nat} (ha : 0 < a) (hb : 0 < b) {x y : List Nat} (hx : Bars a b c x) (hy : Bars b a c y) : ∃ r : Nat, x.prod * a * (y.prod * b) = r * r := by
  refine NT.square_of_vp _ (Nat.mul_pos (Nat.mul_pos hx.pos ha) (Nat.mul_pos hy.pos hb)) fun p hp => ?_
  rw [NT.vp_mul hp (Nat.mul_pos hx.pos ha) (Nat.mul_pos hy.pos hb), NT.vp_mul hp hx.pos ha, NT.vp_mul hp hy.pos hb, hx.vp hp, hy.vp hp]
  unfold brb
  cases h1 : ob a p <;> cases h2 : ob b p <;> cases h3 : ob c p <;> simp only [ob, decide_eq_true_eq, decide_eq_false_iff_not] at h1 h2 h3 <;> simp <;> omega
theorem Bars.le {v u : List Int} {c : Nat} (hv : Wt v) (hu : Wt u) {bs : List Nat} (h : Bars (nP v) (nP u) c bs) : bs.prod < 2 ^ 200 := by
  have := Nat.le_of_dvd (Nat.mul_pos hv.pos hu.pos) (h.dvd hv.pos hu.pos)
  have h2 := Nat.mul_le_mul hv.le30 hu.le30
  have h3 : 10 ^ 30 * 10 ^ 30 < 2 ^ 200 := by decide
  omega
theorem sgn_mul {n : Int} : sgn n * n = (n.natAbs : Int) := by
  unfold sgn
  split <;> omega
theorem sgn_abs {n : Int} : (sgn n).natAbs = 1 := by
  unfold sgn
  split <;> rfl
/-- one pair of places -/
structure Two (A n B m : Int) : Prop where
  pos : 0 < A * n
  cop : Nat.gcd A.natAbs B.natAbs = 1
  sq : ∃ r : Int, 0 ≤ r ∧ A * n * (B * m) = r * r
theorem two_of {u v : List Int} (hu : Wt u) (hv : Wt v) {c : Nat} {x y : List Nat} (hx : Bars (nP u) (nP v) c x) (hy : Bars (nP v) (nP u) c y) : Two (sgn (prodL u) * prodL (nI x)) (prodL u) (sgn (prodL v) * prodL (nI y)) (prodL v) := by
  have e : ∀ (w : List Int) (z : List Nat), sgn (prodL w) * prodL (nI z) * prodL w = ((z.prod * nP w : Nat) : Int) := fun w z => by
    rw [prodL_nI, Int.natCast_mul]
    have : sgn (prodL w) * ((z.prod : Nat) : Int) * prodL w = ((z.prod : Nat) : Int) * (sgn (prodL w) * prodL w) := by grind
    rw [this, sgn_mul]
  refine ⟨?_, ?_, ?_⟩
  · rw [e]
    have := Nat.mul_pos hx.pos hu.pos
    omega
  · rw [Int.natAbs_mul, Int.natAbs_mul, sgn_abs, sgn_abs, Nat.one_mul, Nat.one_mul, prodL_nI, prodL_nI]
    exact bars_cop hx hy
  · obtain ⟨r, hr⟩ := bars_sq hu.pos hv.pos hx hy
    refine ⟨r, by omega, ?_⟩
    rw [e, e, ← Int.natCast_mul, hr, Int.natCast_mul]
/-- the last test: divided by all primes once -/
theorem last_one {bs : List Nat} (nd : bs.Nodup) (hp : ∀ p, p ∈ bs → NT.Pr p) {left : Nat} (h0 : 0 < left) (hd : left ∣ bs.prod) (h : ∀ p, p ∈ bs → ¬ p ∣ left) : left = 1 := by
  refine NT.eq_one h0 fun q hq d => ?_
  have d2 := Nat.dvd_trans d hd
  have := (NT.vp_pos hq.1 (NT.prod_pos bs hp)).mp d2
  rw [NT.vp_prod hq bs nd hp] at this
  by_cases z : q ∈ bs
  · exact h q z d
  · rw [if_neg z] at this; omega
theorem step_one {bs : List Nat} (nd : bs.Nodup) (hp : ∀ p, p ∈ bs → NT.Pr p) {left p : Nat} (h0 : 0 < left) (hd : left ∣ bs.prod) (hpr : NT.Pr p) (h : p ∣ left) : 0 < left / p ∧ left / p ∣ bs.prod ∧ ¬ p ∣ left / p ∧ left / p ∣ left := by
  obtain ⟨c, rfl⟩ := h
  have c0 : 0 < c := Nat.pos_of_ne_zero (by rintro rfl; simp at h0)
  rw [Nat.mul_div_cancel_left c hpr.pos]
  refine ⟨c0, Nat.dvd_trans (Nat.dvd_mul_left c p) hd, fun z => ?_, Nat.dvd_mul_left c p⟩
  have h1 := NT.vp_le hpr (NT.prod_pos bs hp) hd
  rw [NT.vp_step hpr.1 c0, NT.vp_prod hpr bs nd hp] at h1
  have h2 := (NT.vp_pos hpr.1 c0).mp z
  split at h1 <;> omega
theorem nP_app {u v : List Int} : nP (u ++ v) = nP u * nP v := by
  have key : ∀ (ns : List Int) (a : Int), ns.foldl (· * ·) a = a * ns.foldl (· * ·) 1 := by
    intro ns
    induction ns with
    | nil => intro a; simp
    | cons n ns ih => intro a; rw [List.foldl_cons, List.foldl_cons, ih, ih (1 * n)]; grind
  show (prodL _).natAbs = (prodL u).natAbs * (prodL v).natAbs
  rw [← Int.natAbs_mul]
  congr 1
  unfold prodL
  rw [List.foldl_append, key]
theorem mem_prod_dvd {p : Nat} : ∀ {ps : List Nat}, p ∈ ps → p ∣ ps.prod
  | [], h => by simp at h
  | q :: ps, h => by
    rw [List.prod_cons]
    rcases List.mem_cons.mp h with e | e
    · rw [e]; exact Nat.dvd_mul_right _ _
    · exact Nat.dvd_mul_left_of_dvd (mem_prod_dvd e) _
theorem prod_dvd_mem {q : Nat} (hq : NT.Pr q) : ∀ {ps : List Nat}, (∀ p, p ∈ ps → NT.Pr p) → q ∣ ps.prod → q ∈ ps
  | [], _, h => absurd (by simpa using h) hq.one
  | p :: ps, hp, h => by
    rw [List.prod_cons] at h
    rcases hq.dvd_mul h with z | z
    · rw [hq.eq (hp p (by simp)) z]; simp
    · exact List.mem_cons_of_mem _ (prod_dvd_mem hq (fun r hr => hp r (by simp [hr])) z)

end
section
variable {P : Program} {w : World} {K : PySem.W.Frag} {mg : Str → Option Value} {base : Heap} {a : Adr}
def NV.rest0 (x : NV) : Int := -x.A2 * x.A1
def NV.rest1 (x : NV) : Int := -x.A0 * x.A2
def NV.rest2 (x : NV) : Int := -x.A1 * x.A0
def offB (p : Nat) (B : List Nat) (r : Int) : Prop := 2 < p ∧ p ∈ B ∧ NT.sq p r = false
def NV.Bad (x : NV) (p : Nat) : Prop := (p = 0 ∧ x.s0 = x.s1 ∧ x.s1 = x.s2) ∨ (p = 2 ∧ twoB x.A0 x.A1 x.A2 = true) ∨ offB p x.B0 x.rest0 ∨ offB p x.B1 x.rest1 ∨ offB p x.B2 x.rest2
def NV.upTo (x : NV) (i p : Nat) : Prop := ((p = 0 ∧ x.s0 = x.s1 ∧ x.s1 = x.s2) ∨ (p = 2 ∧ twoB x.A0 x.A1 x.A2 = true)) ∨ (0 < i ∧ offB p x.B0 x.rest0) ∨ (1 < i ∧ offB p x.B1 x.rest1) ∨ (2 < i ∧ offB p x.B2 x.rest2)
theorem odd_prod {B : List Nat} (hp : ∀ p, p ∈ B → NT.Pr p) (h : 2 ∉ B) : B.prod % 2 = 1 := by
  have h2 : NT.Pr 2 := ⟨by decide, fun d hd => by
    have := Nat.le_of_dvd (by decide) hd
    have : d ≠ 0 := by rintro rfl; exact absurd hd (by decide)
    omega⟩
  refine Classical.byContradiction fun z => ?_
  exact h (prod_dvd_mem h2 hp (Nat.dvd_of_mod_eq_zero (by omega)))
theorem odd_A {s : Int} {B : List Nat} (hs : s = 1 ∨ s = -1) (hp : ∀ p, p ∈ B → NT.Pr p) (h : 2 ∉ B) : (s * prodL (nI B)) % 2 = 1 := by
  have := odd_prod hp h
  rw [prodL_nI]
  rcases hs with e | e <;> rw [e] <;> omega
theorem NV.Fine.one {x : NV} (h : x.Fine) : OneEv x.A0 x.A1 x.A2 := by
  have o0 : 2 ∉ x.B0 → x.A0 % 2 = 1 := odd_A h.ok.s0 h.p0
  have o1 : 2 ∉ x.B1 → x.A1 % 2 = 1 := odd_A h.ok.s1 h.p1
  have o2 : 2 ∉ x.B2 → x.A2 % 2 = 1 := odd_A h.ok.s2 h.p2
  refine ⟨?_, ?_, ?_⟩
  · by_cases z : 2 ∈ x.B0
    · exact .inr (o1 (h.d01 2 z))
    · exact .inl (o0 z)
  · by_cases z : 2 ∈ x.B0
    · exact .inr (o2 (h.d02 2 z))
    · exact .inl (o0 z)
  · by_cases z : 2 ∈ x.B1
    · exact .inr (o2 (h.d12 2 z))
    · exact .inl (o1 z)
theorem mems_one {a b c : Int} {ms : List Int} (h : Mems [a, b, c] ms) : ((ms.length : Int) = 1) ↔ a = b ∧ b = c := by
  constructor
  · intro hl
    have hl : ms.length = 1 := by omega
    obtain ⟨m, rfl⟩ := List.length_eq_one_iff.mp hl
    have ha := (h.2 a).mpr (by simp)
    have hb := (h.2 b).mpr (by simp)
    have hc := (h.2 c).mpr (by simp)
    simp at ha hb hc
    exact ⟨by rw [ha, hb], by rw [hb, hc]⟩
  · rintro ⟨rfl, rfl⟩
    have h1 := h.1.length_le_of_subset (l₂ := [a]) fun k hk => by
      have := (h.2 k).mp hk
      simpa using this
    have h2 : a ∈ ms := (h.2 a).mpr (by simp)
    have := List.length_pos_of_mem h2
    simp at h1
    omega
theorem ok_bars_of (C : Ctx K mg a) : FnAt P w K mg base CX0 4 "bars_of" ["shape"] (SpP K (fun x : NV => [nmD a.Normal x]) NV.Fine (fun x d => ∃ L : List Nat, d = lI L ∧ L.Pairwise (· < ·) ∧ ∀ p, p ∈ L ↔ x.Bad p)) := by
  refine fn_at C.d_bars_of sc_bars_of (fun _ => rfl) fun f cdv A outer s H E hr => ⟨_, (pss_cons (ps_set (i := 1) sc_bars_of.nd rfl (by first | exact Or.inl rfl | exact Or.inr rfl) (pe_mth0 (ok_Normal_all_weights C) C.k_Normal.cl (hr.mono (by omega)) (pv 0)))
    (pss_cons (ps_set (i := 2) sc_bars_of.nd rfl (by first | exact Or.inl rfl | exact Or.inr rfl) (pe_ifExp (pt_cmpR (op_gEq (K := K) (by exact hr.units)) (pe_lenSet (K := K) rfl C.B.len C.B.set rfl rfl (pe_at (K := K) (pv 0))) pe_int (nomark _)) (pe_lst (pa_cons pe_int pa_nil)) (pe_lst pa_nil)))
    (pss_cons (ps_if (pt_val (pe_fn (ok_two_bars C) (hr.mono (by omega)) rfl (pa_cons (pv 1) pa_nil)))
    (pss_one (ps_expr (pe_bm PySem.F.plainAttrs_list PySem.F.slot_list_append PySem.F.type_list_append mt_append (pv 2) (pa_cons pe_int pa_nil))))
    pss_nil)
    (pss_cons (ps_for PassesOwn.never rfl (pi_range1 rfl C.B.range (pa_cons pe_int pa_nil)) (pg_name (i := 3) sc_bars_of.nd rfl (by first | exact Or.inl rfl | exact Or.inr rfl))
    (pss_cons (ps_set (i := 4) sc_bars_of.nd rfl (by first | exact Or.inl rfl | exact Or.inr rfl) (pe_op (op_gMul (K := K)) (pe_un un_neg (pe_ix (ix_any (K := K)) (pv 1) (pe_op op_gSub (pv 3) pe_int) (fun _ _ => rfl))) (pe_ix (ix_any (K := K)) (pv 1) (pe_op op_gSub (pv 3) pe_int) (fun _ _ => rfl))))
    (pss_one (ps_aug (i := 2) sc_bars_of.nd rfl (by first | exact Or.inl rfl | exact Or.inr rfl) (pe_lc (own := [("prime", 5)]) (g := (gName 5)) (tt := _) rfl sc_bars_of.nd (pi_seq (K := K) (pe_ix (ix_any (K := K)) (pe_at (K := K) (pv 0)) (pv 3) (fun _ _ => rfl))) (blkOk_by (N := n_bars_of) (sc := defScope s_bars_of) (by decide +kernel)) (fun _ _ _ _ _ => (pg_name (i := 5) sc_bars_of.nd rfl (by first | exact Or.inl rfl | exact Or.inr rfl))) (fun _ _ _ _ _ => (pts_one (PW.pt (pw_and (pt_cmpR op_gGt (pv 5) pe_int (nomark _)) (pw_and1 (pt_not (pt_val (pe_fn (ok_is_square C) (hr.mono (by omega)) rfl (pa_cons (pv 4) (pa_cons (pv 5) pa_nil)))))))))) (fun _ _ _ _ _ => (pv 5))) ip_ext))))
    (pss_one (ps_ret (pe_sortedI (K := K) C.B.sorted rfl (pa_cons (pv 2) pa_nil)))))))), fun x e hp he => ?_⟩
  have hp : x.Fine := hp
  dsimp only [cxOf]
  refine r_seq (r_asg ?_)
  refine ev_mth ?_
  walk_at "d"
  refine ⟨_, _, rfl, by decide, ?_⟩
  walk_at "d"
  refine ⟨x, rfl, hp.ok, fun d ed => ?_⟩
  subst ed
  -- the signs
  have one := hp.one
  generalize hR : ([some (.v (nmD a.Normal x)), some (.v (.tup (D.ints [x.A0, x.A1, x.A2])))] : Rho) = R at *
  refine r_seq (r_via (fun ρ' M' => ∃ fl : List Nat, ρ' = [some (.v (nmD a.Normal x)), some (.v (.tup (D.ints [x.A0, x.A1, x.A2]))), some (.l 0), none, none, none] ∧ M' = [.lst (D.ints (nI fl))] ∧ fl.Nodup ∧ fl.length ≤ 1 ∧ ∀ p, p ∈ fl ↔ p = 0 ∧ x.s0 = x.s1 ∧ x.s1 = x.s2) (r_asgN (en_if ?_)) ?_)
  · refine et_test (ev_op (ev_lenSet ?_))
    refine ev_at ?_
    walk_at "d"
    refine ⟨_, _, _, rfl, C.k_Normal.cl, C.n_Normal_signs, _, _, rfl, rfl, ?_⟩
    refine ⟨[x.s0, x.s1, x.s2], .v, le_lit rfl, fun ms hm => ?_⟩
    walk_at "d"
    have hone := mems_one hm
    refine ite_dec (fun hb => ?_) (fun hb => ?_)
    · refine en_newL ?_
      walk_at "d"
      exact ⟨[0], rfl, rfl, by simp, by simp, fun p => by simp; exact fun _ => hone.mp hb⟩
    · refine en_newL ?_
      walk_at "d"
      exact ⟨[], rfl, rfl, by simp, by simp, fun p => by simp; exact fun _ h1 h2 => hb (hone.mpr ⟨h1, h2⟩)⟩
  rintro ρ' M' ⟨fl, rfl, rfl, nd, hl, hm⟩
  -- the two
  refine r_seq (r_via (fun ρ' M' => ∃ fl : List Nat, ρ' = [some (.v (nmD a.Normal x)), some (.v (.tup (D.ints [x.A0, x.A1, x.A2]))), some (.l 0), none, none, none] ∧ M' = [.lst (D.ints (nI fl))] ∧ fl.Nodup ∧ fl.length ≤ 2 ∧ ∀ p, p ∈ fl ↔ x.upTo 0 p) ?_ ?_)
  · refine r_if ?_
    walk_at "d"
    refine ⟨(x.A0, x.A1, x.A2), rfl, one, fun d ed => ?_⟩
    subst ed
    refine ⟨_, rfl, ?_⟩
    refine ite_b (fun hb => ?_) (fun hb => ?_)
    · walk_at "d"
      refine ⟨_, rfl, by simp [D.ints, nI]; omega, fl ++ [2], rfl, by simp [D.ints, nI], ?_, by simp; omega, fun p => ?_⟩
      · refine List.nodup_append.mpr ⟨nd, by simp, fun u hu v hv => ?_⟩
        simp at hv; subst hv
        have := ((hm u).mp hu).1
        omega
      · rw [List.mem_append, hm]
        have hb : twoB x.A0 x.A1 x.A2 = true := hb
        simp [NV.upTo, hb]
    · walk_at "n"
      refine ⟨fl, rfl, rfl, nd, by omega, fun p => ?_⟩
      have hb : twoB x.A0 x.A1 x.A2 = false := hb
      rw [hm]
      simp [NV.upTo, hb]
  rintro ρ' M' ⟨fl, rfl, rfl, nd, hl, hm⟩
  walk_at "d"
  refine r_for [3] ?_
  refine ei_range1 ?_
  walk_at "d"
  refine ⟨3, rfl, by decide, by decide, fun i ρ M => ∃ (fl : List Nat) (o3 o4 o5 : Option Sl), ρ = [some (.v (nmD a.Normal x)), some (.v (.tup (D.ints [x.A0, x.A1, x.A2]))), some (.l 0), o3, o4, o5] ∧ M = [.lst (D.ints (nI fl))] ∧ fl.Nodup ∧ fl.length ≤ 2 + i * 1000 ∧ ∀ p, p ∈ fl ↔ x.upTo i p,
    ⟨fl, none, none, none, rfl, rfl, nd, by omega, hm⟩, ?_, ?_⟩
  · rintro i d ρ M hi ⟨fl, o3, o4, o5, rfl, rfl, nd, hl, hm⟩
    obtain ⟨hil, rfl⟩ := rangeD_get hi
    rw [Int.zero_add]
    obtain ⟨B, u, v, hB, hu, hv, ub, vb, sB, bnd, bpr, hup, hdis⟩ : ∃ (B : List Nat) (u v : Int), atI [lI x.B0, lI x.B1, lI x.B2] (i : Int) = some (lI B) ∧ atI (D.ints [x.A0, x.A1, x.A2]) ((i : Int) - 1) = some (.int u) ∧ atI (D.ints [x.A0, x.A1, x.A2]) ((i : Int) - 2) = some (.int v) ∧ u.natAbs < 2 ^ 200 ∧ v.natAbs < 2 ^ 200 ∧ SmallB B ∧ B.Nodup ∧ (∀ p, p ∈ B → NT.Pr p) ∧ (∀ p, x.upTo (i + 1) p ↔ x.upTo i p ∨ offB p B (-u * v)) ∧ ∀ p, x.upTo i p → ¬ offB p B (-u * v) := by
      have h3 : i = 0 ∨ i = 1 ∨ i = 2 := by have hil : i < 3 := hil; omega
      rcases h3 with rfl | rfl | rfl
      · refine ⟨x.B0, x.A2, x.A1, rfl, rfl, rfl, hp.a2, hp.a1, hp.ok.b0, hp.n0, hp.p0, fun p => ?_, fun p => ?_⟩
        · simp [NV.upTo, NV.rest0]
        · simp only [NV.upTo, offB]; rintro ((h | h) | h | h | h) h' <;> omega
      · refine ⟨x.B1, x.A0, x.A2, rfl, rfl, rfl, hp.a0, hp.a2, hp.ok.b1, hp.n1, hp.p1, fun p => ?_, fun p => ?_⟩
        · simp [NV.upTo, NV.rest1]; grind
        · have := hp.d01 p
          simp only [NV.upTo, offB]; rintro ((h | h) | h | h | h) h'
          · omega
          · omega
          · exact this h.2.2.1 h'.2.1
          · omega
          · omega
      · refine ⟨x.B2, x.A1, x.A0, rfl, rfl, rfl, hp.a1, hp.a0, hp.ok.b2, hp.n2, hp.p2, fun p => ?_, fun p => ?_⟩
        · simp [NV.upTo, NV.rest2]; grind
        · have := hp.d02 p
          have t := hp.d12 p
          simp only [NV.upTo, offB]; rintro ((h | h) | h | h | h) h'
          · omega
          · omega
          · exact this h.2.2.1 h'.2.1
          · exact t h.2.2.1 h'.2.1
          · omega
    walk_at "d"
    refine r_asg ?_
    walk_at "d"
    refine ⟨_, hu, ?_⟩
    walk_at "d"
    refine ⟨_, hv, ?_⟩
    have unb : (-u).natAbs < 2 ^ 200 := by omega
    walk_at "d"
    refine ⟨mulW unb vb (by decide), ?_⟩
    have hil2 : i < 3 := hil
    refine r_augL (k := 0) rfl rfl ?_
    refine ev_cut (nI B) (fun n => decide (n > 2) && !NT.sq n.toNat (-u * v)) (ei_seqL ?_)
    refine ev_op (ev_at ?_)
    walk_at "d"
    refine ⟨_, _, _, rfl, C.k_Normal.cl, C.n_Normal_bare, _, _, rfl, rfl, ?_⟩
    walk_at "d"
    refine ⟨_, hB, ?_⟩
    refine ⟨_, rfl, rfl, by have := sB.len; simp; omega, fun n hn => ?_, ?_⟩
    · obtain ⟨p, hpB, rfl⟩ := List.mem_map.mp hn
      have hpr := bpr p hpB
      have p6 := sB.le p hpB
      have h2 := hpr.1
      walk_at "d"
      refine ite_dec (fun h => ?_) (fun h => ?_)
      · walk_at "d"
        refine ⟨(-u * v, p), rfl, ⟨h2, by omega⟩, fun d ed => ?_⟩
        subst ed
        refine ⟨_, rfl, ?_⟩
        refine ⟨by simp; omega, fun hb => ?_⟩
        walk_at "d"
        exact rfl
      · refine ⟨by simp; omega, fun hb => ?_⟩
        cases hb
    · have ef : (nI B).filter (fun n => decide (n > 2) && !NT.sq n.toNat (-u * v)) = nI (B.filter fun p => decide (2 < p) && !NT.sq p (-u * v)) := by
        rw [nI, List.filter_map]
        congr 1
        apply List.filter_congr
        intro p _
        show (decide ((p : Int) > 2) && !NT.sq ((p : Int).toNat) (-u * v)) = (decide (2 < p) && !NT.sq p (-u * v))
        rw [Int.toNat_natCast]
        congr 1
        exact decide_eq_decide.mpr (by omega)
      rw [ef]
      refine ⟨_, rfl, by
        have := List.length_filter_le (fun p => decide (2 < p) && !NT.sq p (-u * v)) B
        have h5 := sB.len
        simp only [D.ints, nI, List.length_map]
        exact Nat.le_trans (Nat.add_le_add_left this _) (by omega), ?_⟩
      have em : ∀ p, p ∈ B.filter (fun p => decide (2 < p) && !NT.sq p (-u * v)) ↔ offB p B (-u * v) := fun p => by
        rw [List.mem_filter]
        simp only [offB, Bool.and_eq_true, decide_eq_true_eq, Bool.not_eq_true']
        grind
      refine ⟨fl ++ B.filter fun p => decide (2 < p) && !NT.sq p (-u * v), _, _, _, rfl, by simp [D.ints, nI], ?_, ?_, fun p => ?_⟩
      · refine List.nodup_append.mpr ⟨nd, bnd.filter _, fun p h1 q h2 e => ?_⟩
        subst e
        exact hdis p ((hm p).mp h1) ((em p).mp h2)
      · have := List.length_filter_le (fun p => decide (2 < p) && !NT.sq p (-u * v)) B
        have := sB.len
        rw [List.length_append]; omega
      · rw [List.mem_append, hm, em, hup]
  · rintro ρ M ⟨fl, o3, o4, o5, rfl, rfl, nd, hl, hm⟩
    walk_at "d"
    refine ec_sortedI (.l rfl) fun ns' pm srt => ?_
    have h0 : ∀ k, k ∈ ns' → 0 ≤ k := fun k hk => by
      obtain ⟨q, _, e⟩ := List.mem_map.mp (pm.mem_iff.mp hk)
      omega
    have nd' : ns'.Nodup := pm.nodup_iff.mpr (by
      rw [nI, List.Nodup, List.pairwise_map]
      exact nd.imp fun h e => h (by omega))
    have asc : ns'.Pairwise (· < ·) := by
      have := srt.and nd'
      exact this.imp fun h => by have := h.1; have := h.2; omega
    obtain ⟨L, rfl, Lasc⟩ := asc_nat h0 asc
    refine ret_v ⟨L, rfl, Lasc, fun p => ?_⟩
    rw [← nI_mem, pm.mem_iff, nI_mem, hm]
    have hl3 : (rangeD 0 (Int.toNat 3)).length = 3 := by rw [rangeD_len]; rfl
    rw [hl3]
    simp only [NV.upTo, NV.Bad]
    simp only [show (0 < 3) = True by simp, show (1 < 3) = True by simp, show (2 < 3) = True by simp, true_and, or_assoc]

end
section
variable {P : Program} {w : World} {K : PySem.W.Frag} {mg : Str → Option Value} {base : Heap} {a : Adr}
/-! ### rules by odd primes -/
open NT in
def NV.a3 (x : NV) : V3 := ⟨x.A0, x.A1, x.A2⟩
open NT in
theorem NV.Fine.three {x : NV} (h : x.Fine) (nb : ∀ p, ¬ x.Bad p) : Fine3 x.a3 x.B0 x.B1 x.B2 := by
  have ab : ∀ {s : Int} {B : List Nat}, (s = 1 ∨ s = -1) → (s * prodL (nI B)).natAbs = B.prod := fun hs => by
    rw [prodL_nI, Int.natAbs_mul, Int.natAbs_natCast]
    rcases hs with e | e <;> rw [e] <;> simp
  have sqt : ∀ {p : Nat} {B : List Nat} {r : Int}, p ∈ B → 2 < p → ¬ offB p B r → sq p r = true := fun hp h2 hn => by
    cases e : sq _ _ with
    | true => rfl
    | false => exact absurd ⟨h2, hp, e⟩ hn
  have tb : twoB x.A0 x.A1 x.A2 = false := by
    cases e : twoB x.A0 x.A1 x.A2 with
    | false => rfl
    | true => exact absurd (.inr (.inl ⟨rfl, e⟩)) (nb 2)
  have one := h.one
  refine ⟨ab h.ok.s0, ab h.ok.s1, ab h.ok.s2, h.n0, h.n1, h.n2, h.p0, h.p1, h.p2, h.d01, h.d02, h.d12, fun p hp h2 => ?_, fun p hp h2 => ?_, fun p hp h2 => ?_, fun he => ?_, fun i hi => ?_⟩
  · exact sqt hp h2 fun z => nb p (.inr (.inr (.inl z)))
  · exact sqt hp h2 fun z => nb p (.inr (.inr (.inr (.inl z))))
  · exact sqt hp h2 fun z => nb p (.inr (.inr (.inr (.inr z))))
  · obtain ⟨e0, e1, e2⟩ := even_no he
    have e0 : x.A0 % 2 = 1 := e0
    have e1 : x.A1 % 2 = 1 := e1
    have e2 : x.A2 % 2 = 1 := e2
    have g0 : at1 x.a3 0 + at2 x.a3 0 = x.A2 + x.A1 := rfl
    have g1 : at1 x.a3 1 + at2 x.a3 1 = x.A0 + x.A2 := rfl
    have g2 : at1 x.a3 2 + at2 x.a3 2 = x.A1 + x.A0 := rfl
    unfold twoB at tb
    rw [if_neg (by omega), if_neg (by omega), if_neg (by omega)] at tb
    simp only [Bool.not_eq_false', Bool.or_eq_true, decide_eq_true_eq] at tb
    unfold fourAt
    rw [g0, g1]
    by_cases c0 : (x.A2 + x.A1) % 4 = 0
    · rw [if_pos c0]; exact c0
    · rw [if_neg c0]
      by_cases c1 : (x.A0 + x.A2) % 4 = 0
      · rw [if_pos c1]; exact c1
      · rw [if_neg c1, g2]; omega
  · have e2 := even_is hi
    obtain ⟨o1, o2, o3⟩ := one
    have hi : (if x.A0 % 2 = 0 then some 0 else if x.A1 % 2 = 0 then some 1 else if x.A2 % 2 = 0 then some 2 else none) = some i := hi
    unfold twoB at tb
    by_cases c0 : x.A0 % 2 = 0
    · rw [if_pos c0] at tb hi
      cases hi
      have g0 : at1 x.a3 0 + at2 x.a3 0 = x.A2 + x.A1 := rfl
      have g1 : at1 x.a3 0 + at2 x.a3 0 + at0 x.a3 0 = x.A2 + x.A1 + x.A0 := rfl
      rw [g1, g0]
      simp only [Bool.and_eq_false_imp, Bool.not_eq_true', decide_eq_false_iff_not, Bool.not_eq_false', decide_eq_true_eq] at tb
      omega
    · rw [if_neg c0] at tb hi
      by_cases c1 : x.A1 % 2 = 0
      · rw [if_pos c1] at tb hi
        cases hi
        have g0 : at1 x.a3 1 + at2 x.a3 1 = x.A0 + x.A2 := rfl
        have g1 : at1 x.a3 1 + at2 x.a3 1 + at0 x.a3 1 = x.A0 + x.A2 + x.A1 := rfl
        rw [g1, g0]
        simp only [Bool.and_eq_false_imp, Bool.not_eq_true', decide_eq_false_iff_not, Bool.not_eq_false', decide_eq_true_eq] at tb
        omega
      · rw [if_neg c1] at tb hi
        by_cases c2 : x.A2 % 2 = 0
        · rw [if_pos c2] at tb hi
          cases hi
          have g0 : at1 x.a3 2 + at2 x.a3 2 = x.A1 + x.A0 := rfl
          have g1 : at1 x.a3 2 + at2 x.a3 2 + at0 x.a3 2 = x.A1 + x.A0 + x.A2 := rfl
          rw [g1, g0]
          simp only [Bool.and_eq_false_imp, Bool.not_eq_true', decide_eq_false_iff_not, Bool.not_eq_false', decide_eq_true_eq] at tb
          omega
        · rw [if_neg c2] at hi; cases hi
def NV.Bs (x : NV) (i : Nat) : List Nat := if i = 0 then x.B0 else if i = 1 then x.B1 else x.B2
open NT in
def oddU (x : NV) (n : Nat) : List Rule := (List.range n).flatMap fun i => oddRi x.a3 (x.Bs i) i
open NT in
theorem ok_odd_rules (C : Ctx K mg a) : FnAt P w K mg base CX0 4 "odd_rules" ["shape"] (SpP K (fun x : NV => [nmD a.Normal x]) (fun x => x.Fine ∧ ∀ p, ¬ x.Bad p) (fun x d => d = .lst ((oddRi x.a3 x.B0 0 ++ oddRi x.a3 x.B1 1 ++ oddRi x.a3 x.B2 2).map rlD))) := by
  refine fn_at C.d_odd_rules sc_odd_rules (fun _ => rfl) fun f cdv A outer s H E hr => ⟨_, (pss_cons (ps_par (i := 2) (j := 3) rfl sc_odd_rules.nd rfl rfl (by decide) rfl rfl (pa_cons (pe_mth0 (ok_Normal_all_weights C) C.k_Normal.cl (hr.mono (by omega)) (pv 0)) (pa_cons (pe_lst pa_nil) pa_nil)) rfl)
    (pss_cons (ps_for PassesOwn.never rfl (pi_range1 rfl C.B.range (pa_cons pe_int pa_nil)) (pg_name (i := 1) sc_odd_rules.nd rfl (by first | exact Or.inl rfl | exact Or.inr rfl))
    (pss_one (ps_for PassesOwn.never rfl (pi_seq (K := K) (pe_ix (ix_any (K := K)) (pe_at (K := K) (pv 0)) (pv 1) (fun _ _ => rfl))) (pg_name (i := 4) sc_odd_rules.nd rfl (by first | exact Or.inl rfl | exact Or.inr rfl))
    (pss_one (ps_if (pt_cmpR op_gGt (pv 4) pe_int (nomark _))
    (pss_cons (ps_set (i := 5) sc_odd_rules.nd rfl (by first | exact Or.inl rfl | exact Or.inr rfl) (pe_op (op_gMul (K := K)) (pe_un un_neg (pe_ix (ix_any (K := K)) (pv 2) (pe_op op_gSub (pv 1) pe_int) (fun _ _ => rfl))) (pe_fn (ok_turned C) (hr.mono (by omega)) rfl (pa_cons (pe_ix (ix_any (K := K)) (pv 2) (pe_op op_gSub (pv 1) pe_int) (fun _ _ => rfl)) (pa_cons (pv 4) pa_nil)))))
    (pss_one (ps_expr (pe_bm PySem.F.plainAttrs_list PySem.F.slot_list_append PySem.F.type_list_append mt_append (pv 3) (pa_cons (pe_tup (pa_cons (pe_fn (ok_unit C) (hr.mono (by omega)) rfl (pa_cons (pe_op op_gSub (pv 1) pe_int) (pa_cons (pe_op op_gSub (pv 1) pe_int) (pa_cons (pe_un un_neg (pe_fn (ok_square_root C) (hr.mono (by omega)) rfl (pa_cons (pv 5) (pa_cons (pv 4) pa_nil)))) pa_nil)))) (pa_cons (pv 4) pa_nil))) pa_nil)))))
    pss_nil)))))
    (pss_one (ps_ret (pv 3))))), fun x e hp he => ?_⟩
  obtain ⟨fx, nb⟩ := hp
  have fx : x.Fine := fx
  have nb : ∀ p, ¬ x.Bad p := nb
  have h3 := fx.three nb
  obtain ⟨a0, a1, a2⟩ := h3.at
  have ha : ∀ {i : Nat}, i < 3 → At3 x.a3 (x.Bs i) i ∧ SmallB (x.Bs i) ∧ atI [lI x.B0, lI x.B1, lI x.B2] (i : Int) = some (lI (x.Bs i)) ∧ atI (D.ints [x.A0, x.A1, x.A2]) ((i : Int) - 1) = some (.int (at1 x.a3 i)) ∧ atI (D.ints [x.A0, x.A1, x.A2]) ((i : Int) - 2) = some (.int (at2 x.a3 i)) ∧ (at1 x.a3 i).natAbs < 2 ^ 200 ∧ (at2 x.a3 i).natAbs < 2 ^ 200 := by
    intro i hi
    have : i = 0 ∨ i = 1 ∨ i = 2 := by omega
    rcases this with rfl | rfl | rfl
    · exact ⟨a0, fx.ok.b0, rfl, rfl, rfl, fx.a2, fx.a1⟩
    · exact ⟨a1, fx.ok.b1, rfl, rfl, rfl, fx.a0, fx.a2⟩
    · exact ⟨a2, fx.ok.b2, rfl, rfl, rfl, fx.a1, fx.a0⟩
  have apre : ∀ {i : Nat}, i < 3 → (ah1 i < 3 ∧ ((i : Int) - 1 = (ah1 i : Int) ∨ (i : Int) - 1 = (ah1 i : Int) - 3)) ∧ (ah2 i < 3 ∧ ((i : Int) - 2 = (ah2 i : Int) ∨ (i : Int) - 2 = (ah2 i : Int) - 3)) := by
    intro i hi
    have h3 : i = 0 ∨ i = 1 ∨ i = 2 := by omega
    rcases h3 with rfl | rfl | rfl <;> decide
  have rlen : ∀ {B : List Nat} {i : Nat}, (oddRi x.a3 B i).length ≤ B.length := fun {B i} => by
    unfold oddRi
    rw [List.length_map]
    exact List.length_filter_le _ _
  have ulen : ∀ i, i ≤ 3 → (oddU x i).length ≤ 1000 * i := by
    intro i
    induction i with
    | zero => intro _; simp [oddU]
    | succ i ih =>
      intro hi
      have := ih (by omega)
      unfold oddU at this ⊢
      rw [List.range_succ, List.flatMap_append, List.length_append, List.flatMap_cons, List.flatMap_nil, List.append_nil]
      have r := rlen (B := x.Bs i) (i := i)
      have l := (ha (show i < 3 by omega)).2.1.len
      omega
  dsimp only [cxOf]
  refine r_seq (r_parN ?_)
  refine ena_cons (en_ev ?_)
  refine ev_mth ?_
  walk_at "d"
  refine ⟨_, _, rfl, by decide, ?_⟩
  walk_at "d"
  refine ⟨x, rfl, fx.ok, fun d ed => ?_⟩
  subst ed
  refine ena_cons (en_newL (ea_nil ⟨[], rfl, by decide, ena_nil ⟨_, _, rfl, ?_⟩⟩))
  refine r_seq (r_for [1] ?_)
  refine ei_range1 ?_
  walk_at "d"
  refine ⟨3, rfl, by decide, by decide, fun i ρ M => ∃ (o1 o4 o5 : Option Sl), ρ = [some (.v (nmD a.Normal x)), o1, some (.v (.tup (D.ints [x.A0, x.A1, x.A2]))), some (.l 0), o4, o5] ∧ M = [.lst ((oddU x i).map rlD)], ⟨_, _, _, rfl, rfl⟩, ?_, ?_⟩
  · rintro i d ρ M hi ⟨o1, o4, o5, rfl, rfl⟩
    obtain ⟨il, rfl⟩ := rangeD_get hi
    have il : i < 3 := il
    rw [Int.zero_add]
    obtain ⟨a3, sB, bat, v1, v2, b1, b2⟩ := ha il
    have eu : oddU x (i + 1) = oddU x i ++ oddRi x.a3 (x.Bs i) i := by
      unfold oddU
      rw [List.range_succ, List.flatMap_append]; simp
    have ul := ulen i (by omega)
    obtain ⟨p1, p2⟩ := apre il
    dsimp only
    rw [eu]
    generalize oddU x i = U at *
    generalize x.Bs i = B at *
    clear eu
    walk_at "d"
    refine r_for [4] ?_
    refine ei_seqL ?_
    refine ev_op (ev_at ?_)
    walk_at "d"
    refine ⟨_, _, _, rfl, C.k_Normal.cl, C.n_Normal_bare, _, _, rfl, rfl, ?_⟩
    walk_at "d"
    refine ⟨_, bat, ?_⟩
    refine ⟨_, rfl, fun k ρ M => ∃ (o4 o5 : Option Sl), ρ = [some (.v (nmD a.Normal x)), some (.v (.int (i : Int))), some (.v (.tup (D.ints [x.A0, x.A1, x.A2]))), some (.l 0), o4, o5] ∧ M = [.lst ((U ++ oddRi x.a3 (B.take k) i).map rlD)], ⟨_, _, rfl, by simp [oddRi]⟩, ?_, ?_⟩
    · rintro k d ρ M hk ⟨o4, o5, rfl, rfl⟩
      obtain ⟨n, hn, rfl⟩ := ints_get hk
      obtain ⟨p, hpk, rfl⟩ := map_get hn
      have hpB := List.mem_of_getElem? hpk
      have p6 := sB.le p hpB
      have hpr := a3.pr p hpB
      have p2' := hpr.1
      have es : oddRi x.a3 (B.take (k + 1)) i = oddRi x.a3 (B.take k) i ++ (if 2 < p then [(apart i (-(sqrtF p (restF x.a3 i p))), p)] else []) := by
        unfold oddRi
        rw [take_snoc hpk, List.filter_append, List.map_append]
        by_cases c : 2 < p <;> simp [c]
      dsimp only
      rw [es]
      walk_at "d"
      refine ite_dec (fun h => ?_) (fun h => ?_)
      · have h : 2 < p := by omega
        have ho := a3.od hpB h
        have hroot := a3.root hpB h
        rw [if_pos h]
        have pz : (0 : Int) < (p : Int) := by omega
        have q0 := Int.emod_nonneg ((at1 x.a3 i % (p : Int)) ^ (p - 2)) (Int.ne_of_gt pz)
        have q1 := Int.emod_lt_of_pos ((at1 x.a3 i % (p : Int)) ^ (p - 2)) pz
        walk_at "d"
        refine r_asg ?_
        walk_at "d"
        refine ⟨_, v2, ?_⟩
        walk_at "d"
        refine ⟨_, v1, ?_⟩
        walk_at "d"
        refine ⟨(at1 x.a3 i, p), rfl, ⟨p2', by show p ≤ 2000000; omega⟩, fun d ed => ?_⟩
        subst ed
        have nb2 : (-(at2 x.a3 i)).natAbs < 2 ^ 200 := by omega
        walk_at "d"
        dsimp only
        refine ⟨mulW nb2 (b := 60) (by omega) (by decide), ?_⟩
        have er : -(at2 x.a3 i) * ((at1 x.a3 i % (p : Int)) ^ (p - 2) % (p : Int)) = restF x.a3 i p := rfl
        rw [er]
        walk_at "d"
        refine ⟨(restF x.a3 i p, p), rfl, ⟨ho, by show p ≤ 2000000; omega, hroot⟩, fun d ed => ?_⟩
        subst ed
        walk_at "d"
        refine ⟨(((i : Int) - 1, ah1 i), ((i : Int) - 2, ah2 i), -(sqrtF p (restF x.a3 i p))), rfl, ⟨p1, p2⟩, fun d ed => ?_⟩
        subst ed
        dsimp only
        rw [unit_apart i il]
        walk_at "d"
        have l1 := rlen (B := B.take k) (i := i)
        have l2 := sB.len
        have l3 : (B.take k).length ≤ B.length := by rw [List.length_take]; omega
        refine ⟨_, rfl, by rw [List.length_map, List.length_append]; omega, ?_⟩
        refine ⟨_, _, rfl, ?_⟩
        simp [List.map_append, List.append_assoc]
      · have h : ¬ 2 < p := by omega
        rw [if_neg h, List.append_nil]
        walk_at "n"
        exact ⟨_, _, rfl, rfl⟩
    · rintro ρ M ⟨o4, o5, rfl, rfl⟩
      have hlen : (D.ints (nI B)).length = B.length := by simp [D.ints, nI]
      rw [hlen, List.take_length]
      exact ⟨_, _, _, rfl, rfl⟩
  · rintro ρ M ⟨o1, o4, o5, rfl, rfl⟩
    refine r_freeze 3 0 rfl rfl (by have : e.α.length = 0 := he; omega) ?_
    walk_at "d"
    refine ret_v ?_
    show D.lst ((oddU x 3).map rlD) = _
    unfold oddU
    simp [List.range_succ, NV.Bs]

end
section
variable {P : Program} {w : World} {K : PySem.W.Frag} {mg : Str → Option Value} {base : Heap} {a : Adr}
/-! ### the greatest common divisor, a row without it -/
open NT in
theorem absI_def (t : Int) : (if t < 0 then -t else t) = (t.natAbs : Int) := by split <;> omega
open NT in
theorem ok_divisor (C : Ctx K mg a) : FnAt P w K mg base CX0 1 "divisor" ["one", "two"] (SpP K (fun x : Int × Int => [.int x.1, .int x.2]) (fun _ => True) (fun x d => d = .int (Nat.gcd x.1.natAbs x.2.natAbs : Nat))) := by
  refine fn_at C.d_divisor sc_divisor (fun _ => rfl) fun f cdv A outer s H E hr => ⟨_, (pss_cons (ps_par (i := 0) (j := 1) rfl sc_divisor.nd rfl rfl (by decide) rfl rfl (pa_cons (pe_abs C.B.abs rfl (pa_cons (pv 0) pa_nil)) (pa_cons (pe_abs C.B.abs rfl (pa_cons (pv 1) pa_nil)) pa_nil)) rfl)
    (pss_cons (ps_while PassesOwn.never (pt_cmpR op_gGt (pv 1) pe_int (nomark _))
    (pss_one (ps_par (i := 0) (j := 1) rfl sc_divisor.nd rfl rfl (by decide) rfl rfl (pa_cons (pv 1) (pa_cons (pe_op op_gMod (pv 0) (pv 1)) pa_nil)) rfl)))
    (pss_one (ps_ret (pv 0))))), fun x e hp he => ?_⟩
  obtain ⟨u, v⟩ := x
  dsimp only [cxOf]
  walk_at "d"
  refine ⟨_, _, rfl, ?_⟩
  rw [absI_def, absI_def]
  generalize hG : Nat.gcd u.natAbs v.natAbs = G
  refine r_seq (r_while ⟨fun m ρ M => ∃ (p q : Nat), ρ = [some (.v (.int (p : Int))), some (.v (.int (q : Int)))] ∧ M = [] ∧ Nat.gcd p q = G ∧ m = q,
    ⟨_, u.natAbs, v.natAbs, rfl, rfl, hG, rfl⟩, ?_⟩)
  rintro m ρ M ⟨p, q, rfl, rfl, hg, rfl⟩
  walk_at "d"
  refine ite_dec (fun h => ?_) (fun h => ?_)
  · have h : (0 : Int) < (m : Int) := by omega
    walk_at "d"
    refine ⟨h, ?_⟩
    walk_at "d"
    refine ⟨_, _, rfl, ?_⟩
    have lt : p % m < m := Nat.mod_lt _ (by omega)
    exact ⟨p % m, lt, m, p % m, by simp, rfl, by rw [← hg, Nat.gcd_comm, ← Nat.gcd_rec, Nat.gcd_comm], rfl⟩
  · have h : m = 0 := by omega
    subst h
    walk_at "d"
    refine ret_v ?_
    rw [← hg, Nat.gcd_zero_right]
open NT in
theorem ok_lowest (C : Ctx K mg a) : FnAt P w K mg base CX0 2 "lowest" ["row"] (SpP K (fun x : Bool × List Int => [D.seq x.1 (D.ints x.2)]) (fun x => (gcdL x.2 ≠ 0 ∧ x.2.length ≤ 1000) ∧ ∀ o, o ∈ x.2 → o.natAbs < 2 ^ 8900) (fun x d => d = .tup (D.ints (lowL x.2)))) := by
  refine fn_at C.d_lowest sc_lowest (fun _ => rfl) fun f cdv A outer s H E hr => ⟨_, (pss_cons (ps_set (i := 1) sc_lowest.nd rfl (by first | exact Or.inl rfl | exact Or.inr rfl) pe_int)
    (pss_cons (ps_for PassesOwn.never rfl (pi_seq (K := K) (pv 0)) (pg_name (i := 2) sc_lowest.nd rfl (by first | exact Or.inl rfl | exact Or.inr rfl))
    (pss_one (ps_set (i := 1) sc_lowest.nd rfl (by first | exact Or.inl rfl | exact Or.inr rfl) (pe_fn (ok_divisor C) (hr.mono (by omega)) rfl (pa_cons (pv 1) (pa_cons (pv 2) pa_nil))))))
    (pss_one (ps_ret (pe_tupOf (K := K) C.B.tuple rfl (pa_cons (pe_lc (own := [("one", 2)]) (g := (gName 2)) (tt := tYes) rfl sc_lowest.nd (pi_seq (K := K) (pv 0)) (blkOk_by (N := n_lowest) (sc := defScope s_lowest) (by decide +kernel)) (fun _ _ _ _ _ => (pg_name (i := 2) sc_lowest.nd rfl (by first | exact Or.inl rfl | exact Or.inr rfl))) (fun _ _ _ _ _ => pts_nil) (fun _ _ _ _ _ => (pe_op op_gDiv (pv 2) (pv 1)))) pa_nil)))))), fun x e hp he => ?_⟩
  obtain ⟨bt, r⟩ := x
  obtain ⟨⟨hg, hl⟩, hb⟩ := hp
  have hg : gcdL r ≠ 0 := hg
  have hl : r.length ≤ 1000 := hl
  have hb : ∀ o, o ∈ r → o.natAbs < 2 ^ 8900 := hb
  dsimp only [cxOf]
  walk_at "d"
  refine r_asg ?_
  walk_at "d"
  refine r_for [2] ?_
  refine ei_seqS ?_
  walk_at "d"
  refine ⟨_, ⟨bt, rfl⟩, ?_⟩
  refine ⟨fun i ρ M => ∃ (o2 : Option Sl), ρ = [some (.v (D.seq bt (D.ints r))), some (.v (.int (gcdL (r.take i) : Int))), o2] ∧ M = [], ⟨_, rfl, rfl⟩, ?_, ?_⟩
  · rintro i d ρ M hi ⟨o2, rfl, rfl⟩
    obtain ⟨n, hn, rfl⟩ := ints_get hi
    have es : gcdL (r.take (i + 1)) = Nat.gcd (gcdL (r.take i)) n.natAbs := by
      unfold gcdL
      rw [take_snoc hn, List.foldl_append]; rfl
    have nb := hb n (List.mem_of_getElem? hn)
    dsimp only
    rw [es]
    walk_at "d"
    refine r_asg ?_
    walk_at "d"
    refine ⟨((gcdL (r.take i) : Int), n), rfl, trivial, fun d ed => ?_⟩
    subst ed
    dsimp only
    rw [Int.natAbs_natCast]
    exact ⟨_, rfl, rfl⟩
  · rintro ρ M ⟨o2, rfl, rfl⟩
    have hlen : (D.ints r).length = r.length := by simp [D.ints]
    rw [hlen, List.take_length]
    have gp : (0 : Int) < (gcdL r : Int) := by omega
    have gb : (gcdL r : Int).natAbs < 2 ^ 8900 := by
      rw [Int.natAbs_natCast]
      have : ∃ x, x ∈ r ∧ x ≠ 0 := Classical.byContradiction fun z => hg (by
        have : ∀ x, x ∈ r → x = 0 := fun x hx => Classical.byContradiction fun h => z ⟨x, hx, h⟩
        have h2 : 0 ∣ gcdL r := dvd_gcdL fun x hx => by rw [this x hx]; exact Nat.dvd_refl 0
        exact Nat.zero_dvd.mp h2)
      obtain ⟨x, hx, h0⟩ := this
      exact Nat.lt_of_le_of_lt (Nat.le_of_dvd (by omega) (gcdL_dvd hx)) (hb x hx)
    walk_at "d"
    refine ev_lcM (fun d => match d with | .raw (.int n) => .int (n / (gcdL r : Int)) | _ => d) (ei_seqS ?_)
    walk_at "d"
    refine ⟨_, ⟨bt, rfl⟩, by rw [hlen]; omega, fun i d hi => ?_, ?_⟩
    · obtain ⟨n, hn, rfl⟩ := ints_get hi
      walk_at "d"
      refine ⟨divW gp gb (by decide), ?_⟩
      walk_at "d"
      exact rfl
    · refine ea_nil (x_tupL (ret_v ?_))
      show D.tup _ = D.tup _
      unfold lowL
      simp [D.ints]

end
section
variable {P : Program} {w : World} {K : PySem.W.Frag} {mg : Str → Option Value} {base : Heap} {a : Adr}
/-! ### what a row comes to -/
def comeL (ns ms : List Int) : Int := (List.zipWith (fun n o => n * o * o) ns ms).sum
theorem zip2_get {ns ms : List Int} {i : Nat} {d : D} (h : (zip2D (D.ints ns) (D.ints ms))[i]? = some d) : ∃ n o, n ∈ ns ∧ o ∈ ms ∧ d = .tup [.int n, .int o] ∧ ns[i]? = some n ∧ ms[i]? = some o := by
  unfold zip2D at h
  rw [List.getElem?_zipWith] at h
  cases e3 : (D.ints ns)[i]? with
  | none => rw [e3] at h; cases h
  | some d0 =>
    cases e4 : (D.ints ms)[i]? with
    | none => rw [e3, e4] at h; cases h
    | some c0 =>
      rw [e3, e4] at h
      cases h
      obtain ⟨n, hn, rfl⟩ := ints_get e3
      obtain ⟨o, ho, rfl⟩ := ints_get e4
      exact ⟨n, o, List.mem_of_getElem? hn, List.mem_of_getElem? ho, rfl, hn, ho⟩
theorem zip2_map (f : Int → Int → Int) : ∀ ns ms : List Int, (zip2D (D.ints ns) (D.ints ms)).map (fun d => match d with | .tup [.raw (.int n), .raw (.int o)] => D.int (f n o) | _ => d) = D.ints (List.zipWith f ns ms)
  | [], _ => by simp [zip2D, D.ints]
  | _ :: _, [] => by simp [zip2D, D.ints]
  | n :: ns, m :: ms => by
    have := zip2_map f ns ms
    simp only [zip2D, D.ints] at this
    simp only [zip2D, D.ints, List.map_cons, List.zipWith_cons_cons, this]
theorem ok_come_to (C : Ctx K mg a) : FnAt P w K mg base CX0 1 "come_to" ["numbers", "row"] (SpP K (fun x : Bool × List Int × Bool × List Int => [D.seq x.1 (D.ints x.2.1), D.seq x.2.2.1 (D.ints x.2.2.2)]) (fun x => (x.2.1.length ≤ 1000 ∧ ∀ n, n ∈ x.2.1 → n.natAbs < 2 ^ 4000) ∧ ∀ o, o ∈ x.2.2.2 → o.natAbs < 2 ^ 90000) (fun x d => d = .int (comeL x.2.1 x.2.2.2))) := by
  refine fn_at C.d_come_to sc_come_to (fun _ => rfl) fun f cdv A outer s H E hr => ⟨_, (pss_one (ps_ret (pe_sum (K := K) C.B.sum rfl rfl (pa_cons (pe_lc (own := [("number", 2), ("one", 3)]) (g := (gTup _ 2 (gCons (gName 2) (gCons (gName 3) gNil)))) (tt := tYes) rfl sc_come_to.nd (pi_zipS2 (K := K) rfl C.B.zip (pa_cons (pv 0) (pa_cons (pv 1) pa_nil))) (blkOk_by (N := n_come_to) (sc := defScope s_come_to) (by decide +kernel)) (fun _ _ _ _ _ => (pg_tup rfl (pgs_cons (pg_name (i := 2) sc_come_to.nd rfl (by first | exact Or.inl rfl | exact Or.inr rfl)) (pgs_cons (pg_name (i := 3) sc_come_to.nd rfl (by first | exact Or.inl rfl | exact Or.inr rfl)) pgs_nil)))) (fun _ _ _ _ _ => pts_nil) (fun _ _ _ _ _ => (pe_op (op_gMul (K := K)) (pe_op (op_gMul (K := K)) (pv 2) (pv 3)) (pv 3)))) pa_nil)))), fun x e hp he => ?_⟩
  obtain ⟨b1, ns, b2, ms⟩ := x
  obtain ⟨⟨hl, hn⟩, hm⟩ := hp
  have hl : ns.length ≤ 1000 := hl
  have hn : ∀ n, n ∈ ns → n.natAbs < 2 ^ 4000 := hn
  have hm : ∀ o, o ∈ ms → o.natAbs < 2 ^ 90000 := hm
  dsimp only [cxOf]
  refine r_ret ?_
  refine ev_cb (ea_cons (ev_lcM (fun d => match d with | .tup [.raw (.int n), .raw (.int o)] => .int (n * o * o) | _ => d) (ei_z2 ?_)))
  walk_at "d"
  refine ⟨_, _, _, _, rfl, .s, .s, ?_, fun i d hd => ?_, ?_⟩
  · unfold zip2D
    rw [List.length_zipWith]
    simp [D.ints]; omega
  · obtain ⟨n, o, n1, o1, rfl, _, _⟩ := zip2_get hd
    have nb := hn n n1
    have ob := hm o o1
    walk_at "d"
    refine ⟨mulW nb ob (by decide), ?_⟩
    walk_at "d"
    refine ⟨mulW (mul_lt nb ob) ob (by decide), ?_⟩
    walk_at "d"
    exact rfl
  · rw [zip2_map (fun n o => n * o * o)]
    walk_at "d"
    exact ec_sum .v (ret_v rfl)

end
section
variable {P : Program} {w : World} {K : PySem.W.Frag} {mg : Str → Option Value} {base : Heap} {a : Adr}
/-! ### the grid's row -/
open NT in
def gridF (x : NV) : V3 := ((rowsF x.a3 (nearI (baseF x.a3 x.B0 x.B1 x.B2) 3)).head?).getD ⟨0, 0, 0⟩
open NT in
theorem ev3_come (a u : V3) : comeL [a.x, a.y, a.z] [u.x, u.y, u.z] = ev3 a u := by
  unfold comeL ev3
  simp [List.zipWith]
  omega
open NT in
theorem near_bt {b : B3} {c : Nat} (h : All3 (Lg3 c) b) : ∀ u, u ∈ nearI b 3 → Lg3 (c + 4) u := by
  intro u hu
  unfold nearI at hu
  obtain ⟨i, hi, hu⟩ := List.mem_flatMap.mp hu
  unfold nearJ at hu
  obtain ⟨j, hj, hu⟩ := List.mem_flatMap.mp hu
  unfold nearK at hu
  obtain ⟨k, hk, rfl⟩ := List.mem_map.mp hu
  have i3 := List.mem_range.mp hi
  have j5 := List.mem_range.mp hj
  have k5 := List.mem_range.mp hk
  have li : Lg 2 (i : Int) := by show Int.natAbs _ < _; omega
  have lj : Lg 2 (-2 + (j : Int)) := by show Int.natAbs _ < _; omega
  have lk : Lg 2 (-2 + (k : Int)) := by show Int.natAbs _ < _; omega
  have q : ∀ {x y z : Int}, Lg c x → Lg c y → Lg c z → Lg (c + 4) ((i : Int) * x + (-2 + (j : Int)) * y + (-2 + (k : Int)) * z) := fun hx hy hz => (((li.mul hx).add (lj.mul hy)).add ((lk.mul hz).le (Nat.le_succ _))).le (by omega)
  exact ⟨q h.1.1 h.2.1.1 h.2.2.1, q h.1.2.1 h.2.1.2.1 h.2.2.2.1, q h.1.2.2 h.2.1.2.2 h.2.2.2.2⟩
open NT in
theorem first_near (b : B3) : b.1 ∈ nearI b 3 := by
  refine List.mem_flatMap.mpr ⟨1, List.mem_range.mpr (by decide), List.mem_flatMap.mpr ⟨2, List.mem_range.mpr (by decide), List.mem_map.mpr ⟨2, List.mem_range.mpr (by decide), ?_⟩⟩⟩
  obtain ⟨⟨x, y, z⟩, b1, b2⟩ := b
  simp [comb]
open NT in
structure GridF (x : NV) : Prop where
  ne : ¬ ((gridF x).x = 0 ∧ (gridF x).y = 0 ∧ (gridF x).z = 0)
  zero : ev3 x.a3 (gridF x) = 0
  bd : Lg3 907 (gridF x)
  hd : (rowsF x.a3 (nearI (baseF x.a3 x.B0 x.B1 x.B2) 3))[0]? = some (gridF x)
open NT in
theorem NV.Fine.grid {x : NV} (h : x.Fine) (nb : ∀ p, ¬ x.Bad p) : GridF x := by
  have h3 := h.three nb
  have o := grid_ok h3
  have bb := base_bd h3 ⟨h.a0, h.a1, h.a2⟩
  have hm : (baseF x.a3 x.B0 x.B1 x.B2).1 ∈ rowsF x.a3 (nearI (baseF x.a3 x.B0 x.B1 x.B2) 3) := by
    unfold rowsF
    exact List.mem_filter.mpr ⟨first_near _, decide_eq_true ⟨o.ne, o.zero⟩⟩
  have nbt := near_bt bb.b
  have all : ∀ u, u ∈ rowsF x.a3 (nearI (baseF x.a3 x.B0 x.B1 x.B2) 3) → (¬ (u.x = 0 ∧ u.y = 0 ∧ u.z = 0) ∧ ev3 x.a3 u = 0) ∧ Lg3 907 u := fun u hu => by
    unfold rowsF at hu
    obtain ⟨h1, h2⟩ := List.mem_filter.mp hu
    exact ⟨of_decide_eq_true h2, nbt u h1⟩
  have q : ∀ (L : List V3) (u : V3), u ∈ L → (L.head?).getD ⟨0, 0, 0⟩ ∈ L ∧ L[0]? = some ((L.head?).getD ⟨0, 0, 0⟩) := fun L u hu => by
    cases L with
    | nil => cases hu
    | cons u L => exact ⟨by simp, rfl⟩
  have q := q _ _ hm
  have r := all _ q.1
  exact ⟨r.1.1, r.1.2, r.2, q.2⟩
open NT in
theorem ok_grid_row (C : Ctx K mg a) : FnAt P w K mg base CX0 5 "grid_row" ["shape"] (SpP K (fun x : NV => [nmD a.Normal x]) (fun x => x.Fine ∧ ∀ p, ¬ x.Bad p) (fun x d => d = .tup (D.ints (lowL [(gridF x).x, (gridF x).y, (gridF x).z])))) := by
  refine fn_at C.d_grid_row sc_grid_row (fun _ => rfl) fun f cdv A outer s H E hr => ⟨_, (pss_cons (ps_set (i := 1) sc_grid_row.nd rfl (by first | exact Or.inl rfl | exact Or.inr rfl) (pe_mth0 (ok_Normal_all_weights C) C.k_Normal.cl (hr.mono (by omega)) (pv 0)))
    (pss_cons (ps_set (i := 2) sc_grid_row.nd rfl (by first | exact Or.inl rfl | exact Or.inr rfl) (pe_lst (pa_cons (pe_lst (pa_cons pe_int (pa_cons pe_int (pa_cons pe_int pa_nil)))) (pa_cons (pe_lst (pa_cons pe_int (pa_cons pe_int (pa_cons pe_int pa_nil)))) (pa_cons (pe_lst (pa_cons pe_int (pa_cons pe_int (pa_cons pe_int pa_nil)))) pa_nil)))))
    (pss_cons (ps_for PassesOwn.never rfl (pi_seq (K := K) (pe_op (op_gAdd (K := K)) (pe_fn (ok_two_rules C) (hr.mono (by omega)) rfl (pa_cons (pv 1) pa_nil)) (pe_fn (ok_odd_rules C) (hr.mono (by omega)) rfl (pa_cons (pv 0) pa_nil)))) (pg_tup rfl (pgs_cons (pg_name (i := 4) sc_grid_row.nd rfl (by first | exact Or.inl rfl | exact Or.inr rfl)) (pgs_cons (pg_name (i := 5) sc_grid_row.nd rfl (by first | exact Or.inl rfl | exact Or.inr rfl)) pgs_nil)))
    (pss_one (ps_set (i := 2) sc_grid_row.nd rfl (by first | exact Or.inl rfl | exact Or.inr rfl) (pe_fn (ok_narrowed C) (hr.mono (by omega)) rfl (pa_cons (pv 2) (pa_cons (pv 4) (pa_cons (pv 5) pa_nil)))))))
    (pss_cons (ps_set (i := 2) sc_grid_row.nd rfl (by first | exact Or.inl rfl | exact Or.inr rfl) (pe_fn (ok_short_base C) (hr.mono (by omega)) rfl (pa_cons (pe_lc (own := [("one", 7)]) (g := (gName 7)) (tt := tYes) rfl sc_grid_row.nd (pi_seq (K := K) (pv 1)) (blkOk_by (N := n_grid_row) (sc := defScope s_grid_row) (by decide +kernel)) (fun _ _ _ _ _ => (pg_name (i := 7) sc_grid_row.nd rfl (by first | exact Or.inl rfl | exact Or.inr rfl))) (fun _ _ _ _ _ => pts_nil) (fun _ _ _ _ _ => (pe_abs C.B.abs rfl (pa_cons (pv 7) pa_nil)))) (pa_cons (pv 2) pa_nil))))
    (pss_cons (ps_setLc (i := 3) (own := [("row", 6)]) (g := (gName 6)) (tt := _) rfl sc_grid_row.nd rfl rfl (sw_true rfl rfl rfl (by decide +kernel)) (pi_seq (K := K) (pe_fn (ok_near_rows C) (hr.mono (by omega)) rfl (pa_cons (pv 2) pa_nil))) (blkOk_by (N := n_grid_row) (sc := defScope s_grid_row) (by decide +kernel)) (fun _ _ _ _ _ => (pg_name (i := 6) sc_grid_row.nd rfl (by first | exact Or.inl rfl | exact Or.inr rfl))) (fun _ _ _ _ _ => (pts_one (PW.pt (pw_and (pt_cmpR (op_gNe (K := K) (by exact hr.units)) (pv 6) (pe_lst (pa_cons pe_int (pa_cons pe_int (pa_cons pe_int pa_nil)))) (nomark _)) (pw_and1 (pt_cmpR (op_gEq (K := K) (by exact hr.units)) (pe_fn (ok_come_to C) (hr.mono (by omega)) rfl (pa_cons (pv 1) (pa_cons (pv 6) pa_nil))) pe_int (nomark _))))))) (fun _ _ _ _ _ => (pv 6)))
    (pss_one (ps_ret (pe_fn (ok_lowest C) (hr.mono (by omega)) rfl (pa_cons (pe_ix (ix_any (K := K)) (pv 3) pe_int (fun _ _ => rfl)) pa_nil))))))))), fun x e hp he => ?_⟩
  obtain ⟨fx, nb⟩ := hp
  have fx : x.Fine := fx
  have nb : ∀ p, ¬ x.Bad p := nb
  have h3 := fx.three nb
  have gf := fx.grid nb
  have fr := grid_frees h3
  have gp := grid_prod h3
  have rb := rule_bd h3 fx.ok.b0.le fx.ok.b1.le fx.ok.b2.le
  have bb := base_bd h3 ⟨fx.a0, fx.a1, fx.a2⟩
  have go := grid_ok h3
  dsimp only [cxOf]
  walk_at "d"
  refine r_asg ?_
  refine ev_mth ?_
  walk_at "d"
  refine ⟨_, _, rfl, by decide, ?_⟩
  walk_at "d"
  refine ⟨x, rfl, fx.ok, fun d ed => ?_⟩
  subst ed
  walk_at "d"
  refine r_asg ?_
  walk_at "d"
  refine r_for [4, 5] ?_
  refine ei_seqL ?_
  walk_at "d"
  refine ⟨x.a3, rfl, ⟨fx.one, ?_⟩, fun d ed => ?_⟩
  · cases e : twoB x.A0 x.A1 x.A2 with
    | false => exact e
    | true => exact absurd (.inr (.inl ⟨rfl, e⟩)) (nb 2)
  subst ed
  walk_at "d"
  refine ⟨x, rfl, ⟨fx, nb⟩, fun d ed => ?_⟩
  subst ed
  have tl : (twoR x.a3).length = 2 := by
    unfold twoR
    split
    · rfl
    · split <;> rfl
  have rlen : ∀ {B : List Nat} {i : Nat}, (oddRi x.a3 B i).length ≤ B.length := fun {B i} => by
    unfold oddRi
    rw [List.length_map]
    exact List.length_filter_le _ _
  have l0 := rlen (B := x.B0) (i := 0)
  have l1 := rlen (B := x.B1) (i := 1)
  have l2 := rlen (B := x.B2) (i := 2)
  have s0 := fx.ok.b0.len
  have s1 := fx.ok.b1.len
  have s2 := fx.ok.b2.len
  walk_at "d"
  refine g_addL .v .v (by rw [List.length_map, List.length_map, List.length_append, List.length_append, tl]; omega) ?_
  rw [← List.map_append]
  refine ⟨_, rfl, ?_⟩
  change ∃ I, _
  have eL : twoR x.a3 ++ (oddRi x.a3 x.B0 0 ++ oddRi x.a3 x.B1 1 ++ oddRi x.a3 x.B2 2) = gridR x.a3 x.B0 x.B1 x.B2 := rfl
  have eB : gridB x.a3 x.B0 x.B1 x.B2 = foldR I3 (gridR x.a3 x.B0 x.B1 x.B2) := rfl
  rw [eL]
  generalize gridR x.a3 x.B0 x.B1 x.B2 = L at *
  refine ⟨fun i ρ M => ∃ (o4 o5 : Option Sl), ρ = [some (.v (nmD a.Normal x)), some (.v (.tup (D.ints [x.A0, x.A1, x.A2]))), some (.v (bD (foldR I3 (L.take i)))), none, o4, o5, none, none] ∧ M = [], ⟨_, _, rfl, rfl⟩, ?_, ?_⟩
  · rintro i d ρ M hi ⟨o4, o5, rfl, rfl⟩
    obtain ⟨r, hr, rfl⟩ := map_get hi
    have es : foldR I3 (L.take (i + 1)) = narF (foldR I3 (L.take i)) r.1 r.2 := by
      unfold foldR
      rw [take_snoc hr, List.foldl_append]; rfl
    obtain ⟨md, fre, _⟩ := frees_at _ _ _ _ fr hr
    have fb := fold_take_bd fr hr
    obtain ⟨r2, rx, ry, rz⟩ := rb r (List.mem_of_getElem? hr)
    have k60 : Bt 60 r.1 := ⟨Nat.lt_of_le_of_lt rx (by decide), Nat.lt_of_le_of_lt ry (by decide), Nat.lt_of_le_of_lt rz (by decide)⟩
    have bt3 : ∀ {u : V3}, Le3 ((L.map (·.2)).prod) u → Bt 3000 u := fun {u} hu => by
      have hn : (L.map (·.2)).prod < 2 ^ 602 := by rw [gp]; exact bb.n
      exact ⟨bit_le (Nat.lt_of_le_of_lt hu.1 hn) (by decide), bit_le (Nat.lt_of_le_of_lt hu.2.1 hn) (by decide), bit_le (Nat.lt_of_le_of_lt hu.2.2 hn) (by decide)⟩
    dsimp only
    rw [es]
    generalize foldR I3 (L.take i) = b at *
    walk_at "d"
    refine r_asg ?_
    walk_at "d"
    refine ⟨(b, r.1, r.2), rfl, ⟨⟨bt3 fb.1, bt3 fb.2.1, bt3 fb.2.2⟩, k60, ⟨md, r2⟩, fre⟩, fun d ed => ?_⟩
    subst ed
    exact ⟨_, _, rfl, rfl⟩
  · rintro ρ M ⟨o4, o5, rfl, rfl⟩
    rw [List.length_map, List.take_length, ← eB]
    have la : Bt 300 (absV x.a3) := by
      have k : ∀ t : Int, t.natAbs < 2 ^ 200 → ((t.natAbs : Nat) : Int).natAbs < 2 ^ 300 := fun t h => bit_le (by rw [Int.natAbs_natCast]; exact h) (by decide)
      exact ⟨k _ fx.a0, k _ fx.a1, k _ fx.a2⟩
    have N0 : 0 < x.B0.prod * x.B1.prod * x.B2.prod := Nat.mul_pos (Nat.mul_pos (prod_pos _ h3.p0) (prod_pos _ h3.p1)) (prod_pos _ h3.p2)
    have dne : det (gridB x.a3 x.B0 x.B1 x.B2).1 (gridB x.a3 x.B0 x.B1 x.B2).2.1 (gridB x.a3 x.B0 x.B1 x.B2).2.2 ≠ 0 := by
      have e : det (gridB x.a3 x.B0 x.B1 x.B2).1 (gridB x.a3 x.B0 x.B1 x.B2).2.1 (gridB x.a3 x.B0 x.B1 x.B2).2.2 = 4 * (x.B0.prod * x.B1.prod * x.B2.prod : Nat) := go.dt
      omega
    walk_at "d"
    refine r_asg ?_
    walk_at "d"
    refine ev_lcM (fun d => match d with | .raw (.int n) => .int (n.natAbs : Int) | _ => d) (ei_seqT ?_)
    walk_at "d"
    refine ⟨_, rfl, le_lit rfl, fun i d hi => ?_, ?_⟩
    · obtain ⟨n, hn, rfl⟩ := ints_get hi
      walk_at "d"
      rw [absI_def]
    walk_at "d"
    refine ⟨(absV x.a3, gridB x.a3 x.B0 x.B1 x.B2), rfl, ⟨⟨go.pos, la⟩, dne, ?_, ?_⟩, ?_⟩
    · exact bit_le bb.q (by decide)
    · exact ⟨bit_le bb.g.2.2.1 (by decide), bit_le bb.g.2.2.2.1 (by decide), bit_le bb.g.2.2.2.2 (by decide)⟩
    rintro d ⟨b, hb, rfl⟩
    have hb : b = baseF x.a3 x.B0 x.B1 x.B2 := hb
    have b9 := bb.b
    have gfh := gf.hd
    rw [← hb] at b9 gfh
    have b5 : Bt 5000 b.1 ∧ Bt 5000 b.2.1 ∧ Bt 5000 b.2.2 := by
      have k : ∀ {u : V3}, Lg3 903 u → Bt 5000 u := fun h => ⟨bit_le h.1 (by decide), bit_le h.2.1 (by decide), bit_le h.2.2 (by decide)⟩
      exact ⟨k b9.1, k b9.2.1, k b9.2.2⟩
    have nbt := near_bt b9
    walk_at "d"
    refine r_asg ?_
    refine ev_lc (ei_seqL ?_)
    walk_at "d"
    refine ⟨b, rfl, b5, fun d ed => ?_⟩
    subst ed
    refine ⟨_, rfl, ?_⟩
    have nl : (nearI b 3).length = 75 := (near_len b).2.2 3
    generalize nearI b 3 = N at *
    refine ⟨by rw [List.length_map, nl]; decide, fun i acc => acc = (rowsF x.a3 (N.take i)).map vD, rfl, ?_, ?_⟩
    · rintro i d acc hi rfl
      obtain ⟨u, hu, rfl⟩ := map_get hi
      have ub := nbt u (List.mem_of_getElem? hu)
      have ef : rowsF x.a3 (N.take (i + 1)) = rowsF x.a3 (N.take i) ++ (if ¬ (u.x = 0 ∧ u.y = 0 ∧ u.z = 0) ∧ ev3 x.a3 u = 0 then [u] else []) := by
        unfold rowsF
        rw [take_snoc hu, List.filter_append]
        by_cases c : ¬ (u.x = 0 ∧ u.y = 0 ∧ u.z = 0) ∧ ev3 x.a3 u = 0
        · rw [if_pos c, List.filter_cons, if_pos (decide_eq_true c)]; rfl
        · rw [if_neg c, List.filter_cons, if_neg (by rw [decide_eq_true_eq]; exact c)]; rfl
      have eq0 : (vD u).eqv (.lst [D.raw (V.int 0), D.raw (V.int 0), D.raw (V.int 0)]) = decide ([u.x, u.y, u.z] = [0, 0, 0]) := eqv_lstI [u.x, u.y, u.z] [0, 0, 0]
      walk_at "d"
      refine g_neD 5 (pl_lstI (n := 4) [u.x, u.y, u.z]) (pl_lstI (n := 4) [0, 0, 0]) (by decide) ?_
      rw [eq0]
      by_cases c0 : u.x = 0 ∧ u.y = 0 ∧ u.z = 0
      · have : (!decide ([u.x, u.y, u.z] = [0, 0, 0])) = false := by simp [c0]
        rw [this]
        refine ⟨_, rfl, iteF ?_⟩
        refine iteF ?_
        show _ = _
        rw [ef, if_neg (fun h => h.1 c0), List.append_nil]
      · have : (!decide ([u.x, u.y, u.z] = [0, 0, 0])) = true := by simp [c0]
        rw [this]
        refine ⟨_, rfl, iteT ?_⟩
        walk_at "d"
        refine ⟨(true, [x.a3.x, x.a3.y, x.a3.z], false, [u.x, u.y, u.z]), rfl, ⟨⟨le_lit rfl, fun n hn => ?_⟩, fun o ho => ?_⟩, fun d ed => ?_⟩
        · simp only [List.mem_cons, List.not_mem_nil, or_false] at hn
          rcases hn with rfl | rfl | rfl
          · exact bit_le fx.a0 (by decide)
          · exact bit_le fx.a1 (by decide)
          · exact bit_le fx.a2 (by decide)
        · simp only [List.mem_cons, List.not_mem_nil, or_false] at ho
          rcases ho with rfl | rfl | rfl
          · exact bit_le ub.1 (by decide)
          · exact bit_le ub.2.1 (by decide)
          · exact bit_le ub.2.2 (by decide)
        subst ed
        dsimp only
        rw [ev3_come]
        walk_at "d"
        refine ite_dec (fun h => ?_) (fun h => ?_)
        · walk_at "d"
          refine ⟨_, rfl, ?_⟩
          show _ = _
          rw [ef, if_pos ⟨c0, h⟩, List.map_append]; rfl
        · show _ = _
          rw [ef, if_neg (fun z => h z.2), List.append_nil]
    · rintro acc rfl
      have hlen : (N.map vD).length = N.length := List.length_map _
      rw [hlen, List.take_length]
      walk_at "d"
      refine ⟨vD (gridF x), ?_, ?_⟩
      · exact atI_ofN (i := 0) (by rw [List.getElem?_map, gfh]; rfl)
      walk_at "d"
      refine ⟨(false, [(gridF x).x, (gridF x).y, (gridF x).z]), rfl, ⟨⟨?_, le_lit rfl⟩, fun o ho => ?_⟩, fun d ed => ?_⟩
      · intro z
        have k : ∀ t, t ∈ [(gridF x).x, (gridF x).y, (gridF x).z] → t = 0 := fun t ht => Classical.byContradiction fun n => by
          have := gcdL_pos ht n
          dsimp only at z
          omega
        exact gf.ne ⟨k _ (by simp), k _ (by simp), k _ (by simp)⟩
      · simp only [List.mem_cons, List.not_mem_nil, or_false] at ho
        rcases ho with rfl | rfl | rfl
        · exact bit_le gf.bd.1 (by decide)
        · exact bit_le gf.bd.2.1 (by decide)
        · exact bit_le gf.bd.2.2 (by decide)
      subst ed
      exact ret_v rfl

end
section
variable {P : Program} {w : World} {K : PySem.W.Frag} {mg : Str → Option Value} {base : Heap} {a : Adr}
/-! ### Mordell's step -/
open NT in
theorem ok_parted (C : Ctx K mg a) : FnAt P w K mg base CX0 1 "parted" ["one", "other"] (SpP K (fun x : Int × Int => [.int x.1, .int x.2]) (fun x => (0 ≤ x.1 ∧ 0 ≤ x.2) ∧ Nat.gcd x.1.natAbs x.2.natAbs = 1 ∧ Lg 1107 x.1 ∧ Lg 1107 x.2) (fun x d => d = .tup (D.ints [(parF x.1 x.2).1, (parF x.1 x.2).2]))) := by
  refine fn_at C.d_parted sc_parted (fun _ => rfl) fun f cdv A outer s H E hr => ⟨_, (pss_cons (ps_asg (pe_tup (pa_cons (pe_tup (pa_cons pe_int (pa_cons pe_int pa_nil))) (pa_cons (pe_tup (pa_cons pe_int (pa_cons pe_int pa_nil))) (pa_cons (pv 0) (pa_cons (pv 1) pa_nil))))) (pg_tup rfl (pgs_cons (pg_name (i := 2) sc_parted.nd rfl (by first | exact Or.inl rfl | exact Or.inr rfl)) (pgs_cons (pg_name (i := 3) sc_parted.nd rfl (by first | exact Or.inl rfl | exact Or.inr rfl)) (pgs_cons (pg_name (i := 4) sc_parted.nd rfl (by first | exact Or.inl rfl | exact Or.inr rfl)) (pgs_cons (pg_name (i := 5) sc_parted.nd rfl (by first | exact Or.inl rfl | exact Or.inr rfl)) pgs_nil))))))
    (pss_cons (ps_while PassesOwn.never (pt_cmpR (op_gNe (K := K) (by exact hr.units)) (pv 5) pe_int (nomark _))
    (pss_cons (ps_set (i := 6) sc_parted.nd rfl (by first | exact Or.inl rfl | exact Or.inr rfl) (pe_op op_gDiv (pv 4) (pv 5)))
    (pss_cons (ps_par (i := 2) (j := 3) rfl sc_parted.nd rfl rfl (by decide) rfl rfl (pa_cons (pv 3) (pa_cons (pe_tup (pa_cons (pe_op op_gSub (pe_ix (ix_any (K := K)) (pv 2) pe_int (fun _ _ => rfl)) (pe_op (op_gMul (K := K)) (pv 6) (pe_ix (ix_any (K := K)) (pv 3) pe_int (fun _ _ => rfl)))) (pa_cons (pe_op op_gSub (pe_ix (ix_any (K := K)) (pv 2) pe_int (fun _ _ => rfl)) (pe_op (op_gMul (K := K)) (pv 6) (pe_ix (ix_any (K := K)) (pv 3) pe_int (fun _ _ => rfl)))) pa_nil))) pa_nil)) rfl)
    (pss_one (ps_par (i := 4) (j := 5) rfl sc_parted.nd rfl rfl (by decide) rfl rfl (pa_cons (pv 5) (pa_cons (pe_op op_gSub (pv 4) (pe_op (op_gMul (K := K)) (pv 6) (pv 5))) pa_nil)) rfl)))))
    (pss_one (ps_ret (pe_tup (pa_cons (pe_op (op_gMul (K := K)) (pe_ix (ix_any (K := K)) (pv 2) pe_int (fun _ _ => rfl)) (pv 4)) (pa_cons (pe_op (op_gMul (K := K)) (pe_ix (ix_any (K := K)) (pv 2) pe_int (fun _ _ => rfl)) (pv 4)) pa_nil))))))), fun x e hp he => ?_⟩
  obtain ⟨x, y⟩ := x
  obtain ⟨⟨x0, y0⟩, g, lx, ly⟩ := hp
  have x0 : 0 ≤ x := x0
  have y0 : 0 ≤ y := y0
  have g : Nat.gcd x.natAbs y.natAbs = 1 := g
  have lx : Lg 1107 x := lx
  have ly : Lg 1107 y := ly
  dsimp only [cxOf]
  walk_at "d"
  refine r_asgG (is := [2, 3, 4, 5]) ?_
  walk_at "d"
  refine ⟨_, rfl, ?_⟩
  walk_at "d"
  refine r_while ⟨fun m ρ M => ∃ (n : Nat) (h t : Int × Int) (l r : Int) (o6 : Option Sl), ρ = [some (.v (.int x)), some (.v (.int y)), some (.v (.tup (D.ints [h.1, h.2]))), some (.v (.tup (D.ints [t.1, t.2]))), some (.v (.int l)), some (.v (.int r)), o6] ∧ M = [] ∧ Par x y h t l r ∧ PB 1107 x y h t l r ∧ parG n h t l r = parF x y ∧ r.natAbs < n ∧ m = n,
    ⟨_, y.natAbs + 1, (1, 0), (0, 1), x, y, none, rfl, rfl, par_start x0 y0 g, pb_start lx ly, rfl, Nat.lt_succ_self _, rfl⟩, ?_⟩
  generalize hR0 : parF x y = R0
  rintro m ρ M ⟨n, h, t, l, r, o6, rfl, rfl, p, q, hR, hn, rfl⟩
  obtain ⟨n, rfl⟩ : ∃ n, m = n + 1 := ⟨m - 1, by omega⟩
  have r0 := p.r0
  have l0 := p.l0
  have pl : Lg 1108 h.1 ∧ Lg 1108 h.2 := ⟨Lg.succ q.h1 ly, Lg.succ q.h2 lx⟩
  have pt : Lg 1108 t.1 ∧ Lg 1108 t.2 := ⟨Lg.succ q.t1 ly, Lg.succ q.t2 lx⟩
  rw [parG] at hR
  walk_at "d"
  by_cases c : r ≠ 0
  · have cd : (!decide (r = 0)) = true := by simp [c]
    rw [cd]
    refine iteT ?_
    have rp : 0 < r := by omega
    rw [if_neg c] at hR
    have q0 : 0 ≤ l / r := Int.ediv_nonneg l0 r0
    have ql : Lg 1107 (l / r) := by
      have : l / r ≤ l := Int.ediv_le_self _ l0
      have lb : l.natAbs < 2 ^ 1107 := q.lb
      show Int.natAbs _ < _
      omega
    walk_at "d"
    refine r_asg ?_
    walk_at "d"
    refine ⟨divW rp q.rb (by decide), ?_⟩
    walk_at "d"
    refine ⟨_, atI_ofN (i := 0) rfl, ?_⟩
    walk_at "d"
    refine ⟨_, atI_ofN (i := 0) rfl, ?_⟩
    walk_at "d"
    refine ⟨mulW ql pt.1 (by decide), ?_⟩
    walk_at "d"
    refine ⟨_, atI_ofN (i := 1) rfl, ?_⟩
    walk_at "d"
    refine ⟨_, atI_ofN (i := 1) rfl, ?_⟩
    walk_at "d"
    refine ⟨mulW ql pt.2 (by decide), ?_⟩
    walk_at "d"
    refine ⟨_, _, rfl, ?_⟩
    walk_at "d"
    refine ⟨mulW ql q.rb (by decide), ?_⟩
    walk_at "d"
    refine ⟨_, _, rfl, ?_⟩
    have rm : (l - l / r * r).natAbs < n := by
      rw [par_mod c r0]
      have := Int.emod_lt_of_pos l rp
      have := Int.emod_nonneg l c
      omega
    exact ⟨n, Nat.lt_succ_self n, n, t, (h.1 - l / r * t.1, h.2 - l / r * t.2), r, l - l / r * r, _, rfl, rfl, p.step c, q.step l0 r0 c, hR, rm, rfl⟩
  · have c : r = 0 := Classical.byContradiction fun z => c z
    subst c
    refine iteF ?_
    rw [if_pos rfl] at hR
    have lb : Lg 1107 l := q.lb
    walk_at "d"
    refine ⟨_, atI_ofN (i := 0) rfl, ?_⟩
    walk_at "d"
    refine ⟨mulW pl.1 lb (by decide), ?_⟩
    walk_at "d"
    refine ⟨_, atI_ofN (i := 1) rfl, ?_⟩
    walk_at "d"
    refine ⟨mulW pl.2 lb (by decide), ?_⟩
    walk_at "d"
    refine ret_v ?_
    rw [← hR]; rfl
open NT in
structure StepIn (x : (Int × Int × Int) × (Int × Int × Int)) : Prop where
  ap : 0 < x.1.1
  bp : 0 < x.1.2.1
  cp : 0 < x.1.2.2
  la : Lg 200 x.1.1
  lb : Lg 200 x.1.2.1
  lc : Lg 200 x.1.2.2
  sq : sqf x.1.2.2.natAbs
  an : Ans3 x.1.1 x.1.2.1 x.1.2.2 x.2.1 x.2.2.1 x.2.2.2
  big : x.1.1 * x.1.2.1 < x.2.2.2 * x.2.2.2
  lz : Lg 907 x.2.2.2
abbrev triD (r : Int × Int × Int) : List D := D.ints [r.1, r.2.1, r.2.2]
open NT in
theorem ok_step_down (C : Ctx K mg a) : FnAt P w K mg base CX0 3 "step_down" ["numbers", "row"] (SpP K (fun x : (Int × Int × Int) × (Int × Int × Int) => [.lst (triD x.1), .tup (triD x.2)]) StepIn (fun x d => d = .tup (triD (stepF x.1.1 x.1.2.1 x.1.2.2 x.2)))) := by
  refine fn_at C.d_step_down sc_step_down (fun _ => rfl) fun f cdv A outer s H E hr => ⟨_, (pss_cons (ps_asg (pv 0) (pg_lst rfl (pgs_cons (pg_name (i := 6) sc_step_down.nd rfl (by first | exact Or.inl rfl | exact Or.inr rfl)) (pgs_cons (pg_name (i := 7) sc_step_down.nd rfl (by first | exact Or.inl rfl | exact Or.inr rfl)) (pgs_cons (pg_name (i := 8) sc_step_down.nd rfl (by first | exact Or.inl rfl | exact Or.inr rfl)) pgs_nil)))))
    (pss_cons (ps_asg (pv 1) (pg_tup rfl (pgs_cons (pg_name (i := 9) sc_step_down.nd rfl (by first | exact Or.inl rfl | exact Or.inr rfl)) (pgs_cons (pg_name (i := 10) sc_step_down.nd rfl (by first | exact Or.inl rfl | exact Or.inr rfl)) (pgs_cons (pg_name (i := 11) sc_step_down.nd rfl (by first | exact Or.inl rfl | exact Or.inr rfl)) pgs_nil)))))
    (pss_cons (ps_set (i := 2) sc_step_down.nd rfl (by first | exact Or.inl rfl | exact Or.inr rfl) (pe_ifExp (pt_cmpR (op_gEq (K := K) (by exact hr.units)) (pe_op op_gMod (pv 8) pe_int) pe_int (nomark _)) (pv 8) (pe_op op_gDiv (pv 8) pe_int)))
    (pss_cons (ps_asg (pe_fn (ok_parted C) (hr.mono (by omega)) rfl (pa_cons (pv 9) (pa_cons (pv 10) pa_nil))) (pg_tup rfl (pgs_cons (pg_name (i := 12) sc_step_down.nd rfl (by first | exact Or.inl rfl | exact Or.inr rfl)) (pgs_cons (pg_name (i := 13) sc_step_down.nd rfl (by first | exact Or.inl rfl | exact Or.inr rfl)) pgs_nil))))
    (pss_cons (ps_par (i := 14) (j := 15) rfl sc_step_down.nd rfl rfl (by decide) rfl rfl (pa_cons (pe_op (op_gMul (K := K)) (pv 2) (pv 12)) (pa_cons (pe_op (op_gMul (K := K)) (pe_un un_neg (pv 2)) (pv 13)) pa_nil)) rfl)
    (pss_cons (ps_par (i := 16) (j := 17) rfl sc_step_down.nd rfl rfl (by decide) rfl rfl (pa_cons (pe_op (op_gAdd (K := K)) (pe_op (op_gMul (K := K)) (pe_op (op_gMul (K := K)) (pv 6) (pv 9)) (pv 15)) (pe_op (op_gMul (K := K)) (pe_op (op_gMul (K := K)) (pv 7) (pv 10)) (pv 14))) (pa_cons (pe_op (op_gMul (K := K)) (pv 8) (pv 11)) pa_nil)) rfl)
    (pss_cons (ps_if (pt_cmpR (op_gEq (K := K) (by exact hr.units)) (pe_op op_gMod (pv 8) pe_int) pe_int (nomark _))
    (pss_cons (ps_set (i := 18) sc_step_down.nd rfl (by first | exact Or.inl rfl | exact Or.inr rfl) (pe_op op_gMod (pe_op (op_gAdd (K := K)) (pe_op (op_gMul (K := K)) (pv 6) (pv 15)) (pe_op (op_gMul (K := K)) (pv 7) (pv 14))) pe_int))
    (pss_one (ps_set (i := 19) sc_step_down.nd rfl (by first | exact Or.inl rfl | exact Or.inr rfl) (pe_op (op_gAdd (K := K)) (pe_op (op_gMul (K := K)) pe_int (pe_op op_gDiv (pe_op (op_gAdd (K := K)) (pe_op op_gSub (pv 16) (pe_op (op_gMul (K := K)) (pv 18) (pv 17))) (pv 17)) (pe_op (op_gMul (K := K)) pe_int (pv 17)))) (pv 18)))))
    (pss_one (ps_set (i := 19) sc_step_down.nd rfl (by first | exact Or.inl rfl | exact Or.inr rfl) (pe_op op_gDiv (pe_op (op_gAdd (K := K)) (pe_op (op_gMul (K := K)) pe_int (pv 16)) (pv 17)) (pe_op (op_gMul (K := K)) pe_int (pv 17))))))
    (pss_cons (ps_set (i := 3) sc_step_down.nd rfl (by first | exact Or.inl rfl | exact Or.inr rfl) (pe_tup (pa_cons (pv 15) (pa_cons (pv 14) (pa_cons (pv 19) pa_nil)))))
    (pss_cons (ps_set (i := 4) sc_step_down.nd rfl (by first | exact Or.inl rfl | exact Or.inr rfl) (pe_op op_gSub (pe_op (op_gAdd (K := K)) (pe_op (op_gMul (K := K)) (pe_op (op_gMul (K := K)) (pv 6) (pv 15)) (pv 15)) (pe_op (op_gMul (K := K)) (pe_op (op_gMul (K := K)) (pv 7) (pv 14)) (pv 14))) (pe_op (op_gMul (K := K)) (pe_op (op_gMul (K := K)) (pv 8) (pv 19)) (pv 19))))
    (pss_cons (ps_set (i := 5) sc_step_down.nd rfl (by first | exact Or.inl rfl | exact Or.inr rfl) (pe_op op_gSub (pv 16) (pe_op (op_gMul (K := K)) (pe_op (op_gMul (K := K)) (pv 8) (pv 11)) (pv 19))))
    (pss_one (ps_ret (pe_fn (ok_lowest C) (hr.mono (by omega)) rfl (pa_cons (pe_lc (own := [("mine", 20), ("yours", 21)]) (g := (gTup _ 2 (gCons (gName 20) (gCons (gName 21) gNil)))) (tt := tYes) rfl sc_step_down.nd (pi_zipS2 (K := K) rfl C.B.zip (pa_cons (pv 1) (pa_cons (pv 3) pa_nil))) (blkOk_by (N := n_step_down) (sc := defScope s_step_down) (by decide +kernel)) (fun _ _ _ _ _ => (pg_tup rfl (pgs_cons (pg_name (i := 20) sc_step_down.nd rfl (by first | exact Or.inl rfl | exact Or.inr rfl)) (pgs_cons (pg_name (i := 21) sc_step_down.nd rfl (by first | exact Or.inl rfl | exact Or.inr rfl)) pgs_nil)))) (fun _ _ _ _ _ => pts_nil) (fun _ _ _ _ _ => (pe_abs C.B.abs rfl (pa_cons (pe_op op_gSub (pe_op (op_gMul (K := K)) (pv 4) (pv 20)) (pe_op (op_gMul (K := K)) (pe_op (op_gMul (K := K)) pe_int (pv 5)) (pv 21))) pa_nil)))) pa_nil)))))))))))))), fun x e hp he => ?_⟩
  obtain ⟨⟨a', b, c⟩, x, y, z⟩ := x
  have hp : StepIn ((a', b, c), x, y, z) := hp
  have ap : 0 < a' := hp.ap
  have bp : 0 < b := hp.bp
  have cp : 0 < c := hp.cp
  have la : Lg 200 a' := hp.la
  have lb : Lg 200 b := hp.lb
  have lc : Lg 200 c := hp.lc
  have sq' : sqf c.natAbs := hp.sq
  have an : Ans3 a' b c x y z := hp.an
  have big : a' * b < z * z := hp.big
  have lz : Lg 907 z := hp.lz
  have sg := step_lg ap bp cp sq' an la lb lc lz
  obtain ⟨lx, ly⟩ := an.lg ap bp cp lc lz
  have cz : 0 < c * z := Int.mul_pos cp an.z0
  have gn := (step_ok ap bp cp sq' an big).1
  have co := an.co sq'
  dsimp only [cxOf]
  refine r_seq (r_asgG (is := [6, 7, 8]) ?_)
  walk_at "d"
  refine ⟨_, rfl, ?_⟩
  refine eg_lst rfl ?_
  dsimp only [triD, D.ints, List.map]
  walk_at "d"
  refine r_asgG (is := [9, 10, 11]) ?_
  walk_at "d"
  refine ⟨_, rfl, ?_⟩
  walk_at "d"
  show RunD K e _ [some (.v (.lst [.int a', .int b, .int c])), some (.v (.tup [.int x, .int y, .int z])), none, none, none, none, some (.v (.int a')), some (.v (.int b)), some (.v (.int c)), some (.v (.int x)), some (.v (.int y)), some (.v (.int z)), none, none, none, none, none, none, none, none, none, none] _ _ _ _ _
  refine r_asg ?_
  refine EvP.mono (?_ : EvP K _ _ _ fun s => s = Sl.v (D.int (manyC c))) ?_
  · walk_at "d"
    refine ite_dec (fun h => ?_) (fun h => ?_)
    · walk_at "d"
      show _ = _
      unfold manyC
      rw [if_pos h]
    · walk_at "d"
      show _ = _
      unfold manyC
      rw [if_neg h]
  rintro _ rfl
  show RunD K e _ [some (.v (.lst [.int a', .int b, .int c])), some (.v (.tup [.int x, .int y, .int z])), some (.v (.int (manyC c))), none, none, none, some (.v (.int a')), some (.v (.int b)), some (.v (.int c)), some (.v (.int x)), some (.v (.int y)), some (.v (.int z)), none, none, none, none, none, none, none, none, none, none] _ _ _ _ _
  walk_at "d"
  refine r_asgG (is := [12, 13]) ?_
  walk_at "d"
  refine ⟨(x, y), rfl, ⟨⟨an.x0, an.y0⟩, co, lx, ly⟩, fun d ed => ?_⟩
  subst ed
  refine ⟨_, rfl, ?_⟩
  have pa1 : Lg 1108 (parF (x, y).1 (x, y).2).1 := sg.p1
  have pa2 : Lg 1108 (parF (x, y).1 (x, y).2).2 := sg.p2
  have e1 : manyC c * (parF (x, y).1 (x, y).2).1 = wayY c x y := rfl
  have e2 : -(manyC c) * (parF (x, y).1 (x, y).2).2 = wayX c x y := rfl
  have mc : Lg 200 (manyC c) := sg.m
  generalize (parF (x, y).1 (x, y).2).1 = P1 at *
  generalize (parF (x, y).1 (x, y).2).2 = P2 at *
  walk_at "d"
  refine ⟨mulW mc pa1 (by decide), ?_⟩
  walk_at "d"
  refine ⟨mulW mc.neg pa2 (by decide), ?_⟩
  rw [e1, e2]
  generalize manyC c = MC at *
  have wx := sg.wx
  have wy := sg.wy
  have un := sg.un
  have eo : a' * x * wayX c x y + b * y * wayY c x y = overF a' b c x y := rfl
  have ov := sg.ov
  walk_at "d"
  refine ⟨_, _, rfl, ?_⟩
  show RunD K e _ [some (.v (.lst [.int a', .int b, .int c])), some (.v (.tup [.int x, .int y, .int z])), some (.v (.int MC)), none, none, none, some (.v (.int a')), some (.v (.int b)), some (.v (.int c)), some (.v (.int x)), some (.v (.int y)), some (.v (.int z)), some (.v (.int P1)), some (.v (.int P2)), some (.v (.int (wayY c x y))), some (.v (.int (wayX c x y))), none, none, none, none, none, none] _ _ _ _ _
  walk_at "d"
  refine ⟨mulW la lx (by decide), ?_⟩
  walk_at "d"
  refine ⟨mulW (la.mul lx) wx (by decide), ?_⟩
  walk_at "d"
  refine ⟨mulW lb ly (by decide), ?_⟩
  walk_at "d"
  refine ⟨mulW (lb.mul ly) wy (by decide), ?_⟩
  walk_at "d"
  refine ⟨mulW lc lz (by decide), ?_⟩
  rw [eo]
  walk_at "d"
  refine ⟨_, _, rfl, ?_⟩
  show RunD K e _ [some (.v (.lst [.int a', .int b, .int c])), some (.v (.tup [.int x, .int y, .int z])), some (.v (.int MC)), none, none, none, some (.v (.int a')), some (.v (.int b)), some (.v (.int c)), some (.v (.int x)), some (.v (.int y)), some (.v (.int z)), some (.v (.int P1)), some (.v (.int P2)), some (.v (.int (wayY c x y))), some (.v (.int (wayX c x y))), some (.v (.int (overF a' b c x y))), some (.v (.int (c * z))), none, none, none, none] _ _ _ _ _
  refine r_seq (r_via (fun ρ' M' => ∃ o18 : Option Sl, ρ' = [some (.v (.lst [.int a', .int b, .int c])), some (.v (.tup [.int x, .int y, .int z])), some (.v (.int MC)), none, none, none, some (.v (.int a')), some (.v (.int b)), some (.v (.int c)), some (.v (.int x)), some (.v (.int y)), some (.v (.int z)), some (.v (.int P1)), some (.v (.int P2)), some (.v (.int (wayY c x y))), some (.v (.int (wayX c x y))), some (.v (.int (overF a' b c x y))), some (.v (.int (c * z))), o18, some (.v (.int (wayZ a' b c x y z))), none, none] ∧ M' = []) ?_ ?_)
  · have u2 : (0 : Int) < 2 * (c * z) := by omega
    have two : Lg 2 (2 : Int) := by show Int.natAbs _ < _; decide
    have u2l := two.mul un
    refine r_if ?_
    walk_at "d"
    refine ite_dec (fun h => ?_) (fun h => ?_)
    · have ew : wayZ a' b c x y z = 2 * ((overF a' b c x y - (a' * wayX c x y + b * wayY c x y) % 2 * (c * z) + c * z) / (2 * (c * z))) + (a' * wayX c x y + b * wayY c x y) % 2 := by
        unfold wayZ
        rw [if_pos h]; rfl
      have wz := sg.wz
      walk_at "d"
      refine r_seq (r_asg ?_)
      walk_at "d"
      refine ⟨mulW la wx (by decide), ?_⟩
      walk_at "d"
      refine ⟨mulW lb wy (by decide), ?_⟩
      walk_at "d"
      rw [ew] at wz ⊢
      have o0 : 0 ≤ (a' * wayX c x y + b * wayY c x y) % 2 ∧ (a' * wayX c x y + b * wayY c x y) % 2 < 2 := by omega
      generalize (a' * wayX c x y + b * wayY c x y) % 2 = od at *
      have ol : Lg 2 od := by show Int.natAbs _ < _; omega
      have ql : Lg 2618 ((overF a' b c x y - od * (c * z) + c * z) / (2 * (c * z))) := Lg.succ (by omega) wz
      refine r_next ?_
      refine r_asg ?_
      walk_at "d"
      refine ⟨mulW ol un (by decide), ?_⟩
      walk_at "d"
      refine ⟨mulW two un (by decide), ?_⟩
      walk_at "d"
      refine ⟨divW u2 u2l (by decide), ?_⟩
      walk_at "d"
      refine ⟨mulW two ql (by decide), ?_⟩
      walk_at "d"
      exact ⟨_, rfl, rfl⟩
    · have ew : wayZ a' b c x y z = (2 * overF a' b c x y + c * z) / (2 * (c * z)) := by
        unfold wayZ
        rw [if_neg h]; rfl
      walk_at "d"
      rw [ew]
      refine r_asg ?_
      walk_at "d"
      refine ⟨mulW two ov (by decide), ?_⟩
      walk_at "d"
      refine ⟨mulW two un (by decide), ?_⟩
      walk_at "d"
      refine ⟨divW u2 u2l (by decide), ?_⟩
      walk_at "d"
      exact ⟨_, rfl, rfl⟩
  rintro ρ' M' ⟨o18, rfl, rfl⟩
  have wz := sg.wz
  have wh := sg.wh
  have bo := sg.bo
  have eW : a' * wayX c x y * wayX c x y + b * wayY c x y * wayY c x y - c * wayZ a' b c x y z * wayZ a' b c x y z = wholeF a' b c x y z := rfl
  have eB : overF a' b c x y - c * z * wayZ a' b c x y z = bothF a' b c x y z := rfl
  walk_at "d"
  refine r_asg ?_
  walk_at "d"
  refine r_asg ?_
  walk_at "d"
  refine ⟨mulW la wx (by decide), ?_⟩
  walk_at "d"
  refine ⟨mulW (la.mul wx) wx (by decide), ?_⟩
  walk_at "d"
  refine ⟨mulW lb wy (by decide), ?_⟩
  walk_at "d"
  refine ⟨mulW (lb.mul wy) wy (by decide), ?_⟩
  walk_at "d"
  refine ⟨mulW lc wz (by decide), ?_⟩
  walk_at "d"
  refine ⟨mulW (lc.mul wz) wz (by decide), ?_⟩
  walk_at "d"
  rw [eW]
  refine r_asg ?_
  walk_at "d"
  refine ⟨mulW lc lz (by decide), ?_⟩
  walk_at "d"
  refine ⟨mulW un wz (by decide), ?_⟩
  walk_at "d"
  rw [eB]
  refine ev_lcM (fun d => match d with | .tup [.raw (.int m), .raw (.int t)] => .int (absI (wholeF a' b c x y z * m - 2 * bothF a' b c x y z * t)) | _ => d) (ei_z2 ?_)
  walk_at "d"
  have two : Lg 2 (2 : Int) := by show Int.natAbs _ < _; decide
  refine ⟨_, _, _, _, rfl, .t, .t, le_lit rfl, fun i d hi => ?_, ?_⟩
  · obtain ⟨m, t, rfl, hm, ht⟩ : ∃ m t : Int, d = .tup [.int m, .int t] ∧ Lg 1107 m ∧ Lg 2617 t := by
      match i, hi with
      | 0, hi => exact ⟨_, _, (Option.some.inj hi).symm, lx, wx.le (by decide)⟩
      | 1, hi => exact ⟨_, _, (Option.some.inj hi).symm, ly, wy.le (by decide)⟩
      | 2, hi => exact ⟨_, _, (Option.some.inj hi).symm, lz.le (by decide), wz⟩
    walk_at "d"
    refine ⟨mulW wh hm (by decide), ?_⟩
    walk_at "d"
    refine ⟨mulW two bo (by decide), ?_⟩
    walk_at "d"
    refine ⟨mulW (two.mul bo) ht (by decide), ?_⟩
    walk_at "d"
    exact rfl
  · walk_at "d"
    refine ⟨(false, rowF a' b c x y z), rfl, ⟨⟨gn, le_lit rfl⟩, fun o ho => ?_⟩, fun d ed => ?_⟩
    · exact (sg.row o ho).le (by decide)
    subst ed
    exact ret_v rfl

end
section
variable {P : Program} {w : World} {K : PySem.W.Frag} {mg : Str → Option Value} {base : Heap} {a : Adr}
/-! ### the small row -/
open NT in
def plusL (a : V3) (n : Nat) : List Nat := (List.range n).filter fun i => decide (0 < at0 a i)
open NT in
def negL (a : V3) (n : Nat) : List Nat := (List.range n).filter fun i => decide (at0 a i < 0)
def otherL (t n : Nat) : List Nat := (List.range n).filter fun i => decide (i ≠ t)
open NT in
theorem third_plus {a : V3} (m : Mixed a) : ((plusL a 3).length = 1 → plusL a 3 = [thirdF a]) ∧ ((plusL a 3).length ≠ 1 → negL a 3 = [thirdF a]) := by
  obtain ⟨x, y, z⟩ := a
  obtain ⟨hx, hy, hz, hp, hn⟩ := m
  dsimp only at hx hy hz hp hn
  have r3 : List.range 3 = [0, 1, 2] := rfl
  unfold plusL negL thirdF
  rw [r3]
  simp only [List.filter_cons, List.filter_nil, at0]
  have e0 : x < 0 ↔ ¬ 0 < x := by omega
  have e1 : y < 0 ↔ ¬ 0 < y := by omega
  have e2 : z < 0 ↔ ¬ 0 < z := by omega
  by_cases c0 : 0 < x <;> by_cases c1 : 0 < y <;> by_cases c2 : 0 < z
  · exact absurd ⟨c0, c1, c2⟩ hp
  all_goals simp [e0, e1, e2, c0, c1, c2]
  omega
open NT in
theorem ok_small_row (C : Ctx K mg a) : FnAt P w K mg base CX0 4 "small_row" ["numbers", "row"] (SpP K (fun x : V3 × V3 => [.tup (D.ints [x.1.x, x.1.y, x.1.z]), .tup (D.ints [x.2.x, x.2.y, x.2.z])]) (fun x => (Mixed x.1 ∧ Lg3 200 x.1) ∧ sqf (at0 x.1 (thirdF x.1)).natAbs ∧ (ev3 x.1 x.2 = 0 ∧ gcdL [x.2.x, x.2.y, x.2.z] = 1) ∧ Lg3 907 x.2) (fun x d => d = .lst (D.ints [(smallR x.1 x.2).x, (smallR x.1 x.2).y, (smallR x.1 x.2).z]))) := by
  refine fn_at C.d_small_row sc_small_row (fun _ => rfl) fun f cdv A outer s H E hr => ⟨_, (pss_cons (ps_setLc (i := 2) (own := [("at", 8)]) (g := (gName 8)) (tt := _) rfl sc_small_row.nd rfl rfl (sw_true rfl rfl rfl (by decide +kernel)) (pi_range1 rfl C.B.range (pa_cons pe_int pa_nil)) (blkOk_by (N := n_small_row) (sc := defScope s_small_row) (by decide +kernel)) (fun _ _ _ _ _ => (pg_name (i := 8) sc_small_row.nd rfl (by first | exact Or.inl rfl | exact Or.inr rfl))) (fun _ _ _ _ _ => (pts_one (pt_cmpR op_gGt (pe_ix (ix_any (K := K)) (pv 0) (pv 8) (fun _ _ => rfl)) pe_int (nomark _)))) (fun _ _ _ _ _ => (pv 8)))
    (pss_cons (ps_set (i := 3) sc_small_row.nd rfl (by first | exact Or.inl rfl | exact Or.inr rfl) (pe_ifExp (pt_cmpR (op_gEq (K := K) (by exact hr.units)) (pe_len (K := K) C.B.len rfl (pa_cons (pv 2) pa_nil)) pe_int (nomark _)) (pe_ix (ix_any (K := K)) (pv 2) pe_int (fun _ _ => rfl)) (pe_ix (ix_any (K := K)) (pe_lc (own := [("at", 8)]) (g := (gName 8)) (tt := _) rfl sc_small_row.nd (pi_range1 rfl C.B.range (pa_cons pe_int pa_nil)) (blkOk_by (N := n_small_row) (sc := defScope s_small_row) (by decide +kernel)) (fun _ _ _ _ _ => (pg_name (i := 8) sc_small_row.nd rfl (by first | exact Or.inl rfl | exact Or.inr rfl))) (fun _ _ _ _ _ => (pts_one (pt_cmpR op_gLt (pe_ix (ix_any (K := K)) (pv 0) (pv 8) (fun _ _ => rfl)) pe_int (nomark _)))) (fun _ _ _ _ _ => (pv 8))) pe_int (fun _ _ => rfl))))
    (pss_cons (ps_set (i := 4) sc_small_row.nd rfl (by first | exact Or.inl rfl | exact Or.inr rfl) (pe_op (op_gAdd (K := K)) (pe_lc (own := [("at", 8)]) (g := (gName 8)) (tt := _) rfl sc_small_row.nd (pi_range1 rfl C.B.range (pa_cons pe_int pa_nil)) (blkOk_by (N := n_small_row) (sc := defScope s_small_row) (by decide +kernel)) (fun _ _ _ _ _ => (pg_name (i := 8) sc_small_row.nd rfl (by first | exact Or.inl rfl | exact Or.inr rfl))) (fun _ _ _ _ _ => (pts_one (pt_cmpR (op_gNe (K := K) (by exact hr.units)) (pv 8) (pv 3) (nomark _)))) (fun _ _ _ _ _ => (pv 8))) (pe_lst (pa_cons (pv 3) pa_nil))))
    (pss_cons (ps_setLc (i := 5) (own := [("at", 8)]) (g := (gName 8)) (tt := tYes) rfl sc_small_row.nd rfl rfl (sw_true rfl rfl rfl (by decide +kernel)) (pi_seq (K := K) (pv 4)) (blkOk_by (N := n_small_row) (sc := defScope s_small_row) (by decide +kernel)) (fun _ _ _ _ _ => (pg_name (i := 8) sc_small_row.nd rfl (by first | exact Or.inl rfl | exact Or.inr rfl))) (fun _ _ _ _ _ => pts_nil) (fun _ _ _ _ _ => (pe_abs C.B.abs rfl (pa_cons (pe_ix (ix_any (K := K)) (pv 0) (pv 8) (fun _ _ => rfl)) pa_nil))))
    (pss_cons (ps_set (i := 6) sc_small_row.nd rfl (by first | exact Or.inl rfl | exact Or.inr rfl) (pe_tupOf (K := K) C.B.tuple rfl (pa_cons (pe_lc (own := [("at", 8)]) (g := (gName 8)) (tt := tYes) rfl sc_small_row.nd (pi_seq (K := K) (pv 4)) (blkOk_by (N := n_small_row) (sc := defScope s_small_row) (by decide +kernel)) (fun _ _ _ _ _ => (pg_name (i := 8) sc_small_row.nd rfl (by first | exact Or.inl rfl | exact Or.inr rfl))) (fun _ _ _ _ _ => pts_nil) (fun _ _ _ _ _ => (pe_abs C.B.abs rfl (pa_cons (pe_ix (ix_any (K := K)) (pv 1) (pv 8) (fun _ _ => rfl)) pa_nil)))) pa_nil)))
    (pss_cons (ps_while PassesOwn.never (pt_cmpR op_gGt (pe_op (op_gMul (K := K)) (pe_ix (ix_any (K := K)) (pv 6) pe_int (fun _ _ => rfl)) (pe_ix (ix_any (K := K)) (pv 6) pe_int (fun _ _ => rfl))) (pe_op (op_gMul (K := K)) (pe_ix (ix_any (K := K)) (pv 5) pe_int (fun _ _ => rfl)) (pe_ix (ix_any (K := K)) (pv 5) pe_int (fun _ _ => rfl))) (nomark _))
    (pss_one (ps_set (i := 6) sc_small_row.nd rfl (by first | exact Or.inl rfl | exact Or.inr rfl) (pe_fn (ok_step_down C) (hr.mono (by omega)) rfl (pa_cons (pv 5) (pa_cons (pv 6) pa_nil))))))
    (pss_cons (ps_set (i := 7) sc_small_row.nd rfl (by first | exact Or.inl rfl | exact Or.inr rfl) (pe_lst (pa_cons pe_int (pa_cons pe_int (pa_cons pe_int pa_nil)))))
    (pss_cons (ps_for PassesOwn.never rfl (pi_zipS2 (K := K) rfl C.B.zip (pa_cons (pv 4) (pa_cons (pv 6) pa_nil))) (pg_tup rfl (pgs_cons (pg_name (i := 8) sc_small_row.nd rfl (by first | exact Or.inl rfl | exact Or.inr rfl)) (pgs_cons (pg_name (i := 9) sc_small_row.nd rfl (by first | exact Or.inl rfl | exact Or.inr rfl)) pgs_nil)))
    (pss_one (ps_asg (pv 9) (pg_sub (pv 7) (pv 8) set_list))))
    (pss_one (ps_ret (pv 7))))))))))), fun x e hp he => ?_⟩
  obtain ⟨n, r⟩ := x
  obtain ⟨⟨m, ln⟩, sq', ⟨ev, g⟩, lr⟩ := hp
  have m : Mixed n := m
  have ln : Lg3 200 n := ln
  have sq' : sqf (at0 n (thirdF n)).natAbs := sq'
  have ev : ev3 n r = 0 := ev
  have g : gcdL [r.x, r.y, r.z] = 1 := g
  have lr : Lg3 907 r := lr
  have an := at_ans m ev g
  obtain ⟨tp1, tp2⟩ := third_plus m
  have t3 := third_lt n
  have natk : ∀ {i : Nat}, i < 3 → atI (D.ints [n.x, n.y, n.z]) (i : Int) = some (.int (at0 n i)) := fun {i} hi => by
    have h3 : i = 0 ∨ i = 1 ∨ i = 2 := by omega
    rcases h3 with rfl | rfl | rfl <;> exact atI_ofN rfl
  have ratk : ∀ {i : Nat}, i < 3 → atI (D.ints [r.x, r.y, r.z]) (i : Int) = some (.int (at0 r i)) := fun {i} hi => by
    have h3 : i = 0 ∨ i = 1 ∨ i = 2 := by omega
    rcases h3 with rfl | rfl | rfl <;> exact atI_ofN rfl
  dsimp only [cxOf]
  walk_at "d"
  refine r_asg ?_
  refine ev_lc (ei_range1 ?_)
  walk_at "d"
  have ps : ∀ {i : Nat}, plusL n (i + 1) = plusL n i ++ (if 0 < at0 n i then [i] else []) := fun {i} => by
    unfold plusL
    rw [List.range_succ, List.filter_append]
    by_cases c : 0 < at0 n i <;> simp [c]
  have ns : ∀ {i : Nat}, negL n (i + 1) = negL n i ++ (if at0 n i < 0 then [i] else []) := fun {i} => by
    unfold negL
    rw [List.range_succ, List.filter_append]
    by_cases c : at0 n i < 0 <;> simp [c]
  have os : ∀ {t i : Nat}, otherL t (i + 1) = otherL t i ++ (if i ≠ t then [i] else []) := fun {t i} => by
    unfold otherL
    rw [List.range_succ, List.filter_append]
    by_cases c : i = t <;> simp [c]
  refine ⟨3, rfl, by decide, by decide, le_lit rfl, fun i acc => acc = D.ints (nI (plusL n i)), rfl, ?_, ?_⟩
  · rintro i d acc hi rfl
    obtain ⟨il, rfl⟩ := rangeD_get hi
    have il : i < 3 := il
    rw [Int.zero_add]
    walk_at "d"
    refine ⟨_, natk il, ?_⟩
    walk_at "d"
    refine ite_dec (fun h => ?_) (fun h => ?_)
    · walk_at "d"
      refine ⟨_, rfl, ?_⟩
      show _ = _
      rw [ps, if_pos h]
      simp [D.ints, nI]
    · show _ = _
      rw [ps, if_neg h, List.append_nil]
  rintro acc rfl
  have hl3 : (rangeD 0 (3 : Int).toNat).length = 3 := rfl
  rw [hl3]
  walk_at "d"
  refine r_asg ?_
  refine EvP.mono (?_ : EvP K _ _ _ fun s => s = Sl.v (D.int (thirdF n : Nat))) ?_
  · have plen : (D.ints (nI (plusL n 3))).length = (plusL n 3).length := by simp [D.ints, nI]
    walk_at "d"
    refine ite_dec (fun h => ?_) (fun h => ?_)
    · rw [plen] at h
      walk_at "d"
      rw [tp1 (by omega)]
      refine ⟨_, atI_ofN (i := 0) rfl, ?_⟩
      exact rfl
    · rw [plen] at h
      refine ev_op ?_
      refine ev_lc (ei_range1 ?_)
      walk_at "d"
      refine ⟨3, rfl, by decide, by decide, le_lit rfl, fun i acc => acc = D.ints (nI (negL n i)), rfl, ?_, ?_⟩
      · rintro i d acc hi rfl
        obtain ⟨il, rfl⟩ := rangeD_get hi
        have il : i < 3 := il
        rw [Int.zero_add]
        walk_at "d"
        refine ⟨_, natk il, ?_⟩
        walk_at "d"
        refine ite_dec (fun h => ?_) (fun h => ?_)
        · walk_at "d"
          refine ⟨_, rfl, ?_⟩
          show _ = _
          rw [ns, if_pos h]
          simp [D.ints, nI]
        · show _ = _
          rw [ns, if_neg h, List.append_nil]
      rintro acc rfl
      rw [hl3, tp2 (by omega)]
      walk_at "d"
      refine ⟨_, atI_ofN (i := 0) rfl, ?_⟩
      exact rfl
  rintro _ rfl
  have t3' : thirdF n < 3 := by omega
  have o0 : ord0 (thirdF n) < 3 := by unfold ord0; split <;> decide
  have o1 : ord1 (thirdF n) < 3 := by unfold ord1; split <;> decide
  have oL : otherL (thirdF n) 3 = [ord0 (thirdF n), ord1 (thirdF n)] := by rcases t3 with t | t | t <;> rw [t] <;> rfl
  refine r_seq (r_asg ?_)
  refine ev_op ?_
  refine ev_lc (ei_range1 ?_)
  walk_at "d"
  refine ⟨3, rfl, by decide, by decide, le_lit rfl, fun i acc => acc = D.ints (nI (otherL (thirdF n) i)), rfl, ?_, ?_⟩
  · rintro i d acc hi rfl
    obtain ⟨il, rfl⟩ := rangeD_get hi
    have il : i < 3 := il
    rw [Int.zero_add]
    walk_at "d"
    by_cases h : i = thirdF n
    · have cd : (!decide ((i : Int) = (thirdF n : Int))) = false := by simp [h]
      rw [cd]
      refine iteF ?_
      show _ = _
      rw [os, if_neg (by omega), List.append_nil]
    · have cd : (!decide ((i : Int) = (thirdF n : Int))) = true := by simp; omega
      rw [cd]
      refine iteT ?_
      walk_at "d"
      refine ⟨_, rfl, ?_⟩
      show _ = _
      rw [os, if_pos h]
      simp [D.ints, nI]
  rintro acc rfl
  rw [hl3, oL]
  walk_at "d"
  refine g_addL .v .v (le_lit rfl) ?_
  have eo : (D.ints (nI [ord0 (thirdF n), ord1 (thirdF n)]) ++ [D.int (thirdF n : Nat)]) = [D.int (ord0 (thirdF n) : Nat), D.int (ord1 (thirdF n) : Nat), D.int (thirdF n : Nat)] := rfl
  rw [eo]
  have fin : ∀ h : Int × Int × Int, ((([D.int 0, D.int 0, D.int 0].set (ord0 (thirdF n)) (.int h.1)).set (ord1 (thirdF n)) (.int h.2.1)).set (thirdF n) (.int h.2.2)) = D.ints [(placed (thirdF n) h).x, (placed (thirdF n) h).y, (placed (thirdF n) h).z] := fun h => by
    rcases t3 with t | t | t <;> rw [t] <;> rfl
  have n0 := natk o0
  have n1 := natk o1
  have n2 := natk t3'
  have r0 := ratk o0
  have r1 := ratk o1
  have r2 := ratk t3'
  have lat : ∀ {v : V3} {b i : Nat}, Lg3 b v → i < 3 → Lg b (absI (at0 v i)) := fun {v b i} h hi => by
    have h3 : i = 0 ∨ i = 1 ∨ i = 2 := by omega
    have k : Lg b (at0 v i) := by
      rcases h3 with rfl | rfl | rfl
      · exact h.1
      · exact h.2.1
      · exact h.2.2
    show Int.natAbs _ < _
    rw [absI_n]; exact k
  have la0 := lat ln o0
  have la1 := lat ln o1
  have la2 := lat ln t3'
  have lr2 := lat lr t3'
  obtain ⟨h0, h1, h2, _⟩ := m.third
  have p0 := absI_p h0
  have p1 := absI_p h1
  have p2 := absI_p h2
  have eS : smallR n r = placed (thirdF n) (smallG (absI (at0 n (ord0 (thirdF n)))) (absI (at0 n (ord1 (thirdF n)))) (absI (at0 n (thirdF n))) ((at0 r (thirdF n)).natAbs + 1) (absI (at0 r (ord0 (thirdF n))), absI (at0 r (ord1 (thirdF n))), absI (at0 r (thirdF n)))) := rfl
  rw [eS]
  generalize thirdF n = t at *
  generalize ord0 t = u at *
  generalize ord1 t = v at *
  clear eS eo oL t3
  show RunD K e _ [some (.v (.tup (D.ints [n.x, n.y, n.z]))), some (.v (.tup (D.ints [r.x, r.y, r.z]))), some (.v (.lst (D.ints (nI (plusL n 3))))), some (.v (.int (t : Nat))), some (.v (.lst [D.int (u : Nat), D.int (v : Nat), D.int (t : Nat)])), none, none, none, none, none] _ _ _ _ _
  have of : ∀ {i : Nat} {d : D}, [D.int (u : Nat), D.int (v : Nat), D.int (t : Nat)][i]? = some d → ∃ k : Nat, d = .int (k : Int) ∧ k < 3 := fun {i d} hi => by
    match i, hi with
    | 0, hi => exact ⟨u, (Option.some.inj hi).symm, o0⟩
    | 1, hi => exact ⟨v, (Option.some.inj hi).symm, o1⟩
    | 2, hi => exact ⟨t, (Option.some.inj hi).symm, t3'⟩
  walk_at "d"
  refine r_asg ?_
  refine ev_lcM (fun d => match d with | .raw (.int i) => .int (absI (at0 n i.toNat)) | _ => d) (ei_seqL ?_)
  walk_at "d"
  refine ⟨_, rfl, le_lit rfl, fun i d hi => ?_, ?_⟩
  · obtain ⟨k, rfl, hk⟩ := of hi
    walk_at "d"
    refine ⟨_, natk hk, ?_⟩
    walk_at "d"
    exact rfl
  walk_at "d"
  refine r_asg ?_
  walk_at "d"
  refine ev_lcM (fun d => match d with | .raw (.int i) => .int (absI (at0 r i.toNat)) | _ => d) (ei_seqL ?_)
  walk_at "d"
  refine ⟨_, rfl, le_lit rfl, fun i d hi => ?_, ?_⟩
  · obtain ⟨k, rfl, hk⟩ := of hi
    walk_at "d"
    refine ⟨_, ratk hk, ?_⟩
    walk_at "d"
    exact rfl
  walk_at "d"
  have eA : ([D.int (u : Nat), D.int (v : Nat), D.int (t : Nat)].map fun d => match d with | .raw (.int i) => D.int (absI (at0 n i.toNat)) | _ => d) = triD (absI (at0 n u), absI (at0 n v), absI (at0 n t)) := rfl
  have eR : ([D.int (u : Nat), D.int (v : Nat), D.int (t : Nat)].map fun d => match d with | .raw (.int i) => D.int (absI (at0 r i.toNat)) | _ => d) = triD (absI (at0 r u), absI (at0 r v), absI (at0 r t)) := rfl
  rw [eA, eR]
  have e2 : (absI (at0 r t)).natAbs + 1 = (at0 r t).natAbs + 1 := by rw [absI_n]
  have hfu : absI (at0 r t) < (((at0 r t).natAbs + 1 : Nat) : Int) := by rw [absI_eq]; omega
  have sq2 : sqf (absI (at0 n t)).natAbs := by rw [absI_n]; exact sq'
  generalize (at0 r t).natAbs + 1 = fu at *
  generalize absI (at0 n u) = A at *
  generalize absI (at0 n v) = B at *
  generalize absI (at0 n t) = D' at *
  generalize hG : smallG A B D' fu (absI (at0 r u), absI (at0 r v), absI (at0 r t)) = G
  show RunD K e _ [some (.v (.tup (D.ints [n.x, n.y, n.z]))), some (.v (.tup (D.ints [r.x, r.y, r.z]))), some (.v (.lst (D.ints (nI (plusL n 3))))), some (.v (.int (t : Nat))), some (.v (.lst [D.int (u : Nat), D.int (v : Nat), D.int (t : Nat)])), some (.v (.lst (triD (A, B, D')))), some (.v (.tup (triD (absI (at0 r u), absI (at0 r v), absI (at0 r t))))), none, none, none] _ _ _ _ _
  refine r_while ⟨fun m ρ M => ∃ (k : Nat) (h : Int × Int × Int), ρ = [some (.v (.tup (D.ints [n.x, n.y, n.z]))), some (.v (.tup (D.ints [r.x, r.y, r.z]))), some (.v (.lst (D.ints (nI (plusL n 3))))), some (.v (.int (t : Nat))), some (.v (.lst [D.int (u : Nat), D.int (v : Nat), D.int (t : Nat)])), some (.v (.lst (triD (A, B, D')))), some (.v (.tup (triD h))), none, none, none] ∧ M = [] ∧ Ans3 A B D' h.1 h.2.1 h.2.2 ∧ Lg 907 h.2.2 ∧ h.2.2 < (k : Int) ∧ smallG A B D' k h = G ∧ m = k,
    ⟨_, fu, (absI (at0 r u), absI (at0 r v), absI (at0 r t)), rfl, rfl, an, lr2, hfu, hG, rfl⟩, ?_⟩
  clear hG hfu e2 lr2 an
  rintro mm ρ M ⟨k, h, rfl, rfl, an, lz, hk, hG, rfl⟩
  have z0 := an.z0
  obtain ⟨k, rfl⟩ : ∃ k, mm = k + 1 := ⟨mm - 1, by omega⟩
  rw [smallG] at hG
  walk_at "d"
  refine ⟨_, atI_ofN (i := 2) rfl, ?_⟩
  walk_at "d"
  refine ⟨_, atI_ofN (i := 2) rfl, ?_⟩
  walk_at "d"
  refine ⟨mulW lz lz (by decide), ?_⟩
  walk_at "d"
  refine ⟨_, atI_ofN (i := 0) rfl, ?_⟩
  walk_at "d"
  refine ⟨_, atI_ofN (i := 1) rfl, ?_⟩
  walk_at "d"
  refine ⟨mulW la0 la1 (by decide), ?_⟩
  walk_at "d"
  refine ite_dec (fun big => ?_) (fun big => ?_)
  · have big : A * B < h.2.2 * h.2.2 := big
    rw [if_pos big] at hG
    obtain ⟨_, q1, q2⟩ := step_ok p0 p1 p2 sq2 an big
    have q1 : Ans3 A B D' (stepF A B D' h).1 (stepF A B D' h).2.1 (stepF A B D' h).2.2 := q1
    have q2 : (stepF A B D' h).2.2 < h.2.2 := q2
    have q3 := q1.z0
    walk_at "d"
    refine r_asg ?_
    walk_at "d"
    refine ⟨((A, B, D'), h), rfl, ⟨p0, p1, p2, la0, la1, la2, sq2, an, big, lz⟩, fun d ed => ?_⟩
    subst ed
    have lz' : Lg 907 (stepF A B D' h).2.2 := by
      have lz : h.2.2.natAbs < 2 ^ 907 := lz
      show Int.natAbs _ < _
      omega
    exact ⟨k, Nat.lt_succ_self k, k, stepF A B D' h, rfl, rfl, q1, lz', by omega, hG, rfl⟩
  · rw [if_neg big] at hG
    subst hG
    have fh := fin h
    walk_at "d"
    refine r_newL ?_
    walk_at "d"
    refine r_seq (r_for [8, 9] ?_)
    refine ei_z2 ?_
    walk_at "d"
    refine ⟨_, _, _, _, rfl, .l, .t, ?_⟩
    refine ⟨fun i ρ M => ∃ (o8 o9 : Option Sl), ρ = [some (.v (.tup (D.ints [n.x, n.y, n.z]))), some (.v (.tup (D.ints [r.x, r.y, r.z]))), some (.v (.lst (D.ints (nI (plusL n 3))))), some (.v (.int (t : Nat))), some (.v (.lst [D.int (u : Nat), D.int (v : Nat), D.int (t : Nat)])), some (.v (.lst (triD (A, B, D')))), some (.v (.tup (triD h))), some (.l 0), o8, o9] ∧ M = [.lst (match i with | 0 => [D.int 0, D.int 0, D.int 0] | 1 => [D.int 0, D.int 0, D.int 0].set u (.int h.1) | 2 => ([D.int 0, D.int 0, D.int 0].set u (.int h.1)).set v (.int h.2.1) | _ => (([D.int 0, D.int 0, D.int 0].set u (.int h.1)).set v (.int h.2.1)).set t (.int h.2.2))], ⟨_, _, rfl, rfl⟩, ?_, ?_⟩
    · rintro i d ρ M hi ⟨o8, o9, rfl, rfl⟩
      match i, hi with
      | 0, hi =>
        cases (Option.some.inj hi)
        walk_at "d"
        refine r_setL (k := 0) rfl rfl ?_
        walk_at "d"
        refine ⟨_, _, u, rfl, rfl, ixN_nat o0, ?_⟩
        exact ⟨_, _, rfl, rfl⟩
      | 1, hi =>
        cases (Option.some.inj hi)
        walk_at "d"
        refine r_setL (k := 0) rfl rfl ?_
        walk_at "d"
        refine ⟨_, _, v, rfl, rfl, ?_, ?_⟩
        · exact ixN_nat (show v < ([D.int 0, D.int 0, D.int 0].set u (.int h.1)).length by rw [List.length_set]; exact o1)
        exact ⟨_, _, rfl, rfl⟩
      | 2, hi =>
        cases (Option.some.inj hi)
        walk_at "d"
        refine r_setL (k := 0) rfl rfl ?_
        walk_at "d"
        refine ⟨_, _, t, rfl, rfl, ?_, ?_⟩
        · exact ixN_nat (show t < (([D.int 0, D.int 0, D.int 0].set u (.int h.1)).set v (.int h.2.1)).length by rw [List.length_set, List.length_set]; exact t3')
        exact ⟨_, _, rfl, rfl⟩
    · rintro ρ M ⟨o8, o9, rfl, rfl⟩
      refine r_freeze 7 0 rfl rfl (by have : e.α.length = 0 := he; omega) ?_
      refine r_next ?_
      walk_at "d"
      refine ret_v ?_
      rw [← fh]
      rfl

end
section
variable {P : Program} {w : World} {K : PySem.W.Frag} {mg : Str → Option Value} {base : Heap} {a : Adr}
/-! ### the places that bar a form of three -/
structure NmOf (v0 v1 v2 : List Int) (x : NV) : Prop where
  nm : Nm v0 v1 v2 x.B0 x.B1 x.B2 x.u0 x.u1 x.u2 x.r0 x.r1 x.r2
  s0 : x.s0 = sgn (prodL v0)
  s1 : x.s1 = sgn (prodL v1)
  s2 : x.s2 = sgn (prodL v2)
theorem bars_dis {a b c : Nat} {x y : List Nat} (hx : Bars a b c x) (hy : Bars b a c y) : ∀ p, p ∈ x → p ∉ y := fun p h1 h2 => by
  have q1 := ((hx.mem p).mp h1).2
  have q2 := ((hy.mem p).mp h2).2
  unfold brb at q1 q2
  cases ha : ob a p <;> cases hb : ob b p <;> cases hc : ob c p <;> simp [ha, hb, hc] at q1 q2
theorem NmOf.fine {v0 v1 v2 : List Int} (w0 : Wt v0) (w1 : Wt v1) (w2 : Wt v2) {x : NV} (ok : x.Ok) (h : NmOf v0 v1 v2 x) : x.Fine := by
  have b0 := h.nm.b0
  have b1 := h.nm.b1
  have b2 := h.nm.b2
  have bit : ∀ {s : Int} {B : List Nat} {A : Int}, (s = 1 ∨ s = -1) → A = s * prodL (nI B) → B.prod < 2 ^ 200 → A.natAbs < 2 ^ 200 := fun {s B A} hs e hb => by
    rw [e, prodL_nI, Int.natAbs_mul]
    rcases hs with h | h <;> rw [h] <;> simpa using hb
  exact ⟨ok, bit ok.s0 rfl (b0.le w0 w1), bit ok.s1 rfl (b1.le w1 w0), bit ok.s2 rfl (b2.le w2 w0), NT.asc_nodup b0.asc, NT.asc_nodup b1.asc, NT.asc_nodup b2.asc, b0.pr, b1.pr, b2.pr, bars_dis b0 b1, bars_dis b0.swap b2, bars_dis b1.swap b2.swap⟩
/-- L are the places that bar three weights -/
def BadL (v0 v1 v2 : List Int) (L : List Nat) : Prop := ∃ x : NV, x.Fine ∧ NmOf v0 v1 v2 x ∧ L.Pairwise (· < ·) ∧ ∀ p, p ∈ L ↔ x.Bad p
theorem ok_four_no (C : Ctx K mg a) : FnAt P w K mg base CX0 1 "four_bars" ["rows"] (SpP K (fun _ : Unit => [.non]) (fun _ => False) (fun _ _ => True)) := fn_never C.d_four_bars fun _ h => h
theorem ok_bad_places (C : Ctx K mg a) : FnAt P w K mg base CX0 6 "bad_places" ["form"] (SpP K (fun x : List Int × List Int × List Int => [fm a.Form [x.1, x.2.1, x.2.2]]) (fun x => Wt x.1 ∧ Wt x.2.1 ∧ Wt x.2.2) (fun v d => ∃ L, d = lI L ∧ BadL v.1 v.2.1 v.2.2 L)) := by
  refine fn_at C.d_bad_places sc_bad_places (fun _ => rfl) fun f cdv A outer s H E hr => ⟨_, (pss_one (ps_ret (pe_ifExp (pt_cmpR (op_gEq (K := K) (by exact hr.units)) (pe_len (K := K) C.B.len rfl (pa_cons (pe_at (K := K) (pv 0)) pa_nil)) pe_int (nomark _)) (pe_fn (ok_bars_of C) (hr.mono (by omega)) rfl (pa_cons (pe_new (ok_Normal C) (hr.mono (by omega)) rfl (pa_cons (pe_at (K := K) (pv 0)) pa_nil)) pa_nil)) (pe_fn (ok_four_no C) (hr.mono (by omega)) rfl (pa_cons (pe_at (K := K) (pv 0)) pa_nil))))), fun x e hp he => ?_⟩
  obtain ⟨v0, v1, v2⟩ := x
  obtain ⟨w0, w1, w2⟩ := hp
  dsimp only [cxOf]
  refine r_ret ?_
  refine ev_if ?_
  refine et_test (ev_op (ev_cb (ea_cons (ev_at ?_))))
  walk_at "d"
  refine ⟨_, _, _, rfl, C.k_Form.cl, C.n_Form_rows, _, _, rfl, rfl, ?_⟩
  walk_at "d"
  refine iteT ?_
  walk_at "d"
  refine ec_new ?_
  refine ea_cons (ev_at ?_)
  walk_at "d"
  refine ⟨_, _, _, rfl, C.k_Form.cl, C.n_Form_rows, _, _, rfl, rfl, ?_⟩
  walk_at "d"
  refine ⟨(v0, v1, v2), rfl, ⟨w0, w1, w2⟩, fun ds hds => ?_⟩
  obtain ⟨x, ex, hx, nm, s0, s1, s2⟩ := NmD.nv (C := a.Normal) w0 w1 w2 hds
  rw [ex]
  have no : NmOf v0 v1 v2 x := ⟨nm, s0, s1, s2⟩
  have fi := no.fine w0 w1 w2 hx
  walk_at "d"
  refine ⟨x, rfl, fi, ?_⟩
  rintro _ ⟨L, rfl, asc, hL⟩
  exact ret_v ⟨L, rfl, x, fi, no, asc, hL⟩
theorem eqv_nil (L : List Nat) : (lI L).eqv (.lst []) = decide (L = []) := by
  cases L with
  | nil => rfl
  | cons p L => rfl
theorem frm3 {v0 v1 v2 : List Int} (w0 : Wt v0) (w1 : Wt v1) (w2 : Wt v2) : Frm [v0, v1, v2] := ⟨.inl rfl, fun n hn => by
  simp only [List.mem_cons, List.not_mem_nil, or_false] at hn
  rcases hn with rfl | rfl | rfl <;> assumption⟩
theorem ec_form3 {ta : TA} {X : XK} {ρ : Rho} {M : List MO} {Q : Sl → Prop} {C : Addr} (h : EvA K ta ρ M fun ss => ∃ v0 v1 v2, ss = [.v (.tup [wt v0, wt v1, wt v2])] ∧ (Wt v0 ∧ Wt v1 ∧ Wt v2) ∧ Q (.v (fm C [v0, v1, v2]))) :
    EvP K (tMake C (SpI K C (fun ws : List (List Int) => [.tup (ws.map wt)]) Frm ["rows", "sums"] (fun ws ds => ds = [.tup (ws.map wt), .tup (D.ints (ws.map prodL))])) [] X ta) ρ M Q := by
  refine ec_new fun σ α F H en S k kk => h σ α F H en S k fun vs F' H' ss m S' o ⟨v0, v1, v2, e, ⟨w0, w1, w2⟩, q⟩ => kk vs F' H' ss m S' o ⟨[v0, v1, v2], e, frm3 w0 w1 w2, fun ds hd => ?_⟩
  subst hd
  exact q
theorem Wt.take2 {v : List Int} (h : Wt v) : Wt (v.take 2) := ⟨by have := h.lo; rw [List.length_take]; omega, by have := h.hi; rw [List.length_take]; omega, fun n hn => h.p n (List.mem_of_mem_take hn)⟩
theorem ints_inj : ∀ {v u : List Int}, D.ints v = D.ints u → v = u
  | [], [], _ => rfl
  | [], _ :: _, h => by cases h
  | _ :: _, [], h => by cases h
  | n :: v, m :: u, h => by
    have h := List.cons.inj h
    rw [ints_inj h.2, V.int.inj (D.raw.inj h.1)]
theorem wt_inj {v u : List Int} (h : wt v = wt u) : v = u := ints_inj (D.tup.inj h)
theorem cut2 {v : List Int} : cutD (D.ints v) none (some 2) = D.ints (v.take 2) := by
  unfold cutD HT.sIx
  simp only [show ¬ (2 : Int) < 0 by decide, if_false, List.drop_zero, Nat.sub_zero]
  rw [D.ints, D.ints, List.map_take, List.length_map]
  show List.take (min 2 v.length) _ = _
  by_cases h : 2 ≤ v.length
  · rw [Nat.min_eq_left h]
  · rw [Nat.min_eq_right (by omega), List.take_of_length_le (by simp), List.take_of_length_le (by simp; omega)]

end
section
variable {P : Program} {w : World} {K : PySem.W.Frag} {mg : Str → Option Value} {base : Heap} {a : Adr}
/-! ### an answer brought back -/
open NT in
theorem back_key {N0 N1 N2 : Nat} (p0 : 0 < N0) (p1 : 0 < N1) {B0 B1 : List Nat} {u0 u1 r0 r1 r2 : Nat} (b0 : Bars N0 N1 N2 B0) (b1 : Bars N1 N0 N2 B1) (h0 : UpOk N0 N1 N2 u0) (h1 : UpOk N1 N0 N2 u1) (k0 : RtOk N0 r0) (k1 : RtOk N1 r1) (k2 : 0 < r2) :
    N0 * (u0 * (r1 * r2) * (u0 * (r1 * r2))) * B1.prod = N1 * (u1 * (r0 * r2) * (u1 * (r0 * r2))) * B0.prod := by
  have nd0 := asc_nodup b0.asc
  have nd1 := asc_nodup b1.asc
  have pr0 := b0.pr
  have pr1 := b1.pr
  have q0 := prod_pos _ pr0
  have q1 := prod_pos _ pr1
  have c0 : 0 < u0 * (r1 * r2) := Nat.mul_pos h0.1 (Nat.mul_pos k1.1 k2)
  have c1 : 0 < u1 * (r0 * r2) := Nat.mul_pos h1.1 (Nat.mul_pos k0.1 k2)
  have cc0 := Nat.mul_pos c0 c0
  have cc1 := Nat.mul_pos c1 c1
  refine eq_of_vp _ _ (Nat.mul_pos (Nat.mul_pos p0 cc0) q1) (Nat.mul_pos (Nat.mul_pos p1 cc1) q0) fun q hq => ?_
  rw [vp_mul hq (Nat.mul_pos p0 cc0) q1, vp_mul hq p0 cc0, vp_mul hq c0 c0, vp_mul hq h0.1 (Nat.mul_pos k1.1 k2), vp_mul hq k1.1 k2]
  rw [vp_mul hq (Nat.mul_pos p1 cc1) q0, vp_mul hq p1 cc1, vp_mul hq c1 c1, vp_mul hq h1.1 (Nat.mul_pos k0.1 k2), vp_mul hq k0.1 k2]
  rw [vp_prod hq _ nd0 pr0, vp_prod hq _ nd1 pr1, h0.2 q hq, h1.2 q hq, k0.2 q hq, k1.2 q hq]
  have m0 : q ∈ B0 ↔ brb N0 N1 N2 q = true := ⟨fun h => ((b0.mem q).mp h).2, fun h => (b0.mem q).mpr ⟨hq, h⟩⟩
  have m1 : q ∈ B1 ↔ brb N1 N0 N2 q = true := ⟨fun h => ((b1.mem q).mp h).2, fun h => (b1.mem q).mpr ⟨hq, h⟩⟩
  have e0 : ob N0 q = decide (vp q N0 % 2 = 1) := rfl
  have e1 : ob N1 q = decide (vp q N1 % 2 = 1) := rfl
  have d0 : vp q N0 = 2 * (vp q N0 / 2) + (if ob N0 q = true then 1 else 0) := by
    rw [e0]; by_cases c : vp q N0 % 2 = 1
    · rw [if_pos (decide_eq_true c)]; omega
    · rw [if_neg (by rw [decide_eq_true_eq]; exact c)]; omega
  have d1 : vp q N1 = 2 * (vp q N1 / 2) + (if ob N1 q = true then 1 else 0) := by
    rw [e1]; by_cases c : vp q N1 % 2 = 1
    · rw [if_pos (decide_eq_true c)]; omega
    · rw [if_neg (by rw [decide_eq_true_eq]; exact c)]; omega
  have g0 : (if q ∈ B0 then 1 else 0) = if brb N0 N1 N2 q = true then 1 else 0 := by simp only [m0]
  have g1 : (if q ∈ B1 then 1 else 0) = if brb N1 N0 N2 q = true then 1 else 0 := by simp only [m1]
  rw [g0, g1]
  unfold brb upb
  generalize vp q N0 / 2 = x at *
  generalize vp q N1 / 2 = y at *
  generalize vp q r2 = z at *
  rw [d0, d1]
  clear d0 d1 g0 g1 m0 m1 e0 e1
  cases ob N0 q <;> cases ob N1 q <;> cases ob N2 q <;> simp <;> omega
/-- the numbers by which a row is multiplied -/
structure Backs (x : NV) : Prop where
  b0 : x.u0 * (x.r1 * x.r2) < 2 ^ 400
  b1 : x.u1 * (x.r0 * x.r2) < 2 ^ 400
  b2 : x.u2 * (x.r0 * x.r1) < 2 ^ 400
def NV.back (x : NV) (u : NT.V3) : NT.V3 := ⟨u.x * ((x.u0 * (x.r1 * x.r2) : Nat) : Int), u.y * ((x.u1 * (x.r0 * x.r2) : Nat) : Int), u.z * ((x.u2 * (x.r0 * x.r1) : Nat) : Int)⟩
theorem UpOk.swap {a b c u : Nat} (h : UpOk a b c u) : UpOk a c b u := ⟨h.1, fun q hq => by
  rw [h.2 q hq]
  have : upb a b c q = upb a c b q := by unfold upb; cases ob a q <;> cases ob b q <;> cases ob c q <;> rfl
  rw [this]⟩
open NT in
theorem back_alg {s0 s1 s2 w0 w1 w2 : Int} {N0 N1 N2 P0 P1 P2 c0 c1 c2 : Nat} (p : 0 < P0) (k1 : N0 * (c0 * c0) * P1 = N1 * (c1 * c1) * P0) (k2 : N0 * (c0 * c0) * P2 = N2 * (c2 * c2) * P0) (e : s0 * P0 * w0 * w0 + s1 * P1 * w1 * w1 + s2 * P2 * w2 * w2 = 0) :
    s0 * N0 * (w0 * c0) * (w0 * c0) + s1 * N1 * (w1 * c1) * (w1 * c1) + s2 * N2 * (w2 * c2) * (w2 * c2) = 0 := by
  have K1 : (N0 : Int) * (c0 * c0) * P1 = N1 * (c1 * c1) * P0 := by exact_mod_cast k1
  have K2 : (N0 : Int) * (c0 * c0) * P2 = N2 * (c2 * c2) * P0 := by exact_mod_cast k2
  have p : (0 : Int) < P0 := by exact_mod_cast p
  have e1 : (P0 : Int) * (s0 * N0 * (w0 * c0) * (w0 * c0) + s1 * N1 * (w1 * c1) * (w1 * c1) + s2 * N2 * (w2 * c2) * (w2 * c2)) = s0 * w0 * w0 * (N0 * (c0 * c0) * P0) + s1 * w1 * w1 * (N1 * (c1 * c1) * P0) + s2 * w2 * w2 * (N2 * (c2 * c2) * P0) := by grind
  have e2 : s0 * w0 * w0 * (N0 * (c0 * c0) * P0) + s1 * w1 * w1 * (N0 * (c0 * c0) * P1) + s2 * w2 * w2 * (N0 * (c0 * c0) * P2) = (N0 : Int) * (c0 * c0) * (s0 * P0 * w0 * w0 + s1 * P1 * w1 * w1 + s2 * P2 * w2 * w2) := by grind
  rw [← K1, ← K2, e2, e, Int.mul_zero] at e1
  rcases Int.mul_eq_zero.mp e1 with h | h
  · omega
  · exact h
theorem sgn_nP (v : List Int) : prodL v = sgn (prodL v) * (nP v : Int) := by
  show prodL v = sgn (prodL v) * ((prodL v).natAbs : Int)
  unfold sgn
  split <;> omega
open NT in
theorem back_zero {v0 v1 v2 : List Int} (w0 : Wt v0) (w1 : Wt v1) (w2 : Wt v2) {x : NV} (fx : x.Fine) (h : NmOf v0 v1 v2 x) {u : V3} (e : ev3 x.a3 u = 0) : ev3 ⟨prodL v0, prodL v1, prodL v2⟩ (x.back u) = 0 := by
  have nm := h.nm
  have k1 := back_key w0.pos w1.pos nm.b0 nm.b1 nm.u0 nm.u1 nm.r0 nm.r1 nm.r2.1
  have k2 := back_key w0.pos w2.pos nm.b0.swap nm.b2 nm.u0.swap nm.u2 nm.r0 nm.r2 nm.r1.1
  rw [Nat.mul_comm x.r2 x.r1] at k2
  have p := prod_pos _ fx.p0
  have e : x.s0 * prodL (nI x.B0) * u.x * u.x + x.s1 * prodL (nI x.B1) * u.y * u.y + x.s2 * prodL (nI x.B2) * u.z * u.z = 0 := e
  rw [prodL_nI, prodL_nI, prodL_nI] at e
  have r := back_alg p k1 k2 e
  show prodL v0 * _ * _ + prodL v1 * _ * _ + prodL v2 * _ * _ = 0
  rw [sgn_nP v0, sgn_nP v1, sgn_nP v2, ← h.s0, ← h.s1, ← h.s2]
  exact r
open NT in
theorem rt_le {n r : Nat} (p : 0 < n) (h : RtOk n r) : r ≤ n := Nat.le_of_dvd p (dvd_of_vp _ _ h.1 p fun q hq => by rw [h.2 q hq]; omega)
open NT in
theorem up_le {a b c u : Nat} (p : 0 < b) (h : UpOk a b c u) : u ≤ b := Nat.le_of_dvd p (dvd_of_vp _ _ h.1 p fun q hq => by
  rw [h.2 q hq]
  unfold upb ob
  by_cases z : vp q b % 2 = 1
  · split <;> omega
  · simp [z])
theorem NmOf.backs {v0 v1 v2 : List Int} (w0 : Wt v0) (w1 : Wt v1) (w2 : Wt v2) {x : NV} (h : NmOf v0 v1 v2 x) : (x.u0 < 2 ^ 100 ∧ x.u1 < 2 ^ 100 ∧ x.u2 < 2 ^ 100) ∧ x.r0 < 2 ^ 100 ∧ x.r1 < 2 ^ 100 ∧ x.r2 < 2 ^ 100 := by
  have nm := h.nm
  have k : (10 : Nat) ^ 30 < 2 ^ 100 := by decide
  have l0 := Nat.lt_of_le_of_lt w0.le30 k
  have l1 := Nat.lt_of_le_of_lt w1.le30 k
  have l2 := Nat.lt_of_le_of_lt w2.le30 k
  exact ⟨⟨Nat.lt_of_le_of_lt (up_le w1.pos nm.u0) l1, Nat.lt_of_le_of_lt (up_le w0.pos nm.u1) l0, Nat.lt_of_le_of_lt (up_le w0.pos nm.u2) l0⟩, Nat.lt_of_le_of_lt (rt_le w0.pos nm.r0) l0, Nat.lt_of_le_of_lt (rt_le w1.pos nm.r1) l1, Nat.lt_of_le_of_lt (rt_le w2.pos nm.r2) l2⟩
structure NV.Bks (x : NV) : Prop where
  u0 : x.u0 < 2 ^ 100
  u1 : x.u1 < 2 ^ 100
  u2 : x.u2 < 2 ^ 100
  r0 : x.r0 < 2 ^ 100
  r1 : x.r1 < 2 ^ 100
  r2 : x.r2 < 2 ^ 100
  p0 : 0 < x.r0
  p1 : 0 < x.r1
  p2 : 0 < x.r2
open NT in
theorem ok_Normal_back (C : Ctx K mg a) : MFnAt P w K mg base 2 a.Normal "back" ["self", "row"] (SpP K (fun x : NV × V3 => [nmD a.Normal x.1, .lst (D.ints [x.2.x, x.2.y, x.2.z])]) (fun x => x.1.Bks ∧ Lg3 400 x.2) (fun x d => d = .lst (D.ints [(x.1.back x.2).x, (x.1.back x.2).y, (x.1.back x.2).z]))) := by
  refine mfn_at C.e_Normal_back sc_Normal_back (fun _ => rfl) fun f cdv A outer s H E hr => ⟨_, (pss_cons (ps_set (i := 2) sc_Normal_back.nd rfl (by first | exact Or.inl rfl | exact Or.inr rfl) (pe_fn (ok_product C) (hr.mono (by omega)) rfl (pa_cons (pe_at (K := K) (pv 0)) pa_nil)))
    (pss_one (ps_ret (pe_lc (own := [("one", 3), ("up", 4), ("down", 5)]) (g := (gTup _ 3 (gCons (gName 3) (gCons (gName 4) (gCons (gName 5) gNil))))) (tt := tYes) rfl sc_Normal_back.nd (pi_zipS3 (K := K) rfl C.B.zip (pa_cons (pv 1) (pa_cons (pe_at (K := K) (pv 0)) (pa_cons (pe_at (K := K) (pv 0)) pa_nil)))) (blkOk_by (N := n_Normal_back) (sc := defScope s_Normal_back) (by decide +kernel)) (fun _ _ _ _ _ => (pg_tup rfl (pgs_cons (pg_name (i := 3) sc_Normal_back.nd rfl (by first | exact Or.inl rfl | exact Or.inr rfl)) (pgs_cons (pg_name (i := 4) sc_Normal_back.nd rfl (by first | exact Or.inl rfl | exact Or.inr rfl)) (pgs_cons (pg_name (i := 5) sc_Normal_back.nd rfl (by first | exact Or.inl rfl | exact Or.inr rfl)) pgs_nil))))) (fun _ _ _ _ _ => pts_nil) (fun _ _ _ _ _ => (pe_op (op_gMul (K := K)) (pe_op (op_gMul (K := K)) (pv 3) (pv 4)) (pe_op op_gDiv (pv 2) (pv 5)))))))), fun x e hp he => ?_⟩
  obtain ⟨x, u⟩ := x
  obtain ⟨bk, lu⟩ := hp
  have bk : x.Bks := bk
  have lu : Lg3 400 u := lu
  dsimp only [cxOf]
  have eD : lI [x.r0, x.r1, x.r2] = .lst (D.ints [(x.r0 : Int), (x.r1 : Int), (x.r2 : Int)]) := rfl
  have eU : lI [x.u0, x.u1, x.u2] = .lst (D.ints [(x.u0 : Int), (x.u1 : Int), (x.u2 : Int)]) := rfl
  have nb : ∀ {n : Nat} {b : Nat}, n < 2 ^ b → Lg b (n : Int) := fun h => by show Int.natAbs _ < _; rw [Int.natAbs_natCast]; exact h
  have lr0 := nb bk.r0
  have lr1 := nb bk.r1
  have lr2 := nb bk.r2
  have lu0 := nb bk.u0
  have lu1 := nb bk.u1
  have lu2 := nb bk.u2
  have q0 := bk.p0
  have q1 := bk.p1
  have q2 := bk.p2
  have pe : prodL [(x.r0 : Int), (x.r1 : Int), (x.r2 : Int)] = ((x.r0 * x.r1 * x.r2 : Nat) : Int) := by
    show 1 * (x.r0 : Int) * x.r1 * x.r2 = _
    rw [Int.one_mul]; push_cast; rfl
  have d0 : ((x.r0 * x.r1 * x.r2 : Nat) : Int) / (x.r0 : Int) = ((x.r1 * x.r2 : Nat) : Int) := by
    rw [← Int.natCast_ediv, Nat.mul_assoc, Nat.mul_div_cancel_left _ q0]
  have d1 : ((x.r0 * x.r1 * x.r2 : Nat) : Int) / (x.r1 : Int) = ((x.r0 * x.r2 : Nat) : Int) := by
    have : x.r0 * x.r1 * x.r2 = x.r1 * (x.r0 * x.r2) := by rw [Nat.mul_comm x.r0, Nat.mul_assoc]
    rw [← Int.natCast_ediv, this, Nat.mul_div_cancel_left _ q1]
  have d2 : ((x.r0 * x.r1 * x.r2 : Nat) : Int) / (x.r2 : Int) = ((x.r0 * x.r1 : Nat) : Int) := by
    rw [← Int.natCast_ediv, Nat.mul_div_cancel _ q2]
  have m0 : Lg 200 (((x.r1 * x.r2 : Nat) : Int)) := by push_cast; exact (lr1.mul lr2).le (by decide)
  have m1 : Lg 200 (((x.r0 * x.r2 : Nat) : Int)) := by push_cast; exact (lr0.mul lr2).le (by decide)
  have m2 : Lg 200 (((x.r0 * x.r1 : Nat) : Int)) := by push_cast; exact (lr0.mul lr1).le (by decide)
  walk_at "d"
  refine r_asg ?_
  walk_at "d"
  refine ev_at ?_
  walk_at "d"
  refine ⟨_, _, _, rfl, C.k_Normal.cl, C.n_Normal_downs, _, _, rfl, rfl, ?_⟩
  walk_at "d"
  refine ⟨(false, [(x.r0 : Int), (x.r1 : Int), (x.r2 : Int)]), rfl, ⟨le_lit rfl, fun n hn => ?_⟩, fun d ed => ?_⟩
  · simp only [List.mem_cons, List.not_mem_nil, or_false] at hn
    rcases hn with rfl | rfl | rfl
    · exact bit_le lr0 (by decide)
    · exact bit_le lr1 (by decide)
    · exact bit_le lr2 (by decide)
  subst ed
  dsimp only
  rw [pe]
  generalize hW : ((x.r0 * x.r1 * x.r2 : Nat) : Int) = W at *
  walk_at "d"
  refine ev_lcM (fun d => match d with | .tup [.raw (.int m), .raw (.int u), .raw (.int r)] => .int (m * u * (W / r)) | _ => d) (ei_z3 ?_)
  walk_at "d"
  refine ev_at ?_
  walk_at "d"
  refine ⟨_, _, _, rfl, C.k_Normal.cl, C.n_Normal_ups, _, _, rfl, rfl, ?_⟩
  walk_at "d"
  refine ev_at ?_
  walk_at "d"
  refine ⟨_, _, _, rfl, C.k_Normal.cl, C.n_Normal_downs, _, _, rfl, rfl, ?_⟩
  walk_at "d"
  refine ⟨_, _, _, _, _, _, rfl, .l, .l, .l, le_lit rfl, fun i d hi => ?_, ?_⟩
  · obtain ⟨m, q, r, rfl, lm, lq, r0, lr, lw⟩ : ∃ (m : Int) (q r : Nat), d = .tup [.int m, .int (q : Int), .int (r : Int)] ∧ Lg 400 m ∧ Lg 100 (q : Int) ∧ 0 < r ∧ Lg 100 (r : Int) ∧ Lg 200 (W / (r : Int)) := by
      match i, hi with
      | 0, hi => exact ⟨_, _, _, (Option.some.inj hi).symm, lu.1, lu0, q0, lr0, by rw [d0]; exact m0⟩
      | 1, hi => exact ⟨_, _, _, (Option.some.inj hi).symm, lu.2.1, lu1, q1, lr1, by rw [d1]; exact m1⟩
      | 2, hi => exact ⟨_, _, _, (Option.some.inj hi).symm, lu.2.2, lu2, q2, lr2, by rw [d2]; exact m2⟩
    walk_at "d"
    refine ⟨mulW lm lq (by decide), ?_⟩
    walk_at "d"
    refine ⟨divW (by omega) lr (by decide), ?_⟩
    walk_at "d"
    refine ⟨mulW (lm.mul lq) lw (by decide), ?_⟩
    walk_at "d"
    exact rfl
  · walk_at "d"
    refine ret_v ?_
    show D.lst [D.int (u.x * (x.u0 : Int) * (W / (x.r0 : Int))), D.int (u.y * (x.u1 : Int) * (W / (x.r1 : Int))), D.int (u.z * (x.u2 : Int) * (W / (x.r2 : Int)))] = D.lst [D.int (u.x * ((x.u0 * (x.r1 * x.r2) : Nat) : Int)), D.int (u.y * ((x.u1 * (x.r0 * x.r2) : Nat) : Int)), D.int (u.z * ((x.u2 * (x.r0 * x.r1) : Nat) : Int))]
    rw [d0, d1, d2, Int.natCast_mul x.u0, Int.natCast_mul x.u1, Int.natCast_mul x.u2, Int.mul_assoc, Int.mul_assoc, Int.mul_assoc]

end
section
variable {P : Program} {w : World} {K : PySem.W.Frag} {mg : Str → Option Value} {base : Heap} {a : Adr}
theorem ok_check_three (C : Ctx K mg a) : FnAt P w K mg base CX0 1 "check_three" ["form"] (SpP K (fun ws : List (List Int) => [fm a.Form ws]) (fun ws => ws.length = 3) (fun _ d => d = .non)) := by
  refine fn_at C.d_check_three sc_check_three (fun _ => rfl) fun f cdv A outer s H E hr => ⟨_, (pss_one (ps_if (pt_cmpR (op_gNe (K := K) (by exact hr.units)) (pe_len (K := K) C.B.len rfl (pa_cons (pe_at (K := K) (pv 0)) pa_nil)) pe_int (nomark _))
    (pss_one ps_never)
    pss_nil)), fun ws e hp he => ?_⟩
  have hp : ws.length = 3 := hp
  dsimp only [cxOf]
  walk_at "d"
  refine ev_at ?_
  walk_at "d"
  refine ⟨_, _, _, rfl, C.k_Form.cl, C.n_Form_rows, _, _, rfl, rfl, ?_⟩
  walk_at "d"
  rw [List.length_map, hp]
  refine iteF ?_
  walk_at "d"
  rfl
theorem three {ws : List (List Int)} (h : ws.length = 3) : ∃ v0 v1 v2, ws = [v0, v1, v2] := by
  match ws, h with
  | [v0, v1, v2], _ => exact ⟨v0, v1, v2, rfl⟩

end
section
variable {P : Program} {w : World} {K : PySem.W.Frag} {mg : Str → Option Value} {base : Heap} {a : Adr}
/-! ### an answer of three weights -/
open NT in
def NV.row (x : NV) : V3 := lowV (gridF x)
open NT in
def NV.small (x : NV) : V3 := smallR x.a3 x.row
open NT in
def NV.ans (x : NV) : V3 := absV (lowV (x.back x.small))
open NT in
theorem NV.Fine.mixed {x : NV} (h : x.Fine) (nb : ∀ p, ¬ x.Bad p) : Mixed x.a3 := by
  have q0 : (0 : Int) < x.B0.prod := by have := prod_pos _ h.p0; omega
  have q1 : (0 : Int) < x.B1.prod := by have := prod_pos _ h.p1; omega
  have q2 : (0 : Int) < x.B2.prod := by have := prod_pos _ h.p2; omega
  have e0 : x.a3.x = x.s0 * (x.B0.prod : Int) := by show x.s0 * prodL (nI x.B0) = _; rw [prodL_nI]
  have e1 : x.a3.y = x.s1 * (x.B1.prod : Int) := by show x.s1 * prodL (nI x.B1) = _; rw [prodL_nI]
  have e2 : x.a3.z = x.s2 * (x.B2.prod : Int) := by show x.s2 * prodL (nI x.B2) = _; rw [prodL_nI]
  have n0 : ¬ (x.s0 = x.s1 ∧ x.s1 = x.s2) := fun z => nb 0 (.inl ⟨rfl, z⟩)
  have s0 := h.ok.s0
  have s1 := h.ok.s1
  have s2 := h.ok.s2
  generalize (x.B0.prod : Int) = P0 at *
  generalize (x.B1.prod : Int) = P1 at *
  generalize (x.B2.prod : Int) = P2 at *
  constructor
  · rw [e0]; rcases s0 with s | s <;> rw [s] <;> omega
  · rw [e1]; rcases s1 with s | s <;> rw [s] <;> omega
  · rw [e2]; rcases s2 with s | s <;> rw [s] <;> omega
  · rw [e0, e1, e2]
    rintro ⟨h1, h2, h3⟩
    rcases s0 with s | s <;> rw [s] at h1 n0 <;> rcases s1 with t | t <;> rw [t] at h2 n0 <;> rcases s2 with u | u <;> rw [u] at h3 n0 <;> omega
  · rw [e0, e1, e2]
    rintro ⟨h1, h2, h3⟩
    rcases s0 with s | s <;> rw [s] at h1 n0 <;> rcases s1 with t | t <;> rw [t] at h2 n0 <;> rcases s2 with u | u <;> rw [u] at h3 n0 <;> omega
open NT in
theorem NV.Fine.sqfs {x : NV} (h : x.Fine) (h3 : Fine3 x.a3 x.B0 x.B1 x.B2) (i : Nat) : sqf (at0 x.a3 i).natAbs := by
  unfold at0
  split
  · rw [h3.ax]; exact sqf_prod h.n0 h.p0
  · split
    · rw [h3.ay]; exact sqf_prod h.n1 h.p1
    · rw [h3.az]; exact sqf_prod h.n2 h.p2
open NT in
structure RowOk (x : NV) : Prop where
  g : gcdV (gridF x) ≠ 0
  m : Mixed x.a3
  sq : ∀ i, sqf (at0 x.a3 i).natAbs
  e : ev3 x.a3 x.row = 0
  r : gcdV x.row = 1
  l : Lg3 907 x.row
  s : SmallOk x.a3 x.small
  sl : Lg3 200 x.small
open NT in
theorem NV.Fine.rowOk {x : NV} (h : x.Fine) (nb : ∀ p, ¬ x.Bad p) : RowOk x := by
  have h3 := h.three nb
  have gf := h.grid nb
  have g := gcdV_ne gf.ne
  have m := h.mixed nb
  have sq := h.sqfs h3
  have e : ev3 x.a3 x.row = 0 := lowV_zero g gf.zero
  have r : gcdV x.row = 1 := lowV_gcd g
  have s : SmallOk x.a3 x.small := small_fin m (sq _) e r
  exact ⟨g, m, sq, e, r, lowV_lg gf.bd, s, small_lg s ⟨h.a0, h.a1, h.a2⟩⟩
open NT in
theorem NmOf.bks {v0 v1 v2 : List Int} (w0 : Wt v0) (w1 : Wt v1) (w2 : Wt v2) {x : NV} (h : NmOf v0 v1 v2 x) : x.Bks := by
  obtain ⟨⟨a0, a1, a2⟩, a3, a4, a5⟩ := h.backs w0 w1 w2
  exact ⟨a0, a1, a2, a3, a4, a5, h.nm.r0.1, h.nm.r1.1, h.nm.r2.1⟩
open NT in
theorem NmOf.ne {v0 v1 v2 : List Int} {x : NV} (h : NmOf v0 v1 v2 x) {u : V3} (hu : gcdV u = 1) : gcdV (x.back u) ≠ 0 := by
  have n := ne_gcdV hu
  have nm := h.nm
  have c0 : ((x.u0 * (x.r1 * x.r2) : Nat) : Int) ≠ 0 := by have := Nat.mul_pos nm.u0.1 (Nat.mul_pos nm.r1.1 nm.r2.1); omega
  have c1 : ((x.u1 * (x.r0 * x.r2) : Nat) : Int) ≠ 0 := by have := Nat.mul_pos nm.u1.1 (Nat.mul_pos nm.r0.1 nm.r2.1); omega
  have c2 : ((x.u2 * (x.r0 * x.r1) : Nat) : Int) ≠ 0 := by have := Nat.mul_pos nm.u2.1 (Nat.mul_pos nm.r0.1 nm.r1.1); omega
  refine gcdV_ne fun ⟨z0, z1, z2⟩ => n ⟨?_, ?_, ?_⟩
  · exact (Int.mul_eq_zero.mp z0).resolve_right c0
  · exact (Int.mul_eq_zero.mp z1).resolve_right c1
  · exact (Int.mul_eq_zero.mp z2).resolve_right c2
open NT in
theorem NmOf.ans {v0 v1 v2 : List Int} (w0 : Wt v0) (w1 : Wt v1) (w2 : Wt v2) {x : NV} (h : NmOf v0 v1 v2 x) (fx : x.Fine) (nb : ∀ p, ¬ x.Bad p) : AnsV ⟨prodL v0, prodL v1, prodL v2⟩ x.ans := by
  have ro := fx.rowOk nb
  exact ansV_of (h.ne ro.s.g) (back_zero w0 w1 w2 fx h ro.s.e)
open NT in
theorem NV.Bks.lg {x : NV} (h : x.Bks) {u : V3} (l : Lg3 200 u) : Lg3 500 (x.back u) := by
  have nb : ∀ {n : Nat} {b : Nat}, n < 2 ^ b → Lg b (n : Int) := fun h => by show Int.natAbs _ < _; rw [Int.natAbs_natCast]; exact h
  have lr0 := nb h.r0
  have lr1 := nb h.r1
  have lr2 := nb h.r2
  have lu0 := nb h.u0
  have lu1 := nb h.u1
  have lu2 := nb h.u2
  refine ⟨?_, ?_, ?_⟩
  · show Lg 500 (u.x * ((x.u0 * (x.r1 * x.r2) : Nat) : Int))
    push_cast
    exact (l.1.mul (lu0.mul (lr1.mul lr2))).le (by decide)
  · show Lg 500 (u.y * ((x.u1 * (x.r0 * x.r2) : Nat) : Int))
    push_cast
    exact (l.2.1.mul (lu1.mul (lr0.mul lr2))).le (by decide)
  · show Lg 500 (u.z * ((x.u2 * (x.r0 * x.r1) : Nat) : Int))
    push_cast
    exact (l.2.2.mul (lu2.mul (lr0.mul lr1))).le (by decide)
open NT in
def AnsD (v0 v1 v2 : List Int) (d : D) : Prop := ∃ x : NV, NmOf v0 v1 v2 x ∧ x.Fine ∧ (((∃ p, x.Bad p) ∧ d = .non) ∨ ((∀ p, ¬ x.Bad p) ∧ d = .tup (D.ints [x.ans.x, x.ans.y, x.ans.z])))
open NT in
theorem ok_answer_of (C : Ctx K mg a) : FnAt P w K mg base CX0 7 "answer_of" ["rows"] (SpP K (fun x : List Int × List Int × List Int => [.tup [wt x.1, wt x.2.1, wt x.2.2]]) (fun x => Wt x.1 ∧ Wt x.2.1 ∧ Wt x.2.2) (fun v d => AnsD v.1 v.2.1 v.2.2 d)) := by
  refine fn_at C.d_answer_of sc_answer_of (fun _ => rfl) fun f cdv A outer s H E hr => ⟨_, (pss_cons (ps_set (i := 1) sc_answer_of.nd rfl (by first | exact Or.inl rfl | exact Or.inr rfl) (pe_new (ok_Normal C) (hr.mono (by omega)) rfl (pa_cons (pv 0) pa_nil)))
    (pss_cons (ps_if (pt_cmpR (op_gNe (K := K) (by exact hr.units)) (pe_fn (ok_bars_of C) (hr.mono (by omega)) rfl (pa_cons (pv 1) pa_nil)) (pe_lst pa_nil) (nomark _))
    (pss_one (ps_ret pe_non))
    pss_nil)
    (pss_cons (ps_set (i := 2) sc_answer_of.nd rfl (by first | exact Or.inl rfl | exact Or.inr rfl) (pe_fn (ok_small_row C) (hr.mono (by omega)) rfl (pa_cons (pe_mth0 (ok_Normal_all_weights C) C.k_Normal.cl (hr.mono (by omega)) (pv 1)) (pa_cons (pe_fn (ok_grid_row C) (hr.mono (by omega)) rfl (pa_cons (pv 1) pa_nil)) pa_nil))))
    (pss_one (ps_ret (pe_tupOf (K := K) C.B.tuple rfl (pa_cons (pe_lc (own := [("one", 3)]) (g := (gName 3)) (tt := tYes) rfl sc_answer_of.nd (pi_seq (K := K) (pe_fn (ok_lowest C) (hr.mono (by omega)) rfl (pa_cons (pe_mth (ok_Normal_back C) C.k_Normal.cl (hr.mono (by omega)) (pv 1) (pa_cons (pv 2) pa_nil)) pa_nil))) (blkOk_by (N := n_answer_of) (sc := defScope s_answer_of) (by decide +kernel)) (fun _ _ _ _ _ => (pg_name (i := 3) sc_answer_of.nd rfl (by first | exact Or.inl rfl | exact Or.inr rfl))) (fun _ _ _ _ _ => pts_nil) (fun _ _ _ _ _ => (pe_abs C.B.abs rfl (pa_cons (pv 3) pa_nil)))) pa_nil))))))), fun x e hp he => ?_⟩
  obtain ⟨v0, v1, v2⟩ := x
  obtain ⟨w0, w1, w2⟩ := hp
  have w0 : Wt v0 := w0
  have w1 : Wt v1 := w1
  have w2 : Wt v2 := w2
  dsimp only [cxOf]
  walk_at "d"
  refine r_asg ?_
  refine ec_new ?_
  walk_at "d"
  refine ⟨(v0, v1, v2), rfl, ⟨w0, w1, w2⟩, fun ds hds => ?_⟩
  obtain ⟨x, ex, hx, nm, s0, s1, s2⟩ := NmD.nv (C := a.Normal) w0 w1 w2 hds
  rw [ex]
  have no : NmOf v0 v1 v2 x := ⟨nm, s0, s1, s2⟩
  have fi := no.fine w0 w1 w2 hx
  show RunD K e _ [some (.v (.tup [wt v0, wt v1, wt v2])), some (.v (nmD a.Normal x)), none, none] _ _ _ _ _
  walk_at "d"
  refine ⟨x, rfl, fi, ?_⟩
  rintro _ ⟨L, rfl, asc, hL⟩
  walk_at "d"
  refine g_neD 5 (pl_lstI (n := 4) (nI L)) rfl (by decide) ?_
  rw [eqv_nil]
  refine ⟨_, rfl, ?_⟩
  cases L with
  | cons p L =>
    refine iteT ?_
    walk_at "d"
    refine ret_v ?_
    exact ⟨x, no, fi, .inl ⟨⟨p, (hL p).mp (by simp)⟩, rfl⟩⟩
  | nil =>
    have nb : ∀ p, ¬ x.Bad p := fun p h => by
      have := (hL p).mpr h
      simp at this
    have ro := fi.rowOk nb
    have bks := no.bks w0 w1 w2
    have bl := bks.lg ro.sl
    refine iteF ?_
    walk_at "d"
    refine r_asg ?_
    walk_at "d"
    refine ev_mth ?_
    walk_at "d"
    refine ⟨_, _, rfl, by decide, ?_⟩
    walk_at "d"
    refine ⟨x, rfl, fi.ok, fun d ed => ?_⟩
    subst ed
    walk_at "d"
    refine ⟨x, rfl, ⟨fi, nb⟩, fun d ed => ?_⟩
    subst ed
    walk_at "d"
    refine ⟨(x.a3, x.row), rfl, ⟨⟨ro.m, fi.a0, fi.a1, fi.a2⟩, ro.sq _, ⟨ro.e, ro.r⟩, ro.l⟩, fun d ed => ?_⟩
    subst ed
    have es : smallR x.a3 x.row = x.small := rfl
    dsimp only
    rw [es]
    walk_at "d"
    refine ev_lcM (fun d => match d with | .raw (.int n) => .int (n.natAbs : Int) | _ => d) (ei_seqT ?_)
    walk_at "d"
    refine ev_mth ?_
    walk_at "d"
    refine ⟨_, _, rfl, by decide, ?_⟩
    walk_at "d"
    refine ⟨(x, x.small), rfl, ⟨bks, ro.sl.1.le (by decide), ro.sl.2.1.le (by decide), ro.sl.2.2.le (by decide)⟩, fun d ed => ?_⟩
    subst ed
    walk_at "d"
    refine ⟨(false, [(x.back x.small).x, (x.back x.small).y, (x.back x.small).z]), rfl, ⟨⟨no.ne ro.s.g, le_lit rfl⟩, fun o ho => ?_⟩, fun d ed => ?_⟩
    · simp only [List.mem_cons, List.not_mem_nil, or_false] at ho
      rcases ho with rfl | rfl | rfl
      · exact bit_le bl.1 (by decide)
      · exact bit_le bl.2.1 (by decide)
      · exact bit_le bl.2.2 (by decide)
    subst ed
    refine ⟨_, rfl, le_lit rfl, fun i d hi => ?_, ?_⟩
    · obtain ⟨n, hn, rfl⟩ := ints_get hi
      walk_at "d"
      rw [absI_def]
    · walk_at "d"
      refine ret_v ?_
      exact ⟨x, no, fi, .inr ⟨nb, rfl⟩⟩
open NT in
theorem ok_answer (C : Ctx K mg a) : FnAt P w K mg base CX0 8 "answer" ["form"] (SpP K (fun x : List Int × List Int × List Int => [fm a.Form [x.1, x.2.1, x.2.2]]) (fun x => Wt x.1 ∧ Wt x.2.1 ∧ Wt x.2.2) (fun v d => AnsD v.1 v.2.1 v.2.2 d)) := by
  refine fn_at C.d_answer sc_answer (fun _ => rfl) fun f cdv A outer s H E hr => ⟨_, (pss_cons (ps_expr (pe_fn (ok_check_three C) (hr.mono (by omega)) rfl (pa_cons (pv 0) pa_nil)))
    (pss_one (ps_ret (pe_fn (ok_answer_of C) (hr.mono (by omega)) rfl (pa_cons (pe_at (K := K) (pv 0)) pa_nil))))), fun x e hp he => ?_⟩
  obtain ⟨v0, v1, v2⟩ := x
  obtain ⟨w0, w1, w2⟩ := hp
  have w0 : Wt v0 := w0
  have w1 : Wt v1 := w1
  have w2 : Wt v2 := w2
  dsimp only [cxOf]
  walk_at "d"
  refine ⟨[v0, v1, v2], rfl, rfl, fun d ed => ?_⟩
  subst ed
  walk_at "d"
  refine ev_at ?_
  walk_at "d"
  refine ⟨_, _, _, rfl, C.k_Form.cl, C.n_Form_rows, _, _, rfl, rfl, ?_⟩
  walk_at "d"
  refine ⟨(v0, v1, v2), rfl, ⟨w0, w1, w2⟩, fun d ed => ?_⟩
  exact ret_v ed

end
section
variable {P : Program} {w : World} {K : PySem.W.Frag} {mg : Str → Option Value} {base : Heap} {a : Adr}
/-! ### weights that are alike have the same normal weights -/
theorem bars_eq {a b c a' b' c' : Nat} {x y : List Nat} (hx : Bars a b c x) (hy : Bars a' b' c' y) (h : ∀ p, NT.Pr p → brb a b c p = brb a' b' c' p) : x = y :=
  NT.asc_eq hx.asc hy.asc fun p => by
    rw [hx.mem, hy.mem]
    exact ⟨fun ⟨q1, q2⟩ => ⟨q1, by rw [← h p q1]; exact q2⟩, fun ⟨q1, q2⟩ => ⟨q1, by rw [h p q1]; exact q2⟩⟩
theorem twoB_cyc {x y z : Int} (h : OneEv x y z) : twoB y z x = twoB x y z := by
  obtain ⟨h1, h2, h3⟩ := h
  have e1 : z + x = x + z := Int.add_comm ..
  have e2 : x + z + y = z + x + y := by omega
  have e3 : z + y = y + z := Int.add_comm ..
  have e4 : y + x = x + y := Int.add_comm ..
  unfold twoB
  by_cases hx : x % 2 = 0
  · have hy : ¬ y % 2 = 0 := by omega
    have hz : ¬ z % 2 = 0 := by omega
    simp only [hx, hy, hz, if_true, if_false]
  · by_cases hy : y % 2 = 0
    · have hz : ¬ z % 2 = 0 := by omega
      simp only [hx, hy, hz, if_true, if_false, e1]
    · by_cases hz : z % 2 = 0
      · simp only [hx, hy, hz, if_true, if_false, e4, e1]
      · simp only [hx, hy, hz, if_false, e1, e3, e4]
        cases decide ((x + z) % 4 = 0) <;> cases decide ((x + y) % 4 = 0) <;> cases decide ((y + z) % 4 = 0) <;> rfl
theorem twoB_neg (x y z : Int) : twoB (-x) (-y) (-z) = twoB x y z := by
  have e : ∀ a b : Int, ∀ m : Int, (m = 2 ∨ m = 4 ∨ m = 8) → a = -b → (decide (a % m = 0) = decide (b % m = 0)) := fun a b m hm h => decide_eq_decide.mpr (by rcases hm with rfl | rfl | rfl <;> omega)
  have p : ∀ a : Int, ((-a) % 2 = 0) = (a % 2 = 0) := fun a => propext (by omega)
  unfold twoB
  simp only [p]
  rw [e (-y + -z) (y + z) 8 (by simp) (by omega), e (-y + -z + -x) (y + z + x) 8 (by simp) (by omega), e (-x + -z) (x + z) 8 (by simp) (by omega), e (-x + -z + -y) (x + z + y) 8 (by simp) (by omega),
    e (-x + -y) (x + y) 8 (by simp) (by omega), e (-x + -y + -z) (x + y + z) 8 (by simp) (by omega), e (-x + -z) (x + z) 4 (by simp) (by omega), e (-y + -x) (y + x) 4 (by simp) (by omega), e (-z + -y) (z + y) 4 (by simp) (by omega)]
theorem asc_bad {L L' : List Nat} {x y : NV} (h : L.Pairwise (· < ·)) (h' : L'.Pairwise (· < ·)) (m : ∀ p, p ∈ L ↔ x.Bad p) (m' : ∀ p, p ∈ L' ↔ y.Bad p) (e : ∀ p, x.Bad p ↔ y.Bad p) : L = L' :=
  NT.asc_eq h h' fun p => (m p).trans ((e p).trans (m' p).symm)
/-- the next order -/
theorem cyc_eq {v0 v1 v2 : List Int} {x y : NV} (fx : x.Fine) (hx : NmOf v0 v1 v2 x) (hy : NmOf v1 v2 v0 y) : y.A0 = x.A1 ∧ y.A1 = x.A2 ∧ y.A2 = x.A0 ∧ ∀ p, x.Bad p ↔ y.Bad p := by
  have b0 : y.B0 = x.B1 := bars_eq hy.nm.b0 hx.nm.b1 fun p _ => brb_swap _ _ _ p
  have b1 : y.B1 = x.B2 := bars_eq hy.nm.b1 hx.nm.b2 fun p _ => brb_swap _ _ _ p
  have b2 : y.B2 = x.B0 := bars_eq hy.nm.b2 hx.nm.b0 fun p _ => rfl
  have s0 : y.s0 = x.s1 := by rw [hy.s0, hx.s1]
  have s1 : y.s1 = x.s2 := by rw [hy.s1, hx.s2]
  have s2 : y.s2 = x.s0 := by rw [hy.s2, hx.s0]
  have a0 : y.A0 = x.A1 := by unfold NV.A0 NV.A1; rw [b0, s0]
  have a1 : y.A1 = x.A2 := by unfold NV.A1 NV.A2; rw [b1, s1]
  have a2 : y.A2 = x.A0 := by unfold NV.A2 NV.A0; rw [b2, s2]
  refine ⟨a0, a1, a2, fun p => ?_⟩
  unfold NV.Bad NV.rest0 NV.rest1 NV.rest2
  rw [a0, a1, a2, b0, b1, b2, s0, s1, s2, twoB_cyc fx.one]
  grind
/-- one sign, one number times all, squares times each -/
theorem same_eq {v0 v1 v2 u0 u1 u2 : List Int} {x y : NV} {o : Int} (ho : o = 1 ∨ o = -1) (hx : NmOf v0 v1 v2 x) (hy : NmOf u0 u1 u2 y) (hs : sgn (prodL u0) = o * sgn (prodL v0) ∧ sgn (prodL u1) = o * sgn (prodL v1) ∧ sgn (prodL u2) = o * sgn (prodL v2))
    (t : Nat → Bool) (h0 : ∀ p, NT.Pr p → ob (nP u0) p = (ob (nP v0) p ^^ t p)) (h1 : ∀ p, NT.Pr p → ob (nP u1) p = (ob (nP v1) p ^^ t p)) (h2 : ∀ p, NT.Pr p → ob (nP u2) p = (ob (nP v2) p ^^ t p)) :
    y.A0 = o * x.A0 ∧ y.A1 = o * x.A1 ∧ y.A2 = o * x.A2 ∧ ∀ p, x.Bad p ↔ y.Bad p := by
  have br : ∀ {a b c a' b' c' p : Nat}, ob a' p = (ob a p ^^ t p) → ob b' p = (ob b p ^^ t p) → ob c' p = (ob c p ^^ t p) → brb a' b' c' p = brb a b c p := fun {a b c a' b' c' p} ha hb hc => by
    unfold brb
    rw [ha, hb, hc]
    cases ob a p <;> cases ob b p <;> cases ob c p <;> cases t p <;> rfl
  have b0 : y.B0 = x.B0 := bars_eq hy.nm.b0 hx.nm.b0 fun p hp => br (h0 p hp) (h1 p hp) (h2 p hp)
  have b1 : y.B1 = x.B1 := bars_eq hy.nm.b1 hx.nm.b1 fun p hp => br (h1 p hp) (h0 p hp) (h2 p hp)
  have b2 : y.B2 = x.B2 := bars_eq hy.nm.b2 hx.nm.b2 fun p hp => br (h2 p hp) (h0 p hp) (h1 p hp)
  have s0 : y.s0 = o * x.s0 := by rw [hy.s0, hx.s0, hs.1]
  have s1 : y.s1 = o * x.s1 := by rw [hy.s1, hx.s1, hs.2.1]
  have s2 : y.s2 = o * x.s2 := by rw [hy.s2, hx.s2, hs.2.2]
  have a0 : y.A0 = o * x.A0 := by unfold NV.A0; rw [b0, s0, Int.mul_assoc]
  have a1 : y.A1 = o * x.A1 := by unfold NV.A1; rw [b1, s1, Int.mul_assoc]
  have a2 : y.A2 = o * x.A2 := by unfold NV.A2; rw [b2, s2, Int.mul_assoc]
  refine ⟨a0, a1, a2, fun p => ?_⟩
  unfold NV.Bad NV.rest0 NV.rest1 NV.rest2
  rw [a0, a1, a2, b0, b1, b2, s0, s1, s2]
  have e1 : ∀ a b : Int, -(o * a) * (o * b) = -a * b := fun a b => by rcases ho with rfl | rfl <;> grind
  have e2 : twoB (o * x.A0) (o * x.A1) (o * x.A2) = twoB x.A0 x.A1 x.A2 := by
    rcases ho with rfl | rfl
    · simp
    · have := twoB_neg x.A0 x.A1 x.A2
      simpa using this
  have e3 : ∀ a b : Int, (o * a = o * b) = (a = b) := fun a b => propext (by rcases ho with rfl | rfl <;> omega)
  rw [e1, e1, e1, e2, e3, e3]
theorem ob_mul {n m p : Nat} (hp : NT.Pr p) (hn : 0 < n) (hm : 0 < m) : ob (n * m) p = (ob n p ^^ ob m p) := by
  unfold ob
  rw [NT.vp_mul hp hn hm]
  by_cases h1 : NT.vp p n % 2 = 1 <;> by_cases h2 : NT.vp p m % 2 = 1 <;> simp [h1, h2] <;> omega
theorem ob_sq {m p : Nat} (hp : NT.Pr p) (hm : 0 < m) : ob (m * m) p = false := by
  rw [ob_mul hp hm hm]; cases ob m p <;> rfl
theorem prodL_app {u v : List Int} : prodL (u ++ v) = prodL u * prodL v := by
  have key : ∀ (ns : List Int) (a : Int), ns.foldl (· * ·) a = a * ns.foldl (· * ·) 1 := by
    intro ns
    induction ns with
    | nil => intro a; simp
    | cons n ns ih => intro a; rw [List.foldl_cons, List.foldl_cons, ih, ih (1 * n)]; grind
  unfold prodL
  rw [List.foldl_append, key]
theorem sgn_mulp {a b : Int} (hb : 0 < b) : sgn (a * b) = sgn a := by
  unfold sgn
  by_cases h : a > 0
  · rw [if_pos h, if_pos (Int.mul_pos h hb)]
  · rw [if_neg h, if_neg]
    have := Int.mul_nonpos_of_nonpos_of_nonneg (show a ≤ 0 by omega) (Int.le_of_lt hb)
    omega
theorem sgn_neg {a : Int} (ha : a ≠ 0) : sgn (-a) = -sgn a := by
  unfold sgn
  split <;> split <;> omega
theorem rot_bad {v0 v1 v2 : List Int} {L L' : List Nat} (h : BadL v0 v1 v2 L) (h' : BadL v1 v2 v0 L') : L' = L := by
  obtain ⟨x, fx, nx, ax, mx⟩ := h
  obtain ⟨y, fy, ny, ay, my⟩ := h'
  exact (asc_bad ax ay mx my (cyc_eq fx nx ny).2.2.2).symm
theorem same_bad {v0 v1 v2 u0 u1 u2 : List Int} {L L' : List Nat} {o : Int} (ho : o = 1 ∨ o = -1) (h : BadL v0 v1 v2 L) (h' : BadL u0 u1 u2 L') (hs : sgn (prodL u0) = o * sgn (prodL v0) ∧ sgn (prodL u1) = o * sgn (prodL v1) ∧ sgn (prodL u2) = o * sgn (prodL v2))
    (t : Nat → Bool) (h0 : ∀ p, NT.Pr p → ob (nP u0) p = (ob (nP v0) p ^^ t p)) (h1 : ∀ p, NT.Pr p → ob (nP u1) p = (ob (nP v1) p ^^ t p)) (h2 : ∀ p, NT.Pr p → ob (nP u2) p = (ob (nP v2) p ^^ t p)) : L' = L := by
  obtain ⟨x, fx, nx, ax, mx⟩ := h
  obtain ⟨y, fy, ny, ay, my⟩ := h'
  exact (asc_bad ax ay mx my (same_eq ho nx ny hs t h0 h1 h2).2.2.2).symm
theorem BadL.uniq {v0 v1 v2 : List Int} {L L' : List Nat} (h : BadL v0 v1 v2 L) (h' : BadL v0 v1 v2 L') : L' = L := same_bad (o := 1) (.inl rfl) h h' ⟨by simp, by simp, by simp⟩ (fun _ => false) (fun _ _ => by simp) (fun _ _ => by simp) (fun _ _ => by simp)
theorem BadL.len {v0 v1 v2 : List Int} {L : List Nat} (h : BadL v0 v1 v2 L) : L.length ≤ 1000000 := by
  obtain ⟨x, fx, nx, ax, mx⟩ := h
  have sub : L ⊆ 0 :: 2 :: (x.B0 ++ x.B1 ++ x.B2) := fun p hp => by
    rcases (mx p).mp hp with h | h | h | h | h
    · simp [h.1]
    · simp [h.1]
    · simp [h.2.1]
    · simp [h.2.1]
    · simp [h.2.1]
  have := (NT.asc_nodup ax).length_le_of_subset sub
  have := fx.ok.b0.len
  have := fx.ok.b1.len
  have := fx.ok.b2.len
  simp at *
  omega

end
section
variable {P : Program} {w : World} {K : PySem.W.Frag} {mg : Str → Option Value} {base : Heap} {a : Adr}
/-! ### the greatest common divisor, as the law counts -/
open NT in
theorem gcdL_snoc (ns : List Int) (n : Int) : gcdL (ns ++ [n]) = Nat.gcd (gcdL ns) n.natAbs := by
  unfold gcdL
  rw [List.foldl_append]
  rfl
open NT in
theorem ok__law_gcd (C : Ctx K mg a) : FnAt P w K mg base CX0 1 "_law_gcd" ["_law_numbers"] (SpP K (fun x : Bool × List Int => [D.seq x.1 (D.ints x.2)]) (fun _ => True) (fun x d => d = .int (gcdL x.2))) := by
  refine fn_at C.d__law_gcd sc__law_gcd (fun _ => rfl) fun f cdv A outer s H E hr => ⟨_, (pss_cons (ps_set (i := 1) sc__law_gcd.nd rfl (by first | exact Or.inl rfl | exact Or.inr rfl) pe_int)
    (pss_cons (ps_for PassesOwn.never rfl (pi_seq (K := K) (pv 0)) (pg_name (i := 2) sc__law_gcd.nd rfl (by first | exact Or.inl rfl | exact Or.inr rfl))
    (pss_cons (ps_set (i := 3) sc__law_gcd.nd rfl (by first | exact Or.inl rfl | exact Or.inr rfl) (pe_abs C.B.abs rfl (pa_cons (pv 2) pa_nil)))
    (pss_one (ps_while PassesOwn.never (pt_cmpR op_gGt (pv 3) pe_int (nomark _))
    (pss_one (ps_par (i := 1) (j := 3) rfl sc__law_gcd.nd rfl rfl (by decide) rfl rfl (pa_cons (pv 3) (pa_cons (pe_op op_gMod (pe_int1 C.B.int rfl (pa_cons (pv 1) pa_nil)) (pv 3)) pa_nil)) rfl))))))
    (pss_one (ps_ret (pv 1))))), fun x e hp he => ?_⟩
  obtain ⟨bt, ns⟩ := x
  dsimp only [cxOf]
  walk_at "d"
  refine r_asg ?_
  walk_at "d"
  refine r_for [2] ?_
  refine ei_seqS ?_
  walk_at "d"
  refine ⟨_, ⟨bt, rfl⟩, fun i ρ M => ∃ (o2 o3 : Option Sl), ρ = [some (.v (D.seq bt (D.ints ns))), some (.v (.int (gcdL (ns.take i) : Int))), o2, o3] ∧ M = [], ⟨none, none, rfl, rfl⟩, ?_, ?_⟩
  · rintro i d ρ M hi ⟨o2, o3, rfl, rfl⟩
    obtain ⟨n, hn, rfl⟩ := ints_get hi
    walk_at "d"
    refine r_asg ?_
    walk_at "d"
    have habs : (if n < 0 then -n else n) = (n.natAbs : Int) := by split <;> omega
    rw [habs]
    refine r_while ⟨fun k ρ M => ∃ (u v : Nat), ρ = [some (.v (D.seq bt (D.ints ns))), some (.v (.int (u : Int))), some (.v (.int n)), some (.v (.int (v : Int)))] ∧ M = [] ∧ Nat.gcd u v = gcdL (ns.take (i + 1)) ∧ k = v, ⟨_, _, _, rfl, rfl, by rw [take_snoc hn, gcdL_snoc], rfl⟩, ?_⟩
    rintro k ρ M ⟨u, v, rfl, rfl, hg, hk⟩
    rw [hk]
    walk_at "d"
    refine ite_dec (fun h => ?_) (fun h => ?_)
    · refine r_par ?_
      walk_at "d"
      refine ⟨h, ?_⟩
      walk_at "d"
      have hv : 0 < v := by omega
      refine ⟨_, _, rfl, u % v, Nat.mod_lt _ hv, v, u % v, by rw [← Int.natCast_emod]; rfl, rfl, ?_, rfl⟩
      rw [← hg, Nat.gcd_comm u v, Nat.gcd_rec v u, Nat.gcd_comm]
    · have hv : v = 0 := by omega
      subst hv
      rw [Nat.gcd_zero_right] at hg
      subst hg
      exact ⟨_, _, rfl, rfl⟩
  · rintro ρ M ⟨o2, o3, rfl, rfl⟩
    walk_at "d"
    refine ret_v ?_
    simp [D.ints]

end
section
variable {P : Program} {w : World} {K : PySem.W.Frag} {mg : Str → Option Value} {base : Heap} {a : Adr}
/-! ### what a row comes to, as the law counts -/
theorem x_ixS {K : PySem.W.Frag} {M : List MO} {Q : Sl → Prop} {b : Bool} {ds : List D} {i : Int} (h : ∃ d, atI ds i = some d ∧ Q (.v d)) : EvR K (rIx K) M (.v (D.seq b ds)) (.v (.int i)) Q := by
  cases b with
  | true => exact x_ixT h
  | false => exact x_ixL h
theorem atI_nat {ds : List D} {i : Nat} {d : D} (h : ds[i]? = some d) : atI ds (i : Int) = some d := by
  have hl := (List.getElem?_eq_some_iff.mp h).1
  unfold atI ixN
  have h1 : (i : Int) < (ds.length : Int) := by omega
  simp [h1, h]
theorem ok__law_come (C : Ctx K mg a) : FnAt P w K mg base CX0 1 "_law_come" ["_law_numbers", "_law_row"] (SpP K (fun x : Bool × List Int × Bool × List Int => [D.seq x.1 (D.ints x.2.1), D.seq x.2.2.1 (D.ints x.2.2.2)]) (fun x => (x.2.1.length = x.2.2.2.length ∧ x.2.1.length ≤ 1000) ∧ (∀ n, n ∈ x.2.1 → n.natAbs < 2 ^ 4000) ∧ ∀ o, o ∈ x.2.2.2 → o.natAbs < 2 ^ 90000) (fun x d => d = .int (comeL x.2.1 x.2.2.2))) := by
  refine fn_at C.d__law_come sc__law_come (fun _ => rfl) fun f cdv A outer s H E hr => ⟨_, (pss_one (ps_ret (pe_sum (K := K) C.B.sum rfl rfl (pa_cons (pe_lc (own := [("_law_at", 2)]) (g := (gName 2)) (tt := tYes) rfl sc__law_come.nd (pi_range1 rfl C.B.range (pa_cons (pe_len (K := K) C.B.len rfl (pa_cons (pv 1) pa_nil)) pa_nil)) (blkOk_by (N := n__law_come) (sc := defScope s__law_come) (by decide +kernel)) (fun _ _ _ _ _ => (pg_name (i := 2) sc__law_come.nd rfl (by first | exact Or.inl rfl | exact Or.inr rfl))) (fun _ _ _ _ _ => pts_nil) (fun _ _ _ _ _ => (pe_op (op_gMul (K := K)) (pe_op (op_gMul (K := K)) (pe_ix (ix_any (K := K)) (pv 0) (pv 2) (fun _ _ => rfl)) (pe_ix (ix_any (K := K)) (pv 1) (pv 2) (fun _ _ => rfl))) (pe_ix (ix_any (K := K)) (pv 1) (pv 2) (fun _ _ => rfl))))) pa_nil)))), fun x e hp he => ?_⟩
  obtain ⟨b1, ns, b2, ms⟩ := x
  obtain ⟨⟨hl, h3⟩, hn, hm⟩ := hp
  have hl : ns.length = ms.length := hl
  have h3 : ns.length ≤ 1000 := h3
  have hn : ∀ n, n ∈ ns → n.natAbs < 2 ^ 4000 := hn
  have hm : ∀ o, o ∈ ms → o.natAbs < 2 ^ 90000 := hm
  dsimp only [cxOf]
  refine r_ret ?_
  refine ev_cb (ea_cons (ev_lcM (fun d => match d with | .raw (.int i) => .int (ns.getD i.toNat 0 * ms.getD i.toNat 0 * ms.getD i.toNat 0) | _ => d) (ei_range1 ?_)))
  walk_at "d"
  refine ⟨(ms.length : Int), by simp [D.ints], by omega, by omega, by rw [rangeD_len]; omega, fun i d hd => ?_, ?_⟩
  · obtain ⟨il, rfl⟩ := rangeD_get hd
    have il : i < ms.length := by simpa using il
    rw [Int.zero_add]
    have g1 : ns[i]? = some (ns.getD i 0) := by rw [List.getD_eq_getElem?_getD, List.getElem?_eq_getElem (by omega)]; rfl
    have g2 : ms[i]? = some (ms.getD i 0) := by rw [List.getD_eq_getElem?_getD, List.getElem?_eq_getElem il]; rfl
    have e1 : (D.ints ns)[i]? = some (.int (ns.getD i 0)) := by rw [D.ints, List.getElem?_map, g1]; rfl
    have e2 : (D.ints ms)[i]? = some (.int (ms.getD i 0)) := by rw [D.ints, List.getElem?_map, g2]; rfl
    have nb := hn _ (List.mem_of_getElem? g1)
    have ob := hm _ (List.mem_of_getElem? g2)
    have et : ((i : Int)).toNat = i := by omega
    dsimp only
    rw [et]
    walk_at "d"
    refine x_ixS ⟨_, atI_nat e1, ?_⟩
    walk_at "d"
    refine x_ixS ⟨_, atI_nat e2, ?_⟩
    walk_at "d"
    refine ⟨mulW nb ob (by decide), ?_⟩
    walk_at "d"
    refine x_ixS ⟨_, atI_nat e2, ?_⟩
    walk_at "d"
    refine ⟨mulW (mul_lt nb ob) ob (by decide), ?_⟩
    exact rfl
  · have em : (rangeD 0 ((ms.length : Int).toNat)).map (fun d => match d with | .raw (.int i) => D.int (ns.getD i.toNat 0 * ms.getD i.toNat 0 * ms.getD i.toNat 0) | _ => d) = D.ints (List.zipWith (fun n o => n * o * o) ns ms) := by
      have et : ((ms.length : Int)).toNat = ms.length := by omega
      rw [et]
      apply List.ext_getElem?
      intro i
      rw [List.getElem?_map, D.ints, List.getElem?_map, List.getElem?_zipWith]
      by_cases il : i < ms.length
      · have e1 : (rangeD 0 ms.length)[i]? = some (.int (0 + (i : Int))) := by simp [rangeD, il]
        have g1 : ns[i]? = some (ns.getD i 0) := by rw [List.getD_eq_getElem?_getD, List.getElem?_eq_getElem (by omega)]; rfl
        have g2 : ms[i]? = some (ms.getD i 0) := by rw [List.getD_eq_getElem?_getD, List.getElem?_eq_getElem il]; rfl
        rw [e1, g1, g2, Int.zero_add]
        simp
      · have e1 : (rangeD 0 ms.length)[i]? = none := by rw [List.getElem?_eq_none]; rw [rangeD_len]; omega
        have e2 : ms[i]? = none := List.getElem?_eq_none (by omega)
        rw [e1, e2]
        cases ns[i]? <;> rfl
    rw [em]
    walk_at "d"
    exact ec_sum .v (ret_v rfl)

end
section
variable {P : Program} {w : World} {K : PySem.W.Frag} {mg : Str → Option Value} {base : Heap} {a : Adr}
/-! ### three weights that have an answer -/
/-- there is a row that comes to nought -/
def Plant (v0 v1 v2 : List Int) : Prop := ∃ X Y Z : Int, ¬ (X = 0 ∧ Y = 0 ∧ Z = 0) ∧ prodL v0 * (X * X) + prodL v1 * (Y * Y) + prodL v2 * (Z * Z) = 0
def NormB (b : Int) (ns : List Int) : Prop := ∃ P Q : Int, prodL ns = P * P + b * (Q * Q)
theorem NormB.snoc {b : Int} {ns : List Int} (h : NormB b ns) (u v : Int) : NormB b (ns ++ [u * u + b * (v * v)]) := by
  obtain ⟨P, Q, e⟩ := h
  refine ⟨P * u - b * (Q * v), P * v + Q * u, ?_⟩
  have : prodL (ns ++ [u * u + b * (v * v)]) = prodL ns * (u * u + b * (v * v)) := by unfold prodL; rw [List.foldl_append]; rfl
  rw [this, e]; grind
theorem plant_of {b c s : Int} {ns : List Int} (hs : s ≠ 0) (h : NormB b ns) : Plant [c] ([b] ++ [c] ++ [s, s]) ([c] ++ [-1] ++ ns) := by
  obtain ⟨P, Q, e⟩ := h
  refine ⟨s * P, Q, s, fun z => hs z.2.2, ?_⟩
  have e0 : prodL [c] = 1 * c := rfl
  have e1 : prodL ([b] ++ [c] ++ [s, s]) = 1 * b * c * s * s := rfl
  have e2 : prodL ([c] ++ [-1] ++ ns) = 1 * c * -1 * prodL ns := by
    rw [prodL_app]; rfl
  rw [e0, e1, e2, e]; grind
theorem Plant.rot {v0 v1 v2 : List Int} (h : Plant v0 v1 v2) : Plant v1 v2 v0 := by
  obtain ⟨X, Y, Z, n, e⟩ := h
  exact ⟨Y, Z, X, fun z => n ⟨z.2.2, z.1, z.2.1⟩, by omega⟩
theorem ok__law_told (C : Ctx K mg a) : FnAt P w K mg base CX0 3 "_law_told" ["_law_h"] (SpG K (fun _ : Unit => []) (fun _ => True) (fun _ d => ∃ v0 v1 v2, d = .tup [wt v0, wt v1, wt v2] ∧ (Wt v0 ∧ Wt v1 ∧ Wt v2) ∧ Plant v0 v1 v2)) := by
  refine fn_at C.d__law_told sc__law_told (fun _ => rfl) fun f cdv A outer s H E hr => ⟨_, (pss_cons (ps_set (i := 1) sc__law_told.nd rfl (by first | exact Or.inl rfl | exact Or.inr rfl) (pe_op (op_gMul (K := K)) (pe_fn (ok__law_pick C) (hr.mono (by omega)) rfl (pa_cons (pv 0) (pa_cons (pe_lst (pa_cons pe_int (pa_cons pe_int (pa_cons pe_int (pa_cons pe_int (pa_cons pe_int (pa_cons pe_int (pa_cons pe_int (pa_cons pe_int (pa_cons pe_int pa_nil)))))))))) pa_nil))) (pe_fn (ok__law_pick C) (hr.mono (by omega)) rfl (pa_cons (pv 0) (pa_cons (pe_lst (pa_cons pe_int (pa_cons (pe_un un_neg pe_int) pa_nil))) pa_nil)))))
    (pss_cons (ps_set (i := 2) sc__law_told.nd rfl (by first | exact Or.inl rfl | exact Or.inr rfl) (pe_lst pa_nil))
    (pss_cons (ps_for PassesOwn.never rfl (pi_range1 rfl C.B.range (pa_cons (pe_op (op_gAdd (K := K)) pe_int (pe_fn (ok__law_next C) (hr.mono (by omega)) rfl (pa_cons (pv 0) (pa_cons pe_int pa_nil)))) pa_nil)) (pg_name (i := 3) sc__law_told.nd rfl (by first | exact Or.inl rfl | exact Or.inr rfl))
    (pss_cons (ps_par (i := 9) (j := 10) rfl sc__law_told.nd rfl rfl (by decide) rfl rfl (pa_cons (pe_op (op_gAdd (K := K)) pe_int (pe_fn (ok__law_next C) (hr.mono (by omega)) rfl (pa_cons (pv 0) (pa_cons pe_int pa_nil)))) (pa_cons (pe_fn (ok__law_next C) (hr.mono (by omega)) rfl (pa_cons (pv 0) (pa_cons pe_int pa_nil))) pa_nil)) rfl)
    (pss_cons (ps_set (i := 8) sc__law_told.nd rfl (by first | exact Or.inl rfl | exact Or.inr rfl) (pe_op (op_gAdd (K := K)) (pe_op (op_gMul (K := K)) (pv 9) (pv 9)) (pe_op (op_gMul (K := K)) (pe_op (op_gMul (K := K)) (pv 1) (pv 10)) (pv 10))))
    (pss_one (ps_expr (pe_bm PySem.F.plainAttrs_list PySem.F.slot_list_append PySem.F.type_list_append mt_append (pv 2) (pa_cons (pe_ifExp (pt_cmpR (op_gNe (K := K) (by exact hr.units)) (pv 8) pe_int (nomark _)) (pv 8) (pe_op (op_gMul (K := K)) (pv 9) (pv 9))) pa_nil)))))))
    (pss_cons (ps_set (i := 4) sc__law_told.nd rfl (by first | exact Or.inl rfl | exact Or.inr rfl) (pe_tup (pa_cons (pe_op (op_gAdd (K := K)) pe_int (pe_fn (ok__law_next C) (hr.mono (by omega)) rfl (pa_cons (pv 0) (pa_cons (pe_fn (ok__law_pick C) (hr.mono (by omega)) rfl (pa_cons (pv 0) (pa_cons (pe_lst (pa_cons pe_int (pa_cons pe_int (pa_cons (pe_op op_gPow pe_int pe_int) pa_nil)))) pa_nil))) pa_nil)))) pa_nil)))
    (pss_cons (ps_set (i := 5) sc__law_told.nd rfl (by first | exact Or.inl rfl | exact Or.inr rfl) (pe_op (op_gAdd (K := K)) pe_int (pe_fn (ok__law_next C) (hr.mono (by omega)) rfl (pa_cons (pv 0) (pa_cons (pe_fn (ok__law_pick C) (hr.mono (by omega)) rfl (pa_cons (pv 0) (pa_cons (pe_lst (pa_cons pe_int (pa_cons pe_int (pa_cons pe_int pa_nil)))) pa_nil))) pa_nil)))))
    (pss_cons (ps_set (i := 6) sc__law_told.nd rfl (by first | exact Or.inl rfl | exact Or.inr rfl) (pe_lst (pa_cons (pv 4) (pa_cons (pe_op (op_gAdd (K := K)) (pe_op (op_gAdd (K := K)) (pe_tup (pa_cons (pv 1) pa_nil)) (pv 4)) (pe_tup (pa_cons (pv 5) (pa_cons (pv 5) pa_nil)))) (pa_cons (pe_op (op_gAdd (K := K)) (pe_op (op_gAdd (K := K)) (pv 4) (pe_tup (pa_cons (pe_un un_neg pe_int) pa_nil))) (pe_tupOf (K := K) C.B.tuple rfl (pa_cons (pv 2) pa_nil))) pa_nil)))))
    (pss_cons (ps_set (i := 7) sc__law_told.nd rfl (by first | exact Or.inl rfl | exact Or.inr rfl) (pe_fn (ok__law_next C) (hr.mono (by omega)) rfl (pa_cons (pv 0) (pa_cons pe_int pa_nil))))
    (pss_one (ps_ret (pe_tupOf (K := K) C.B.tuple rfl (pa_cons (pe_op (op_gAdd (K := K)) (pe_slice sl_list (pv 6) (po_some (pv 7)) po_none) (pe_slice sl_list (pv 6) po_none (po_some (pv 7)))) pa_nil))))))))))), fun x e hp he => ?_⟩
  dsimp only [cxOf]
  walk_at "d"
  refine r_asg ?_
  walk_at "d"
  refine ⟨_, 0, rfl, rfl, ⟨le_lit rfl, le_lit rfl⟩, fun d hd => ?_⟩
  obtain ⟨b0, rfl, c1, c2⟩ : ∃ b0 : Int, d = .int b0 ∧ 1 ≤ b0 ∧ b0 ≤ 1009 := by
    simp only [List.mem_cons, List.not_mem_nil, or_false] at hd
    rcases hd with rfl | rfl | rfl | rfl | rfl | rfl | rfl | rfl | rfl <;> exact ⟨_, rfl, by decide, by decide⟩
  walk_at "d"
  refine ⟨_, 0, rfl, rfl, ⟨le_lit rfl, le_lit rfl⟩, fun d hd => ?_⟩
  obtain ⟨sg, rfl, c3⟩ : ∃ sg : Int, d = .int sg ∧ (sg = 1 ∨ sg = -1) := by
    simp only [List.mem_cons, List.not_mem_nil, or_false] at hd
    rcases hd with rfl | rfl
    · exact ⟨1, rfl, .inl rfl⟩
    · exact ⟨-1, rfl, .inr rfl⟩
  walk_at "d"
  refine ⟨mulW (a := 60) (b := 60) (by omega) (by omega) (by decide), ?_⟩
  have hb : b0 * sg ≠ 0 ∧ (b0 * sg).natAbs ≤ 1009 := by
    rcases c3 with h | h <;> rw [h] <;> omega
  generalize b0 * sg = b at *
  walk_at "d"
  refine r_newL ?_
  walk_at "d"
  refine r_for [3] ?_
  refine ei_range1 ?_
  walk_at "d"
  refine ⟨_, 0, rfl, rfl, ⟨by omega, lit_bit (by omega) (by decide)⟩, fun _ ⟨x1, e1, a1, b1⟩ => ?_⟩
  subst e1
  walk_at "d"
  refine ⟨_, rfl, by omega, by omega, fun i ρ M => ∃ (ns : List Int) (o3 o4 o5 o6 o7 o8 o9 o10 : Option Sl), ρ = [some (.l 0), some (.v (.int b)), some (.l 1), o3, o4, o5, o6, o7, o8, o9, o10] ∧ M = [.rng, .lst (D.ints ns)] ∧ ns.length = i ∧ (∀ n, n ∈ ns → n ≠ 0 ∧ n.natAbs ≤ 1000000) ∧ NormB b ns, ⟨[], _, _, _, _, _, _, _, _, rfl, rfl, rfl, fun n h => by simp at h, ⟨1, 0, by show (1 : Int) = 1 * 1 + b * (0 * 0); simp⟩⟩, ?_, ?_⟩
  · rintro i d ρ M hi ⟨ns, o3, o4, o5, o6, o7, o8, o9, o10, rfl, rfl, hl, hn, hN⟩
    obtain ⟨hil, rfl⟩ := rangeD_get hi
    walk_at "d"
    refine ⟨_, 0, rfl, rfl, ⟨by omega, lit_bit (by omega) (by decide)⟩, fun _ ⟨u0, e1, a2, b2⟩ => ?_⟩
    subst e1
    walk_at "d"
    refine ⟨_, 0, rfl, rfl, ⟨by omega, lit_bit (by omega) (by decide)⟩, fun _ ⟨v, e1, a3, b3⟩ => ?_⟩
    subst e1
    walk_at "d"
    refine ⟨_, _, rfl, ?_⟩
    generalize hu : 1 + u0 = u at *
    have uu : u * u ≤ 700 * 700 := Int.mul_le_mul (by omega) (by omega) (by omega) (by omega)
    have uu0 : 1 * 1 ≤ u * u := Int.mul_le_mul (by omega) (by omega) (by omega) (by omega)
    have vv : v * v ≤ 19 * 19 := Int.mul_le_mul (by omega) (by omega) (by omega) (by omega)
    have vv0 : 0 ≤ v * v := Int.mul_nonneg (by omega) (by omega)
    have bvv : (b * (v * v)).natAbs ≤ 1009 * 361 := by
      rw [Int.natAbs_mul]
      exact Nat.mul_le_mul hb.2 (by omega)
    walk_at "d"
    refine r_asg ?_
    walk_at "d"
    refine ⟨mulW (a := 60) (b := 60) (by omega) (by omega) (by decide), ?_⟩
    walk_at "d"
    refine ⟨mulW (a := 60) (b := 60) (by omega) (by omega) (by decide), ?_⟩
    walk_at "d"
    have bv : (b * v).natAbs ≤ 1009 * 19 := by
      rw [Int.natAbs_mul]
      exact Nat.mul_le_mul hb.2 (by omega)
    refine ⟨mulW (a := 60) (b := 60) (by omega) (by omega) (by decide), ?_⟩
    rw [Int.mul_assoc b v v]
    walk_at "d"
    refine ite_ndec (fun h => ?_) (fun h => ?_)
    · walk_at "d"
      refine ⟨_, rfl, by simp [D.ints]; omega, ns ++ [u * u + b * (v * v)], _, _, _, _, _, _, _, _, rfl, by simp [D.ints], by simp [hl], fun n hm => ?_, ?_⟩
      · rcases List.mem_append.mp hm with z | z
        · exact hn n z
        · simp at z; subst z; omega
      · exact hN.snoc u v
    · walk_at "d"
      refine ⟨mulW (a := 60) (b := 60) (by omega) (by omega) (by decide), ?_⟩
      refine ⟨_, rfl, by simp [D.ints]; omega, ns ++ [u * u], _, _, _, _, _, _, _, _, rfl, by simp [D.ints], by simp [hl], fun n hm => ?_, ?_⟩
      · rcases List.mem_append.mp hm with z | z
        · exact hn n z
        · simp at z; subst z; omega
      · have k := hN.snoc u 0
        rwa [show u * u + b * (0 * 0) = u * u by simp] at k
  · rintro ρ M ⟨ns, o3, o4, o5, o6, o7, o8, o9, o10, rfl, rfl, hl, hn, hN⟩
    rw [rangeD_len] at hl
    walk_at "d"
    refine r_asg ?_
    walk_at "d"
    refine ⟨_, 0, rfl, rfl, ⟨le_lit rfl, le_lit rfl⟩, fun d hd => ?_⟩
    obtain ⟨cap, rfl, g1, g2⟩ : ∃ cap : Int, d = .int cap ∧ 1 ≤ cap ∧ cap ≤ 1000000 := by
      simp only [List.mem_cons, List.not_mem_nil, or_false] at hd
      rcases hd with rfl | rfl | rfl <;> exact ⟨_, rfl, by decide, by decide⟩
    walk_at "d"
    refine ⟨_, 0, rfl, rfl, ⟨by omega, lit_bit (by omega) (by decide)⟩, fun _ ⟨c0, e1, a4, b4⟩ => ?_⟩
    subst e1
    walk_at "d"
    refine r_asg ?_
    walk_at "d"
    refine ⟨_, 0, rfl, rfl, ⟨le_lit rfl, le_lit rfl⟩, fun d hd => ?_⟩
    obtain ⟨cap2, rfl, g3, g4⟩ : ∃ cap : Int, d = .int cap ∧ 1 ≤ cap ∧ cap ≤ 1000 := by
      simp only [List.mem_cons, List.not_mem_nil, or_false] at hd
      rcases hd with rfl | rfl | rfl <;> exact ⟨_, rfl, by decide, by decide⟩
    walk_at "d"
    refine ⟨_, 0, rfl, rfl, ⟨by omega, lit_bit (by omega) (by decide)⟩, fun _ ⟨s0, e1, a5, b5⟩ => ?_⟩
    subst e1
    walk_at "d"
    refine r_asg ?_
    walk_at "d"
    refine g_addT (le_lit rfl) ?_
    walk_at "d"
    refine g_addT (le_lit rfl) ?_
    walk_at "d"
    refine g_addT (le_lit rfl) ?_
    walk_at "d"
    refine g_addT (by simp [D.ints]; omega) ?_
    have wA : Wt [1 + c0] := ⟨le_lit rfl, le_lit rfl, fun n hm => by simp at hm; subst hm; omega⟩
    have wB : Wt ([b] ++ [1 + c0] ++ [1 + s0, 1 + s0]) := ⟨le_lit rfl, le_lit rfl, fun n hm => by
      simp at hm
      rcases hm with rfl | rfl | rfl | rfl <;> omega⟩
    have wC : Wt ([1 + c0] ++ [-1] ++ ns) := ⟨by simp, by simp; omega, fun n hm => by
      simp only [List.mem_append, List.mem_singleton] at hm
      rcases hm with (rfl | rfl) | hm
      · omega
      · decide
      · exact hn n hm⟩
    have pl : Plant [1 + c0] ([b] ++ [1 + c0] ++ [1 + s0, 1 + s0]) ([1 + c0] ++ [-1] ++ ns) := plant_of (by omega) hN
    walk_at "d"
    refine r_asg ?_
    walk_at "d"
    refine ⟨_, 0, rfl, rfl, ⟨by omega, lit_bit (by omega) (by decide)⟩, fun _ ⟨sp, e1, a6, b6⟩ => ?_⟩
    subst e1
    walk_at "d"
    refine ev_slL ?_
    walk_at "d"
    have h3 : sp = 0 ∨ sp = 1 ∨ sp = 2 := by omega
    rcases h3 with rfl | rfl | rfl
    · refine ⟨_, .v, ?_⟩
      refine ev_slL ?_
      walk_at "d"
      refine ⟨_, .v, ?_⟩
      refine g_addL .v .v (le_lit rfl) ?_
      walk_at "d"
      exact ret_v ⟨rfl, [1 + c0], [b] ++ [1 + c0] ++ [1 + s0, 1 + s0], [1 + c0] ++ [-1] ++ ns, rfl, ⟨wA, wB, wC⟩, pl⟩
    · refine ⟨_, .v, ?_⟩
      refine ev_slL ?_
      walk_at "d"
      refine ⟨_, .v, ?_⟩
      refine g_addL .v .v (le_lit rfl) ?_
      walk_at "d"
      exact ret_v ⟨rfl, [b] ++ [1 + c0] ++ [1 + s0, 1 + s0], [1 + c0] ++ [-1] ++ ns, [1 + c0], rfl, ⟨wB, wC, wA⟩, pl.rot⟩
    · refine ⟨_, .v, ?_⟩
      refine ev_slL ?_
      walk_at "d"
      refine ⟨_, .v, ?_⟩
      refine g_addL .v .v (le_lit rfl) ?_
      walk_at "d"
      exact ret_v ⟨rfl, [1 + c0] ++ [-1] ++ ns, [1 + c0], [b] ++ [1 + c0] ++ [1 + s0, 1 + s0], rfl, ⟨wC, wA, wB⟩, pl.rot.rot⟩

end
section
variable {P : Program} {w : World} {K : PySem.W.Frag} {mg : Str → Option Value} {base : Heap} {a : Adr}
/-! ### an answer, as the law tells it -/
open NT in
theorem ok__law_is_answer (C : Ctx K mg a) : FnAt P w K mg base CX0 2 "_law_is_answer" ["_law_numbers", "_law_thing"] (SpP K (fun x : List Int × List Int => [.tup (D.ints x.1), .tup (D.ints x.2)]) (fun x => (x.1.length = x.2.length ∧ x.1.length ≤ 1000) ∧ (∀ n, n ∈ x.1 → n.natAbs < 2 ^ 4000) ∧ ∀ o, o ∈ x.2 → o.natAbs < 2 ^ 90000) (fun x d => d = .bl (decide (gcdL x.2 = 1) && decide (comeL x.1 x.2 = 0)))) := by
  refine fn_at C.d__law_is_answer sc__law_is_answer (fun _ => rfl) fun f cdv A outer s H E hr => ⟨_, (pss_cons (ps_if (PW.pt (pw_or (pt_not (pt_val (pe_isi (K := K) C.B.isinstance rfl (pa_cons (pv 1) (pa_cons (pe_bltn (v := .ty "tuple") rfl C.B.tuple (by decide +kernel) rfl) pa_nil))))) (pw_or1 (pt_cmpR (op_gNe (K := K) (by exact hr.units)) (pe_len (K := K) C.B.len rfl (pa_cons (pv 1) pa_nil)) (pe_len (K := K) C.B.len rfl (pa_cons (pv 0) pa_nil)) (nomark _)))))
    (pss_one (ps_ret pe_bl))
    pss_nil)
    (pss_cons (ps_if (pt_cmpR (op_gNe (K := K) (by exact hr.units)) (pe_lc (own := [("_law_one", 2)]) (g := (gName 2)) (tt := _) rfl sc__law_is_answer.nd (pi_seq (K := K) (pv 1)) (blkOk_by (N := n__law_is_answer) (sc := defScope s__law_is_answer) (by decide +kernel)) (fun _ _ _ _ _ => (pg_name (i := 2) sc__law_is_answer.nd rfl (by first | exact Or.inl rfl | exact Or.inr rfl))) (fun _ _ _ _ _ => (pts_one (PW.pt (pw_or (pt_not (pt_val (pe_isi (K := K) C.B.isinstance rfl (pa_cons (pv 2) (pa_cons (pe_bltn (v := .ty "int") rfl C.B.int (by decide +kernel) rfl) pa_nil))))) (pw_or1 (pt_val (pe_isi (K := K) C.B.isinstance rfl (pa_cons (pv 2) (pa_cons (pe_bltn (v := .ty "bool") rfl C.B.bool (by decide +kernel) rfl) pa_nil))))))))) (fun _ _ _ _ _ => (pv 2))) (pe_lst pa_nil) (nomark _))
    (pss_one (ps_ret pe_bl))
    pss_nil)
    (pss_one (ps_ret (pe_and (pe_cmpR (op_gEq (K := K) (by exact hr.units)) (pe_fn (ok__law_gcd C) (hr.mono (by omega)) rfl (pa_cons (pv 1) pa_nil)) pe_int (nomark _)) (pe_one (pe_cmpR (op_gEq (K := K) (by exact hr.units)) (pe_fn (ok__law_come C) (hr.mono (by omega)) rfl (pa_cons (pv 0) (pa_cons (pv 1) pa_nil))) pe_int (nomark _)))))))), fun x e hp he => ?_⟩
  obtain ⟨ns, ms⟩ := x
  obtain ⟨⟨hl, h3⟩, hn, hm⟩ := hp
  have hl : ns.length = ms.length := hl
  have h3 : ns.length ≤ 1000 := h3
  have hn : ∀ n, n ∈ ns → n.natAbs < 2 ^ 4000 := hn
  have hm : ∀ o, o ∈ ms → o.natAbs < 2 ^ 90000 := hm
  dsimp only [cxOf]
  walk_at "d"
  have t0 : (!isTupD (D.tup (D.ints ms))) = false := rfl
  rw [t0]
  refine iteF ?_
  have lm : (D.ints ms).length = ms.length := by simp [D.ints]
  have ln : (D.ints ns).length = ns.length := by simp [D.ints]
  walk_at "d"
  rw [lm, ln]
  refine ite_ndec (fun h => absurd (by omega) h) (fun h => ?_)
  walk_at "d"
  refine ev_lc (ei_seqT ?_)
  walk_at "d"
  refine ⟨_, rfl, by omega, fun i acc => acc = [], rfl, ?_, ?_⟩
  · rintro i d acc hi rfl
    obtain ⟨n, hn', rfl⟩ := ints_get hi
    walk_at "d"
    have i0 : (!isIntD (D.int n)) = false := rfl
    rw [i0]
    refine iteF ?_
    walk_at "d"
    refine iteF ?_
    exact rfl
  rintro acc rfl
  walk_at "d"
  refine g_neD 5 (pl_lstI (n := 4) []) (pl_lstI (n := 4) []) (by decide) ?_
  have e0 : (!(D.lst []).eqv (D.lst [])) = false := rfl
  rw [e0]
  refine ⟨_, rfl, iteF ?_⟩
  walk_at "d"
  refine ⟨(true, ms), rfl, trivial, fun d ed => ?_⟩
  subst ed
  walk_at "d"
  refine ite_dec (fun h => ?_) (fun h => ?_)
  · have h : gcdL ms = 1 := by
      have h : ((gcdL ms : Nat) : Int) = 1 := h
      omega
    walk_at "d"
    refine ⟨(true, ns, true, ms), rfl, ⟨⟨hl, h3⟩, hn, hm⟩, fun d ed => ?_⟩
    subst ed
    walk_at "d"
    refine ret_v ?_
    rw [decide_eq_true h, Bool.true_and]
  · have h : ¬ gcdL ms = 1 := fun z => h (by
      show ((gcdL ms : Nat) : Int) = 1
      omega)
    refine ret_v ?_
    rw [decide_eq_false h, Bool.false_and]

end
section
variable {P : Program} {w : World} {K : PySem.W.Frag} {mg : Str → Option Value} {base : Heap} {a : Adr}
/-! ### three plain weights with the answer (1, 1, 1) -/
theorem ok__law_plain (C : Ctx K mg a) : FnAt P w K mg base CX0 3 "_law_plain" ["_law_h"] (SpG K (fun _ : Unit => []) (fun _ => True) (fun _ d => ∃ v0 v1 v2, d = .tup [wt v0, wt v1, wt v2] ∧ (Wt v0 ∧ Wt v1 ∧ Wt v2) ∧ Plant v0 v1 v2)) := by
  refine fn_at C.d__law_plain sc__law_plain (fun _ => rfl) fun f cdv A outer s H E hr => ⟨_, (pss_cons (ps_par (i := 3) (j := 4) rfl sc__law_plain.nd rfl rfl (by decide) rfl rfl (pa_cons (pe_op (op_gAdd (K := K)) pe_int (pe_fn (ok__law_next C) (hr.mono (by omega)) rfl (pa_cons (pv 0) (pa_cons (pe_fn (ok__law_pick C) (hr.mono (by omega)) rfl (pa_cons (pv 0) (pa_cons (pe_lst (pa_cons pe_int (pa_cons pe_int pa_nil))) pa_nil))) pa_nil)))) (pa_cons (pe_op (op_gAdd (K := K)) pe_int (pe_fn (ok__law_next C) (hr.mono (by omega)) rfl (pa_cons (pv 0) (pa_cons (pe_fn (ok__law_pick C) (hr.mono (by omega)) rfl (pa_cons (pv 0) (pa_cons (pe_lst (pa_cons pe_int (pa_cons pe_int pa_nil))) pa_nil))) pa_nil)))) pa_nil)) rfl)
    (pss_cons (ps_set (i := 1) sc__law_plain.nd rfl (by first | exact Or.inl rfl | exact Or.inr rfl) (pe_lst (pa_cons (pe_tup (pa_cons (pv 3) pa_nil)) (pa_cons (pe_tup (pa_cons (pv 4) pa_nil)) (pa_cons (pe_tup (pa_cons (pe_op op_gSub (pe_un un_neg (pv 3)) (pv 4)) pa_nil)) pa_nil)))))
    (pss_cons (ps_set (i := 2) sc__law_plain.nd rfl (by first | exact Or.inl rfl | exact Or.inr rfl) (pe_fn (ok__law_next C) (hr.mono (by omega)) rfl (pa_cons (pv 0) (pa_cons pe_int pa_nil))))
    (pss_one (ps_ret (pe_tupOf (K := K) C.B.tuple rfl (pa_cons (pe_op (op_gAdd (K := K)) (pe_slice sl_list (pv 1) (po_some (pv 2)) po_none) (pe_slice sl_list (pv 1) po_none (po_some (pv 2)))) pa_nil))))))), fun x e hp he => ?_⟩
  dsimp only [cxOf]
  walk_at "d"
  refine ⟨_, 0, rfl, rfl, ⟨le_lit rfl, le_lit rfl⟩, fun d hd => ?_⟩
  obtain ⟨c1, rfl, g1, g2⟩ : ∃ cap : Int, d = .int cap ∧ 1 ≤ cap ∧ cap ≤ 499999 := by
    simp only [List.mem_cons, List.not_mem_nil, or_false] at hd
    rcases hd with rfl | rfl <;> exact ⟨_, rfl, by decide, by decide⟩
  walk_at "d"
  refine ⟨_, 0, rfl, rfl, ⟨by omega, lit_bit (by omega) (by decide)⟩, fun _ ⟨x1, e1, a1, b1⟩ => ?_⟩
  subst e1
  walk_at "d"
  refine ⟨_, 0, rfl, rfl, ⟨le_lit rfl, le_lit rfl⟩, fun d hd => ?_⟩
  obtain ⟨c2, rfl, g3, g4⟩ : ∃ cap : Int, d = .int cap ∧ 1 ≤ cap ∧ cap ≤ 499999 := by
    simp only [List.mem_cons, List.not_mem_nil, or_false] at hd
    rcases hd with rfl | rfl <;> exact ⟨_, rfl, by decide, by decide⟩
  walk_at "d"
  refine ⟨_, 0, rfl, rfl, ⟨by omega, lit_bit (by omega) (by decide)⟩, fun _ ⟨x2, e1, a2, b2⟩ => ?_⟩
  subst e1
  walk_at "d"
  refine ⟨_, _, rfl, ?_⟩
  generalize hu : 1 + x1 = u at *
  generalize hv : 1 + x2 = v at *
  walk_at "d"
  refine r_asg ?_
  walk_at "d"
  have w1 : ∀ {n : Int}, n ≠ 0 → n.natAbs ≤ 1000000 → Wt [n] := fun h1 h2 => ⟨le_lit rfl, le_lit rfl, fun k hk => by simp at hk; subst hk; exact ⟨h1, h2⟩⟩
  have wA : Wt [u] := w1 (by omega) (by omega)
  have wB : Wt [v] := w1 (by omega) (by omega)
  have wC : Wt [-u - v] := w1 (by omega) (by omega)
  have pl : Plant [u] [v] [-u - v] := ⟨1, 1, 1, by decide, by
    show 1 * u * (1 * 1) + 1 * v * (1 * 1) + 1 * (-u - v) * (1 * 1) = 0
    omega⟩
  walk_at "d"
  refine r_asg ?_
  walk_at "d"
  refine ⟨_, 0, rfl, rfl, ⟨by omega, lit_bit (by omega) (by decide)⟩, fun _ ⟨sp, e1, a6, b6⟩ => ?_⟩
  subst e1
  walk_at "d"
  refine ev_slL ?_
  walk_at "d"
  have h3 : sp = 0 ∨ sp = 1 ∨ sp = 2 := by omega
  rcases h3 with rfl | rfl | rfl
  · refine ⟨_, .v, ?_⟩
    refine ev_slL ?_
    walk_at "d"
    refine ⟨_, .v, ?_⟩
    refine g_addL .v .v (le_lit rfl) ?_
    walk_at "d"
    exact ret_v ⟨rfl, [u], [v], [-u - v], rfl, ⟨wA, wB, wC⟩, pl⟩
  · refine ⟨_, .v, ?_⟩
    refine ev_slL ?_
    walk_at "d"
    refine ⟨_, .v, ?_⟩
    refine g_addL .v .v (le_lit rfl) ?_
    walk_at "d"
    exact ret_v ⟨rfl, [v], [-u - v], [u], rfl, ⟨wB, wC, wA⟩, pl.rot⟩
  · refine ⟨_, .v, ?_⟩
    refine ev_slL ?_
    walk_at "d"
    refine ⟨_, .v, ?_⟩
    refine g_addL .v .v (le_lit rfl) ?_
    walk_at "d"
    exact ret_v ⟨rfl, [-u - v], [u], [v], rfl, ⟨wC, wA, wB⟩, pl.rot.rot⟩

end
section
variable {P : Program} {w : World} {K : PySem.W.Frag} {mg : Str → Option Value} {base : Heap} {a : Adr}
theorem wt_of (ns : List Int) (h1 : 1 ≤ ns.length) (h2 : ns.length ≤ 5) (h3 : ∀ n, n ∈ ns → n ≠ 0 ∧ n.natAbs ≤ 1000000) : Wt ns := ⟨h1, h2, h3⟩
theorem ok__law_weight (C : Ctx K mg a) : FnAt P w K mg base CX0 3 "_law_weight" ["_law_h"] (SpG K (fun _ : Unit => []) (fun _ => True) (fun _ d => ∃ ns, d = wt ns ∧ Wt ns)) := by
  refine fn_at C.d__law_weight sc__law_weight (fun _ => rfl) fun f cdv A outer s H E hr => ⟨_, (pss_cons (ps_par (i := 2) (j := 3) rfl sc__law_weight.nd rfl rfl (by decide) rfl rfl (pa_cons (pe_lst pa_nil) (pa_cons (pe_fn (ok__law_pick C) (hr.mono (by omega)) rfl (pa_cons (pv 0) (pa_cons (pe_lst (pa_cons pe_int (pa_cons pe_int (pa_cons pe_int (pa_cons pe_int (pa_cons pe_int (pa_cons (pe_op op_gPow pe_int pe_int) pa_nil))))))) pa_nil))) pa_nil)) rfl)
    (pss_cons (ps_for PassesOwn.never rfl (pi_range1 rfl C.B.range (pa_cons (pe_fn (ok__law_pick C) (hr.mono (by omega)) rfl (pa_cons (pv 0) (pa_cons (pe_lst (pa_cons pe_int (pa_cons pe_int (pa_cons pe_int (pa_cons pe_int (pa_cons pe_int (pa_cons pe_int pa_nil))))))) pa_nil))) pa_nil)) (pg_name (i := 1) sc__law_weight.nd rfl (by first | exact Or.inl rfl | exact Or.inr rfl))
    (pss_one (ps_expr (pe_bm PySem.F.plainAttrs_list PySem.F.slot_list_append PySem.F.type_list_append mt_append (pv 2) (pa_cons (pe_op (op_gMul (K := K)) (pe_op (op_gAdd (K := K)) pe_int (pe_fn (ok__law_next C) (hr.mono (by omega)) rfl (pa_cons (pv 0) (pa_cons (pv 3) pa_nil)))) (pe_fn (ok__law_pick C) (hr.mono (by omega)) rfl (pa_cons (pv 0) (pa_cons (pe_lst (pa_cons pe_int (pa_cons pe_int (pa_cons (pe_un un_neg pe_int) pa_nil)))) pa_nil)))) pa_nil)))))
    (pss_one (ps_ret (pe_tupOf (K := K) C.B.tuple rfl (pa_cons (pv 2) pa_nil)))))), fun x e hp he => ?_⟩
  have he : e.α.length = 1 := he
  dsimp only [cxOf]
  refine r_seq (r_parN ?_)
  refine ena_cons (en_newL (ea_nil ⟨[], rfl, by decide, ena_cons (en_ev ?_)⟩))
  walk_at "d"
  refine ⟨_, 0, rfl, rfl, ⟨le_lit rfl, le_lit rfl⟩, fun d hd => ?_⟩
  refine ena_nil ⟨_, _, rfl, ?_⟩
  obtain ⟨cap, rfl, c1, c2⟩ : ∃ cap : Int, d = .int cap ∧ 1 ≤ cap ∧ cap ≤ 1000000 := by
    simp only [List.mem_cons, List.not_mem_nil, or_false] at hd
    rcases hd with rfl | rfl | rfl | rfl | rfl | rfl <;> exact ⟨_, rfl, by decide, by decide⟩
  walk_at "d"
  refine r_for [1] ?_
  refine ei_range1 ?_
  walk_at "d"
  refine ⟨_, 0, rfl, rfl, ⟨le_lit rfl, le_lit rfl⟩, fun d hd => ?_⟩
  obtain ⟨q, rfl, q1, q2⟩ : ∃ q : Int, d = .int q ∧ 1 ≤ q ∧ q ≤ 5 := by
    simp only [List.mem_cons, List.not_mem_nil, or_false] at hd
    rcases hd with rfl | rfl | rfl | rfl | rfl | rfl <;> exact ⟨_, rfl, by decide, by decide⟩
  walk_at "d"
  refine ⟨q, rfl, by omega, by omega, fun i ρ M => ∃ (ns : List Int) (o1 : Option Sl), ρ = [some (.l 0), o1, some (.l 1), some (.v (.int cap))] ∧ M = [.rng, .lst (D.ints ns)] ∧ ns.length = i ∧ ∀ n, n ∈ ns → n ≠ 0 ∧ n.natAbs ≤ 1000000, ⟨[], none, rfl, rfl, rfl, fun n h => by simp at h⟩, ?_, ?_⟩
  · rintro i d ρ M hi ⟨ns, o1, rfl, rfl, hl, hb⟩
    obtain ⟨hil, rfl⟩ := rangeD_get hi
    walk_at "d"
    refine ⟨_, 0, rfl, rfl, ⟨by omega, lit_bit (by omega) (by decide)⟩, fun _ ⟨x1, e1, a1, b1⟩ => ?_⟩
    subst e1
    walk_at "d"
    refine ⟨_, 0, rfl, rfl, ⟨le_lit rfl, le_lit rfl⟩, fun d hd => ?_⟩
    obtain ⟨sg, rfl, hs⟩ : ∃ sg : Int, d = .int sg ∧ (sg = 1 ∨ sg = -1) := by
      simp only [List.mem_cons, List.not_mem_nil, or_false] at hd
      rcases hd with rfl | rfl | rfl
      · exact ⟨_, rfl, .inl rfl⟩
      · exact ⟨_, rfl, .inl rfl⟩
      · exact ⟨_, rfl, .inr rfl⟩
    walk_at "d"
    refine ⟨mulW (a := 60) (b := 60) (by omega) (by rcases hs with rfl | rfl <;> decide) (by decide), _, rfl, by simp [D.ints]; omega, ns ++ [(1 + x1) * sg], _, rfl, by simp [D.ints], by simp [hl], fun n hn => ?_⟩
    rcases List.mem_append.mp hn with h | h
    · exact hb n h
    · simp at h
      subst h
      rcases hs with rfl | rfl <;> omega
  · rintro ρ M ⟨ns, o1, rfl, rfl, hl, hb⟩
    walk_at "d"
    rw [rangeD_len] at hl
    exact ret_v ⟨rfl, ns, rfl, by omega, by omega, hb⟩

end
section
variable {P : Program} {w : World} {K : PySem.W.Frag} {mg : Str → Option Value} {base : Heap} {a : Adr}
/-! ### the places that bar, by symbols -/
open NT in
theorem chi_two {u : Int} : chi 2 u = decide (u % 8 = 3 ∨ u % 8 = 5) := by unfold chi; rw [if_pos rfl]
theorem tw_000 {x y z : Int} (hx : x % 2 = 1) (hy : y % 2 = 1) (hz : z % 2 = 1) : (decide (-(x * z) % 4 = 3) && decide (-(y * z) % 4 = 3)) = twoB x y z := by
  have e1 : (x * z) % 4 = ((x % 4) * (z % 4)) % 4 := Int.mul_emod ..
  have e2 : (y * z) % 4 = ((y % 4) * (z % 4)) % 4 := Int.mul_emod ..
  have nx : ¬ x % 2 = 0 := by omega
  have ny : ¬ y % 2 = 0 := by omega
  have nz : ¬ z % 2 = 0 := by omega
  unfold twoB
  rw [if_neg nx, if_neg ny, if_neg nz]
  have a : x % 4 = 1 ∨ x % 4 = 3 := by omega
  have b : y % 4 = 1 ∨ y % 4 = 3 := by omega
  have c : z % 4 = 1 ∨ z % 4 = 3 := by omega
  rcases a with a | a <;> rcases b with b | b <;> rcases c with c | c <;> rw [a, c] at e1 <;> rw [b, c] at e2
  all_goals
    have f1 : (-(x * z) % 4 = 3) = ((x * z) % 4 = 1) := propext (by omega)
    have f2 : (-(y * z) % 4 = 3) = ((y * z) % 4 = 1) := propext (by omega)
    have g1 : ((x + z) % 4 = 0) = (((x % 4) + (z % 4)) % 4 = 0) := propext (by omega)
    have g2 : ((y + x) % 4 = 0) = (((y % 4) + (x % 4)) % 4 = 0) := propext (by omega)
    have g3 : ((z + y) % 4 = 0) = (((z % 4) + (y % 4)) % 4 = 0) := propext (by omega)
    simp only [f1, f2, g1, g2, g3, a, b, c, e1, e2]
    decide
/-- the even one first: c, x, y with 2 c, x, y -/
theorem tw_e {c x y : Int} (hc : c % 2 = 1) (hx : x % 2 = 1) (hy : y % 2 = 1) : (decide (-(x * y) % 8 = 3 ∨ -(x * y) % 8 = 5) ^^ (decide (-(c * y) % 4 = 3) && decide (-(x * y) % 4 = 3))) = (!decide ((x + y) % 8 = 0) && !decide ((x + y + 2 * c) % 8 = 0)) := by
  have e1 : (x * y) % 8 = ((x % 8) * (y % 8)) % 8 := Int.mul_emod ..
  have e2 : (c * y) % 8 = ((c % 8) * (y % 8)) % 8 := Int.mul_emod ..
  rcases NT.odd8 hc with k | k | k | k <;> rcases NT.odd8 hx with l | l | l | l <;> rcases NT.odd8 hy with m | m | m | m <;> rw [l, m] at e1 <;> rw [k, m] at e2
  all_goals
    have f1 : (-(x * y) % 8 = 3) = ((x * y) % 8 = 5) := propext (by omega)
    have f2 : (-(x * y) % 8 = 5) = ((x * y) % 8 = 3) := propext (by omega)
    have f3 : (-(x * y) % 4 = 3) = ((x * y) % 8 % 4 = 1) := propext (by omega)
    have f4 : (-(c * y) % 4 = 3) = ((c * y) % 8 % 4 = 1) := propext (by omega)
    have g1 : ((x + y) % 8 = 0) = (((x % 8) + (y % 8)) % 8 = 0) := propext (by omega)
    have g2 : ((x + y + 2 * c) % 8 = 0) = (((x % 8) + (y % 8) + 2 * (c % 8)) % 8 = 0) := propext (by omega)
    simp only [f1, f2, f3, f4, g1, g2, k, l, m, e1, e2]
    decide
/-- the even one last -/
theorem tw_l {c x y : Int} (hc : c % 2 = 1) (hx : x % 2 = 1) (hy : y % 2 = 1) :
    (decide (-(x * c) % 8 = 3 ∨ -(x * c) % 8 = 5) ^^ (decide (-(y * c) % 8 = 3 ∨ -(y * c) % 8 = 5) ^^ (decide (-(x * c) % 4 = 3) && decide (-(y * c) % 4 = 3)))) = (!decide ((x + y) % 8 = 0) && !decide ((x + y + 2 * c) % 8 = 0)) := by
  have e1 : (x * c) % 8 = ((x % 8) * (c % 8)) % 8 := Int.mul_emod ..
  have e2 : (y * c) % 8 = ((y % 8) * (c % 8)) % 8 := Int.mul_emod ..
  rcases NT.odd8 hc with k | k | k | k <;> rcases NT.odd8 hx with l | l | l | l <;> rcases NT.odd8 hy with m | m | m | m <;> rw [l, k] at e1 <;> rw [m, k] at e2
  all_goals
    have f1 : (-(x * c) % 8 = 3) = ((x * c) % 8 = 5) := propext (by omega)
    have f2 : (-(x * c) % 8 = 5) = ((x * c) % 8 = 3) := propext (by omega)
    have f3 : (-(x * c) % 4 = 3) = ((x * c) % 8 % 4 = 1) := propext (by omega)
    have f5 : (-(y * c) % 8 = 3) = ((y * c) % 8 = 5) := propext (by omega)
    have f6 : (-(y * c) % 8 = 5) = ((y * c) % 8 = 3) := propext (by omega)
    have f4 : (-(y * c) % 4 = 3) = ((y * c) % 8 % 4 = 1) := propext (by omega)
    have g1 : ((x + y) % 8 = 0) = (((x % 8) + (y % 8)) % 8 = 0) := propext (by omega)
    have g2 : ((x + y + 2 * c) % 8 = 0) = (((x % 8) + (y % 8) + 2 * (c % 8)) % 8 = 0) := propext (by omega)
    simp only [f1, f2, f3, f4, f5, f6, g1, g2, k, l, m, e1, e2]
    decide
/-- p once, or not at all -/
theorem A_has {s : Int} {B : List Nat} (hs : s = 1 ∨ s = -1) (nd : B.Nodup) (hp : ∀ p, p ∈ B → NT.Pr p) {p : Nat} (hm : p ∈ B) : ∃ c : Int, s * prodL (nI B) = (p : Int) * c ∧ ¬ (p : Int) ∣ c := by
  have pe := List.perm_cons_erase hm
  have hpr := hp p hm
  refine ⟨s * ((B.erase p).prod : Nat), ?_, fun d => ?_⟩
  · rw [prodL_nI, pe.prod_nat, List.prod_cons, Int.natCast_mul]; grind
  · have h1 : p ∣ (B.erase p).prod := by
      rw [Int.ofNat_dvd_left, Int.natAbs_mul] at d
      rcases hs with e | e <;> rw [e] at d <;> simpa using d
    exact (nd.not_mem_erase) (prod_dvd_mem hpr (fun q hq => hp q (List.mem_of_mem_erase hq)) h1)
theorem A_not {s : Int} {B : List Nat} (hs : s = 1 ∨ s = -1) (hp : ∀ p, p ∈ B → NT.Pr p) {p : Nat} (hpr : NT.Pr p) (hm : p ∉ B) : ¬ (p : Int) ∣ s * prodL (nI B) := fun d => by
  rw [prodL_nI, Int.ofNat_dvd_left, Int.natAbs_mul] at d
  have : p ∣ B.prod := by rcases hs with e | e <;> rw [e] at d <;> simpa using d
  exact hm (prod_dvd_mem hpr hp this)
open NT in
theorem bad_hs {x : NV} (h : x.Fine) {p : Nat} (hp : Pr p) : x.Bad p ↔ hs p (-(x.A0 * x.A2)) (-(x.A1 * x.A2)) = true := by
  have p0 : (p : Int) ≠ 0 := by have := hp.1; omega
  have i0 : p ∈ x.B0 → ∃ c : Int, x.A0 = (p : Int) * c ∧ ¬ (p : Int) ∣ c := A_has h.ok.s0 h.n0 h.p0
  have i1 : p ∈ x.B1 → ∃ c : Int, x.A1 = (p : Int) * c ∧ ¬ (p : Int) ∣ c := A_has h.ok.s1 h.n1 h.p1
  have i2 : p ∈ x.B2 → ∃ c : Int, x.A2 = (p : Int) * c ∧ ¬ (p : Int) ∣ c := A_has h.ok.s2 h.n2 h.p2
  have j0 : p ∉ x.B0 → ¬ (p : Int) ∣ x.A0 := A_not h.ok.s0 h.p0 hp
  have j1 : p ∉ x.B1 → ¬ (p : Int) ∣ x.A1 := A_not h.ok.s1 h.p1 hp
  have j2 : p ∉ x.B2 → ¬ (p : Int) ∣ x.A2 := A_not h.ok.s2 h.p2 hp
  have mm : ∀ {a b : Int}, ¬ (p : Int) ∣ a → ¬ (p : Int) ∣ b → ¬ (p : Int) ∣ -(a * b) := fun ha hb => neg_nd fun d => (hp.dvdI d).elim ha hb
  have nz : ∀ {a : Int}, ¬ (p : Int) ∣ a → a ≠ 0 := fun ha z => ha (by rw [z]; exact Int.dvd_zero _)
  have z0 : p ≠ 0 := by have := hp.1; omega
  -- the four cases
  have cases4 : (p ∈ x.B0 ∧ p ∉ x.B1 ∧ p ∉ x.B2) ∨ (p ∉ x.B0 ∧ p ∈ x.B1 ∧ p ∉ x.B2) ∨ (p ∉ x.B0 ∧ p ∉ x.B1 ∧ p ∈ x.B2) ∨ (p ∉ x.B0 ∧ p ∉ x.B1 ∧ p ∉ x.B2) := by
    by_cases a : p ∈ x.B0
    · exact .inl ⟨a, h.d01 p a, h.d02 p a⟩
    · by_cases b : p ∈ x.B1
      · exact .inr (.inl ⟨a, b, h.d12 p b⟩)
      · by_cases c : p ∈ x.B2
        · exact .inr (.inr (.inl ⟨a, b, c⟩))
        · exact .inr (.inr (.inr ⟨a, b, c⟩))
  have odd2 : p = 2 → ∀ {a : Int}, ¬ (p : Int) ∣ a → a % 2 = 1 := fun e a ha => by subst e; exact odd_of ha
  have two : p = 2 → (x.Bad p ↔ twoB x.A0 x.A1 x.A2 = true) := fun e => by
    subst e
    unfold NV.Bad offB
    simp
  rcases cases4 with ⟨a, b, c⟩ | ⟨a, b, c⟩ | ⟨a, b, c⟩ | ⟨a, b, c⟩
  · obtain ⟨k, ek, nk⟩ := i0 a
    have n1 := j1 b
    have n2 := j2 c
    have e1 : -(x.A0 * x.A2) = (p : Int) * -(k * x.A2) := by rw [ek]; grind
    by_cases e : p = 2
    · rw [two e]
      have o1 := odd2 e n1
      have o2 := odd2 e n2
      have ok := odd2 e nk
      subst e
      rw [e1, hs_mul hp p0 (nz (mm nk n2)), show (((2 : Nat) : Int)) = 2 from rfl, hs2_2u (mm n1 n2), hs2_units (mm nk n2) (mm n1 n2), chi_two, tw_e ok o1 o2]
      have ev : x.A0 % 2 = 0 := by rw [ek, show (((2 : Nat) : Int)) = 2 from rfl]; omega
      unfold twoB
      rw [if_pos ev, ek, show (((2 : Nat) : Int)) = 2 from rfl]
    · rw [e1, hs_mul hp p0 (nz (mm nk n2)), hs_pu hp e (mm n1 n2), hs_unit hp e (mm nk n2) (mm n1 n2)]
      unfold chi
      rw [if_neg e]
      have p3 : 2 < p := by have := hp.1; omega
      have er : x.rest0 = -(x.A1 * x.A2) := by unfold NV.rest0; grind
      unfold NV.Bad offB
      rw [er]
      simp [z0, e, a, b, c, p3]
  · obtain ⟨k, ek, nk⟩ := i1 b
    have n0 := j0 a
    have n2 := j2 c
    have e1 : -(x.A1 * x.A2) = (p : Int) * -(k * x.A2) := by rw [ek]; grind
    by_cases e : p = 2
    · rw [two e]
      have o0 := odd2 e n0
      have o2 := odd2 e n2
      have ok := odd2 e nk
      subst e
      rw [hs_symm, e1, hs_mul hp p0 (nz (mm nk n2)), show (((2 : Nat) : Int)) = 2 from rfl, hs2_2u (mm n0 n2), hs2_units (mm nk n2) (mm n0 n2), chi_two, tw_e ok o0 o2]
      have ev : x.A1 % 2 = 0 := by rw [ek, show (((2 : Nat) : Int)) = 2 from rfl]; omega
      have od : ¬ x.A0 % 2 = 0 := by omega
      unfold twoB
      rw [if_neg od, if_pos ev, ek, show (((2 : Nat) : Int)) = 2 from rfl]
    · rw [hs_symm, e1, hs_mul hp p0 (nz (mm nk n2)), hs_pu hp e (mm n0 n2), hs_unit hp e (mm nk n2) (mm n0 n2)]
      unfold chi
      rw [if_neg e]
      have p3 : 2 < p := by have := hp.1; omega
      have er : x.rest1 = -(x.A0 * x.A2) := by unfold NV.rest1; grind
      unfold NV.Bad offB
      rw [er]
      simp [z0, e, a, b, c, p3]
  · obtain ⟨k, ek, nk⟩ := i2 c
    have n0 := j0 a
    have n1 := j1 b
    have e1 : -(x.A0 * x.A2) = (p : Int) * -(x.A0 * k) := by rw [ek]; grind
    have e2 : -(x.A1 * x.A2) = (p : Int) * -(x.A1 * k) := by rw [ek]; grind
    by_cases e : p = 2
    · rw [two e]
      have o0 := odd2 e n0
      have o1 := odd2 e n1
      have ok := odd2 e nk
      subst e
      have e0 : chi 2 (-1) = false := by decide
      rw [e1, e2, hs_mul hp p0 (nz (mm n0 nk)), hs_mulR hp p0 (nz (mm n1 nk)), hs_mulR hp p0 (nz (mm n1 nk)), hs_self hp p0, hs_symm 2 (-(x.A0 * k)), show (((2 : Nat) : Int)) = 2 from rfl, hs2_2u (one_nd pr2), hs2_2u (mm n1 nk), hs2_2u (mm n0 nk), hs2_units (mm n0 nk) (mm n1 nk), e0, chi_two, chi_two]
      have t := tw_l ok o0 o1
      have ev : x.A2 % 2 = 0 := by rw [ek, show (((2 : Nat) : Int)) = 2 from rfl]; omega
      have od0 : ¬ x.A0 % 2 = 0 := by omega
      have od1 : ¬ x.A1 % 2 = 0 := by omega
      unfold twoB
      rw [if_neg od0, if_neg od1, if_pos ev, ek, show (((2 : Nat) : Int)) = 2 from rfl, ← t]
      generalize decide (-(x.A0 * k) % 8 = 3 ∨ -(x.A0 * k) % 8 = 5) = A
      generalize decide (-(x.A1 * k) % 8 = 3 ∨ -(x.A1 * k) % 8 = 5) = B
      generalize (decide (-(x.A0 * k) % 4 = 3) && decide (-(x.A1 * k) % 4 = 3)) = D
      cases A <;> cases B <;> cases D <;> simp
    · rw [e1, e2, hs_mul hp p0 (nz (mm n0 nk)), hs_mulR hp p0 (nz (mm n1 nk)), hs_mulR hp p0 (nz (mm n1 nk)), hs_self hp p0, hs_symm p (-(x.A0 * k)), hs_pu hp e (one_nd hp), hs_pu hp e (mm n1 nk), hs_pu hp e (mm n0 nk), hs_unit hp e (mm n0 nk) (mm n1 nk)]
      have ec : chi p (-1) = !sq p (-1) := by unfold chi; rw [if_neg e]
      have c1 : chi p (-(x.A1 * k)) = !sq p (-(x.A1 * k)) := by unfold chi; rw [if_neg e]
      have c0 : chi p (-(x.A0 * k)) = !sq p (-(x.A0 * k)) := by unfold chi; rw [if_neg e]
      have er : sq p x.rest2 = (sq p (-1) == (sq p (-(x.A0 * k)) == sq p (-(x.A1 * k)))) := by
        have od := Od.of hp e
        rw [← sq_mul od (mm n0 nk) (mm n1 nk), ← sq_mul od (one_nd hp) (fun d => (hp.dvdI d).elim (mm n0 nk) (mm n1 nk))]
        have e5 : -1 * (-(x.A0 * k) * -(x.A1 * k)) = x.rest2 * (k * k) := by unfold NV.rest2; grind
        rw [e5, sq_mulsq od ?_ nk]
        unfold NV.rest2
        intro d
        rcases hp.dvdI d with d | d
        · exact neg_nd n1 d
        · exact n0 d
      have p3 : 2 < p := by have := hp.1; omega
      unfold NV.Bad offB
      rw [er, ec, c0, c1]
      simp [z0, e, a, b, c, p3]
      cases sq p (-1) <;> cases sq p (-(x.A0 * k)) <;> cases sq p (-(x.A1 * k)) <;> simp
  · have n0 := j0 a
    have n1 := j1 b
    have n2 := j2 c
    by_cases e : p = 2
    · rw [two e]
      have o0 := odd2 e n0
      have o1 := odd2 e n1
      have o2 := odd2 e n2
      subst e
      rw [hs2_units (mm n0 n2) (mm n1 n2), tw_000 o0 o1 o2]
    · rw [hs_unit hp e (mm n0 n2) (mm n1 n2)]
      have p3 : 2 < p := by have := hp.1; omega
      unfold NV.Bad offB
      simp [z0, e, a, b, c]

end
section
variable {P : Program} {w : World} {K : PySem.W.Frag} {mg : Str → Option Value} {base : Heap} {a : Adr}
/-! ### the places, by symbols; always even in number -/
theorem A_ne {s : Int} {B : List Nat} (hs : s = 1 ∨ s = -1) (hp : ∀ p, p ∈ B → NT.Pr p) : s * prodL (nI B) ≠ 0 := by
  rw [prodL_nI]
  have := NT.prod_pos B hp
  rcases hs with e | e <;> rw [e] <;> omega
theorem NV.Fine.ne {x : NV} (h : x.Fine) : x.A0 ≠ 0 ∧ x.A1 ≠ 0 ∧ x.A2 ≠ 0 := ⟨A_ne h.ok.s0 h.p0, A_ne h.ok.s1 h.p1, A_ne h.ok.s2 h.p2⟩
open NT in
theorem bad_pr {x : NV} (h : x.Fine) {p : Nat} (hb : x.Bad p) : (p = 0 ∧ x.s0 = x.s1 ∧ x.s1 = x.s2) ∨ Pr p := by
  rcases hb with h1 | ⟨rfl, _⟩ | ⟨_, h1, _⟩ | ⟨_, h1, _⟩ | ⟨_, h1, _⟩
  · exact .inl h1
  · exact .inr pr2
  · exact .inr (h.p0 p h1)
  · exact .inr (h.p1 p h1)
  · exact .inr (h.p2 p h1)
open NT in
theorem ng_sgn {s t : Int} {B C : List Nat} (hs : s = 1 ∨ s = -1) (ht : t = 1 ∨ t = -1) (hb : ∀ p, p ∈ B → Pr p) (hc : ∀ p, p ∈ C → Pr p) : ng (-(s * prodL (nI B) * (t * prodL (nI C)))) = decide (s = t) := by
  have h1 := prod_pos B hb
  have h2 := prod_pos C hc
  have e : -(s * prodL (nI B) * (t * prodL (nI C))) = -(s * t) * ((B.prod * C.prod : Nat) : Int) := by rw [prodL_nI, prodL_nI, Int.natCast_mul]; grind
  have h3 : 0 < B.prod * C.prod := Nat.mul_pos h1 h2
  unfold ng
  rw [e]
  rcases hs with e | e <;> rcases ht with f | f <;> rw [e, f] <;> simp <;> omega
open NT in
/-- the places are even in number -/
theorem bad_even {v0 v1 v2 : List Int} {L : List Nat} (h : BadL v0 v1 v2 L) : L.length % 2 = 0 := by
  obtain ⟨x, fx, nx, ax, mx⟩ := h
  obtain ⟨z0, z1, z2⟩ := fx.ne
  have a02 : -(x.A0 * x.A2) ≠ 0 := by have := Int.mul_ne_zero z0 z2; omega
  have a12 : -(x.A1 * x.A2) ≠ 0 := by have := Int.mul_ne_zero z1 z2; omega
  let T := x.B0 ++ x.B1 ++ x.B2
  have Tnd : T.Nodup := by
    refine List.nodup_append.mpr ⟨List.nodup_append.mpr ⟨fx.n0, fx.n1, fun a ha b hb e => ?_⟩, fx.n2, fun a ha b hb e => ?_⟩
    · subst e; exact fx.d01 a ha hb
    · subst e
      rcases List.mem_append.mp ha with z | z
      · exact fx.d02 a z hb
      · exact fx.d12 a z hb
  have Tpr : ∀ p, p ∈ T → Pr p := fun p hp => by
    simp only [T, List.mem_append] at hp
    rcases hp with (z | z) | z
    · exact fx.p0 p z
    · exact fx.p1 p z
    · exact fx.p2 p z
  obtain ⟨S, pl, sub⟩ : ∃ S, Pl S ∧ ∀ p, p ∈ T → p ∈ S := by
    by_cases z : 2 ∈ T
    · exact ⟨T, ⟨Tnd, Tpr, z⟩, fun p hp => hp⟩
    · refine ⟨2 :: T, ⟨List.nodup_cons.mpr ⟨z, Tnd⟩, fun p hp => ?_, by simp⟩, fun p hp => List.mem_cons_of_mem _ hp⟩
      rcases List.mem_cons.mp hp with e | e
      · rw [e]; exact pr2
      · exact Tpr p e
  have dA : ∀ {s : Int} {B : List Nat} {p : Nat}, (s = 1 ∨ s = -1) → (∀ p, p ∈ B → Pr p) → Pr p → (p : Int) ∣ s * prodL (nI B) → p ∈ B := fun {s B p} hs hb hp d => Classical.byContradiction fun z => A_not hs hb hp z d
  have dv : ∀ p, Pr p → (p : Int) ∣ x.A0 ∨ (p : Int) ∣ x.A1 ∨ (p : Int) ∣ x.A2 → p ∈ S := fun p hp hd => by
    refine sub p ?_
    simp only [T, List.mem_append]
    rcases hd with d | d | d
    · exact .inl (.inl (dA fx.ok.s0 fx.p0 hp d))
    · exact .inl (.inr (dA fx.ok.s1 fx.p1 hp d))
    · exact .inr (dA fx.ok.s2 fx.p2 hp d)
  have pfm := product_formula pl a02 a12 (fun p hp d => dv p hp (by
    rcases hp.dvdI (Int.dvd_neg.mp d) with z | z
    · exact .inl z
    · exact .inr (.inr z))) (fun p hp d => dv p hp (by
    rcases hp.dvdI (Int.dvd_neg.mp d) with z | z
    · exact .inr (.inl z)
    · exact .inr (.inr z)))
  have g1 : ng (-(x.A0 * x.A2)) = decide (x.s0 = x.s2) := ng_sgn fx.ok.s0 fx.ok.s2 fx.p0 fx.p2
  have g2 : ng (-(x.A1 * x.A2)) = decide (x.s1 = x.s2) := ng_sgn fx.ok.s1 fx.ok.s2 fx.p1 fx.p2
  unfold pf at pfm
  rw [xs_count, g1, g2] at pfm
  let F := S.filter fun p => hs p (-(x.A0 * x.A2)) (-(x.A1 * x.A2))
  have Fm : ∀ p, p ∈ F ↔ Pr p ∧ x.Bad p := fun p => by
    simp only [F, List.mem_filter]
    constructor
    · rintro ⟨a, b⟩; exact ⟨pl.pr p a, (bad_hs fx (pl.pr p a)).mpr b⟩
    · rintro ⟨a, b⟩
      refine ⟨?_, (bad_hs fx a).mp b⟩
      rcases b with ⟨rfl, _⟩ | ⟨rfl, _⟩ | ⟨_, b, _⟩ | ⟨_, b, _⟩ | ⟨_, b, _⟩
      · exact absurd a.1 (by decide)
      · exact pl.two
      · exact sub p (by simp [T, b])
      · exact sub p (by simp [T, b])
      · exact sub p (by simp [T, b])
  have Fnd : F.Nodup := pl.nd.filter _
  have cF : S.countP (fun p => hs p (-(x.A0 * x.A2)) (-(x.A1 * x.A2))) = F.length := List.countP_eq_length_filter
  rw [cF] at pfm
  by_cases hi : x.s0 = x.s1 ∧ x.s1 = x.s2
  · have pm : L.Perm (0 :: F) := (List.perm_ext_iff_of_nodup (asc_nodup ax) (List.nodup_cons.mpr ⟨fun z => absurd ((Fm 0).mp z).1.1 (by decide), Fnd⟩)).mpr fun p => by
      rw [mx, List.mem_cons, Fm]
      constructor
      · intro hb
        rcases bad_pr fx hb with ⟨h1, _⟩ | h1
        · exact .inl h1
        · exact .inr ⟨h1, hb⟩
      · rintro (rfl | ⟨_, hb⟩)
        · exact .inl ⟨rfl, hi⟩
        · exact hb
    rw [pm.length_eq, List.length_cons]
    have e1 : x.s0 = x.s2 := by rw [hi.1, hi.2]
    rw [decide_eq_true e1, decide_eq_true hi.2] at pfm
    by_cases k : F.length % 2 = 1
    · omega
    · rw [decide_eq_false k] at pfm; cases pfm
  · have pm : L.Perm F := (List.perm_ext_iff_of_nodup (asc_nodup ax) Fnd).mpr fun p => by
      rw [mx, Fm]
      constructor
      · intro hb
        rcases bad_pr fx hb with ⟨_, h1⟩ | h1
        · exact absurd h1 hi
        · exact ⟨h1, hb⟩
      · exact fun h => h.2
    rw [pm.length_eq]
    have : (decide (x.s0 = x.s2) && decide (x.s1 = x.s2)) = false := by
      by_cases a : x.s0 = x.s2
      · by_cases b : x.s1 = x.s2
        · exact absurd ⟨by rw [a, b], b⟩ hi
        · simp [b]
      · simp [a]
    rw [this] at pfm
    by_cases k : F.length % 2 = 1
    · rw [decide_eq_true k] at pfm; cases pfm
    · omega

end
section
variable {P : Program} {w : World} {K : PySem.W.Frag} {mg : Str → Option Value} {base : Heap} {a : Adr}
/-! ### an answer bars no place -/
open NT in
theorem bad_num {v0 v1 v2 : List Int} (w0 : Wt v0) (w1 : Wt v1) (w2 : Wt v2) {x : NV} (fx : x.Fine) (nx : NmOf v0 v1 v2 x) {p : Nat} (hp : Pr p) : x.Bad p ↔ hs p (-(prodL v0 * prodL v2)) (-(prodL v1 * prodL v2)) = true := by
  obtain ⟨z0, z1, z2⟩ := fx.ne
  have nz : ∀ {v : List Int}, Wt v → prodL v ≠ 0 := fun {v} h => by have : 0 < (prodL v).natAbs := h.pos; omega
  have t0 : Two x.A0 (prodL v0) x.A2 (prodL v2) := by unfold NV.A0 NV.A2; rw [nx.s0, nx.s2]; exact two_of w0 w2 nx.nm.b0.swap nx.nm.b2
  have t1 : Two x.A1 (prodL v1) x.A2 (prodL v2) := by unfold NV.A1 NV.A2; rw [nx.s1, nx.s2]; exact two_of w1 w2 nx.nm.b1.swap nx.nm.b2.swap
  obtain ⟨r, _, hr⟩ := t0.sq
  obtain ⟨t, _, ht⟩ := t1.sq
  have k1 : -(x.A0 * x.A2) * -(prodL v0 * prodL v2) = r * r := by rw [← hr]; grind
  have k2 : -(x.A1 * x.A2) * -(prodL v1 * prodL v2) = t * t := by rw [← ht]; grind
  have m : ∀ {a b : Int}, a ≠ 0 → b ≠ 0 → -(a * b) ≠ 0 := fun ha hb => by have := Int.mul_ne_zero ha hb; omega
  rw [bad_hs fx hp, hs_class hp (m z0 z2) (m (nz w0) (nz w2)) k1, hs_symm, hs_class hp (m z1 z2) (m (nz w1) (nz w2)) k2, hs_symm]
theorem sq_nn (x : Int) : 0 ≤ x * x := by
  rcases Int.le_total 0 x with h | h
  · exact Int.mul_nonneg h h
  · exact Int.mul_nonneg_of_nonpos_of_nonpos h h
theorem sq_pos {x : Int} (h : x ≠ 0) : 0 < x * x := by
  rcases Int.lt_or_gt_of_ne h with h | h
  · exact Int.mul_pos_of_neg_of_neg h h
  · exact Int.mul_pos h h
open NT in
theorem ans_nobad {v0 v1 v2 : List Int} (w0 : Wt v0) (w1 : Wt v1) (w2 : Wt v2) {x : NV} (fx : x.Fine) (nx : NmOf v0 v1 v2 x) {X Y Z : Int} (nz : ¬ (X = 0 ∧ Y = 0 ∧ Z = 0)) (e : prodL v0 * (X * X) + prodL v1 * (Y * Y) + prodL v2 * (Z * Z) = 0) : ∀ p, ¬ x.Bad p := by
  have ne : ∀ {v : List Int}, Wt v → prodL v ≠ 0 := fun {v} h => by have : 0 < (prodL v).natAbs := h.pos; omega
  intro p hb
  rcases bad_pr fx hb with ⟨_, h1, h2⟩ | hpr
  · rw [nx.s0, nx.s1] at h1
    rw [nx.s1, nx.s2] at h2
    have a0 := sq_nn X
    have a1 := sq_nn Y
    have a2 := sq_nn Z
    have some : 0 < X * X ∨ 0 < Y * Y ∨ 0 < Z * Z := by
      by_cases q0 : X = 0
      · by_cases q1 : Y = 0
        · by_cases q2 : Z = 0
          · exact absurd ⟨q0, q1, q2⟩ nz
          · exact .inr (.inr (sq_pos q2))
        · exact .inr (.inl (sq_pos q1))
      · exact .inl (sq_pos q0)
    have s : ∀ {v : List Int}, sgn (prodL v) = 1 ∨ sgn (prodL v) = -1 := fun {v} => by unfold sgn; split <;> simp
    have pos : ∀ {v : List Int}, Wt v → sgn (prodL v) = 1 → 0 < prodL v := fun {v} hw h => by unfold sgn at h; split at h <;> omega
    have neg : ∀ {v : List Int}, Wt v → sgn (prodL v) = -1 → prodL v < 0 := fun {v} hw h => by have := ne hw; unfold sgn at h; split at h <;> omega
    have kp : ∀ {n t : Int}, 0 < n → 0 ≤ t → 0 ≤ n * t ∧ (0 < t → 0 < n * t) := fun hn ht => ⟨Int.mul_nonneg (Int.le_of_lt hn) ht, fun h => Int.mul_pos hn h⟩
    have kn : ∀ {n t : Int}, n < 0 → 0 ≤ t → n * t ≤ 0 ∧ (0 < t → n * t < 0) := fun hn ht => ⟨Int.mul_nonpos_of_nonpos_of_nonneg (Int.le_of_lt hn) ht, fun h => Int.mul_neg_of_neg_of_pos hn h⟩
    rcases s (v := v0) with q | q
    · have b0 := kp (pos w0 q) a0
      have b1 := kp (pos w1 (by rw [← h1, q])) a1
      have b2 := kp (pos w2 (by rw [← h2, ← h1, q])) a2
      rcases some with z | z | z
      · have := b0.2 z; omega
      · have := b1.2 z; omega
      · have := b2.2 z; omega
    · have b0 := kn (neg w0 q) a0
      have b1 := kn (neg w1 (by rw [← h1, q])) a1
      have b2 := kn (neg w2 (by rw [← h2, ← h1, q])) a2
      rcases some with z | z | z
      · have := b0.2 z; omega
      · have := b1.2 z; omega
      · have := b2.2 z; omega
  · rw [bad_num w0 w1 w2 fx nx hpr] at hb
    have m : ∀ {a b : Int}, a ≠ 0 → b ≠ 0 → -(a * b) ≠ 0 := fun ha hb => by have := Int.mul_ne_zero ha hb; omega
    rw [hs_norm hpr (m (ne w0) (ne w2)) (m (ne w1) (ne w2)) (x := X) (y := Y) (z := prodL v2 * Z) (fun ⟨q1, q2, q3⟩ => nz ⟨q1, q2, (Int.mul_eq_zero.mp q3).resolve_left (ne w2)⟩) (by grind)] at hb
    cases hb
theorem answer_nobar {v0 v1 v2 : List Int} {L : List Nat} (w0 : Wt v0) (w1 : Wt v1) (w2 : Wt v2) (h : BadL v0 v1 v2 L) {X Y Z : Int} (nz : ¬ (X = 0 ∧ Y = 0 ∧ Z = 0)) (e : prodL v0 * (X * X) + prodL v1 * (Y * Y) + prodL v2 * (Z * Z) = 0) : L = [] := by
  obtain ⟨x, fx, nx, ax, mx⟩ := h
  exact List.eq_nil_iff_forall_not_mem.mpr fun p hp => ans_nobad w0 w1 w2 fx nx nz e p ((mx p).mp hp)

end
section
variable {P : Program} {w : World} {K : PySem.W.Frag} {mg : Str → Option Value} {base : Heap} {a : Adr}
/-! ### what is known of an answer -/
open NT in
theorem NmOf.ansLg {v0 v1 v2 : List Int} (w0 : Wt v0) (w1 : Wt v1) (w2 : Wt v2) {x : NV} (h : NmOf v0 v1 v2 x) (fx : x.Fine) (nb : ∀ p, ¬ x.Bad p) : Lg3 500 x.ans := by
  have l := lowV_lg ((h.bks w0 w1 w2).lg (fx.rowOk nb).sl)
  have k : ∀ {t : Int}, Lg 500 t → Lg 500 ((t.natAbs : Nat) : Int) := fun {t} h => by
    show Int.natAbs _ < _
    rw [Int.natAbs_natCast]; exact h
  exact ⟨k l.1, k l.2.1, k l.2.2⟩
/-- an answer, not long -/
structure GoodA (v0 v1 v2 : List Int) (u : NT.V3) : Prop where
  a : NT.AnsV ⟨prodL v0, prodL v1, prodL v2⟩ u
  l : NT.Lg3 500 u
open NT in
theorem AnsD.planted {v0 v1 v2 : List Int} {d : D} (w0 : Wt v0) (w1 : Wt v1) (w2 : Wt v2) (h : AnsD v0 v1 v2 d) (pl : Plant v0 v1 v2) : ∃ x : NV, NmOf v0 v1 v2 x ∧ x.Fine ∧ (∀ p, ¬ x.Bad p) ∧ GoodA v0 v1 v2 x.ans ∧ d = .tup (D.ints [x.ans.x, x.ans.y, x.ans.z]) := by
  obtain ⟨x, no, fx, h⟩ := h
  obtain ⟨X, Y, Z, nz, e⟩ := pl
  have nb := ans_nobad w0 w1 w2 fx no nz e
  rcases h with ⟨⟨p, hp⟩, _⟩ | ⟨_, rfl⟩
  · exact absurd hp (nb p)
  · exact ⟨x, no, fx, nb, ⟨no.ans w0 w1 w2 fx nb, no.ansLg w0 w1 w2 fx nb⟩, rfl⟩
theorem Plant.nobar {v0 v1 v2 : List Int} {L : List Nat} (w0 : Wt v0) (w1 : Wt v1) (w2 : Wt v2) (h : BadL v0 v1 v2 L) (pl : Plant v0 v1 v2) : L = [] := by
  obtain ⟨X, Y, Z, nz, e⟩ := pl
  exact answer_nobar w0 w1 w2 h nz e
open NT in
/-- none just if some place bars it -/
theorem AnsD.cases {v0 v1 v2 : List Int} {d : D} {L : List Nat} (w0 : Wt v0) (w1 : Wt v1) (w2 : Wt v2) (h : AnsD v0 v1 v2 d) (b : BadL v0 v1 v2 L) : (L ≠ [] ∧ d = .non) ∨ (L = [] ∧ ∃ u : V3, GoodA v0 v1 v2 u ∧ d = .tup (D.ints [u.x, u.y, u.z])) := by
  obtain ⟨x, no, fx, h⟩ := h
  obtain ⟨y, fy, ny, ay, my⟩ := b
  have e := (same_eq (o := 1) (.inl rfl) ny no ⟨by simp, by simp, by simp⟩ (fun _ => false) (fun _ _ => by simp) (fun _ _ => by simp) (fun _ _ => by simp)).2.2.2
  rcases h with ⟨⟨p, hp⟩, rfl⟩ | ⟨nb, rfl⟩
  · exact .inl ⟨List.ne_nil_of_mem ((my p).mpr ((e p).mpr hp)), rfl⟩
  · refine .inr ⟨List.eq_nil_iff_forall_not_mem.mpr fun p hp => nb p ((e p).mp ((my p).mp hp)), x.ans, ⟨no.ans w0 w1 w2 fx nb, no.ansLg w0 w1 w2 fx nb⟩, rfl⟩
open NT in
theorem GoodA.is {v0 v1 v2 : List Int} {u : V3} (h : GoodA v0 v1 v2 u) : (decide (gcdL [u.x, u.y, u.z] = 1) && decide (comeL ([v0, v1, v2].map prodL) [u.x, u.y, u.z] = 0)) = true := by
  have g : gcdL [u.x, u.y, u.z] = 1 := h.a.g
  have e : comeL ([v0, v1, v2].map prodL) [u.x, u.y, u.z] = 0 := (ev3_come ⟨prodL v0, prodL v1, prodL v2⟩ u).trans h.a.e
  rw [decide_eq_true g, decide_eq_true e]; rfl
open NT in
/-- what the law asks of it can be asked -/
theorem GoodA.pre {v0 v1 v2 : List Int} (w0 : Wt v0) (w1 : Wt v1) (w2 : Wt v2) {u : V3} (h : GoodA v0 v1 v2 u) : (([v0, v1, v2].map prodL).length = [u.x, u.y, u.z].length ∧ ([v0, v1, v2].map prodL).length ≤ 1000) ∧ (∀ n, n ∈ [v0, v1, v2].map prodL → n.natAbs < 2 ^ 4000) ∧ ∀ o, o ∈ [u.x, u.y, u.z] → o.natAbs < 2 ^ 90000 := by
  have k : ∀ {v : List Int}, Wt v → (prodL v).natAbs < 2 ^ 4000 := fun {v} w => by
    have l : (prodL v).natAbs < 2 ^ 100 := Nat.lt_of_le_of_lt w.le30 (by decide)
    exact bit_le l (by decide)
  refine ⟨⟨rfl, le_lit rfl⟩, fun n hn => ?_, fun o ho => ?_⟩
  · simp only [List.map_cons, List.map_nil, List.mem_cons, List.not_mem_nil, or_false] at hn
    rcases hn with rfl | rfl | rfl
    · exact k w0
    · exact k w1
    · exact k w2
  · simp only [List.mem_cons, List.not_mem_nil, or_false] at ho
    rcases ho with rfl | rfl | rfl
    · exact bit_le h.l.1 (by decide)
    · exact bit_le h.l.2.1 (by decide)
    · exact bit_le h.l.2.2 (by decide)

end
section
variable {P : Program} {w : World} {K : PySem.W.Frag} {mg : Str → Option Value} {base : Heap} {a : Adr}
theorem ok_law (C : Ctx K mg a) : FnAt P w K mg base CX0 9 "law" ["_law_script"] (SpP K (fun cells : List Int => [.rd (D.ints cells)]) (fun cells => cells.length ≤ 63) (fun _ d => d = .bl true)) := by
  refine fn_at C.d_law sc_law (fun _ => rfl) fun f cdv A outer s H E hr => ⟨_, (pss_cons (ps_set (i := 1) sc_law.nd rfl (by first | exact Or.inl rfl | exact Or.inr rfl) (pe_fn (ok__law_mix C) (hr.mono (by omega)) rfl (pa_cons (pv 0) (pa_cons pe_int pa_nil))))
    (pss_cons (ps_if (pt_cmpR op_gIs (pe_fn (ok_answer C) (hr.mono (by omega)) rfl (pa_cons (pe_new (ok_Form C) (hr.mono (by omega)) rfl (pa_cons (pe_fn (ok__law_told C) (hr.mono (by omega)) rfl (pa_cons (pv 1) pa_nil)) pa_nil)) pa_nil)) pe_non (nomark _))
    (pss_one (ps_ret pe_bl))
    pss_nil)
    (pss_cons (ps_set (i := 2) sc_law.nd rfl (by first | exact Or.inl rfl | exact Or.inr rfl) (pe_new (ok_Form C) (hr.mono (by omega)) rfl (pa_cons (pe_fn (ok__law_plain C) (hr.mono (by omega)) rfl (pa_cons (pv 1) pa_nil)) pa_nil)))
    (pss_cons (ps_if (PW.pt (pw_or (pt_cmpR (op_gNe (K := K) (by exact hr.units)) (pe_fn (ok_bad_places C) (hr.mono (by omega)) rfl (pa_cons (pv 2) pa_nil)) (pe_lst pa_nil) (nomark _)) (pw_or1 (pt_not (pt_val (pe_fn (ok__law_is_answer C) (hr.mono (by omega)) rfl (pa_cons (pe_get C.g_Form_numbers C.k_Form.cl (hr.mono (by omega)) (pv 2)) (pa_cons (pe_fn (ok_answer C) (hr.mono (by omega)) rfl (pa_cons (pv 2) pa_nil)) pa_nil))))))))
    (pss_one (ps_ret pe_bl))
    pss_nil)
    (pss_cons (ps_for PassesOwn.never rfl (pi_range1 rfl C.B.range (pa_cons pe_int pa_nil)) (pg_name (i := 3) sc_law.nd rfl (by first | exact Or.inl rfl | exact Or.inr rfl))
    (pss_cons (ps_set (i := 4) sc_law.nd rfl (by first | exact Or.inl rfl | exact Or.inr rfl) (pe_tupOf (K := K) C.B.tuple rfl (pa_cons (pe_lc (own := [("_law_k", 7)]) (g := (gName 7)) (tt := tYes) rfl sc_law.nd (pi_range1 rfl C.B.range (pa_cons pe_int pa_nil)) (blkOk_by (N := n_law) (sc := defScope s_law) (by decide +kernel)) (fun _ _ _ _ _ => (pg_name (i := 7) sc_law.nd rfl (by first | exact Or.inl rfl | exact Or.inr rfl))) (fun _ _ _ _ _ => pts_nil) (fun _ _ _ _ _ => (pe_fn (ok__law_weight C) (hr.mono (by omega)) rfl (pa_cons (pv 1) pa_nil)))) pa_nil)))
    (pss_cons (ps_if (pt_cmpR (op_gEq (K := K) (by exact hr.units)) (pe_fn (ok__law_next C) (hr.mono (by omega)) rfl (pa_cons (pv 1) (pa_cons pe_int pa_nil))) pe_int (nomark _))
    (pss_one (ps_set (i := 4) sc_law.nd rfl (by first | exact Or.inl rfl | exact Or.inr rfl) (pe_fn (ok__law_told C) (hr.mono (by omega)) rfl (pa_cons (pv 1) pa_nil))))
    pss_nil)
    (pss_cons (ps_set (i := 5) sc_law.nd rfl (by first | exact Or.inl rfl | exact Or.inr rfl) (pe_new (ok_Form C) (hr.mono (by omega)) rfl (pa_cons (pv 4) pa_nil)))
    (pss_cons (ps_set (i := 6) sc_law.nd rfl (by first | exact Or.inl rfl | exact Or.inr rfl) (pe_fn (ok_answer C) (hr.mono (by omega)) rfl (pa_cons (pv 5) pa_nil)))
    (pss_cons (ps_if (pt_cmpR (op_gNe (K := K) (by exact hr.units)) (pe_cmpR op_gIs (pv 6) pe_non (nomark _)) (pe_cmpR (op_gNe (K := K) (by exact hr.units)) (pe_fn (ok_bad_places C) (hr.mono (by omega)) rfl (pa_cons (pv 5) pa_nil)) (pe_lst pa_nil) (nomark _)) (nomark _))
    (pss_one (ps_ret pe_bl))
    pss_nil)
    (pss_one (ps_if (PW.pt (pw_and (pt_cmpR op_gIsNot (pv 6) pe_non (nomark _)) (pw_and1 (PW.pt (pw_or (pt_not (pt_val (pe_fn (ok__law_is_answer C) (hr.mono (by omega)) rfl (pa_cons (pe_get C.g_Form_numbers C.k_Form.cl (hr.mono (by omega)) (pv 5)) (pa_cons (pv 6) pa_nil))))) (pw_or1 (pt_cmpR op_gLt (pe_minT (K := K) hr.units C.B.min rfl rfl (pa_cons (pv 6) pa_nil)) pe_int (nomark _))))))))
    (pss_one (ps_ret pe_bl))
    pss_nil))))))))
    (pss_one (ps_ret pe_bl))))))), fun cells e hp he => ?_⟩
  have hp : cells.length ≤ 63 := hp
  have he : e.α.length = 0 := he
  dsimp only [cxOf]
  walk_at "d"
  refine r_mix ?_
  walk_at "d"
  refine ⟨cells, 4, rfl, hp, by decide, by decide, ?_⟩
  walk_at "d"
  refine ec_form3 ?_
  walk_at "d"
  refine ⟨(), 0, rfl, rfl, trivial, fun _ ⟨v0, v1, v2, e1, ⟨w0, w1, w2⟩, pl⟩ => ?_⟩
  subst e1
  walk_at "d"
  refine ⟨v0, v1, v2, rfl, ⟨w0, w1, w2⟩, ?_⟩
  walk_at "d"
  refine ⟨(v0, v1, v2), rfl, ⟨w0, w1, w2⟩, fun d hd => ?_⟩
  obtain ⟨x, no, fx, nb, _, rfl⟩ := AnsD.planted w0 w1 w2 hd pl
  clear nb no fx hd pl
  walk_at "d"
  have n0 : (D.tup (D.ints [x.ans.x, x.ans.y, x.ans.z])).isNon = false := rfl
  rw [n0]
  clear n0
  generalize x.ans = u0
  refine iteF ?_
  walk_at "d"
  refine r_asg ?_
  refine ec_form3 ?_
  walk_at "d"
  refine ⟨(), 0, rfl, rfl, trivial, fun _ ⟨v0, v1, v2, e1, ⟨w0, w1, w2⟩, pl⟩ => ?_⟩
  subst e1
  walk_at "d"
  refine ⟨v0, v1, v2, rfl, ⟨w0, w1, w2⟩, ?_⟩
  walk_at "d"
  refine ⟨(v0, v1, v2), rfl, ⟨w0, w1, w2⟩, ?_⟩
  rintro _ ⟨L, rfl, bL⟩
  have bL : BadL v0 v1 v2 L := bL
  have : L = [] := pl.nobar w0 w1 w2 bL
  subst this
  walk_at "d"
  refine g_neD 5 (pl_lstI (n := 4) []) (pl_lstI (n := 4) []) (by decide) ?_
  have e0 : (!(lI []).eqv (D.lst [])) = false := rfl
  rw [e0]
  refine ⟨_, rfl, iteF ?_⟩
  walk_at "d"
  refine ev_numbers C (ws := [v0, v1, v2]) ?_
  walk_at "d"
  refine ⟨rfl, ?_⟩
  walk_at "d"
  refine ⟨(v0, v1, v2), rfl, ⟨w0, w1, w2⟩, fun d hd => ?_⟩
  obtain ⟨x, no, fx, nb, ga, rfl⟩ := AnsD.planted w0 w1 w2 hd pl
  clear nb no fx hd
  generalize x.ans = u at *
  walk_at "d"
  refine ⟨([v0, v1, v2].map prodL, [u.x, u.y, u.z]), rfl, ga.pre w0 w1 w2, fun d ed => ?_⟩
  rw [ga.is] at ed
  subst ed
  refine ⟨_, rfl, iteF ?_⟩
  walk_at "d"
  refine r_for [3] ?_
  refine ei_range1 ?_
  walk_at "d"
  refine ⟨3, rfl, by decide, by decide, fun i ρ M => ∃ (o3 o4 o5 o6 : Option Sl), ρ = [some (.v (.rd (D.ints cells))), some (.l 0), some (.v (fm a.Form [v0, v1, v2])), o3, o4, o5, o6, none] ∧ M = [.rng], ⟨_, _, _, _, rfl, rfl⟩, ?_, ?_⟩
  · clear ga pl bL w0 w1 w2
    generalize fm a.Form [v0, v1, v2] = fm0
    rintro i d ρ M hi ⟨o3, o4, o5, o6, rfl, rfl⟩
    obtain ⟨il, rfl⟩ := rangeD_get hi
    walk_at "d"
    refine r_asg ?_
    walk_at "d"
    refine ev_lcR (fun d d' => ∃ v, d' = wt v ∧ Wt v) (ei_range1 ?_)
    walk_at "d"
    refine ⟨3, rfl, by decide, by decide, le_lit rfl, fun j d hj => ?_, ?_⟩
    · walk_at "d"
      exact ⟨(), 0, rfl, rfl, trivial, fun _ ⟨ns, e2, hn⟩ => ⟨_, rfl, ns, e2, hn⟩⟩
    rintro ds ⟨_, _, rfl, ⟨y0, rfl, h0⟩, _, _, rfl, ⟨y1, rfl, h1⟩, _, _, rfl, ⟨y2, rfl, h2⟩, hnil⟩
    have hnil : _ = [] := hnil
    subst hnil
    refine ea_nil (x_tupL ?_)
    refine r_seq (r_via (fun ρ' M' => ∃ (v0 v1 v2 : List Int), ρ' = [some (.v (.rd (D.ints cells))), some (.l 0), some (.v fm0), some (.v (.int (0 + (i : Int)))), some (.v (.tup [wt v0, wt v1, wt v2])), o5, o6, none] ∧ M' = [.rng] ∧ Wt v0 ∧ Wt v1 ∧ Wt v2) ?_ ?_)
    · refine r_if ?_
      walk_at "d"
      refine ⟨_, 0, rfl, rfl, ⟨by omega, lit_bit (by omega) (by decide)⟩, fun _ ⟨z, e1, a1, b1⟩ => ?_⟩
      subst e1
      walk_at "d"
      refine ite_dec (fun h => ?_) (fun h => ?_)
      · walk_at "d"
        refine r_asg ?_
        walk_at "d"
        refine ⟨(), 0, rfl, rfl, trivial, fun _ ⟨t0, t1, t2, e1, ⟨x0, x1, x2⟩, _⟩ => ?_⟩
        subst e1
        exact ⟨t0, t1, t2, rfl, rfl, x0, x1, x2⟩
      · walk_at "n"
        exact ⟨y0, y1, y2, rfl, rfl, h0, h1, h2⟩
    clear h0 h1 h2
    rintro ρ' M' ⟨v0, v1, v2, rfl, rfl, w0, w1, w2⟩
    walk_at "d"
    refine r_asg ?_
    refine ec_form3 ?_
    walk_at "d"
    refine ⟨v0, v1, v2, rfl, ⟨w0, w1, w2⟩, ?_⟩
    walk_at "d"
    refine r_asg ?_
    walk_at "d"
    refine ⟨(v0, v1, v2), rfl, ⟨w0, w1, w2⟩, fun d hd => ?_⟩
    have hd : AnsD v0 v1 v2 d := hd
    walk_at "d"
    refine ⟨(v0, v1, v2), rfl, ⟨w0, w1, w2⟩, ?_⟩
    rintro _ ⟨L, rfl, bL⟩
    have bL : BadL v0 v1 v2 L := bL
    rcases AnsD.cases w0 w1 w2 hd bL with ⟨hL, rfl⟩ | ⟨rfl, u, ga, rfl⟩
    · walk_at "d"
      refine g_neD 5 (pl_lstI (n := 4) (nI L)) rfl (by decide) ?_
      have e0 : (!(lI L).eqv (.lst [])) = true := by rw [eqv_nil]; simp [hL]
      rw [e0]
      walk_at "d"
      have e1 : (!decide (V.bl D.non.isNon = V.bl true)) = false := rfl
      rw [e1]
      refine iteF ?_
      walk_at "d"
      refine iteF ?_
      refine r_next ?_
      exact ⟨_, _, _, _, rfl, rfl⟩
    · walk_at "d"
      refine g_neD 5 (pl_lstI (n := 4) []) (pl_lstI (n := 4) []) (by decide) ?_
      have e0 : (!(lI []).eqv (D.lst [])) = false := rfl
      rw [e0]
      walk_at "d"
      have e1 : (!decide (V.bl (D.tup (D.ints [u.x, u.y, u.z])).isNon = V.bl false)) = false := rfl
      rw [e1]
      refine iteF ?_
      walk_at "d"
      refine iteT ?_
      walk_at "d"
      refine ev_numbers C (ws := [v0, v1, v2]) ?_
      walk_at "d"
      refine ⟨rfl, ?_⟩
      walk_at "d"
      refine ⟨([v0, v1, v2].map prodL, [u.x, u.y, u.z]), rfl, ga.pre w0 w1 w2, fun d ed => ?_⟩
      rw [ga.is] at ed
      subst ed
      refine ⟨_, rfl, iteF ?_⟩
      walk_at "d"
      refine ec_minT ?_
      walk_at "d"
      have mn : 0 ≤ List.foldl min u.x [u.y, u.z] := by
        have x0 := ga.a.x0
        have y0 := ga.a.y0
        have z0 := ga.a.z0
        show 0 ≤ min (min u.x u.y) u.z
        omega
      refine ite_dec (fun h => absurd h (by omega)) (fun _ => ?_)
      refine r_next ?_
      exact ⟨_, _, _, _, rfl, rfl⟩
  · rintro ρ M ⟨o3, o4, o5, o6, rfl, rfl⟩
    walk_at "d"
    exact ret_v rfl

end
end T
open PySem PySem.W PyProof.Rows
set_option maxRecDepth 100000 in
set_option maxHeartbeats 0 in
theorem PySem.Challenge.cw_squareweights_k04_whole_answers_holds : PySem.Challenge.rw_squareweights_k04_whole_answers.Holds := by
  w_on; o_law; k_head; (case hw => w_witness2)
  k_fill
  refine DL.walk_ofX (l := PySem.Challenge.rw_squareweights_k04_whole_answers) (n := 63) (k := 9) (x := "_law_script") (sp := DL.SpLaw) rfl (by decide) rfl ⟨rfl, by decide, by decide⟩ (fun w h Y => PySem.W.kIn_of Y) ?F (fun K H a ns h s => DL.spLaw_of h s)
  case F =>
    intro w mg fa h KX G X hmg
    have b_range : mg "range" = none := by
      refine' PySem.W.mg_none_of KX G ?z
      (case z => k_is)
    have b_len : mg "len" = none := by
      refine' PySem.W.mg_none_of KX G ?z
      (case z => k_is)
    have b_abs : mg "abs" = none := by
      refine' PySem.W.mg_none_of KX G ?z
      (case z => k_is)
    have b_max : mg "max" = none := by
      refine' PySem.W.mg_none_of KX G ?z
      (case z => k_is)
    have b_min : mg "min" = none := by
      refine' PySem.W.mg_none_of KX G ?z
      (case z => k_is)
    have b_sum : mg "sum" = none := by
      refine' PySem.W.mg_none_of KX G ?z
      (case z => k_is)
    have b_any : mg "any" = none := by
      refine' PySem.W.mg_none_of KX G ?z
      (case z => k_is)
    have b_all : mg "all" = none := by
      refine' PySem.W.mg_none_of KX G ?z
      (case z => k_is)
    have b_int : mg "int" = none := by
      refine' PySem.W.mg_none_of KX G ?z
      (case z => k_is)
    have b_str : mg "str" = none := by
      refine' PySem.W.mg_none_of KX G ?z
      (case z => k_is)
    have b_tuple : mg "tuple" = none := by
      refine' PySem.W.mg_none_of KX G ?z
      (case z => k_is)
    have b_list : mg "list" = none := by
      refine' PySem.W.mg_none_of KX G ?z
      (case z => k_is)
    have b_bool : mg "bool" = none := by
      refine' PySem.W.mg_none_of KX G ?z
      (case z => k_is)
    have b_set : mg "set" = none := by
      refine' PySem.W.mg_none_of KX G ?z
      (case z => k_is)
    have b_sorted : mg "sorted" = none := by
      refine' PySem.W.mg_none_of KX G ?z
      (case z => k_is)
    have b_zip : mg "zip" = none := by
      refine' PySem.W.mg_none_of KX G ?z
      (case z => k_is)
    have b_enumerate : mg "enumerate" = none := by
      refine' PySem.W.mg_none_of KX G ?z
      (case z => k_is)
    have b_isinstance : mg "isinstance" = none := by
      refine' PySem.W.mg_none_of KX G ?z
      (case z => k_is)
    have B : DL.Blt mg := ⟨b_range, b_len, b_abs, b_max, b_min, b_sum, b_any, b_all, b_int, b_str, b_tuple, b_list, b_bool, b_set, b_sorted, b_zip, b_enumerate, b_isinstance⟩
    have c_MOST_PART : DL.CInt mg "MOST_PART" 1000000 := DL.loose_int X (by simp)
    have c_MOST_PARTS : DL.CInt mg "MOST_PARTS" 5 := by
      refine' DL.cint_mk KX G ?a
      (case a => k_is)
    refine' DL.ctup_k (x := "SIZES") (vs := [.int (3), .int (4)]) KX G ?a1_ ?l1_ ?c1_ ?d1_ ?s1_ ?r1_ ?z1_
    (case a1_ => k_is); (case l1_ => k_is)
    (case c1_ => rfl); (case d1_ => rfl); (case s1_ => decide)
    (case r1_ => exact .cons ⟨_, rfl⟩ (.cons ⟨_, rfl⟩ (.nil)))
    intro c_SIZES
    refine' DL.def_k (x := "is_integer") (st := T.s_is_integer) (ps := ["thing", "low", "high"]) KX G ?a4 ?l4 ?c4 ?k4 ?b4 ?z4
    (case a4 => k_is); (case l4 => k_is); (case c4 => k_is); (case k4 => k_is)
    (case b4 => exact fun _ _ _ _ _ _ us hl => match us, hl with | [_, _, _], _ => rfl)
    intro d_is_integer
    refine' DL.def_k (x := "is_weight") (st := T.s_is_weight) (ps := ["thing"]) KX G ?a5 ?l5 ?c5 ?k5 ?b5 ?z5
    (case a5 => k_is); (case l5 => k_is); (case c5 => k_is); (case k5 => k_is)
    (case b5 => exact fun _ _ _ _ _ _ us hl => match us, hl with | [_], _ => rfl)
    intro d_is_weight
    refine' DL.def_k (x := "product") (st := T.s_product) (ps := ["numbers"]) KX G ?a6 ?l6 ?c6 ?k6 ?b6 ?z6
    (case a6 => k_is); (case l6 => k_is); (case c6 => k_is); (case k6 => k_is)
    (case b6 => exact fun _ _ _ _ _ _ us hl => match us, hl with | [_], _ => rfl)
    intro d_product
    refine' DL.cls_k (x := "Form") KX G ?a2_ ?p2_ ?h2_ ?o2_ ?s2_ ?c2_ ?g2_ ?t2_ ?m2_ ?z2_
    (case a2_ => k_is); (case p2_ => k_is); (case h2_ => k_is); (case o2_ => k_is); (case s2_ => k_is); (case c2_ => k_is); (case g2_ => k_is); (case t2_ => k_is); (case m2_ => k_is)
    intro m_Form k_Form
    refine' DL.noattr_k (f := "rows") k_Form ?h3_ ?z3_
    (case h3_ => k_is)
    intro n_Form_rows
    refine' DL.noattr_k (f := "sums") k_Form ?h4_ ?z4_
    (case h4_ => k_is)
    intro n_Form_sums
    refine' DL.init_k (qual := "Form.__init__") (st := T.s_Form___init__) (ps := ["self", "weights"]) k_Form ?m5_ ?i5_ ?f5_ ?p5_ ?l5_ ?c5_ ?k5_ ?b5_ ?z5_
    (case m5_ => k_is); (case i5_ => k_is); (case f5_ => k_is); (case p5_ => k_is); (case l5_ => k_is); (case c5_ => k_is); (case k5_ => k_is)
    (case b5_ => exact fun _ _ _ _ _ _ us hl => match us, hl with | [_, _], _ => rfl)
    intro i_Form
    refine' DL.prop_k (x := "weights") (f := "rows") (qual := "Form.weights") (st := T.s_Form_weights) k_Form n_Form_rows ?p6_ ?g6_ ?t6_ ?r6_ ?l6_ ?c6_ ?k6_ T.sc_Form_weights rfl ?b6_ ?z6_
    (case p6_ => k_is); (case g6_ => k_is); (case t6_ => k_is); (case r6_ => k_is); (case l6_ => k_is); (case c6_ => k_is); (case k6_ => k_is)
    (case b6_ => exact fun _ _ _ _ _ _ us hl => match us, hl with | [_], _ => rfl)
    intro g_Form_weights
    refine' DL.prop_k (x := "numbers") (f := "sums") (qual := "Form.numbers") (st := T.s_Form_numbers) k_Form n_Form_sums ?p7_ ?g7_ ?t7_ ?r7_ ?l7_ ?c7_ ?k7_ T.sc_Form_numbers rfl ?b7_ ?z7_
    (case p7_ => k_is); (case g7_ => k_is); (case t7_ => k_is); (case r7_ => k_is); (case l7_ => k_is); (case c7_ => k_is); (case k7_ => k_is)
    (case b7_ => exact fun _ _ _ _ _ _ us hl => match us, hl with | [_], _ => rfl)
    intro g_Form_numbers
    refine' DL.meth_k (x := "__len__") (qual := "Form.__len__") (st := T.s_Form___len__) (ps := ["self"]) k_Form ?a8_ ?i8_ ?l8_ ?c8_ ?k8_ ?b8_ ?z8_
    (case a8_ => k_is); (case i8_ => k_is); (case l8_ => k_is); (case c8_ => k_is); (case k8_ => k_is)
    (case b8_ => exact fun _ _ _ _ _ _ us hl => match us, hl with | [_], _ => rfl)
    intro e_Form___len__
    refine' DL.meth_k (x := "__eq__") (qual := "Form.__eq__") (st := T.s_Form___eq__) (ps := ["self", "other"]) k_Form ?a9_ ?i9_ ?l9_ ?c9_ ?k9_ ?b9_ ?z9_
    (case a9_ => k_is); (case i9_ => k_is); (case l9_ => k_is); (case c9_ => k_is); (case k9_ => k_is)
    (case b9_ => exact fun _ _ _ _ _ _ us hl => match us, hl with | [_, _], _ => rfl)
    intro e_Form___eq__
    refine' DL.def_k (x := "check_three") (st := T.s_check_three) (ps := ["form"]) KX G ?a16 ?l16 ?c16 ?k16 ?b16 ?z16
    (case a16 => k_is); (case l16 => k_is); (case c16 => k_is); (case k16 => k_is)
    (case b16 => exact fun _ _ _ _ _ _ us hl => match us, hl with | [_], _ => rfl)
    intro d_check_three
    refine' DL.def_k (x := "divisor") (st := T.s_divisor) (ps := ["one", "two"]) KX G ?a17 ?l17 ?c17 ?k17 ?b17 ?z17
    (case a17 => k_is); (case l17 => k_is); (case c17 => k_is); (case k17 => k_is)
    (case b17 => exact fun _ _ _ _ _ _ us hl => match us, hl with | [_, _], _ => rfl)
    intro d_divisor
    refine' DL.def_k (x := "lowest") (st := T.s_lowest) (ps := ["row"]) KX G ?a18 ?l18 ?c18 ?k18 ?b18 ?z18
    (case a18 => k_is); (case l18 => k_is); (case c18 => k_is); (case k18 => k_is)
    (case b18 => exact fun _ _ _ _ _ _ us hl => match us, hl with | [_], _ => rfl)
    intro d_lowest
    refine' DL.def_k (x := "come_to") (st := T.s_come_to) (ps := ["numbers", "row"]) KX G ?a19 ?l19 ?c19 ?k19 ?b19 ?z19
    (case a19 => k_is); (case l19 => k_is); (case c19 => k_is); (case k19 => k_is)
    (case b19 => exact fun _ _ _ _ _ _ us hl => match us, hl with | [_, _], _ => rfl)
    intro d_come_to
    refine' DL.def_k (x := "primes_of") (st := T.s_primes_of) (ps := ["weight"]) KX G ?a20 ?l20 ?c20 ?k20 ?b20 ?z20
    (case a20 => k_is); (case l20 => k_is); (case c20 => k_is); (case k20 => k_is)
    (case b20 => exact fun _ _ _ _ _ _ us hl => match us, hl with | [_], _ => rfl)
    intro d_primes_of
    refine' DL.def_k (x := "sign_of") (st := T.s_sign_of) (ps := ["weight"]) KX G ?a21 ?l21 ?c21 ?k21 ?b21 ?z21
    (case a21 => k_is); (case l21 => k_is); (case c21 => k_is); (case k21 => k_is)
    (case b21 => exact fun _ _ _ _ _ _ us hl => match us, hl with | [_], _ => rfl)
    intro d_sign_of
    refine' DL.def_k (x := "powered") (st := T.s_powered) (ps := ["number", "times", "many"]) KX G ?a22 ?l22 ?c22 ?k22 ?b22 ?z22
    (case a22 => k_is); (case l22 => k_is); (case c22 => k_is); (case k22 => k_is)
    (case b22 => exact fun _ _ _ _ _ _ us hl => match us, hl with | [_, _, _], _ => rfl)
    intro d_powered
    refine' DL.def_k (x := "turned") (st := T.s_turned) (ps := ["number", "prime"]) KX G ?a23 ?l23 ?c23 ?k23 ?b23 ?z23
    (case a23 => k_is); (case l23 => k_is); (case c23 => k_is); (case k23 => k_is)
    (case b23 => exact fun _ _ _ _ _ _ us hl => match us, hl with | [_, _], _ => rfl)
    intro d_turned
    refine' DL.def_k (x := "odd_one") (st := T.s_odd_one) (ps := ["prime"]) KX G ?a24 ?l24 ?c24 ?k24 ?b24 ?z24
    (case a24 => k_is); (case l24 => k_is); (case c24 => k_is); (case k24 => k_is)
    (case b24 => exact fun _ _ _ _ _ _ us hl => match us, hl with | [_], _ => rfl)
    intro d_odd_one
    refine' DL.def_k (x := "square_root") (st := T.s_square_root) (ps := ["number", "prime"]) KX G ?a25 ?l25 ?c25 ?k25 ?b25 ?z25
    (case a25 => k_is); (case l25 => k_is); (case c25 => k_is); (case k25 => k_is)
    (case b25 => exact fun _ _ _ _ _ _ us hl => match us, hl with | [_, _], _ => rfl)
    intro d_square_root
    refine' DL.def_k (x := "narrowed") (st := T.s_narrowed) (ps := ["base", "form", "many"]) KX G ?a26 ?l26 ?c26 ?k26 ?b26 ?z26
    (case a26 => k_is); (case l26 => k_is); (case c26 => k_is); (case k26 => k_is)
    (case b26 => exact fun _ _ _ _ _ _ us hl => match us, hl with | [_, _, _], _ => rfl)
    intro d_narrowed
    refine' DL.def_k (x := "is_free") (st := T.s_is_free) (ps := ["value", "many"]) KX G ?a27 ?l27 ?c27 ?k27 ?b27 ?z27
    (case a27 => k_is); (case l27 => k_is); (case c27 => k_is); (case k27 => k_is)
    (case b27 => exact fun _ _ _ _ _ _ us hl => match us, hl with | [_, _], _ => rfl)
    intro d_is_free
    refine' DL.def_k (x := "dot") (st := T.s_dot) (ps := ["sizes", "one", "other"]) KX G ?a28 ?l28 ?c28 ?k28 ?b28 ?z28
    (case a28 => k_is); (case l28 => k_is); (case c28 => k_is); (case k28 => k_is)
    (case b28 => exact fun _ _ _ _ _ _ us hl => match us, hl with | [_, _, _], _ => rfl)
    intro d_dot
    refine' DL.def_k (x := "nearest") (st := T.s_nearest) (ps := ["over", "under"]) KX G ?a29 ?l29 ?c29 ?k29 ?b29 ?z29
    (case a29 => k_is); (case l29 => k_is); (case c29 => k_is); (case k29 => k_is)
    (case b29 => exact fun _ _ _ _ _ _ us hl => match us, hl with | [_, _], _ => rfl)
    intro d_nearest
    refine' DL.def_k (x := "less") (st := T.s_less) (ps := ["row", "other", "times"]) KX G ?a30 ?l30 ?c30 ?k30 ?b30 ?z30
    (case a30 => k_is); (case l30 => k_is); (case c30 => k_is); (case k30 => k_is)
    (case b30 => exact fun _ _ _ _ _ _ us hl => match us, hl with | [_, _, _], _ => rfl)
    intro d_less
    refine' DL.def_k (x := "by_two") (st := T.s_by_two) (ps := ["sizes", "one", "other"]) KX G ?a31 ?l31 ?c31 ?k31 ?b31 ?z31
    (case a31 => k_is); (case l31 => k_is); (case c31 => k_is); (case k31 => k_is)
    (case b31 => exact fun _ _ _ _ _ _ us hl => match us, hl with | [_, _, _], _ => rfl)
    intro d_by_two
    refine' DL.def_k (x := "shortened") (st := T.s_shortened) (ps := ["sizes", "first", "second", "third"]) KX G ?a32 ?l32 ?c32 ?k32 ?b32 ?z32
    (case a32 => k_is); (case l32 => k_is); (case c32 => k_is); (case k32 => k_is)
    (case b32 => exact fun _ _ _ _ _ _ us hl => match us, hl with | [_, _, _, _], _ => rfl)
    intro d_shortened
    refine' DL.def_k (x := "short_base") (st := T.s_short_base) (ps := ["sizes", "base"]) KX G ?a33 ?l33 ?c33 ?k33 ?b33 ?z33
    (case a33 => k_is); (case l33 => k_is); (case c33 => k_is); (case k33 => k_is)
    (case b33 => exact fun _ _ _ _ _ _ us hl => match us, hl with | [_, _], _ => rfl)
    intro d_short_base
    refine' DL.def_k (x := "near_rows") (st := T.s_near_rows) (ps := ["base"]) KX G ?a34 ?l34 ?c34 ?k34 ?b34 ?z34
    (case a34 => k_is); (case l34 => k_is); (case c34 => k_is); (case k34 => k_is)
    (case b34 => exact fun _ _ _ _ _ _ us hl => match us, hl with | [_], _ => rfl)
    intro d_near_rows
    refine' DL.def_k (x := "odd_primes_of") (st := T.s_odd_primes_of) (ps := ["weight"]) KX G ?a35 ?l35 ?c35 ?k35 ?b35 ?z35
    (case a35 => k_is); (case l35 => k_is); (case c35 => k_is); (case k35 => k_is)
    (case b35 => exact fun _ _ _ _ _ _ us hl => match us, hl with | [_], _ => rfl)
    intro d_odd_primes_of
    refine' DL.def_k (x := "root_of") (st := T.s_root_of) (ps := ["weight"]) KX G ?a36 ?l36 ?c36 ?k36 ?b36 ?z36
    (case a36 => k_is); (case l36 => k_is); (case c36 => k_is); (case k36 => k_is)
    (case b36 => exact fun _ _ _ _ _ _ us hl => match us, hl with | [_], _ => rfl)
    intro d_root_of
    refine' DL.cls_k (x := "Normal") KX G ?a10_ ?p10_ ?h10_ ?o10_ ?s10_ ?c10_ ?g10_ ?t10_ ?m10_ ?z10_
    (case a10_ => k_is); (case p10_ => k_is); (case h10_ => k_is); (case o10_ => k_is); (case s10_ => k_is); (case c10_ => k_is); (case g10_ => k_is); (case t10_ => k_is); (case m10_ => k_is)
    intro m_Normal k_Normal
    refine' DL.noattr_k (f := "bare") k_Normal ?h11_ ?z11_
    (case h11_ => k_is)
    intro n_Normal_bare
    refine' DL.noattr_k (f := "ups") k_Normal ?h12_ ?z12_
    (case h12_ => k_is)
    intro n_Normal_ups
    refine' DL.noattr_k (f := "downs") k_Normal ?h13_ ?z13_
    (case h13_ => k_is)
    intro n_Normal_downs
    refine' DL.noattr_k (f := "signs") k_Normal ?h14_ ?z14_
    (case h14_ => k_is)
    intro n_Normal_signs
    refine' DL.init_k (qual := "Normal.__init__") (st := T.s_Normal___init__) (ps := ["self", "rows"]) k_Normal ?m15_ ?i15_ ?f15_ ?p15_ ?l15_ ?c15_ ?k15_ ?b15_ ?z15_
    (case m15_ => k_is); (case i15_ => k_is); (case f15_ => k_is); (case p15_ => k_is); (case l15_ => k_is); (case c15_ => k_is); (case k15_ => k_is)
    (case b15_ => exact fun _ _ _ _ _ _ us hl => match us, hl with | [_, _], _ => rfl)
    intro i_Normal
    refine' DL.meth_k (x := "all_weights") (qual := "Normal.all_weights") (st := T.s_Normal_all_weights) (ps := ["self"]) k_Normal ?a16_ ?i16_ ?l16_ ?c16_ ?k16_ ?b16_ ?z16_
    (case a16_ => k_is); (case i16_ => k_is); (case l16_ => k_is); (case c16_ => k_is); (case k16_ => k_is)
    (case b16_ => exact fun _ _ _ _ _ _ us hl => match us, hl with | [_], _ => rfl)
    intro e_Normal_all_weights
    refine' DL.meth_k (x := "back") (qual := "Normal.back") (st := T.s_Normal_back) (ps := ["self", "row"]) k_Normal ?a17_ ?i17_ ?l17_ ?c17_ ?k17_ ?b17_ ?z17_
    (case a17_ => k_is); (case i17_ => k_is); (case l17_ => k_is); (case c17_ => k_is); (case k17_ => k_is)
    (case b17_ => exact fun _ _ _ _ _ _ us hl => match us, hl with | [_, _], _ => rfl)
    intro e_Normal_back
    refine' DL.def_k (x := "is_square") (st := T.s_is_square) (ps := ["number", "prime"]) KX G ?a46 ?l46 ?c46 ?k46 ?b46 ?z46
    (case a46 => k_is); (case l46 => k_is); (case c46 => k_is); (case k46 => k_is)
    (case b46 => exact fun _ _ _ _ _ _ us hl => match us, hl with | [_, _], _ => rfl)
    intro d_is_square
    refine' DL.def_k (x := "two_bars") (st := T.s_two_bars) (ps := ["numbers"]) KX G ?a47 ?l47 ?c47 ?k47 ?b47 ?z47
    (case a47 => k_is); (case l47 => k_is); (case c47 => k_is); (case k47 => k_is)
    (case b47 => exact fun _ _ _ _ _ _ us hl => match us, hl with | [_], _ => rfl)
    intro d_two_bars
    refine' DL.def_k (x := "bars_of") (st := T.s_bars_of) (ps := ["shape"]) KX G ?a48 ?l48 ?c48 ?k48 ?b48 ?z48
    (case a48 => k_is); (case l48 => k_is); (case c48 => k_is); (case k48 => k_is)
    (case b48 => exact fun _ _ _ _ _ _ us hl => match us, hl with | [_], _ => rfl)
    intro d_bars_of
    refine' DL.def_k (x := "ends_of") (st := T.s_ends_of) (ps := ["weight", "prime"]) KX G ?a49 ?l49 ?c49 ?k49 ?b49 ?z49
    (case a49 => k_is); (case l49 => k_is); (case c49 => k_is); (case k49 => k_is)
    (case b49 => exact fun _ _ _ _ _ _ us hl => match us, hl with | [_, _], _ => rfl)
    intro d_ends_of
    refine' DL.def_k (x := "symbol") (st := T.s_symbol) (ps := ["one", "other", "prime"]) KX G ?a50 ?l50 ?c50 ?k50 ?b50 ?z50
    (case a50 => k_is); (case l50 => k_is); (case c50 => k_is); (case k50 => k_is)
    (case b50 => exact fun _ _ _ _ _ _ us hl => match us, hl with | [_, _, _], _ => rfl)
    intro d_symbol
    refine' DL.def_k (x := "is_local_square") (st := T.s_is_local_square) (ps := ["weight", "prime"]) KX G ?a51 ?l51 ?c51 ?k51 ?b51 ?z51
    (case a51 => k_is); (case l51 => k_is); (case c51 => k_is); (case k51 => k_is)
    (case b51 => exact fun _ _ _ _ _ _ us hl => match us, hl with | [_, _], _ => rfl)
    intro d_is_local_square
    refine' DL.def_k (x := "four_bar") (st := T.s_four_bar) (ps := ["rows", "prime"]) KX G ?a52 ?l52 ?c52 ?k52 ?b52 ?z52
    (case a52 => k_is); (case l52 => k_is); (case c52 => k_is); (case k52 => k_is)
    (case b52 => exact fun _ _ _ _ _ _ us hl => match us, hl with | [_, _], _ => rfl)
    intro d_four_bar
    refine' DL.def_k (x := "four_bars") (st := T.s_four_bars) (ps := ["rows"]) KX G ?a53 ?l53 ?c53 ?k53 ?b53 ?z53
    (case a53 => k_is); (case l53 => k_is); (case c53 => k_is); (case k53 => k_is)
    (case b53 => exact fun _ _ _ _ _ _ us hl => match us, hl with | [_], _ => rfl)
    intro d_four_bars
    refine' DL.def_k (x := "bad_places") (st := T.s_bad_places) (ps := ["form"]) KX G ?a54 ?l54 ?c54 ?k54 ?b54 ?z54
    (case a54 => k_is); (case l54 => k_is); (case c54 => k_is); (case k54 => k_is)
    (case b54 => exact fun _ _ _ _ _ _ us hl => match us, hl with | [_], _ => rfl)
    intro d_bad_places
    refine' DL.def_k (x := "two_rules") (st := T.s_two_rules) (ps := ["numbers"]) KX G ?a55 ?l55 ?c55 ?k55 ?b55 ?z55
    (case a55 => k_is); (case l55 => k_is); (case c55 => k_is); (case k55 => k_is)
    (case b55 => exact fun _ _ _ _ _ _ us hl => match us, hl with | [_], _ => rfl)
    intro d_two_rules
    refine' DL.def_k (x := "unit") (st := T.s_unit) (ps := ["at", "other", "factor"]) KX G ?a56 ?l56 ?c56 ?k56 ?b56 ?z56
    (case a56 => k_is); (case l56 => k_is); (case c56 => k_is); (case k56 => k_is)
    (case b56 => exact fun _ _ _ _ _ _ us hl => match us, hl with | [_, _, _], _ => rfl)
    intro d_unit
    refine' DL.def_k (x := "odd_rules") (st := T.s_odd_rules) (ps := ["shape"]) KX G ?a57 ?l57 ?c57 ?k57 ?b57 ?z57
    (case a57 => k_is); (case l57 => k_is); (case c57 => k_is); (case k57 => k_is)
    (case b57 => exact fun _ _ _ _ _ _ us hl => match us, hl with | [_], _ => rfl)
    intro d_odd_rules
    refine' DL.def_k (x := "grid_row") (st := T.s_grid_row) (ps := ["shape"]) KX G ?a58 ?l58 ?c58 ?k58 ?b58 ?z58
    (case a58 => k_is); (case l58 => k_is); (case c58 => k_is); (case k58 => k_is)
    (case b58 => exact fun _ _ _ _ _ _ us hl => match us, hl with | [_], _ => rfl)
    intro d_grid_row
    refine' DL.def_k (x := "parted") (st := T.s_parted) (ps := ["one", "other"]) KX G ?a59 ?l59 ?c59 ?k59 ?b59 ?z59
    (case a59 => k_is); (case l59 => k_is); (case c59 => k_is); (case k59 => k_is)
    (case b59 => exact fun _ _ _ _ _ _ us hl => match us, hl with | [_, _], _ => rfl)
    intro d_parted
    refine' DL.def_k (x := "step_down") (st := T.s_step_down) (ps := ["numbers", "row"]) KX G ?a60 ?l60 ?c60 ?k60 ?b60 ?z60
    (case a60 => k_is); (case l60 => k_is); (case c60 => k_is); (case k60 => k_is)
    (case b60 => exact fun _ _ _ _ _ _ us hl => match us, hl with | [_, _], _ => rfl)
    intro d_step_down
    refine' DL.def_k (x := "small_row") (st := T.s_small_row) (ps := ["numbers", "row"]) KX G ?a61 ?l61 ?c61 ?k61 ?b61 ?z61
    (case a61 => k_is); (case l61 => k_is); (case c61 => k_is); (case k61 => k_is)
    (case b61 => exact fun _ _ _ _ _ _ us hl => match us, hl with | [_, _], _ => rfl)
    intro d_small_row
    refine' DL.def_k (x := "answer_of") (st := T.s_answer_of) (ps := ["rows"]) KX G ?a62 ?l62 ?c62 ?k62 ?b62 ?z62
    (case a62 => k_is); (case l62 => k_is); (case c62 => k_is); (case k62 => k_is)
    (case b62 => exact fun _ _ _ _ _ _ us hl => match us, hl with | [_], _ => rfl)
    intro d_answer_of
    refine' DL.def_k (x := "answer") (st := T.s_answer) (ps := ["form"]) KX G ?a63 ?l63 ?c63 ?k63 ?b63 ?z63
    (case a63 => k_is); (case l63 => k_is); (case c63 => k_is); (case k63 => k_is)
    (case b63 => exact fun _ _ _ _ _ _ us hl => match us, hl with | [_], _ => rfl)
    intro d_answer
    refine' DL.def_k (x := "_law_mix") (st := T.s__law_mix) (ps := ["_law_script", "_law_seed"]) KX G ?a64 ?l64 ?c64 ?k64 ?b64 ?z64
    (case a64 => k_is); (case l64 => k_is); (case c64 => k_is); (case k64 => k_is)
    (case b64 => exact fun _ _ _ _ _ _ us hl => match us, hl with | [_, _], _ => rfl)
    intro d__law_mix
    refine' DL.def_k (x := "_law_next") (st := T.s__law_next) (ps := ["_law_h", "_law_cap"]) KX G ?a65 ?l65 ?c65 ?k65 ?b65 ?z65
    (case a65 => k_is); (case l65 => k_is); (case c65 => k_is); (case k65 => k_is)
    (case b65 => exact fun _ _ _ _ _ _ us hl => match us, hl with | [_, _], _ => rfl)
    intro d__law_next
    refine' DL.def_k (x := "_law_pick") (st := T.s__law_pick) (ps := ["_law_h", "_law_things"]) KX G ?a66 ?l66 ?c66 ?k66 ?b66 ?z66
    (case a66 => k_is); (case l66 => k_is); (case c66 => k_is); (case k66 => k_is)
    (case b66 => exact fun _ _ _ _ _ _ us hl => match us, hl with | [_, _], _ => rfl)
    intro d__law_pick
    refine' DL.def_k (x := "_law_weight") (st := T.s__law_weight) (ps := ["_law_h"]) KX G ?a67 ?l67 ?c67 ?k67 ?b67 ?z67
    (case a67 => k_is); (case l67 => k_is); (case c67 => k_is); (case k67 => k_is)
    (case b67 => exact fun _ _ _ _ _ _ us hl => match us, hl with | [_], _ => rfl)
    intro d__law_weight
    refine' DL.def_k (x := "_law_come") (st := T.s__law_come) (ps := ["_law_numbers", "_law_row"]) KX G ?a68 ?l68 ?c68 ?k68 ?b68 ?z68
    (case a68 => k_is); (case l68 => k_is); (case c68 => k_is); (case k68 => k_is)
    (case b68 => exact fun _ _ _ _ _ _ us hl => match us, hl with | [_, _], _ => rfl)
    intro d__law_come
    refine' DL.def_k (x := "_law_gcd") (st := T.s__law_gcd) (ps := ["_law_numbers"]) KX G ?a69 ?l69 ?c69 ?k69 ?b69 ?z69
    (case a69 => k_is); (case l69 => k_is); (case c69 => k_is); (case k69 => k_is)
    (case b69 => exact fun _ _ _ _ _ _ us hl => match us, hl with | [_], _ => rfl)
    intro d__law_gcd
    refine' DL.def_k (x := "_law_is_answer") (st := T.s__law_is_answer) (ps := ["_law_numbers", "_law_thing"]) KX G ?a70 ?l70 ?c70 ?k70 ?b70 ?z70
    (case a70 => k_is); (case l70 => k_is); (case c70 => k_is); (case k70 => k_is)
    (case b70 => exact fun _ _ _ _ _ _ us hl => match us, hl with | [_, _], _ => rfl)
    intro d__law_is_answer
    refine' DL.def_k (x := "_law_told") (st := T.s__law_told) (ps := ["_law_h"]) KX G ?a71 ?l71 ?c71 ?k71 ?b71 ?z71
    (case a71 => k_is); (case l71 => k_is); (case c71 => k_is); (case k71 => k_is)
    (case b71 => exact fun _ _ _ _ _ _ us hl => match us, hl with | [_], _ => rfl)
    intro d__law_told
    refine' DL.def_k (x := "_law_plain") (st := T.s__law_plain) (ps := ["_law_h"]) KX G ?a72 ?l72 ?c72 ?k72 ?b72 ?z72
    (case a72 => k_is); (case l72 => k_is); (case c72 => k_is); (case k72 => k_is)
    (case b72 => exact fun _ _ _ _ _ _ us hl => match us, hl with | [_], _ => rfl)
    intro d__law_plain
    refine' DL.def_k (x := "law") (st := T.s_law) (ps := ["_law_script"]) KX G ?a73 ?l73 ?c73 ?k73 ?b73 ?z73
    (case a73 => k_is); (case l73 => k_is); (case c73 => k_is); (case k73 => k_is)
    (case b73 => exact fun _ _ _ _ _ _ us hl => match us, hl with | [_], _ => rfl)
    intro d_law
    have C : T.Ctx _ mg ⟨0, 0, 0, _, _⟩ := ⟨B, c_MOST_PART, c_MOST_PARTS, c_SIZES, d_is_integer, d_is_weight, d_product, m_Form, k_Form, n_Form_rows, n_Form_sums, i_Form, g_Form_weights, g_Form_numbers, e_Form___len__, e_Form___eq__, d_check_three, d_divisor, d_lowest, d_come_to, d_primes_of, d_sign_of, d_powered, d_turned, d_odd_one, d_square_root, d_narrowed, d_is_free, d_dot, d_nearest, d_less, d_by_two, d_shortened, d_short_base, d_near_rows, d_odd_primes_of, d_root_of, m_Normal, k_Normal, n_Normal_bare, n_Normal_ups, n_Normal_downs, n_Normal_signs, i_Normal, e_Normal_all_weights, e_Normal_back, d_is_square, d_two_bars, d_bars_of, d_ends_of, d_symbol, d_is_local_square, d_four_bar, d_four_bars, d_bad_places, d_two_rules, d_unit, d_odd_rules, d_grid_row, d_parted, d_step_down, d_small_row, d_answer_of, d_answer, d__law_mix, d__law_next, d__law_pick, d__law_weight, d__law_come, d__law_gcd, d__law_is_answer, d__law_told, d__law_plain, d_law⟩
    exact DL.law_end (fun base X' G' => T.ok_law C) KX G hmg

