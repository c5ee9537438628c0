import PyProof.Rows.All
import Wide.All
import OpenK.AllK
import Wide.FinOn
import HandS.ForMost
import HandS.Wide
import HandS.TupAny
import HandS.IsInst
import HandS.TupMul
import HandS.Property
import HandS.Style
import HandS.Deep
import KE.GoesNew
import HandS.SetFor
import HandS.SortInts
import HandS.Conv
import KE.DataCmp
import KE.DataMinMax
import HandS.TryOnly
import HandS.More
import HandS.Exc
import HandS.ExcOwn
import HandS.ExcIs
import HandS.ExcField
import HandS.WordsExc
import KE.KExcIs
import HandS.ExcCtx
import HandS.HotCalls
import KE.KDictKeyed
import PySem.Challenge.RW_squareweights_k08_whole_bars_by_remainde
set_option Elab.async false
set_option linter.all false
set_option autoImplicit false
set_option maxRecDepth 100000
set_option maxHeartbeats 4000000
/-! DL: readings over plain data; the heap hidden. -/
namespace DL
open PySem L2

/-- plain data: what a value is, down to its leaves -/
inductive D where
  | raw (v : V)
  | tup (xs : List D)
  | lst (xs : List D)
  | dic (ks : List Key) (vs : List D)
  | ins (C : Addr) (ns : List Str) (vs : List D)
  | rd (xs : List D)
abbrev D.int (i : Int) : D := .raw (.int i)
abbrev D.bl (b : Bool) : D := .raw (.bl b)
abbrev D.non : D := .raw .non
abbrev D.str (s : Str) : D := .raw (.str s)
abbrev D.ints (ns : List Int) : List D := ns.map D.int

section
variable (K : PySem.W.Frag)
mutual
def Den (F : Hp) : D → V → Prop
  | .raw v, x => x = v
  | .tup ds, x => ∃ a vs, x = .ref a ∧ SqT K F a vs ∧ Dens F ds vs
  | .lst ds, x => ∃ a vs, x = .ref a ∧ F a = some (.lst vs) ∧ Dens F ds vs
  | .dic ks ds, x => ∃ a vs, x = .ref a ∧ F a = some (.dK (ks.zip vs)) ∧ ks.length = vs.length ∧ Dens F ds vs
  | .ins C ns ds, x => ∃ a dx vs, x = .ref a ∧ F a = some (.ins C dx (ns.zip vs)) ∧ ns.length = vs.length ∧ Dens F ds vs
  | .rd ds, x => ∃ a vs, x = .ref a ∧ SqL K F a vs ∧ Dens F ds vs
def Dens (F : Hp) : List D → List V → Prop
  | [], vs => vs = []
  | d :: ds, vs => ∃ v r, vs = v :: r ∧ Den F d v ∧ Dens F ds r
end

theorem sqt_same {F F' : Hp} {a : Addr} {xs : List V} (e : Same F F') (h : SqT K F a xs) : SqT K F' a xs := by
  rcases h with (h | ⟨o, h⟩) | h
  · exact .inl (.inl (e _ _ h))
  · exact .inl (.inr ⟨o, e _ _ h⟩)
  · exact .inr h
mutual
theorem Den.mono {F F' : Hp} (e : Same F F') : ∀ (d : D) (x : V), Den K F d x → Den K F' d x
  | .raw v, x, h => h
  | .tup ds, x, h => by
    obtain ⟨a, vs, h1, h2, h3⟩ := h
    exact ⟨a, vs, h1, sqt_same K e h2, Dens.mono e ds vs h3⟩
  | .lst ds, x, h => by
    obtain ⟨a, vs, h1, h2, h3⟩ := h
    exact ⟨a, vs, h1, e _ _ h2, Dens.mono e ds vs h3⟩
  | .dic ks ds, x, h => by
    obtain ⟨a, vs, h1, h2, h4, h3⟩ := h
    exact ⟨a, vs, h1, e _ _ h2, h4, Dens.mono e ds vs h3⟩
  | .ins C ns ds, x, h => by
    obtain ⟨a, dx, vs, h1, h2, h4, h3⟩ := h
    exact ⟨a, dx, vs, h1, e _ _ h2, h4, Dens.mono e ds vs h3⟩
  | .rd ds, x, h => by
    obtain ⟨a, vs, h1, h2, h3⟩ := h
    exact ⟨a, vs, h1, e.seq h2, Dens.mono e ds vs h3⟩
theorem Dens.mono {F F' : Hp} (e : Same F F') : ∀ (ds : List D) (vs : List V), Dens K F ds vs → Dens K F' ds vs
  | [], vs, h => h
  | d :: ds, vs, h => by
    obtain ⟨v, r, h1, h2, h3⟩ := h
    exact ⟨v, r, h1, Den.mono e d v h2, Dens.mono e ds r h3⟩
end
variable {K}
theorem Dens.nil {F : Hp} : Dens K F [] [] := rfl
theorem Dens.cons {F : Hp} {d : D} {ds : List D} {v : V} {vs : List V} (h : Den K F d v) (t : Dens K F ds vs) : Dens K F (d :: ds) (v :: vs) := ⟨v, vs, rfl, h, t⟩
theorem Dens.length {F : Hp} : ∀ {ds : List D} {vs : List V}, Dens K F ds vs → ds.length = vs.length
  | [], _, h => by
    have h : _ = [] := h
    subst h; rfl
  | d :: ds, _, h => by
    obtain ⟨v, r, rfl, _, h3⟩ := h
    simp [Dens.length h3]
theorem Dens.get {F : Hp} : ∀ {ds : List D} {vs : List V} {i : Nat} {d : D}, Dens K F ds vs → ds[i]? = some d → ∃ v, vs[i]? = some v ∧ Den K F d v
  | [], _, _, _, _, e => by simp at e
  | d :: ds, _, 0, _, h, e => by
    obtain ⟨v, r, rfl, h2, h3⟩ := h
    simp at e; subst e
    exact ⟨v, rfl, h2⟩
  | d :: ds, _, i + 1, _, h, e => by
    obtain ⟨v, r, rfl, h2, h3⟩ := h
    obtain ⟨u, q, hu⟩ := Dens.get (i := i) h3 (by simpa using e)
    exact ⟨u, by simpa using q, hu⟩
theorem Dens.append {F : Hp} : ∀ {ds es : List D} {vs us : List V}, Dens K F ds vs → Dens K F es us → Dens K F (ds ++ es) (vs ++ us)
  | [], _, _, _, h, k => by
    have h : _ = [] := h
    subst h; exact k
  | d :: ds, _, _, _, h, k => by
    obtain ⟨v, r, rfl, h2, h3⟩ := h
    exact ⟨v, r ++ _, rfl, h2, Dens.append h3 k⟩
theorem Dens.drop {F : Hp} : ∀ (n : Nat) {ds : List D} {vs : List V}, Dens K F ds vs → Dens K F (ds.drop n) (vs.drop n)
  | 0, _, _, h => h
  | n + 1, [], _, h => by
    have h : _ = [] := h
    subst h; exact rfl
  | n + 1, d :: ds, _, h => by
    obtain ⟨v, r, rfl, h2, h3⟩ := h
    exact Dens.drop n h3
theorem Dens.take {F : Hp} : ∀ (n : Nat) {ds : List D} {vs : List V}, Dens K F ds vs → Dens K F (ds.take n) (vs.take n)
  | 0, _, _, h => rfl
  | n + 1, [], _, h => by
    have h : _ = [] := h
    subst h; exact rfl
  | n + 1, d :: ds, _, h => by
    obtain ⟨v, r, rfl, h2, h3⟩ := h
    exact ⟨v, r.take n, rfl, h2, Dens.take n h3⟩
theorem Dens.set {F : Hp} {d : D} {v : V} (hd : Den K F d v) : ∀ (i : Nat) {ds : List D} {vs : List V}, Dens K F ds vs → Dens K F (ds.set i d) (vs.set i v)
  | _, [], _, h => by
    have h : _ = [] := h
    subst h; exact rfl
  | 0, d' :: ds, _, h => by
    obtain ⟨u, r, rfl, h2, h3⟩ := h
    exact ⟨v, r, rfl, hd, h3⟩
  | i + 1, d' :: ds, _, h => by
    obtain ⟨u, r, rfl, h2, h3⟩ := h
    exact ⟨u, r.set i v, rfl, h2, Dens.set hd i h3⟩
theorem Dens.raws {F : Hp} : ∀ {xs : List V}, Dens K F (xs.map D.raw) xs
  | [] => rfl
  | x :: xs => ⟨x, xs, rfl, rfl, Dens.raws⟩
theorem Dens.ofRaws {F : Hp} : ∀ {xs : List V} {vs : List V}, Dens K F (xs.map D.raw) vs → vs = xs
  | [], _, h => h
  | x :: xs, _, h => by
    obtain ⟨v, r, rfl, h2, h3⟩ := h
    have h2 : v = x := h2
    rw [h2, Dens.ofRaws h3]
theorem Dens.ofInts {F : Hp} {ns : List Int} {vs : List V} (h : Dens K F (D.ints ns) vs) : vs = ns.map V.int := by
  have e : D.ints ns = (ns.map V.int).map D.raw := by simp [D.ints, Function.comp_def]
  rw [e] at h
  exact h.ofRaws
theorem Dens.replicate {F : Hp} {d : D} {v : V} (h : Den K F d v) : ∀ n : Nat, Dens K F (List.replicate n d) (List.replicate n v)
  | 0 => rfl
  | n + 1 => ⟨v, List.replicate n v, rfl, h, Dens.replicate h n⟩
end

/-! ### what may change: numbered things, each at an address (two, for the source of draws) -/
inductive MO where
  | lst (ds : List D)
  | dic (ks : List Key) (vs : List D)
  | ins (C : Addr) (ns : List Str) (vs : List D)
  | rng
  | dead
  | frz (d : Addr) (od : Obj) (kvs : List (Key × V)) (ks : List Key) (ds : List D)
  | pin (a : Addr) (ds : List D)
  | hoF (a : Addr) (o : HO) (y : Hp → Prop) (m : ∀ F F' : Hp, Same F F' → y F → y F')
abbrev MO.ho (a : Addr) (o : HO) : MO := .hoF a o (fun _ => True) (fun _ _ _ h => h)
abbrev Al := List (Addr × Addr)
/-- the source of draws as it stands -/
def Rng (H : Hp) (p : Addr × Addr) : Prop := ∃ (s i : Int) (cells : List Int), p.1 ≠ p.2 ∧ H p.1 = some (.lst [.int s, .ref p.2, .int i]) ∧ H p.2 = some (.lst (cells.map V.int)) ∧
  0 ≤ s ∧ s < 2147483647 ∧ cells.length ≤ 63 ∧ 0 ≤ i
section
variable (K : PySem.W.Frag)
def MObj (F H : Hp) : MO → Addr × Addr → Prop
  | .lst ds, p => F p.1 = none ∧ ∃ vs, H p.1 = some (.lst vs) ∧ Dens K F ds vs
  | .dic ks ds, p => F p.1 = none ∧ ∃ vs, H p.1 = some (.dK (ks.zip vs)) ∧ ks.length = vs.length ∧ Dens K F ds vs
  | .ins C ns ds, p => F p.1 = none ∧ ∃ dx vs, H p.1 = some (.ins C dx (ns.zip vs)) ∧ ns.length = vs.length ∧ Dens K F ds vs
  | .rng, p => F p.1 = none ∧ F p.2 = none ∧ Rng H p
  | .dead, _ => True
  | .frz d od kvs ks ds, p => F p.1 = none ∧ p.1 = d ∧ H p.1 = some (.frz od (.dK kvs)) ∧ ∃ vs, kvs = ks.zip vs ∧ ks.length = vs.length ∧ Dens K F ds vs
  | .pin a ds, p => F p.1 = none ∧ p.1 = a ∧ ∃ vs, H p.1 = some (.lst vs) ∧ Dens K F ds vs
  | .hoF a o y m, p => F p.1 = none ∧ p.1 = a ∧ H p.1 = some o ∧ y F
def Apart (p q : Addr × Addr) : Prop := p.1 ≠ q.1 ∧ p.1 ≠ q.2 ∧ p.2 ≠ q.1 ∧ p.2 ≠ q.2
structure Sta (α : Al) (M : List MO) (F H : Hp) : Prop where
  sub : Same F H
  len : M.length = α.length
  ob : ∀ (i : Nat) m p, M[i]? = some m → α[i]? = some p → MObj K F H m p
  ap : ∀ (i j : Nat) p q, i < j → α[i]? = some p → α[j]? = some q → Apart p q
  tr : ∀ p, p ∈ α → H p.1 ≠ none ∧ H p.2 ≠ none
/-- a slot: data, or the k-th thing -/
inductive Sl where
  | v (d : D)
  | l (k : Nat)
def SlOk (α : Al) (F : Hp) : Sl → V → Prop
  | .v d, x => Den K F d x
  | .l k, x => ∃ p, α[k]? = some p ∧ x = .ref p.1
abbrev Rho := List (Option Sl)
structure EnvOk (α : Al) (F : Hp) (σ : L2.St) (ρ : Rho) : Prop where
  len : σ.length = ρ.length
  at' : ∀ (i : Nat) s, ρ[i]? = some (some s) → ∃ v, σ[i]? = some (some v) ∧ SlOk K α F s v
/-- from one heap to a later one: all but the numbered things as it was -/
structure Move (α : Al) (F H F' H' : Hp) : Prop where
  ex : Same F F'
  fr : ∀ b o, H b = some o → (∀ p, p ∈ α → b ≠ p.1 ∧ b ≠ p.2) → H' b = some o
  tr : ∀ b, H b ≠ none → H' b ≠ none
  new : ∀ b, F' b ≠ none → F b ≠ none ∨ H b = none
end
theorem Move.refl {α : Al} {F H : Hp} : Move α F H F H := ⟨fun _ _ h => h, fun _ _ h _ => h, fun _ h => h, fun _ h => .inl h⟩
theorem Move.trans {α : Al} {F H F1 H1 F2 H2 : Hp} (a : Move α F H F1 H1) (b : Move α F1 H1 F2 H2) : Move α F H F2 H2 where
  ex := a.ex.trans b.ex
  fr := fun c o h k => b.fr c o (a.fr c o h k) k
  tr := fun c h => b.tr c (a.tr c h)
  new := fun c h => by
    rcases b.new c h with q | q
    · exact a.new c q
    · refine .inr ?_
      cases e : H c with
      | none => rfl
      | some o => exact absurd q (a.tr c (by rw [e]; simp))

section
variable {K : PySem.W.Frag}
theorem SlOk.mono {α : Al} {F F' : Hp} (e : Same F F') : ∀ {s : Sl} {x : V}, SlOk K α F s x → SlOk K α F' s x
  | .v d, x, h => Den.mono K e d x h
  | .l k, x, h => h
theorem EnvOk.mono {α : Al} {F F' : Hp} {σ : L2.St} {ρ : Rho} (e : Same F F') (h : EnvOk K α F σ ρ) : EnvOk K α F' σ ρ :=
  ⟨h.len, fun i s q => let ⟨v, a, b⟩ := h.at' i s q; ⟨v, a, b.mono e⟩⟩
theorem EnvOk.set {α : Al} {F : Hp} {σ : L2.St} {ρ : Rho} (h : EnvOk K α F σ ρ) (i : Nat) {s : Sl} {v : V} (hv : SlOk K α F s v) : EnvOk K α F (σ.set i (some v)) (ρ.set i (some s)) := by
  refine ⟨by simp [h.len], fun j t q => ?_⟩
  by_cases e : i = j
  · subst e
    by_cases hl : i < ρ.length
    · rw [List.getElem?_set_self hl] at q
      cases q
      exact ⟨v, by rw [List.getElem?_set_self (by rw [h.len]; exact hl)], hv⟩
    · rw [List.getElem?_eq_none (by simpa using hl)] at q; cases q
  · rw [List.getElem?_set_ne e] at q ⊢
    exact h.at' j t q
theorem EnvOk.setN {α : Al} {F : Hp} {σ : L2.St} {ρ : Rho} (h : EnvOk K α F σ ρ) (i : Nat) : EnvOk K α F (σ.set i none) (ρ.set i none) := by
  refine ⟨by simp [h.len], fun j t q => ?_⟩
  by_cases e : i = j
  · subst e
    by_cases hl : i < ρ.length
    · rw [List.getElem?_set_self hl] at q; cases q
    · rw [List.getElem?_eq_none (by simpa using hl)] at q; cases q
  · rw [List.getElem?_set_ne e] at q ⊢
    exact h.at' j t q

theorem raw_ok {α : Al} {F : Hp} {v : V} : SlOk K α F (.v (.raw v)) v := rfl
theorem den_ok {α : Al} {F : Hp} {d : D} {v : V} (h : Den K F d v) : SlOk K α F (.v d) v := h
/-! ### expressions -/
def EvP (K : PySem.W.Frag) (te : TE) (ρ : Rho) (M : List MO) (Q : Sl → Prop) : Prop := ∀ (σ : L2.St) (α : Al) (F H : Hp), EnvOk K α F σ ρ → Sta K α M F H → ∀ k : VK,
  (∀ v F' H' s, Move α F H F' H' → Sta K α M F' H' → SlOk K α F' s v → Q s → k v H') → te σ H k
def EvT (K : PySem.W.Frag) (tt : TT) (ρ : Rho) (M : List MO) (Q : Bool → Prop) : Prop := ∀ (σ : L2.St) (α : Al) (F H : Hp), EnvOk K α F σ ρ → Sta K α M F H → ∀ k : Bool → Hp → Prop,
  (∀ b F' H', Move α F H F' H' → Sta K α M F' H' → Q b → k b H') → tt σ H k
def SlsOk (K : PySem.W.Frag) (α : Al) (F : Hp) : List Sl → List V → Prop
  | [], vs => vs = []
  | s :: ss, vs => ∃ v r, vs = v :: r ∧ SlOk K α F s v ∧ SlsOk K α F ss r
theorem SlsOk.mono {α : Al} {F F' : Hp} (e : Same F F') : ∀ {ss : List Sl} {vs : List V}, SlsOk K α F ss vs → SlsOk K α F' ss vs
  | [], _, h => h
  | s :: ss, _, h => by
    obtain ⟨v, r, h1, h2, h3⟩ := h
    exact ⟨v, r, h1, h2.mono e, SlsOk.mono e h3⟩
theorem SlsOk.dens {α : Al} {F : Hp} : ∀ {ds : List D} {vs : List V}, SlsOk K α F (ds.map Sl.v) vs → Dens K F ds vs
  | [], _, h => h
  | d :: ds, _, h => by
    obtain ⟨v, r, h1, h2, h3⟩ := h
    exact ⟨v, r, h1, h2, SlsOk.dens h3⟩
theorem SlsOk.length {α : Al} {F : Hp} : ∀ {ss : List Sl} {vs : List V}, SlsOk K α F ss vs → ss.length = vs.length
  | [], _, h => by
    have h : _ = [] := h
    subst h; rfl
  | s :: ss, _, h => by
    obtain ⟨v, r, rfl, _, h3⟩ := h
    simp [SlsOk.length h3]
def EvA (K : PySem.W.Frag) (ta : TA) (ρ : Rho) (M : List MO) (Q : List Sl → Prop) : Prop := ∀ (σ : L2.St) (α : Al) (F H : Hp), EnvOk K α F σ ρ → Sta K α M F H → ∀ k : List V → Hp → Prop,
  (∀ vs F' H' ss, Move α F H F' H' → Sta K α M F' H' → SlsOk K α F' ss vs → Q ss → k vs H') → ta σ H k
def EvO (K : PySem.W.Frag) (to : TO) (ρ : Rho) (M : List MO) (Q : Option Int → Prop) : Prop := ∀ (σ : L2.St) (α : Al) (F H : Hp), EnvOk K α F σ ρ → Sta K α M F H → ∀ k : Option Int → Hp → Prop,
  (∀ o F' H', Move α F H F' H' → Sta K α M F' H' → Q o → k o H') → to σ H k
/-- operations by values -/
def EvR (K : PySem.W.Frag) (r : R2) (M : List MO) (x y : Sl) (Q : Sl → Prop) : Prop := ∀ (α : Al) (F H : Hp) (u v : V), Sta K α M F H → SlOk K α F x u → SlOk K α F y v → ∀ k : VK,
  (∀ z F' H' s, Move α F H F' H' → Sta K α M F' H' → SlOk K α F' s z → Q s → k z H') → r u v H k
def EvU (K : PySem.W.Frag) (r : V → Hp → VK → Prop) (M : List MO) (x : Sl) (Q : Sl → Prop) : Prop := ∀ (α : Al) (F H : Hp) (u : V), Sta K α M F H → SlOk K α F x u → ∀ k : VK,
  (∀ z F' H' s, Move α F H F' H' → Sta K α M F' H' → SlOk K α F' s z → Q s → k z H') → r u H k
def EvC (K : PySem.W.Frag) (r : List V → Hp → VK → Prop) (M : List MO) (xs : List Sl) (Q : Sl → Prop) : Prop := ∀ (α : Al) (F H : Hp) (us : List V), Sta K α M F H → SlsOk K α F xs us → ∀ k : VK,
  (∀ z F' H' s, Move α F H F' H' → Sta K α M F' H' → SlOk K α F' s z → Q s → k z H') → r us H k

variable {ρ : Rho} {M : List MO} {Q : Sl → Prop} {te ta tb : TE}
/-- a new object is laid -/
theorem Sta.laid {α : Al} {F H : Hp} (S : Sta K α M F H) {p : Addr} {o : HO} (hp : H p = none) : Move α F H (upd F p o) (upd H p o) ∧ Sta K α M (upd F p o) (upd H p o) := by
  have hF : F p = none := S.sub.free hp
  have s1 : Same F (upd F p o) := fun b u h => by rw [upd_ne (ne_of_none h hF)]; exact h
  have s2 : ∀ b u, H b = some u → upd H p o b = some u := fun b u h => by rw [upd_ne (ne_of_none h hp)]; exact h
  have t2 : ∀ b, H b ≠ none → upd H p o b ≠ none := fun b h => by
    have : b ≠ p := fun e => h (by rw [e]; exact hp)
    rw [upd_ne this]; exact h
  have f2 : ∀ q : Addr, F q = none → H q ≠ none → upd F p o q = none := fun q h1 h2 => by
    have : q ≠ p := fun e => h2 (by rw [e]; exact hp)
    rw [upd_ne this]; exact h1
  refine ⟨⟨s1, fun b u h _ => s2 b u h, t2, fun b h => ?_⟩, ⟨fun b u h => ?_, S.len, fun i m q h1 h2 => ?_, S.ap, fun q hq => ⟨t2 _ (S.tr q hq).1, t2 _ (S.tr q hq).2⟩⟩⟩
  · by_cases e : b = p
    · exact .inr (by rw [e]; exact hp)
    · rw [upd_ne e] at h; exact .inl h
  · by_cases e : b = p
    · subst e; rw [upd_same] at h ⊢; exact h
    · rw [upd_ne e] at h ⊢; exact S.sub b u h
  · have hq := S.tr q (List.mem_of_getElem? h2)
    have k := S.ob i m q h1 h2
    cases m with
    | lst ds => exact ⟨f2 _ k.1 hq.1, let ⟨vs, a, b⟩ := k.2; ⟨vs, s2 _ _ a, Dens.mono K s1 _ _ b⟩⟩
    | dic ks ds => exact ⟨f2 _ k.1 hq.1, let ⟨vs, a, c, b⟩ := k.2; ⟨vs, s2 _ _ a, c, Dens.mono K s1 _ _ b⟩⟩
    | pin a0 ds => exact ⟨f2 _ k.1 hq.1, k.2.1, let ⟨vs, a, b⟩ := k.2.2; ⟨vs, s2 _ _ a, Dens.mono K s1 _ _ b⟩⟩
    | hoF a0 o0 y0 m0 => exact ⟨f2 _ k.1 hq.1, k.2.1, s2 _ _ k.2.2.1, m0 _ _ s1 k.2.2.2⟩
    | frz d od kvs ks ds => exact ⟨f2 _ k.1 hq.1, k.2.1, s2 _ _ k.2.2.1, let ⟨vs, c, e, b⟩ := k.2.2.2; ⟨vs, c, e, Dens.mono K s1 _ _ b⟩⟩
    | ins C ns ds => exact ⟨f2 _ k.1 hq.1, let ⟨dx, vs, a, c, b⟩ := k.2; ⟨dx, vs, s2 _ _ a, c, Dens.mono K s1 _ _ b⟩⟩
    | rng => exact ⟨f2 _ k.1 hq.1, f2 _ k.2.1 hq.2, let ⟨s, i, c, h0, h1, h2, h3⟩ := k.2.2; ⟨s, i, c, h0, s2 _ _ h1, s2 _ _ h2, h3⟩⟩
    | dead => trivial

theorem EvP.mono {Q' : Sl → Prop} (h : EvP K te ρ M Q) (q : ∀ s, Q s → Q' s) : EvP K te ρ M Q' := fun σ α F H e S k kk => h σ α F H e S k fun v F' H' s a b c d => kk v F' H' s a b c (q s d)
theorem ev_var {i : Nat} {s : Sl} (h : ρ[i]? = some (some s)) (q : Q s) : EvP K (tVar i) ρ M Q := fun σ α F H e S k kk => by
  obtain ⟨v, h1, h2⟩ := e.at' i s h
  exact ⟨v, h1, kk v F H s .refl S h2 q⟩
theorem ev_c {v : V} (q : Q (.v (.raw v))) : EvP K (tC v) ρ M Q := fun σ α F H e S k kk => kk v F H _ .refl S raw_ok q
theorem ev_op {r : R2} (h : EvP K ta ρ M fun x => EvP K tb ρ M fun y => EvR K r M x y Q) : EvP K (tOp r ta tb) ρ M Q := fun σ α F H e S k kk =>
  h σ α F H e S _ fun u F1 H1 x m1 S1 o1 q1 => q1 σ α F1 H1 (e.mono m1.ex) S1 _ fun v F2 H2 y m2 S2 o2 q2 =>
    q2 α F2 H2 u v S2 (o1.mono m2.ex) o2 k fun z F3 H3 s m3 S3 o3 q3 => kk z F3 H3 s ((m1.trans m2).trans m3) S3 o3 q3
theorem ev_un {r : V → Hp → VK → Prop} (h : EvP K ta ρ M fun x => EvU K r M x Q) : EvP K (tUn r ta) ρ M Q := fun σ α F H e S k kk =>
  h σ α F H e S _ fun u F1 H1 x m1 S1 o1 q1 => q1 α F1 H1 u S1 o1 k fun z F3 H3 s m3 S3 o3 q3 => kk z F3 H3 s (m1.trans m3) S3 o3 q3
theorem ev_cb {r : List V → Hp → VK → Prop} {t : TA} (h : EvA K t ρ M fun xs => EvC K r M xs Q) : EvP K (tCB r t) ρ M Q := fun σ α F H e S k kk =>
  h σ α F H e S _ fun u F1 H1 x m1 S1 o1 q1 => q1 α F1 H1 u S1 o1 k fun z F3 H3 s m3 S3 o3 q3 => kk z F3 H3 s (m1.trans m3) S3 o3 q3
theorem ea_nil {Q : List Sl → Prop} (q : Q []) : EvA K tNil ρ M Q := fun σ α F H e S k kk => kk [] F H [] .refl S rfl q
theorem ea_cons {tr : TA} {Q : List Sl → Prop} (h : EvP K ta ρ M fun x => EvA K tr ρ M fun xs => Q (x :: xs)) : EvA K (tCons ta tr) ρ M Q := fun σ α F H e S k kk =>
  h σ α F H e S _ fun u F1 H1 x m1 S1 o1 q1 => q1 σ α F1 H1 (e.mono m1.ex) S1 _ fun vs F2 H2 xs m2 S2 o2 q2 =>
    kk (u :: vs) F2 H2 (x :: xs) (m1.trans m2) S2 ⟨u, vs, rfl, o1.mono m2.ex, o2⟩ q2
def AllD (ss : List Sl) (ds : List D) : Prop := ss = ds.map Sl.v
theorem ev_tup {t : TA} (h : EvA K t ρ M fun xs => ∃ ds : List D, xs = ds.map Sl.v ∧ ds.length ≤ 16777216 ∧ Q (.v (.tup ds))) : EvP K (tTup t) ρ M Q := fun σ α F H e S k kk =>
  h σ α F H e S _ fun vs F1 H1 ss m1 S1 o1 ⟨ds, e1, hl, q⟩ => by
    subst e1
    have hd := o1.dens
    refine ⟨by rw [← hd.length, sizeLine_eq]; exact hl, fun p hp => ?_⟩
    obtain ⟨m2, S2⟩ := S1.laid (o := .tup vs) hp
    exact kk _ _ _ _ (m1.trans m2) S2 (den_ok (d := .tup ds) ⟨p, vs, rfl, .inl (.inl upd_same), Dens.mono K m2.ex _ _ hd⟩) q
theorem ev_lst {t : TA} (h : EvA K t ρ M fun xs => ∃ ds : List D, xs = ds.map Sl.v ∧ ds.length ≤ 16777216 ∧ Q (.v (.lst ds))) : EvP K (tLst t) ρ M Q := fun σ α F H e S k kk =>
  h σ α F H e S _ fun vs F1 H1 ss m1 S1 o1 ⟨ds, e1, hl, q⟩ => by
    subst e1
    have hd := o1.dens
    refine ⟨by rw [← hd.length, sizeLine_eq]; exact hl, fun p hp => ?_⟩
    obtain ⟨m2, S2⟩ := S1.laid (o := .lst vs) hp
    exact kk _ _ _ _ (m1.trans m2) S2 (den_ok (d := .lst ds) ⟨p, vs, rfl, upd_same, Dens.mono K m2.ex _ _ hd⟩) q
theorem ev_if {t : TT} (h : EvT K t ρ M fun b => if b = true then EvP K ta ρ M Q else EvP K tb ρ M Q) : EvP K (tIf t ta tb) ρ M Q := fun σ α F H e S k kk =>
  h σ α F H e S _ fun b F1 H1 m1 S1 q1 => by
    cases b with
    | true => exact (show EvP K ta ρ M Q from q1) σ α F1 H1 (e.mono m1.ex) S1 k fun v F2 H2 s m2 S2 o2 q2 => kk v F2 H2 s (m1.trans m2) S2 o2 q2
    | false => exact (show EvP K tb ρ M Q from q1) σ α F1 H1 (e.mono m1.ex) S1 k fun v F2 H2 s m2 S2 o2 q2 => kk v F2 H2 s (m1.trans m2) S2 o2 q2
/-! tests -/
variable {R : Bool → Prop} {t u : TT}
theorem et_B (h : EvP K te ρ M fun s => ∃ b, s = .v (.bl b) ∧ R b) : EvT K (tB te) ρ M R := fun σ α F H e S k kk =>
  h σ α F H e S _ fun v F1 H1 s m1 S1 o1 ⟨b, e1, q⟩ => by
    subst e1
    have o1 : v = .bl b := o1
    subst o1
    exact ⟨b, rfl, kk b F1 H1 m1 S1 q⟩
theorem et_test (h : EvP K te ρ M fun s => ∃ b, s = .v (.bl b) ∧ R b) : EvT K (tTest te) ρ M R := et_B h
theorem et_and (h : EvT K t ρ M fun b => if b = true then EvT K u ρ M R else R false) : EvT K (tAnd t u) ρ M R := fun σ α F H e S k kk =>
  h σ α F H e S _ fun b F1 H1 m1 S1 q1 => by
    cases b with
    | true => exact (show EvT K u ρ M R from q1) σ α F1 H1 (e.mono m1.ex) S1 k fun c F2 H2 m2 S2 q2 => kk c F2 H2 (m1.trans m2) S2 q2
    | false => exact kk false F1 H1 m1 S1 q1
theorem et_or (h : EvT K t ρ M fun b => if b = true then R true else EvT K u ρ M R) : EvT K (tOr t u) ρ M R := fun σ α F H e S k kk =>
  h σ α F H e S _ fun b F1 H1 m1 S1 q1 => by
    cases b with
    | true => exact kk true F1 H1 m1 S1 q1
    | false => exact (show EvT K u ρ M R from q1) σ α F1 H1 (e.mono m1.ex) S1 k fun c F2 H2 m2 S2 q2 => kk c F2 H2 (m1.trans m2) S2 q2
theorem et_not (h : EvT K t ρ M fun b => R (!b)) : EvT K (tNot t) ρ M R := fun σ α F H e S k kk =>
  h σ α F H e S _ fun b F1 H1 m1 S1 q1 => kk (!b) F1 H1 m1 S1 q1
theorem ev_andV (h : EvP K ta ρ M fun s => ∃ b, s = .v (.bl b) ∧ if b = true then EvP K tb ρ M Q else Q (.v (.bl false))) : EvP K (tAndV ta tb) ρ M Q := fun σ α F H e S k kk =>
  h σ α F H e S _ fun v F1 H1 s m1 S1 o1 ⟨b, e1, q1⟩ => by
    subst e1
    have o1 : v = .bl b := o1
    subst o1
    refine ⟨b, rfl, ?_⟩
    cases b with
    | true => exact (show EvP K tb ρ M Q from q1) σ α F1 H1 (e.mono m1.ex) S1 k fun v F2 H2 s m2 S2 o2 q2 => kk v F2 H2 s (m1.trans m2) S2 o2 q2
    | false => exact kk _ F1 H1 _ m1 S1 raw_ok q1
theorem ev_orV (h : EvP K ta ρ M fun s => ∃ b, s = .v (.bl b) ∧ if b = true then Q (.v (.bl true)) else EvP K tb ρ M Q) : EvP K (tOrV ta tb) ρ M Q := fun σ α F H e S k kk =>
  h σ α F H e S _ fun v F1 H1 s m1 S1 o1 ⟨b, e1, q1⟩ => by
    subst e1
    have o1 : v = .bl b := o1
    subst o1
    refine ⟨b, rfl, ?_⟩
    cases b with
    | true => exact kk _ F1 H1 _ m1 S1 raw_ok q1
    | false => exact (show EvP K tb ρ M Q from q1) σ α F1 H1 (e.mono m1.ex) S1 k fun v F2 H2 s m2 S2 o2 q2 => kk v F2 H2 s (m1.trans m2) S2 o2 q2
theorem ev_notV (h : EvP K ta ρ M fun s => ∃ b, s = .v (.bl b) ∧ Q (.v (.bl (!b)))) : EvP K (tNotV ta) ρ M Q := fun σ α F H e S k kk =>
  h σ α F H e S _ fun v F1 H1 s m1 S1 o1 ⟨b, e1, q1⟩ => by
    subst e1
    have o1 : v = .bl b := o1
    subst o1
    exact ⟨b, rfl, kk _ F1 H1 _ m1 S1 raw_ok q1⟩
theorem eo_none {R : Option Int → Prop} (q : R none) : EvO K tNoPart ρ M R := fun σ α F H e S k kk => kk none F H .refl S q
theorem eo_some {R : Option Int → Prop} (h : EvP K te ρ M fun s => ∃ i, s = .v (.int i) ∧ R (some i)) : EvO K (tPart te) ρ M R := fun σ α F H e S k kk =>
  h σ α F H e S _ fun v F1 H1 s m1 S1 o1 ⟨i, e1, q1⟩ => by
    subst e1
    have o1 : v = .int i := o1
    subst o1
    exact ⟨i, rfl, kk _ F1 H1 m1 S1 q1⟩

/-! ### operations -/
theorem er_I0 {g : Int → Int → V} {i j : Int} (q : Q (.v (.raw (g i j)))) : EvR K (rI0 g) M (.v (.int i)) (.v (.int j)) Q := fun α F H u v S o1 o2 k kk => by
  have o1 : u = .int i := o1
  have o2 : v = .int j := o2
  subst o1; subst o2
  exact ⟨i, j, rfl, rfl, kk _ F H _ .refl S raw_ok q⟩
theorem er_I {C : Int → Int → Prop} {g : Int → Int → V} {i j : Int} (hc : C i j) (q : Q (.v (.raw (g i j)))) : EvR K (rI C g) M (.v (.int i)) (.v (.int j)) Q := fun α F H u v S o1 o2 k kk => by
  have o1 : u = .int i := o1
  have o2 : v = .int j := o2
  subst o1; subst o2
  exact ⟨i, j, rfl, rfl, hc, kk _ F H _ .refl S raw_ok q⟩
theorem eu_I {g : Int → V} {i : Int} (q : Q (.v (.raw (g i)))) : EvU K (rU g) M (.v (.int i)) Q := fun α F H u S o1 k kk => by
  have o1 : u = .int i := o1
  subst o1
  exact ⟨i, rfl, kk _ F H _ .refl S raw_ok q⟩
theorem er_eq {x y : V} (h : scal x y = true) (q : Q (.v (.bl (decide (x = y))))) : EvR K rEq M (.v (.raw x)) (.v (.raw y)) Q := fun α F H u v S o1 o2 k kk => by
  have o1 : u = x := o1
  have o2 : v = y := o2
  subst o1; subst o2
  exact ⟨h, kk _ F H _ .refl S raw_ok q⟩
theorem er_ne {x y : V} (h : scal x y = true) (q : Q (.v (.bl (!decide (x = y))))) : EvR K rNe M (.v (.raw x)) (.v (.raw y)) Q := fun α F H u v S o1 o2 k kk => by
  have o1 : u = x := o1
  have o2 : v = y := o2
  subst o1; subst o2
  exact ⟨h, kk _ F H _ .refl S raw_ok q⟩
end
end DL

/-! DL2: statements, loops, calls, sequences over plain data. -/
namespace DL
open PySem L2

/-- the entry of a def -/
structure Ent where
  α : Al
  F : Hp
  H : Hp
structure StepE (e : Ent) (α : Al) (F H : Hp) : Prop where
  ex : Same e.F F
  fr : ∀ b o, e.H b = some o → (∀ p, p ∈ e.α → b ≠ p.1 ∧ b ≠ p.2) → H b = some o
  tr : ∀ b, e.H b ≠ none → H b ≠ none
  new : ∀ b, F b ≠ none → e.F b ≠ none ∨ e.H b = none
  pre : ∃ β, α = e.α ++ β ∧ ∀ p, p ∈ β → e.H p.1 = none ∧ e.H p.2 = none
section
variable {K : PySem.W.Frag}
theorem StepE.refl {e : Ent} : StepE e e.α e.F e.H := ⟨fun _ _ h => h, fun _ _ h _ => h, fun _ h => h, fun _ h => .inl h, ⟨[], by simp, fun _ h => by simp at h⟩⟩
theorem none_back {H H' : Hp} {b : Addr} (t : H b ≠ none → H' b ≠ none) (h : H' b = none) : H b = none := by
  cases e : H b with
  | none => rfl
  | some o => exact absurd h (t (by rw [e]; simp))
theorem StepE.move {e : Ent} {α : Al} {F H F' H' : Hp} (s : StepE e α F H) (m : Move α F H F' H') : StepE e α F' H' where
  ex := s.ex.trans m.ex
  fr := fun b o h k => m.fr b o (s.fr b o h k) fun p hp => by
    obtain ⟨β, e1, hβ⟩ := s.pre
    rw [e1] at hp
    rcases List.mem_append.mp hp with q | q
    · exact k p q
    · have := hβ p q
      exact ⟨fun z => by { rw [z, this.1] at h; cases h }, fun z => by { rw [z, this.2] at h; cases h }⟩
  tr := fun b h => m.tr b (s.tr b h)
  new := fun b h => by
    rcases m.new b h with q | q
    · exact s.new b q
    · exact .inr (none_back (s.tr b) q)
  pre := s.pre
structure Good (K : PySem.W.Frag) (e : Ent) (α : Al) (F H : Hp) (σ : L2.St) (ρ : Rho) (M : List MO) : Prop where
  env : EnvOk K α F σ ρ
  sta : Sta K α M F H
  st : StepE e α F H
structure EndsD where
  nx : Rho → List MO → Prop
  rt : Sl → List MO → Prop
  bk : Rho → List MO → Prop := fun _ _ => False
  ct : Rho → List MO → Prop := fun _ _ => False
structure EndsOk (K : PySem.W.Frag) (e : Ent) (B : Hp) (E : EndsD) (X : Ends) : Prop where
  nx : ∀ σ α F H ρ M, Good K e α F H σ ρ M → Same B F → E.nx ρ M → X.nx σ H
  rt : ∀ v s α F H M, SlOk K α F s v → Sta K α M F H → StepE e α F H → Same B F → E.rt s M → X.rt v H
  bk : ∀ σ α F H ρ M, Good K e α F H σ ρ M → Same B F → E.bk ρ M → X.bk σ H
  ct : ∀ σ α F H ρ M, Good K e α F H σ ρ M → Same B F → E.ct ρ M → X.ct σ H
theorem EndsOk.at {K : PySem.W.Frag} {e : Ent} {B B' : Hp} {E : EndsD} {X : Ends} (ok : EndsOk K e B E X) (s : Same B B') : EndsOk K e B' E X :=
  ⟨fun σ α F H ρ M g z => ok.nx σ α F H ρ M g (s.trans z), fun v t α F H M a b c z => ok.rt v t α F H M a b c (s.trans z), fun σ α F H ρ M g z => ok.bk σ α F H ρ M g (s.trans z), fun σ α F H ρ M g z => ok.ct σ α F H ρ M g (s.trans z)⟩
/-- a statement run from ρ, M comes to E -/
def RunD (K : PySem.W.Frag) (e : Ent) (ts : TS) (ρ : Rho) (M : List MO) (nx : Rho → List MO → Prop) (rt : Sl → List MO → Prop) (bk ct : Rho → List MO → Prop) : Prop := ∀ X σ α F H, Good K e α F H σ ρ M → EndsOk K e F ⟨nx, rt, bk, ct⟩ X → ts X σ H

variable {e : Ent} {ρ : Rho} {M : List MO} {nx bk ct : Rho → List MO → Prop} {rt : Sl → List MO → Prop} {te : TE} {t u : TS}
theorem Good.move {α : Al} {F H F' H' : Hp} {σ : L2.St} (g : Good K e α F H σ ρ M) (m : Move α F H F' H') (S : Sta K α M F' H') : Good K e α F' H' σ ρ M :=
  ⟨g.env.mono m.ex, S, g.st.move m⟩
theorem r_next (q : nx ρ M) : RunD K e tNext ρ M nx rt bk ct := fun X σ α F H g ok => ok.nx σ α F H ρ M g (.refl F) q
theorem r_seq (h : RunD K e t ρ M (fun ρ' M' => RunD K e u ρ' M' nx rt bk ct) rt bk ct) : RunD K e (tSeq t u) ρ M nx rt bk ct := fun X σ α F H g ok =>
  h { X with nx := u X } σ α F H g ⟨fun σ' α' F' H' ρ' M' g' z' q' => q' X σ' α' F' H' g' (ok.at z'), ok.rt, ok.bk, ok.ct⟩
theorem loc_ok {α : Al} {F : Hp} {k : Nat} {p : Addr × Addr} (h : α[k]? = some p) : SlOk K α F (.l k) (.ref p.1) := ⟨p, h, rfl⟩
theorem r_asg {i : Nat} (h : EvP K te ρ M fun s => nx (ρ.set i (some s)) M) : RunD K e (tAsg te (gName i)) ρ M nx rt bk ct := fun X σ α F H g ok =>
  h σ α F H g.env g.sta _ fun v F1 H1 s m1 S1 o1 q1 => ok.nx _ α F1 H1 _ M ⟨(g.env.mono m1.ex).set i o1, S1, g.st.move m1⟩ m1.ex q1
theorem r_drop (h : EvP K te ρ M fun _ => nx ρ M) : RunD K e (tDrop te) ρ M nx rt bk ct := fun X σ α F H g ok =>
  h σ α F H g.env g.sta _ fun v F1 H1 s m1 S1 o1 q1 => ok.nx _ α F1 H1 _ M (g.move m1 S1) m1.ex q1
theorem r_ret (h : EvP K te ρ M fun s => rt s M) : RunD K e (tRet te) ρ M nx rt bk ct := fun X σ α F H g ok =>
  h σ α F H g.env g.sta _ fun v F1 H1 s m1 S1 o1 q1 => ok.rt v s α F1 H1 M o1 S1 (g.st.move m1) m1.ex q1
theorem r_retN (h : rt (.v .non) M) : RunD K e tRetN ρ M nx rt bk ct := fun X σ α F H g ok => ok.rt _ _ α F H M raw_ok g.sta g.st (.refl F) h
theorem r_if {c : TT} (h : EvT K c ρ M fun b => if b = true then RunD K e t ρ M nx rt bk ct else RunD K e u ρ M nx rt bk ct) : RunD K e (tIfS c t u) ρ M nx rt bk ct := fun X σ α F H g ok =>
  h σ α F H g.env g.sta _ fun b F1 H1 m1 S1 q1 => by
    cases b with
    | true => exact (show RunD K e t ρ M nx rt bk ct from q1) X σ α F1 H1 (g.move m1 S1) (ok.at m1.ex)
    | false => exact (show RunD K e u ρ M nx rt bk ct from q1) X σ α F1 H1 (g.move m1 S1) (ok.at m1.ex)
theorem r_aug {i : Nat} {f : Int → Int → Int} {x : Int} (hx : ρ[i]? = some (some (.v (.int x)))) (h : EvP K te ρ M fun s => ∃ y, s = .v (.int y) ∧ nx (ρ.set i (some (.v (.int (f x y))))) M) : RunD K e (tAug i te (ipI f)) ρ M nx rt bk ct := fun X σ α F H g ok => by
  obtain ⟨v, h1, h2⟩ := g.env.at' i _ hx
  have h2 : v = .int x := h2
  subst h2
  refine ⟨_, h1, h σ α F H g.env g.sta _ fun v F1 H1 s m1 S1 o1 ⟨y, e1, q1⟩ => ?_⟩
  subst e1
  have o1 : v = .int y := o1
  subst o1
  exact ⟨x, y, rfl, rfl, ok.nx _ α F1 H1 _ M ⟨(g.env.mono m1.ex).set i raw_ok, S1, g.st.move m1⟩ m1.ex q1⟩
theorem r_par {i j : Nat} {ta : TA} (h : EvA K ta ρ M fun ss => ∃ a b, ss = [a, b] ∧ nx ((ρ.set i (some a)).set j (some b)) M) : RunD K e (tPar i j ta) ρ M nx rt bk ct := fun X σ α F H g ok =>
  h σ α F H g.env g.sta _ fun vs F1 H1 ss m1 S1 o1 ⟨a, b, e1, q1⟩ => by
    subst e1
    obtain ⟨v, r, rfl, hv, r2⟩ := o1
    obtain ⟨w, r', rfl, hw, r3⟩ := r2
    have r3 : r' = [] := r3
    subst r3
    exact ⟨v, w, rfl, ok.nx _ α F1 H1 _ M ⟨((g.env.mono m1.ex).set i hv).set j hw, S1, g.st.move m1⟩ m1.ex q1⟩
theorem RunD.mono {nx' bk' ct' : Rho → List MO → Prop} {rt' : Sl → List MO → Prop} (h : RunD K e t ρ M nx rt bk ct) (h1 : ∀ ρ M, nx ρ M → nx' ρ M) (h2 : ∀ s M, rt s M → rt' s M) (h3 : ∀ ρ M, bk ρ M → bk' ρ M) (h4 : ∀ ρ M, ct ρ M → ct' ρ M) : RunD K e t ρ M nx' rt' bk' ct' := fun X σ α F H g ok =>
  h X σ α F H g ⟨fun σ α F H ρ M g z q => ok.nx σ α F H ρ M g z (h1 ρ M q), fun v s α F H M a b c z q => ok.rt v s α F H M a b c z (h2 s M q), fun σ α F H ρ M g z q => ok.bk σ α F H ρ M g z (h3 ρ M q), fun σ α F H ρ M g z q => ok.ct σ α F H ρ M g z (h4 ρ M q)⟩

/-! ### changing things -/
theorem nth_ne {α : Al} {F H : Hp} {M : List MO} (S : Sta K α M F H) {i j : Nat} {p q : Addr × Addr} (hi : α[i]? = some p) (hj : α[j]? = some q) (h : i ≠ j) : Apart p q := by
  rcases Nat.lt_or_gt_of_ne h with l | l
  · exact S.ap i j p q l hi hj
  · obtain ⟨a, b, c, d⟩ := S.ap j i q p l hj hi
    exact ⟨a.symm, c.symm, b.symm, d.symm⟩
/-- the k-th thing is another now -/
theorem Sta.write {α : Al} {F H : Hp} {M : List MO} (S : Sta K α M F H) {k : Nat} {p : Addr × Addr} {m' : MO} {o : HO} (hp : α[k]? = some p) (hF : F p.1 = none) (hm : MObj K F (upd H p.1 o) m' p) : Move α F H F (upd H p.1 o) ∧ Sta K α (M.set k m') F (upd H p.1 o) := by
  have hpm : p ∈ α := List.mem_of_getElem? hp
  have t2 : ∀ b, H b ≠ none → upd H p.1 o b ≠ none := fun b h => by
    by_cases e : b = p.1
    · subst e; rw [upd_same]; simp
    · rw [upd_ne e]; exact h
  refine ⟨⟨fun _ _ h => h, fun b u h k => by rw [upd_ne (k p hpm).1]; exact h, t2, fun b h => .inl h⟩, ⟨fun b u h => ?_, by simp [S.len], fun i m q h1 h2 => ?_, S.ap, fun q hq => ⟨t2 _ (S.tr q hq).1, t2 _ (S.tr q hq).2⟩⟩⟩
  · rw [upd_ne (fun z => by rw [z, hF] at h; cases h)]; exact S.sub b u h
  · by_cases hik : k = i
    · subst hik
      have hl : k < M.length := by rw [S.len]; exact (List.getElem?_eq_some_iff.mp h2).1
      rw [List.getElem?_set_self hl] at h1
      cases h1
      rw [hp] at h2; cases h2
      exact hm
    · rw [List.getElem?_set_ne hik] at h1
      have ap := nth_ne S h2 hp (Ne.symm hik)
      have kk := S.ob i m q h1 h2
      have s1 : upd H p.1 o q.1 = H q.1 := upd_ne ap.1
      have s2 : upd H p.1 o q.2 = H q.2 := upd_ne ap.2.2.1
      cases m with
      | lst ds => exact ⟨kk.1, by rw [s1]; exact kk.2⟩
      | dic ks ds => exact ⟨kk.1, by rw [s1]; exact kk.2⟩
      | pin a0 ds => exact ⟨kk.1, by rw [s1]; exact kk.2⟩
      | hoF a0 o0 y0 m0 => exact ⟨kk.1, by rw [s1]; exact kk.2⟩
      | frz d od kvs ks ds => exact ⟨kk.1, by rw [s1]; exact kk.2⟩
      | ins C ns ds => exact ⟨kk.1, by rw [s1]; exact kk.2⟩
      | rng => exact ⟨kk.1, kk.2.1, by unfold Rng; rw [s1, s2]; exact kk.2.2⟩
      | dead => trivial
/-- a new thing -/
theorem Sta.more {α : Al} {F H : Hp} {M : List MO} (S : Sta K α M F H) {p : Addr} {m' : MO} {o : HO} (hp : H p = none) (hm : MObj K F (upd H p o) m' (p, p)) : Sta K (α ++ [(p, p)]) (M ++ [m']) F (upd H p o) := by
  have hF : F p = none := S.sub.free hp
  have s2 : ∀ b u, H b = some u → upd H p o b = some u := fun b u h => by rw [upd_ne (ne_of_none h hp)]; exact h
  have t2 : ∀ b, H b ≠ none → upd H p o b ≠ none := fun b h => by
    have : b ≠ p := fun e => h (by rw [e]; exact hp)
    rw [upd_ne this]; exact h
  refine ⟨fun b u h => s2 b u (S.sub b u h), by simp [S.len], fun i m q h1 h2 => ?_, fun i j q r hij h1 h2 => ?_, fun q hq => ?_⟩
  · by_cases hi : i < α.length
    · rw [List.getElem?_append_left (by rw [S.len]; exact hi)] at h1
      rw [List.getElem?_append_left hi] at h2
      have kk := S.ob i m q h1 h2
      cases m with
      | lst ds => exact ⟨kk.1, let ⟨vs, a, b⟩ := kk.2; ⟨vs, s2 _ _ a, b⟩⟩
      | dic ks ds => exact ⟨kk.1, let ⟨vs, a, b⟩ := kk.2; ⟨vs, s2 _ _ a, b⟩⟩
      | pin a0 ds => exact ⟨kk.1, kk.2.1, let ⟨vs, a, b⟩ := kk.2.2; ⟨vs, s2 _ _ a, b⟩⟩
      | hoF a0 o0 y0 m0 => exact ⟨kk.1, kk.2.1, s2 _ _ kk.2.2.1, kk.2.2.2⟩
      | frz d od kvs ks ds => exact ⟨kk.1, kk.2.1, s2 _ _ kk.2.2.1, kk.2.2.2⟩
      | ins C ns ds => exact ⟨kk.1, let ⟨dx, vs, a, b⟩ := kk.2; ⟨dx, vs, s2 _ _ a, b⟩⟩
      | rng => exact ⟨kk.1, kk.2.1, let ⟨s, i, c, h0, h1, h2, h3⟩ := kk.2.2; ⟨s, i, c, h0, s2 _ _ h1, s2 _ _ h2, h3⟩⟩
      | dead => trivial
    · have hi2 : i = α.length := by
        have := (List.getElem?_eq_some_iff.mp h2).1
        simp at this; omega
      subst hi2
      rw [← S.len, List.getElem?_append_right (Nat.le_refl _)] at h1
      rw [List.getElem?_append_right (Nat.le_refl _)] at h2
      simp at h1 h2
      subst h1; subst h2
      exact hm
  · have hj : j < α.length ∨ j = α.length := by
      have := (List.getElem?_eq_some_iff.mp h2).1
      simp at this; omega
    have hi : i < α.length := by omega
    rw [List.getElem?_append_left hi] at h1
    rcases hj with hj | hj
    · rw [List.getElem?_append_left hj] at h2
      exact S.ap i j q r hij h1 h2
    · subst hj
      rw [List.getElem?_append_right (Nat.le_refl _)] at h2
      simp at h2
      subst h2
      have hq := S.tr q (List.mem_of_getElem? h1)
      have n1 : q.1 ≠ p := fun z => hq.1 (by rw [z]; exact hp)
      have n2 : q.2 ≠ p := fun z => hq.2 (by rw [z]; exact hp)
      exact ⟨n1, n1, n2, n2⟩
  · rcases List.mem_append.mp hq with z | z
    · exact ⟨t2 _ (S.tr q z).1, t2 _ (S.tr q z).2⟩
    · simp at z; subst z
      show upd H p o p ≠ none ∧ upd H p o p ≠ none
      rw [upd_same]; simp
theorem SlOk.more {α β : Al} {F : Hp} : ∀ {s : Sl} {x : V}, SlOk K α F s x → SlOk K (α ++ β) F s x
  | .v d, x, h => h
  | .l k, x, ⟨p, h1, h2⟩ => ⟨p, by rw [List.getElem?_append_left (List.getElem?_eq_some_iff.mp h1).1]; exact h1, h2⟩
theorem EnvOk.more {α β : Al} {F : Hp} {σ : L2.St} (h : EnvOk K α F σ ρ) : EnvOk K (α ++ β) F σ ρ := ⟨h.len, fun i s q => let ⟨v, a, b⟩ := h.at' i s q; ⟨v, a, b.more⟩⟩
theorem StepE.more {α : Al} {F H : Hp} (s : StepE e α F H) {p : Addr} {o : HO} (hp : H p = none) : StepE e (α ++ [(p, p)]) F (upd H p o) where
  ex := s.ex
  fr := fun b u h k => by
    have := s.fr b u h k
    rw [upd_ne (ne_of_none this hp)]; exact this
  tr := fun b h => by
    have := s.tr b h
    have n : b ≠ p := fun z => this (by rw [z]; exact hp)
    rw [upd_ne n]; exact this
  new := s.new
  pre := by
    obtain ⟨β, e1, hβ⟩ := s.pre
    refine ⟨β ++ [(p, p)], by rw [e1, List.append_assoc], fun q hq => ?_⟩
    rcases List.mem_append.mp hq with z | z
    · exact hβ q z
    · simp at z; subst z
      exact ⟨none_back (s.tr p) hp, none_back (s.tr p) hp⟩
theorem sta_len {α : Al} {F H : Hp} (S : Sta K α M F H) {p : Addr} : (α ++ [(p, p)])[M.length]? = some (p, p) := by
  rw [S.len, List.getElem?_append_right (Nat.le_refl _)]; simp
theorem r_newD {i : Nat} (q : nx (ρ.set i (some (.l M.length))) (M ++ [.dic [] []])) : RunD K e (tAsg tDNewK (gName i)) ρ M nx rt bk ct := fun X σ α F H g ok p hp => by
  have S2 := g.sta.more (m' := .dic [] []) (o := .dK []) hp ⟨g.sta.sub.free hp, [], upd_same, rfl, rfl⟩
  exact ok.nx _ _ F _ _ _ ⟨g.env.more.set i (loc_ok (p := (p, p)) (sta_len g.sta)), S2, g.st.more hp⟩ (.refl F) q
/-- a list that is made by any expression, held as one that is to change: nobody else knows it -/
theorem sta_get {α : Al} {F H : Hp} (S : Sta K α M F H) {k : Nat} {m : MO} (h : M[k]? = some m) : ∃ p, α[k]? = some p := by
  have : k < α.length := by rw [← S.len]; exact (List.getElem?_eq_some_iff.mp h).1
  exact ⟨α[k], List.getElem?_eq_getElem this⟩
/-- xs.append(e) -/
theorem r_app {i k : Nat} {ds : List D} (hi : ρ[i]? = some (some (.l k))) (hk : M[k]? = some (.lst ds)) (h : EvP K te ρ M fun s => ∃ d, s = .v d ∧ ds.length < 16777216 ∧ nx ρ (M.set k (.lst (ds ++ [d])))) :
    RunD K e (tDrop (tBM K "list" rAppend (tVar i) (tCons te tNil))) ρ M nx rt bk ct := fun X σ α F H g ok => by
  obtain ⟨v, h1, p, hp, rfl⟩ := g.env.at' i _ hi
  obtain ⟨hF, vs, hvs, _⟩ := g.sta.ob k _ p hk hp
  refine ⟨_, h1, .inl ⟨rfl, vs, SqL.of hvs⟩, h σ α F H g.env g.sta _ fun v F1 H1 s m1 S1 o1 ⟨d, e1, hl, q1⟩ => ?_⟩
  subst e1
  obtain ⟨hF1, vs1, hvs1, hd1⟩ := S1.ob k _ p hk hp
  refine ⟨p.1, vs1, v, rfl, rfl, hvs1, by rw [← hd1.length, sizeLine_eq]; exact hl, ?_⟩
  obtain ⟨m2, S2⟩ := S1.write (m' := .lst (ds ++ [d])) (o := .lst (vs1 ++ [v])) hp hF1 ⟨hF1, _, upd_same, hd1.append (Dens.cons o1 Dens.nil)⟩
  exact ok.nx _ _ F1 _ _ _ ⟨(g.env.mono m1.ex), S2, (g.st.move m1).move m2⟩ m1.ex q1
theorem ixN_nat {n j : Nat} (hj : j < n) : ixN n (j : Int) = some j := by
  unfold ixN
  rw [if_pos (by omega), if_pos (by omega)]
  simp
end
end DL

/-! DL3: walks, loops, comprehensions, calls over plain data. -/
namespace DL
open PySem L2
section
variable {K : PySem.W.Frag} {e : Ent} {ρ : Rho} {M : List MO} {nx bk ct : Rho → List MO → Prop} {rt : Sl → List MO → Prop} {Q : Sl → Prop} {te ta tb : TE} {t u : TS}

/-! ### what is walked -/
def ItOk (K : PySem.W.Frag) (J : It) (F : Hp) (items : List D) : Prop := ∀ (i : Nat) (F1 H : Hp), Same F F1 → Same F1 H → (items.length = i → J.stop i H) ∧
  ∀ d, items[i]? = some d → J.go i H ∧ ∀ x H', J.yld i H x H' → (H' = H ∧ Den K F1 d x) ∨ ∃ T vs ds, x = .ref T ∧ H T = none ∧ H' = upd H T (.tup vs) ∧ d = .tup ds ∧ Dens K F1 ds vs
def EvI (K : PySem.W.Frag) (wi : TI) (ρ : Rho) (M : List MO) (R : List D → Prop) : Prop := ∀ (σ : L2.St) (α : Al) (F H : Hp), EnvOk K α F σ ρ → Sta K α M F H → ∀ k : It → Hp → Prop,
  (∀ J F' H' items, Move α F H F' H' → Sta K α M F' H' → ItOk K J F' items → R items → k J H') → wi σ H k
theorem it_turn {α : Al} {J : It} {F F1 H : Hp} {items : List D} {i : Nat} {d : D} {x : V} {H' : Hp} (ok : ItOk K J F items) (s1 : Same F F1) (S : Sta K α M F1 H) (hd : items[i]? = some d) (y : J.yld i H x H') :
    ∃ F2, Move α F1 H F2 H' ∧ Sta K α M F2 H' ∧ Den K F2 d x := by
  rcases ((ok i F1 H s1 S.sub).2 d hd).2 x H' y with ⟨rfl, h⟩ | ⟨T, vs, ds, rfl, hT, rfl, rfl, h⟩
  · exact ⟨F1, .refl, S, h⟩
  · obtain ⟨m, S2⟩ := S.laid (o := .tup vs) hT
    exact ⟨_, m, S2, T, vs, rfl, .inl (.inl upd_same), Dens.mono K m.ex _ _ h⟩
theorem itl_ok {F : Hp} {a : Addr} {vs : List V} {ds : List D} (h : F a = some (.lst vs)) (hd : Dens K F ds vs) : ItOk K (Itl K a) F ds := fun i F1 H s1 s2 => by
  have hH : SqL K H a vs := SqL.of (s2 _ _ (s1 _ _ h))
  refine ⟨fun hl => ⟨vs, hH, by rw [← hd.length]; exact Nat.le_of_eq hl⟩, fun d e => ?_⟩
  obtain ⟨v, e2, r⟩ := hd.get e
  refine ⟨⟨vs, v, hH, e2⟩, fun x H' y => .inl ⟨y.1, ?_⟩⟩
  have := y.2 vs hH
  rw [e2] at this; cases this
  exact Den.mono K s1 _ _ r
theorem itt_ok {F : Hp} {a : Addr} {vs : List V} {ds : List D} (h : SqT K F a vs) (hd : Dens K F ds vs) : ItOk K (Itt K a) F ds := fun i F1 H s1 s2 => by
  have hH : SqT K H a vs := sqt_same K s2 (sqt_same K s1 h)
  refine ⟨fun hl => ⟨vs, hH, by rw [← hd.length]; exact Nat.le_of_eq hl⟩, fun d e => ?_⟩
  obtain ⟨v, e2, r⟩ := hd.get e
  refine ⟨⟨vs, v, hH, e2⟩, fun x H' y => .inl ⟨y.1, ?_⟩⟩
  have := y.2 vs hH
  rw [e2] at this; cases this
  exact Den.mono K s1 _ _ r
def rangeD (lo : Int) (n : Nat) : List D := (List.range n).map fun i : Nat => D.int (lo + (i : Int))
theorem rangeD_len {lo : Int} {n : Nat} : (rangeD lo n).length = n := by simp [rangeD]
theorem rangeD_get {lo : Int} {n i : Nat} {d : D} (h : (rangeD lo n)[i]? = some d) : i < n ∧ d = .int (lo + i) := by
  unfold rangeD at h
  rw [List.getElem?_map] at h
  by_cases hi : i < n
  · rw [List.getElem?_range hi] at h
    simp at h
    exact ⟨hi, h.symm⟩
  · rw [List.getElem?_eq_none (by simpa using hi)] at h; cases h
theorem itr_ok {F : Hp} {lo : Int} {n : Nat} : ItOk K (Itr lo n) F (rangeD lo n) := fun i F1 H s1 s2 => by
  refine ⟨fun hl => by rw [rangeD_len] at hl; exact Nat.le_of_eq hl, fun d e => ?_⟩
  obtain ⟨hi, rfl⟩ := rangeD_get e
  exact ⟨hi, fun x H' y => .inl ⟨y.1, y.2⟩⟩
theorem ei_range1 {tl : TA} {R : List D → Prop} (h : EvA K tl ρ M fun ss => ∃ n, ss = [.v (.int n)] ∧ -(2 ^ 62) ≤ n ∧ n < 2 ^ 62 ∧ R (rangeD 0 n.toNat)) : EvI K (iRng1 tl) ρ M R := fun σ α F H en S k kk =>
  h σ α F H en S _ fun vs F1 H1 ss m1 S1 o1 ⟨n, e1, h1, h2, q⟩ => by
    subst e1
    obtain ⟨v, r, rfl, hv, r2⟩ := o1
    have hv : v = .int n := hv
    have r2 : r = [] := r2
    subst hv; subst r2
    exact ⟨n, rfl, h1, h2, kk _ F1 H1 _ m1 S1 itr_ok q⟩
/-! ### targets: names, tuples of names -/
def EvG (K : PySem.W.Frag) (g : TG) (is : List Nat) (d : D) (ρ : Rho) (R : Rho → Prop) : Prop := ∀ (σ : L2.St) (α : Al) (F H : Hp) (v : V), EnvOk K α F σ ρ → Same F H → Den K F d v → ∀ k : L2.St → Hp → Prop,
  (∀ σ' ρ', EnvOk K α F σ' ρ' → σ'.length = σ.length → (∀ j : Nat, j ∉ is → σ'[j]? = σ[j]?) → R ρ' → k σ' H) → g v σ H k
def EvGs (K : PySem.W.Frag) (g : TGs) (is : List Nat) (ds : List D) (ρ : Rho) (R : Rho → Prop) : Prop := ∀ (σ : L2.St) (α : Al) (F H : Hp) (vs : List V), EnvOk K α F σ ρ → Same F H → Dens K F ds vs → ∀ k : L2.St → Hp → Prop,
  (∀ σ' ρ', EnvOk K α F σ' ρ' → σ'.length = σ.length → (∀ j : Nat, j ∉ is → σ'[j]? = σ[j]?) → R ρ' → k σ' H) → g vs σ H k
theorem eg_name {i : Nat} {is : List Nat} {d : D} {R : Rho → Prop} (q : R (ρ.set i (some (.v d)))) (hi : i ∈ is := by simp) : EvG K (gName i) is d ρ R := fun σ α F H v en s h k kk =>
  kk _ _ (en.set i (s := .v d) h) (by simp) (fun j hj => List.getElem?_set_ne (fun z => hj (by rw [← z]; exact hi))) q
theorem eg_nil {is : List Nat} {R : Rho → Prop} (q : R ρ) : EvGs K gNil is [] ρ R := fun σ α F H vs en s h k kk => by
  have h : vs = [] := h
  exact ⟨h, kk _ _ en rfl (fun _ _ => rfl) q⟩
theorem eg_cons {g : TG} {gs : TGs} {is : List Nat} {d : D} {ds : List D} {R : Rho → Prop} (h : EvG K g is d ρ fun ρ' => EvGs K gs is ds ρ' R) : EvGs K (gCons g gs) is (d :: ds) ρ R := fun σ α F H vs en s hd k kk => by
  obtain ⟨v, r, rfl, h1, h2⟩ := hd
  exact ⟨v, r, rfl, h σ α F H v en s h1 _ fun σ' ρ' en' l' f' q => q σ' α F H r en' s h2 k fun σ2 ρ2 en2 l2 f2 q2 => kk σ2 ρ2 en2 (l2.trans l') (fun j hj => (f2 j hj).trans (f' j hj)) q2⟩
theorem eg_tup {g : TGs} {is : List Nat} {n : Nat} {ds : List D} {R : Rho → Prop} (hl : ds.length = n) (h : EvGs K g is ds ρ R) : EvG K (gTup K n g) is (.tup ds) ρ R := fun σ α F H v en s hd k kk => by
  obtain ⟨a, vs, rfl, h1, h2⟩ := hd
  exact ⟨a, vs, rfl, sqt_same K s h1, by rw [← h2.length]; exact hl, h σ α F H vs en s h2 k kk⟩
/-! ### for -/
theorem r_for {wi : TI} {g : TG} (is : List Nat) (h : EvI K wi ρ M fun items => ∃ I : Nat → Rho → List MO → Prop, I 0 ρ M ∧
      (∀ i d ρ' M', items[i]? = some d → I i ρ' M' → EvG K g is d ρ' fun ρ2 => RunD K e t ρ2 M' (I (i + 1)) rt nx (I (i + 1))) ∧
      ∀ ρ' M', I items.length ρ' M' → nx ρ' M') : RunD K e (tFor wi g t) ρ M nx rt bk ct := fun X σ α F H gd ok =>
  h σ α F H gd.env gd.sta _ fun J F1 H1 items m1 S1 it ⟨I, h0, hs, hd⟩ => by
    refine ⟨fun i m σ' H' => m = items.length - i ∧ i ≤ items.length ∧ ∃ ρ' M' α' F', Good K e α' F' H' σ' ρ' M' ∧ Same F1 F' ∧ I i ρ' M', ⟨_, rfl, Nat.zero_le _, ρ, M, α, F1, gd.move m1 S1, fun _ _ z => z, h0⟩, ?_⟩
    rintro i m σ' H' ⟨rfl, hi, ρ', M', α', F', g', s', p⟩
    by_cases hlt : i < items.length
    · have hget : items[i]? = some items[i] := List.getElem?_eq_getElem hlt
      refine .inr ⟨((it i F' H' s' g'.sta.sub).2 _ hget).1, fun σ2 H2 => ∃ ρ2 M2 α2 F2, Good K e α2 F2 H2 σ2 ρ2 M2 ∧ Same F1 F2 ∧ I (i + 1) ρ2 M2, fun σ2 H2 ⟨ρ2, M2, α2, F2, g2, s2, p2⟩ => ⟨items.length - (i + 1), by omega, rfl, hlt, ρ2, M2, α2, F2, g2, s2, p2⟩, fun x H2 y => ?_⟩
      obtain ⟨F2, m2, S2, hx⟩ := it_turn it s' g'.sta hget y
      have g2 := g'.move m2 S2
      refine hs i _ ρ' M' hget p σ' α' F2 H2 x g2.env S2.sub hx _ fun σ3 ρ3 en3 _ _ q3 => ?_
      have s12 : Same F1 F2 := s'.trans m2.ex
      have ok2 := ok.at (m1.ex.trans s12)
      exact q3 _ σ3 α' F2 H2 ⟨en3, S2, g2.st⟩ ⟨fun σ4 α4 F4 H4 ρ4 M4 g4 z4 q4 => ⟨ρ4, M4, α4, F4, g4, s12.trans z4, q4⟩, ok2.rt, ok2.nx, fun σ4 α4 F4 H4 ρ4 M4 g4 z4 q4 => ⟨ρ4, M4, α4, F4, g4, s12.trans z4, q4⟩⟩
    · have ei : i = items.length := by omega
      subst ei
      exact .inl ⟨(it _ F' H' s' g'.sta.sub).1 rfl, ok.nx _ _ _ _ _ _ g' (m1.ex.trans s') (hd ρ' M' p)⟩

/-! ### while -/
theorem r_while {c : TT} (h : ∃ I : Nat → Rho → List MO → Prop, (∃ m, I m ρ M) ∧ ∀ m ρ' M', I m ρ' M' → EvT K c ρ' M' fun b => if b = true then RunD K e t ρ' M' (fun ρ2 M2 => ∃ m', m' < m ∧ I m' ρ2 M2) rt nx (fun ρ2 M2 => ∃ m', m' < m ∧ I m' ρ2 M2) else nx ρ' M') :
    RunD K e (tWhile c t) ρ M nx rt bk ct := fun X σ α F H gd ok => by
  obtain ⟨I, ⟨m0, h0⟩, hs⟩ := h
  refine ⟨fun m σ' H' => ∃ ρ' M' α' F', Good K e α' F' H' σ' ρ' M' ∧ Same F F' ∧ I m ρ' M', ⟨m0, ρ, M, α, F, gd, .refl F, h0⟩, ?_⟩
  rintro m σ' H' ⟨ρ', M', α', F', g', s', p⟩
  refine hs m ρ' M' p σ' α' F' H' g'.env g'.sta _ fun b F2 H2 m2 S2 q2 => ?_
  cases b with
  | true =>
    refine iteT ⟨fun σ2 H2 => ∃ m', m' < m ∧ ∃ ρ2 M2 α2 F2, Good K e α2 F2 H2 σ2 ρ2 M2 ∧ Same F F2 ∧ I m' ρ2 M2, fun σ2 H2 z => z, ?_⟩
    have s12 : Same F F2 := s'.trans m2.ex
    have ok2 := ok.at s12
    have q2 : RunD K e t ρ' M' (fun ρ2 M2 => ∃ m', m' < m ∧ I m' ρ2 M2) rt nx (fun ρ2 M2 => ∃ m', m' < m ∧ I m' ρ2 M2) := q2
    exact q2 _ σ' α' F2 H2 (g'.move m2 S2) ⟨fun σ4 α4 F4 H4 ρ4 M4 g4 z4 ⟨m', l, q4⟩ => ⟨m', l, ρ4, M4, α4, F4, g4, s12.trans z4, q4⟩, ok2.rt, ok2.nx, fun σ4 α4 F4 H4 ρ4 M4 g4 z4 ⟨m', l, q4⟩ => ⟨m', l, ρ4, M4, α4, F4, g4, s12.trans z4, q4⟩⟩
  | false =>
    refine iteF ?_
    exact ok.nx _ _ _ _ _ _ (g'.move m2 S2) (s'.trans m2.ex) q2

/-! ### an object of nobody: it is tracked, not frozen, no numbered thing -/
theorem Sta.extra {α : Al} {F H : Hp} (S : Sta K α M F H) {p : Addr} {o : HO} (hF : F p = none) (ha : ∀ q, q ∈ α → p ≠ q.1 ∧ p ≠ q.2) : Sta K α M F (upd H p o) := by
  have s2 : ∀ b, b ≠ p → upd H p o b = H b := fun b h => upd_ne h
  have t2 : ∀ b, H b ≠ none → upd H p o b ≠ none := fun b h => by
    by_cases e : b = p
    · subst e; rw [upd_same]; simp
    · rw [upd_ne e]; exact h
  refine ⟨fun b u h => ?_, S.len, fun i m q h1 h2 => ?_, S.ap, fun q hq => ⟨t2 _ (S.tr q hq).1, t2 _ (S.tr q hq).2⟩⟩
  · rw [upd_ne (fun z => by rw [z, hF] at h; cases h)]; exact S.sub b u h
  · have ap := ha q (List.mem_of_getElem? h2)
    have kk := S.ob i m q h1 h2
    have s1 := s2 q.1 (Ne.symm ap.1)
    have s3 := s2 q.2 (Ne.symm ap.2)
    cases m with
    | lst ds => exact ⟨kk.1, by rw [s1]; exact kk.2⟩
    | dic ks ds => exact ⟨kk.1, by rw [s1]; exact kk.2⟩
    | pin a0 ds => exact ⟨kk.1, by rw [s1]; exact kk.2⟩
    | hoF a0 o0 y0 m0 => exact ⟨kk.1, by rw [s1]; exact kk.2⟩
    | frz d od kvs ks ds => exact ⟨kk.1, by rw [s1]; exact kk.2⟩
    | ins C ns ds => exact ⟨kk.1, by rw [s1]; exact kk.2⟩
    | rng => exact ⟨kk.1, kk.2.1, by unfold Rng; rw [s1, s3]; exact kk.2.2⟩
    | dead => trivial
theorem Sta.ice {α : Al} {F H : Hp} (S : Sta K α M F H) {p : Addr} {o : HO} (hF : F p = none) (hH : H p = some o) (ha : ∀ q, q ∈ α → p ≠ q.1 ∧ p ≠ q.2) : Same F (upd F p o) ∧ Sta K α M (upd F p o) H := by
  have s1 : Same F (upd F p o) := fun b u h => by rw [upd_ne (ne_of_none h hF)]; exact h
  refine ⟨s1, fun b u h => ?_, S.len, fun i m q h1 h2 => ?_, S.ap, S.tr⟩
  · by_cases e : b = p
    · subst e; rw [upd_same] at h; cases h; exact hH
    · rw [upd_ne e] at h; exact S.sub b u h
  · have ap := ha q (List.mem_of_getElem? h2)
    have kk := S.ob i m q h1 h2
    have z1 : ∀ b, b ≠ p → F b = none → upd F p o b = none := fun b n z => by rw [upd_ne n]; exact z
    cases m with
    | lst ds => exact ⟨z1 _ (Ne.symm ap.1) kk.1, let ⟨vs, a, b⟩ := kk.2; ⟨vs, a, Dens.mono K s1 _ _ b⟩⟩
    | dic ks ds => exact ⟨z1 _ (Ne.symm ap.1) kk.1, let ⟨vs, a, c, b⟩ := kk.2; ⟨vs, a, c, Dens.mono K s1 _ _ b⟩⟩
    | pin a0 ds => exact ⟨z1 _ (Ne.symm ap.1) kk.1, kk.2.1, let ⟨vs, a, b⟩ := kk.2.2; ⟨vs, a, Dens.mono K s1 _ _ b⟩⟩
    | hoF a0 o0 y0 m0 => exact ⟨z1 _ (Ne.symm ap.1) kk.1, kk.2.1, kk.2.2.1, m0 _ _ s1 kk.2.2.2⟩
    | frz d od kvs ks ds => exact ⟨z1 _ (Ne.symm ap.1) kk.1, kk.2.1, kk.2.2.1, let ⟨vs, c, e, b⟩ := kk.2.2.2; ⟨vs, c, e, Dens.mono K s1 _ _ b⟩⟩
    | ins C ns ds => exact ⟨z1 _ (Ne.symm ap.1) kk.1, let ⟨dx, vs, a, c, b⟩ := kk.2; ⟨dx, vs, a, c, Dens.mono K s1 _ _ b⟩⟩
    | rng => exact ⟨z1 _ (Ne.symm ap.1) kk.1, z1 _ (Ne.symm ap.2) kk.2.1, kk.2.2⟩
    | dead => trivial
theorem Sta.notin {α : Al} {F H : Hp} (S : Sta K α M F H) {p : Addr} (hp : H p = none) : ∀ q, q ∈ α → p ≠ q.1 ∧ p ≠ q.2 := fun q hq =>
  ⟨fun z => (S.tr q hq).1 (by rw [← z]; exact hp), fun z => (S.tr q hq).2 (by rw [← z]; exact hp)⟩

/-! ### comprehensions -/
def wipeR (ρ : Rho) : List Nat → Rho
  | [] => ρ
  | v :: vs => (wipeR ρ vs).set v none
theorem EnvOk.wipe {α : Al} {F : Hp} {σ : L2.St} (h : EnvOk K α F σ ρ) : ∀ vs : List Nat, EnvOk K α F (L2.wipe σ vs) (wipeR ρ vs)
  | [] => h
  | v :: vs => (EnvOk.wipe h vs).setN v
theorem wipe_in {σ : L2.St} {i : Nat} : ∀ {vs : List Nat}, i ∈ vs → (L2.wipe σ vs)[i]? = if i < σ.length then some none else none
  | [], h => by simp at h
  | v :: vs, h => by
    unfold L2.wipe
    by_cases e : v = i
    · subst e
      by_cases hl : v < σ.length
      · rw [List.getElem?_set_self (by rw [wipe_length]; exact hl), if_pos hl]
      · rw [List.getElem?_eq_none (by rw [List.length_set, wipe_length]; omega), if_neg hl]
    · rw [List.getElem?_set_ne e]
      exact wipe_in (by simpa [Ne.symm e] using h)
theorem wipe_eq {σ σ' : L2.St} {vs : List Nat} (hl : σ'.length = σ.length) (h : ∀ j : Nat, j ∉ vs → σ'[j]? = σ[j]?) : L2.wipe σ' vs = L2.wipe σ vs := by
  apply List.ext_getElem?
  intro j
  by_cases e : j ∈ vs
  · rw [wipe_in e, wipe_in e, hl]
  · rw [wipe_out e, wipe_out e, h j e]
theorem wipe_wipe {σ : L2.St} {vs : List Nat} : L2.wipe (L2.wipe σ vs) vs = L2.wipe σ vs := wipe_eq (wipe_length σ vs) fun j e => wipe_out e
theorem ev_lc {wi : TI} {g : TG} {tt : TT} {vs : List Nat} (h : EvI K wi ρ M fun items => items.length ≤ 16777216 ∧ ∃ I : Nat → List D → Prop, I 0 [] ∧
      (∀ i d acc, items[i]? = some d → I i acc → EvG K g vs d (wipeR ρ vs) fun ρ' => EvT K tt ρ' M fun b => if b = true then EvP K te ρ' M (fun s => ∃ d', s = .v d' ∧ I (i + 1) (acc ++ [d'])) else I (i + 1) acc) ∧
      ∀ acc, I items.length acc → Q (.v (.lst acc))) : EvP K (tLc wi g tt te vs) ρ M Q := fun σ α F H en S k kk =>
  h σ α F H en S _ fun J F1 H1 items m1 S1 it ⟨hz, I, h0, hs, hd⟩ => by
    intro A hA
    have hFA : F1 A = none := S1.sub.free hA
    have hna := S1.notin hA
    refine ⟨fun i m H' => m = items.length - i ∧ i ≤ items.length ∧ ∃ F' acc us, Move α F1 H1 F' H' ∧ Sta K α M F' H' ∧ H' A = some (.lst us) ∧ F' A = none ∧ Dens K F' acc us ∧ acc.length ≤ i ∧ I i acc,
      ⟨_, rfl, Nat.zero_le _, F1, [], [], ?_, S1.extra hFA hna, upd_same, hFA, rfl, Nat.le_refl _, h0⟩, ?_⟩
    · exact ⟨fun _ _ z => z, fun b o q _ => by rw [upd_ne (ne_of_none q hA)]; exact q, fun b q => by { rw [upd_ne (fun z => q (by rw [z]; exact hA))]; exact q }, fun b q => .inl q⟩
    rintro i m H' ⟨rfl, hi, F', acc, us, mv, S', hAt, hFA', hden, hlen, p⟩
    by_cases hlt : i < items.length
    · have hget : items[i]? = some items[i] := List.getElem?_eq_getElem hlt
      refine .inr ⟨((it i F' H' mv.ex S'.sub).2 _ hget).1, fun H2 => ∃ F2 acc us, Move α F1 H1 F2 H2 ∧ Sta K α M F2 H2 ∧ H2 A = some (.lst us) ∧ F2 A = none ∧ Dens K F2 acc us ∧ acc.length ≤ i + 1 ∧ I (i + 1) acc,
        fun H2 ⟨F2, acc, us, a, b, c, d, f, g, h⟩ => ⟨items.length - (i + 1), by omega, rfl, hlt, F2, acc, us, a, b, c, d, f, g, h⟩, fun x H2 y => ?_⟩
      obtain ⟨F2, m2, S2, hx⟩ := it_turn it mv.ex S' hget y
      have enw := ((en.mono m1.ex).mono (mv.ex.trans m2.ex)).wipe vs
      refine hs i _ acc hget p (L2.wipe σ vs) α F2 H2 x enw S2.sub hx _ fun σ3 ρ3 en3 l3 f3 q3 => ⟨?_, ?_⟩
      · have := wipe_eq (σ := L2.wipe σ vs) l3 f3
        rw [wipe_wipe] at this
        exact this
      refine q3 σ3 α F2 H2 en3 S2 _ fun b F3 H3 m3 S3 q4 => ?_
      have mA : Move α F' H' F3 H3 := m2.trans m3
      have hA3 : H3 A = some (.lst us) := mA.fr A _ hAt hna
      have nF : ∀ F4 H4, Move α F' H' F4 H4 → F4 A = none := fun F4 H4 mm => by
        cases z : F4 A with
        | none => rfl
        | some o =>
          rcases mm.new A (by rw [z]; simp) with q | q
          · exact absurd hFA' q
          · rw [hAt] at q; cases q
      cases b with
      | true =>
        refine iteT ?_
        have q4 : EvP K te ρ3 M (fun s => ∃ d', s = .v d' ∧ I (i + 1) (acc ++ [d'])) := q4
        refine q4 σ3 α F3 H3 (en3.mono m3.ex) S3 _ fun v F4 H4 s m4 S4 o4 ⟨d', e4, p4⟩ => ?_
        subst e4
        have mB : Move α F' H' F4 H4 := mA.trans m4
        have hA4 : H4 A = some (.lst us) := mB.fr A _ hAt hna
        have mC : Move α F1 H1 F4 H4 := mv.trans mB
        refine ⟨us, hA4, by rw [← hden.length, sizeLine_eq]; omega, F4, acc ++ [d'], us ++ [v], ⟨mC.ex, fun b o q z => ?_, fun b q => ?_, mC.new⟩, S4.extra (nF _ _ mB) hna, upd_same, nF _ _ mB, (Dens.mono K mB.ex _ _ hden).append (Dens.cons o4 Dens.nil), by simp; omega, p4⟩
        · rw [upd_ne (ne_of_none q hA)]; exact mC.fr b o q z
        · rw [upd_ne (fun z => q (by rw [z]; exact hA))]; exact mC.tr b q
      | false =>
        refine iteF ?_
        exact ⟨F3, acc, us, mv.trans mA, S3, hA3, nF _ _ mA, Dens.mono K mA.ex _ _ hden, by omega, q4⟩
    · have ei : i = items.length := by omega
      subst ei
      obtain ⟨s5, S5⟩ := S'.ice hFA' hAt hna
      refine .inl ⟨(it _ F' H' mv.ex S'.sub).1 rfl, kk (.ref A) _ H' (.v (.lst acc)) ⟨(m1.trans mv).ex.trans s5, fun b o q z => (m1.trans mv).fr b o q z, (m1.trans mv).tr, fun b q => ?_⟩ S5 (show Den K _ (.lst acc) _ from ⟨A, us, rfl, upd_same, Dens.mono K s5 _ _ hden⟩) (hd acc p)⟩
      by_cases eb : b = A
      · subst eb; exact .inr (none_back (m1.tr b) hA)
      · rw [upd_ne eb] at q; exact (m1.trans mv).new b q
/-- .. of what is known item by item -/
theorem ev_lcM {wi : TI} {g : TG} {vs : List Nat} (f : D → D) (h : EvI K wi ρ M fun items => items.length ≤ 16777216 ∧
      (∀ (i : Nat) d, items[i]? = some d → EvG K g vs d (wipeR ρ vs) fun ρ' => EvP K te ρ' M fun s => s = .v (f d)) ∧ Q (.v (.lst (items.map f)))) : EvP K (tLc wi g tYes te vs) ρ M Q := by
  refine ev_lc fun σ α F H en S k kk => h σ α F H en S k fun J F1 H1 items m S1 ok ⟨hz, hs, hd⟩ => kk J F1 H1 items m S1 ok ⟨hz, fun i acc => acc = (items.take i).map f, by simp, fun i d acc hget ea => ?_, fun acc ea => ?_⟩
  · have ea : acc = (items.take i).map f := ea
    intro σ α F H v en s hd k kk
    refine hs i d hget σ α F H v en s hd k fun σ' ρ' a b c q => kk σ' ρ' a b c ?_
    intro σ α F H en S k kk
    refine kk true F H .refl S ?_
    refine iteT (q.mono fun s es => ⟨_, es, ?_⟩)
    subst ea
    have hi : i < items.length := (List.getElem?_eq_some_iff.mp hget).1
    have e2 : items[i] = d := (List.getElem?_eq_some_iff.mp hget).2
    rw [List.take_succ_eq_append_getElem hi, List.map_append, e2]
    rfl
  · have ea : acc = (items.take items.length).map f := ea
    rw [List.take_length] at ea
    subst ea
    exact hd

/-! ### calls -/
/-- a def's promise: args by x, things by x; what comes out of x, and the things then -/
def SpF {ι : Type} (K : PySem.W.Frag) (args : ι → List Sl) (Mi : ι → List MO) (pre : ι → Prop) (post : ι → D → List MO → Prop) : Sp := fun vs H Q _ =>
  ∃ (x : ι) (α : Al) (F : Hp), SlsOk K α F (args x) vs ∧ Sta K α (Mi x) F H ∧ pre x ∧ ∀ v F' H' d M', Move α F H F' H' → Sta K α M' F' H' → Den K F' d v → post x d M' → Q v H'
/-- plain data in, plain data out -/
def SpP {ι : Type} (K : PySem.W.Frag) (args : ι → List D) (pre : ι → Prop) (post : ι → D → Prop) : Sp := SpF K (fun x => (args x).map Sl.v) (fun _ => []) pre (fun x d _ => post x d)
/-- .. with the source of draws ahead -/
def SpG {ι : Type} (K : PySem.W.Frag) (args : ι → List D) (pre : ι → Prop) (post : ι → D → Prop) : Sp := SpF K (fun x => .l 0 :: (args x).map Sl.v) (fun _ => [.rng]) pre (fun x d M' => M' = [.rng] ∧ post x d)
theorem SlsOk.ofD {α β : Al} {F : Hp} : ∀ {ds : List D} {vs : List V}, SlsOk K α F (ds.map Sl.v) vs → SlsOk K β F (ds.map Sl.v) vs
  | [], _, h => h
  | d :: ds, _, h => by
    obtain ⟨v, r, h1, h2, h3⟩ := h
    exact ⟨v, r, h1, h2, SlsOk.ofD h3⟩
theorem sta_nil {F H : Hp} (s : Same F H) : Sta K [] [] F H := ⟨s, rfl, fun i m p h => by simp at h, fun i j p q _ h => by simp at h, fun p h => by simp at h⟩
theorem Move.widen {α β : Al} {F H F' H' : Hp} (m : Move α F H F' H') (h : ∀ p, p ∈ α → p ∈ β) : Move β F H F' H' := ⟨m.ex, fun b o q k => m.fr b o q fun p hp => k p (h p hp), m.tr, m.new⟩
theorem MObj.keep {F H F' H' : Hp} {m : MO} {p : Addr × Addr} (h : MObj K F H m p) (s : Same F F') (h1 : F p.1 = none → F' p.1 = none) (h2 : F p.2 = none → F' p.2 = none) (k1 : ∀ o, H p.1 = some o → H' p.1 = some o) (k2 : ∀ o, H p.2 = some o → H' p.2 = some o) : MObj K F' H' m p := by
  cases m with
  | lst ds => exact ⟨h1 h.1, let ⟨vs, a, b⟩ := h.2; ⟨vs, k1 _ a, Dens.mono K s _ _ b⟩⟩
  | dic ks ds => exact ⟨h1 h.1, let ⟨vs, a, c, b⟩ := h.2; ⟨vs, k1 _ a, c, Dens.mono K s _ _ b⟩⟩
  | pin a0 ds => exact ⟨h1 h.1, h.2.1, let ⟨vs, a, b⟩ := h.2.2; ⟨vs, k1 _ a, Dens.mono K s _ _ b⟩⟩
  | hoF a0 o0 y0 m0 => exact ⟨h1 h.1, h.2.1, k1 _ h.2.2.1, m0 _ _ s h.2.2.2⟩
  | frz d od kvs ks ds => exact ⟨h1 h.1, h.2.1, k1 _ h.2.2.1, let ⟨vs, c, e, b⟩ := h.2.2.2; ⟨vs, c, e, Dens.mono K s _ _ b⟩⟩
  | ins C ns ds => exact ⟨h1 h.1, let ⟨dx, vs, a, c, b⟩ := h.2; ⟨dx, vs, k1 _ a, c, Dens.mono K s _ _ b⟩⟩
  | rng => exact ⟨h1 h.1, h2 h.2.1, let ⟨s, i, c, h0, a1, a2, h3⟩ := h.2.2; ⟨s, i, c, h0, k1 _ a1, k2 _ a2, h3⟩⟩
  | dead => trivial
theorem Move.fnone {α : Al} {F H F' H' : Hp} (m : Move α F H F' H') {b : Addr} (h1 : H b ≠ none) (h : F b = none) : F' b = none := by
  cases z : F' b with
  | none => rfl
  | some o =>
    rcases m.new b (by rw [z]; simp) with q | q
    · exact absurd h q
    · exact absurd q h1
/-- behind a call that knows none of the things -/
theorem Sta.keep0 {α : Al} {F H F' H' : Hp} (S : Sta K α M F H) (m : Move [] F H F' H') (s' : Same F' H') : Sta K α M F' H' := by
  refine ⟨s', S.len, fun i mo p h1 h2 => ?_, S.ap, fun p hp => ⟨m.tr _ (S.tr p hp).1, m.tr _ (S.tr p hp).2⟩⟩
  have hp := S.tr p (List.mem_of_getElem? h2)
  exact (S.ob i mo p h1 h2).keep m.ex (m.fnone hp.1) (m.fnone hp.2) (fun o q => m.fr _ o q fun p hp => by simp at hp) (fun o q => m.fr _ o q fun p hp => by simp at hp)
/-- behind a call that knows the j-th thing alone -/
theorem Sta.keep1 {α : Al} {F H F' H' : Hp} {j : Nat} {p0 : Addr × Addr} {m' : MO} (S : Sta K α M F H) (hj : α[j]? = some p0) (m : Move [p0] F H F' H') (s' : Sta K [p0] [m'] F' H') : Sta K α (M.set j m') F' H' := by
  refine ⟨s'.sub, by simp [S.len], fun i mo p h1 h2 => ?_, S.ap, fun p hp => ⟨m.tr _ (S.tr p hp).1, m.tr _ (S.tr p hp).2⟩⟩
  by_cases hij : j = i
  · subst hij
    have hl : j < M.length := by rw [S.len]; exact (List.getElem?_eq_some_iff.mp h2).1
    rw [List.getElem?_set_self hl] at h1
    cases h1
    rw [hj] at h2; cases h2
    exact s'.ob 0 m' p0 rfl rfl
  · rw [List.getElem?_set_ne hij] at h1
    have hp := S.tr p (List.mem_of_getElem? h2)
    have ap := nth_ne S h2 hj (Ne.symm hij)
    exact (S.ob i mo p h1 h2).keep m.ex (m.fnone hp.1) (m.fnone hp.2)
      (fun o q => m.fr _ o q fun r hr => by { simp at hr; subst hr; exact ⟨ap.1, ap.2.1⟩ }) (fun o q => m.fr _ o q fun r hr => by { simp at hr; subst hr; exact ⟨ap.2.2.1, ap.2.2.2⟩ })
theorem sta_one {α : Al} {F H : Hp} {j : Nat} {p0 : Addr × Addr} {m0 : MO} (S : Sta K α M F H) (hj : α[j]? = some p0) (hm : M[j]? = some m0) : Sta K [p0] [m0] F H := by
  refine ⟨S.sub, rfl, fun i m p h1 h2 => ?_, fun i j p q hij h1 h2 => ?_, fun p hp => ?_⟩
  · cases i with
    | zero =>
      simp at h1 h2
      subst h1; subst h2
      exact S.ob j m0 p0 hm hj
    | succ i => simp at h1
  · cases j with
    | zero => omega
    | succ j => simp at h2
  · simp at hp; subst hp
    exact S.tr p (List.mem_of_getElem? hj)
theorem ec_callP {ι : Type} {args : ι → List D} {pre : ι → Prop} {post : ι → D → Prop} {ta : TA} {X : XK} (h : EvA K ta ρ M fun ss => ∃ x, ss = (args x).map Sl.v ∧ pre x ∧ ∀ d, post x d → Q (.v d)) : EvP K (tCall (SpP K args pre post) [] X ta) ρ M Q := fun σ α F H en S k kk =>
  h σ α F H en S _ fun vs F1 H1 ss m1 S1 o1 ⟨x, e1, hp, q⟩ => by
    subst e1
    refine ⟨x, [], F1, by rw [List.append_nil]; exact o1.ofD, sta_nil S1.sub, hp, fun v F' H' d M' m2 S2 o2 p2 => ?_⟩
    exact kk v F' H' (.v d) (m1.trans (m2.widen fun _ h => by simp at h)) (S1.keep0 m2 S2.sub) o2 (q d p2)
theorem ec_callG {ι : Type} {args : ι → List D} {pre : ι → Prop} {post : ι → D → Prop} {ta : TA} {X : XK} (h : EvA K ta ρ M fun ss => ∃ x j, ss = .l j :: (args x).map Sl.v ∧ M[j]? = some .rng ∧ pre x ∧ ∀ d, post x d → Q (.v d)) : EvP K (tCall (SpG K args pre post) [] X ta) ρ M Q := fun σ α F H en S k kk =>
  h σ α F H en S _ fun vs F1 H1 ss m1 S1 o1 ⟨x, j, e1, hj, hp, q⟩ => by
    subst e1
    obtain ⟨v0, r, rfl, ⟨p0, hp0, rfl⟩, o2⟩ := o1
    have S0 := sta_one S1 hp0 hj
    refine ⟨x, [p0], F1, by rw [List.append_nil]; exact ⟨_, r, rfl, ⟨p0, rfl, rfl⟩, o2.ofD⟩, S0, hp, fun v F' H' d M' m2 S2 o3 ⟨eM, p2⟩ => ?_⟩
    subst eM
    have S3 := S1.keep1 hp0 m2 S2
    have e2 : M.set j .rng = M := by
      have hl : j < M.length := (List.getElem?_eq_some_iff.mp hj).1
      apply List.ext_getElem?
      intro i
      by_cases hij : j = i
      · subst hij; rw [List.getElem?_set_self hl, hj]
      · rw [List.getElem?_set_ne hij]
    rw [e2] at S3
    exact kk v F' H' (.v d) (m1.trans (m2.widen fun p hp => by { simp at hp; subst hp; exact List.mem_of_getElem? hp0 })) S3 o3 (q d p2)

/-! ### a def's body -/
def startR (n : Nat) (ss : List Sl) : Rho := ss.map some ++ List.replicate (n - ss.length) none
theorem env_start {α : Al} {F : Hp} {N : List Str} : ∀ {ss : List Sl} {vs : List V}, SlsOk K α F ss vs → EnvOk K α F (L2.start N vs) (startR N.length ss) := fun {ss vs} h => by
  have hl := h.length
  refine ⟨by simp [L2.start, startR, hl], fun i s q => ?_⟩
  unfold startR at q
  have hi : i < ss.length := by
    by_cases hi : i < ss.length
    · exact hi
    · rw [List.getElem?_append_right (by simpa using hi), List.getElem?_replicate] at q
      split at q <;> cases q
  rw [List.getElem?_append_left (by simpa using hi), List.getElem?_map] at q
  have gen : ∀ {ss : List Sl} {vs : List V} {i : Nat} {s : Sl}, SlsOk K α F ss vs → ss[i]? = some s → ∃ v, vs[i]? = some v ∧ SlOk K α F s v := by
    intro ss
    induction ss with
    | nil => intro vs i s _ e; simp at e
    | cons a r ih =>
      intro vs i s h e
      obtain ⟨v, r', rfl, h2, h3⟩ := h
      cases i with
      | zero => simp at e; subst e; exact ⟨v, rfl, h2⟩
      | succ i =>
        obtain ⟨u, q, hu⟩ := ih h3 (by simpa using e)
        exact ⟨u, by simpa using q, hu⟩
  cases e : ss[i]? with
  | none => rw [e] at q; cases q
  | some s' =>
    rw [e] at q; cases q
    obtain ⟨v, hv, ho⟩ := gen h e
    refine ⟨v, ?_, ho⟩
    unfold L2.start
    rw [List.getElem?_append_left (by simpa [← hl] using hi), List.getElem?_map, hv]
    rfl
/-- what a def may hand back -/
def RetOk (n : Nat) (post : D → List MO → Prop) (s : Sl) (M' : List MO) : Prop :=
  (∃ d, s = .v d ∧ post d (M'.take n)) ∨ (∃ k ds, s = .l k ∧ n ≤ k ∧ M'[k]? = some (.lst ds) ∧ post (.lst ds) (M'.take n)) ∨
  ∃ k ks ds, s = .l k ∧ n ≤ k ∧ M'[k]? = some (.dic ks ds) ∧ post (.dic ks ds) (M'.take n)
theorem Sta.prefix {α β : Al} {F H : Hp} (S : Sta K (α ++ β) M F H) : Sta K α (M.take α.length) F H := by
  refine ⟨S.sub, ?_, fun i m p h1 h2 => ?_, fun i j p q hij h1 h2 => ?_, fun p hp => S.tr p (List.mem_append_left _ hp)⟩
  · rw [List.length_take, S.len]; simp
  · have hi : i < α.length := (List.getElem?_eq_some_iff.mp h2).1
    rw [List.getElem?_take_of_lt hi] at h1
    exact S.ob i m p h1 (by rw [List.getElem?_append_left hi]; exact h2)
  · have hi : i < α.length := (List.getElem?_eq_some_iff.mp h1).1
    have hj : j < α.length := (List.getElem?_eq_some_iff.mp h2).1
    exact S.ap i j p q hij (by rw [List.getElem?_append_left hi]; exact h1) (by rw [List.getElem?_append_left hj]; exact h2)
theorem fn_run1 {args : List Sl} {Mi : List MO} {post : D → List MO → Prop} {N : List Str} {t : TS} {vs : List V} {α : Al} {F H : Hp} {Q : VK} (ho : SlsOk K α F args vs) (S : Sta K α Mi F H)
    (k : ∀ v F' H' d M', Move α F H F' H' → Sta K α M' F' H' → Den K F' d v → post d M' → Q v H')
    (h : RunD K ⟨α, F, H⟩ t (startR N.length args) Mi (fun _ M' => post .non (M'.take Mi.length)) (RetOk Mi.length post) (fun _ _ => False) (fun _ _ => False)) :
    t { nx := fun _ H' => Q .non H', rt := Q } (L2.start N vs) H := by
  have fin : ∀ {α' : Al} {F' H' : Hp} {M' : List MO}, Sta K α' M' F' H' → StepE ⟨α, F, H⟩ α' F' H' → Move α F H F' H' ∧ Sta K α (M'.take Mi.length) F' H' := fun {α' F' H' M'} S' st => by
    obtain ⟨β, e1, _⟩ := st.pre
    have e1 : α' = α ++ β := e1
    subst e1
    refine ⟨⟨st.ex, st.fr, st.tr, st.new⟩, ?_⟩
    have := S'.prefix
    rw [S.len]; exact this
  refine h _ (L2.start N vs) α F H ⟨env_start ho, S, .refl⟩ ⟨fun σ' α' F' H' ρ' M' g _ q => ?_, fun v s α' F' H' M' o S' st _ q => ?_, fun _ _ _ _ _ _ _ _ q => q.elim, fun _ _ _ _ _ _ _ _ q => q.elim⟩
  · obtain ⟨m, S2⟩ := fin g.sta g.st
    exact k .non F' H' .non _ m S2 rfl q
  · obtain ⟨m, S2⟩ := fin S' st
    rcases q with ⟨d, rfl, p⟩ | ⟨j, ds, rfl, hj, hM, p⟩ | ⟨j, ks, ds, rfl, hj, hM, p⟩
    · exact k v F' H' d _ m S2 o p
    all_goals
      obtain ⟨p0, hp0, rfl⟩ := o
      have hob := S'.ob j _ p0 hM hp0
      have hna : ∀ q, q ∈ α → p0.1 ≠ q.1 ∧ p0.1 ≠ q.2 := fun q hq => by
        obtain ⟨β, e1, _⟩ := st.pre
        have e1 : α' = α ++ β := e1
        obtain ⟨i, hi⟩ := List.mem_iff_getElem?.mp hq
        have hil : i < α.length := (List.getElem?_eq_some_iff.mp hi).1
        have ap := nth_ne S' hp0 (show α'[i]? = some q by rw [e1, List.getElem?_append_left hil]; exact hi) (by have := S.len; omega)
        exact ⟨ap.1, ap.2.1⟩
      have hnew : H p0.1 = none := by
        obtain ⟨β, e1, hβ⟩ := st.pre
        have e1 : α' = α ++ β := e1
        rw [e1, List.getElem?_append_right (by have := S.len; omega)] at hp0
        exact (hβ p0 (List.mem_of_getElem? hp0)).1
    · obtain ⟨hF, us, hus, hd⟩ := hob
      obtain ⟨s5, S5⟩ := S2.ice hF hus hna
      refine k (.ref p0.1) _ H' (.lst ds) _ ⟨m.ex.trans s5, m.fr, m.tr, fun b q => ?_⟩ S5 ⟨p0.1, us, rfl, upd_same, Dens.mono K s5 _ _ hd⟩ p
      by_cases eb : b = p0.1
      · subst eb; exact .inr hnew
      · rw [upd_ne eb] at q; exact m.new b q
    · obtain ⟨hF, us, hus, hl, hd⟩ := hob
      obtain ⟨s5, S5⟩ := S2.ice hF hus hna
      refine k (.ref p0.1) _ H' (.dic ks ds) _ ⟨m.ex.trans s5, m.fr, m.tr, fun b q => ?_⟩ S5 ⟨p0.1, us, rfl, upd_same, hl, Dens.mono K s5 _ _ hd⟩ p
      by_cases eb : b = p0.1
      · subst eb; exact .inr hnew
      · rw [upd_ne eb] at q; exact m.new b q
theorem fn_run {ι : Type} {args : ι → List Sl} {Mi : ι → List MO} {pre : ι → Prop} {post : ι → D → List MO → Prop} {N : List Str} {t : TS}
    (h : ∀ x e, pre x → e.α.length = (Mi x).length → RunD K e t (startR N.length (args x)) (Mi x) (fun _ M' => post x .non (M'.take (Mi x).length)) (RetOk (Mi x).length (post x)) (fun _ _ => False) (fun _ _ => False)) :
    ∀ vs H Q E, SpF K args Mi pre post vs H Q E → t { nx := fun _ H' => Q .non H', rt := Q } (L2.start N vs) H := by
  rintro vs H Q E ⟨x, α, F, ho, S, hp, k⟩
  exact fn_run1 ho S k (h x ⟨α, F, H⟩ hp S.len.symm)
end
end DL

/-! DL4: sequences and built-ins over plain data. -/
namespace DL
open PySem L2
section
variable {K : PySem.W.Frag} {e : Ent} {ρ : Rho} {M : List MO} {Q : Sl → Prop} {te ta tb : TE} {t u : TS}

/-- a slot that is read as a list, a tuple -/
inductive RdL (M : List MO) : Sl → List D → Prop
  | v {ds : List D} : RdL M (.v (.lst ds)) ds
  | l {k : Nat} {ds : List D} : M[k]? = some (.lst ds) → RdL M (.l k) ds
  | p {k : Nat} {a : Addr} {ds : List D} : M[k]? = some (.pin a ds) → RdL M (.v (.raw (.ref a))) ds
theorem RdL.get {α : Al} {F H : Hp} {s : Sl} {ds : List D} {u : V} (h : RdL M s ds) (S : Sta K α M F H) (o : SlOk K α F s u) : ∃ a vs, u = .ref a ∧ H a = some (.lst vs) ∧ Dens K F ds vs := by
  cases h with
  | v =>
    obtain ⟨a, vs, h1, h2, h3⟩ := o
    exact ⟨a, vs, h1, S.sub _ _ h2, h3⟩
  | l hk =>
    obtain ⟨p, hp, rfl⟩ := o
    obtain ⟨_, vs, h1, h2⟩ := S.ob _ _ p hk hp
    exact ⟨p.1, vs, rfl, h1, h2⟩
  | @p k a ds hk =>
    have o : u = .ref a := o
    subst o
    obtain ⟨q, hq⟩ := sta_get S hk
    obtain ⟨_, h2, vs, h3, h4⟩ := S.ob _ _ q hk hq
    exact ⟨a, vs, rfl, by rw [← h2]; exact h3, h4⟩
inductive RdS (M : List MO) : Sl → List D → Prop
  | l {s : Sl} {ds : List D} : RdL M s ds → RdS M s ds
  | t {ds : List D} : RdS M (.v (.tup ds)) ds
  | r {ds : List D} : RdS M (.v (.rd ds)) ds
theorem RdS.get {α : Al} {F H : Hp} {s : Sl} {ds : List D} {u : V} (h : RdS M s ds) (S : Sta K α M F H) (o : SlOk K α F s u) : ∃ a vs, u = .ref a ∧ (SqL K H a vs ∨ SqT K H a vs) ∧ Dens K F ds vs := by
  cases h with
  | l h =>
    obtain ⟨a, vs, h1, h2, h3⟩ := h.get S o
    exact ⟨a, vs, h1, .inl (SqL.of h2), h3⟩
  | t =>
    obtain ⟨a, vs, h1, h2, h3⟩ := o
    exact ⟨a, vs, h1, .inr (sqt_same K S.sub h2), h3⟩
  | r =>
    obtain ⟨a, vs, h1, h2, h3⟩ := o
    exact ⟨a, vs, h1, .inl (S.sub.seq h2), h3⟩
theorem atI_get {F : Hp} {ds : List D} {vs : List V} {i : Int} {d : D} (h : Dens K F ds vs) (ha : atI ds i = some d) : ∃ v, atI vs i = some v ∧ Den K F d v := by
  unfold atI at ha ⊢
  rw [← h.length]
  cases e : ixN ds.length i with
  | none => rw [e] at ha; cases ha
  | some j =>
    rw [e] at ha
    exact h.get ha
theorem er_ixL {x : Sl} {ds : List D} {i : Int} {d : D} (h : RdL M x ds) (ha : atI ds i = some d) (q : Q (.v d)) : EvR K (rIxL K) M x (.v (.int i)) Q := fun α F H u v S o1 o2 k kk => by
  obtain ⟨a, vs, rfl, h1, h2⟩ := h.get S o1
  have o2 : v = .int i := o2
  subst o2
  obtain ⟨w, hw, r⟩ := atI_get h2 ha
  exact ⟨a, vs, i, w, rfl, rfl, SqL.of h1, hw, kk w F H _ .refl S (den_ok r) q⟩
theorem er_ixT {ds : List D} {i : Int} {d : D} (ha : atI ds i = some d) (q : Q (.v d)) : EvR K (rIxT K) M (.v (.tup ds)) (.v (.int i)) Q := fun α F H u v S o1 o2 k kk => by
  obtain ⟨a, vs, rfl, h1, h2⟩ := o1
  have o2 : v = .int i := o2
  subst o2
  obtain ⟨w, hw, r⟩ := atI_get h2 ha
  exact ⟨a, vs, i, w, rfl, rfl, sqt_same K S.sub h1, hw, kk w F H _ .refl S (den_ok r) q⟩
theorem er_in {neg : Bool} {x : V} {y : Sl} {xs : List V} (h : RdS M y (xs.map D.raw)) (hx : flatV x = true) (hf : xs.all flatV = true) (q : Q (.v (.bl (if neg then !inV x xs else inV x xs)))) : EvR K (rIn K neg) M (.v (.raw x)) y Q := fun α F H u v S o1 o2 k kk => by
  have o1 : u = x := o1
  subst o1
  obtain ⟨a, vs, rfl, h1, h2⟩ := h.get S o2
  have h3 := h2.ofRaws
  subst h3
  exact ⟨a, vs, rfl, h1, hx, hf, kk _ F H _ .refl S raw_ok q⟩
theorem inV_ints {i : Int} : ∀ {ns : List Int}, inV (.int i) (ns.map V.int) = decide (i ∈ ns)
  | [] => by simp [inV]
  | n :: ns => by
    have := inV_ints (i := i) (ns := ns)
    unfold inV at this ⊢
    rw [List.map_cons, List.any_cons, this]
    by_cases h : i = n
    · subst h; simp [eqV]
    · simp [eqV, h, Ne.symm h]
/-- .. whole numbers -/
theorem er_inI {neg : Bool} {i : Int} {y : Sl} {ns : List Int} (h : RdS M y (D.ints ns)) (q : Q (.v (.bl (if neg then !decide (i ∈ ns) else decide (i ∈ ns))))) : EvR K (rIn K neg) M (.v (.int i)) y Q := by
  have e1 : D.ints ns = (ns.map V.int).map D.raw := by simp [D.ints, Function.comp_def]
  rw [e1] at h
  refine er_in h rfl (by simp [flatV]) ?_
  rw [inV_ints]
  exact q
theorem er_cat {x y : Sl} {ds es : List D} (h1 : RdL M x ds) (h2 : RdL M y es) (hz : ds.length + es.length ≤ 16777216) (q : Q (.v (.lst (ds ++ es)))) : EvR K rCat M x y Q := fun α F H u v S o1 o2 k kk => by
  obtain ⟨a, vs, rfl, e1, d1⟩ := h1.get S o1
  obtain ⟨b, us, rfl, e2, d2⟩ := h2.get S o2
  refine ⟨a, b, vs, us, rfl, rfl, e1, e2, by rw [← d1.length, ← d2.length, sizeLine_eq]; exact hz, fun p hp => ?_⟩
  obtain ⟨m2, S2⟩ := S.laid (o := .lst (vs ++ us)) hp
  exact kk _ _ _ _ m2 S2 (den_ok (d := .lst (ds ++ es)) ⟨p, _, rfl, upd_same, Dens.mono K m2.ex _ _ (d1.append d2)⟩) q
theorem Dens.flat {F : Hp} {ds : List D} {vs : List V} (h : Dens K F ds vs) : ∀ n : Nat, Dens K F (List.replicate n ds).flatten (List.replicate n vs).flatten
  | 0 => rfl
  | n + 1 => by
    rw [List.replicate_succ, List.replicate_succ, List.flatten_cons, List.flatten_cons]
    exact h.append (Dens.flat h n)
/-! slices -/
def cutD (xs : List D) (lo hi : Option Int) : List D := (xs.drop (HT.sIx xs.length 0 lo)).take (HT.sIx xs.length xs.length hi - HT.sIx xs.length 0 lo)
theorem Dens.cut {F : Hp} {ds : List D} {vs : List V} (h : Dens K F ds vs) (lo hi : Option Int) : Dens K F (cutD ds lo hi) (cutV vs lo hi) := by
  unfold cutD cutV
  rw [h.length]
  exact (h.drop _).take _
/-! ### built-ins -/
def rLen (K : PySem.W.Frag) : List V → Hp → VK → Prop := fun xs H Q => ∃ x n, xs = [x] ∧ LenV K x H n ∧ Q (.int n) H
theorem ec_len {x : Sl} {ds : List D} (h : RdS M x ds) (q : Q (.v (.int (ds.length : Int)))) : EvC K (rLen K) M [x] Q := fun α F H us S o k kk => by
  obtain ⟨v, r, rfl, o1, o2⟩ := o
  have o2 : r = [] := o2
  subst o2
  obtain ⟨a, vs, rfl, e1, d1⟩ := h.get S o1
  refine ⟨_, vs.length, rfl, ?_, ?_⟩
  · rcases e1 with e1 | e1
    · exact .inl ⟨vs, e1, rfl⟩
    · exact .inr ⟨vs, e1, rfl⟩
  · rw [← d1.length]
    exact kk _ F H _ .refl S raw_ok q
theorem sls1 {α : Al} {F : Hp} {d : V} {us : List V} (o : SlsOk K α F [.v (.raw d)] us) : us = [d] := by
  obtain ⟨v, r, rfl, o1, o2⟩ := o
  have o2 : r = [] := o2
  have o1 : v = d := o1
  rw [o2, o1]
theorem sls2 {α : Al} {F : Hp} {d e : V} {us : List V} (o : SlsOk K α F [.v (.raw d), .v (.raw e)] us) : us = [d, e] := by
  obtain ⟨v, r, rfl, o1, o2⟩ := o
  have o1 : v = d := o1
  rw [sls1 o2, o1]
def rAbs : List V → Hp → VK → Prop := fun xs H Q => ∃ i, xs = [.int i] ∧ Q (.int (if i < 0 then -i else i)) H
theorem ec_abs {i : Int} (q : Q (.v (.int (if i < 0 then -i else i)))) : EvC K rAbs M [.v (.int i)] Q := fun α F H us S o k kk => ⟨i, sls1 o, kk _ F H _ .refl S raw_ok q⟩
def rMax2 : List V → Hp → VK → Prop := fun xs H Q => ∃ i j, xs = [.int i, .int j] ∧ Q (.int (if j > i then j else i)) H
def rMin2 : List V → Hp → VK → Prop := fun xs H Q => ∃ i j, xs = [.int i, .int j] ∧ Q (.int (if j < i then j else i)) H
theorem ec_max2 {i j : Int} (q : Q (.v (.int (if j > i then j else i)))) : EvC K rMax2 M [.v (.int i), .v (.int j)] Q := fun α F H us S o k kk => ⟨i, j, sls2 o, kk _ F H _ .refl S raw_ok q⟩
theorem ec_min2 {i j : Int} (q : Q (.v (.int (if j < i then j else i)))) : EvC K rMin2 M [.v (.int i), .v (.int j)] Q := fun α F H us S o k kk => ⟨i, j, sls2 o, kk _ F H _ .refl S raw_ok q⟩
def rInt1 : List V → Hp → VK → Prop := fun xs H Q => (∃ i, xs = [.int i] ∧ Q (.int i) H) ∨ ∃ k, xs = [.bl k] ∧ Q (.int (if k then 1 else 0)) H
theorem ec_int1 {i : Int} (q : Q (.v (.int i))) : EvC K rInt1 M [.v (.int i)] Q := fun α F H us S o k kk => .inl ⟨i, sls1 o, kk _ F H _ .refl S raw_ok q⟩
def rStrI : List V → Hp → VK → Prop := fun xs H Q => ∃ i : Int, xs = [.int i] ∧ i.natAbs.log2 < 1920 ∧ Q (.str (toString i)) H
theorem sls1s {α : Al} {F : Hp} {s : Sl} {us : List V} (o : SlsOk K α F [s] us) : ∃ u, us = [u] ∧ SlOk K α F s u := by
  obtain ⟨v, r, rfl, o1, o2⟩ := o
  have o2 : r = [] := o2
  exact ⟨v, by rw [o2], o1⟩
abbrev D.bls (bs : List Bool) : List D := bs.map D.bl
theorem Dens.ofBls {F : Hp} {bs : List Bool} {vs : List V} (h : Dens K F (D.bls bs) vs) : vs = bs.map V.bl := by
  have e : D.bls bs = (bs.map V.bl).map D.raw := by simp [D.bls, Function.comp_def]
  rw [e] at h
  exact h.ofRaws
theorem ec_any {x : Sl} {bs : List Bool} (h : RdL M x (D.bls bs)) (q : Q (.v (.bl (bs.any id)))) : EvC K (rAny K) M [x] Q := fun α F H us S o k kk => by
  obtain ⟨u, rfl, o1⟩ := sls1s o
  obtain ⟨a, vs, rfl, e1, d1⟩ := h.get S o1
  have e2 := d1.ofBls
  subst e2
  exact ⟨a, bs, rfl, SqL.of e1, kk _ F H _ .refl S raw_ok q⟩
theorem ec_all {x : Sl} {bs : List Bool} (h : RdL M x (D.bls bs)) (q : Q (.v (.bl (bs.all id)))) : EvC K (rAll K) M [x] Q := fun α F H us S o k kk => by
  obtain ⟨u, rfl, o1⟩ := sls1s o
  obtain ⟨a, vs, rfl, e1, d1⟩ := h.get S o1
  have e2 := d1.ofBls
  subst e2
  exact ⟨a, bs, rfl, SqL.of e1, kk _ F H _ .refl S raw_ok q⟩
def rTupOf (K : PySem.W.Frag) : List V → Hp → VK → Prop := fun xs H Q => ∃ p ys, xs = [.ref p] ∧ ((SqL K H p ys ∧ ∀ l, H l = none → Q (.ref l) (upd H l (.tup ys))) ∨ (SqT K H p ys ∧ Q (.ref p) H))
def rListOf (K : PySem.W.Frag) : List V → Hp → VK → Prop := fun xs H Q => ∃ p ys, xs = [.ref p] ∧ (SqL K H p ys ∨ SqT K H p ys) ∧ ∀ l, H l = none → Q (.ref l) (upd H l (.lst ys))
theorem ec_tupOf {x : Sl} {ds : List D} (h : RdS M x ds) (q : Q (.v (.tup ds))) : EvC K (rTupOf K) M [x] Q := fun α F H us S o k kk => by
  obtain ⟨u, rfl, o1⟩ := sls1s o
  cases h with
  | l h =>
    obtain ⟨a, vs, rfl, e1, d1⟩ := h.get S o1
    refine ⟨a, vs, rfl, .inl ⟨SqL.of e1, fun p hp => ?_⟩⟩
    obtain ⟨m2, S2⟩ := S.laid (o := .tup vs) hp
    exact kk _ _ _ _ m2 S2 (den_ok (d := .tup ds) ⟨p, _, rfl, .inl (.inl upd_same), Dens.mono K m2.ex _ _ d1⟩) q
  | t =>
    obtain ⟨a, vs, rfl, e1, d1⟩ := o1
    exact ⟨a, vs, rfl, .inr ⟨sqt_same K S.sub e1, kk _ F H _ .refl S (den_ok (d := .tup ds) ⟨a, vs, rfl, e1, d1⟩) q⟩⟩
  | r =>
    obtain ⟨a, vs, rfl, e1, d1⟩ := o1
    refine ⟨a, vs, rfl, .inl ⟨S.sub.seq e1, fun p hp => ?_⟩⟩
    obtain ⟨m2, S2⟩ := S.laid (o := .tup vs) hp
    exact kk _ _ _ _ m2 S2 (den_ok (d := .tup ds) ⟨p, _, rfl, .inl (.inl upd_same), Dens.mono K m2.ex _ _ d1⟩) q
/-! ### == at any depth -/
mutual
def D.py : D → PyData
  | .raw (.bl b) => .bool b
  | .raw (.int i) => .int i
  | .raw (.str x) => .str x
  | .raw _ => .none
  | .tup ds => .tuple (D.pyAll ds)
  | .lst ds => .list (D.pyAll ds)
  | .dic _ _ => .none
  | .ins _ _ _ => .none
  | .rd _ => .none
def D.pyAll : List D → List PyData
  | [] => []
  | d :: ds => d.py :: D.pyAll ds
end
mutual
/-- plain: flat things, tuples and lists of such, n deep at most -/
def D.pl : Nat → D → Bool
  | _, .raw .non => true
  | _, .raw (.bl _) => true
  | _, .raw (.int _) => true
  | _, .raw (.str x) => x.cps.all (· < 0x110000)
  | _, .raw _ => false
  | 0, .tup _ => false
  | n + 1, .tup ds => D.plAll n ds
  | 0, .lst _ => false
  | n + 1, .lst ds => D.plAll n ds
  | _, .dic _ _ => false
  | _, .ins _ _ _ => false
  | _, .rd _ => false
def D.plAll : Nat → List D → Bool
  | _, [] => true
  | n, d :: ds => d.pl n && D.plAll n ds
end
mutual
theorem D.dp {F H : Hp} (s : Same F H) : ∀ (n : Nat) (d : D) (v : V), d.pl n = true → Den K F d v → Dp K H v d.py
  | n, .raw .non, v, h, o => by
    have o : v = .non := o
    subst o; simp only [D.py]; exact .non
  | n, .raw (.bl b), v, h, o => by
    have o : v = .bl b := o
    subst o; simp only [D.py]; exact .bl b
  | n, .raw (.int b), v, h, o => by
    have o : v = .int b := o
    subst o; simp only [D.py]; exact .int b
  | n, .raw (.str b), v, h, o => by
    have o : v = .str b := o
    subst o; simp only [D.py]; exact .str b
  | n, .raw (.byt b), v, h, o => by simp [D.pl] at h
  | n, .raw (.flt b), v, h, o => by simp [D.pl] at h
  | n, .raw (.ref b), v, h, o => by simp [D.pl] at h
  | n, .raw (.ty b), v, h, o => by simp [D.pl] at h
  | 0, .tup ds, v, h, o => by simp [D.pl] at h
  | n + 1, .tup ds, v, h, o => by
    obtain ⟨a, vs, rfl, h1, h2⟩ := o
    simp only [D.py]
    exact .tup (sqt_same K s h1) (D.dpAll s n ds vs (by simpa [D.pl] using h) h2)
  | 0, .lst ds, v, h, o => by simp [D.pl] at h
  | n + 1, .lst ds, v, h, o => by
    obtain ⟨a, vs, rfl, h1, h2⟩ := o
    simp only [D.py]
    exact .lst (SqL.of (s _ _ h1)) (D.dpAll s n ds vs (by simpa [D.pl] using h) h2)
  | n, .dic _ _, v, h, o => by simp [D.pl] at h
  | n, .ins _ _ _, v, h, o => by simp [D.pl] at h
  | n, .rd _, v, h, o => by simp [D.pl] at h
theorem D.dpAll {F H : Hp} (s : Same F H) : ∀ (n : Nat) (ds : List D) (vs : List V), D.plAll n ds = true → Dens K F ds vs → DpAll K H vs (D.pyAll ds)
  | n, [], vs, h, o => by
    have o : vs = [] := o
    subst o; simp only [D.pyAll]; exact .nil
  | n, d :: ds, vs, h, o => by
    obtain ⟨v, r, rfl, h1, h2⟩ := o
    simp only [D.plAll, Bool.and_eq_true] at h
    simp only [D.pyAll]
    exact .cons (D.dp s n d v h.1 h1) (D.dpAll s n ds r h.2 h2)
end
mutual
theorem D.lay : ∀ (n : Nat) (d : D), d.pl n = true → d.py.canLay0 = true ∧ d.py.depth ≤ n
  | n, .raw .non, h => by simp [D.py, PyData.canLay0, PyData.depth]
  | n, .raw (.bl b), h => by simp [D.py, PyData.canLay0, PyData.depth]
  | n, .raw (.int b), h => by simp [D.py, PyData.canLay0, PyData.depth]
  | n, .raw (.str b), h => by
    simp only [D.pl] at h
    simp only [D.py, PyData.canLay0, PyData.depth, PyData.strOk]
    exact ⟨h, Nat.zero_le _⟩
  | n, .raw (.byt b), h => by simp [D.pl] at h
  | n, .raw (.flt b), h => by simp [D.pl] at h
  | n, .raw (.ref b), h => by simp [D.pl] at h
  | n, .raw (.ty b), h => by simp [D.pl] at h
  | 0, .tup ds, h => by simp [D.pl] at h
  | n + 1, .tup ds, h => by
    have := D.layAll n ds (by simpa [D.pl] using h)
    simp only [D.py, PyData.canLay0, PyData.depth]
    exact ⟨this.1, by omega⟩
  | 0, .lst ds, h => by simp [D.pl] at h
  | n + 1, .lst ds, h => by
    have := D.layAll n ds (by simpa [D.pl] using h)
    simp only [D.py, PyData.canLay0, PyData.depth]
    exact ⟨this.1, by omega⟩
  | n, .dic _ _, h => by simp [D.pl] at h
  | n, .ins _ _ _, h => by simp [D.pl] at h
  | n, .rd _, h => by simp [D.pl] at h
theorem D.layAll : ∀ (n : Nat) (ds : List D), D.plAll n ds = true → PyData.canLayAll0 (D.pyAll ds) = true ∧ PyData.depthAll (D.pyAll ds) ≤ n
  | n, [], h => by simp [D.pyAll, PyData.canLayAll0, PyData.depthAll]
  | n, d :: ds, h => by
    simp only [D.plAll, Bool.and_eq_true] at h
    have h1 := D.lay n d h.1
    have h2 := D.layAll n ds h.2
    simp only [D.pyAll, PyData.canLayAll0, PyData.depthAll, h1.1, h2.1, Bool.and_self, true_and]
    omega
end
theorem D.shaped {n : Nat} {d : D} (h : d.pl n = true) (hn : n ≤ 64) : SeqAt.shaped d.py = true := by
  have := D.lay n d h
  unfold SeqAt.shaped
  rw [this.1, Bool.true_and]
  exact decide_eq_true (by omega)
def D.eqv (x y : D) : Bool := PyData.eqv x.py y.py
theorem er_eqD {x y : D} (n : Nat) (hx : x.pl n = true) (hy : y.pl n = true) (hn : n ≤ 64) (q : Q (.v (.bl (x.eqv y)))) : EvR K (rEqD K) M (.v x) (.v y) Q := fun α F H u v S o1 o2 k kk =>
  ⟨x.py, y.py, D.dp S.sub n x u hx o1, D.dp S.sub n y v hy o2, D.shaped hx hn, D.shaped hy hn, kk _ F H _ .refl S raw_ok q⟩
/-! ### attributes -/
theorem lookup_zip {f : Str} : ∀ {ns : List Str} {vs : List V} {i : Nat} {v : V}, (ns.findIdx? (· == f)) = some i → vs[i]? = some v → (ns.zip vs).lookup f = some v
  | [], _, _, _, h, _ => by simp at h
  | n :: ns, [], i, v, _, e => by simp at e
  | n :: ns, w :: vs, i, v, h, e => by
    rw [List.findIdx?_cons] at h
    by_cases hn : n = f
    · subst hn
      rw [if_pos (by simp)] at h
      cases h
      simp at e; subst e
      simp
    · rw [if_neg (by simpa using hn)] at h
      obtain ⟨j, hj, rfl⟩ := Option.map_eq_some_iff.mp h
      have e' : vs[j]? = some v := by simpa using e
      rw [List.zip_cons_cons, List.lookup_cons, show (f == n) = false from by simpa using Ne.symm hn]
      exact lookup_zip hj e'
theorem ev_fldM {f : Str} {C : Addr} {ns : List Str} {ds : List D} {i j k : Nat} {d : D} (hc : Cls K C) (hn : NoAttr K C f) (hi : (ns.findIdx? (· == f)) = some i) (hd : ds[i]? = some d) (hj : ρ[j]? = some (some (.l k))) (hk : M[k]? = some (.ins C ns ds)) (q : Q (.v d)) : EvP K (tFld K (tVar j) f) ρ M Q := fun σ α F H en S kk1 kk => by
  obtain ⟨v, h1, p, hp, rfl⟩ := en.at' j _ hj
  obtain ⟨hF, dx, vs, h2, hl, h3⟩ := S.ob k _ p hk hp
  obtain ⟨w, hw, r⟩ := h3.get hd
  exact ⟨_, h1, p.1, C, dx, _, w, rfl, h2, hc, hn, lookup_zip hi hw, kk w F H _ .refl S (den_ok r) q⟩
end
end DL

/-! DL5: operators of any kind, walks of any sequence, calls by name. -/
namespace DL
open PySem L2
section
variable {X : Cx}
def rOr (r s : R2) : R2 := fun x y H Q => r x y H Q ∨ s x y H Q
theorem opOr {f : Value → Value → Sem Value} {r s : R2} (h1 : OpR X f r) (h2 : OpR X f s) : OpR X f (rOr r s) := fun pins st σ H x y v u Q I rx ry h => by
  rcases h with h | h
  · exact h1 pins st σ H x y v u Q I rx ry h
  · exact h2 pins st σ H x y v u Q I rx ry h
def rAddS : R2 := fun x y H Q => ∃ i j, x = .str i ∧ y = .str j ∧ i.length + j.length ≤ sizeLine ∧ Q (.str (i ++ j)) H
def gAdd (K : PySem.W.Frag) : R2 := rOr (rI0 fun i j => .int (i + j)) (rOr (rOr rCat (rCatA K)) rAddS)
theorem op_gAdd {K : PySem.W.Frag} (hK : X.K = K := by rfl) : OpR X (binaryOp .Add) (gAdd K) := by
  subst hK
  exact opOr op_add (opOr (opOr op_cat op_catA) op_add_str)
def gMul (K : PySem.W.Frag) : R2 := rOr (rOr (rI CMulW fun i j => .int (i * j)) (rI CMul fun i j => .int (i * j))) (rOr rRep (rRepT K))
theorem op_gMul {K : PySem.W.Frag} (hK : X.K = K := by rfl) : OpR X (binaryOp .Mult) (gMul K) := by
  subst hK
  exact opOr (opOr op_mulW op_mul) (opOr op_rep op_repT)
def gSub : R2 := rI0 fun i j => .int (i - j)
theorem op_gSub : OpR X (binaryOp .Sub) gSub := op_sub
def gDiv : R2 := rOr (rI CDivW fun i j => .int (i / j)) (rI CDivN fun i j => .int (i.fdiv j))
theorem op_gDiv : OpR X (binaryOp .FloorDiv) gDiv := opOr op_fdivW op_fdivN
def gMod : R2 := rOr (rI (fun _ j => 0 < j) fun i j => .int (i % j)) (rI (fun _ j => j ≠ 0) fun i j => .int (i.fmod j))
theorem op_gMod : OpR X (binaryOp .Mod) gMod := opOr op_mod op_modN
def gPow : R2 := rI CPow fun i j => .int (i ^ j.toNat)
theorem op_gPow : OpR X (binaryOp .Pow) gPow := op_pow
def gEq (K : PySem.W.Frag) : R2 := rOr rEq (rEqD K)
def gNe (K : PySem.W.Frag) : R2 := rOr rNe (rNeD K)
theorem op_gEq {K : PySem.W.Frag} (hu : X.A.units + 64 < cLine) (hK : X.K = K := by rfl) : OpR X (compareOp .Eq) (gEq K) := by
  subst hK
  exact opOr op_eq (op_eqD hu)
theorem op_gNe {K : PySem.W.Frag} (hu : X.A.units + 64 < cLine) (hK : X.K = K := by rfl) : OpR X (compareOp .NotEq) (gNe K) := by
  subst hK
  exact opOr op_ne (op_neD hu)
def gLt : R2 := rI0 fun i j => .bl (decide (i < j))
def gLe : R2 := rI0 fun i j => .bl (decide (i ≤ j))
def gGt : R2 := rI0 fun i j => .bl (decide (j < i))
def gGe : R2 := rI0 fun i j => .bl (decide (j ≤ i))
theorem op_gLe : OpR X (compareOp .LtE) gLe := op_le
theorem op_gGt : OpR X (compareOp .Gt) gGt := op_gt
theorem op_gGe : OpR X (compareOp .GtE) gGe := op_ge
def gIsN : R2 := fun x y H Q => y = .non ∧ Q (.bl (decide (x = .non))) H
def gNotN : R2 := fun x y H Q => y = .non ∧ Q (.bl (!decide (x = .non))) H
def gIn (K : PySem.W.Frag) : R2 := rOr (rIn K false) (rInD K)
def gNotIn (K : PySem.W.Frag) : R2 := rOr (rIn K true) (rNotInD K)
theorem op_gIn {K : PySem.W.Frag} (hu : X.A.units + 65 < cLine) (hK : X.K = K := by rfl) : OpR X (compareOp .In) (gIn K) := by
  subst hK
  exact opOr op_in_seq (op_inD hu)
theorem op_gNotIn {K : PySem.W.Frag} (hu : X.A.units + 65 < cLine) (hK : X.K = K := by rfl) : OpR X (compareOp .NotIn) (gNotIn K) := by
  subst hK
  exact opOr op_notIn_seq (op_notInD hu)
theorem ix_any {K : PySem.W.Frag} (hK : X.K = K := by rfl) : IxR X (rIx K) := by
  subst hK
  exact ix_seq
/-! walks -/
def iSeq (K : PySem.W.Frag) (tl : TE) : TI := fun σ H R => tl σ H fun x H1 => ∃ a, x = .ref a ∧ (((∃ xs, SqL K H1 a xs) ∧ R (Itl K a) H1) ∨ ((∃ xs, SqT K H1 a xs) ∧ R (Itt K a) H1))
theorem pi_seq {K : PySem.W.Frag} {tg l : Expr} {tl : TE} (hl : PE X l tl) (hK : X.K = K := by rfl) : PI X tg l (iSeq K tl) := by
  subst hK
  refine ⟨fun pins s σ H R I h => ?_⟩
  refine thn (hl.run pins s σ H _ I h) fun v s1 ⟨x, H1, I1, r1, q1⟩ => ?_
  obtain ⟨a, e, q1⟩ := q1
  subst e
  cases r1
  rcases q1 with ⟨⟨xs, hq⟩, q⟩ | ⟨⟨xs, hq⟩, q⟩
  · obtain ⟨its, rv, p, hz⟩ := I1.list hq
    refine wpAny_pyIter_list p.isList ?_
    refine ⟨s1.heap.objs.size, [s1.heap.objs.size], _, _, H1, rfl, I1.kept (t' := s1.toks) fun b o e => Heap.get?_push_of_some _ e, turn_list a _, ⟨_, Heap.get?_push_size _ rfl, rfl, rfl⟩, fun b hb => ?_, q⟩
    have e : b = s1.heap.objs.size := by simpa using hb
    subst e
    exact I1.fpOk (Nat.le_refl _) (I1.hok.fresh (Nat.le_refl _))
  · obtain ⟨its, rv, p, hz⟩ := I1.tuple hq
    refine wpAny_pyIter_tuple (show s1.heap.IsTuple a its.toArray from p) ?_
    refine ⟨s1.heap.objs.size, [s1.heap.objs.size], _, _, H1, rfl, I1.kept (t' := s1.toks) fun b o e => Heap.get?_push_of_some _ e, turn_tuple a _, ⟨_, Heap.get?_push_size _ rfl, rfl, rfl⟩, fun b hb => ?_, q⟩
    have e : b = s1.heap.objs.size := by simpa using hb
    subst e
    exact I1.fpOk (Nat.le_refl _) (I1.hok.fresh (Nat.le_refl _))
/-! calls by name -/
def FnAt (P : Program) (w : World) (K : PySem.W.Frag) (mg : Str → Option Value) (base : Heap) (CX : CXT) (k : Nat) (x : Str) (ps : List Str) (sp : Sp) : Prop :=
  ∃ f fd, (mg x = some (.ref f) ∧ (∃ oc od osl, K.lookup f = some ⟨oc, od, .func fd, osl⟩)) ∧ PySem.W.keepIn K (.ref f) = true ∧ (∀ (s : Shared) (us : List Value), us.length = ps.length → BindsTo s fd ⟨us, []⟩ (ps.zip us)) ∧ FnOk P w K mg base CX k f fd ps sp
theorem FnAt.imp {P : Program} {w : World} {K : PySem.W.Frag} {mg : Str → Option Value} {base : Heap} {CX : CXT} {k : Nat} {x : Str} {ps : List Str} {sp sp' : Sp} (F : FnAt P w K mg base CX k x ps sp) (h : ∀ vs H Q E, sp' vs H Q E → sp vs H Q E) : FnAt P w K mg base CX k x ps sp' :=
  let ⟨f, fd, a, b, c, d⟩ := F
  ⟨f, fd, a, b, c, d.imp h⟩
structure DefAt (K : PySem.W.Frag) (mg : Str → Option Value) (x : Str) (st : Stmt) (ps : List Str) : Prop where
  ex : ∃ f fd, Fun K x x st f fd ∧ mg x = some (.ref f) ∧ (∀ (s : Shared) (us : List Value), us.length = ps.length → BindsTo s fd ⟨us, []⟩ (ps.zip us))
theorem binds_of {K : PySem.W.Frag} {fd : FuncData} {ps : List Str} (h : ∀ (s : Shared) (us : List Value), us.length = ps.length → BindsTo s fd ⟨us, []⟩ (ps.zip us)) : Binds K fd ps [] := fun s us _ hl => by
  rw [List.append_nil] at hl ⊢
  exact h s us hl
theorem fun_look {K : PySem.W.Frag} {x qual : Str} {st : Stmt} {f : Addr} {fd : FuncData} (F : Fun K x qual st f fd) : ∃ oc od osl, K.lookup f = some ⟨oc, od, .func fd, osl⟩ := by
  obtain ⟨oc, od, kV, doc, pm, an, cdv, ct, osl, rfl, lk, _⟩ := F.ex
  exact ⟨oc, od, osl, lk⟩
theorem pe_fn {x : Str} {k : Nat} {ps : List Str} {sp : Sp} {e : Expr} {es : List Expr} {t : TA} {p pos : Pos} (F : FnAt X.prog X.w X.K X.mg X.base CX0 k x ps sp) (hr : Room k X.A) (hg : Gl X x) (ha : PA X (e :: es) t) (hdb : (x == ("__debug__" : Str)) = false := by decide)
    (he : starEach (e :: es) X.env = (false, eval e X.env) :: starEach es X.env := by rfl) (hpl : (backTo pos (starEach es X.env)).any (·.1) = false := by rfl) : PE X (.Call (.Name x p) (e :: es) [] pos) (tCall sp [] E0 t) := by
  obtain ⟨f, fd, ⟨hm, _⟩, hk, hb, F⟩ := F
  exact pe_call F hr hg hm hk (binds_of hb) .nil pass0 ha hdb he hpl
/-- the built-in names are the built-ins -/
structure Blt (mg : Str → Option Value) : Prop where
  range : mg "range" = none
  len : mg "len" = none
  abs : mg "abs" = none
  max : mg "max" = none
  min : mg "min" = none
  sum : mg "sum" = none
  any : mg "any" = none
  all : mg "all" = none
  int : mg "int" = none
  str : mg "str" = none
  tuple : mg "tuple" = none
  list : mg "list" = none
  bool : mg "bool" = none
  set : mg "set" = none
  sorted : mg "sorted" = none
  zip : mg "zip" = none
  enumerate : mg "enumerate" = none
  isinstance : mg "isinstance" = none
section
variable {e e2 : Expr} {t : TA} {p pos : Pos}
theorem pe_len {K : PySem.W.Frag} (b : X.mg "len" = none) (hg : Gl X "len") (ha : PA X [e] t) (he : starEach [e] X.env = (false, eval e X.env) :: starEach [] X.env := by rfl) (hpl : (backTo pos (starEach [] X.env)).any (·.1) = false := by rfl) (hK : X.K = K := by rfl) : PE X (.Call (.Name "len" p) [e] [] pos) (tCB (rLen K) t) := by
  subst hK
  exact pe_callB call_len hg b PySem.boot_len ha (by decide) (by decide) he hpl
theorem pe_abs (b : X.mg "abs" = none) (hg : Gl X "abs") (ha : PA X [e] t) (he : starEach [e] X.env = (false, eval e X.env) :: starEach [] X.env := by rfl) (hpl : (backTo pos (starEach [] X.env)).any (·.1) = false := by rfl) : PE X (.Call (.Name "abs" p) [e] [] pos) (tCB rAbs t) := pe_callB call_abs hg b (by decide +kernel) ha (by decide) (by decide) he hpl
theorem pe_max2 (b : X.mg "max" = none) (hc : X.calm = true) (hg : Gl X "max") (ha : PA X [e, e2] t) (he : starEach [e, e2] X.env = (false, eval e X.env) :: starEach [e2] X.env := by rfl) (hpl : (backTo pos (starEach [e2] X.env)).any (·.1) = false := by rfl) : PE X (.Call (.Name "max" p) [e, e2] [] pos) (tCB rMax2 t) := pe_callB (call_max2 hc) hg b (by decide +kernel) ha (by decide) (by decide) he hpl
theorem pe_any {K : PySem.W.Frag} (b : X.mg "any" = none) (hc : X.calm = true) (hg : Gl X "any") (ha : PA X [e] t) (he : starEach [e] X.env = (false, eval e X.env) :: starEach [] X.env := by rfl) (hpl : (backTo pos (starEach [] X.env)).any (·.1) = false := by rfl) (hK : X.K = K := by rfl) : PE X (.Call (.Name "any" p) [e] [] pos) (tCB (rAny K) t) := by
  subst hK
  exact pe_callB (cr_any hc) hg b (by decide +kernel) ha (by decide) (by decide) he hpl
theorem pe_all {K : PySem.W.Frag} (b : X.mg "all" = none) (hc : X.calm = true) (hg : Gl X "all") (ha : PA X [e] t) (he : starEach [e] X.env = (false, eval e X.env) :: starEach [] X.env := by rfl) (hpl : (backTo pos (starEach [] X.env)).any (·.1) = false := by rfl) (hK : X.K = K := by rfl) : PE X (.Call (.Name "all" p) [e] [] pos) (tCB (rAll K) t) := by
  subst hK
  exact pe_callB (cr_all hc) hg b (by decide +kernel) ha (by decide) (by decide) he hpl
theorem pe_int1 (b : X.mg "int" = none) (hg : Gl X "int") (ha : PA X [e] t) (he : starEach [e] X.env = (false, eval e X.env) :: starEach [] X.env := by rfl) (hpl : (backTo pos (starEach [] X.env)).any (·.1) = false := by rfl) : PE X (.Call (.Name "int" p) [e] [] pos) (tCB rInt1 t) := pe_callTy call_int1 hg b (by decide +kernel) ha (by decide) (by decide) he hpl
theorem pe_tupOf {K : PySem.W.Frag} (b : X.mg "tuple" = none) (hg : Gl X "tuple") (ha : PA X [e] t) (he : starEach [e] X.env = (false, eval e X.env) :: starEach [] X.env := by rfl) (hpl : (backTo pos (starEach [] X.env)).any (·.1) = false := by rfl) (hK : X.K = K := by rfl) : PE X (.Call (.Name "tuple" p) [e] [] pos) (tCB (rTupOf K) t) := by
  subst hK
  exact pe_callTy call_tuple_of hg b (by decide +kernel) ha (by decide) (by decide) he hpl
theorem pe_listOf {K : PySem.W.Frag} (b : X.mg "list" = none) (hg : Gl X "list") (ha : PA X [e] t) (he : starEach [e] X.env = (false, eval e X.env) :: starEach [] X.env := by rfl) (hpl : (backTo pos (starEach [] X.env)).any (·.1) = false := by rfl) (hK : X.K = K := by rfl) : PE X (.Call (.Name "list" p) [e] [] pos) (tCB (rListOf K) t) := by
  subst hK
  exact pe_callTy call_list_of hg b (by decide +kernel) ha (by decide) (by decide) he hpl
end
end
/-! ### their readings -/
section
variable {K : PySem.W.Frag} {e : Ent} {ρ : Rho} {M : List MO} {Q : Sl → Prop} {te ta tb : TE} {x y : Sl}
theorem er_l {r s : R2} (h : EvR K r M x y Q) : EvR K (rOr r s) M x y Q := fun α F H u v S o1 o2 k kk => .inl (h α F H u v S o1 o2 k kk)
theorem er_r {r s : R2} (h : EvR K s M x y Q) : EvR K (rOr r s) M x y Q := fun α F H u v S o1 o2 k kk => .inr (h α F H u v S o1 o2 k kk)
theorem g_add {i j : Int} (q : Q (.v (.int (i + j)))) : EvR K (gAdd K) M (.v (.int i)) (.v (.int j)) Q := er_l (er_I0 q)
theorem g_addL {ds es : List D} (h1 : RdL M x ds) (h2 : RdL M y es) (hz : ds.length + es.length ≤ 16777216) (q : Q (.v (.lst (ds ++ es)))) : EvR K (gAdd K) M x y Q := er_r (er_l (er_l (er_cat h1 h2 hz q)))
theorem g_sub {i j : Int} (q : Q (.v (.int (i - j)))) : EvR K gSub M (.v (.int i)) (.v (.int j)) Q := er_I0 q
theorem g_mul {i j : Int} (hc : CMulW i j) (q : Q (.v (.int (i * j)))) : EvR K (gMul K) M (.v (.int i)) (.v (.int j)) Q := er_l (er_l (er_I hc q))
theorem g_div {i j : Int} (hc : CDivW i j) (q : Q (.v (.int (i / j)))) : EvR K gDiv M (.v (.int i)) (.v (.int j)) Q := er_l (er_I hc q)
theorem g_mod {i j : Int} (hc : 0 < j) (q : Q (.v (.int (i % j)))) : EvR K gMod M (.v (.int i)) (.v (.int j)) Q := er_l (er_I hc q)
theorem g_pow {i j : Int} (hc : CPow i j) (q : Q (.v (.int (i ^ j.toNat)))) : EvR K gPow M (.v (.int i)) (.v (.int j)) Q := er_I hc q
theorem g_lt {i j : Int} (q : Q (.v (.bl (decide (i < j))))) : EvR K gLt M (.v (.int i)) (.v (.int j)) Q := er_I0 q
theorem g_le {i j : Int} (q : Q (.v (.bl (decide (i ≤ j))))) : EvR K gLe M (.v (.int i)) (.v (.int j)) Q := er_I0 q
theorem g_gt {i j : Int} (q : Q (.v (.bl (decide (j < i))))) : EvR K gGt M (.v (.int i)) (.v (.int j)) Q := er_I0 q
theorem g_ge {i j : Int} (q : Q (.v (.bl (decide (j ≤ i))))) : EvR K gGe M (.v (.int i)) (.v (.int j)) Q := er_I0 q
theorem dec_int' {i j : Int} : decide (V.int i = V.int j) = decide (i = j) := by simp
theorem g_eqI {i j : Int} (q : Q (.v (.bl (decide (i = j))))) : EvR K (gEq K) M (.v (.int i)) (.v (.int j)) Q := er_l (er_eq rfl (by rw [dec_int']; exact q))
theorem g_neI {i j : Int} (q : Q (.v (.bl (!decide (i = j))))) : EvR K (gNe K) M (.v (.int i)) (.v (.int j)) Q := er_l (er_ne rfl (by rw [dec_int']; exact q))
theorem g_eqV {a b : V} (h : scal a b = true) (q : Q (.v (.bl (decide (a = b))))) : EvR K (gEq K) M (.v (.raw a)) (.v (.raw b)) Q := er_l (er_eq h q)
theorem g_neV {a b : V} (h : scal a b = true) (q : Q (.v (.bl (!decide (a = b))))) : EvR K (gNe K) M (.v (.raw a)) (.v (.raw b)) Q := er_l (er_ne h q)
theorem g_eqD {a b : D} (n : Nat) (hx : a.pl n = true) (hy : b.pl n = true) (hn : n ≤ 64) (q : Q (.v (.bl (a.eqv b)))) : EvR K (gEq K) M (.v a) (.v b) Q := er_r (er_eqD n hx hy hn q)
theorem g_isN {s : Sl} (b : Bool) (h : ∀ (α : Al) (F : Hp) v, SlOk K α F s v → decide (v = .non) = b) (q : Q (.v (.bl b))) : EvR K gIsN M s (.v .non) Q := fun α F H u v S o1 o2 k kk => by
  have o2 : v = .non := o2
  subst o2
  exact ⟨rfl, by rw [h α F u o1]; exact kk _ F H _ .refl S raw_ok q⟩
theorem g_notN {s : Sl} (b : Bool) (h : ∀ (α : Al) (F : Hp) v, SlOk K α F s v → decide (v = .non) = b) (q : Q (.v (.bl (!b)))) : EvR K gNotN M s (.v .non) Q := fun α F H u v S o1 o2 k kk => by
  have o2 : v = .non := o2
  subst o2
  exact ⟨rfl, by rw [h α F u o1]; exact kk _ F H _ .refl S raw_ok q⟩
theorem g_inI {i : Int} {y : Sl} {ns : List Int} (h : RdS M y (D.ints ns)) (q : Q (.v (.bl (decide (i ∈ ns))))) : EvR K (gIn K) M (.v (.int i)) y Q := er_l (er_inI (neg := false) h q)
theorem g_notInI {i : Int} {y : Sl} {ns : List Int} (h : RdS M y (D.ints ns)) (q : Q (.v (.bl (!decide (i ∈ ns))))) : EvR K (gNotIn K) M (.v (.int i)) y Q := er_l (er_inI (neg := true) h q)
/-- is it None? -/
def D.isNon : D → Bool
  | .raw .non => true
  | _ => false
theorem isNon_ok {d : D} (α : Al) (F : Hp) (v : V) (o : SlOk K α F (.v d) v) : decide (v = .non) = d.isNon := by
  cases d with
  | raw x =>
    have o : v = x := o
    subst o
    cases v <;> simp [D.isNon]
  | tup ds => obtain ⟨a, vs, rfl, _⟩ := o; simp [D.isNon]
  | lst ds => obtain ⟨a, vs, rfl, _⟩ := o; simp [D.isNon]
  | dic ks ds => obtain ⟨a, vs, rfl, _⟩ := o; simp [D.isNon]
  | ins C ns ds => obtain ⟨a, dx, vs, rfl, _⟩ := o; simp [D.isNon]
  | rd ds => obtain ⟨a, vs, rfl, _⟩ := o; simp [D.isNon]
theorem g_isND {d : D} (q : Q (.v (.bl d.isNon))) : EvR K gIsN M (.v d) (.v .non) Q := g_isN _ isNon_ok q
theorem g_notND {d : D} (q : Q (.v (.bl (!d.isNon)))) : EvR K gNotN M (.v d) (.v .non) Q := g_notN _ isNon_ok q
theorem g_ixT {ds : List D} {i : Int} {d : D} (ha : atI ds i = some d) (q : Q (.v d)) : EvR K (rIx K) M (.v (.tup ds)) (.v (.int i)) Q := fun α F H u v S o1 o2 k kk => .inr (.inl (er_ixT ha q α F H u v S o1 o2 k kk))
theorem g_ixL {ds : List D} {i : Int} {d : D} (h : RdL M x ds) (ha : atI ds i = some d) (q : Q (.v d)) : EvR K (rIx K) M x (.v (.int i)) Q := fun α F H u v S o1 o2 k kk => .inl (er_ixL h ha q α F H u v S o1 o2 k kk)
/-- walks -/
def D.seq (b : Bool) (ds : List D) : D := if b then .tup ds else .lst ds
theorem RdS.seq {b : Bool} {ds : List D} : RdS M (.v (D.seq b ds)) ds := by
  cases b with
  | true => exact .t
  | false => exact .l .v
theorem ei_seqS {R : List D → Prop} (h : EvP K te ρ M fun s => ∃ ds, (∃ b, s = .v (D.seq b ds)) ∧ R ds) : EvI K (iSeq K te) ρ M R := fun σ α F H en S k kk =>
  h σ α F H en S _ fun v F1 H1 s m1 S1 o1 ⟨ds, ⟨b, e1⟩, q⟩ => by
    subst e1
    cases b with
    | true =>
      obtain ⟨a, vs, rfl, h1, h2⟩ := o1
      exact ⟨a, rfl, .inr ⟨⟨vs, sqt_same K S1.sub h1⟩, kk _ F1 H1 ds m1 S1 (itt_ok h1 h2) q⟩⟩
    | false =>
      obtain ⟨a, vs, rfl, h1, h2⟩ := o1
      exact ⟨a, rfl, .inl ⟨⟨vs, SqL.of (S1.sub _ _ h1)⟩, kk _ F1 H1 ds m1 S1 (itl_ok h1 h2) q⟩⟩
theorem ei_seqL {R : List D → Prop} (h : EvP K te ρ M fun s => ∃ ds, s = .v (.lst ds) ∧ R ds) : EvI K (iSeq K te) ρ M R := ei_seqS (h.mono fun s ⟨ds, e, r⟩ => ⟨ds, ⟨false, e⟩, r⟩)
theorem ei_seqT {R : List D → Prop} (h : EvP K te ρ M fun s => ∃ ds, s = .v (.tup ds) ∧ R ds) : EvI K (iSeq K te) ρ M R := ei_seqS (h.mono fun s ⟨ds, e, r⟩ => ⟨ds, ⟨true, e⟩, r⟩)
end
section
variable {P : Program} {w : World} {K : PySem.W.Frag} {mg : Str → Option Value} {base : Heap}
/-- a def that keeps a promise over plain data -/
theorem fn_at {ι : Type} {x : Str} {st : Stmt} {ps N : List Str} {k : Nat} {args : ι → List Sl} {Mi : ι → List MO} {pre : ι → Prop} {post : ι → D → List MO → Prop} (D0 : DefAt K mg x st ps) (S : FnScope N ps (defScope st)) (hl : ∀ i, (args i).length = ps.length)
    (body : ∀ (f : Addr) (cdv : Value) (A : Around) (outer : List Env) (s : Shared) (H : Hp) (E : XK), Room k (A.deeper (PyProof.Rows.envOfC x (defScope st) s.heap.objs.size f cdv)) →
      ∃ t, PSs (cxOf CX0 P w K mg base N x (defScope st) f cdv A outer s H E).nox (defBody st) t ∧
        ∀ i e, pre i → e.α.length = (Mi i).length → RunD K e t (startR N.length (args i)) (Mi i) (fun _ M' => post i .non (M'.take (Mi i).length)) (RetOk (Mi i).length (post i)) (fun _ _ => False) (fun _ _ => False)) :
    FnAt P w K mg base CX0 (k + 1) x ps (SpF K args Mi pre post) := by
  obtain ⟨f, fd, F, hm, hb⟩ := D0.ex
  refine ⟨f, fd, ⟨hm, fun_look F⟩, F.kp, hb, F.ok S (fun vs H Q E h => ?_) fun cdv A outer s H vs Q E hr h => ?_⟩
  · obtain ⟨i, α, F', o, _⟩ := h
    rw [← o.length, hl]
  · obtain ⟨t, ht, hi⟩ := body f cdv A outer s H E hr
    exact ⟨t, ht, fn_run hi vs H Q E h⟩
end
end DL

/-! DL6: the readings once more, each with one question. -/
namespace DL
open PySem L2
section
variable {K : PySem.W.Frag} {e : Ent} {ρ : Rho} {M : List MO} {Q : Sl → Prop} {te ta tb : TE} {x y : Sl} {nx bk ct : Rho → List MO → Prop} {rt : Sl → List MO → Prop}
theorem x_var {i : Nat} (h : ∃ s, ρ[i]? = some (some s) ∧ Q s) : EvP K (tVar i) ρ M Q := let ⟨_, a, b⟩ := h; ev_var a b
theorem x_mul {i j : Int} (h : CMulW i j ∧ Q (.v (.int (i * j)))) : EvR K (gMul K) M (.v (.int i)) (.v (.int j)) Q := g_mul h.1 h.2
theorem x_div {i j : Int} (h : CDivW i j ∧ Q (.v (.int (i / j)))) : EvR K gDiv M (.v (.int i)) (.v (.int j)) Q := g_div h.1 h.2
theorem x_mod {i j : Int} (h : 0 < j ∧ Q (.v (.int (i % j)))) : EvR K gMod M (.v (.int i)) (.v (.int j)) Q := g_mod h.1 h.2
theorem x_pow {i j : Int} (h : CPow i j ∧ Q (.v (.int (i ^ j.toNat)))) : EvR K gPow M (.v (.int i)) (.v (.int j)) Q := g_pow h.1 h.2
theorem x_ixT {ds : List D} {i : Int} (h : ∃ d, atI ds i = some d ∧ Q (.v d)) : EvR K (rIx K) M (.v (.tup ds)) (.v (.int i)) Q := let ⟨_, a, b⟩ := h; g_ixT a b
theorem x_ixL {ds : List D} {i : Int} (h : ∃ d, atI ds i = some d ∧ Q (.v d)) : EvR K (rIx K) M (.v (.lst ds)) (.v (.int i)) Q := let ⟨_, a, b⟩ := h; g_ixL .v a b
theorem x_ixM {k : Nat} {i : Int} (h : ∃ ds, M[k]? = some (.lst ds) ∧ ∃ d, atI ds i = some d ∧ Q (.v d)) : EvR K (rIx K) M (.l k) (.v (.int i)) Q := let ⟨_, z, _, a, b⟩ := h; g_ixL (.l z) a b
theorem x_lenL {ds : List D} (q : Q (.v (.int (ds.length : Int)))) : EvC K (rLen K) M [.v (.lst ds)] Q := ec_len (.l .v) q
theorem x_lenT {ds : List D} (q : Q (.v (.int (ds.length : Int)))) : EvC K (rLen K) M [.v (.tup ds)] Q := ec_len .t q
theorem x_lenS {b : Bool} {ds : List D} (q : Q (.v (.int (ds.length : Int)))) : EvC K (rLen K) M [.v (D.seq b ds)] Q := ec_len .seq q
theorem x_lenM {k : Nat} (h : ∃ ds, M[k]? = some (.lst ds) ∧ Q (.v (.int (ds.length : Int)))) : EvC K (rLen K) M [.l k] Q := let ⟨_, z, b⟩ := h; ec_len (.l (.l z)) b
theorem x_tupL {ds : List D} (q : Q (.v (.tup ds))) : EvC K (rTupOf K) M [.v (.lst ds)] Q := ec_tupOf (.l .v) q
theorem x_tupM {k : Nat} (h : ∃ ds, M[k]? = some (.lst ds) ∧ Q (.v (.tup ds))) : EvC K (rTupOf K) M [.l k] Q := let ⟨_, z, b⟩ := h; ec_tupOf (.l (.l z)) b
theorem x_app {i : Nat} (h : ∃ k ds, ρ[i]? = some (some (.l k)) ∧ M[k]? = some (.lst ds) ∧ EvP K te ρ M fun s => ∃ d, s = .v d ∧ ds.length < 16777216 ∧ nx ρ (M.set k (.lst (ds ++ [d])))) :
    RunD K e (tDrop (tBM K "list" rAppend (tVar i) (tCons te tNil))) ρ M nx rt bk ct := let ⟨_, _, a, b, c⟩ := h; r_app a b c
theorem units65 {k : Nat} {A : Around} (r : Room k A) : A.units + 65 < cLine := by have := r.un; omega
theorem r_via {t : TS} (I : Rho → List MO → Prop) (h1 : RunD K e t ρ M I rt bk ct) (h2 : ∀ ρ' M', I ρ' M' → nx ρ' M') : RunD K e t ρ M nx rt bk ct := h1.mono h2 (fun _ _ h => h) (fun _ _ h => h) (fun _ _ h => h)
theorem ite_dec {c A B : Prop} [Decidable c] (h1 : c → A) (h2 : ¬ c → B) : if decide c = true then A else B := by
  by_cases h : c
  · rw [if_pos (decide_eq_true h)]; exact h1 h
  · rw [if_neg (by simpa using h)]; exact h2 h
theorem ite_ndec {c A B : Prop} [Decidable c] (h1 : ¬ c → A) (h2 : c → B) : if (!decide c) = true then A else B := by
  by_cases h : c
  · rw [if_neg (by simpa using h)]; exact h2 h
  · rw [if_pos (by simpa using h)]; exact h1 h
theorem ite_b {b : Bool} {A B : Prop} (h1 : b = true → A) (h2 : b = false → B) : if b = true then A else B := by
  cases b with
  | true => rw [if_pos rfl]; exact h1 rfl
  | false => rw [if_neg (by simp)]; exact h2 rfl
theorem le_lit {n m : Nat} (h : Nat.ble n m = true) : n ≤ m := Nat.le_of_ble_eq_true h
theorem mulW {i j : Int} {a b : Nat} (ha : i.natAbs < 2 ^ a) (hb : j.natAbs < 2 ^ b) (h : a + b ≤ 999990) : CMulW i j :=
  wide_mul (a := a + 1) (b := b + 1) (Nat.lt_of_lt_of_le ha (Nat.pow_le_pow_right (by decide) (by omega))) (Nat.lt_of_lt_of_le hb (Nat.pow_le_pow_right (by decide) (by omega))) (by omega) (by omega) (by omega)
theorem divW {i j : Int} {b : Nat} (h : 0 < j) (hb : j.natAbs < 2 ^ b) (h9 : b ≤ 8990) : CDivW i j := wide_div (b := b + 1) h (Nat.lt_of_lt_of_le hb (Nat.pow_le_pow_right (by decide) (by omega))) (by omega) (by omega)
theorem mul_lt {i j : Int} {a b : Nat} (ha : i.natAbs < 2 ^ a) (hb : j.natAbs < 2 ^ b) : (i * j).natAbs < 2 ^ (a + b) := wide_lt ha hb
theorem bit_le {i : Int} {a b : Nat} (ha : i.natAbs < 2 ^ a) (h : a ≤ b) : i.natAbs < 2 ^ b := Nat.lt_of_lt_of_le ha (Nat.pow_le_pow_right (by decide) h)
theorem ret_v {n : Nat} {post : D → List MO → Prop} {d : D} {M' : List MO} (h : post d (M'.take n)) : RetOk n post (.v d) M' := .inl ⟨d, rfl, h⟩
end
/-- a whole number of the module's top -/
structure CInt (mg : Str → Option Value) (x : Str) (i : Int) : Prop where
  ex : ∃ t, mg x = some (.int i t)
theorem CInt.pe {X : Cx} {x : Str} {i : Int} {pos : Pos} (c : CInt X.mg x i) (hg : Gl X x) (hd : (x == ("__debug__" : Str)) = false := by decide) : PE X (.Name x pos) (tC (.int i)) := by
  obtain ⟨t, h⟩ := c.ex
  exact pe_glob hg h ⟨t, rfl⟩ hd
end DL

/-! DL7: the source of draws; new things of a call. -/
namespace DL
open PySem L2
section
variable {K : PySem.W.Frag} {e : Ent} {ρ : Rho} {M : List MO} {Q : Sl → Prop} {te ta tb : TE} {x y : Sl} {nx bk ct : Rho → List MO → Prop} {rt : Sl → List MO → Prop}
theorem Sta.add {α : Al} {F H H' : Hp} (S : Sta K α M F H) {p : Addr × Addr} {m' : MO} (s : Same H H') (h1 : H p.1 = none) (h2 : H p.2 = none) (k1 : H' p.1 ≠ none) (k2 : H' p.2 ≠ none) (hm : MObj K F H' m' p) : Sta K (α ++ [p]) (M ++ [m']) F H' := by
  have t2 : ∀ b, H b ≠ none → H' b ≠ none := fun b h => by
    cases z : H b with
    | none => exact absurd z h
    | some o => rw [s b o z]; simp
  refine ⟨S.sub.trans s, by simp [S.len], fun i m q h1 h2 => ?_, fun i j q r hij g1 g2 => ?_, fun q hq => ?_⟩
  · by_cases hi : i < α.length
    · rw [List.getElem?_append_left (by rw [S.len]; exact hi)] at h1
      rw [List.getElem?_append_left hi] at h2
      exact (S.ob i m q h1 h2).keep (.refl F) (fun z => z) (fun z => z) (fun o z => s _ o z) (fun o z => s _ o z)
    · have hi2 : i = α.length := by
        have := (List.getElem?_eq_some_iff.mp h2).1
        simp at this; omega
      subst hi2
      rw [← S.len, List.getElem?_append_right (Nat.le_refl _)] at h1
      rw [List.getElem?_append_right (Nat.le_refl _)] at h2
      simp at h1 h2
      subst h1; subst h2
      exact hm
  · have hj : j < α.length ∨ j = α.length := by
      have := (List.getElem?_eq_some_iff.mp g2).1
      simp at this; omega
    have hi : i < α.length := by omega
    rw [List.getElem?_append_left hi] at g1
    rcases hj with hj | hj
    · rw [List.getElem?_append_left hj] at g2
      exact S.ap i j q r hij g1 g2
    · subst hj
      rw [List.getElem?_append_right (Nat.le_refl _)] at g2
      simp at g2
      subst g2
      have hq := S.tr q (List.mem_of_getElem? g1)
      exact ⟨fun z => hq.1 (by rw [z]; exact h1), fun z => hq.1 (by rw [z]; exact h2), fun z => hq.2 (by rw [z]; exact h1), fun z => hq.2 (by rw [z]; exact h2)⟩
  · rcases List.mem_append.mp hq with z | z
    · exact ⟨t2 _ (S.tr q z).1, t2 _ (S.tr q z).2⟩
    · simp at z; subst z
      exact ⟨k1, k2⟩
theorem StepE.add {α : Al} {F H H' : Hp} (st : StepE e α F H) {p : Addr × Addr} (s : Same H H') (h1 : H p.1 = none) (h2 : H p.2 = none) : StepE e (α ++ [p]) F H' where
  ex := st.ex
  fr := fun b u h k => s b u (st.fr b u h k)
  tr := fun b h => by
    have := st.tr b h
    cases z : H b with
    | none => exact absurd z this
    | some o => rw [s b o z]; simp
  new := st.new
  pre := by
    obtain ⟨β, e1, hβ⟩ := st.pre
    refine ⟨β ++ [p], by rw [e1, List.append_assoc], fun q hq => ?_⟩
    rcases List.mem_append.mp hq with z | z
    · exact hβ q z
    · simp at z; subst z
      exact ⟨none_back (st.tr _) h1, none_back (st.tr _) h2⟩
/-- the making of a source of draws -/
def spMix (K : PySem.W.Frag) : Sp := fun vs H Q _ => ∃ (a : Addr) (cells : List Int) (seed : Int), vs = [.ref a, .int seed] ∧ SqL K H a (cells.map V.int) ∧ cells.length ≤ 63 ∧ 0 ≤ seed ∧ seed < 2147483647 ∧
  ∀ p H', H p.1 = none → H p.2 = none → Same H H' → Rng H' p → Q (.ref p.1) H'
theorem r_mix {i : Nat} {t : TA} {X : XK} (h : EvA K t ρ M fun ss => ∃ (cells : List Int) (seed : Int), ss = [.v (.rd (D.ints cells)), .v (.int seed)] ∧ cells.length ≤ 63 ∧ 0 ≤ seed ∧ seed < 2147483647 ∧ nx (ρ.set i (some (.l M.length))) (M ++ [.rng])) :
    RunD K e (tAsg (tCall (spMix K) [] X t) (gName i)) ρ M nx rt bk ct := fun Y σ α F H g ok =>
  h σ α F H g.env g.sta _ fun vs F1 H1 ss m1 S1 o1 ⟨cells, seed, e1, h63, s0, s1, q1⟩ => by
    subst e1
    obtain ⟨v, r, rfl, o1, o2⟩ := o1
    obtain ⟨w, r', rfl, o3, o4⟩ := o2
    have o4 : r' = [] := o4
    have o3 : w = .int seed := o3
    subst o3; subst o4
    obtain ⟨a, us, rfl, hs, hd⟩ := o1
    have e2 := hd.ofInts
    subst e2
    refine ⟨a, cells, seed, rfl, S1.sub.seq hs, h63, s0, s1, fun p H' n1 n2 s2 R => ?_⟩
    have k1 : H' p.1 ≠ none := by
      obtain ⟨_, _, _, _, z, _⟩ := R
      rw [z]; simp
    have k2 : H' p.2 ≠ none := by
      obtain ⟨_, _, _, _, _, z, _⟩ := R
      rw [z]; simp
    have S2 := S1.add (m' := .rng) s2 n1 n2 k1 k2 ⟨S1.sub.free n1, S1.sub.free n2, R⟩
    exact ok.nx _ _ F1 _ _ _ ⟨((g.env.mono m1.ex).more).set i (loc_ok (p := p) (by rw [S1.len, List.getElem?_append_right (Nat.le_refl _)]; simp)), S2, (g.st.move m1).add s2 n1 n2⟩ m1.ex q1
end
section
variable {P : Program} {w : World} {K : PySem.W.Frag} {mg : Str → Option Value} {base : Heap}
theorem fn_atR {x : Str} {st : Stmt} {ps N : List Str} {k : Nat} {sp : Sp} (D0 : DefAt K mg x st ps) (S : FnScope N ps (defScope st)) (hl : ∀ vs H Q E, sp vs H Q E → vs.length = ps.length)
    (body : ∀ (f : Addr) (cdv : Value) (A : Around) (outer : List Env) (s : Shared) (H : Hp) (E : XK), Room k (A.deeper (PyProof.Rows.envOfC x (defScope st) s.heap.objs.size f cdv)) →
      ∃ t, PSs (cxOf CX0 P w K mg base N x (defScope st) f cdv A outer s H E).nox (defBody st) t ∧ ∀ vs Q E', sp vs H Q E' → t { nx := fun _ H' => Q .non H', rt := Q } (L2.start N vs) H) :
    FnAt P w K mg base CX0 (k + 1) x ps sp := by
  obtain ⟨f, fd, F, hm, hb⟩ := D0.ex
  refine ⟨f, fd, ⟨hm, fun_look F⟩, F.kp, hb, F.ok S hl fun cdv A outer s H vs Q E hr h => ?_⟩
  obtain ⟨t, ht, hi⟩ := body f cdv A outer s H E hr
  exact ⟨t, ht, hi vs Q E h⟩
/-- a def that is never called so -/
theorem fn_never {ι : Type} {x : Str} {st : Stmt} {ps : List Str} {k : Nat} {args : ι → List D} {pre : ι → Prop} {post : ι → D → Prop} (D0 : DefAt K mg x st ps) (h : ∀ i, ¬ pre i) : FnAt P w K mg base CX0 k x ps (SpP K args pre post) := by
  obtain ⟨f, fd, F, hm, hb⟩ := D0.ex
  exact ⟨f, fd, ⟨hm, fun_look F⟩, F.kp, hb, fun vs H Q E z => (h _ z.choose_spec.choose_spec.choose_spec.2.2.1).elim, fun A outer s H args us vs Q E _ _ _ _ z => (h _ z.choose_spec.choose_spec.choose_spec.2.2.1).elim⟩
theorem def_mk {x : Str} {st : Stmt} {ps : List Str} {h : Heap} {f : Addr} {oc : Value} {od an : Option Addr} {osl : Array (Option Value)} {kV doc pm cdv ct : Value} (X : K.In h) (G : h.Ns mainGlobals mg)
    (a : PySem.W.nsIn K mainGlobals x = some (some (.ref f))) (l : K.lookup f = some ⟨oc, od, .func (PySem.W.fnOf x x (defArgs st) (defBody st) (defScope st) .none kV doc pm an cdv ct), osl⟩)
    (c : PySem.W.codeIn K cdv x = true) (k : PySem.W.keepIn K (.ref f) = true)
    (b : ∀ (kV doc pm : Value) (an : Option Addr) (cdv ct : Value) (us : List Value), us.length = ps.length → bindArgs (PySem.W.fnOf x x (defArgs st) (defBody st) (defScope st) .none kV doc pm an cdv ct) ⟨us, []⟩ = pure (ps.zip us)) : DefAt K mg x st ps :=
  ⟨f, _, fun_mk l c k, PySem.W.mg_of X G a, fun _ us hl => .of_eq (b _ _ _ _ _ _ us hl)⟩
/-- the law's def, for the end of a row -/
theorem law_end {x y : Str} {k : Nat} {sp : Sp} {fa : Addr} (h : ∀ base : Heap, K.In base → base.Ns mainGlobals mg → FnAt P w K mg base CX0 k x [y] sp) {g : Heap} (X : K.In g) (G : g.Ns mainGlobals mg) (hm : mg x = some (.ref fa)) :
    ∃ fd : FuncData, (∀ (s : Shared) (u : Value), BindsTo s fd ⟨[u], []⟩ [(y, u)]) ∧ ∀ base : Heap, K.In base → base.Ns mainGlobals mg → FnOk P w K mg base CX0 k fa fd [y] sp := by
  obtain ⟨f, fd, ⟨hf, oc, od, osl, lk⟩, _, hb, _⟩ := h g X G
  rw [hm] at hf
  cases hf
  refine ⟨fd, fun s u => hb s [u] rfl, fun base X' G' => ?_⟩
  obtain ⟨f', fd', ⟨hf', oc', od', osl', lk'⟩, _, _, F⟩ := h base X' G'
  rw [hm] at hf'
  cases hf'
  rw [lk] at lk'
  cases lk'
  exact F
end
end DL

/-! DL8: kinds of things; classes. -/
namespace DL
open PySem L2
section
variable {K : PySem.W.Frag} {e : Ent} {ρ : Rho} {M : List MO} {Q : Sl → Prop} {te ta tb : TE} {x y : Sl} {nx bk ct : Rho → List MO → Prop} {rt : Sl → List MO → Prop}
/-- a class of the text whose instances are told apart by isinstance -/
structure ClsI (K : PySem.W.Frag) (C : Addr) : Prop where
  cl : Cls K C
  ha : PySem.W.findIn K (.ref C) "__class__" = some (some (.builtin "object.__class__"))
  hn : PySem.W.specialIn K (.builtin "object.__class__") "__get__" = some (some (.builtin "getset_descriptor.__get__"))
  htk : PySem.W.takesIn K (.builtin "object.__class__") = some true
  hm : PySem.W.mroIn K C (.type "object") = some true
/-- the kind of a thing -/
inductive Kind (K : PySem.W.Frag) : D → Value → Prop
  | non : Kind K .non (.type "NoneType")
  | bl (b : Bool) : Kind K (.bl b) (.type "bool")
  | int (i : Int) : Kind K (.int i) (.type "int")
  | str (s : Str) : Kind K (.str s) (.type "str")
  | tup (ds : List D) : Kind K (.tup ds) (.type "tuple")
  | lst (ds : List D) : Kind K (.lst ds) (.type "list")
  | dic (ks : List Key) (ds : List D) : Kind K (.dic ks ds) (.type "dict")
  | ins (C : Addr) (ns : List Str) (ds : List D) (c : ClsI K C) : Kind K (.ins C ns ds) (.ref C)
theorem Kind.ty {α : Al} {F H : Hp} {d : D} {t : Value} {v : V} (k : Kind K d t) (S : Sta K α M F H) (o : SlOk K α F (.v d) v) : TyX K H v t := by
  cases k with
  | non =>
    have o : v = .non := o
    subst o; exact .base .non
  | bl b =>
    have o : v = .bl b := o
    subst o; exact .base (.bl b)
  | int b =>
    have o : v = .int b := o
    subst o; exact .base (.int b)
  | str b =>
    have o : v = .str b := o
    subst o; exact .base (.str b)
  | tup ds =>
    obtain ⟨a, vs, rfl, h1, _⟩ := o
    rcases sqt_same K S.sub h1 with (h | ⟨ob, h⟩) | ⟨ob, its, n, h, c, _⟩
    · exact .base (.tup h)
    · exact .fTuple h
    · exact .kTuple h c
  | lst ds =>
    obtain ⟨a, vs, rfl, h1, _⟩ := o
    exact .base (.lst (S.sub _ _ h1))
  | dic ks ds =>
    obtain ⟨a, vs, rfl, h1, _⟩ := o
    exact .base (.dK (S.sub _ _ h1))
  | ins C ns ds c =>
    obtain ⟨a, dx, vs, rfl, h1, _⟩ := o
    exact .base (.ins (S.sub _ _ h1) c.cl c.ha c.hn c.htk c.hm)
theorem sls2s {α : Al} {F : Hp} {s s' : Sl} {us : List V} (o : SlsOk K α F [s, s'] us) : ∃ u u', us = [u, u'] ∧ SlOk K α F s u ∧ SlOk K α F s' u' := by
  obtain ⟨v, r, rfl, o1, o2⟩ := o
  obtain ⟨u, rfl, o3⟩ := sls1s o2
  exact ⟨v, u, rfl, o1, o3⟩
theorem ec_isi {d : D} {t : Value} {T : String} {b : Bool} (k : Kind K d t) (h : PySem.W.kitOne K t (.type T) = some b) (q : Q (.v (.bl b))) : EvC K (rIsi K) M [.v d, .v (.raw (.ty T))] Q := fun α F H us S o kk0 kk => by
  obtain ⟨u, u', rfl, o1, o2⟩ := sls2s o
  have o2 : u' = .ty T := o2
  subst o2
  exact ⟨u, _, t, _, b, rfl, .ty T, k.ty S o1, h, kk _ F H _ .refl S raw_ok q⟩
/-- a method of the class: its def, plain -/
structure MethAt (K : PySem.W.Frag) (C : Addr) (x qual : Str) (st : Stmt) (ps : List Str) : Prop where
  ex : ∃ f fd, Fun K x qual st f fd ∧ PySem.W.findIn K (.ref C) x = some (some (.ref f)) ∧ PySem.W.isFn K (.ref f) = true ∧ Binds K fd ps []
structure PropAt (K : PySem.W.Frag) (C : Addr) (x f qual : Str) (st : Stmt) : Prop where
  ex : ∃ p g fd, PropOf K C x p g ∧ Fun K x qual st g fd ∧ Binds K fd ["self"] []
end
section
variable {X : Cx} {e : Expr} {es : List Expr} {t : TA} {p pos : Pos} {ta : TE}
theorem pe_isi {K : PySem.W.Frag} {e2 : Expr} (b : X.mg "isinstance" = none) (hg : Gl X "isinstance") (ha : PA X [e, e2] t) (he : starEach [e, e2] X.env = (false, eval e X.env) :: starEach [e2] X.env := by rfl) (hpl : (backTo pos (starEach [e2] X.env)).any (·.1) = false := by rfl) (hK : X.K = K := by rfl) : PE X (.Call (.Name "isinstance" p) [e, e2] [] pos) (tCB (rIsi K) t) := by
  subst hK
  exact pe_callB call_isi hg b PyProof.Rows.boot_isinstance ha (by decide) (by decide) he hpl
theorem pe_at {K : PySem.W.Frag} {f : Str} (he : PE X e ta) (hb : attributeBase e f X.env (eval e X.env) = eval e X.env := by rfl) (hK : X.K = K := by rfl) : PE X (.Attribute e f pos) (tFld K ta f) := by
  subst hK
  exact pe_fld he hb
/-- a property whose getter hands back the attribute of that name -/
structure Getter (K : PySem.W.Frag) (C : Addr) (x f : Str) : Prop where
  ok : ∀ (P : Program) (w : World) (mg : Str → Option Value) (base : Heap), ∃ p g fd, PropOf K C x p g ∧ FnOk P w K mg base CX0 1 g fd ["self"] (getSp C f) ∧ Binds K fd ["self"] []
end
section
variable {K : PySem.W.Frag} {C : Addr} {x f : Str}
/-- the getter: def x(self): return self.f -/
theorem getter_mk {p g : Addr} {fd : FuncData} {qual : Str} {st : Stmt} {p1 p2 p3 : Pos} (hp : PropOf K C x p g) (F : Fun K x qual st g fd) (S : FnScope ["self"] ["self"] (defScope st)) (hb : defBody st = [.Return (some (.Attribute (.Name "self" p1) f p2)) p3]) (bd : Binds K fd ["self"] []) (c : Cls K C) (n : NoAttr K C f) : Getter K C x f := by
  refine ⟨fun P w mg base => ⟨p, g, fd, hp, F.ok S (fun vs H Q E h => ?_) (fun cdv A outer s H vs Q E hr h => ?_), bd⟩⟩
  · obtain ⟨a, dx, fs, v, e, _⟩ := h
    rw [e]; rfl
  · obtain ⟨a, dx, fs, v, e, ea, l, q⟩ := h
    subst e
    rw [hb]
    refine ⟨_, pss_one (ps_ret (pe_fld (pe_var (i := 0) rfl ((S.par "self" (List.Mem.head _)).elim (fun z => .inl z) (fun z => .inr (.inl z)))) rfl)), ?_⟩
    exact ⟨.ref a, rfl, a, C, dx, fs, v, rfl, ea, c, n, l, q⟩
theorem meth_mk {qual : Str} {st : Stmt} {ps : List Str} {f : Addr} {oc : Value} {od an : Option Addr} {osl : Array (Option Value)} {kV doc pm cdv ct : Value}
    (a : PySem.W.findIn K (.ref C) x = some (some (.ref f))) (i : PySem.W.isFn K (.ref f) = true) (l : K.lookup f = some ⟨oc, od, .func (PySem.W.fnOf x qual (defArgs st) (defBody st) (defScope st) .none kV doc pm an cdv ct), osl⟩)
    (c : PySem.W.codeIn K cdv qual = true) (k : PySem.W.keepIn K (.ref f) = true)
    (b : ∀ (kV doc pm : Value) (an : Option Addr) (cdv ct : Value) (us : List Value), us.length = ps.length → bindArgs (PySem.W.fnOf x qual (defArgs st) (defBody st) (defScope st) .none kV doc pm an cdv ct) ⟨us, []⟩ = pure (ps.zip us)) : MethAt K C x qual st ps :=
  ⟨f, _, fun_mk l c k, a, i, (fun_mk (st := st) l c k).binds b⟩
theorem prop_mk {qual : Str} {st : Stmt} {p g : Addr} {rest : List Value} {oc : Value} {od an : Option Addr} {osl : Array (Option Value)} {kV doc pm cdv ct : Value} {p1 p2 p3 : Pos}
    (h1 : PySem.W.findIn K (.ref C) x = some (some (.ref p))) (h2 : PySem.W.specialIn K (.ref p) "__get__" = some (some (.builtin "property.__get__"))) (h3 : PySem.W.takesIn K (.ref p) = some true) (h4 : PySem.W.recIn K p "property" = some (.ref g :: rest))
    (l : K.lookup g = some ⟨oc, od, .func (PySem.W.fnOf x qual (defArgs st) (defBody st) (defScope st) .none kV doc pm an cdv ct), osl⟩) (c : PySem.W.codeIn K cdv qual = true) (k : PySem.W.keepIn K (.ref g) = true)
    (S : FnScope ["self"] ["self"] (defScope st)) (hb : defBody st = [.Return (some (.Attribute (.Name "self" p1) f p2)) p3])
    (b : ∀ (kV doc pm : Value) (an : Option Addr) (cdv ct : Value) (us : List Value), us.length = 1 → bindArgs (PySem.W.fnOf x qual (defArgs st) (defBody st) (defScope st) .none kV doc pm an cdv ct) ⟨us, []⟩ = pure ([("self" : Str)].zip us)) (cl : Cls K C) (n : NoAttr K C f) : Getter K C x f :=
  getter_mk ⟨h1, h2, h3, ⟨rest, h4⟩⟩ (fun_mk l c k) S hb ((fun_mk (st := st) l c k).binds b) cl n
end
/-! ### the making of an object -/
section
variable {P : Program} {w : World} {K : PySem.W.Frag} {mg : Str → Option Value} {base : Heap}
/-- a class whose __init__ takes plain data and leaves an object of plain data -/
def SpI {ι : Type} (K : PySem.W.Frag) (C : Addr) (args : ι → List D) (pre : ι → Prop) (ns : List Str) (post : ι → List D → Prop) : Sp := fun vs H Q _ =>
  ∃ (x : ι) (a dx : Addr) (F : Hp) (us : List V), vs = .ref a :: us ∧ Dens K F (args x) us ∧ Same F H ∧ F a = none ∧ F dx = none ∧ a ≠ dx ∧ H a = some (.ins C dx []) ∧ pre x ∧
    ∀ F' H' ds, Same F F' → Same F' H' → (∀ b o, H b = some o → b ≠ a → H' b = some o) → (∀ b, F' b ≠ none → F b ≠ none ∨ H b = none ∨ b = a) → Den K F' (.ins C ns ds) (.ref a) → post x ds → Q .non H'
structure MkAt (P : Program) (w : World) (K : PySem.W.Frag) (mg : Str → Option Value) (base : Heap) (k : Nat) (x : Str) (C : Addr) (ps : List Str) (sp : Sp) : Prop where
  ex : ∃ f fd, mg x = some (.ref C) ∧ Mk K C f ∧ Binds K fd ps [] ∧ FnOk P w K mg base CX0 k f fd ps sp
theorem pe_new {X : Cx} {x : Str} {C : Addr} {k : Nat} {ps : List Str} {sp : Sp} {e : Expr} {es : List Expr} {t : TA} {p pos : Pos} (F : MkAt X.prog X.w X.K X.mg X.base k x C ps sp) (hr : Room (k + 1) X.A) (hg : Gl X x) (ha : PA X (e :: es) t) (hdb : (x == ("__debug__" : Str)) = false := by decide)
    (he : starEach (e :: es) X.env = (false, eval e X.env) :: starEach es X.env := by rfl) (hpl : (backTo pos (starEach es X.env)).any (·.1) = false := by rfl) : PE X (.Call (.Name x p) (e :: es) [] pos) (tMake C sp [] E0 t) := by
  obtain ⟨f, fd, hm, hM, hb, F⟩ := F.ex
  exact pe_make hM F hr hg hm hb .nil pass0 ha hdb he hpl
theorem ec_new {ι : Type} {C : Addr} {args : ι → List D} {pre : ι → Prop} {ns : List Str} {post : ι → List D → Prop} {ta : TA} {X : XK} {ρ : Rho} {M : List MO} {Q : Sl → Prop} (h : EvA K ta ρ M fun ss => ∃ x, ss = (args x).map Sl.v ∧ pre x ∧ ∀ ds, post x ds → Q (.v (.ins C ns ds))) : EvP K (tMake C (SpI K C args pre ns post) [] X ta) ρ M Q := fun σ α F H en S k kk =>
  h σ α F H en S _ fun vs F1 H1 ss m1 S1 o1 ⟨x, e1, hp, q⟩ => by
    subst e1
    intro a dx ha hdx hne
    have hd := o1.dens
    have n1 := S1.notin ha
    have n2 := S1.notin hdx
    have s1 : Same H1 (upd (upd H1 dx (.own a)) a (.ins C dx [])) := fun b o z => by
      rw [upd_ne (ne_of_none z ha), upd_ne (ne_of_none z hdx)]; exact z
    refine ⟨x, a, dx, F1, vs, by rw [List.append_nil], hd, S1.sub.trans s1, S1.sub.free ha, S1.sub.free hdx, Ne.symm hne, upd_same, hp, fun F' H' ds f1 f2 fr nw hden hpost => ⟨rfl, ?_⟩⟩
    have fr1 : ∀ b o, H1 b = some o → H' b = some o := fun b o z => fr b o (s1 b o z) (ne_of_none z ha)
    have mv : Move [] F1 H1 F' H' := ⟨f1, fun b o z _ => fr1 b o z, fun b z => by
      cases y : H1 b with
      | none => exact absurd y z
      | some o => rw [fr1 b o y]; simp, fun b z => by
      rcases nw b z with y | y | y
      · exact .inl y
      · refine .inr ?_
        cases w : H1 b with
        | none => rfl
        | some o => rw [s1 b o w] at y; cases y
      · subst y; exact .inr ha⟩
    exact kk _ F' H' _ (m1.trans (mv.widen fun _ h => by simp at h)) (S1.keep0 mv f2) (den_ok hden) (q ds hpost)
/-- from the body of __init__: self is the 0-th thing -/
theorem init_run {ι : Type} {C : Addr} {args : ι → List D} {pre : ι → Prop} {ns : List Str} {post : ι → List D → Prop} {N : List Str} {t : TS}
    (h : ∀ x e, pre x → e.α.length = 1 → RunD K e t (startR N.length (.l 0 :: (args x).map Sl.v)) [.ins C [] []] (fun _ M' => ∃ ds, M'[0]? = some (.ins C ns ds) ∧ post x ds) (fun s M' => s = .v .non ∧ ∃ ds, M'[0]? = some (.ins C ns ds) ∧ post x ds) (fun _ _ => False) (fun _ _ => False)) :
    ∀ vs H Q E, SpI K C args pre ns post vs H Q E → t { nx := fun _ H' => Q .non H', rt := Q } (L2.start N vs) H := by
  rintro vs H Q E ⟨x, a, dx, F, us, rfl, hd, sub, ha, hdx, hne, hH, hp, k⟩
  have S : Sta K [(a, a)] [.ins C [] []] F H := by
    refine ⟨sub, rfl, fun i m p h1 h2 => ?_, fun i j p q hij h1 h2 => ?_, fun p hq => ?_⟩
    · cases i with
      | zero =>
        simp at h1 h2
        subst h1; subst h2
        exact ⟨ha, dx, [], hH, rfl, rfl⟩
      | succ i => simp at h1
    · cases j with
      | zero => omega
      | succ j => simp at h2
    · simp at hq; subst hq
      rw [hH]; simp
  have fin : ∀ {α' : Al} {F' H' : Hp} {M' : List MO}, Sta K α' M' F' H' → StepE ⟨[(a, a)], F, H⟩ α' F' H' → (∃ ds, M'[0]? = some (.ins C ns ds) ∧ post x ds) → Q .non H' := fun {α' F' H' M'} S' st ⟨ds, hM, hpost⟩ => by
    obtain ⟨β, e1, _⟩ := st.pre
    have e1 : α' = [(a, a)] ++ β := e1
    have h0 : α'[0]? = some (a, a) := by rw [e1]; rfl
    obtain ⟨hFa, dx', vs', hH', hl, hden⟩ := S'.ob 0 _ _ hM h0
    have hFa : F' a = none := hFa
    have hH' : H' a = some (.ins C dx' (ns.zip vs')) := hH'
    have s5 : Same F' (upd F' a (.ins C dx' (ns.zip vs'))) := fun b u h => by rw [upd_ne (ne_of_none h hFa)]; exact h
    refine k (upd F' a (.ins C dx' (ns.zip vs'))) H' ds (st.ex.trans s5) (fun b o z => ?_) (fun b o z hb => st.fr b o z fun p hp => ?_) (fun b z => ?_) ⟨a, dx', vs', rfl, upd_same, hl, Dens.mono K s5 _ _ hden⟩ hpost
    · by_cases e : b = a
      · subst e; rw [upd_same] at z; cases z; exact hH'
      · rw [upd_ne e] at z; exact S'.sub b o z
    · have hp : p ∈ [(a, a)] := hp
      simp at hp; subst hp; exact ⟨hb, hb⟩
    · by_cases e : b = a
      · exact .inr (.inr e)
      · rw [upd_ne e] at z
        rcases st.new b z with y | y
        · exact .inl y
        · exact .inr (.inl y)
  have ho : SlsOk K [(a, a)] F (.l 0 :: (args x).map Sl.v) (.ref a :: us) := by
    refine ⟨_, us, rfl, ⟨(a, a), rfl, rfl⟩, ?_⟩
    have : ∀ {ds : List D} {us : List V}, Dens K F ds us → SlsOk K [(a, a)] F (ds.map Sl.v) us := by
      intro ds
      induction ds with
      | nil => intro us h; exact h
      | cons d ds ih =>
        intro us h
        obtain ⟨v, r, rfl, h2, h3⟩ := h
        exact ⟨v, r, rfl, h2, ih h3⟩
    exact this hd
  refine h x ⟨[(a, a)], F, H⟩ hp rfl _ _ _ F H ⟨env_start ho, S, .refl⟩ ⟨fun σ' α' F' H' ρ' M' g _ q => fin g.sta g.st q, fun v s α' F' H' M' o S' st _ ⟨e1, q⟩ => ?_, fun _ _ _ _ _ _ _ _ q => q.elim, fun _ _ _ _ _ _ _ _ q => q.elim⟩
  subst e1
  have o : v = .non := o
  subst o
  exact fin S' st q
theorem mk_at {ι : Type} {x : Str} {C f : Addr} {st : Stmt} {ps N ns : List Str} {k : Nat} {args : ι → List D} {pre : ι → Prop} {post : ι → List D → Prop} {fd : FuncData} {qual : Str} (hm : mg x = some (.ref C)) (M : Mk K C f) (F : Fun K "__init__" qual st f fd) (B : Binds K fd ps []) (S : FnScope N ps (defScope st)) (hl : ∀ i, (args i).length + 1 = ps.length)
    (body : ∀ (f : Addr) (cdv : Value) (A : Around) (outer : List Env) (s : Shared) (H : Hp) (E : XK), Room k (A.deeper (PyProof.Rows.envOfC qual (defScope st) s.heap.objs.size f cdv)) →
      ∃ t, PSs (cxOf CX0 P w K mg base N qual (defScope st) f cdv A outer s H E).nox (defBody st) t ∧
        ∀ i e, pre i → e.α.length = 1 → RunD K e t (startR N.length (.l 0 :: (args i).map Sl.v)) [.ins C [] []] (fun _ M' => ∃ ds, M'[0]? = some (.ins C ns ds) ∧ post i ds) (fun s M' => s = .v .non ∧ ∃ ds, M'[0]? = some (.ins C ns ds) ∧ post i ds) (fun _ _ => False) (fun _ _ => False)) :
    MkAt P w K mg base (k + 1) x C ps (SpI K C args pre ns post) := by
  refine ⟨f, fd, hm, M, B, F.ok S (fun vs H Q E h => ?_) fun cdv A outer s H vs Q E hr h => ?_⟩
  · obtain ⟨i, a, dx, F', us, rfl, o, _⟩ := h
    rw [← hl i, o.length]; rfl
  · obtain ⟨t, ht, hi⟩ := body f cdv A outer s H E hr
    exact ⟨t, ht, init_run hi vs H Q E h⟩
end
/-! ### attributes of the thing at slot j -/
section
variable {K : PySem.W.Frag} {e : Ent} {ρ : Rho} {M : List MO} {te : TE} {nx bk ct : Rho → List MO → Prop} {rt : Sl → List MO → Prop}
def putD (f : Str) (d : D) : List Str → List D → List Str × List D
  | n :: ns, x :: xs => if n = f then (n :: ns, d :: xs) else let (a, b) := putD f d ns xs; (n :: a, x :: b)
  | _, _ => ([f], [d])
theorem putD_ok {F : Hp} {f : Str} {d : D} {v : V} (hv : Den K F d v) : ∀ {ns : List Str} {ds : List D} {vs : List V}, ns.length = vs.length → Dens K F ds vs →
    ∃ ws, putF f v (ns.zip vs) = (putD f d ns ds).1.zip ws ∧ (putD f d ns ds).1.length = ws.length ∧ Dens K F (putD f d ns ds).2 ws
  | [], [], vs, hl, h => by
    have h : vs = [] := h
    subst h
    exact ⟨[v], rfl, rfl, Dens.cons hv Dens.nil⟩
  | [], d' :: ds, vs, hl, h => by
    obtain ⟨u, r, rfl, _⟩ := h
    simp at hl
  | n :: ns, [], vs, hl, h => by
    have h : vs = [] := h
    subst h; simp at hl
  | n :: ns, d' :: ds, vs, hl, h => by
    obtain ⟨u, r, rfl, h2, h3⟩ := h
    by_cases hn : n = f
    · refine ⟨v :: r, ?_, ?_, ?_⟩
      · simp [putF, putD, hn]
      · simp [putD, hn]; simpa using hl
      · simp only [putD, if_pos hn]; exact Dens.cons hv h3
    · obtain ⟨ws, e1, e2, e3⟩ := putD_ok (f := f) hv (ns := ns) (ds := ds) (vs := r) (by simpa using hl) h3
      refine ⟨u :: ws, ?_, ?_, ?_⟩
      · simp only [List.zip_cons_cons, putF, putD, if_neg hn, e1]
      · simp only [putD, if_neg hn, List.length_cons, e2]
      · simp only [putD, if_neg hn]; exact Dens.cons h2 e3
/-- self.f = e -/
theorem r_fld {j k : Nat} {f : Str} {C : Addr} {ns : List Str} {ds : List D} (hc : Cls K C) (hn : NoAttr K C f) (hj : ρ[j]? = some (some (.l k))) (hk : M[k]? = some (.ins C ns ds)) (hl : ns.length < 1000) (h : EvP K te ρ M fun s => ∃ d, s = .v d ∧ nx ρ (M.set k (.ins C (putD f d ns ds).1 (putD f d ns ds).2))) :
    RunD K e (sFld K (tVar j) te f) ρ M nx rt bk ct := fun X σ α F H g ok =>
  h σ α F H g.env g.sta _ fun v F1 H1 s m1 S1 o1 ⟨d, e1, q1⟩ => by
    subst e1
    obtain ⟨u, h1, p, hp, rfl⟩ := g.env.at' j _ hj
    obtain ⟨hF1, dx, vs, hvs, hlen, hd1⟩ := S1.ob k _ p hk hp
    obtain ⟨ws, w1, w2, w3⟩ := putD_ok (f := f) (d := d) (v := v) o1 hlen hd1
    refine ⟨_, h1, p.1, C, dx, _, rfl, hvs, hc, hn, by rw [List.length_zip]; omega, ?_⟩
    obtain ⟨m2, S2⟩ := S1.write (m' := .ins C (putD f d ns ds).1 (putD f d ns ds).2) (o := .ins C dx (putF f v (ns.zip vs))) hp hF1 ⟨hF1, dx, ws, by rw [w1]; exact upd_same, w2, w3⟩
    exact ok.nx _ _ F1 _ _ _ ⟨g.env.mono m1.ex, S2, (g.st.move m1).move m2⟩ m1.ex q1
end
end DL

/-! DL9: chains of comparisons, constants, further built-ins. -/
namespace DL
open PySem L2
section
variable {K : PySem.W.Frag} {e : Ent} {ρ : Rho} {M : List MO} {Q : Sl → Prop} {R : Bool → Prop} {te ta tb tc : TE} {x y : Sl} {nx bk ct : Rho → List MO → Prop} {rt : Sl → List MO → Prop}
theorem ev_chain {r r' : R2} (h : EvP K ta ρ M fun x => EvP K tb ρ M fun y => EvR K r M x y fun z => ∃ k, z = .v (.bl k) ∧ if k = true then EvP K tc ρ M (fun w => EvR K r' M y w Q) else Q (.v (.bl false))) : EvP K (tChain r r' ta tb tc) ρ M Q := fun σ α F H en S k kk =>
  h σ α F H en S _ fun u F1 H1 x m1 S1 o1 q1 => q1 σ α F1 H1 (en.mono m1.ex) S1 _ fun v F2 H2 y m2 S2 o2 q2 =>
    q2 α F2 H2 u v S2 (o1.mono m2.ex) o2 _ fun z F3 H3 s m3 S3 o3 ⟨b, e1, q3⟩ => by
      subst e1
      have o3 : z = .bl b := o3
      subst o3
      refine ⟨b, rfl, ?_⟩
      cases b with
      | true =>
        have q3 : EvP K tc ρ M (fun w => EvR K r' M y w Q) := q3
        refine iteT ?_
        exact q3 σ α F3 H3 (en.mono ((m1.trans m2).trans m3).ex) S3 _ fun w F4 H4 s4 m4 S4 o4 q4 =>
          q4 α F4 H4 v w S4 (o2.mono (m3.trans m4).ex) o4 k fun z F5 H5 s5 m5 S5 o5 q5 => kk z F5 H5 s5 ((((m1.trans m2).trans m3).trans m4).trans m5) S5 o5 q5
      | false =>
        refine iteF ?_
        exact kk _ F3 H3 _ ((m1.trans m2).trans m3) S3 raw_ok q3
end
/-- a tuple of the module's top -/
structure CTup (K : PySem.W.Frag) (mg : Str → Option Value) (x : Str) (vs : List V) : Prop where
  ex : ∃ a o its n, mg x = some (.ref a) ∧ K.lookup a = some o ∧ o.cls = .type "tuple" ∧ o.data = .seq its n ∧ its.size ≤ sizeLine ∧ Vals vs its.toList
def tCT (K : PySem.W.Frag) (vs : List V) : TE := fun _ H Q => ∀ a, (∀ F, SqT K F a vs) → Q (.ref a) H
theorem CTup.pe {X : Cx} {K : PySem.W.Frag} {x : Str} {vs : List V} {pos : Pos} (c : CTup K X.mg x vs) (hg : Gl X x) (hd : (x == ("__debug__" : Str)) = false := by decide) (hK : X.K = K := by rfl) : PE X (.Name x pos) (tCT K vs) := by
  subst hK
  obtain ⟨a, o, its, n, h, rest⟩ := c.ex
  exact ⟨fun _ _ _ H _ I q => ld_glob I hg h ⟨.ref a, H, I, rfl, q a fun F => .inr ⟨o, its, n, rest⟩⟩ hd⟩
section
variable {K : PySem.W.Frag} {ρ : Rho} {M : List MO} {Q : Sl → Prop}
theorem ev_ct {vs : List V} (q : Q (.v (.tup (vs.map D.raw)))) : EvP K (tCT K vs) ρ M Q := fun σ α F H en S k kk a h =>
  kk (.ref a) F H _ .refl S (den_ok (d := .tup (vs.map D.raw)) ⟨a, vs, rfl, h F, Dens.raws⟩) q
end
structure InitAt (K : PySem.W.Frag) (C : Addr) (qual : Str) (st : Stmt) (ps : List Str) : Prop where
  ex : ∃ f fd, Mk K C f ∧ Fun K "__init__" qual st f fd ∧ Binds K fd ps []
/-- things of a built-in kind -/
inductive Tame : D → Prop
  | non : Tame .non
  | bl (b : Bool) : Tame (.bl b)
  | int (i : Int) : Tame (.int i)
  | str (s : Str) : Tame (.str s)
  | tup (ds : List D) : Tame (.tup ds)
  | lst (ds : List D) : Tame (.lst ds)
  | dic (ks : List Key) (ds : List D) : Tame (.dic ks ds)
def D.tyn : D → String
  | .raw .non => "NoneType"
  | .raw (.bl _) => "bool"
  | .raw (.int _) => "int"
  | .raw (.str _) => "str"
  | .tup _ => "tuple"
  | .lst _ => "list"
  | .dic _ _ => "dict"
  | _ => ""
theorem Tame.kind {K : PySem.W.Frag} {d : D} (t : Tame d) : Kind K d (.type d.tyn) := by
  cases t with
  | non => exact .non
  | bl b => exact .bl b
  | int b => exact .int b
  | str b => exact .str b
  | tup b => exact .tup b
  | lst b => exact .lst b
  | dic a b => exact .dic a b
def isIntD : D → Bool
  | .raw (.int _) => true
  | .raw (.bl _) => true
  | _ => false
def isBoolD : D → Bool
  | .raw (.bl _) => true
  | _ => false
def isTupD : D → Bool
  | .tup _ => true
  | _ => false
def isLstD : D → Bool
  | .lst _ => true
  | _ => false
def isStrD : D → Bool
  | .raw (.str _) => true
  | _ => false
section
variable {K : PySem.W.Frag} {M : List MO} {Q : Sl → Prop}
theorem kb_int {d : D} (t : Tame d) : PySem.W.kitOne K (.type d.tyn) (.type "int") = some (isIntD d) := by
  cases t with
  | non => exact kit_ty (show kitB "NoneType" "int" = some false by decide +kernel)
  | bl b => exact kit_ty (show kitB "bool" "int" = some true by decide +kernel)
  | int b => exact kit_ty (show kitB "int" "int" = some true by decide +kernel)
  | str b => exact kit_ty (show kitB "str" "int" = some false by decide +kernel)
  | tup b => exact kit_ty (show kitB "tuple" "int" = some false by decide +kernel)
  | lst b => exact kit_ty (show kitB "list" "int" = some false by decide +kernel)
  | dic p b => exact kit_ty (show kitB "dict" "int" = some false by decide +kernel)
theorem kb_bool {d : D} (t : Tame d) : PySem.W.kitOne K (.type d.tyn) (.type "bool") = some (isBoolD d) := by
  cases t with
  | non => exact kit_ty (show kitB "NoneType" "bool" = some false by decide +kernel)
  | bl b => exact kit_ty (show kitB "bool" "bool" = some true by decide +kernel)
  | int b => exact kit_ty (show kitB "int" "bool" = some false by decide +kernel)
  | str b => exact kit_ty (show kitB "str" "bool" = some false by decide +kernel)
  | tup b => exact kit_ty (show kitB "tuple" "bool" = some false by decide +kernel)
  | lst b => exact kit_ty (show kitB "list" "bool" = some false by decide +kernel)
  | dic p b => exact kit_ty (show kitB "dict" "bool" = some false by decide +kernel)
theorem kb_tup {d : D} (t : Tame d) : PySem.W.kitOne K (.type d.tyn) (.type "tuple") = some (isTupD d) := by
  cases t with
  | non => exact kit_ty (show kitB "NoneType" "tuple" = some false by decide +kernel)
  | bl b => exact kit_ty (show kitB "bool" "tuple" = some false by decide +kernel)
  | int b => exact kit_ty (show kitB "int" "tuple" = some false by decide +kernel)
  | str b => exact kit_ty (show kitB "str" "tuple" = some false by decide +kernel)
  | tup b => exact kit_ty (show kitB "tuple" "tuple" = some true by decide +kernel)
  | lst b => exact kit_ty (show kitB "list" "tuple" = some false by decide +kernel)
  | dic p b => exact kit_ty (show kitB "dict" "tuple" = some false by decide +kernel)
theorem kb_lst {d : D} (t : Tame d) : PySem.W.kitOne K (.type d.tyn) (.type "list") = some (isLstD d) := by
  cases t with
  | non => exact kit_ty (show kitB "NoneType" "list" = some false by decide +kernel)
  | bl b => exact kit_ty (show kitB "bool" "list" = some false by decide +kernel)
  | int b => exact kit_ty (show kitB "int" "list" = some false by decide +kernel)
  | str b => exact kit_ty (show kitB "str" "list" = some false by decide +kernel)
  | tup b => exact kit_ty (show kitB "tuple" "list" = some false by decide +kernel)
  | lst b => exact kit_ty (show kitB "list" "list" = some true by decide +kernel)
  | dic p b => exact kit_ty (show kitB "dict" "list" = some false by decide +kernel)
theorem kb_str {d : D} (t : Tame d) : PySem.W.kitOne K (.type d.tyn) (.type "str") = some (isStrD d) := by
  cases t with
  | non => exact kit_ty (show kitB "NoneType" "str" = some false by decide +kernel)
  | bl b => exact kit_ty (show kitB "bool" "str" = some false by decide +kernel)
  | int b => exact kit_ty (show kitB "int" "str" = some false by decide +kernel)
  | str b => exact kit_ty (show kitB "str" "str" = some true by decide +kernel)
  | tup b => exact kit_ty (show kitB "tuple" "str" = some false by decide +kernel)
  | lst b => exact kit_ty (show kitB "list" "str" = some false by decide +kernel)
  | dic p b => exact kit_ty (show kitB "dict" "str" = some false by decide +kernel)
/-- isinstance(x, (T1, T2)), the tuple written there -/
theorem ev_isiT {ρ : Rho} {ta : TE} {tc : TA} (h : EvP K ta ρ M fun s => EvA K tc ρ M fun ss => ∃ (d : D) (T1 T2 : String), s = .v d ∧ ss = [.v (.raw (.ty T1)), .v (.raw (.ty T2))] ∧ Tame d ∧ ∃ b1 b2, PySem.W.kitOne K (.type d.tyn) (.type T1) = some b1 ∧ PySem.W.kitOne K (.type d.tyn) (.type T2) = some b2 ∧ Q (.v (.bl (b1 || b2)))) :
    EvP K (tCB (rIsiT K) (tCons ta (tCons (tTup tc) tNil))) ρ M Q := fun σ α F H en S k kk =>
  h σ α F H en S _ fun u F1 H1 x m1 S1 o1 q1 => q1 σ α F1 H1 (en.mono m1.ex) S1 _ fun vs F2 H2 ss m2 S2 o2 ⟨d, T1, T2, e1, e2, tm, b1, b2, k1, k2, q⟩ => by
    subst e1; subst e2
    have e3 := sls2 o2
    subst e3
    refine ⟨by show 2 ≤ sizeLine; decide, fun p hp => ?_⟩
    obtain ⟨m3, S3⟩ := S2.laid (o := .tup [.ty T1, .ty T2]) hp
    have m12 := (m1.trans m2).trans m3
    refine ⟨u, p, [.ty T1, .ty T2], .type d.tyn, [.type T1, .type T2], b1 || b2, rfl, upd_same, .cons (.ty T1) (.cons (.ty T2) .nil), tm.kind.ty S3 (o1.mono (m2.trans m3).ex), ?_, kk _ _ _ _ m12 S3 raw_ok q⟩
    refine kitAny_cons k1 (fun e => ?_) (fun e => by rw [e]; rfl)
    rw [e, Bool.false_or]
    refine kitAny_cons k2 (fun e => ?_) (fun e => e)
    rw [e]; exact kitAny_nil
theorem ei_int {d : D} (q : Tame d ∧ Q (.v (.bl (isIntD d)))) : EvC K (rIsi K) M [.v d, .v (.raw (.ty "int"))] Q := ec_isi q.1.kind (kb_int q.1) q.2
theorem ei_bool {d : D} (q : Tame d ∧ Q (.v (.bl (isBoolD d)))) : EvC K (rIsi K) M [.v d, .v (.raw (.ty "bool"))] Q := ec_isi q.1.kind (kb_bool q.1) q.2
theorem ei_tuple {d : D} (q : Tame d ∧ Q (.v (.bl (isTupD d)))) : EvC K (rIsi K) M [.v d, .v (.raw (.ty "tuple"))] Q := ec_isi q.1.kind (kb_tup q.1) q.2
theorem ei_lst {d : D} (q : Tame d ∧ Q (.v (.bl (isLstD d)))) : EvC K (rIsi K) M [.v d, .v (.raw (.ty "list"))] Q := ec_isi q.1.kind (kb_lst q.1) q.2
theorem ei_str {d : D} (q : Tame d ∧ Q (.v (.bl (isStrD d)))) : EvC K (rIsi K) M [.v d, .v (.raw (.ty "str"))] Q := ec_isi q.1.kind (kb_str q.1) q.2
end
end DL

/-! DL10: expressions that make things that are to change; several targets; dicts. -/
namespace DL
open PySem L2
section
variable {K : PySem.W.Frag} {e : Ent} {ρ : Rho} {M : List MO} {te ta tb : TE} {nx bk ct : Rho → List MO → Prop} {rt : Sl → List MO → Prop}
def EvN (K : PySem.W.Frag) (e : Ent) (te : TE) (ρ : Rho) (M : List MO) (Q : Sl → List MO → Prop) : Prop := ∀ (σ : L2.St) (α : Al) (F H : Hp), Good K e α F H σ ρ M → ∀ k : VK,
  (∀ v α' F' H' s M', Good K e α' F' H' σ ρ M' → Same F F' → (∃ β, α' = α ++ β) → SlOk K α' F' s v → Q s M' → k v H') → te σ H k
def EvNA (K : PySem.W.Frag) (e : Ent) (ta : TA) (ρ : Rho) (M : List MO) (Q : List Sl → List MO → Prop) : Prop := ∀ (σ : L2.St) (α : Al) (F H : Hp), Good K e α F H σ ρ M → ∀ k : List V → Hp → Prop,
  (∀ vs α' F' H' ss M', Good K e α' F' H' σ ρ M' → Same F F' → (∃ β, α' = α ++ β) → SlsOk K α' F' ss vs → Q ss M' → k vs H') → ta σ H k
theorem en_ev {Q : Sl → List MO → Prop} (h : EvP K te ρ M fun s => Q s M) : EvN K e te ρ M Q := fun σ α F H g k kk =>
  h σ α F H g.env g.sta k fun v F1 H1 s m1 S1 o1 q1 => kk v α F1 H1 s M (g.move m1 S1) m1.ex ⟨[], by simp⟩ o1 q1
theorem en_newL {ta : TA} {Q : Sl → List MO → Prop} (h : EvA K ta ρ M fun ss => ∃ ds : List D, ss = ds.map Sl.v ∧ ds.length ≤ 16777216 ∧ Q (.l M.length) (M ++ [.lst ds])) : EvN K e (tLst ta) ρ M Q := fun σ α F H g k kk =>
  h σ α F H g.env g.sta _ fun vs F1 H1 ss m1 S1 o1 ⟨ds, e1, hl, q1⟩ => by
    subst e1
    have hd := o1.dens
    refine ⟨by rw [← hd.length, sizeLine_eq]; exact hl, fun p hp => ?_⟩
    have S2 := S1.more (m' := .lst ds) (o := .lst vs) hp ⟨S1.sub.free hp, vs, upd_same, hd⟩
    exact kk _ _ F1 _ _ _ ⟨(g.env.mono m1.ex).more, S2, (g.st.move m1).more hp⟩ m1.ex ⟨_, rfl⟩ (loc_ok (p := (p, p)) (sta_len S1)) q1
theorem SlsOk.more {α β : Al} {F : Hp} : ∀ {ss : List Sl} {vs : List V}, SlsOk K α F ss vs → SlsOk K (α ++ β) F ss vs
  | [], _, h => h
  | s :: ss, _, ⟨v, r, h1, h2, h3⟩ => ⟨v, r, h1, h2.more, SlsOk.more h3⟩
theorem ena_nil {Q : List Sl → List MO → Prop} (q : Q [] M) : EvNA K e tNil ρ M Q := fun σ α F H g k kk => kk [] α F H [] M g (.refl F) ⟨[], by simp⟩ rfl q
theorem ena_cons {tr : TA} {Q : List Sl → List MO → Prop} (h : EvN K e ta ρ M fun s M' => EvNA K e tr ρ M' fun ss M2 => Q (s :: ss) M2) : EvNA K e (tCons ta tr) ρ M Q := fun σ α F H g k kk =>
  h σ α F H g _ fun v α1 F1 H1 s M1 g1 x1 ⟨β1, b1⟩ o1 q1 => q1 σ α1 F1 H1 g1 _ fun vs α2 F2 H2 ss M2 g2 x2 ⟨β2, b2⟩ o2 q2 => by
    subst b1; subst b2
    exact kk (v :: vs) _ F2 H2 (s :: ss) M2 g2 (x1.trans x2) ⟨β1 ++ β2, by rw [List.append_assoc]⟩ ⟨v, vs, rfl, (o1.mono x2).more, o2⟩ q2
theorem r_asgN {i : Nat} (h : EvN K e te ρ M fun s M' => nx (ρ.set i (some s)) M') : RunD K e (tAsg te (gName i)) ρ M nx rt bk ct := fun X σ α F H g ok =>
  h σ α F H g _ fun v α1 F1 H1 s M1 g1 x1 _ o1 q1 => ok.nx _ α1 F1 H1 _ M1 ⟨g1.env.set i o1, g1.sta, g1.st⟩ x1 q1
theorem r_par3 {i j l : Nat} {ta : TA} (h : EvNA K e ta ρ M fun ss M' => ∃ a b c, ss = [a, b, c] ∧ nx (((ρ.set i (some a)).set j (some b)).set l (some c)) M') : RunD K e (tPar3 i j l ta) ρ M nx rt bk ct := fun X σ α F H g ok =>
  h σ α F H g _ fun vs α1 F1 H1 ss M1 g1 x1 _ o1 ⟨a, b, c, e1, q1⟩ => by
    subst e1
    obtain ⟨v, r, rfl, hv, r2⟩ := o1
    obtain ⟨w, r', rfl, hw, r3⟩ := r2
    obtain ⟨z, rfl, hz⟩ := sls1s r3
    exact ⟨v, w, z, rfl, ok.nx _ α1 F1 H1 _ M1 ⟨((g1.env.set i hv).set j hw).set l hz, g1.sta, g1.st⟩ x1 q1⟩
/-- a tuple of slots unpacked into names -/
def EvGn (g : TGs) (ss : List Sl) (ρ : Rho) (R : Rho → Prop) (K : PySem.W.Frag) : Prop := ∀ (σ : L2.St) (α : Al) (F H : Hp) (vs : List V), EnvOk K α F σ ρ → SlsOk K α F ss vs → ∀ k : L2.St → Hp → Prop, (∀ σ' ρ', EnvOk K α F σ' ρ' → R ρ' → k σ' H) → g vs σ H k
/-! ### dicts -/
def kdGet (ks : List Key) (ds : List D) (k : Key) : Option D := ((ks.zip ds).find? fun p => decide (p.1 = k)).map (·.2)
def kdPut (ks : List Key) (ds : List D) (k : Key) (d : D) : List Key × List D := if (ks.any fun j => decide (j = k)) = true then (ks, (ks.zip ds).map fun p => if p.1 = k then d else p.2) else (ks ++ [k], ds ++ [d])
theorem kd_val {F : Hp} {k : Key} : ∀ {ks : List Key} {ds : List D} {vs : List V}, ks.length = vs.length → Dens K F ds vs → (∀ d, kdGet ks ds k = some d → ∃ v, valV (ks.zip vs) k = some v ∧ Den K F d v) ∧ (kdGet ks ds k = none → valV (ks.zip vs) k = none)
  | [], ds, vs, _, _ => ⟨fun d h => by simp [kdGet] at h, fun _ => rfl⟩
  | j :: ks, [], vs, hl, h => by
    have h : vs = [] := h
    subst h; simp at hl
  | j :: ks, d :: ds, vs, hl, h => by
    obtain ⟨v, r, rfl, h2, h3⟩ := h
    have ih := kd_val (k := k) (ks := ks) (by simpa using hl) h3
    by_cases e : j = k
    · subst e
      refine ⟨fun d' h => ?_, fun h => ?_⟩
      · simp [kdGet] at h
        subst h
        exact ⟨v, by simp [valV], h2⟩
      · simp [kdGet] at h
    · have e1 : kdGet (j :: ks) (d :: ds) k = kdGet ks ds k := by simp [kdGet, e]
      have e2 : valV ((j :: ks).zip (v :: r)) k = valV (ks.zip r) k := by simp [valV, e]
      rw [e1, e2]; exact ih
theorem kd_mapv {F : Hp} {k : Key} {d : D} {v : V} (hd : Den K F d v) : ∀ {ks : List Key} {ds : List D} {vs : List V}, ks.length = vs.length → Dens K F ds vs →
    ∃ us, ((ks.zip vs).map fun kv => if kv.1 = k then (kv.1, v) else kv) = ks.zip us ∧ ks.length = us.length ∧ Dens K F ((ks.zip ds).map fun p => if p.1 = k then d else p.2) us
  | [], ds, vs, hl, h => ⟨[], rfl, rfl, by simp [Dens]⟩
  | j :: ks, [], vs, hl, h => by
    have h : vs = [] := h
    subst h; simp at hl
  | j :: ks, c :: ds, vs, hl, h => by
    obtain ⟨w, r, rfl, h2, h3⟩ := h
    obtain ⟨us, u1, u2, u3⟩ := kd_mapv (k := k) hd (ks := ks) (by simpa using hl) h3
    by_cases e : j = k
    · exact ⟨v :: us, by simp [e]; exact u1, by simp [u2], by simp only [List.zip_cons_cons, List.map_cons, if_pos e]; exact Dens.cons hd u3⟩
    · exact ⟨w :: us, by simp [e]; exact u1, by simp [u2], by simp only [List.zip_cons_cons, List.map_cons, if_neg e]; exact Dens.cons h2 u3⟩
theorem any_zip {k : Key} : ∀ {ks : List Key} {vs : List V}, ks.length = vs.length → ((ks.zip vs).any fun kv => decide (kv.1 = k)) = ks.any fun j => decide (j = k)
  | [], [], _ => rfl
  | j :: ks, v :: vs, h => by
    rw [List.zip_cons_cons, List.any_cons, List.any_cons, any_zip (by simpa using h)]
theorem any_mem {k : Key} {ks : List Key} : (ks.any fun j => decide (j = k)) = true ↔ k ∈ ks := by
  rw [List.any_eq_true]
  constructor
  · rintro ⟨j, hj, e⟩
    have e : j = k := of_decide_eq_true e
    rw [← e]; exact hj
  · exact fun h => ⟨k, h, decide_eq_true rfl⟩
theorem kd_put {F : Hp} {k : Key} {d : D} {v : V} (hd : Den K F d v) {ks : List Key} {ds : List D} {vs : List V} (hl : ks.length = vs.length) (h : Dens K F ds vs) :
    ∃ us, putK (ks.zip vs) k v = (kdPut ks ds k d).1.zip us ∧ (kdPut ks ds k d).1.length = us.length ∧ Dens K F (kdPut ks ds k d).2 us := by
  unfold putK kdPut
  rw [any_zip hl]
  by_cases e : (ks.any fun j => decide (j = k)) = true
  · rw [if_pos e, if_pos e]
    exact kd_mapv hd hl h
  · rw [if_neg e, if_neg e]
    exact ⟨vs ++ [v], by rw [List.zip_append hl]; rfl, by simp [hl], h.append (Dens.cons hd Dens.nil)⟩
theorem kdGet_put {k j : Key} {d : D} : ∀ {ks : List Key} {ds : List D}, ks.length = ds.length → kdGet (kdPut ks ds k d).1 (kdPut ks ds k d).2 j = if j = k then some d else kdGet ks ds j := by
  intro ks ds hl
  unfold kdPut
  by_cases e : k ∈ ks
  · rw [if_pos (any_mem.mpr e)]
    show kdGet ks ((ks.zip ds).map fun p => if p.1 = k then d else p.2) j = _
    induction ks generalizing ds with
    | nil => simp at e
    | cons i ks ih =>
      cases ds with
      | nil => simp at hl
      | cons c ds =>
        simp only [List.zip_cons_cons, List.map_cons]
        by_cases hi : i = j
        · subst hi
          by_cases hk : i = k
          · simp [kdGet, hk]
          · simp [kdGet, hk]
        · have e1 : ∀ (c : D) (ds : List D), kdGet (i :: ks) (c :: ds) j = kdGet ks ds j := fun c ds => by simp [kdGet, hi]
          rw [e1, e1]
          by_cases e2 : k ∈ ks
          · exact ih (by simpa using hl) e2
          · have hik : i = k := by
              rcases List.mem_cons.mp e with z | z
              · exact z.symm
              · exact absurd z e2
            have hjk : ¬ j = k := fun z => hi (hik.trans z.symm)
            rw [if_neg hjk]
            have : (ks.zip ds).map (fun p => if p.1 = k then d else p.2) = (ks.zip ds).map (·.2) := by
              apply List.map_congr_left
              intro p hp
              have := (List.of_mem_zip (show (p.1, p.2) ∈ ks.zip ds from hp)).1
              rw [if_neg (fun z => e2 (by rw [← z]; exact this))]
            rw [this]
            have h2 : (ks.zip ds).map (·.2) = ds := by
              apply List.map_snd_zip
              simp at hl; omega
            rw [h2]
  · rw [if_neg (fun z => e (any_mem.mp z))]
    show kdGet (ks ++ [k]) (ds ++ [d]) j = _
    unfold kdGet
    rw [List.zip_append hl, List.find?_append]
    by_cases hj : j = k
    · subst hj
      have : (ks.zip ds).find? (fun p => decide (p.1 = j)) = none := by
        rw [List.find?_eq_none]
        intro p hp
        have := (List.of_mem_zip (show (p.1, p.2) ∈ ks.zip ds from hp)).1
        simpa using fun z => e (by rw [← z]; exact this)
      rw [this]; simp
    · simp [hj, Ne.symm hj]
theorem kdPut_len {ks : List Key} {ds : List D} {k : Key} {d : D} (h : ks.length = ds.length) : (kdPut ks ds k d).1.length = (kdPut ks ds k d).2.length := by
  unfold kdPut
  split
  · simp; omega
  · simp [h]
/-- which dict a slot tells -/
inductive RdD (M : List MO) : Sl → List Key → List D → Prop
  | v {ks : List Key} {ds : List D} : RdD M (.v (.dic ks ds)) ks ds
  | l {k : Nat} {ks : List Key} {ds : List D} : M[k]? = some (.dic ks ds) → RdD M (.l k) ks ds
  | z {k : Nat} {d : Addr} {od : Obj} {kvs : List (Key × V)} {ks : List Key} {ds : List D} : M[k]? = some (.frz d od kvs ks ds) → RdD M (.l k) ks ds
theorem RdD.get {α : Al} {F H : Hp} {s : Sl} {ks : List Key} {ds : List D} {u : V} (h : RdD M s ks ds) (S : Sta K α M F H) (o : SlOk K α F s u) : ∃ a vs, u = .ref a ∧ Rd H a (.dK (ks.zip vs)) ∧ ks.length = vs.length ∧ Dens K F ds vs := by
  cases h with
  | v =>
    obtain ⟨a, vs, h1, h2, h3⟩ := o
    exact ⟨a, vs, h1, .inl (S.sub _ _ h2), h3⟩
  | l hk =>
    obtain ⟨p, hp, rfl⟩ := o
    obtain ⟨_, vs, h1, h2⟩ := S.ob _ _ p hk hp
    exact ⟨p.1, vs, rfl, .inl h1, h2⟩
  | z hk =>
    obtain ⟨p, hp, rfl⟩ := o
    obtain ⟨_, _, h1, vs, e, h2⟩ := S.ob _ _ p hk hp
    subst e
    exact ⟨p.1, vs, rfl, .inr ⟨_, h1⟩, h2⟩
variable {Q : Sl → Prop}
theorem ev_dget {td ty : TE} (h : EvP K td ρ M fun x => EvP K ty ρ M fun y => ∃ ks ds k d, RdD M x ks ds ∧ y = .v (.raw (kV k)) ∧ kdGet ks ds k = some d ∧ Q (.v d)) : EvP K (tDGet td ty) ρ M Q := fun σ α F H en S k kk =>
  h σ α F H en S _ fun u F1 H1 x m1 S1 o1 q1 => q1 σ α F1 H1 (en.mono m1.ex) S1 _ fun v F2 H2 y m2 S2 o2 ⟨ks, ds, k, d, hr, ey, hg, q⟩ => by
    subst ey
    have o2 : v = kV k := o2
    subst o2
    obtain ⟨a, vs, rfl, h1, h2, h3⟩ := hr.get S2 (o1.mono m2.ex)
    obtain ⟨w, hw, hd⟩ := (kd_val (k := k) h2 h3).1 d hg
    exact ⟨a, w, rfl, .inl ⟨_, k, h1, rfl, hw.symm⟩, kk w F2 H2 _ (m1.trans m2) S2 (den_ok hd) q⟩
/-- d.get(k, x), d a name -/
theorem ev_dgetN {i : Nat} {ty tx : TE} {s : Sl} {ks : List Key} {ds : List D} (hi : ρ[i]? = some (some s)) (hs : RdD M s ks ds) (h : EvP K ty ρ M fun y => EvP K tx ρ M fun z => ∃ k, y = .v (.raw (kV k)) ∧ ∃ dz, z = .v dz ∧ Q (.v ((kdGet ks ds k).getD dz))) : EvP K (tDGet2 (tVar i) ty tx) ρ M Q := fun σ α F H en S k kk => by
  obtain ⟨u, h1, h2⟩ := en.at' i s hi
  obtain ⟨a, vs, rfl, h3, _, _⟩ := hs.get S h2
  refine ⟨_, h1, a, rfl, .inl ⟨_, h3⟩, ?_⟩
  refine h σ α F H en S _ fun v F1 H1 y m1 S1 o1 q1 => q1 σ α F1 H1 (en.mono m1.ex) S1 _ fun z F2 H2 sz m2 S2 o2 ⟨k0, ey, dz, ez, q⟩ => ?_
  subst ey; subst ez
  have o1 : v = kV k0 := o1
  subst o1
  obtain ⟨a', vs', e1, h4, h5, h6⟩ := hs.get S2 (h2.mono (m1.trans m2).ex)
  cases e1
  refine ⟨_, .inl ⟨_, k0, h4, rfl, rfl⟩, ?_⟩
  have hv := kd_val (k := k0) h5 h6
  cases e : kdGet ks ds k0 with
  | none =>
    rw [hv.2 e]
    rw [e] at q
    exact kk z F2 H2 (.v dz) (m1.trans m2) S2 o2 q
  | some d =>
    obtain ⟨w, hw, hd⟩ := hv.1 d e
    rw [hw]
    rw [e] at q
    exact kk w F2 H2 (.v d) (m1.trans m2) S2 (den_ok hd) q
/-- d[k] = v, d a name -/
theorem r_dput {i kk : Nat} {ty : TE} {ks : List Key} {ds : List D} (hi : ρ[i]? = some (some (.l kk))) (hk : M[kk]? = some (.dic ks ds)) (h : EvP K te ρ M fun s => EvP K ty ρ M fun y => ∃ k d, s = .v d ∧ y = .v (.raw (kV k)) ∧ ks.length < 16777216 ∧ nx ρ (M.set kk (.dic (kdPut ks ds k d).1 (kdPut ks ds k d).2))) :
    RunD K e (sDPut (tVar i) ty te) ρ M nx rt bk ct := fun X σ α F H g ok =>
  h σ α F H g.env g.sta _ fun v F1 H1 s m1 S1 o1 q1 => by
    obtain ⟨u, h1, p, hp, rfl⟩ := g.env.at' i _ hi
    refine ⟨_, h1, q1 σ α F1 H1 (g.env.mono m1.ex) S1 _ fun w F2 H2 y m2 S2 o2 ⟨k, d, es, ey, hz, q⟩ => ?_⟩
    subst es; subst ey
    have o2 : w = kV k := o2
    subst o2
    obtain ⟨hF2, vs, hvs, hl, hd⟩ := S2.ob kk _ p hk hp
    obtain ⟨us, u1, u2, u3⟩ := kd_put (k := k) (Den.mono K m2.ex _ _ o1) hl hd
    refine ⟨p.1, _, rfl, .inl ⟨_, k, hvs, rfl, by rw [List.length_zip, sizeLine_eq]; omega, rfl⟩, ?_⟩
    obtain ⟨m3, S3⟩ := S2.write (m' := .dic (kdPut ks ds k d).1 (kdPut ks ds k d).2) (o := .dK (putK (ks.zip vs) k v)) hp hF2 ⟨hF2, us, by rw [u1]; exact upd_same, u2, u3⟩
    exact ok.nx _ _ F2 _ _ _ ⟨g.env.mono (m1.trans m2).ex, S3, (g.st.move (m1.trans m2)).move m3⟩ (m1.trans m2).ex q
end
end DL

/-! DL11: the end of a row. -/
namespace DL
open PySem L2
theorem walk_ofX {l : PySem.W.OpenLaw} {n k : Nat} {q : Program} {loose : List Str} {XP : (Str → Option Value) → Heap → Prop} {YP : World → Heap → Prop} {d : DefRec} {K : Params → PySem.W.Frag} {x : Str} {sp : PySem.W.Frag → Sp}
    (hn : l.most = some n) (hn2 : n ≤ sizeLine) (hdf : d.params.defaults = []) (hr : Room k callerA) (hY : ∀ (w : World) (h : Heap), YP w h → (K w.params).In h)
    (F : ∀ (w : World) (mg : Str → Option Value) (fa : Addr) (h : Heap), (K w.params).In h → h.Ns mainGlobals mg → XP mg h → mg d.name = some (.ref fa) →
      ∃ fd : FuncData, (∀ (s : Shared) (u : Value), BindsTo s fd ⟨[u], []⟩ [(x, u)]) ∧
        ∀ base : Heap, (K w.params).In base → base.Ns mainGlobals mg → FnOk l.prog w (K w.params) mg base CX0 k fa fd [x] (sp (K w.params)))
    (hsp : ∀ (K : PySem.W.Frag) (H : Hp) (a : Addr) (ns : List Int), ns.length ≤ n → SqL K H a (ns.map V.int) → sp K [.ref a] H (fun v _ => v = .bl true) fun _ _ _ => False) :
    PySem.W.WalkO q loose XP YP l.row.toRowW d [] (fun f vs => PySem.call f vs) := by
  refine Att.attach_call hn hdf fun w s₀ s₁ mg mb fa o pm cd doc a vs ns G Y ho hd hcd hmg hobj hints hlen hg => ?_
  have KX := hY w _ Y
  obtain ⟨fd, hb, hF⟩ := F w mg fa _ KX G.T.g G.X hmg
  exact law_call KX G.T.g G.T.b G.T.builtins G.T.nolimit hg hobj hints (Nat.le_trans hlen hn2) hr hF hb (fun H hO hS => hsp (K w.params) H a ns hlen hS) fun _ _ _ z => z
/-- the law's promise -/
abbrev SpLaw (K : PySem.W.Frag) : Sp := SpP K (fun cells : List Int => [.rd (D.ints cells)]) (fun cells => cells.length ≤ 63) (fun _ d => d = .bl true)
theorem spLaw_of {K : PySem.W.Frag} {H : Hp} {a : Addr} {ns : List Int} (h : ns.length ≤ 63) (s : SqL K H a (ns.map V.int)) : SpLaw K [.ref a] H (fun v _ => v = .bl true) fun _ _ _ => False := by
  refine ⟨ns, [], H, ⟨_, [], rfl, ⟨a, ns.map V.int, rfl, s, ?_⟩, rfl⟩, sta_nil (.refl H), h, fun v F' H' d M' _ _ o e => ?_⟩
  · have e : D.ints ns = (ns.map V.int).map D.raw := by simp [D.ints, Function.comp_def]
    rw [e]; exact Dens.raws
  · subst e; exact o
theorem loose_int {p : Program} {lv : List (Str × PySem.W.WData)} {mg : Str → Option Value} {h : Heap} {x : Str} {i : Int} (X : PySem.W.XL p lv mg h) (m : (x, PySem.W.WData.int i) ∈ lv) : CInt mg x i := by
  obtain ⟨v, h1, h2⟩ := X.2.val _ m
  cases h2
  exact ⟨_, h1⟩
theorem cint_mk {K : PySem.W.Frag} {mg : Str → Option Value} {h : Heap} {x : Str} {i : Int} {t : Tok} (X : K.In h) (G : h.Ns mainGlobals mg) (a : PySem.W.nsIn K mainGlobals x = some (some (.int i t))) : CInt mg x i :=
  ⟨⟨t, PySem.W.mg_of X G a⟩⟩
theorem def_k {K : PySem.W.Frag} {mg : Str → Option Value} {R : Prop} {x : Str} {st : Stmt} {ps : List Str} {h : Heap} {f : Addr} {oc : Value} {od an : Option Addr} {osl : Array (Option Value)} {kV doc pm cdv ct : Value} (X : K.In h) (G : h.Ns mainGlobals mg)
    (a : PySem.W.nsIn K mainGlobals x = some (some (.ref f))) (l : K.lookup f = some ⟨oc, od, .func (PySem.W.fnOf x x (defArgs st) (defBody st) (defScope st) .none kV doc pm an cdv ct), osl⟩)
    (c : PySem.W.codeIn K cdv x = true) (k : PySem.W.keepIn K (.ref f) = true)
    (b : ∀ (kV doc pm : Value) (an : Option Addr) (cdv ct : Value) (us : List Value), us.length = ps.length → bindArgs (PySem.W.fnOf x x (defArgs st) (defBody st) (defScope st) .none kV doc pm an cdv ct) ⟨us, []⟩ = pure (ps.zip us)) (z : DefAt K mg x st ps → R) : R :=
  z (def_mk X G a l c k b)
end DL

/-! DL12: enumerate and zip over lists and tuples in any mix. -/
namespace DL
open PySem L2 PyProof.Rows
/-- a list or a tuple -/
def SqB (K : PySem.W.Frag) (H : Hp) : Bool → Addr → List V → Prop
  | true, a, xs => SqT K H a xs
  | false, a, xs => SqL K H a xs
def ItB (h : Heap) : Bool → Addr → Addr → Nat → Prop
  | true, it, a, i => h.IsTupleIter it a i
  | false, it, a, i => h.IsListIter it a i
def IsB (h : Heap) : Bool → Addr → Array Value → Prop
  | true, a, its => h.IsTuple a its
  | false, a, its => h.IsList a its
def itO : Bool → Addr → Obj
  | true, a => { cls := .type "tuple_iterator", data := .fields #[.ref a, .int 0 0] }
  | false, a => { cls := .type "list_iterator", data := .fields #[.ref a, .int 0 0] }
section
variable {prog : Program} {w : World} {A : Around}
theorem draws_b (hh : A.handled = none) (it a : Addr) (hne : a ≠ it) (b : Bool) (items : Array Value) : Draws prog w A it [it, a] items.size (fun i v => items[i]? = some v) (fun i h => ItB h b it a i ∧ IsB h b a items) := by
  cases b with
  | true => exact Draws.tuple hh it a hne items
  | false => exact Draws.list hh it a hne items
theorem begins_b (b : Bool) (a : Addr) (items : Array Value) : Begins (.ref a) (itO b a) (fun h => IsB h b a items) := by
  cases b with
  | true => exact begins_tuple a items
  | false => exact begins_list a items
theorem itB_new {h : Heap} {b : Bool} {it a : Addr} (e : h.get? it = some (itO b a)) : ItB h b it a 0 := by
  cases b with
  | true => exact ⟨_, e, rfl, rfl⟩
  | false => exact ⟨_, e, rfl, rfl⟩
theorem ItB.at {h h' : Heap} {b : Bool} {it a : Addr} {i : Nat} (x : ItB h b it a i) (k : ∀ o, h.get? it = some o → h'.get? it = some o) : ItB h' b it a i := by
  cases b with
  | true => exact Heap.IsTupleIter.at x k
  | false => exact Heap.IsListIter.at x k
theorem ItB.obj {h : Heap} {b : Bool} {it a : Addr} {i : Nat} (x : ItB h b it a i) : ∃ o, h.get? it = some o ∧ ∀ v, o.data ≠ .cell v := by
  cases b with
  | true =>
    obtain ⟨o, e, _, d⟩ := x
    exact ⟨o, e, fun v q => by rw [d] at q; cases q⟩
  | false =>
    obtain ⟨o, e, _, d⟩ := x
    exact ⟨o, e, fun v q => by rw [d] at q; cases q⟩
variable {X : Cx} {pins : List (Addr × Obj)} {σ : L2.St} {H : Hp} {s : Shared} {b : Bool} {a : Addr} {xs ys : List V}
theorem inv_b (I : Inv X pins σ H s) (h : SqB X.K H b a xs) : ∃ its : List Value, Vals xs its ∧ IsB s.heap b a its.toArray ∧ xs.length ≤ sizeLine := by
  cases b with
  | true => exact I.tuple h
  | false =>
    obtain ⟨its, r, p, z⟩ := I.list h
    exact ⟨its, r, p.isList, z⟩
theorem inv_bj (I : Inv X pins σ H s) (h : SqB X.K H b a xs) (h' : SqB X.K H b a ys) : xs = ys := by
  cases b with
  | true => exact I.tuple_inj h h'
  | false => exact I.list_inj h h'
theorem inv_lt (I : Inv X pins σ H s) (h : SqB X.K H b a xs) : a < s.heap.objs.size := by
  obtain ⟨its, _, p, _⟩ := inv_b I h
  cases b with
  | true => obtain ⟨o, e, _⟩ := p; exact Heap.lt_size e
  | false => obtain ⟨o, e, _⟩ := p; exact Heap.lt_size e
end
/-- the sequence at a as it stands at each turn, the number from k on and the item in a new pair -/
def ItE (K : PySem.W.Frag) (k : Int) (b : Bool) (a : Addr) : It :=
  ⟨fun i H => ∃ xs x, SqB K H b a xs ∧ xs[i]? = some x,
    fun i H v H' => ∃ T x, v = .ref T ∧ H T = none ∧ H' = upd H T (.tup [.int (k + (i : Int)), x]) ∧ ∀ ys, SqB K H b a ys → ys[i]? = some x,
    fun i H => ∃ xs : List V, SqB K H b a xs ∧ xs.length = i⟩
theorem turn_enumB {P : Program} {w : World} {K : PySem.W.Frag} {elts : List Expr} {kk : Nat} {tpos : Pos} (k : Int) (b : Bool) (a e it : Addr) (hei : e ≠ it) (hea : e ≠ a) (hai : a ≠ it) :
    Turn P w K (.Tuple elts kk tpos) (ItE K k b a) [e, it] e (fun i h => (∃ old, IsEnum h e it (k + (i : Int)) old) ∧ ItB h b it a i) where
  mem := by simp
  obj := fun i h st c hc => by
    obtain ⟨⟨old, he⟩, hit⟩ := st
    have e' : c = e ∨ c = it := by simpa using hc
    rcases e' with z | z
    · rw [z]; exact ⟨_, he, fun v q => nomatch q⟩
    · rw [z]; exact hit.obj
  keep := fun i h h' st q => by
    obtain ⟨⟨old, he⟩, hit⟩ := st
    exact ⟨⟨old, q e (by simp) _ he⟩, hit.at fun o z => q it (by simp) o z⟩
  item := by
    intro X hP hw hK hc i pins s σ H E I hf st hg
    subst hP hw hK
    obtain ⟨⟨old, he⟩, hit⟩ := st
    obtain ⟨xs, x, hq, hx⟩ := hg
    obtain ⟨its, rv, p, hz⟩ := inv_b I hq
    obtain ⟨u, hu, ru⟩ := rv.get hx
    have hil : i < its.toArray.size := by
      have := (List.getElem?_eq_some_iff.mp hu).1
      simpa using this
    have hel : e < s.heap.objs.size := Heap.lt_size he
    have hil2 : it < s.heap.objs.size := by obtain ⟨o, q, _⟩ := hit.obj; exact Heap.lt_size q
    refine (GoesN.enumFrom (P := fun j v => its.toArray[j]? = some v) k (draws_b (A := X.A.in1) (I.ok.hd hc) it a hai b its.toArray) e hei (by simp [hei, hea]) (by simp)).goes i s
      (fun u s2 => ∃ x H', Inv X pins σ H' s2 ∧ RelV x u ∧ (ItE X.K k b a).yld i H x H' ∧ ((∃ old, IsEnum s2.heap e it (k + ((i + 1 : Nat) : Int)) old) ∧ ItB s2.heap b it a (i + 1)) ∧ ∀ c ∈ [e, it], H' c = none) E hil ⟨⟨old, he⟩, hit, p⟩ ?_
    rintro v h' tk ⟨T, t, y, rfl, hT, hy, hIs⟩ ⟨he', hit', _⟩ hkeep htk
    have hyu : y = u := by
      have : its.toArray[i]? = some u := by simpa using hu
      rw [this] at hy; cases hy; rfl
    subst hyu
    have new : ObjOk X.prog X.w (upd H T (.tup [.int (k + (i : Int)), x])) h' T (.tup [.int (k + (i : Int)), x]) :=
      ⟨by show 2 ≤ sizeLine; decide, [.int (k + (i : Int)) t, y], .cons ⟨_, rfl⟩ (.cons ru .nil), hIs⟩
    have I1 : Inv X pins σ (upd H T (.tup [.int (k + (i : Int)), x])) { s with heap := h', toks := tk } := I.turnedNew (t' := tk) (ch := [e, it]) hkeep hf hT new
    refine ⟨.ref T, _, I1, rfl, ⟨T, x, rfl, I.hok.fresh hT, rfl, fun ys hys => by rw [inv_bj I hys hq]; exact hx⟩, ⟨he', hit'⟩, fun c hcm => ?_⟩
    have hlt : c < s.heap.objs.size := by
      have e' : c = e ∨ c = it := by simpa using hcm
      rcases e' with z | z
      · rw [z]; exact hel
      · rw [z]; exact hil2
    rw [upd_ne (Nat.ne_of_lt (Nat.lt_of_lt_of_le hlt hT))]
    exact (hf c hcm).1
  done := by
    intro X hP hw hK hc i pins s σ H E I hf st hg
    subst hP hw hK
    obtain ⟨⟨old, he⟩, hit⟩ := st
    obtain ⟨xs, hq, hx⟩ := hg
    obtain ⟨its, rv, p, hz⟩ := inv_b I hq
    have hl := rv.length
    have hn : its.toArray.size = i := by simp; omega
    subst hn
    exact (GoesN.enumFrom (P := fun j v => its.toArray[j]? = some v) (elts := elts) (x1 := kk) (pos := tpos) k (draws_b (A := X.A.in1) (I.ok.hd hc) it a hai b its.toArray) e hei (by simp [hei, hea]) (by simp)).stops s
      (fun s1 => Inv X pins σ H s1) E ⟨⟨old, he⟩, hit, p⟩ fun h' tk hkeep htk => I.turnedL (t' := tk) (ch := [e, it]) hkeep hf
  self := fun A i s Q E st h => let ⟨⟨_, he⟩, _⟩ := st; wpAny_pyIter_enum he h
def iEnB2 (K : PySem.W.Frag) (ta : TA) : TI := fun σ H R => ta σ H fun vs H1 => ∃ b a xs k, vs = [.ref a, .int k] ∧ -(2 ^ 63) ≤ k ∧ k < 2 ^ 63 ∧ SqB K H1 b a xs ∧ R (ItE K k b a) H1
def iEnB (K : PySem.W.Frag) (ta : TA) : TI := fun σ H R => ta σ H fun vs H1 => ∃ b a xs, vs = [.ref a] ∧ SqB K H1 b a xs ∧ R (ItE K 0 b a) H1
set_option maxHeartbeats 1000000 in
theorem meets_enum1 {v : Value} {o : Obj} {H : Heap → Prop} (B : Begins v o H) :
    Meets (Builtin.«enumerate.__new__» ⟨[.type "enumerate", v], []⟩) (fun _ R s => H s.heap ∧
      R (.ok (.ret (.ref (s.heap.push o).objs.size))) { s with heap := (s.heap.push o).push { cls := .type "enumerate", data := .fields #[.none, .bool false, .ref s.heap.objs.size, rawInt 0, .none, .none] } }) :=
  .of_wp fun prog w A R s h => by
    obtain ⟨hp, g, d, tk, os⟩ := s; obtain ⟨h1, h⟩ := h
    have hsub := sub_enumerate
    have q1 : ∀ {A' : Around} {E : Value → Shared → Prop} {Q : Value → Shared → Prop}, Q (.ref hp.objs.size) ⟨hp.push o, g, d, tk, os⟩ → wpAny (model prog w) A' (pyIter v) Q E ⟨hp, g, d, tk, os⟩ :=
      fun q => B.iter prog w _ _ ⟨hp, g, d, tk, os⟩ _ h1 q
    wp_walk using q1
    refine wpAny_stack_any fun st => wpAny_pure ?_
    split
    · rename_i c _ _ _ _ _
      cases (c == Value.type "enumerate")
      · wp_walk using q1
        exact ⟨_, rfl, h⟩
      · wp_walk using q1
        exact ⟨_, rfl, h⟩
    · wp_walk using q1
      exact ⟨_, rfl, h⟩
section
variable {prog : Program} {w : World} {A : Around} {E : Value → Shared → Prop} {s : Shared}
theorem enum_begins1 {v : Value} {o : Obj} {H : Heap → Prop} {Q : Value → Shared → Prop} (B : Begins v o H) (h1 : H s.heap)
    (h : ∀ h', IsEnum h' (s.heap.objs.size + 1) s.heap.objs.size 0 .none → h'.get? s.heap.objs.size = some o → h'.objs.size = s.heap.objs.size + 2 →
      (∀ b o, s.heap.get? b = some o → h'.get? b = some o) → Q (.ref (s.heap.objs.size + 1)) { s with heap := h' }) :
    wpAny (model prog w) A (call (.type "enumerate") [v]) Q E s := by
  refine callType_new F.called_enumerate (by decide) (F.typeCall_enumerate_1 _) (F.newCall_enumerate_1 _) (fun obj => F.args_object_init_2 obj _) F.entry_enumerate_new (meets_enum1 B) ⟨h1, ?_⟩
  have hz : (s.heap.push o).objs.size = s.heap.objs.size + 1 := Heap.size_push ..
  show _ ∧ _
  rw [hz]
  have he : IsEnum ((s.heap.push o).push { cls := .type "enumerate", data := .fields #[.none, .bool false, .ref s.heap.objs.size, rawInt 0, .none, .none] }) (s.heap.objs.size + 1) s.heap.objs.size 0 .none := by
    have := Heap.get?_push_size (s.heap.push o) (o := { cls := .type "enumerate", data := .fields #[.none, .bool false, .ref s.heap.objs.size, rawInt 0, .none, .none] }) rfl
    rw [hz] at this; exact this
  refine ⟨⟨_, he, rfl⟩, h _ he (Heap.get?_push_of_some _ (Heap.get?_push_size _ B.free)) (by rw [Heap.size_push, hz]) fun b o x => Heap.get?_push_of_some _ (Heap.get?_push_of_some _ x)⟩
end
section
variable {X : Cx} {e e2 : Expr} {ta : TA} {p pos tpos : Pos} {elts : List Expr} {kk : Nat}
theorem pi_enB {K : PySem.W.Frag} (hg : Gl X "enumerate") (hm : X.mg "enumerate" = none) (ha : PA X [e] ta) (hs : starEach [e] X.env = [(false, eval e X.env)] := by rfl) (hK : X.K = K := by rfl) :
    PI X (.Tuple elts kk tpos) (.Call (.Name "enumerate" p) [e] [] pos) (iEnB K ta) := by
  subst hK
  refine ⟨fun pins s σ H R I h => ?_⟩
  refine Call_ (ld_blt I hg hm boot_enumerate (PyProof.Rows.callWith_type1 (thn (ha.run pos pins s σ H _ I h) fun us s1 ⟨vs, H1, I1, r1, q1⟩ => ?_) hs rfl))
  obtain ⟨b, a, xs, ex, hq, q⟩ := q1
  subst ex
  cases r1 with
  | cons r rr =>
    cases rr
    cases r
    obtain ⟨its, rv, p', hz⟩ := inv_b I1 hq
    have hal := inv_lt I1 hq
    refine enum_begins1 (begins_b b a its.toArray) p' fun h' he hit hsz hk => wpAny_pyIter_enum he ?_
    have I2 : Inv X pins σ H1 { s1 with heap := h' } := I1.kept (t' := s1.toks) hk
    have n1 : (s1.heap.objs.size + 1 : Nat) ≠ s1.heap.objs.size := Nat.succ_ne_self _
    have n2 : (s1.heap.objs.size + 1 : Nat) ≠ a := by
      have : (a : Nat) < s1.heap.objs.size := hal
      exact Nat.ne_of_gt (Nat.lt_succ_of_lt this)
    refine ⟨s1.heap.objs.size + 1, [s1.heap.objs.size + 1, s1.heap.objs.size], _, _, H1, rfl, I2, turn_enumB 0 b a (s1.heap.objs.size + 1) s1.heap.objs.size n1 n2 (Nat.ne_of_lt hal), ⟨⟨.none, he⟩, itB_new hit⟩, fun c hb => ?_, q⟩
    have e' : c = s1.heap.objs.size + 1 ∨ c = s1.heap.objs.size := by simpa using hb
    have hle : s1.heap.objs.size ≤ c := by
      rcases e' with z | z
      · rw [z]; exact Nat.le_add_right _ _
      · rw [z]; exact Nat.le_refl _
    exact I1.fpOk hle (I1.hok.fresh hle)
end
/-! zip of two, of three -/
def ItZ2 (K : PySem.W.Frag) (b1 : Bool) (a1 : Addr) (b2 : Bool) (a2 : Addr) : It :=
  ⟨fun i H => ∃ (xs ys : List V) (x y : V), SqB K H b1 a1 xs ∧ SqB K H b2 a2 ys ∧ xs[i]? = some x ∧ ys[i]? = some y,
    fun i H v H' => ∃ T x y, v = .ref T ∧ H T = none ∧ H' = upd H T (.tup [x, y]) ∧ (∀ xs, SqB K H b1 a1 xs → xs[i]? = some x) ∧ ∀ ys, SqB K H b2 a2 ys → ys[i]? = some y,
    fun i H => ∃ xs ys : List V, SqB K H b1 a1 xs ∧ SqB K H b2 a2 ys ∧ min xs.length ys.length = i⟩
def ItZ3 (K : PySem.W.Frag) (b1 : Bool) (a1 : Addr) (b2 : Bool) (a2 : Addr) (b3 : Bool) (a3 : Addr) : It :=
  ⟨fun i H => ∃ (xs ys zs : List V) (x y z : V), SqB K H b1 a1 xs ∧ SqB K H b2 a2 ys ∧ SqB K H b3 a3 zs ∧ xs[i]? = some x ∧ ys[i]? = some y ∧ zs[i]? = some z,
    fun i H v H' => ∃ T x y z, v = .ref T ∧ H T = none ∧ H' = upd H T (.tup [x, y, z]) ∧ (∀ xs, SqB K H b1 a1 xs → xs[i]? = some x) ∧ (∀ ys, SqB K H b2 a2 ys → ys[i]? = some y) ∧ ∀ zs, SqB K H b3 a3 zs → zs[i]? = some z,
    fun i H => ∃ xs ys zs : List V, SqB K H b1 a1 xs ∧ SqB K H b2 a2 ys ∧ SqB K H b3 a3 zs ∧ min (min xs.length ys.length) zs.length = i⟩
theorem turn_z2 {P : Program} {w : World} {K : PySem.W.Frag} {elts : List Expr} {kk : Nat} {tpos : Pos} {b1 : Bool} {a1 : Addr} {b2 : Bool} {a2 z TI TO i1 i2 : Addr} (S : ZipSep2 z TI TO i1 i2 [i1, a1] [i2, a2]) (n1 : a1 ≠ i1) (n2 : a2 ≠ i2) :
    Turn P w K (.Tuple elts kk tpos) (ItZ2 K b1 a1 b2 a2) [z, TI, TO, i1, i2] z (fun i h => IsZip h z TI TO .none ∧ IsTupOf2 h TI (.ref i1) (.ref i2) ∧ (∃ c1 c2, IsTupOf2 h TO c1 c2) ∧ ItB h b1 i1 a1 i ∧ ItB h b2 i2 a2 i) where
  mem := by simp
  obj := fun i h st c hc => by
    obtain ⟨hz, hTI, ⟨c1, c2, hTO⟩, h1, h2⟩ := st
    have e' : c = z ∨ c = TI ∨ c = TO ∨ c = i1 ∨ c = i2 := by simpa using hc
    rcases e' with q | q | q | q | q
    · rw [q]; exact ⟨_, hz, fun v q => nomatch q⟩
    · rw [q]; exact ⟨_, hTI, fun v q => nomatch q⟩
    · rw [q]; exact ⟨_, hTO, fun v q => nomatch q⟩
    · rw [q]; exact h1.obj
    · rw [q]; exact h2.obj
  keep := fun i h h' st k => by
    obtain ⟨hz, hTI, ⟨c1, c2, hTO⟩, h1, h2⟩ := st
    exact ⟨k z (by simp) _ hz, k TI (by simp) _ hTI, ⟨c1, c2, k TO (by simp) _ hTO⟩, h1.at fun o q => k i1 (by simp) o q, h2.at fun o q => k i2 (by simp) o q⟩
  item := by
    intro X hP hw hK hc i pins s σ H E I hf st hg
    subst hP hw hK
    obtain ⟨hz, hTI, ⟨c1, c2, hTO⟩, h1, h2⟩ := st
    obtain ⟨xs, ys, x, y, hqx, hqy, hx, hy⟩ := hg
    obtain ⟨its, rv, p, _⟩ := inv_b I hqx
    obtain ⟨its2, rv2, p2, _⟩ := inv_b I hqy
    obtain ⟨u, hu, ru⟩ := rv.get hx
    obtain ⟨u2, hu2, ru2⟩ := rv2.get hy
    have l1 : i < its.toArray.size := by
      have := (List.getElem?_eq_some_iff.mp hu).1
      simpa using this
    have l2 : i < its2.toArray.size := by
      have := (List.getElem?_eq_some_iff.mp hu2).1
      simpa using this
    refine (GoesN.zip2 (P1 := fun j v => its.toArray[j]? = some v) (P2 := fun j v => its2.toArray[j]? = some v) S (draws_b (A := X.A.in1) (I.ok.hd hc) i1 a1 n1 b1 its.toArray) (draws_b (A := X.A.in1) (I.ok.hd hc) i2 a2 n2 b2 its2.toArray)).goes i s
      (fun u s2 => ∃ x H', Inv X pins σ H' s2 ∧ RelV x u ∧ (ItZ2 X.K b1 a1 b2 a2).yld i H x H' ∧ (IsZip s2.heap z TI TO .none ∧ IsTupOf2 s2.heap TI (.ref i1) (.ref i2) ∧ (∃ c1 c2, IsTupOf2 s2.heap TO c1 c2) ∧ ItB s2.heap b1 i1 a1 (i + 1) ∧ ItB s2.heap b2 i2 a2 (i + 1)) ∧ ∀ c ∈ [z, TI, TO, i1, i2], H' c = none) E (by omega) ⟨hz, hTI, ⟨c1, c2, hTO⟩, ⟨h1, p⟩, ⟨h2, p2⟩⟩ ?_
    rintro v h' tk ⟨T, y1, y2, rfl, hT, hy1, hy2, hIs⟩ ⟨hz', hTI', hTO', ⟨h1', _⟩, ⟨h2', _⟩⟩ hkeep htk
    have e1 : y1 = u := by
      have : its.toArray[i]? = some u := by simpa using hu
      rw [this] at hy1; cases hy1; rfl
    have e2 : y2 = u2 := by
      have : its2.toArray[i]? = some u2 := by simpa using hu2
      rw [this] at hy2; cases hy2; rfl
    subst e1; subst e2
    have new : ObjOk X.prog X.w (upd H T (.tup [x, y])) h' T (.tup [x, y]) := ⟨by show 2 ≤ sizeLine; decide, [y1, y2], .cons ru (.cons ru2 .nil), hIs⟩
    have I1 : Inv X pins σ (upd H T (.tup [x, y])) { s with heap := h', toks := tk } := I.turnedNew (t' := tk) (ch := [z, TO, i1, i2]) hkeep (fun c hm => hf c (by simp at hm ⊢; rcases hm with h | h | h | h <;> simp [h])) hT new
    refine ⟨.ref T, _, I1, rfl, ⟨T, x, y, rfl, I.hok.fresh hT, rfl, fun l hl => by rw [inv_bj I hl hqx]; exact hx, fun l hl => by rw [inv_bj I hl hqy]; exact hy⟩, ⟨hz', hTI', hTO', h1', h2'⟩, fun c hcm => ?_⟩
    have hlt : c < s.heap.objs.size := by
      have e' : c = z ∨ c = TI ∨ c = TO ∨ c = i1 ∨ c = i2 := by simpa using hcm
      rcases e' with q | q | q | q | q
      · rw [q]; exact Heap.lt_size hz
      · rw [q]; exact Heap.lt_size hTI
      · rw [q]; exact Heap.lt_size hTO
      · rw [q]; obtain ⟨o, e1, _⟩ := h1.obj; exact Heap.lt_size e1
      · rw [q]; obtain ⟨o, e1, _⟩ := h2.obj; exact Heap.lt_size e1
    rw [upd_ne (Nat.ne_of_lt (Nat.lt_of_lt_of_le hlt hT))]
    exact (hf c hcm).1
  done := by
    intro X hP hw hK hc i pins s σ H E I hf st hg
    subst hP hw hK
    obtain ⟨hz, hTI, ⟨c1, c2, hTO⟩, h1, h2⟩ := st
    obtain ⟨xs, ys, hqx, hqy, hend⟩ := hg
    obtain ⟨its, rv, p, _⟩ := inv_b I hqx
    obtain ⟨its2, rv2, p2, _⟩ := inv_b I hqy
    have l1 := rv.length
    have l2 := rv2.length
    have hn : min its.toArray.size its2.toArray.size = i := by simp; omega
    subst hn
    exact (GoesN.zip2 (P1 := fun j v => its.toArray[j]? = some v) (P2 := fun j v => its2.toArray[j]? = some v) (elts := elts) (x1 := kk) (pos := tpos) S (draws_b (A := X.A.in1) (I.ok.hd hc) i1 a1 n1 b1 its.toArray) (draws_b (A := X.A.in1) (I.ok.hd hc) i2 a2 n2 b2 its2.toArray)).stops s
      (fun s1 => Inv X pins σ H s1) E ⟨hz, hTI, ⟨c1, c2, hTO⟩, ⟨h1, p⟩, ⟨h2, p2⟩⟩ fun h' tk hkeep htk => I.turnedL (t' := tk) (ch := [z, TO, i1, i2]) hkeep (fun c hm => hf c (by simp at hm ⊢; rcases hm with h | h | h | h <;> simp [h]))
  self := fun A i s Q E st h => wpAny_pyIter_zip st.1 h
def iZ2 (K : PySem.W.Frag) (ta : TA) : TI := fun σ H R => ta σ H fun vs H1 => ∃ b1 a1 b2 a2 xs ys, vs = [.ref a1, .ref a2] ∧ SqB K H1 b1 a1 xs ∧ SqB K H1 b2 a2 ys ∧ R (ItZ2 K b1 a1 b2 a2) H1
def iZ3 (K : PySem.W.Frag) (ta : TA) : TI := fun σ H R => ta σ H fun vs H1 => ∃ b1 a1 b2 a2 b3 a3 xs ys zs, vs = [.ref a1, .ref a2, .ref a3] ∧ SqB K H1 b1 a1 xs ∧ SqB K H1 b2 a2 ys ∧ SqB K H1 b3 a3 zs ∧ R (ItZ3 K b1 a1 b2 a2 b3 a3) H1
section
variable {X : Cx} {e e2 e3 : Expr} {ta : TA} {p pos tpos : Pos} {elts : List Expr} {kk : Nat}
theorem le_add_any (n k : Nat) : n ≤ n + k := Nat.le_add_right _ _
theorem pi_zipS2 {K : PySem.W.Frag} (hg : Gl X "zip") (hm : X.mg "zip" = none) (ha : PA X [e, e2] ta) (hs : starEach [e, e2] X.env = (false, eval e X.env) :: starEach [e2] X.env := by rfl) (hpl : (backTo pos (starEach [e2] X.env)).any (·.1) = false := by rfl) (hK : X.K = K := by rfl) :
    PI X (.Tuple elts kk tpos) (.Call (.Name "zip" p) [e, e2] [] pos) (iZ2 K ta) := by
  subst hK
  refine ⟨fun pins s σ H R I h => ?_⟩
  refine Call_ (ld_blt I hg hm PyProof.Rows.boot_zip (PyProof.Rows.callWith_type1 (thn (ha.run pos pins s σ H _ I h) fun us s1 ⟨vs, H1, I1, r1, q1⟩ => ?_) hs hpl))
  obtain ⟨b1, a1, b2, a2, xs, ys, ex, hq1, hq2, q⟩ := q1
  subst ex
  cases r1 with
  | cons r rr =>
  cases rr with
  | cons r' rr =>
    cases rr
    cases r
    cases r'
    obtain ⟨its, rv, p1, _⟩ := inv_b I1 hq1
    obtain ⟨its2, rv2, p2, _⟩ := inv_b I1 hq2
    have g1 : (a1 : Nat) < s1.heap.objs.size := inv_lt I1 hq1
    have g2 : (a2 : Nat) < s1.heap.objs.size := inv_lt I1 hq2
    refine zip_begins2 (begins_b b1 a1 its.toArray) (begins_b b2 a2 its2.toArray) p1 p2 fun h' hz hTI hTO h1 h2 hsz hk => wpAny_pyIter_zip hz ?_
    have I2 : Inv X pins σ H1 { s1 with heap := h' } := I1.kept (t' := s1.toks) hk
    refine ⟨s1.heap.objs.size + 4, [s1.heap.objs.size + 4, s1.heap.objs.size + 2, s1.heap.objs.size + 3, s1.heap.objs.size, s1.heap.objs.size + 1], _, _, H1, rfl, I2,
      turn_z2 (zip_sep2 (fp1 := [a1]) (fp2 := [a2]) (fun c hc => by simp at hc; rw [hc]; exact g1) (fun c hc => by simp at hc; rw [hc]; exact g2)) (Nat.ne_of_lt g1) (Nat.ne_of_lt (Nat.lt_of_lt_of_le g2 (Nat.le_add_right _ _))), ⟨hz, hTI, ⟨_, _, hTO⟩, itB_new h1, itB_new h2⟩, fun c hcm => ?_, q⟩
    have e' : c = s1.heap.objs.size + 4 ∨ c = s1.heap.objs.size + 2 ∨ c = s1.heap.objs.size + 3 ∨ c = s1.heap.objs.size ∨ c = s1.heap.objs.size + 1 := by simpa using hcm
    have hle : s1.heap.objs.size ≤ c := by
      rcases e' with z | z | z | z | z
      · rw [z]; exact le_add_any _ _
      · rw [z]; exact le_add_any _ _
      · rw [z]; exact le_add_any _ _
      · rw [z]; exact Nat.le_refl _
      · rw [z]; exact le_add_any _ _
    exact I1.fpOk hle (I1.hok.fresh hle)
end
/-! ### their readings -/
/-- frozen sequences -/
inductive FrS : Sl → List D → Prop
  | l {ds : List D} : FrS (.v (.lst ds)) ds
  | t {ds : List D} : FrS (.v (.tup ds)) ds
  | s {b : Bool} {ds : List D} : FrS (.v (D.seq b ds)) ds
theorem sqb_same {K : PySem.W.Frag} {F F' : Hp} {b : Bool} {a : Addr} {xs : List V} (e : Same F F') (h : SqB K F b a xs) : SqB K F' b a xs := by
  cases b with
  | true => exact sqt_same K e h
  | false => exact e.seq h
section
variable {K : PySem.W.Frag} {ρ : Rho} {M : List MO}
theorem FrS.get {α : Al} {F : Hp} {s : Sl} {ds : List D} {u : V} (h : FrS s ds) (o : SlOk K α F s u) : ∃ b a vs, u = .ref a ∧ SqB K F b a vs ∧ Dens K F ds vs := by
  have L : ∀ {u : V}, SlOk K α F (.v (.lst ds)) u → ∃ b a vs, u = .ref a ∧ SqB K F b a vs ∧ Dens K F ds vs := fun o => by
    obtain ⟨a, vs, h1, h2, h3⟩ := o
    exact ⟨false, a, vs, h1, SqL.of h2, h3⟩
  have T : ∀ {u : V}, SlOk K α F (.v (.tup ds)) u → ∃ b a vs, u = .ref a ∧ SqB K F b a vs ∧ Dens K F ds vs := fun o => by
    obtain ⟨a, vs, h1, h2, h3⟩ := o
    exact ⟨true, a, vs, h1, h2, h3⟩
  cases h with
  | l => exact L o
  | t => exact T o
  | @s b _ =>
    cases b with
    | true => exact T o
    | false => exact L o
def enumD (k : Int) (ds : List D) : List D := ds.mapIdx fun i d => .tup [.int (k + (i : Int)), d]
theorem ite_ok {F : Hp} {k : Int} {b : Bool} {a : Addr} {vs : List V} {ds : List D} (h : SqB K F b a vs) (hd : Dens K F ds vs) : ItOk K (ItE K k b a) F (enumD k ds) := fun i F1 H s1 s2 => by
  have hH := sqb_same s2 (sqb_same s1 h)
  refine ⟨fun hl => ⟨vs, hH, by rw [← hd.length]; simpa [enumD] using hl⟩, fun d e => ?_⟩
  unfold enumD at e
  rw [List.getElem?_mapIdx] at e
  cases e3 : ds[i]? with
  | none => rw [e3] at e; cases e
  | some d0 =>
    rw [e3] at e
    cases e
    obtain ⟨v, e2, r⟩ := hd.get e3
    refine ⟨⟨vs, v, hH, e2⟩, fun x H' ⟨T, y, ex, hT, eH, hy⟩ => .inr ⟨T, _, _, ex, hT, eH, rfl, ?_⟩⟩
    have := hy vs hH
    rw [e2] at this; cases this
    exact Dens.cons rfl (Dens.cons (Den.mono K s1 _ _ r) Dens.nil)
theorem ei_enB {tl : TA} {R : List D → Prop} (h : EvA K tl ρ M fun ss => ∃ s ds, ss = [s] ∧ FrS s ds ∧ R (enumD 0 ds)) : EvI K (iEnB K tl) ρ M R := fun σ α F H en S k kk =>
  h σ α F H en S _ fun vs F1 H1 ss m1 S1 o1 ⟨s, ds, e1, hr, q⟩ => by
    subst e1
    obtain ⟨v, r, rfl, hv, r2⟩ := o1
    have r2 : r = [] := r2
    subst r2
    obtain ⟨b, a, us, rfl, h1, h2⟩ := hr.get hv
    exact ⟨b, a, us, rfl, sqb_same S1.sub h1, kk _ F1 H1 _ m1 S1 (ite_ok h1 h2) q⟩
def zip2D (ds es : List D) : List D := ds.zipWith (fun d c => .tup [d, c]) es
theorem ei_z2 {tl : TA} {R : List D → Prop} (h : EvA K tl ρ M fun ss => ∃ s1 s2 ds es, ss = [s1, s2] ∧ FrS s1 ds ∧ FrS s2 es ∧ R (zip2D ds es)) : EvI K (iZ2 K tl) ρ M R := fun σ α F H en S k kk =>
  h σ α F H en S _ fun vs F1 H1 ss m1 S1 o1 ⟨t1, t2, ds, es, e1, hr1, hr2, q⟩ => by
    subst e1
    obtain ⟨v, r, rfl, hv, r2⟩ := o1
    obtain ⟨w, r', rfl, hw, r3⟩ := r2
    have r3 : r' = [] := r3
    subst r3
    obtain ⟨b, a, us, rfl, h1, h2⟩ := hr1.get hv
    obtain ⟨b', a', ws, rfl, h3, h4⟩ := hr2.get hw
    refine ⟨b, a, b', a', us, ws, rfl, sqb_same S1.sub h1, sqb_same S1.sub h3, kk _ F1 H1 _ m1 S1 (fun i F2 H2 s1 s2 => ?_) q⟩
    have hH := sqb_same s2 (sqb_same s1 h1)
    have hH' := sqb_same s2 (sqb_same s1 h3)
    refine ⟨fun hl => ⟨us, ws, hH, hH', ?_⟩, fun d e => ?_⟩
    · unfold zip2D at hl
      rw [List.length_zipWith, h2.length, h4.length] at hl; exact hl
    · unfold zip2D at e
      rw [List.getElem?_zipWith] at e
      cases e3 : ds[i]? with
      | none => rw [e3] at e; cases e
      | some d0 =>
        cases e4 : es[i]? with
        | none => rw [e3, e4] at e; cases e
        | some c0 =>
          rw [e3, e4] at e
          cases e
          obtain ⟨v, e5, r⟩ := h2.get e3
          obtain ⟨w, e6, r'⟩ := h4.get e4
          refine ⟨⟨us, ws, v, w, hH, hH', e5, e6⟩, fun x H' ⟨T, y, z, ex, hT, eH, hy, hz⟩ => .inr ⟨T, _, _, ex, hT, eH, rfl, ?_⟩⟩
          have p1 := hy us hH
          have p2 := hz ws hH'
          rw [e5] at p1; cases p1
          rw [e6] at p2; cases p2
          exact Dens.cons (Den.mono K s1 _ _ r) (Dens.cons (Den.mono K s1 _ _ r') Dens.nil)
def zip3D : List D → List D → List D → List D
  | d :: ds, c :: cs, e :: es => .tup [d, c, e] :: zip3D ds cs es
  | _, _, _ => []
end
end DL

/-! DL13: dicts that are walked; displays; xs[i] += e; calls that hand out new things. -/
namespace DL
open PySem L2
section
variable {K : PySem.W.Frag} {e : Ent} {ρ : Rho} {M : List MO} {te ta tb : TE} {t u : TS} {Q : Sl → Prop} {nx bk ct : Rho → List MO → Prop} {rt : Sl → List MO → Prop}
theorem Sta.unl {α : Al} {F H : Hp} {k : Nat} {d : Addr} {od : Obj} {kvs : List (Key × V)} {ks : List Key} {ds : List D} (S : Sta K α M F H) (hM : M[k]? = some (.frz d od kvs ks ds)) :
    H d = some (.frz od (.dK kvs)) ∧ Move α F H F (upd H d (.dK kvs)) ∧ Sta K α (M.set k (.dic ks ds)) F (upd H d (.dK kvs)) := by
  obtain ⟨q, hq⟩ := sta_get S hM
  obtain ⟨hF, hd, hH, vs, e1, hl, hden⟩ := S.ob k _ q hM hq
  subst hd
  exact ⟨hH, S.write (m' := .dic ks ds) (o := .dK kvs) hq hF ⟨hF, vs, by rw [e1]; exact upd_same, hl, hden⟩⟩
theorem r_lock {j k : Nat} {ks : List Key} {ds : List D} (hj : ρ[j]? = some (some (.l k))) (hk : M[k]? = some (.dic ks ds))
    (h : ∀ d od kvs, RunD K e t ρ (M.set k (.frz d od kvs ks ds)) (fun ρ' M' => M'[k]? = some (.frz d od kvs ks ds) ∧ nx ρ' (M'.set k (.dic ks ds))) (fun s M' => M'[k]? = some (.frz d od kvs ks ds) ∧ rt s (M'.set k (.dic ks ds)))
      (fun ρ' M' => M'[k]? = some (.frz d od kvs ks ds) ∧ bk ρ' (M'.set k (.dic ks ds))) (fun ρ' M' => M'[k]? = some (.frz d od kvs ks ds) ∧ ct ρ' (M'.set k (.dic ks ds)))) :
    RunD K e (tLock t) ρ M nx rt bk ct := fun X σ α F H g ok => by
  obtain ⟨v, h1, p, hp, rfl⟩ := g.env.at' j _ hj
  obtain ⟨hF, vs, hvs, hl, hd⟩ := g.sta.ob k _ p hk hp
  refine ⟨p.1, .dK (ks.zip vs), hvs, trivial, fun od => ?_⟩
  obtain ⟨m2, S2⟩ := g.sta.write (m' := .frz p.1 od (ks.zip vs) ks ds) (o := .frz od (.dK (ks.zip vs))) hp hF ⟨hF, rfl, upd_same, vs, rfl, hl, hd⟩
  refine h p.1 od (ks.zip vs) _ σ α F _ ⟨g.env, S2, g.st.move m2⟩ ⟨fun σ' α' F' H' ρ' M' g' z ⟨hM, q⟩ => ?_, fun w s α' F' H' M' o S' st z ⟨hM, q⟩ => ?_, fun σ' α' F' H' ρ' M' g' z ⟨hM, q⟩ => ?_, fun σ' α' F' H' ρ' M' g' z ⟨hM, q⟩ => ?_⟩
  · obtain ⟨a1, a2, a3⟩ := g'.sta.unl hM
    exact ⟨a1, ok.nx _ α' F' _ _ _ ⟨g'.env, a3, g'.st.move a2⟩ z q⟩
  · obtain ⟨a1, a2, a3⟩ := S'.unl hM
    exact ⟨a1, ok.rt _ s α' F' _ _ o a3 (st.move a2) z q⟩
  · obtain ⟨a1, a2, a3⟩ := g'.sta.unl hM
    exact ⟨a1, ok.bk _ α' F' _ _ _ ⟨g'.env, a3, g'.st.move a2⟩ z q⟩
  · obtain ⟨a1, a2, a3⟩ := g'.sta.unl hM
    exact ⟨a1, ok.ct _ α' F' _ _ _ ⟨g'.env, a3, g'.st.move a2⟩ z q⟩
theorem set_frz {k : Nat} {m m' : MO} (hk : M[k]? = some m) : (M.set k m')[k]? = some m' ∧ (M.set k m').set k m = M := by
  have hl : k < M.length := (List.getElem?_eq_some_iff.mp hk).1
  refine ⟨List.getElem?_set_self hl, ?_⟩
  rw [List.set_set]
  apply List.ext_getElem?
  intro i
  by_cases e : k = i
  · subst e; rw [List.getElem?_set_self hl, hk]
  · rw [List.getElem?_set_ne e]
theorem ev_lock {j k : Nat} {ks : List Key} {ds : List D} (hj : ρ[j]? = some (some (.l k))) (hk : M[k]? = some (.dic ks ds))
    (h : ∀ d od kvs, EvP K te ρ (M.set k (.frz d od kvs ks ds)) Q) : EvP K (tLockE te) ρ M Q := fun σ α F H en S kk0 kk => by
  obtain ⟨v, h1, p, hp, rfl⟩ := en.at' j _ hj
  obtain ⟨hF, vs, hvs, hl, hd⟩ := S.ob k _ p hk hp
  refine ⟨p.1, .dK (ks.zip vs), hvs, trivial, fun od => ?_⟩
  obtain ⟨m2, S2⟩ := S.write (m' := .frz p.1 od (ks.zip vs) ks ds) (o := .frz od (.dK (ks.zip vs))) hp hF ⟨hF, rfl, upd_same, vs, rfl, hl, hd⟩
  refine h p.1 od (ks.zip vs) σ α F _ en S2 _ fun w F' H' s m3 S3 o3 q3 => ?_
  obtain ⟨b1, b2⟩ := set_frz (m' := .frz p.1 od (ks.zip vs) ks ds) hk
  obtain ⟨a1, a2, a3⟩ := S3.unl b1
  rw [b2] at a3
  exact ⟨a1, kk _ F' _ s ((m2.trans m3).trans a2) a3 o3 q3⟩
/-- for k in d, the dict locked -/
theorem r_forK {j k : Nat} {g : TG} {d : Addr} {od : Obj} {kvs : List (Key × V)} {ks : List Key} {ds : List D} (is : List Nat) (hj : ρ[j]? = some (some (.l k))) (hk : M[k]? = some (.frz d od kvs ks ds))
    (h : ∃ I : Nat → Rho → List MO → Prop, I 0 ρ M ∧
      (∀ i key ρ' M', ks[i]? = some key → I i ρ' M' → M'[k]? = some (.frz d od kvs ks ds) → EvG K g is (.raw (kV key)) ρ' fun ρ2 => RunD K e t ρ2 M' (fun ρ3 M3 => M3[k]? = some (.frz d od kvs ks ds) ∧ I (i + 1) ρ3 M3) rt nx (fun ρ3 M3 => M3[k]? = some (.frz d od kvs ks ds) ∧ I (i + 1) ρ3 M3)) ∧
      ∀ ρ' M', I ks.length ρ' M' → M'[k]? = some (.frz d od kvs ks ds) → nx ρ' M') : RunD K e (tFor (iKeys (tVar j)) g t) ρ M nx rt bk ct := fun X σ α F H gd ok => by
  obtain ⟨v, h1, p, hp, rfl⟩ := gd.env.at' j _ hj
  obtain ⟨hF, hpd, hH, vs, ekv, hl, hden⟩ := gd.sta.ob k _ p hk hp
  subst hpd
  obtain ⟨I, h0, hs, hd⟩ := h
  have kl : kvs.length = ks.length := by rw [ekv, List.length_zip, ← hl, Nat.min_self]
  have kg : ∀ {i : Nat} {key : Key} {w : V}, kvs[i]? = some (key, w) → ks[i]? = some key := fun {i key w} q => by
    rw [ekv] at q
    have := congrArg (Option.map Prod.fst) q
    rw [← List.getElem?_map, List.map_fst_zip (by omega)] at this
    exact this
  refine ⟨_, h1, p.1, od, rfl, .inl ⟨kvs, hH, ?_⟩⟩
  refine ⟨fun i m σ' H' => m = ks.length - i ∧ i ≤ ks.length ∧ ∃ ρ' M' α' F', Good K e α' F' H' σ' ρ' M' ∧ Same F F' ∧ M'[k]? = some (.frz p.1 od kvs ks ds) ∧ I i ρ' M', ⟨_, rfl, Nat.zero_le _, ρ, M, α, F, gd, fun _ _ z => z, hk, h0⟩, ?_⟩
  rintro i m σ' H' ⟨rfl, hi, ρ', M', α', F', g', s', hM, pI⟩
  have hfz : H' p.1 = some (.frz od (.dK kvs)) := (g'.sta.unl hM).1
  by_cases hlt : i < ks.length
  · have hget : ks[i]? = some ks[i] := List.getElem?_eq_getElem hlt
    refine .inr ⟨⟨hfz, by omega⟩, fun σ2 H2 => ∃ ρ2 M2 α2 F2, Good K e α2 F2 H2 σ2 ρ2 M2 ∧ Same F F2 ∧ M2[k]? = some (.frz p.1 od kvs ks ds) ∧ I (i + 1) ρ2 M2, fun σ2 H2 ⟨ρ2, M2, α2, F2, g2, s2, hM2, p2⟩ => ⟨ks.length - (i + 1), by omega, rfl, hlt, ρ2, M2, α2, F2, g2, s2, hM2, p2⟩, fun x H2 y => ?_⟩
    obtain ⟨rfl, key, w, hkw, rfl⟩ := y
    have hkey := kg hkw
    refine hs i key ρ' M' hkey pI hM σ' α' F' H2 (kV key) g'.env g'.sta.sub rfl _ fun σ3 ρ3 en3 _ _ q3 => ?_
    have ok2 := ok.at s'
    exact q3 _ σ3 α' F' H2 ⟨en3, g'.sta, g'.st⟩ ⟨fun σ4 α4 F4 H4 ρ4 M4 g4 z4 ⟨hM4, q4⟩ => ⟨ρ4, M4, α4, F4, g4, s'.trans z4, hM4, q4⟩, ok2.rt, ok2.nx, fun σ4 α4 F4 H4 ρ4 M4 g4 z4 ⟨hM4, q4⟩ => ⟨ρ4, M4, α4, F4, g4, s'.trans z4, hM4, q4⟩⟩
  · have ei : i = ks.length := by omega
    subst ei
    exact .inl ⟨⟨hfz, by omega⟩, ok.nx _ _ _ _ _ _ g' s' (hd ρ' M' pI hM)⟩
/-! comprehensions over what stands in a numbered thing -/
def ItOkS (K : PySem.W.Frag) (α : Al) (M : List MO) (J : It) (F : Hp) (items : List D) : Prop := ∀ (i : Nat) (F1 H : Hp), Same F F1 → Sta K α M F1 H → (items.length = i → J.stop i H) ∧
  ∀ d, items[i]? = some d → J.go i H ∧ ∀ x H', J.yld i H x H' → H' = H ∧ Den K F1 d x
def EvIS (K : PySem.W.Frag) (wi : TI) (ρ : Rho) (M : List MO) (R : List D → Prop) : Prop := ∀ (σ : L2.St) (α : Al) (F H : Hp), EnvOk K α F σ ρ → Sta K α M F H → ∀ k : It → Hp → Prop,
  (∀ J F' H' items, Move α F H F' H' → Sta K α M F' H' → ItOkS K α M J F' items → R items → k J H') → wi σ H k
theorem it_turnS {α : Al} {J : It} {F F1 H : Hp} {items : List D} {i : Nat} {d : D} {x : V} {H' : Hp} (ok : ItOkS K α M J F items) (s1 : Same F F1) (S : Sta K α M F1 H) (hd : items[i]? = some d) (y : J.yld i H x H') :
    ∃ F2, Move α F1 H F2 H' ∧ Sta K α M F2 H' ∧ Den K F2 d x := by
  obtain ⟨rfl, h⟩ := ((ok i F1 H s1 S).2 d hd).2 x H' y
  exact ⟨F1, .refl, S, h⟩
theorem ei_keys {j k : Nat} {d : Addr} {od : Obj} {kvs : List (Key × V)} {ks : List Key} {ds : List D} {R : List D → Prop} (hj : ρ[j]? = some (some (.l k))) (hk : M[k]? = some (.frz d od kvs ks ds)) (q : R (ks.map fun key => .raw (kV key))) : EvIS K (iKeys (tVar j)) ρ M R := fun σ α F H en S kk0 kk => by
  obtain ⟨v, h1, p, hp, rfl⟩ := en.at' j _ hj
  obtain ⟨hF, hpd, hH, vs, ekv, hl, hden⟩ := S.ob k _ p hk hp
  subst hpd
  have kl : kvs.length = ks.length := by rw [ekv, List.length_zip, ← hl, Nat.min_self]
  refine ⟨_, h1, p.1, od, rfl, .inl ⟨kvs, hH, kk _ F H _ .refl S (fun i F1 H1 s1 S1 => ?_) q⟩⟩
  have hfz := (S1.unl hk).1
  refine ⟨fun hz => ⟨hfz, by rw [List.length_map] at hz; omega⟩, fun x hx => ?_⟩
  rw [List.getElem?_map] at hx
  obtain ⟨key, hkey, rfl⟩ := Option.map_eq_some_iff.mp hx
  have := (List.getElem?_eq_some_iff.mp hkey).1
  refine ⟨⟨hfz, by omega⟩, fun y H' ⟨e1, key', w, hkw, e2⟩ => ⟨e1, ?_⟩⟩
  subst e2
  rw [ekv] at hkw
  have z := congrArg (Option.map Prod.fst) hkw
  rw [← List.getElem?_map, List.map_fst_zip (by omega), hkey] at z
  have z : key = key' := by simpa using z
  subst z
  rfl
theorem ev_lcS {wi : TI} {g : TG} {tt : TT} {vs : List Nat} (h : EvIS K wi ρ M fun items => items.length ≤ 16777216 ∧ ∃ I : Nat → List D → Prop, I 0 [] ∧
      (∀ i d acc, items[i]? = some d → I i acc → EvG K g vs d (wipeR ρ vs) fun ρ' => EvT K tt ρ' M fun b => if b = true then EvP K te ρ' M (fun s => ∃ d', s = .v d' ∧ I (i + 1) (acc ++ [d'])) else I (i + 1) acc) ∧
      ∀ acc, I items.length acc → Q (.v (.lst acc))) : EvP K (tLc wi g tt te vs) ρ M Q := fun σ α F H en S k kk =>
  h σ α F H en S _ fun J F1 H1 items m1 S1 it ⟨hz, I, h0, hs, hd⟩ => by
    intro A hA
    have hFA : F1 A = none := S1.sub.free hA
    have hna := S1.notin hA
    refine ⟨fun i m H' => m = items.length - i ∧ i ≤ items.length ∧ ∃ F' acc us, Move α F1 H1 F' H' ∧ Sta K α M F' H' ∧ H' A = some (.lst us) ∧ F' A = none ∧ Dens K F' acc us ∧ acc.length ≤ i ∧ I i acc,
      ⟨_, rfl, Nat.zero_le _, F1, [], [], ?_, S1.extra hFA hna, upd_same, hFA, rfl, Nat.le_refl _, h0⟩, ?_⟩
    · exact ⟨fun _ _ z => z, fun b o q _ => by rw [upd_ne (ne_of_none q hA)]; exact q, fun b q => by { rw [upd_ne (fun z => q (by rw [z]; exact hA))]; exact q }, fun b q => .inl q⟩
    rintro i m H' ⟨rfl, hi, F', acc, us, mv, S', hAt, hFA', hden, hlen, p⟩
    by_cases hlt : i < items.length
    · have hget : items[i]? = some items[i] := List.getElem?_eq_getElem hlt
      refine .inr ⟨((it i F' H' mv.ex S').2 _ hget).1, fun H2 => ∃ F2 acc us, Move α F1 H1 F2 H2 ∧ Sta K α M F2 H2 ∧ H2 A = some (.lst us) ∧ F2 A = none ∧ Dens K F2 acc us ∧ acc.length ≤ i + 1 ∧ I (i + 1) acc,
        fun H2 ⟨F2, acc, us, a, b, c, d, f, g, h⟩ => ⟨items.length - (i + 1), by omega, rfl, hlt, F2, acc, us, a, b, c, d, f, g, h⟩, fun x H2 y => ?_⟩
      obtain ⟨F2, m2, S2, hx⟩ := it_turnS it mv.ex S' hget y
      have enw := ((en.mono m1.ex).mono (mv.ex.trans m2.ex)).wipe vs
      refine hs i _ acc hget p (L2.wipe σ vs) α F2 H2 x enw S2.sub hx _ fun σ3 ρ3 en3 l3 f3 q3 => ⟨?_, ?_⟩
      · have := wipe_eq (σ := L2.wipe σ vs) l3 f3
        rw [wipe_wipe] at this
        exact this
      refine q3 σ3 α F2 H2 en3 S2 _ fun b F3 H3 m3 S3 q4 => ?_
      have mA : Move α F' H' F3 H3 := m2.trans m3
      have hA3 : H3 A = some (.lst us) := mA.fr A _ hAt hna
      have nF : ∀ F4 H4, Move α F' H' F4 H4 → F4 A = none := fun F4 H4 mm => by
        cases z : F4 A with
        | none => rfl
        | some o =>
          rcases mm.new A (by rw [z]; simp) with q | q
          · exact absurd hFA' q
          · rw [hAt] at q; cases q
      cases b with
      | true =>
        refine iteT ?_
        have q4 : EvP K te ρ3 M (fun s => ∃ d', s = .v d' ∧ I (i + 1) (acc ++ [d'])) := q4
        refine q4 σ3 α F3 H3 (en3.mono m3.ex) S3 _ fun v F4 H4 s m4 S4 o4 ⟨d', e4, p4⟩ => ?_
        subst e4
        have mB : Move α F' H' F4 H4 := mA.trans m4
        have hA4 : H4 A = some (.lst us) := mB.fr A _ hAt hna
        have mC : Move α F1 H1 F4 H4 := mv.trans mB
        refine ⟨us, hA4, by rw [← hden.length, sizeLine_eq]; omega, F4, acc ++ [d'], us ++ [v], ⟨mC.ex, fun b o q z => ?_, fun b q => ?_, mC.new⟩, S4.extra (nF _ _ mB) hna, upd_same, nF _ _ mB, (Dens.mono K mB.ex _ _ hden).append (Dens.cons o4 Dens.nil), by simp; omega, p4⟩
        · rw [upd_ne (ne_of_none q hA)]; exact mC.fr b o q z
        · rw [upd_ne (fun z => q (by rw [z]; exact hA))]; exact mC.tr b q
      | false =>
        refine iteF ?_
        exact ⟨F3, acc, us, mv.trans mA, S3, hA3, nF _ _ mA, Dens.mono K mA.ex _ _ hden, by omega, q4⟩
    · have ei : i = items.length := by omega
      subst ei
      obtain ⟨s5, S5⟩ := S'.ice hFA' hAt hna
      refine .inl ⟨(it _ F' H' mv.ex S').1 rfl, kk (.ref A) _ H' (.v (.lst acc)) ⟨(m1.trans mv).ex.trans s5, fun b o q z => (m1.trans mv).fr b o q z, (m1.trans mv).tr, fun b q => ?_⟩ S5 (show Den K _ (.lst acc) _ from ⟨A, us, rfl, upd_same, Dens.mono K s5 _ _ hden⟩) (hd acc p)⟩
      by_cases eb : b = A
      · subst eb; exact .inr (none_back (m1.tr b) hA)
      · rw [upd_ne eb] at q; exact (m1.trans mv).new b q
/-- xs[i] += e -/
def pgL (K : PySem.W.Frag) : V → V → Hp → VK → Prop := rIxL K
end
section
variable {X : Cx}
end
end DL

/-! DL14: the end of a row, for classes and tuples. -/
namespace DL
open PySem L2
section
variable {K : PySem.W.Frag} {mg : Str → Option Value} {R : Prop} {x f : Str} {h : Heap} {C : Addr}
theorem cls_k (X : K.In h) (G : h.Ns mainGlobals mg) (a : PySem.W.nsIn K mainGlobals x = some (some (.ref C))) (pg : PySem.W.plainGet K C Str.empty = true) (hd : PySem.W.hasDictIn K C = true) (po : PySem.W.plainOver K C = true) (sa : PySem.W.findIn K (.ref C) "__setattr__" = some (some (.builtin "object.__setattr__")))
    (ha : PySem.W.findIn K (.ref C) "__class__" = some (some (.builtin "object.__class__"))) (hn : PySem.W.specialIn K (.builtin "object.__class__") "__get__" = some (some (.builtin "getset_descriptor.__get__"))) (htk : PySem.W.takesIn K (.builtin "object.__class__") = some true) (hm : PySem.W.mroIn K C (.type "object") = some true)
    (z : mg x = some (.ref C) → ClsI K C → R) : R := z (PySem.W.mg_of X G a) ⟨⟨pg, hd, po, sa⟩, ha, hn, htk, hm⟩
theorem noattr_k (k : ClsI K C) (h : PySem.W.findIn K (.ref C) f = some none) (z : NoAttr K C f → R) : R := z h
theorem init_k {qual : Str} {st : Stmt} {ps : List Str} {f : Addr} {oc : Value} {od an : Option Addr} {osl : Array (Option Value)} {kV doc pm cdv ct : Value} (cl : ClsI K C)
    (m : PySem.W.makesIn K C = true) (i : PySem.W.findIn K (.ref C) "__init__" = some (some (.ref f))) (fn : PySem.W.isFn K (.ref f) = true) (kp : PySem.W.keepIn K (.ref C) = true) (l : K.lookup f = some ⟨oc, od, .func (PySem.W.fnOf "__init__" qual (defArgs st) (defBody st) (defScope st) .none kV doc pm an cdv ct), osl⟩)
    (c : PySem.W.codeIn K cdv qual = true) (k : PySem.W.keepIn K (.ref f) = true)
    (b : ∀ (kV doc pm : Value) (an : Option Addr) (cdv ct : Value) (us : List Value), us.length = ps.length → bindArgs (PySem.W.fnOf "__init__" qual (defArgs st) (defBody st) (defScope st) .none kV doc pm an cdv ct) ⟨us, []⟩ = pure (ps.zip us)) (z : InitAt K C qual st ps → R) : R :=
  z ⟨f, _, ⟨m, i, fn, kp⟩, fun_mk l c k, (fun_mk (st := st) l c k).binds b⟩
theorem meth_k {qual : Str} {st : Stmt} {ps : List Str} {f : Addr} {oc : Value} {od an : Option Addr} {osl : Array (Option Value)} {kV doc pm cdv ct : Value} (cl : ClsI K C)
    (a : PySem.W.findIn K (.ref C) x = some (some (.ref f))) (i : PySem.W.isFn K (.ref f) = true) (l : K.lookup f = some ⟨oc, od, .func (PySem.W.fnOf x qual (defArgs st) (defBody st) (defScope st) .none kV doc pm an cdv ct), osl⟩)
    (c : PySem.W.codeIn K cdv qual = true) (k : PySem.W.keepIn K (.ref f) = true)
    (b : ∀ (kV doc pm : Value) (an : Option Addr) (cdv ct : Value) (us : List Value), us.length = ps.length → bindArgs (PySem.W.fnOf x qual (defArgs st) (defBody st) (defScope st) .none kV doc pm an cdv ct) ⟨us, []⟩ = pure (ps.zip us)) (z : MethAt K C x qual st ps → R) : R :=
  z (meth_mk a i l c k b)
theorem prop_k {qual : Str} {st : Stmt} {p g : Addr} {rest : List Value} {oc : Value} {od an : Option Addr} {osl : Array (Option Value)} {kV doc pm cdv ct : Value} {p1 p2 p3 : Pos} (cl : ClsI K C) (n : NoAttr K C f)
    (h1 : PySem.W.findIn K (.ref C) x = some (some (.ref p))) (h2 : PySem.W.specialIn K (.ref p) "__get__" = some (some (.builtin "property.__get__"))) (h3 : PySem.W.takesIn K (.ref p) = some true) (h4 : PySem.W.recIn K p "property" = some (.ref g :: rest))
    (l : K.lookup g = some ⟨oc, od, .func (PySem.W.fnOf x qual (defArgs st) (defBody st) (defScope st) .none kV doc pm an cdv ct), osl⟩) (c : PySem.W.codeIn K cdv qual = true) (k : PySem.W.keepIn K (.ref g) = true)
    (S : FnScope ["self"] ["self"] (defScope st)) (hb : defBody st = [.Return (some (.Attribute (.Name "self" p1) f p2)) p3])
    (b : ∀ (kV doc pm : Value) (an : Option Addr) (cdv ct : Value) (us : List Value), us.length = 1 → bindArgs (PySem.W.fnOf x qual (defArgs st) (defBody st) (defScope st) .none kV doc pm an cdv ct) ⟨us, []⟩ = pure ([("self" : Str)].zip us)) (z : Getter K C x f → R) : R :=
  z (prop_mk h1 h2 h3 h4 l c k S hb b cl.cl n)
theorem ctup_k {vs : List V} {o : Obj} {its : Array Value} {n : Nat} (X : K.In h) (G : h.Ns mainGlobals mg) (a : PySem.W.nsIn K mainGlobals x = some (some (.ref C))) (l : K.lookup C = some o) (c : o.cls = .type "tuple") (d : o.data = .seq its n) (s : its.size ≤ sizeLine) (r : Vals vs its.toList) (z : CTup K mg x vs → R) : R :=
  z ⟨C, o, its, n, PySem.W.mg_of X G a, l, c, d, s, r⟩
end
end DL

/-! DL15: calls that hand out a new thing that is to change. -/
namespace DL
open PySem L2
section
variable {K : PySem.W.Frag} {e : Ent} {ρ : Rho} {M : List MO} {te ta tb : TE} {t u : TS} {Q : Sl → Prop} {nx bk ct : Rho → List MO → Prop} {rt : Sl → List MO → Prop}
def SpN {ι : Type} (K : PySem.W.Frag) (args : ι → List D) (pre : ι → Prop) (post : ι → MO → Prop) : Sp := fun vs H Q _ =>
  ∃ (x : ι) (F : Hp), SlsOk K [] F ((args x).map Sl.v) vs ∧ Same F H ∧ pre x ∧ ∀ p F' H' m, Move [] F H F' H' → Sta K [p] [m] F' H' → H p.1 = none → H p.2 = none → post x m → Q (.ref p.1) H'
theorem Sta.join {α : Al} {F H : Hp} {p : Addr × Addr} {m : MO} (S : Sta K α M F H) (T : Sta K [p] [m] F H) (ap : ∀ q, q ∈ α → Apart q p) : Sta K (α ++ [p]) (M ++ [m]) F H := by
  refine ⟨S.sub, by simp [S.len], fun i mo q h1 h2 => ?_, fun i j q r hij h1 h2 => ?_, fun q hq => ?_⟩
  · by_cases hi : i < α.length
    · rw [List.getElem?_append_left (by rw [S.len]; exact hi)] at h1
      rw [List.getElem?_append_left hi] at h2
      exact S.ob i mo q h1 h2
    · have hi2 : i = α.length := by
        have := (List.getElem?_eq_some_iff.mp h2).1
        simp at this; omega
      subst hi2
      rw [← S.len, List.getElem?_append_right (Nat.le_refl _)] at h1
      rw [List.getElem?_append_right (Nat.le_refl _)] at h2
      simp at h1 h2
      subst h1; subst h2
      exact T.ob 0 m p rfl rfl
  · have hj : j < α.length ∨ j = α.length := by
      have := (List.getElem?_eq_some_iff.mp h2).1
      simp at this; omega
    have hi : i < α.length := by omega
    rw [List.getElem?_append_left hi] at h1
    rcases hj with hj | hj
    · rw [List.getElem?_append_left hj] at h2
      exact S.ap i j q r hij h1 h2
    · subst hj
      rw [List.getElem?_append_right (Nat.le_refl _)] at h2
      simp at h2
      subst h2
      exact ap q (List.mem_of_getElem? h1)
  · rcases List.mem_append.mp hq with z | z
    · exact S.tr q z
    · exact T.tr q z
theorem en_callN {ι : Type} {args : ι → List D} {pre : ι → Prop} {post : ι → MO → Prop} {tl : TA} {X : XK} {QN : Sl → List MO → Prop} (h : EvA K tl ρ M fun ss => ∃ x, ss = (args x).map Sl.v ∧ pre x ∧ ∀ m, post x m → QN (.l M.length) (M ++ [m])) : EvN K e (tCall (SpN K args pre post) [] X tl) ρ M QN := fun σ α F H g k kk =>
  h σ α F H g.env g.sta _ fun vs F1 H1 ss m1 S1 o1 ⟨x, e1, hp, q⟩ => by
    subst e1
    refine ⟨x, F1, by rw [List.append_nil]; exact o1.ofD, S1.sub, hp, fun p F' H' m m2 S2 n1 n2 pm => ?_⟩
    have S3 := S1.keep0 m2 S2.sub
    have S4 := S3.join S2 fun r hr => by
      have := S1.tr r hr
      exact ⟨fun z => this.1 (by rw [z]; exact n1), fun z => this.1 (by rw [z]; exact n2), fun z => this.2 (by rw [z]; exact n1), fun z => this.2 (by rw [z]; exact n2)⟩
    have st1 := g.st.move (m1.trans (m2.widen fun _ h => by simp at h))
    have st : StepE e (α ++ [p]) F' H' := ⟨st1.ex, st1.fr, st1.tr, st1.new, by
      obtain ⟨β, b1, hβ⟩ := st1.pre
      refine ⟨β ++ [p], by rw [b1, List.append_assoc], fun r hr => ?_⟩
      rcases List.mem_append.mp hr with z | z
      · exact hβ r z
      · simp at z; subst z
        exact ⟨none_back ((g.st.move m1).tr _) n1, none_back ((g.st.move m1).tr _) n2⟩⟩
    exact kk _ _ F' H' (.l M.length) (M ++ [m]) ⟨(g.env.mono (m1.ex.trans m2.ex)).more, S4, st⟩ (m1.ex.trans m2.ex) ⟨_, rfl⟩ ⟨p, by rw [S1.len, List.getElem?_append_right (Nat.le_refl _)]; simp, rfl⟩ (q m pm)
theorem fn_runN {ι : Type} {args : ι → List D} {pre : ι → Prop} {post : ι → MO → Prop} {N : List Str} {t : TS}
    (h : ∀ x e, pre x → e.α.length = 0 → RunD K e t (startR N.length ((args x).map Sl.v)) [] (fun _ _ => False) (fun s M' => ∃ k m, s = .l k ∧ M'[k]? = some m ∧ post x m) (fun _ _ => False) (fun _ _ => False)) :
    ∀ vs H Q E, SpN K args pre post vs H Q E → t { nx := fun _ H' => Q .non H', rt := Q } (L2.start N vs) H := by
  rintro vs H Q E ⟨x, F, ho, sub, hp, k⟩
  refine h x ⟨[], F, H⟩ hp rfl _ (L2.start N vs) [] F H ⟨env_start ho, sta_nil sub, .refl⟩ ⟨fun _ _ _ _ _ _ _ _ q => q.elim, fun v s α' F' H' M' o S' st _ ⟨j, m, e1, hM, pm⟩ => ?_, fun _ _ _ _ _ _ _ _ q => q.elim, fun _ _ _ _ _ _ _ _ q => q.elim⟩
  subst e1
  obtain ⟨p, hpj, rfl⟩ := o
  obtain ⟨β, b1, hβ⟩ := st.pre
  have b1 : α' = [] ++ β := b1
  have hn := hβ p (by rw [List.nil_append] at b1; rw [← b1]; exact List.mem_of_getElem? hpj)
  exact k p F' H' m ⟨st.ex, st.fr, st.tr, st.new⟩ (sta_one S' hpj hM) hn.1 hn.2 pm
end
section
variable {P : Program} {w : World} {K : PySem.W.Frag} {mg : Str → Option Value} {base : Heap}
theorem fn_atN {ι : Type} {x : Str} {st : Stmt} {ps N : List Str} {k : Nat} {args : ι → List D} {pre : ι → Prop} {post : ι → MO → Prop} (D0 : DefAt K mg x st ps) (S : FnScope N ps (defScope st)) (hl : ∀ i, (args i).length = ps.length)
    (body : ∀ (f : Addr) (cdv : Value) (A : Around) (outer : List Env) (s : Shared) (H : Hp) (E : XK), Room k (A.deeper (PyProof.Rows.envOfC x (defScope st) s.heap.objs.size f cdv)) →
      ∃ t, PSs (cxOf CX0 P w K mg base N x (defScope st) f cdv A outer s H E).nox (defBody st) t ∧
        ∀ i e, pre i → e.α.length = 0 → RunD K e t (startR N.length ((args i).map Sl.v)) [] (fun _ _ => False) (fun s M' => ∃ k m, s = .l k ∧ M'[k]? = some m ∧ post i m) (fun _ _ => False) (fun _ _ => False)) :
    FnAt P w K mg base CX0 (k + 1) x ps (SpN K args pre post) :=
  fn_atR D0 S (fun vs H Q E ⟨i, F, o, _⟩ => by rw [← o.length, List.length_map, hl]) fun f cdv A outer s H E hr => by
    obtain ⟨t, ht, hi⟩ := body f cdv A outer s H E hr
    exact ⟨t, ht, fun vs Q E' h => fn_runN hi vs H Q E' h⟩
end
end DL

/-! DL16: sets of numbers by a list: sorted(set(xs)), len(set(xs)). -/
namespace DL
open PySem L2 PyProof.Rows
abbrev setO (w : World) : Obj := { cls := .type "set", dict := none, data := .set #[] 0 (.fresh 0 0 (!w.params.followText "set-order")) }
abbrev litO (l : Addr) : Obj := { cls := .type "list_iterator", data := .fields #[.ref l, .int 0 0] }
section
variable {P : Program} {w : World} {A : Around} {E : Value → Shared → Prop} {s : Shared}
theorem set_upd {l : Addr} {items : Array Value} (ns : List Int) (hh : A.handled = none) (hl : (s.heap.push (setO w)).IsList l items) (hls : l < s.heap.objs.size) (hit : IntsAre items.toList ns) (hb : ns.length + 1 < scanBound) {R : Result → Shared → Prop}
    (h : ∀ (s' : Shared) c, Moved (s.heap.objs.size :: [(s.heap.push (setO w)).objs.size]) (fun a b => b = a) { s with heap := (s.heap.push (setO w)).push (litO l) } s' → SetR w s'.heap s.heap.objs.size (fun j => decide (j ∈ ns)) c → R (.ok (.ret .none)) s') :
    codeAny (model P w) A (.builtin "set.update.loop" ⟨[.ref s.heap.objs.size, .ref (s.heap.push (setO w)).objs.size], []⟩) R { s with heap := (s.heap.push (setO w)).push (litO l) } := by
  have hsz : items.size = ns.length := by
    have q := IntsAre.length hit
    rwa [Array.length_toList] at q
  have h3 : A.in1.handled = none := by simp [hh]
  have hz : (s.heap.push (setO w)).objs.size = s.heap.objs.size + 1 := Heap.size_push ..
  have n1 : l ≠ (s.heap.push (setO w)).objs.size := by rw [hz]; exact Nat.ne_of_lt (Nat.lt_succ_of_lt hls)
  have n2 : s.heap.objs.size ∉ [(s.heap.push (setO w)).objs.size, l] := by
    rw [hz]
    simp only [List.mem_cons, List.not_mem_nil, or_false, not_or]
    exact ⟨Nat.ne_of_lt (Nat.lt_succ_self _), Nat.ne_of_gt hls⟩
  have hv : ∀ (i : Nat) (v : Value), items[i]? = some v → ∃ k t, ns[i]? = some k ∧ v = .int k t := fun i v e => by
    have hi : i < ns.length := by rw [← hsz]; exact (Array.getElem?_eq_some_iff.mp e).1
    obtain ⟨t, z⟩ := IntsAre.int_at hit i v (by rw [Array.getElem?_toList]; exact e)
    exact ⟨ns[i], t, List.getElem?_eq_getElem hi, by rw [z, List.getD_eq_getElem?_getD, List.getElem?_eq_getElem hi]; rfl⟩
  have g0 : ((s.heap.push (setO w)).push (litO l)).get? s.heap.objs.size = some (setO w) := Heap.get?_push_of_some _ (Heap.get?_push_size _ rfl)
  refine set_update_ints ((Walks.list h3 _ l n1 items).toS) s.heap.objs.size n2 ns hsz hb hv _ 0 _ rfl (Nat.zero_le _) ⟨⟨_, Heap.get?_push_size _ rfl, rfl, rfl⟩, hl.push _⟩ ⟨0, Nat.le_refl 0, setR_new_at g0⟩ fun s' c m _ r => h s' c m r
theorem set_listR {l : Addr} {items : Array Value} (ns : List Int) {Q : Value → Shared → Prop} (hh : A.handled = none) (hl : s.heap.IsList l items) (hit : IntsAre items.toList ns) (hb : ns.length + 1 < scanBound)
    (h : ∀ (h' : Heap) (tk c : Nat), SetR w h' s.heap.objs.size (fun j => decide (j ∈ ns)) c → (∀ b o, s.heap.get? b = some o → h'.get? b = some o) → Q (.ref s.heap.objs.size) { s with heap := h', toks := tk }) : wpAny (model P w) A (call (.type "set") [.ref l]) Q E s := by
  have hmade := F.called_set.made
  obtain ⟨cc, tl, hmro⟩ := F.called_set.mro
  have hsub := F.called_set.sub
  have h1 := F.called_set.notType
  have h2 := F.called_set.canCreate
  have hct := F.typeCall_set_1 (.ref l)
  refine wpAny_call (codeAny_of_tree ?_)
  show wpAny _ _ (callAny (.type "set") _) _ _ _
  refine wpAny_pure ⟨Code.quiet_builtin _ (by decide +kernel), codeAny_builtin F.entry_type_call ?_⟩
  rw [Around.under_plain (weight_type_call_type "set" [.ref l] []) rfl]
  repeat (any_goals (first | assumption | wp_step))
  refine codeAny_mono (code_set_led1 (.ref l) (E := E) (Q₁ := fun ob s1 => ob = .ref s.heap.objs.size ∧ s1 = { s with heap := s.heap.push (setO w) }) ⟨rfl, rfl⟩) fun r s1 hr => ?_
  match r, hr with
  | .error e, hr => exact hr
  | .ok (.ret ob), hr =>
    obtain ⟨rfl, rfl⟩ := hr
    have g0 : (s.heap.push (setO w)).get? s.heap.objs.size = some (setO w) := Heap.get?_push_size _ rfl
    have ty : Shared.TypeIs { s with heap := s.heap.push (setO w) } (.ref s.heap.objs.size) "set" := ⟨_, g0, rfl⟩
    have ini := F.called_set.init.lookup
    have bnd := F.called_set.init.bind (.ref s.heap.objs.size)
    repeat (any_goals (first | assumption | wp_step))
    refine codeAny_mono (codeAny_call_builtin (R := wants (fun r s2 => r = .none ∧ ∃ h' tk c, s2 = { s with heap := h', toks := tk } ∧ SetR w h' s.heap.objs.size (fun j => decide (j ∈ ns)) c ∧ ∀ b o, s.heap.get? b = some o → h'.get? b = some o) E) F.called_set.init.plain F.entry_set_init (check_set_init_1 ty ?_)) fun r2 s2 hr2 => ?_
    · obtain ⟨⟨cl, di, da, sl⟩, hol, e1, nl, e2⟩ := hl
      simp only at e1 e2
      subst e1; subst e2
      have a1 : (s.heap.push (setO w)).get? l = some ⟨.type "list", di, .seq items nl, sl⟩ := Heap.get?_push_of_some _ hol
      have a2 := F.sub_list_set
      have a3 := F.sub_list_frozenset
      have a4 : (Value.type "list" == Value.type "dict") = false := by decide
      have il : (s.heap.push (setO w)).IsList l items := ⟨_, a1, rfl, nl, rfl⟩
      unfold Builtin.«set.__init__» noKeywords Builtin.Frozenset.updateFrom
      generalize hPI : pyIter = PI
      wp_walk
      subst hPI
      refine wpAny_pyIter_list il (wpAny_bind (wpAny_runValue ?_))
      refine set_upd (A := A.in1.in1) ns (by simp [hh]) il (Heap.lt_size hol) hit hb fun s' c hm hS => ?_
      obtain ⟨h', g2, d', tk', os'⟩ := s'
      obtain rfl : g2 = s.gens := hm.gens
      obtain rfl : d' = s.drawn := hm.drawn
      obtain rfl : os' = s.os := hm.os
      show wpAny _ _ _ _ _ _
      refine wpAny_pure ?_
      show wpAny _ _ (ret Value.none) _ _ _
      refine wpAny_pure ⟨rfl, h', tk', c, rfl, hS, fun b o e => ?_⟩
      have lt := Heap.lt_size e
      refine hm.heap b o ?_ (Heap.get?_push_of_some _ (Heap.get?_push_of_some _ e))
      rw [Heap.size_push]
      simp only [List.mem_cons, List.not_mem_nil, or_false, not_or]
      exact ⟨Nat.ne_of_lt lt, Nat.ne_of_lt (Nat.lt_succ_of_lt lt)⟩
    · match r2, hr2 with
      | .error e, hr2 => exact hr2
      | .ok (.ret r3), hr2 =>
        obtain ⟨rfl, h', tk, c, rfl, hS, hk⟩ := hr2
        repeat (any_goals (first | assumption | wp_step))
        exact h _ _ _ hS hk
end
/-- members without repeats -/
def Mems (ns ms : List Int) : Prop := ms.Nodup ∧ ∀ k, k ∈ ms ↔ k ∈ ns
def tSortSet (K : PySem.W.Frag) (ta : TE) : TE := fun σ H Q => ta σ H fun x H1 => ∃ (l : Addr) (ns : List Int), x = V.ref l ∧ SqL K H1 l (ns.map V.int) ∧ ns.length ≤ 4000 ∧ (∀ ms, Mems ns ms → ms.length < 64) ∧ ∀ (ms : List Int) p, ms.Pairwise (· < ·) → (∀ k, k ∈ ms ↔ k ∈ ns) → H1 p = none → Q (.ref p) (upd H1 p (.lst (ms.map V.int)))
def tLenSet (K : PySem.W.Frag) (ta : TE) : TE := fun σ H Q => ta σ H fun x H1 => ∃ (l : Addr) (ns : List Int), x = V.ref l ∧ SqL K H1 l (ns.map V.int) ∧ ns.length ≤ 4000 ∧ ∀ ms : List Int, Mems ns ms → Q (.int ms.length) H1
section
variable {X : Cx}
theorem pe_sortSet {K : PySem.W.Frag} {a : Expr} {ta : TE} {p p2 q pos : Pos} (hc : X.calm = true) (hm : X.mg "sorted" = none) (hm2 : X.mg "set" = none) (hg : Gl X "sorted") (hg2 : Gl X "set") (ha : PE X a ta)
    (na : starEach [a] X.env = (false, eval a X.env) :: starEach [] X.env := by rfl) (hK : X.K = K := by rfl) : PE X (.Call (.Name "sorted" p) [.Call (.Name "set" p2) [a] [] q] [] pos) (tSortSet K ta) := by
  subst hK
  refine ⟨fun pins s σ H Q I h => ?_⟩
  refine Call_ (ld_blt I hg hm (show bootBuiltins "sorted" = some (.builtin "sorted") by decide +kernel) ?_)
  refine PyProof.Rows.callWith_builtin1 (PyProof.Rows.args_cons ?_ rfl) rfl rfl
  refine Call_ (ld_blt I hg2 hm2 PyProof.Rows.boot_set ?_)
  refine PyProof.Rows.callWith_type1 (PyProof.Rows.args_cons (thn (ha.run pins s σ H _ I h) fun v s1 ⟨x, H1, I1, r1, q1⟩ => PyProof.Rows.args_nil ?_) na) na rfl
  obtain ⟨l, ns, rfl, hq, hn, h64, q1⟩ := q1
  cases r1
  obtain ⟨its, r, pl, hz⟩ := I1.list hq
  refine set_listR ns (I1.ok.hd hc) pl.isList (by simpa using r.ints) (by unfold scanBound; omega) fun h' tk c hS hk => PyProof.Rows.args_nil ?_
  have I2 : Inv X pins σ H1 { s1 with heap := h', toks := tk } := I1.kept fun b o e => hk b o e
  have hc64 : c < 64 := by
    obtain ⟨o, es, ep, t, _, _, _, _, nd, hm, _, _, hn, _⟩ := hS
    have := h64 (es.toList.map keyOf) ⟨nd, fun k => by rw [← hm k, decide_eq_true_eq]⟩
    rw [List.length_map, Array.length_toList] at this
    omega
  refine sorted_set hS (I1.ok.hd hc) hc64 fun s' p out c2 ms k1 g1 o1 hp hget hi hs hmem hlen => ?_
  have hlen2 : (ms.map V.int).length ≤ sizeLine := by rw [List.length_map, hlen, sizeLine_eq]; omega
  have hfree : H1 p = none := I2.hok.fresh hp
  have J : Inv X pins σ (upd H1 p (.lst (ms.map V.int))) { ({ s1 with heap := h', toks := tk } : Shared) with heap := s'.heap, gens := s'.gens, drawn := s'.drawn, toks := s'.toks } :=
    I2.call (ch := []) (Un.laid k1 hp hfree) (I2.hok.laid k1 hp ⟨hlen2, out.toList, c2, vals_of_ints hi, hget⟩) (by rw [g1]; exact I2.bare) (fun _ z => nomatch z)
  have es : s' = { s1 with heap := s'.heap, gens := s'.gens, drawn := s'.drawn, toks := s'.toks } := by
    obtain ⟨x1, x2, x3, x4, x5⟩ := s'
    obtain rfl : x5 = s1.os := o1
    rfl
  rw [es]
  exact ⟨.ref p, _, J, rfl, q1 ms p hs (fun k => by rw [hmem k, decide_eq_true_eq]) hfree⟩
theorem pe_lenSet {K : PySem.W.Frag} {a : Expr} {ta : TE} {p p2 q pos : Pos} (hc : X.calm = true) (hm : X.mg "len" = none) (hm2 : X.mg "set" = none) (hg : Gl X "len") (hg2 : Gl X "set") (ha : PE X a ta)
    (na : starEach [a] X.env = (false, eval a X.env) :: starEach [] X.env := by rfl) (hK : X.K = K := by rfl) : PE X (.Call (.Name "len" p) [.Call (.Name "set" p2) [a] [] q] [] pos) (tLenSet K ta) := by
  subst hK
  refine ⟨fun pins s σ H Q I h => ?_⟩
  refine Call_ (ld_blt I hg hm PySem.boot_len ?_)
  refine PyProof.Rows.callWith_builtin1 (PyProof.Rows.args_cons ?_ rfl) rfl rfl
  refine Call_ (ld_blt I hg2 hm2 PyProof.Rows.boot_set ?_)
  refine PyProof.Rows.callWith_type1 (PyProof.Rows.args_cons (thn (ha.run pins s σ H _ I h) fun v s1 ⟨x, H1, I1, r1, q1⟩ => PyProof.Rows.args_nil ?_) na) na rfl
  obtain ⟨l, ns, rfl, hq, hn, q1⟩ := q1
  cases r1
  obtain ⟨its, r, pl, hz⟩ := I1.list hq
  refine set_listR ns (I1.ok.hd hc) pl.isList (by simpa using r.ints) (by unfold scanBound; omega) fun h' tk c hS hk => PyProof.Rows.args_nil ?_
  have I2 : Inv X pins σ H1 { s1 with heap := h', toks := tk } := I1.kept fun b o e => hk b o e
  obtain ⟨o, es, ep, t, ho, hex, hd, _, nd, hm3, hb, hf, _⟩ := hS
  have hM : Mems ns (es.toList.map keyOf) := ⟨nd, fun k => by rw [← hm3 k, decide_eq_true_eq]⟩
  have q2 := q1 _ hM
  rw [List.length_map, Array.length_toList] at q2
  exact call_len_set ho hex hd hf (by unfold scanBound at hb; omega) ⟨.int es.size, H1, I2.tok _, ⟨_, rfl⟩, q2⟩
/-- sorted(xs), any number -/
theorem pe_sortedI {K : PySem.W.Frag} {e : Expr} {t : TA} {p pos : Pos} (b : X.mg "sorted" = none) (hg : Gl X "sorted") (ha : PA X [e] t) (he : starEach [e] X.env = (false, eval e X.env) :: starEach [] X.env := by rfl) (hpl : (backTo pos (starEach [] X.env)).any (·.1) = false := by rfl) (hK : X.K = K := by rfl) : PE X (.Call (.Name "sorted" p) [e] [] pos) (tCB (rSortedI K) t) := by
  subst hK
  exact pe_callB cr_sortedI hg b (by decide +kernel) ha (by decide) (by decide) he hpl
end
section
variable {K : PySem.W.Frag} {e : Ent} {ρ : Rho} {M : List MO} {Q : Sl → Prop} {te ta tb : TE}
theorem ev_sortSet (h : EvP K ta ρ M fun x => ∃ ns, RdL M x (D.ints ns) ∧ ns.length ≤ 4000 ∧ (∀ ms, Mems ns ms → ms.length < 64) ∧ ∀ ms : List Int, ms.Pairwise (· < ·) → (∀ k, k ∈ ms ↔ k ∈ ns) → Q (.v (.lst (D.ints ms)))) : EvP K (tSortSet K ta) ρ M Q := fun σ α F H en S k kk =>
  h σ α F H en S _ fun v F1 H1 s m1 S1 o1 ⟨ns, hr, h1, h2, q⟩ => by
    obtain ⟨a, vs, rfl, hvs, hd⟩ := hr.get S1 o1
    have ev := hd.ofInts
    subst ev
    refine ⟨a, ns, rfl, SqL.of hvs, h1, h2, fun ms p g1 g2 hp => ?_⟩
    obtain ⟨m2, S2⟩ := S1.laid (o := .lst (ms.map V.int)) hp
    exact kk (.ref p) _ _ (.v (.lst (D.ints ms))) (m1.trans m2) S2 (show Den K _ (.lst (D.ints ms)) _ from ⟨p, _, rfl, upd_same, by
      have e : D.ints ms = (ms.map V.int).map D.raw := by simp [D.ints, Function.comp_def]
      rw [e]; exact Dens.raws⟩) (q ms g1 g2)
theorem ev_lenSet (h : EvP K ta ρ M fun x => ∃ ns, RdL M x (D.ints ns) ∧ ns.length ≤ 4000 ∧ ∀ ms : List Int, Mems ns ms → Q (.v (.int ms.length))) : EvP K (tLenSet K ta) ρ M Q := fun σ α F H en S k kk =>
  h σ α F H en S _ fun v F1 H1 s m1 S1 o1 ⟨ns, hr, h1, q⟩ => by
    obtain ⟨a, vs, rfl, hvs, hd⟩ := hr.get S1 o1
    have ev := hd.ofInts
    subst ev
    exact ⟨a, ns, rfl, SqL.of hvs, h1, fun ms g => kk _ _ _ _ m1 S1 raw_ok (q ms g)⟩
theorem ec_sortedI {x : Sl} {ns : List Int} (h : RdL M x (D.ints ns)) (q : ∀ ns' : List Int, ns'.Perm ns → ns'.Pairwise (· ≤ ·) → Q (.v (.lst (D.ints ns')))) : EvC K (rSortedI K) M [x] Q := fun α F H us S o k kk => by
  obtain ⟨u, r, rfl, o1, o2⟩ := o
  have o2 : r = [] := o2
  subst o2
  obtain ⟨a, vs, rfl, hvs, hd⟩ := h.get S o1
  have ev := hd.ofInts
  subst ev
  refine ⟨a, ns, rfl, SqL.of hvs, fun ms p g1 g2 hp => ?_⟩
  obtain ⟨m2, S2⟩ := S.laid (o := .lst (ms.map V.int)) hp
  exact kk (.ref p) _ _ (.v (.lst (D.ints ms))) m2 S2 (show Den K _ (.lst (D.ints ms)) _ from ⟨p, _, rfl, upd_same, by
    have e : D.ints ms = (ms.map V.int).map D.raw := by simp [D.ints, Function.comp_def]
    rw [e]; exact Dens.raws⟩) (q ms g1 g2)
end
end DL

/-! DL17: methods; lists within objects that are being made (pinned at their addresses); xs += ys. -/
namespace DL
open PySem L2
structure MFnAt (P : Program) (w : World) (K : PySem.W.Frag) (mg : Str → Option Value) (base : Heap) (k : Nat) (C : Addr) (x : Str) (ps : List Str) (sp : Sp) : Prop where
  ex : ∃ f fd, Meth K C x f ∧ Binds K fd ps [] ∧ FnOk P w K mg base CX0 k f fd ps sp
section
variable {P : Program} {w : World} {K : PySem.W.Frag} {mg : Str → Option Value} {base : Heap}
theorem mfn_at {ι : Type} {C : Addr} {x qual : Str} {st : Stmt} {ps N : List Str} {k : Nat} {args : ι → List Sl} {Mi : ι → List MO} {pre : ι → Prop} {post : ι → D → List MO → Prop} (D0 : MethAt K C x qual st ps) (S : FnScope N ps (defScope st)) (hl : ∀ i, (args i).length = ps.length)
    (body : ∀ (f : Addr) (cdv : Value) (A : Around) (outer : List Env) (s : Shared) (H : Hp) (E : XK), Room k (A.deeper (PyProof.Rows.envOfC qual (defScope st) s.heap.objs.size f cdv)) →
      ∃ t, PSs (cxOf CX0 P w K mg base N qual (defScope st) f cdv A outer s H E).nox (defBody st) t ∧
        ∀ i e, pre i → e.α.length = (Mi i).length → RunD K e t (startR N.length (args i)) (Mi i) (fun _ M' => post i .non (M'.take (Mi i).length)) (RetOk (Mi i).length (post i)) (fun _ _ => False) (fun _ _ => False)) :
    MFnAt P w K mg base (k + 1) C x ps (SpF K args Mi pre post) := by
  obtain ⟨f, fd, F, h1, h2, hb⟩ := D0.ex
  refine ⟨f, fd, ⟨h1, h2, F.kp⟩, hb, F.ok S (fun vs H Q E h => ?_) fun cdv A outer s H vs Q E hr h => ?_⟩
  · obtain ⟨i, α, F', o, _⟩ := h
    rw [← o.length, hl]
  · obtain ⟨t, ht, hi⟩ := body f cdv A outer s H E hr
    exact ⟨t, ht, fn_run hi vs H Q E h⟩
end
section
variable {X : Cx} {C : Addr} {x : Str} {k : Nat} {ps : List Str} {sp : Sp} {o e : Expr} {es : List Expr} {ta : TE} {t : TA} {apos pos : Pos}
theorem pe_mth0 {pl : Sem Bool} (F : MFnAt X.prog X.w X.K X.mg X.base k C x ps sp) (c : Cls X.K C) (hr : Room k X.A) (he : PE X o ta)
    (ht : eval (.Call (.Attribute o x apos) [] [] pos) X.env = (do
      let ov ← eval o X.env
      standAt apos.atName
      let (f, first) ← holding [ov] (getMethod ov x pl)
      callWith pos f first (backTo pos (starEach [] X.env)) (backToKw pos (keywordEach [] X.env))) := by rfl) : PE X (.Call (.Attribute o x apos) [] [] pos) (tMeth C x sp [] E0 ta tNil) := by
  obtain ⟨f, fd, hm, hb, F⟩ := F.ex
  exact pe_meth0 he c hm F hr hb .nil pass0 ht
end
section
variable {K : PySem.W.Frag} {e : Ent} {ρ : Rho} {M : List MO} {te ta tb to ti : TE} {t u : TS} {Q : Sl → Prop} {QN : Sl → List MO → Prop} {nx bk ct : Rho → List MO → Prop} {rt : Sl → List MO → Prop}
theorem lookup_no {m : Str} : ∀ {ns : List Str} {vs : List V}, m ∉ ns → (ns.zip vs).lookup m = none
  | [], _, _ => rfl
  | n :: ns, [], _ => rfl
  | n :: ns, v :: vs, h => by
    have h1 : m ≠ n := fun z => h (by rw [z]; simp)
    rw [List.zip_cons_cons, List.lookup_cons]
    have : (m == n) = false := by simpa using h1
    rw [this]
    exact lookup_no fun z => h (List.mem_cons_of_mem _ z)
theorem ev_mth {ι : Type} {C : Addr} {m : Str} {args : ι → List D} {pre : ι → Prop} {post : ι → D → Prop} {tl : TA} {X : XK} (h : EvP K ta ρ M fun s => ∃ ns ds, s = .v (.ins C ns ds) ∧ m ∉ ns ∧ EvA K tl ρ M fun ss => ∃ x, s :: ss = (args x).map Sl.v ∧ pre x ∧ ∀ d, post x d → Q (.v d)) :
    EvP K (tMeth C m (SpP K args pre post) [] X ta tl) ρ M Q := fun σ α F H en S k kk =>
  h σ α F H en S _ fun v F1 H1 s m1 S1 o1 ⟨ns, ds, e1, hm, q1⟩ => by
    subst e1
    obtain ⟨a, dx, vs, rfl, h1, h2, h3⟩ := id o1
    refine ⟨a, dx, _, rfl, S1.sub _ _ h1, lookup_no hm, q1 σ α F1 H1 (en.mono m1.ex) S1 _ fun us F2 H2 ss m2 S2 o2 ⟨x, e2, hp, q⟩ => ?_⟩
    have o3 : SlsOk K α F2 ((args x).map Sl.v) (.ref a :: us) := by
      rw [← e2]
      exact ⟨_, us, rfl, o1.mono m2.ex, o2⟩
    refine ⟨x, [], F2, by rw [List.append_nil]; exact o3.ofD, sta_nil S2.sub, hp, fun v F' H' d M' m3 S3 o4 p3 => ?_⟩
    exact kk v F' H' (.v d) ((m1.trans m2).trans (m3.widen fun _ h => by simp at h)) (S2.keep0 m3 S3.sub) o4 (q d p3)
/-! pinned lists -/
theorem en_pin {tl : TA} (h : EvNA K e tl ρ M fun ss M' => ∃ ds : List D, ss = ds.map Sl.v ∧ ds.length ≤ 16777216 ∧ ∀ p : Addr, QN (.v (.raw (.ref p))) (M' ++ [.pin p ds])) : EvN K e (tLst tl) ρ M QN := fun σ α F H g k kk =>
  h σ α F H g _ fun vs α1 F1 H1 ss M1 g1 x1 ⟨β, b1⟩ o1 ⟨ds, e1, hl, q1⟩ => by
    subst e1
    have hd := o1.dens
    refine ⟨by rw [← hd.length, sizeLine_eq]; exact hl, fun p hp => ?_⟩
    have S2 := g1.sta.more (m' := .pin p ds) (o := .lst vs) hp ⟨g1.sta.sub.free hp, rfl, vs, upd_same, hd⟩
    exact kk (.ref p) _ F1 _ (.v (.raw (.ref p))) _ ⟨g1.env.more, S2, g1.st.more hp⟩ x1 ⟨β ++ [(p, p)], by rw [b1, List.append_assoc]⟩ raw_ok (q1 p)
/-- self.f = e -/
theorem r_fldN {j k : Nat} {f : Str} {C : Addr} (hc : Cls K C) (hn : NoAttr K C f) (hj : ρ[j]? = some (some (.l k))) (h : EvN K e te ρ M fun s M' => ∃ d ns ds, s = .v d ∧ M'[k]? = some (.ins C ns ds) ∧ ns.length < 1000 ∧ nx ρ (M'.set k (.ins C (putD f d ns ds).1 (putD f d ns ds).2))) :
    RunD K e (sFld K (tVar j) te f) ρ M nx rt bk ct := fun X σ α F H g ok =>
  h σ α F H g _ fun v α1 F1 H1 s M1 g1 x1 _ o1 ⟨d, ns, ds, e1, hk, hl, q1⟩ => by
    subst e1
    obtain ⟨u, h1, p, hp, rfl⟩ := g1.env.at' j _ hj
    obtain ⟨hF1, dx, vs, hvs, hlen, hd1⟩ := g1.sta.ob k _ p hk hp
    obtain ⟨ws, w1, w2, w3⟩ := putD_ok (f := f) (d := d) (v := v) o1 hlen hd1
    refine ⟨_, h1, p.1, C, dx, _, rfl, hvs, hc, hn, by rw [List.length_zip]; omega, ?_⟩
    obtain ⟨m2, S2⟩ := g1.sta.write (m' := .ins C (putD f d ns ds).1 (putD f d ns ds).2) (o := .ins C dx (putF f v (ns.zip vs))) hp hF1 ⟨hF1, dx, ws, by rw [w1]; exact upd_same, w2, w3⟩
    exact ok.nx _ _ F1 _ _ _ ⟨g1.env, S2, g1.st.move m2⟩ x1 q1
theorem pin_ob {α : Al} {F H : Hp} (S : Sta K α M F H) {k : Nat} {p : Addr} {ds : List D} (hk : M[k]? = some (.pin p ds)) : ∃ q, α[k]? = some q ∧ q.1 = p ∧ F p = none ∧ ∃ vs, H p = some (.lst vs) ∧ Dens K F ds vs := by
  obtain ⟨q, hq⟩ := sta_get S hk
  obtain ⟨h1, h2, vs, h3, h4⟩ := S.ob k _ q hk hq
  refine ⟨q, hq, h2, by rw [← h2]; exact h1, vs, by rw [← h2]; exact h3, h4⟩
theorem x_ixP {p : Addr} {i : Int} (h : ∃ (k : Nat) (ds : List D) (d : D), M[k]? = some (MO.pin p ds) ∧ atI ds i = some d ∧ Q (.v d)) : EvR K (rIx K) M (.v (.raw (.ref p))) (.v (.int i)) Q :=
  let ⟨_, _, _, hk, ha, q⟩ := h
  g_ixL (.p hk) ha q
/-- e.append(x), e a pinned list -/
theorem r_appP (h : EvP K to ρ M fun s => ∃ (p : Addr) (k : Nat) (ds : List D), s = .v (.raw (.ref p)) ∧ M[k]? = some (MO.pin p ds) ∧ EvP K te ρ M fun s' => ∃ d, s' = .v d ∧ ds.length < 16777216 ∧ nx ρ (M.set k (.pin p (ds ++ [d])))) :
    RunD K e (tDrop (tBM K "list" rAppend to (tCons te tNil))) ρ M nx rt bk ct := fun X σ α F H g ok =>
  h σ α F H g.env g.sta _ fun v F1 H1 s m1 S1 o1 ⟨p, k, ds, e1, hk, q1⟩ => by
    subst e1
    have o1 : v = .ref p := o1
    subst o1
    obtain ⟨q0, hq0, e0, hF, vs, hvs, hd⟩ := pin_ob S1 hk
    refine ⟨.inl ⟨rfl, vs, SqL.of hvs⟩, q1 σ α F1 H1 (g.env.mono m1.ex) S1 _ fun v F2 H2 s m2 S2 o2 ⟨d, e2, hl, q2⟩ => ?_⟩
    subst e2
    obtain ⟨q1', hq1, e1', hF2, vs2, hvs2, hd2⟩ := pin_ob S2 hk
    have e3 : q1' = q0 := by rw [hq0] at hq1; exact (Option.some.inj hq1).symm
    subst e3
    refine ⟨p, vs2, v, rfl, rfl, hvs2, by rw [← hd2.length, sizeLine_eq]; exact hl, ?_⟩
    subst e0
    obtain ⟨m3, S3⟩ := S2.write (m' := .pin q1'.1 (ds ++ [d])) (o := .lst (vs2 ++ [v])) hq0 hF2 ⟨hF2, rfl, _, upd_same, hd2.append (Dens.cons o2 Dens.nil)⟩
    exact ok.nx _ _ F2 _ _ _ ⟨g.env.mono (m1.trans m2).ex, S3, ((g.st.move m1).move m2).move m3⟩ (m1.trans m2).ex q2
/-- e[i] = x, e a pinned list -/
theorem r_setP (h : EvP K te ρ M fun s => EvP K to ρ M fun s1 => EvP K ti ρ M fun s2 => ∃ (d : D) (p : Addr) (k : Nat) (ds : List D) (j : Int) (n : Nat), s = .v d ∧ s1 = .v (.raw (.ref p)) ∧ M[k]? = some (MO.pin p ds) ∧ s2 = .v (.int j) ∧ ixN ds.length j = some n ∧ nx ρ (M.set k (.pin p (ds.set n d)))) :
    RunD K e (tAsg te (L2.gSub to ti rSetL)) ρ M nx rt bk ct := fun X σ α F H g ok =>
  h σ α F H g.env g.sta _ fun v F1 H1 s m1 S1 o1 q1 => q1 σ α F1 H1 (g.env.mono m1.ex) S1 _ fun u F2 H2 s1 m2 S2 o2 q2 => q2 σ α F2 H2 (g.env.mono (m1.trans m2).ex) S2 _ fun w F3 H3 s2 m3 S3 o3 ⟨d, p, k, ds, j, n, e1, e2, hk, e3, hn, q3⟩ => by
    subst e1; subst e2; subst e3
    have o2 : u = .ref p := o2
    have o3 : w = .int j := o3
    subst o2; subst o3
    obtain ⟨q0, hq0, e0, hF, vs, hvs, hd⟩ := pin_ob S3 hk
    refine ⟨p, vs, j, n, rfl, rfl, hvs, by rw [← hd.length]; exact hn, ?_⟩
    subst e0
    obtain ⟨m4, S4⟩ := S3.write (m' := .pin q0.1 (ds.set n d)) (o := .lst (vs.set n v)) hq0 hF ⟨hF, rfl, _, upd_same, hd.set (Den.mono K (m2.trans m3).ex _ _ o1) n⟩
    exact ok.nx _ _ F3 _ _ _ ⟨g.env.mono ((m1.trans m2).trans m3).ex, S4, (((g.st.move m1).move m2).move m3).move m4⟩ ((m1.trans m2).trans m3).ex q3
/-- xs += e -/
theorem ip_ext {X : Cx} : PIp X .Add rExt2 := fun pins s σ H x y v u Q I r1 r2 h => iop_ext pins s σ H x y v u Q I r1 r2 h
theorem r_augL {i k : Nat} {ds : List D} (hi : ρ[i]? = some (some (.l k))) (hk : M[k]? = some (.lst ds)) (h : EvP K te ρ M fun s => ∃ es, s = .v (.lst es) ∧ ds.length + es.length ≤ 16777216 ∧ nx ρ (M.set k (.lst (ds ++ es)))) : RunD K e (tAug i te rExt2) ρ M nx rt bk ct := fun X σ α F H g ok => by
  obtain ⟨v, h1, p, hp, rfl⟩ := g.env.at' i _ hi
  refine ⟨_, h1, h σ α F H g.env g.sta _ fun v F1 H1 s m1 S1 o1 ⟨es, e1, hl, q1⟩ => ?_⟩
  subst e1
  obtain ⟨b, zs, rfl, hb, hz⟩ := o1
  obtain ⟨hF, vs, hvs, hd⟩ := S1.ob k _ p hk hp
  refine ⟨p.1, b, vs, zs, rfl, rfl, hvs, S1.sub _ _ hb, by rw [← hd.length, ← hz.length, sizeLine_eq]; exact hl, ?_⟩
  obtain ⟨m2, S2⟩ := S1.write (m' := .lst (ds ++ es)) (o := .lst (vs ++ zs)) hp hF ⟨hF, _, upd_same, hd.append hz⟩
  have e3 : σ.set i (some (.ref p.1)) = σ := by
    apply List.ext_getElem?
    intro j
    by_cases e : i = j
    · subst e; rw [List.getElem?_set_self (List.getElem?_eq_some_iff.mp h1).1, h1]
    · rw [List.getElem?_set_ne e]
  rw [e3]
  exact ok.nx _ _ F1 _ _ _ ⟨g.env.mono m1.ex, S2, (g.st.move m1).move m2⟩ m1.ex q1
/-- x if t else y, made anew -/
theorem en_if {c : TT} (h : EvT K c ρ M fun b => if b = true then EvN K e ta ρ M QN else EvN K e tb ρ M QN) : EvN K e (tIf c ta tb) ρ M QN := fun σ α F H g k kk =>
  h σ α F H g.env g.sta _ fun b F1 H1 m1 S1 q1 => by
    cases b with
    | true => exact (show EvN K e ta ρ M QN from q1) σ α F1 H1 (g.move m1 S1) k fun v α' F' H' s M' g' x' b' o' q' => kk v α' F' H' s M' g' (m1.ex.trans x') b' o' q'
    | false => exact (show EvN K e tb ρ M QN from q1) σ α F1 H1 (g.move m1 S1) k fun v α' F' H' s M' g' x' b' o' q' => kk v α' F' H' s M' g' (m1.ex.trans x') b' o' q'
/-! pinned lists that change no more -/
theorem Good.fz {α : Al} {F H : Hp} {σ : L2.St} (g : Good K e α F H σ ρ M) {k : Nat} {p : Addr} {ds : List D} (hk : M[k]? = some (.pin p ds)) (he : e.α.length ≤ k) : ∃ F', Same F F' ∧ Den K F' (.lst ds) (.ref p) ∧ Good K e α F' H σ ρ (M.set k .dead) := by
  obtain ⟨q, hp, e0, hF, vs, hvs, hd⟩ := pin_ob g.sta hk
  subst e0
  have s1 : Same F (upd F q.1 (.lst vs)) := fun b u h => by rw [upd_ne (ne_of_none h hF)]; exact h
  have hl : k < M.length := (List.getElem?_eq_some_iff.mp hk).1
  refine ⟨upd F q.1 (.lst vs), s1, ⟨q.1, vs, rfl, upd_same, Dens.mono K s1 _ _ hd⟩, ⟨g.env.mono s1, ⟨fun b u h => ?_, by simp [g.sta.len], fun j m q' h1 h2 => ?_, g.sta.ap, g.sta.tr⟩, ⟨g.st.ex.trans s1, g.st.fr, g.st.tr, fun b h => ?_, g.st.pre⟩⟩⟩
  · by_cases e : b = q.1
    · subst e; rw [upd_same] at h; cases h; exact hvs
    · rw [upd_ne e] at h; exact g.sta.sub b u h
  · by_cases hjk : k = j
    · subst hjk
      rw [List.getElem?_set_self hl] at h1
      cases h1; trivial
    · rw [List.getElem?_set_ne hjk] at h1
      have ap := nth_ne g.sta h2 hp (Ne.symm hjk)
      exact (g.sta.ob j m q' h1 h2).keep s1 (fun z => by rw [upd_ne ap.1]; exact z) (fun z => by rw [upd_ne ap.2.2.1]; exact z) (fun _ z => z) (fun _ z => z)
  · by_cases eb : b = q.1
    · subst eb
      refine .inr ?_
      obtain ⟨β, e1, hβ⟩ := g.st.pre
      have : q ∈ β := by
        rw [e1, List.getElem?_append_right he] at hp
        exact List.mem_of_getElem? hp
      exact (hβ q this).1
    · rw [upd_ne eb] at h; exact g.st.new b h
theorem Dens.reread {F : Hp} {d d' : D} {i : Nat} {ds : List D} {vs : List V} (h : Dens K F ds vs) (hi : ds[i]? = some d) (hd : ∀ v, Den K F d v → Den K F d' v) : Dens K F (ds.set i d') vs := by
  obtain ⟨v, hv, o⟩ := h.get hi
  have := h.set (hd v o) i
  have e : vs.set i v = vs := by
    apply List.ext_getElem?
    intro j
    by_cases e : i = j
    · subst e; rw [List.getElem?_set_self (List.getElem?_eq_some_iff.mp hv).1, hv]
    · rw [List.getElem?_set_ne e]
  rwa [e] at this
theorem Sta.reob {α : Al} {F H : Hp} (S : Sta K α M F H) {j : Nat} {m m' : MO} (hj : M[j]? = some m) (h : ∀ p, MObj K F H m p → MObj K F H m' p) : Sta K α (M.set j m') F H := by
  refine ⟨S.sub, by simp [S.len], fun i mo q h1 h2 => ?_, S.ap, S.tr⟩
  by_cases e : j = i
  · subst e
    rw [List.getElem?_set_self (List.getElem?_eq_some_iff.mp hj).1] at h1
    cases h1
    exact h q (S.ob j m q hj h2)
  · rw [List.getElem?_set_ne e] at h1
    exact S.ob i mo q h1 h2
theorem r_fzI (k j i : Nat) {p C : Addr} {ns : List Str} {ds es : List D} (hk : M[k]? = some (.pin p ds)) (hj : M[j]? = some (.ins C ns es)) (hi : es[i]? = some (.raw (.ref p))) (he : e.α.length ≤ k) (hkj : k ≠ j)
    (h : RunD K e t ρ ((M.set k .dead).set j (.ins C ns (es.set i (.lst ds)))) nx rt bk ct) : RunD K e t ρ M nx rt bk ct := fun X σ α F H g ok => by
  obtain ⟨F', x, hd, g'⟩ := g.fz hk he
  refine h X σ α F' H ⟨g'.env, g'.sta.reob (m := .ins C ns es) (by rw [List.getElem?_set_ne hkj]; exact hj) fun q z => ?_, g'.st⟩ (ok.at x)
  obtain ⟨a, dx, vs, b, l, o⟩ := z
  refine ⟨a, dx, vs, b, l, o.reread hi fun v hv => ?_⟩
  have hv : v = .ref p := hv
  subst hv; exact hd
theorem r_fzP (k j i : Nat) {p b : Addr} {ds es : List D} (hk : M[k]? = some (.pin p ds)) (hj : M[j]? = some (.pin b es)) (hi : es[i]? = some (.raw (.ref p))) (he : e.α.length ≤ k) (hkj : k ≠ j)
    (h : RunD K e t ρ ((M.set k .dead).set j (.pin b (es.set i (.lst ds)))) nx rt bk ct) : RunD K e t ρ M nx rt bk ct := fun X σ α F H g ok => by
  obtain ⟨F', x, hd, g'⟩ := g.fz hk he
  refine h X σ α F' H ⟨g'.env, g'.sta.reob (m := .pin b es) (by rw [List.getElem?_set_ne hkj]; exact hj) fun q z => ?_, g'.st⟩ (ok.at x)
  obtain ⟨a, dx, vs, l, o⟩ := z
  refine ⟨a, dx, vs, l, o.reread hi fun v hv => ?_⟩
  have hv : v = .ref p := hv
  subst hv; exact hd
end
end DL

/-! DL18: comprehensions by a relation. -/
namespace DL
open PySem L2
def AllR {α β : Type} (R : α → β → Prop) : List α → List β → Prop
  | [], ys => ys = []
  | x :: xs, ys => ∃ y r, ys = y :: r ∧ R x y ∧ AllR R xs r
theorem AllR.snoc {α β : Type} {R : α → β → Prop} {x : α} {y : β} (hxy : R x y) : ∀ {xs : List α} {ys : List β}, AllR R xs ys → AllR R (xs ++ [x]) (ys ++ [y])
  | [], _, h => by
    have h : _ = [] := h
    subst h
    exact ⟨y, [], rfl, hxy, rfl⟩
  | _ :: _, _, ⟨z, r, e, h1, h2⟩ => by
    subst e
    exact ⟨z, r ++ [y], rfl, h1, h2.snoc hxy⟩
theorem AllR.len {α β : Type} {R : α → β → Prop} : ∀ {xs : List α} {ys : List β}, AllR R xs ys → ys.length = xs.length
  | [], _, h => by
    have h : _ = [] := h
    subst h; rfl
  | _ :: _, _, ⟨z, r, e, h1, h2⟩ => by
    subst e
    simp [h2.len]
section
variable {K : PySem.W.Frag} {e : Ent} {ρ : Rho} {M : List MO} {te ta tb to ti : TE} {t u : TS} {Q : Sl → Prop}
theorem ev_lcR {wi : TI} {g : TG} {vs : List Nat} (R : D → D → Prop) (h : EvI K wi ρ M fun items => items.length ≤ 16777216 ∧ (∀ (i : Nat) d, items[i]? = some d → EvG K g vs d (wipeR ρ vs) fun ρ' => EvP K te ρ' M fun s => ∃ d', s = .v d' ∧ R d d') ∧ ∀ ds, AllR R items ds → Q (.v (.lst ds))) : EvP K (tLc wi g tYes te vs) ρ M Q := by
  refine ev_lc fun σ α F H en S k kk => h σ α F H en S k fun J F' H' items m S' ok ⟨h1, h2, h3⟩ => kk J F' H' items m S' ok ⟨h1, fun i acc => AllR R (items.take i) acc, rfl, fun i d acc hi ha => ?_, fun acc ha => h3 acc (by simpa using ha)⟩
  intro σ α F H v en s hd k kk
  refine h2 i d hi σ α F H v en s hd k fun σ' ρ' en' hl hj q => kk σ' ρ' en' hl hj ?_
  intro σ α F H en S k kk
  refine kk true F H .refl S ?_
  show EvP K te ρ' M fun s => ∃ d', s = .v d' ∧ AllR R (items.take (i + 1)) (acc ++ [d'])
  refine q.mono fun s ⟨d', e1, r⟩ => ⟨d', e1, ?_⟩
  have : items.take (i + 1) = items.take i ++ [d] := by
    obtain ⟨hlt, e2⟩ := List.getElem?_eq_some_iff.mp hi
    rw [List.take_succ_eq_append_getElem hlt, e2]
  rw [this]
  exact ha.snoc r
/-- o.f, o plain data -/
theorem ev_at {f : Str} (h : EvP K te ρ M fun s => ∃ C ns ds, s = .v (.ins C ns ds) ∧ Cls K C ∧ NoAttr K C f ∧ ∃ i d, (ns.findIdx? (· == f)) = some i ∧ ds[i]? = some d ∧ Q (.v d)) : EvP K (tFld K te f) ρ M Q := fun σ α F H en S k kk =>
  h σ α F H en S _ fun v F1 H1 s m1 S1 o1 ⟨C, ns, ds, e1, hc, hn, i, d, hi, hd, q⟩ => by
    subst e1
    obtain ⟨a, dx, vs, rfl, h1, h2, h3⟩ := o1
    obtain ⟨w, hw, r⟩ := h3.get hd
    exact ⟨a, C, dx, _, w, rfl, S1.sub _ _ h1, hc, hn, lookup_zip hi hw, kk w F1 H1 _ m1 S1 (den_ok r) q⟩
end
end DL

/-! DL19: for k in a call that lays a dict of its own; t < u of nested tuples. -/
namespace DL
open PySem L2
section
variable {X : Cx} {tg e : Expr} {td : TE}
/-- the dict is new, and no one else's: locked from here on -/
def iKeysN (td : TE) : TI := fun σ H R => td σ H fun x H1 => ∃ d kvs, x = .ref d ∧ H1 d = some (.dK kvs) ∧ ∀ od, R (Itk d od kvs) (upd H1 d (.frz od (.dK kvs)))
end
section
variable {K : PySem.W.Frag} {e : Ent} {ρ : Rho} {M : List MO} {te ta tb : TE} {t u : TS} {Q : Sl → Prop} {nx bk ct : Rho → List MO → Prop} {rt : Sl → List MO → Prop}
end
/-! ### t < u -/
def rLtD (K : PySem.W.Frag) : R2 := fun x y H Q => ∃ d e, Dp K H x d ∧ Dp K H y e ∧ PySem.W.alike d e = true ∧ d ≠ .none ∧ d.depth ≤ 64 ∧ Q (.bl (PySem.W.dataLt d e)) H
/-! ### max(t) of a tuple of numbers -/
def rMaxT (K : PySem.W.Frag) : List V → Hp → VK → Prop := fun vs H Q => ∃ (a : Addr) (n : Int) (ns : List Int), vs = [V.ref a] ∧ SqT K H a ((n :: ns).map V.int) ∧ Q (.int (ns.foldl max n)) H
section
variable {X : Cx} {e : Expr} {t : TA} {p pos : Pos}
end
/-! ### [f for x in xs for y in ys] -/
section
variable {K : PySem.W.Frag} {e : Ent} {ρ : Rho} {M : List MO} {te ta tb : TE} {t u : TS} {Q : Sl → Prop}
end
end DL

/-! DL20: a, b, c = a list. -/
namespace DL
open PySem L2
section
variable {K : PySem.W.Frag} {ρ : Rho}
end
end DL

/-! DL21: min of a tuple. -/
namespace DL
open PySem L2
/-! ### min(t) of a tuple of numbers -/
def rMinT (K : PySem.W.Frag) : List V → Hp → VK → Prop := fun vs H Q => ∃ (a : Addr) (n : Int) (ns : List Int), vs = [V.ref a] ∧ SqT K H a ((n :: ns).map V.int) ∧ Q (.int (ns.foldl min n)) H
section
variable {X : Cx} {e : Expr} {t : TA} {p pos : Pos}
end
end DL

namespace DL
open PySem L2
/-! ### xs.insert(i, x) -/
section
variable {K : PySem.W.Frag} {e : Ent} {ρ : Rho} {M : List MO} {nx bk ct : Rho → List MO → Prop} {rt : Sl → List MO → Prop}
def rInsert : V → List V → Hp → VK → Prop := fun x vs H Q => ∃ (l : Addr) (xs : List V) (i : Int) (y : V), x = .ref l ∧ vs = [.int i, y] ∧ H l = some (.lst xs) ∧ xs.length < sizeLine ∧ 0 ≤ i ∧ i < 2 ^ 63 ∧ Q .non (upd H l (.lst (xs.take i.toNat ++ [y] ++ xs.drop i.toNat)))
theorem r_ins {i k : Nat} {ds : List D} {ta : TA} (hi : ρ[i]? = some (some (.l k))) (hk : M[k]? = some (.lst ds)) (h : EvA K ta ρ M fun ss => ∃ (j : Nat) (d : D), ss = [.v (.int (j : Int)), .v d] ∧ j < 16777216 ∧ ds.length < 16777216 ∧ nx ρ (M.set k (.lst (ds.take j ++ [d] ++ ds.drop j)))) :
    RunD K e (tDrop (tBM K "list" rInsert (tVar i) ta)) ρ M nx rt bk ct := fun X σ α F H g ok => by
  obtain ⟨v, h1, p, hp, rfl⟩ := g.env.at' i _ hi
  obtain ⟨hF, vs, hvs, _⟩ := g.sta.ob k _ p hk hp
  refine ⟨_, h1, .inl ⟨rfl, vs, SqL.of hvs⟩, h σ α F H g.env g.sta _ fun us F1 H1 ss m1 S1 o1 ⟨j, d, e1, hj, hl, q1⟩ => ?_⟩
  subst e1
  obtain ⟨u1, r1, rfl, a1, u2, r2, rfl, a2, rfl⟩ := o1
  have a1 : u1 = .int (j : Int) := a1
  subst a1
  have a2 : Den K F1 d u2 := a2
  obtain ⟨hF1, vs1, hvs1, hd1⟩ := S1.ob k _ p hk hp
  have tn : ((j : Int)).toNat = j := Int.toNat_natCast j
  refine ⟨p.1, vs1, (j : Int), u2, rfl, rfl, hvs1, by rw [← hd1.length, sizeLine_eq]; exact hl, by omega, by omega, ?_⟩
  rw [tn]
  obtain ⟨m2, S2⟩ := S1.write (m' := .lst (ds.take j ++ [d] ++ ds.drop j)) (o := .lst (vs1.take j ++ [u2] ++ vs1.drop j)) hp hF1 ⟨hF1, _, upd_same, ((hd1.take j).append (Dens.cons a2 Dens.nil)).append (hd1.drop j)⟩
  exact ok.nx _ _ F1 _ _ _ ⟨(g.env.mono m1.ex), S2, (g.st.move m1).move m2⟩ m1.ex q1
theorem x_ins {i : Nat} {ta : TA} (h : ∃ k ds, ρ[i]? = some (some (.l k)) ∧ M[k]? = some (.lst ds) ∧ EvA K ta ρ M fun ss => ∃ (j : Nat) (d : D), ss = [.v (.int (j : Int)), .v d] ∧ j < 16777216 ∧ ds.length < 16777216 ∧ nx ρ (M.set k (.lst (ds.take j ++ [d] ++ ds.drop j)))) :
    RunD K e (tDrop (tBM K "list" rInsert (tVar i) ta)) ρ M nx rt bk ct := let ⟨_, _, a, b, c⟩ := h; r_ins a b c
end
end DL

/-! DL23: a comprehension that makes a list that is to change. -/
namespace DL
open PySem L2
section
variable {K : PySem.W.Frag} {e : Ent} {ρ : Rho} {M : List MO} {te ta tb : TE} {nx bk ct : Rho → List MO → Prop} {rt : Sl → List MO → Prop}
end
end DL

/-! DL24: own errors: raised, let through, caught; over plain data. -/
namespace DL
open PySem L2
section
variable {K : PySem.W.Frag} {e : Ent} {ρ : Rho} {M : List MO} {te ta tb : TE} {t u : TS} {Q : Sl → Prop} {nx bk ct : Rho → List MO → Prop} {rt : Sl → List MO → Prop}
/-- an error as it leaves: its class at C; with one field, its dict is a thing of its own -/
def ErrAt (M1 : List MO) (C : Addr) (pl : Option (Str × V)) (cls : Value) (d : Option Addr) : Prop := cls = .ref C ∧ match pl with
  | none => d = none ∧ M1 = []
  | some q => ∃ dd, d = some dd ∧ M1 = [.ho dd (.xd [q])]
def XOk (K : PySem.W.Frag) (e : Ent) (xr : Addr → Option (Str × V) → Rho → List MO → Prop) (W : WX) : Prop := ∀ σ α F H ρ M M1 C pl cls d, Good K e α F H σ ρ (M ++ M1) → ErrAt M1 C pl cls d → xr C pl ρ M → W cls d σ H
/-- an expression that may raise -/
def EvX (K : PySem.W.Frag) (e : Ent) (te : TE) (ρ : Rho) (M : List MO) (Q : Sl → Prop) : Prop := ∀ σ α F H, Good K e α F H σ ρ M → ∀ k : VK, (∀ v F' H' s, Move α F H F' H' → Sta K α M F' H' → SlOk K α F' s v → Q s → k v H') → te σ H k
theorem EvP.x (h : EvP K te ρ M Q) : EvX K e te ρ M Q := fun σ α F H g k kk => h σ α F H g.env g.sta k kk
theorem EvX.mono {Q' : Sl → Prop} (h : EvX K e te ρ M Q) (q : ∀ s, Q s → Q' s) : EvX K e te ρ M Q' := fun σ α F H g k kk => h σ α F H g k fun v F' H' s a b c d => kk v F' H' s a b c (q s d)
/-- plain data in; plain data out, or an error -/
def SpX {ι : Type} (K : PySem.W.Frag) (args : ι → List D) (pre : ι → Prop) (post : ι → D → Prop) (bad : ι → Addr → Option (Str × V) → Prop) : Sp := fun vs H Q E =>
  ∃ (x : ι) (F : Hp), SlsOk K [] F ((args x).map Sl.v) vs ∧ Same F H ∧ pre x ∧ (∀ v F' H' d M', Move [] F H F' H' → Sta K [] M' F' H' → Den K F' d v → post x d → Q v H') ∧
    ∀ C pl cls d α F' H' M1, Move [] F H F' H' → Sta K α M1 F' H' → (∀ p, p ∈ α → H p.1 = none ∧ H p.2 = none) → ErrAt M1 C pl cls d → bad x C pl → E cls d H'
theorem StepE.trans {α α' : Al} {F H F' H' : Hp} (s : StepE e α F H) (t : StepE ⟨α, F, H⟩ α' F' H') : StepE e α' F' H' := by
  obtain ⟨β, e1, hβ⟩ := s.pre
  obtain ⟨β', e2, hβ'⟩ := t.pre
  have e2 : α' = α ++ β' := e2
  refine ⟨s.ex.trans t.ex, fun b o h k => t.fr b o (s.fr b o h k) fun p hp => ?_, fun b h => t.tr b (s.tr b h), fun b h => ?_, ⟨β ++ β', by rw [e2, e1, List.append_assoc], fun p hp => ?_⟩⟩
  · have hp : p ∈ α := hp
    rw [e1] at hp
    rcases List.mem_append.mp hp with q | q
    · exact k p q
    · have := hβ p q
      exact ⟨fun z => by { rw [z, this.1] at h; cases h }, fun z => by { rw [z, this.2] at h; cases h }⟩
  · rcases t.new b h with q | q
    · exact s.new b q
    · exact .inr (none_back (s.tr b) q)
  · rcases List.mem_append.mp hp with q | q
    · exact hβ p q
    · have := hβ' p q
      exact ⟨none_back (s.tr _) this.1, none_back (s.tr _) this.2⟩
section
variable {ι : Type} {args : ι → List D} {pre : ι → Prop} {post : ι → D → Prop} {bad : ι → Addr → Option (Str × V) → Prop} {xr : Addr → Option (Str × V) → Rho → List MO → Prop} {W : WX}
/-- a call of a value: which function it is the reading tells -/
def tCallV (ok : V → Sp → Prop) (E : L2.St → XK) (tf : TE) (t : TA) : TE := fun σ H Q => tf σ H fun v H1 => ∃ sp, ok v sp ∧ t σ H1 fun vs H2 => sp vs H2 Q (E σ)
/-! raise -/
def tRaise0 (C : Addr) (W : WX) : TS := fun _ σ H => W (.ref C) none σ H
def tRaiseF (C : Addr) (f : Str) (te : TE) (W : WX) : TS := fun _ σ H => te σ H fun v H1 => ∀ dd, H1 dd = none → W (.ref C) (some dd) σ (upd H1 dd (.xd [(f, v)]))
/-! try -/
theorem EndsOk.sub {α : Al} {F H B : Hp} {E : EndsD} {X : Ends} (ok : EndsOk K e B E X) (s : StepE e α F H) : EndsOk K ⟨α, F, H⟩ B E X :=
  ⟨fun σ α F H ρ M g z q => ok.nx σ α F H ρ M ⟨g.env, g.sta, s.trans g.st⟩ z q, fun v t α F H M a b c z q => ok.rt v t α F H M a b (s.trans c) z q,
   fun σ α F H ρ M g z q => ok.bk σ α F H ρ M ⟨g.env, g.sta, s.trans g.st⟩ z q, fun σ α F H ρ M g z q => ok.ct σ α F H ρ M ⟨g.env, g.sta, s.trans g.st⟩ z q⟩
end
end
section
variable {P : Program} {w : World} {K : PySem.W.Frag} {mg : Str → Option Value} {base : Heap}
theorem FnAt.mono {CX : CXT} {j k : Nat} {x : Str} {ps : List Str} {sp : Sp} (F : FnAt P w K mg base CX j x ps sp) (h : j ≤ k) : FnAt P w K mg base CX k x ps sp :=
  let ⟨f, fd, a, b, c, d⟩ := F
  ⟨f, fd, a, b, c, d.mono h⟩
end
end DL

/-! DL25: own errors: the statements' rules, what the top says of their classes. -/
namespace DL
open PySem L2
/-- an error's class -/
structure ECls (K : PySem.W.Frag) (mg : Str → Option Value) (x : Str) (C : Addr) : Prop where
  m : mg x = some (.ref C)
  ex : ExcC K C
  ty : PySem.W.typeIn K (.ref C) = some (.type "type")
  kp : PySem.W.keepIn K (.ref C) = true
abbrev veB : List Value := [.type "ValueError", .type "Exception", .type "BaseException", .type "object"]
/-- .. without an __init__ of its own -/
def Bare (K : PySem.W.Frag) (C : Addr) : Prop := PySem.W.excIn K C veB "ValueError.__new__" = true
structure SubIs (K : PySem.W.Frag) (C C2 : Addr) (b : Bool) : Prop where
  s : PySem.W.subIn K (.ref C) (.ref C2) = some b
  r : C = C2 → b = true
section
variable {K : PySem.W.Frag} {mg : Str → Option Value} {R : Prop} {x y : Str} {h : Heap} {C C2 : Addr} {b : Bool}
end
section
variable {X : Cx} {x : Str} {C : Addr} {p p2 pos : Pos} {W : WX}
/-- a value that is a function of a promise -/
def FnV (P : Program) (w : World) (K : PySem.W.Frag) (mg : Str → Option Value) (base : Heap) (k : Nat) (v : V) (sp : Sp) : Prop :=
  ∃ f fd ps, v = .ref f ∧ PySem.W.keepIn K (.ref f) = true ∧ Binds K fd ps [] ∧ FnOk P w K mg base (L2N.CX P w) k f fd ps sp
theorem FnAt.val {P : Program} {w : World} {K : PySem.W.Frag} {mg : Str → Option Value} {base : Heap} {k : Nat} {ps : List Str} {sp : Sp} (F : FnAt P w K mg base (L2N.CX P w) k x ps sp) : ∃ f, mg x = some (.ref f) ∧ FnV P w K mg base k (.ref f) sp := by
  obtain ⟨f, fd, ⟨hm, _⟩, hk, hb, F⟩ := F
  exact ⟨f, hm, f, fd, ps, rfl, hk, binds_of hb, F⟩
end
/-! in an except's suite -/
section
variable {X : Cx} {a : Addr} {oe : Obj} {cls : Value} {d : Option Addr} {pn : List (Addr × Obj)}
def rIsX (K : PySem.W.Frag) (a : Addr) (cls : Value) (d : Option Addr) : List V → Hp → VK → Prop := fun xs H Q => ∃ (C : Addr) (c : V) (cv : Value) (b : Bool), cls = .ref C ∧ ExcC K C ∧ (∀ dd, d = some dd → ∃ fs, H dd = some (.xd fs)) ∧
  xs = [.ref a, c] ∧ (∀ u, RelV c u → u = cv) ∧ PySem.W.kitOne K (.ref C) cv = some b ∧ Q (.bl b) H
end
section
variable {K : PySem.W.Frag} {mg : Str → Option Value} {ρ : Rho} {M : List MO} {Q : Sl → Prop} {te : TE} {a C C2 : Addr} {x y : Str} {b : Bool}
/-- what a list of things knows of the error's dict -/
def HasX (M : List MO) (d : Option Addr) : Prop := ∀ dd, d = some dd → ∃ (k : Nat) (fs : List (Str × V)), M[k]? = some (.ho dd (.xd fs))
theorem ErrAt.has {M M1 : List MO} {pl : Option (Str × V)} {cls : Value} {d : Option Addr} (h : ErrAt M1 C pl cls d) : HasX (M ++ M1) d := fun dd e => by
  cases pl with
  | none =>
    obtain ⟨_, h2, _⟩ := h
    rw [h2] at e; cases e
  | some q =>
    obtain ⟨_, d2, h2, h3⟩ := h
    rw [h2] at e; cases e
    exact ⟨M.length, [q], by rw [h3, List.getElem?_append_right (Nat.le_refl _)]; simp⟩
end
end DL

/-! DL26: a comprehension over a range in an except's suite. -/
namespace DL
open PySem PySem.Spec PyProof.Rows L2 HotX L2H
section
variable {X : Cx}
section
variable {elt tg iter : Expr} {ifs : List Expr} {scope : Scope} {own : List (Str × Nat)} {pos : Pos} {wi : TI} {g : TG} {tt : TT} {te : TE}
end
end
/-! ### try, as one word -/
section
variable {K : PySem.W.Frag} {c : Value} {i : Nat} {tb : WX → TS} {ts : Addr → Value → Option Addr → TS} {Wout : WX}
def tTry (K : PySem.W.Frag) (c : Value) (i : Nat) (tb : WX → TS) (ts : Addr → Value → Option Addr → TS) (Wout : WX) : TS := fun D σ H => tb (wAs K c i ts Wout D) D σ H
end
end DL

/-! DL27: a dict from pairs (number, bool) to True. -/
namespace DL
open PySem PySem.Spec PyProof.Rows L2
abbrev kB (r : Int) (f : Bool) : NestedKey := .tup [.num r, .num (if f = true then 1 else 0)]
abbrev XsB := List (NestedKey × Addr × Value)
/-- the dict's own object: its entries -/
def dbO (P : Program) (w : World) (d : Addr) (xs : XsB) : HO := .ext fun h => (d == sysModules) = false ∧ ∃ o es ep, h.get? d = some o ∧ o.ExactDict ∧ o.data = .dict es ep ∧ es.toList = xs.map (entryOfKey (nestedKind P w)) ∧ (xs.map (·.1)).Nodup
/-- its keys are tuples that stand -/
def KeysAt (K : PySem.W.Frag) (H : Hp) (xs : XsB) : Prop := ∀ z, z ∈ xs → ∃ (r : Int) (f : Bool), z.1 = kB r f ∧ SqT K H z.2.1 [.int r, .bl f]
theorem KeysAt.mono {K : PySem.W.Frag} {xs : XsB} (F F' : Hp) (e : Same F F') (h : KeysAt K F xs) : KeysAt K F' xs := fun z hz => let ⟨r, f, a, b⟩ := h z hz; ⟨r, f, a, sqt_same K e b⟩
theorem dbO_ok {P : Program} {w : World} {H : Hp} {h : Heap} {d : Addr} {xs : XsB} (hs : (d == sysModules) = false) (x : ∃ o es ep, h.get? d = some o ∧ o.ExactDict ∧ o.data = .dict es ep ∧ es.toList = xs.map (entryOfKey (nestedKind P w)) ∧ (xs.map (·.1)).Nodup) : ObjOk P w H h d (dbO P w d xs) := by
  obtain ⟨o, es, ep, e, r⟩ := x
  exact ⟨⟨hs, o, es, ep, e, r⟩, ⟨o, e⟩, fun h1 h2 ⟨a, o, es, ep, e, r⟩ k => ⟨a, o, es, ep, k _ e, r⟩⟩
theorem dbO_at {P : Program} {w : World} {H : Hp} {h : Heap} {d : Addr} {xs : XsB} (x : HOk P w H h) (e : H d = some (dbO P w d xs)) : (d == sysModules) = false ∧ ∃ o es ep, h.get? d = some o ∧ o.ExactDict ∧ o.data = .dict es ep ∧ es.toList = xs.map (entryOfKey (nestedKind P w)) ∧ (xs.map (·.1)).Nodup := by
  have y : ObjOk P w H h d (.ext fun h => (d == sysModules) = false ∧ ∃ o es ep, h.get? d = some o ∧ o.ExactDict ∧ o.data = .dict es ep ∧ es.toList = xs.map (entryOfKey (nestedKind P w)) ∧ (xs.map (·.1)).Nodup) := x d _ e
  exact y.1
section
variable {X : Cx} {pins : List (Addr × Obj)} {σ : L2.St} {H : Hp} {s : Shared} {pos : Pos}
theorem key_is {b : Addr} {r : Int} {f : Bool} (I : Inv X pins σ H s) (h : SqT X.K H b [.int r, .bl f]) : (nestedKind X.prog X.w).is s.heap (kB r f) b := by
  obtain ⟨its, v, ⟨o, e1, e2, n, e3⟩, _⟩ := I.tuple h
  cases v with
  | cons v1 v2 =>
    cases v2 with
    | cons v3 v4 =>
      cases v4
      obtain ⟨t, rfl⟩ := v1
      cases v3
      refine ⟨.tup e1 e2 e3 ?_, by simp [NestedKey.depth, NestedKey.depthAll]⟩
      exact .cons (.int r t) (.cons (.bool rfl) .nil)
theorem dict_is {d : Addr} {xs : XsB} (I : Inv X pins σ H s) (e : H d = some (dbO X.prog X.w d xs)) (h : KeysAt X.K H xs) : s.heap.DictOfH (nestedKind X.prog X.w) d xs := by
  obtain ⟨_, o, es, ep, e1, e2, e3, e4, e5⟩ := dbO_at I.hok e
  refine ⟨o, es, ep, e1, e2, e3, e4, fun z hz => ?_, e5⟩
  obtain ⟨r, f, k, q⟩ := h z hz
  rw [k]
  exact key_is I q
def tDNewB (P : Program) (w : World) : TE := fun _ H Q => ∀ p, H p = none → Q (.ref p) (upd H p (dbO P w p []))
theorem pe_dnewB : PE X (.Dict [] [] pos) (tDNewB X.prog X.w) := ⟨fun pins s σ H Q I h => by
  refine wpAny_Dict_empty ⟨.ref s.heap.objs.size, _, I.laid (a := s.heap.objs.size) (o := dbO X.prog X.w s.heap.objs.size []) (t' := s.toks) (fun _ _ q => Heap.get?_push_of_some _ q) (Nat.le_refl _) ?_, rfl, h _ (I.hok.fresh (Nat.le_refl _))⟩
  exact dbO_ok (beq_eq_false_iff_ne.mpr (Ne.symm (Nat.ne_of_lt I.big))) ⟨_, #[], 0, Heap.get?_push_size _ rfl, ⟨rfl, rfl, rfl⟩, rfl, rfl, List.nodup_nil⟩⟩
/-- (r, f) in d -/
def rInB (P : Program) (w : World) (K : PySem.W.Frag) : R2 := fun x y H Q => ∃ (b d : Addr) (xs : XsB) (r : Int) (f : Bool), x = .ref b ∧ y = .ref d ∧ H d = some (dbO P w d xs) ∧ KeysAt K H xs ∧ SqT K H b [.int r, .bl f] ∧ Q (.bl (atKey xs (kB r f)).isSome) H
theorem op_inB {P : Program} {w : World} {K : PySem.W.Frag} (hu : X.A.units + 65 < cLine) (hP : X.prog = P := by rfl) (hw : X.w = w := by rfl) (hK : X.K = K := by rfl) : OpR X (compareOp .In) (rInB P w K) := by
  subst hP hw hK
  intro pins s σ H x y v u Q I rx ry h
  obtain ⟨b, d, xs, r, f, rfl, rfl, e, hk, hb, q⟩ := h
  cases rx
  cases ry
  exact wpAny_in_heap (knd := nestedKind X.prog X.w) (by show X.A.units + 1 + 8 < cLine; omega) (key_is I hb) (dbO_at I.hok e).1 (dict_is I e hk) ⟨V.bl (atKey xs (kB r f)).isSome, H, I.tok _, rfl, q⟩
/-- d[(r, f)] = True -/
def rSetB (P : Program) (w : World) (K : PySem.W.Frag) : TSet := fun o i v H Q => ∃ (d b : Addr) (xs : XsB) (r : Int) (f : Bool), o = .ref d ∧ i = .ref b ∧ v = .bl true ∧ H d = some (dbO P w d xs) ∧ KeysAt K H xs ∧ xs.length ≤ 1000 ∧ SqT K H b [.int r, .bl f] ∧
  Q (upd H d (dbO P w d (storedH xs (kB r f) b (.bool true))))
theorem set_B {P : Program} {w : World} {K : PySem.W.Frag} (hu : X.A.units + 65 < cLine) (hP : X.prog = P := by rfl) (hw : X.w = w := by rfl) (hK : X.K = K := by rfl) : PSet X (rSetB P w K) := by
  subst hP hw hK
  intro pins s σ H o i v ov iv u Q I ro ri rv h
  obtain ⟨d, b, xs, r, f, rfl, rfl, rfl, e, hk, hl, hb, q⟩ := h
  cases ro
  cases ri
  cases rv
  have sm := (dbO_at I.hok e).1
  refine wpAny_setItem_heap (knd := nestedKind X.prog X.w) (hsz := by rw [sizeLine_eq]; omega) (by show X.A.units + 1 + 8 < cLine; omega) (key_is I hb) (dict_is I e hk) fun h' hm hs => ⟨_, ?_, q⟩
  obtain ⟨o, es, ep, e1, e2, e3, e4, _, e5⟩ := hm
  exact I.write (x := d) (e := d) (by rw [e]; exact True.intro) (.inl rfl) (fun c y hc hy => (hs.2 c hc).trans hy) ⟨o, e1⟩ (dbO_ok sm ⟨o, es, ep, e1, e2, e3, e4, e5⟩)
end
/-! over plain data -/
section
variable {P : Program} {w : World} {K : PySem.W.Frag} {e : Ent} {ρ : Rho} {M : List MO} {te ti : TE} {Q : Sl → Prop} {nx bk ct : Rho → List MO → Prop} {rt : Sl → List MO → Prop}
abbrev MO.dB (P : Program) (w : World) (K : PySem.W.Frag) (d : Addr) (xs : XsB) : MO := .hoF d (dbO P w d xs) (fun F => KeysAt K F xs) KeysAt.mono
theorem r_newB {i : Nat} (q : ∀ d, nx (ρ.set i (some (.l M.length))) (M ++ [.dB P w K d []])) : RunD K e (tAsg (tDNewB P w) (gName i)) ρ M nx rt bk ct := fun X σ α F H g ok p hp => by
  have S2 := g.sta.more (m' := .dB P w K p []) (o := dbO P w p []) hp ⟨g.sta.sub.free hp, rfl, upd_same, fun z hz => by simp at hz⟩
  exact ok.nx _ _ F _ _ _ ⟨g.env.more.set i (loc_ok (p := (p, p)) (sta_len g.sta)), S2, g.st.more hp⟩ (.refl F) (q p)
theorem tup_two {α : Al} {F : Hp} {r : Int} {f : Bool} {u : V} (o : SlOk K α F (.v (.tup [.int r, .bl f])) u) : ∃ b, u = .ref b ∧ SqT K F b [.int r, .bl f] := by
  obtain ⟨a, vs, rfl, h, d⟩ := o
  obtain ⟨v, t, rfl, d1, d2⟩ := d
  obtain ⟨v', t', rfl, d3, d4⟩ := d2
  have d4 : t' = [] := d4
  have d1 : v = .int r := d1
  have d3 : v' = .bl f := d3
  subst d4; subst d1; subst d3
  exact ⟨a, rfl, h⟩
theorem er_inB {k : Nat} {d : Addr} {xs : XsB} {r : Int} {f : Bool} (hk : M[k]? = some (.dB P w K d xs)) (q : Q (.v (.bl (atKey xs (kB r f)).isSome))) : EvR K (rInB P w K) M (.v (.tup [.int r, .bl f])) (.l k) Q := fun α F H u v S o1 o2 kk kq => by
  obtain ⟨b, rfl, hb⟩ := tup_two o1
  obtain ⟨p, hp, rfl⟩ := o2
  obtain ⟨_, e2, e3, e4⟩ := S.ob k _ p hk hp
  refine ⟨b, p.1, xs, r, f, rfl, rfl, by rw [e3, e2], KeysAt.mono _ _ S.sub e4, sqt_same K S.sub hb, kq _ F H _ .refl S raw_ok q⟩
theorem r_setB {i k : Nat} {d : Addr} {xs : XsB} (hi : ρ[i]? = some (some (.l k))) (hk : M[k]? = some (.dB P w K d xs)) (hl : xs.length ≤ 1000)
    (h : EvP K te ρ M fun s => s = .v (.bl true) ∧ EvP K ti ρ M fun s' => ∃ r f, s' = .v (.tup [.int r, .bl f]) ∧ ∀ b, nx ρ (M.set k (.dB P w K d (storedH xs (kB r f) b (.bool true))))) :
    RunD K e (tAsg te (L2.gSub (tVar i) ti (rSetB P w K))) ρ M nx rt bk ct := fun X σ α F H g ok =>
  h σ α F H g.env g.sta _ fun v F1 H1 s m1 S1 o1 ⟨es, q1⟩ => by
    subst es
    have o1 : v = .bl true := o1
    subst o1
    obtain ⟨u, h1, p, hp, rfl⟩ := g.env.at' i _ hi
    refine ⟨_, h1, q1 σ α F1 H1 (g.env.mono m1.ex) S1 _ fun x F2 H2 s' m2 S2 o2 ⟨r, f, e2, q2⟩ => ?_⟩
    subst e2
    obtain ⟨b, rfl, hb⟩ := tup_two o2
    obtain ⟨hF, e3, e4, e5⟩ := S2.ob k _ p hk hp
    have hks := KeysAt.mono _ _ S2.sub e5
    refine ⟨p.1, b, xs, r, f, rfl, rfl, rfl, by rw [e4, e3], hks, hl, sqt_same K S2.sub hb, ?_⟩
    have ks : KeysAt K F2 (storedH xs (kB r f) b (.bool true)) := fun z hz => by
      unfold storedH at hz
      split at hz
      · obtain ⟨y, hy, rfl⟩ := List.mem_map.mp hz
        obtain ⟨r', f', a1, a2⟩ := e5 y hy
        refine ⟨r', f', ?_, ?_⟩
        · unfold putAt; split <;> exact a1
        · unfold putAt; split <;> exact a2
      · rcases List.mem_append.mp hz with hz | hz
        · exact e5 z hz
        · simp at hz; subst hz
          exact ⟨r, f, rfl, hb⟩
    obtain ⟨m3, S3⟩ := S2.write (m' := .dB P w K d (storedH xs (kB r f) b (.bool true))) (o := dbO P w p.1 (storedH xs (kB r f) b (.bool true))) hp hF ⟨hF, e3, by rw [upd_same, e3], ks⟩
    exact ok.nx _ _ F2 _ _ _ ⟨g.env.mono (m1.trans m2).ex, S3, (g.st.move (m1.trans m2)).move m3⟩ (m1.trans m2).ex (q2 b)
/-- which keys are there -/
def hasB (xs : XsB) (k : NestedKey) : Bool := (atKey xs k).isSome
theorem hasB_any (k : NestedKey) : ∀ xs : XsB, hasB xs k = xs.any fun x => decide (x.1 = k)
  | [] => rfl
  | x :: r => by
    have ih := hasB_any k r
    unfold hasB atKey at ih ⊢
    rw [Option.isSome_map] at ih ⊢
    rw [List.find?_cons, List.any_cons, ← ih]
    cases decide (x.1 = k) <;> rfl
theorem hasB_put (xs : XsB) (k k' : NestedKey) (b : Addr) (v : Value) : hasB (storedH xs k b v) k' = (hasB xs k' || decide (k = k')) := by
  have f1 : ∀ x : NestedKey × Addr × Value, (putAt k v x).1 = x.1 := fun x => by
    unfold putAt; split <;> rfl
  unfold storedH
  by_cases h : (atKey xs k).isSome = true
  · rw [if_pos h, hasB_any, hasB_any, List.any_map]
    have e1 : ((fun x : NestedKey × Addr × Value => decide (x.1 = k')) ∘ putAt k v) = fun x => decide (x.1 = k') := by
      funext x
      show decide ((putAt k v x).1 = k') = _
      rw [f1]
    rw [e1]
    by_cases e : k = k'
    · subst e
      have h2 : hasB xs k = true := h
      rw [hasB_any] at h2
      rw [h2]
      simp
    · rw [decide_eq_false e, Bool.or_false]
  · rw [if_neg h, hasB_any, hasB_any, List.any_append]
    simp
theorem storedH_len (xs : XsB) (k : NestedKey) (b : Addr) (v : Value) : (storedH xs k b v).length ≤ xs.length + 1 := by
  unfold storedH
  split <;> simp
theorem kB_inj {r r' : Int} {f f' : Bool} : kB r f = kB r' f' ↔ r = r' ∧ f = f' := by
  constructor
  · intro h
    have h2 := NestedKey.tup.inj h
    have h3 := (List.cons.inj h2).1
    have h4 := (List.cons.inj (List.cons.inj h2).2).1
    refine ⟨NestedKey.num.inj h3, ?_⟩
    have h5 := NestedKey.num.inj h4
    cases f <;> cases f' <;> simp at h5 ⊢
  · rintro ⟨rfl, rfl⟩; rfl
end
end DL

/-! plain number theory: primes, valuations, remainders of powers -/
namespace NT
def Pr (p : Nat) : Prop := 2 ≤ p ∧ ∀ d, d ∣ p → d = 1 ∨ d = p
theorem Pr.two {p : Nat} (h : Pr p) : 2 ≤ p := h.1
theorem Pr.pos {p : Nat} (h : Pr p) : 0 < p := by have := h.1; omega
theorem Pr.cop {p n : Nat} (h : Pr p) (hn : ¬ p ∣ n) : Nat.Coprime p n := by
  have h1 := h.2 (Nat.gcd p n) (Nat.gcd_dvd_left p n)
  rcases h1 with h1 | h1
  · exact h1
  · exact absurd (h1 ▸ Nat.gcd_dvd_right p n) hn
theorem Pr.dvd_mul {p a b : Nat} (h : Pr p) (d : p ∣ a * b) : p ∣ a ∨ p ∣ b := by
  by_cases ha : p ∣ a
  · exact .inl ha
  · exact .inr ((h.cop ha).dvd_of_dvd_mul_left d)
theorem Pr.one {p : Nat} (h : Pr p) : ¬ p ∣ 1 := by
  intro d
  have := Nat.le_of_dvd (by decide) d
  have := h.1
  omega
theorem Pr.eq {p q : Nat} (hp : Pr p) (hq : Pr q) (d : p ∣ q) : p = q := by
  rcases hq.2 p d with h | h
  · have := hp.1; omega
  · exact h
theorem ex_pr : ∀ (n : Nat), 2 ≤ n → ∃ p, Pr p ∧ p ∣ n := by
  intro n
  induction n using Nat.strongRecOn with
  | ind n ih =>
    intro h
    by_cases hp : Pr n
    · exact ⟨n, hp, Nat.dvd_refl n⟩
    · have : ∃ d, d ∣ n ∧ d ≠ 1 ∧ d ≠ n := by
        refine Classical.byContradiction fun z => hp ⟨h, fun d hd => ?_⟩
        refine Classical.byContradiction fun y => z ⟨d, hd, fun e => y (.inl e), fun e => y (.inr e)⟩
      obtain ⟨d, hd, h1, h2⟩ := this
      have hle := Nat.le_of_dvd (by omega) hd
      have h0 : d ≠ 0 := by
        rintro rfl
        have := Nat.zero_dvd.mp hd
        omega
      obtain ⟨p, hp, hpd⟩ := ih d (by omega) (by omega)
      exact ⟨p, hp, Nat.dvd_trans hpd hd⟩
/-! ### valuations -/
def vp (p n : Nat) : Nat := if h : 2 ≤ p ∧ 0 < n ∧ p ∣ n then 1 + vp p (n / p) else 0
termination_by n
decreasing_by exact Nat.div_lt_self h.2.1 (by omega)
theorem vp_no {p n : Nat} (h : ¬ p ∣ n) : vp p n = 0 := by
  rw [vp, dif_neg (fun z => h z.2.2)]
theorem vp_step {p n : Nat} (hp : 2 ≤ p) (hn : 0 < n) : vp p (p * n) = 1 + vp p n := by
  rw [vp, dif_pos ⟨hp, Nat.mul_pos (by omega) hn, Nat.dvd_mul_right p n⟩, Nat.mul_div_cancel_left n (by omega)]
theorem vp_pow {p m : Nat} (hp : 2 ≤ p) (hm : 0 < m) : ∀ k, vp p (p ^ k * m) = k + vp p m
  | 0 => by simp
  | k + 1 => by
    have e : p ^ (k + 1) * m = p * (p ^ k * m) := by rw [Nat.pow_succ]; grind
    rw [e, vp_step hp (Nat.mul_pos (Nat.pow_pos (by omega)) hm), vp_pow hp hm k]; omega
theorem vp_spec {p : Nat} (hp : 2 ≤ p) : ∀ (n : Nat), 0 < n → ∃ m, n = p ^ vp p n * m ∧ ¬ p ∣ m ∧ 0 < m := by
  intro n
  induction n using Nat.strongRecOn with
  | ind n ih =>
    intro hn
    by_cases h : p ∣ n
    · obtain ⟨c, rfl⟩ := h
      have hc : 0 < c := Nat.pos_of_ne_zero (fun z => by subst z; simp at hn)
      obtain ⟨m, h1, h2, h3⟩ := ih c (by
        have : 1 * c < p * c := Nat.mul_lt_mul_of_pos_right (by omega) hc
        omega) hc
      refine ⟨m, ?_, h2, h3⟩
      rw [vp_step hp hc, Nat.pow_add, Nat.pow_one, Nat.mul_assoc, ← h1]
    · exact ⟨n, by rw [vp_no h]; simp, h, hn⟩
theorem vp_mul {p : Nat} (hp : Pr p) {a b : Nat} (ha : 0 < a) (hb : 0 < b) : vp p (a * b) = vp p a + vp p b := by
  obtain ⟨c, e1, h1, p1⟩ := vp_spec hp.1 a ha
  obtain ⟨d, e2, h2, p2⟩ := vp_spec hp.1 b hb
  have e : a * b = p ^ (vp p a + vp p b) * (c * d) := by
    rw [Nat.pow_add]
    calc a * b = (p ^ vp p a * c) * (p ^ vp p b * d) := by rw [← e1, ← e2]
      _ = _ := by grind
  have : vp p (c * d) = 0 := vp_no (fun z => (hp.dvd_mul z).elim h1 h2)
  rw [e, vp_pow hp.1 (Nat.mul_pos p1 p2), this]; rfl
theorem vp_pos {p n : Nat} (hp : 2 ≤ p) (hn : 0 < n) : p ∣ n ↔ 0 < vp p n := by
  constructor
  · rintro ⟨c, rfl⟩
    have hc : 0 < c := Nat.pos_of_ne_zero (fun z => by subst z; simp at hn)
    rw [vp_step hp hc]; omega
  · intro h
    refine Classical.byContradiction fun z => ?_
    rw [vp_no z] at h; omega
theorem vp_one {p : Nat} (hp : Pr p) : vp p 1 = 0 := vp_no hp.one
theorem vp_self {p : Nat} (hp : Pr p) : vp p p = 1 := by
  have := vp_step (n := 1) hp.1 (by decide)
  rw [Nat.mul_one] at this
  rw [this, vp_one hp]
theorem vp_other {p q : Nat} (hp : Pr p) (hq : Pr q) (h : p ≠ q) : vp p q = 0 := vp_no (fun z => h (hp.eq hq z))
/-- the primes at most as often: a divisor -/
theorem dvd_of_vp : ∀ (a b : Nat), 0 < a → 0 < b → (∀ p, Pr p → vp p a ≤ vp p b) → a ∣ b := by
  intro a
  induction a using Nat.strongRecOn with
  | ind a ih =>
    intro b ha hb h
    by_cases h1 : a = 1
    · subst h1; exact Nat.one_dvd b
    · obtain ⟨p, hp, c, rfl⟩ := ex_pr a (by omega)
      have hc : 0 < c := Nat.pos_of_ne_zero (fun z => by subst z; simp at ha)
      have hd : p ∣ b := (vp_pos hp.1 hb).mpr (by
        have := h p hp
        rw [vp_step hp.1 hc] at this; omega)
      obtain ⟨d, rfl⟩ := hd
      have hd : 0 < d := Nat.pos_of_ne_zero (fun z => by subst z; simp at hb)
      have := ih c (by
        have : 1 * c < p * c := Nat.mul_lt_mul_of_pos_right (by have := hp.1; omega) hc
        omega) d hc hd (fun q hq => by
          have e := h q hq
          rw [vp_mul hq hp.pos hc, vp_mul hq hp.pos hd] at e
          omega)
      exact Nat.mul_dvd_mul_left p this
theorem dvd_pow_vp {p n : Nat} (hp : 2 ≤ p) (hn : 0 < n) : p ^ vp p n ∣ n := by
  obtain ⟨m, h, _⟩ := vp_spec hp n hn
  exact ⟨m, h⟩
end NT

namespace NT
/-! ### Fermat, Euler's powers -/
abbrev R1 (m : Nat) : List Nat := List.range' 1 m
theorem mem_R1 {m x : Nat} : x ∈ R1 m ↔ 1 ≤ x ∧ x ≤ m := by
  rw [List.mem_range'_1]; omega
theorem perm_self {m : Nat} {f : Nat → Nat} (h1 : ∀ x, 1 ≤ x → x ≤ m → 1 ≤ f x ∧ f x ≤ m) (inj : ∀ x y, 1 ≤ x → x ≤ m → 1 ≤ y → y ≤ m → f x = f y → x = y) : ((R1 m).map f).Perm (R1 m) := by
  have nd : ((R1 m).map f).Nodup := by
    rw [List.Nodup, List.pairwise_map]
    refine List.Pairwise.imp_of_mem (R := (· ≠ ·)) (fun {x y} hx hy hxy e => ?_) List.nodup_range'
    exact hxy (inj x y (mem_R1.mp hx).1 (mem_R1.mp hx).2 (mem_R1.mp hy).1 (mem_R1.mp hy).2 e)
  have sub : (R1 m).map f ⊆ R1 m := by
    intro y hy
    obtain ⟨x, hx, rfl⟩ := List.mem_map.mp hy
    exact mem_R1.mpr (h1 x (mem_R1.mp hx).1 (mem_R1.mp hx).2)
  refine (List.perm_ext_iff_of_nodup nd List.nodup_range').mpr fun y => ⟨fun h => sub h, fun h => ?_⟩
  refine Classical.byContradiction fun z => ?_
  have nd2 : (y :: (R1 m).map f).Nodup := List.nodup_cons.mpr ⟨z, nd⟩
  have := nd2.length_le_of_subset (l₂ := R1 m) (fun w hw => by
    rcases List.mem_cons.mp hw with e | e
    · rw [e]; exact h
    · exact sub e)
  simp at this
  omega
/-- congruent by p -/
abbrev Cg (p : Nat) (a b : Int) : Prop := (p : Int) ∣ a - b
theorem Cg.refl {p : Nat} (a : Int) : Cg p a a := ⟨0, by grind⟩
theorem Cg.symm {p : Nat} {a b : Int} (h : Cg p a b) : Cg p b a := by
  obtain ⟨c, hc⟩ := h
  exact ⟨-c, by grind⟩
theorem Cg.trans {p : Nat} {a b c : Int} (h : Cg p a b) (k : Cg p b c) : Cg p a c := by
  obtain ⟨x, hx⟩ := h
  obtain ⟨y, hy⟩ := k
  exact ⟨x + y, by grind⟩
theorem Cg.mul {p : Nat} {a b c d : Int} (h : Cg p a b) (k : Cg p c d) : Cg p (a * c) (b * d) := by
  obtain ⟨x, hx⟩ := h
  obtain ⟨y, hy⟩ := k
  exact ⟨x * c + b * y, by grind⟩
theorem Cg.add {p : Nat} {a b c d : Int} (h : Cg p a b) (k : Cg p c d) : Cg p (a + c) (b + d) := by
  obtain ⟨x, hx⟩ := h
  obtain ⟨y, hy⟩ := k
  exact ⟨x + y, by grind⟩
theorem Cg.sub {p : Nat} {a b c d : Int} (h : Cg p a b) (k : Cg p c d) : Cg p (a - c) (b - d) := by
  obtain ⟨x, hx⟩ := h
  obtain ⟨y, hy⟩ := k
  exact ⟨x - y, by grind⟩
theorem Cg.pow {p : Nat} {a b : Int} (h : Cg p a b) : ∀ n : Nat, Cg p (a ^ n) (b ^ n)
  | 0 => by simpa using Cg.refl 1
  | n + 1 => by rw [Int.pow_succ, Int.pow_succ]; exact (Cg.pow h n).mul h
theorem Cg.emod {p : Nat} (a : Int) : Cg p (a % p) a := by
  refine ⟨-(a / p), ?_⟩
  have := Int.emod_add_mul_ediv a p
  grind
theorem Cg.iff {p : Nat} {a b : Int} : Cg p a b ↔ a % p = b % p := by
  constructor
  · intro h; exact Int.emod_eq_emod_iff_emod_sub_eq_zero.mpr (Int.emod_eq_zero_of_dvd h)
  · intro h
    exact Int.dvd_of_emod_eq_zero (Int.emod_eq_emod_iff_emod_sub_eq_zero.mp h)
theorem Pr.dvdI {p : Nat} (hp : Pr p) {a b : Int} (h : (p : Int) ∣ a * b) : (p : Int) ∣ a ∨ (p : Int) ∣ b := by
  rw [Int.ofNat_dvd_left, Int.natAbs_mul] at h
  rcases hp.dvd_mul h with h | h
  · exact .inl (Int.ofNat_dvd_left.mpr h)
  · exact .inr (Int.ofNat_dvd_left.mpr h)
theorem Pr.oneI {p : Nat} (hp : Pr p) : ¬ (p : Int) ∣ 1 := fun h => hp.one (by have := Int.ofNat_dvd_left.mp h; simpa using this)
theorem Pr.can {p : Nat} (hp : Pr p) {a b c : Int} (hc : ¬ (p : Int) ∣ c) (h : Cg p (c * a) (c * b)) : Cg p a b := by
  have : (p : Int) ∣ c * (a - b) := by
    obtain ⟨x, hx⟩ := h
    exact ⟨x, by grind⟩
  exact (hp.dvdI this).resolve_left hc
theorem prod_cg {p : Nat} (f g : Nat → Int) (h : ∀ x, Cg p (f x) (g x)) : ∀ l : List Nat, Cg p (l.map f).prod (l.map g).prod
  | [] => by simpa using Cg.refl 1
  | x :: l => by simp only [List.map_cons, List.prod_cons]; exact (h x).mul (prod_cg f g h l)
theorem prod_scale (c : Int) (f : Nat → Int) : ∀ l : List Nat, (l.map fun x => c * f x).prod = c ^ l.length * (l.map f).prod
  | [] => by simp
  | x :: l => by simp only [List.map_cons, List.prod_cons, List.length_cons, prod_scale c f l, Int.pow_succ]; grind
theorem prod_cast : ∀ l : List Nat, ((l.prod : Nat) : Int) = (l.map fun x : Nat => (x : Int)).prod
  | [] => rfl
  | x :: l => by simp only [List.map_cons, List.prod_cons, Int.natCast_mul, prod_cast l]
theorem fac_no {p : Nat} (hp : Pr p) {m : Nat} (hm : m < p) : ∀ l : List Nat, (∀ x, x ∈ l → 1 ≤ x ∧ x ≤ m) → ¬ (p : Int) ∣ (l.map fun x : Nat => (x : Int)).prod
  | [], _ => by simpa using hp.oneI
  | x :: l, h => by
    simp only [List.map_cons, List.prod_cons]
    intro d
    rcases hp.dvdI d with d | d
    · have := Int.natCast_dvd_natCast.mp d
      have := Nat.le_of_dvd (by have := (h x (by simp)).1; omega) this
      have := (h x (by simp)).2
      omega
    · exact fac_no hp hm l (fun y hy => h y (by simp [hy])) d
theorem emod_bd {p : Nat} (hp : Pr p) {a : Int} (ha : ¬ (p : Int) ∣ a) : 1 ≤ a % (p : Int) ∧ a % (p : Int) < p := by
  have h0 : (0 : Int) < p := by have := hp.1; omega
  have h1 := Int.emod_nonneg a (Int.ne_of_gt h0)
  have h2 := Int.emod_lt_of_pos a h0
  have : a % (p : Int) ≠ 0 := fun e => ha (Int.dvd_of_emod_eq_zero e)
  omega
theorem fermat {p : Nat} (hp : Pr p) {a : Int} (ha : ¬ (p : Int) ∣ a) : Cg p (a ^ (p - 1)) 1 := by
  have hp1 := hp.1
  let f : Nat → Nat := fun x => ((a * x) % (p : Int)).toNat
  have nd : ∀ x : Nat, 1 ≤ x → x ≤ p - 1 → ¬ (p : Int) ∣ a * x := fun x h1 h2 d => by
    rcases hp.dvdI d with d | d
    · exact ha d
    · have := Nat.le_of_dvd (by omega) (Int.natCast_dvd_natCast.mp d)
      omega
  have fe : ∀ x : Nat, ((f x : Nat) : Int) = (a * x) % (p : Int) := fun x => Int.toNat_of_nonneg (Int.emod_nonneg _ (by omega))
  have P : ((R1 (p - 1)).map f).Perm (R1 (p - 1)) := perm_self (fun x h1 h2 => by
    have := emod_bd hp (nd x h1 h2)
    have := fe x
    omega) (fun x y h1 h2 h3 h4 e => by
    have e2 : (a * x) % (p : Int) = (a * y) % (p : Int) := by rw [← fe, ← fe, e]
    have c := hp.can ha (Cg.iff.mpr e2)
    have c2 := Cg.iff.mp c
    rw [Int.emod_eq_of_lt (by omega) (by omega), Int.emod_eq_of_lt (by omega) (by omega)] at c2
    omega)
  have e1 : (((R1 (p - 1)).map f).map fun x : Nat => (x : Int)).prod = ((R1 (p - 1)).map fun x : Nat => (x : Int)).prod := by
    rw [← prod_cast, ← prod_cast, P.prod_nat]
  rw [List.map_map] at e1
  have e2 : Cg p ((R1 (p - 1)).map ((fun x : Nat => (x : Int)) ∘ f)).prod ((R1 (p - 1)).map fun x : Nat => a * (x : Int)).prod := prod_cg _ _ (fun x => by
    show Cg p ((f x : Nat) : Int) _
    rw [fe]; exact Cg.emod _) _
  rw [e1, prod_scale a (fun x : Nat => (x : Int)), List.length_range'] at e2
  refine hp.can (c := ((R1 (p - 1)).map fun x : Nat => (x : Int)).prod) (fac_no hp (m := p - 1) (by omega) _ (fun x hx => mem_R1.mp hx)) ?_
  obtain ⟨x, hx⟩ := e2
  exact ⟨-x, by grind⟩
end NT

namespace NT
/-! ### squares by an odd prime, reciprocity -/
/-- Euler's power is 1 -/
def sq (p : Nat) (a : Int) : Bool := decide (Cg p (a ^ ((p - 1) / 2)) 1)
structure Od (p : Nat) : Prop where
  pr : Pr p
  odd : p % 2 = 1
theorem Od.of {p : Nat} (h : Pr p) (h2 : p ≠ 2) : Od p := ⟨h, by
  refine Classical.byContradiction fun z => ?_
  rcases h.2 2 ⟨p / 2, by omega⟩ with e | e <;> omega⟩
theorem Od.ge {p : Nat} (h : Od p) : 3 ≤ p := by have := h.pr.1; have := h.odd; omega
theorem neg1 {p : Nat} (h : Od p) : ¬ Cg p 1 (-1) := by
  intro d
  have h3 := h.ge
  have d : (p : Int) ∣ 2 := d
  have := Int.le_of_dvd (by decide) d
  omega
theorem sq_or {p : Nat} (h : Od p) {a : Int} (ha : ¬ (p : Int) ∣ a) : Cg p (a ^ ((p - 1) / 2)) 1 ∨ Cg p (a ^ ((p - 1) / 2)) (-1) := by
  have f := fermat h.pr ha
  have e : p - 1 = (p - 1) / 2 + (p - 1) / 2 := by have := h.odd; omega
  have e2 : a ^ (p - 1) = a ^ ((p - 1) / 2) * a ^ ((p - 1) / 2) := by
    have := Int.pow_add a ((p - 1) / 2) ((p - 1) / 2)
    rw [← e] at this; exact this
  have : (p : Int) ∣ (a ^ ((p - 1) / 2) - 1) * (a ^ ((p - 1) / 2) - (-1)) := by
    rw [e2] at f
    obtain ⟨c, hc⟩ := f
    exact ⟨c, by grind⟩
  exact h.pr.dvdI this
theorem sq_f {p : Nat} (h : Od p) {a : Int} (ha : ¬ (p : Int) ∣ a) : sq p a = false ↔ Cg p (a ^ ((p - 1) / 2)) (-1) := by
  unfold sq
  rw [decide_eq_false_iff_not]
  constructor
  · intro z; exact (sq_or h ha).resolve_left z
  · intro z y; exact neg1 h (y.symm.trans z)
theorem sq_t {p : Nat} {a : Int} : sq p a = true ↔ Cg p (a ^ ((p - 1) / 2)) 1 := by
  unfold sq; rw [decide_eq_true_eq]
theorem Cg.dvd {p : Nat} {a b : Int} (h : Cg p a b) : (p : Int) ∣ a ↔ (p : Int) ∣ b := by
  obtain ⟨c, hc⟩ := h
  constructor
  · rintro ⟨x, hx⟩; exact ⟨x - c, by grind⟩
  · rintro ⟨x, hx⟩; exact ⟨x + c, by grind⟩
theorem sq_cg {p : Nat} {a b : Int} (h : Cg p a b) : sq p a = sq p b := by
  have := h.pow ((p - 1) / 2)
  unfold sq
  exact decide_eq_decide.mpr ⟨fun k => this.symm.trans k, fun k => this.trans k⟩
theorem sq_mul {p : Nat} (h : Od p) {a b : Int} (ha : ¬ (p : Int) ∣ a) (hb : ¬ (p : Int) ∣ b) : sq p (a * b) = (sq p a == sq p b) := by
  have hab : ¬ (p : Int) ∣ a * b := fun d => (h.pr.dvdI d).elim ha hb
  have e : (a * b) ^ ((p - 1) / 2) = a ^ ((p - 1) / 2) * b ^ ((p - 1) / 2) := Int.mul_pow ..
  cases h1 : sq p a <;> cases h2 : sq p b
  · have := ((sq_f h ha).mp h1).mul ((sq_f h hb).mp h2)
    rw [← e] at this
    exact sq_t.mpr (by simpa using this)
  · have := ((sq_f h ha).mp h1).mul (sq_t.mp h2)
    rw [← e] at this
    exact (sq_f h hab).mpr (by simpa using this)
  · have := (sq_t.mp h1).mul ((sq_f h hb).mp h2)
    rw [← e] at this
    exact (sq_f h hab).mpr (by simpa using this)
  · have := (sq_t.mp h1).mul (sq_t.mp h2)
    rw [← e] at this
    exact sq_t.mpr (by simpa using this)
theorem sq_sq {p : Nat} (h : Od p) {a x : Int} (ha : ¬ (p : Int) ∣ a) (e : Cg p (x * x) a) : sq p a = true := by
  have hx : ¬ (p : Int) ∣ x := fun d => ha (e.dvd.mp (Int.dvd_mul_of_dvd_left d))
  rw [← sq_cg e, sq_mul h hx hx]
  simp
theorem sq_one {p : Nat} : sq p 1 = true := by
  rw [sq_t, Int.one_pow]; exact Cg.refl 1
theorem sq_mulsq {p : Nat} (h : Od p) {a b : Int} (ha : ¬ (p : Int) ∣ a) (hb : ¬ (p : Int) ∣ b) : sq p (a * (b * b)) = sq p a := by
  have hbb : ¬ (p : Int) ∣ b * b := fun d => (h.pr.dvdI d).elim hb hb
  rw [sq_mul h ha hbb, sq_sq h hbb (Cg.refl _)]
  cases sq p a <;> rfl
/-! Gauss -/
def rs (p a x : Nat) : Nat := a * x % p
def ff (p a x : Nat) : Nat := if rs p a x ≤ (p - 1) / 2 then rs p a x else p - rs p a x
def mu (p a : Nat) : Nat := ((R1 ((p - 1) / 2)).map fun x => if rs p a x ≤ (p - 1) / 2 then 0 else 1).sum
/-! Eisenstein -/
/-! counting pairs -/
end NT

namespace NT
/-! ### products of primes -/
theorem prod_pos : ∀ ps : List Nat, (∀ p, p ∈ ps → Pr p) → 0 < ps.prod
  | [], _ => by simp
  | p :: ps, h => by
    rw [List.prod_cons]
    exact Nat.mul_pos (h p (by simp)).pos (prod_pos ps fun q hq => h q (by simp [hq]))
theorem vp_prod {q : Nat} (hq : Pr q) : ∀ ps : List Nat, ps.Nodup → (∀ p, p ∈ ps → Pr p) → vp q ps.prod = if q ∈ ps then 1 else 0
  | [], _, _ => by simp [vp_one hq]
  | p :: ps, nd, h => by
    obtain ⟨n1, n2⟩ := List.nodup_cons.mp nd
    have hp := h p (by simp)
    rw [List.prod_cons, vp_mul hq hp.pos (prod_pos ps fun q hq => h q (by simp [hq])), vp_prod hq ps n2 fun q hq => h q (by simp [hq])]
    by_cases e : q = p
    · subst e; rw [vp_self hq, if_neg n1, if_pos (by simp)]
    · rw [vp_other hq hp e]; simp [e]
theorem prod_dvd {n : Nat} (hn : 0 < n) (ps : List Nat) (nd : ps.Nodup) (h : ∀ p, p ∈ ps → Pr p ∧ p ∣ n) : ps.prod ∣ n := by
  refine dvd_of_vp _ _ (prod_pos ps fun p hp => (h p hp).1) hn fun q hq => ?_
  rw [vp_prod hq ps nd fun p hp => (h p hp).1]
  by_cases z : q ∈ ps
  · rw [if_pos z]; exact (vp_pos hq.1 hn).mp (h q z).2
  · rw [if_neg z]; exact Nat.zero_le _
theorem two_pow_le : ∀ ps : List Nat, (∀ p, p ∈ ps → 2 ≤ p) → 2 ^ ps.length ≤ ps.prod
  | [], _ => by simp
  | p :: ps, h => by
    rw [List.prod_cons, List.length_cons, Nat.pow_succ, Nat.mul_comm]
    exact Nat.mul_le_mul (h p (by simp)) (two_pow_le ps fun q hq => h q (by simp [hq]))
def fac : Nat → Nat
  | 0 => 1
  | n + 1 => (n + 1) * fac n
theorem fac_le : ∀ (k : Nat) (ps : List Nat), ps.length = k → ps.Nodup → (∀ p, p ∈ ps → 2 ≤ p) → fac (k + 1) ≤ ps.prod := by
  intro k
  induction k with
  | zero => intro ps hl _ _; rw [List.length_eq_zero_iff.mp hl]; decide
  | succ k ih =>
    intro ps hl nd h
    have : ∃ m, m ∈ ps ∧ k + 2 ≤ m := by
      refine Classical.byContradiction fun z => ?_
      have sub : ps ⊆ List.range' 2 k := fun m hm => by
        rw [List.mem_range'_1]
        have := h m hm
        have : ¬ k + 2 ≤ m := fun y => z ⟨m, hm, y⟩
        omega
      have := nd.length_le_of_subset sub
      rw [List.length_range', hl] at this
      omega
    obtain ⟨m, hm, hk⟩ := this
    have pe := List.perm_cons_erase hm
    rw [pe.prod_nat, List.prod_cons]
    have := ih (ps.erase m) (by rw [List.length_erase_of_mem hm, hl]; rfl) (nd.erase m) fun p hp => h p (List.mem_of_mem_erase hp)
    exact Nat.mul_le_mul hk this
theorem fac_mono {a b : Nat} (h : a ≤ b) : fac a ≤ fac b := by
  induction h with
  | refl => exact Nat.le_refl _
  | @step b h ih =>
    have : 1 * fac b ≤ (b + 1) * fac b := Nat.mul_le_mul_right _ (by omega)
    rw [Nat.one_mul] at this
    exact Nat.le_trans ih this
/-- few primes divide a number of ninety figures -/
theorem few_primes {n : Nat} (hn : 0 < n) (hb : n ≤ 10 ^ 90) (ps : List Nat) (nd : ps.Nodup) (h : ∀ p, p ∈ ps → Pr p ∧ p ∣ n) : ps.length < 64 := by
  refine Classical.byContradiction fun z => ?_
  have h1 := Nat.le_of_dvd hn (prod_dvd hn ps nd h)
  have h2 := fac_le ps.length ps rfl nd fun p hp => (h p hp).1.1
  have h3 := fac_mono (show 65 ≤ ps.length + 1 by omega)
  have h4 : 10 ^ 90 < fac 65 := by decide +kernel
  omega
/-! ascending lists -/
theorem asc_nodup {ps : List Nat} (h : ps.Pairwise (· < ·)) : ps.Nodup := h.imp fun h e => by omega
theorem asc_eq {ps qs : List Nat} (h : ps.Pairwise (· < ·)) (k : qs.Pairwise (· < ·)) (m : ∀ p, p ∈ ps ↔ p ∈ qs) : ps = qs := by
  have pm := (List.perm_ext_iff_of_nodup (asc_nodup h) (asc_nodup k)).mpr m
  exact List.Perm.eq_of_pairwise (le := (· ≤ ·)) (fun a b _ _ h1 h2 => Nat.le_antisymm h1 h2) (h.imp Nat.le_of_lt) (k.imp Nat.le_of_lt) pm
end NT

namespace NT
/-! ### symbols of two numbers by a prime -/
def vI (p : Nat) (a : Int) : Nat := vp p a.natAbs
def uI (p : Nat) (a : Int) : Int := a / ((p ^ vI p a : Nat) : Int)
/-- the characters -/
def chi (p : Nat) (u : Int) : Bool := if p = 2 then decide (u % 8 = 3 ∨ u % 8 = 5) else !sq p u
def eps (p : Nat) (u : Int) : Bool := if p = 2 then decide (u % 4 = 3) else false
def cc (p : Nat) : Bool := if p = 2 then false else decide ((p - 1) / 2 % 2 = 1)
def oI (p : Nat) (a : Int) : Bool := decide (vI p a % 2 = 1)
def hs (p : Nat) (a b : Int) : Bool := (oI p a && oI p b && cc p) ^^ (oI p b && chi p (uI p a)) ^^ (oI p a && chi p (uI p b)) ^^ (eps p (uI p a) && eps p (uI p b))
/-! ### the product formula -/
def xs (f : Nat → Bool) : List Nat → Bool
  | [] => false
  | p :: S => f p ^^ xs f S
def ng (a : Int) : Bool := decide (a < 0)
/-- the product over S and the signs -/
def pf (S : List Nat) (a b : Int) : Bool := xs (fun p => hs p a b) S ^^ (ng a && ng b)
structure Pl (S : List Nat) : Prop where
  nd : S.Nodup
  pr : ∀ p, p ∈ S → Pr p
  two : 2 ∈ S
end NT

namespace NT
/-! ### a x x + b y y = z z makes the symbol trivial -/
end NT

namespace NT
end NT

namespace NT
/-! ### few roots; a number that is no square; Tonelli's and Shanks' steps -/
def Ev : List Int → Int → Int
  | [], _ => 0
  | c :: cs, x => c + x * Ev cs x
def Dv : List Int → Int → List Int
  | [], _ => []
  | [_], _ => []
  | _ :: d :: cs, a => Ev (d :: cs) a :: Dv (d :: cs) a
theorem ev_dv : ∀ (f : List Int) (x a : Int), Ev f x - Ev f a = (x - a) * Ev (Dv f a) x
  | [], x, a => by simp [Ev, Dv]
  | [c], x, a => by simp only [Ev, Dv]; grind
  | c :: d :: cs, x, a => by
    have ih := ev_dv (d :: cs) x a
    show (c + x * Ev (d :: cs) x) - (c + a * Ev (d :: cs) a) = (x - a) * (Ev (d :: cs) a + x * Ev (Dv (d :: cs) a) x)
    generalize Ev (d :: cs) x = p at *
    generalize Ev (d :: cs) a = q at *
    generalize Ev (Dv (d :: cs) a) x = r at *
    grind
theorem dv_len : ∀ (f : List Int) (a : Int), (Dv f a).length = f.length - 1
  | [], a => rfl
  | [c], a => rfl
  | c :: d :: cs, a => by rw [Dv, List.length_cons, dv_len (d :: cs) a]; simp
theorem dv_last : ∀ (f : List Int) (a : Int), 2 ≤ f.length → (Dv f a).getLast? = f.getLast?
  | [], a, h => by simp at h
  | [c], a, h => by simp at h
  | [c, d], a, _ => by simp [Dv, Ev]
  | c :: d :: e :: cs, a, _ => by
    have ih := dv_last (d :: e :: cs) a (by simp)
    rw [Dv]
    have l1 : Dv (d :: e :: cs) a ≠ [] := by rw [Dv]; simp
    rw [List.getLast?_cons_of_ne_nil l1, ih]
    exact (List.getLast?_cons_of_ne_nil (by simp)).symm
theorem lagrange {p : Nat} (hp : Pr p) : ∀ (n : Nat) (f : List Int), f.length = n + 1 → (∀ c, f.getLast? = some c → ¬ (p : Int) ∣ c) → ∀ rs : List Int, rs.Pairwise (fun a b => ¬ (p : Int) ∣ b - a) → (∀ r, r ∈ rs → (p : Int) ∣ Ev f r) → rs.length ≤ n
  | 0, f, hf, hl, rs, _, hr => by
    obtain ⟨c, rfl⟩ := List.length_eq_one_iff.mp hf
    cases rs with
    | nil => simp
    | cons r rs =>
      have := hr r (by simp)
      simp only [Ev, Int.mul_zero, Int.add_zero] at this
      exact absurd this (hl c rfl)
  | n + 1, f, hf, hl, rs, hd, hr => by
    cases rs with
    | nil => simp
    | cons r rs =>
      have h1 := hr r (by simp)
      rw [List.pairwise_cons] at hd
      have := lagrange hp n (Dv f r) (by rw [dv_len]; omega) (by rw [dv_last f r (by omega)]; exact hl) rs hd.2 fun s hs => by
        have h2 := hr s (by simp [hs])
        have h3 : (p : Int) ∣ (s - r) * Ev (Dv f r) s := by rw [← ev_dv]; exact Int.dvd_sub h2 h1
        exact (hp.dvdI h3).resolve_left (hd.1 s hs)
      simp; omega
theorem ev_pow : ∀ (m : Nat) (x : Int), Ev (List.replicate m 0 ++ [1]) x = x ^ m
  | 0, x => by simp [Ev]
  | m + 1, x => by
    rw [List.replicate_succ, List.cons_append, Ev, ev_pow m x, Int.pow_succ]
    grind
/-- some number is no square -/
theorem nonres {p : Nat} (h : Od p) : ∃ a : Nat, 2 ≤ a ∧ a < p ∧ sq p (a : Int) = false := by
  have hp := h.pr
  have ho := h.odd
  have h3 := h.ge
  refine Classical.byContradiction fun c => ?_
  have all : ∀ a : Nat, 1 ≤ a → a ≤ p - 1 → sq p (a : Int) = true := fun a h1 h2 => by
    by_cases e : a = 1
    · subst e; exact sq_one
    · cases hs : sq p (a : Int) with
      | true => rfl
      | false => exact absurd ⟨a, by omega, by omega, hs⟩ c
  have := lagrange hp ((p - 1) / 2) ((-1) :: (List.replicate ((p - 1) / 2 - 1) 0 ++ [1])) (by simp; omega) (fun c hc => by
    rw [List.getLast?_cons_of_ne_nil (by simp), List.getLast?_append] at hc
    simp at hc
    subst hc
    exact hp.oneI) ((R1 (p - 1)).map fun x : Nat => (x : Int)) (by
    rw [List.pairwise_map]
    refine List.Pairwise.imp_of_mem (R := (· < ·)) (fun {a b} ha hb hab d => ?_) List.pairwise_lt_range'
    have a1 := mem_R1.mp ha
    have b1 := mem_R1.mp hb
    have : (b : Int) - (a : Int) = ((b - a : Nat) : Int) := by omega
    rw [this] at d
    have := Nat.le_of_dvd (by omega) (Int.natCast_dvd_natCast.mp d)
    omega) (fun r hr => by
    obtain ⟨a, ha, rfl⟩ := List.mem_map.mp hr
    have a1 := mem_R1.mp ha
    have := sq_t.mp (all a a1.1 a1.2)
    rw [Ev, ev_pow]
    have e : (a : Int) * (a : Int) ^ ((p - 1) / 2 - 1) = (a : Int) ^ ((p - 1) / 2) := by
      have : (p - 1) / 2 = ((p - 1) / 2 - 1) + 1 := by omega
      conv => rhs; rw [this, Int.pow_succ]
      grind
    rw [e]
    obtain ⟨k, hk⟩ := this
    exact ⟨k, by omega⟩)
  simp at this
  omega
theorem Cg.one_or {p : Nat} (hp : Pr p) {a : Int} (h : Cg p (a * a) 1) : Cg p a 1 ∨ Cg p a (-1) := by
  have : (p : Int) ∣ (a - 1) * (a + 1) := by
    obtain ⟨k, hk⟩ := h
    exact ⟨k, by grind⟩
  rcases hp.dvdI this with h | h
  · exact .inl h
  · exact .inr (by show (p : Int) ∣ a - -1; rwa [Int.sub_neg])
/-- a number on the way, with what is left of it -/
structure TS (p : Nat) (n f r w : Int) (m : Nat) : Prop where
  m1 : 1 ≤ m
  fsq : Cg p (f * f) (n * r)
  hw : Cg p (w ^ (2 ^ (m - 1))) (-1)
  hr : Cg p (r ^ (2 ^ (m - 1))) 1
theorem pow_two_succ (a : Int) (k : Nat) : a ^ (2 ^ (k + 1)) = (a ^ (2 ^ k)) * (a ^ (2 ^ k)) := by
  rw [Nat.pow_succ, Int.pow_mul]
  generalize a ^ 2 ^ k = t
  exact Int.pow_succ .. |>.trans (by rw [Int.pow_succ]; simp)
theorem TS.start {p : Nat} (h : Od p) {n : Int} (hn : sq p n = true) {z : Int} (hz0 : ¬ (p : Int) ∣ z) (hz : NT.sq p z = false) {part many : Nat} (hm : 1 ≤ many) (e : p - 1 = part * 2 ^ many) (ho : part % 2 = 1) {f r w : Int}
    (hf : Cg p f (n ^ ((part + 1) / 2))) (hr : Cg p r (n ^ part)) (hw : Cg p w (z ^ part)) : TS p n f r w many := by
  have e2 : (p - 1) / 2 = part * 2 ^ (many - 1) := by
    have : many = (many - 1) + 1 := by omega
    rw [this, Nat.pow_succ] at e
    rw [e, ← Nat.mul_assoc]
    omega
  refine ⟨hm, ?_, ?_, ?_⟩
  · refine (hf.mul hf).trans ?_
    refine Cg.trans ?_ ((Cg.refl n).mul hr.symm)
    have : n ^ ((part + 1) / 2) * n ^ ((part + 1) / 2) = n * n ^ part := by
      rw [← Int.pow_add]
      have : (part + 1) / 2 + (part + 1) / 2 = part + 1 := by omega
      rw [this, Int.pow_succ]; grind
    rw [this]
    exact Cg.refl _
  · refine (hw.pow _).trans ?_
    rw [← Int.pow_mul, ← e2]
    exact (sq_f h hz0).mp hz
  · refine (hr.pow _).trans ?_
    rw [← Int.pow_mul, ← e2]
    exact sq_t.mp hn
/-- the least power of two by which a number comes to 1 -/
theorem TS.least {p : Nat} {n f r w : Int} {m : Nat} (h : TS p n f r w m) {t : Nat} (ht : ∀ j, j < t → ¬ Cg p (r ^ (2 ^ j)) 1) : t ≤ m - 1 := by
  refine Nat.not_lt.mp fun c => ht (m - 1) c h.hr
theorem TS.next {p : Nat} (hp : Pr p) {n f r w : Int} {m t : Nat} (h : TS p n f r w m) (ht : ∀ j, j < t → ¬ Cg p (r ^ (2 ^ j)) 1) (h1 : Cg p (r ^ (2 ^ t)) 1) (t1 : 1 ≤ t) {s w2 r2 f2 : Int}
    (hs : Cg p s (w ^ (2 ^ (m - t - 1)))) (hf2 : Cg p f2 (f * s)) (hw2 : Cg p w2 (s * s)) (hr2 : Cg p r2 (r * w2)) : TS p n f2 r2 w2 t := by
  have tm := h.least ht
  have hm := h.m1
  have ew : Cg p w2 (w ^ (2 ^ (m - t))) := by
    refine hw2.trans ((hs.mul hs).trans ?_)
    have : m - t = (m - t - 1) + 1 := by omega
    rw [this, pow_two_succ]
    exact Cg.refl _
  have ew2 : Cg p (w2 ^ (2 ^ (t - 1))) (-1) := by
    refine (ew.pow _).trans ?_
    rw [← Int.pow_mul, ← Nat.pow_add]
    have : m - t + (t - 1) = m - 1 := by omega
    rw [this]
    exact h.hw
  have er : Cg p (r ^ (2 ^ (t - 1))) (-1) := by
    have e : t = (t - 1) + 1 := by omega
    rw [e, pow_two_succ] at h1
    exact (Cg.one_or hp h1).resolve_left (ht (t - 1) (by omega))
  refine ⟨t1, ?_, ew2, ?_⟩
  · refine (hf2.mul hf2).trans ?_
    have e1 : f * s * (f * s) = f * f * (s * s) := by grind
    rw [e1]
    refine (h.fsq.mul (hw2.symm)).trans ?_
    have e2 : n * r * w2 = n * (r * w2) := by grind
    rw [e2]
    exact (Cg.refl n).mul hr2.symm
  · refine (hr2.pow _).trans ?_
    rw [Int.mul_pow]
    exact (er.mul ew2).trans (Cg.refl 1)
theorem TS.done {p : Nat} {n f r w : Int} {m : Nat} (h : TS p n f r w m) (hr : Cg p r 1) : Cg p (f * f) n := by
  refine h.fsq.trans (((Cg.refl n).mul hr).trans ?_)
  rw [Int.mul_one]
  exact Cg.refl _
end NT

namespace NT
/-! ### grids of rows of three numbers -/
structure V3 where
  x : Int
  y : Int
  z : Int
theorem V3.eq {u v : V3} (h1 : u.x = v.x) (h2 : u.y = v.y) (h3 : u.z = v.z) : u = v := by
  cases u; cases v; simp at h1 h2 h3; subst h1; subst h2; subst h3; rfl
def dot (s u v : V3) : Int := s.x * u.x * v.x + s.y * u.y * v.y + s.z * u.z * v.z
abbrev Qd (s u : V3) : Int := dot s u u
def less (u v : V3) (t : Int) : V3 := ⟨u.x - t * v.x, u.y - t * v.y, u.z - t * v.z⟩
def det (u v w : V3) : Int := u.x * (v.y * w.z - v.z * w.y) - u.y * (v.x * w.z - v.z * w.x) + u.z * (v.x * w.y - v.y * w.x)
def near (over under : Int) : Int := (2 * over + under) / (2 * under)
structure Pos3 (s : V3) : Prop where
  x : 0 < s.x
  y : 0 < s.y
  z : 0 < s.z
theorem sqn (x : Int) : 0 ≤ x * x := by
  rcases Int.le_total 0 x with h | h
  · exact Int.mul_nonneg h h
  · exact Int.mul_nonneg_of_nonpos_of_nonpos h h
/-! two rows -/
def byTwo (s : V3) : Nat → V3 → V3 → V3 × V3
  | 0, u, v => (u, v)
  | n + 1, u, v =>
    if dot s u u > dot s v v then
      (if near (dot s v u) (dot s v v) = 0 then (v, u) else if dot s (less u v (near (dot s v u) (dot s v v))) (less u v (near (dot s v u) (dot s v v))) ≥ dot s v v then (v, less u v (near (dot s v u) (dot s v v))) else byTwo s n v (less u v (near (dot s v u) (dot s v v))))
    else
      (if near (dot s u v) (dot s u u) = 0 then (u, v) else if dot s (less v u (near (dot s u v) (dot s u u))) (less v u (near (dot s u v) (dot s u u))) ≥ dot s u u then (u, less v u (near (dot s u v) (dot s u u))) else byTwo s n u (less v u (near (dot s u v) (dot s u u))))
/-- a kind of rows that goes with differences -/
def Kind3 (P : V3 → Prop) : Prop := ∀ u v t, P u → P v → P (less u v t)
structure Two3 (s : V3) (P : V3 → Prop) (w : V3) (d0 q0 : Int) (f g : V3) : Prop where
  le : Qd s f ≤ Qd s g
  in1 : -(Qd s f) ≤ 2 * dot s f g
  in2 : 2 * dot s f g ≤ Qd s f
  p1 : P f
  p2 : P g
  dt : det f g w = d0 ∨ det f g w = -d0
  sum : Qd s f + Qd s g ≤ q0
/-! three rows -/
def pm : List (Int × Int) := [(-1, -1), (-1, 0), (-1, 1), (0, -1), (0, 0), (0, 1), (1, -1), (1, 0), (1, 1)]
def cand (f g w : V3) (i j : Int) : List V3 := pm.map fun p => less (less w f (i + p.1)) g (j + p.2)
def minBy (s : V3) (best : Option V3) (r : V3) : Option V3 := match best with
  | none => some r
  | some b => if dot s r r < dot s b b then some r else some b
def iOf (s f g w : V3) : Int := near (dot s f w * dot s g g - dot s g w * dot s f g) (dot s f f * dot s g g - dot s f g * dot s f g)
def jOf (s f g w : V3) : Int := near (dot s g w * dot s f f - dot s f w * dot s f g) (dot s f f * dot s g g - dot s f g * dot s f g)
def short (s f g w : V3) : V3 := ((cand f g w (iOf s f g w) (jOf s f g w)).foldl (minBy s) none).getD w
end NT

namespace NT
/-! ### a short row -/
def gram (Q1 Q2 Q3 m p q : Int) : Int := Q1 * Q2 * Q3 + 2 * (p * q * m) - Q1 * (q * q) - Q2 * (p * p) - Q3 * (m * m)
end NT

namespace NT
/-! ### the short base; grids made narrower -/
def fuel2 (s u v : V3) : Nat := (Qd s u + Qd s v).toNat + 1
def two (s u v : V3) : V3 × V3 := byTwo s (fuel2 s u v) u v
def shBase (s : V3) : Nat → V3 → V3 → V3 → V3 × V3 × V3
  | 0, u, v, w => (u, v, w)
  | n + 1, u, v, w =>
    if Qd s (short s (two s u v).1 (two s u v).2 w) ≥ Qd s (two s u v).2 then ((two s u v).1, (two s u v).2, short s (two s u v).1 (two s u v).2 w)
    else shBase s n (two s u v).1 (short s (two s u v).1 (two s u v).2 w) (two s u v).2
structure Sh3 (s : V3) (P : V3 → Prop) (d2 q0 : Int) (f : V3) : Prop where
  p : P f
  ne : ¬ (f.x = 0 ∧ f.y = 0 ∧ f.z = 0)
  bd : 3 * (Qd s f * Qd s f * Qd s f) ≤ 8 * (s.x * s.y * s.z * d2)
/-! rules -/
def val (k u : V3) : Int := k.x * u.x + k.y * u.y + k.z * u.z
def smul (u : V3) (t : Int) : V3 := ⟨u.x * t, u.y * t, u.z * t⟩
/-! what the rules come to -/
/-- by an odd prime that divides a -/
theorem rule_prime {p : Nat} {a b c x y z r : Int} (ha : (p : Int) ∣ a) (hr : (p : Int) ∣ b * (r * r) + c) (hyz : (p : Int) ∣ y - r * z) : (p : Int) ∣ a * (x * x) + b * (y * y) + c * (z * z) := by
  obtain ⟨i, hi⟩ := ha
  obtain ⟨j, hj⟩ := hr
  obtain ⟨k, hk⟩ := hyz
  have ey : y = r * z + p * k := by omega
  have ec : c = p * j - b * (r * r) := by omega
  rw [hi, ey, ec]
  exact ⟨i * (x * x) + b * (2 * (r * z * k) + p * (k * k)) + j * (z * z), by grind⟩
end NT

namespace NT
/-! ### Mordell's step -/
structure Ways (a b c x y z X Y Z many : Int) : Prop where
  ap : 0 < a
  bp : 0 < b
  cp : 0 < c
  zp : 0 < z
  e : a * (x * x) + b * (y * y) = c * (z * z)
  w : x * Y - y * X = many
abbrev whole (a b c X Y Z : Int) : Int := a * (X * X) + b * (Y * Y) - c * (Z * Z)
abbrev both (a b c x y z X Y Z : Int) : Int := a * (x * X) + b * (y * Y) - c * (z * Z)
def stp (W B t T : Int) : Int := W * t - 2 * B * T
/-- the number by which the new row can be divided -/
def cut (c : Int) : Int := if c % 2 = 1 then 2 * c else c / 2
/-- the nearest number of the right kind -/
def pick2 (over under odd : Int) : Int := 2 * ((over - odd * under + under) / (2 * under)) + odd
end NT

namespace NT
/-! ### square roots by a prime, as computed -/
def lstO (p : Nat) : Nat → Nat → Nat
  | 0, a => a
  | n + 1, a => if sq p (a : Int) = true then lstO p n (a + 1) else a
theorem lstO_ok {p : Nat} : ∀ (n a b : Nat), a ≤ b → b < a + n → sq p (b : Int) = false → sq p (lstO p n a : Nat) = false ∧ a ≤ lstO p n a ∧ lstO p n a ≤ b
  | 0, a, b, h1, h2, _ => by omega
  | n + 1, a, b, h1, h2, hb => by
    unfold lstO
    by_cases c : sq p (a : Int) = true
    · rw [if_pos c]
      have : a ≠ b := by rintro rfl; rw [hb] at c; cases c
      obtain ⟨x, y, z⟩ := lstO_ok n (a + 1) b (by omega) (by omega) hb
      exact ⟨x, by omega, z⟩
    · rw [if_neg c]
      exact ⟨by simpa using c, Nat.le_refl _, h1⟩
def oddF (p : Nat) : Nat := lstO p p 2
theorem oddF_ok {p : Nat} (h : Od p) : sq p (oddF p : Nat) = false ∧ 2 ≤ oddF p ∧ oddF p < p := by
  obtain ⟨b, b2, bp, hb⟩ := nonres h
  obtain ⟨x, y, z⟩ := lstO_ok p 2 b b2 (by omega) hb
  exact ⟨x, y, Nat.lt_of_le_of_lt z bp⟩
def lstT (p : Nat) : Nat → Int → Nat
  | 0, _ => 0
  | n + 1, h => if h = 1 then 0 else lstT p n (h * h % (p : Int)) + 1
def sqk (p : Nat) : Nat → Int → Int
  | 0, s => s
  | n + 1, s => sqk p n (s * s % (p : Int))
theorem sqk_cg {p : Nat} : ∀ (k : Nat) (s : Int), Cg p (sqk p k s) (s ^ (2 ^ k))
  | 0, s => by rw [sqk, Nat.pow_zero, Int.pow_succ, Int.pow_zero, Int.one_mul]; exact Cg.refl s
  | k + 1, s => by
    rw [sqk]
    refine (sqk_cg k _).trans ?_
    refine ((Cg.emod (p := p) (s * s)).pow _).trans ?_
    rw [pow_two_succ, Int.mul_pow]
    exact Cg.refl _
theorem one_iff {p : Nat} (hp : 2 ≤ p) {h : Int} (h0 : 0 ≤ h) (h1 : h < p) : h = 1 ↔ Cg p h 1 := by
  rw [Cg.iff, Int.emod_eq_of_lt h0 h1, Int.emod_eq_of_lt (by decide) (by omega)]
theorem lst_ok {p : Nat} (hp : 2 ≤ p) {r : Int} : ∀ (n t : Nat) (h : Int), 0 ≤ h → h < p → Cg p h (r ^ (2 ^ t)) → (∀ j, j < t → ¬ Cg p (r ^ (2 ^ j)) 1) → (∃ j, j < t + n ∧ Cg p (r ^ (2 ^ j)) 1) →
    (∀ j, j < lstT p n h + t → ¬ Cg p (r ^ (2 ^ j)) 1) ∧ Cg p (r ^ (2 ^ (lstT p n h + t))) 1
  | 0, t, h, _, _, _, hn, ⟨j, hj, hc⟩ => absurd hc (hn j (by omega))
  | n + 1, t, h, h0, h1, hc, hn, hj => by
    unfold lstT
    by_cases c : h = 1
    · rw [if_pos c, Nat.zero_add]
      exact ⟨hn, hc.symm.trans ((one_iff hp h0 h1).mp c)⟩
    · rw [if_neg c]
      have hp0 : (0 : Int) < p := by omega
      have nt : ¬ Cg p (r ^ (2 ^ t)) 1 := fun z => c ((one_iff hp h0 h1).mpr (hc.trans z))
      have r' := lst_ok hp n (t + 1) (h * h % (p : Int)) (Int.emod_nonneg _ (Int.ne_of_gt hp0)) (Int.emod_lt_of_pos _ hp0) (by
        refine (Cg.emod _).trans ((hc.mul hc).trans ?_)
        rw [pow_two_succ]; exact Cg.refl _) (fun j hj => by
          by_cases e : j = t
          · subst e; exact nt
          · exact hn j (by omega)) (by obtain ⟨j, a, b⟩ := hj; exact ⟨j, by omega, b⟩)
      have e : lstT p n (h * h % (p : Int)) + 1 + t = lstT p n (h * h % (p : Int)) + (t + 1) := by omega
      rw [e]
      exact r'
theorem TS.lst {p : Nat} (hp : 2 ≤ p) {n f r w : Int} {m : Nat} (h : TS p n f r w m) (r0 : 0 ≤ r) (r1 : r < p) : (∀ j, j < lstT p m r → ¬ Cg p (r ^ (2 ^ j)) 1) ∧ Cg p (r ^ (2 ^ (lstT p m r))) 1 ∧ lstT p m r ≤ m - 1 := by
  obtain ⟨a, b⟩ := lst_ok hp m 0 r r0 r1 (by rw [Nat.pow_zero, Int.pow_succ, Int.pow_zero, Int.one_mul]; exact Cg.refl r) (fun j hj => by omega) ⟨m - 1, by have := h.m1; omega, h.hr⟩
  exact ⟨a, b, h.least a⟩
theorem TS.lst1 {p : Nat} {m : Nat} {r : Int} (hm : 1 ≤ m) (hr : r ≠ 1) : 1 ≤ lstT p m r := by
  cases m with
  | zero => omega
  | succ m => unfold lstT; rw [if_neg hr]; omega
def tsR (p : Nat) : Nat → Int → Int → Int → Nat → Int
  | 0, f, _, _, _ => f
  | k + 1, f, r, w, m => if r = 1 then f else
    tsR p k (f * sqk p (m - lstT p m r - 1) w % (p : Int)) (r * (sqk p (m - lstT p m r - 1) w * sqk p (m - lstT p m r - 1) w % (p : Int)) % (p : Int)) (sqk p (m - lstT p m r - 1) w * sqk p (m - lstT p m r - 1) w % (p : Int)) (lstT p m r)
theorem TS.step {p : Nat} (hp : Pr p) {n f r w : Int} {m : Nat} (h : TS p n f r w m) (r0 : 0 ≤ r) (r1 : r < p) (hr : r ≠ 1) :
    TS p n (f * sqk p (m - lstT p m r - 1) w % (p : Int)) (r * (sqk p (m - lstT p m r - 1) w * sqk p (m - lstT p m r - 1) w % (p : Int)) % (p : Int)) (sqk p (m - lstT p m r - 1) w * sqk p (m - lstT p m r - 1) w % (p : Int)) (lstT p m r) := by
  obtain ⟨a, b, c⟩ := h.lst hp.1 r0 r1
  exact h.next hp a b (TS.lst1 h.m1 hr) (sqk_cg _ _) (Cg.emod _) (Cg.emod _) (Cg.emod _)
theorem tsR_ok {p : Nat} (hp : Pr p) {n : Int} : ∀ (k : Nat) (f r w : Int) (m : Nat), TS p n f r w m → m ≤ k → 0 ≤ r → r < p → 0 ≤ f → f < p → Cg p (tsR p k f r w m * tsR p k f r w m) n ∧ 0 ≤ tsR p k f r w m ∧ tsR p k f r w m < p
  | 0, f, r, w, m, h, hk, _, _, _, _ => by have := h.m1; omega
  | k + 1, f, r, w, m, h, hk, r0, r1, f0, f1 => by
    unfold tsR
    by_cases c : r = 1
    · rw [if_pos c]
      exact ⟨h.done (by rw [c]; exact Cg.refl 1), f0, f1⟩
    · rw [if_neg c]
      have hp0 : (0 : Int) < p := by have := hp.1; omega
      have l := (h.lst hp.1 r0 r1).2.2
      have m1 := h.m1
      exact tsR_ok hp k _ _ _ _ (h.step hp r0 r1 c) (by omega) (Int.emod_nonneg _ (Int.ne_of_gt hp0)) (Int.emod_lt_of_pos _ hp0) (Int.emod_nonneg _ (Int.ne_of_gt hp0)) (Int.emod_lt_of_pos _ hp0)
def manyF (p : Nat) : Nat := vp 2 (p - 1)
def partF (p : Nat) : Nat := (p - 1) / 2 ^ manyF p
theorem part_ok {p : Nat} (h : Od p) : p - 1 = partF p * 2 ^ manyF p ∧ partF p % 2 = 1 ∧ 1 ≤ manyF p := by
  have h3 := h.ge
  have ho := h.odd
  obtain ⟨m, e, nd, m0⟩ := vp_spec (p := 2) (by decide) (p - 1) (by omega)
  have hm : 1 ≤ manyF p := (vp_pos (by decide) (by omega)).mp ⟨(p - 1) / 2, by omega⟩
  have pp : 0 < 2 ^ manyF p := Nat.pow_pos (by decide)
  have ep : partF p = m := by
    unfold partF
    conv => lhs; rw [e]
    exact Nat.mul_div_cancel_left _ pp
  refine ⟨?_, ?_, hm⟩
  · rw [ep, Nat.mul_comm]; exact e
  · rw [ep]; omega
def sqrtF (p : Nat) (n : Int) : Int := tsR p (manyF p) ((n % (p : Int)) ^ ((partF p + 1) / 2) % (p : Int)) ((n % (p : Int)) ^ partF p % (p : Int)) ((oddF p : Int) ^ partF p % (p : Int)) (manyF p)
theorem sqrt_start {p : Nat} (h : Od p) {n : Int} (hn : sq p n = true) : TS p n ((n % (p : Int)) ^ ((partF p + 1) / 2) % (p : Int)) ((n % (p : Int)) ^ partF p % (p : Int)) ((oddF p : Int) ^ partF p % (p : Int)) (manyF p) := by
  obtain ⟨e, ho, hm⟩ := part_ok h
  obtain ⟨z1, z2, z3⟩ := oddF_ok h
  refine TS.start h hn (z := (oddF p : Int)) (fun d => ?_) z1 hm e ho ((Cg.emod _).trans ((Cg.emod n).pow _)) ((Cg.emod _).trans ((Cg.emod n).pow _)) (Cg.emod _)
  have := Nat.le_of_dvd (by omega) (Int.natCast_dvd_natCast.mp d)
  omega
theorem sqrtF_ok {p : Nat} (h : Od p) {n : Int} (hn : sq p n = true) : Cg p (sqrtF p n * sqrtF p n) n ∧ 0 ≤ sqrtF p n ∧ sqrtF p n < p := by
  have hp0 : (0 : Int) < p := by have := h.ge; omega
  exact tsR_ok h.pr _ _ _ _ _ (sqrt_start h hn) (Nat.le_refl _) (Int.emod_nonneg _ (Int.ne_of_gt hp0)) (Int.emod_lt_of_pos _ hp0) (Int.emod_nonneg _ (Int.ne_of_gt hp0)) (Int.emod_lt_of_pos _ hp0)
end NT

namespace NT
/-! ### a grid by its rules -/
abbrev B3 := V3 × V3 × V3
def freeF (v : Int) (m : Nat) : Bool := if m = 2 ∨ m = 4 ∨ m = 8 then decide (v % 2 = 1) else !decide (v % (m : Int) = 0)
def expo (m : Nat) : Nat := if m = 4 ∨ m = 8 then m / 2 - 1 else m - 2
def invF (k u : V3) (m : Nat) : Int := (val k u % (m : Int)) ^ expo m % (m : Int)
def moreF (k u v : V3) (m : Nat) : Int := val k v % (m : Int) * invF k u m % (m : Int)
def narF (b : B3) (k : V3) (m : Nat) : B3 :=
  if freeF (val k b.1 % (m : Int)) m = true then (smul b.1 m, less b.2.1 b.1 (moreF k b.1 b.2.1 m), less b.2.2 b.1 (moreF k b.1 b.2.2 m))
  else if freeF (val k b.2.1 % (m : Int)) m = true then (less b.1 b.2.1 (moreF k b.2.1 b.1 m), smul b.2.1 m, less b.2.2 b.2.1 (moreF k b.2.1 b.2.2 m))
  else (less b.1 b.2.2 (moreF k b.2.2 b.1 m), less b.2.1 b.2.2 (moreF k b.2.2 b.2.1 m), smul b.2.2 m)
def Md (m : Nat) : Prop := m = 2 ∨ m = 4 ∨ Od m
theorem Md.two {m : Nat} (h : Md m) : 2 ≤ m := by
  rcases h with rfl | rfl | h
  · decide
  · decide
  · have := h.ge; omega
def All3 (P : V3 → Prop) (b : B3) : Prop := P b.1 ∧ P b.2.1 ∧ P b.2.2
def detB (b : B3) : Int := det b.1 b.2.1 b.2.2
def Le3 (B : Nat) (u : V3) : Prop := u.x.natAbs ≤ B ∧ u.y.natAbs ≤ B ∧ u.z.natAbs ≤ B
structure NarOk (b b' : B3) (k : V3) (m : Nat) : Prop where
  dt : detB b' = m * detB b
  rule : All3 (fun u => (m : Int) ∣ val k u) b'
  kind : ∀ P : V3 → Prop, Kind3 P → All3 P b → All3 P b'
  bd : ∀ B, All3 (Le3 B) b → All3 (Le3 (m * B)) b'
abbrev Rule := V3 × Nat
def foldR (b : B3) (rs : List Rule) : B3 := rs.foldl (fun b r => narF b r.1 r.2) b
/-- some row is free, at each rule in turn -/
def Free (b : B3) (k : V3) (m : Nat) : Prop := freeF (val k b.1 % (m : Int)) m = true ∨ freeF (val k b.2.1 % (m : Int)) m = true ∨ freeF (val k b.2.2 % (m : Int)) m = true
def Frees (b : B3) : List Rule → Prop
  | [] => True
  | r :: rs => Md r.2 ∧ Free b r.1 r.2 ∧ Frees (narF b r.1 r.2) rs
structure FoldOk (b b' : B3) (rs : List Rule) : Prop where
  dt : detB b' = ((rs.map (·.2)).prod : Nat) * detB b
  rule : ∀ r, r ∈ rs → All3 (fun u => (r.2 : Int) ∣ val r.1 u) b'
  kind : ∀ P : V3 → Prop, Kind3 P → All3 P b → All3 P b'
  bd : ∀ B, All3 (Le3 B) b → All3 (Le3 ((rs.map (·.2)).prod * B)) b'
def I3 : B3 := (⟨1, 0, 0⟩, ⟨0, 1, 0⟩, ⟨0, 0, 1⟩)
def axis (i : Nat) : V3 := if i = 0 then ⟨1, 0, 0⟩ else if i = 1 then ⟨0, 1, 0⟩ else ⟨0, 0, 1⟩
/-- 1 ahead of a place, a factor two ahead of it -/
def apart (i : Nat) (t : Int) : V3 := if i = 0 then ⟨0, t, 1⟩ else if i = 1 then ⟨1, 0, t⟩ else ⟨t, 1, 0⟩
def withp (i : Nat) : V3 := if i = 0 then ⟨1, 0, 1⟩ else if i = 1 then ⟨1, 1, 0⟩ else ⟨0, 1, 1⟩
/-- the place, the one ahead, the one two ahead -/
def at0 (a : V3) (i : Nat) : Int := if i = 0 then a.x else if i = 1 then a.y else a.z
def at1 (a : V3) (i : Nat) : Int := if i = 0 then a.z else if i = 1 then a.x else a.y
def at2 (a : V3) (i : Nat) : Int := if i = 0 then a.y else if i = 1 then a.z else a.x
def evenAt (a : V3) : Option Nat := if a.x % 2 = 0 then some 0 else if a.y % 2 = 0 then some 1 else if a.z % 2 = 0 then some 2 else none
def fourAt (a : V3) : Nat := if (at1 a 0 + at2 a 0) % 4 = 0 then 0 else if (at1 a 1 + at2 a 1) % 4 = 0 then 1 else 2
def twoR (a : V3) : List Rule := match evenAt a with
  | none => [(axis (fourAt a), 2), (apart (fourAt a) (-1), 2)]
  | some i => if (at1 a i + at2 a i) % 8 = 0 then [(apart i (-1), 4), (axis i, 2)] else [(apart i (-1), 4), (withp i, 2)]
end NT

namespace NT
/-! ### the grid of three weights without common parts -/
def restF (a : V3) (i p : Nat) : Int := -(at2 a i) * ((at1 a i % (p : Int)) ^ (p - 2) % (p : Int))
def oddRi (a : V3) (B : List Nat) (i : Nat) : List Rule := (B.filter fun p => decide (2 < p)).map fun p => (apart i (-(sqrtF p (restF a i p))), p)
def gridR (a : V3) (B0 B1 B2 : List Nat) : List Rule := twoR a ++ (oddRi a B0 0 ++ oddRi a B1 1 ++ oddRi a B2 2)
structure Fine3 (a : V3) (B0 B1 B2 : List Nat) : Prop where
  ax : a.x.natAbs = B0.prod
  ay : a.y.natAbs = B1.prod
  az : a.z.natAbs = B2.prod
  n0 : B0.Nodup
  n1 : B1.Nodup
  n2 : B2.Nodup
  p0 : ∀ p, p ∈ B0 → Pr p
  p1 : ∀ p, p ∈ B1 → Pr p
  p2 : ∀ p, p ∈ B2 → Pr p
  d01 : ∀ p, p ∈ B0 → p ∉ B1
  d02 : ∀ p, p ∈ B0 → p ∉ B2
  d12 : ∀ p, p ∈ B1 → p ∉ B2
  s0 : ∀ p, p ∈ B0 → 2 < p → sq p (-a.z * a.y) = true
  s1 : ∀ p, p ∈ B1 → 2 < p → sq p (-a.x * a.z) = true
  s2 : ∀ p, p ∈ B2 → 2 < p → sq p (-a.y * a.x) = true
  four : evenAt a = none → (at1 a (fourAt a) + at2 a (fourAt a)) % 4 = 0
  eight : ∀ i, evenAt a = some i → (at1 a i + at2 a i) % 8 = 0 ∨ (at1 a i + at2 a i + at0 a i) % 8 = 0
theorem pr_in {B : List Nat} (hp : ∀ p, p ∈ B → Pr p) {p : Nat} (h : Pr p) (d : p ∣ B.prod) : p ∈ B := by
  induction B with
  | nil => simp at d; exact absurd d (by have := h.1; omega)
  | cons q B ih =>
    rw [List.prod_cons] at d
    rcases h.dvd_mul d with d | d
    · rw [h.eq (hp q (by simp)) d]; simp
    · exact List.mem_cons_of_mem _ (ih (fun r hr => hp r (by simp [hr])) d)
theorem in_dvd {p : Nat} : ∀ {B : List Nat}, p ∈ B → p ∣ B.prod
  | q :: B, h => by
    rw [List.prod_cons]
    rcases List.mem_cons.mp h with rfl | h
    · exact Nat.dvd_mul_right _ _
    · exact Nat.dvd_mul_left_of_dvd (in_dvd h) _
theorem nd_of {a : Int} {B : List Nat} (e : a.natAbs = B.prod) (hp : ∀ p, p ∈ B → Pr p) {p : Nat} (h : Pr p) (hn : p ∉ B) : ¬ (p : Int) ∣ a := fun d => hn (pr_in hp h (by rw [← e]; exact Int.ofNat_dvd_left.mp d))
theorem inv_cg {p : Nat} (h : Od p) {u : Int} (hu : ¬ (p : Int) ∣ u) : Cg p (u * ((u % (p : Int)) ^ (p - 2) % (p : Int))) 1 := by
  have c1 : Cg p ((u % (p : Int)) ^ (p - 2) % (p : Int)) (u ^ (p - 2)) := (Cg.emod _).trans ((Cg.emod u).pow _)
  have c2 := (Cg.refl (p := p) u).mul c1
  have e2 : u * u ^ (p - 2) = u ^ (p - 1) := by
    have h3 := h.ge
    have : p - 1 = (p - 2) + 1 := by omega
    rw [this, Int.pow_succ]; grind
  rw [e2] at c2
  exact c2.trans (fermat h.pr hu)
/-- the rest is a square -/
theorem rest_sq {p : Nat} (h : Od p) {u v : Int} (hu : ¬ (p : Int) ∣ u) (hv : ¬ (p : Int) ∣ v) (hs : sq p (-u * v) = true) : sq p (-v * ((u % (p : Int)) ^ (p - 2) % (p : Int))) = true := by
  have hi := inv_cg h hu
  generalize (u % (p : Int)) ^ (p - 2) % (p : Int) = w at *
  have nw : ¬ (p : Int) ∣ w := fun d => h.pr.oneI ((Cg.dvd hi).mp (Int.dvd_mul_of_dvd_right d))
  have nvw : ¬ (p : Int) ∣ -v * w := fun d => by
    rcases h.pr.dvdI d with d | d
    · exact hv (Int.dvd_neg.mp d)
    · exact nw d
  rw [← sq_mulsq h nvw hu]
  have : Cg p (-v * w * (u * u)) (-u * v) := by
    have e : -v * w * (u * u) = (-u * v) * (u * w) := by grind
    have k := (Cg.refl (p := p) (-u * v)).mul hi
    rw [Int.mul_one] at k
    rw [e]; exact k
  rw [sq_cg this]
  exact hs
/-- a root of the rest is a rule's factor -/
theorem rest_rule {p : Nat} (h : Od p) {u v : Int} (hu : ¬ (p : Int) ∣ u) {r : Int} (hr : Cg p (r * r) (-v * ((u % (p : Int)) ^ (p - 2) % (p : Int)))) : (p : Int) ∣ u * (r * r) + v := by
  have hi := inv_cg h hu
  generalize (u % (p : Int)) ^ (p - 2) % (p : Int) = w at *
  have k := (Cg.refl (p := p) u).mul hr
  have e : u * (-v * w) = -v * (u * w) := by grind
  rw [e] at k
  have k2 := k.trans ((Cg.refl (p := p) (-v)).mul hi)
  obtain ⟨c, hc⟩ := k2
  exact ⟨c, by omega⟩
def ev3 (a u : V3) : Int := a.x * u.x * u.x + a.y * u.y * u.y + a.z * u.z * u.z
theorem ev_at (a u : V3) (i : Nat) (hi : i < 3) : ev3 a u = at0 a i * (at0 u i * at0 u i) + at1 a i * (at1 u i * at1 u i) + at2 a i * (at2 u i * at2 u i) := by
  have h3 : i = 0 ∨ i = 1 ∨ i = 2 := by omega
  unfold ev3
  rcases h3 with rfl | rfl | rfl
  · show _ = a.x * (u.x * u.x) + a.z * (u.z * u.z) + a.y * (u.y * u.y); grind
  · show _ = a.y * (u.y * u.y) + a.x * (u.x * u.x) + a.z * (u.z * u.z); grind
  · show _ = a.z * (u.z * u.z) + a.y * (u.y * u.y) + a.x * (u.x * u.x); grind
theorem val_apart (i : Nat) (hi : i < 3) (t : Int) (u : V3) : val (apart i t) u = at1 u i + t * at2 u i := by
  have h3 : i = 0 ∨ i = 1 ∨ i = 2 := by omega
  rcases h3 with rfl | rfl | rfl
  · show 0 * u.x + t * u.y + 1 * u.z = u.z + t * u.y; omega
  · show 1 * u.x + 0 * u.y + t * u.z = u.x + t * u.z; omega
  · show t * u.x + 1 * u.y + 0 * u.z = u.y + t * u.x; omega
structure At3 (a : V3) (B : List Nat) (i : Nat) : Prop where
  i3 : i < 3
  pr : ∀ p, p ∈ B → Pr p
  dv : ∀ p, p ∈ B → (p : Int) ∣ at0 a i
  u : ∀ p, p ∈ B → ¬ (p : Int) ∣ at1 a i
  v : ∀ p, p ∈ B → ¬ (p : Int) ∣ at2 a i
  s : ∀ p, p ∈ B → 2 < p → sq p (-(at1 a i) * at2 a i) = true
theorem Fine3.at {a : V3} {B0 B1 B2 : List Nat} (h : Fine3 a B0 B1 B2) : At3 a B0 0 ∧ At3 a B1 1 ∧ At3 a B2 2 := by
  have dv : ∀ {t : Int} {B : List Nat}, t.natAbs = B.prod → ∀ p, p ∈ B → (p : Int) ∣ t := fun e p hp => Int.ofNat_dvd_left.mpr (by rw [e]; exact in_dvd hp)
  refine ⟨⟨by decide, h.p0, dv h.ax, fun p hp => nd_of h.az h.p2 (h.p0 p hp) (h.d02 p hp), fun p hp => nd_of h.ay h.p1 (h.p0 p hp) (h.d01 p hp), h.s0⟩,
    ⟨by decide, h.p1, dv h.ay, fun p hp => nd_of h.ax h.p0 (h.p1 p hp) (fun z => h.d01 p z hp), fun p hp => nd_of h.az h.p2 (h.p1 p hp) (h.d12 p hp), h.s1⟩,
    ⟨by decide, h.p2, dv h.az, fun p hp => nd_of h.ay h.p1 (h.p2 p hp) (fun z => h.d12 p z hp), fun p hp => nd_of h.ax h.p0 (h.p2 p hp) (fun z => h.d02 p z hp), h.s2⟩⟩
theorem At3.od {a : V3} {B : List Nat} {i : Nat} (h : At3 a B i) {p : Nat} (hp : p ∈ B) (h2 : 2 < p) : Od p := Od.of (h.pr p hp) (by omega)
theorem At3.root {a : V3} {B : List Nat} {i : Nat} (h : At3 a B i) {p : Nat} (hp : p ∈ B) (h2 : 2 < p) : sq p (restF a i p) = true := rest_sq (h.od hp h2) (h.u p hp) (h.v p hp) (h.s p hp h2)
theorem At3.rule {a : V3} {B : List Nat} {i : Nat} (h : At3 a B i) {u : V3} (hu : ∀ r, r ∈ oddRi a B i → (r.2 : Int) ∣ val r.1 u) : ∀ p, p ∈ B → 2 < p → (p : Int) ∣ ev3 a u := fun p hp h2 => by
  have hr := hu (apart i (-(sqrtF p (restF a i p))), p) (List.mem_map.mpr ⟨p, List.mem_filter.mpr ⟨hp, decide_eq_true h2⟩, rfl⟩)
  have ho := h.od hp h2
  obtain ⟨e1, _, _⟩ := sqrtF_ok ho (h.root hp h2)
  rw [val_apart _ h.i3] at hr
  rw [ev_at a u i h.i3]
  refine rule_prime (r := sqrtF p (restF a i p)) (h.dv p hp) (rest_rule ho (h.u p hp) e1) ?_
  have : at1 u i - sqrtF p (restF a i p) * at2 u i = at1 u i + -(sqrtF p (restF a i p)) * at2 u i := by grind
  rw [this]; exact hr
theorem odd_prod (B : List Nat) : (B.filter fun p => decide (2 < p)).prod * (if 2 ∈ B then 2 else 1) = B.prod ∨ ¬ (B.Nodup ∧ ∀ p, p ∈ B → Pr p) := by
  by_cases c : B.Nodup ∧ ∀ p, p ∈ B → Pr p
  · left
    induction B with
    | nil => simp
    | cons q B ih =>
      rw [List.nodup_cons] at c
      have ih := ih ⟨c.1.2, fun p hp => c.2 p (by simp [hp])⟩
      have q2 := (c.2 q (by simp)).1
      by_cases e : q = 2
      · subst e
        have n2 : 2 ∉ B := c.1.1
        rw [if_neg n2, Nat.mul_one] at ih
        rw [List.filter_cons, if_neg (by decide), if_pos (by simp), ih, List.prod_cons, Nat.mul_comm]
      · have e2 : decide (2 < q) = true := decide_eq_true (by omega)
        rw [List.filter_cons, if_pos e2, List.prod_cons, List.prod_cons, ← ih]
        have : (2 ∈ q :: B) ↔ 2 ∈ B := by simp [Ne.symm e]
        simp only [this]
        rw [Nat.mul_assoc]
  · right; exact c
end NT

namespace NT
/-! ### the grid's row comes to nought -/
structure Sh4 (s : V3) (d2 q0 : Int) (b : B3) : Prop where
  f : Qd s b.1 ≤ q0
  g : Qd s b.2.1 ≤ q0
  l : Qd s b.2.2 ≤ s.x * s.y * s.z * d2 + q0
def absV (a : V3) : V3 := ⟨a.x.natAbs, a.y.natAbs, a.z.natAbs⟩
def gridB (a : V3) (B0 B1 B2 : List Nat) : B3 := foldR I3 (gridR a B0 B1 B2)
def baseF (a : V3) (B0 B1 B2 : List Nat) : B3 := shBase (absV a) (fuel2 (absV a) (gridB a B0 B1 B2).1 (gridB a B0 B1 B2).2.1) (gridB a B0 B1 B2).1 (gridB a B0 B1 B2).2.1 (gridB a B0 B1 B2).2.2
structure GridOk (a : V3) (B0 B1 B2 : List Nat) : Prop where
  pos : Pos3 (absV a)
  dt : detB (gridB a B0 B1 B2) = 4 * (B0.prod * B1.prod * B2.prod : Nat)
  bd : All3 (Le3 (4 * (B0.prod * B1.prod * B2.prod))) (gridB a B0 B1 B2)
  ne : ¬ ((baseF a B0 B1 B2).1.x = 0 ∧ (baseF a B0 B1 B2).1.y = 0 ∧ (baseF a B0 B1 B2).1.z = 0)
  zero : ev3 a (baseF a B0 B1 B2).1 = 0
end NT

namespace NT
/-! ### greatest common divisors of rows -/
def gcdL (r : List Int) : Nat := r.foldl (fun g x => Nat.gcd g x.natAbs) 0
def lowL (r : List Int) : List Int := r.map fun x => x / (gcdL r : Int)
/-! ### numbers that come to 1 together -/
def parG : Nat → Int × Int → Int × Int → Int → Int → Int × Int
  | 0, h, _, l, _ => (h.1 * l, h.2 * l)
  | n + 1, h, t, l, r => if r = 0 then (h.1 * l, h.2 * l) else parG n t (h.1 - l / r * t.1, h.2 - l / r * t.2) r (l - l / r * r)
def parF (x y : Int) : Int × Int := parG (y.natAbs + 1) (1, 0) (0, 1) x y
structure Par (x y : Int) (h t : Int × Int) (l r : Int) : Prop where
  l0 : 0 ≤ l
  r0 : 0 ≤ r
  e1 : x * h.1 + y * h.2 = l
  e2 : x * t.1 + y * t.2 = r
  g : Nat.gcd l.natAbs r.natAbs = 1
theorem par_mod {l r : Int} (hr : r ≠ 0) (r0 : 0 ≤ r) : l - l / r * r = l % r := by
  have := Int.emod_add_mul_ediv l r
  have e : l / r * r = r * (l / r) := Int.mul_comm _ _
  omega
theorem Par.step {x y : Int} {h t : Int × Int} {l r : Int} (p : Par x y h t l r) (hr : r ≠ 0) : Par x y t (h.1 - l / r * t.1, h.2 - l / r * t.2) r (l - l / r * r) := by
  have r0 := p.r0
  have l0 := p.l0
  refine ⟨r0, ?_, p.e2, ?_, ?_⟩
  · rw [par_mod hr r0]; exact Int.emod_nonneg _ hr
  · show x * (h.1 - l / r * t.1) + y * (h.2 - l / r * t.2) = _
    have e1 := p.e1
    have e2 := p.e2
    have : x * (h.1 - l / r * t.1) + y * (h.2 - l / r * t.2) = (x * h.1 + y * h.2) - l / r * (x * t.1 + y * t.2) := by grind
    rw [this, e1, e2]
  · rw [par_mod hr r0]
    have : (l % r).natAbs = l.natAbs % r.natAbs := by
      rw [Int.natAbs_emod_of_nonneg l0]
    rw [this, Nat.gcd_comm, ← Nat.gcd_rec, Nat.gcd_comm]
    exact p.g
/-! ### the step, as computed -/
def manyC (c : Int) : Int := if c % 2 = 1 then c else c / 2
def wayX (c x y : Int) : Int := -(manyC c) * (parF x y).2
def wayY (c x y : Int) : Int := manyC c * (parF x y).1
def overF (a b c x y : Int) : Int := a * x * wayX c x y + b * y * wayY c x y
def wayZ (a b c x y z : Int) : Int := if c % 2 = 1 then pick2 (overF a b c x y) (c * z) ((a * wayX c x y + b * wayY c x y) % 2) else near (overF a b c x y) (c * z)
def wholeF (a b c x y z : Int) : Int := a * wayX c x y * wayX c x y + b * wayY c x y * wayY c x y - c * wayZ a b c x y z * wayZ a b c x y z
def bothF (a b c x y z : Int) : Int := overF a b c x y - c * z * wayZ a b c x y z
def absI (t : Int) : Int := if t < 0 then -t else t
def rowF (a b c x y z : Int) : List Int := [absI (wholeF a b c x y z * x - 2 * bothF a b c x y z * wayX c x y), absI (wholeF a b c x y z * y - 2 * bothF a b c x y z * wayY c x y), absI (wholeF a b c x y z * z - 2 * bothF a b c x y z * wayZ a b c x y z)]
/-! ### a step -/
def sqf (n : Nat) : Prop := ∀ d : Nat, d * d ∣ n → d = 1
structure Ans3 (a b c x y z : Int) : Prop where
  x0 : 0 ≤ x
  y0 : 0 ≤ y
  z0 : 0 < z
  e : a * (x * x) + b * (y * y) = c * (z * z)
  g : gcdL [x, y, z] = 1
def stepF (a b c : Int) (r : Int × Int × Int) : Int × Int × Int := (absI (wholeF a b c r.1 r.2.1 r.2.2 * r.1 - 2 * bothF a b c r.1 r.2.1 r.2.2 * wayX c r.1 r.2.1) / (gcdL (rowF a b c r.1 r.2.1 r.2.2) : Int), absI (wholeF a b c r.1 r.2.1 r.2.2 * r.2.1 - 2 * bothF a b c r.1 r.2.1 r.2.2 * wayY c r.1 r.2.1) / (gcdL (rowF a b c r.1 r.2.1 r.2.2) : Int), absI (wholeF a b c r.1 r.2.1 r.2.2 * r.2.2 - 2 * bothF a b c r.1 r.2.1 r.2.2 * wayZ a b c r.1 r.2.1 r.2.2) / (gcdL (rowF a b c r.1 r.2.1 r.2.2) : Int))
/-! ### down to a small answer -/
def smallG (a b c : Int) : Nat → Int × Int × Int → Int × Int × Int
  | 0, r => r
  | n + 1, r => if r.2.2 * r.2.2 > a * b then smallG a b c n (stepF a b c r) else r
theorem Ans3.small {a b c x y z : Int} (ap : 0 < a) (bp : 0 < b) (h : Ans3 a b c x y z) (cp : 0 < c) (hz : z * z ≤ a * b) : x * x ≤ b * c ∧ y * y ≤ c * a := by
  have e := h.e
  have xx := sqn x
  have yy := sqn y
  have k : c * (z * z) ≤ c * (a * b) := Int.mul_le_mul_of_nonneg_left hz (by omega)
  have k1 : 0 ≤ b * (y * y) := Int.mul_nonneg (by omega) yy
  have k2 : 0 ≤ a * (x * x) := Int.mul_nonneg (by omega) xx
  constructor
  · have : a * (x * x) ≤ a * (b * c) := by
      have : c * (a * b) = a * (b * c) := by grind
      omega
    exact Int.le_of_mul_le_mul_left this ap
  · have : b * (y * y) ≤ b * (c * a) := by
      have : c * (a * b) = b * (c * a) := by grind
      omega
    exact Int.le_of_mul_le_mul_left this bp
end NT

namespace NT
/-! ### the grid's rules, one by one -/
theorem Le3.mono {A B : Nat} {u : V3} (h : Le3 A u) (k : A ≤ B) : Le3 B u := ⟨Nat.le_trans h.1 k, Nat.le_trans h.2.1 k, Nat.le_trans h.2.2 k⟩
/-! ### how long the numbers are -/
def Lg (b : Nat) (t : Int) : Prop := t.natAbs < 2 ^ b
def Lg3 (b : Nat) (u : V3) : Prop := Lg b u.x ∧ Lg b u.y ∧ Lg b u.z
theorem Lg.mul {x y : Int} {a b : Nat} (h : Lg a x) (k : Lg b y) : Lg (a + b) (x * y) := by
  show (x * y).natAbs < _
  rw [Int.natAbs_mul, Nat.pow_add]
  exact Nat.mul_lt_mul'' h k
theorem Lg.le {x : Int} {a b : Nat} (h : Lg a x) (k : a ≤ b) : Lg b x := Nat.lt_of_lt_of_le h (Nat.pow_le_pow_right (by decide) k)
theorem Lg.add {x y : Int} {a : Nat} (h : Lg a x) (k : Lg a y) : Lg (a + 1) (x + y) := by
  show (x + y).natAbs < _
  have h : x.natAbs < 2 ^ a := h
  have k : y.natAbs < 2 ^ a := k
  rw [Nat.pow_succ]; omega
structure BaseBd (a : V3) (B0 B1 B2 : List Nat) : Prop where
  n : 4 * (B0.prod * B1.prod * B2.prod) < 2 ^ 602
  g : All3 (Lg3 602) (gridB a B0 B1 B2)
  q : Lg 1407 (Qd (absV a) (gridB a B0 B1 B2).1 + Qd (absV a) (gridB a B0 B1 B2).2.1)
  b : All3 (Lg3 903) (baseF a B0 B1 B2)
def rowsF (a : V3) (L : List V3) : List V3 := L.filter fun u => decide (¬ (u.x = 0 ∧ u.y = 0 ∧ u.z = 0) ∧ ev3 a u = 0)
end NT

namespace NT
/-! ### how long a step's numbers are -/
structure PB (b : Nat) (x y : Int) (h t : Int × Int) (l r : Int) : Prop where
  h1 : h.1.natAbs ≤ y.natAbs + 1
  h2 : h.2.natAbs ≤ x.natAbs + 1
  t1 : t.1.natAbs ≤ y.natAbs + 1
  t2 : t.2.natAbs ≤ x.natAbs + 1
  s1 : h.1.natAbs * r.natAbs + t.1.natAbs * l.natAbs ≤ y.natAbs
  s2 : h.2.natAbs * r.natAbs + t.2.natAbs * l.natAbs ≤ x.natAbs
  lb : Lg b l
  rb : Lg b r
theorem PB.step {b : Nat} {x y : Int} {h t : Int × Int} {l r : Int} (p : PB b x y h t l r) (l0 : 0 ≤ l) (r0 : 0 ≤ r) (hr : r ≠ 0) : PB b x y t (h.1 - l / r * t.1, h.2 - l / r * t.2) r (l - l / r * r) := by
  have em := par_mod (l := l) hr r0
  have m0 := Int.emod_nonneg l hr
  have m1 := Int.emod_lt_of_pos l (show 0 < r by omega)
  have q0 : 0 ≤ l / r := Int.ediv_nonneg l0 r0
  have qr : 0 ≤ l / r * r := Int.mul_nonneg q0 r0
  have el : l.natAbs = (l / r).natAbs * r.natAbs + (l - l / r * r).natAbs := by
    rw [← Int.natAbs_mul]; omega
  have key : ∀ {H T Y : Int}, H.natAbs * r.natAbs + T.natAbs * l.natAbs ≤ Y.natAbs → T.natAbs * (l - l / r * r).natAbs + (H - l / r * T).natAbs * r.natAbs ≤ Y.natAbs := fun {H T Y} k => by
    have n := Int.natAbs_sub_le H (l / r * T)
    rw [Int.natAbs_mul] at n
    rw [el] at k
    generalize (l - l / r * r).natAbs = R' at *
    generalize (H - l / r * T).natAbs = N at *
    have m := Nat.mul_le_mul_right r.natAbs n
    have e : (H.natAbs + (l / r).natAbs * T.natAbs) * r.natAbs + T.natAbs * R' = H.natAbs * r.natAbs + T.natAbs * ((l / r).natAbs * r.natAbs + R') := by grind
    omega
  have k1 := key p.s1
  have k2 := key p.s2
  have rp : 1 ≤ r.natAbs := by omega
  have up : ∀ {A N Y : Nat}, A + N * r.natAbs ≤ Y → N ≤ Y + 1 := fun {A N Y} k => by
    have : N * 1 ≤ N * r.natAbs := Nat.mul_le_mul_left _ rp
    omega
  have rb := p.rb
  refine ⟨p.t1, p.t2, up k1, up k2, k1, k2, p.rb, ?_⟩
  show Int.natAbs _ < _
  have rb : r.natAbs < 2 ^ b := rb
  omega
theorem Lg.sub {x y : Int} {a : Nat} (h : Lg a x) (k : Lg a y) : Lg (a + 1) (x - y) := by
  show (x - y).natAbs < _
  have h : x.natAbs < 2 ^ a := h
  have k : y.natAbs < 2 ^ a := k
  rw [Nat.pow_succ]; omega
theorem Lg.succ {b : Nat} {x y : Int} (h : x.natAbs ≤ y.natAbs + 1) (k : Lg b y) : Lg (b + 1) x := by
  show x.natAbs < _
  have k : y.natAbs < 2 ^ b := k
  rw [Nat.pow_succ]; omega
theorem Lg.neg {a : Nat} {x : Int} (h : Lg a x) : Lg a (-x) := by
  show (-x).natAbs < _
  rw [Int.natAbs_neg]; exact h
structure StepLg (a b c x y z : Int) : Prop where
  m : Lg 200 (manyC c)
  p1 : Lg 1108 (parF x y).1
  p2 : Lg 1108 (parF x y).2
  wx : Lg 1308 (wayX c x y)
  wy : Lg 1308 (wayY c x y)
  ov : Lg 2616 (overF a b c x y)
  un : Lg 1107 (c * z)
  wz : Lg 2617 (wayZ a b c x y z)
  wh : Lg 5440 (wholeF a b c x y z)
  bo : Lg 3730 (bothF a b c x y z)
  row : ∀ t, t ∈ rowF a b c x y z → Lg 6600 t
end NT

namespace NT
/-! ### the small row -/
def ord0 (t : Nat) : Nat := if t = 0 then 1 else 0
def ord1 (t : Nat) : Nat := if t = 2 then 1 else 2
def thirdF (a : V3) : Nat := if 0 < a.x then (if 0 < a.y then 2 else if 0 < a.z then 1 else 0) else if 0 < a.y then (if 0 < a.z then 0 else 1) else 2
def smallT (a r : V3) (t : Nat) : Int × Int × Int := smallG (absI (at0 a (ord0 t))) (absI (at0 a (ord1 t))) (absI (at0 a t)) ((at0 r t).natAbs + 1) (absI (at0 r (ord0 t)), absI (at0 r (ord1 t)), absI (at0 r t))
def placed (t : Nat) (h : Int × Int × Int) : V3 := ⟨if t = 0 then h.2.2 else h.1, if t = 0 then h.1 else if t = 1 then h.2.2 else h.2.1, if t = 2 then h.2.2 else h.2.1⟩
def smallR (a r : V3) : V3 := placed (thirdF a) (smallT a r (thirdF a))
structure Mixed (a : V3) : Prop where
  x : a.x ≠ 0
  y : a.y ≠ 0
  z : a.z ≠ 0
  p : ¬ (0 < a.x ∧ 0 < a.y ∧ 0 < a.z)
  n : ¬ (a.x < 0 ∧ a.y < 0 ∧ a.z < 0)
structure SmallOk (a u : V3) : Prop where
  x0 : 0 ≤ u.x
  y0 : 0 ≤ u.y
  z0 : 0 ≤ u.z
  e : ev3 a u = 0
  g : gcdL [u.x, u.y, u.z] = 1
  bx : u.x * u.x ≤ absI (a.y * a.z)
  yb : u.y * u.y ≤ absI (a.z * a.x)
  bz : u.z * u.z ≤ absI (a.x * a.y)
end NT

namespace NT
/-! ### rows without a common divisor -/
def gcdV (u : V3) : Nat := gcdL [u.x, u.y, u.z]
def lowV (u : V3) : V3 := ⟨u.x / (gcdV u : Int), u.y / (gcdV u : Int), u.z / (gcdV u : Int)⟩
theorem ne_gcdV {u : V3} (h : gcdV u = 1) : ¬ (u.x = 0 ∧ u.y = 0 ∧ u.z = 0) := fun ⟨h1, h2, h3⟩ => by
  unfold gcdV at h
  rw [h1, h2, h3] at h
  exact absurd h (by decide)
structure AnsV (a u : V3) : Prop where
  x0 : 0 ≤ u.x
  y0 : 0 ≤ u.y
  z0 : 0 ≤ u.z
  e : ev3 a u = 0
  g : gcdV u = 1
end NT

namespace NT
/-! ### rows up to their sign and their common divisor -/
def fstL : List Int → Int
  | [] => 0
  | x :: xs => if x ≠ 0 then x else fstL xs
def sgnL (r : List Int) : List Int := r.map fun x => if 0 < fstL r then x else -x
def normL (r : List Int) : List Int := sgnL (lowL r)
end NT

namespace NT
/-! ### two letters lead from an answer to an answer -/
def fixF (f : V3) : Nat := if f.z ≠ 0 then 2 else if f.y ≠ 0 then 1 else 0
def wayF (t : Nat) (p q : Int) : V3 := if t = 2 then ⟨p, q, 0⟩ else if t = 1 then ⟨p, 0, q⟩ else ⟨0, p, q⟩
def bil (a u v : V3) : Int := a.x * u.x * v.x + a.y * u.y * v.y + a.z * u.z * v.z
def refF (a f s : V3) : List Int := [ev3 a s * f.x - 2 * bil a f s * s.x, ev3 a s * f.y - 2 * bil a f s * s.y, ev3 a s * f.z - 2 * bil a f s * s.z]
def walkF (a f : V3) (p q : Int) : List Int := normL (refF a f (wayF (fixF f) p q))
def findF (f t : V3) (i : Nat) : Int := at0 f (fixF f) * at0 t i - at0 t (fixF f) * at0 f i
def pairF (a f t : V3) : List Int := if findF f t 0 = 0 ∧ findF f t 1 = 0 ∧ findF f t 2 = 0 then [at0 a (ord1 (fixF f)) * at0 f (ord1 (fixF f)), -at0 a (ord0 (fixF f)) * at0 f (ord0 (fixF f))] else [findF f t (ord0 (fixF f)), findF f t (ord1 (fixF f))]
def lettF (a f t : V3) : List Int := normL (pairF a f t)
/-- an answer, of any signs -/
structure AnsG (a u : V3) : Prop where
  e : ev3 a u = 0
  g : gcdV u = 1
structure Nz (a : V3) : Prop where
  x : a.x ≠ 0
  y : a.y ≠ 0
  z : a.z ≠ 0
theorem mz {a b : Int} (h : a * b = 0) : a = 0 ∨ b = 0 := Int.mul_eq_zero.mp h
theorem AnsG.ne {a f : V3} (h : AnsG a f) : ¬ (f.x = 0 ∧ f.y = 0 ∧ f.z = 0) := ne_gcdV h.g
end NT

namespace NT
/-! ### the letters back -/
end NT

namespace NT
/-! ### bits of walks -/
end NT

namespace T
open PySem L2 DL
def top (i : Nat) : Stmt := PySem.Challenge.pw_squareweights_k08_whole_bars_by_remainde.main.body.getD i (.Pass ⟨0, 0, 0, 0⟩)
abbrev s_is_integer : Stmt := top 8
abbrev n_is_integer : List Str := ["thing", "low", "high"]
theorem sc_is_integer : FnScope n_is_integer ["thing", "low", "high"] (defScope s_is_integer) := ⟨rfl, rfl, rfl, by decide +kernel, rfl, by decide +kernel, by decide +kernel⟩
abbrev s_is_weight : Stmt := top 9
abbrev n_is_weight : List Str := ["thing", "part"]
theorem sc_is_weight : FnScope n_is_weight ["thing"] (defScope s_is_weight) := ⟨rfl, rfl, rfl, by decide +kernel, rfl, by decide +kernel, by decide +kernel⟩
abbrev s_product : Stmt := top 10
abbrev n_product : List Str := ["numbers", "found", "one"]
theorem sc_product : FnScope n_product ["numbers"] (defScope s_product) := ⟨rfl, rfl, rfl, by decide +kernel, rfl, by decide +kernel, by decide +kernel⟩
abbrev s_Form___init__ : Stmt := inClass (top 11) 0
abbrev n_Form___init__ : List Str := ["self", "weights", "index", "weight"]
theorem sc_Form___init__ : FnScope n_Form___init__ ["self", "weights"] (defScope s_Form___init__) := ⟨rfl, rfl, rfl, by decide +kernel, rfl, by decide +kernel, by decide +kernel⟩
abbrev s_Form_weights : Stmt := inClass (top 11) 1
abbrev n_Form_weights : List Str := ["self"]
theorem sc_Form_weights : FnScope n_Form_weights ["self"] (defScope s_Form_weights) := ⟨rfl, rfl, rfl, by decide +kernel, rfl, by decide +kernel, by decide +kernel⟩
abbrev s_Form_numbers : Stmt := inClass (top 11) 2
abbrev n_Form_numbers : List Str := ["self"]
theorem sc_Form_numbers : FnScope n_Form_numbers ["self"] (defScope s_Form_numbers) := ⟨rfl, rfl, rfl, by decide +kernel, rfl, by decide +kernel, by decide +kernel⟩
abbrev s_Form___len__ : Stmt := inClass (top 11) 3
abbrev n_Form___len__ : List Str := ["self"]
abbrev s_Form___eq__ : Stmt := inClass (top 11) 4
abbrev n_Form___eq__ : List Str := ["self", "other"]
abbrev s_check_three : Stmt := top 12
abbrev n_check_three : List Str := ["form"]
theorem sc_check_three : FnScope n_check_three ["form"] (defScope s_check_three) := ⟨rfl, rfl, rfl, by decide +kernel, rfl, by decide +kernel, by decide +kernel⟩
abbrev s_primes_of : Stmt := top 13
abbrev n_primes_of : List Str := ["weight", "found", "part", "left", "prime"]
theorem sc_primes_of : FnScope n_primes_of ["weight"] (defScope s_primes_of) := ⟨rfl, rfl, rfl, by decide +kernel, rfl, by decide +kernel, by decide +kernel⟩
abbrev s_sign_of : Stmt := top 14
abbrev n_sign_of : List Str := ["weight"]
theorem sc_sign_of : FnScope n_sign_of ["weight"] (defScope s_sign_of) := ⟨rfl, rfl, rfl, by decide +kernel, rfl, by decide +kernel, by decide +kernel⟩
abbrev s_powered : Stmt := top 16
abbrev n_powered : List Str := ["number", "times", "many", "found", "left", "here"]
theorem sc_powered : FnScope n_powered ["number", "times", "many"] (defScope s_powered) := ⟨rfl, rfl, rfl, by decide +kernel, rfl, by decide +kernel, by decide +kernel⟩
abbrev s_odd_primes_of : Stmt := top 18
abbrev n_odd_primes_of : List Str := ["weight", "known", "prime"]
theorem sc_odd_primes_of : FnScope n_odd_primes_of ["weight"] (defScope s_odd_primes_of) := ⟨rfl, rfl, rfl, by decide +kernel, rfl, by decide +kernel, by decide +kernel⟩
abbrev s_root_of : Stmt := top 19
abbrev n_root_of : List Str := ["weight", "known", "found", "prime", "again"]
theorem sc_root_of : FnScope n_root_of ["weight"] (defScope s_root_of) := ⟨rfl, rfl, rfl, by decide +kernel, rfl, by decide +kernel, by decide +kernel⟩
abbrev s_Normal___init__ : Stmt := inClass (top 20) 0
abbrev n_Normal___init__ : List Str := ["self", "rows", "sets", "prime", "has", "weight", "at", "other"]
theorem sc_Normal___init__ : FnScope n_Normal___init__ ["self", "rows"] (defScope s_Normal___init__) := ⟨rfl, rfl, rfl, by decide +kernel, rfl, by decide +kernel, by decide +kernel⟩
abbrev s_Normal_all_weights : Stmt := inClass (top 20) 1
abbrev n_Normal_all_weights : List Str := ["self", "sign", "primes"]
theorem sc_Normal_all_weights : FnScope n_Normal_all_weights ["self"] (defScope s_Normal_all_weights) := ⟨rfl, rfl, rfl, by decide +kernel, rfl, by decide +kernel, by decide +kernel⟩
abbrev s_Normal_back : Stmt := inClass (top 20) 2
abbrev n_Normal_back : List Str := ["self", "row", "whole", "one", "up", "down"]
abbrev s_normal : Stmt := top 21
abbrev n_normal : List Str := ["form"]
theorem sc_normal : FnScope n_normal ["form"] (defScope s_normal) := ⟨rfl, rfl, rfl, by decide +kernel, rfl, by decide +kernel, by decide +kernel⟩
abbrev s_is_square : Stmt := top 22
abbrev n_is_square : List Str := ["number", "prime"]
theorem sc_is_square : FnScope n_is_square ["number", "prime"] (defScope s_is_square) := ⟨rfl, rfl, rfl, by decide +kernel, rfl, by decide +kernel, by decide +kernel⟩
abbrev s_two_bars : Stmt := top 23
abbrev n_two_bars : List Str := ["numbers", "even", "odd", "one", "at"]
theorem sc_two_bars : FnScope n_two_bars ["numbers"] (defScope s_two_bars) := ⟨rfl, rfl, rfl, by decide +kernel, rfl, by decide +kernel, by decide +kernel⟩
abbrev s_bars_of : Stmt := top 24
abbrev n_bars_of : List Str := ["shape", "numbers", "found", "at", "rest", "prime"]
theorem sc_bars_of : FnScope n_bars_of ["shape"] (defScope s_bars_of) := ⟨rfl, rfl, rfl, by decide +kernel, rfl, by decide +kernel, by decide +kernel⟩
abbrev s_ends_of : Stmt := top 25
abbrev n_ends_of : List Str := ["weight", "prime", "number", "many"]
abbrev s_symbol : Stmt := top 26
abbrev n_symbol : List Str := ["one", "other", "prime", "found", "many", "left", "more", "right"]
abbrev s_is_local_square : Stmt := top 27
abbrev n_is_local_square : List Str := ["weight", "prime", "many", "left"]
abbrev s_four_bar : Stmt := top 28
abbrev n_four_bar : List Str := ["rows", "prime", "whole", "found", "at", "one", "other"]
abbrev s_four_bars : Stmt := top 29
abbrev n_four_bars : List Str := ["rows", "known", "weight", "found", "prime"]
abbrev s_bad_places : Stmt := top 30
abbrev n_bad_places : List Str := ["form"]
theorem sc_bad_places : FnScope n_bad_places ["form"] (defScope s_bad_places) := ⟨rfl, rfl, rfl, by decide +kernel, rfl, by decide +kernel, by decide +kernel⟩
abbrev s__law_mix : Stmt := top 32
abbrev n__law_mix : List Str := ["_law_script", "_law_seed", "_law_state", "_law_cell"]
theorem sc__law_mix : FnScope n__law_mix ["_law_script", "_law_seed"] (defScope s__law_mix) := ⟨rfl, rfl, rfl, by decide +kernel, rfl, by decide +kernel, by decide +kernel⟩
abbrev s__law_next : Stmt := top 33
abbrev n__law_next : List Str := ["_law_h", "_law_cap", "_law_cell"]
theorem sc__law_next : FnScope n__law_next ["_law_h", "_law_cap"] (defScope s__law_next) := ⟨rfl, rfl, rfl, by decide +kernel, rfl, by decide +kernel, by decide +kernel⟩
abbrev s__law_pick : Stmt := top 34
abbrev n__law_pick : List Str := ["_law_h", "_law_things"]
theorem sc__law_pick : FnScope n__law_pick ["_law_h", "_law_things"] (defScope s__law_pick) := ⟨rfl, rfl, rfl, by decide +kernel, rfl, by decide +kernel, by decide +kernel⟩
abbrev s__law_come : Stmt := top 35
abbrev n__law_come : List Str := ["_law_numbers", "_law_row", "_law_at"]
abbrev s__law_bars : Stmt := top 36
abbrev n__law_bars : List Str := ["_law_numbers", "_law_prime", "_law_many", "_law_known", "_law_one", "_law_other", "_law_left", "_law_whole"]
theorem sc__law_bars : FnScope n__law_bars ["_law_numbers", "_law_prime", "_law_many"] (defScope s__law_bars) := ⟨rfl, rfl, rfl, by decide +kernel, rfl, by decide +kernel, by decide +kernel⟩
abbrev s_law : Stmt := top 37
abbrev n_law : List Str := ["_law_script", "_law_h", "_law_turn", "_law_weights", "_law_numbers", "_law_found", "_law_prime", "_law_many", "_law_k"]
theorem sc_law : FnScope n_law ["_law_script"] (defScope s_law) := ⟨rfl, rfl, rfl, by decide +kernel, rfl, by decide +kernel, by decide +kernel⟩
structure Adr where
  WeightError : Addr
  InvalidWeights : Addr
  BadForm : Addr
  Form : Addr
  Normal : Addr
structure Ctx (K : PySem.W.Frag) (mg : Str → Option Value) (a : Adr) : Prop where
  B : Blt mg
  c_MOST_PART : CInt mg "MOST_PART" 1000000
  c_MOST_PARTS : CInt mg "MOST_PARTS" 5
  c_SIZES : CTup K mg "SIZES" [.int (3), .int (4)]
  d_is_integer : DefAt K mg "is_integer" s_is_integer ["thing", "low", "high"]
  d_is_weight : DefAt K mg "is_weight" s_is_weight ["thing"]
  d_product : DefAt K mg "product" s_product ["numbers"]
  m_Form : mg "Form" = some (.ref a.Form)
  k_Form : ClsI K a.Form
  n_Form_rows : NoAttr K a.Form "rows"
  n_Form_sums : NoAttr K a.Form "sums"
  i_Form : InitAt K a.Form "Form.__init__" s_Form___init__ ["self", "weights"]
  g_Form_weights : Getter K a.Form "weights" "rows"
  g_Form_numbers : Getter K a.Form "numbers" "sums"
  e_Form___len__ : MethAt K a.Form "__len__" "Form.__len__" s_Form___len__ ["self"]
  e_Form___eq__ : MethAt K a.Form "__eq__" "Form.__eq__" s_Form___eq__ ["self", "other"]
  d_check_three : DefAt K mg "check_three" s_check_three ["form"]
  d_primes_of : DefAt K mg "primes_of" s_primes_of ["weight"]
  d_sign_of : DefAt K mg "sign_of" s_sign_of ["weight"]
  d_powered : DefAt K mg "powered" s_powered ["number", "times", "many"]
  d_odd_primes_of : DefAt K mg "odd_primes_of" s_odd_primes_of ["weight"]
  d_root_of : DefAt K mg "root_of" s_root_of ["weight"]
  m_Normal : mg "Normal" = some (.ref a.Normal)
  k_Normal : ClsI K a.Normal
  n_Normal_bare : NoAttr K a.Normal "bare"
  n_Normal_ups : NoAttr K a.Normal "ups"
  n_Normal_downs : NoAttr K a.Normal "downs"
  n_Normal_signs : NoAttr K a.Normal "signs"
  i_Normal : InitAt K a.Normal "Normal.__init__" s_Normal___init__ ["self", "rows"]
  e_Normal_all_weights : MethAt K a.Normal "all_weights" "Normal.all_weights" s_Normal_all_weights ["self"]
  e_Normal_back : MethAt K a.Normal "back" "Normal.back" s_Normal_back ["self", "row"]
  d_normal : DefAt K mg "normal" s_normal ["form"]
  d_is_square : DefAt K mg "is_square" s_is_square ["number", "prime"]
  d_two_bars : DefAt K mg "two_bars" s_two_bars ["numbers"]
  d_bars_of : DefAt K mg "bars_of" s_bars_of ["shape"]
  d_ends_of : DefAt K mg "ends_of" s_ends_of ["weight", "prime"]
  d_symbol : DefAt K mg "symbol" s_symbol ["one", "other", "prime"]
  d_is_local_square : DefAt K mg "is_local_square" s_is_local_square ["weight", "prime"]
  d_four_bar : DefAt K mg "four_bar" s_four_bar ["rows", "prime"]
  d_four_bars : DefAt K mg "four_bars" s_four_bars ["rows"]
  d_bad_places : DefAt K mg "bad_places" s_bad_places ["form"]
  d__law_mix : DefAt K mg "_law_mix" s__law_mix ["_law_script", "_law_seed"]
  d__law_next : DefAt K mg "_law_next" s__law_next ["_law_h", "_law_cap"]
  d__law_pick : DefAt K mg "_law_pick" s__law_pick ["_law_h", "_law_things"]
  d__law_bars : DefAt K mg "_law_bars" s__law_bars ["_law_numbers", "_law_prime", "_law_many"]
  d_law : DefAt K mg "law" s_law ["_law_script"]
local macro_rules | `(tactic| walk_at "n1") => `(tactic| first
  | with_reducible refine r_seq ?_
  | with_reducible refine r_ret ?_
  | with_reducible refine r_retN ?_
  | with_reducible refine r_next ?_
  | ((with_reducible refine x_app ?_); refine ⟨_, _, rfl, rfl, ?_⟩)
  | ((with_reducible refine x_ins ?_); refine ⟨_, _, rfl, rfl, ?_⟩)
  | with_reducible refine r_drop ?_
  | with_reducible refine r_aug rfl ?_
  | with_reducible refine r_par ?_
  | ((with_reducible refine x_var ?_); refine ⟨_, rfl, ?_⟩)
  | with_reducible refine ev_c ?_
  | with_reducible refine ev_op ?_
  | with_reducible refine ev_un ?_
  | with_reducible refine ev_isiT ?_
  | with_reducible refine ev_cb ?_
  | with_reducible refine ev_tup ?_
  | with_reducible refine ev_lst ?_
  | with_reducible refine ev_if ?_
  | with_reducible refine et_test ?_
  | with_reducible refine et_B ?_
  | with_reducible refine et_and ?_
  | with_reducible refine et_or ?_
  | with_reducible refine et_not ?_
  | with_reducible refine ev_andV ?_
  | with_reducible refine ev_orV ?_
  | with_reducible refine ev_notV ?_
  | with_reducible refine eo_none ?_
  | with_reducible refine eo_some ?_
  | with_reducible refine ea_nil ?_
  | with_reducible refine ea_cons ?_
  | with_reducible refine eu_I ?_
  | with_reducible refine g_add ?_
  | with_reducible refine g_sub ?_
  | with_reducible refine x_mul ?_
  | ((with_reducible refine x_mod ?_); refine ⟨by decide, ?_⟩)
  | ((with_reducible refine x_div ?_); refine ⟨divW (b := 60) (by decide) (by decide) (by decide), ?_⟩)
  | ((with_reducible refine x_pow ?_); refine ⟨⟨by decide, by decide, by decide⟩, ?_⟩)
  | with_reducible refine x_mod ?_
  | with_reducible refine x_div ?_
  | with_reducible refine g_lt ?_
  | with_reducible refine g_le ?_
  | with_reducible refine g_gt ?_
  | with_reducible refine g_ge ?_
  | with_reducible refine g_eqI ?_
  | with_reducible refine g_neI ?_
  | with_reducible refine g_eqV rfl ?_
  | with_reducible refine g_neV rfl ?_
  | with_reducible refine g_isND ?_
  | with_reducible refine g_notND ?_
  | with_reducible refine x_ixT ?_
  | with_reducible refine x_ixL ?_
  | ((with_reducible refine x_ixM ?_); refine ⟨_, rfl, ?_⟩)
  | with_reducible refine x_lenL ?_
  | with_reducible refine x_lenT ?_
  | with_reducible refine x_lenS ?_
  | ((with_reducible refine x_lenM ?_); refine ⟨_, rfl, ?_⟩)
  | with_reducible refine ec_abs ?_
  | with_reducible refine ec_max2 ?_
  | with_reducible refine ec_min2 ?_
  | with_reducible refine ec_int1 ?_
  | with_reducible refine x_tupL ?_
  | ((with_reducible refine x_tupM ?_); refine ⟨_, rfl, ?_⟩)
  | with_reducible refine ev_chain ?_
  | with_reducible refine ev_ct ?_
  | ((with_reducible refine ei_int ?_); refine ⟨by first | assumption | constructor, ?_⟩)
  | ((with_reducible refine ei_bool ?_); refine ⟨by first | assumption | constructor, ?_⟩)
  | ((with_reducible refine ei_tuple ?_); refine ⟨by first | assumption | constructor, ?_⟩)
  | ((with_reducible refine ei_lst ?_); refine ⟨by first | assumption | constructor, ?_⟩)
  | ((with_reducible refine ei_str ?_); refine ⟨by first | assumption | constructor, ?_⟩)
  | with_reducible refine ec_callP ?_
  | with_reducible refine ec_callG ?_
  | with_reducible refine eg_tup rfl ?_
  | with_reducible refine eg_nil ?_
  | with_reducible refine eg_cons ?_
  | with_reducible refine eg_name ?_
  | (with_reducible show ∃ ds : List D, _ = List.map Sl.v ds ∧ _; first
      | refine ⟨[], rfl, le_lit rfl, ?_⟩
      | refine ⟨[_], rfl, le_lit rfl, ?_⟩
      | refine ⟨[_, _], rfl, le_lit rfl, ?_⟩
      | refine ⟨[_, _, _], rfl, le_lit rfl, ?_⟩
      | refine ⟨[_, _, _, _], rfl, le_lit rfl, ?_⟩
      | refine ⟨[_, _, _, _, _], rfl, le_lit rfl, ?_⟩
      | refine ⟨[_, _, _, _, _, _], rfl, le_lit rfl, ?_⟩
      | refine ⟨[_, _, _, _, _, _, _], rfl, le_lit rfl, ?_⟩
      | refine ⟨[_, _, _, _, _, _, _, _], rfl, le_lit rfl, ?_⟩
      | refine ⟨[_, _, _, _, _, _, _, _, _], rfl, le_lit rfl, ?_⟩
      | refine ⟨[_, _, _, _, _, _, _, _, _, _], rfl, le_lit rfl, ?_⟩
      | refine ⟨[_, _, _, _, _, _, _, _, _, _, _], rfl, le_lit rfl, ?_⟩
      | refine ⟨[_, _, _, _, _, _, _, _, _, _, _, _], rfl, le_lit rfl, ?_⟩)
  | (show ∃ b, Sl.v (D.bl _) = Sl.v (D.bl b) ∧ _; refine ⟨_, rfl, ?_⟩)
  | (show ∃ i, Sl.v (D.int _) = Sl.v (D.int i) ∧ _; refine ⟨_, rfl, ?_⟩))
local macro_rules | `(tactic| walk_at "d1") => `(tactic| first | with_reducible refine r_if ?_ | walk_at "n1")
local macro_rules | `(tactic| walk_at "n") => `(tactic| repeat walk_at "n1")
local macro_rules | `(tactic| walk_at "d") => `(tactic| repeat walk_at "d1")
section
variable {P : Program} {w : World} {K : PySem.W.Frag} {mg : Str → Option Value} {base : Heap} {a : Adr}
/-! ### forms: kinds, weights, products -/
def isI (d : D) (lo hi : Int) : Bool := match d with
  | .raw (.int i) => decide (lo ≤ i) && decide (i ≤ hi)
  | _ => false
theorem isI_of {d : D} (h1 : isIntD d = true) (h2 : isBoolD d = false) : ∃ i, d = .int i := by
  match d, h1, h2 with
  | .raw (.int i), _, _ => exact ⟨i, rfl⟩
theorem ok_is_integer (C : Ctx K mg a) : FnAt P w K mg base CX0 1 "is_integer" ["thing", "low", "high"] (SpP K (fun x : D × Int × Int => [x.1, .int x.2.1, .int x.2.2]) (fun x => Tame x.1) (fun x d => d = .bl (isI x.1 x.2.1 x.2.2))) := by
  refine fn_at C.d_is_integer sc_is_integer (fun _ => rfl) fun f cdv A outer s H E hr => ⟨_, (pss_one (ps_ret (pe_and (pe_isi (K := K) C.B.isinstance rfl (pa_cons (pv 0) (pa_cons (pe_bltn (v := .ty "int") rfl C.B.int (by decide +kernel) rfl) pa_nil))) (pe_and (pe_not (pe_isi (K := K) C.B.isinstance rfl (pa_cons (pv 0) (pa_cons (pe_bltn (v := .ty "bool") rfl C.B.bool (by decide +kernel) rfl) pa_nil)))) (pe_one (pe_chain op_gLe op_gLe (pv 1) (pv 0) (pv 2))))))), fun i e hp he => ?_⟩
  obtain ⟨d, lo, hi⟩ := i
  have hp : Tame d := hp
  dsimp only [cxOf]
  walk_at "d"
  refine ite_b (fun h1 => ?_) (fun h1 => ?_)
  · walk_at "d"
    refine ite_b (fun h2 => ?_) (fun h2 => ?_)
    · obtain ⟨j, rfl⟩ := isI_of h1 (by simpa using h2)
      walk_at "d"
      refine ite_dec (fun h3 => ?_) (fun h3 => ?_)
      · walk_at "d"
        refine ret_v ?_
        simp [isI, h3]
      · refine ret_v ?_
        simp [isI, h3]
    · refine ret_v ?_
      have : isBoolD d = true := by simpa using h2
      match d, this with
      | .raw (.bl b), _ => rfl
  · refine ret_v ?_
    match d, h1 with
    | .raw .non, _ => rfl
    | .raw (.str _), _ => rfl
    | .raw (.byt _), _ => rfl
    | .raw (.flt _), _ => rfl
    | .raw (.ref _), _ => rfl
    | .raw (.ty _), _ => rfl
    | .tup _, _ => rfl
    | .lst _, _ => rfl
    | .dic _ _, _ => rfl
    | .ins _ _ _, _ => rfl
    | .rd _, _ => rfl
/-- a part that can stand -/
def okPart (d : D) : Bool := match d with
  | .raw (.int i) => decide (-1000000 ≤ i) && decide (i ≤ 1000000) && !decide (i = 0)
  | _ => false
def isW (d : D) : Bool := match d with
  | .tup ds => decide (1 ≤ ds.length) && decide (ds.length ≤ 5) && (ds.map okPart).all id
  | _ => false
def TameW (d : D) : Prop := Tame d ∧ ∀ ds, d = .tup ds → ds.length ≤ 1000 ∧ ∀ x, x ∈ ds → Tame x
theorem isW_no {d : D} (h : isTupD d = false) : isW d = false := by
  match d, h with
  | .raw _, _ => rfl
  | .lst _, _ => rfl
  | .dic _ _, _ => rfl
  | .ins _ _ _, _ => rfl
  | .rd _, _ => rfl
theorem isTup_of {d : D} (h : isTupD d = true) : ∃ ds, d = .tup ds := by
  match d, h with
  | .tup ds, _ => exact ⟨ds, rfl⟩
theorem ok_is_weight (C : Ctx K mg a) : FnAt P w K mg base CX0 2 "is_weight" ["thing"] (SpP K (fun d : D => [d]) TameW (fun d r => r = .bl (isW d))) := by
  refine fn_at C.d_is_weight sc_is_weight (fun _ => rfl) fun f cdv A outer s H E hr => ⟨_, (pss_cons (ps_if (PW.pt (pw_or (pt_not (pt_val (pe_isi (K := K) C.B.isinstance rfl (pa_cons (pv 0) (pa_cons (pe_bltn (v := .ty "tuple") rfl C.B.tuple (by decide +kernel) rfl) pa_nil))))) (pw_or1 (pt_not (pt_chain op_gLe op_gLe pe_int (pe_len (K := K) C.B.len rfl (pa_cons (pv 0) pa_nil)) (C.c_MOST_PARTS.pe rfl))))))
    (pss_one (ps_ret pe_bl))
    pss_nil)
    (pss_one (ps_ret (pe_all (K := K) C.B.all rfl rfl (pa_cons (pe_lc (own := [("part", 1)]) (g := (gName 1)) (tt := tYes) rfl sc_is_weight.nd (pi_seq (K := K) (pv 0)) (blkOk_by (N := n_is_weight) (sc := defScope s_is_weight) (by decide +kernel)) (fun _ _ _ _ _ => (pg_name (i := 1) sc_is_weight.nd rfl (by first | exact Or.inl rfl | exact Or.inr rfl))) (fun _ _ _ _ _ => pts_nil) (fun _ _ _ _ _ => (pe_and (pe_fn (ok_is_integer C) (hr.mono (by omega)) rfl (pa_cons (pv 1) (pa_cons (pe_un un_neg (C.c_MOST_PART.pe rfl)) (pa_cons (C.c_MOST_PART.pe rfl) pa_nil)))) (pe_one (pe_cmpR (op_gNe (K := K) (by exact hr.units)) (pv 1) pe_int (nomark _)))))) pa_nil))))), fun d e hp he => ?_⟩
  have ht : Tame d := hp.1
  dsimp only [cxOf]
  walk_at "d"
  cases h1 : isTupD d with
  | false =>
    refine iteT ?_
    refine iteT ?_
    walk_at "d"
    exact ret_v (by rw [isW_no h1])
  | true =>
    obtain ⟨ds, rfl⟩ := isTup_of h1
    obtain ⟨hl, hx⟩ := hp.2 ds rfl
    refine iteF ?_
    walk_at "d"
    have fin : ∀ {M : List MO}, ¬ (1 ≤ ds.length ∧ ds.length ≤ 5) → RetOk ([] : List MO).length (fun r (_ : List MO) => r = D.bl (isW (.tup ds))) (.v (.bl false)) M := fun {M} h => ret_v (by
      show D.bl false = D.bl (decide (1 ≤ ds.length) && decide (ds.length ≤ 5) && (ds.map okPart).all id)
      by_cases z : 1 ≤ ds.length
      · rw [decide_eq_true z, decide_eq_false (fun y => h ⟨z, y⟩)]; rfl
      · rw [decide_eq_false z]; rfl)
    refine ite_dec (fun h2 => ?_) (fun h2 => ?_)
    · walk_at "d"
      refine ite_ndec (fun h3 => ?_) (fun h3 => ?_)
      · walk_at "d"
        exact fin (by omega)
      · walk_at "d"
        refine ev_lcM (fun d => .bl (okPart d)) (ei_seqT ?_)
        walk_at "d"
        refine ⟨ds, rfl, by omega, fun j x hj => ?_, ?_⟩
        · have hxt := hx x (List.mem_of_getElem? hj)
          walk_at "d"
          refine ⟨(x, -1000000, 1000000), rfl, hxt, fun r hr' => ?_⟩
          subst hr'
          refine ⟨_, rfl, ?_⟩
          refine ite_b (fun h4 => ?_) (fun h4 => ?_)
          · match x, h4 with
            | .raw (.int i), h4 =>
              have h4 : (decide (-1000000 ≤ i) && decide (i ≤ 1000000)) = true := h4
              walk_at "d"
              show Sl.v (D.bl (!decide (i = 0))) = Sl.v (.bl (decide (-1000000 ≤ i) && decide (i ≤ 1000000) && !decide (i = 0)))
              rw [h4]; rfl
          · show Sl.v (D.bl false) = Sl.v (.bl (okPart x))
            match x, h4 with
            | .raw (.int i), h4 =>
              have h4 : (decide (-1000000 ≤ i) && decide (i ≤ 1000000)) = false := h4
              show Sl.v (D.bl false) = Sl.v (.bl (decide (-1000000 ≤ i) && decide (i ≤ 1000000) && !decide (i = 0)))
              rw [h4]; rfl
            | .raw .non, _ => rfl
            | .raw (.bl _), _ => rfl
            | .raw (.str _), _ => rfl
            | .raw (.byt _), _ => rfl
            | .raw (.flt _), _ => rfl
            | .raw (.ref _), _ => rfl
            | .raw (.ty _), _ => rfl
            | .tup _, _ => rfl
            | .lst _, _ => rfl
            | .dic _ _, _ => rfl
            | .ins _ _ _, _ => rfl
            | .rd _, _ => rfl
        · walk_at "d"
          refine ec_all (bs := ds.map okPart) ?_ (ret_v ?_)
          · have : (D.bls (ds.map okPart)) = ds.map fun d => .bl (okPart d) := by simp [D.bls, Function.comp_def]
            rw [this]; exact .v
          · show D.bl _ = D.bl (decide (1 ≤ ds.length) && decide (ds.length ≤ 5) && (ds.map okPart).all id)
            rw [decide_eq_true (by omega), decide_eq_true (by omega)]; rfl
    · walk_at "d"
      refine iteT ?_
      walk_at "d"
      exact fin (by omega)
abbrev wt (ns : List Int) : D := .tup (D.ints ns)
/-- a weight's parts -/
structure Wt (ns : List Int) : Prop where
  lo : 1 ≤ ns.length
  hi : ns.length ≤ 5
  p : ∀ n, n ∈ ns → n ≠ 0 ∧ n.natAbs ≤ 1000000
theorem Wt.isW {ns : List Int} (h : Wt ns) : isW (wt ns) = true := by
  show (decide (1 ≤ (D.ints ns).length) && decide ((D.ints ns).length ≤ 5) && ((D.ints ns).map okPart).all id) = true
  rw [decide_eq_true (by rw [List.length_map]; exact h.lo), decide_eq_true (by rw [List.length_map]; exact h.hi), Bool.true_and, Bool.true_and]
  simp only [D.ints, List.map_map, List.all_eq_true, List.mem_map, id]
  rintro b ⟨n, hn, rfl⟩
  have := h.p n hn
  simp only [Function.comp, okPart, Bool.and_eq_true, decide_eq_true_eq, Bool.not_eq_true', decide_eq_false_iff_not]
  omega
theorem tameW_wt (ns : List Int) (h : ns.length ≤ 1000) : TameW (wt ns) := ⟨.tup _, fun ds e => by
  cases e
  refine ⟨by simpa using h, fun x hx => ?_⟩
  obtain ⟨n, _, rfl⟩ := List.mem_map.mp hx
  exact .int n⟩
theorem Wt.tame {ns : List Int} (h : Wt ns) : TameW (wt ns) := tameW_wt ns (by have := h.hi; omega)
def prodL (ns : List Int) : Int := ns.foldl (· * ·) 1
theorem prod_bit (ns : List Int) (h : ∀ n, n ∈ ns → n.natAbs < 2 ^ 700) : (prodL ns).natAbs < 2 ^ (700 * ns.length + 1) := by
  unfold prodL
  suffices g : ∀ (ns : List Int) (a : Int) (m : Nat), a.natAbs < 2 ^ m → (∀ n, n ∈ ns → n.natAbs < 2 ^ 700) → (ns.foldl (· * ·) a).natAbs < 2 ^ (700 * ns.length + m) by
    exact g ns 1 1 (by decide) h
  intro ns
  induction ns with
  | nil => intro a m ha _; simpa using ha
  | cons n ns ih =>
    intro a m ha h
    have := ih (a * n) (m + 700) (mul_lt ha (h n (by simp))) (fun k hk => h k (by simp [hk]))
    rw [List.foldl_cons, List.length_cons]
    exact bit_le this (by omega)
theorem prod_snoc (ns : List Int) (n : Int) : prodL (ns ++ [n]) = prodL ns * n := by
  unfold prodL
  rw [List.foldl_append]
  rfl
theorem take_snoc {α : Type} {xs : List α} {i : Nat} {x : α} (h : xs[i]? = some x) : xs.take (i + 1) = xs.take i ++ [x] := by
  have hlt := (List.getElem?_eq_some_iff.mp h).1
  rw [List.take_succ_eq_append_getElem hlt, (List.getElem?_eq_some_iff.mp h).2]
theorem ints_get {ns : List Int} {i : Nat} {d : D} (h : (D.ints ns)[i]? = some d) : ∃ n, ns[i]? = some n ∧ d = .int n := by
  rw [List.getElem?_map] at h
  obtain ⟨n, hn, e⟩ := Option.map_eq_some_iff.mp h
  exact ⟨n, hn, e.symm⟩
theorem ok_product (C : Ctx K mg a) : FnAt P w K mg base CX0 1 "product" ["numbers"] (SpP K (fun x : Bool × List Int => [D.seq x.1 (D.ints x.2)]) (fun x => x.2.length ≤ 1000 ∧ ∀ n, n ∈ x.2 → n.natAbs < 2 ^ 700) (fun x d => d = .int (prodL x.2))) := by
  refine fn_at C.d_product sc_product (fun _ => rfl) fun f cdv A outer s H E hr => ⟨_, (pss_cons (ps_set (i := 1) sc_product.nd rfl (by first | exact Or.inl rfl | exact Or.inr rfl) pe_int)
    (pss_cons (ps_for PassesOwn.never rfl (pi_seq (K := K) (pv 0)) (pg_name (i := 2) sc_product.nd rfl (by first | exact Or.inl rfl | exact Or.inr rfl))
    (pss_one (ps_set (i := 1) sc_product.nd rfl (by first | exact Or.inl rfl | exact Or.inr rfl) (pe_op (op_gMul (K := K)) (pv 1) (pv 2)))))
    (pss_one (ps_ret (pv 1))))), fun i e hp he => ?_⟩
  obtain ⟨b, ns⟩ := i
  have hl : ns.length ≤ 1000 := hp.1
  have hb : ∀ n, n ∈ ns → n.natAbs < 2 ^ 700 := hp.2
  dsimp only [cxOf]
  walk_at "d"
  refine r_asg ?_
  walk_at "d"
  refine r_for [2] ?_
  refine ei_seqS ?_
  walk_at "d"
  refine ⟨_, ⟨_, rfl⟩, fun i ρ M => ∃ o, ρ = [some (.v (D.seq b (D.ints ns))), some (.v (.int (prodL (ns.take i)))), o] ∧ M = [], ⟨_, rfl, rfl⟩, ?_, ?_⟩
  · rintro i d ρ M hi ⟨o, rfl, rfl⟩
    obtain ⟨n, hn, rfl⟩ := ints_get hi
    walk_at "d"
    refine r_asg ?_
    walk_at "d"
    refine ⟨mulW (prod_bit (ns.take i) fun k hk => hb k (List.mem_of_mem_take hk)) (hb n (List.mem_of_getElem? hn)) (by rw [List.length_take]; omega), some (.v (.int n)), ?_, rfl⟩
    rw [take_snoc hn, prod_snoc]
    rfl
  · rintro ρ M ⟨o, rfl, rfl⟩
    walk_at "d"
    refine ret_v ?_
    simp [D.ints]
theorem Wt.pre {ns : List Int} (h : Wt ns) : ns.length ≤ 1000 ∧ ∀ n, n ∈ ns → n.natAbs < 2 ^ 700 := ⟨by have := h.hi; omega, fun n hn => by
  have h1 := (h.p n hn).2
  have h2 : (1000000 : Nat) < 2 ^ 700 := Nat.lt_of_lt_of_le (show 1000000 < 2 ^ 20 by decide) (Nat.pow_le_pow_right (by decide) (by decide))
  omega⟩
theorem Wt.bit {ns : List Int} (h : Wt ns) : (prodL ns).natAbs < 2 ^ 900 := by
  have : ∀ (ns : List Int) (m : Nat) (a : Int), (∀ n, n ∈ ns → n.natAbs ≤ 1000000) → a.natAbs < 2 ^ m → (ns.foldl (· * ·) a).natAbs < 2 ^ (20 * ns.length + m) := by
    intro ns
    induction ns with
    | nil => intro m a _ ha; simpa using ha
    | cons n ns ih =>
      intro m a hh ha
      have hn : n.natAbs < 2 ^ 20 := by have := hh n List.mem_cons_self; omega
      have := ih (m + 20) (a * n) (fun k hk => hh k (List.mem_cons_of_mem _ hk)) (mul_lt ha hn)
      rw [List.foldl_cons, List.length_cons]
      exact bit_le this (by omega)
  have := this ns 1 1 (fun n hn => (h.p n hn).2) (by decide)
  have hl := h.hi
  exact bit_le this (by omega)
theorem lit_bit {i : Int} {b : Nat} (h : i.natAbs < 2 ^ 60) (hb : 60 ≤ b) : i.natAbs < 2 ^ b := bit_le h hb

end
section
variable {P : Program} {w : World} {K : PySem.W.Frag} {mg : Str → Option Value} {base : Heap} {a : Adr}
/-! ### the making of a form -/
abbrev fm (C : Addr) (ws : List (List Int)) : D := .ins C ["rows", "sums"] [.tup (ws.map wt), .tup (D.ints (ws.map prodL))]
structure Frm (ws : List (List Int)) : Prop where
  len : ws.length = 3 ∨ ws.length = 4
  w : ∀ n, n ∈ ws → Wt n
theorem enum_get {k : Int} {ds : List D} {i : Nat} {d : D} (h : (enumD k ds)[i]? = some d) : ∃ c, ds[i]? = some c ∧ d = .tup [.int (k + (i : Int)), c] := by
  unfold enumD at h
  rw [List.getElem?_mapIdx] at h
  obtain ⟨c, hc, e⟩ := Option.map_eq_some_iff.mp h
  exact ⟨c, hc, e.symm⟩
theorem map_get {α β : Type} {f : α → β} {xs : List α} {i : Nat} {y : β} (h : (xs.map f)[i]? = some y) : ∃ x, xs[i]? = some x ∧ y = f x := by
  rw [List.getElem?_map] at h
  obtain ⟨c, hc, e⟩ := Option.map_eq_some_iff.mp h
  exact ⟨c, hc, e.symm⟩
theorem ok_Form (C : Ctx K mg a) : MkAt P w K mg base 3 "Form" a.Form ["self", "weights"] (SpI K a.Form (fun ws : List (List Int) => [.tup (ws.map wt)]) Frm ["rows", "sums"] (fun ws ds => ds = [.tup (ws.map wt), .tup (D.ints (ws.map prodL))])) := by
  obtain ⟨f, fd, hM, hF, hB⟩ := C.i_Form.ex
  refine mk_at C.m_Form hM hF hB sc_Form___init__ (fun _ => rfl) fun f cdv A outer s H E hr => ⟨_, (pss_cons (ps_if (PW.pt (pw_or (pt_not (pt_val (pe_isi (K := K) C.B.isinstance rfl (pa_cons (pv 1) (pa_cons (pe_bltn (v := .ty "tuple") rfl C.B.tuple (by decide +kernel) rfl) pa_nil))))) (pw_or1 (pt_cmpR (op_gNotIn (K := K) (by exact units65 hr)) (pe_len (K := K) C.B.len rfl (pa_cons (pv 1) pa_nil)) (C.c_SIZES.pe rfl) rfl))))
    (pss_one ps_never)
    pss_nil)
    (pss_cons (ps_for PassesOwn.never rfl (pi_enB (K := K) rfl C.B.enumerate (pa_cons (pv 1) pa_nil)) (pg_tup rfl (pgs_cons (pg_name (i := 2) sc_Form___init__.nd rfl (by first | exact Or.inl rfl | exact Or.inr rfl)) (pgs_cons (pg_name (i := 3) sc_Form___init__.nd rfl (by first | exact Or.inl rfl | exact Or.inr rfl)) pgs_nil)))
    (pss_one (ps_if (pt_not (pt_val (pe_fn (ok_is_weight C) (hr.mono (by omega)) rfl (pa_cons (pv 3) pa_nil))))
    (pss_one ps_never)
    pss_nil)))
    (pss_cons (ps_fld (pv 0) (pv 1) rfl)
    (pss_one (ps_fld (pv 0) (pe_tupOf (K := K) C.B.tuple rfl (pa_cons (pe_lc (own := [("weight", 3)]) (g := (gName 3)) (tt := tYes) rfl sc_Form___init__.nd (pi_seq (K := K) (pv 1)) (blkOk_by (N := n_Form___init__) (sc := defScope s_Form___init__) (by decide +kernel)) (fun _ _ _ _ _ => (pg_name (i := 3) sc_Form___init__.nd rfl (by first | exact Or.inl rfl | exact Or.inr rfl))) (fun _ _ _ _ _ => pts_nil) (fun _ _ _ _ _ => (pe_fn (ok_product C) (hr.mono (by omega)) rfl (pa_cons (pv 3) pa_nil)))) pa_nil)) rfl))))), fun ws e hp he => ?_⟩
  have hlen : ws.length = 3 ∨ ws.length = 4 := hp.len
  dsimp only [cxOf]
  walk_at "d"
  refine iteF ?_
  walk_at "d"
  refine g_notInI (ns := [3, 4]) .t ?_
  have hin : decide (((ws.map wt).length : Int) ∈ ([3, 4] : List Int)) = true := by
    rw [List.length_map]
    rcases hlen with h | h <;> rw [h] <;> decide
  rw [hin]
  refine ⟨_, rfl, iteF ?_⟩
  walk_at "d"
  refine r_for [2, 3] ?_
  refine ei_enB ?_
  walk_at "d"
  refine ⟨_, _, rfl, .t, fun i ρ M => ∃ o1 o2, ρ = [some (.l 0), some (.v (.tup (ws.map wt))), o1, o2] ∧ M = [.ins a.Form [] []], ⟨none, none, rfl, rfl⟩, ?_, ?_⟩
  · rintro i d ρ M hi ⟨o1, o2, rfl, rfl⟩
    obtain ⟨c, hc, rfl⟩ := enum_get hi
    obtain ⟨n, hn, rfl⟩ := map_get hc
    have hw := hp.w n (List.mem_of_getElem? hn)
    walk_at "d"
    refine ⟨wt n, rfl, hw.tame, fun r er => ?_⟩
    subst er
    refine ⟨_, rfl, ?_⟩
    rw [hw.isW]
    refine iteF ?_
    walk_at "d"
    exact ⟨_, _, rfl, rfl⟩
  · rintro ρ M ⟨o1, o2, rfl, rfl⟩
    walk_at "d"
    refine r_fld C.k_Form.cl C.n_Form_rows rfl rfl (by decide) ?_
    walk_at "d"
    refine ⟨_, rfl, ?_⟩
    refine r_fld C.k_Form.cl C.n_Form_sums rfl rfl (le_lit rfl) ?_
    walk_at "d"
    refine ev_lcM (fun d => match d with | .tup ds => .int (prodL (ds.map fun | .raw (.int i) => i | _ => 0)) | _ => d) (ei_seqT ?_)
    walk_at "d"
    refine ⟨_, rfl, by rw [List.length_map]; omega, fun j x hj => ?_, ?_⟩
    · obtain ⟨n, hn, rfl⟩ := map_get hj
      have hw := hp.w n (List.mem_of_getElem? hn)
      walk_at "d"
      refine ⟨(true, n), rfl, hw.pre, fun r er => ?_⟩
      subst er
      have : (D.ints n).map (fun | .raw (.int i) => i | _ => (0 : Int)) = n := by simp [D.ints, Function.comp_def]
      show Sl.v (D.int (prodL n)) = .v (.int (prodL ((D.ints n).map fun | .raw (.int i) => i | _ => 0)))
      rw [this]
    · walk_at "d"
      refine ⟨_, rfl, _, rfl, ?_⟩
      have : (ws.map wt).map (fun d => match d with | .tup ds => D.int (prodL (ds.map fun | .raw (.int i) => i | _ => 0)) | _ => d) = D.ints (ws.map prodL) := by
        simp only [D.ints, List.map_map]
        apply List.map_congr_left
        intro n _
        have : (D.ints n).map (fun | .raw (.int i) => i | _ => (0 : Int)) = n := by simp [D.ints, Function.comp_def]
        show D.int (prodL ((D.ints n).map fun | .raw (.int i) => i | _ => 0)) = .int (prodL n)
        rw [this]
      rw [this]
      rfl
end
section
variable {P : Program} {w : World} {K : PySem.W.Frag} {mg : Str → Option Value} {base : Heap} {a : Adr}
def sgn (n : Int) : Int := if n > 0 then 1 else -1
theorem ok_sign_of (C : Ctx K mg a) : FnAt P w K mg base CX0 2 "sign_of" ["weight"] (SpP K (fun ns : List Int => [wt ns]) (fun ns => Wt ns) (fun ns r => r = .int (sgn (prodL ns)))) := by
  refine fn_at C.d_sign_of sc_sign_of (fun _ => rfl) fun f cdv A outer s H E hr => ⟨_, (pss_one (ps_ret (pe_ifExp (pt_cmpR op_gGt (pe_fn (ok_product C) (hr.mono (by omega)) rfl (pa_cons (pv 0) pa_nil)) pe_int (nomark _)) pe_int (pe_un un_neg pe_int)))), fun ns e hp he => ?_⟩
  have hp : Wt ns := hp
  dsimp only [cxOf]
  walk_at "d"
  refine ⟨(true, ns), rfl, hp.pre, fun r hr' => ?_⟩
  subst hr'
  walk_at "d"
  refine ite_dec (fun h => ?_) (fun h => ?_)
  · walk_at "d"
    exact ret_v (by rw [sgn, if_pos h])
  · walk_at "d"
    exact ret_v (by rw [sgn, if_neg h])

end
section
variable {P : Program} {w : World} {K : PySem.W.Frag} {mg : Str → Option Value} {base : Heap} {a : Adr}
/-! ### primes of a weight -/
open NT in
structure Pd (ks : List Key) (ds : List D) (n : Nat) : Prop where
  len : ks.length = ds.length
  nd : ks.Nodup
  rng : ∀ k, k ∈ ks → ∃ p : Nat, k = .inl (p : Int) ∧ Pr p ∧ p ∣ n ∧ p ≤ 1000000
  val : ∀ p : Nat, Pr p → kdGet ks ds (.inl (p : Int)) = if p ∣ n then some (.int (vp p n : Nat)) else none
theorem Pd.nil : Pd [] [] 1 := ⟨rfl, .nil, fun k h => by simp at h, fun p hp => by rw [if_neg hp.one]; rfl⟩
theorem Pd.get {ks : List Key} {ds : List D} {n p : Nat} (h : Pd ks ds n) (hp : NT.Pr p) : (kdGet ks ds (.inl (p : Int))).getD (.int 0) = .int (NT.vp p n : Nat) := by
  rw [h.val p hp]
  by_cases z : p ∣ n
  · rw [if_pos z]; rfl
  · rw [if_neg z, NT.vp_no z]; rfl
theorem kdPut_nd {ks : List Key} {ds : List D} {k : Key} {d : D} (h : ks.Nodup) : (kdPut ks ds k d).1.Nodup := by
  unfold kdPut
  by_cases e : (ks.any fun j => decide (j = k)) = true
  · rw [if_pos e]; exact h
  · rw [if_neg e]
    have hn : k ∉ ks := fun z => e (any_mem.mpr z)
    exact List.nodup_append.mpr ⟨h, by simp, fun a ha b hb => by simp at hb; rw [hb]; exact fun z => hn (by rw [← z]; exact ha)⟩
theorem kdPut_mem {ks : List Key} {ds : List D} {k j : Key} {d : D} (h : j ∈ (kdPut ks ds k d).1) : j ∈ ks ∨ j = k := by
  unfold kdPut at h
  by_cases e : (ks.any fun j => decide (j = k)) = true
  · rw [if_pos e] at h; exact .inl h
  · rw [if_neg e] at h
    rcases List.mem_append.mp h with z | z
    · exact .inl z
    · simp at z; exact .inr z
theorem Pd.mul {ks : List Key} {ds : List D} {n p : Nat} (h : Pd ks ds n) (hp : NT.Pr p) (hn : 0 < n) (h6 : p ≤ 1000000) : Pd (kdPut ks ds (.inl (p : Int)) (.int ((NT.vp p n : Nat) + 1 : Int))).1 (kdPut ks ds (.inl (p : Int)) (.int ((NT.vp p n : Nat) + 1 : Int))).2 (n * p) := by
  refine ⟨kdPut_len h.len, kdPut_nd h.nd, fun k hk => ?_, fun q hq => ?_⟩
  · rcases kdPut_mem hk with z | z
    · obtain ⟨q, e, hq, hd, h6⟩ := h.rng k z
      exact ⟨q, e, hq, Nat.dvd_mul_right_of_dvd hd p, h6⟩
    · exact ⟨p, z, hp, Nat.dvd_mul_left p n, h6⟩
  · rw [kdGet_put h.len]
    by_cases e : q = p
    · subst e
      rw [if_pos rfl, if_pos (Nat.dvd_mul_left q n), NT.vp_mul hp hn hp.pos, NT.vp_self hp]
      simp
    · have e' : ¬ (Sum.inl (q : Int) : Key) = Sum.inl (p : Int) := fun z => e (by have := Sum.inl.inj z; omega)
      rw [if_neg e', h.val q hq]
      have hdv : q ∣ n * p ↔ q ∣ n := ⟨fun d => (hq.dvd_mul d).resolve_right fun z => e (hq.eq hp z), fun d => Nat.dvd_mul_right_of_dvd d p⟩
      by_cases z : q ∣ n
      · rw [if_pos z, if_pos (hdv.mpr z), NT.vp_mul hq hn hp.pos, NT.vp_other hq hp e]; rfl
      · rw [if_neg z, if_neg (fun y => z (hdv.mp y))]
theorem Pd.few {ks : List Key} {ds : List D} {n : Nat} (h : Pd ks ds n) : ks.length ≤ 1000001 := by
  have sub : ks ⊆ (List.range 1000001).map fun i : Nat => (Sum.inl (i : Int) : Key) := fun k hk => by
    obtain ⟨p, e, _, _, h6⟩ := h.rng k hk
    exact List.mem_map.mpr ⟨p, List.mem_range.mpr (by omega), e.symm⟩
  have := h.nd.length_le_of_subset sub
  rw [List.length_map, List.length_range] at this
  exact this
/-- no smaller prime divides -/
def Low (p n : Nat) : Prop := ∀ q, NT.Pr q → q ∣ n → p ≤ q
theorem Low.pr {p n : Nat} (h : Low p n) (hp : 2 ≤ p) (hd : p ∣ n) : NT.Pr p := by
  refine ⟨hp, fun d hdp => ?_⟩
  by_cases h1 : d = 1
  · exact .inl h1
  · have h0 : d ≠ 0 := by
      rintro rfl
      have := Nat.zero_dvd.mp hdp; omega
    obtain ⟨q, hq, hqd⟩ := NT.ex_pr d (by omega)
    have a1 := h q hq (Nat.dvd_trans hqd (Nat.dvd_trans hdp hd))
    have a2 := Nat.le_of_dvd (by omega) hqd
    have a3 := Nat.le_of_dvd (by omega) hdp
    exact .inr (by omega)
theorem Low.big {p n : Nat} (h : Low p n) (hn : 1 < n) (h2 : n < p * p) : Low n n := by
  intro q hq hd
  obtain ⟨c, rfl⟩ := hd
  have c0 : c ≠ 0 := by rintro rfl; simp at hn
  by_cases hc : c = 1
  · subst hc; simp
  · exfalso
    obtain ⟨r, hr, c', rfl⟩ := NT.ex_pr c (by omega)
    have a1 := h q hq (Nat.dvd_mul_right q _)
    have a2 := h r hr ⟨q * c', by grind⟩
    have c1 : 0 < c' := Nat.pos_of_ne_zero (by rintro rfl; simp at c0)
    have : p * p ≤ q * r := Nat.mul_le_mul a1 a2
    have : q * r * 1 ≤ q * r * c' := Nat.mul_le_mul_left _ c1
    rw [← Nat.mul_assoc] at h2
    omega
theorem Low.le {p n : Nat} (h : Low p n) (hn : 1 < n) : p ≤ n := by
  obtain ⟨q, hq, hd⟩ := NT.ex_pr n hn
  have := Nat.le_of_dvd (by omega) hd
  have := h q hq hd
  omega
theorem Low.up {p n : Nat} (h : Low p n) (hd : ¬ p ∣ n) : Low (p + 1) n := fun q hq d => by
  have := h q hq d
  have : q ≠ p := by rintro rfl; exact hd d
  omega
theorem Low.sub {p n m : Nat} (h : Low p n) (hd : m ∣ n) : Low p m := fun q hq d => h q hq (Nat.dvd_trans d hd)
theorem low2 (n : Nat) : Low 2 n := fun q hq _ => hq.1
abbrev nP (ns : List Int) : Nat := (prodL ns).natAbs
theorem nP_pos {ns : List Int} (h : ∀ n, n ∈ ns → n ≠ 0) : 0 < nP ns := by
  have : ∀ (ns : List Int) (a : Int), a ≠ 0 → (∀ n, n ∈ ns → n ≠ 0) → ns.foldl (· * ·) a ≠ 0 := by
    intro ns
    induction ns with
    | nil => intro a ha _; exact ha
    | cons n ns ih => intro a ha h; exact ih _ (Int.mul_ne_zero ha (h n (by simp))) fun k hk => h k (by simp [hk])
  exact Int.natAbs_pos.mpr (this ns 1 (by decide) h)
theorem Wt.pos {ns : List Int} (h : Wt ns) : 0 < nP ns := nP_pos fun n hn => (h.p n hn).1
theorem ok_primes_of (C : Ctx K mg a) : FnAt P w K mg base CX0 1 "primes_of" ["weight"] (SpN K (fun ns : List Int => [wt ns]) Wt (fun ns m => ∃ ks ds, m = .dic ks ds ∧ Pd ks ds (nP ns))) := by
  refine fn_atN C.d_primes_of sc_primes_of (fun _ => rfl) fun f cdv A outer s H E hr => ⟨_, (pss_cons (ps_set (i := 1) sc_primes_of.nd rfl (by first | exact Or.inl rfl | exact Or.inr rfl) pe_dnewK)
    (pss_cons (ps_for PassesOwn.never rfl (pi_seq (K := K) (pv 0)) (pg_name (i := 2) sc_primes_of.nd rfl (by first | exact Or.inl rfl | exact Or.inr rfl))
    (pss_cons (ps_par (i := 3) (j := 4) rfl sc_primes_of.nd rfl rfl (by decide) rfl rfl (pa_cons (pe_abs C.B.abs rfl (pa_cons (pv 2) pa_nil)) (pa_cons pe_int pa_nil)) rfl)
    (pss_one (ps_while PassesOwn.never (pt_cmpR op_gGt (pv 3) pe_int (nomark _))
    (pss_cons (ps_if (pt_cmpR op_gGt (pe_op (op_gMul (K := K)) (pv 4) (pv 4)) (pv 3) (nomark _))
    (pss_one (ps_set (i := 4) sc_primes_of.nd rfl (by first | exact Or.inl rfl | exact Or.inr rfl) (pv 3)))
    pss_nil)
    (pss_cons (ps_while PassesOwn.never (pt_cmpR (op_gEq (K := K) (by exact hr.units)) (pe_op op_gMod (pv 3) (pv 4)) pe_int (nomark _))
    (pss_cons (ps_set (i := 3) sc_primes_of.nd rfl (by first | exact Or.inl rfl | exact Or.inr rfl) (pe_op op_gDiv (pv 3) (pv 4)))
    (pss_one (ps_dput (hu_of hr) (pv 1) (pv 4) (pe_op (op_gAdd (K := K)) (pe_dget2 (hu_of hr) (pv 1) (pv 4) pe_int ⟨rfl, rfl, rfl, rfl⟩) pe_int) rfl))))
    (pss_one (ps_aug (i := 4) sc_primes_of.nd rfl (by first | exact Or.inl rfl | exact Or.inr rfl) pe_int ip_add))))))))
    (pss_one (ps_ret (pv 1))))), fun ns e hp he => ?_⟩
  try dsimp only [cxOf]
  refine r_seq (r_newD ?_)
  refine r_seq ?_
  refine r_for [2] ?_
  refine ei_seqT ?_
  walk_at "d"
  refine ⟨_, rfl, fun i ρ M => ∃ (ks : List Key) (ds : List D) (o2 o3 o4 : Option Sl), ρ = [some (.v (wt ns)), some (.l 0), o2, o3, o4] ∧ M = [.dic ks ds] ∧ Pd ks ds (nP (ns.take i)), ⟨[], [], none, none, none, rfl, rfl, Pd.nil⟩, ?_, ?_⟩
  · rintro i d ρ M hi ⟨ks, ds, o2, o3, o4, rfl, rfl, pd⟩
    obtain ⟨n, hn, rfl⟩ := ints_get hi
    obtain ⟨n0, n6⟩ := hp.p n (List.mem_of_getElem? hn)
    have hpos : 0 < nP (ns.take i) := nP_pos fun k hk => (hp.p k (List.mem_of_mem_take hk)).1
    walk_at "d"
    refine ⟨_, _, rfl, ?_⟩
    have hpar : 0 < n.natAbs := Int.natAbs_pos.mpr n0
    generalize hA : n.natAbs = A at *
    have habs : (if n < 0 then -n else n) = (A : Int) := by split <;> omega
    try rw [habs]
    have hN : nP (ns.take (i + 1)) = nP (ns.take i) * A := by
      show (prodL _).natAbs = (prodL _).natAbs * A
      rw [take_snoc hn, prod_snoc, Int.natAbs_mul, hA]
    generalize hN0 : nP (ns.take i) = N0 at *
    refine r_while ⟨fun m ρ M => ∃ (ks : List Key) (ds : List D) (left pr done : Nat), ρ = [some (.v (wt ns)), some (.l 0), some (.v (.int n)), some (.v (.int (left : Int))), some (.v (.int (pr : Int)))] ∧ M = [.dic ks ds] ∧ Pd ks ds (N0 * done) ∧ left * done = A ∧ 1 ≤ left ∧ 2 ≤ pr ∧ pr ≤ A + 2 ∧ Low pr left ∧ m = left + 1 - pr,
      ⟨_, ks, ds, A, 2, 1, rfl, rfl, by simpa using pd, by simp, hpar, by omega, by omega, low2 A, rfl⟩, ?_⟩
    rintro m ρ M ⟨ks, ds, left, pr, done, rfl, rfl, pd, hd, l1, p2, pA, lo, rfl⟩
    have lA : left ≤ A := Nat.le_of_dvd hpar ⟨done, hd.symm⟩
    have d0 : 0 < done := Nat.pos_of_ne_zero (by rintro rfl; simp at hd; omega)
    walk_at "d"
    refine ite_dec (fun h1 => ?_) (fun h1 => ?_)
    · have hl := lo.le (show 1 < left by omega)
      have pb : (pr : Int).natAbs < 2 ^ 30 := by omega
      refine r_seq (r_via (fun ρ' M' => ∃ p : Nat, pr ≤ p ∧ p ≤ left ∧ Low p left ∧ ρ' = [some (.v (wt ns)), some (.l 0), some (.v (.int n)), some (.v (.int (left : Int))), some (.v (.int (p : Int)))] ∧ M' = [.dic ks ds]) ?_ ?_)
      · walk_at "d"
        refine ⟨mulW pb pb (by decide), ?_⟩
        walk_at "d"
        refine ite_dec (fun h2 => ?_) (fun h2 => ?_)
        · refine r_asg ?_
          walk_at "d"
          exact ⟨left, hl, Nat.le_refl _, lo.big (by omega) (by rw [← Int.natCast_mul] at h2; omega), rfl, rfl⟩
        · walk_at "n"
          exact ⟨pr, Nat.le_refl _, hl, lo, rfl, rfl⟩
      · rintro ρ' M' ⟨p, hp1, hp2, lop, rfl, rfl⟩
        refine r_seq ?_
        refine r_while ⟨fun m ρ M => ∃ (ks : List Key) (ds : List D) (l2 done : Nat), ρ = [some (.v (wt ns)), some (.l 0), some (.v (.int n)), some (.v (.int (l2 : Int))), some (.v (.int (p : Int)))] ∧ M = [.dic ks ds] ∧ Pd ks ds (N0 * done) ∧ l2 * done = A ∧ 1 ≤ l2 ∧ l2 ≤ left ∧ Low p l2 ∧ m = l2,
          ⟨_, ks, ds, left, done, rfl, rfl, pd, hd, l1, Nat.le_refl _, lop, rfl⟩, ?_⟩
        rintro m ρ M ⟨ks, ds, l2, done, rfl, rfl, pd, hd, l1', l2', lop, rfl⟩
        have d0 : 0 < done := Nat.pos_of_ne_zero (by rintro rfl; simp at hd; omega)
        have pz : (0 : Int) < (p : Int) := by omega
        walk_at "d"
        refine ⟨pz, ?_⟩
        walk_at "d"
        refine ite_dec (fun h2 => ?_) (fun h2 => ?_)
        · have hdv : p ∣ m := by
            have := Int.dvd_of_emod_eq_zero h2
            exact Int.natCast_dvd_natCast.mp this
          have hpr := lop.pr (by omega) hdv
          obtain ⟨c, rfl⟩ := hdv
          have c0 : 0 < c := Nat.pos_of_ne_zero (by rintro rfl; simp at l1')
          have ediv : ((p * c : Nat) : Int) / (p : Int) = (c : Int) := by
            rw [Int.natCast_mul, Int.mul_ediv_cancel_left _ (by omega)]
          have plt : c < p * c := by
            have : 1 * c < p * c := Nat.mul_lt_mul_of_pos_right (by omega) c0
            omega
          walk_at "d"
          refine r_asg ?_
          walk_at "d"
          refine ⟨divW (b := 60) pz (by omega) (by decide), ?_⟩
          rw [ediv]
          refine r_dput (kk := 0) rfl rfl ?_
          walk_at "d"
          refine ev_dgetN (ks := ks) (ds := ds) rfl (.l rfl) ?_
          walk_at "d"
          refine ⟨.inl (p : Int), rfl, _, rfl, ?_⟩
          rw [pd.get hpr]
          walk_at "d"
          refine ⟨.inl (p : Int), _, rfl, rfl, by have := pd.few; omega, ?_⟩
          have pd2 := pd.mul hpr (Nat.mul_pos (by omega) d0) (by omega)
          rw [Nat.mul_assoc] at pd2
          exact ⟨c, plt, _, _, c, done * p, rfl, rfl, pd2, by rw [← hd]; grind, c0, by omega, lop.sub ⟨p, by rw [Nat.mul_comm]⟩, rfl⟩
        · walk_at "d"
          have hnd : ¬ p ∣ m := fun z => h2 (Int.emod_eq_zero_of_dvd (Int.natCast_dvd_natCast.mpr z))
          exact ⟨_, by omega, ks, ds, m, p + 1, done, rfl, rfl, pd, hd, l1', by omega, by omega, lop.up hnd, rfl⟩
    · have e1 : left = 1 := by omega
      subst e1
      rw [Nat.one_mul] at hd
      subst hd
      exact ⟨ks, ds, _, _, _, rfl, rfl, by rw [hN]; exact pd⟩
  · rintro ρ M ⟨ks, ds, o2, o3, o4, rfl, rfl, pd⟩
    walk_at "d"
    refine ⟨0, _, rfl, rfl, ks, ds, rfl, ?_⟩
    simpa using pd

end
section
variable {P : Program} {w : World} {K : PySem.W.Frag} {mg : Str → Option Value} {base : Heap} {a : Adr}
/-! ### odd primes, roots -/
abbrev nI (ps : List Nat) : List Int := ps.map fun p : Nat => (p : Int)
theorem nI_mem {ps : List Nat} {p : Nat} : (p : Int) ∈ nI ps ↔ p ∈ ps := by
  constructor
  · intro h
    obtain ⟨q, hq, e⟩ := List.mem_map.mp h
    have : q = p := by omega
    rw [← this]; exact hq
  · exact fun h => List.mem_map.mpr ⟨p, h, rfl⟩
structure Ods (ps : List Nat) (n : Nat) : Prop where
  nd : ps.Nodup
  mem : ∀ p, p ∈ ps ↔ NT.Pr p ∧ NT.vp p n % 2 = 1
theorem Pd.keys {ks : List Key} {ds : List D} {n : Nat} (h : Pd ks ds n) : ∃ ps : List Nat, ks = (ps.map fun p : Nat => (Sum.inl (p : Int) : Key)) ∧ ps.Nodup ∧ (∀ p, p ∈ ps ↔ NT.Pr p ∧ p ∣ n) ∧ ∀ p, p ∈ ps → p ≤ 1000000 := by
  have : ∀ ks : List Key, (∀ k, k ∈ ks → ∃ p : Nat, k = .inl (p : Int)) → ∃ ps : List Nat, ks = ps.map fun p : Nat => (Sum.inl (p : Int) : Key) := by
    intro ks
    induction ks with
    | nil => intro _; exact ⟨[], rfl⟩
    | cons k ks ih =>
      intro hk
      obtain ⟨p, e⟩ := hk k (by simp)
      obtain ⟨ps, e2⟩ := ih fun j hj => hk j (by simp [hj])
      exact ⟨p :: ps, by rw [e, e2]; rfl⟩
  obtain ⟨ps, e⟩ := this ks fun k hk => let ⟨p, e, _⟩ := h.rng k hk; ⟨p, e⟩
  subst e
  refine ⟨ps, rfl, ?_, fun p => ⟨fun hp => ?_, fun ⟨hp, hd⟩ => ?_⟩, fun p hp => ?_⟩
  · have nd := h.nd
    rw [List.Nodup, List.pairwise_map] at nd
    exact nd.imp fun hxy e => hxy (by rw [e])
  · obtain ⟨q, e, hq, hd, _⟩ := h.rng (.inl (p : Int)) (List.mem_map.mpr ⟨p, hp, rfl⟩)
    have : p = q := by have := Sum.inl.inj e; omega
    subst this; exact ⟨hq, hd⟩
  · have v := h.val p hp
    rw [if_pos hd] at v
    have : (Sum.inl (p : Int) : Key) ∈ ps.map fun p : Nat => (Sum.inl (p : Int) : Key) := by
      refine Classical.byContradiction fun z => ?_
      have : ∀ (ks : List Key) (ds : List D) (k : Key), k ∉ ks → kdGet ks ds k = none := by
        intro ks
        induction ks with
        | nil => intro ds k _; rfl
        | cons j ks ih =>
          intro ds k hk
          cases ds with
          | nil => rfl
          | cons d ds =>
            have e1 : kdGet (j :: ks) (d :: ds) k = kdGet ks ds k := by
              have : ¬ j = k := fun y => hk (by rw [y]; simp)
              simp [kdGet, this]
            rw [e1]; exact ih ds k fun y => hk (by simp [y])
      rw [this _ _ _ z] at v; cases v
    obtain ⟨q, hq, e⟩ := List.mem_map.mp this
    have : q = p := by have := Sum.inl.inj e; omega
    rw [← this]; exact hq
  · obtain ⟨q, e, _, _, h6⟩ := h.rng (.inl (p : Int)) (List.mem_map.mpr ⟨p, hp, rfl⟩)
    have := Sum.inl.inj e; omega
def oddf (n p : Nat) : Bool := decide (((NT.vp p n : Nat) : Int) % 2 = 1)
theorem oddf_iff {n p : Nat} : oddf n p = true ↔ NT.vp p n % 2 = 1 := by
  unfold oddf
  rw [decide_eq_true_eq]; omega
theorem ok_odd_primes_of (C : Ctx K mg a) : FnAt P w K mg base CX0 2 "odd_primes_of" ["weight"] (SpP K (fun ns : List Int => [wt ns]) Wt (fun ns d => ∃ ps, d = .lst (D.ints (nI ps)) ∧ Ods ps (nP ns) ∧ ps.length ≤ 1000001)) := by
  refine fn_at C.d_odd_primes_of sc_odd_primes_of (fun _ => rfl) fun f cdv A outer s H E hr => ⟨_, (pss_cons (ps_set (i := 1) sc_odd_primes_of.nd rfl (by first | exact Or.inl rfl | exact Or.inr rfl) (pe_fn (ok_primes_of C) (hr.mono (by omega)) rfl (pa_cons (pv 0) pa_nil)))
    (pss_one (ps_ret (pe_lock (pe_lc (own := [("prime", 2)]) (g := (gName 2)) (tt := _) rfl sc_odd_primes_of.nd (pi_keys (pv 1)) (blkOk_by (N := n_odd_primes_of) (sc := defScope s_odd_primes_of) (by decide +kernel)) (fun _ _ _ _ _ => (pg_name (i := 2) sc_odd_primes_of.nd rfl (by first | exact Or.inl rfl | exact Or.inr rfl))) (fun _ _ _ _ _ => (pts_one (pt_cmpR (op_gEq (K := K) (by exact hr.units)) (pe_op op_gMod (pe_dget (hu_of hr) (pv 1) (pv 2) (fun _ _ => rfl)) pe_int) pe_int (nomark _)))) (fun _ _ _ _ _ => (pv 2))))))), fun ns e hp he => ?_⟩
  have hp : Wt ns := hp
  dsimp only [cxOf]
  refine r_seq (r_asgN (en_callN ?_))
  walk_at "d"
  refine ⟨ns, rfl, hp, ?_⟩
  rintro m ⟨ks, ds, rfl, pd⟩
  walk_at "d"
  refine ev_lock (j := 1) (k := 0) rfl rfl fun d od kvs => ?_
  have few := pd.few
  obtain ⟨ps, rfl, nd, hm, h6⟩ := pd.keys
  refine ev_lcS (ei_keys (j := 1) rfl rfl ?_)
  refine ⟨by simp at few ⊢; omega, fun i acc => acc = D.ints (nI ((ps.take i).filter (oddf (nP ns)))), rfl, ?_, ?_⟩
  · rintro i d acc hi rfl
    obtain ⟨k, hk, rfl⟩ := map_get hi
    obtain ⟨p, hpi, rfl⟩ := map_get hk
    obtain ⟨hpr, hdv⟩ := (hm p).mp (List.mem_of_getElem? hpi)
    have vv := pd.val p hpr
    rw [if_pos hdv] at vv
    have hf : (ps.take (i + 1)).filter (oddf (nP ns)) = (ps.take i).filter (oddf (nP ns)) ++ (if oddf (nP ns) p = true then [p] else []) := by
      rw [take_snoc hpi, List.filter_append]
      simp only [List.filter_cons, List.filter_nil]
    walk_at "d"
    refine ev_dget ?_
    walk_at "d"
    refine ⟨_, _, .inl (p : Int), _, .z rfl, rfl, vv, ?_⟩
    walk_at "d"
    refine ite_b (fun h => ?_) (fun h => ?_)
    · walk_at "d"
      refine ⟨_, rfl, ?_⟩
      have h : oddf (nP ns) p = true := h
      show D.ints (nI ((ps.take i).filter (oddf (nP ns)))) ++ [D.int (p : Int)] = D.ints (nI ((ps.take (i + 1)).filter (oddf (nP ns))))
      rw [hf, if_pos h]; simp [D.ints, nI]
    · have h : oddf (nP ns) p = false := h
      show D.ints (nI ((ps.take i).filter (oddf (nP ns)))) = D.ints (nI ((ps.take (i + 1)).filter (oddf (nP ns))))
      rw [hf, if_neg (by rw [h]; decide)]; simp
  · rintro acc rfl
    refine ret_v ⟨ps.filter (oddf (nP ns)), ?_, ⟨nd.filter _, fun p => ?_⟩, ?_⟩
    · simp
    · rw [List.mem_filter, hm, oddf_iff]
      constructor
      · rintro ⟨⟨a, _⟩, b⟩; exact ⟨a, b⟩
      · rintro ⟨a, b⟩; exact ⟨⟨a, (NT.vp_pos a.1 hp.pos).mpr (by omega)⟩, b⟩
    · have := List.length_filter_le (oddf (nP ns)) ps
      rw [List.length_map] at few; omega
theorem ok_root_of (C : Ctx K mg a) : FnAt P w K mg base CX0 2 "root_of" ["weight"] (SpP K (fun ns : List Int => [wt ns]) Wt (fun ns d => ∃ r : Nat, d = .int (r : Int) ∧ 0 < r ∧ ∀ q, NT.Pr q → NT.vp q r = NT.vp q (nP ns) / 2)) := by
  refine fn_at C.d_root_of sc_root_of (fun _ => rfl) fun f cdv A outer s H E hr => ⟨_, (pss_cons (ps_set (i := 1) sc_root_of.nd rfl (by first | exact Or.inl rfl | exact Or.inr rfl) (pe_fn (ok_primes_of C) (hr.mono (by omega)) rfl (pa_cons (pv 0) pa_nil)))
    (pss_cons (ps_set (i := 2) sc_root_of.nd rfl (by first | exact Or.inl rfl | exact Or.inr rfl) pe_int)
    (pss_cons (ps_lock (ps_for PassesOwn.never rfl (pi_keys (pv 1)) (pg_name (i := 3) sc_root_of.nd rfl (by first | exact Or.inl rfl | exact Or.inr rfl))
    (pss_one (ps_for PassesOwn.never rfl (pi_range1 rfl C.B.range (pa_cons (pe_op op_gDiv (pe_dget (hu_of hr) (pv 1) (pv 3) (fun _ _ => rfl)) pe_int) pa_nil)) (pg_name (i := 4) sc_root_of.nd rfl (by first | exact Or.inl rfl | exact Or.inr rfl))
    (pss_one (ps_set (i := 2) sc_root_of.nd rfl (by first | exact Or.inl rfl | exact Or.inr rfl) (pe_op (op_gMul (K := K)) (pv 2) (pv 3))))))))
    (pss_one (ps_ret (pv 2)))))), fun ns e hp he => ?_⟩
  have hp : Wt ns := hp
  have hpos := hp.pos
  dsimp only [cxOf]
  refine r_seq (r_asgN (en_callN ?_))
  walk_at "d"
  refine ⟨ns, rfl, hp, ?_⟩
  rintro m ⟨ks, ds, rfl, pd⟩
  walk_at "d"
  refine r_asg ?_
  walk_at "d"
  refine r_lock (j := 1) (k := 0) rfl rfl fun d od kvs => ?_
  obtain ⟨ps, rfl, nd, hm, h6⟩ := pd.keys
  refine r_forK (j := 1) (k := 0) [3] rfl rfl ⟨fun i ρ M => ∃ (f : Nat) (o3 o4 : Option Sl), ρ = [some (.v (wt ns)), some (.l 0), some (.v (.int (f : Int))), o3, o4] ∧ M = [.frz d od kvs (ps.map fun p : Nat => (Sum.inl (p : Int) : Key)) ds] ∧ 0 < f ∧ ∀ q, NT.Pr q → NT.vp q f = if q ∈ ps.take i then NT.vp q (nP ns) / 2 else 0,
    ⟨1, none, none, rfl, rfl, by decide, fun q hq => by simp [NT.vp_one hq]⟩, ?_, ?_⟩
  · rintro i key ρ M hi ⟨f, o3, o4, rfl, rfl, f0, fv⟩ hk
    obtain ⟨p, hpi, rfl⟩ := map_get hi
    obtain ⟨hpr, hdv⟩ := (hm p).mp (List.mem_of_getElem? hpi)
    have vv := pd.val p hpr
    rw [if_pos hdv] at vv
    have p6 := h6 p (List.mem_of_getElem? hpi)
    have hnot : p ∉ ps.take i := fun z => by
      obtain ⟨j, hj, e⟩ := List.getElem_of_mem z
      rw [List.length_take] at hj
      have hij := (List.getElem?_eq_some_iff.mp hpi)
      obtain ⟨hl, e2⟩ := hij
      rw [List.getElem_take] at e
      have := (List.pairwise_iff_getElem.mp nd) j i (by omega) hl (by omega)
      exact this (by rw [e, e2])
    generalize hv : NT.vp p (nP ns) = v at *
    have v1 : v ≤ 899 := by
      have h1 := Nat.le_of_dvd hpos (NT.dvd_pow_vp hpr.1 hpos)
      rw [hv] at h1
      have h2 : 2 ^ v ≤ p ^ v := Nat.pow_le_pow_left hpr.1 v
      have h3 : nP ns < 2 ^ 900 := hp.bit
      refine Classical.byContradiction fun z => ?_
      exact absurd h3 (Nat.not_lt.mpr (Nat.le_trans (Nat.pow_le_pow_right (by decide) (by omega)) (Nat.le_trans h2 h1)))
    refine eg_name ?_
    refine r_for [4] ?_
    refine ei_range1 ?_
    walk_at "d"
    refine ev_dget ?_
    walk_at "d"
    refine ⟨_, _, .inl (p : Int), _, .z rfl, rfl, vv, ?_⟩
    walk_at "d"
    refine ⟨_, rfl, by omega, by omega, fun j ρ M => ∃ (f : Nat) (o4 : Option Sl), ρ = [some (.v (wt ns)), some (.l 0), some (.v (.int (f : Int))), some (.v (.int (p : Int))), o4] ∧ M = [.frz d od kvs (ps.map fun p : Nat => (Sum.inl (p : Int) : Key)) ds] ∧ 0 < f ∧ ∀ q, NT.Pr q → NT.vp q f = if q = p then j else if q ∈ ps.take i then NT.vp q (nP ns) / 2 else 0,
      ⟨f, _, rfl, rfl, f0, fun q hq => ?_⟩, ?_, ?_⟩
    · rw [fv q hq]
      by_cases e : q = p
      · subst e; rw [if_pos rfl, if_neg hnot]
      · rw [if_neg e]
    · rintro j d' ρ M hj ⟨f, o4, rfl, rfl, f0, fv⟩
      obtain ⟨hjl, rfl⟩ := rangeD_get hj
      have fb : ((f : Nat) : Int).natAbs < 2 ^ 900 := by
        have : f ∣ nP ns := NT.dvd_of_vp f _ f0 hpos fun q hq => by
          rw [fv q hq]
          by_cases e : q = p
          · subst e; rw [if_pos rfl]; omega
          · rw [if_neg e]; split <;> omega
        have h1 := Nat.le_of_dvd hpos this
        have h2 := hp.bit
        exact Nat.lt_of_le_of_lt h1 h2
      walk_at "d"
      refine r_asg ?_
      walk_at "d"
      refine ⟨mulW fb (lit_bit (b := 60) (by omega) (by decide)) (by decide), f * p, _, by rw [Int.natCast_mul]; rfl, rfl, Nat.mul_pos f0 hpr.pos, fun q hq => ?_⟩
      rw [NT.vp_mul hq f0 hpr.pos, fv q hq]
      by_cases e : q = p
      · subst e; rw [if_pos rfl, if_pos rfl, NT.vp_self hq]
      · rw [if_neg e, if_neg e, NT.vp_other hq hpr e]; simp
    · rintro ρ M ⟨f, o4, rfl, rfl, f0, fv⟩
      refine ⟨rfl, f, _, _, rfl, rfl, f0, fun q hq => ?_⟩
      have hl : (rangeD 0 (((v : Nat) : Int) / 2).toNat).length = v / 2 := by rw [rangeD_len]; omega
      rw [hl] at fv
      rw [fv q hq, take_snoc hpi]
      by_cases e : q = p
      · subst e; rw [if_pos rfl, if_pos (by simp), hv]
      · rw [if_neg e]; simp [e]
  · rintro ρ M ⟨f, o3, o4, rfl, rfl, f0, fv⟩ hk
    refine ⟨rfl, ?_⟩
    walk_at "d"
    refine ret_v ⟨f, rfl, f0, fun q hq => ?_⟩
    rw [fv q hq, List.length_map, List.take_length]
    by_cases z : q ∈ ps
    · rw [if_pos z]
    · rw [if_neg z, NT.vp_no fun d => z ((hm q).mpr ⟨hq, d⟩)]

end
section
variable {P : Program} {w : World} {K : PySem.W.Frag} {mg : Str → Option Value} {base : Heap} {a : Adr}
/-! ### normal weights -/
def ob (n p : Nat) : Bool := decide (NT.vp p n % 2 = 1)
def brb (a b c p : Nat) : Bool := (ob b p == ob c p) && (ob a p != ob b p)
def upb (a b c p : Nat) : Bool := !ob a p && ob b p && ob c p
structure Bars (a b c : Nat) (bs : List Nat) : Prop where
  asc : bs.Pairwise (· < ·)
  mem : ∀ p, p ∈ bs ↔ NT.Pr p ∧ brb a b c p = true
def UpOk (a b c u : Nat) : Prop := 0 < u ∧ ∀ q, NT.Pr q → NT.vp q u = if upb a b c q = true then 1 else 0
def RtOk (n r : Nat) : Prop := 0 < r ∧ ∀ q, NT.Pr q → NT.vp q r = NT.vp q n / 2
structure Nm (v0 v1 v2 : List Int) (B0 B1 B2 : List Nat) (u0 u1 u2 r0 r1 r2 : Nat) : Prop where
  b0 : Bars (nP v0) (nP v1) (nP v2) B0
  b1 : Bars (nP v1) (nP v0) (nP v2) B1
  b2 : Bars (nP v2) (nP v0) (nP v1) B2
  u0 : UpOk (nP v0) (nP v1) (nP v2) u0
  u1 : UpOk (nP v1) (nP v0) (nP v2) u1
  u2 : UpOk (nP v2) (nP v0) (nP v1) u2
  r0 : RtOk (nP v0) r0
  r1 : RtOk (nP v1) r1
  r2 : RtOk (nP v2) r2
abbrev lI (ps : List Nat) : D := .lst (D.ints (nI ps))
/-- what a Normal holds -/
def NmD (v0 v1 v2 : List Int) (ds : List D) : Prop := ∃ B0 B1 B2 u0 u1 u2 r0 r1 r2, Nm v0 v1 v2 B0 B1 B2 u0 u1 u2 r0 r1 r2 ∧
  ds = [.lst [lI B0, lI B1, lI B2], lI [u0, u1, u2], lI [r0, r1, r2], .lst (D.ints [sgn (prodL v0), sgn (prodL v1), sgn (prodL v2)])]
theorem Ods.few {ps : List Nat} {n : Nat} (h : Ods ps n) (hn : 0 < n) (hb : n < 2 ^ 900) : ps.length ≤ 900 := by
  have h1 := Nat.le_of_dvd hn (NT.prod_dvd hn ps h.nd fun p hp => ⟨((h.mem p).mp hp).1, (NT.vp_pos ((h.mem p).mp hp).1.1 hn).mpr (by have := ((h.mem p).mp hp).2; omega)⟩)
  have h2 := NT.two_pow_le ps fun p hp => ((h.mem p).mp hp).1.1
  refine Classical.byContradiction fun z => ?_
  exact absurd hb (Nat.not_lt.mpr (Nat.le_trans (Nat.pow_le_pow_right (by decide) (by omega)) (Nat.le_trans h2 h1)))
theorem Wt.le30 {ns : List Int} (h : Wt ns) : nP ns ≤ 10 ^ 30 := by
  have : ∀ (ns : List Int) (m : Nat) (a : Int), (∀ n, n ∈ ns → n.natAbs ≤ 10 ^ 6) → a.natAbs ≤ 10 ^ m → (ns.foldl (· * ·) a).natAbs ≤ 10 ^ (6 * ns.length + m) := by
    intro ns
    induction ns with
    | nil => intro m a _ ha; simpa using ha
    | cons n ns ih =>
      intro m a hh ha
      have hn := hh n List.mem_cons_self
      have := ih (m + 6) (a * n) (fun k hk => hh k (List.mem_cons_of_mem _ hk)) (by
        rw [Int.natAbs_mul, Nat.pow_add]
        exact Nat.mul_le_mul ha hn)
      rw [List.foldl_cons, List.length_cons]
      exact Nat.le_trans this (Nat.pow_le_pow_right (by decide) (by omega))
  have := this ns 0 1 (fun n hn => (h.p n hn).2) (by decide)
  exact Nat.le_trans this (Nat.pow_le_pow_right (by decide) (by have := h.hi; omega))
theorem pr_le {v : List Int} (h : Wt v) {p : Nat} (hp : NT.Pr p) (d : p ∣ nP v) : p ≤ 1000000 := by
  have : ∀ (ns : List Int) (a : Int), p ∣ (ns.foldl (· * ·) a).natAbs → p ∣ a.natAbs ∨ ∃ n, n ∈ ns ∧ p ∣ n.natAbs := by
    intro ns
    induction ns with
    | nil => intro a h; exact .inl h
    | cons n ns ih =>
      intro a h
      rcases ih (a * n) h with z | ⟨k, hk, z⟩
      · rw [Int.natAbs_mul] at z
        rcases hp.dvd_mul z with z | z
        · exact .inl z
        · exact .inr ⟨n, by simp, z⟩
      · exact .inr ⟨k, by simp [hk], z⟩
  rcases this v 1 d with z | ⟨k, hk, z⟩
  · exact absurd z hp.one
  · have := h.p k hk
    have := Nat.le_of_dvd (by omega) z
    omega
theorem mem_few {v0 v1 v2 : List Int} (h0 : Wt v0) (h1 : Wt v1) (h2 : Wt v2) {s0 s1 s2 : List Nat} (o0 : Ods s0 (nP v0)) (o1 : Ods s1 (nP v1)) (o2 : Ods s2 (nP v2)) {ms : List Int} (hm : Mems (nI s0 ++ nI s1 ++ nI s2) ms) : ms.length < 64 := by
  have hms : ∀ k, k ∈ ms → 0 ≤ k := fun k hk => by
    have := (hm.2 k).mp hk
    simp only [List.mem_append] at this
    rcases this with (h | h) | h <;> (obtain ⟨q, _, e⟩ := List.mem_map.mp h; omega)
  have hb : nP v0 * nP v1 * nP v2 ≤ 10 ^ 90 := by
    have := Nat.mul_le_mul (Nat.mul_le_mul h0.le30 h1.le30) h2.le30
    exact Nat.le_trans this (by decide)
  have p0 := h0.pos
  have p1 := h1.pos
  have p2 := h2.pos
  have := NT.few_primes (Nat.mul_pos (Nat.mul_pos p0 p1) p2) hb (ms.map Int.toNat) (by
    rw [List.Nodup, List.pairwise_map]
    exact List.Pairwise.imp_of_mem (fun {x y} hx hy hxy e => hxy (by have := hms x hx; have := hms y hy; omega)) hm.1) (fun p hp => by
    obtain ⟨k, hk, rfl⟩ := List.mem_map.mp hp
    have hk0 := hms k hk
    have := (hm.2 k).mp hk
    simp only [List.mem_append] at this
    have ek : ((k.toNat : Nat) : Int) = k := Int.toNat_of_nonneg hk0
    rcases this with (h | h) | h
    · rw [← ek, nI_mem] at h
      have ⟨a, b⟩ := (o0.mem _).mp h
      exact ⟨a, Nat.dvd_mul_right_of_dvd (Nat.dvd_mul_right_of_dvd ((NT.vp_pos a.1 p0).mpr (by omega)) _) _⟩
    · rw [← ek, nI_mem] at h
      have ⟨a, b⟩ := (o1.mem _).mp h
      exact ⟨a, Nat.dvd_mul_right_of_dvd (Nat.dvd_mul_left_of_dvd ((NT.vp_pos a.1 p1).mpr (by omega)) _) _⟩
    · rw [← ek, nI_mem] at h
      have ⟨a, b⟩ := (o2.mem _).mp h
      exact ⟨a, Nat.dvd_mul_left_of_dvd ((NT.vp_pos a.1 p2).mpr (by omega)) _⟩)
  rwa [List.length_map] at this
theorem asc_nat {ms : List Int} (h0 : ∀ k, k ∈ ms → 0 ≤ k) (h : ms.Pairwise (· < ·)) : ∃ ps : List Nat, ms = nI ps ∧ ps.Pairwise (· < ·) := by
  refine ⟨ms.map Int.toNat, ?_, ?_⟩
  · rw [nI, List.map_map]
    have : ms = ms.map id := by simp
    conv => lhs; rw [this]
    exact List.map_congr_left fun k hk => (Int.toNat_of_nonneg (h0 k hk)).symm
  · rw [List.pairwise_map]
    exact List.Pairwise.imp_of_mem (fun {x y} hx hy hxy => by have := h0 x hx; have := h0 y hy; omega) h
theorem ints_app {a b : List Int} : D.ints a ++ D.ints b = D.ints (a ++ b) := by simp [D.ints]
def hasL (b0 b1 b2 : Bool) (i : Nat) : List Int := (if 0 < i ∧ b0 = true then [0] else []) ++ (if 1 < i ∧ b1 = true then [1] else []) ++ (if 2 < i ∧ b2 = true then [2] else [])
theorem ok_Normal (C : Ctx K mg a) : MkAt P w K mg base 4 "Normal" a.Normal ["self", "rows"] (SpI K a.Normal (fun x : List Int × List Int × List Int => [.tup [wt x.1, wt x.2.1, wt x.2.2]]) (fun x => Wt x.1 ∧ Wt x.2.1 ∧ Wt x.2.2) ["bare", "ups", "downs", "signs"] (fun x ds => NmD x.1 x.2.1 x.2.2 ds)) := by
  obtain ⟨f, fd, hM, hF, hB⟩ := C.i_Normal.ex
  refine mk_at C.m_Normal hM hF hB sc_Normal___init__ (fun _ => rfl) fun f cdv A outer s H E hr => ⟨_, (pss_cons (ps_set (i := 2) sc_Normal___init__.nd rfl (by first | exact Or.inl rfl | exact Or.inr rfl) (pe_lc (own := [("weight", 5)]) (g := (gName 5)) (tt := tYes) rfl sc_Normal___init__.nd (pi_seq (K := K) (pv 1)) (blkOk_by (N := n_Normal___init__) (sc := defScope s_Normal___init__) (by decide +kernel)) (fun _ _ _ _ _ => (pg_name (i := 5) sc_Normal___init__.nd rfl (by first | exact Or.inl rfl | exact Or.inr rfl))) (fun _ _ _ _ _ => pts_nil) (fun _ _ _ _ _ => (pe_fn (ok_odd_primes_of C) (hr.mono (by omega)) rfl (pa_cons (pv 5) pa_nil)))))
    (pss_cons (ps_fld (pv 0) (pe_lst (pa_cons (pe_lst pa_nil) (pa_cons (pe_lst pa_nil) (pa_cons (pe_lst pa_nil) pa_nil)))) rfl)
    (pss_cons (ps_fld (pv 0) (pe_lst (pa_cons pe_int (pa_cons pe_int (pa_cons pe_int pa_nil)))) rfl)
    (pss_cons (ps_fld (pv 0) (pe_lc (own := [("weight", 5)]) (g := (gName 5)) (tt := tYes) rfl sc_Normal___init__.nd (pi_seq (K := K) (pv 1)) (blkOk_by (N := n_Normal___init__) (sc := defScope s_Normal___init__) (by decide +kernel)) (fun _ _ _ _ _ => (pg_name (i := 5) sc_Normal___init__.nd rfl (by first | exact Or.inl rfl | exact Or.inr rfl))) (fun _ _ _ _ _ => pts_nil) (fun _ _ _ _ _ => (pe_fn (ok_root_of C) (hr.mono (by omega)) rfl (pa_cons (pv 5) pa_nil)))) rfl)
    (pss_cons (ps_for PassesOwn.never rfl (pi_seq (K := K) (pe_sortSet (K := K) rfl C.B.sorted C.B.set rfl rfl (pe_op (op_gAdd (K := K)) (pe_op (op_gAdd (K := K)) (pe_ix (ix_any (K := K)) (pv 2) pe_int (fun _ _ => rfl)) (pe_ix (ix_any (K := K)) (pv 2) pe_int (fun _ _ => rfl))) (pe_ix (ix_any (K := K)) (pv 2) pe_int (fun _ _ => rfl))))) (pg_name (i := 3) sc_Normal___init__.nd rfl (by first | exact Or.inl rfl | exact Or.inr rfl))
    (pss_cons (ps_setLc (i := 4) (own := [("at", 6)]) (g := (gName 6)) (tt := _) rfl sc_Normal___init__.nd rfl rfl (sw_true rfl rfl rfl (by decide +kernel)) (pi_range1 rfl C.B.range (pa_cons pe_int pa_nil)) (blkOk_by (N := n_Normal___init__) (sc := defScope s_Normal___init__) (by decide +kernel)) (fun _ _ _ _ _ => (pg_name (i := 6) sc_Normal___init__.nd rfl (by first | exact Or.inl rfl | exact Or.inr rfl))) (fun _ _ _ _ _ => (pts_one (pt_cmpR (op_gIn (K := K) (by exact units65 hr)) (pv 3) (pe_ix (ix_any (K := K)) (pv 2) (pv 6) (fun _ _ => rfl)) rfl))) (fun _ _ _ _ _ => (pv 6)))
    (pss_one (ps_if (pt_cmpR (op_gEq (K := K) (by exact hr.units)) (pe_len (K := K) C.B.len rfl (pa_cons (pv 4) pa_nil)) pe_int (nomark _))
    (pss_one (ps_expr (pe_bm PySem.F.plainAttrs_list PySem.F.slot_list_append PySem.F.type_list_append mt_append (pe_ix (ix_any (K := K)) (pe_at (K := K) (pv 0)) (pe_ix (ix_any (K := K)) (pv 4) pe_int (fun _ _ => rfl)) (fun _ _ => rfl)) (pa_cons (pv 3) pa_nil))))
    (pss_one (ps_if (pt_cmpR (op_gEq (K := K) (by exact hr.units)) (pe_len (K := K) C.B.len rfl (pa_cons (pv 4) pa_nil)) pe_int (nomark _))
    (pss_cons (ps_set (i := 7) sc_Normal___init__.nd rfl (by first | exact Or.inl rfl | exact Or.inr rfl) (pe_op op_gSub (pe_op op_gSub pe_int (pe_ix (ix_any (K := K)) (pv 4) pe_int (fun _ _ => rfl))) (pe_ix (ix_any (K := K)) (pv 4) pe_int (fun _ _ => rfl))))
    (pss_cons (ps_expr (pe_bm PySem.F.plainAttrs_list PySem.F.slot_list_append PySem.F.type_list_append mt_append (pe_ix (ix_any (K := K)) (pe_at (K := K) (pv 0)) (pv 7) (fun _ _ => rfl)) (pa_cons (pv 3) pa_nil)))
    (pss_one (ps_asg (pe_op (op_gMul (K := K)) (pe_ix (ix_any (K := K)) (pe_at (K := K) (pv 0)) (pv 7) (fun _ _ => rfl)) (pv 3)) (pg_sub (pe_at (K := K) (pv 0)) (pv 7) set_list)))))
    pss_nil))))))
    (pss_one (ps_fld (pv 0) (pe_lc (own := [("weight", 5)]) (g := (gName 5)) (tt := tYes) rfl sc_Normal___init__.nd (pi_seq (K := K) (pv 1)) (blkOk_by (N := n_Normal___init__) (sc := defScope s_Normal___init__) (by decide +kernel)) (fun _ _ _ _ _ => (pg_name (i := 5) sc_Normal___init__.nd rfl (by first | exact Or.inl rfl | exact Or.inr rfl))) (fun _ _ _ _ _ => pts_nil) (fun _ _ _ _ _ => (pe_fn (ok_sign_of C) (hr.mono (by omega)) rfl (pa_cons (pv 5) pa_nil)))) rfl))))))), fun x e hp he => ?_⟩
  obtain ⟨v0, v1, v2⟩ := x
  obtain ⟨w0, w1, w2⟩ := hp
  have w0 : Wt v0 := w0
  have w1 : Wt v1 := w1
  have w2 : Wt v2 := w2
  have he : e.α.length = 1 := he
  dsimp only [cxOf]
  -- sets
  refine r_seq (r_asg ?_)
  refine ev_lcR (fun d d' => ∃ v ps, d = wt v ∧ d' = lI ps ∧ Ods ps (nP v)) (ei_seqT ?_)
  walk_at "d"
  refine ⟨_, rfl, le_lit rfl, fun i d hi => ?_, ?_⟩
  · have : ∃ v, Wt v ∧ d = wt v := by
      match i, hi with
      | 0, hi => exact ⟨v0, w0, (Option.some.inj hi).symm⟩
      | 1, hi => exact ⟨v1, w1, (Option.some.inj hi).symm⟩
      | 2, hi => exact ⟨v2, w2, (Option.some.inj hi).symm⟩
    obtain ⟨v, hv, rfl⟩ := this
    walk_at "d"
    exact ⟨v, rfl, hv, fun d ⟨ps, e, o, _⟩ => ⟨_, rfl, v, ps, rfl, e, o⟩⟩
  rintro ds ⟨_, _, rfl, ⟨x0, s0, e0, rfl, o0⟩, _, _, rfl, ⟨x1, s1, e1, rfl, o1⟩, _, _, rfl, ⟨x2, s2, e2, rfl, o2⟩, hnil⟩
  have hnil : _ = [] := hnil
  subst hnil
  have inj : ∀ {v x : List Int}, wt v = wt x → v = x := fun {v x} h => by
    have h := D.tup.inj h
    have : ∀ (v x : List Int), D.ints v = D.ints x → v = x := by
      intro v
      induction v with
      | nil => intro x h; cases x with
        | nil => rfl
        | cons _ _ => cases h
      | cons n v ih => intro x h; cases x with
        | nil => cases h
        | cons m x =>
          have := List.cons.inj h
          rw [ih x this.2]
          have : n = m := by have := this.1; cases this; rfl
          rw [this]
    exact this v x h
  cases inj e0; cases inj e1; cases inj e2
  -- self.bare, self.ups
  refine r_seq (r_fldN C.k_Normal.cl C.n_Normal_bare rfl ?_)
  refine en_pin ?_
  refine ena_cons (en_pin (ena_nil ?_))
  refine ⟨[], rfl, le_lit rfl, fun a0 => ?_⟩
  refine ena_cons (en_pin (ena_nil ?_))
  refine ⟨[], rfl, le_lit rfl, fun a1 => ?_⟩
  refine ena_cons (en_pin (ena_nil ?_))
  refine ⟨[], rfl, le_lit rfl, fun a2 => ?_⟩
  refine ena_nil ?_
  refine ⟨[.raw (.ref a0), .raw (.ref a1), .raw (.ref a2)], rfl, le_lit rfl, fun ab => ?_⟩
  refine ⟨_, [], [], rfl, rfl, by decide, ?_⟩
  refine r_seq (r_fldN C.k_Normal.cl C.n_Normal_ups rfl ?_)
  refine en_pin ?_
  refine ena_cons (en_ev (ev_c (ena_cons (en_ev (ev_c (ena_cons (en_ev (ev_c (ena_nil ?_)))))))))
  refine ⟨[.int 1, .int 1, .int 1], rfl, le_lit rfl, fun au => ?_⟩
  refine ⟨_, _, _, rfl, rfl, le_lit rfl, ?_⟩
  -- self.downs
  refine r_seq (r_fld C.k_Normal.cl C.n_Normal_downs rfl rfl (le_lit rfl) ?_)
  refine ev_lcR (fun d d' => ∃ v, ∃ r : Nat, d = wt v ∧ d' = .int (r : Int) ∧ RtOk (nP v) r) (ei_seqT ?_)
  walk_at "d"
  refine ⟨_, rfl, le_lit rfl, fun i d hi => ?_, ?_⟩
  · have : ∃ v, Wt v ∧ d = wt v := by
      match i, hi with
      | 0, hi => exact ⟨v0, w0, (Option.some.inj hi).symm⟩
      | 1, hi => exact ⟨v1, w1, (Option.some.inj hi).symm⟩
      | 2, hi => exact ⟨v2, w2, (Option.some.inj hi).symm⟩
    obtain ⟨v, hv, rfl⟩ := this
    walk_at "d"
    exact ⟨v, rfl, hv, fun d ⟨r, e, o⟩ => ⟨_, rfl, v, r, rfl, e, o⟩⟩
  rintro ds ⟨_, _, rfl, ⟨x0, r0, e0, rfl, q0⟩, _, _, rfl, ⟨x1, r1, e1, rfl, q1⟩, _, _, rfl, ⟨x2, r2, e2, rfl, q2⟩, hnil⟩
  have hnil : _ = [] := hnil
  subst hnil
  cases inj e0; cases inj e1; cases inj e2
  refine ⟨_, rfl, ?_⟩
  -- the walk over the primes
  refine r_seq ?_
  refine r_for [3] ?_
  refine ei_seqL ?_
  refine ev_sortSet ?_
  walk_at "d"
  refine ⟨_, rfl, ?_⟩
  walk_at "d"
  refine ⟨_, rfl, ?_⟩
  have l0 := o0.few w0.pos w0.bit
  have l1 := o1.few w1.pos w1.bit
  have l2 := o2.few w2.pos w2.bit
  refine g_addL .v .v (by simp only [D.ints, nI, List.length_map]; omega) ?_
  walk_at "d"
  refine ⟨_, rfl, ?_⟩
  refine g_addL .v .v (by simp only [D.ints, nI, List.length_map, List.length_append]; omega) ?_
  rw [ints_app, ints_app]
  refine ⟨_, .v, by simp only [nI, List.length_map, List.length_append]; omega, fun ms hm => mem_few w0 w1 w2 o0 o1 o2 hm, fun ms asc hmem => ?_⟩
  obtain ⟨ps, rfl, pasc⟩ := asc_nat (fun k hk => by
    have := (hmem k).mp hk
    simp only [List.mem_append] at this
    rcases this with (h | h) | h <;> (obtain ⟨q, _, e⟩ := List.mem_map.mp h; omega)) asc
  have pm : ∀ p, p ∈ ps ↔ NT.Pr p ∧ (ob (nP v0) p = true ∨ ob (nP v1) p = true ∨ ob (nP v2) p = true) := fun p => by
    rw [← nI_mem, hmem, List.mem_append, List.mem_append, nI_mem, nI_mem, nI_mem, o0.mem, o1.mem, o2.mem]
    simp only [ob, decide_eq_true_eq]
    constructor
    · rintro ((⟨a, b⟩ | ⟨a, b⟩) | ⟨a, b⟩)
      · exact ⟨a, .inl b⟩
      · exact ⟨a, .inr (.inl b)⟩
      · exact ⟨a, .inr (.inr b)⟩
    · rintro ⟨a, b | b | b⟩
      · exact .inl (.inl ⟨a, b⟩)
      · exact .inl (.inr ⟨a, b⟩)
      · exact .inr ⟨a, b⟩
  have plen : ps.length < 64 := by
    have := mem_few w0 w1 w2 o0 o1 o2 (ms := nI ps) ⟨asc.imp fun h => by omega, hmem⟩
    simpa using this
  refine ⟨_, rfl, fun i ρ M => ∃ (o3 o4 o5 o6 o7 : Option Sl), ρ = [some (.l 0), some (.v (.tup [wt v0, wt v1, wt v2])), some (.v (.lst [lI s0, lI s1, lI s2])), o3, o4, o5, o6, o7] ∧
    M = [.ins a.Normal ["bare", "ups", "downs"] [.raw (.ref ab), .raw (.ref au), lI [r0, r1, r2]], .pin a0 (D.ints (nI ((ps.take i).filter (brb (nP v0) (nP v1) (nP v2))))), .pin a1 (D.ints (nI ((ps.take i).filter (brb (nP v1) (nP v0) (nP v2))))), .pin a2 (D.ints (nI ((ps.take i).filter (brb (nP v2) (nP v0) (nP v1))))),
      .pin ab [.raw (.ref a0), .raw (.ref a1), .raw (.ref a2)], .pin au (D.ints (nI [((ps.take i).filter (upb (nP v0) (nP v1) (nP v2))).prod, ((ps.take i).filter (upb (nP v1) (nP v0) (nP v2))).prod, ((ps.take i).filter (upb (nP v2) (nP v0) (nP v1))).prod]))],
    ⟨_, _, _, _, _, rfl, rfl⟩, ?_, ?_⟩
  · rintro i d ρ M hi ⟨o3, o4, o5, o6, o7, rfl, rfl⟩
    obtain ⟨k, hk, rfl⟩ := ints_get hi
    obtain ⟨p, hpi, rfl⟩ := map_get hk
    obtain ⟨hpr, hodd⟩ := (pm p).mp (List.mem_of_getElem? hpi)
    have fs : ∀ f : Nat → Bool, (ps.take (i + 1)).filter f = (ps.take i).filter f ++ (if f p = true then [p] else []) := fun f => by
      rw [take_snoc hpi, List.filter_append]
      simp only [List.filter_cons, List.filter_nil]
    have small : ∀ f : Nat → Bool, (D.ints (nI ((ps.take i).filter f))).length < 16777216 := fun f => by
      have := List.length_filter_le f (ps.take i)
      simp only [D.ints, nI, List.length_map]
      rw [List.length_take] at this
      omega
    have mb : ∀ {s : List Nat} {n : Nat}, Ods s n → decide ((p : Int) ∈ nI s) = ob n p := fun {s n} o => by
      rw [ob]
      refine decide_eq_decide.mpr ?_
      rw [nI_mem, o.mem]
      exact ⟨fun h => h.2, fun h => ⟨hpr, h⟩⟩
    -- a divisor's bounds
    have upBit : ∀ (f : Nat → Bool) (n : Nat), 0 < n → n < 2 ^ 900 → (∀ q, f q = true → ob n q = true) → ((((ps.take i).filter f).prod : Nat) : Int).natAbs < 2 ^ 900 := fun f n hn hb hf => by
      have := Nat.le_of_dvd hn (NT.prod_dvd hn ((ps.take i).filter f) (((NT.asc_nodup pasc).sublist (List.take_sublist i ps)).filter f) fun q hq => by
        obtain ⟨q1, q2⟩ := List.mem_filter.mp hq
        have q3 := ((pm q).mp (List.mem_of_mem_take q1)).1
        have q4 := hf q q2
        exact ⟨q3, (NT.vp_pos q3.1 hn).mpr (by rw [ob, decide_eq_true_eq] at q4; omega)⟩)
      exact Nat.lt_of_le_of_lt this hb
    have p6 : ∀ {v : List Int}, Wt v → ob (nP v) p = true → p ≤ 1000000 := fun {v} w h => by
      rw [ob, decide_eq_true_eq] at h
      exact pr_le w hpr ((NT.vp_pos hpr.1 w.pos).mpr (by omega))
    walk_at "d"
    refine r_asg ?_
    refine ev_lc (ei_range1 ?_)
    walk_at "d"
    refine ⟨_, rfl, by decide, by decide, by rw [rangeD_len]; decide, fun j acc => acc = D.ints (hasL (ob (nP v0) p) (ob (nP v1) p) (ob (nP v2) p) j), by simp [hasL], ?_, ?_⟩
    · rintro j d acc hj rfl
      obtain ⟨hjl, rfl⟩ := rangeD_get hj
      have hjl : j < 3 := hjl
      have h3 : j = 0 ∨ j = 1 ∨ j = 2 := by omega
      rcases h3 with rfl | rfl | rfl
      · walk_at "d"
        refine ⟨_, rfl, g_inI (.l .v) ?_⟩
        rw [mb o0]
        refine ⟨_, rfl, ite_b (fun h => ?_) (fun h => ?_)⟩
        · walk_at "d"
          exact ⟨_, rfl, by simp [hasL, h]⟩
        · simp [hasL, h]
      · walk_at "d"
        refine ⟨_, rfl, g_inI (.l .v) ?_⟩
        rw [mb o1]
        refine ⟨_, rfl, ite_b (fun h => ?_) (fun h => ?_)⟩
        · walk_at "d"
          exact ⟨_, rfl, by simp [hasL, h]⟩
        · simp [hasL, h]
      · walk_at "d"
        refine ⟨_, rfl, g_inI (.l .v) ?_⟩
        rw [mb o2]
        refine ⟨_, rfl, ite_b (fun h => ?_) (fun h => ?_)⟩
        · walk_at "d"
          exact ⟨_, rfl, by simp [hasL, h]⟩
        · simp [hasL, h]
    rintro acc rfl
    rw [rangeD_len]
    cases h0 : ob (nP v0) p <;> cases h1 : ob (nP v1) p <;> cases h2 : ob (nP v2) p
    · simp [h0, h1, h2] at hodd
    · have e : hasL false false true (Int.toNat 3) = [2] := by decide
      rw [e]
      walk_at "d"
      refine ite_dec (fun _ => ?_) (fun h => absurd rfl h)
      refine r_appP ?_
      refine ev_op (ev_fldM C.k_Normal.cl C.n_Normal_bare rfl rfl rfl rfl ?_)
      walk_at "d"
      refine ⟨_, rfl, ?_⟩
      refine x_ixP ⟨4, _, _, rfl, rfl, ?_⟩
      refine ⟨a2, 3, _, rfl, rfl, ?_⟩
      walk_at "d"
      refine ⟨_, rfl, small _, ⟨_, _, _, _, _, rfl, ?_⟩⟩
      simp [fs, brb, upb, h0, h1, h2, D.ints, nI]
    · have e : hasL false true false (Int.toNat 3) = [1] := by decide
      rw [e]
      walk_at "d"
      refine ite_dec (fun _ => ?_) (fun h => absurd rfl h)
      refine r_appP ?_
      refine ev_op (ev_fldM C.k_Normal.cl C.n_Normal_bare rfl rfl rfl rfl ?_)
      walk_at "d"
      refine ⟨_, rfl, ?_⟩
      refine x_ixP ⟨4, _, _, rfl, rfl, ?_⟩
      refine ⟨a1, 2, _, rfl, rfl, ?_⟩
      walk_at "d"
      refine ⟨_, rfl, small _, ⟨_, _, _, _, _, rfl, ?_⟩⟩
      simp [fs, brb, upb, h0, h1, h2, D.ints, nI]
    · have e : hasL false true true (Int.toNat 3) = [1, 2] := by decide
      rw [e]
      walk_at "d"
      refine ite_dec (fun h => absurd h (by decide)) (fun _ => ?_)
      walk_at "d"
      refine ite_dec (fun _ => ?_) (fun h => absurd rfl h)
      walk_at "d"
      refine r_asg ?_
      walk_at "d"
      refine ⟨_, rfl, ?_⟩
      walk_at "d"
      refine ⟨_, rfl, ?_⟩
      refine g_sub ?_
      refine r_seq (r_appP ?_)
      refine ev_op (ev_fldM C.k_Normal.cl C.n_Normal_bare rfl rfl rfl rfl ?_)
      walk_at "d"
      refine x_ixP ⟨4, _, _, rfl, rfl, ?_⟩
      refine ⟨a0, 1, _, rfl, rfl, ?_⟩
      walk_at "d"
      refine ⟨_, rfl, small _, ?_⟩
      refine r_setP ?_
      refine ev_op (ev_op (ev_fldM C.k_Normal.cl C.n_Normal_ups rfl rfl rfl rfl ?_))
      walk_at "d"
      refine x_ixP ⟨5, _, _, rfl, rfl, ?_⟩
      walk_at "d"
      refine ⟨mulW (upBit _ _ w1.pos w1.bit (fun q h => by simp [upb] at h; simp [h])) (lit_bit (b := 60) (by have := p6 (w1) (h1); omega) (by decide)) (by decide), ?_⟩
      refine ev_fldM C.k_Normal.cl C.n_Normal_ups rfl rfl rfl rfl ?_
      walk_at "d"
      refine ⟨_, _, 5, _, _, 0, rfl, rfl, rfl, rfl, rfl, ⟨_, _, _, _, _, rfl, ?_⟩⟩
      simp [fs, brb, upb, h0, h1, h2, D.ints, nI, List.prod_append]
    · have e : hasL true false false (Int.toNat 3) = [0] := by decide
      rw [e]
      walk_at "d"
      refine ite_dec (fun _ => ?_) (fun h => absurd rfl h)
      refine r_appP ?_
      refine ev_op (ev_fldM C.k_Normal.cl C.n_Normal_bare rfl rfl rfl rfl ?_)
      walk_at "d"
      refine ⟨_, rfl, ?_⟩
      refine x_ixP ⟨4, _, _, rfl, rfl, ?_⟩
      refine ⟨a0, 1, _, rfl, rfl, ?_⟩
      walk_at "d"
      refine ⟨_, rfl, small _, ⟨_, _, _, _, _, rfl, ?_⟩⟩
      simp [fs, brb, upb, h0, h1, h2, D.ints, nI]
    · have e : hasL true false true (Int.toNat 3) = [0, 2] := by decide
      rw [e]
      walk_at "d"
      refine ite_dec (fun h => absurd h (by decide)) (fun _ => ?_)
      walk_at "d"
      refine ite_dec (fun _ => ?_) (fun h => absurd rfl h)
      walk_at "d"
      refine r_asg ?_
      walk_at "d"
      refine ⟨_, rfl, ?_⟩
      walk_at "d"
      refine ⟨_, rfl, ?_⟩
      refine g_sub ?_
      refine r_seq (r_appP ?_)
      refine ev_op (ev_fldM C.k_Normal.cl C.n_Normal_bare rfl rfl rfl rfl ?_)
      walk_at "d"
      refine x_ixP ⟨4, _, _, rfl, rfl, ?_⟩
      refine ⟨a1, 2, _, rfl, rfl, ?_⟩
      walk_at "d"
      refine ⟨_, rfl, small _, ?_⟩
      refine r_setP ?_
      refine ev_op (ev_op (ev_fldM C.k_Normal.cl C.n_Normal_ups rfl rfl rfl rfl ?_))
      walk_at "d"
      refine x_ixP ⟨5, _, _, rfl, rfl, ?_⟩
      walk_at "d"
      refine ⟨mulW (upBit _ _ w0.pos w0.bit (fun q h => by simp [upb] at h; simp [h])) (lit_bit (b := 60) (by have := p6 (w0) (h0); omega) (by decide)) (by decide), ?_⟩
      refine ev_fldM C.k_Normal.cl C.n_Normal_ups rfl rfl rfl rfl ?_
      walk_at "d"
      refine ⟨_, _, 5, _, _, 1, rfl, rfl, rfl, rfl, rfl, ⟨_, _, _, _, _, rfl, ?_⟩⟩
      simp [fs, brb, upb, h0, h1, h2, D.ints, nI, List.prod_append]
    · have e : hasL true true false (Int.toNat 3) = [0, 1] := by decide
      rw [e]
      walk_at "d"
      refine ite_dec (fun h => absurd h (by decide)) (fun _ => ?_)
      walk_at "d"
      refine ite_dec (fun _ => ?_) (fun h => absurd rfl h)
      walk_at "d"
      refine r_asg ?_
      walk_at "d"
      refine ⟨_, rfl, ?_⟩
      walk_at "d"
      refine ⟨_, rfl, ?_⟩
      refine g_sub ?_
      refine r_seq (r_appP ?_)
      refine ev_op (ev_fldM C.k_Normal.cl C.n_Normal_bare rfl rfl rfl rfl ?_)
      walk_at "d"
      refine x_ixP ⟨4, _, _, rfl, rfl, ?_⟩
      refine ⟨a2, 3, _, rfl, rfl, ?_⟩
      walk_at "d"
      refine ⟨_, rfl, small _, ?_⟩
      refine r_setP ?_
      refine ev_op (ev_op (ev_fldM C.k_Normal.cl C.n_Normal_ups rfl rfl rfl rfl ?_))
      walk_at "d"
      refine x_ixP ⟨5, _, _, rfl, rfl, ?_⟩
      walk_at "d"
      refine ⟨mulW (upBit _ _ w0.pos w0.bit (fun q h => by simp [upb] at h; simp [h])) (lit_bit (b := 60) (by have := p6 (w0) (h0); omega) (by decide)) (by decide), ?_⟩
      refine ev_fldM C.k_Normal.cl C.n_Normal_ups rfl rfl rfl rfl ?_
      walk_at "d"
      refine ⟨_, _, 5, _, _, 2, rfl, rfl, rfl, rfl, rfl, ⟨_, _, _, _, _, rfl, ?_⟩⟩
      simp [fs, brb, upb, h0, h1, h2, D.ints, nI, List.prod_append]
    · have e : hasL true true true (Int.toNat 3) = [0, 1, 2] := by decide
      rw [e]
      walk_at "d"
      refine ite_dec (fun h => absurd h (by decide)) (fun _ => ?_)
      walk_at "d"
      refine ite_dec (fun h => absurd h (by decide)) (fun _ => ?_)
      walk_at "d"
      refine ⟨_, _, _, _, _, rfl, ?_⟩
      simp [fs, brb, upb, h0, h1, h2]
  · rintro ρ M ⟨o3, o4, o5, o6, o7, rfl, rfl⟩
    have hlen : (D.ints (nI ps)).length = ps.length := by simp [D.ints, nI]
    rw [hlen, List.take_length]
    refine r_fzP 1 4 0 rfl rfl rfl (by omega) (by decide) ?_
    refine r_fzP 2 4 1 rfl rfl rfl (by omega) (by decide) ?_
    refine r_fzP 3 4 2 rfl rfl rfl (by omega) (by decide) ?_
    refine r_fzI 4 0 0 rfl rfl rfl (by omega) (by decide) ?_
    refine r_fzI 5 0 1 rfl rfl rfl (by omega) (by decide) ?_
    refine r_fld C.k_Normal.cl C.n_Normal_signs rfl rfl (le_lit rfl) ?_
    refine ev_lcR (fun d d' => ∃ v, d = wt v ∧ d' = .int (sgn (prodL v))) (ei_seqT ?_)
    walk_at "d"
    refine ⟨_, rfl, le_lit rfl, fun i d hi => ?_, ?_⟩
    · have : ∃ v, Wt v ∧ d = wt v := by
        match i, hi with
        | 0, hi => exact ⟨v0, w0, (Option.some.inj hi).symm⟩
        | 1, hi => exact ⟨v1, w1, (Option.some.inj hi).symm⟩
        | 2, hi => exact ⟨v2, w2, (Option.some.inj hi).symm⟩
      obtain ⟨v, hv, rfl⟩ := this
      walk_at "d"
      exact ⟨v, rfl, hv, fun d e => ⟨_, rfl, v, rfl, e⟩⟩
    rintro ds ⟨_, _, rfl, ⟨x0, e0, rfl⟩, _, _, rfl, ⟨x1, e1, rfl⟩, _, _, rfl, ⟨x2, e2, rfl⟩, hnil⟩
    have hnil : _ = [] := hnil
    subst hnil
    cases inj e0; cases inj e1; cases inj e2
    have bars : ∀ (a b c : Nat), (∀ p, NT.Pr p → brb a b c p = true → ob (nP v0) p = true ∨ ob (nP v1) p = true ∨ ob (nP v2) p = true) → Bars a b c (ps.filter (brb a b c)) := fun a b c h => ⟨pasc.sublist (List.filter_sublist ..), fun p => by
      rw [List.mem_filter, pm]
      exact ⟨fun ⟨⟨a, _⟩, b⟩ => ⟨a, b⟩, fun ⟨x, y⟩ => ⟨⟨x, h p x y⟩, y⟩⟩⟩
    have ups : ∀ (a b c : Nat), (∀ p, NT.Pr p → upb a b c p = true → ob (nP v0) p = true ∨ ob (nP v1) p = true ∨ ob (nP v2) p = true) → UpOk a b c (ps.filter (upb a b c)).prod := fun a b c h => by
      have hpr : ∀ p, p ∈ ps.filter (upb a b c) → NT.Pr p := fun p hp => ((pm p).mp (List.mem_filter.mp hp).1).1
      refine ⟨NT.prod_pos _ hpr, fun q hq => ?_⟩
      rw [NT.vp_prod hq _ ((NT.asc_nodup pasc).filter _) hpr]
      have : q ∈ ps.filter (upb a b c) ↔ upb a b c q = true := by
        rw [List.mem_filter, pm]
        exact ⟨fun h => h.2, fun y => ⟨⟨hq, h q hq y⟩, y⟩⟩
      by_cases z : upb a b c q = true
      · rw [if_pos z, if_pos (this.mpr z)]
      · rw [if_neg z, if_neg (fun y => z (this.mp y))]
    refine ⟨_, rfl, _, rfl, ps.filter (brb (nP v0) (nP v1) (nP v2)), ps.filter (brb (nP v1) (nP v0) (nP v2)), ps.filter (brb (nP v2) (nP v0) (nP v1)), _, _, _, r0, r1, r2,
      ⟨bars _ _ _ fun p _ h => ?_, bars _ _ _ fun p _ h => ?_, bars _ _ _ fun p _ h => ?_, ups _ _ _ fun p _ h => ?_, ups _ _ _ fun p _ h => ?_, ups _ _ _ fun p _ h => ?_, q0, q1, q2⟩, rfl⟩
    all_goals (simp only [brb, upb] at h)
    all_goals (cases h0 : ob (nP v0) p <;> cases h1 : ob (nP v1) p <;> cases h2 : ob (nP v2) p <;> simp [h0, h1, h2] at h ⊢)

end
section
variable {P : Program} {w : World} {K : PySem.W.Frag} {mg : Str → Option Value} {base : Heap} {a : Adr}
/-! ### the normal weights' own numbers -/
structure NV where
  B0 : List Nat
  B1 : List Nat
  B2 : List Nat
  u0 : Nat
  u1 : Nat
  u2 : Nat
  r0 : Nat
  r1 : Nat
  r2 : Nat
  s0 : Int
  s1 : Int
  s2 : Int
abbrev nmD (C : Addr) (x : NV) : D := .ins C ["bare", "ups", "downs", "signs"] [.lst [lI x.B0, lI x.B1, lI x.B2], lI [x.u0, x.u1, x.u2], lI [x.r0, x.r1, x.r2], .lst (D.ints [x.s0, x.s1, x.s2])]
structure SmallB (bs : List Nat) : Prop where
  len : bs.length ≤ 1000
  le : ∀ p, p ∈ bs → p ≤ 1000000
theorem SmallB.pre {bs : List Nat} (h : SmallB bs) : (nI bs).length ≤ 1000 ∧ ∀ n, n ∈ nI bs → n.natAbs < 2 ^ 700 := by
  refine ⟨by simpa using h.len, fun n hn => ?_⟩
  obtain ⟨p, hp, rfl⟩ := List.mem_map.mp hn
  have := h.le p hp
  exact lit_bit (b := 700) (by omega) (by decide)
theorem SmallB.bit {bs : List Nat} (h : SmallB bs) : (prodL (nI bs)).natAbs < 2 ^ 700001 := by
  refine bit_le (prod_bit (nI bs) h.pre.2) ?_
  have := h.pre.1
  omega
structure NV.Ok (x : NV) : Prop where
  b0 : SmallB x.B0
  b1 : SmallB x.B1
  b2 : SmallB x.B2
  s0 : x.s0 = 1 ∨ x.s0 = -1
  s1 : x.s1 = 1 ∨ x.s1 = -1
  s2 : x.s2 = 1 ∨ x.s2 = -1
def NV.A0 (x : NV) : Int := x.s0 * prodL (nI x.B0)
def NV.A1 (x : NV) : Int := x.s1 * prodL (nI x.B1)
def NV.A2 (x : NV) : Int := x.s2 * prodL (nI x.B2)
theorem ok_Normal_all_weights (C : Ctx K mg a) : MFnAt P w K mg base 2 a.Normal "all_weights" ["self"] (SpP K (fun x : NV => [nmD a.Normal x]) NV.Ok (fun x d => d = .tup (D.ints [x.A0, x.A1, x.A2]))) := by
  refine mfn_at C.e_Normal_all_weights sc_Normal_all_weights (fun _ => rfl) fun f cdv A outer s H E hr => ⟨_, (pss_one (ps_ret (pe_tupOf (K := K) C.B.tuple rfl (pa_cons (pe_lc (own := [("sign", 1), ("primes", 2)]) (g := (gTup _ 2 (gCons (gName 1) (gCons (gName 2) gNil)))) (tt := tYes) rfl sc_Normal_all_weights.nd (pi_zipS2 (K := K) rfl C.B.zip (pa_cons (pe_at (K := K) (pv 0)) (pa_cons (pe_at (K := K) (pv 0)) pa_nil))) (blkOk_by (N := n_Normal_all_weights) (sc := defScope s_Normal_all_weights) (by decide +kernel)) (fun _ _ _ _ _ => (pg_tup rfl (pgs_cons (pg_name (i := 1) sc_Normal_all_weights.nd rfl (by first | exact Or.inl rfl | exact Or.inr rfl)) (pgs_cons (pg_name (i := 2) sc_Normal_all_weights.nd rfl (by first | exact Or.inl rfl | exact Or.inr rfl)) pgs_nil)))) (fun _ _ _ _ _ => pts_nil) (fun _ _ _ _ _ => (pe_op (op_gMul (K := K)) (pv 1) (pe_fn (ok_product C) (hr.mono (by omega)) rfl (pa_cons (pv 2) pa_nil))))) pa_nil)))), fun x e hp he => ?_⟩
  have hp : x.Ok := hp
  dsimp only [cxOf]
  refine r_ret ?_
  refine ev_cb (ea_cons ?_)
  refine ev_lcR (fun d d' => ∃ (s : Int) (B : List Nat), d = .tup [.int s, lI B] ∧ d' = .int (s * prodL (nI B))) (ei_z2 ?_)
  refine ea_cons (ev_at ?_)
  walk_at "d"
  refine ⟨_, _, _, rfl, C.k_Normal.cl, C.n_Normal_signs, _, _, rfl, rfl, ?_⟩
  refine ea_cons (ev_at ?_)
  walk_at "d"
  refine ⟨_, _, _, rfl, C.k_Normal.cl, C.n_Normal_bare, _, _, rfl, rfl, ?_⟩
  walk_at "d"
  refine ⟨_, _, _, _, rfl, .l, .l, le_lit rfl, fun i d hi => ?_, ?_⟩
  · have key : ∀ (s : Int) (B : List Nat), (s = 1 ∨ s = -1) → SmallB B → d = .tup [.int s, lI B] → EvG K (gTup K 2 (gCons (gName 1) (gCons (gName 2) gNil))) [1, 2] d (wipeR [some (.v (nmD a.Normal x)), none, none] [1, 2]) fun ρ' => EvP K (tOp (gMul K) (tVar 1) (tCall (SpP K (fun x : Bool × List Int => [D.seq x.1 (D.ints x.2)]) (fun x => x.2.length ≤ 1000 ∧ ∀ n, n ∈ x.2 → n.natAbs < 2 ^ 700) (fun x d => d = .int (prodL x.2))) [] E0 (tCons (tVar 2) tNil))) ρ' [] fun s => ∃ d', s = .v d' ∧ ∃ (s : Int) (B : List Nat), d = .tup [.int s, lI B] ∧ d' = .int (s * prodL (nI B)) := by
      rintro s B hs hB rfl
      walk_at "d"
      refine ⟨(false, nI B), rfl, hB.pre, fun r er => ?_⟩
      subst er
      walk_at "d"
      exact ⟨mulW (a := 60) (by rcases hs with h | h <;> rw [h] <;> decide) hB.bit (by decide), _, rfl, s, B, rfl, rfl⟩
    match i, hi with
    | 0, hi => exact key x.s0 x.B0 hp.s0 hp.b0 (Option.some.inj hi).symm
    | 1, hi => exact key x.s1 x.B1 hp.s1 hp.b1 (Option.some.inj hi).symm
    | 2, hi => exact key x.s2 x.B2 hp.s2 hp.b2 (Option.some.inj hi).symm
  rintro ds ⟨_, _, rfl, ⟨s0, B0, e0, rfl⟩, _, _, rfl, ⟨s1, B1, e1, rfl⟩, _, _, rfl, ⟨s2, B2, e2, rfl⟩, hnil⟩
  have hnil : _ = [] := hnil
  subst hnil
  have inj : ∀ {s t : Int} {B B' : List Nat}, D.tup [.int s, lI B] = .tup [.int t, lI B'] → s = t ∧ B = B' := fun {s t B B'} h => by
    have h := List.cons.inj (D.tup.inj h)
    have h1 : s = t := by have := h.1; cases this; rfl
    have h2 := D.lst.inj (List.cons.inj h.2).1
    refine ⟨h1, ?_⟩
    have : ∀ (B B' : List Nat), D.ints (nI B) = D.ints (nI B') → B = B' := by
      intro B
      induction B with
      | nil => intro B' h; cases B' with
        | nil => rfl
        | cons _ _ => cases h
      | cons n v ih => intro x h; cases x with
        | nil => cases h
        | cons m x =>
          have := List.cons.inj h
          rw [ih x this.2]
          have : ((n : Nat) : Int) = m := by have := this.1; injection this with this; injection this
          have : n = m := by omega
          rw [this]
    exact this _ _ h2
  obtain ⟨rfl, rfl⟩ := inj e0
  obtain ⟨rfl, rfl⟩ := inj e1
  obtain ⟨rfl, rfl⟩ := inj e2
  walk_at "d"
  exact ret_v rfl
theorem NmD.nv {C : Addr} {v0 v1 v2 : List Int} (w0 : Wt v0) (w1 : Wt v1) (w2 : Wt v2) {ds : List D} (h : NmD v0 v1 v2 ds) : ∃ x : NV, D.ins C ["bare", "ups", "downs", "signs"] ds = nmD C x ∧ x.Ok ∧ Nm v0 v1 v2 x.B0 x.B1 x.B2 x.u0 x.u1 x.u2 x.r0 x.r1 x.r2 ∧ x.s0 = sgn (prodL v0) ∧ x.s1 = sgn (prodL v1) ∧ x.s2 = sgn (prodL v2) := by
  obtain ⟨B0, B1, B2, u0, u1, u2, r0, r1, r2, nm, rfl⟩ := h
  have sg : ∀ n, sgn n = 1 ∨ sgn n = -1 := fun n => by unfold sgn; split <;> simp
  have small : ∀ {a b c : List Int} {bs : List Nat}, Wt a → Wt b → Wt c → Bars (nP a) (nP b) (nP c) bs → SmallB bs := fun {a b c bs} ha hb hc h => by
    have odd : ∀ p, p ∈ bs → NT.Pr p ∧ (p ∣ nP a ∨ p ∣ nP b) := fun p hp => by
      obtain ⟨q1, q2⟩ := (h.mem p).mp hp
      refine ⟨q1, ?_⟩
      simp only [brb, Bool.and_eq_true, ob, bne_iff_ne, ne_eq, decide_eq_decide, beq_iff_eq] at q2
      by_cases z : NT.vp p (nP a) % 2 = 1
      · exact .inl ((NT.vp_pos q1.1 ha.pos).mpr (by omega))
      · refine .inr ((NT.vp_pos q1.1 hb.pos).mpr ?_)
        have := q2.2
        omega
    refine ⟨?_, fun p hp => ?_⟩
    · have hpos := Nat.mul_pos ha.pos hb.pos
      have := NT.few_primes hpos (Nat.le_trans (Nat.mul_le_mul ha.le30 hb.le30) (by decide)) bs (NT.asc_nodup h.asc) fun p hp => by
        obtain ⟨q1, q2 | q2⟩ := odd p hp
        · exact ⟨q1, Nat.dvd_mul_right_of_dvd q2 _⟩
        · exact ⟨q1, Nat.dvd_mul_left_of_dvd q2 _⟩
      omega
    · obtain ⟨q1, q2 | q2⟩ := odd p hp
      · exact pr_le ha q1 q2
      · exact pr_le hb q1 q2
  exact ⟨⟨B0, B1, B2, u0, u1, u2, r0, r1, r2, _, _, _⟩, rfl, ⟨small w0 w1 w2 nm.b0, small w1 w0 w2 nm.b1, small w2 w0 w1 nm.b2, sg _, sg _, sg _⟩, nm, rfl, rfl, rfl⟩

end
section
variable {P : Program} {w : World} {K : PySem.W.Frag} {mg : Str → Option Value} {base : Heap} {a : Adr}
theorem ok_check_three (C : Ctx K mg a) : FnAt P w K mg base CX0 1 "check_three" ["form"] (SpP K (fun ws : List (List Int) => [fm a.Form ws]) (fun ws => ws.length = 3) (fun _ d => d = .non)) := by
  refine fn_at C.d_check_three sc_check_three (fun _ => rfl) fun f cdv A outer s H E hr => ⟨_, (pss_one (ps_if (pt_cmpR (op_gNe (K := K) (by exact hr.units)) (pe_len (K := K) C.B.len rfl (pa_cons (pe_at (K := K) (pv 0)) pa_nil)) pe_int (nomark _))
    (pss_one ps_never)
    pss_nil)), fun ws e hp he => ?_⟩
  have hp : ws.length = 3 := hp
  dsimp only [cxOf]
  walk_at "d"
  refine ev_at ?_
  walk_at "d"
  refine ⟨_, _, _, rfl, C.k_Form.cl, C.n_Form_rows, _, _, rfl, rfl, ?_⟩
  walk_at "d"
  rw [List.length_map, hp]
  refine iteF ?_
  walk_at "d"
  rfl
theorem three {ws : List (List Int)} (h : ws.length = 3) : ∃ v0 v1 v2, ws = [v0, v1, v2] := by
  match ws, h with
  | [v0, v1, v2], _ => exact ⟨v0, v1, v2, rfl⟩

end
section
variable {P : Program} {w : World} {K : PySem.W.Frag} {mg : Str → Option Value} {base : Heap} {a : Adr}
theorem ok_normal (C : Ctx K mg a) : FnAt P w K mg base CX0 6 "normal" ["form"] (SpP K (fun x : List Int × List Int × List Int => [fm a.Form [x.1, x.2.1, x.2.2]]) (fun x => Wt x.1 ∧ Wt x.2.1 ∧ Wt x.2.2) (fun v d => ∃ x : NV, x.Ok ∧ Nm v.1 v.2.1 v.2.2 x.B0 x.B1 x.B2 x.u0 x.u1 x.u2 x.r0 x.r1 x.r2 ∧ x.s0 = sgn (prodL v.1) ∧ x.s1 = sgn (prodL v.2.1) ∧ x.s2 = sgn (prodL v.2.2) ∧ d = .tup (D.ints [x.A0, x.A1, x.A2]))) := by
  refine fn_at C.d_normal sc_normal (fun _ => rfl) fun f cdv A outer s H E hr => ⟨_, (pss_cons (ps_expr (pe_fn (ok_check_three C) (hr.mono (by omega)) rfl (pa_cons (pv 0) pa_nil)))
    (pss_one (ps_ret (pe_mth0 (ok_Normal_all_weights C) C.k_Normal.cl (hr.mono (by omega)) (pe_new (ok_Normal C) (hr.mono (by omega)) rfl (pa_cons (pe_at (K := K) (pv 0)) pa_nil)))))), fun x e hp he => ?_⟩
  obtain ⟨v0, v1, v2⟩ := x
  obtain ⟨w0, w1, w2⟩ := hp
  dsimp only [cxOf]
  walk_at "d"
  refine ⟨[v0, v1, v2], rfl, rfl, fun d ed => ?_⟩
  subst ed
  walk_at "d"
  refine ev_mth ?_
  refine ec_new ?_
  refine ea_cons (ev_at ?_)
  walk_at "d"
  refine ⟨_, _, _, rfl, C.k_Form.cl, C.n_Form_rows, _, _, rfl, rfl, ?_⟩
  walk_at "d"
  refine ⟨(v0, v1, v2), rfl, ⟨w0, w1, w2⟩, fun ds hds => ?_⟩
  obtain ⟨x, ex, hx, nm, s0, s1, s2⟩ := NmD.nv (C := a.Normal) w0 w1 w2 hds
  rw [ex]
  refine ⟨_, _, rfl, by decide, ?_⟩
  walk_at "d"
  refine ⟨x, rfl, hx, fun d ed => ?_⟩
  exact ret_v ⟨x, hx, nm, s0, s1, s2, ed⟩

end
section
variable {P : Program} {w : World} {K : PySem.W.Frag} {mg : Str → Option Value} {base : Heap} {a : Adr}
/-! ### powers by remainders -/
theorem ok_powered (C : Ctx K mg a) : FnAt P w K mg base CX0 1 "powered" ["number", "times", "many"] (SpP K (fun x : Int × Nat × Nat => [.int x.1, .int (x.2.1 : Int), .int (x.2.2 : Int)]) (fun x => 2 ≤ x.2.2 ∧ x.2.2 ≤ 2000000 ∧ x.2.1 ≤ 2000000) (fun x d => d = .int (x.1 ^ x.2.1 % (x.2.2 : Int)))) := by
  refine fn_at C.d_powered sc_powered (fun _ => rfl) fun f cdv A outer s H E hr => ⟨_, (pss_cons (ps_par3 (i := 3) (j := 4) (l := 5) rfl sc_powered.nd rfl rfl rfl (by decide) (by decide) (by decide) rfl rfl rfl (pa_cons pe_int (pa_cons (pv 1) (pa_cons (pe_op op_gMod (pv 0) (pv 2)) pa_nil))) rfl)
    (pss_cons (ps_while PassesOwn.never (pt_cmpR op_gGt (pv 4) pe_int (nomark _))
    (pss_cons (ps_if (pt_cmpR (op_gEq (K := K) (by exact hr.units)) (pe_op op_gMod (pv 4) pe_int) pe_int (nomark _))
    (pss_one (ps_set (i := 3) sc_powered.nd rfl (by first | exact Or.inl rfl | exact Or.inr rfl) (pe_op op_gMod (pe_op (op_gMul (K := K)) (pv 3) (pv 5)) (pv 2))))
    pss_nil)
    (pss_cons (ps_set (i := 5) sc_powered.nd rfl (by first | exact Or.inl rfl | exact Or.inr rfl) (pe_op op_gMod (pe_op (op_gMul (K := K)) (pv 5) (pv 5)) (pv 2)))
    (pss_one (ps_set (i := 4) sc_powered.nd rfl (by first | exact Or.inl rfl | exact Or.inr rfl) (pe_op op_gDiv (pv 4) pe_int))))))
    (pss_one (ps_ret (pe_op op_gMod (pv 3) (pv 2)))))), fun x e hp he => ?_⟩
  obtain ⟨n, t, m⟩ := x
  obtain ⟨m2, m6, t6⟩ := hp
  have m2 : 2 ≤ m := m2
  have m6 : m ≤ 2000000 := m6
  have t6 : t ≤ 2000000 := t6
  have mz : (0 : Int) < (m : Int) := by omega
  dsimp only [cxOf]
  walk_at "d"
  refine r_par3 ?_
  refine ena_cons (en_ev ?_)
  walk_at "d"
  refine ena_cons (en_ev ?_)
  walk_at "d"
  refine ena_cons (en_ev ?_)
  walk_at "d"
  refine ⟨mz, ?_⟩
  refine ena_nil ?_
  refine ⟨_, _, _, rfl, ?_⟩
  have r0 := Int.emod_nonneg n (Int.ne_of_gt mz)
  have r1 := Int.emod_lt_of_pos n mz
  refine r_seq (r_while ⟨fun k ρ M => ∃ (fo he : Int) (le : Nat), ρ = [some (.v (.int n)), some (.v (.int (t : Int))), some (.v (.int (m : Int))), some (.v (.int fo)), some (.v (.int (le : Int))), some (.v (.int he))] ∧ M = [] ∧ 0 ≤ fo ∧ fo ≤ 2000000 ∧ 0 ≤ he ∧ he ≤ 2000000 ∧ NT.Cg m (fo * he ^ le) (n ^ t) ∧ le ≤ 2000000 ∧ k = le,
    ⟨_, 1, n % (m : Int), t, rfl, rfl, by decide, by decide, r0, by omega, by rw [Int.one_mul]; exact (NT.Cg.emod n).pow t, t6, rfl⟩, ?_⟩)
  rintro k ρ M ⟨fo, he, le, rfl, rfl, f0, f1, h0, h1, cg, l6, rfl⟩
  walk_at "d"
  refine ite_dec (fun hl => ?_) (fun hl => ?_)
  · have hl : 0 < k := by omega
    have fb : fo.natAbs < 2 ^ 60 := by omega
    have hb : he.natAbs < 2 ^ 60 := by omega
    -- the rest of the turn, with the new product
    refine r_seq (r_via (fun ρ' M' => ∃ fo2 : Int, 0 ≤ fo2 ∧ fo2 ≤ 2000000 ∧ NT.Cg m (fo2 * (he * he) ^ (k / 2)) (n ^ t) ∧ ρ' = [some (.v (.int n)), some (.v (.int (t : Int))), some (.v (.int (m : Int))), some (.v (.int fo2)), some (.v (.int (k : Int))), some (.v (.int he))] ∧ M' = []) ?_ ?_)
    · have pw : he ^ k = (he * he) ^ (k / 2) * he ^ (k % 2) := by
        have e : k = 2 * (k / 2) + k % 2 := by omega
        conv => lhs; rw [e, Int.pow_add, Int.pow_mul]
        congr 2
        exact Int.pow_succ .. |>.trans (by rw [Int.pow_succ]; simp)
      walk_at "d"
      refine ite_dec (fun ho => ?_) (fun ho => ?_)
      · have ho : k % 2 = 1 := by omega
        refine r_asg ?_
        walk_at "d"
        refine ⟨mulW fb hb (by decide), ?_⟩
        walk_at "d"
        refine ⟨mz, ?_⟩
        have q0 := Int.emod_nonneg (fo * he) (Int.ne_of_gt mz)
        have q1 := Int.emod_lt_of_pos (fo * he) mz
        refine ⟨_, q0, by omega, ?_, rfl, rfl⟩
        refine NT.Cg.trans ?_ cg
        rw [pw, ho]
        have := (NT.Cg.emod (p := m) (fo * he)).mul (NT.Cg.refl (p := m) ((he * he) ^ (k / 2)))
        refine this.trans ?_
        exact ⟨0, by simp; grind⟩
      · have ho : k % 2 = 0 := by omega
        walk_at "n"
        refine ⟨fo, f0, f1, ?_, rfl, rfl⟩
        rw [pw, ho] at cg
        simpa using cg
    · rintro ρ' M' ⟨fo2, g0, g1, cg2, rfl, rfl⟩
      walk_at "d"
      refine r_asg ?_
      walk_at "d"
      refine ⟨mulW hb hb (by decide), ?_⟩
      walk_at "d"
      refine ⟨mz, ?_⟩
      walk_at "d"
      refine r_asg ?_
      walk_at "d"
      have q0 := Int.emod_nonneg (he * he) (Int.ne_of_gt mz)
      have q1 := Int.emod_lt_of_pos (he * he) mz
      refine ⟨k / 2, by omega, fo2, _, k / 2, by rw [Int.natCast_ediv]; rfl, rfl, g0, g1, q0, by omega, ?_, by omega, rfl⟩
      refine NT.Cg.trans ?_ cg2
      exact (NT.Cg.refl fo2).mul ((NT.Cg.emod _).pow _)
  · have hl : k = 0 := by omega
    subst hl
    walk_at "d"
    refine ⟨mz, ret_v ?_⟩
    have := NT.Cg.iff.mp cg
    rw [Int.pow_zero, Int.mul_one] at this
    rw [this]
theorem sq_iff {p : Nat} (h : 2 ≤ p) (n : Int) : decide (n ^ ((p - 1) / 2) % (p : Int) = 1) = NT.sq p n := by
  unfold NT.sq
  refine decide_eq_decide.mpr ?_
  rw [NT.Cg.iff, Int.emod_eq_of_lt (a := 1) (by omega) (by omega)]
theorem ok_is_square (C : Ctx K mg a) : FnAt P w K mg base CX0 2 "is_square" ["number", "prime"] (SpP K (fun x : Int × Nat => [.int x.1, .int (x.2 : Int)]) (fun x => 2 ≤ x.2 ∧ x.2 ≤ 2000000) (fun x d => d = .bl (NT.sq x.2 x.1))) := by
  refine fn_at C.d_is_square sc_is_square (fun _ => rfl) fun f cdv A outer s H E hr => ⟨_, (pss_one (ps_ret (pe_cmpR (op_gEq (K := K) (by exact hr.units)) (pe_fn (ok_powered C) (hr.mono (by omega)) rfl (pa_cons (pv 0) (pa_cons (pe_op op_gDiv (pe_op op_gSub (pv 1) pe_int) pe_int) (pa_cons (pv 1) pa_nil)))) pe_int (nomark _)))), fun x e hp he => ?_⟩
  obtain ⟨n, p⟩ := x
  obtain ⟨p2, p6⟩ := hp
  have p2 : 2 ≤ p := p2
  have p6 : p ≤ 2000000 := p6
  dsimp only [cxOf]
  walk_at "d"
  refine ⟨(n, (p - 1) / 2, p), by simp only [List.map_cons, List.map_nil]; congr 3; show D.int _ = D.int _; congr 1; omega, ⟨p2, p6, by show (p - 1) / 2 ≤ 2000000; omega⟩, fun d ed => ?_⟩
  subst ed
  walk_at "d"
  exact ret_v (by rw [sq_iff p2])

end
section
variable {P : Program} {w : World} {K : PySem.W.Frag} {mg : Str → Option Value} {base : Heap} {a : Adr}
/-! ### the places that bar normal weights -/
structure NV.Fine (x : NV) : Prop where
  ok : x.Ok
  a0 : x.A0.natAbs < 2 ^ 200
  a1 : x.A1.natAbs < 2 ^ 200
  a2 : x.A2.natAbs < 2 ^ 200
  n0 : x.B0.Nodup
  n1 : x.B1.Nodup
  n2 : x.B2.Nodup
  p0 : ∀ p, p ∈ x.B0 → NT.Pr p
  p1 : ∀ p, p ∈ x.B1 → NT.Pr p
  p2 : ∀ p, p ∈ x.B2 → NT.Pr p
  d01 : ∀ p, p ∈ x.B0 → p ∉ x.B1
  d02 : ∀ p, p ∈ x.B0 → p ∉ x.B2
  d12 : ∀ p, p ∈ x.B1 → p ∉ x.B2
def twoB (x y z : Int) : Bool :=
  if x % 2 = 0 then !decide ((y + z) % 8 = 0) && !decide ((y + z + x) % 8 = 0)
  else if y % 2 = 0 then !decide ((x + z) % 8 = 0) && !decide ((x + z + y) % 8 = 0)
  else if z % 2 = 0 then !decide ((x + y) % 8 = 0) && !decide ((x + y + z) % 8 = 0)
  else !(decide ((x + z) % 4 = 0) || (decide ((y + x) % 4 = 0) || decide ((z + y) % 4 = 0)))
structure OneEv (x y z : Int) : Prop where
  xy : x % 2 = 1 ∨ y % 2 = 1
  xz : x % 2 = 1 ∨ z % 2 = 1
  yz : y % 2 = 1 ∨ z % 2 = 1
theorem ev_cut {K : PySem.W.Frag} {ρ : Rho} {M : List MO} {Q : Sl → Prop} {te : TE} {tt : TT} {wi : TI} {g : TG} {vs : List Nat} (ns : List Int) (f : Int → Bool) (h : EvI K wi ρ M fun items => items = D.ints ns ∧ ns.length ≤ 16777216 ∧ (∀ n, n ∈ ns → EvG K g vs (.int n) (wipeR ρ vs) fun ρ' => EvT K tt ρ' M fun b => b = f n ∧ (b = true → EvP K te ρ' M fun s => s = .v (.int n))) ∧ Q (.v (.lst (D.ints (ns.filter f))))) : EvP K (tLc wi g tt te vs) ρ M Q := by
  refine ev_lc fun σ α F H en S k kk => h σ α F H en S k fun J F' H' items m S' ok ⟨e1, h1, h2, h3⟩ => kk J F' H' items m S' ok ?_
  subst e1
  refine ⟨by simpa [D.ints] using h1, fun i acc => acc = D.ints ((ns.take i).filter f), rfl, fun i d acc hi ha => ?_, fun acc ha => ?_⟩
  · obtain ⟨n, hn, rfl⟩ := ints_get hi
    subst ha
    have hf : (ns.take (i + 1)).filter f = (ns.take i).filter f ++ (if f n = true then [n] else []) := by
      rw [take_snoc hn, List.filter_append]
      simp only [List.filter_cons, List.filter_nil]
    intro σ α F H v en s hd k kk
    refine h2 n (List.mem_of_getElem? hn) σ α F H v en s hd k fun σ' ρ' en' hl hj q => kk σ' ρ' en' hl hj ?_
    intro σ α F H en S k kk
    refine q σ α F H en S k fun b F' H' m S' ⟨eb, q2⟩ => kk b F' H' m S' ?_
    subst eb
    refine ite_b (fun hb => ?_) (fun hb => ?_)
    · refine (q2 hb).mono fun s es => ⟨_, es, ?_⟩
      show _ = D.ints _
      rw [hf, if_pos hb]; simp [D.ints]
    · show _ = D.ints _
      rw [hf, if_neg (by rw [hb]; decide)]; simp
  · have hl : (D.ints ns).length = ns.length := by simp [D.ints]
    rw [hl, List.take_length] at ha
    subst ha
    exact h3
theorem ok_two_bars (C : Ctx K mg a) : FnAt P w K mg base CX0 1 "two_bars" ["numbers"] (SpP K (fun x : Int × Int × Int => [.tup (D.ints [x.1, x.2.1, x.2.2])]) (fun x => OneEv x.1 x.2.1 x.2.2) (fun x d => d = .bl (twoB x.1 x.2.1 x.2.2))) := by
  refine fn_at C.d_two_bars sc_two_bars (fun _ => rfl) fun f cdv A outer s H E hr => ⟨_, (pss_cons (ps_setLc (i := 1) (own := [("one", 3)]) (g := (gName 3)) (tt := _) rfl sc_two_bars.nd rfl rfl (sw_true rfl rfl rfl (by decide +kernel)) (pi_seq (K := K) (pv 0)) (blkOk_by (N := n_two_bars) (sc := defScope s_two_bars) (by decide +kernel)) (fun _ _ _ _ _ => (pg_name (i := 3) sc_two_bars.nd rfl (by first | exact Or.inl rfl | exact Or.inr rfl))) (fun _ _ _ _ _ => (pts_one (pt_cmpR (op_gEq (K := K) (by exact hr.units)) (pe_op op_gMod (pv 3) pe_int) pe_int (nomark _)))) (fun _ _ _ _ _ => (pv 3)))
    (pss_cons (ps_set (i := 2) sc_two_bars.nd rfl (by first | exact Or.inl rfl | exact Or.inr rfl) (pe_lc (own := [("one", 3)]) (g := (gName 3)) (tt := _) rfl sc_two_bars.nd (pi_seq (K := K) (pv 0)) (blkOk_by (N := n_two_bars) (sc := defScope s_two_bars) (by decide +kernel)) (fun _ _ _ _ _ => (pg_name (i := 3) sc_two_bars.nd rfl (by first | exact Or.inl rfl | exact Or.inr rfl))) (fun _ _ _ _ _ => (pts_one (pt_cmpR (op_gEq (K := K) (by exact hr.units)) (pe_op op_gMod (pv 3) pe_int) pe_int (nomark _)))) (fun _ _ _ _ _ => (pv 3))))
    (pss_cons (ps_if (pt_cmpR (op_gEq (K := K) (by exact hr.units)) (pv 1) (pe_lst pa_nil) (nomark _))
    (pss_one (ps_ret (pe_not (pe_any (K := K) C.B.any rfl rfl (pa_cons (pe_lc (own := [("at", 4)]) (g := (gName 4)) (tt := tYes) rfl sc_two_bars.nd (pi_range1 rfl C.B.range (pa_cons pe_int pa_nil)) (blkOk_by (N := n_two_bars) (sc := defScope s_two_bars) (by decide +kernel)) (fun _ _ _ _ _ => (pg_name (i := 4) sc_two_bars.nd rfl (by first | exact Or.inl rfl | exact Or.inr rfl))) (fun _ _ _ _ _ => pts_nil) (fun _ _ _ _ _ => (pe_cmpR (op_gEq (K := K) (by exact hr.units)) (pe_op op_gMod (pe_op (op_gAdd (K := K)) (pe_ix (ix_any (K := K)) (pv 2) (pv 4) (fun _ _ => rfl)) (pe_ix (ix_any (K := K)) (pv 2) (pe_op op_gSub (pv 4) pe_int) (fun _ _ => rfl))) pe_int) pe_int (nomark _)))) pa_nil)))))
    pss_nil)
    (pss_one (ps_ret (pe_and (pe_cmpR (op_gNe (K := K) (by exact hr.units)) (pe_op op_gMod (pe_op (op_gAdd (K := K)) (pe_ix (ix_any (K := K)) (pv 2) pe_int (fun _ _ => rfl)) (pe_ix (ix_any (K := K)) (pv 2) pe_int (fun _ _ => rfl))) pe_int) pe_int (nomark _)) (pe_one (pe_cmpR (op_gNe (K := K) (by exact hr.units)) (pe_op op_gMod (pe_op (op_gAdd (K := K)) (pe_op (op_gAdd (K := K)) (pe_ix (ix_any (K := K)) (pv 2) pe_int (fun _ _ => rfl)) (pe_ix (ix_any (K := K)) (pv 2) pe_int (fun _ _ => rfl))) (pe_ix (ix_any (K := K)) (pv 1) pe_int (fun _ _ => rfl))) pe_int) pe_int (nomark _))))))))), fun x e hp he => ?_⟩
  obtain ⟨x, y, z⟩ := x
  obtain ⟨h1, h2, h3⟩ := hp
  have h1 : x % 2 = 1 ∨ y % 2 = 1 := h1
  have h2 : x % 2 = 1 ∨ z % 2 = 1 := h2
  have h3 : y % 2 = 1 ∨ z % 2 = 1 := h3
  dsimp only [cxOf]
  refine r_seq (r_asg ?_)
  refine ev_cut [x, y, z] (fun n => decide (n % 2 = 0)) (ei_seqT ?_)
  walk_at "d"
  refine ⟨_, rfl, rfl, le_lit rfl, fun n hn => ?_, ?_⟩
  · walk_at "d"
    refine ⟨rfl, fun hb => ?_⟩
    walk_at "d"
    exact rfl
  refine r_seq (r_asg ?_)
  refine ev_cut [x, y, z] (fun n => decide (n % 2 = 1)) (ei_seqT ?_)
  walk_at "d"
  refine ⟨_, rfl, rfl, le_lit rfl, fun n hn => ?_, ?_⟩
  · walk_at "d"
    refine ⟨rfl, fun hb => ?_⟩
    walk_at "d"
    exact rfl
  by_cases hx : x % 2 = 0
  · have hy : y % 2 = 1 := by omega
    have hz : z % 2 = 1 := by omega
    have ny : ¬ y % 2 = 0 := by omega
    have nz : ¬ z % 2 = 0 := by omega
    have nx : ¬ x % 2 = 1 := by omega
    have f1 : [x, y, z].filter (fun n => decide (n % 2 = 0)) = [x] := by simp [hx, hy, hz, ny, nz, nx]
    have f2 : [x, y, z].filter (fun n => decide (n % 2 = 1)) = [y, z] := by simp [hx, hy, hz, ny, nz, nx]
    rw [f1, f2]
    walk_at "d"
    refine g_eqD 5 rfl rfl (by decide) ?_
    refine ⟨_, rfl, ?_⟩
    refine iteF ?_
    walk_at "d"
    refine ⟨_, rfl, ?_⟩
    walk_at "d"
    refine ⟨_, rfl, ?_⟩
    walk_at "d"
    refine ite_ndec (fun h => ?_) (fun h => ?_)
    · walk_at "d"
      refine ⟨_, rfl, ?_⟩
      walk_at "d"
      refine ⟨_, rfl, ?_⟩
      walk_at "d"
      refine ⟨_, rfl, ?_⟩
      walk_at "d"
      exact ret_v (by simp [twoB, hx, hy, hz, ny, nz, nx, h])
    · exact ret_v (by simp [twoB, hx, hy, hz, ny, nz, nx, h])
  have nx : x % 2 = 1 := by omega
  by_cases hy : y % 2 = 0
  · have hz : z % 2 = 1 := by omega
    have ny : ¬ y % 2 = 1 := by omega
    have nz : ¬ z % 2 = 0 := by omega
    have f1 : [x, y, z].filter (fun n => decide (n % 2 = 0)) = [y] := by simp [hx, hy, hz, ny, nz, nx]
    have f2 : [x, y, z].filter (fun n => decide (n % 2 = 1)) = [x, z] := by simp [hx, hy, hz, ny, nz, nx]
    rw [f1, f2]
    walk_at "d"
    refine g_eqD 5 rfl rfl (by decide) ?_
    refine ⟨_, rfl, ?_⟩
    refine iteF ?_
    walk_at "d"
    refine ⟨_, rfl, ?_⟩
    walk_at "d"
    refine ⟨_, rfl, ?_⟩
    walk_at "d"
    refine ite_ndec (fun h => ?_) (fun h => ?_)
    · walk_at "d"
      refine ⟨_, rfl, ?_⟩
      walk_at "d"
      refine ⟨_, rfl, ?_⟩
      walk_at "d"
      refine ⟨_, rfl, ?_⟩
      walk_at "d"
      exact ret_v (by simp [twoB, hx, hy, hz, ny, nz, nx, h])
    · exact ret_v (by simp [twoB, hx, hy, hz, ny, nz, nx, h])
  have ny : y % 2 = 1 := by omega
  by_cases hz : z % 2 = 0
  · have nz : ¬ z % 2 = 1 := by omega
    have f1 : [x, y, z].filter (fun n => decide (n % 2 = 0)) = [z] := by simp [hx, hy, hz, ny, nz, nx]
    have f2 : [x, y, z].filter (fun n => decide (n % 2 = 1)) = [x, y] := by simp [hx, hy, hz, ny, nz, nx]
    rw [f1, f2]
    walk_at "d"
    refine g_eqD 5 rfl rfl (by decide) ?_
    refine ⟨_, rfl, ?_⟩
    refine iteF ?_
    walk_at "d"
    refine ⟨_, rfl, ?_⟩
    walk_at "d"
    refine ⟨_, rfl, ?_⟩
    walk_at "d"
    refine ite_ndec (fun h => ?_) (fun h => ?_)
    · walk_at "d"
      refine ⟨_, rfl, ?_⟩
      walk_at "d"
      refine ⟨_, rfl, ?_⟩
      walk_at "d"
      refine ⟨_, rfl, ?_⟩
      walk_at "d"
      exact ret_v (by simp [twoB, hx, hy, hz, ny, nz, nx, h])
    · exact ret_v (by simp [twoB, hx, hy, hz, ny, nz, nx, h])
  have nz : z % 2 = 1 := by omega
  have f1 : [x, y, z].filter (fun n => decide (n % 2 = 0)) = [] := by simp [hx, hy, hz]
  have f2 : [x, y, z].filter (fun n => decide (n % 2 = 1)) = [x, y, z] := by simp [nx, ny, nz]
  rw [f1, f2]
  walk_at "d"
  refine g_eqD 5 rfl rfl (by decide) ?_
  refine ⟨_, rfl, ?_⟩
  refine iteT ?_
  walk_at "d"
  refine ev_lcR (fun d d' => (d = .int 0 → d' = .bl (decide ((x + z) % 4 = 0))) ∧ (d = .int 1 → d' = .bl (decide ((y + x) % 4 = 0))) ∧ (d = .int 2 → d' = .bl (decide ((z + y) % 4 = 0)))) (ei_range1 ?_)
  walk_at "d"
  refine ⟨3, rfl, by decide, by decide, le_lit rfl, fun j d hj => ?_, ?_⟩
  · obtain ⟨hjl, rfl⟩ := rangeD_get hj
    have h3 : j = 0 ∨ j = 1 ∨ j = 2 := by have hjl : j < 3 := hjl; omega
    rcases h3 with rfl | rfl | rfl
    · walk_at "d"
      refine ⟨_, rfl, ?_⟩
      walk_at "d"
      refine ⟨_, rfl, ?_⟩
      walk_at "d"
      exact ⟨_, rfl, fun _ => rfl, fun h => absurd (V.int.inj (D.raw.inj h)) (by decide), fun h => absurd (V.int.inj (D.raw.inj h)) (by decide)⟩
    · walk_at "d"
      refine ⟨_, rfl, ?_⟩
      walk_at "d"
      refine ⟨_, rfl, ?_⟩
      walk_at "d"
      exact ⟨_, rfl, fun h => absurd (V.int.inj (D.raw.inj h)) (by decide), fun _ => rfl, fun h => absurd (V.int.inj (D.raw.inj h)) (by decide)⟩
    · walk_at "d"
      refine ⟨_, rfl, ?_⟩
      walk_at "d"
      refine ⟨_, rfl, ?_⟩
      walk_at "d"
      exact ⟨_, rfl, fun h => absurd (V.int.inj (D.raw.inj h)) (by decide), fun h => absurd (V.int.inj (D.raw.inj h)) (by decide), fun _ => rfl⟩
  rintro ds ⟨c0, _, rfl, ⟨g0, _, _⟩, c1, _, rfl, ⟨_, g1, _⟩, c2, _, rfl, ⟨_, _, g2⟩, hnil⟩
  have hnil : _ = [] := hnil
  subst hnil
  cases g0 rfl
  cases g1 rfl
  cases g2 rfl
  refine ea_nil ?_
  refine ec_any (bs := [decide ((x + z) % 4 = 0), decide ((y + x) % 4 = 0), decide ((z + y) % 4 = 0)]) .v ?_
  refine ⟨_, rfl, ?_⟩
  exact ret_v (by simp [twoB, hx, hy, hz])

end
section
variable {P : Program} {w : World} {K : PySem.W.Frag} {mg : Str → Option Value} {base : Heap} {a : Adr}
/-! ### the source of draws -/
theorem mix_get {cells : List Int} {i : Nat} {y : V} (h : (cells.map V.int)[i]? = some y) : ∃ z, cells[i]? = some z ∧ y = .int z := by
  rw [List.getElem?_map] at h
  obtain ⟨z, hz, e⟩ := Option.map_eq_some_iff.mp h
  exact ⟨z, hz, e.symm⟩
theorem ok__law_mix (C : Ctx K mg a) : FnAt P w K mg base CX0 1 "_law_mix" ["_law_script", "_law_seed"] (spMix K) := by
  refine fn_atR C.d__law_mix sc__law_mix (fun vs H Q E h => ?_) fun f cdv A outer s H E hr => ⟨_, (pss_cons (ps_set (i := 2) sc__law_mix.nd rfl (by first | exact Or.inl rfl | exact Or.inr rfl) (pv 1))
    (pss_cons (ps_for PassesOwn.never rfl (pi_seq (K := K) (pv 0)) (pg_name (i := 3) sc__law_mix.nd rfl (by first | exact Or.inl rfl | exact Or.inr rfl))
    (pss_one (ps_set (i := 2) sc__law_mix.nd rfl (by first | exact Or.inl rfl | exact Or.inr rfl) (pe_op op_gMod (pe_int1 C.B.int rfl (pa_cons (pe_op (op_gAdd (K := K)) (pe_op (op_gAdd (K := K)) (pe_op (op_gMul (K := K)) (pv 2) pe_int) (pe_op op_gMod (pe_int1 C.B.int rfl (pa_cons (pv 3) pa_nil)) pe_int)) pe_int) pa_nil)) pe_int))))
    (pss_one (ps_ret (pe_lst (pa_cons (pv 2) (pa_cons (pe_listOf (K := K) C.B.list rfl (pa_cons (pv 0) pa_nil)) (pa_cons pe_int pa_nil)))))))), fun vs Q E' h => ?_⟩
  · obtain ⟨a, cells, seed, rfl, _⟩ := h
    rfl
  · obtain ⟨b, cells, seed, rfl, hs, h63, s0, s1, k⟩ := h
    refine ⟨_, rfl, ⟨_, rfl, b, rfl, .inl ⟨⟨_, hs⟩, for_list (K := K) (a := b) (xs := cells.map V.int) (fun i σ H2 => ∃ (z : Int) (v : Option V), σ = [some (.ref b), some (.int seed), some (.int z), v] ∧ 0 ≤ z ∧ z < 2147483647 ∧ H2 = H)
      ⟨seed, none, rfl, s0, s1, rfl⟩ (fun i σ H2 _ ⟨_, _, _, _, _, e⟩ => by rw [e]; exact hs) ?_ ?_⟩⟩⟩
    · rintro i y σ H2 hi ⟨z, v, rfl, z0, z1, rfl⟩
      obtain ⟨c, hc, rfl⟩ := mix_get hi
      refine ⟨_, rfl, .inl (.inl ⟨z, 48271, rfl, rfl, ?_, ?_⟩)⟩
      · exact mulW (a := 40) (b := 40) (by omega) (by decide) (by decide)
      · refine ⟨_, rfl, .inl ⟨c, rfl, .inl ⟨c, 2147483629, rfl, rfl, by show (0 : Int) < 2147483629; decide, ?_⟩⟩⟩
        refine .inl ⟨_, _, rfl, rfl, .inl ⟨_, _, rfl, rfl, .inl ⟨_, rfl, .inl ⟨_, 2147483647, rfl, rfl, by show (0 : Int) < 2147483647; decide, ?_⟩⟩⟩⟩
        exact ⟨_, some (.int c), rfl, Int.emod_nonneg _ (by decide), Int.emod_lt_of_pos _ (by decide), rfl⟩
    · rintro σ H2 ⟨z, v, rfl, z0, z1, rfl⟩
      refine ⟨_, rfl, ⟨_, rfl, b, cells.map V.int, rfl, .inl hs, fun q hq => ⟨by show 3 ≤ sizeLine; decide, fun p hp => ?_⟩⟩⟩
      have hpq : p ≠ q := fun e => by rw [e, upd_same] at hp; cases hp
      refine k (p, q) _ (by rw [upd_ne hpq] at hp; exact hp) hq (fun c o h => ?_) ⟨z, 0, cells, hpq, upd_same, ?_, z0, z1, h63, by decide⟩
      · rw [upd_ne (ne_of_none (by rw [upd_ne (ne_of_none h hq)]; exact h) hp), upd_ne (ne_of_none h hq)]; exact h
      · show upd (upd H2 q _) p _ q = _
        rw [upd_ne (Ne.symm hpq), upd_same]
/-- a draw below a cap -/
abbrev SpDraw (K : PySem.W.Frag) : Sp := SpG K (fun cap : Int => [.int cap]) (fun cap => 1 ≤ cap ∧ cap.natAbs < 2 ^ 1000) (fun cap d => ∃ r, d = .int r ∧ 0 ≤ r ∧ r < cap)
theorem ok__law_next (C : Ctx K mg a) : FnAt P w K mg base CX0 1 "_law_next" ["_law_h", "_law_cap"] (SpDraw K) := by
  refine fn_atR C.d__law_next sc__law_next (fun vs H Q E h => ?_) fun f cdv A outer s H E hr => ⟨_, (pss_cons (ps_set (i := 2) sc__law_next.nd rfl (by first | exact Or.inl rfl | exact Or.inr rfl) (pe_ix (ix_any (K := K)) (pe_op (op_gAdd (K := K)) (pe_ix (ix_any (K := K)) (pv 0) pe_int (fun _ _ => rfl)) (pe_lst (pa_cons pe_int pa_nil))) (pe_op op_gMod (pe_int1 C.B.int rfl (pa_cons (pe_ix (ix_any (K := K)) (pv 0) pe_int (fun _ _ => rfl)) pa_nil)) (pe_max2 C.B.max rfl rfl (pa_cons pe_int (pa_cons (pe_len (K := K) C.B.len rfl (pa_cons (pe_ix (ix_any (K := K)) (pv 0) pe_int (fun _ _ => rfl)) pa_nil)) pa_nil)))) (fun _ _ => rfl)))
    (pss_cons (ps_if (pt_cmpR op_gGe (pv 2) (pe_op op_gPow pe_int pe_int) (nomark _))
    (pss_cons (ps_asg (pe_op op_gDiv (pv 2) (pv 1)) (pg_sub (pe_ix (ix_any (K := K)) (pv 0) pe_int (fun _ _ => rfl)) (pe_op op_gMod (pe_int1 C.B.int rfl (pa_cons (pe_ix (ix_any (K := K)) (pv 0) pe_int (fun _ _ => rfl)) pa_nil)) (pe_len (K := K) C.B.len rfl (pa_cons (pe_ix (ix_any (K := K)) (pv 0) pe_int (fun _ _ => rfl)) pa_nil))) set_list))
    (pss_one (ps_ret (pe_op op_gMod (pe_int1 C.B.int rfl (pa_cons (pv 2) pa_nil)) (pv 1)))))
    pss_nil)
    (pss_cons (ps_asg (pe_op op_gMod (pe_int1 C.B.int rfl (pa_cons (pe_op (op_gAdd (K := K)) (pe_op (op_gAdd (K := K)) (pe_op (op_gMul (K := K)) (pe_ix (ix_any (K := K)) (pv 0) pe_int (fun _ _ => rfl)) pe_int) (pe_op (op_gMul (K := K)) (pv 2) pe_int)) pe_int) pa_nil)) pe_int) (pg_sub (pv 0) pe_int set_list))
    (pss_cons (ps_asg (pe_op (op_gAdd (K := K)) (pe_ix (ix_any (K := K)) (pv 0) pe_int (fun _ _ => rfl)) pe_int) (pg_sub (pv 0) pe_int set_list))
    (pss_one (ps_ret (pe_op op_gMod (pe_int1 C.B.int rfl (pa_cons (pe_op op_gDiv (pe_ix (ix_any (K := K)) (pv 0) pe_int (fun _ _ => rfl)) pe_int) pa_nil)) (pv 1)))))))), fun vs Q E' h => ?_⟩
  · obtain ⟨cap, α, F, o, _⟩ := h
    exact o.length.symm
  · obtain ⟨cap, α, F, o, S, ⟨c1, c2⟩, k⟩ := h
    obtain ⟨v, r, rfl, ⟨p, hp, rfl⟩, o2⟩ := o
    have e2 := sls1 o2
    subst e2
    obtain ⟨hF1, hF2, st, ix, cells, hne, h1, h2, s0, s1, h63, i0⟩ := S.ob 0 .rng p rfl hp
    have hpa : p ∈ α := List.mem_of_getElem? hp
    have hα : α = [p] := by
      have := S.len
      match α, hp, this with
      | [q], hp, _ => simp at hp; rw [hp]
    -- what a state behind is worth
    have fin : ∀ (H' : Hp) (d : Int) (st' ix' : Int) (cells' : List Int), (∀ b o, H b = some o → b ≠ p.1 → b ≠ p.2 → H' b = some o) → H' p.1 = some (.lst [.int st', .ref p.2, .int ix']) → H' p.2 = some (.lst (cells'.map V.int)) → 0 ≤ st' → st' < 2147483647 → cells'.length ≤ 63 → 0 ≤ ix' → 0 ≤ d → d < cap → Q (.int d) H' := by
      intro H' d st' ix' cells' fr g1 g2 t0 t1 t2 t3 d0 d1
      have tr : ∀ b, H b ≠ none → H' b ≠ none := fun b hb => by
        by_cases e1 : b = p.1
        · rw [e1, g1]; simp
        · by_cases e2 : b = p.2
          · rw [e2, g2]; simp
          · cases z : H b with
            | none => exact absurd z hb
            | some o => rw [fr b o z e1 e2]; simp
      have sub : Same F H' := fun b o z => fr b o (S.sub b o z) (fun e => by { rw [e, hF1] at z; cases z }) (fun e => by { rw [e, hF2] at z; cases z })
      refine k (.int d) F H' (.int d) [.rng] ⟨.refl F, fun b o z q => fr b o z (q p hpa).1 (q p hpa).2, tr, fun b z => .inl z⟩ ?_ rfl ⟨rfl, d, rfl, d0, d1⟩
      refine ⟨sub, S.len, fun i m q g3 g4 => ?_, S.ap, fun q hq => ⟨tr _ (S.tr q hq).1, tr _ (S.tr q hq).2⟩⟩
      cases i with
      | zero =>
        rw [hp] at g4
        simp at g3 g4
        subst g3; subst g4
        exact ⟨hF1, hF2, st', ix', cells', hne, g1, g2, t0, t1, t2, t3⟩
      | succ i => simp at g3
    let m : Int := if (cells.length : Int) > 1 then (cells.length : Int) else 1
    have hm : 0 < m := by show 0 < (if (cells.length : Int) > 1 then (cells.length : Int) else 1); split <;> omega
    have hj0 := Int.emod_nonneg ix (show m ≠ 0 by omega)
    have hj1 := Int.emod_lt_of_pos ix hm
    obtain ⟨j, hj⟩ : ∃ j : Nat, ix % m = (j : Int) := ⟨(ix % m).toNat, by omega⟩
    have hjl : j < (cells.map V.int ++ [V.int 0]).length := by
      rw [List.length_append, List.length_map]
      show j < cells.length + 1
      have : m ≤ (cells.length : Int) + 1 := by show (if (cells.length : Int) > 1 then (cells.length : Int) else 1) ≤ _; split <;> omega
      omega
    obtain ⟨c, hc⟩ : ∃ c : Int, (cells.map V.int ++ [V.int 0])[j]? = some (V.int c) := by
      by_cases hl : j < cells.length
      · exact ⟨cells[j], by rw [List.getElem?_append_left (by simpa using hl), List.getElem?_map, List.getElem?_eq_getElem hl]; rfl⟩
      · refine ⟨0, ?_⟩
        rw [List.getElem?_append_right (by simpa using hl)]
        have : j - (cells.map V.int).length = 0 := by rw [List.length_map]; rw [List.length_append, List.length_map] at hjl; have : j < cells.length + 1 := hjl; omega
        rw [this]; rfl
    -- the cell
    refine ⟨_, rfl, .inl ⟨p.1, _, 1, .ref p.2, rfl, rfl, SqL.of h1, rfl, by decide, fun q hq => .inr (.inl (.inl ⟨p.2, q, cells.map V.int, [.int 0], rfl, rfl, ?_, upd_same, ?_, fun u hu => ?_⟩))⟩⟩
    · rw [upd_ne (ne_of_none h2 hq)]; exact h2
    · rw [List.length_map, sizeLine_eq]; show cells.length + 1 ≤ _; omega
    have nq1 := ne_of_none h1 hq
    have nq2 := ne_of_none h2 hq
    have k1 : ∀ o : HO, (upd (upd H q (.lst [.int 0])) u o) p.1 = some (.lst [.int st, .ref p.2, .int ix]) := fun o => by
      rw [upd_ne (ne_of_none (by rw [upd_ne nq1]; exact h1) hu), upd_ne nq1]; exact h1
    have k2 : ∀ o : HO, (upd (upd H q (.lst [.int 0])) u o) p.2 = some (.lst (cells.map V.int)) := fun o => by
      rw [upd_ne (ne_of_none (by rw [upd_ne nq2]; exact h2) hu), upd_ne nq2]; exact h2
    have k3 : ∀ (b : Addr) (o o' : HO), H b = some o → (upd (upd H q (.lst [.int 0])) u o') b = some o := fun b o o' z => by
      have z1 := ne_of_none z hq
      rw [upd_ne (ne_of_none (by rw [upd_ne z1]; exact z) hu), upd_ne z1]; exact z
    refine ⟨_, rfl, .inl ⟨p.1, _, 2, .int ix, rfl, rfl, SqL.of (k1 _), rfl, .inl ⟨ix, rfl, ⟨_, rfl, .inl ⟨p.1, _, 1, .ref p.2, rfl, rfl, SqL.of (k1 _), rfl, ⟨_, cells.length, rfl, .inl ⟨_, SqL.of (k2 _), by rw [List.length_map]⟩, ⟨1, (cells.length : Int), rfl, .inl ⟨ix, m, rfl, rfl, hm, ?_⟩⟩⟩⟩⟩⟩⟩⟩
    refine .inl ⟨u, _, (j : Int), .int c, rfl, congrArg V.int hj, SqL.of upd_same, atI_nat hc, ?_⟩
    -- if cell >= 10 ** 18
    refine ⟨_, rfl, 10, 18, rfl, rfl, ⟨by decide, by decide, by decide⟩, c, _, rfl, rfl, _, rfl, ite_dec (fun hge => ?_) (fun hlt => ?_)⟩
    · have hge : (1000000000000000000 : Int) ≤ c := hge
      have hjc : j < cells.length := by
        by_cases hl : j < cells.length
        · exact hl
        · rw [List.getElem?_append_right (by simpa using hl)] at hc
          have : j - (cells.map V.int).length = 0 := by rw [List.length_map]; rw [List.length_append, List.length_map] at hjl; have : j < cells.length + 1 := hjl; omega
          rw [this] at hc
          have : (0 : Int) = c := by injection hc with hc; injection hc
          omega
      have hlm : 0 < (cells.length : Int) := by omega
      have h3 := Int.emod_nonneg ix (show (cells.length : Int) ≠ 0 by omega)
      have h4 := Int.emod_lt_of_pos ix hlm
      obtain ⟨j2, hj2⟩ : ∃ j2 : Nat, ix % (cells.length : Int) = (j2 : Int) := ⟨(ix % (cells.length : Int)).toNat, by omega⟩
      refine ⟨_, rfl, _, rfl, .inl ⟨c, cap, rfl, rfl, divW (b := 1000) (by omega) c2 (by decide), ?_⟩⟩
      refine ⟨_, rfl, .inl ⟨p.1, _, 1, .ref p.2, rfl, rfl, SqL.of (k1 _), rfl, ?_⟩⟩
      refine ⟨_, rfl, .inl ⟨p.1, _, 2, .int ix, rfl, rfl, SqL.of (k1 _), rfl, .inl ⟨ix, rfl, ?_⟩⟩⟩
      refine ⟨_, rfl, .inl ⟨p.1, _, 1, .ref p.2, rfl, rfl, SqL.of (k1 _), rfl, ⟨_, cells.length, rfl, .inl ⟨_, SqL.of (k2 _), by rw [List.length_map]⟩, .inl ⟨ix, (cells.length : Int), rfl, rfl, hlm, ?_⟩⟩⟩⟩
      refine ⟨p.2, cells.map V.int, (j2 : Int), j2, rfl, congrArg V.int hj2, k2 _, ixN_nat (by rw [List.length_map]; omega), ?_⟩
      refine ⟨_, rfl, .inl ⟨c, rfl, ⟨_, rfl, .inl ⟨c, cap, rfl, rfl, by omega, ?_⟩⟩⟩⟩
      refine fin _ _ st ix (cells.set j2 (c / cap)) (fun b o z z1 z2 => ?_) ?_ ?_ s0 s1 (by rw [List.length_set]; exact h63) i0 (Int.emod_nonneg _ (by omega)) (Int.emod_lt_of_pos _ (by omega))
      · rw [upd_ne z2]; exact k3 b o _ z
      · rw [upd_ne hne]; exact k1 _
      · rw [upd_same, List.map_set]
    · have hlt : ¬ (1000000000000000000 : Int) ≤ c := hlt
      -- h[0] = int(h[0] * 48271 + cell * 69621 + 11) % 2147483647
      refine ⟨_, rfl, .inl ⟨p.1, _, 0, .int st, rfl, rfl, SqL.of (k1 _), rfl, .inl (.inl ⟨st, 48271, rfl, rfl, mulW (a := 40) (b := 40) (by omega) (by decide) (by decide), ?_⟩)⟩⟩
      refine ⟨_, rfl, .inl (.inr ⟨c, 69621, rfl, rfl, .inr ⟨by decide, by decide⟩, ?_⟩)⟩
      refine .inl ⟨_, _, rfl, rfl, .inl ⟨_, _, rfl, rfl, .inl ⟨_, rfl, .inl ⟨_, 2147483647, rfl, rfl, by show (0 : Int) < 2147483647; decide, ?_⟩⟩⟩⟩
      refine ⟨_, rfl, p.1, _, 0, 0, rfl, rfl, k1 _, rfl, ?_⟩
      -- h[2] = h[2] + 1
      refine ⟨_, rfl, .inl ⟨p.1, _, 2, .int ix, rfl, rfl, SqL.of upd_same, rfl, .inl ⟨ix, 1, rfl, rfl, ?_⟩⟩⟩
      refine ⟨_, rfl, p.1, _, 2, 2, rfl, rfl, upd_same, rfl, ?_⟩
      refine ⟨_, rfl, .inl ⟨p.1, _, 0, .int ((st * 48271 + c * 69621 + 11) % 2147483647), rfl, rfl, SqL.of upd_same, rfl, .inl ⟨_, 7, rfl, rfl, ⟨by decide, by decide⟩, ?_⟩⟩⟩
      refine .inl ⟨_, rfl, ⟨_, rfl, .inl ⟨_, cap, rfl, rfl, by omega, ?_⟩⟩⟩
      refine fin _ _ ((st * 48271 + c * 69621 + 11) % 2147483647) (ix + 1) cells (fun b o z z1 z2 => ?_) ?_ ?_ (Int.emod_nonneg _ (by decide)) (Int.emod_lt_of_pos _ (by decide)) h63 (by omega) (Int.emod_nonneg _ (by omega)) (Int.emod_lt_of_pos _ (by omega))
      · rw [upd_ne z1, upd_ne z1]; exact k3 b o _ z
      · rw [upd_same]; rfl
      · rw [upd_ne (Ne.symm hne), upd_ne (Ne.symm hne)]; exact k2 _
/-- one of some things -/
theorem ok__law_pick (C : Ctx K mg a) : FnAt P w K mg base CX0 2 "_law_pick" ["_law_h", "_law_things"] (SpG K (fun ds : List D => [.lst ds]) (fun ds => 1 ≤ ds.length ∧ ds.length ≤ 1000000) (fun ds d => d ∈ ds)) := by
  refine fn_at C.d__law_pick sc__law_pick (fun _ => rfl) fun f cdv A outer s H E hr => ⟨_, (pss_one (ps_ret (pe_ix (ix_any (K := K)) (pv 1) (pe_fn (ok__law_next C) (hr.mono (by omega)) rfl (pa_cons (pv 0) (pa_cons (pe_len (K := K) C.B.len rfl (pa_cons (pv 1) pa_nil)) pa_nil))) (fun _ _ => rfl)))), fun ds e hp he => ?_⟩
  obtain ⟨h1, h2⟩ := hp
  dsimp only [cxOf]
  walk_at "d"
  refine ⟨(ds.length : Int), 0, rfl, rfl, ⟨by omega, ?_⟩, fun r hr' => ?_⟩
  · have : (1000000 : Nat) < 2 ^ 1000 := Nat.lt_of_lt_of_le (show 1000000 < 2 ^ 20 by decide) (Nat.pow_le_pow_right (by decide) (by decide))
    omega
  obtain ⟨i, rfl, i0, i1⟩ := hr'
  walk_at "d"
  obtain ⟨j, rfl⟩ : ∃ j : Nat, i = (j : Int) := ⟨i.toNat, by omega⟩
  have hj : j < ds.length := by omega
  refine ⟨ds[j], atI_nat (List.getElem?_eq_getElem hj), ret_v ⟨rfl, List.getElem_mem hj⟩⟩

end
section
variable {P : Program} {w : World} {K : PySem.W.Frag} {mg : Str → Option Value} {base : Heap} {a : Adr}
/-! ### the plain law of normal weights -/
theorem prodL_nI (ps : List Nat) : prodL (nI ps) = (ps.prod : Nat) := by
  have : ∀ (ps : List Nat) (a : Int), (nI ps).foldl (· * ·) a = a * (ps.prod : Nat) := by
    intro ps
    induction ps with
    | nil => intro a; simp [nI]
    | cons p ps ih =>
      intro a
      show (nI ps).foldl (· * ·) (a * (p : Int)) = _
      rw [ih, List.prod_cons, Int.natCast_mul, Int.mul_assoc]
  have := this ps 1
  rw [Int.one_mul] at this
  exact this
theorem brb_swap (a b c p : Nat) : brb a b c p = brb a c b p := by
  unfold brb
  cases ob a p <;> cases ob b p <;> cases ob c p <;> rfl
theorem Bars.swap {a b c : Nat} {bs : List Nat} (h : Bars a b c bs) : Bars a c b bs := ⟨h.asc, fun p => by rw [h.mem, brb_swap]⟩
theorem Bars.pr {a b c : Nat} {bs : List Nat} (h : Bars a b c bs) : ∀ p, p ∈ bs → NT.Pr p := fun p hp => ((h.mem p).mp hp).1
theorem Bars.pos {a b c : Nat} {bs : List Nat} (h : Bars a b c bs) : 0 < bs.prod := NT.prod_pos bs h.pr
theorem Bars.vp {a b c : Nat} {bs : List Nat} (h : Bars a b c bs) {p : Nat} (hp : NT.Pr p) : NT.vp p bs.prod = if brb a b c p = true then 1 else 0 := by
  rw [NT.vp_prod hp bs (NT.asc_nodup h.asc) h.pr]
  by_cases z : brb a b c p = true
  · rw [if_pos z, if_pos ((h.mem p).mpr ⟨hp, z⟩)]
  · rw [if_neg z, if_neg fun y => z ((h.mem p).mp y).2]
theorem ob_dvd {n p : Nat} (hn : 0 < n) (hp : NT.Pr p) (h : ob n p = true) : p ∣ n := (NT.vp_pos hp.1 hn).mpr (by rw [ob, decide_eq_true_eq] at h; omega)
theorem Bars.dvd {a b c : Nat} (ha : 0 < a) (hb : 0 < b) {bs : List Nat} (h : Bars a b c bs) : bs.prod ∣ a * b := by
  refine NT.prod_dvd (Nat.mul_pos ha hb) bs (NT.asc_nodup h.asc) fun p hp => ⟨h.pr p hp, ?_⟩
  have q := ((h.mem p).mp hp).2
  unfold brb at q
  cases h1 : ob a p
  · cases h2 : ob b p
    · rw [h1, h2] at q; simp at q
    · exact Nat.dvd_mul_left_of_dvd (ob_dvd hb (h.pr p hp) h2) _
  · exact Nat.dvd_mul_right_of_dvd (ob_dvd ha (h.pr p hp) h1) _
theorem Bars.le {v u : List Int} {c : Nat} (hv : Wt v) (hu : Wt u) {bs : List Nat} (h : Bars (nP v) (nP u) c bs) : bs.prod < 2 ^ 200 := by
  have := Nat.le_of_dvd (Nat.mul_pos hv.pos hu.pos) (h.dvd hv.pos hu.pos)
  have h2 := Nat.mul_le_mul hv.le30 hu.le30
  have h3 : 10 ^ 30 * 10 ^ 30 < 2 ^ 200 := by decide
  omega
/-- one pair of places -/
structure Two (A n B m : Int) : Prop where
  pos : 0 < A * n
  cop : Nat.gcd A.natAbs B.natAbs = 1
  sq : ∃ r : Int, 0 ≤ r ∧ A * n * (B * m) = r * r
theorem prod_dvd_mem {q : Nat} (hq : NT.Pr q) : ∀ {ps : List Nat}, (∀ p, p ∈ ps → NT.Pr p) → q ∣ ps.prod → q ∈ ps
  | [], _, h => absurd (by simpa using h) hq.one
  | p :: ps, hp, h => by
    rw [List.prod_cons] at h
    rcases hq.dvd_mul h with z | z
    · rw [hq.eq (hp p (by simp)) z]; simp
    · exact List.mem_cons_of_mem _ (prod_dvd_mem hq (fun r hr => hp r (by simp [hr])) z)

end
section
variable {P : Program} {w : World} {K : PySem.W.Frag} {mg : Str → Option Value} {base : Heap} {a : Adr}
def NV.rest0 (x : NV) : Int := -x.A2 * x.A1
def NV.rest1 (x : NV) : Int := -x.A0 * x.A2
def NV.rest2 (x : NV) : Int := -x.A1 * x.A0
def offB (p : Nat) (B : List Nat) (r : Int) : Prop := 2 < p ∧ p ∈ B ∧ NT.sq p r = false
def NV.Bad (x : NV) (p : Nat) : Prop := (p = 0 ∧ x.s0 = x.s1 ∧ x.s1 = x.s2) ∨ (p = 2 ∧ twoB x.A0 x.A1 x.A2 = true) ∨ offB p x.B0 x.rest0 ∨ offB p x.B1 x.rest1 ∨ offB p x.B2 x.rest2
def NV.upTo (x : NV) (i p : Nat) : Prop := ((p = 0 ∧ x.s0 = x.s1 ∧ x.s1 = x.s2) ∨ (p = 2 ∧ twoB x.A0 x.A1 x.A2 = true)) ∨ (0 < i ∧ offB p x.B0 x.rest0) ∨ (1 < i ∧ offB p x.B1 x.rest1) ∨ (2 < i ∧ offB p x.B2 x.rest2)
theorem odd_prod {B : List Nat} (hp : ∀ p, p ∈ B → NT.Pr p) (h : 2 ∉ B) : B.prod % 2 = 1 := by
  have h2 : NT.Pr 2 := ⟨by decide, fun d hd => by
    have := Nat.le_of_dvd (by decide) hd
    have : d ≠ 0 := by rintro rfl; exact absurd hd (by decide)
    omega⟩
  refine Classical.byContradiction fun z => ?_
  exact h (prod_dvd_mem h2 hp (Nat.dvd_of_mod_eq_zero (by omega)))
theorem odd_A {s : Int} {B : List Nat} (hs : s = 1 ∨ s = -1) (hp : ∀ p, p ∈ B → NT.Pr p) (h : 2 ∉ B) : (s * prodL (nI B)) % 2 = 1 := by
  have := odd_prod hp h
  rw [prodL_nI]
  rcases hs with e | e <;> rw [e] <;> omega
theorem NV.Fine.one {x : NV} (h : x.Fine) : OneEv x.A0 x.A1 x.A2 := by
  have o0 : 2 ∉ x.B0 → x.A0 % 2 = 1 := odd_A h.ok.s0 h.p0
  have o1 : 2 ∉ x.B1 → x.A1 % 2 = 1 := odd_A h.ok.s1 h.p1
  have o2 : 2 ∉ x.B2 → x.A2 % 2 = 1 := odd_A h.ok.s2 h.p2
  refine ⟨?_, ?_, ?_⟩
  · by_cases z : 2 ∈ x.B0
    · exact .inr (o1 (h.d01 2 z))
    · exact .inl (o0 z)
  · by_cases z : 2 ∈ x.B0
    · exact .inr (o2 (h.d02 2 z))
    · exact .inl (o0 z)
  · by_cases z : 2 ∈ x.B1
    · exact .inr (o2 (h.d12 2 z))
    · exact .inl (o1 z)
theorem mems_one {a b c : Int} {ms : List Int} (h : Mems [a, b, c] ms) : ((ms.length : Int) = 1) ↔ a = b ∧ b = c := by
  constructor
  · intro hl
    have hl : ms.length = 1 := by omega
    obtain ⟨m, rfl⟩ := List.length_eq_one_iff.mp hl
    have ha := (h.2 a).mpr (by simp)
    have hb := (h.2 b).mpr (by simp)
    have hc := (h.2 c).mpr (by simp)
    simp at ha hb hc
    exact ⟨by rw [ha, hb], by rw [hb, hc]⟩
  · rintro ⟨rfl, rfl⟩
    have h1 := h.1.length_le_of_subset (l₂ := [a]) fun k hk => by
      have := (h.2 k).mp hk
      simpa using this
    have h2 : a ∈ ms := (h.2 a).mpr (by simp)
    have := List.length_pos_of_mem h2
    simp at h1
    omega
theorem ok_bars_of (C : Ctx K mg a) : FnAt P w K mg base CX0 4 "bars_of" ["shape"] (SpP K (fun x : NV => [nmD a.Normal x]) NV.Fine (fun x d => ∃ L : List Nat, d = lI L ∧ L.Pairwise (· < ·) ∧ ∀ p, p ∈ L ↔ x.Bad p)) := by
  refine fn_at C.d_bars_of sc_bars_of (fun _ => rfl) fun f cdv A outer s H E hr => ⟨_, (pss_cons (ps_set (i := 1) sc_bars_of.nd rfl (by first | exact Or.inl rfl | exact Or.inr rfl) (pe_mth0 (ok_Normal_all_weights C) C.k_Normal.cl (hr.mono (by omega)) (pv 0)))
    (pss_cons (ps_set (i := 2) sc_bars_of.nd rfl (by first | exact Or.inl rfl | exact Or.inr rfl) (pe_ifExp (pt_cmpR (op_gEq (K := K) (by exact hr.units)) (pe_lenSet (K := K) rfl C.B.len C.B.set rfl rfl (pe_at (K := K) (pv 0))) pe_int (nomark _)) (pe_lst (pa_cons pe_int pa_nil)) (pe_lst pa_nil)))
    (pss_cons (ps_if (pt_val (pe_fn (ok_two_bars C) (hr.mono (by omega)) rfl (pa_cons (pv 1) pa_nil)))
    (pss_one (ps_expr (pe_bm PySem.F.plainAttrs_list PySem.F.slot_list_append PySem.F.type_list_append mt_append (pv 2) (pa_cons pe_int pa_nil))))
    pss_nil)
    (pss_cons (ps_for PassesOwn.never rfl (pi_range1 rfl C.B.range (pa_cons pe_int pa_nil)) (pg_name (i := 3) sc_bars_of.nd rfl (by first | exact Or.inl rfl | exact Or.inr rfl))
    (pss_cons (ps_set (i := 4) sc_bars_of.nd rfl (by first | exact Or.inl rfl | exact Or.inr rfl) (pe_op (op_gMul (K := K)) (pe_un un_neg (pe_ix (ix_any (K := K)) (pv 1) (pe_op op_gSub (pv 3) pe_int) (fun _ _ => rfl))) (pe_ix (ix_any (K := K)) (pv 1) (pe_op op_gSub (pv 3) pe_int) (fun _ _ => rfl))))
    (pss_one (ps_aug (i := 2) sc_bars_of.nd rfl (by first | exact Or.inl rfl | exact Or.inr rfl) (pe_lc (own := [("prime", 5)]) (g := (gName 5)) (tt := _) rfl sc_bars_of.nd (pi_seq (K := K) (pe_ix (ix_any (K := K)) (pe_at (K := K) (pv 0)) (pv 3) (fun _ _ => rfl))) (blkOk_by (N := n_bars_of) (sc := defScope s_bars_of) (by decide +kernel)) (fun _ _ _ _ _ => (pg_name (i := 5) sc_bars_of.nd rfl (by first | exact Or.inl rfl | exact Or.inr rfl))) (fun _ _ _ _ _ => (pts_one (PW.pt (pw_and (pt_cmpR op_gGt (pv 5) pe_int (nomark _)) (pw_and1 (pt_not (pt_val (pe_fn (ok_is_square C) (hr.mono (by omega)) rfl (pa_cons (pv 4) (pa_cons (pv 5) pa_nil)))))))))) (fun _ _ _ _ _ => (pv 5))) ip_ext))))
    (pss_one (ps_ret (pe_sortedI (K := K) C.B.sorted rfl (pa_cons (pv 2) pa_nil)))))))), fun x e hp he => ?_⟩
  have hp : x.Fine := hp
  dsimp only [cxOf]
  refine r_seq (r_asg ?_)
  refine ev_mth ?_
  walk_at "d"
  refine ⟨_, _, rfl, by decide, ?_⟩
  walk_at "d"
  refine ⟨x, rfl, hp.ok, fun d ed => ?_⟩
  subst ed
  -- the signs
  have one := hp.one
  generalize hR : ([some (.v (nmD a.Normal x)), some (.v (.tup (D.ints [x.A0, x.A1, x.A2])))] : Rho) = R at *
  refine r_seq (r_via (fun ρ' M' => ∃ fl : List Nat, ρ' = [some (.v (nmD a.Normal x)), some (.v (.tup (D.ints [x.A0, x.A1, x.A2]))), some (.l 0), none, none, none] ∧ M' = [.lst (D.ints (nI fl))] ∧ fl.Nodup ∧ fl.length ≤ 1 ∧ ∀ p, p ∈ fl ↔ p = 0 ∧ x.s0 = x.s1 ∧ x.s1 = x.s2) (r_asgN (en_if ?_)) ?_)
  · refine et_test (ev_op (ev_lenSet ?_))
    refine ev_at ?_
    walk_at "d"
    refine ⟨_, _, _, rfl, C.k_Normal.cl, C.n_Normal_signs, _, _, rfl, rfl, ?_⟩
    refine ⟨[x.s0, x.s1, x.s2], .v, le_lit rfl, fun ms hm => ?_⟩
    walk_at "d"
    have hone := mems_one hm
    refine ite_dec (fun hb => ?_) (fun hb => ?_)
    · refine en_newL ?_
      walk_at "d"
      exact ⟨[0], rfl, rfl, by simp, by simp, fun p => by simp; exact fun _ => hone.mp hb⟩
    · refine en_newL ?_
      walk_at "d"
      exact ⟨[], rfl, rfl, by simp, by simp, fun p => by simp; exact fun _ h1 h2 => hb (hone.mpr ⟨h1, h2⟩)⟩
  rintro ρ' M' ⟨fl, rfl, rfl, nd, hl, hm⟩
  -- the two
  refine r_seq (r_via (fun ρ' M' => ∃ fl : List Nat, ρ' = [some (.v (nmD a.Normal x)), some (.v (.tup (D.ints [x.A0, x.A1, x.A2]))), some (.l 0), none, none, none] ∧ M' = [.lst (D.ints (nI fl))] ∧ fl.Nodup ∧ fl.length ≤ 2 ∧ ∀ p, p ∈ fl ↔ x.upTo 0 p) ?_ ?_)
  · refine r_if ?_
    walk_at "d"
    refine ⟨(x.A0, x.A1, x.A2), rfl, one, fun d ed => ?_⟩
    subst ed
    refine ⟨_, rfl, ?_⟩
    refine ite_b (fun hb => ?_) (fun hb => ?_)
    · walk_at "d"
      refine ⟨_, rfl, by simp [D.ints, nI]; omega, fl ++ [2], rfl, by simp [D.ints, nI], ?_, by simp; omega, fun p => ?_⟩
      · refine List.nodup_append.mpr ⟨nd, by simp, fun u hu v hv => ?_⟩
        simp at hv; subst hv
        have := ((hm u).mp hu).1
        omega
      · rw [List.mem_append, hm]
        have hb : twoB x.A0 x.A1 x.A2 = true := hb
        simp [NV.upTo, hb]
    · walk_at "n"
      refine ⟨fl, rfl, rfl, nd, by omega, fun p => ?_⟩
      have hb : twoB x.A0 x.A1 x.A2 = false := hb
      rw [hm]
      simp [NV.upTo, hb]
  rintro ρ' M' ⟨fl, rfl, rfl, nd, hl, hm⟩
  walk_at "d"
  refine r_for [3] ?_
  refine ei_range1 ?_
  walk_at "d"
  refine ⟨3, rfl, by decide, by decide, fun i ρ M => ∃ (fl : List Nat) (o3 o4 o5 : Option Sl), ρ = [some (.v (nmD a.Normal x)), some (.v (.tup (D.ints [x.A0, x.A1, x.A2]))), some (.l 0), o3, o4, o5] ∧ M = [.lst (D.ints (nI fl))] ∧ fl.Nodup ∧ fl.length ≤ 2 + i * 1000 ∧ ∀ p, p ∈ fl ↔ x.upTo i p,
    ⟨fl, none, none, none, rfl, rfl, nd, by omega, hm⟩, ?_, ?_⟩
  · rintro i d ρ M hi ⟨fl, o3, o4, o5, rfl, rfl, nd, hl, hm⟩
    obtain ⟨hil, rfl⟩ := rangeD_get hi
    rw [Int.zero_add]
    obtain ⟨B, u, v, hB, hu, hv, ub, vb, sB, bnd, bpr, hup, hdis⟩ : ∃ (B : List Nat) (u v : Int), atI [lI x.B0, lI x.B1, lI x.B2] (i : Int) = some (lI B) ∧ atI (D.ints [x.A0, x.A1, x.A2]) ((i : Int) - 1) = some (.int u) ∧ atI (D.ints [x.A0, x.A1, x.A2]) ((i : Int) - 2) = some (.int v) ∧ u.natAbs < 2 ^ 200 ∧ v.natAbs < 2 ^ 200 ∧ SmallB B ∧ B.Nodup ∧ (∀ p, p ∈ B → NT.Pr p) ∧ (∀ p, x.upTo (i + 1) p ↔ x.upTo i p ∨ offB p B (-u * v)) ∧ ∀ p, x.upTo i p → ¬ offB p B (-u * v) := by
      have h3 : i = 0 ∨ i = 1 ∨ i = 2 := by have hil : i < 3 := hil; omega
      rcases h3 with rfl | rfl | rfl
      · refine ⟨x.B0, x.A2, x.A1, rfl, rfl, rfl, hp.a2, hp.a1, hp.ok.b0, hp.n0, hp.p0, fun p => ?_, fun p => ?_⟩
        · simp [NV.upTo, NV.rest0]
        · simp only [NV.upTo, offB]; rintro ((h | h) | h | h | h) h' <;> omega
      · refine ⟨x.B1, x.A0, x.A2, rfl, rfl, rfl, hp.a0, hp.a2, hp.ok.b1, hp.n1, hp.p1, fun p => ?_, fun p => ?_⟩
        · simp [NV.upTo, NV.rest1]; grind
        · have := hp.d01 p
          simp only [NV.upTo, offB]; rintro ((h | h) | h | h | h) h'
          · omega
          · omega
          · exact this h.2.2.1 h'.2.1
          · omega
          · omega
      · refine ⟨x.B2, x.A1, x.A0, rfl, rfl, rfl, hp.a1, hp.a0, hp.ok.b2, hp.n2, hp.p2, fun p => ?_, fun p => ?_⟩
        · simp [NV.upTo, NV.rest2]; grind
        · have := hp.d02 p
          have t := hp.d12 p
          simp only [NV.upTo, offB]; rintro ((h | h) | h | h | h) h'
          · omega
          · omega
          · exact this h.2.2.1 h'.2.1
          · exact t h.2.2.1 h'.2.1
          · omega
    walk_at "d"
    refine r_asg ?_
    walk_at "d"
    refine ⟨_, hu, ?_⟩
    walk_at "d"
    refine ⟨_, hv, ?_⟩
    have unb : (-u).natAbs < 2 ^ 200 := by omega
    walk_at "d"
    refine ⟨mulW unb vb (by decide), ?_⟩
    have hil2 : i < 3 := hil
    refine r_augL (k := 0) rfl rfl ?_
    refine ev_cut (nI B) (fun n => decide (n > 2) && !NT.sq n.toNat (-u * v)) (ei_seqL ?_)
    refine ev_op (ev_at ?_)
    walk_at "d"
    refine ⟨_, _, _, rfl, C.k_Normal.cl, C.n_Normal_bare, _, _, rfl, rfl, ?_⟩
    walk_at "d"
    refine ⟨_, hB, ?_⟩
    refine ⟨_, rfl, rfl, by have := sB.len; simp; omega, fun n hn => ?_, ?_⟩
    · obtain ⟨p, hpB, rfl⟩ := List.mem_map.mp hn
      have hpr := bpr p hpB
      have p6 := sB.le p hpB
      have h2 := hpr.1
      walk_at "d"
      refine ite_dec (fun h => ?_) (fun h => ?_)
      · walk_at "d"
        refine ⟨(-u * v, p), rfl, ⟨h2, by omega⟩, fun d ed => ?_⟩
        subst ed
        refine ⟨_, rfl, ?_⟩
        refine ⟨by simp; omega, fun hb => ?_⟩
        walk_at "d"
        exact rfl
      · refine ⟨by simp; omega, fun hb => ?_⟩
        cases hb
    · have ef : (nI B).filter (fun n => decide (n > 2) && !NT.sq n.toNat (-u * v)) = nI (B.filter fun p => decide (2 < p) && !NT.sq p (-u * v)) := by
        rw [nI, List.filter_map]
        congr 1
        apply List.filter_congr
        intro p _
        show (decide ((p : Int) > 2) && !NT.sq ((p : Int).toNat) (-u * v)) = (decide (2 < p) && !NT.sq p (-u * v))
        rw [Int.toNat_natCast]
        congr 1
        exact decide_eq_decide.mpr (by omega)
      rw [ef]
      refine ⟨_, rfl, by
        have := List.length_filter_le (fun p => decide (2 < p) && !NT.sq p (-u * v)) B
        have h5 := sB.len
        simp only [D.ints, nI, List.length_map]
        exact Nat.le_trans (Nat.add_le_add_left this _) (by omega), ?_⟩
      have em : ∀ p, p ∈ B.filter (fun p => decide (2 < p) && !NT.sq p (-u * v)) ↔ offB p B (-u * v) := fun p => by
        rw [List.mem_filter]
        simp only [offB, Bool.and_eq_true, decide_eq_true_eq, Bool.not_eq_true']
        grind
      refine ⟨fl ++ B.filter fun p => decide (2 < p) && !NT.sq p (-u * v), _, _, _, rfl, by simp [D.ints, nI], ?_, ?_, fun p => ?_⟩
      · refine List.nodup_append.mpr ⟨nd, bnd.filter _, fun p h1 q h2 e => ?_⟩
        subst e
        exact hdis p ((hm p).mp h1) ((em p).mp h2)
      · have := List.length_filter_le (fun p => decide (2 < p) && !NT.sq p (-u * v)) B
        have := sB.len
        rw [List.length_append]; omega
      · rw [List.mem_append, hm, em, hup]
  · rintro ρ M ⟨fl, o3, o4, o5, rfl, rfl, nd, hl, hm⟩
    walk_at "d"
    refine ec_sortedI (.l rfl) fun ns' pm srt => ?_
    have h0 : ∀ k, k ∈ ns' → 0 ≤ k := fun k hk => by
      obtain ⟨q, _, e⟩ := List.mem_map.mp (pm.mem_iff.mp hk)
      omega
    have nd' : ns'.Nodup := pm.nodup_iff.mpr (by
      rw [nI, List.Nodup, List.pairwise_map]
      exact nd.imp fun h e => h (by omega))
    have asc : ns'.Pairwise (· < ·) := by
      have := srt.and nd'
      exact this.imp fun h => by have := h.1; have := h.2; omega
    obtain ⟨L, rfl, Lasc⟩ := asc_nat h0 asc
    refine ret_v ⟨L, rfl, Lasc, fun p => ?_⟩
    rw [← nI_mem, pm.mem_iff, nI_mem, hm]
    have hl3 : (rangeD 0 (Int.toNat 3)).length = 3 := by rw [rangeD_len]; rfl
    rw [hl3]
    simp only [NV.upTo, NV.Bad]
    simp only [show (0 < 3) = True by simp, show (1 < 3) = True by simp, show (2 < 3) = True by simp, true_and, or_assoc]

end
section
variable {P : Program} {w : World} {K : PySem.W.Frag} {mg : Str → Option Value} {base : Heap} {a : Adr}
/-! ### the places that bar a form of three -/
structure NmOf (v0 v1 v2 : List Int) (x : NV) : Prop where
  nm : Nm v0 v1 v2 x.B0 x.B1 x.B2 x.u0 x.u1 x.u2 x.r0 x.r1 x.r2
  s0 : x.s0 = sgn (prodL v0)
  s1 : x.s1 = sgn (prodL v1)
  s2 : x.s2 = sgn (prodL v2)
theorem bars_dis {a b c : Nat} {x y : List Nat} (hx : Bars a b c x) (hy : Bars b a c y) : ∀ p, p ∈ x → p ∉ y := fun p h1 h2 => by
  have q1 := ((hx.mem p).mp h1).2
  have q2 := ((hy.mem p).mp h2).2
  unfold brb at q1 q2
  cases ha : ob a p <;> cases hb : ob b p <;> cases hc : ob c p <;> simp [ha, hb, hc] at q1 q2
theorem NmOf.fine {v0 v1 v2 : List Int} (w0 : Wt v0) (w1 : Wt v1) (w2 : Wt v2) {x : NV} (ok : x.Ok) (h : NmOf v0 v1 v2 x) : x.Fine := by
  have b0 := h.nm.b0
  have b1 := h.nm.b1
  have b2 := h.nm.b2
  have bit : ∀ {s : Int} {B : List Nat} {A : Int}, (s = 1 ∨ s = -1) → A = s * prodL (nI B) → B.prod < 2 ^ 200 → A.natAbs < 2 ^ 200 := fun {s B A} hs e hb => by
    rw [e, prodL_nI, Int.natAbs_mul]
    rcases hs with h | h <;> rw [h] <;> simpa using hb
  exact ⟨ok, bit ok.s0 rfl (b0.le w0 w1), bit ok.s1 rfl (b1.le w1 w0), bit ok.s2 rfl (b2.le w2 w0), NT.asc_nodup b0.asc, NT.asc_nodup b1.asc, NT.asc_nodup b2.asc, b0.pr, b1.pr, b2.pr, bars_dis b0 b1, bars_dis b0.swap b2, bars_dis b1.swap b2.swap⟩
/-- L are the places that bar three weights -/
def BadL (v0 v1 v2 : List Int) (L : List Nat) : Prop := ∃ x : NV, x.Fine ∧ NmOf v0 v1 v2 x ∧ L.Pairwise (· < ·) ∧ ∀ p, p ∈ L ↔ x.Bad p
theorem ok_four_no (C : Ctx K mg a) : FnAt P w K mg base CX0 1 "four_bars" ["rows"] (SpP K (fun _ : Unit => [.non]) (fun _ => False) (fun _ _ => True)) := fn_never C.d_four_bars fun _ h => h
theorem ok_bad_places (C : Ctx K mg a) : FnAt P w K mg base CX0 6 "bad_places" ["form"] (SpP K (fun x : List Int × List Int × List Int => [fm a.Form [x.1, x.2.1, x.2.2]]) (fun x => Wt x.1 ∧ Wt x.2.1 ∧ Wt x.2.2) (fun v d => ∃ L, d = lI L ∧ BadL v.1 v.2.1 v.2.2 L)) := by
  refine fn_at C.d_bad_places sc_bad_places (fun _ => rfl) fun f cdv A outer s H E hr => ⟨_, (pss_one (ps_ret (pe_ifExp (pt_cmpR (op_gEq (K := K) (by exact hr.units)) (pe_len (K := K) C.B.len rfl (pa_cons (pe_at (K := K) (pv 0)) pa_nil)) pe_int (nomark _)) (pe_fn (ok_bars_of C) (hr.mono (by omega)) rfl (pa_cons (pe_new (ok_Normal C) (hr.mono (by omega)) rfl (pa_cons (pe_at (K := K) (pv 0)) pa_nil)) pa_nil)) (pe_fn (ok_four_no C) (hr.mono (by omega)) rfl (pa_cons (pe_at (K := K) (pv 0)) pa_nil))))), fun x e hp he => ?_⟩
  obtain ⟨v0, v1, v2⟩ := x
  obtain ⟨w0, w1, w2⟩ := hp
  dsimp only [cxOf]
  refine r_ret ?_
  refine ev_if ?_
  refine et_test (ev_op (ev_cb (ea_cons (ev_at ?_))))
  walk_at "d"
  refine ⟨_, _, _, rfl, C.k_Form.cl, C.n_Form_rows, _, _, rfl, rfl, ?_⟩
  walk_at "d"
  refine iteT ?_
  walk_at "d"
  refine ec_new ?_
  refine ea_cons (ev_at ?_)
  walk_at "d"
  refine ⟨_, _, _, rfl, C.k_Form.cl, C.n_Form_rows, _, _, rfl, rfl, ?_⟩
  walk_at "d"
  refine ⟨(v0, v1, v2), rfl, ⟨w0, w1, w2⟩, fun ds hds => ?_⟩
  obtain ⟨x, ex, hx, nm, s0, s1, s2⟩ := NmD.nv (C := a.Normal) w0 w1 w2 hds
  rw [ex]
  have no : NmOf v0 v1 v2 x := ⟨nm, s0, s1, s2⟩
  have fi := no.fine w0 w1 w2 hx
  walk_at "d"
  refine ⟨x, rfl, fi, ?_⟩
  rintro _ ⟨L, rfl, asc, hL⟩
  exact ret_v ⟨L, rfl, x, fi, no, asc, hL⟩
theorem frm3 {v0 v1 v2 : List Int} (w0 : Wt v0) (w1 : Wt v1) (w2 : Wt v2) : Frm [v0, v1, v2] := ⟨.inl rfl, fun n hn => by
  simp only [List.mem_cons, List.not_mem_nil, or_false] at hn
  rcases hn with rfl | rfl | rfl <;> assumption⟩
theorem ec_form3 {ta : TA} {X : XK} {ρ : Rho} {M : List MO} {Q : Sl → Prop} {C : Addr} (h : EvA K ta ρ M fun ss => ∃ v0 v1 v2, ss = [.v (.tup [wt v0, wt v1, wt v2])] ∧ (Wt v0 ∧ Wt v1 ∧ Wt v2) ∧ Q (.v (fm C [v0, v1, v2]))) :
    EvP K (tMake C (SpI K C (fun ws : List (List Int) => [.tup (ws.map wt)]) Frm ["rows", "sums"] (fun ws ds => ds = [.tup (ws.map wt), .tup (D.ints (ws.map prodL))])) [] X ta) ρ M Q := by
  refine ec_new fun σ α F H en S k kk => h σ α F H en S k fun vs F' H' ss m S' o ⟨v0, v1, v2, e, ⟨w0, w1, w2⟩, q⟩ => kk vs F' H' ss m S' o ⟨[v0, v1, v2], e, frm3 w0 w1 w2, fun ds hd => ?_⟩
  subst hd
  exact q
end
section
variable {P : Program} {w : World} {K : PySem.W.Frag} {mg : Str → Option Value} {base : Heap} {a : Adr}
/-! ### weights that are alike have the same normal weights -/
theorem bars_eq {a b c a' b' c' : Nat} {x y : List Nat} (hx : Bars a b c x) (hy : Bars a' b' c' y) (h : ∀ p, NT.Pr p → brb a b c p = brb a' b' c' p) : x = y :=
  NT.asc_eq hx.asc hy.asc fun p => by
    rw [hx.mem, hy.mem]
    exact ⟨fun ⟨q1, q2⟩ => ⟨q1, by rw [← h p q1]; exact q2⟩, fun ⟨q1, q2⟩ => ⟨q1, by rw [h p q1]; exact q2⟩⟩
theorem twoB_neg (x y z : Int) : twoB (-x) (-y) (-z) = twoB x y z := by
  have e : ∀ a b : Int, ∀ m : Int, (m = 2 ∨ m = 4 ∨ m = 8) → a = -b → (decide (a % m = 0) = decide (b % m = 0)) := fun a b m hm h => decide_eq_decide.mpr (by rcases hm with rfl | rfl | rfl <;> omega)
  have p : ∀ a : Int, ((-a) % 2 = 0) = (a % 2 = 0) := fun a => propext (by omega)
  unfold twoB
  simp only [p]
  rw [e (-y + -z) (y + z) 8 (by simp) (by omega), e (-y + -z + -x) (y + z + x) 8 (by simp) (by omega), e (-x + -z) (x + z) 8 (by simp) (by omega), e (-x + -z + -y) (x + z + y) 8 (by simp) (by omega),
    e (-x + -y) (x + y) 8 (by simp) (by omega), e (-x + -y + -z) (x + y + z) 8 (by simp) (by omega), e (-x + -z) (x + z) 4 (by simp) (by omega), e (-y + -x) (y + x) 4 (by simp) (by omega), e (-z + -y) (z + y) 4 (by simp) (by omega)]
/-- one sign, one number times all, squares times each -/
theorem same_eq {v0 v1 v2 u0 u1 u2 : List Int} {x y : NV} {o : Int} (ho : o = 1 ∨ o = -1) (hx : NmOf v0 v1 v2 x) (hy : NmOf u0 u1 u2 y) (hs : sgn (prodL u0) = o * sgn (prodL v0) ∧ sgn (prodL u1) = o * sgn (prodL v1) ∧ sgn (prodL u2) = o * sgn (prodL v2))
    (t : Nat → Bool) (h0 : ∀ p, NT.Pr p → ob (nP u0) p = (ob (nP v0) p ^^ t p)) (h1 : ∀ p, NT.Pr p → ob (nP u1) p = (ob (nP v1) p ^^ t p)) (h2 : ∀ p, NT.Pr p → ob (nP u2) p = (ob (nP v2) p ^^ t p)) :
    y.A0 = o * x.A0 ∧ y.A1 = o * x.A1 ∧ y.A2 = o * x.A2 ∧ ∀ p, x.Bad p ↔ y.Bad p := by
  have br : ∀ {a b c a' b' c' p : Nat}, ob a' p = (ob a p ^^ t p) → ob b' p = (ob b p ^^ t p) → ob c' p = (ob c p ^^ t p) → brb a' b' c' p = brb a b c p := fun {a b c a' b' c' p} ha hb hc => by
    unfold brb
    rw [ha, hb, hc]
    cases ob a p <;> cases ob b p <;> cases ob c p <;> cases t p <;> rfl
  have b0 : y.B0 = x.B0 := bars_eq hy.nm.b0 hx.nm.b0 fun p hp => br (h0 p hp) (h1 p hp) (h2 p hp)
  have b1 : y.B1 = x.B1 := bars_eq hy.nm.b1 hx.nm.b1 fun p hp => br (h1 p hp) (h0 p hp) (h2 p hp)
  have b2 : y.B2 = x.B2 := bars_eq hy.nm.b2 hx.nm.b2 fun p hp => br (h2 p hp) (h0 p hp) (h1 p hp)
  have s0 : y.s0 = o * x.s0 := by rw [hy.s0, hx.s0, hs.1]
  have s1 : y.s1 = o * x.s1 := by rw [hy.s1, hx.s1, hs.2.1]
  have s2 : y.s2 = o * x.s2 := by rw [hy.s2, hx.s2, hs.2.2]
  have a0 : y.A0 = o * x.A0 := by unfold NV.A0; rw [b0, s0, Int.mul_assoc]
  have a1 : y.A1 = o * x.A1 := by unfold NV.A1; rw [b1, s1, Int.mul_assoc]
  have a2 : y.A2 = o * x.A2 := by unfold NV.A2; rw [b2, s2, Int.mul_assoc]
  refine ⟨a0, a1, a2, fun p => ?_⟩
  unfold NV.Bad NV.rest0 NV.rest1 NV.rest2
  rw [a0, a1, a2, b0, b1, b2, s0, s1, s2]
  have e1 : ∀ a b : Int, -(o * a) * (o * b) = -a * b := fun a b => by rcases ho with rfl | rfl <;> grind
  have e2 : twoB (o * x.A0) (o * x.A1) (o * x.A2) = twoB x.A0 x.A1 x.A2 := by
    rcases ho with rfl | rfl
    · simp
    · have := twoB_neg x.A0 x.A1 x.A2
      simpa using this
  have e3 : ∀ a b : Int, (o * a = o * b) = (a = b) := fun a b => propext (by rcases ho with rfl | rfl <;> omega)
  rw [e1, e1, e1, e2, e3, e3]
theorem BadL.len {v0 v1 v2 : List Int} {L : List Nat} (h : BadL v0 v1 v2 L) : L.length ≤ 1000000 := by
  obtain ⟨x, fx, nx, ax, mx⟩ := h
  have sub : L ⊆ 0 :: 2 :: (x.B0 ++ x.B1 ++ x.B2) := fun p hp => by
    rcases (mx p).mp hp with h | h | h | h | h
    · simp [h.1]
    · simp [h.1]
    · simp [h.2.1]
    · simp [h.2.1]
    · simp [h.2.1]
  have := (NT.asc_nodup ax).length_le_of_subset sub
  have := fx.ok.b0.len
  have := fx.ok.b1.len
  have := fx.ok.b2.len
  simp at *
  omega

end
section
variable {P : Program} {w : World} {K : PySem.W.Frag} {mg : Str → Option Value} {base : Heap} {a : Adr}
/-! ### rows by remainders, as the law goes through them -/
/-- some k below i leaves l, its root divisible or not -/
def hasK (c p m : Int) (i : Nat) (l : Int) (f : Bool) : Bool := (List.range i).any fun k => decide (c * (k : Int) * (k : Int) % m = l) && (decide ((k : Int) % p = 0) == f)
def leftK (a b m : Int) (i j : Nat) : Int := (-a * (i : Int) * (i : Int) - b * (j : Int) * (j : Int)) % m
def hitK (a b c p m : Int) (n i j : Nat) : Bool := hasK c p m n (leftK a b m i j) false || (!(decide ((i : Int) % p = 0) && decide ((j : Int) % p = 0)) && hasK c p m n (leftK a b m i j) true)
def barsK (a b c p m : Int) (n : Nat) : Bool := !(List.range n).any fun i => (List.range n).any fun j => hitK a b c p m n i j
theorem hasK_put (c p m : Int) (i : Nat) (l : Int) (f : Bool) : hasK c p m (i + 1) l f = (hasK c p m i l f || decide (kB (c * (i : Int) * (i : Int) % m) (decide ((i : Int) % p = 0)) = kB l f)) := by
  unfold hasK
  rw [List.range_succ, List.any_append]
  congr 1
  simp only [List.any_cons, List.any_nil, Bool.or_false]
  have : decide (kB (c * (i : Int) * (i : Int) % m) (decide ((i : Int) % p = 0)) = kB l f) = decide (c * (i : Int) * (i : Int) % m = l ∧ decide ((i : Int) % p = 0) = f) := by
    congr 1
    exact propext kB_inj
  rw [this, Bool.decide_and]
  cases f <;> simp
structure PreK (a b c p m : Int) (n : Nat) : Prop where
  m : m = (n : Int)
  n : 1 ≤ n ∧ n ≤ 100
  p : 0 < p
  a : a.natAbs < 2 ^ 200
  b : b.natAbs < 2 ^ 200
  c : c.natAbs < 2 ^ 200
theorem nb {i n : Nat} (h : i < n) (h2 : n ≤ 100) : ((i : Int)).natAbs < 2 ^ 10 := by
  rw [Int.natAbs_natCast]
  have : (2 : Nat) ^ 10 = 1024 := by decide
  omega
theorem ok__law_bars (C : Ctx K mg a) : FnAt P w K mg base CX0 1 "_law_bars" ["_law_numbers", "_law_prime", "_law_many"] (SpP K (fun x : (Int × Int × Int) × (Int × Int) × Nat => [.tup (D.ints [x.1.1, x.1.2.1, x.1.2.2]), .int x.2.1.1, .int x.2.1.2]) (fun x => PreK x.1.1 x.1.2.1 x.1.2.2 x.2.1.1 x.2.1.2 x.2.2) (fun x d => d = .bl (barsK x.1.1 x.1.2.1 x.1.2.2 x.2.1.1 x.2.1.2 x.2.2))) := by
  refine fn_at C.d__law_bars sc__law_bars (fun _ => rfl) fun f cdv A outer s H E hr => ⟨_, (pss_cons (ps_set (i := 3) sc__law_bars.nd rfl (by first | exact Or.inl rfl | exact Or.inr rfl) pe_dnewB)
    (pss_cons (ps_for PassesOwn.never rfl (pi_range1 rfl C.B.range (pa_cons (pv 2) pa_nil)) (pg_name (i := 4) sc__law_bars.nd rfl (by first | exact Or.inl rfl | exact Or.inr rfl))
    (pss_one (ps_asg pe_bl (pg_sub (pv 3) (pe_tup (pa_cons (pe_op op_gMod (pe_int1 C.B.int rfl (pa_cons (pe_op (op_gMul (K := K)) (pe_op (op_gMul (K := K)) (pe_ix (ix_any (K := K)) (pv 0) pe_int (fun _ _ => rfl)) (pv 4)) (pv 4)) pa_nil)) (pv 2)) (pa_cons (pe_cmpR (op_gEq (K := K) (by exact hr.units)) (pe_op op_gMod (pe_int1 C.B.int rfl (pa_cons (pv 4) pa_nil)) (pv 1)) pe_int (nomark _)) pa_nil))) (set_B (K := K) (by exact units65 hr))))))
    (pss_cons (ps_for PassesOwn.never rfl (pi_range1 rfl C.B.range (pa_cons (pv 2) pa_nil)) (pg_name (i := 4) sc__law_bars.nd rfl (by first | exact Or.inl rfl | exact Or.inr rfl))
    (pss_one (ps_for PassesOwn.never rfl (pi_range1 rfl C.B.range (pa_cons (pv 2) pa_nil)) (pg_name (i := 5) sc__law_bars.nd rfl (by first | exact Or.inl rfl | exact Or.inr rfl))
    (pss_cons (ps_set (i := 6) sc__law_bars.nd rfl (by first | exact Or.inl rfl | exact Or.inr rfl) (pe_op op_gSub (pe_op (op_gMul (K := K)) (pe_op (op_gMul (K := K)) (pe_un un_neg (pe_ix (ix_any (K := K)) (pv 0) pe_int (fun _ _ => rfl))) (pv 4)) (pv 4)) (pe_op (op_gMul (K := K)) (pe_op (op_gMul (K := K)) (pe_ix (ix_any (K := K)) (pv 0) pe_int (fun _ _ => rfl)) (pv 5)) (pv 5))))
    (pss_cons (ps_set (i := 6) sc__law_bars.nd rfl (by first | exact Or.inl rfl | exact Or.inr rfl) (pe_op op_gMod (pe_int1 C.B.int rfl (pa_cons (pv 6) pa_nil)) (pv 2)))
    (pss_cons (ps_set (i := 7) sc__law_bars.nd rfl (by first | exact Or.inl rfl | exact Or.inr rfl) (pe_and (pe_cmpR (op_gEq (K := K) (by exact hr.units)) (pe_op op_gMod (pe_int1 C.B.int rfl (pa_cons (pv 4) pa_nil)) (pv 1)) pe_int (nomark _)) (pe_one (pe_cmpR (op_gEq (K := K) (by exact hr.units)) (pe_op op_gMod (pe_int1 C.B.int rfl (pa_cons (pv 5) pa_nil)) (pv 1)) pe_int (nomark _)))))
    (pss_one (ps_if (PW.pt (pw_or (pt_cmpR (op_inB (K := K) (by exact units65 hr)) (pe_tup (pa_cons (pv 6) (pa_cons pe_bl pa_nil))) (pv 3) rfl) (pw_or1 (PW.pt (pw_and (pt_not (pt_val (pv 7))) (pw_and1 (pt_cmpR (op_inB (K := K) (by exact units65 hr)) (pe_tup (pa_cons (pv 6) (pa_cons pe_bl pa_nil))) (pv 3) rfl)))))))
    (pss_one (ps_ret pe_bl))
    pss_nil))))))))
    (pss_one (ps_ret pe_bl))))), fun x e hp he => ?_⟩
  obtain ⟨⟨n0, n1, n2⟩, ⟨p, m⟩, n⟩ := x
  have hp : PreK n0 n1 n2 p m n := hp
  obtain ⟨hm, ⟨h1, h100⟩, p0, b0, b1, b2⟩ := hp
  subst hm
  have m0 : (0 : Int) < (n : Int) := by omega
  have he : e.α.length = 0 := he
  dsimp only [cxOf]
  refine r_seq (r_newB fun dd => ?_)
  walk_at "d"
  refine r_for [4] ?_
  refine ei_range1 ?_
  walk_at "d"
  refine ⟨(n : Int), rfl, by omega, by omega, fun i ρ M => ∃ (o4 : Option Sl) (xs : XsB), ρ = [some (.v (.tup (D.ints [n0, n1, n2]))), some (.v (.int p)), some (.v (.int (n : Int))), some (.l 0), o4, none, none, none] ∧ M = [.dB P w K dd xs] ∧ xs.length ≤ i ∧ ∀ l f, hasB xs (kB l f) = hasK n2 p (n : Int) i l f, ⟨_, [], rfl, rfl, Nat.le_refl _, fun l f => rfl⟩, ?_, ?_⟩
  · rintro i d ρ M hi ⟨o4, xs, rfl, rfl, xl, hx⟩
    obtain ⟨hin, rfl⟩ := rangeD_get hi
    rw [Int.toNat_natCast] at hin
    have ib := nb hin h100
    have e0 : (0 : Int) + (i : Int) = (i : Int) := by omega
    rw [e0]
    refine eg_name ?_
    refine r_setB (P := P) (w := w) (K := K) (k := 0) (d := dd) (xs := xs) rfl rfl (by omega) ?_
    walk_at "d"
    refine ⟨rfl, ?_⟩
    walk_at "d"
    refine ⟨_, rfl, ?_⟩
    walk_at "d"
    refine ⟨mulW b2 ib (by omega), ?_⟩
    walk_at "d"
    refine ⟨mulW (mul_lt b2 ib) ib (by omega), ?_⟩
    walk_at "d"
    refine ⟨m0, ?_⟩
    walk_at "d"
    refine ⟨p0, ?_⟩
    walk_at "d"
    refine ⟨_, _, rfl, fun b => ⟨_, _, rfl, rfl, Nat.le_trans (storedH_len ..) (Nat.succ_le_succ xl), fun l f => ?_⟩⟩
    rw [hasB_put, hx, hasK_put]
  · rintro ρ M ⟨o4, xs, rfl, rfl, xl, hx⟩
    rw [rangeD_len, Int.toNat_natCast] at xl
    have hx : ∀ l f, hasB xs (kB l f) = hasK n2 p (n : Int) n l f := by
      intro l f
      have := hx l f
      rw [rangeD_len, Int.toNat_natCast] at this
      exact this
    walk_at "n1"
    refine r_for [4] ?_
    refine ei_range1 ?_
    walk_at "d"
    refine ⟨(n : Int), rfl, by omega, by omega, fun i ρ M => (∃ (o4 o5 o6 o7 : Option Sl), ρ = [some (.v (.tup (D.ints [n0, n1, n2]))), some (.v (.int p)), some (.v (.int (n : Int))), some (.l 0), o4, o5, o6, o7] ∧ M = [.dB P w K dd xs]) ∧ ∀ i', i' < i → ∀ j, j < n → hitK n0 n1 n2 p (n : Int) n i' j = false, ⟨⟨_, _, _, _, rfl, rfl⟩, fun i' h => absurd h (by omega)⟩, ?_, ?_⟩
    · rintro i d ρ M hi ⟨⟨o4, o5, o6, o7, rfl, rfl⟩, hno⟩
      obtain ⟨hin, rfl⟩ := rangeD_get hi
      rw [Int.toNat_natCast] at hin
      have ib := nb hin h100
      have e0 : (0 : Int) + (i : Int) = (i : Int) := by omega
      rw [e0]
      refine eg_name ?_
      refine r_for [5] ?_
      refine ei_range1 ?_
      walk_at "d"
      refine ⟨(n : Int), rfl, by omega, by omega, fun j ρ M => (∃ (o5 o6 o7 : Option Sl), ρ = [some (.v (.tup (D.ints [n0, n1, n2]))), some (.v (.int p)), some (.v (.int (n : Int))), some (.l 0), some (.v (.int (i : Int))), o5, o6, o7] ∧ M = [.dB P w K dd xs]) ∧ ∀ j', j' < j → hitK n0 n1 n2 p (n : Int) n i j' = false, ⟨⟨_, _, _, rfl, rfl⟩, fun j' h => absurd h (by omega)⟩, ?_, ?_⟩
      · rintro j d ρ M hj ⟨⟨o5, o6, o7, rfl, rfl⟩, hnj⟩
        obtain ⟨hjn, rfl⟩ := rangeD_get hj
        rw [Int.toNat_natCast] at hjn
        have jb := nb hjn h100
        have e1 : (0 : Int) + (j : Int) = (j : Int) := by omega
        rw [e1]
        have b0' : (-n0).natAbs < 2 ^ 200 := by rw [Int.natAbs_neg]; exact b0
        refine eg_name ?_
        refine r_seq (r_asg ?_)
        walk_at "d"
        refine ⟨_, rfl, ?_⟩
        walk_at "d"
        refine ⟨mulW b0' ib (by omega), ?_⟩
        walk_at "d"
        refine ⟨mulW (mul_lt b0' ib) ib (by omega), ?_⟩
        walk_at "d"
        refine ⟨_, rfl, ?_⟩
        walk_at "d"
        refine ⟨mulW b1 jb (by omega), ?_⟩
        walk_at "d"
        refine ⟨mulW (mul_lt b1 jb) jb (by omega), ?_⟩
        walk_at "d"
        refine r_asg ?_
        walk_at "d"
        refine ⟨m0, ?_⟩
        walk_at "d"
        refine r_asg (EvP.mono (?_ : EvP K _ _ _ fun s => s = .v (.bl (decide ((i : Int) % p = 0) && decide ((j : Int) % p = 0)))) ?_)
        · walk_at "d"
          refine ⟨p0, ?_⟩
          walk_at "d"
          refine ite_dec (fun h => ?_) (fun h => ?_)
          · walk_at "d"
            refine ⟨p0, ?_⟩
            walk_at "d"
            rw [decide_eq_true h, Bool.true_and]
          · rw [decide_eq_false h, Bool.false_and]
        rintro _ rfl
        have hx0 : (atKey xs (kB (leftK n0 n1 (n : Int) i j) false)).isSome = hasK n2 p (n : Int) n (leftK n0 n1 (n : Int) i j) false := hx _ _
        have hx1 : (atKey xs (kB (leftK n0 n1 (n : Int) i j) true)).isSome = hasK n2 p (n : Int) n (leftK n0 n1 (n : Int) i j) true := hx _ _
        have yes : hitK n0 n1 n2 p (n : Int) n i j = true → RetOk 0 (fun d (_ : List MO) => d = D.bl (barsK n0 n1 n2 p (n : Int) n)) (.v (.bl false)) [.dB P w K dd xs] := fun h => ret_v (by
          have : ((List.range n).any fun i => (List.range n).any fun j => hitK n0 n1 n2 p (n : Int) n i j) = true := by
            rw [List.any_eq_true]
            refine ⟨i, List.mem_range.mpr hin, ?_⟩
            rw [List.any_eq_true]
            exact ⟨j, List.mem_range.mpr hjn, h⟩
          unfold barsK
          rw [this]
          rfl)
        have no : hitK n0 n1 n2 p (n : Int) n i j = false → ∀ j', j' < j + 1 → hitK n0 n1 n2 p (n : Int) n i j' = false := fun h j' h2 => by
          by_cases e : j' = j
          · rw [e]; exact h
          · exact hnj j' (by omega)
        refine r_if (et_or (et_test (ev_op ?_)))
        walk_at "d"
        refine er_inB (k := 0) (d := dd) (xs := xs) rfl ?_
        show ∃ b, Sl.v (.bl (atKey xs (kB (leftK n0 n1 (n : Int) i j) false)).isSome) = Sl.v (.bl b) ∧ _
        rw [hx0]
        refine ⟨_, rfl, ?_⟩
        cases h0 : hasK n2 p (n : Int) n (leftK n0 n1 (n : Int) i j) false with
        | true =>
          refine iteT (iteT ?_)
          walk_at "d"
          exact yes (by unfold hitK; rw [h0]; rfl)
        | false =>
          refine iteF (et_and ?_)
          walk_at "d"
          cases hw : (decide ((i : Int) % p = 0) && decide ((j : Int) % p = 0)) with
          | true =>
            refine iteF (iteF ?_)
            refine r_next ?_
            exact ⟨⟨_, _, _, rfl, rfl⟩, no (by unfold hitK; rw [h0, hw]; rfl)⟩
          | false =>
            refine iteT (et_test (ev_op ?_))
            walk_at "d"
            refine er_inB (k := 0) (d := dd) (xs := xs) rfl ?_
            show ∃ b, Sl.v (.bl (atKey xs (kB (leftK n0 n1 (n : Int) i j) true)).isSome) = Sl.v (.bl b) ∧ _
            rw [hx1]
            refine ⟨_, rfl, ?_⟩
            cases h1' : hasK n2 p (n : Int) n (leftK n0 n1 (n : Int) i j) true with
            | true =>
              refine iteT ?_
              walk_at "d"
              exact yes (by unfold hitK; rw [h0, hw, h1']; rfl)
            | false =>
              refine iteF ?_
              refine r_next ?_
              exact ⟨⟨_, _, _, rfl, rfl⟩, no (by unfold hitK; rw [h0, hw, h1']; rfl)⟩
      · rintro ρ M ⟨⟨o5, o6, o7, rfl, rfl⟩, hnj⟩
        rw [rangeD_len, Int.toNat_natCast] at hnj
        refine ⟨⟨_, _, _, _, rfl, rfl⟩, fun i' h j h2 => ?_⟩
        by_cases e : i' = i
        · subst e
          exact hnj j h2
        · exact hno i' (by omega) j h2
    · rintro ρ M ⟨⟨o4, o5, o6, o7, rfl, rfl⟩, hno⟩
      rw [rangeD_len, Int.toNat_natCast] at hno
      walk_at "d"
      refine ret_v ?_
      have : ((List.range n).any fun i => (List.range n).any fun j => hitK n0 n1 n2 p (n : Int) n i j) = false := by
        rw [List.any_eq_false]
        intro i hi
        rw [Bool.not_eq_true, List.any_eq_false]
        intro j hj
        rw [hno i (List.mem_range.mp hi) j (List.mem_range.mp hj)]
        decide
      show D.bl true = D.bl (barsK n0 n1 n2 p (n : Int) n)
      unfold barsK
      rw [this]
      rfl

end
section
variable {P : Program} {w : World} {K : PySem.W.Frag} {mg : Str → Option Value} {base : Heap} {a : Adr}
/-! ### by remainders: plain -/
def sqs (p : Nat) : List (Nat × Bool) := if p = 2 then [(1, false), (9, false), (0, true), (4, true)] else if p = 3 then [(1, false), (4, false), (7, false), (0, true)] else [(1, false), (4, false), (9, false), (16, false), (0, true), (11, false), (24, false), (14, false), (6, false), (21, false), (19, false)]
def mm (p : Nat) : Nat := if p = 2 then 16 else if p = 3 then 9 else 25
def msk (p c : Nat) (f : Bool) : Nat := (sqs p).foldl (fun w z => if z.2 == f then w ||| (1 <<< (c * z.1 % mm p)) else w) 0
def rowF (p a b w0 w1 : Nat) : Bool := (sqs p).any fun x => (sqs p).any fun y =>
  let l := (mm p - (a * x.1 + b * y.1) % mm p) % mm p
  w0.testBit l || (!(x.2 && y.2) && w1.testBit l)
theorem fold_bit (f : Bool) (g : Nat × Bool → Nat) (l : Nat) : ∀ (L : List (Nat × Bool)) (w : Nat), (L.foldl (fun w z => if z.2 == f then w ||| (1 <<< g z) else w) w).testBit l = (w.testBit l || L.any fun z => (z.2 == f) && decide (g z = l))
  | [], w => by simp
  | z :: L, w => by
    rw [List.foldl_cons, fold_bit f g l L, List.any_cons]
    cases h : (z.2 == f) with
    | false => simp
    | true => simp [Nat.testBit_or, Nat.one_shiftLeft, Nat.testBit_two_pow, Bool.or_assoc]
theorem msk_bit (p c : Nat) (f : Bool) (l : Nat) : (msk p c f).testBit l = (sqs p).any fun z => (z.2 == f) && decide (c * z.1 % mm p = l) := by
  unfold msk
  rw [fold_bit]
  simp
theorem sqs_to : ∀ p, p = 2 ∨ p = 3 ∨ p = 5 → (List.range (mm p)).all (fun i => (sqs p).any fun x => decide (i * i % mm p = x.1) && (x.2 == decide (i % p = 0))) = true := by
  rintro p (rfl | rfl | rfl) <;> decide +kernel
theorem sqs_of : ∀ p, p = 2 ∨ p = 3 ∨ p = 5 → (sqs p).all (fun x => (List.range (mm p)).any fun i => decide (i * i % mm p = x.1) && (x.2 == decide (i % p = 0))) = true := by
  rintro p (rfl | rfl | rfl) <;> decide +kernel
theorem sqs_in {p : Nat} (hp : p = 2 ∨ p = 3 ∨ p = 5) {i : Nat} (h : i < mm p) : ∃ x, x ∈ sqs p ∧ i * i % mm p = x.1 ∧ x.2 = decide (i % p = 0) := by
  have := List.all_eq_true.mp (sqs_to p hp) i (List.mem_range.mpr h)
  obtain ⟨x, hx, e⟩ := List.any_eq_true.mp this
  simp only [Bool.and_eq_true, decide_eq_true_eq, beq_iff_eq] at e
  exact ⟨x, hx, e.1, e.2⟩
theorem sqs_ex {p : Nat} (hp : p = 2 ∨ p = 3 ∨ p = 5) {x : Nat × Bool} (h : x ∈ sqs p) : ∃ i, i < mm p ∧ i * i % mm p = x.1 ∧ x.2 = decide (i % p = 0) := by
  have := List.all_eq_true.mp (sqs_of p hp) x h
  obtain ⟨i, hi, e⟩ := List.any_eq_true.mp this
  simp only [Bool.and_eq_true, decide_eq_true_eq, beq_iff_eq] at e
  exact ⟨i, List.mem_range.mp hi, e.1, e.2⟩
/-- the third's remainder makes it whole -/
theorem l_iff {m s t : Nat} (hm : 0 < m) : t % m = (m - s % m) % m ↔ (s + t) % m = 0 := by
  have h1 := Nat.mod_lt s hm
  have h2 := Nat.mod_lt t hm
  by_cases h0 : s % m = 0
  · rw [h0, Nat.sub_zero, Nat.mod_self, Nat.add_mod, h0, Nat.zero_add, Nat.mod_mod]
  · rw [Nat.mod_eq_of_lt (by omega : m - s % m < m), Nat.add_mod]
    constructor
    · intro e
      rw [e]
      have : s % m + (m - s % m) = m := by omega
      rw [this, Nat.mod_self]
    · intro e
      have := Nat.dvd_of_mod_eq_zero e
      obtain ⟨k, hk⟩ := this
      have k1 : k = 1 := by
        rcases Nat.lt_or_ge k 1 with z | z
        · have : k = 0 := by omega
          subst this; omega
        · rcases Nat.lt_or_ge k 2 with y | y
          · omega
          · have := Nat.mul_le_mul_left m y
            omega
      subst k1
      omega
theorem rowF_iff (p a b c : Nat) (hm : 0 < mm p) : rowF p a b (msk p c false) (msk p c true) = true ↔ ∃ x, x ∈ sqs p ∧ ∃ y, y ∈ sqs p ∧ ∃ z, z ∈ sqs p ∧ (a * x.1 + b * y.1 + c * z.1) % mm p = 0 ∧ ¬ (x.2 = true ∧ y.2 = true ∧ z.2 = true) := by
  unfold rowF
  rw [List.any_eq_true]
  refine exists_congr fun x => and_congr_right fun _ => ?_
  rw [List.any_eq_true]
  refine exists_congr fun y => and_congr_right fun _ => ?_
  simp only [msk_bit, Bool.or_eq_true, Bool.and_eq_true, List.any_eq_true, beq_iff_eq, decide_eq_true_eq, Bool.not_eq_true']
  constructor
  · rintro (⟨z, hz, e, h⟩ | ⟨h0, z, hz, e, h⟩)
    · exact ⟨z, hz, (l_iff hm).mp h, fun k => by rw [e] at k; exact Bool.noConfusion k.2.2⟩
    · exact ⟨z, hz, (l_iff hm).mp h, fun k => by rw [k.1, k.2.1] at h0; exact Bool.noConfusion h0⟩
  · rintro ⟨z, hz, h, k⟩
    cases e : z.2 with
    | false => exact .inl ⟨z, hz, e, (l_iff hm).mpr h⟩
    | true =>
      refine .inr ⟨?_, z, hz, e, (l_iff hm).mpr h⟩
      cases hx : x.2 <;> cases hy : y.2 <;> simp_all
/-- one number by remainders -/
theorem three_mod {m a b c x y z A B C X Y Z : Int} (ha : a % m = A % m) (hb : b % m = B % m) (hc : c % m = C % m) (hx : x % m = X % m) (hy : y % m = Y % m) (hz : z % m = Z % m) : (a * x + b * y + c * z) % m = (A * X + B * Y + C * Z) % m := by
  have mul : ∀ {a x A X : Int}, a % m = A % m → x % m = X % m → a * x % m = A * X % m := fun {a x A X} h k => by
    rw [Int.mul_emod, h, k, ← Int.mul_emod]
  have add : ∀ {a x A X : Int}, a % m = A % m → x % m = X % m → (a + x) % m = (A + X) % m := fun {a x A X} h k => by
    rw [Int.add_emod, h, k, ← Int.add_emod]
  exact add (add (mul ha hx) (mul hb hy)) (mul hc hz)
theorem hit_iff {a b c p m : Int} {n i j : Nat} : hitK a b c p m n i j = true ↔ ∃ k, k < n ∧ (a * ((i : Int) * i) + b * ((j : Int) * j) + c * ((k : Int) * k)) % m = 0 ∧ ¬ ((i : Int) % p = 0 ∧ (j : Int) % p = 0 ∧ (k : Int) % p = 0) := by
  have e : ∀ k : Nat, c * (k : Int) * (k : Int) % m = leftK a b m i j ↔ (a * ((i : Int) * i) + b * ((j : Int) * j) + c * ((k : Int) * k)) % m = 0 := fun k => by
    unfold leftK
    rw [Int.emod_eq_emod_iff_emod_sub_eq_zero]
    have : c * (k : Int) * (k : Int) - (-a * (i : Int) * (i : Int) - b * (j : Int) * (j : Int)) = a * ((i : Int) * i) + b * ((j : Int) * j) + c * ((k : Int) * k) := by grind
    rw [this]
  unfold hitK hasK
  simp only [Bool.or_eq_true, Bool.and_eq_true, List.any_eq_true, List.mem_range, decide_eq_true_eq, beq_iff_eq, decide_eq_false_iff_not, Bool.not_eq_true', e]
  constructor
  · rintro (⟨k, hk, h, f⟩ | ⟨h0, k, hk, h, f⟩)
    · exact ⟨k, hk, h, fun z => f z.2.2⟩
    · refine ⟨k, hk, h, fun z => ?_⟩
      rw [decide_eq_true z.1, decide_eq_true z.2.1] at h0
      exact Bool.noConfusion h0
  · rintro ⟨k, hk, h, f⟩
    by_cases hz : (k : Int) % p = 0
    · refine .inr ⟨?_, k, hk, h, hz⟩
      by_cases hi : (i : Int) % p = 0
      · by_cases hj : (j : Int) % p = 0
        · exact absurd ⟨hi, hj, hz⟩ f
        · simp [hj]
      · simp [hi]
    · exact .inl ⟨k, hk, h, hz⟩
theorem bars_iff {A B C : Int} {p a b c : Nat} (hp : p = 2 ∨ p = 3 ∨ p = 5) (ha : (a : Int) % (mm p : Nat) = A % (mm p : Nat)) (hb : (b : Int) % (mm p : Nat) = B % (mm p : Nat)) (hc : (c : Int) % (mm p : Nat) = C % (mm p : Nat)) :
    barsK A B C (p : Int) (mm p : Nat) (mm p) = !rowF p a b (msk p c false) (msk p c true) := by
  have hm : 0 < mm p := by rcases hp with rfl | rfl | rfl <;> decide
  unfold barsK
  congr 1
  rw [Bool.eq_iff_iff, rowF_iff p a b c hm]
  simp only [List.any_eq_true, List.mem_range, hit_iff]
  have dv : ∀ i : Nat, ((i : Int) % (p : Int) = 0) ↔ i % p = 0 := fun i => by
    rw [← Int.natCast_emod]; omega
  have sq : ∀ {i x : Nat}, i * i % mm p = x → ((x : Nat) : Int) % (mm p : Nat) = ((i : Int) * i) % (mm p : Nat) := fun {i x} h => by
    rw [← h, ← Int.natCast_mul, ← Int.natCast_emod, ← Int.natCast_emod, Nat.mod_mod]
  constructor
  · rintro ⟨i, hi, j, hj, k, hk, h, f⟩
    obtain ⟨x, hx, ex, fx⟩ := sqs_in hp hi
    obtain ⟨y, hy, ey, fy⟩ := sqs_in hp hj
    obtain ⟨z, hz, ez, fz⟩ := sqs_in hp hk
    refine ⟨x, hx, y, hy, z, hz, ?_, fun ⟨q1, q2, q3⟩ => f ?_⟩
    · have := three_mod ha hb hc (sq ex) (sq ey) (sq ez)
      rw [h] at this
      have : (((a * x.1 + b * y.1 + c * z.1 : Nat) % mm p : Nat) : Int) = 0 := by
        rw [Int.natCast_emod]
        simpa using this
      omega
    · rw [fx] at q1; rw [fy] at q2; rw [fz] at q3
      exact ⟨(dv i).mpr (of_decide_eq_true q1), (dv j).mpr (of_decide_eq_true q2), (dv k).mpr (of_decide_eq_true q3)⟩
  · rintro ⟨x, hx, y, hy, z, hz, h, f⟩
    obtain ⟨i, hi, ex, fx⟩ := sqs_ex hp hx
    obtain ⟨j, hj, ey, fy⟩ := sqs_ex hp hy
    obtain ⟨k, hk, ez, fz⟩ := sqs_ex hp hz
    refine ⟨i, hi, j, hj, k, hk, ?_, fun ⟨q1, q2, q3⟩ => f ?_⟩
    · rw [← three_mod ha hb hc (sq ex) (sq ey) (sq ez)]
      have : (((a * x.1 + b * y.1 + c * z.1 : Nat) % mm p : Nat) : Int) = 0 := by rw [h]; rfl
      rw [Int.natCast_emod] at this
      simpa using this
    · rw [fx, fy, fz]
      exact ⟨decide_eq_true ((dv i).mp q1), decide_eq_true ((dv j).mp q2), decide_eq_true ((dv k).mp q3)⟩

end
section
variable {P : Program} {w : World} {K : PySem.W.Frag} {mg : Str → Option Value} {base : Heap} {a : Adr}
/-! ### normal weights of 2, 3, 5, 7 -/
def prd (e2 e3 e5 e7 i : Nat) : Nat := (if e2 = i then 2 else 1) * (if e3 = i then 3 else 1) * (if e5 = i then 5 else 1) * (if e7 = i then 7 else 1)
def res (p : Nat) (s : Bool) (n : Nat) : Nat := if s then n % mm p else (mm p - n % mm p) % mm p
def sg (s : Bool) (n : Nat) : Int := (if s then 1 else -1) * (n : Int)
def badE (p ep : Nat) (x y z : Int) : Bool := if p = 2 then twoB x y z else (decide (ep = 0) && !NT.sq p (-z * y)) || (decide (ep = 1) && !NT.sq p (-x * z)) || (decide (ep = 2) && !NT.sq p (-y * x))
def chk (p : Nat) : Bool := (List.range 4).all fun e2 => (List.range 4).all fun e3 => (List.range 4).all fun e5 => (List.range 4).all fun e7 =>
  [true, false].all fun s2 =>
   let c := res p s2 (prd e2 e3 e5 e7 2); let w0 := msk p c false; let w1 := msk p c true
   [true, false].all fun s0 => [true, false].all fun s1 =>
     rowF p (res p s0 (prd e2 e3 e5 e7 0)) (res p s1 (prd e2 e3 e5 e7 1)) w0 w1 != badE p (if p = 3 then e3 else e5) (sg s0 (prd e2 e3 e5 e7 0)) (sg s1 (prd e2 e3 e5 e7 1)) (sg s2 (prd e2 e3 e5 e7 2))
theorem chk2 : chk 2 = true := by decide +kernel
theorem chk3 : chk 3 = true := by decide +kernel
theorem chk5 : chk 5 = true := by decide +kernel

end
section
variable {P : Program} {w : World} {K : PySem.W.Frag} {mg : Str → Option Value} {base : Heap} {a : Adr}
theorem chk_at {p : Nat} (h : chk p = true) {e2 e3 e5 e7 : Nat} (h2 : e2 < 4) (h3 : e3 < 4) (h5 : e5 < 4) (h7 : e7 < 4) (s0 s1 s2 : Bool) :
    rowF p (res p s0 (prd e2 e3 e5 e7 0)) (res p s1 (prd e2 e3 e5 e7 1)) (msk p (res p s2 (prd e2 e3 e5 e7 2)) false) (msk p (res p s2 (prd e2 e3 e5 e7 2)) true) = !badE p (if p = 3 then e3 else e5) (sg s0 (prd e2 e3 e5 e7 0)) (sg s1 (prd e2 e3 e5 e7 1)) (sg s2 (prd e2 e3 e5 e7 2)) := by
  have bs : ∀ s : Bool, s ∈ [true, false] := fun s => by cases s <;> simp
  have := List.all_eq_true.mp h e2 (List.mem_range.mpr h2)
  have := List.all_eq_true.mp this e3 (List.mem_range.mpr h3)
  have := List.all_eq_true.mp this e5 (List.mem_range.mpr h5)
  have := List.all_eq_true.mp this e7 (List.mem_range.mpr h7)
  have := List.all_eq_true.mp this s2 (bs s2)
  have := List.all_eq_true.mp this s0 (bs s0)
  have := List.all_eq_true.mp this s1 (bs s1)
  revert this
  generalize rowF _ _ _ _ _ = x
  generalize badE _ _ _ _ _ = y
  cases x <;> cases y <;> simp
theorem res_mod {p : Nat} (hm : 0 < mm p) (s : Bool) (n : Nat) : ((res p s n : Nat) : Int) % (mm p : Nat) = sg s n % (mm p : Nat) := by
  cases s with
  | true =>
    show (((n % mm p : Nat) : Int)) % (mm p : Nat) = (1 * (n : Int)) % (mm p : Nat)
    rw [Int.one_mul, ← Int.natCast_emod, ← Int.natCast_emod, Nat.mod_mod]
  | false =>
    show ((((mm p - n % mm p) % mm p : Nat) : Int)) % (mm p : Nat) = (-1 * (n : Int)) % (mm p : Nat)
    have h1 := Nat.mod_lt n hm
    rw [← Int.natCast_emod, Nat.mod_mod, Int.natCast_emod]
    rw [Int.emod_eq_emod_iff_emod_sub_eq_zero]
    have : ((mm p - n % mm p : Nat) : Int) - -1 * (n : Int) = (mm p : Nat) * (1 + ((n / mm p : Nat) : Int)) := by
      have e := Nat.div_add_mod n (mm p)
      have e2 : (n : Int) = (mm p : Nat) * ((n / mm p : Nat) : Int) + ((n % mm p : Nat) : Int) := by
        rw [← Int.natCast_mul, ← Int.natCast_add, e]
      rw [Int.natCast_sub (Nat.le_of_lt h1), e2]
      grind
    rw [this, Int.mul_emod_right]
/-- the places of 2, 3, 5, 7 -/
structure Pl (x : NV) (e2 e3 e5 e7 : Nat) : Prop where
  l2 : e2 < 4
  l3 : e3 < 4
  l5 : e5 < 4
  l7 : e7 < 4
  p0 : x.B0.prod = prd e2 e3 e5 e7 0
  p1 : x.B1.prod = prd e2 e3 e5 e7 1
  p2 : x.B2.prod = prd e2 e3 e5 e7 2
  m3 : (3 ∈ x.B0 ↔ e3 = 0) ∧ (3 ∈ x.B1 ↔ e3 = 1) ∧ (3 ∈ x.B2 ↔ e3 = 2)
  m5 : (5 ∈ x.B0 ↔ e5 = 0) ∧ (5 ∈ x.B1 ↔ e5 = 1) ∧ (5 ∈ x.B2 ↔ e5 = 2)
theorem bars_bad {x : NV} (fx : x.Fine) {e2 e3 e5 e7 : Nat} (h : Pl x e2 e3 e5 e7) {p : Nat} (hp : p = 2 ∨ p = 3 ∨ p = 5) : barsK x.A0 x.A1 x.A2 (p : Int) (mm p : Nat) (mm p) = true ↔ x.Bad p := by
  have hm : 0 < mm p := by rcases hp with rfl | rfl | rfl <;> decide
  have sgn' : ∀ {s : Int} {B : List Nat} {q : Nat}, (s = 1 ∨ s = -1) → B.prod = q → s * prodL (nI B) = sg (decide (s = 1)) q := fun {s B q} hs hq => by
    rw [prodL_nI, hq]
    rcases hs with rfl | rfl <;> rfl
  have a0 : x.A0 = sg (decide (x.s0 = 1)) (prd e2 e3 e5 e7 0) := sgn' fx.ok.s0 h.p0
  have a1 : x.A1 = sg (decide (x.s1 = 1)) (prd e2 e3 e5 e7 1) := sgn' fx.ok.s1 h.p1
  have a2 : x.A2 = sg (decide (x.s2 = 1)) (prd e2 e3 e5 e7 2) := sgn' fx.ok.s2 h.p2
  have hc : chk p = true := by
    rcases hp with rfl | rfl | rfl
    · exact chk2
    · exact chk3
    · exact chk5
  have key := chk_at hc h.l2 h.l3 h.l5 h.l7 (decide (x.s0 = 1)) (decide (x.s1 = 1)) (decide (x.s2 = 1))
  rw [← a0, ← a1, ← a2] at key
  rw [bars_iff hp (a := res p (decide (x.s0 = 1)) (prd e2 e3 e5 e7 0)) (b := res p (decide (x.s1 = 1)) (prd e2 e3 e5 e7 1)) (c := res p (decide (x.s2 = 1)) (prd e2 e3 e5 e7 2)) (by rw [a0]; exact res_mod hm _ _) (by rw [a1]; exact res_mod hm _ _) (by rw [a2]; exact res_mod hm _ _), key, Bool.not_not]
  unfold NV.Bad offB NV.rest0 NV.rest1 NV.rest2 badE
  rcases hp with rfl | rfl | rfl
  · simp
  · simp [h.m3, or_assoc]
  · simp [h.m5, or_assoc]
/-- the weights that are drawn -/
structure W8 (v : List Int) : Prop where
  ok : ∃ n : Int, v = [n] ∧ n ≠ 0 ∧ n.natAbs ∣ 210
theorem W8.wt {v : List Int} (h : W8 v) : Wt v := by
  obtain ⟨n, rfl, h0, hd⟩ := h.ok
  have := Nat.le_of_dvd (by decide) hd
  exact ⟨by simp, by simp, fun k hk => by simp at hk; subst hk; exact ⟨h0, by omega⟩⟩
theorem W8.pr {v : List Int} (h : W8 v) {p : Nat} (hp : NT.Pr p) (o : ob (nP v) p = true) : p ∈ [2, 3, 5, 7] := by
  obtain ⟨n, rfl, h0, hd⟩ := h.ok
  have e : nP [n] = n.natAbs := by
    show (1 * n).natAbs = n.natAbs
    rw [Int.one_mul]
  rw [e] at o
  have d1 : p ∣ n.natAbs := Classical.byContradiction fun z => by
    unfold ob at o
    rw [NT.vp_no z] at o
    exact absurd o (by decide)
  have d2 : p ∣ 2 * (3 * (5 * 7)) := Nat.dvd_trans d1 hd
  have two : NT.Pr 2 := ⟨by decide, fun d hd => by have := Nat.le_of_dvd (by decide) hd; have := Nat.pos_of_dvd_of_pos hd (by decide); omega⟩
  have sm : ∀ q : Nat, q = 3 ∨ q = 5 ∨ q = 7 → NT.Pr q := by
    rintro q (rfl | rfl | rfl)
    all_goals
      refine ⟨by decide, fun d hd => ?_⟩
      have h1 := Nat.le_of_dvd (by decide) hd
      have h2 := Nat.pos_of_dvd_of_pos hd (by decide)
      have : d ∣ _ := hd
      revert hd
      have hc : d = 1 ∨ d = 2 ∨ d = 3 ∨ d = 4 ∨ d = 5 ∨ d = 6 ∨ d = 7 := by omega
      rcases hc with rfl | rfl | rfl | rfl | rfl | rfl | rfl <;> decide
  have mem : ∀ {q : Nat}, p = q → q ∈ [2, 3, 5, 7] → p ∈ [2, 3, 5, 7] := fun e h => by rw [e]; exact h
  rcases hp.dvd_mul d2 with d | d
  · exact mem (hp.eq two d) (by decide)
  rcases hp.dvd_mul d with d | d
  · exact mem (hp.eq (sm 3 (.inl rfl)) d) (by decide)
  rcases hp.dvd_mul d with d | d
  · exact mem (hp.eq (sm 5 (.inr (.inl rfl))) d) (by decide)
  · exact mem (hp.eq (sm 7 (.inr (.inr rfl))) d) (by decide)
theorem bars_in {a b c : Nat} {B : List Nat} (h : Bars a b c B) (ka : ∀ p, NT.Pr p → ob a p = true → p ∈ [2, 3, 5, 7]) (kb : ∀ p, NT.Pr p → ob b p = true → p ∈ [2, 3, 5, 7]) {p : Nat} (hp : p ∈ B) : p ∈ [2, 3, 5, 7] := by
  obtain ⟨pr, hb⟩ := (h.mem p).mp hp
  cases ha : ob a p with
  | true => exact ka p pr ha
  | false =>
    cases hbb : ob b p with
    | true => exact kb p pr hbb
    | false => unfold brb at hb; rw [ha, hbb] at hb; simp at hb
/-- where a prime stands -/
def plc (x : NV) (q : Nat) : Nat := if q ∈ x.B0 then 0 else if q ∈ x.B1 then 1 else if q ∈ x.B2 then 2 else 3
theorem plc_lt (x : NV) (q : Nat) : plc x q < 4 := by
  unfold plc
  split
  · decide
  · split
    · decide
    · split <;> decide
theorem plc_iff {x : NV} (fx : x.Fine) (q : Nat) : (q ∈ x.B0 ↔ plc x q = 0) ∧ (q ∈ x.B1 ↔ plc x q = 1) ∧ (q ∈ x.B2 ↔ plc x q = 2) := by
  unfold plc
  by_cases h0 : q ∈ x.B0
  · have h1 := fx.d01 q h0
    have h2 := fx.d02 q h0
    simp [h0, h1, h2]
  · by_cases h1 : q ∈ x.B1
    · have h2 := fx.d12 q h1
      simp [h0, h1, h2]
    · by_cases h2 : q ∈ x.B2
      · simp [h0, h1, h2]
      · simp [h0, h1, h2]
theorem prod_plc {x : NV} {B : List Nat} {i : Nat} (asc : B.Pairwise (· < ·)) (sub : ∀ p, p ∈ B → p ∈ [2, 3, 5, 7]) (m : ∀ q, q ∈ B ↔ plc x q = i) : B.prod = prd (plc x 2) (plc x 3) (plc x 5) (plc x 7) i := by
  have e : B = [2, 3, 5, 7].filter fun q => decide (plc x q = i) := by
    refine NT.asc_eq asc (List.Pairwise.filter _ (by decide)) fun p => ?_
    rw [List.mem_filter, decide_eq_true_eq, ← m]
    exact ⟨fun h => ⟨sub p h, h⟩, fun h => h.2⟩
  rw [e]
  unfold prd
  simp only [List.filter_cons, List.filter_nil, decide_eq_true_eq]
  by_cases h2 : plc x 2 = i <;> by_cases h3 : plc x 3 = i <;> by_cases h5 : plc x 5 = i <;> by_cases h7 : plc x 7 = i <;> simp [h2, h3, h5, h7]
theorem pl_of {v0 v1 v2 : List Int} (w0 : W8 v0) (w1 : W8 v1) (w2 : W8 v2) {x : NV} (fx : x.Fine) (hx : NmOf v0 v1 v2 x) : Pl x (plc x 2) (plc x 3) (plc x 5) (plc x 7) where
  l2 := plc_lt x 2
  l3 := plc_lt x 3
  l5 := plc_lt x 5
  l7 := plc_lt x 7
  p0 := prod_plc hx.nm.b0.asc (fun p hp => bars_in hx.nm.b0 (fun _ => w0.pr) (fun _ => w1.pr) hp) fun q => (plc_iff fx q).1
  p1 := prod_plc hx.nm.b1.asc (fun p hp => bars_in hx.nm.b1 (fun _ => w1.pr) (fun _ => w0.pr) hp) fun q => (plc_iff fx q).2.1
  p2 := prod_plc hx.nm.b2.asc (fun p hp => bars_in hx.nm.b2 (fun _ => w2.pr) (fun _ => w0.pr) hp) fun q => (plc_iff fx q).2.2
  m3 := plc_iff fx 3
  m5 := plc_iff fx 5

end
section
variable {P : Program} {w : World} {K : PySem.W.Frag} {mg : Str → Option Value} {base : Heap} {a : Adr}
theorem w8_of {w s : Int} (hw : w ∈ [1, 2, 3, 5, 6, 10, 15, 30, 7]) (hs : s ∈ [1, -1]) : W8 [w * s] := by
  refine ⟨w * s, rfl, ?_, ?_⟩
  · simp only [List.mem_cons, List.not_mem_nil, or_false] at hw hs
    rcases hw with rfl | rfl | rfl | rfl | rfl | rfl | rfl | rfl | rfl <;> rcases hs with rfl | rfl <;> decide
  · simp only [List.mem_cons, List.not_mem_nil, or_false] at hw hs
    rcases hw with rfl | rfl | rfl | rfl | rfl | rfl | rfl | rfl | rfl <;> rcases hs with rfl | rfl <;> decide
theorem allr_w8 : ∀ {xs ds : List D}, AllR (fun _ d' => ∃ v, d' = wt v ∧ W8 v) xs ds → ∃ ws : List (List Int), ds = ws.map wt ∧ ws.length = xs.length ∧ ∀ v, v ∈ ws → W8 v
  | [], ds, h => by
    have h : ds = [] := h
    subst h
    exact ⟨[], rfl, rfl, fun v hv => by simp at hv⟩
  | x :: xs, ds, ⟨y, r, e, ⟨v, ey, hv⟩, hr⟩ => by
    subst e; subst ey
    obtain ⟨ws, rfl, hl, hw⟩ := allr_w8 hr
    exact ⟨v :: ws, rfl, by simp [hl], fun u hu => by
      rcases List.mem_cons.mp hu with rfl | h
      · exact hv
      · exact hw u h⟩
theorem mem_lI {L : List Nat} {p : Nat} : decide ((p : Int) ∈ L.map fun q : Nat => (q : Int)) = decide (p ∈ L) := by
  congr 1
  refine propext ⟨fun h => ?_, fun h => List.mem_map.mpr ⟨p, h, rfl⟩⟩
  obtain ⟨q, hq, e⟩ := List.mem_map.mp h
  have : q = p := Int.ofNat.inj e
  rw [← this]; exact hq
theorem ok_law (C : Ctx K mg a) : FnAt P w K mg base CX0 8 "law" ["_law_script"] (SpP K (fun cells : List Int => [.rd (D.ints cells)]) (fun cells => cells.length ≤ 63) (fun _ d => d = .bl true)) := by
  refine fn_at C.d_law sc_law (fun _ => rfl) fun f cdv A outer s H E hr => ⟨_, (pss_cons (ps_set (i := 1) sc_law.nd rfl (by first | exact Or.inl rfl | exact Or.inr rfl) (pe_fn (ok__law_mix C) (hr.mono (by omega)) rfl (pa_cons (pv 0) (pa_cons pe_int pa_nil))))
    (pss_cons (ps_for PassesOwn.never rfl (pi_range1 rfl C.B.range (pa_cons pe_int pa_nil)) (pg_name (i := 2) sc_law.nd rfl (by first | exact Or.inl rfl | exact Or.inr rfl))
    (pss_cons (ps_set (i := 3) sc_law.nd rfl (by first | exact Or.inl rfl | exact Or.inr rfl) (pe_tupOf (K := K) C.B.tuple rfl (pa_cons (pe_lc (own := [("_law_k", 8)]) (g := (gName 8)) (tt := tYes) rfl sc_law.nd (pi_range1 rfl C.B.range (pa_cons pe_int pa_nil)) (blkOk_by (N := n_law) (sc := defScope s_law) (by decide +kernel)) (fun _ _ _ _ _ => (pg_name (i := 8) sc_law.nd rfl (by first | exact Or.inl rfl | exact Or.inr rfl))) (fun _ _ _ _ _ => pts_nil) (fun _ _ _ _ _ => (pe_tup (pa_cons (pe_op (op_gMul (K := K)) (pe_fn (ok__law_pick C) (hr.mono (by omega)) rfl (pa_cons (pv 1) (pa_cons (pe_lst (pa_cons pe_int (pa_cons pe_int (pa_cons pe_int (pa_cons pe_int (pa_cons pe_int (pa_cons pe_int (pa_cons pe_int (pa_cons pe_int (pa_cons pe_int pa_nil)))))))))) pa_nil))) (pe_fn (ok__law_pick C) (hr.mono (by omega)) rfl (pa_cons (pv 1) (pa_cons (pe_lst (pa_cons pe_int (pa_cons (pe_un un_neg pe_int) pa_nil))) pa_nil)))) pa_nil)))) pa_nil)))
    (pss_cons (ps_par (i := 4) (j := 5) rfl sc_law.nd rfl rfl (by decide) rfl rfl (pa_cons (pe_fn (ok_normal C) (hr.mono (by omega)) rfl (pa_cons (pe_new (ok_Form C) (hr.mono (by omega)) rfl (pa_cons (pv 3) pa_nil)) pa_nil)) (pa_cons (pe_fn (ok_bad_places C) (hr.mono (by omega)) rfl (pa_cons (pe_new (ok_Form C) (hr.mono (by omega)) rfl (pa_cons (pv 3) pa_nil)) pa_nil)) pa_nil)) rfl)
    (pss_one (ps_for PassesOwn.never rfl (pi_seq (K := K) (pe_lst (pa_cons (pe_tup (pa_cons pe_int (pa_cons pe_int pa_nil))) (pa_cons (pe_tup (pa_cons pe_int (pa_cons pe_int pa_nil))) (pa_cons (pe_tup (pa_cons pe_int (pa_cons pe_int pa_nil))) pa_nil))))) (pg_tup rfl (pgs_cons (pg_name (i := 6) sc_law.nd rfl (by first | exact Or.inl rfl | exact Or.inr rfl)) (pgs_cons (pg_name (i := 7) sc_law.nd rfl (by first | exact Or.inl rfl | exact Or.inr rfl)) pgs_nil)))
    (pss_one (ps_if (pt_cmpR (op_gNe (K := K) (by exact hr.units)) (pe_fn (ok__law_bars C) (hr.mono (by omega)) rfl (pa_cons (pv 4) (pa_cons (pv 6) (pa_cons (pv 7) pa_nil)))) (pe_cmpR (op_gIn (K := K) (by exact units65 hr)) (pv 6) (pv 5) rfl) (nomark _))
    (pss_one (ps_ret pe_bl))
    pss_nil)))))))
    (pss_one (ps_ret pe_bl)))), fun cells e hp he => ?_⟩
  have hp : cells.length ≤ 63 := hp
  have he : e.α.length = 0 := he
  dsimp only [cxOf]
  walk_at "d"
  refine r_mix ?_
  walk_at "d"
  refine ⟨cells, 8, rfl, hp, by decide, by decide, ?_⟩
  walk_at "d"
  refine r_for [2] ?_
  refine ei_range1 ?_
  walk_at "d"
  refine ⟨4, rfl, by decide, by decide, fun i ρ M => ∃ (o2 o3 o4 o5 o6 o7 o8 : Option Sl), ρ = [some (.v (.rd (D.ints cells))), some (.l 0), o2, o3, o4, o5, o6, o7, o8] ∧ M = [.rng], ⟨_, _, _, _, _, _, _, rfl, rfl⟩, ?_, ?_⟩
  · rintro i d ρ M hi ⟨o2, o3, o4, o5, o6, o7, o8, rfl, rfl⟩
    obtain ⟨_, rfl⟩ := rangeD_get hi
    walk_at "d"
    refine r_asg ?_
    refine ev_cb (ea_cons ?_)
    refine ev_lcR (fun _ d' => ∃ v, d' = wt v ∧ W8 v) (ei_range1 ?_)
    walk_at "d"
    refine ⟨3, rfl, by decide, by decide, by rw [rangeD_len]; decide, fun j d hj => ?_, fun ds hds => ?_⟩
    · refine eg_name ?_
      walk_at "d"
      refine ⟨D.ints [1, 2, 3, 5, 6, 10, 15, 30, 7], 0, rfl, rfl, ⟨le_lit rfl, le_lit rfl⟩, fun d1 h1 => ?_⟩
      obtain ⟨x1, m1, rfl⟩ := List.mem_map.mp h1
      walk_at "d"
      refine ⟨D.ints [1, -1], 0, rfl, rfl, ⟨le_lit rfl, le_lit rfl⟩, fun d2 h2 => ?_⟩
      obtain ⟨x2, m2, rfl⟩ := List.mem_map.mp h2
      have b1 : x1.natAbs < 2 ^ 10 := by
        simp only [List.mem_cons, List.not_mem_nil, or_false] at m1
        rcases m1 with rfl | rfl | rfl | rfl | rfl | rfl | rfl | rfl | rfl <;> decide
      have b2 : x2.natAbs < 2 ^ 10 := by
        simp only [List.mem_cons, List.not_mem_nil, or_false] at m2
        rcases m2 with rfl | rfl <;> decide
      walk_at "d"
      refine ⟨mulW b1 b2 (by omega), ?_⟩
      walk_at "d"
      exact ⟨_, rfl, [x1 * x2], rfl, w8_of m1 m2⟩
    obtain ⟨ws, rfl, hl, hw⟩ := allr_w8 hds
    rw [rangeD_len] at hl
    obtain ⟨v0, v1, v2, rfl⟩ := three (show ws.length = 3 from hl)
    have w0 := hw v0 (by simp)
    have w1 := hw v1 (by simp)
    have w2 := hw v2 (by simp)
    walk_at "d"
    refine ec_form3 ?_
    walk_at "d"
    refine ⟨v0, v1, v2, rfl, ⟨w0.wt, w1.wt, w2.wt⟩, ?_⟩
    walk_at "d"
    refine ⟨(v0, v1, v2), rfl, ⟨w0.wt, w1.wt, w2.wt⟩, fun d ⟨x, ok, nm, s0, s1, s2, ed⟩ => ?_⟩
    subst ed
    refine ea_cons ?_
    refine ec_callP (ea_cons (ec_form3 ?_))
    walk_at "d"
    refine ⟨v0, v1, v2, rfl, ⟨w0.wt, w1.wt, w2.wt⟩, ?_⟩
    walk_at "d"
    refine ⟨(v0, v1, v2), rfl, ⟨w0.wt, w1.wt, w2.wt⟩, fun d ⟨L, ed, bL⟩ => ?_⟩
    subst ed
    have hx : NmOf v0 v1 v2 x := ⟨nm, s0, s1, s2⟩
    have fx : x.Fine := hx.fine w0.wt w1.wt w2.wt ok
    have inL : ∀ p, p ∈ L ↔ x.Bad p := by
      obtain ⟨y, fy, hy, _, hL⟩ := bL
      have k := (same_eq (o := 1) (.inl rfl) hx hy ⟨by simp, by simp, by simp⟩ (fun _ => false) (fun _ _ => by simp) (fun _ _ => by simp) (fun _ _ => by simp)).2.2.2
      exact fun p => (hL p).trans (k p).symm
    have pl := pl_of w0 w1 w2 fx hx
    have fin : ∀ p : Nat, p = 2 ∨ p = 3 ∨ p = 5 → barsK x.A0 x.A1 x.A2 (p : Int) (mm p : Nat) (mm p) = decide ((p : Int) ∈ L.map fun q : Nat => (q : Int)) := fun p hp => by
      rw [mem_lI]
      have := bars_bad fx pl hp
      by_cases h : x.Bad p
      · rw [this.mpr h, decide_eq_true ((inL p).mpr h)]
      · rw [decide_eq_false (fun z => h ((inL p).mp z))]
        exact Bool.eq_false_iff.mpr fun z => h (this.mp z)
    walk_at "d"
    refine ⟨_, _, rfl, ?_⟩
    refine r_for [6, 7] ?_
    refine ei_seqL ?_
    walk_at "d"
    refine ⟨_, rfl, fun _ ρ M => ∃ (o6 o7 : Option Sl), ρ = [some (.v (.rd (D.ints cells))), some (.l 0), some (.v (.int (0 + (i : Int)))), some (.v (.tup ([v0, v1, v2].map wt))), some (.v (.tup (D.ints [x.A0, x.A1, x.A2]))), some (.v (lI L)), o6, o7, o8] ∧ M = [.rng], ⟨_, _, rfl, rfl⟩, ?_, ?_⟩
    · rintro j d ρ M hj ⟨o6, o7, rfl, rfl⟩
      obtain ⟨p, hp, rfl⟩ : ∃ p : Nat, (p = 2 ∨ p = 3 ∨ p = 5) ∧ d = .tup [.int (p : Int), .int (mm p : Nat)] := by
        match j, hj with
        | 0, hj => cases hj; exact ⟨2, .inl rfl, rfl⟩
        | 1, hj => cases hj; exact ⟨3, .inr (.inl rfl), rfl⟩
        | 2, hj => cases hj; exact ⟨5, .inr (.inr rfl), rfl⟩
      have hmm : 1 ≤ mm p ∧ mm p ≤ 100 := by rcases hp with rfl | rfl | rfl <;> decide
      have p0 : (0 : Int) < (p : Int) := by omega
      walk_at "d"
      refine ⟨((x.A0, x.A1, x.A2), ((p : Int), ((mm p : Nat) : Int)), mm p), rfl, ⟨rfl, hmm, p0, fx.a0, fx.a1, fx.a2⟩, fun d ed => ?_⟩
      subst ed
      walk_at "d"
      refine g_inI (ns := L.map fun q : Nat => (q : Int)) (.l .v) ?_
      dsimp only
      rw [fin p hp]
      refine g_neV rfl ?_
      refine ⟨_, rfl, ?_⟩
      rw [decide_eq_true rfl]
      refine iteF ?_
      refine r_next ?_
      exact ⟨_, _, rfl, rfl⟩
    · rintro ρ M ⟨o6, o7, rfl, rfl⟩
      exact ⟨_, _, _, _, _, _, _, rfl, rfl⟩
  · rintro ρ M ⟨o2, o3, o4, o5, o6, o7, o8, rfl, rfl⟩
    walk_at "d"
    exact ret_v rfl

end
end T
open PySem PySem.W PyProof.Rows
set_option maxRecDepth 100000 in
set_option maxHeartbeats 0 in
theorem PySem.Challenge.cw_squareweights_k08_whole_bars_by_remainde_holds : PySem.Challenge.rw_squareweights_k08_whole_bars_by_remainde.Holds := by
  w_on; o_law; k_head; (case hw => w_witness2)
  k_fill
  refine DL.walk_ofX (l := PySem.Challenge.rw_squareweights_k08_whole_bars_by_remainde) (n := 63) (k := 8) (x := "_law_script") (sp := DL.SpLaw) rfl (by decide) rfl ⟨rfl, by decide, by decide⟩ (fun w h Y => PySem.W.kIn_of Y) ?F (fun K H a ns h s => DL.spLaw_of h s)
  case F =>
    intro w mg fa h KX G X hmg
    have b_range : mg "range" = none := by
      refine' PySem.W.mg_none_of KX G ?z
      (case z => k_is)
    have b_len : mg "len" = none := by
      refine' PySem.W.mg_none_of KX G ?z
      (case z => k_is)
    have b_abs : mg "abs" = none := by
      refine' PySem.W.mg_none_of KX G ?z
      (case z => k_is)
    have b_max : mg "max" = none := by
      refine' PySem.W.mg_none_of KX G ?z
      (case z => k_is)
    have b_min : mg "min" = none := by
      refine' PySem.W.mg_none_of KX G ?z
      (case z => k_is)
    have b_sum : mg "sum" = none := by
      refine' PySem.W.mg_none_of KX G ?z
      (case z => k_is)
    have b_any : mg "any" = none := by
      refine' PySem.W.mg_none_of KX G ?z
      (case z => k_is)
    have b_all : mg "all" = none := by
      refine' PySem.W.mg_none_of KX G ?z
      (case z => k_is)
    have b_int : mg "int" = none := by
      refine' PySem.W.mg_none_of KX G ?z
      (case z => k_is)
    have b_str : mg "str" = none := by
      refine' PySem.W.mg_none_of KX G ?z
      (case z => k_is)
    have b_tuple : mg "tuple" = none := by
      refine' PySem.W.mg_none_of KX G ?z
      (case z => k_is)
    have b_list : mg "list" = none := by
      refine' PySem.W.mg_none_of KX G ?z
      (case z => k_is)
    have b_bool : mg "bool" = none := by
      refine' PySem.W.mg_none_of KX G ?z
      (case z => k_is)
    have b_set : mg "set" = none := by
      refine' PySem.W.mg_none_of KX G ?z
      (case z => k_is)
    have b_sorted : mg "sorted" = none := by
      refine' PySem.W.mg_none_of KX G ?z
      (case z => k_is)
    have b_zip : mg "zip" = none := by
      refine' PySem.W.mg_none_of KX G ?z
      (case z => k_is)
    have b_enumerate : mg "enumerate" = none := by
      refine' PySem.W.mg_none_of KX G ?z
      (case z => k_is)
    have b_isinstance : mg "isinstance" = none := by
      refine' PySem.W.mg_none_of KX G ?z
      (case z => k_is)
    have B : DL.Blt mg := ⟨b_range, b_len, b_abs, b_max, b_min, b_sum, b_any, b_all, b_int, b_str, b_tuple, b_list, b_bool, b_set, b_sorted, b_zip, b_enumerate, b_isinstance⟩
    have c_MOST_PART : DL.CInt mg "MOST_PART" 1000000 := DL.loose_int X (by simp)
    have c_MOST_PARTS : DL.CInt mg "MOST_PARTS" 5 := by
      refine' DL.cint_mk KX G ?a
      (case a => k_is)
    refine' DL.ctup_k (x := "SIZES") (vs := [.int (3), .int (4)]) KX G ?a1_ ?l1_ ?c1_ ?d1_ ?s1_ ?r1_ ?z1_
    (case a1_ => k_is); (case l1_ => k_is)
    (case c1_ => rfl); (case d1_ => rfl); (case s1_ => decide)
    (case r1_ => exact .cons ⟨_, rfl⟩ (.cons ⟨_, rfl⟩ (.nil)))
    intro c_SIZES
    refine' DL.def_k (x := "is_integer") (st := T.s_is_integer) (ps := ["thing", "low", "high"]) KX G ?a4 ?l4 ?c4 ?k4 ?b4 ?z4
    (case a4 => k_is); (case l4 => k_is); (case c4 => k_is); (case k4 => k_is)
    (case b4 => exact fun _ _ _ _ _ _ us hl => match us, hl with | [_, _, _], _ => rfl)
    intro d_is_integer
    refine' DL.def_k (x := "is_weight") (st := T.s_is_weight) (ps := ["thing"]) KX G ?a5 ?l5 ?c5 ?k5 ?b5 ?z5
    (case a5 => k_is); (case l5 => k_is); (case c5 => k_is); (case k5 => k_is)
    (case b5 => exact fun _ _ _ _ _ _ us hl => match us, hl with | [_], _ => rfl)
    intro d_is_weight
    refine' DL.def_k (x := "product") (st := T.s_product) (ps := ["numbers"]) KX G ?a6 ?l6 ?c6 ?k6 ?b6 ?z6
    (case a6 => k_is); (case l6 => k_is); (case c6 => k_is); (case k6 => k_is)
    (case b6 => exact fun _ _ _ _ _ _ us hl => match us, hl with | [_], _ => rfl)
    intro d_product
    refine' DL.cls_k (x := "Form") KX G ?a2_ ?p2_ ?h2_ ?o2_ ?s2_ ?c2_ ?g2_ ?t2_ ?m2_ ?z2_
    (case a2_ => k_is); (case p2_ => k_is); (case h2_ => k_is); (case o2_ => k_is); (case s2_ => k_is); (case c2_ => k_is); (case g2_ => k_is); (case t2_ => k_is); (case m2_ => k_is)
    intro m_Form k_Form
    refine' DL.noattr_k (f := "rows") k_Form ?h3_ ?z3_
    (case h3_ => k_is)
    intro n_Form_rows
    refine' DL.noattr_k (f := "sums") k_Form ?h4_ ?z4_
    (case h4_ => k_is)
    intro n_Form_sums
    refine' DL.init_k (qual := "Form.__init__") (st := T.s_Form___init__) (ps := ["self", "weights"]) k_Form ?m5_ ?i5_ ?f5_ ?p5_ ?l5_ ?c5_ ?k5_ ?b5_ ?z5_
    (case m5_ => k_is); (case i5_ => k_is); (case f5_ => k_is); (case p5_ => k_is); (case l5_ => k_is); (case c5_ => k_is); (case k5_ => k_is)
    (case b5_ => exact fun _ _ _ _ _ _ us hl => match us, hl with | [_, _], _ => rfl)
    intro i_Form
    refine' DL.prop_k (x := "weights") (f := "rows") (qual := "Form.weights") (st := T.s_Form_weights) k_Form n_Form_rows ?p6_ ?g6_ ?t6_ ?r6_ ?l6_ ?c6_ ?k6_ T.sc_Form_weights rfl ?b6_ ?z6_
    (case p6_ => k_is); (case g6_ => k_is); (case t6_ => k_is); (case r6_ => k_is); (case l6_ => k_is); (case c6_ => k_is); (case k6_ => k_is)
    (case b6_ => exact fun _ _ _ _ _ _ us hl => match us, hl with | [_], _ => rfl)
    intro g_Form_weights
    refine' DL.prop_k (x := "numbers") (f := "sums") (qual := "Form.numbers") (st := T.s_Form_numbers) k_Form n_Form_sums ?p7_ ?g7_ ?t7_ ?r7_ ?l7_ ?c7_ ?k7_ T.sc_Form_numbers rfl ?b7_ ?z7_
    (case p7_ => k_is); (case g7_ => k_is); (case t7_ => k_is); (case r7_ => k_is); (case l7_ => k_is); (case c7_ => k_is); (case k7_ => k_is)
    (case b7_ => exact fun _ _ _ _ _ _ us hl => match us, hl with | [_], _ => rfl)
    intro g_Form_numbers
    refine' DL.meth_k (x := "__len__") (qual := "Form.__len__") (st := T.s_Form___len__) (ps := ["self"]) k_Form ?a8_ ?i8_ ?l8_ ?c8_ ?k8_ ?b8_ ?z8_
    (case a8_ => k_is); (case i8_ => k_is); (case l8_ => k_is); (case c8_ => k_is); (case k8_ => k_is)
    (case b8_ => exact fun _ _ _ _ _ _ us hl => match us, hl with | [_], _ => rfl)
    intro e_Form___len__
    refine' DL.meth_k (x := "__eq__") (qual := "Form.__eq__") (st := T.s_Form___eq__) (ps := ["self", "other"]) k_Form ?a9_ ?i9_ ?l9_ ?c9_ ?k9_ ?b9_ ?z9_
    (case a9_ => k_is); (case i9_ => k_is); (case l9_ => k_is); (case c9_ => k_is); (case k9_ => k_is)
    (case b9_ => exact fun _ _ _ _ _ _ us hl => match us, hl with | [_, _], _ => rfl)
    intro e_Form___eq__
    refine' DL.def_k (x := "check_three") (st := T.s_check_three) (ps := ["form"]) KX G ?a16 ?l16 ?c16 ?k16 ?b16 ?z16
    (case a16 => k_is); (case l16 => k_is); (case c16 => k_is); (case k16 => k_is)
    (case b16 => exact fun _ _ _ _ _ _ us hl => match us, hl with | [_], _ => rfl)
    intro d_check_three
    refine' DL.def_k (x := "primes_of") (st := T.s_primes_of) (ps := ["weight"]) KX G ?a17 ?l17 ?c17 ?k17 ?b17 ?z17
    (case a17 => k_is); (case l17 => k_is); (case c17 => k_is); (case k17 => k_is)
    (case b17 => exact fun _ _ _ _ _ _ us hl => match us, hl with | [_], _ => rfl)
    intro d_primes_of
    refine' DL.def_k (x := "sign_of") (st := T.s_sign_of) (ps := ["weight"]) KX G ?a18 ?l18 ?c18 ?k18 ?b18 ?z18
    (case a18 => k_is); (case l18 => k_is); (case c18 => k_is); (case k18 => k_is)
    (case b18 => exact fun _ _ _ _ _ _ us hl => match us, hl with | [_], _ => rfl)
    intro d_sign_of
    refine' DL.def_k (x := "powered") (st := T.s_powered) (ps := ["number", "times", "many"]) KX G ?a19 ?l19 ?c19 ?k19 ?b19 ?z19
    (case a19 => k_is); (case l19 => k_is); (case c19 => k_is); (case k19 => k_is)
    (case b19 => exact fun _ _ _ _ _ _ us hl => match us, hl with | [_, _, _], _ => rfl)
    intro d_powered
    refine' DL.def_k (x := "odd_primes_of") (st := T.s_odd_primes_of) (ps := ["weight"]) KX G ?a20 ?l20 ?c20 ?k20 ?b20 ?z20
    (case a20 => k_is); (case l20 => k_is); (case c20 => k_is); (case k20 => k_is)
    (case b20 => exact fun _ _ _ _ _ _ us hl => match us, hl with | [_], _ => rfl)
    intro d_odd_primes_of
    refine' DL.def_k (x := "root_of") (st := T.s_root_of) (ps := ["weight"]) KX G ?a21 ?l21 ?c21 ?k21 ?b21 ?z21
    (case a21 => k_is); (case l21 => k_is); (case c21 => k_is); (case k21 => k_is)
    (case b21 => exact fun _ _ _ _ _ _ us hl => match us, hl with | [_], _ => rfl)
    intro d_root_of
    refine' DL.cls_k (x := "Normal") KX G ?a10_ ?p10_ ?h10_ ?o10_ ?s10_ ?c10_ ?g10_ ?t10_ ?m10_ ?z10_
    (case a10_ => k_is); (case p10_ => k_is); (case h10_ => k_is); (case o10_ => k_is); (case s10_ => k_is); (case c10_ => k_is); (case g10_ => k_is); (case t10_ => k_is); (case m10_ => k_is)
    intro m_Normal k_Normal
    refine' DL.noattr_k (f := "bare") k_Normal ?h11_ ?z11_
    (case h11_ => k_is)
    intro n_Normal_bare
    refine' DL.noattr_k (f := "ups") k_Normal ?h12_ ?z12_
    (case h12_ => k_is)
    intro n_Normal_ups
    refine' DL.noattr_k (f := "downs") k_Normal ?h13_ ?z13_
    (case h13_ => k_is)
    intro n_Normal_downs
    refine' DL.noattr_k (f := "signs") k_Normal ?h14_ ?z14_
    (case h14_ => k_is)
    intro n_Normal_signs
    refine' DL.init_k (qual := "Normal.__init__") (st := T.s_Normal___init__) (ps := ["self", "rows"]) k_Normal ?m15_ ?i15_ ?f15_ ?p15_ ?l15_ ?c15_ ?k15_ ?b15_ ?z15_
    (case m15_ => k_is); (case i15_ => k_is); (case f15_ => k_is); (case p15_ => k_is); (case l15_ => k_is); (case c15_ => k_is); (case k15_ => k_is)
    (case b15_ => exact fun _ _ _ _ _ _ us hl => match us, hl with | [_, _], _ => rfl)
    intro i_Normal
    refine' DL.meth_k (x := "all_weights") (qual := "Normal.all_weights") (st := T.s_Normal_all_weights) (ps := ["self"]) k_Normal ?a16_ ?i16_ ?l16_ ?c16_ ?k16_ ?b16_ ?z16_
    (case a16_ => k_is); (case i16_ => k_is); (case l16_ => k_is); (case c16_ => k_is); (case k16_ => k_is)
    (case b16_ => exact fun _ _ _ _ _ _ us hl => match us, hl with | [_], _ => rfl)
    intro e_Normal_all_weights
    refine' DL.meth_k (x := "back") (qual := "Normal.back") (st := T.s_Normal_back) (ps := ["self", "row"]) k_Normal ?a17_ ?i17_ ?l17_ ?c17_ ?k17_ ?b17_ ?z17_
    (case a17_ => k_is); (case i17_ => k_is); (case l17_ => k_is); (case c17_ => k_is); (case k17_ => k_is)
    (case b17_ => exact fun _ _ _ _ _ _ us hl => match us, hl with | [_, _], _ => rfl)
    intro e_Normal_back
    refine' DL.def_k (x := "normal") (st := T.s_normal) (ps := ["form"]) KX G ?a31 ?l31 ?c31 ?k31 ?b31 ?z31
    (case a31 => k_is); (case l31 => k_is); (case c31 => k_is); (case k31 => k_is)
    (case b31 => exact fun _ _ _ _ _ _ us hl => match us, hl with | [_], _ => rfl)
    intro d_normal
    refine' DL.def_k (x := "is_square") (st := T.s_is_square) (ps := ["number", "prime"]) KX G ?a32 ?l32 ?c32 ?k32 ?b32 ?z32
    (case a32 => k_is); (case l32 => k_is); (case c32 => k_is); (case k32 => k_is)
    (case b32 => exact fun _ _ _ _ _ _ us hl => match us, hl with | [_, _], _ => rfl)
    intro d_is_square
    refine' DL.def_k (x := "two_bars") (st := T.s_two_bars) (ps := ["numbers"]) KX G ?a33 ?l33 ?c33 ?k33 ?b33 ?z33
    (case a33 => k_is); (case l33 => k_is); (case c33 => k_is); (case k33 => k_is)
    (case b33 => exact fun _ _ _ _ _ _ us hl => match us, hl with | [_], _ => rfl)
    intro d_two_bars
    refine' DL.def_k (x := "bars_of") (st := T.s_bars_of) (ps := ["shape"]) KX G ?a34 ?l34 ?c34 ?k34 ?b34 ?z34
    (case a34 => k_is); (case l34 => k_is); (case c34 => k_is); (case k34 => k_is)
    (case b34 => exact fun _ _ _ _ _ _ us hl => match us, hl with | [_], _ => rfl)
    intro d_bars_of
    refine' DL.def_k (x := "ends_of") (st := T.s_ends_of) (ps := ["weight", "prime"]) KX G ?a35 ?l35 ?c35 ?k35 ?b35 ?z35
    (case a35 => k_is); (case l35 => k_is); (case c35 => k_is); (case k35 => k_is)
    (case b35 => exact fun _ _ _ _ _ _ us hl => match us, hl with | [_, _], _ => rfl)
    intro d_ends_of
    refine' DL.def_k (x := "symbol") (st := T.s_symbol) (ps := ["one", "other", "prime"]) KX G ?a36 ?l36 ?c36 ?k36 ?b36 ?z36
    (case a36 => k_is); (case l36 => k_is); (case c36 => k_is); (case k36 => k_is)
    (case b36 => exact fun _ _ _ _ _ _ us hl => match us, hl with | [_, _, _], _ => rfl)
    intro d_symbol
    refine' DL.def_k (x := "is_local_square") (st := T.s_is_local_square) (ps := ["weight", "prime"]) KX G ?a37 ?l37 ?c37 ?k37 ?b37 ?z37
    (case a37 => k_is); (case l37 => k_is); (case c37 => k_is); (case k37 => k_is)
    (case b37 => exact fun _ _ _ _ _ _ us hl => match us, hl with | [_, _], _ => rfl)
    intro d_is_local_square
    refine' DL.def_k (x := "four_bar") (st := T.s_four_bar) (ps := ["rows", "prime"]) KX G ?a38 ?l38 ?c38 ?k38 ?b38 ?z38
    (case a38 => k_is); (case l38 => k_is); (case c38 => k_is); (case k38 => k_is)
    (case b38 => exact fun _ _ _ _ _ _ us hl => match us, hl with | [_, _], _ => rfl)
    intro d_four_bar
    refine' DL.def_k (x := "four_bars") (st := T.s_four_bars) (ps := ["rows"]) KX G ?a39 ?l39 ?c39 ?k39 ?b39 ?z39
    (case a39 => k_is); (case l39 => k_is); (case c39 => k_is); (case k39 => k_is)
    (case b39 => exact fun _ _ _ _ _ _ us hl => match us, hl with | [_], _ => rfl)
    intro d_four_bars
    refine' DL.def_k (x := "bad_places") (st := T.s_bad_places) (ps := ["form"]) KX G ?a40 ?l40 ?c40 ?k40 ?b40 ?z40
    (case a40 => k_is); (case l40 => k_is); (case c40 => k_is); (case k40 => k_is)
    (case b40 => exact fun _ _ _ _ _ _ us hl => match us, hl with | [_], _ => rfl)
    intro d_bad_places
    refine' DL.def_k (x := "_law_mix") (st := T.s__law_mix) (ps := ["_law_script", "_law_seed"]) KX G ?a41 ?l41 ?c41 ?k41 ?b41 ?z41
    (case a41 => k_is); (case l41 => k_is); (case c41 => k_is); (case k41 => k_is)
    (case b41 => exact fun _ _ _ _ _ _ us hl => match us, hl with | [_, _], _ => rfl)
    intro d__law_mix
    refine' DL.def_k (x := "_law_next") (st := T.s__law_next) (ps := ["_law_h", "_law_cap"]) KX G ?a42 ?l42 ?c42 ?k42 ?b42 ?z42
    (case a42 => k_is); (case l42 => k_is); (case c42 => k_is); (case k42 => k_is)
    (case b42 => exact fun _ _ _ _ _ _ us hl => match us, hl with | [_, _], _ => rfl)
    intro d__law_next
    refine' DL.def_k (x := "_law_pick") (st := T.s__law_pick) (ps := ["_law_h", "_law_things"]) KX G ?a43 ?l43 ?c43 ?k43 ?b43 ?z43
    (case a43 => k_is); (case l43 => k_is); (case c43 => k_is); (case k43 => k_is)
    (case b43 => exact fun _ _ _ _ _ _ us hl => match us, hl with | [_, _], _ => rfl)
    intro d__law_pick
    refine' DL.def_k (x := "_law_bars") (st := T.s__law_bars) (ps := ["_law_numbers", "_law_prime", "_law_many"]) KX G ?a44 ?l44 ?c44 ?k44 ?b44 ?z44
    (case a44 => k_is); (case l44 => k_is); (case c44 => k_is); (case k44 => k_is)
    (case b44 => exact fun _ _ _ _ _ _ us hl => match us, hl with | [_, _, _], _ => rfl)
    intro d__law_bars
    refine' DL.def_k (x := "law") (st := T.s_law) (ps := ["_law_script"]) KX G ?a45 ?l45 ?c45 ?k45 ?b45 ?z45
    (case a45 => k_is); (case l45 => k_is); (case c45 => k_is); (case k45 => k_is)
    (case b45 => exact fun _ _ _ _ _ _ us hl => match us, hl with | [_], _ => rfl)
    intro d_law
    have C : T.Ctx _ mg ⟨0, 0, 0, _, _⟩ := ⟨B, c_MOST_PART, c_MOST_PARTS, c_SIZES, d_is_integer, d_is_weight, d_product, m_Form, k_Form, n_Form_rows, n_Form_sums, i_Form, g_Form_weights, g_Form_numbers, e_Form___len__, e_Form___eq__, d_check_three, d_primes_of, d_sign_of, d_powered, d_odd_primes_of, d_root_of, m_Normal, k_Normal, n_Normal_bare, n_Normal_ups, n_Normal_downs, n_Normal_signs, i_Normal, e_Normal_all_weights, e_Normal_back, d_normal, d_is_square, d_two_bars, d_bars_of, d_ends_of, d_symbol, d_is_local_square, d_four_bar, d_four_bars, d_bad_places, d__law_mix, d__law_next, d__law_pick, d__law_bars, d_law⟩
    exact DL.law_end (fun base X' G' => T.ok_law C) KX G hmg


