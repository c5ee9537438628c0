import PyProof.Rows.All
import Wide.All
import OpenK.AllK
import Wide.FinOn
import HandS.ForMost
import HandS.Wide
import HandS.TupAny
import HandS.IsInst
import HandS.TupMul
import HandS.Property
import HandS.Style
import HandS.Deep
import KE.GoesNew
import HandS.SetFor
import HandS.SortInts
import HandS.Conv
import KE.DataCmp
import KE.DataMinMax
import HandS.TryOnly
import HandS.More
import HandS.Exc
import HandS.ExcOwn
import HandS.ExcIs
import HandS.ExcField
import HandS.WordsExc
import KE.KExcIs
import HandS.ExcCtx
import HandS.HotCalls
import KE.KDictKeyed
import HandS.ExcInit
import HandS.ExcSuper
import KE.KExcSuper
import KE.KSuper
import HandS.OwnEq
import OpenK.KOps
import HandS.Text
import HandS.Codes
import HandS.Iter
import HandS.StrMore
import KE.IntTextLaws
import KE.IntTextText
import PyProof.StrOps2
import HandS.Replace
import HandS.ReplaceList
import PyProof.StrReplace2
import PySem.Challenge.RW_squareweights_k15_whole_texts
set_option Elab.async false
set_option linter.all false
set_option autoImplicit false
set_option maxRecDepth 100000
set_option maxHeartbeats 4000000
/-! DL: readings over plain data; the heap hidden. -/
namespace DL
open PySem L2

/-- plain data: what a value is, down to its leaves -/
inductive D where
  | raw (v : V)
  | tup (xs : List D)
  | lst (xs : List D)
  | dic (ks : List Key) (vs : List D)
  | ins (C : Addr) (ns : List Str) (vs : List D)
  | rd (xs : List D)
abbrev D.int (i : Int) : D := .raw (.int i)
abbrev D.bl (b : Bool) : D := .raw (.bl b)
abbrev D.non : D := .raw .non
abbrev D.str (s : Str) : D := .raw (.str s)
abbrev D.ints (ns : List Int) : List D := ns.map D.int

section
variable (K : PySem.W.Frag)
mutual
def Den (F : Hp) : D → V → Prop
  | .raw v, x => x = v
  | .tup ds, x => ∃ a vs, x = .ref a ∧ SqT K F a vs ∧ Dens F ds vs
  | .lst ds, x => ∃ a vs, x = .ref a ∧ F a = some (.lst vs) ∧ Dens F ds vs
  | .dic ks ds, x => ∃ a vs, x = .ref a ∧ F a = some (.dK (ks.zip vs)) ∧ ks.length = vs.length ∧ Dens F ds vs
  | .ins C ns ds, x => ∃ a dx vs, x = .ref a ∧ F a = some (.ins C dx (ns.zip vs)) ∧ ns.length = vs.length ∧ Dens F ds vs
  | .rd ds, x => ∃ a vs, x = .ref a ∧ SqL K F a vs ∧ Dens F ds vs
def Dens (F : Hp) : List D → List V → Prop
  | [], vs => vs = []
  | d :: ds, vs => ∃ v r, vs = v :: r ∧ Den F d v ∧ Dens F ds r
end

theorem sqt_same {F F' : Hp} {a : Addr} {xs : List V} (e : Same F F') (h : SqT K F a xs) : SqT K F' a xs := by
  rcases h with (h | ⟨o, h⟩) | h
  · exact .inl (.inl (e _ _ h))
  · exact .inl (.inr ⟨o, e _ _ h⟩)
  · exact .inr h
mutual
theorem Den.mono {F F' : Hp} (e : Same F F') : ∀ (d : D) (x : V), Den K F d x → Den K F' d x
  | .raw v, x, h => h
  | .tup ds, x, h => by
    obtain ⟨a, vs, h1, h2, h3⟩ := h
    exact ⟨a, vs, h1, sqt_same K e h2, Dens.mono e ds vs h3⟩
  | .lst ds, x, h => by
    obtain ⟨a, vs, h1, h2, h3⟩ := h
    exact ⟨a, vs, h1, e _ _ h2, Dens.mono e ds vs h3⟩
  | .dic ks ds, x, h => by
    obtain ⟨a, vs, h1, h2, h4, h3⟩ := h
    exact ⟨a, vs, h1, e _ _ h2, h4, Dens.mono e ds vs h3⟩
  | .ins C ns ds, x, h => by
    obtain ⟨a, dx, vs, h1, h2, h4, h3⟩ := h
    exact ⟨a, dx, vs, h1, e _ _ h2, h4, Dens.mono e ds vs h3⟩
  | .rd ds, x, h => by
    obtain ⟨a, vs, h1, h2, h3⟩ := h
    exact ⟨a, vs, h1, e.seq h2, Dens.mono e ds vs h3⟩
theorem Dens.mono {F F' : Hp} (e : Same F F') : ∀ (ds : List D) (vs : List V), Dens K F ds vs → Dens K F' ds vs
  | [], vs, h => h
  | d :: ds, vs, h => by
    obtain ⟨v, r, h1, h2, h3⟩ := h
    exact ⟨v, r, h1, Den.mono e d v h2, Dens.mono e ds r h3⟩
end
variable {K}
theorem Dens.nil {F : Hp} : Dens K F [] [] := rfl
theorem Dens.cons {F : Hp} {d : D} {ds : List D} {v : V} {vs : List V} (h : Den K F d v) (t : Dens K F ds vs) : Dens K F (d :: ds) (v :: vs) := ⟨v, vs, rfl, h, t⟩
theorem Dens.length {F : Hp} : ∀ {ds : List D} {vs : List V}, Dens K F ds vs → ds.length = vs.length
  | [], _, h => by
    have h : _ = [] := h
    subst h; rfl
  | d :: ds, _, h => by
    obtain ⟨v, r, rfl, _, h3⟩ := h
    simp [Dens.length h3]
theorem Dens.get {F : Hp} : ∀ {ds : List D} {vs : List V} {i : Nat} {d : D}, Dens K F ds vs → ds[i]? = some d → ∃ v, vs[i]? = some v ∧ Den K F d v
  | [], _, _, _, _, e => by simp at e
  | d :: ds, _, 0, _, h, e => by
    obtain ⟨v, r, rfl, h2, h3⟩ := h
    simp at e; subst e
    exact ⟨v, rfl, h2⟩
  | d :: ds, _, i + 1, _, h, e => by
    obtain ⟨v, r, rfl, h2, h3⟩ := h
    obtain ⟨u, q, hu⟩ := Dens.get (i := i) h3 (by simpa using e)
    exact ⟨u, by simpa using q, hu⟩
theorem Dens.append {F : Hp} : ∀ {ds es : List D} {vs us : List V}, Dens K F ds vs → Dens K F es us → Dens K F (ds ++ es) (vs ++ us)
  | [], _, _, _, h, k => by
    have h : _ = [] := h
    subst h; exact k
  | d :: ds, _, _, _, h, k => by
    obtain ⟨v, r, rfl, h2, h3⟩ := h
    exact ⟨v, r ++ _, rfl, h2, Dens.append h3 k⟩
theorem Dens.drop {F : Hp} : ∀ (n : Nat) {ds : List D} {vs : List V}, Dens K F ds vs → Dens K F (ds.drop n) (vs.drop n)
  | 0, _, _, h => h
  | n + 1, [], _, h => by
    have h : _ = [] := h
    subst h; exact rfl
  | n + 1, d :: ds, _, h => by
    obtain ⟨v, r, rfl, h2, h3⟩ := h
    exact Dens.drop n h3
theorem Dens.take {F : Hp} : ∀ (n : Nat) {ds : List D} {vs : List V}, Dens K F ds vs → Dens K F (ds.take n) (vs.take n)
  | 0, _, _, h => rfl
  | n + 1, [], _, h => by
    have h : _ = [] := h
    subst h; exact rfl
  | n + 1, d :: ds, _, h => by
    obtain ⟨v, r, rfl, h2, h3⟩ := h
    exact ⟨v, r.take n, rfl, h2, Dens.take n h3⟩
theorem Dens.set {F : Hp} {d : D} {v : V} (hd : Den K F d v) : ∀ (i : Nat) {ds : List D} {vs : List V}, Dens K F ds vs → Dens K F (ds.set i d) (vs.set i v)
  | _, [], _, h => by
    have h : _ = [] := h
    subst h; exact rfl
  | 0, d' :: ds, _, h => by
    obtain ⟨u, r, rfl, h2, h3⟩ := h
    exact ⟨v, r, rfl, hd, h3⟩
  | i + 1, d' :: ds, _, h => by
    obtain ⟨u, r, rfl, h2, h3⟩ := h
    exact ⟨u, r.set i v, rfl, h2, Dens.set hd i h3⟩
theorem Dens.raws {F : Hp} : ∀ {xs : List V}, Dens K F (xs.map D.raw) xs
  | [] => rfl
  | x :: xs => ⟨x, xs, rfl, rfl, Dens.raws⟩
theorem Dens.ofRaws {F : Hp} : ∀ {xs : List V} {vs : List V}, Dens K F (xs.map D.raw) vs → vs = xs
  | [], _, h => h
  | x :: xs, _, h => by
    obtain ⟨v, r, rfl, h2, h3⟩ := h
    have h2 : v = x := h2
    rw [h2, Dens.ofRaws h3]
theorem Dens.ofInts {F : Hp} {ns : List Int} {vs : List V} (h : Dens K F (D.ints ns) vs) : vs = ns.map V.int := by
  have e : D.ints ns = (ns.map V.int).map D.raw := by simp [D.ints, Function.comp_def]
  rw [e] at h
  exact h.ofRaws
theorem Dens.replicate {F : Hp} {d : D} {v : V} (h : Den K F d v) : ∀ n : Nat, Dens K F (List.replicate n d) (List.replicate n v)
  | 0 => rfl
  | n + 1 => ⟨v, List.replicate n v, rfl, h, Dens.replicate h n⟩
end

/-! ### what may change: numbered things, each at an address (two, for the source of draws) -/
inductive MO where
  | lst (ds : List D)
  | dic (ks : List Key) (vs : List D)
  | ins (C : Addr) (ns : List Str) (vs : List D)
  | rng
  | dead
  | frz (d : Addr) (od : Obj) (kvs : List (Key × V)) (ks : List Key) (ds : List D)
  | pin (a : Addr) (ds : List D)
  | hoF (a : Addr) (o : HO) (y : Hp → Prop) (m : ∀ F F' : Hp, Same F F' → y F → y F')
abbrev MO.ho (a : Addr) (o : HO) : MO := .hoF a o (fun _ => True) (fun _ _ _ h => h)
abbrev Al := List (Addr × Addr)
/-- the source of draws as it stands -/
def Rng (H : Hp) (p : Addr × Addr) : Prop := ∃ (s i : Int) (cells : List Int), p.1 ≠ p.2 ∧ H p.1 = some (.lst [.int s, .ref p.2, .int i]) ∧ H p.2 = some (.lst (cells.map V.int)) ∧
  0 ≤ s ∧ s < 2147483647 ∧ cells.length ≤ 63 ∧ 0 ≤ i
section
variable (K : PySem.W.Frag)
def MObj (F H : Hp) : MO → Addr × Addr → Prop
  | .lst ds, p => F p.1 = none ∧ ∃ vs, H p.1 = some (.lst vs) ∧ Dens K F ds vs
  | .dic ks ds, p => F p.1 = none ∧ ∃ vs, H p.1 = some (.dK (ks.zip vs)) ∧ ks.length = vs.length ∧ Dens K F ds vs
  | .ins C ns ds, p => F p.1 = none ∧ ∃ dx vs, H p.1 = some (.ins C dx (ns.zip vs)) ∧ ns.length = vs.length ∧ Dens K F ds vs
  | .rng, p => F p.1 = none ∧ F p.2 = none ∧ Rng H p
  | .dead, _ => True
  | .frz d od kvs ks ds, p => F p.1 = none ∧ p.1 = d ∧ H p.1 = some (.frz od (.dK kvs)) ∧ ∃ vs, kvs = ks.zip vs ∧ ks.length = vs.length ∧ Dens K F ds vs
  | .pin a ds, p => F p.1 = none ∧ p.1 = a ∧ ∃ vs, H p.1 = some (.lst vs) ∧ Dens K F ds vs
  | .hoF a o y m, p => F p.1 = none ∧ p.1 = a ∧ H p.1 = some o ∧ y F
def Apart (p q : Addr × Addr) : Prop := p.1 ≠ q.1 ∧ p.1 ≠ q.2 ∧ p.2 ≠ q.1 ∧ p.2 ≠ q.2
structure Sta (α : Al) (M : List MO) (F H : Hp) : Prop where
  sub : Same F H
  len : M.length = α.length
  ob : ∀ (i : Nat) m p, M[i]? = some m → α[i]? = some p → MObj K F H m p
  ap : ∀ (i j : Nat) p q, i < j → α[i]? = some p → α[j]? = some q → Apart p q
  tr : ∀ p, p ∈ α → H p.1 ≠ none ∧ H p.2 ≠ none
/-- a slot: data, or the k-th thing -/
inductive Sl where
  | v (d : D)
  | l (k : Nat)
def SlOk (α : Al) (F : Hp) : Sl → V → Prop
  | .v d, x => Den K F d x
  | .l k, x => ∃ p, α[k]? = some p ∧ x = .ref p.1
abbrev Rho := List (Option Sl)
structure EnvOk (α : Al) (F : Hp) (σ : L2.St) (ρ : Rho) : Prop where
  len : σ.length = ρ.length
  at' : ∀ (i : Nat) s, ρ[i]? = some (some s) → ∃ v, σ[i]? = some (some v) ∧ SlOk K α F s v
/-- from one heap to a later one: all but the numbered things as it was -/
structure Move (α : Al) (F H F' H' : Hp) : Prop where
  ex : Same F F'
  fr : ∀ b o, H b = some o → (∀ p, p ∈ α → b ≠ p.1 ∧ b ≠ p.2) → H' b = some o
  tr : ∀ b, H b ≠ none → H' b ≠ none
  new : ∀ b, F' b ≠ none → F b ≠ none ∨ H b = none
end
theorem Move.refl {α : Al} {F H : Hp} : Move α F H F H := ⟨fun _ _ h => h, fun _ _ h _ => h, fun _ h => h, fun _ h => .inl h⟩
theorem Move.trans {α : Al} {F H F1 H1 F2 H2 : Hp} (a : Move α F H F1 H1) (b : Move α F1 H1 F2 H2) : Move α F H F2 H2 where
  ex := a.ex.trans b.ex
  fr := fun c o h k => b.fr c o (a.fr c o h k) k
  tr := fun c h => b.tr c (a.tr c h)
  new := fun c h => by
    rcases b.new c h with q | q
    · exact a.new c q
    · refine .inr ?_
      cases e : H c with
      | none => rfl
      | some o => exact absurd q (a.tr c (by rw [e]; simp))

section
variable {K : PySem.W.Frag}
theorem SlOk.mono {α : Al} {F F' : Hp} (e : Same F F') : ∀ {s : Sl} {x : V}, SlOk K α F s x → SlOk K α F' s x
  | .v d, x, h => Den.mono K e d x h
  | .l k, x, h => h
theorem EnvOk.mono {α : Al} {F F' : Hp} {σ : L2.St} {ρ : Rho} (e : Same F F') (h : EnvOk K α F σ ρ) : EnvOk K α F' σ ρ :=
  ⟨h.len, fun i s q => let ⟨v, a, b⟩ := h.at' i s q; ⟨v, a, b.mono e⟩⟩
theorem EnvOk.set {α : Al} {F : Hp} {σ : L2.St} {ρ : Rho} (h : EnvOk K α F σ ρ) (i : Nat) {s : Sl} {v : V} (hv : SlOk K α F s v) : EnvOk K α F (σ.set i (some v)) (ρ.set i (some s)) := by
  refine ⟨by simp [h.len], fun j t q => ?_⟩
  by_cases e : i = j
  · subst e
    by_cases hl : i < ρ.length
    · rw [List.getElem?_set_self hl] at q
      cases q
      exact ⟨v, by rw [List.getElem?_set_self (by rw [h.len]; exact hl)], hv⟩
    · rw [List.getElem?_eq_none (by simpa using hl)] at q; cases q
  · rw [List.getElem?_set_ne e] at q ⊢
    exact h.at' j t q
theorem EnvOk.setN {α : Al} {F : Hp} {σ : L2.St} {ρ : Rho} (h : EnvOk K α F σ ρ) (i : Nat) : EnvOk K α F (σ.set i none) (ρ.set i none) := by
  refine ⟨by simp [h.len], fun j t q => ?_⟩
  by_cases e : i = j
  · subst e
    by_cases hl : i < ρ.length
    · rw [List.getElem?_set_self hl] at q; cases q
    · rw [List.getElem?_eq_none (by simpa using hl)] at q; cases q
  · rw [List.getElem?_set_ne e] at q ⊢
    exact h.at' j t q

theorem raw_ok {α : Al} {F : Hp} {v : V} : SlOk K α F (.v (.raw v)) v := rfl
theorem den_ok {α : Al} {F : Hp} {d : D} {v : V} (h : Den K F d v) : SlOk K α F (.v d) v := h
/-! ### expressions -/
def EvP (K : PySem.W.Frag) (te : TE) (ρ : Rho) (M : List MO) (Q : Sl → Prop) : Prop := ∀ (σ : L2.St) (α : Al) (F H : Hp), EnvOk K α F σ ρ → Sta K α M F H → ∀ k : VK,
  (∀ v F' H' s, Move α F H F' H' → Sta K α M F' H' → SlOk K α F' s v → Q s → k v H') → te σ H k
def EvT (K : PySem.W.Frag) (tt : TT) (ρ : Rho) (M : List MO) (Q : Bool → Prop) : Prop := ∀ (σ : L2.St) (α : Al) (F H : Hp), EnvOk K α F σ ρ → Sta K α M F H → ∀ k : Bool → Hp → Prop,
  (∀ b F' H', Move α F H F' H' → Sta K α M F' H' → Q b → k b H') → tt σ H k
def SlsOk (K : PySem.W.Frag) (α : Al) (F : Hp) : List Sl → List V → Prop
  | [], vs => vs = []
  | s :: ss, vs => ∃ v r, vs = v :: r ∧ SlOk K α F s v ∧ SlsOk K α F ss r
theorem SlsOk.mono {α : Al} {F F' : Hp} (e : Same F F') : ∀ {ss : List Sl} {vs : List V}, SlsOk K α F ss vs → SlsOk K α F' ss vs
  | [], _, h => h
  | s :: ss, _, h => by
    obtain ⟨v, r, h1, h2, h3⟩ := h
    exact ⟨v, r, h1, h2.mono e, SlsOk.mono e h3⟩
theorem SlsOk.dens {α : Al} {F : Hp} : ∀ {ds : List D} {vs : List V}, SlsOk K α F (ds.map Sl.v) vs → Dens K F ds vs
  | [], _, h => h
  | d :: ds, _, h => by
    obtain ⟨v, r, h1, h2, h3⟩ := h
    exact ⟨v, r, h1, h2, SlsOk.dens h3⟩
theorem SlsOk.length {α : Al} {F : Hp} : ∀ {ss : List Sl} {vs : List V}, SlsOk K α F ss vs → ss.length = vs.length
  | [], _, h => by
    have h : _ = [] := h
    subst h; rfl
  | s :: ss, _, h => by
    obtain ⟨v, r, rfl, _, h3⟩ := h
    simp [SlsOk.length h3]
def EvA (K : PySem.W.Frag) (ta : TA) (ρ : Rho) (M : List MO) (Q : List Sl → Prop) : Prop := ∀ (σ : L2.St) (α : Al) (F H : Hp), EnvOk K α F σ ρ → Sta K α M F H → ∀ k : List V → Hp → Prop,
  (∀ vs F' H' ss, Move α F H F' H' → Sta K α M F' H' → SlsOk K α F' ss vs → Q ss → k vs H') → ta σ H k
def EvO (K : PySem.W.Frag) (to : TO) (ρ : Rho) (M : List MO) (Q : Option Int → Prop) : Prop := ∀ (σ : L2.St) (α : Al) (F H : Hp), EnvOk K α F σ ρ → Sta K α M F H → ∀ k : Option Int → Hp → Prop,
  (∀ o F' H', Move α F H F' H' → Sta K α M F' H' → Q o → k o H') → to σ H k
/-- operations by values -/
def EvR (K : PySem.W.Frag) (r : R2) (M : List MO) (x y : Sl) (Q : Sl → Prop) : Prop := ∀ (α : Al) (F H : Hp) (u v : V), Sta K α M F H → SlOk K α F x u → SlOk K α F y v → ∀ k : VK,
  (∀ z F' H' s, Move α F H F' H' → Sta K α M F' H' → SlOk K α F' s z → Q s → k z H') → r u v H k
def EvU (K : PySem.W.Frag) (r : V → Hp → VK → Prop) (M : List MO) (x : Sl) (Q : Sl → Prop) : Prop := ∀ (α : Al) (F H : Hp) (u : V), Sta K α M F H → SlOk K α F x u → ∀ k : VK,
  (∀ z F' H' s, Move α F H F' H' → Sta K α M F' H' → SlOk K α F' s z → Q s → k z H') → r u H k
def EvC (K : PySem.W.Frag) (r : List V → Hp → VK → Prop) (M : List MO) (xs : List Sl) (Q : Sl → Prop) : Prop := ∀ (α : Al) (F H : Hp) (us : List V), Sta K α M F H → SlsOk K α F xs us → ∀ k : VK,
  (∀ z F' H' s, Move α F H F' H' → Sta K α M F' H' → SlOk K α F' s z → Q s → k z H') → r us H k

variable {ρ : Rho} {M : List MO} {Q : Sl → Prop} {te ta tb : TE}
/-- a new object is laid -/
theorem Sta.laid {α : Al} {F H : Hp} (S : Sta K α M F H) {p : Addr} {o : HO} (hp : H p = none) : Move α F H (upd F p o) (upd H p o) ∧ Sta K α M (upd F p o) (upd H p o) := by
  have hF : F p = none := S.sub.free hp
  have s1 : Same F (upd F p o) := fun b u h => by rw [upd_ne (ne_of_none h hF)]; exact h
  have s2 : ∀ b u, H b = some u → upd H p o b = some u := fun b u h => by rw [upd_ne (ne_of_none h hp)]; exact h
  have t2 : ∀ b, H b ≠ none → upd H p o b ≠ none := fun b h => by
    have : b ≠ p := fun e => h (by rw [e]; exact hp)
    rw [upd_ne this]; exact h
  have f2 : ∀ q : Addr, F q = none → H q ≠ none → upd F p o q = none := fun q h1 h2 => by
    have : q ≠ p := fun e => h2 (by rw [e]; exact hp)
    rw [upd_ne this]; exact h1
  refine ⟨⟨s1, fun b u h _ => s2 b u h, t2, fun b h => ?_⟩, ⟨fun b u h => ?_, S.len, fun i m q h1 h2 => ?_, S.ap, fun q hq => ⟨t2 _ (S.tr q hq).1, t2 _ (S.tr q hq).2⟩⟩⟩
  · by_cases e : b = p
    · exact .inr (by rw [e]; exact hp)
    · rw [upd_ne e] at h; exact .inl h
  · by_cases e : b = p
    · subst e; rw [upd_same] at h ⊢; exact h
    · rw [upd_ne e] at h ⊢; exact S.sub b u h
  · have hq := S.tr q (List.mem_of_getElem? h2)
    have k := S.ob i m q h1 h2
    cases m with
    | lst ds => exact ⟨f2 _ k.1 hq.1, let ⟨vs, a, b⟩ := k.2; ⟨vs, s2 _ _ a, Dens.mono K s1 _ _ b⟩⟩
    | dic ks ds => exact ⟨f2 _ k.1 hq.1, let ⟨vs, a, c, b⟩ := k.2; ⟨vs, s2 _ _ a, c, Dens.mono K s1 _ _ b⟩⟩
    | pin a0 ds => exact ⟨f2 _ k.1 hq.1, k.2.1, let ⟨vs, a, b⟩ := k.2.2; ⟨vs, s2 _ _ a, Dens.mono K s1 _ _ b⟩⟩
    | hoF a0 o0 y0 m0 => exact ⟨f2 _ k.1 hq.1, k.2.1, s2 _ _ k.2.2.1, m0 _ _ s1 k.2.2.2⟩
    | frz d od kvs ks ds => exact ⟨f2 _ k.1 hq.1, k.2.1, s2 _ _ k.2.2.1, let ⟨vs, c, e, b⟩ := k.2.2.2; ⟨vs, c, e, Dens.mono K s1 _ _ b⟩⟩
    | ins C ns ds => exact ⟨f2 _ k.1 hq.1, let ⟨dx, vs, a, c, b⟩ := k.2; ⟨dx, vs, s2 _ _ a, c, Dens.mono K s1 _ _ b⟩⟩
    | rng => exact ⟨f2 _ k.1 hq.1, f2 _ k.2.1 hq.2, let ⟨s, i, c, h0, h1, h2, h3⟩ := k.2.2; ⟨s, i, c, h0, s2 _ _ h1, s2 _ _ h2, h3⟩⟩
    | dead => trivial

theorem EvP.mono {Q' : Sl → Prop} (h : EvP K te ρ M Q) (q : ∀ s, Q s → Q' s) : EvP K te ρ M Q' := fun σ α F H e S k kk => h σ α F H e S k fun v F' H' s a b c d => kk v F' H' s a b c (q s d)
theorem ev_var {i : Nat} {s : Sl} (h : ρ[i]? = some (some s)) (q : Q s) : EvP K (tVar i) ρ M Q := fun σ α F H e S k kk => by
  obtain ⟨v, h1, h2⟩ := e.at' i s h
  exact ⟨v, h1, kk v F H s .refl S h2 q⟩
theorem ev_c {v : V} (q : Q (.v (.raw v))) : EvP K (tC v) ρ M Q := fun σ α F H e S k kk => kk v F H _ .refl S raw_ok q
theorem ev_op {r : R2} (h : EvP K ta ρ M fun x => EvP K tb ρ M fun y => EvR K r M x y Q) : EvP K (tOp r ta tb) ρ M Q := fun σ α F H e S k kk =>
  h σ α F H e S _ fun u F1 H1 x m1 S1 o1 q1 => q1 σ α F1 H1 (e.mono m1.ex) S1 _ fun v F2 H2 y m2 S2 o2 q2 =>
    q2 α F2 H2 u v S2 (o1.mono m2.ex) o2 k fun z F3 H3 s m3 S3 o3 q3 => kk z F3 H3 s ((m1.trans m2).trans m3) S3 o3 q3
theorem ev_un {r : V → Hp → VK → Prop} (h : EvP K ta ρ M fun x => EvU K r M x Q) : EvP K (tUn r ta) ρ M Q := fun σ α F H e S k kk =>
  h σ α F H e S _ fun u F1 H1 x m1 S1 o1 q1 => q1 α F1 H1 u S1 o1 k fun z F3 H3 s m3 S3 o3 q3 => kk z F3 H3 s (m1.trans m3) S3 o3 q3
theorem ev_cb {r : List V → Hp → VK → Prop} {t : TA} (h : EvA K t ρ M fun xs => EvC K r M xs Q) : EvP K (tCB r t) ρ M Q := fun σ α F H e S k kk =>
  h σ α F H e S _ fun u F1 H1 x m1 S1 o1 q1 => q1 α F1 H1 u S1 o1 k fun z F3 H3 s m3 S3 o3 q3 => kk z F3 H3 s (m1.trans m3) S3 o3 q3
theorem ea_nil {Q : List Sl → Prop} (q : Q []) : EvA K tNil ρ M Q := fun σ α F H e S k kk => kk [] F H [] .refl S rfl q
theorem ea_cons {tr : TA} {Q : List Sl → Prop} (h : EvP K ta ρ M fun x => EvA K tr ρ M fun xs => Q (x :: xs)) : EvA K (tCons ta tr) ρ M Q := fun σ α F H e S k kk =>
  h σ α F H e S _ fun u F1 H1 x m1 S1 o1 q1 => q1 σ α F1 H1 (e.mono m1.ex) S1 _ fun vs F2 H2 xs m2 S2 o2 q2 =>
    kk (u :: vs) F2 H2 (x :: xs) (m1.trans m2) S2 ⟨u, vs, rfl, o1.mono m2.ex, o2⟩ q2
def AllD (ss : List Sl) (ds : List D) : Prop := ss = ds.map Sl.v
theorem ev_tup {t : TA} (h : EvA K t ρ M fun xs => ∃ ds : List D, xs = ds.map Sl.v ∧ ds.length ≤ 16777216 ∧ Q (.v (.tup ds))) : EvP K (tTup t) ρ M Q := fun σ α F H e S k kk =>
  h σ α F H e S _ fun vs F1 H1 ss m1 S1 o1 ⟨ds, e1, hl, q⟩ => by
    subst e1
    have hd := o1.dens
    refine ⟨by rw [← hd.length, sizeLine_eq]; exact hl, fun p hp => ?_⟩
    obtain ⟨m2, S2⟩ := S1.laid (o := .tup vs) hp
    exact kk _ _ _ _ (m1.trans m2) S2 (den_ok (d := .tup ds) ⟨p, vs, rfl, .inl (.inl upd_same), Dens.mono K m2.ex _ _ hd⟩) q
theorem ev_lst {t : TA} (h : EvA K t ρ M fun xs => ∃ ds : List D, xs = ds.map Sl.v ∧ ds.length ≤ 16777216 ∧ Q (.v (.lst ds))) : EvP K (tLst t) ρ M Q := fun σ α F H e S k kk =>
  h σ α F H e S _ fun vs F1 H1 ss m1 S1 o1 ⟨ds, e1, hl, q⟩ => by
    subst e1
    have hd := o1.dens
    refine ⟨by rw [← hd.length, sizeLine_eq]; exact hl, fun p hp => ?_⟩
    obtain ⟨m2, S2⟩ := S1.laid (o := .lst vs) hp
    exact kk _ _ _ _ (m1.trans m2) S2 (den_ok (d := .lst ds) ⟨p, vs, rfl, upd_same, Dens.mono K m2.ex _ _ hd⟩) q
theorem ev_if {t : TT} (h : EvT K t ρ M fun b => if b = true then EvP K ta ρ M Q else EvP K tb ρ M Q) : EvP K (tIf t ta tb) ρ M Q := fun σ α F H e S k kk =>
  h σ α F H e S _ fun b F1 H1 m1 S1 q1 => by
    cases b with
    | true => exact (show EvP K ta ρ M Q from q1) σ α F1 H1 (e.mono m1.ex) S1 k fun v F2 H2 s m2 S2 o2 q2 => kk v F2 H2 s (m1.trans m2) S2 o2 q2
    | false => exact (show EvP K tb ρ M Q from q1) σ α F1 H1 (e.mono m1.ex) S1 k fun v F2 H2 s m2 S2 o2 q2 => kk v F2 H2 s (m1.trans m2) S2 o2 q2
/-! tests -/
variable {R : Bool → Prop} {t u : TT}
theorem et_B (h : EvP K te ρ M fun s => ∃ b, s = .v (.bl b) ∧ R b) : EvT K (tB te) ρ M R := fun σ α F H e S k kk =>
  h σ α F H e S _ fun v F1 H1 s m1 S1 o1 ⟨b, e1, q⟩ => by
    subst e1
    have o1 : v = .bl b := o1
    subst o1
    exact ⟨b, rfl, kk b F1 H1 m1 S1 q⟩
theorem et_test (h : EvP K te ρ M fun s => ∃ b, s = .v (.bl b) ∧ R b) : EvT K (tTest te) ρ M R := et_B h
theorem et_and (h : EvT K t ρ M fun b => if b = true then EvT K u ρ M R else R false) : EvT K (tAnd t u) ρ M R := fun σ α F H e S k kk =>
  h σ α F H e S _ fun b F1 H1 m1 S1 q1 => by
    cases b with
    | true => exact (show EvT K u ρ M R from q1) σ α F1 H1 (e.mono m1.ex) S1 k fun c F2 H2 m2 S2 q2 => kk c F2 H2 (m1.trans m2) S2 q2
    | false => exact kk false F1 H1 m1 S1 q1
theorem et_or (h : EvT K t ρ M fun b => if b = true then R true else EvT K u ρ M R) : EvT K (tOr t u) ρ M R := fun σ α F H e S k kk =>
  h σ α F H e S _ fun b F1 H1 m1 S1 q1 => by
    cases b with
    | true => exact kk true F1 H1 m1 S1 q1
    | false => exact (show EvT K u ρ M R from q1) σ α F1 H1 (e.mono m1.ex) S1 k fun c F2 H2 m2 S2 q2 => kk c F2 H2 (m1.trans m2) S2 q2
theorem et_not (h : EvT K t ρ M fun b => R (!b)) : EvT K (tNot t) ρ M R := fun σ α F H e S k kk =>
  h σ α F H e S _ fun b F1 H1 m1 S1 q1 => kk (!b) F1 H1 m1 S1 q1
theorem ev_andV (h : EvP K ta ρ M fun s => ∃ b, s = .v (.bl b) ∧ if b = true then EvP K tb ρ M Q else Q (.v (.bl false))) : EvP K (tAndV ta tb) ρ M Q := fun σ α F H e S k kk =>
  h σ α F H e S _ fun v F1 H1 s m1 S1 o1 ⟨b, e1, q1⟩ => by
    subst e1
    have o1 : v = .bl b := o1
    subst o1
    refine ⟨b, rfl, ?_⟩
    cases b with
    | true => exact (show EvP K tb ρ M Q from q1) σ α F1 H1 (e.mono m1.ex) S1 k fun v F2 H2 s m2 S2 o2 q2 => kk v F2 H2 s (m1.trans m2) S2 o2 q2
    | false => exact kk _ F1 H1 _ m1 S1 raw_ok q1
theorem ev_orV (h : EvP K ta ρ M fun s => ∃ b, s = .v (.bl b) ∧ if b = true then Q (.v (.bl true)) else EvP K tb ρ M Q) : EvP K (tOrV ta tb) ρ M Q := fun σ α F H e S k kk =>
  h σ α F H e S _ fun v F1 H1 s m1 S1 o1 ⟨b, e1, q1⟩ => by
    subst e1
    have o1 : v = .bl b := o1
    subst o1
    refine ⟨b, rfl, ?_⟩
    cases b with
    | true => exact kk _ F1 H1 _ m1 S1 raw_ok q1
    | false => exact (show EvP K tb ρ M Q from q1) σ α F1 H1 (e.mono m1.ex) S1 k fun v F2 H2 s m2 S2 o2 q2 => kk v F2 H2 s (m1.trans m2) S2 o2 q2
theorem ev_notV (h : EvP K ta ρ M fun s => ∃ b, s = .v (.bl b) ∧ Q (.v (.bl (!b)))) : EvP K (tNotV ta) ρ M Q := fun σ α F H e S k kk =>
  h σ α F H e S _ fun v F1 H1 s m1 S1 o1 ⟨b, e1, q1⟩ => by
    subst e1
    have o1 : v = .bl b := o1
    subst o1
    exact ⟨b, rfl, kk _ F1 H1 _ m1 S1 raw_ok q1⟩
theorem eo_none {R : Option Int → Prop} (q : R none) : EvO K tNoPart ρ M R := fun σ α F H e S k kk => kk none F H .refl S q
theorem eo_some {R : Option Int → Prop} (h : EvP K te ρ M fun s => ∃ i, s = .v (.int i) ∧ R (some i)) : EvO K (tPart te) ρ M R := fun σ α F H e S k kk =>
  h σ α F H e S _ fun v F1 H1 s m1 S1 o1 ⟨i, e1, q1⟩ => by
    subst e1
    have o1 : v = .int i := o1
    subst o1
    exact ⟨i, rfl, kk _ F1 H1 m1 S1 q1⟩

/-! ### operations -/
theorem er_I0 {g : Int → Int → V} {i j : Int} (q : Q (.v (.raw (g i j)))) : EvR K (rI0 g) M (.v (.int i)) (.v (.int j)) Q := fun α F H u v S o1 o2 k kk => by
  have o1 : u = .int i := o1
  have o2 : v = .int j := o2
  subst o1; subst o2
  exact ⟨i, j, rfl, rfl, kk _ F H _ .refl S raw_ok q⟩
theorem er_I {C : Int → Int → Prop} {g : Int → Int → V} {i j : Int} (hc : C i j) (q : Q (.v (.raw (g i j)))) : EvR K (rI C g) M (.v (.int i)) (.v (.int j)) Q := fun α F H u v S o1 o2 k kk => by
  have o1 : u = .int i := o1
  have o2 : v = .int j := o2
  subst o1; subst o2
  exact ⟨i, j, rfl, rfl, hc, kk _ F H _ .refl S raw_ok q⟩
theorem eu_I {g : Int → V} {i : Int} (q : Q (.v (.raw (g i)))) : EvU K (rU g) M (.v (.int i)) Q := fun α F H u S o1 k kk => by
  have o1 : u = .int i := o1
  subst o1
  exact ⟨i, rfl, kk _ F H _ .refl S raw_ok q⟩
theorem er_eq {x y : V} (h : scal x y = true) (q : Q (.v (.bl (decide (x = y))))) : EvR K rEq M (.v (.raw x)) (.v (.raw y)) Q := fun α F H u v S o1 o2 k kk => by
  have o1 : u = x := o1
  have o2 : v = y := o2
  subst o1; subst o2
  exact ⟨h, kk _ F H _ .refl S raw_ok q⟩
theorem er_ne {x y : V} (h : scal x y = true) (q : Q (.v (.bl (!decide (x = y))))) : EvR K rNe M (.v (.raw x)) (.v (.raw y)) Q := fun α F H u v S o1 o2 k kk => by
  have o1 : u = x := o1
  have o2 : v = y := o2
  subst o1; subst o2
  exact ⟨h, kk _ F H _ .refl S raw_ok q⟩
end
end DL

/-! DL2: statements, loops, calls, sequences over plain data. -/
namespace DL
open PySem L2

/-- the entry of a def -/
structure Ent where
  α : Al
  F : Hp
  H : Hp
structure StepE (e : Ent) (α : Al) (F H : Hp) : Prop where
  ex : Same e.F F
  fr : ∀ b o, e.H b = some o → (∀ p, p ∈ e.α → b ≠ p.1 ∧ b ≠ p.2) → H b = some o
  tr : ∀ b, e.H b ≠ none → H b ≠ none
  new : ∀ b, F b ≠ none → e.F b ≠ none ∨ e.H b = none
  pre : ∃ β, α = e.α ++ β ∧ ∀ p, p ∈ β → e.H p.1 = none ∧ e.H p.2 = none
section
variable {K : PySem.W.Frag}
theorem StepE.refl {e : Ent} : StepE e e.α e.F e.H := ⟨fun _ _ h => h, fun _ _ h _ => h, fun _ h => h, fun _ h => .inl h, ⟨[], by simp, fun _ h => by simp at h⟩⟩
theorem none_back {H H' : Hp} {b : Addr} (t : H b ≠ none → H' b ≠ none) (h : H' b = none) : H b = none := by
  cases e : H b with
  | none => rfl
  | some o => exact absurd h (t (by rw [e]; simp))
theorem StepE.move {e : Ent} {α : Al} {F H F' H' : Hp} (s : StepE e α F H) (m : Move α F H F' H') : StepE e α F' H' where
  ex := s.ex.trans m.ex
  fr := fun b o h k => m.fr b o (s.fr b o h k) fun p hp => by
    obtain ⟨β, e1, hβ⟩ := s.pre
    rw [e1] at hp
    rcases List.mem_append.mp hp with q | q
    · exact k p q
    · have := hβ p q
      exact ⟨fun z => by { rw [z, this.1] at h; cases h }, fun z => by { rw [z, this.2] at h; cases h }⟩
  tr := fun b h => m.tr b (s.tr b h)
  new := fun b h => by
    rcases m.new b h with q | q
    · exact s.new b q
    · exact .inr (none_back (s.tr b) q)
  pre := s.pre
structure Good (K : PySem.W.Frag) (e : Ent) (α : Al) (F H : Hp) (σ : L2.St) (ρ : Rho) (M : List MO) : Prop where
  env : EnvOk K α F σ ρ
  sta : Sta K α M F H
  st : StepE e α F H
structure EndsD where
  nx : Rho → List MO → Prop
  rt : Sl → List MO → Prop
  bk : Rho → List MO → Prop := fun _ _ => False
  ct : Rho → List MO → Prop := fun _ _ => False
structure EndsOk (K : PySem.W.Frag) (e : Ent) (B : Hp) (E : EndsD) (X : Ends) : Prop where
  nx : ∀ σ α F H ρ M, Good K e α F H σ ρ M → Same B F → E.nx ρ M → X.nx σ H
  rt : ∀ v s α F H M, SlOk K α F s v → Sta K α M F H → StepE e α F H → Same B F → E.rt s M → X.rt v H
  bk : ∀ σ α F H ρ M, Good K e α F H σ ρ M → Same B F → E.bk ρ M → X.bk σ H
  ct : ∀ σ α F H ρ M, Good K e α F H σ ρ M → Same B F → E.ct ρ M → X.ct σ H
theorem EndsOk.at {K : PySem.W.Frag} {e : Ent} {B B' : Hp} {E : EndsD} {X : Ends} (ok : EndsOk K e B E X) (s : Same B B') : EndsOk K e B' E X :=
  ⟨fun σ α F H ρ M g z => ok.nx σ α F H ρ M g (s.trans z), fun v t α F H M a b c z => ok.rt v t α F H M a b c (s.trans z), fun σ α F H ρ M g z => ok.bk σ α F H ρ M g (s.trans z), fun σ α F H ρ M g z => ok.ct σ α F H ρ M g (s.trans z)⟩
/-- a statement run from ρ, M comes to E -/
def RunD (K : PySem.W.Frag) (e : Ent) (ts : TS) (ρ : Rho) (M : List MO) (nx : Rho → List MO → Prop) (rt : Sl → List MO → Prop) (bk ct : Rho → List MO → Prop) : Prop := ∀ X σ α F H, Good K e α F H σ ρ M → EndsOk K e F ⟨nx, rt, bk, ct⟩ X → ts X σ H

variable {e : Ent} {ρ : Rho} {M : List MO} {nx bk ct : Rho → List MO → Prop} {rt : Sl → List MO → Prop} {te : TE} {t u : TS}
theorem Good.move {α : Al} {F H F' H' : Hp} {σ : L2.St} (g : Good K e α F H σ ρ M) (m : Move α F H F' H') (S : Sta K α M F' H') : Good K e α F' H' σ ρ M :=
  ⟨g.env.mono m.ex, S, g.st.move m⟩
theorem r_next (q : nx ρ M) : RunD K e tNext ρ M nx rt bk ct := fun X σ α F H g ok => ok.nx σ α F H ρ M g (.refl F) q
theorem r_seq (h : RunD K e t ρ M (fun ρ' M' => RunD K e u ρ' M' nx rt bk ct) rt bk ct) : RunD K e (tSeq t u) ρ M nx rt bk ct := fun X σ α F H g ok =>
  h { X with nx := u X } σ α F H g ⟨fun σ' α' F' H' ρ' M' g' z' q' => q' X σ' α' F' H' g' (ok.at z'), ok.rt, ok.bk, ok.ct⟩
theorem loc_ok {α : Al} {F : Hp} {k : Nat} {p : Addr × Addr} (h : α[k]? = some p) : SlOk K α F (.l k) (.ref p.1) := ⟨p, h, rfl⟩
theorem r_asg {i : Nat} (h : EvP K te ρ M fun s => nx (ρ.set i (some s)) M) : RunD K e (tAsg te (gName i)) ρ M nx rt bk ct := fun X σ α F H g ok =>
  h σ α F H g.env g.sta _ fun v F1 H1 s m1 S1 o1 q1 => ok.nx _ α F1 H1 _ M ⟨(g.env.mono m1.ex).set i o1, S1, g.st.move m1⟩ m1.ex q1
theorem r_drop (h : EvP K te ρ M fun _ => nx ρ M) : RunD K e (tDrop te) ρ M nx rt bk ct := fun X σ α F H g ok =>
  h σ α F H g.env g.sta _ fun v F1 H1 s m1 S1 o1 q1 => ok.nx _ α F1 H1 _ M (g.move m1 S1) m1.ex q1
theorem r_ret (h : EvP K te ρ M fun s => rt s M) : RunD K e (tRet te) ρ M nx rt bk ct := fun X σ α F H g ok =>
  h σ α F H g.env g.sta _ fun v F1 H1 s m1 S1 o1 q1 => ok.rt v s α F1 H1 M o1 S1 (g.st.move m1) m1.ex q1
theorem r_retN (h : rt (.v .non) M) : RunD K e tRetN ρ M nx rt bk ct := fun X σ α F H g ok => ok.rt _ _ α F H M raw_ok g.sta g.st (.refl F) h
theorem r_if {c : TT} (h : EvT K c ρ M fun b => if b = true then RunD K e t ρ M nx rt bk ct else RunD K e u ρ M nx rt bk ct) : RunD K e (tIfS c t u) ρ M nx rt bk ct := fun X σ α F H g ok =>
  h σ α F H g.env g.sta _ fun b F1 H1 m1 S1 q1 => by
    cases b with
    | true => exact (show RunD K e t ρ M nx rt bk ct from q1) X σ α F1 H1 (g.move m1 S1) (ok.at m1.ex)
    | false => exact (show RunD K e u ρ M nx rt bk ct from q1) X σ α F1 H1 (g.move m1 S1) (ok.at m1.ex)
theorem r_aug {i : Nat} {f : Int → Int → Int} {x : Int} (hx : ρ[i]? = some (some (.v (.int x)))) (h : EvP K te ρ M fun s => ∃ y, s = .v (.int y) ∧ nx (ρ.set i (some (.v (.int (f x y))))) M) : RunD K e (tAug i te (ipI f)) ρ M nx rt bk ct := fun X σ α F H g ok => by
  obtain ⟨v, h1, h2⟩ := g.env.at' i _ hx
  have h2 : v = .int x := h2
  subst h2
  refine ⟨_, h1, h σ α F H g.env g.sta _ fun v F1 H1 s m1 S1 o1 ⟨y, e1, q1⟩ => ?_⟩
  subst e1
  have o1 : v = .int y := o1
  subst o1
  exact ⟨x, y, rfl, rfl, ok.nx _ α F1 H1 _ M ⟨(g.env.mono m1.ex).set i raw_ok, S1, g.st.move m1⟩ m1.ex q1⟩
theorem r_par {i j : Nat} {ta : TA} (h : EvA K ta ρ M fun ss => ∃ a b, ss = [a, b] ∧ nx ((ρ.set i (some a)).set j (some b)) M) : RunD K e (tPar i j ta) ρ M nx rt bk ct := fun X σ α F H g ok =>
  h σ α F H g.env g.sta _ fun vs F1 H1 ss m1 S1 o1 ⟨a, b, e1, q1⟩ => by
    subst e1
    obtain ⟨v, r, rfl, hv, r2⟩ := o1
    obtain ⟨w, r', rfl, hw, r3⟩ := r2
    have r3 : r' = [] := r3
    subst r3
    exact ⟨v, w, rfl, ok.nx _ α F1 H1 _ M ⟨((g.env.mono m1.ex).set i hv).set j hw, S1, g.st.move m1⟩ m1.ex q1⟩
theorem RunD.mono {nx' bk' ct' : Rho → List MO → Prop} {rt' : Sl → List MO → Prop} (h : RunD K e t ρ M nx rt bk ct) (h1 : ∀ ρ M, nx ρ M → nx' ρ M) (h2 : ∀ s M, rt s M → rt' s M) (h3 : ∀ ρ M, bk ρ M → bk' ρ M) (h4 : ∀ ρ M, ct ρ M → ct' ρ M) : RunD K e t ρ M nx' rt' bk' ct' := fun X σ α F H g ok =>
  h X σ α F H g ⟨fun σ α F H ρ M g z q => ok.nx σ α F H ρ M g z (h1 ρ M q), fun v s α F H M a b c z q => ok.rt v s α F H M a b c z (h2 s M q), fun σ α F H ρ M g z q => ok.bk σ α F H ρ M g z (h3 ρ M q), fun σ α F H ρ M g z q => ok.ct σ α F H ρ M g z (h4 ρ M q)⟩

/-! ### changing things -/
theorem nth_ne {α : Al} {F H : Hp} {M : List MO} (S : Sta K α M F H) {i j : Nat} {p q : Addr × Addr} (hi : α[i]? = some p) (hj : α[j]? = some q) (h : i ≠ j) : Apart p q := by
  rcases Nat.lt_or_gt_of_ne h with l | l
  · exact S.ap i j p q l hi hj
  · obtain ⟨a, b, c, d⟩ := S.ap j i q p l hj hi
    exact ⟨a.symm, c.symm, b.symm, d.symm⟩
/-- the k-th thing is another now -/
theorem Sta.write {α : Al} {F H : Hp} {M : List MO} (S : Sta K α M F H) {k : Nat} {p : Addr × Addr} {m' : MO} {o : HO} (hp : α[k]? = some p) (hF : F p.1 = none) (hm : MObj K F (upd H p.1 o) m' p) : Move α F H F (upd H p.1 o) ∧ Sta K α (M.set k m') F (upd H p.1 o) := by
  have hpm : p ∈ α := List.mem_of_getElem? hp
  have t2 : ∀ b, H b ≠ none → upd H p.1 o b ≠ none := fun b h => by
    by_cases e : b = p.1
    · subst e; rw [upd_same]; simp
    · rw [upd_ne e]; exact h
  refine ⟨⟨fun _ _ h => h, fun b u h k => by rw [upd_ne (k p hpm).1]; exact h, t2, fun b h => .inl h⟩, ⟨fun b u h => ?_, by simp [S.len], fun i m q h1 h2 => ?_, S.ap, fun q hq => ⟨t2 _ (S.tr q hq).1, t2 _ (S.tr q hq).2⟩⟩⟩
  · rw [upd_ne (fun z => by rw [z, hF] at h; cases h)]; exact S.sub b u h
  · by_cases hik : k = i
    · subst hik
      have hl : k < M.length := by rw [S.len]; exact (List.getElem?_eq_some_iff.mp h2).1
      rw [List.getElem?_set_self hl] at h1
      cases h1
      rw [hp] at h2; cases h2
      exact hm
    · rw [List.getElem?_set_ne hik] at h1
      have ap := nth_ne S h2 hp (Ne.symm hik)
      have kk := S.ob i m q h1 h2
      have s1 : upd H p.1 o q.1 = H q.1 := upd_ne ap.1
      have s2 : upd H p.1 o q.2 = H q.2 := upd_ne ap.2.2.1
      cases m with
      | lst ds => exact ⟨kk.1, by rw [s1]; exact kk.2⟩
      | dic ks ds => exact ⟨kk.1, by rw [s1]; exact kk.2⟩
      | pin a0 ds => exact ⟨kk.1, by rw [s1]; exact kk.2⟩
      | hoF a0 o0 y0 m0 => exact ⟨kk.1, by rw [s1]; exact kk.2⟩
      | frz d od kvs ks ds => exact ⟨kk.1, by rw [s1]; exact kk.2⟩
      | ins C ns ds => exact ⟨kk.1, by rw [s1]; exact kk.2⟩
      | rng => exact ⟨kk.1, kk.2.1, by unfold Rng; rw [s1, s2]; exact kk.2.2⟩
      | dead => trivial
/-- a new thing -/
theorem Sta.more {α : Al} {F H : Hp} {M : List MO} (S : Sta K α M F H) {p : Addr} {m' : MO} {o : HO} (hp : H p = none) (hm : MObj K F (upd H p o) m' (p, p)) : Sta K (α ++ [(p, p)]) (M ++ [m']) F (upd H p o) := by
  have hF : F p = none := S.sub.free hp
  have s2 : ∀ b u, H b = some u → upd H p o b = some u := fun b u h => by rw [upd_ne (ne_of_none h hp)]; exact h
  have t2 : ∀ b, H b ≠ none → upd H p o b ≠ none := fun b h => by
    have : b ≠ p := fun e => h (by rw [e]; exact hp)
    rw [upd_ne this]; exact h
  refine ⟨fun b u h => s2 b u (S.sub b u h), by simp [S.len], fun i m q h1 h2 => ?_, fun i j q r hij h1 h2 => ?_, fun q hq => ?_⟩
  · by_cases hi : i < α.length
    · rw [List.getElem?_append_left (by rw [S.len]; exact hi)] at h1
      rw [List.getElem?_append_left hi] at h2
      have kk := S.ob i m q h1 h2
      cases m with
      | lst ds => exact ⟨kk.1, let ⟨vs, a, b⟩ := kk.2; ⟨vs, s2 _ _ a, b⟩⟩
      | dic ks ds => exact ⟨kk.1, let ⟨vs, a, b⟩ := kk.2; ⟨vs, s2 _ _ a, b⟩⟩
      | pin a0 ds => exact ⟨kk.1, kk.2.1, let ⟨vs, a, b⟩ := kk.2.2; ⟨vs, s2 _ _ a, b⟩⟩
      | hoF a0 o0 y0 m0 => exact ⟨kk.1, kk.2.1, s2 _ _ kk.2.2.1, kk.2.2.2⟩
      | frz d od kvs ks ds => exact ⟨kk.1, kk.2.1, s2 _ _ kk.2.2.1, kk.2.2.2⟩
      | ins C ns ds => exact ⟨kk.1, let ⟨dx, vs, a, b⟩ := kk.2; ⟨dx, vs, s2 _ _ a, b⟩⟩
      | rng => exact ⟨kk.1, kk.2.1, let ⟨s, i, c, h0, h1, h2, h3⟩ := kk.2.2; ⟨s, i, c, h0, s2 _ _ h1, s2 _ _ h2, h3⟩⟩
      | dead => trivial
    · have hi2 : i = α.length := by
        have := (List.getElem?_eq_some_iff.mp h2).1
        simp at this; omega
      subst hi2
      rw [← S.len, List.getElem?_append_right (Nat.le_refl _)] at h1
      rw [List.getElem?_append_right (Nat.le_refl _)] at h2
      simp at h1 h2
      subst h1; subst h2
      exact hm
  · have hj : j < α.length ∨ j = α.length := by
      have := (List.getElem?_eq_some_iff.mp h2).1
      simp at this; omega
    have hi : i < α.length := by omega
    rw [List.getElem?_append_left hi] at h1
    rcases hj with hj | hj
    · rw [List.getElem?_append_left hj] at h2
      exact S.ap i j q r hij h1 h2
    · subst hj
      rw [List.getElem?_append_right (Nat.le_refl _)] at h2
      simp at h2
      subst h2
      have hq := S.tr q (List.mem_of_getElem? h1)
      have n1 : q.1 ≠ p := fun z => hq.1 (by rw [z]; exact hp)
      have n2 : q.2 ≠ p := fun z => hq.2 (by rw [z]; exact hp)
      exact ⟨n1, n1, n2, n2⟩
  · rcases List.mem_append.mp hq with z | z
    · exact ⟨t2 _ (S.tr q z).1, t2 _ (S.tr q z).2⟩
    · simp at z; subst z
      show upd H p o p ≠ none ∧ upd H p o p ≠ none
      rw [upd_same]; simp
theorem SlOk.more {α β : Al} {F : Hp} : ∀ {s : Sl} {x : V}, SlOk K α F s x → SlOk K (α ++ β) F s x
  | .v d, x, h => h
  | .l k, x, ⟨p, h1, h2⟩ => ⟨p, by rw [List.getElem?_append_left (List.getElem?_eq_some_iff.mp h1).1]; exact h1, h2⟩
theorem EnvOk.more {α β : Al} {F : Hp} {σ : L2.St} (h : EnvOk K α F σ ρ) : EnvOk K (α ++ β) F σ ρ := ⟨h.len, fun i s q => let ⟨v, a, b⟩ := h.at' i s q; ⟨v, a, b.more⟩⟩
theorem StepE.more {α : Al} {F H : Hp} (s : StepE e α F H) {p : Addr} {o : HO} (hp : H p = none) : StepE e (α ++ [(p, p)]) F (upd H p o) where
  ex := s.ex
  fr := fun b u h k => by
    have := s.fr b u h k
    rw [upd_ne (ne_of_none this hp)]; exact this
  tr := fun b h => by
    have := s.tr b h
    have n : b ≠ p := fun z => this (by rw [z]; exact hp)
    rw [upd_ne n]; exact this
  new := s.new
  pre := by
    obtain ⟨β, e1, hβ⟩ := s.pre
    refine ⟨β ++ [(p, p)], by rw [e1, List.append_assoc], fun q hq => ?_⟩
    rcases List.mem_append.mp hq with z | z
    · exact hβ q z
    · simp at z; subst z
      exact ⟨none_back (s.tr p) hp, none_back (s.tr p) hp⟩
theorem sta_len {α : Al} {F H : Hp} (S : Sta K α M F H) {p : Addr} : (α ++ [(p, p)])[M.length]? = some (p, p) := by
  rw [S.len, List.getElem?_append_right (Nat.le_refl _)]; simp
/-- name = [..], a list that is to change -/
theorem r_newL {i : Nat} {ta : TA} (h : EvA K ta ρ M fun ss => ∃ ds : List D, ss = ds.map Sl.v ∧ ds.length ≤ 16777216 ∧ nx (ρ.set i (some (.l M.length))) (M ++ [.lst ds])) : RunD K e (tAsg (tLst ta) (gName i)) ρ M nx rt bk ct := fun X σ α F H g ok =>
  h σ α F H g.env g.sta _ fun vs F1 H1 ss m1 S1 o1 ⟨ds, e1, hl, q1⟩ => by
    subst e1
    have hd := o1.dens
    refine ⟨by rw [← hd.length, sizeLine_eq]; exact hl, fun p hp => ?_⟩
    have S2 := S1.more (m' := .lst ds) (o := .lst vs) hp ⟨S1.sub.free hp, vs, upd_same, hd⟩
    exact ok.nx _ _ F1 _ _ _ ⟨((g.env.mono m1.ex).more).set i (loc_ok (p := (p, p)) (sta_len S1)), S2, (g.st.move m1).more hp⟩ m1.ex q1
/-- a list that is made by any expression, held as one that is to change: nobody else knows it -/
theorem sta_get {α : Al} {F H : Hp} (S : Sta K α M F H) {k : Nat} {m : MO} (h : M[k]? = some m) : ∃ p, α[k]? = some p := by
  have : k < α.length := by rw [← S.len]; exact (List.getElem?_eq_some_iff.mp h).1
  exact ⟨α[k], List.getElem?_eq_getElem this⟩
/-- xs.append(e) -/
theorem r_app {i k : Nat} {ds : List D} (hi : ρ[i]? = some (some (.l k))) (hk : M[k]? = some (.lst ds)) (h : EvP K te ρ M fun s => ∃ d, s = .v d ∧ ds.length < 16777216 ∧ nx ρ (M.set k (.lst (ds ++ [d])))) :
    RunD K e (tDrop (tBM K "list" rAppend (tVar i) (tCons te tNil))) ρ M nx rt bk ct := fun X σ α F H g ok => by
  obtain ⟨v, h1, p, hp, rfl⟩ := g.env.at' i _ hi
  obtain ⟨hF, vs, hvs, _⟩ := g.sta.ob k _ p hk hp
  refine ⟨_, h1, .inl ⟨rfl, vs, SqL.of hvs⟩, h σ α F H g.env g.sta _ fun v F1 H1 s m1 S1 o1 ⟨d, e1, hl, q1⟩ => ?_⟩
  subst e1
  obtain ⟨hF1, vs1, hvs1, hd1⟩ := S1.ob k _ p hk hp
  refine ⟨p.1, vs1, v, rfl, rfl, hvs1, by rw [← hd1.length, sizeLine_eq]; exact hl, ?_⟩
  obtain ⟨m2, S2⟩ := S1.write (m' := .lst (ds ++ [d])) (o := .lst (vs1 ++ [v])) hp hF1 ⟨hF1, _, upd_same, hd1.append (Dens.cons o1 Dens.nil)⟩
  exact ok.nx _ _ F1 _ _ _ ⟨(g.env.mono m1.ex), S2, (g.st.move m1).move m2⟩ m1.ex q1
theorem ixN_nat {n j : Nat} (hj : j < n) : ixN n (j : Int) = some j := by
  unfold ixN
  rw [if_pos (by omega), if_pos (by omega)]
  simp
end
end DL

/-! DL3: walks, loops, comprehensions, calls over plain data. -/
namespace DL
open PySem L2
section
variable {K : PySem.W.Frag} {e : Ent} {ρ : Rho} {M : List MO} {nx bk ct : Rho → List MO → Prop} {rt : Sl → List MO → Prop} {Q : Sl → Prop} {te ta tb : TE} {t u : TS}

/-! ### what is walked -/
def ItOk (K : PySem.W.Frag) (J : It) (F : Hp) (items : List D) : Prop := ∀ (i : Nat) (F1 H : Hp), Same F F1 → Same F1 H → (items.length = i → J.stop i H) ∧
  ∀ d, items[i]? = some d → J.go i H ∧ ∀ x H', J.yld i H x H' → (H' = H ∧ Den K F1 d x) ∨ ∃ T vs ds, x = .ref T ∧ H T = none ∧ H' = upd H T (.tup vs) ∧ d = .tup ds ∧ Dens K F1 ds vs
def EvI (K : PySem.W.Frag) (wi : TI) (ρ : Rho) (M : List MO) (R : List D → Prop) : Prop := ∀ (σ : L2.St) (α : Al) (F H : Hp), EnvOk K α F σ ρ → Sta K α M F H → ∀ k : It → Hp → Prop,
  (∀ J F' H' items, Move α F H F' H' → Sta K α M F' H' → ItOk K J F' items → R items → k J H') → wi σ H k
theorem it_turn {α : Al} {J : It} {F F1 H : Hp} {items : List D} {i : Nat} {d : D} {x : V} {H' : Hp} (ok : ItOk K J F items) (s1 : Same F F1) (S : Sta K α M F1 H) (hd : items[i]? = some d) (y : J.yld i H x H') :
    ∃ F2, Move α F1 H F2 H' ∧ Sta K α M F2 H' ∧ Den K F2 d x := by
  rcases ((ok i F1 H s1 S.sub).2 d hd).2 x H' y with ⟨rfl, h⟩ | ⟨T, vs, ds, rfl, hT, rfl, rfl, h⟩
  · exact ⟨F1, .refl, S, h⟩
  · obtain ⟨m, S2⟩ := S.laid (o := .tup vs) hT
    exact ⟨_, m, S2, T, vs, rfl, .inl (.inl upd_same), Dens.mono K m.ex _ _ h⟩
theorem itl_ok {F : Hp} {a : Addr} {vs : List V} {ds : List D} (h : F a = some (.lst vs)) (hd : Dens K F ds vs) : ItOk K (Itl K a) F ds := fun i F1 H s1 s2 => by
  have hH : SqL K H a vs := SqL.of (s2 _ _ (s1 _ _ h))
  refine ⟨fun hl => ⟨vs, hH, by rw [← hd.length]; exact Nat.le_of_eq hl⟩, fun d e => ?_⟩
  obtain ⟨v, e2, r⟩ := hd.get e
  refine ⟨⟨vs, v, hH, e2⟩, fun x H' y => .inl ⟨y.1, ?_⟩⟩
  have := y.2 vs hH
  rw [e2] at this; cases this
  exact Den.mono K s1 _ _ r
theorem itt_ok {F : Hp} {a : Addr} {vs : List V} {ds : List D} (h : SqT K F a vs) (hd : Dens K F ds vs) : ItOk K (Itt K a) F ds := fun i F1 H s1 s2 => by
  have hH : SqT K H a vs := sqt_same K s2 (sqt_same K s1 h)
  refine ⟨fun hl => ⟨vs, hH, by rw [← hd.length]; exact Nat.le_of_eq hl⟩, fun d e => ?_⟩
  obtain ⟨v, e2, r⟩ := hd.get e
  refine ⟨⟨vs, v, hH, e2⟩, fun x H' y => .inl ⟨y.1, ?_⟩⟩
  have := y.2 vs hH
  rw [e2] at this; cases this
  exact Den.mono K s1 _ _ r
def rangeD (lo : Int) (n : Nat) : List D := (List.range n).map fun i : Nat => D.int (lo + (i : Int))
theorem rangeD_len {lo : Int} {n : Nat} : (rangeD lo n).length = n := by simp [rangeD]
theorem rangeD_get {lo : Int} {n i : Nat} {d : D} (h : (rangeD lo n)[i]? = some d) : i < n ∧ d = .int (lo + i) := by
  unfold rangeD at h
  rw [List.getElem?_map] at h
  by_cases hi : i < n
  · rw [List.getElem?_range hi] at h
    simp at h
    exact ⟨hi, h.symm⟩
  · rw [List.getElem?_eq_none (by simpa using hi)] at h; cases h
theorem itr_ok {F : Hp} {lo : Int} {n : Nat} : ItOk K (Itr lo n) F (rangeD lo n) := fun i F1 H s1 s2 => by
  refine ⟨fun hl => by rw [rangeD_len] at hl; exact Nat.le_of_eq hl, fun d e => ?_⟩
  obtain ⟨hi, rfl⟩ := rangeD_get e
  exact ⟨hi, fun x H' y => .inl ⟨y.1, y.2⟩⟩
theorem ei_range1 {tl : TA} {R : List D → Prop} (h : EvA K tl ρ M fun ss => ∃ n, ss = [.v (.int n)] ∧ -(2 ^ 62) ≤ n ∧ n < 2 ^ 62 ∧ R (rangeD 0 n.toNat)) : EvI K (iRng1 tl) ρ M R := fun σ α F H en S k kk =>
  h σ α F H en S _ fun vs F1 H1 ss m1 S1 o1 ⟨n, e1, h1, h2, q⟩ => by
    subst e1
    obtain ⟨v, r, rfl, hv, r2⟩ := o1
    have hv : v = .int n := hv
    have r2 : r = [] := r2
    subst hv; subst r2
    exact ⟨n, rfl, h1, h2, kk _ F1 H1 _ m1 S1 itr_ok q⟩
theorem ei_range2 {tl : TA} {R : List D → Prop} (h : EvA K tl ρ M fun ss => ∃ i j, ss = [.v (.int i), .v (.int j)] ∧ (-(2 ^ 62) ≤ i ∧ i < 2 ^ 62 ∧ -(2 ^ 62) ≤ j ∧ j < 2 ^ 62) ∧ R (rangeD i (j - i).toNat)) : EvI K (iRng2 tl) ρ M R := fun σ α F H en S k kk =>
  h σ α F H en S _ fun vs F1 H1 ss m1 S1 o1 ⟨i, j, e1, h1, q⟩ => by
    subst e1
    obtain ⟨v, r, rfl, hv, r2⟩ := o1
    obtain ⟨w, r', rfl, hw, r3⟩ := r2
    have hv : v = .int i := hv
    have hw : w = .int j := hw
    have r3 : r' = [] := r3
    subst hv; subst hw; subst r3
    exact ⟨i, j, rfl, h1, kk _ F1 H1 _ m1 S1 itr_ok q⟩
/-! ### targets: names, tuples of names -/
def EvG (K : PySem.W.Frag) (g : TG) (is : List Nat) (d : D) (ρ : Rho) (R : Rho → Prop) : Prop := ∀ (σ : L2.St) (α : Al) (F H : Hp) (v : V), EnvOk K α F σ ρ → Same F H → Den K F d v → ∀ k : L2.St → Hp → Prop,
  (∀ σ' ρ', EnvOk K α F σ' ρ' → σ'.length = σ.length → (∀ j : Nat, j ∉ is → σ'[j]? = σ[j]?) → R ρ' → k σ' H) → g v σ H k
def EvGs (K : PySem.W.Frag) (g : TGs) (is : List Nat) (ds : List D) (ρ : Rho) (R : Rho → Prop) : Prop := ∀ (σ : L2.St) (α : Al) (F H : Hp) (vs : List V), EnvOk K α F σ ρ → Same F H → Dens K F ds vs → ∀ k : L2.St → Hp → Prop,
  (∀ σ' ρ', EnvOk K α F σ' ρ' → σ'.length = σ.length → (∀ j : Nat, j ∉ is → σ'[j]? = σ[j]?) → R ρ' → k σ' H) → g vs σ H k
theorem eg_name {i : Nat} {is : List Nat} {d : D} {R : Rho → Prop} (q : R (ρ.set i (some (.v d)))) (hi : i ∈ is := by simp) : EvG K (gName i) is d ρ R := fun σ α F H v en s h k kk =>
  kk _ _ (en.set i (s := .v d) h) (by simp) (fun j hj => List.getElem?_set_ne (fun z => hj (by rw [← z]; exact hi))) q
theorem eg_nil {is : List Nat} {R : Rho → Prop} (q : R ρ) : EvGs K gNil is [] ρ R := fun σ α F H vs en s h k kk => by
  have h : vs = [] := h
  exact ⟨h, kk _ _ en rfl (fun _ _ => rfl) q⟩
theorem eg_cons {g : TG} {gs : TGs} {is : List Nat} {d : D} {ds : List D} {R : Rho → Prop} (h : EvG K g is d ρ fun ρ' => EvGs K gs is ds ρ' R) : EvGs K (gCons g gs) is (d :: ds) ρ R := fun σ α F H vs en s hd k kk => by
  obtain ⟨v, r, rfl, h1, h2⟩ := hd
  exact ⟨v, r, rfl, h σ α F H v en s h1 _ fun σ' ρ' en' l' f' q => q σ' α F H r en' s h2 k fun σ2 ρ2 en2 l2 f2 q2 => kk σ2 ρ2 en2 (l2.trans l') (fun j hj => (f2 j hj).trans (f' j hj)) q2⟩
theorem eg_tup {g : TGs} {is : List Nat} {n : Nat} {ds : List D} {R : Rho → Prop} (hl : ds.length = n) (h : EvGs K g is ds ρ R) : EvG K (gTup K n g) is (.tup ds) ρ R := fun σ α F H v en s hd k kk => by
  obtain ⟨a, vs, rfl, h1, h2⟩ := hd
  exact ⟨a, vs, rfl, sqt_same K s h1, by rw [← h2.length]; exact hl, h σ α F H vs en s h2 k kk⟩
/-! ### for -/
theorem r_for {wi : TI} {g : TG} (is : List Nat) (h : EvI K wi ρ M fun items => ∃ I : Nat → Rho → List MO → Prop, I 0 ρ M ∧
      (∀ i d ρ' M', items[i]? = some d → I i ρ' M' → EvG K g is d ρ' fun ρ2 => RunD K e t ρ2 M' (I (i + 1)) rt nx (I (i + 1))) ∧
      ∀ ρ' M', I items.length ρ' M' → nx ρ' M') : RunD K e (tFor wi g t) ρ M nx rt bk ct := fun X σ α F H gd ok =>
  h σ α F H gd.env gd.sta _ fun J F1 H1 items m1 S1 it ⟨I, h0, hs, hd⟩ => by
    refine ⟨fun i m σ' H' => m = items.length - i ∧ i ≤ items.length ∧ ∃ ρ' M' α' F', Good K e α' F' H' σ' ρ' M' ∧ Same F1 F' ∧ I i ρ' M', ⟨_, rfl, Nat.zero_le _, ρ, M, α, F1, gd.move m1 S1, fun _ _ z => z, h0⟩, ?_⟩
    rintro i m σ' H' ⟨rfl, hi, ρ', M', α', F', g', s', p⟩
    by_cases hlt : i < items.length
    · have hget : items[i]? = some items[i] := List.getElem?_eq_getElem hlt
      refine .inr ⟨((it i F' H' s' g'.sta.sub).2 _ hget).1, fun σ2 H2 => ∃ ρ2 M2 α2 F2, Good K e α2 F2 H2 σ2 ρ2 M2 ∧ Same F1 F2 ∧ I (i + 1) ρ2 M2, fun σ2 H2 ⟨ρ2, M2, α2, F2, g2, s2, p2⟩ => ⟨items.length - (i + 1), by omega, rfl, hlt, ρ2, M2, α2, F2, g2, s2, p2⟩, fun x H2 y => ?_⟩
      obtain ⟨F2, m2, S2, hx⟩ := it_turn it s' g'.sta hget y
      have g2 := g'.move m2 S2
      refine hs i _ ρ' M' hget p σ' α' F2 H2 x g2.env S2.sub hx _ fun σ3 ρ3 en3 _ _ q3 => ?_
      have s12 : Same F1 F2 := s'.trans m2.ex
      have ok2 := ok.at (m1.ex.trans s12)
      exact q3 _ σ3 α' F2 H2 ⟨en3, S2, g2.st⟩ ⟨fun σ4 α4 F4 H4 ρ4 M4 g4 z4 q4 => ⟨ρ4, M4, α4, F4, g4, s12.trans z4, q4⟩, ok2.rt, ok2.nx, fun σ4 α4 F4 H4 ρ4 M4 g4 z4 q4 => ⟨ρ4, M4, α4, F4, g4, s12.trans z4, q4⟩⟩
    · have ei : i = items.length := by omega
      subst ei
      exact .inl ⟨(it _ F' H' s' g'.sta.sub).1 rfl, ok.nx _ _ _ _ _ _ g' (m1.ex.trans s') (hd ρ' M' p)⟩

/-! ### while -/
/-! ### an object of nobody: it is tracked, not frozen, no numbered thing -/
theorem Sta.extra {α : Al} {F H : Hp} (S : Sta K α M F H) {p : Addr} {o : HO} (hF : F p = none) (ha : ∀ q, q ∈ α → p ≠ q.1 ∧ p ≠ q.2) : Sta K α M F (upd H p o) := by
  have s2 : ∀ b, b ≠ p → upd H p o b = H b := fun b h => upd_ne h
  have t2 : ∀ b, H b ≠ none → upd H p o b ≠ none := fun b h => by
    by_cases e : b = p
    · subst e; rw [upd_same]; simp
    · rw [upd_ne e]; exact h
  refine ⟨fun b u h => ?_, S.len, fun i m q h1 h2 => ?_, S.ap, fun q hq => ⟨t2 _ (S.tr q hq).1, t2 _ (S.tr q hq).2⟩⟩
  · rw [upd_ne (fun z => by rw [z, hF] at h; cases h)]; exact S.sub b u h
  · have ap := ha q (List.mem_of_getElem? h2)
    have kk := S.ob i m q h1 h2
    have s1 := s2 q.1 (Ne.symm ap.1)
    have s3 := s2 q.2 (Ne.symm ap.2)
    cases m with
    | lst ds => exact ⟨kk.1, by rw [s1]; exact kk.2⟩
    | dic ks ds => exact ⟨kk.1, by rw [s1]; exact kk.2⟩
    | pin a0 ds => exact ⟨kk.1, by rw [s1]; exact kk.2⟩
    | hoF a0 o0 y0 m0 => exact ⟨kk.1, by rw [s1]; exact kk.2⟩
    | frz d od kvs ks ds => exact ⟨kk.1, by rw [s1]; exact kk.2⟩
    | ins C ns ds => exact ⟨kk.1, by rw [s1]; exact kk.2⟩
    | rng => exact ⟨kk.1, kk.2.1, by unfold Rng; rw [s1, s3]; exact kk.2.2⟩
    | dead => trivial
theorem Sta.ice {α : Al} {F H : Hp} (S : Sta K α M F H) {p : Addr} {o : HO} (hF : F p = none) (hH : H p = some o) (ha : ∀ q, q ∈ α → p ≠ q.1 ∧ p ≠ q.2) : Same F (upd F p o) ∧ Sta K α M (upd F p o) H := by
  have s1 : Same F (upd F p o) := fun b u h => by rw [upd_ne (ne_of_none h hF)]; exact h
  refine ⟨s1, fun b u h => ?_, S.len, fun i m q h1 h2 => ?_, S.ap, S.tr⟩
  · by_cases e : b = p
    · subst e; rw [upd_same] at h; cases h; exact hH
    · rw [upd_ne e] at h; exact S.sub b u h
  · have ap := ha q (List.mem_of_getElem? h2)
    have kk := S.ob i m q h1 h2
    have z1 : ∀ b, b ≠ p → F b = none → upd F p o b = none := fun b n z => by rw [upd_ne n]; exact z
    cases m with
    | lst ds => exact ⟨z1 _ (Ne.symm ap.1) kk.1, let ⟨vs, a, b⟩ := kk.2; ⟨vs, a, Dens.mono K s1 _ _ b⟩⟩
    | dic ks ds => exact ⟨z1 _ (Ne.symm ap.1) kk.1, let ⟨vs, a, c, b⟩ := kk.2; ⟨vs, a, c, Dens.mono K s1 _ _ b⟩⟩
    | pin a0 ds => exact ⟨z1 _ (Ne.symm ap.1) kk.1, kk.2.1, let ⟨vs, a, b⟩ := kk.2.2; ⟨vs, a, Dens.mono K s1 _ _ b⟩⟩
    | hoF a0 o0 y0 m0 => exact ⟨z1 _ (Ne.symm ap.1) kk.1, kk.2.1, kk.2.2.1, m0 _ _ s1 kk.2.2.2⟩
    | frz d od kvs ks ds => exact ⟨z1 _ (Ne.symm ap.1) kk.1, kk.2.1, kk.2.2.1, let ⟨vs, c, e, b⟩ := kk.2.2.2; ⟨vs, c, e, Dens.mono K s1 _ _ b⟩⟩
    | ins C ns ds => exact ⟨z1 _ (Ne.symm ap.1) kk.1, let ⟨dx, vs, a, c, b⟩ := kk.2; ⟨dx, vs, a, c, Dens.mono K s1 _ _ b⟩⟩
    | rng => exact ⟨z1 _ (Ne.symm ap.1) kk.1, z1 _ (Ne.symm ap.2) kk.2.1, kk.2.2⟩
    | dead => trivial
theorem Sta.notin {α : Al} {F H : Hp} (S : Sta K α M F H) {p : Addr} (hp : H p = none) : ∀ q, q ∈ α → p ≠ q.1 ∧ p ≠ q.2 := fun q hq =>
  ⟨fun z => (S.tr q hq).1 (by rw [← z]; exact hp), fun z => (S.tr q hq).2 (by rw [← z]; exact hp)⟩

/-! ### comprehensions -/
def wipeR (ρ : Rho) : List Nat → Rho
  | [] => ρ
  | v :: vs => (wipeR ρ vs).set v none
theorem EnvOk.wipe {α : Al} {F : Hp} {σ : L2.St} (h : EnvOk K α F σ ρ) : ∀ vs : List Nat, EnvOk K α F (L2.wipe σ vs) (wipeR ρ vs)
  | [] => h
  | v :: vs => (EnvOk.wipe h vs).setN v
theorem wipe_in {σ : L2.St} {i : Nat} : ∀ {vs : List Nat}, i ∈ vs → (L2.wipe σ vs)[i]? = if i < σ.length then some none else none
  | [], h => by simp at h
  | v :: vs, h => by
    unfold L2.wipe
    by_cases e : v = i
    · subst e
      by_cases hl : v < σ.length
      · rw [List.getElem?_set_self (by rw [wipe_length]; exact hl), if_pos hl]
      · rw [List.getElem?_eq_none (by rw [List.length_set, wipe_length]; omega), if_neg hl]
    · rw [List.getElem?_set_ne e]
      exact wipe_in (by simpa [Ne.symm e] using h)
theorem wipe_eq {σ σ' : L2.St} {vs : List Nat} (hl : σ'.length = σ.length) (h : ∀ j : Nat, j ∉ vs → σ'[j]? = σ[j]?) : L2.wipe σ' vs = L2.wipe σ vs := by
  apply List.ext_getElem?
  intro j
  by_cases e : j ∈ vs
  · rw [wipe_in e, wipe_in e, hl]
  · rw [wipe_out e, wipe_out e, h j e]
theorem wipe_wipe {σ : L2.St} {vs : List Nat} : L2.wipe (L2.wipe σ vs) vs = L2.wipe σ vs := wipe_eq (wipe_length σ vs) fun j e => wipe_out e
theorem ev_lc {wi : TI} {g : TG} {tt : TT} {vs : List Nat} (h : EvI K wi ρ M fun items => items.length ≤ 16777216 ∧ ∃ I : Nat → List D → Prop, I 0 [] ∧
      (∀ i d acc, items[i]? = some d → I i acc → EvG K g vs d (wipeR ρ vs) fun ρ' => EvT K tt ρ' M fun b => if b = true then EvP K te ρ' M (fun s => ∃ d', s = .v d' ∧ I (i + 1) (acc ++ [d'])) else I (i + 1) acc) ∧
      ∀ acc, I items.length acc → Q (.v (.lst acc))) : EvP K (tLc wi g tt te vs) ρ M Q := fun σ α F H en S k kk =>
  h σ α F H en S _ fun J F1 H1 items m1 S1 it ⟨hz, I, h0, hs, hd⟩ => by
    intro A hA
    have hFA : F1 A = none := S1.sub.free hA
    have hna := S1.notin hA
    refine ⟨fun i m H' => m = items.length - i ∧ i ≤ items.length ∧ ∃ F' acc us, Move α F1 H1 F' H' ∧ Sta K α M F' H' ∧ H' A = some (.lst us) ∧ F' A = none ∧ Dens K F' acc us ∧ acc.length ≤ i ∧ I i acc,
      ⟨_, rfl, Nat.zero_le _, F1, [], [], ?_, S1.extra hFA hna, upd_same, hFA, rfl, Nat.le_refl _, h0⟩, ?_⟩
    · exact ⟨fun _ _ z => z, fun b o q _ => by rw [upd_ne (ne_of_none q hA)]; exact q, fun b q => by { rw [upd_ne (fun z => q (by rw [z]; exact hA))]; exact q }, fun b q => .inl q⟩
    rintro i m H' ⟨rfl, hi, F', acc, us, mv, S', hAt, hFA', hden, hlen, p⟩
    by_cases hlt : i < items.length
    · have hget : items[i]? = some items[i] := List.getElem?_eq_getElem hlt
      refine .inr ⟨((it i F' H' mv.ex S'.sub).2 _ hget).1, fun H2 => ∃ F2 acc us, Move α F1 H1 F2 H2 ∧ Sta K α M F2 H2 ∧ H2 A = some (.lst us) ∧ F2 A = none ∧ Dens K F2 acc us ∧ acc.length ≤ i + 1 ∧ I (i + 1) acc,
        fun H2 ⟨F2, acc, us, a, b, c, d, f, g, h⟩ => ⟨items.length - (i + 1), by omega, rfl, hlt, F2, acc, us, a, b, c, d, f, g, h⟩, fun x H2 y => ?_⟩
      obtain ⟨F2, m2, S2, hx⟩ := it_turn it mv.ex S' hget y
      have enw := ((en.mono m1.ex).mono (mv.ex.trans m2.ex)).wipe vs
      refine hs i _ acc hget p (L2.wipe σ vs) α F2 H2 x enw S2.sub hx _ fun σ3 ρ3 en3 l3 f3 q3 => ⟨?_, ?_⟩
      · have := wipe_eq (σ := L2.wipe σ vs) l3 f3
        rw [wipe_wipe] at this
        exact this
      refine q3 σ3 α F2 H2 en3 S2 _ fun b F3 H3 m3 S3 q4 => ?_
      have mA : Move α F' H' F3 H3 := m2.trans m3
      have hA3 : H3 A = some (.lst us) := mA.fr A _ hAt hna
      have nF : ∀ F4 H4, Move α F' H' F4 H4 → F4 A = none := fun F4 H4 mm => by
        cases z : F4 A with
        | none => rfl
        | some o =>
          rcases mm.new A (by rw [z]; simp) with q | q
          · exact absurd hFA' q
          · rw [hAt] at q; cases q
      cases b with
      | true =>
        refine iteT ?_
        have q4 : EvP K te ρ3 M (fun s => ∃ d', s = .v d' ∧ I (i + 1) (acc ++ [d'])) := q4
        refine q4 σ3 α F3 H3 (en3.mono m3.ex) S3 _ fun v F4 H4 s m4 S4 o4 ⟨d', e4, p4⟩ => ?_
        subst e4
        have mB : Move α F' H' F4 H4 := mA.trans m4
        have hA4 : H4 A = some (.lst us) := mB.fr A _ hAt hna
        have mC : Move α F1 H1 F4 H4 := mv.trans mB
        refine ⟨us, hA4, by rw [← hden.length, sizeLine_eq]; omega, F4, acc ++ [d'], us ++ [v], ⟨mC.ex, fun b o q z => ?_, fun b q => ?_, mC.new⟩, S4.extra (nF _ _ mB) hna, upd_same, nF _ _ mB, (Dens.mono K mB.ex _ _ hden).append (Dens.cons o4 Dens.nil), by simp; omega, p4⟩
        · rw [upd_ne (ne_of_none q hA)]; exact mC.fr b o q z
        · rw [upd_ne (fun z => q (by rw [z]; exact hA))]; exact mC.tr b q
      | false =>
        refine iteF ?_
        exact ⟨F3, acc, us, mv.trans mA, S3, hA3, nF _ _ mA, Dens.mono K mA.ex _ _ hden, by omega, q4⟩
    · have ei : i = items.length := by omega
      subst ei
      obtain ⟨s5, S5⟩ := S'.ice hFA' hAt hna
      refine .inl ⟨(it _ F' H' mv.ex S'.sub).1 rfl, kk (.ref A) _ H' (.v (.lst acc)) ⟨(m1.trans mv).ex.trans s5, fun b o q z => (m1.trans mv).fr b o q z, (m1.trans mv).tr, fun b q => ?_⟩ S5 (show Den K _ (.lst acc) _ from ⟨A, us, rfl, upd_same, Dens.mono K s5 _ _ hden⟩) (hd acc p)⟩
      by_cases eb : b = A
      · subst eb; exact .inr (none_back (m1.tr b) hA)
      · rw [upd_ne eb] at q; exact (m1.trans mv).new b q
/-- .. of what is known item by item -/
theorem ev_lcM {wi : TI} {g : TG} {vs : List Nat} (f : D → D) (h : EvI K wi ρ M fun items => items.length ≤ 16777216 ∧
      (∀ (i : Nat) d, items[i]? = some d → EvG K g vs d (wipeR ρ vs) fun ρ' => EvP K te ρ' M fun s => s = .v (f d)) ∧ Q (.v (.lst (items.map f)))) : EvP K (tLc wi g tYes te vs) ρ M Q := by
  refine ev_lc fun σ α F H en S k kk => h σ α F H en S k fun J F1 H1 items m S1 ok ⟨hz, hs, hd⟩ => kk J F1 H1 items m S1 ok ⟨hz, fun i acc => acc = (items.take i).map f, by simp, fun i d acc hget ea => ?_, fun acc ea => ?_⟩
  · have ea : acc = (items.take i).map f := ea
    intro σ α F H v en s hd k kk
    refine hs i d hget σ α F H v en s hd k fun σ' ρ' a b c q => kk σ' ρ' a b c ?_
    intro σ α F H en S k kk
    refine kk true F H .refl S ?_
    refine iteT (q.mono fun s es => ⟨_, es, ?_⟩)
    subst ea
    have hi : i < items.length := (List.getElem?_eq_some_iff.mp hget).1
    have e2 : items[i] = d := (List.getElem?_eq_some_iff.mp hget).2
    rw [List.take_succ_eq_append_getElem hi, List.map_append, e2]
    rfl
  · have ea : acc = (items.take items.length).map f := ea
    rw [List.take_length] at ea
    subst ea
    exact hd

/-! ### calls -/
/-- a def's promise: args by x, things by x; what comes out of x, and the things then -/
def SpF {ι : Type} (K : PySem.W.Frag) (args : ι → List Sl) (Mi : ι → List MO) (pre : ι → Prop) (post : ι → D → List MO → Prop) : Sp := fun vs H Q _ =>
  ∃ (x : ι) (α : Al) (F : Hp), SlsOk K α F (args x) vs ∧ Sta K α (Mi x) F H ∧ pre x ∧ ∀ v F' H' d M', Move α F H F' H' → Sta K α M' F' H' → Den K F' d v → post x d M' → Q v H'
/-- plain data in, plain data out -/
def SpP {ι : Type} (K : PySem.W.Frag) (args : ι → List D) (pre : ι → Prop) (post : ι → D → Prop) : Sp := SpF K (fun x => (args x).map Sl.v) (fun _ => []) pre (fun x d _ => post x d)
/-- .. with the source of draws ahead -/
def SpG {ι : Type} (K : PySem.W.Frag) (args : ι → List D) (pre : ι → Prop) (post : ι → D → Prop) : Sp := SpF K (fun x => .l 0 :: (args x).map Sl.v) (fun _ => [.rng]) pre (fun x d M' => M' = [.rng] ∧ post x d)
theorem SlsOk.ofD {α β : Al} {F : Hp} : ∀ {ds : List D} {vs : List V}, SlsOk K α F (ds.map Sl.v) vs → SlsOk K β F (ds.map Sl.v) vs
  | [], _, h => h
  | d :: ds, _, h => by
    obtain ⟨v, r, h1, h2, h3⟩ := h
    exact ⟨v, r, h1, h2, SlsOk.ofD h3⟩
theorem sta_nil {F H : Hp} (s : Same F H) : Sta K [] [] F H := ⟨s, rfl, fun i m p h => by simp at h, fun i j p q _ h => by simp at h, fun p h => by simp at h⟩
theorem Move.widen {α β : Al} {F H F' H' : Hp} (m : Move α F H F' H') (h : ∀ p, p ∈ α → p ∈ β) : Move β F H F' H' := ⟨m.ex, fun b o q k => m.fr b o q fun p hp => k p (h p hp), m.tr, m.new⟩
theorem MObj.keep {F H F' H' : Hp} {m : MO} {p : Addr × Addr} (h : MObj K F H m p) (s : Same F F') (h1 : F p.1 = none → F' p.1 = none) (h2 : F p.2 = none → F' p.2 = none) (k1 : ∀ o, H p.1 = some o → H' p.1 = some o) (k2 : ∀ o, H p.2 = some o → H' p.2 = some o) : MObj K F' H' m p := by
  cases m with
  | lst ds => exact ⟨h1 h.1, let ⟨vs, a, b⟩ := h.2; ⟨vs, k1 _ a, Dens.mono K s _ _ b⟩⟩
  | dic ks ds => exact ⟨h1 h.1, let ⟨vs, a, c, b⟩ := h.2; ⟨vs, k1 _ a, c, Dens.mono K s _ _ b⟩⟩
  | pin a0 ds => exact ⟨h1 h.1, h.2.1, let ⟨vs, a, b⟩ := h.2.2; ⟨vs, k1 _ a, Dens.mono K s _ _ b⟩⟩
  | hoF a0 o0 y0 m0 => exact ⟨h1 h.1, h.2.1, k1 _ h.2.2.1, m0 _ _ s h.2.2.2⟩
  | frz d od kvs ks ds => exact ⟨h1 h.1, h.2.1, k1 _ h.2.2.1, let ⟨vs, c, e, b⟩ := h.2.2.2; ⟨vs, c, e, Dens.mono K s _ _ b⟩⟩
  | ins C ns ds => exact ⟨h1 h.1, let ⟨dx, vs, a, c, b⟩ := h.2; ⟨dx, vs, k1 _ a, c, Dens.mono K s _ _ b⟩⟩
  | rng => exact ⟨h1 h.1, h2 h.2.1, let ⟨s, i, c, h0, a1, a2, h3⟩ := h.2.2; ⟨s, i, c, h0, k1 _ a1, k2 _ a2, h3⟩⟩
  | dead => trivial
theorem Move.fnone {α : Al} {F H F' H' : Hp} (m : Move α F H F' H') {b : Addr} (h1 : H b ≠ none) (h : F b = none) : F' b = none := by
  cases z : F' b with
  | none => rfl
  | some o =>
    rcases m.new b (by rw [z]; simp) with q | q
    · exact absurd h q
    · exact absurd q h1
/-- behind a call that knows none of the things -/
theorem Sta.keep0 {α : Al} {F H F' H' : Hp} (S : Sta K α M F H) (m : Move [] F H F' H') (s' : Same F' H') : Sta K α M F' H' := by
  refine ⟨s', S.len, fun i mo p h1 h2 => ?_, S.ap, fun p hp => ⟨m.tr _ (S.tr p hp).1, m.tr _ (S.tr p hp).2⟩⟩
  have hp := S.tr p (List.mem_of_getElem? h2)
  exact (S.ob i mo p h1 h2).keep m.ex (m.fnone hp.1) (m.fnone hp.2) (fun o q => m.fr _ o q fun p hp => by simp at hp) (fun o q => m.fr _ o q fun p hp => by simp at hp)
/-- behind a call that knows the j-th thing alone -/
theorem Sta.keep1 {α : Al} {F H F' H' : Hp} {j : Nat} {p0 : Addr × Addr} {m' : MO} (S : Sta K α M F H) (hj : α[j]? = some p0) (m : Move [p0] F H F' H') (s' : Sta K [p0] [m'] F' H') : Sta K α (M.set j m') F' H' := by
  refine ⟨s'.sub, by simp [S.len], fun i mo p h1 h2 => ?_, S.ap, fun p hp => ⟨m.tr _ (S.tr p hp).1, m.tr _ (S.tr p hp).2⟩⟩
  by_cases hij : j = i
  · subst hij
    have hl : j < M.length := by rw [S.len]; exact (List.getElem?_eq_some_iff.mp h2).1
    rw [List.getElem?_set_self hl] at h1
    cases h1
    rw [hj] at h2; cases h2
    exact s'.ob 0 m' p0 rfl rfl
  · rw [List.getElem?_set_ne hij] at h1
    have hp := S.tr p (List.mem_of_getElem? h2)
    have ap := nth_ne S h2 hj (Ne.symm hij)
    exact (S.ob i mo p h1 h2).keep m.ex (m.fnone hp.1) (m.fnone hp.2)
      (fun o q => m.fr _ o q fun r hr => by { simp at hr; subst hr; exact ⟨ap.1, ap.2.1⟩ }) (fun o q => m.fr _ o q fun r hr => by { simp at hr; subst hr; exact ⟨ap.2.2.1, ap.2.2.2⟩ })
theorem sta_one {α : Al} {F H : Hp} {j : Nat} {p0 : Addr × Addr} {m0 : MO} (S : Sta K α M F H) (hj : α[j]? = some p0) (hm : M[j]? = some m0) : Sta K [p0] [m0] F H := by
  refine ⟨S.sub, rfl, fun i m p h1 h2 => ?_, fun i j p q hij h1 h2 => ?_, fun p hp => ?_⟩
  · cases i with
    | zero =>
      simp at h1 h2
      subst h1; subst h2
      exact S.ob j m0 p0 hm hj
    | succ i => simp at h1
  · cases j with
    | zero => omega
    | succ j => simp at h2
  · simp at hp; subst hp
    exact S.tr p (List.mem_of_getElem? hj)
theorem ec_callP {ι : Type} {args : ι → List D} {pre : ι → Prop} {post : ι → D → Prop} {ta : TA} {X : XK} (h : EvA K ta ρ M fun ss => ∃ x, ss = (args x).map Sl.v ∧ pre x ∧ ∀ d, post x d → Q (.v d)) : EvP K (tCall (SpP K args pre post) [] X ta) ρ M Q := fun σ α F H en S k kk =>
  h σ α F H en S _ fun vs F1 H1 ss m1 S1 o1 ⟨x, e1, hp, q⟩ => by
    subst e1
    refine ⟨x, [], F1, by rw [List.append_nil]; exact o1.ofD, sta_nil S1.sub, hp, fun v F' H' d M' m2 S2 o2 p2 => ?_⟩
    exact kk v F' H' (.v d) (m1.trans (m2.widen fun _ h => by simp at h)) (S1.keep0 m2 S2.sub) o2 (q d p2)
theorem ec_callG {ι : Type} {args : ι → List D} {pre : ι → Prop} {post : ι → D → Prop} {ta : TA} {X : XK} (h : EvA K ta ρ M fun ss => ∃ x j, ss = .l j :: (args x).map Sl.v ∧ M[j]? = some .rng ∧ pre x ∧ ∀ d, post x d → Q (.v d)) : EvP K (tCall (SpG K args pre post) [] X ta) ρ M Q := fun σ α F H en S k kk =>
  h σ α F H en S _ fun vs F1 H1 ss m1 S1 o1 ⟨x, j, e1, hj, hp, q⟩ => by
    subst e1
    obtain ⟨v0, r, rfl, ⟨p0, hp0, rfl⟩, o2⟩ := o1
    have S0 := sta_one S1 hp0 hj
    refine ⟨x, [p0], F1, by rw [List.append_nil]; exact ⟨_, r, rfl, ⟨p0, rfl, rfl⟩, o2.ofD⟩, S0, hp, fun v F' H' d M' m2 S2 o3 ⟨eM, p2⟩ => ?_⟩
    subst eM
    have S3 := S1.keep1 hp0 m2 S2
    have e2 : M.set j .rng = M := by
      have hl : j < M.length := (List.getElem?_eq_some_iff.mp hj).1
      apply List.ext_getElem?
      intro i
      by_cases hij : j = i
      · subst hij; rw [List.getElem?_set_self hl, hj]
      · rw [List.getElem?_set_ne hij]
    rw [e2] at S3
    exact kk v F' H' (.v d) (m1.trans (m2.widen fun p hp => by { simp at hp; subst hp; exact List.mem_of_getElem? hp0 })) S3 o3 (q d p2)

/-! ### a def's body -/
def startR (n : Nat) (ss : List Sl) : Rho := ss.map some ++ List.replicate (n - ss.length) none
theorem env_start {α : Al} {F : Hp} {N : List Str} : ∀ {ss : List Sl} {vs : List V}, SlsOk K α F ss vs → EnvOk K α F (L2.start N vs) (startR N.length ss) := fun {ss vs} h => by
  have hl := h.length
  refine ⟨by simp [L2.start, startR, hl], fun i s q => ?_⟩
  unfold startR at q
  have hi : i < ss.length := by
    by_cases hi : i < ss.length
    · exact hi
    · rw [List.getElem?_append_right (by simpa using hi), List.getElem?_replicate] at q
      split at q <;> cases q
  rw [List.getElem?_append_left (by simpa using hi), List.getElem?_map] at q
  have gen : ∀ {ss : List Sl} {vs : List V} {i : Nat} {s : Sl}, SlsOk K α F ss vs → ss[i]? = some s → ∃ v, vs[i]? = some v ∧ SlOk K α F s v := by
    intro ss
    induction ss with
    | nil => intro vs i s _ e; simp at e
    | cons a r ih =>
      intro vs i s h e
      obtain ⟨v, r', rfl, h2, h3⟩ := h
      cases i with
      | zero => simp at e; subst e; exact ⟨v, rfl, h2⟩
      | succ i =>
        obtain ⟨u, q, hu⟩ := ih h3 (by simpa using e)
        exact ⟨u, by simpa using q, hu⟩
  cases e : ss[i]? with
  | none => rw [e] at q; cases q
  | some s' =>
    rw [e] at q; cases q
    obtain ⟨v, hv, ho⟩ := gen h e
    refine ⟨v, ?_, ho⟩
    unfold L2.start
    rw [List.getElem?_append_left (by simpa [← hl] using hi), List.getElem?_map, hv]
    rfl
/-- what a def may hand back -/
def RetOk (n : Nat) (post : D → List MO → Prop) (s : Sl) (M' : List MO) : Prop :=
  (∃ d, s = .v d ∧ post d (M'.take n)) ∨ (∃ k ds, s = .l k ∧ n ≤ k ∧ M'[k]? = some (.lst ds) ∧ post (.lst ds) (M'.take n)) ∨
  ∃ k ks ds, s = .l k ∧ n ≤ k ∧ M'[k]? = some (.dic ks ds) ∧ post (.dic ks ds) (M'.take n)
theorem Sta.prefix {α β : Al} {F H : Hp} (S : Sta K (α ++ β) M F H) : Sta K α (M.take α.length) F H := by
  refine ⟨S.sub, ?_, fun i m p h1 h2 => ?_, fun i j p q hij h1 h2 => ?_, fun p hp => S.tr p (List.mem_append_left _ hp)⟩
  · rw [List.length_take, S.len]; simp
  · have hi : i < α.length := (List.getElem?_eq_some_iff.mp h2).1
    rw [List.getElem?_take_of_lt hi] at h1
    exact S.ob i m p h1 (by rw [List.getElem?_append_left hi]; exact h2)
  · have hi : i < α.length := (List.getElem?_eq_some_iff.mp h1).1
    have hj : j < α.length := (List.getElem?_eq_some_iff.mp h2).1
    exact S.ap i j p q hij (by rw [List.getElem?_append_left hi]; exact h1) (by rw [List.getElem?_append_left hj]; exact h2)
theorem fn_run1 {args : List Sl} {Mi : List MO} {post : D → List MO → Prop} {N : List Str} {t : TS} {vs : List V} {α : Al} {F H : Hp} {Q : VK} (ho : SlsOk K α F args vs) (S : Sta K α Mi F H)
    (k : ∀ v F' H' d M', Move α F H F' H' → Sta K α M' F' H' → Den K F' d v → post d M' → Q v H')
    (h : RunD K ⟨α, F, H⟩ t (startR N.length args) Mi (fun _ M' => post .non (M'.take Mi.length)) (RetOk Mi.length post) (fun _ _ => False) (fun _ _ => False)) :
    t { nx := fun _ H' => Q .non H', rt := Q } (L2.start N vs) H := by
  have fin : ∀ {α' : Al} {F' H' : Hp} {M' : List MO}, Sta K α' M' F' H' → StepE ⟨α, F, H⟩ α' F' H' → Move α F H F' H' ∧ Sta K α (M'.take Mi.length) F' H' := fun {α' F' H' M'} S' st => by
    obtain ⟨β, e1, _⟩ := st.pre
    have e1 : α' = α ++ β := e1
    subst e1
    refine ⟨⟨st.ex, st.fr, st.tr, st.new⟩, ?_⟩
    have := S'.prefix
    rw [S.len]; exact this
  refine h _ (L2.start N vs) α F H ⟨env_start ho, S, .refl⟩ ⟨fun σ' α' F' H' ρ' M' g _ q => ?_, fun v s α' F' H' M' o S' st _ q => ?_, fun _ _ _ _ _ _ _ _ q => q.elim, fun _ _ _ _ _ _ _ _ q => q.elim⟩
  · obtain ⟨m, S2⟩ := fin g.sta g.st
    exact k .non F' H' .non _ m S2 rfl q
  · obtain ⟨m, S2⟩ := fin S' st
    rcases q with ⟨d, rfl, p⟩ | ⟨j, ds, rfl, hj, hM, p⟩ | ⟨j, ks, ds, rfl, hj, hM, p⟩
    · exact k v F' H' d _ m S2 o p
    all_goals
      obtain ⟨p0, hp0, rfl⟩ := o
      have hob := S'.ob j _ p0 hM hp0
      have hna : ∀ q, q ∈ α → p0.1 ≠ q.1 ∧ p0.1 ≠ q.2 := fun q hq => by
        obtain ⟨β, e1, _⟩ := st.pre
        have e1 : α' = α ++ β := e1
        obtain ⟨i, hi⟩ := List.mem_iff_getElem?.mp hq
        have hil : i < α.length := (List.getElem?_eq_some_iff.mp hi).1
        have ap := nth_ne S' hp0 (show α'[i]? = some q by rw [e1, List.getElem?_append_left hil]; exact hi) (by have := S.len; omega)
        exact ⟨ap.1, ap.2.1⟩
      have hnew : H p0.1 = none := by
        obtain ⟨β, e1, hβ⟩ := st.pre
        have e1 : α' = α ++ β := e1
        rw [e1, List.getElem?_append_right (by have := S.len; omega)] at hp0
        exact (hβ p0 (List.mem_of_getElem? hp0)).1
    · obtain ⟨hF, us, hus, hd⟩ := hob
      obtain ⟨s5, S5⟩ := S2.ice hF hus hna
      refine k (.ref p0.1) _ H' (.lst ds) _ ⟨m.ex.trans s5, m.fr, m.tr, fun b q => ?_⟩ S5 ⟨p0.1, us, rfl, upd_same, Dens.mono K s5 _ _ hd⟩ p
      by_cases eb : b = p0.1
      · subst eb; exact .inr hnew
      · rw [upd_ne eb] at q; exact m.new b q
    · obtain ⟨hF, us, hus, hl, hd⟩ := hob
      obtain ⟨s5, S5⟩ := S2.ice hF hus hna
      refine k (.ref p0.1) _ H' (.dic ks ds) _ ⟨m.ex.trans s5, m.fr, m.tr, fun b q => ?_⟩ S5 ⟨p0.1, us, rfl, upd_same, hl, Dens.mono K s5 _ _ hd⟩ p
      by_cases eb : b = p0.1
      · subst eb; exact .inr hnew
      · rw [upd_ne eb] at q; exact m.new b q
theorem fn_run {ι : Type} {args : ι → List Sl} {Mi : ι → List MO} {pre : ι → Prop} {post : ι → D → List MO → Prop} {N : List Str} {t : TS}
    (h : ∀ x e, pre x → e.α.length = (Mi x).length → RunD K e t (startR N.length (args x)) (Mi x) (fun _ M' => post x .non (M'.take (Mi x).length)) (RetOk (Mi x).length (post x)) (fun _ _ => False) (fun _ _ => False)) :
    ∀ vs H Q E, SpF K args Mi pre post vs H Q E → t { nx := fun _ H' => Q .non H', rt := Q } (L2.start N vs) H := by
  rintro vs H Q E ⟨x, α, F, ho, S, hp, k⟩
  exact fn_run1 ho S k (h x ⟨α, F, H⟩ hp S.len.symm)
end
end DL

/-! DL4: sequences and built-ins over plain data. -/
namespace DL
open PySem L2
section
variable {K : PySem.W.Frag} {e : Ent} {ρ : Rho} {M : List MO} {Q : Sl → Prop} {te ta tb : TE} {t u : TS}

/-- a slot that is read as a list, a tuple -/
inductive RdL (M : List MO) : Sl → List D → Prop
  | v {ds : List D} : RdL M (.v (.lst ds)) ds
  | l {k : Nat} {ds : List D} : M[k]? = some (.lst ds) → RdL M (.l k) ds
  | p {k : Nat} {a : Addr} {ds : List D} : M[k]? = some (.pin a ds) → RdL M (.v (.raw (.ref a))) ds
theorem RdL.get {α : Al} {F H : Hp} {s : Sl} {ds : List D} {u : V} (h : RdL M s ds) (S : Sta K α M F H) (o : SlOk K α F s u) : ∃ a vs, u = .ref a ∧ H a = some (.lst vs) ∧ Dens K F ds vs := by
  cases h with
  | v =>
    obtain ⟨a, vs, h1, h2, h3⟩ := o
    exact ⟨a, vs, h1, S.sub _ _ h2, h3⟩
  | l hk =>
    obtain ⟨p, hp, rfl⟩ := o
    obtain ⟨_, vs, h1, h2⟩ := S.ob _ _ p hk hp
    exact ⟨p.1, vs, rfl, h1, h2⟩
  | @p k a ds hk =>
    have o : u = .ref a := o
    subst o
    obtain ⟨q, hq⟩ := sta_get S hk
    obtain ⟨_, h2, vs, h3, h4⟩ := S.ob _ _ q hk hq
    exact ⟨a, vs, rfl, by rw [← h2]; exact h3, h4⟩
inductive RdS (M : List MO) : Sl → List D → Prop
  | l {s : Sl} {ds : List D} : RdL M s ds → RdS M s ds
  | t {ds : List D} : RdS M (.v (.tup ds)) ds
  | r {ds : List D} : RdS M (.v (.rd ds)) ds
theorem RdS.get {α : Al} {F H : Hp} {s : Sl} {ds : List D} {u : V} (h : RdS M s ds) (S : Sta K α M F H) (o : SlOk K α F s u) : ∃ a vs, u = .ref a ∧ (SqL K H a vs ∨ SqT K H a vs) ∧ Dens K F ds vs := by
  cases h with
  | l h =>
    obtain ⟨a, vs, h1, h2, h3⟩ := h.get S o
    exact ⟨a, vs, h1, .inl (SqL.of h2), h3⟩
  | t =>
    obtain ⟨a, vs, h1, h2, h3⟩ := o
    exact ⟨a, vs, h1, .inr (sqt_same K S.sub h2), h3⟩
  | r =>
    obtain ⟨a, vs, h1, h2, h3⟩ := o
    exact ⟨a, vs, h1, .inl (S.sub.seq h2), h3⟩
theorem atI_get {F : Hp} {ds : List D} {vs : List V} {i : Int} {d : D} (h : Dens K F ds vs) (ha : atI ds i = some d) : ∃ v, atI vs i = some v ∧ Den K F d v := by
  unfold atI at ha ⊢
  rw [← h.length]
  cases e : ixN ds.length i with
  | none => rw [e] at ha; cases ha
  | some j =>
    rw [e] at ha
    exact h.get ha
theorem er_ixL {x : Sl} {ds : List D} {i : Int} {d : D} (h : RdL M x ds) (ha : atI ds i = some d) (q : Q (.v d)) : EvR K (rIxL K) M x (.v (.int i)) Q := fun α F H u v S o1 o2 k kk => by
  obtain ⟨a, vs, rfl, h1, h2⟩ := h.get S o1
  have o2 : v = .int i := o2
  subst o2
  obtain ⟨w, hw, r⟩ := atI_get h2 ha
  exact ⟨a, vs, i, w, rfl, rfl, SqL.of h1, hw, kk w F H _ .refl S (den_ok r) q⟩
theorem er_ixT {ds : List D} {i : Int} {d : D} (ha : atI ds i = some d) (q : Q (.v d)) : EvR K (rIxT K) M (.v (.tup ds)) (.v (.int i)) Q := fun α F H u v S o1 o2 k kk => by
  obtain ⟨a, vs, rfl, h1, h2⟩ := o1
  have o2 : v = .int i := o2
  subst o2
  obtain ⟨w, hw, r⟩ := atI_get h2 ha
  exact ⟨a, vs, i, w, rfl, rfl, sqt_same K S.sub h1, hw, kk w F H _ .refl S (den_ok r) q⟩
theorem er_in {neg : Bool} {x : V} {y : Sl} {xs : List V} (h : RdS M y (xs.map D.raw)) (hx : flatV x = true) (hf : xs.all flatV = true) (q : Q (.v (.bl (if neg then !inV x xs else inV x xs)))) : EvR K (rIn K neg) M (.v (.raw x)) y Q := fun α F H u v S o1 o2 k kk => by
  have o1 : u = x := o1
  subst o1
  obtain ⟨a, vs, rfl, h1, h2⟩ := h.get S o2
  have h3 := h2.ofRaws
  subst h3
  exact ⟨a, vs, rfl, h1, hx, hf, kk _ F H _ .refl S raw_ok q⟩
theorem inV_ints {i : Int} : ∀ {ns : List Int}, inV (.int i) (ns.map V.int) = decide (i ∈ ns)
  | [] => by simp [inV]
  | n :: ns => by
    have := inV_ints (i := i) (ns := ns)
    unfold inV at this ⊢
    rw [List.map_cons, List.any_cons, this]
    by_cases h : i = n
    · subst h; simp [eqV]
    · simp [eqV, h, Ne.symm h]
/-- .. whole numbers -/
theorem er_inI {neg : Bool} {i : Int} {y : Sl} {ns : List Int} (h : RdS M y (D.ints ns)) (q : Q (.v (.bl (if neg then !decide (i ∈ ns) else decide (i ∈ ns))))) : EvR K (rIn K neg) M (.v (.int i)) y Q := by
  have e1 : D.ints ns = (ns.map V.int).map D.raw := by simp [D.ints, Function.comp_def]
  rw [e1] at h
  refine er_in h rfl (by simp [flatV]) ?_
  rw [inV_ints]
  exact q
theorem er_cat {x y : Sl} {ds es : List D} (h1 : RdL M x ds) (h2 : RdL M y es) (hz : ds.length + es.length ≤ 16777216) (q : Q (.v (.lst (ds ++ es)))) : EvR K rCat M x y Q := fun α F H u v S o1 o2 k kk => by
  obtain ⟨a, vs, rfl, e1, d1⟩ := h1.get S o1
  obtain ⟨b, us, rfl, e2, d2⟩ := h2.get S o2
  refine ⟨a, b, vs, us, rfl, rfl, e1, e2, by rw [← d1.length, ← d2.length, sizeLine_eq]; exact hz, fun p hp => ?_⟩
  obtain ⟨m2, S2⟩ := S.laid (o := .lst (vs ++ us)) hp
  exact kk _ _ _ _ m2 S2 (den_ok (d := .lst (ds ++ es)) ⟨p, _, rfl, upd_same, Dens.mono K m2.ex _ _ (d1.append d2)⟩) q
theorem Dens.flat {F : Hp} {ds : List D} {vs : List V} (h : Dens K F ds vs) : ∀ n : Nat, Dens K F (List.replicate n ds).flatten (List.replicate n vs).flatten
  | 0 => rfl
  | n + 1 => by
    rw [List.replicate_succ, List.replicate_succ, List.flatten_cons, List.flatten_cons]
    exact h.append (Dens.flat h n)
/-! slices -/
def cutD (xs : List D) (lo hi : Option Int) : List D := (xs.drop (HT.sIx xs.length 0 lo)).take (HT.sIx xs.length xs.length hi - HT.sIx xs.length 0 lo)
theorem Dens.cut {F : Hp} {ds : List D} {vs : List V} (h : Dens K F ds vs) (lo hi : Option Int) : Dens K F (cutD ds lo hi) (cutV vs lo hi) := by
  unfold cutD cutV
  rw [h.length]
  exact (h.drop _).take _
theorem ev_slL {tl th : TO} (h : EvP K te ρ M fun x => EvO K tl ρ M fun lo => EvO K th ρ M fun hi => ∃ ds, RdL M x ds ∧ Q (.v (.lst (cutD ds lo hi)))) : EvP K (tSl (rSlL K) te tl th) ρ M Q := fun σ α F H en S k kk =>
  h σ α F H en S _ fun v F1 H1 x m1 S1 o1 q1 => q1 σ α F1 H1 (en.mono m1.ex) S1 _ fun lo F2 H2 m2 S2 q2 => q2 σ α F2 H2 (en.mono (m1.trans m2).ex) S2 _ fun hi F3 H3 m3 S3 ⟨ds, hr, q⟩ => by
    obtain ⟨a, vs, rfl, e1, d1⟩ := hr.get S3 (o1.mono (m2.trans m3).ex)
    refine ⟨a, vs, rfl, SqL.of e1, fun p hp => ?_⟩
    obtain ⟨m4, S4⟩ := S3.laid (o := .lst (cutV vs lo hi)) hp
    exact kk _ _ _ _ (((m1.trans m2).trans m3).trans m4) S4 (den_ok (d := .lst _) ⟨p, _, rfl, upd_same, Dens.mono K m4.ex _ _ (d1.cut lo hi)⟩) q
/-! ### built-ins -/
def rLen (K : PySem.W.Frag) : List V → Hp → VK → Prop := fun xs H Q => ∃ x n, xs = [x] ∧ LenV K x H n ∧ Q (.int n) H
theorem ec_len {x : Sl} {ds : List D} (h : RdS M x ds) (q : Q (.v (.int (ds.length : Int)))) : EvC K (rLen K) M [x] Q := fun α F H us S o k kk => by
  obtain ⟨v, r, rfl, o1, o2⟩ := o
  have o2 : r = [] := o2
  subst o2
  obtain ⟨a, vs, rfl, e1, d1⟩ := h.get S o1
  refine ⟨_, vs.length, rfl, ?_, ?_⟩
  · rcases e1 with e1 | e1
    · exact .inl ⟨vs, e1, rfl⟩
    · exact .inr ⟨vs, e1, rfl⟩
  · rw [← d1.length]
    exact kk _ F H _ .refl S raw_ok q
theorem ec_lenS {y : Str} (h : y.length ≤ 16777216) (q : Q (.v (.int (y.length : Int)))) : EvC K (rLen K) M [.v (.str y)] Q := fun α F H us S o k kk => by
  obtain ⟨v, r, rfl, o1, o2⟩ := o
  have o2 : r = [] := o2
  have o1 : v = .str y := o1
  subst o2; subst o1
  exact ⟨_, y.length, rfl, ⟨by rw [sizeLine_eq]; exact h, rfl⟩, kk _ F H _ .refl S raw_ok q⟩
theorem sls1 {α : Al} {F : Hp} {d : V} {us : List V} (o : SlsOk K α F [.v (.raw d)] us) : us = [d] := by
  obtain ⟨v, r, rfl, o1, o2⟩ := o
  have o2 : r = [] := o2
  have o1 : v = d := o1
  rw [o2, o1]
theorem sls2 {α : Al} {F : Hp} {d e : V} {us : List V} (o : SlsOk K α F [.v (.raw d), .v (.raw e)] us) : us = [d, e] := by
  obtain ⟨v, r, rfl, o1, o2⟩ := o
  have o1 : v = d := o1
  rw [sls1 o2, o1]
def rAbs : List V → Hp → VK → Prop := fun xs H Q => ∃ i, xs = [.int i] ∧ Q (.int (if i < 0 then -i else i)) H
theorem ec_abs {i : Int} (q : Q (.v (.int (if i < 0 then -i else i)))) : EvC K rAbs M [.v (.int i)] Q := fun α F H us S o k kk => ⟨i, sls1 o, kk _ F H _ .refl S raw_ok q⟩
def rMax2 : List V → Hp → VK → Prop := fun xs H Q => ∃ i j, xs = [.int i, .int j] ∧ Q (.int (if j > i then j else i)) H
def rMin2 : List V → Hp → VK → Prop := fun xs H Q => ∃ i j, xs = [.int i, .int j] ∧ Q (.int (if j < i then j else i)) H
theorem ec_max2 {i j : Int} (q : Q (.v (.int (if j > i then j else i)))) : EvC K rMax2 M [.v (.int i), .v (.int j)] Q := fun α F H us S o k kk => ⟨i, j, sls2 o, kk _ F H _ .refl S raw_ok q⟩
theorem ec_min2 {i j : Int} (q : Q (.v (.int (if j < i then j else i)))) : EvC K rMin2 M [.v (.int i), .v (.int j)] Q := fun α F H us S o k kk => ⟨i, j, sls2 o, kk _ F H _ .refl S raw_ok q⟩
def rInt1 : List V → Hp → VK → Prop := fun xs H Q => (∃ i, xs = [.int i] ∧ Q (.int i) H) ∨ ∃ k, xs = [.bl k] ∧ Q (.int (if k then 1 else 0)) H
theorem ec_int1 {i : Int} (q : Q (.v (.int i))) : EvC K rInt1 M [.v (.int i)] Q := fun α F H us S o k kk => .inl ⟨i, sls1 o, kk _ F H _ .refl S raw_ok q⟩
def rStrI : List V → Hp → VK → Prop := fun xs H Q => ∃ i : Int, xs = [.int i] ∧ i.natAbs.log2 < 1920 ∧ Q (.str (toString i)) H
theorem ec_strI {i : Int} (h : i.natAbs.log2 < 1920) (q : Q (.v (.raw (.str (toString i))))) : EvC K rStrI M [.v (.int i)] Q := fun α F H us S o k kk => ⟨i, sls1 o, h, kk _ F H _ .refl S raw_ok q⟩
theorem sls1s {α : Al} {F : Hp} {s : Sl} {us : List V} (o : SlsOk K α F [s] us) : ∃ u, us = [u] ∧ SlOk K α F s u := by
  obtain ⟨v, r, rfl, o1, o2⟩ := o
  have o2 : r = [] := o2
  exact ⟨v, by rw [o2], o1⟩
abbrev D.bls (bs : List Bool) : List D := bs.map D.bl
theorem Dens.ofBls {F : Hp} {bs : List Bool} {vs : List V} (h : Dens K F (D.bls bs) vs) : vs = bs.map V.bl := by
  have e : D.bls bs = (bs.map V.bl).map D.raw := by simp [D.bls, Function.comp_def]
  rw [e] at h
  exact h.ofRaws
theorem ec_all {x : Sl} {bs : List Bool} (h : RdL M x (D.bls bs)) (q : Q (.v (.bl (bs.all id)))) : EvC K (rAll K) M [x] Q := fun α F H us S o k kk => by
  obtain ⟨u, rfl, o1⟩ := sls1s o
  obtain ⟨a, vs, rfl, e1, d1⟩ := h.get S o1
  have e2 := d1.ofBls
  subst e2
  exact ⟨a, bs, rfl, SqL.of e1, kk _ F H _ .refl S raw_ok q⟩
def rTupOf (K : PySem.W.Frag) : List V → Hp → VK → Prop := fun xs H Q => ∃ p ys, xs = [.ref p] ∧ ((SqL K H p ys ∧ ∀ l, H l = none → Q (.ref l) (upd H l (.tup ys))) ∨ (SqT K H p ys ∧ Q (.ref p) H))
def rListOf (K : PySem.W.Frag) : List V → Hp → VK → Prop := fun xs H Q => ∃ p ys, xs = [.ref p] ∧ (SqL K H p ys ∨ SqT K H p ys) ∧ ∀ l, H l = none → Q (.ref l) (upd H l (.lst ys))
theorem ec_tupOf {x : Sl} {ds : List D} (h : RdS M x ds) (q : Q (.v (.tup ds))) : EvC K (rTupOf K) M [x] Q := fun α F H us S o k kk => by
  obtain ⟨u, rfl, o1⟩ := sls1s o
  cases h with
  | l h =>
    obtain ⟨a, vs, rfl, e1, d1⟩ := h.get S o1
    refine ⟨a, vs, rfl, .inl ⟨SqL.of e1, fun p hp => ?_⟩⟩
    obtain ⟨m2, S2⟩ := S.laid (o := .tup vs) hp
    exact kk _ _ _ _ m2 S2 (den_ok (d := .tup ds) ⟨p, _, rfl, .inl (.inl upd_same), Dens.mono K m2.ex _ _ d1⟩) q
  | t =>
    obtain ⟨a, vs, rfl, e1, d1⟩ := o1
    exact ⟨a, vs, rfl, .inr ⟨sqt_same K S.sub e1, kk _ F H _ .refl S (den_ok (d := .tup ds) ⟨a, vs, rfl, e1, d1⟩) q⟩⟩
  | r =>
    obtain ⟨a, vs, rfl, e1, d1⟩ := o1
    refine ⟨a, vs, rfl, .inl ⟨S.sub.seq e1, fun p hp => ?_⟩⟩
    obtain ⟨m2, S2⟩ := S.laid (o := .tup vs) hp
    exact kk _ _ _ _ m2 S2 (den_ok (d := .tup ds) ⟨p, _, rfl, .inl (.inl upd_same), Dens.mono K m2.ex _ _ d1⟩) q
/-! ### == at any depth -/
mutual
def D.py : D → PyData
  | .raw (.bl b) => .bool b
  | .raw (.int i) => .int i
  | .raw (.str x) => .str x
  | .raw _ => .none
  | .tup ds => .tuple (D.pyAll ds)
  | .lst ds => .list (D.pyAll ds)
  | .dic _ _ => .none
  | .ins _ _ _ => .none
  | .rd _ => .none
def D.pyAll : List D → List PyData
  | [] => []
  | d :: ds => d.py :: D.pyAll ds
end
mutual
/-- plain: flat things, tuples and lists of such, n deep at most -/
def D.pl : Nat → D → Bool
  | _, .raw .non => true
  | _, .raw (.bl _) => true
  | _, .raw (.int _) => true
  | _, .raw (.str x) => x.cps.all (· < 0x110000)
  | _, .raw _ => false
  | 0, .tup _ => false
  | n + 1, .tup ds => D.plAll n ds
  | 0, .lst _ => false
  | n + 1, .lst ds => D.plAll n ds
  | _, .dic _ _ => false
  | _, .ins _ _ _ => false
  | _, .rd _ => false
def D.plAll : Nat → List D → Bool
  | _, [] => true
  | n, d :: ds => d.pl n && D.plAll n ds
end
mutual
theorem D.dp {F H : Hp} (s : Same F H) : ∀ (n : Nat) (d : D) (v : V), d.pl n = true → Den K F d v → Dp K H v d.py
  | n, .raw .non, v, h, o => by
    have o : v = .non := o
    subst o; simp only [D.py]; exact .non
  | n, .raw (.bl b), v, h, o => by
    have o : v = .bl b := o
    subst o; simp only [D.py]; exact .bl b
  | n, .raw (.int b), v, h, o => by
    have o : v = .int b := o
    subst o; simp only [D.py]; exact .int b
  | n, .raw (.str b), v, h, o => by
    have o : v = .str b := o
    subst o; simp only [D.py]; exact .str b
  | n, .raw (.byt b), v, h, o => by simp [D.pl] at h
  | n, .raw (.flt b), v, h, o => by simp [D.pl] at h
  | n, .raw (.ref b), v, h, o => by simp [D.pl] at h
  | n, .raw (.ty b), v, h, o => by simp [D.pl] at h
  | 0, .tup ds, v, h, o => by simp [D.pl] at h
  | n + 1, .tup ds, v, h, o => by
    obtain ⟨a, vs, rfl, h1, h2⟩ := o
    simp only [D.py]
    exact .tup (sqt_same K s h1) (D.dpAll s n ds vs (by simpa [D.pl] using h) h2)
  | 0, .lst ds, v, h, o => by simp [D.pl] at h
  | n + 1, .lst ds, v, h, o => by
    obtain ⟨a, vs, rfl, h1, h2⟩ := o
    simp only [D.py]
    exact .lst (SqL.of (s _ _ h1)) (D.dpAll s n ds vs (by simpa [D.pl] using h) h2)
  | n, .dic _ _, v, h, o => by simp [D.pl] at h
  | n, .ins _ _ _, v, h, o => by simp [D.pl] at h
  | n, .rd _, v, h, o => by simp [D.pl] at h
theorem D.dpAll {F H : Hp} (s : Same F H) : ∀ (n : Nat) (ds : List D) (vs : List V), D.plAll n ds = true → Dens K F ds vs → DpAll K H vs (D.pyAll ds)
  | n, [], vs, h, o => by
    have o : vs = [] := o
    subst o; simp only [D.pyAll]; exact .nil
  | n, d :: ds, vs, h, o => by
    obtain ⟨v, r, rfl, h1, h2⟩ := o
    simp only [D.plAll, Bool.and_eq_true] at h
    simp only [D.pyAll]
    exact .cons (D.dp s n d v h.1 h1) (D.dpAll s n ds r h.2 h2)
end
mutual
theorem D.lay : ∀ (n : Nat) (d : D), d.pl n = true → d.py.canLay0 = true ∧ d.py.depth ≤ n
  | n, .raw .non, h => by simp [D.py, PyData.canLay0, PyData.depth]
  | n, .raw (.bl b), h => by simp [D.py, PyData.canLay0, PyData.depth]
  | n, .raw (.int b), h => by simp [D.py, PyData.canLay0, PyData.depth]
  | n, .raw (.str b), h => by
    simp only [D.pl] at h
    simp only [D.py, PyData.canLay0, PyData.depth, PyData.strOk]
    exact ⟨h, Nat.zero_le _⟩
  | n, .raw (.byt b), h => by simp [D.pl] at h
  | n, .raw (.flt b), h => by simp [D.pl] at h
  | n, .raw (.ref b), h => by simp [D.pl] at h
  | n, .raw (.ty b), h => by simp [D.pl] at h
  | 0, .tup ds, h => by simp [D.pl] at h
  | n + 1, .tup ds, h => by
    have := D.layAll n ds (by simpa [D.pl] using h)
    simp only [D.py, PyData.canLay0, PyData.depth]
    exact ⟨this.1, by omega⟩
  | 0, .lst ds, h => by simp [D.pl] at h
  | n + 1, .lst ds, h => by
    have := D.layAll n ds (by simpa [D.pl] using h)
    simp only [D.py, PyData.canLay0, PyData.depth]
    exact ⟨this.1, by omega⟩
  | n, .dic _ _, h => by simp [D.pl] at h
  | n, .ins _ _ _, h => by simp [D.pl] at h
  | n, .rd _, h => by simp [D.pl] at h
theorem D.layAll : ∀ (n : Nat) (ds : List D), D.plAll n ds = true → PyData.canLayAll0 (D.pyAll ds) = true ∧ PyData.depthAll (D.pyAll ds) ≤ n
  | n, [], h => by simp [D.pyAll, PyData.canLayAll0, PyData.depthAll]
  | n, d :: ds, h => by
    simp only [D.plAll, Bool.and_eq_true] at h
    have h1 := D.lay n d h.1
    have h2 := D.layAll n ds h.2
    simp only [D.pyAll, PyData.canLayAll0, PyData.depthAll, h1.1, h2.1, Bool.and_self, true_and]
    omega
end
theorem D.shaped {n : Nat} {d : D} (h : d.pl n = true) (hn : n ≤ 64) : SeqAt.shaped d.py = true := by
  have := D.lay n d h
  unfold SeqAt.shaped
  rw [this.1, Bool.true_and]
  exact decide_eq_true (by omega)
def D.eqv (x y : D) : Bool := PyData.eqv x.py y.py
theorem er_eqD {x y : D} (n : Nat) (hx : x.pl n = true) (hy : y.pl n = true) (hn : n ≤ 64) (q : Q (.v (.bl (x.eqv y)))) : EvR K (rEqD K) M (.v x) (.v y) Q := fun α F H u v S o1 o2 k kk =>
  ⟨x.py, y.py, D.dp S.sub n x u hx o1, D.dp S.sub n y v hy o2, D.shaped hx hn, D.shaped hy hn, kk _ F H _ .refl S raw_ok q⟩
theorem er_neD {x y : D} (n : Nat) (hx : x.pl n = true) (hy : y.pl n = true) (hn : n ≤ 64) (q : Q (.v (.bl (!x.eqv y)))) : EvR K (rNeD K) M (.v x) (.v y) Q := fun α F H u v S o1 o2 k kk =>
  ⟨x.py, y.py, D.dp S.sub n x u hx o1, D.dp S.sub n y v hy o2, D.shaped hx hn, D.shaped hy hn, kk _ F H _ .refl S raw_ok q⟩
theorem eqv_refl {n : Nat} {d : D} (h : d.pl n = true) : d.eqv d = true := SeqAt.eqv_refl _ (D.lay n d h).1
/-! ### attributes -/
theorem lookup_zip {f : Str} : ∀ {ns : List Str} {vs : List V} {i : Nat} {v : V}, (ns.findIdx? (· == f)) = some i → vs[i]? = some v → (ns.zip vs).lookup f = some v
  | [], _, _, _, h, _ => by simp at h
  | n :: ns, [], i, v, _, e => by simp at e
  | n :: ns, w :: vs, i, v, h, e => by
    rw [List.findIdx?_cons] at h
    by_cases hn : n = f
    · subst hn
      rw [if_pos (by simp)] at h
      cases h
      simp at e; subst e
      simp
    · rw [if_neg (by simpa using hn)] at h
      obtain ⟨j, hj, rfl⟩ := Option.map_eq_some_iff.mp h
      have e' : vs[j]? = some v := by simpa using e
      rw [List.zip_cons_cons, List.lookup_cons, show (f == n) = false from by simpa using Ne.symm hn]
      exact lookup_zip hj e'
end
end DL

/-! DL5: operators of any kind, walks of any sequence, calls by name. -/
namespace DL
open PySem L2
section
variable {X : Cx}
def rOr (r s : R2) : R2 := fun x y H Q => r x y H Q ∨ s x y H Q
theorem opOr {f : Value → Value → Sem Value} {r s : R2} (h1 : OpR X f r) (h2 : OpR X f s) : OpR X f (rOr r s) := fun pins st σ H x y v u Q I rx ry h => by
  rcases h with h | h
  · exact h1 pins st σ H x y v u Q I rx ry h
  · exact h2 pins st σ H x y v u Q I rx ry h
def rAddS : R2 := fun x y H Q => ∃ i j, x = .str i ∧ y = .str j ∧ i.length + j.length ≤ sizeLine ∧ Q (.str (i ++ j)) H
def gAdd (K : PySem.W.Frag) : R2 := rOr (rI0 fun i j => .int (i + j)) (rOr (rOr rCat (rCatA K)) rAddS)
theorem op_gAdd {K : PySem.W.Frag} (hK : X.K = K := by rfl) : OpR X (binaryOp .Add) (gAdd K) := by
  subst hK
  exact opOr op_add (opOr (opOr op_cat op_catA) op_add_str)
def gMul (K : PySem.W.Frag) : R2 := rOr (rOr (rI CMulW fun i j => .int (i * j)) (rI CMul fun i j => .int (i * j))) (rOr rRep (rRepT K))
theorem op_gMul {K : PySem.W.Frag} (hK : X.K = K := by rfl) : OpR X (binaryOp .Mult) (gMul K) := by
  subst hK
  exact opOr (opOr op_mulW op_mul) (opOr op_rep op_repT)
def gSub : R2 := rI0 fun i j => .int (i - j)
def gDiv : R2 := rOr (rI CDivW fun i j => .int (i / j)) (rI CDivN fun i j => .int (i.fdiv j))
theorem op_gDiv : OpR X (binaryOp .FloorDiv) gDiv := opOr op_fdivW op_fdivN
def gMod : R2 := rOr (rI (fun _ j => 0 < j) fun i j => .int (i % j)) (rI (fun _ j => j ≠ 0) fun i j => .int (i.fmod j))
theorem op_gMod : OpR X (binaryOp .Mod) gMod := opOr op_mod op_modN
def gPow : R2 := rI CPow fun i j => .int (i ^ j.toNat)
theorem op_gPow : OpR X (binaryOp .Pow) gPow := op_pow
def gEq (K : PySem.W.Frag) : R2 := rOr rEq (rEqD K)
def gNe (K : PySem.W.Frag) : R2 := rOr rNe (rNeD K)
theorem op_gEq {K : PySem.W.Frag} (hu : X.A.units + 64 < cLine) (hK : X.K = K := by rfl) : OpR X (compareOp .Eq) (gEq K) := by
  subst hK
  exact opOr op_eq (op_eqD hu)
theorem op_gNe {K : PySem.W.Frag} (hu : X.A.units + 64 < cLine) (hK : X.K = K := by rfl) : OpR X (compareOp .NotEq) (gNe K) := by
  subst hK
  exact opOr op_ne (op_neD hu)
def gLt : R2 := rI0 fun i j => .bl (decide (i < j))
def gLe : R2 := rI0 fun i j => .bl (decide (i ≤ j))
def gGt : R2 := rI0 fun i j => .bl (decide (j < i))
def gGe : R2 := rI0 fun i j => .bl (decide (j ≤ i))
theorem op_gLt : OpR X (compareOp .Lt) gLt := op_lt
theorem op_gLe : OpR X (compareOp .LtE) gLe := op_le
theorem op_gGt : OpR X (compareOp .Gt) gGt := op_gt
theorem op_gGe : OpR X (compareOp .GtE) gGe := op_ge
def gIsN : R2 := fun x y H Q => y = .non ∧ Q (.bl (decide (x = .non))) H
def gNotN : R2 := fun x y H Q => y = .non ∧ Q (.bl (!decide (x = .non))) H
theorem op_gIs : OpR X (compareOp .Is) gIsN := op_isN
def gIn (K : PySem.W.Frag) : R2 := rOr (rIn K false) (rInD K)
def gNotIn (K : PySem.W.Frag) : R2 := rOr (rIn K true) (rNotInD K)
theorem op_gNotIn {K : PySem.W.Frag} (hu : X.A.units + 65 < cLine) (hK : X.K = K := by rfl) : OpR X (compareOp .NotIn) (gNotIn K) := by
  subst hK
  exact opOr op_notIn_seq (op_notInD hu)
theorem ix_any {K : PySem.W.Frag} (hK : X.K = K := by rfl) : IxR X (rIx K) := by
  subst hK
  exact ix_seq
/-! walks -/
def iSeq (K : PySem.W.Frag) (tl : TE) : TI := fun σ H R => tl σ H fun x H1 => ∃ a, x = .ref a ∧ (((∃ xs, SqL K H1 a xs) ∧ R (Itl K a) H1) ∨ ((∃ xs, SqT K H1 a xs) ∧ R (Itt K a) H1))
theorem pi_seq {K : PySem.W.Frag} {tg l : Expr} {tl : TE} (hl : PE X l tl) (hK : X.K = K := by rfl) : PI X tg l (iSeq K tl) := by
  subst hK
  refine ⟨fun pins s σ H R I h => ?_⟩
  refine thn (hl.run pins s σ H _ I h) fun v s1 ⟨x, H1, I1, r1, q1⟩ => ?_
  obtain ⟨a, e, q1⟩ := q1
  subst e
  cases r1
  rcases q1 with ⟨⟨xs, hq⟩, q⟩ | ⟨⟨xs, hq⟩, q⟩
  · obtain ⟨its, rv, p, hz⟩ := I1.list hq
    refine wpAny_pyIter_list p.isList ?_
    refine ⟨s1.heap.objs.size, [s1.heap.objs.size], _, _, H1, rfl, I1.kept (t' := s1.toks) fun b o e => Heap.get?_push_of_some _ e, turn_list a _, ⟨_, Heap.get?_push_size _ rfl, rfl, rfl⟩, fun b hb => ?_, q⟩
    have e : b = s1.heap.objs.size := by simpa using hb
    subst e
    exact I1.fpOk (Nat.le_refl _) (I1.hok.fresh (Nat.le_refl _))
  · obtain ⟨its, rv, p, hz⟩ := I1.tuple hq
    refine wpAny_pyIter_tuple (show s1.heap.IsTuple a its.toArray from p) ?_
    refine ⟨s1.heap.objs.size, [s1.heap.objs.size], _, _, H1, rfl, I1.kept (t' := s1.toks) fun b o e => Heap.get?_push_of_some _ e, turn_tuple a _, ⟨_, Heap.get?_push_size _ rfl, rfl, rfl⟩, fun b hb => ?_, q⟩
    have e : b = s1.heap.objs.size := by simpa using hb
    subst e
    exact I1.fpOk (Nat.le_refl _) (I1.hok.fresh (Nat.le_refl _))
/-! calls by name -/
def FnAt (P : Program) (w : World) (K : PySem.W.Frag) (mg : Str → Option Value) (base : Heap) (CX : CXT) (k : Nat) (x : Str) (ps : List Str) (sp : Sp) : Prop :=
  ∃ f fd, (mg x = some (.ref f) ∧ (∃ oc od osl, K.lookup f = some ⟨oc, od, .func fd, osl⟩)) ∧ PySem.W.keepIn K (.ref f) = true ∧ (∀ (s : Shared) (us : List Value), us.length = ps.length → BindsTo s fd ⟨us, []⟩ (ps.zip us)) ∧ FnOk P w K mg base CX k f fd ps sp
theorem FnAt.imp {P : Program} {w : World} {K : PySem.W.Frag} {mg : Str → Option Value} {base : Heap} {CX : CXT} {k : Nat} {x : Str} {ps : List Str} {sp sp' : Sp} (F : FnAt P w K mg base CX k x ps sp) (h : ∀ vs H Q E, sp' vs H Q E → sp vs H Q E) : FnAt P w K mg base CX k x ps sp' :=
  let ⟨f, fd, a, b, c, d⟩ := F
  ⟨f, fd, a, b, c, d.imp h⟩
structure DefAt (K : PySem.W.Frag) (mg : Str → Option Value) (x : Str) (st : Stmt) (ps : List Str) : Prop where
  ex : ∃ f fd, Fun K x x st f fd ∧ mg x = some (.ref f) ∧ (∀ (s : Shared) (us : List Value), us.length = ps.length → BindsTo s fd ⟨us, []⟩ (ps.zip us))
theorem binds_of {K : PySem.W.Frag} {fd : FuncData} {ps : List Str} (h : ∀ (s : Shared) (us : List Value), us.length = ps.length → BindsTo s fd ⟨us, []⟩ (ps.zip us)) : Binds K fd ps [] := fun s us _ hl => by
  rw [List.append_nil] at hl ⊢
  exact h s us hl
theorem fun_look {K : PySem.W.Frag} {x qual : Str} {st : Stmt} {f : Addr} {fd : FuncData} (F : Fun K x qual st f fd) : ∃ oc od osl, K.lookup f = some ⟨oc, od, .func fd, osl⟩ := by
  obtain ⟨oc, od, kV, doc, pm, an, cdv, ct, osl, rfl, lk, _⟩ := F.ex
  exact ⟨oc, od, osl, lk⟩
theorem pe_fn {x : Str} {k : Nat} {ps : List Str} {sp : Sp} {e : Expr} {es : List Expr} {t : TA} {p pos : Pos} (F : FnAt X.prog X.w X.K X.mg X.base CX0 k x ps sp) (hr : Room k X.A) (hg : Gl X x) (ha : PA X (e :: es) t) (hdb : (x == ("__debug__" : Str)) = false := by decide)
    (he : starEach (e :: es) X.env = (false, eval e X.env) :: starEach es X.env := by rfl) (hpl : (backTo pos (starEach es X.env)).any (·.1) = false := by rfl) : PE X (.Call (.Name x p) (e :: es) [] pos) (tCall sp [] E0 t) := by
  obtain ⟨f, fd, ⟨hm, _⟩, hk, hb, F⟩ := F
  exact pe_call F hr hg hm hk (binds_of hb) .nil pass0 ha hdb he hpl
/-- the built-in names are the built-ins -/
structure Blt (mg : Str → Option Value) : Prop where
  range : mg "range" = none
  len : mg "len" = none
  abs : mg "abs" = none
  max : mg "max" = none
  min : mg "min" = none
  sum : mg "sum" = none
  any : mg "any" = none
  all : mg "all" = none
  int : mg "int" = none
  str : mg "str" = none
  tuple : mg "tuple" = none
  list : mg "list" = none
  bool : mg "bool" = none
  set : mg "set" = none
  sorted : mg "sorted" = none
  zip : mg "zip" = none
  enumerate : mg "enumerate" = none
  isinstance : mg "isinstance" = none
section
variable {e e2 : Expr} {t : TA} {p pos : Pos}
theorem pe_len {K : PySem.W.Frag} (b : X.mg "len" = none) (hg : Gl X "len") (ha : PA X [e] t) (he : starEach [e] X.env = (false, eval e X.env) :: starEach [] X.env := by rfl) (hpl : (backTo pos (starEach [] X.env)).any (·.1) = false := by rfl) (hK : X.K = K := by rfl) : PE X (.Call (.Name "len" p) [e] [] pos) (tCB (rLen K) t) := by
  subst hK
  exact pe_callB call_len hg b PySem.boot_len ha (by decide) (by decide) he hpl
theorem pe_abs (b : X.mg "abs" = none) (hg : Gl X "abs") (ha : PA X [e] t) (he : starEach [e] X.env = (false, eval e X.env) :: starEach [] X.env := by rfl) (hpl : (backTo pos (starEach [] X.env)).any (·.1) = false := by rfl) : PE X (.Call (.Name "abs" p) [e] [] pos) (tCB rAbs t) := pe_callB call_abs hg b (by decide +kernel) ha (by decide) (by decide) he hpl
theorem pe_max2 (b : X.mg "max" = none) (hc : X.calm = true) (hg : Gl X "max") (ha : PA X [e, e2] t) (he : starEach [e, e2] X.env = (false, eval e X.env) :: starEach [e2] X.env := by rfl) (hpl : (backTo pos (starEach [e2] X.env)).any (·.1) = false := by rfl) : PE X (.Call (.Name "max" p) [e, e2] [] pos) (tCB rMax2 t) := pe_callB (call_max2 hc) hg b (by decide +kernel) ha (by decide) (by decide) he hpl
theorem pe_all {K : PySem.W.Frag} (b : X.mg "all" = none) (hc : X.calm = true) (hg : Gl X "all") (ha : PA X [e] t) (he : starEach [e] X.env = (false, eval e X.env) :: starEach [] X.env := by rfl) (hpl : (backTo pos (starEach [] X.env)).any (·.1) = false := by rfl) (hK : X.K = K := by rfl) : PE X (.Call (.Name "all" p) [e] [] pos) (tCB (rAll K) t) := by
  subst hK
  exact pe_callB (cr_all hc) hg b (by decide +kernel) ha (by decide) (by decide) he hpl
theorem pe_int1 (b : X.mg "int" = none) (hg : Gl X "int") (ha : PA X [e] t) (he : starEach [e] X.env = (false, eval e X.env) :: starEach [] X.env := by rfl) (hpl : (backTo pos (starEach [] X.env)).any (·.1) = false := by rfl) : PE X (.Call (.Name "int" p) [e] [] pos) (tCB rInt1 t) := pe_callTy call_int1 hg b (by decide +kernel) ha (by decide) (by decide) he hpl
theorem pe_strI (b : X.mg "str" = none) (hg : Gl X "str") (ha : PA X [e] t) (he : starEach [e] X.env = (false, eval e X.env) :: starEach [] X.env := by rfl) (hpl : (backTo pos (starEach [] X.env)).any (·.1) = false := by rfl) : PE X (.Call (.Name "str" p) [e] [] pos) (tCB rStrI t) := pe_callTy call_str_int hg b (by decide +kernel) ha (by decide) (by decide) he hpl
theorem pe_tupOf {K : PySem.W.Frag} (b : X.mg "tuple" = none) (hg : Gl X "tuple") (ha : PA X [e] t) (he : starEach [e] X.env = (false, eval e X.env) :: starEach [] X.env := by rfl) (hpl : (backTo pos (starEach [] X.env)).any (·.1) = false := by rfl) (hK : X.K = K := by rfl) : PE X (.Call (.Name "tuple" p) [e] [] pos) (tCB (rTupOf K) t) := by
  subst hK
  exact pe_callTy call_tuple_of hg b (by decide +kernel) ha (by decide) (by decide) he hpl
theorem pe_listOf {K : PySem.W.Frag} (b : X.mg "list" = none) (hg : Gl X "list") (ha : PA X [e] t) (he : starEach [e] X.env = (false, eval e X.env) :: starEach [] X.env := by rfl) (hpl : (backTo pos (starEach [] X.env)).any (·.1) = false := by rfl) (hK : X.K = K := by rfl) : PE X (.Call (.Name "list" p) [e] [] pos) (tCB (rListOf K) t) := by
  subst hK
  exact pe_callTy call_list_of hg b (by decide +kernel) ha (by decide) (by decide) he hpl
end
end
/-! ### their readings -/
section
variable {K : PySem.W.Frag} {e : Ent} {ρ : Rho} {M : List MO} {Q : Sl → Prop} {te ta tb : TE} {x y : Sl}
theorem er_l {r s : R2} (h : EvR K r M x y Q) : EvR K (rOr r s) M x y Q := fun α F H u v S o1 o2 k kk => .inl (h α F H u v S o1 o2 k kk)
theorem er_r {r s : R2} (h : EvR K s M x y Q) : EvR K (rOr r s) M x y Q := fun α F H u v S o1 o2 k kk => .inr (h α F H u v S o1 o2 k kk)
theorem g_add {i j : Int} (q : Q (.v (.int (i + j)))) : EvR K (gAdd K) M (.v (.int i)) (.v (.int j)) Q := er_l (er_I0 q)
theorem g_addL {ds es : List D} (h1 : RdL M x ds) (h2 : RdL M y es) (hz : ds.length + es.length ≤ 16777216) (q : Q (.v (.lst (ds ++ es)))) : EvR K (gAdd K) M x y Q := er_r (er_l (er_l (er_cat h1 h2 hz q)))
theorem g_sub {i j : Int} (q : Q (.v (.int (i - j)))) : EvR K gSub M (.v (.int i)) (.v (.int j)) Q := er_I0 q
theorem g_mul {i j : Int} (hc : CMulW i j) (q : Q (.v (.int (i * j)))) : EvR K (gMul K) M (.v (.int i)) (.v (.int j)) Q := er_l (er_l (er_I hc q))
theorem g_div {i j : Int} (hc : CDivW i j) (q : Q (.v (.int (i / j)))) : EvR K gDiv M (.v (.int i)) (.v (.int j)) Q := er_l (er_I hc q)
theorem g_mod {i j : Int} (hc : 0 < j) (q : Q (.v (.int (i % j)))) : EvR K gMod M (.v (.int i)) (.v (.int j)) Q := er_l (er_I hc q)
theorem g_pow {i j : Int} (hc : CPow i j) (q : Q (.v (.int (i ^ j.toNat)))) : EvR K gPow M (.v (.int i)) (.v (.int j)) Q := er_I hc q
theorem g_lt {i j : Int} (q : Q (.v (.bl (decide (i < j))))) : EvR K gLt M (.v (.int i)) (.v (.int j)) Q := er_I0 q
theorem g_le {i j : Int} (q : Q (.v (.bl (decide (i ≤ j))))) : EvR K gLe M (.v (.int i)) (.v (.int j)) Q := er_I0 q
theorem g_gt {i j : Int} (q : Q (.v (.bl (decide (j < i))))) : EvR K gGt M (.v (.int i)) (.v (.int j)) Q := er_I0 q
theorem g_ge {i j : Int} (q : Q (.v (.bl (decide (j ≤ i))))) : EvR K gGe M (.v (.int i)) (.v (.int j)) Q := er_I0 q
theorem dec_int' {i j : Int} : decide (V.int i = V.int j) = decide (i = j) := by simp
theorem g_eqI {i j : Int} (q : Q (.v (.bl (decide (i = j))))) : EvR K (gEq K) M (.v (.int i)) (.v (.int j)) Q := er_l (er_eq rfl (by rw [dec_int']; exact q))
theorem g_neI {i j : Int} (q : Q (.v (.bl (!decide (i = j))))) : EvR K (gNe K) M (.v (.int i)) (.v (.int j)) Q := er_l (er_ne rfl (by rw [dec_int']; exact q))
theorem g_eqV {a b : V} (h : scal a b = true) (q : Q (.v (.bl (decide (a = b))))) : EvR K (gEq K) M (.v (.raw a)) (.v (.raw b)) Q := er_l (er_eq h q)
theorem g_neV {a b : V} (h : scal a b = true) (q : Q (.v (.bl (!decide (a = b))))) : EvR K (gNe K) M (.v (.raw a)) (.v (.raw b)) Q := er_l (er_ne h q)
theorem g_eqD {a b : D} (n : Nat) (hx : a.pl n = true) (hy : b.pl n = true) (hn : n ≤ 64) (q : Q (.v (.bl (a.eqv b)))) : EvR K (gEq K) M (.v a) (.v b) Q := er_r (er_eqD n hx hy hn q)
theorem g_neD {a b : D} (n : Nat) (hx : a.pl n = true) (hy : b.pl n = true) (hn : n ≤ 64) (q : Q (.v (.bl (!a.eqv b)))) : EvR K (gNe K) M (.v a) (.v b) Q := er_r (er_neD n hx hy hn q)
theorem g_isN {s : Sl} (b : Bool) (h : ∀ (α : Al) (F : Hp) v, SlOk K α F s v → decide (v = .non) = b) (q : Q (.v (.bl b))) : EvR K gIsN M s (.v .non) Q := fun α F H u v S o1 o2 k kk => by
  have o2 : v = .non := o2
  subst o2
  exact ⟨rfl, by rw [h α F u o1]; exact kk _ F H _ .refl S raw_ok q⟩
theorem g_notN {s : Sl} (b : Bool) (h : ∀ (α : Al) (F : Hp) v, SlOk K α F s v → decide (v = .non) = b) (q : Q (.v (.bl (!b)))) : EvR K gNotN M s (.v .non) Q := fun α F H u v S o1 o2 k kk => by
  have o2 : v = .non := o2
  subst o2
  exact ⟨rfl, by rw [h α F u o1]; exact kk _ F H _ .refl S raw_ok q⟩
theorem g_notInI {i : Int} {y : Sl} {ns : List Int} (h : RdS M y (D.ints ns)) (q : Q (.v (.bl (!decide (i ∈ ns))))) : EvR K (gNotIn K) M (.v (.int i)) y Q := er_l (er_inI (neg := true) h q)
/-- is it None? -/
def D.isNon : D → Bool
  | .raw .non => true
  | _ => false
theorem isNon_ok {d : D} (α : Al) (F : Hp) (v : V) (o : SlOk K α F (.v d) v) : decide (v = .non) = d.isNon := by
  cases d with
  | raw x =>
    have o : v = x := o
    subst o
    cases v <;> simp [D.isNon]
  | tup ds => obtain ⟨a, vs, rfl, _⟩ := o; simp [D.isNon]
  | lst ds => obtain ⟨a, vs, rfl, _⟩ := o; simp [D.isNon]
  | dic ks ds => obtain ⟨a, vs, rfl, _⟩ := o; simp [D.isNon]
  | ins C ns ds => obtain ⟨a, dx, vs, rfl, _⟩ := o; simp [D.isNon]
  | rd ds => obtain ⟨a, vs, rfl, _⟩ := o; simp [D.isNon]
theorem g_isND {d : D} (q : Q (.v (.bl d.isNon))) : EvR K gIsN M (.v d) (.v .non) Q := g_isN _ isNon_ok q
theorem g_notND {d : D} (q : Q (.v (.bl (!d.isNon)))) : EvR K gNotN M (.v d) (.v .non) Q := g_notN _ isNon_ok q
theorem g_ixT {ds : List D} {i : Int} {d : D} (ha : atI ds i = some d) (q : Q (.v d)) : EvR K (rIx K) M (.v (.tup ds)) (.v (.int i)) Q := fun α F H u v S o1 o2 k kk => .inr (.inl (er_ixT ha q α F H u v S o1 o2 k kk))
theorem g_ixL {ds : List D} {i : Int} {d : D} (h : RdL M x ds) (ha : atI ds i = some d) (q : Q (.v d)) : EvR K (rIx K) M x (.v (.int i)) Q := fun α F H u v S o1 o2 k kk => .inl (er_ixL h ha q α F H u v S o1 o2 k kk)
/-- walks -/
def D.seq (b : Bool) (ds : List D) : D := if b then .tup ds else .lst ds
theorem RdS.seq {b : Bool} {ds : List D} : RdS M (.v (D.seq b ds)) ds := by
  cases b with
  | true => exact .t
  | false => exact .l .v
theorem ei_seqS {R : List D → Prop} (h : EvP K te ρ M fun s => ∃ ds, (∃ b, s = .v (D.seq b ds)) ∧ R ds) : EvI K (iSeq K te) ρ M R := fun σ α F H en S k kk =>
  h σ α F H en S _ fun v F1 H1 s m1 S1 o1 ⟨ds, ⟨b, e1⟩, q⟩ => by
    subst e1
    cases b with
    | true =>
      obtain ⟨a, vs, rfl, h1, h2⟩ := o1
      exact ⟨a, rfl, .inr ⟨⟨vs, sqt_same K S1.sub h1⟩, kk _ F1 H1 ds m1 S1 (itt_ok h1 h2) q⟩⟩
    | false =>
      obtain ⟨a, vs, rfl, h1, h2⟩ := o1
      exact ⟨a, rfl, .inl ⟨⟨vs, SqL.of (S1.sub _ _ h1)⟩, kk _ F1 H1 ds m1 S1 (itl_ok h1 h2) q⟩⟩
theorem ei_seqL {R : List D → Prop} (h : EvP K te ρ M fun s => ∃ ds, s = .v (.lst ds) ∧ R ds) : EvI K (iSeq K te) ρ M R := ei_seqS (h.mono fun s ⟨ds, e, r⟩ => ⟨ds, ⟨false, e⟩, r⟩)
theorem ei_seqT {R : List D → Prop} (h : EvP K te ρ M fun s => ∃ ds, s = .v (.tup ds) ∧ R ds) : EvI K (iSeq K te) ρ M R := ei_seqS (h.mono fun s ⟨ds, e, r⟩ => ⟨ds, ⟨true, e⟩, r⟩)
end
section
variable {P : Program} {w : World} {K : PySem.W.Frag} {mg : Str → Option Value} {base : Heap}
/-- a def that keeps a promise over plain data -/
theorem fn_at {ι : Type} {x : Str} {st : Stmt} {ps N : List Str} {k : Nat} {args : ι → List Sl} {Mi : ι → List MO} {pre : ι → Prop} {post : ι → D → List MO → Prop} (D0 : DefAt K mg x st ps) (S : FnScope N ps (defScope st)) (hl : ∀ i, (args i).length = ps.length)
    (body : ∀ (f : Addr) (cdv : Value) (A : Around) (outer : List Env) (s : Shared) (H : Hp) (E : XK), Room k (A.deeper (PyProof.Rows.envOfC x (defScope st) s.heap.objs.size f cdv)) →
      ∃ t, PSs (cxOf CX0 P w K mg base N x (defScope st) f cdv A outer s H E).nox (defBody st) t ∧
        ∀ i e, pre i → e.α.length = (Mi i).length → RunD K e t (startR N.length (args i)) (Mi i) (fun _ M' => post i .non (M'.take (Mi i).length)) (RetOk (Mi i).length (post i)) (fun _ _ => False) (fun _ _ => False)) :
    FnAt P w K mg base CX0 (k + 1) x ps (SpF K args Mi pre post) := by
  obtain ⟨f, fd, F, hm, hb⟩ := D0.ex
  refine ⟨f, fd, ⟨hm, fun_look F⟩, F.kp, hb, F.ok S (fun vs H Q E h => ?_) fun cdv A outer s H vs Q E hr h => ?_⟩
  · obtain ⟨i, α, F', o, _⟩ := h
    rw [← o.length, hl]
  · obtain ⟨t, ht, hi⟩ := body f cdv A outer s H E hr
    exact ⟨t, ht, fn_run hi vs H Q E h⟩
end
end DL

/-! DL6: the readings once more, each with one question. -/
namespace DL
open PySem L2
section
variable {K : PySem.W.Frag} {e : Ent} {ρ : Rho} {M : List MO} {Q : Sl → Prop} {te ta tb : TE} {x y : Sl} {nx bk ct : Rho → List MO → Prop} {rt : Sl → List MO → Prop}
theorem x_var {i : Nat} (h : ∃ s, ρ[i]? = some (some s) ∧ Q s) : EvP K (tVar i) ρ M Q := let ⟨_, a, b⟩ := h; ev_var a b
theorem x_mul {i j : Int} (h : CMulW i j ∧ Q (.v (.int (i * j)))) : EvR K (gMul K) M (.v (.int i)) (.v (.int j)) Q := g_mul h.1 h.2
theorem x_div {i j : Int} (h : CDivW i j ∧ Q (.v (.int (i / j)))) : EvR K gDiv M (.v (.int i)) (.v (.int j)) Q := g_div h.1 h.2
theorem x_mod {i j : Int} (h : 0 < j ∧ Q (.v (.int (i % j)))) : EvR K gMod M (.v (.int i)) (.v (.int j)) Q := g_mod h.1 h.2
theorem x_pow {i j : Int} (h : CPow i j ∧ Q (.v (.int (i ^ j.toNat)))) : EvR K gPow M (.v (.int i)) (.v (.int j)) Q := g_pow h.1 h.2
theorem x_ixT {ds : List D} {i : Int} (h : ∃ d, atI ds i = some d ∧ Q (.v d)) : EvR K (rIx K) M (.v (.tup ds)) (.v (.int i)) Q := let ⟨_, a, b⟩ := h; g_ixT a b
theorem x_ixL {ds : List D} {i : Int} (h : ∃ d, atI ds i = some d ∧ Q (.v d)) : EvR K (rIx K) M (.v (.lst ds)) (.v (.int i)) Q := let ⟨_, a, b⟩ := h; g_ixL .v a b
theorem x_ixM {k : Nat} {i : Int} (h : ∃ ds, M[k]? = some (.lst ds) ∧ ∃ d, atI ds i = some d ∧ Q (.v d)) : EvR K (rIx K) M (.l k) (.v (.int i)) Q := let ⟨_, z, _, a, b⟩ := h; g_ixL (.l z) a b
theorem x_lenL {ds : List D} (q : Q (.v (.int (ds.length : Int)))) : EvC K (rLen K) M [.v (.lst ds)] Q := ec_len (.l .v) q
theorem x_lenT {ds : List D} (q : Q (.v (.int (ds.length : Int)))) : EvC K (rLen K) M [.v (.tup ds)] Q := ec_len .t q
theorem x_lenS {b : Bool} {ds : List D} (q : Q (.v (.int (ds.length : Int)))) : EvC K (rLen K) M [.v (D.seq b ds)] Q := ec_len .seq q
theorem x_lenM {k : Nat} (h : ∃ ds, M[k]? = some (.lst ds) ∧ Q (.v (.int (ds.length : Int)))) : EvC K (rLen K) M [.l k] Q := let ⟨_, z, b⟩ := h; ec_len (.l (.l z)) b
theorem x_tupL {ds : List D} (q : Q (.v (.tup ds))) : EvC K (rTupOf K) M [.v (.lst ds)] Q := ec_tupOf (.l .v) q
theorem x_tupM {k : Nat} (h : ∃ ds, M[k]? = some (.lst ds) ∧ Q (.v (.tup ds))) : EvC K (rTupOf K) M [.l k] Q := let ⟨_, z, b⟩ := h; ec_tupOf (.l (.l z)) b
theorem x_app {i : Nat} (h : ∃ k ds, ρ[i]? = some (some (.l k)) ∧ M[k]? = some (.lst ds) ∧ EvP K te ρ M fun s => ∃ d, s = .v d ∧ ds.length < 16777216 ∧ nx ρ (M.set k (.lst (ds ++ [d])))) :
    RunD K e (tDrop (tBM K "list" rAppend (tVar i) (tCons te tNil))) ρ M nx rt bk ct := let ⟨_, _, a, b, c⟩ := h; r_app a b c
theorem units65 {k : Nat} {A : Around} (r : Room k A) : A.units + 65 < cLine := by have := r.un; omega
theorem ite_dec {c A B : Prop} [Decidable c] (h1 : c → A) (h2 : ¬ c → B) : if decide c = true then A else B := by
  by_cases h : c
  · rw [if_pos (decide_eq_true h)]; exact h1 h
  · rw [if_neg (by simpa using h)]; exact h2 h
theorem ite_ndec {c A B : Prop} [Decidable c] (h1 : ¬ c → A) (h2 : c → B) : if (!decide c) = true then A else B := by
  by_cases h : c
  · rw [if_neg (by simpa using h)]; exact h2 h
  · rw [if_pos (by simpa using h)]; exact h1 h
theorem ite_b {b : Bool} {A B : Prop} (h1 : b = true → A) (h2 : b = false → B) : if b = true then A else B := by
  cases b with
  | true => rw [if_pos rfl]; exact h1 rfl
  | false => rw [if_neg (by simp)]; exact h2 rfl
theorem le_lit {n m : Nat} (h : Nat.ble n m = true) : n ≤ m := Nat.le_of_ble_eq_true h
theorem mulW {i j : Int} {a b : Nat} (ha : i.natAbs < 2 ^ a) (hb : j.natAbs < 2 ^ b) (h : a + b ≤ 999990) : CMulW i j :=
  wide_mul (a := a + 1) (b := b + 1) (Nat.lt_of_lt_of_le ha (Nat.pow_le_pow_right (by decide) (by omega))) (Nat.lt_of_lt_of_le hb (Nat.pow_le_pow_right (by decide) (by omega))) (by omega) (by omega) (by omega)
theorem divW {i j : Int} {b : Nat} (h : 0 < j) (hb : j.natAbs < 2 ^ b) (h9 : b ≤ 8990) : CDivW i j := wide_div (b := b + 1) h (Nat.lt_of_lt_of_le hb (Nat.pow_le_pow_right (by decide) (by omega))) (by omega) (by omega)
theorem mul_lt {i j : Int} {a b : Nat} (ha : i.natAbs < 2 ^ a) (hb : j.natAbs < 2 ^ b) : (i * j).natAbs < 2 ^ (a + b) := wide_lt ha hb
theorem bit_le {i : Int} {a b : Nat} (ha : i.natAbs < 2 ^ a) (h : a ≤ b) : i.natAbs < 2 ^ b := Nat.lt_of_lt_of_le ha (Nat.pow_le_pow_right (by decide) h)
theorem ret_v {n : Nat} {post : D → List MO → Prop} {d : D} {M' : List MO} (h : post d (M'.take n)) : RetOk n post (.v d) M' := .inl ⟨d, rfl, h⟩
end
/-- a whole number of the module's top -/
structure CInt (mg : Str → Option Value) (x : Str) (i : Int) : Prop where
  ex : ∃ t, mg x = some (.int i t)
theorem CInt.pe {X : Cx} {x : Str} {i : Int} {pos : Pos} (c : CInt X.mg x i) (hg : Gl X x) (hd : (x == ("__debug__" : Str)) = false := by decide) : PE X (.Name x pos) (tC (.int i)) := by
  obtain ⟨t, h⟩ := c.ex
  exact pe_glob hg h ⟨t, rfl⟩ hd
end DL

/-! DL7: the source of draws; new things of a call. -/
namespace DL
open PySem L2
section
variable {K : PySem.W.Frag} {e : Ent} {ρ : Rho} {M : List MO} {Q : Sl → Prop} {te ta tb : TE} {x y : Sl} {nx bk ct : Rho → List MO → Prop} {rt : Sl → List MO → Prop}
theorem Sta.add {α : Al} {F H H' : Hp} (S : Sta K α M F H) {p : Addr × Addr} {m' : MO} (s : Same H H') (h1 : H p.1 = none) (h2 : H p.2 = none) (k1 : H' p.1 ≠ none) (k2 : H' p.2 ≠ none) (hm : MObj K F H' m' p) : Sta K (α ++ [p]) (M ++ [m']) F H' := by
  have t2 : ∀ b, H b ≠ none → H' b ≠ none := fun b h => by
    cases z : H b with
    | none => exact absurd z h
    | some o => rw [s b o z]; simp
  refine ⟨S.sub.trans s, by simp [S.len], fun i m q h1 h2 => ?_, fun i j q r hij g1 g2 => ?_, fun q hq => ?_⟩
  · by_cases hi : i < α.length
    · rw [List.getElem?_append_left (by rw [S.len]; exact hi)] at h1
      rw [List.getElem?_append_left hi] at h2
      exact (S.ob i m q h1 h2).keep (.refl F) (fun z => z) (fun z => z) (fun o z => s _ o z) (fun o z => s _ o z)
    · have hi2 : i = α.length := by
        have := (List.getElem?_eq_some_iff.mp h2).1
        simp at this; omega
      subst hi2
      rw [← S.len, List.getElem?_append_right (Nat.le_refl _)] at h1
      rw [List.getElem?_append_right (Nat.le_refl _)] at h2
      simp at h1 h2
      subst h1; subst h2
      exact hm
  · have hj : j < α.length ∨ j = α.length := by
      have := (List.getElem?_eq_some_iff.mp g2).1
      simp at this; omega
    have hi : i < α.length := by omega
    rw [List.getElem?_append_left hi] at g1
    rcases hj with hj | hj
    · rw [List.getElem?_append_left hj] at g2
      exact S.ap i j q r hij g1 g2
    · subst hj
      rw [List.getElem?_append_right (Nat.le_refl _)] at g2
      simp at g2
      subst g2
      have hq := S.tr q (List.mem_of_getElem? g1)
      exact ⟨fun z => hq.1 (by rw [z]; exact h1), fun z => hq.1 (by rw [z]; exact h2), fun z => hq.2 (by rw [z]; exact h1), fun z => hq.2 (by rw [z]; exact h2)⟩
  · rcases List.mem_append.mp hq with z | z
    · exact ⟨t2 _ (S.tr q z).1, t2 _ (S.tr q z).2⟩
    · simp at z; subst z
      exact ⟨k1, k2⟩
theorem StepE.add {α : Al} {F H H' : Hp} (st : StepE e α F H) {p : Addr × Addr} (s : Same H H') (h1 : H p.1 = none) (h2 : H p.2 = none) : StepE e (α ++ [p]) F H' where
  ex := st.ex
  fr := fun b u h k => s b u (st.fr b u h k)
  tr := fun b h => by
    have := st.tr b h
    cases z : H b with
    | none => exact absurd z this
    | some o => rw [s b o z]; simp
  new := st.new
  pre := by
    obtain ⟨β, e1, hβ⟩ := st.pre
    refine ⟨β ++ [p], by rw [e1, List.append_assoc], fun q hq => ?_⟩
    rcases List.mem_append.mp hq with z | z
    · exact hβ q z
    · simp at z; subst z
      exact ⟨none_back (st.tr _) h1, none_back (st.tr _) h2⟩
/-- the making of a source of draws -/
def spMix (K : PySem.W.Frag) : Sp := fun vs H Q _ => ∃ (a : Addr) (cells : List Int) (seed : Int), vs = [.ref a, .int seed] ∧ SqL K H a (cells.map V.int) ∧ cells.length ≤ 63 ∧ 0 ≤ seed ∧ seed < 2147483647 ∧
  ∀ p H', H p.1 = none → H p.2 = none → Same H H' → Rng H' p → Q (.ref p.1) H'
theorem r_mix {i : Nat} {t : TA} {X : XK} (h : EvA K t ρ M fun ss => ∃ (cells : List Int) (seed : Int), ss = [.v (.rd (D.ints cells)), .v (.int seed)] ∧ cells.length ≤ 63 ∧ 0 ≤ seed ∧ seed < 2147483647 ∧ nx (ρ.set i (some (.l M.length))) (M ++ [.rng])) :
    RunD K e (tAsg (tCall (spMix K) [] X t) (gName i)) ρ M nx rt bk ct := fun Y σ α F H g ok =>
  h σ α F H g.env g.sta _ fun vs F1 H1 ss m1 S1 o1 ⟨cells, seed, e1, h63, s0, s1, q1⟩ => by
    subst e1
    obtain ⟨v, r, rfl, o1, o2⟩ := o1
    obtain ⟨w, r', rfl, o3, o4⟩ := o2
    have o4 : r' = [] := o4
    have o3 : w = .int seed := o3
    subst o3; subst o4
    obtain ⟨a, us, rfl, hs, hd⟩ := o1
    have e2 := hd.ofInts
    subst e2
    refine ⟨a, cells, seed, rfl, S1.sub.seq hs, h63, s0, s1, fun p H' n1 n2 s2 R => ?_⟩
    have k1 : H' p.1 ≠ none := by
      obtain ⟨_, _, _, _, z, _⟩ := R
      rw [z]; simp
    have k2 : H' p.2 ≠ none := by
      obtain ⟨_, _, _, _, _, z, _⟩ := R
      rw [z]; simp
    have S2 := S1.add (m' := .rng) s2 n1 n2 k1 k2 ⟨S1.sub.free n1, S1.sub.free n2, R⟩
    exact ok.nx _ _ F1 _ _ _ ⟨((g.env.mono m1.ex).more).set i (loc_ok (p := p) (by rw [S1.len, List.getElem?_append_right (Nat.le_refl _)]; simp)), S2, (g.st.move m1).add s2 n1 n2⟩ m1.ex q1
end
section
variable {P : Program} {w : World} {K : PySem.W.Frag} {mg : Str → Option Value} {base : Heap}
theorem fn_atR {x : Str} {st : Stmt} {ps N : List Str} {k : Nat} {sp : Sp} (D0 : DefAt K mg x st ps) (S : FnScope N ps (defScope st)) (hl : ∀ vs H Q E, sp vs H Q E → vs.length = ps.length)
    (body : ∀ (f : Addr) (cdv : Value) (A : Around) (outer : List Env) (s : Shared) (H : Hp) (E : XK), Room k (A.deeper (PyProof.Rows.envOfC x (defScope st) s.heap.objs.size f cdv)) →
      ∃ t, PSs (cxOf CX0 P w K mg base N x (defScope st) f cdv A outer s H E).nox (defBody st) t ∧ ∀ vs Q E', sp vs H Q E' → t { nx := fun _ H' => Q .non H', rt := Q } (L2.start N vs) H) :
    FnAt P w K mg base CX0 (k + 1) x ps sp := by
  obtain ⟨f, fd, F, hm, hb⟩ := D0.ex
  refine ⟨f, fd, ⟨hm, fun_look F⟩, F.kp, hb, F.ok S hl fun cdv A outer s H vs Q E hr h => ?_⟩
  obtain ⟨t, ht, hi⟩ := body f cdv A outer s H E hr
  exact ⟨t, ht, hi vs Q E h⟩
/-- a def that is never called so -/
theorem fn_never {ι : Type} {x : Str} {st : Stmt} {ps : List Str} {k : Nat} {args : ι → List D} {pre : ι → Prop} {post : ι → D → Prop} (D0 : DefAt K mg x st ps) (h : ∀ i, ¬ pre i) : FnAt P w K mg base CX0 k x ps (SpP K args pre post) := by
  obtain ⟨f, fd, F, hm, hb⟩ := D0.ex
  exact ⟨f, fd, ⟨hm, fun_look F⟩, F.kp, hb, fun vs H Q E z => (h _ z.choose_spec.choose_spec.choose_spec.2.2.1).elim, fun A outer s H args us vs Q E _ _ _ _ z => (h _ z.choose_spec.choose_spec.choose_spec.2.2.1).elim⟩
theorem def_mk {x : Str} {st : Stmt} {ps : List Str} {h : Heap} {f : Addr} {oc : Value} {od an : Option Addr} {osl : Array (Option Value)} {kV doc pm cdv ct : Value} (X : K.In h) (G : h.Ns mainGlobals mg)
    (a : PySem.W.nsIn K mainGlobals x = some (some (.ref f))) (l : K.lookup f = some ⟨oc, od, .func (PySem.W.fnOf x x (defArgs st) (defBody st) (defScope st) .none kV doc pm an cdv ct), osl⟩)
    (c : PySem.W.codeIn K cdv x = true) (k : PySem.W.keepIn K (.ref f) = true)
    (b : ∀ (kV doc pm : Value) (an : Option Addr) (cdv ct : Value) (us : List Value), us.length = ps.length → bindArgs (PySem.W.fnOf x x (defArgs st) (defBody st) (defScope st) .none kV doc pm an cdv ct) ⟨us, []⟩ = pure (ps.zip us)) : DefAt K mg x st ps :=
  ⟨f, _, fun_mk l c k, PySem.W.mg_of X G a, fun _ us hl => .of_eq (b _ _ _ _ _ _ us hl)⟩
/-- the law's def, for the end of a row -/
theorem law_end {x y : Str} {k : Nat} {sp : Sp} {fa : Addr} (h : ∀ base : Heap, K.In base → base.Ns mainGlobals mg → FnAt P w K mg base CX0 k x [y] sp) {g : Heap} (X : K.In g) (G : g.Ns mainGlobals mg) (hm : mg x = some (.ref fa)) :
    ∃ fd : FuncData, (∀ (s : Shared) (u : Value), BindsTo s fd ⟨[u], []⟩ [(y, u)]) ∧ ∀ base : Heap, K.In base → base.Ns mainGlobals mg → FnOk P w K mg base CX0 k fa fd [y] sp := by
  obtain ⟨f, fd, ⟨hf, oc, od, osl, lk⟩, _, hb, _⟩ := h g X G
  rw [hm] at hf
  cases hf
  refine ⟨fd, fun s u => hb s [u] rfl, fun base X' G' => ?_⟩
  obtain ⟨f', fd', ⟨hf', oc', od', osl', lk'⟩, _, _, F⟩ := h base X' G'
  rw [hm] at hf'
  cases hf'
  rw [lk] at lk'
  cases lk'
  exact F
end
end DL

/-! DL8: kinds of things; classes. -/
namespace DL
open PySem L2
section
variable {K : PySem.W.Frag} {e : Ent} {ρ : Rho} {M : List MO} {Q : Sl → Prop} {te ta tb : TE} {x y : Sl} {nx bk ct : Rho → List MO → Prop} {rt : Sl → List MO → Prop}
/-- a class of the text whose instances are told apart by isinstance -/
structure ClsI (K : PySem.W.Frag) (C : Addr) : Prop where
  cl : Cls K C
  ha : PySem.W.findIn K (.ref C) "__class__" = some (some (.builtin "object.__class__"))
  hn : PySem.W.specialIn K (.builtin "object.__class__") "__get__" = some (some (.builtin "getset_descriptor.__get__"))
  htk : PySem.W.takesIn K (.builtin "object.__class__") = some true
  hm : PySem.W.mroIn K C (.type "object") = some true
/-- the kind of a thing -/
inductive Kind (K : PySem.W.Frag) : D → Value → Prop
  | non : Kind K .non (.type "NoneType")
  | bl (b : Bool) : Kind K (.bl b) (.type "bool")
  | int (i : Int) : Kind K (.int i) (.type "int")
  | str (s : Str) : Kind K (.str s) (.type "str")
  | tup (ds : List D) : Kind K (.tup ds) (.type "tuple")
  | lst (ds : List D) : Kind K (.lst ds) (.type "list")
  | dic (ks : List Key) (ds : List D) : Kind K (.dic ks ds) (.type "dict")
  | ins (C : Addr) (ns : List Str) (ds : List D) (c : ClsI K C) : Kind K (.ins C ns ds) (.ref C)
theorem Kind.ty {α : Al} {F H : Hp} {d : D} {t : Value} {v : V} (k : Kind K d t) (S : Sta K α M F H) (o : SlOk K α F (.v d) v) : TyX K H v t := by
  cases k with
  | non =>
    have o : v = .non := o
    subst o; exact .base .non
  | bl b =>
    have o : v = .bl b := o
    subst o; exact .base (.bl b)
  | int b =>
    have o : v = .int b := o
    subst o; exact .base (.int b)
  | str b =>
    have o : v = .str b := o
    subst o; exact .base (.str b)
  | tup ds =>
    obtain ⟨a, vs, rfl, h1, _⟩ := o
    rcases sqt_same K S.sub h1 with (h | ⟨ob, h⟩) | ⟨ob, its, n, h, c, _⟩
    · exact .base (.tup h)
    · exact .fTuple h
    · exact .kTuple h c
  | lst ds =>
    obtain ⟨a, vs, rfl, h1, _⟩ := o
    exact .base (.lst (S.sub _ _ h1))
  | dic ks ds =>
    obtain ⟨a, vs, rfl, h1, _⟩ := o
    exact .base (.dK (S.sub _ _ h1))
  | ins C ns ds c =>
    obtain ⟨a, dx, vs, rfl, h1, _⟩ := o
    exact .base (.ins (S.sub _ _ h1) c.cl c.ha c.hn c.htk c.hm)
theorem sls2s {α : Al} {F : Hp} {s s' : Sl} {us : List V} (o : SlsOk K α F [s, s'] us) : ∃ u u', us = [u, u'] ∧ SlOk K α F s u ∧ SlOk K α F s' u' := by
  obtain ⟨v, r, rfl, o1, o2⟩ := o
  obtain ⟨u, rfl, o3⟩ := sls1s o2
  exact ⟨v, u, rfl, o1, o3⟩
theorem ec_isi {d : D} {t : Value} {T : String} {b : Bool} (k : Kind K d t) (h : PySem.W.kitOne K t (.type T) = some b) (q : Q (.v (.bl b))) : EvC K (rIsi K) M [.v d, .v (.raw (.ty T))] Q := fun α F H us S o kk0 kk => by
  obtain ⟨u, u', rfl, o1, o2⟩ := sls2s o
  have o2 : u' = .ty T := o2
  subst o2
  exact ⟨u, _, t, _, b, rfl, .ty T, k.ty S o1, h, kk _ F H _ .refl S raw_ok q⟩
theorem ec_isiC {d : D} {t : Value} {C : Addr} {b : Bool} (k : Kind K d t) (h : PySem.W.kitOne K t (.ref C) = some b) (q : Q (.v (.bl b))) : EvC K (rIsi K) M [.v d, .v (.raw (.ref C))] Q := fun α F H us S o kk0 kk => by
  obtain ⟨u, u', rfl, o1, o2⟩ := sls2s o
  have o2 : u' = .ref C := o2
  subst o2
  exact ⟨u, _, t, _, b, rfl, .own C, k.ty S o1, h, kk _ F H _ .refl S raw_ok q⟩
/-- what a class's attributes read through a property -/
theorem ev_prop {f : Str} {C : Addr} {ns : List Str} {ds : List D} {i : Nat} {d : D} {X : XK} (hi : (ns.findIdx? (· == f)) = some i) (hd : ds[i]? = some d) (h : EvP K te ρ M fun s => s = .v (.ins C ns ds) ∧ Q (.v d)) : EvP K (tProp C (getSp C f) [] X te) ρ M Q := fun σ α F H en S k kk =>
  h σ α F H en S _ fun v F1 H1 s m1 S1 o1 ⟨e1, q⟩ => by
    subst e1
    obtain ⟨a, dx, vs, rfl, h1, h2, h3⟩ := o1
    obtain ⟨w, hw, r⟩ := h3.get hd
    exact ⟨a, dx, _, rfl, S1.sub _ _ h1, a, dx, _, w, rfl, S1.sub _ _ h1, lookup_zip hi hw, kk w F1 H1 _ m1 S1 (den_ok r) q⟩
/-- a method of the class: its def, plain -/
structure MethAt (K : PySem.W.Frag) (C : Addr) (x qual : Str) (st : Stmt) (ps : List Str) : Prop where
  ex : ∃ f fd, Fun K x qual st f fd ∧ PySem.W.findIn K (.ref C) x = some (some (.ref f)) ∧ PySem.W.isFn K (.ref f) = true ∧ Binds K fd ps []
structure PropAt (K : PySem.W.Frag) (C : Addr) (x f qual : Str) (st : Stmt) : Prop where
  ex : ∃ p g fd, PropOf K C x p g ∧ Fun K x qual st g fd ∧ Binds K fd ["self"] []
end
section
variable {X : Cx} {e : Expr} {es : List Expr} {t : TA} {p pos : Pos} {ta : TE}
theorem pe_isi {K : PySem.W.Frag} {e2 : Expr} (b : X.mg "isinstance" = none) (hg : Gl X "isinstance") (ha : PA X [e, e2] t) (he : starEach [e, e2] X.env = (false, eval e X.env) :: starEach [e2] X.env := by rfl) (hpl : (backTo pos (starEach [e2] X.env)).any (·.1) = false := by rfl) (hK : X.K = K := by rfl) : PE X (.Call (.Name "isinstance" p) [e, e2] [] pos) (tCB (rIsi K) t) := by
  subst hK
  exact pe_callB call_isi hg b PyProof.Rows.boot_isinstance ha (by decide) (by decide) he hpl
theorem pe_cls {x : Str} {C : Addr} (hm : X.mg x = some (.ref C)) (hg : Gl X x) (hd : (x == ("__debug__" : Str)) = false := by decide) : PE X (.Name x pos) (tC (.ref C)) := pe_glob hg hm rfl hd
theorem pe_at {K : PySem.W.Frag} {f : Str} (he : PE X e ta) (hb : attributeBase e f X.env (eval e X.env) = eval e X.env := by rfl) (hK : X.K = K := by rfl) : PE X (.Attribute e f pos) (tFld K ta f) := by
  subst hK
  exact pe_fld he hb
/-- a property whose getter hands back the attribute of that name -/
structure Getter (K : PySem.W.Frag) (C : Addr) (x f : Str) : Prop where
  ok : ∀ (P : Program) (w : World) (mg : Str → Option Value) (base : Heap), ∃ p g fd, PropOf K C x p g ∧ FnOk P w K mg base CX0 1 g fd ["self"] (getSp C f) ∧ Binds K fd ["self"] []
theorem pe_get {x f : Str} {C : Addr} (G : Getter X.K C x f) (c : Cls X.K C) (hr : Room 2 X.A) (he : PE X e ta) (hab : attributeBase e x X.env (eval e X.env) = eval e X.env := by rfl) : PE X (.Attribute e x pos) (tProp C (getSp C f) [] E0 ta) := by
  obtain ⟨p, g, fd, hp, F, hb⟩ := G.ok X.prog X.w X.mg X.base
  exact pe_prop he c hp F hr hb .nil pass0 hab
end
section
variable {K : PySem.W.Frag} {C : Addr} {x f : Str}
/-- the getter: def x(self): return self.f -/
theorem getter_mk {p g : Addr} {fd : FuncData} {qual : Str} {st : Stmt} {p1 p2 p3 : Pos} (hp : PropOf K C x p g) (F : Fun K x qual st g fd) (S : FnScope ["self"] ["self"] (defScope st)) (hb : defBody st = [.Return (some (.Attribute (.Name "self" p1) f p2)) p3]) (bd : Binds K fd ["self"] []) (c : Cls K C) (n : NoAttr K C f) : Getter K C x f := by
  refine ⟨fun P w mg base => ⟨p, g, fd, hp, F.ok S (fun vs H Q E h => ?_) (fun cdv A outer s H vs Q E hr h => ?_), bd⟩⟩
  · obtain ⟨a, dx, fs, v, e, _⟩ := h
    rw [e]; rfl
  · obtain ⟨a, dx, fs, v, e, ea, l, q⟩ := h
    subst e
    rw [hb]
    refine ⟨_, pss_one (ps_ret (pe_fld (pe_var (i := 0) rfl ((S.par "self" (List.Mem.head _)).elim (fun z => .inl z) (fun z => .inr (.inl z)))) rfl)), ?_⟩
    exact ⟨.ref a, rfl, a, C, dx, fs, v, rfl, ea, c, n, l, q⟩
theorem meth_mk {qual : Str} {st : Stmt} {ps : List Str} {f : Addr} {oc : Value} {od an : Option Addr} {osl : Array (Option Value)} {kV doc pm cdv ct : Value}
    (a : PySem.W.findIn K (.ref C) x = some (some (.ref f))) (i : PySem.W.isFn K (.ref f) = true) (l : K.lookup f = some ⟨oc, od, .func (PySem.W.fnOf x qual (defArgs st) (defBody st) (defScope st) .none kV doc pm an cdv ct), osl⟩)
    (c : PySem.W.codeIn K cdv qual = true) (k : PySem.W.keepIn K (.ref f) = true)
    (b : ∀ (kV doc pm : Value) (an : Option Addr) (cdv ct : Value) (us : List Value), us.length = ps.length → bindArgs (PySem.W.fnOf x qual (defArgs st) (defBody st) (defScope st) .none kV doc pm an cdv ct) ⟨us, []⟩ = pure (ps.zip us)) : MethAt K C x qual st ps :=
  ⟨f, _, fun_mk l c k, a, i, (fun_mk (st := st) l c k).binds b⟩
theorem prop_mk {qual : Str} {st : Stmt} {p g : Addr} {rest : List Value} {oc : Value} {od an : Option Addr} {osl : Array (Option Value)} {kV doc pm cdv ct : Value} {p1 p2 p3 : Pos}
    (h1 : PySem.W.findIn K (.ref C) x = some (some (.ref p))) (h2 : PySem.W.specialIn K (.ref p) "__get__" = some (some (.builtin "property.__get__"))) (h3 : PySem.W.takesIn K (.ref p) = some true) (h4 : PySem.W.recIn K p "property" = some (.ref g :: rest))
    (l : K.lookup g = some ⟨oc, od, .func (PySem.W.fnOf x qual (defArgs st) (defBody st) (defScope st) .none kV doc pm an cdv ct), osl⟩) (c : PySem.W.codeIn K cdv qual = true) (k : PySem.W.keepIn K (.ref g) = true)
    (S : FnScope ["self"] ["self"] (defScope st)) (hb : defBody st = [.Return (some (.Attribute (.Name "self" p1) f p2)) p3])
    (b : ∀ (kV doc pm : Value) (an : Option Addr) (cdv ct : Value) (us : List Value), us.length = 1 → bindArgs (PySem.W.fnOf x qual (defArgs st) (defBody st) (defScope st) .none kV doc pm an cdv ct) ⟨us, []⟩ = pure ([("self" : Str)].zip us)) (cl : Cls K C) (n : NoAttr K C f) : Getter K C x f :=
  getter_mk ⟨h1, h2, h3, ⟨rest, h4⟩⟩ (fun_mk l c k) S hb ((fun_mk (st := st) l c k).binds b) cl n
end
/-! ### the making of an object -/
section
variable {P : Program} {w : World} {K : PySem.W.Frag} {mg : Str → Option Value} {base : Heap}
/-- a class whose __init__ takes plain data and leaves an object of plain data -/
def SpI {ι : Type} (K : PySem.W.Frag) (C : Addr) (args : ι → List D) (pre : ι → Prop) (ns : List Str) (post : ι → List D → Prop) : Sp := fun vs H Q _ =>
  ∃ (x : ι) (a dx : Addr) (F : Hp) (us : List V), vs = .ref a :: us ∧ Dens K F (args x) us ∧ Same F H ∧ F a = none ∧ F dx = none ∧ a ≠ dx ∧ H a = some (.ins C dx []) ∧ pre x ∧
    ∀ F' H' ds, Same F F' → Same F' H' → (∀ b o, H b = some o → b ≠ a → H' b = some o) → (∀ b, F' b ≠ none → F b ≠ none ∨ H b = none ∨ b = a) → Den K F' (.ins C ns ds) (.ref a) → post x ds → Q .non H'
structure MkAt (P : Program) (w : World) (K : PySem.W.Frag) (mg : Str → Option Value) (base : Heap) (k : Nat) (x : Str) (C : Addr) (ps : List Str) (sp : Sp) : Prop where
  ex : ∃ f fd, mg x = some (.ref C) ∧ Mk K C f ∧ Binds K fd ps [] ∧ FnOk P w K mg base CX0 k f fd ps sp
theorem pe_new {X : Cx} {x : Str} {C : Addr} {k : Nat} {ps : List Str} {sp : Sp} {e : Expr} {es : List Expr} {t : TA} {p pos : Pos} (F : MkAt X.prog X.w X.K X.mg X.base k x C ps sp) (hr : Room (k + 1) X.A) (hg : Gl X x) (ha : PA X (e :: es) t) (hdb : (x == ("__debug__" : Str)) = false := by decide)
    (he : starEach (e :: es) X.env = (false, eval e X.env) :: starEach es X.env := by rfl) (hpl : (backTo pos (starEach es X.env)).any (·.1) = false := by rfl) : PE X (.Call (.Name x p) (e :: es) [] pos) (tMake C sp [] E0 t) := by
  obtain ⟨f, fd, hm, hM, hb, F⟩ := F.ex
  exact pe_make hM F hr hg hm hb .nil pass0 ha hdb he hpl
theorem ec_new {ι : Type} {C : Addr} {args : ι → List D} {pre : ι → Prop} {ns : List Str} {post : ι → List D → Prop} {ta : TA} {X : XK} {ρ : Rho} {M : List MO} {Q : Sl → Prop} (h : EvA K ta ρ M fun ss => ∃ x, ss = (args x).map Sl.v ∧ pre x ∧ ∀ ds, post x ds → Q (.v (.ins C ns ds))) : EvP K (tMake C (SpI K C args pre ns post) [] X ta) ρ M Q := fun σ α F H en S k kk =>
  h σ α F H en S _ fun vs F1 H1 ss m1 S1 o1 ⟨x, e1, hp, q⟩ => by
    subst e1
    intro a dx ha hdx hne
    have hd := o1.dens
    have n1 := S1.notin ha
    have n2 := S1.notin hdx
    have s1 : Same H1 (upd (upd H1 dx (.own a)) a (.ins C dx [])) := fun b o z => by
      rw [upd_ne (ne_of_none z ha), upd_ne (ne_of_none z hdx)]; exact z
    refine ⟨x, a, dx, F1, vs, by rw [List.append_nil], hd, S1.sub.trans s1, S1.sub.free ha, S1.sub.free hdx, Ne.symm hne, upd_same, hp, fun F' H' ds f1 f2 fr nw hden hpost => ⟨rfl, ?_⟩⟩
    have fr1 : ∀ b o, H1 b = some o → H' b = some o := fun b o z => fr b o (s1 b o z) (ne_of_none z ha)
    have mv : Move [] F1 H1 F' H' := ⟨f1, fun b o z _ => fr1 b o z, fun b z => by
      cases y : H1 b with
      | none => exact absurd y z
      | some o => rw [fr1 b o y]; simp, fun b z => by
      rcases nw b z with y | y | y
      · exact .inl y
      · refine .inr ?_
        cases w : H1 b with
        | none => rfl
        | some o => rw [s1 b o w] at y; cases y
      · subst y; exact .inr ha⟩
    exact kk _ F' H' _ (m1.trans (mv.widen fun _ h => by simp at h)) (S1.keep0 mv f2) (den_ok hden) (q ds hpost)
/-- from the body of __init__: self is the 0-th thing -/
theorem init_run {ι : Type} {C : Addr} {args : ι → List D} {pre : ι → Prop} {ns : List Str} {post : ι → List D → Prop} {N : List Str} {t : TS}
    (h : ∀ x e, pre x → e.α.length = 1 → RunD K e t (startR N.length (.l 0 :: (args x).map Sl.v)) [.ins C [] []] (fun _ M' => ∃ ds, M'[0]? = some (.ins C ns ds) ∧ post x ds) (fun s M' => s = .v .non ∧ ∃ ds, M'[0]? = some (.ins C ns ds) ∧ post x ds) (fun _ _ => False) (fun _ _ => False)) :
    ∀ vs H Q E, SpI K C args pre ns post vs H Q E → t { nx := fun _ H' => Q .non H', rt := Q } (L2.start N vs) H := by
  rintro vs H Q E ⟨x, a, dx, F, us, rfl, hd, sub, ha, hdx, hne, hH, hp, k⟩
  have S : Sta K [(a, a)] [.ins C [] []] F H := by
    refine ⟨sub, rfl, fun i m p h1 h2 => ?_, fun i j p q hij h1 h2 => ?_, fun p hq => ?_⟩
    · cases i with
      | zero =>
        simp at h1 h2
        subst h1; subst h2
        exact ⟨ha, dx, [], hH, rfl, rfl⟩
      | succ i => simp at h1
    · cases j with
      | zero => omega
      | succ j => simp at h2
    · simp at hq; subst hq
      rw [hH]; simp
  have fin : ∀ {α' : Al} {F' H' : Hp} {M' : List MO}, Sta K α' M' F' H' → StepE ⟨[(a, a)], F, H⟩ α' F' H' → (∃ ds, M'[0]? = some (.ins C ns ds) ∧ post x ds) → Q .non H' := fun {α' F' H' M'} S' st ⟨ds, hM, hpost⟩ => by
    obtain ⟨β, e1, _⟩ := st.pre
    have e1 : α' = [(a, a)] ++ β := e1
    have h0 : α'[0]? = some (a, a) := by rw [e1]; rfl
    obtain ⟨hFa, dx', vs', hH', hl, hden⟩ := S'.ob 0 _ _ hM h0
    have hFa : F' a = none := hFa
    have hH' : H' a = some (.ins C dx' (ns.zip vs')) := hH'
    have s5 : Same F' (upd F' a (.ins C dx' (ns.zip vs'))) := fun b u h => by rw [upd_ne (ne_of_none h hFa)]; exact h
    refine k (upd F' a (.ins C dx' (ns.zip vs'))) H' ds (st.ex.trans s5) (fun b o z => ?_) (fun b o z hb => st.fr b o z fun p hp => ?_) (fun b z => ?_) ⟨a, dx', vs', rfl, upd_same, hl, Dens.mono K s5 _ _ hden⟩ hpost
    · by_cases e : b = a
      · subst e; rw [upd_same] at z; cases z; exact hH'
      · rw [upd_ne e] at z; exact S'.sub b o z
    · have hp : p ∈ [(a, a)] := hp
      simp at hp; subst hp; exact ⟨hb, hb⟩
    · by_cases e : b = a
      · exact .inr (.inr e)
      · rw [upd_ne e] at z
        rcases st.new b z with y | y
        · exact .inl y
        · exact .inr (.inl y)
  have ho : SlsOk K [(a, a)] F (.l 0 :: (args x).map Sl.v) (.ref a :: us) := by
    refine ⟨_, us, rfl, ⟨(a, a), rfl, rfl⟩, ?_⟩
    have : ∀ {ds : List D} {us : List V}, Dens K F ds us → SlsOk K [(a, a)] F (ds.map Sl.v) us := by
      intro ds
      induction ds with
      | nil => intro us h; exact h
      | cons d ds ih =>
        intro us h
        obtain ⟨v, r, rfl, h2, h3⟩ := h
        exact ⟨v, r, rfl, h2, ih h3⟩
    exact this hd
  refine h x ⟨[(a, a)], F, H⟩ hp rfl _ _ _ F H ⟨env_start ho, S, .refl⟩ ⟨fun σ' α' F' H' ρ' M' g _ q => fin g.sta g.st q, fun v s α' F' H' M' o S' st _ ⟨e1, q⟩ => ?_, fun _ _ _ _ _ _ _ _ q => q.elim, fun _ _ _ _ _ _ _ _ q => q.elim⟩
  subst e1
  have o : v = .non := o
  subst o
  exact fin S' st q
theorem mk_at {ι : Type} {x : Str} {C f : Addr} {st : Stmt} {ps N ns : List Str} {k : Nat} {args : ι → List D} {pre : ι → Prop} {post : ι → List D → Prop} {fd : FuncData} {qual : Str} (hm : mg x = some (.ref C)) (M : Mk K C f) (F : Fun K "__init__" qual st f fd) (B : Binds K fd ps []) (S : FnScope N ps (defScope st)) (hl : ∀ i, (args i).length + 1 = ps.length)
    (body : ∀ (f : Addr) (cdv : Value) (A : Around) (outer : List Env) (s : Shared) (H : Hp) (E : XK), Room k (A.deeper (PyProof.Rows.envOfC qual (defScope st) s.heap.objs.size f cdv)) →
      ∃ t, PSs (cxOf CX0 P w K mg base N qual (defScope st) f cdv A outer s H E).nox (defBody st) t ∧
        ∀ i e, pre i → e.α.length = 1 → RunD K e t (startR N.length (.l 0 :: (args i).map Sl.v)) [.ins C [] []] (fun _ M' => ∃ ds, M'[0]? = some (.ins C ns ds) ∧ post i ds) (fun s M' => s = .v .non ∧ ∃ ds, M'[0]? = some (.ins C ns ds) ∧ post i ds) (fun _ _ => False) (fun _ _ => False)) :
    MkAt P w K mg base (k + 1) x C ps (SpI K C args pre ns post) := by
  refine ⟨f, fd, hm, M, B, F.ok S (fun vs H Q E h => ?_) fun cdv A outer s H vs Q E hr h => ?_⟩
  · obtain ⟨i, a, dx, F', us, rfl, o, _⟩ := h
    rw [← hl i, o.length]; rfl
  · obtain ⟨t, ht, hi⟩ := body f cdv A outer s H E hr
    exact ⟨t, ht, init_run hi vs H Q E h⟩
end
/-! ### attributes of the thing at slot j -/
section
variable {K : PySem.W.Frag} {e : Ent} {ρ : Rho} {M : List MO} {te : TE} {nx bk ct : Rho → List MO → Prop} {rt : Sl → List MO → Prop}
def putD (f : Str) (d : D) : List Str → List D → List Str × List D
  | n :: ns, x :: xs => if n = f then (n :: ns, d :: xs) else let (a, b) := putD f d ns xs; (n :: a, x :: b)
  | _, _ => ([f], [d])
theorem putD_ok {F : Hp} {f : Str} {d : D} {v : V} (hv : Den K F d v) : ∀ {ns : List Str} {ds : List D} {vs : List V}, ns.length = vs.length → Dens K F ds vs →
    ∃ ws, putF f v (ns.zip vs) = (putD f d ns ds).1.zip ws ∧ (putD f d ns ds).1.length = ws.length ∧ Dens K F (putD f d ns ds).2 ws
  | [], [], vs, hl, h => by
    have h : vs = [] := h
    subst h
    exact ⟨[v], rfl, rfl, Dens.cons hv Dens.nil⟩
  | [], d' :: ds, vs, hl, h => by
    obtain ⟨u, r, rfl, _⟩ := h
    simp at hl
  | n :: ns, [], vs, hl, h => by
    have h : vs = [] := h
    subst h; simp at hl
  | n :: ns, d' :: ds, vs, hl, h => by
    obtain ⟨u, r, rfl, h2, h3⟩ := h
    by_cases hn : n = f
    · refine ⟨v :: r, ?_, ?_, ?_⟩
      · simp [putF, putD, hn]
      · simp [putD, hn]; simpa using hl
      · simp only [putD, if_pos hn]; exact Dens.cons hv h3
    · obtain ⟨ws, e1, e2, e3⟩ := putD_ok (f := f) hv (ns := ns) (ds := ds) (vs := r) (by simpa using hl) h3
      refine ⟨u :: ws, ?_, ?_, ?_⟩
      · simp only [List.zip_cons_cons, putF, putD, if_neg hn, e1]
      · simp only [putD, if_neg hn, List.length_cons, e2]
      · simp only [putD, if_neg hn]; exact Dens.cons h2 e3
/-- self.f = e -/
theorem r_fld {j k : Nat} {f : Str} {C : Addr} {ns : List Str} {ds : List D} (hc : Cls K C) (hn : NoAttr K C f) (hj : ρ[j]? = some (some (.l k))) (hk : M[k]? = some (.ins C ns ds)) (hl : ns.length < 1000) (h : EvP K te ρ M fun s => ∃ d, s = .v d ∧ nx ρ (M.set k (.ins C (putD f d ns ds).1 (putD f d ns ds).2))) :
    RunD K e (sFld K (tVar j) te f) ρ M nx rt bk ct := fun X σ α F H g ok =>
  h σ α F H g.env g.sta _ fun v F1 H1 s m1 S1 o1 ⟨d, e1, q1⟩ => by
    subst e1
    obtain ⟨u, h1, p, hp, rfl⟩ := g.env.at' j _ hj
    obtain ⟨hF1, dx, vs, hvs, hlen, hd1⟩ := S1.ob k _ p hk hp
    obtain ⟨ws, w1, w2, w3⟩ := putD_ok (f := f) (d := d) (v := v) o1 hlen hd1
    refine ⟨_, h1, p.1, C, dx, _, rfl, hvs, hc, hn, by rw [List.length_zip]; omega, ?_⟩
    obtain ⟨m2, S2⟩ := S1.write (m' := .ins C (putD f d ns ds).1 (putD f d ns ds).2) (o := .ins C dx (putF f v (ns.zip vs))) hp hF1 ⟨hF1, dx, ws, by rw [w1]; exact upd_same, w2, w3⟩
    exact ok.nx _ _ F1 _ _ _ ⟨g.env.mono m1.ex, S2, (g.st.move m1).move m2⟩ m1.ex q1
end
end DL

/-! DL9: chains of comparisons, constants, further built-ins. -/
namespace DL
open PySem L2
section
variable {K : PySem.W.Frag} {e : Ent} {ρ : Rho} {M : List MO} {Q : Sl → Prop} {R : Bool → Prop} {te ta tb tc : TE} {x y : Sl} {nx bk ct : Rho → List MO → Prop} {rt : Sl → List MO → Prop}
theorem ev_chain {r r' : R2} (h : EvP K ta ρ M fun x => EvP K tb ρ M fun y => EvR K r M x y fun z => ∃ k, z = .v (.bl k) ∧ if k = true then EvP K tc ρ M (fun w => EvR K r' M y w Q) else Q (.v (.bl false))) : EvP K (tChain r r' ta tb tc) ρ M Q := fun σ α F H en S k kk =>
  h σ α F H en S _ fun u F1 H1 x m1 S1 o1 q1 => q1 σ α F1 H1 (en.mono m1.ex) S1 _ fun v F2 H2 y m2 S2 o2 q2 =>
    q2 α F2 H2 u v S2 (o1.mono m2.ex) o2 _ fun z F3 H3 s m3 S3 o3 ⟨b, e1, q3⟩ => by
      subst e1
      have o3 : z = .bl b := o3
      subst o3
      refine ⟨b, rfl, ?_⟩
      cases b with
      | true =>
        have q3 : EvP K tc ρ M (fun w => EvR K r' M y w Q) := q3
        refine iteT ?_
        exact q3 σ α F3 H3 (en.mono ((m1.trans m2).trans m3).ex) S3 _ fun w F4 H4 s4 m4 S4 o4 q4 =>
          q4 α F4 H4 v w S4 (o2.mono (m3.trans m4).ex) o4 k fun z F5 H5 s5 m5 S5 o5 q5 => kk z F5 H5 s5 ((((m1.trans m2).trans m3).trans m4).trans m5) S5 o5 q5
      | false =>
        refine iteF ?_
        exact kk _ F3 H3 _ ((m1.trans m2).trans m3) S3 raw_ok q3
end
/-- a tuple of the module's top -/
structure CTup (K : PySem.W.Frag) (mg : Str → Option Value) (x : Str) (vs : List V) : Prop where
  ex : ∃ a o its n, mg x = some (.ref a) ∧ K.lookup a = some o ∧ o.cls = .type "tuple" ∧ o.data = .seq its n ∧ its.size ≤ sizeLine ∧ Vals vs its.toList
def tCT (K : PySem.W.Frag) (vs : List V) : TE := fun _ H Q => ∀ a, (∀ F, SqT K F a vs) → Q (.ref a) H
theorem CTup.pe {X : Cx} {K : PySem.W.Frag} {x : Str} {vs : List V} {pos : Pos} (c : CTup K X.mg x vs) (hg : Gl X x) (hd : (x == ("__debug__" : Str)) = false := by decide) (hK : X.K = K := by rfl) : PE X (.Name x pos) (tCT K vs) := by
  subst hK
  obtain ⟨a, o, its, n, h, rest⟩ := c.ex
  exact ⟨fun _ _ _ H _ I q => ld_glob I hg h ⟨.ref a, H, I, rfl, q a fun F => .inr ⟨o, its, n, rest⟩⟩ hd⟩
section
variable {K : PySem.W.Frag} {ρ : Rho} {M : List MO} {Q : Sl → Prop}
theorem ev_ct {vs : List V} (q : Q (.v (.tup (vs.map D.raw)))) : EvP K (tCT K vs) ρ M Q := fun σ α F H en S k kk a h =>
  kk (.ref a) F H _ .refl S (den_ok (d := .tup (vs.map D.raw)) ⟨a, vs, rfl, h F, Dens.raws⟩) q
end
theorem pe_isiT {X : Cx} {K : PySem.W.Frag} {e e2 : Expr} {t : TA} {p pos : Pos} (b : X.mg "isinstance" = none) (hg : Gl X "isinstance") (ha : PA X [e, e2] t) (he : starEach [e, e2] X.env = (false, eval e X.env) :: starEach [e2] X.env := by rfl) (hpl : (backTo pos (starEach [e2] X.env)).any (·.1) = false := by rfl) (hK : X.K = K := by rfl) : PE X (.Call (.Name "isinstance" p) [e, e2] [] pos) (tCB (rIsiT K) t) := by
  subst hK
  exact pe_callB call_isiT hg b PyProof.Rows.boot_isinstance ha (by decide) (by decide) he hpl
structure InitAt (K : PySem.W.Frag) (C : Addr) (qual : Str) (st : Stmt) (ps : List Str) : Prop where
  ex : ∃ f fd, Mk K C f ∧ Fun K "__init__" qual st f fd ∧ Binds K fd ps []
/-- things of a built-in kind -/
inductive Tame : D → Prop
  | non : Tame .non
  | bl (b : Bool) : Tame (.bl b)
  | int (i : Int) : Tame (.int i)
  | str (s : Str) : Tame (.str s)
  | tup (ds : List D) : Tame (.tup ds)
  | lst (ds : List D) : Tame (.lst ds)
  | dic (ks : List Key) (ds : List D) : Tame (.dic ks ds)
def D.tyn : D → String
  | .raw .non => "NoneType"
  | .raw (.bl _) => "bool"
  | .raw (.int _) => "int"
  | .raw (.str _) => "str"
  | .tup _ => "tuple"
  | .lst _ => "list"
  | .dic _ _ => "dict"
  | _ => ""
theorem Tame.kind {K : PySem.W.Frag} {d : D} (t : Tame d) : Kind K d (.type d.tyn) := by
  cases t with
  | non => exact .non
  | bl b => exact .bl b
  | int b => exact .int b
  | str b => exact .str b
  | tup b => exact .tup b
  | lst b => exact .lst b
  | dic a b => exact .dic a b
def isIntD : D → Bool
  | .raw (.int _) => true
  | .raw (.bl _) => true
  | _ => false
def isBoolD : D → Bool
  | .raw (.bl _) => true
  | _ => false
def isTupD : D → Bool
  | .tup _ => true
  | _ => false
def isLstD : D → Bool
  | .lst _ => true
  | _ => false
def isStrD : D → Bool
  | .raw (.str _) => true
  | _ => false
section
variable {K : PySem.W.Frag} {M : List MO} {Q : Sl → Prop}
theorem kb_int {d : D} (t : Tame d) : PySem.W.kitOne K (.type d.tyn) (.type "int") = some (isIntD d) := by
  cases t with
  | non => exact kit_ty (show kitB "NoneType" "int" = some false by decide +kernel)
  | bl b => exact kit_ty (show kitB "bool" "int" = some true by decide +kernel)
  | int b => exact kit_ty (show kitB "int" "int" = some true by decide +kernel)
  | str b => exact kit_ty (show kitB "str" "int" = some false by decide +kernel)
  | tup b => exact kit_ty (show kitB "tuple" "int" = some false by decide +kernel)
  | lst b => exact kit_ty (show kitB "list" "int" = some false by decide +kernel)
  | dic p b => exact kit_ty (show kitB "dict" "int" = some false by decide +kernel)
theorem kb_bool {d : D} (t : Tame d) : PySem.W.kitOne K (.type d.tyn) (.type "bool") = some (isBoolD d) := by
  cases t with
  | non => exact kit_ty (show kitB "NoneType" "bool" = some false by decide +kernel)
  | bl b => exact kit_ty (show kitB "bool" "bool" = some true by decide +kernel)
  | int b => exact kit_ty (show kitB "int" "bool" = some false by decide +kernel)
  | str b => exact kit_ty (show kitB "str" "bool" = some false by decide +kernel)
  | tup b => exact kit_ty (show kitB "tuple" "bool" = some false by decide +kernel)
  | lst b => exact kit_ty (show kitB "list" "bool" = some false by decide +kernel)
  | dic p b => exact kit_ty (show kitB "dict" "bool" = some false by decide +kernel)
theorem kb_tup {d : D} (t : Tame d) : PySem.W.kitOne K (.type d.tyn) (.type "tuple") = some (isTupD d) := by
  cases t with
  | non => exact kit_ty (show kitB "NoneType" "tuple" = some false by decide +kernel)
  | bl b => exact kit_ty (show kitB "bool" "tuple" = some false by decide +kernel)
  | int b => exact kit_ty (show kitB "int" "tuple" = some false by decide +kernel)
  | str b => exact kit_ty (show kitB "str" "tuple" = some false by decide +kernel)
  | tup b => exact kit_ty (show kitB "tuple" "tuple" = some true by decide +kernel)
  | lst b => exact kit_ty (show kitB "list" "tuple" = some false by decide +kernel)
  | dic p b => exact kit_ty (show kitB "dict" "tuple" = some false by decide +kernel)
theorem kb_lst {d : D} (t : Tame d) : PySem.W.kitOne K (.type d.tyn) (.type "list") = some (isLstD d) := by
  cases t with
  | non => exact kit_ty (show kitB "NoneType" "list" = some false by decide +kernel)
  | bl b => exact kit_ty (show kitB "bool" "list" = some false by decide +kernel)
  | int b => exact kit_ty (show kitB "int" "list" = some false by decide +kernel)
  | str b => exact kit_ty (show kitB "str" "list" = some false by decide +kernel)
  | tup b => exact kit_ty (show kitB "tuple" "list" = some false by decide +kernel)
  | lst b => exact kit_ty (show kitB "list" "list" = some true by decide +kernel)
  | dic p b => exact kit_ty (show kitB "dict" "list" = some false by decide +kernel)
theorem kb_str {d : D} (t : Tame d) : PySem.W.kitOne K (.type d.tyn) (.type "str") = some (isStrD d) := by
  cases t with
  | non => exact kit_ty (show kitB "NoneType" "str" = some false by decide +kernel)
  | bl b => exact kit_ty (show kitB "bool" "str" = some false by decide +kernel)
  | int b => exact kit_ty (show kitB "int" "str" = some false by decide +kernel)
  | str b => exact kit_ty (show kitB "str" "str" = some true by decide +kernel)
  | tup b => exact kit_ty (show kitB "tuple" "str" = some false by decide +kernel)
  | lst b => exact kit_ty (show kitB "list" "str" = some false by decide +kernel)
  | dic p b => exact kit_ty (show kitB "dict" "str" = some false by decide +kernel)
/-- isinstance(x, (T1, T2)), the tuple written there -/
theorem ev_isiT {ρ : Rho} {ta : TE} {tc : TA} (h : EvP K ta ρ M fun s => EvA K tc ρ M fun ss => ∃ (d : D) (T1 T2 : String), s = .v d ∧ ss = [.v (.raw (.ty T1)), .v (.raw (.ty T2))] ∧ Tame d ∧ ∃ b1 b2, PySem.W.kitOne K (.type d.tyn) (.type T1) = some b1 ∧ PySem.W.kitOne K (.type d.tyn) (.type T2) = some b2 ∧ Q (.v (.bl (b1 || b2)))) :
    EvP K (tCB (rIsiT K) (tCons ta (tCons (tTup tc) tNil))) ρ M Q := fun σ α F H en S k kk =>
  h σ α F H en S _ fun u F1 H1 x m1 S1 o1 q1 => q1 σ α F1 H1 (en.mono m1.ex) S1 _ fun vs F2 H2 ss m2 S2 o2 ⟨d, T1, T2, e1, e2, tm, b1, b2, k1, k2, q⟩ => by
    subst e1; subst e2
    have e3 := sls2 o2
    subst e3
    refine ⟨by show 2 ≤ sizeLine; decide, fun p hp => ?_⟩
    obtain ⟨m3, S3⟩ := S2.laid (o := .tup [.ty T1, .ty T2]) hp
    have m12 := (m1.trans m2).trans m3
    refine ⟨u, p, [.ty T1, .ty T2], .type d.tyn, [.type T1, .type T2], b1 || b2, rfl, upd_same, .cons (.ty T1) (.cons (.ty T2) .nil), tm.kind.ty S3 (o1.mono (m2.trans m3).ex), ?_, kk _ _ _ _ m12 S3 raw_ok q⟩
    refine kitAny_cons k1 (fun e => ?_) (fun e => by rw [e]; rfl)
    rw [e, Bool.false_or]
    refine kitAny_cons k2 (fun e => ?_) (fun e => e)
    rw [e]; exact kitAny_nil
theorem ei_int {d : D} (q : Tame d ∧ Q (.v (.bl (isIntD d)))) : EvC K (rIsi K) M [.v d, .v (.raw (.ty "int"))] Q := ec_isi q.1.kind (kb_int q.1) q.2
theorem ei_bool {d : D} (q : Tame d ∧ Q (.v (.bl (isBoolD d)))) : EvC K (rIsi K) M [.v d, .v (.raw (.ty "bool"))] Q := ec_isi q.1.kind (kb_bool q.1) q.2
theorem ei_tuple {d : D} (q : Tame d ∧ Q (.v (.bl (isTupD d)))) : EvC K (rIsi K) M [.v d, .v (.raw (.ty "tuple"))] Q := ec_isi q.1.kind (kb_tup q.1) q.2
theorem ei_lst {d : D} (q : Tame d ∧ Q (.v (.bl (isLstD d)))) : EvC K (rIsi K) M [.v d, .v (.raw (.ty "list"))] Q := ec_isi q.1.kind (kb_lst q.1) q.2
theorem ei_str {d : D} (q : Tame d ∧ Q (.v (.bl (isStrD d)))) : EvC K (rIsi K) M [.v d, .v (.raw (.ty "str"))] Q := ec_isi q.1.kind (kb_str q.1) q.2
end
end DL

/-! DL10: expressions that make things that are to change; several targets; dicts. -/
namespace DL
open PySem L2
section
variable {K : PySem.W.Frag} {e : Ent} {ρ : Rho} {M : List MO} {te ta tb : TE} {nx bk ct : Rho → List MO → Prop} {rt : Sl → List MO → Prop}
def EvN (K : PySem.W.Frag) (e : Ent) (te : TE) (ρ : Rho) (M : List MO) (Q : Sl → List MO → Prop) : Prop := ∀ (σ : L2.St) (α : Al) (F H : Hp), Good K e α F H σ ρ M → ∀ k : VK,
  (∀ v α' F' H' s M', Good K e α' F' H' σ ρ M' → Same F F' → (∃ β, α' = α ++ β) → SlOk K α' F' s v → Q s M' → k v H') → te σ H k
def EvNA (K : PySem.W.Frag) (e : Ent) (ta : TA) (ρ : Rho) (M : List MO) (Q : List Sl → List MO → Prop) : Prop := ∀ (σ : L2.St) (α : Al) (F H : Hp), Good K e α F H σ ρ M → ∀ k : List V → Hp → Prop,
  (∀ vs α' F' H' ss M', Good K e α' F' H' σ ρ M' → Same F F' → (∃ β, α' = α ++ β) → SlsOk K α' F' ss vs → Q ss M' → k vs H') → ta σ H k
theorem en_ev {Q : Sl → List MO → Prop} (h : EvP K te ρ M fun s => Q s M) : EvN K e te ρ M Q := fun σ α F H g k kk =>
  h σ α F H g.env g.sta k fun v F1 H1 s m1 S1 o1 q1 => kk v α F1 H1 s M (g.move m1 S1) m1.ex ⟨[], by simp⟩ o1 q1
theorem en_newL {ta : TA} {Q : Sl → List MO → Prop} (h : EvA K ta ρ M fun ss => ∃ ds : List D, ss = ds.map Sl.v ∧ ds.length ≤ 16777216 ∧ Q (.l M.length) (M ++ [.lst ds])) : EvN K e (tLst ta) ρ M Q := fun σ α F H g k kk =>
  h σ α F H g.env g.sta _ fun vs F1 H1 ss m1 S1 o1 ⟨ds, e1, hl, q1⟩ => by
    subst e1
    have hd := o1.dens
    refine ⟨by rw [← hd.length, sizeLine_eq]; exact hl, fun p hp => ?_⟩
    have S2 := S1.more (m' := .lst ds) (o := .lst vs) hp ⟨S1.sub.free hp, vs, upd_same, hd⟩
    exact kk _ _ F1 _ _ _ ⟨(g.env.mono m1.ex).more, S2, (g.st.move m1).more hp⟩ m1.ex ⟨_, rfl⟩ (loc_ok (p := (p, p)) (sta_len S1)) q1
theorem SlsOk.more {α β : Al} {F : Hp} : ∀ {ss : List Sl} {vs : List V}, SlsOk K α F ss vs → SlsOk K (α ++ β) F ss vs
  | [], _, h => h
  | s :: ss, _, ⟨v, r, h1, h2, h3⟩ => ⟨v, r, h1, h2.more, SlsOk.more h3⟩
theorem ena_nil {Q : List Sl → List MO → Prop} (q : Q [] M) : EvNA K e tNil ρ M Q := fun σ α F H g k kk => kk [] α F H [] M g (.refl F) ⟨[], by simp⟩ rfl q
theorem ena_cons {tr : TA} {Q : List Sl → List MO → Prop} (h : EvN K e ta ρ M fun s M' => EvNA K e tr ρ M' fun ss M2 => Q (s :: ss) M2) : EvNA K e (tCons ta tr) ρ M Q := fun σ α F H g k kk =>
  h σ α F H g _ fun v α1 F1 H1 s M1 g1 x1 ⟨β1, b1⟩ o1 q1 => q1 σ α1 F1 H1 g1 _ fun vs α2 F2 H2 ss M2 g2 x2 ⟨β2, b2⟩ o2 q2 => by
    subst b1; subst b2
    exact kk (v :: vs) _ F2 H2 (s :: ss) M2 g2 (x1.trans x2) ⟨β1 ++ β2, by rw [List.append_assoc]⟩ ⟨v, vs, rfl, (o1.mono x2).more, o2⟩ q2
theorem r_asgN {i : Nat} (h : EvN K e te ρ M fun s M' => nx (ρ.set i (some s)) M') : RunD K e (tAsg te (gName i)) ρ M nx rt bk ct := fun X σ α F H g ok =>
  h σ α F H g _ fun v α1 F1 H1 s M1 g1 x1 _ o1 q1 => ok.nx _ α1 F1 H1 _ M1 ⟨g1.env.set i o1, g1.sta, g1.st⟩ x1 q1
theorem r_parN {i j : Nat} {ta : TA} (h : EvNA K e ta ρ M fun ss M' => ∃ a b, ss = [a, b] ∧ nx ((ρ.set i (some a)).set j (some b)) M') : RunD K e (tPar i j ta) ρ M nx rt bk ct := fun X σ α F H g ok =>
  h σ α F H g _ fun vs α1 F1 H1 ss M1 g1 x1 _ o1 ⟨a, b, e1, q1⟩ => by
    subst e1
    obtain ⟨v, r, rfl, hv, r2⟩ := o1
    obtain ⟨w, rfl, hw⟩ := sls1s r2
    exact ⟨v, w, rfl, ok.nx _ α1 F1 H1 _ M1 ⟨(g1.env.set i hv).set j hw, g1.sta, g1.st⟩ x1 q1⟩
/-- a tuple of slots unpacked into names -/
def EvGn (g : TGs) (ss : List Sl) (ρ : Rho) (R : Rho → Prop) (K : PySem.W.Frag) : Prop := ∀ (σ : L2.St) (α : Al) (F H : Hp) (vs : List V), EnvOk K α F σ ρ → SlsOk K α F ss vs → ∀ k : L2.St → Hp → Prop, (∀ σ' ρ', EnvOk K α F σ' ρ' → R ρ' → k σ' H) → g vs σ H k
/-! ### dicts -/
def kdGet (ks : List Key) (ds : List D) (k : Key) : Option D := ((ks.zip ds).find? fun p => decide (p.1 = k)).map (·.2)
def kdPut (ks : List Key) (ds : List D) (k : Key) (d : D) : List Key × List D := if (ks.any fun j => decide (j = k)) = true then (ks, (ks.zip ds).map fun p => if p.1 = k then d else p.2) else (ks ++ [k], ds ++ [d])
/-- which dict a slot tells -/
inductive RdD (M : List MO) : Sl → List Key → List D → Prop
  | v {ks : List Key} {ds : List D} : RdD M (.v (.dic ks ds)) ks ds
  | l {k : Nat} {ks : List Key} {ds : List D} : M[k]? = some (.dic ks ds) → RdD M (.l k) ks ds
  | z {k : Nat} {d : Addr} {od : Obj} {kvs : List (Key × V)} {ks : List Key} {ds : List D} : M[k]? = some (.frz d od kvs ks ds) → RdD M (.l k) ks ds
theorem RdD.get {α : Al} {F H : Hp} {s : Sl} {ks : List Key} {ds : List D} {u : V} (h : RdD M s ks ds) (S : Sta K α M F H) (o : SlOk K α F s u) : ∃ a vs, u = .ref a ∧ Rd H a (.dK (ks.zip vs)) ∧ ks.length = vs.length ∧ Dens K F ds vs := by
  cases h with
  | v =>
    obtain ⟨a, vs, h1, h2, h3⟩ := o
    exact ⟨a, vs, h1, .inl (S.sub _ _ h2), h3⟩
  | l hk =>
    obtain ⟨p, hp, rfl⟩ := o
    obtain ⟨_, vs, h1, h2⟩ := S.ob _ _ p hk hp
    exact ⟨p.1, vs, rfl, .inl h1, h2⟩
  | z hk =>
    obtain ⟨p, hp, rfl⟩ := o
    obtain ⟨_, _, h1, vs, e, h2⟩ := S.ob _ _ p hk hp
    subst e
    exact ⟨p.1, vs, rfl, .inr ⟨_, h1⟩, h2⟩
variable {Q : Sl → Prop}
end
end DL

/-! DL11: the end of a row. -/
namespace DL
open PySem L2
theorem walk_ofX {l : PySem.W.OpenLaw} {n k : Nat} {q : Program} {loose : List Str} {XP : (Str → Option Value) → Heap → Prop} {YP : World → Heap → Prop} {d : DefRec} {K : Params → PySem.W.Frag} {x : Str} {sp : PySem.W.Frag → Sp}
    (hn : l.most = some n) (hn2 : n ≤ sizeLine) (hdf : d.params.defaults = []) (hr : Room k callerA) (hY : ∀ (w : World) (h : Heap), YP w h → (K w.params).In h)
    (F : ∀ (w : World) (mg : Str → Option Value) (fa : Addr) (h : Heap), (K w.params).In h → h.Ns mainGlobals mg → XP mg h → mg d.name = some (.ref fa) →
      ∃ fd : FuncData, (∀ (s : Shared) (u : Value), BindsTo s fd ⟨[u], []⟩ [(x, u)]) ∧
        ∀ base : Heap, (K w.params).In base → base.Ns mainGlobals mg → FnOk l.prog w (K w.params) mg base CX0 k fa fd [x] (sp (K w.params)))
    (hsp : ∀ (K : PySem.W.Frag) (H : Hp) (a : Addr) (ns : List Int), ns.length ≤ n → SqL K H a (ns.map V.int) → sp K [.ref a] H (fun v _ => v = .bl true) fun _ _ _ => False) :
    PySem.W.WalkO q loose XP YP l.row.toRowW d [] (fun f vs => PySem.call f vs) := by
  refine Att.attach_call hn hdf fun w s₀ s₁ mg mb fa o pm cd doc a vs ns G Y ho hd hcd hmg hobj hints hlen hg => ?_
  have KX := hY w _ Y
  obtain ⟨fd, hb, hF⟩ := F w mg fa _ KX G.T.g G.X hmg
  exact law_call KX G.T.g G.T.b G.T.builtins G.T.nolimit hg hobj hints (Nat.le_trans hlen hn2) hr hF hb (fun H hO hS => hsp (K w.params) H a ns hlen hS) fun _ _ _ z => z
/-- the law's promise -/
abbrev SpLaw (K : PySem.W.Frag) : Sp := SpP K (fun cells : List Int => [.rd (D.ints cells)]) (fun cells => cells.length ≤ 63) (fun _ d => d = .bl true)
theorem spLaw_of {K : PySem.W.Frag} {H : Hp} {a : Addr} {ns : List Int} (h : ns.length ≤ 63) (s : SqL K H a (ns.map V.int)) : SpLaw K [.ref a] H (fun v _ => v = .bl true) fun _ _ _ => False := by
  refine ⟨ns, [], H, ⟨_, [], rfl, ⟨a, ns.map V.int, rfl, s, ?_⟩, rfl⟩, sta_nil (.refl H), h, fun v F' H' d M' _ _ o e => ?_⟩
  · have e : D.ints ns = (ns.map V.int).map D.raw := by simp [D.ints, Function.comp_def]
    rw [e]; exact Dens.raws
  · subst e; exact o
theorem loose_int {p : Program} {lv : List (Str × PySem.W.WData)} {mg : Str → Option Value} {h : Heap} {x : Str} {i : Int} (X : PySem.W.XL p lv mg h) (m : (x, PySem.W.WData.int i) ∈ lv) : CInt mg x i := by
  obtain ⟨v, h1, h2⟩ := X.2.val _ m
  cases h2
  exact ⟨_, h1⟩
theorem cint_mk {K : PySem.W.Frag} {mg : Str → Option Value} {h : Heap} {x : Str} {i : Int} {t : Tok} (X : K.In h) (G : h.Ns mainGlobals mg) (a : PySem.W.nsIn K mainGlobals x = some (some (.int i t))) : CInt mg x i :=
  ⟨⟨t, PySem.W.mg_of X G a⟩⟩
theorem def_k {K : PySem.W.Frag} {mg : Str → Option Value} {R : Prop} {x : Str} {st : Stmt} {ps : List Str} {h : Heap} {f : Addr} {oc : Value} {od an : Option Addr} {osl : Array (Option Value)} {kV doc pm cdv ct : Value} (X : K.In h) (G : h.Ns mainGlobals mg)
    (a : PySem.W.nsIn K mainGlobals x = some (some (.ref f))) (l : K.lookup f = some ⟨oc, od, .func (PySem.W.fnOf x x (defArgs st) (defBody st) (defScope st) .none kV doc pm an cdv ct), osl⟩)
    (c : PySem.W.codeIn K cdv x = true) (k : PySem.W.keepIn K (.ref f) = true)
    (b : ∀ (kV doc pm : Value) (an : Option Addr) (cdv ct : Value) (us : List Value), us.length = ps.length → bindArgs (PySem.W.fnOf x x (defArgs st) (defBody st) (defScope st) .none kV doc pm an cdv ct) ⟨us, []⟩ = pure (ps.zip us)) (z : DefAt K mg x st ps → R) : R :=
  z (def_mk X G a l c k b)
end DL

/-! DL12: enumerate and zip over lists and tuples in any mix. -/
namespace DL
open PySem L2 PyProof.Rows
/-- a list or a tuple -/
def SqB (K : PySem.W.Frag) (H : Hp) : Bool → Addr → List V → Prop
  | true, a, xs => SqT K H a xs
  | false, a, xs => SqL K H a xs
def ItB (h : Heap) : Bool → Addr → Addr → Nat → Prop
  | true, it, a, i => h.IsTupleIter it a i
  | false, it, a, i => h.IsListIter it a i
def IsB (h : Heap) : Bool → Addr → Array Value → Prop
  | true, a, its => h.IsTuple a its
  | false, a, its => h.IsList a its
def itO : Bool → Addr → Obj
  | true, a => { cls := .type "tuple_iterator", data := .fields #[.ref a, .int 0 0] }
  | false, a => { cls := .type "list_iterator", data := .fields #[.ref a, .int 0 0] }
section
variable {prog : Program} {w : World} {A : Around}
theorem draws_b (hh : A.handled = none) (it a : Addr) (hne : a ≠ it) (b : Bool) (items : Array Value) : Draws prog w A it [it, a] items.size (fun i v => items[i]? = some v) (fun i h => ItB h b it a i ∧ IsB h b a items) := by
  cases b with
  | true => exact Draws.tuple hh it a hne items
  | false => exact Draws.list hh it a hne items
theorem begins_b (b : Bool) (a : Addr) (items : Array Value) : Begins (.ref a) (itO b a) (fun h => IsB h b a items) := by
  cases b with
  | true => exact begins_tuple a items
  | false => exact begins_list a items
theorem itB_new {h : Heap} {b : Bool} {it a : Addr} (e : h.get? it = some (itO b a)) : ItB h b it a 0 := by
  cases b with
  | true => exact ⟨_, e, rfl, rfl⟩
  | false => exact ⟨_, e, rfl, rfl⟩
theorem ItB.at {h h' : Heap} {b : Bool} {it a : Addr} {i : Nat} (x : ItB h b it a i) (k : ∀ o, h.get? it = some o → h'.get? it = some o) : ItB h' b it a i := by
  cases b with
  | true => exact Heap.IsTupleIter.at x k
  | false => exact Heap.IsListIter.at x k
theorem ItB.obj {h : Heap} {b : Bool} {it a : Addr} {i : Nat} (x : ItB h b it a i) : ∃ o, h.get? it = some o ∧ ∀ v, o.data ≠ .cell v := by
  cases b with
  | true =>
    obtain ⟨o, e, _, d⟩ := x
    exact ⟨o, e, fun v q => by rw [d] at q; cases q⟩
  | false =>
    obtain ⟨o, e, _, d⟩ := x
    exact ⟨o, e, fun v q => by rw [d] at q; cases q⟩
variable {X : Cx} {pins : List (Addr × Obj)} {σ : L2.St} {H : Hp} {s : Shared} {b : Bool} {a : Addr} {xs ys : List V}
theorem inv_b (I : Inv X pins σ H s) (h : SqB X.K H b a xs) : ∃ its : List Value, Vals xs its ∧ IsB s.heap b a its.toArray ∧ xs.length ≤ sizeLine := by
  cases b with
  | true => exact I.tuple h
  | false =>
    obtain ⟨its, r, p, z⟩ := I.list h
    exact ⟨its, r, p.isList, z⟩
theorem inv_bj (I : Inv X pins σ H s) (h : SqB X.K H b a xs) (h' : SqB X.K H b a ys) : xs = ys := by
  cases b with
  | true => exact I.tuple_inj h h'
  | false => exact I.list_inj h h'
theorem inv_lt (I : Inv X pins σ H s) (h : SqB X.K H b a xs) : a < s.heap.objs.size := by
  obtain ⟨its, _, p, _⟩ := inv_b I h
  cases b with
  | true => obtain ⟨o, e, _⟩ := p; exact Heap.lt_size e
  | false => obtain ⟨o, e, _⟩ := p; exact Heap.lt_size e
end
/-- the sequence at a as it stands at each turn, the number from k on and the item in a new pair -/
def ItE (K : PySem.W.Frag) (k : Int) (b : Bool) (a : Addr) : It :=
  ⟨fun i H => ∃ xs x, SqB K H b a xs ∧ xs[i]? = some x,
    fun i H v H' => ∃ T x, v = .ref T ∧ H T = none ∧ H' = upd H T (.tup [.int (k + (i : Int)), x]) ∧ ∀ ys, SqB K H b a ys → ys[i]? = some x,
    fun i H => ∃ xs : List V, SqB K H b a xs ∧ xs.length = i⟩
theorem turn_enumB {P : Program} {w : World} {K : PySem.W.Frag} {elts : List Expr} {kk : Nat} {tpos : Pos} (k : Int) (b : Bool) (a e it : Addr) (hei : e ≠ it) (hea : e ≠ a) (hai : a ≠ it) :
    Turn P w K (.Tuple elts kk tpos) (ItE K k b a) [e, it] e (fun i h => (∃ old, IsEnum h e it (k + (i : Int)) old) ∧ ItB h b it a i) where
  mem := by simp
  obj := fun i h st c hc => by
    obtain ⟨⟨old, he⟩, hit⟩ := st
    have e' : c = e ∨ c = it := by simpa using hc
    rcases e' with z | z
    · rw [z]; exact ⟨_, he, fun v q => nomatch q⟩
    · rw [z]; exact hit.obj
  keep := fun i h h' st q => by
    obtain ⟨⟨old, he⟩, hit⟩ := st
    exact ⟨⟨old, q e (by simp) _ he⟩, hit.at fun o z => q it (by simp) o z⟩
  item := by
    intro X hP hw hK hc i pins s σ H E I hf st hg
    subst hP hw hK
    obtain ⟨⟨old, he⟩, hit⟩ := st
    obtain ⟨xs, x, hq, hx⟩ := hg
    obtain ⟨its, rv, p, hz⟩ := inv_b I hq
    obtain ⟨u, hu, ru⟩ := rv.get hx
    have hil : i < its.toArray.size := by
      have := (List.getElem?_eq_some_iff.mp hu).1
      simpa using this
    have hel : e < s.heap.objs.size := Heap.lt_size he
    have hil2 : it < s.heap.objs.size := by obtain ⟨o, q, _⟩ := hit.obj; exact Heap.lt_size q
    refine (GoesN.enumFrom (P := fun j v => its.toArray[j]? = some v) k (draws_b (A := X.A.in1) (I.ok.hd hc) it a hai b its.toArray) e hei (by simp [hei, hea]) (by simp)).goes i s
      (fun u s2 => ∃ x H', Inv X pins σ H' s2 ∧ RelV x u ∧ (ItE X.K k b a).yld i H x H' ∧ ((∃ old, IsEnum s2.heap e it (k + ((i + 1 : Nat) : Int)) old) ∧ ItB s2.heap b it a (i + 1)) ∧ ∀ c ∈ [e, it], H' c = none) E hil ⟨⟨old, he⟩, hit, p⟩ ?_
    rintro v h' tk ⟨T, t, y, rfl, hT, hy, hIs⟩ ⟨he', hit', _⟩ hkeep htk
    have hyu : y = u := by
      have : its.toArray[i]? = some u := by simpa using hu
      rw [this] at hy; cases hy; rfl
    subst hyu
    have new : ObjOk X.prog X.w (upd H T (.tup [.int (k + (i : Int)), x])) h' T (.tup [.int (k + (i : Int)), x]) :=
      ⟨by show 2 ≤ sizeLine; decide, [.int (k + (i : Int)) t, y], .cons ⟨_, rfl⟩ (.cons ru .nil), hIs⟩
    have I1 : Inv X pins σ (upd H T (.tup [.int (k + (i : Int)), x])) { s with heap := h', toks := tk } := I.turnedNew (t' := tk) (ch := [e, it]) hkeep hf hT new
    refine ⟨.ref T, _, I1, rfl, ⟨T, x, rfl, I.hok.fresh hT, rfl, fun ys hys => by rw [inv_bj I hys hq]; exact hx⟩, ⟨he', hit'⟩, fun c hcm => ?_⟩
    have hlt : c < s.heap.objs.size := by
      have e' : c = e ∨ c = it := by simpa using hcm
      rcases e' with z | z
      · rw [z]; exact hel
      · rw [z]; exact hil2
    rw [upd_ne (Nat.ne_of_lt (Nat.lt_of_lt_of_le hlt hT))]
    exact (hf c hcm).1
  done := by
    intro X hP hw hK hc i pins s σ H E I hf st hg
    subst hP hw hK
    obtain ⟨⟨old, he⟩, hit⟩ := st
    obtain ⟨xs, hq, hx⟩ := hg
    obtain ⟨its, rv, p, hz⟩ := inv_b I hq
    have hl := rv.length
    have hn : its.toArray.size = i := by simp; omega
    subst hn
    exact (GoesN.enumFrom (P := fun j v => its.toArray[j]? = some v) (elts := elts) (x1 := kk) (pos := tpos) k (draws_b (A := X.A.in1) (I.ok.hd hc) it a hai b its.toArray) e hei (by simp [hei, hea]) (by simp)).stops s
      (fun s1 => Inv X pins σ H s1) E ⟨⟨old, he⟩, hit, p⟩ fun h' tk hkeep htk => I.turnedL (t' := tk) (ch := [e, it]) hkeep hf
  self := fun A i s Q E st h => let ⟨⟨_, he⟩, _⟩ := st; wpAny_pyIter_enum he h
def iEnB2 (K : PySem.W.Frag) (ta : TA) : TI := fun σ H R => ta σ H fun vs H1 => ∃ b a xs k, vs = [.ref a, .int k] ∧ -(2 ^ 63) ≤ k ∧ k < 2 ^ 63 ∧ SqB K H1 b a xs ∧ R (ItE K k b a) H1
def iEnB (K : PySem.W.Frag) (ta : TA) : TI := fun σ H R => ta σ H fun vs H1 => ∃ b a xs, vs = [.ref a] ∧ SqB K H1 b a xs ∧ R (ItE K 0 b a) H1
set_option maxHeartbeats 1000000 in
theorem meets_enum1 {v : Value} {o : Obj} {H : Heap → Prop} (B : Begins v o H) :
    Meets (Builtin.«enumerate.__new__» ⟨[.type "enumerate", v], []⟩) (fun _ R s => H s.heap ∧
      R (.ok (.ret (.ref (s.heap.push o).objs.size))) { s with heap := (s.heap.push o).push { cls := .type "enumerate", data := .fields #[.none, .bool false, .ref s.heap.objs.size, rawInt 0, .none, .none] } }) :=
  .of_wp fun prog w A R s h => by
    obtain ⟨hp, g, d, tk, os⟩ := s; obtain ⟨h1, h⟩ := h
    have hsub := sub_enumerate
    have q1 : ∀ {A' : Around} {E : Value → Shared → Prop} {Q : Value → Shared → Prop}, Q (.ref hp.objs.size) ⟨hp.push o, g, d, tk, os⟩ → wpAny (model prog w) A' (pyIter v) Q E ⟨hp, g, d, tk, os⟩ :=
      fun q => B.iter prog w _ _ ⟨hp, g, d, tk, os⟩ _ h1 q
    wp_walk using q1
    refine wpAny_stack_any fun st => wpAny_pure ?_
    split
    · rename_i c _ _ _ _ _
      cases (c == Value.type "enumerate")
      · wp_walk using q1
        exact ⟨_, rfl, h⟩
      · wp_walk using q1
        exact ⟨_, rfl, h⟩
    · wp_walk using q1
      exact ⟨_, rfl, h⟩
section
variable {prog : Program} {w : World} {A : Around} {E : Value → Shared → Prop} {s : Shared}
theorem enum_begins1 {v : Value} {o : Obj} {H : Heap → Prop} {Q : Value → Shared → Prop} (B : Begins v o H) (h1 : H s.heap)
    (h : ∀ h', IsEnum h' (s.heap.objs.size + 1) s.heap.objs.size 0 .none → h'.get? s.heap.objs.size = some o → h'.objs.size = s.heap.objs.size + 2 →
      (∀ b o, s.heap.get? b = some o → h'.get? b = some o) → Q (.ref (s.heap.objs.size + 1)) { s with heap := h' }) :
    wpAny (model prog w) A (call (.type "enumerate") [v]) Q E s := by
  refine callType_new F.called_enumerate (by decide) (F.typeCall_enumerate_1 _) (F.newCall_enumerate_1 _) (fun obj => F.args_object_init_2 obj _) F.entry_enumerate_new (meets_enum1 B) ⟨h1, ?_⟩
  have hz : (s.heap.push o).objs.size = s.heap.objs.size + 1 := Heap.size_push ..
  show _ ∧ _
  rw [hz]
  have he : IsEnum ((s.heap.push o).push { cls := .type "enumerate", data := .fields #[.none, .bool false, .ref s.heap.objs.size, rawInt 0, .none, .none] }) (s.heap.objs.size + 1) s.heap.objs.size 0 .none := by
    have := Heap.get?_push_size (s.heap.push o) (o := { cls := .type "enumerate", data := .fields #[.none, .bool false, .ref s.heap.objs.size, rawInt 0, .none, .none] }) rfl
    rw [hz] at this; exact this
  refine ⟨⟨_, he, rfl⟩, h _ he (Heap.get?_push_of_some _ (Heap.get?_push_size _ B.free)) (by rw [Heap.size_push, hz]) fun b o x => Heap.get?_push_of_some _ (Heap.get?_push_of_some _ x)⟩
end
section
variable {X : Cx} {e e2 : Expr} {ta : TA} {p pos tpos : Pos} {elts : List Expr} {kk : Nat}
theorem pi_enB {K : PySem.W.Frag} (hg : Gl X "enumerate") (hm : X.mg "enumerate" = none) (ha : PA X [e] ta) (hs : starEach [e] X.env = [(false, eval e X.env)] := by rfl) (hK : X.K = K := by rfl) :
    PI X (.Tuple elts kk tpos) (.Call (.Name "enumerate" p) [e] [] pos) (iEnB K ta) := by
  subst hK
  refine ⟨fun pins s σ H R I h => ?_⟩
  refine Call_ (ld_blt I hg hm boot_enumerate (PyProof.Rows.callWith_type1 (thn (ha.run pos pins s σ H _ I h) fun us s1 ⟨vs, H1, I1, r1, q1⟩ => ?_) hs rfl))
  obtain ⟨b, a, xs, ex, hq, q⟩ := q1
  subst ex
  cases r1 with
  | cons r rr =>
    cases rr
    cases r
    obtain ⟨its, rv, p', hz⟩ := inv_b I1 hq
    have hal := inv_lt I1 hq
    refine enum_begins1 (begins_b b a its.toArray) p' fun h' he hit hsz hk => wpAny_pyIter_enum he ?_
    have I2 : Inv X pins σ H1 { s1 with heap := h' } := I1.kept (t' := s1.toks) hk
    have n1 : (s1.heap.objs.size + 1 : Nat) ≠ s1.heap.objs.size := Nat.succ_ne_self _
    have n2 : (s1.heap.objs.size + 1 : Nat) ≠ a := by
      have : (a : Nat) < s1.heap.objs.size := hal
      exact Nat.ne_of_gt (Nat.lt_succ_of_lt this)
    refine ⟨s1.heap.objs.size + 1, [s1.heap.objs.size + 1, s1.heap.objs.size], _, _, H1, rfl, I2, turn_enumB 0 b a (s1.heap.objs.size + 1) s1.heap.objs.size n1 n2 (Nat.ne_of_lt hal), ⟨⟨.none, he⟩, itB_new hit⟩, fun c hb => ?_, q⟩
    have e' : c = s1.heap.objs.size + 1 ∨ c = s1.heap.objs.size := by simpa using hb
    have hle : s1.heap.objs.size ≤ c := by
      rcases e' with z | z
      · rw [z]; exact Nat.le_add_right _ _
      · rw [z]; exact Nat.le_refl _
    exact I1.fpOk hle (I1.hok.fresh hle)
theorem pi_enB2 {K : PySem.W.Frag} (hg : Gl X "enumerate") (hm : X.mg "enumerate" = none) (ha : PA X [e, e2] ta) (hs : starEach [e, e2] X.env = (false, eval e X.env) :: starEach [e2] X.env := by rfl) (hpl : (backTo pos (starEach [e2] X.env)).any (·.1) = false := by rfl) (hK : X.K = K := by rfl) :
    PI X (.Tuple elts kk tpos) (.Call (.Name "enumerate" p) [e, e2] [] pos) (iEnB2 K ta) := by
  subst hK
  refine ⟨fun pins s σ H R I h => ?_⟩
  refine Call_ (ld_blt I hg hm boot_enumerate (PyProof.Rows.callWith_type1 (thn (ha.run pos pins s σ H _ I h) fun us s1 ⟨vs, H1, I1, r1, q1⟩ => ?_) hs hpl))
  obtain ⟨b, a, xs, k, ex, k0, k1, hq, q⟩ := q1
  subst ex
  cases r1 with
  | cons r rr =>
  cases rr with
  | cons r' rr =>
    cases rr
    cases r
    obtain ⟨t, rfl⟩ := r'
    obtain ⟨its, rv, p', hz⟩ := inv_b I1 hq
    have hal := inv_lt I1 hq
    refine enum_begins (begins_b b a its.toArray) p' k0 k1 fun h' he hit hsz hk => wpAny_pyIter_enum he ?_
    have I2 : Inv X pins σ H1 { s1 with heap := h' } := I1.kept (t' := s1.toks) hk
    have n1 : (s1.heap.objs.size + 1 : Nat) ≠ s1.heap.objs.size := Nat.succ_ne_self _
    have n2 : (s1.heap.objs.size + 1 : Nat) ≠ a := by
      have : (a : Nat) < s1.heap.objs.size := hal
      exact Nat.ne_of_gt (Nat.lt_succ_of_lt this)
    refine ⟨s1.heap.objs.size + 1, [s1.heap.objs.size + 1, s1.heap.objs.size], _, _, H1, rfl, I2, turn_enumB k b a (s1.heap.objs.size + 1) s1.heap.objs.size n1 n2 (Nat.ne_of_lt hal), ⟨⟨.none, by rw [show k + ((0 : Nat) : Int) = k by simp]; exact he⟩, itB_new hit⟩, fun c hb => ?_, q⟩
    have e' : c = s1.heap.objs.size + 1 ∨ c = s1.heap.objs.size := by simpa using hb
    have hle : s1.heap.objs.size ≤ c := by
      rcases e' with z | z
      · rw [z]; exact Nat.le_add_right _ _
      · rw [z]; exact Nat.le_refl _
    exact I1.fpOk hle (I1.hok.fresh hle)
end
/-! zip of two, of three -/
def ItZ2 (K : PySem.W.Frag) (b1 : Bool) (a1 : Addr) (b2 : Bool) (a2 : Addr) : It :=
  ⟨fun i H => ∃ (xs ys : List V) (x y : V), SqB K H b1 a1 xs ∧ SqB K H b2 a2 ys ∧ xs[i]? = some x ∧ ys[i]? = some y,
    fun i H v H' => ∃ T x y, v = .ref T ∧ H T = none ∧ H' = upd H T (.tup [x, y]) ∧ (∀ xs, SqB K H b1 a1 xs → xs[i]? = some x) ∧ ∀ ys, SqB K H b2 a2 ys → ys[i]? = some y,
    fun i H => ∃ xs ys : List V, SqB K H b1 a1 xs ∧ SqB K H b2 a2 ys ∧ min xs.length ys.length = i⟩
def ItZ3 (K : PySem.W.Frag) (b1 : Bool) (a1 : Addr) (b2 : Bool) (a2 : Addr) (b3 : Bool) (a3 : Addr) : It :=
  ⟨fun i H => ∃ (xs ys zs : List V) (x y z : V), SqB K H b1 a1 xs ∧ SqB K H b2 a2 ys ∧ SqB K H b3 a3 zs ∧ xs[i]? = some x ∧ ys[i]? = some y ∧ zs[i]? = some z,
    fun i H v H' => ∃ T x y z, v = .ref T ∧ H T = none ∧ H' = upd H T (.tup [x, y, z]) ∧ (∀ xs, SqB K H b1 a1 xs → xs[i]? = some x) ∧ (∀ ys, SqB K H b2 a2 ys → ys[i]? = some y) ∧ ∀ zs, SqB K H b3 a3 zs → zs[i]? = some z,
    fun i H => ∃ xs ys zs : List V, SqB K H b1 a1 xs ∧ SqB K H b2 a2 ys ∧ SqB K H b3 a3 zs ∧ min (min xs.length ys.length) zs.length = i⟩
def iZ2 (K : PySem.W.Frag) (ta : TA) : TI := fun σ H R => ta σ H fun vs H1 => ∃ b1 a1 b2 a2 xs ys, vs = [.ref a1, .ref a2] ∧ SqB K H1 b1 a1 xs ∧ SqB K H1 b2 a2 ys ∧ R (ItZ2 K b1 a1 b2 a2) H1
def iZ3 (K : PySem.W.Frag) (ta : TA) : TI := fun σ H R => ta σ H fun vs H1 => ∃ b1 a1 b2 a2 b3 a3 xs ys zs, vs = [.ref a1, .ref a2, .ref a3] ∧ SqB K H1 b1 a1 xs ∧ SqB K H1 b2 a2 ys ∧ SqB K H1 b3 a3 zs ∧ R (ItZ3 K b1 a1 b2 a2 b3 a3) H1
section
variable {X : Cx} {e e2 e3 : Expr} {ta : TA} {p pos tpos : Pos} {elts : List Expr} {kk : Nat}
end
/-! ### their readings -/
/-- frozen sequences -/
inductive FrS : Sl → List D → Prop
  | l {ds : List D} : FrS (.v (.lst ds)) ds
  | t {ds : List D} : FrS (.v (.tup ds)) ds
  | s {b : Bool} {ds : List D} : FrS (.v (D.seq b ds)) ds
theorem sqb_same {K : PySem.W.Frag} {F F' : Hp} {b : Bool} {a : Addr} {xs : List V} (e : Same F F') (h : SqB K F b a xs) : SqB K F' b a xs := by
  cases b with
  | true => exact sqt_same K e h
  | false => exact e.seq h
section
variable {K : PySem.W.Frag} {ρ : Rho} {M : List MO}
theorem FrS.get {α : Al} {F : Hp} {s : Sl} {ds : List D} {u : V} (h : FrS s ds) (o : SlOk K α F s u) : ∃ b a vs, u = .ref a ∧ SqB K F b a vs ∧ Dens K F ds vs := by
  have L : ∀ {u : V}, SlOk K α F (.v (.lst ds)) u → ∃ b a vs, u = .ref a ∧ SqB K F b a vs ∧ Dens K F ds vs := fun o => by
    obtain ⟨a, vs, h1, h2, h3⟩ := o
    exact ⟨false, a, vs, h1, SqL.of h2, h3⟩
  have T : ∀ {u : V}, SlOk K α F (.v (.tup ds)) u → ∃ b a vs, u = .ref a ∧ SqB K F b a vs ∧ Dens K F ds vs := fun o => by
    obtain ⟨a, vs, h1, h2, h3⟩ := o
    exact ⟨true, a, vs, h1, h2, h3⟩
  cases h with
  | l => exact L o
  | t => exact T o
  | @s b _ =>
    cases b with
    | true => exact T o
    | false => exact L o
def enumD (k : Int) (ds : List D) : List D := ds.mapIdx fun i d => .tup [.int (k + (i : Int)), d]
theorem ite_ok {F : Hp} {k : Int} {b : Bool} {a : Addr} {vs : List V} {ds : List D} (h : SqB K F b a vs) (hd : Dens K F ds vs) : ItOk K (ItE K k b a) F (enumD k ds) := fun i F1 H s1 s2 => by
  have hH := sqb_same s2 (sqb_same s1 h)
  refine ⟨fun hl => ⟨vs, hH, by rw [← hd.length]; simpa [enumD] using hl⟩, fun d e => ?_⟩
  unfold enumD at e
  rw [List.getElem?_mapIdx] at e
  cases e3 : ds[i]? with
  | none => rw [e3] at e; cases e
  | some d0 =>
    rw [e3] at e
    cases e
    obtain ⟨v, e2, r⟩ := hd.get e3
    refine ⟨⟨vs, v, hH, e2⟩, fun x H' ⟨T, y, ex, hT, eH, hy⟩ => .inr ⟨T, _, _, ex, hT, eH, rfl, ?_⟩⟩
    have := hy vs hH
    rw [e2] at this; cases this
    exact Dens.cons rfl (Dens.cons (Den.mono K s1 _ _ r) Dens.nil)
theorem ei_enB {tl : TA} {R : List D → Prop} (h : EvA K tl ρ M fun ss => ∃ s ds, ss = [s] ∧ FrS s ds ∧ R (enumD 0 ds)) : EvI K (iEnB K tl) ρ M R := fun σ α F H en S k kk =>
  h σ α F H en S _ fun vs F1 H1 ss m1 S1 o1 ⟨s, ds, e1, hr, q⟩ => by
    subst e1
    obtain ⟨v, r, rfl, hv, r2⟩ := o1
    have r2 : r = [] := r2
    subst r2
    obtain ⟨b, a, us, rfl, h1, h2⟩ := hr.get hv
    exact ⟨b, a, us, rfl, sqb_same S1.sub h1, kk _ F1 H1 _ m1 S1 (ite_ok h1 h2) q⟩
theorem ei_enB2 {tl : TA} {R : List D → Prop} (h : EvA K tl ρ M fun ss => ∃ s j ds, ss = [s, .v (.int j)] ∧ FrS s ds ∧ (-(2 ^ 63) ≤ j ∧ j < 2 ^ 63) ∧ R (enumD j ds)) : EvI K (iEnB2 K tl) ρ M R := fun σ α F H en S k kk =>
  h σ α F H en S _ fun vs F1 H1 ss m1 S1 o1 ⟨s, j, ds, e1, hr, hj, q⟩ => by
    subst e1
    obtain ⟨v, r, rfl, hv, r2⟩ := o1
    obtain ⟨w, r', rfl, hw, r3⟩ := r2
    have r3 : r' = [] := r3
    have hw : w = .int j := hw
    subst r3; subst hw
    obtain ⟨b, a, us, rfl, h1, h2⟩ := hr.get hv
    exact ⟨b, a, us, j, rfl, hj.1, hj.2, sqb_same S1.sub h1, kk _ F1 H1 _ m1 S1 (ite_ok h1 h2) q⟩
def zip2D (ds es : List D) : List D := ds.zipWith (fun d c => .tup [d, c]) es
def zip3D : List D → List D → List D → List D
  | d :: ds, c :: cs, e :: es => .tup [d, c, e] :: zip3D ds cs es
  | _, _, _ => []
end
end DL

/-! DL13: dicts that are walked; displays; xs[i] += e; calls that hand out new things. -/
namespace DL
open PySem L2
section
variable {K : PySem.W.Frag} {e : Ent} {ρ : Rho} {M : List MO} {te ta tb : TE} {t u : TS} {Q : Sl → Prop} {nx bk ct : Rho → List MO → Prop} {rt : Sl → List MO → Prop}
/-! comprehensions over what stands in a numbered thing -/
def ItOkS (K : PySem.W.Frag) (α : Al) (M : List MO) (J : It) (F : Hp) (items : List D) : Prop := ∀ (i : Nat) (F1 H : Hp), Same F F1 → Sta K α M F1 H → (items.length = i → J.stop i H) ∧
  ∀ d, items[i]? = some d → J.go i H ∧ ∀ x H', J.yld i H x H' → H' = H ∧ Den K F1 d x
def EvIS (K : PySem.W.Frag) (wi : TI) (ρ : Rho) (M : List MO) (R : List D → Prop) : Prop := ∀ (σ : L2.St) (α : Al) (F H : Hp), EnvOk K α F σ ρ → Sta K α M F H → ∀ k : It → Hp → Prop,
  (∀ J F' H' items, Move α F H F' H' → Sta K α M F' H' → ItOkS K α M J F' items → R items → k J H') → wi σ H k
/-- xs[i] += e -/
def pgL (K : PySem.W.Frag) : V → V → Hp → VK → Prop := rIxL K
end
section
variable {X : Cx}
end
end DL

/-! DL14: the end of a row, for classes and tuples. -/
namespace DL
open PySem L2
section
variable {K : PySem.W.Frag} {mg : Str → Option Value} {R : Prop} {x f : Str} {h : Heap} {C : Addr}
theorem cls_k (X : K.In h) (G : h.Ns mainGlobals mg) (a : PySem.W.nsIn K mainGlobals x = some (some (.ref C))) (pg : PySem.W.plainGet K C Str.empty = true) (hd : PySem.W.hasDictIn K C = true) (po : PySem.W.plainOver K C = true) (sa : PySem.W.findIn K (.ref C) "__setattr__" = some (some (.builtin "object.__setattr__")))
    (ha : PySem.W.findIn K (.ref C) "__class__" = some (some (.builtin "object.__class__"))) (hn : PySem.W.specialIn K (.builtin "object.__class__") "__get__" = some (some (.builtin "getset_descriptor.__get__"))) (htk : PySem.W.takesIn K (.builtin "object.__class__") = some true) (hm : PySem.W.mroIn K C (.type "object") = some true)
    (z : mg x = some (.ref C) → ClsI K C → R) : R := z (PySem.W.mg_of X G a) ⟨⟨pg, hd, po, sa⟩, ha, hn, htk, hm⟩
theorem noattr_k (k : ClsI K C) (h : PySem.W.findIn K (.ref C) f = some none) (z : NoAttr K C f → R) : R := z h
theorem init_k {qual : Str} {st : Stmt} {ps : List Str} {f : Addr} {oc : Value} {od an : Option Addr} {osl : Array (Option Value)} {kV doc pm cdv ct : Value} (cl : ClsI K C)
    (m : PySem.W.makesIn K C = true) (i : PySem.W.findIn K (.ref C) "__init__" = some (some (.ref f))) (fn : PySem.W.isFn K (.ref f) = true) (kp : PySem.W.keepIn K (.ref C) = true) (l : K.lookup f = some ⟨oc, od, .func (PySem.W.fnOf "__init__" qual (defArgs st) (defBody st) (defScope st) .none kV doc pm an cdv ct), osl⟩)
    (c : PySem.W.codeIn K cdv qual = true) (k : PySem.W.keepIn K (.ref f) = true)
    (b : ∀ (kV doc pm : Value) (an : Option Addr) (cdv ct : Value) (us : List Value), us.length = ps.length → bindArgs (PySem.W.fnOf "__init__" qual (defArgs st) (defBody st) (defScope st) .none kV doc pm an cdv ct) ⟨us, []⟩ = pure (ps.zip us)) (z : InitAt K C qual st ps → R) : R :=
  z ⟨f, _, ⟨m, i, fn, kp⟩, fun_mk l c k, (fun_mk (st := st) l c k).binds b⟩
theorem meth_k {qual : Str} {st : Stmt} {ps : List Str} {f : Addr} {oc : Value} {od an : Option Addr} {osl : Array (Option Value)} {kV doc pm cdv ct : Value} (cl : ClsI K C)
    (a : PySem.W.findIn K (.ref C) x = some (some (.ref f))) (i : PySem.W.isFn K (.ref f) = true) (l : K.lookup f = some ⟨oc, od, .func (PySem.W.fnOf x qual (defArgs st) (defBody st) (defScope st) .none kV doc pm an cdv ct), osl⟩)
    (c : PySem.W.codeIn K cdv qual = true) (k : PySem.W.keepIn K (.ref f) = true)
    (b : ∀ (kV doc pm : Value) (an : Option Addr) (cdv ct : Value) (us : List Value), us.length = ps.length → bindArgs (PySem.W.fnOf x qual (defArgs st) (defBody st) (defScope st) .none kV doc pm an cdv ct) ⟨us, []⟩ = pure (ps.zip us)) (z : MethAt K C x qual st ps → R) : R :=
  z (meth_mk a i l c k b)
theorem prop_k {qual : Str} {st : Stmt} {p g : Addr} {rest : List Value} {oc : Value} {od an : Option Addr} {osl : Array (Option Value)} {kV doc pm cdv ct : Value} {p1 p2 p3 : Pos} (cl : ClsI K C) (n : NoAttr K C f)
    (h1 : PySem.W.findIn K (.ref C) x = some (some (.ref p))) (h2 : PySem.W.specialIn K (.ref p) "__get__" = some (some (.builtin "property.__get__"))) (h3 : PySem.W.takesIn K (.ref p) = some true) (h4 : PySem.W.recIn K p "property" = some (.ref g :: rest))
    (l : K.lookup g = some ⟨oc, od, .func (PySem.W.fnOf x qual (defArgs st) (defBody st) (defScope st) .none kV doc pm an cdv ct), osl⟩) (c : PySem.W.codeIn K cdv qual = true) (k : PySem.W.keepIn K (.ref g) = true)
    (S : FnScope ["self"] ["self"] (defScope st)) (hb : defBody st = [.Return (some (.Attribute (.Name "self" p1) f p2)) p3])
    (b : ∀ (kV doc pm : Value) (an : Option Addr) (cdv ct : Value) (us : List Value), us.length = 1 → bindArgs (PySem.W.fnOf x qual (defArgs st) (defBody st) (defScope st) .none kV doc pm an cdv ct) ⟨us, []⟩ = pure ([("self" : Str)].zip us)) (z : Getter K C x f → R) : R :=
  z (prop_mk h1 h2 h3 h4 l c k S hb b cl.cl n)
theorem ctup_k {vs : List V} {o : Obj} {its : Array Value} {n : Nat} (X : K.In h) (G : h.Ns mainGlobals mg) (a : PySem.W.nsIn K mainGlobals x = some (some (.ref C))) (l : K.lookup C = some o) (c : o.cls = .type "tuple") (d : o.data = .seq its n) (s : its.size ≤ sizeLine) (r : Vals vs its.toList) (z : CTup K mg x vs → R) : R :=
  z ⟨C, o, its, n, PySem.W.mg_of X G a, l, c, d, s, r⟩
end
end DL

/-! DL15: calls that hand out a new thing that is to change. -/
namespace DL
open PySem L2
section
variable {K : PySem.W.Frag} {e : Ent} {ρ : Rho} {M : List MO} {te ta tb : TE} {t u : TS} {Q : Sl → Prop} {nx bk ct : Rho → List MO → Prop} {rt : Sl → List MO → Prop}
def SpN {ι : Type} (K : PySem.W.Frag) (args : ι → List D) (pre : ι → Prop) (post : ι → MO → Prop) : Sp := fun vs H Q _ =>
  ∃ (x : ι) (F : Hp), SlsOk K [] F ((args x).map Sl.v) vs ∧ Same F H ∧ pre x ∧ ∀ p F' H' m, Move [] F H F' H' → Sta K [p] [m] F' H' → H p.1 = none → H p.2 = none → post x m → Q (.ref p.1) H'
theorem Sta.join {α : Al} {F H : Hp} {p : Addr × Addr} {m : MO} (S : Sta K α M F H) (T : Sta K [p] [m] F H) (ap : ∀ q, q ∈ α → Apart q p) : Sta K (α ++ [p]) (M ++ [m]) F H := by
  refine ⟨S.sub, by simp [S.len], fun i mo q h1 h2 => ?_, fun i j q r hij h1 h2 => ?_, fun q hq => ?_⟩
  · by_cases hi : i < α.length
    · rw [List.getElem?_append_left (by rw [S.len]; exact hi)] at h1
      rw [List.getElem?_append_left hi] at h2
      exact S.ob i mo q h1 h2
    · have hi2 : i = α.length := by
        have := (List.getElem?_eq_some_iff.mp h2).1
        simp at this; omega
      subst hi2
      rw [← S.len, List.getElem?_append_right (Nat.le_refl _)] at h1
      rw [List.getElem?_append_right (Nat.le_refl _)] at h2
      simp at h1 h2
      subst h1; subst h2
      exact T.ob 0 m p rfl rfl
  · have hj : j < α.length ∨ j = α.length := by
      have := (List.getElem?_eq_some_iff.mp h2).1
      simp at this; omega
    have hi : i < α.length := by omega
    rw [List.getElem?_append_left hi] at h1
    rcases hj with hj | hj
    · rw [List.getElem?_append_left hj] at h2
      exact S.ap i j q r hij h1 h2
    · subst hj
      rw [List.getElem?_append_right (Nat.le_refl _)] at h2
      simp at h2
      subst h2
      exact ap q (List.mem_of_getElem? h1)
  · rcases List.mem_append.mp hq with z | z
    · exact S.tr q z
    · exact T.tr q z
end
section
variable {P : Program} {w : World} {K : PySem.W.Frag} {mg : Str → Option Value} {base : Heap}
end
end DL

/-! DL16: sets of numbers by a list: sorted(set(xs)), len(set(xs)). -/
namespace DL
open PySem L2 PyProof.Rows
abbrev setO (w : World) : Obj := { cls := .type "set", dict := none, data := .set #[] 0 (.fresh 0 0 (!w.params.followText "set-order")) }
abbrev litO (l : Addr) : Obj := { cls := .type "list_iterator", data := .fields #[.ref l, .int 0 0] }
section
variable {P : Program} {w : World} {A : Around} {E : Value → Shared → Prop} {s : Shared}
end
/-- members without repeats -/
def Mems (ns ms : List Int) : Prop := ms.Nodup ∧ ∀ k, k ∈ ms ↔ k ∈ ns
def tSortSet (K : PySem.W.Frag) (ta : TE) : TE := fun σ H Q => ta σ H fun x H1 => ∃ (l : Addr) (ns : List Int), x = V.ref l ∧ SqL K H1 l (ns.map V.int) ∧ ns.length ≤ 4000 ∧ (∀ ms, Mems ns ms → ms.length < 64) ∧ ∀ (ms : List Int) p, ms.Pairwise (· < ·) → (∀ k, k ∈ ms ↔ k ∈ ns) → H1 p = none → Q (.ref p) (upd H1 p (.lst (ms.map V.int)))
def tLenSet (K : PySem.W.Frag) (ta : TE) : TE := fun σ H Q => ta σ H fun x H1 => ∃ (l : Addr) (ns : List Int), x = V.ref l ∧ SqL K H1 l (ns.map V.int) ∧ ns.length ≤ 4000 ∧ ∀ ms : List Int, Mems ns ms → Q (.int ms.length) H1
section
variable {X : Cx}
end
section
variable {K : PySem.W.Frag} {e : Ent} {ρ : Rho} {M : List MO} {Q : Sl → Prop} {te ta tb : TE}
end
end DL

/-! DL17: methods; lists within objects that are being made (pinned at their addresses); xs += ys. -/
namespace DL
open PySem L2
structure MFnAt (P : Program) (w : World) (K : PySem.W.Frag) (mg : Str → Option Value) (base : Heap) (k : Nat) (C : Addr) (x : Str) (ps : List Str) (sp : Sp) : Prop where
  ex : ∃ f fd, Meth K C x f ∧ Binds K fd ps [] ∧ FnOk P w K mg base CX0 k f fd ps sp
section
variable {P : Program} {w : World} {K : PySem.W.Frag} {mg : Str → Option Value} {base : Heap}
theorem mfn_at {ι : Type} {C : Addr} {x qual : Str} {st : Stmt} {ps N : List Str} {k : Nat} {args : ι → List Sl} {Mi : ι → List MO} {pre : ι → Prop} {post : ι → D → List MO → Prop} (D0 : MethAt K C x qual st ps) (S : FnScope N ps (defScope st)) (hl : ∀ i, (args i).length = ps.length)
    (body : ∀ (f : Addr) (cdv : Value) (A : Around) (outer : List Env) (s : Shared) (H : Hp) (E : XK), Room k (A.deeper (PyProof.Rows.envOfC qual (defScope st) s.heap.objs.size f cdv)) →
      ∃ t, PSs (cxOf CX0 P w K mg base N qual (defScope st) f cdv A outer s H E).nox (defBody st) t ∧
        ∀ i e, pre i → e.α.length = (Mi i).length → RunD K e t (startR N.length (args i)) (Mi i) (fun _ M' => post i .non (M'.take (Mi i).length)) (RetOk (Mi i).length (post i)) (fun _ _ => False) (fun _ _ => False)) :
    MFnAt P w K mg base (k + 1) C x ps (SpF K args Mi pre post) := by
  obtain ⟨f, fd, F, h1, h2, hb⟩ := D0.ex
  refine ⟨f, fd, ⟨h1, h2, F.kp⟩, hb, F.ok S (fun vs H Q E h => ?_) fun cdv A outer s H vs Q E hr h => ?_⟩
  · obtain ⟨i, α, F', o, _⟩ := h
    rw [← o.length, hl]
  · obtain ⟨t, ht, hi⟩ := body f cdv A outer s H E hr
    exact ⟨t, ht, fn_run hi vs H Q E h⟩
end
section
variable {X : Cx} {C : Addr} {x : Str} {k : Nat} {ps : List Str} {sp : Sp} {o e : Expr} {es : List Expr} {ta : TE} {t : TA} {apos pos : Pos}
end
section
variable {K : PySem.W.Frag} {e : Ent} {ρ : Rho} {M : List MO} {te ta tb to ti : TE} {t u : TS} {Q : Sl → Prop} {QN : Sl → List MO → Prop} {nx bk ct : Rho → List MO → Prop} {rt : Sl → List MO → Prop}
/-! pinned lists -/
theorem pin_ob {α : Al} {F H : Hp} (S : Sta K α M F H) {k : Nat} {p : Addr} {ds : List D} (hk : M[k]? = some (.pin p ds)) : ∃ q, α[k]? = some q ∧ q.1 = p ∧ F p = none ∧ ∃ vs, H p = some (.lst vs) ∧ Dens K F ds vs := by
  obtain ⟨q, hq⟩ := sta_get S hk
  obtain ⟨h1, h2, vs, h3, h4⟩ := S.ob k _ q hk hq
  refine ⟨q, hq, h2, by rw [← h2]; exact h1, vs, by rw [← h2]; exact h3, h4⟩
/-! pinned lists that change no more -/
end
end DL

/-! DL18: comprehensions by a relation. -/
namespace DL
open PySem L2
def AllR {α β : Type} (R : α → β → Prop) : List α → List β → Prop
  | [], ys => ys = []
  | x :: xs, ys => ∃ y r, ys = y :: r ∧ R x y ∧ AllR R xs r
theorem AllR.snoc {α β : Type} {R : α → β → Prop} {x : α} {y : β} (hxy : R x y) : ∀ {xs : List α} {ys : List β}, AllR R xs ys → AllR R (xs ++ [x]) (ys ++ [y])
  | [], _, h => by
    have h : _ = [] := h
    subst h
    exact ⟨y, [], rfl, hxy, rfl⟩
  | _ :: _, _, ⟨z, r, e, h1, h2⟩ => by
    subst e
    exact ⟨z, r ++ [y], rfl, h1, h2.snoc hxy⟩
theorem AllR.len {α β : Type} {R : α → β → Prop} : ∀ {xs : List α} {ys : List β}, AllR R xs ys → ys.length = xs.length
  | [], _, h => by
    have h : _ = [] := h
    subst h; rfl
  | _ :: _, _, ⟨z, r, e, h1, h2⟩ => by
    subst e
    simp [h2.len]
section
variable {K : PySem.W.Frag} {e : Ent} {ρ : Rho} {M : List MO} {te ta tb to ti : TE} {t u : TS} {Q : Sl → Prop}
/-- o.f, o plain data -/
theorem ev_at {f : Str} (h : EvP K te ρ M fun s => ∃ C ns ds, s = .v (.ins C ns ds) ∧ Cls K C ∧ NoAttr K C f ∧ ∃ i d, (ns.findIdx? (· == f)) = some i ∧ ds[i]? = some d ∧ Q (.v d)) : EvP K (tFld K te f) ρ M Q := fun σ α F H en S k kk =>
  h σ α F H en S _ fun v F1 H1 s m1 S1 o1 ⟨C, ns, ds, e1, hc, hn, i, d, hi, hd, q⟩ => by
    subst e1
    obtain ⟨a, dx, vs, rfl, h1, h2, h3⟩ := o1
    obtain ⟨w, hw, r⟩ := h3.get hd
    exact ⟨a, C, dx, _, w, rfl, S1.sub _ _ h1, hc, hn, lookup_zip hi hw, kk w F1 H1 _ m1 S1 (den_ok r) q⟩
end
end DL

/-! DL19: for k in a call that lays a dict of its own; t < u of nested tuples. -/
namespace DL
open PySem L2
section
variable {X : Cx} {tg e : Expr} {td : TE}
/-- the dict is new, and no one else's: locked from here on -/
def iKeysN (td : TE) : TI := fun σ H R => td σ H fun x H1 => ∃ d kvs, x = .ref d ∧ H1 d = some (.dK kvs) ∧ ∀ od, R (Itk d od kvs) (upd H1 d (.frz od (.dK kvs)))
end
section
variable {K : PySem.W.Frag} {e : Ent} {ρ : Rho} {M : List MO} {te ta tb : TE} {t u : TS} {Q : Sl → Prop} {nx bk ct : Rho → List MO → Prop} {rt : Sl → List MO → Prop}
end
/-! ### t < u -/
def rLtD (K : PySem.W.Frag) : R2 := fun x y H Q => ∃ d e, Dp K H x d ∧ Dp K H y e ∧ PySem.W.alike d e = true ∧ d ≠ .none ∧ d.depth ≤ 64 ∧ Q (.bl (PySem.W.dataLt d e)) H
/-! ### max(t) of a tuple of numbers -/
def rMaxT (K : PySem.W.Frag) : List V → Hp → VK → Prop := fun vs H Q => ∃ (a : Addr) (n : Int) (ns : List Int), vs = [V.ref a] ∧ SqT K H a ((n :: ns).map V.int) ∧ Q (.int (ns.foldl max n)) H
theorem dp_ints {K : PySem.W.Frag} {H : Hp} : ∀ ns : List Int, DpAll K H (ns.map V.int) (ns.map PyData.int)
  | [] => .nil
  | n :: ns => .cons (.int n) (dp_ints ns)
theorem depth_ints : ∀ ns : List Int, PyData.depthAll (ns.map PyData.int) = 0
  | [] => by simp [PyData.depthAll]
  | n :: ns => by simp [PyData.depthAll, PyData.depth, depth_ints ns]
theorem cr_maxT {X : Cx} (hc : X.calm = true) (hu : X.A.units + 64 < cLine) : CallR X (.builtin "max") (rMaxT X.K) := by
  intro pins s σ H vs us Q I r h
  obtain ⟨a, n, ns, rfl, hs, q⟩ := h
  obtain ⟨its, rv, ⟨o, e1, e2, e3, e4⟩, _⟩ := I.tuple hs
  rw [Vals.ref1 r]
  obtain ⟨as, rd⟩ := Dp.readsAll I _ _ _ (dp_ints (K := X.K) (H := H) (n :: ns)) rv
  have dz := depth_ints (n :: ns)
  refine PySem.W.max_tuple_data (I.ok.hd hc) ⟨o, e1, e2, e3, e4⟩ (x := .int n) (xs := ns.map PyData.int) (as := as) rd ⟨fun x hx y hy => ?_, fun x hx => ?_⟩ (by
    have : PyData.depthAll (PyData.int n :: ns.map PyData.int) = 0 := dz
    omega) fun i v h' tk bs hv hr hk => ?_
  · obtain ⟨p, _, rfl⟩ := List.mem_map.mp (show x ∈ (n :: ns).map PyData.int from hx)
    obtain ⟨p', _, rfl⟩ := List.mem_map.mp (show y ∈ (n :: ns).map PyData.int from hy)
    simp [PySem.W.alike]
  · obtain ⟨p, _, rfl⟩ := List.mem_map.mp (show x ∈ (n :: ns).map PyData.int from hx)
    exact fun z => by cases z
  · rw [PySem.W.maxD_ints] at hr
    cases hr with
    | int t => exact ⟨.int _, H, I.kept hk, ⟨_, rfl⟩, q⟩
section
variable {X : Cx} {e : Expr} {t : TA} {p pos : Pos}
theorem pe_maxT {K : PySem.W.Frag} (hu : X.A.units + 64 < cLine) (b : X.mg "max" = none) (hc : X.calm = true) (hg : Gl X "max") (ha : PA X [e] t) (he : starEach [e] X.env = (false, eval e X.env) :: starEach [] X.env := by rfl) (hpl : (backTo pos (starEach [] X.env)).any (·.1) = false := by rfl) (hK : X.K = K := by rfl) : PE X (.Call (.Name "max" p) [e] [] pos) (tCB (rMaxT K) t) := by
  subst hK
  exact pe_callB (cr_maxT hc hu) hg b (by decide +kernel) ha (by decide) (by decide) he hpl
end
theorem ec_maxT {K : PySem.W.Frag} {M : List MO} {Q : Sl → Prop} {n : Int} {ns : List Int} (q : Q (.v (.int (ns.foldl max n)))) : EvC K (rMaxT K) M [.v (.tup (D.ints (n :: ns)))] Q := fun α F H us S o k kk => by
  obtain ⟨u, rfl, o1⟩ := sls1s o
  obtain ⟨a, vs, rfl, e1, d1⟩ := o1
  have e2 := d1.ofInts
  subst e2
  exact ⟨a, n, ns, rfl, sqt_same K S.sub e1, kk _ F H _ .refl S raw_ok q⟩
/-! ### [f for x in xs for y in ys] -/
section
variable {K : PySem.W.Frag} {e : Ent} {ρ : Rho} {M : List MO} {te ta tb : TE} {t u : TS} {Q : Sl → Prop}
end
end DL

/-! DL20: a, b, c = a list. -/
namespace DL
open PySem L2
section
variable {K : PySem.W.Frag} {ρ : Rho}
theorem relab {env : Env} : ∀ {names : List (Str × NameKind)} {x : Str}, (names.lookup x = some .cell ∨ names.lookup x = some .free) →
    (names.map fun (n, k) => if (k == NameKind.free && env.scope.kind == .function && env.kindOf n == some .cell) then (n, NameKind.cell) else (n, k)).lookup x = some .cell ∨
    (names.map fun (n, k) => if (k == NameKind.free && env.scope.kind == .function && env.kindOf n == some .cell) then (n, NameKind.cell) else (n, k)).lookup x = some .free
  | [], _, h => by simp at h
  | (n, k) :: r, x, h => by
    simp only [List.map_cons]
    by_cases e : x = n
    · subst e
      have hk : k = .cell ∨ k = .free := by
        have e1 : ((x, k) :: r).lookup x = some k := by simp [List.lookup]
        rw [e1] at h
        rcases h with h | h <;> cases h
        · exact .inl rfl
        · exact .inr rfl
      split
      · exact .inl (by simp [List.lookup])
      · rcases hk with rfl | rfl
        · exact .inl (by simp [List.lookup])
        · exact .inr (by simp [List.lookup])
    · have e0 : (x == n) = false := by simpa using e
      have e1 : ∀ k : NameKind, ∀ l : List (Str × NameKind), ((n, k) :: l).lookup x = l.lookup x := fun k l => by simp [List.lookup, e0]
      rw [e1] at h
      have ih := relab (env := env) h
      split
      · rw [e1]; exact ih
      · rw [e1]; exact ih
/-- a comprehension within a comprehension -/
theorem blkOk_in {X : Cx} {N : List Str} {scope0 scope : Scope} {own : List (Str × Nat)} {s : Shared} {H : Hp} {cl : List (Str × Addr)} {C : Addr} {fp : List Addr} {e : Env} (h : blkC N scope0 scope own = true) (hN : X.N = N := by rfl) :
    BlkOk (X.blk s H scope0 (compEnvC scope0 cl C e) fp).N (X.blk s H scope0 (compEnvC scope0 cl C e) fp).env.scope scope own := by
  subst hN
  have b : BlkOk X.N scope0 scope own := blkOk_by h
  exact ⟨b.kind, b.uniq, b.ix, fun y hy e => relab (b.free y hy e), b.own⟩
end
end DL

/-! DL21: min of a tuple. -/
namespace DL
open PySem L2
/-! ### min(t) of a tuple of numbers -/
def rMinT (K : PySem.W.Frag) : List V → Hp → VK → Prop := fun vs H Q => ∃ (a : Addr) (n : Int) (ns : List Int), vs = [V.ref a] ∧ SqT K H a ((n :: ns).map V.int) ∧ Q (.int (ns.foldl min n)) H
theorem cr_minT {X : Cx} (hc : X.calm = true) (hu : X.A.units + 64 < cLine) : CallR X (.builtin "min") (rMinT X.K) := by
  intro pins s σ H vs us Q I r h
  obtain ⟨a, n, ns, rfl, hs, q⟩ := h
  obtain ⟨its, rv, ⟨o, e1, e2, e3, e4⟩, _⟩ := I.tuple hs
  rw [Vals.ref1 r]
  obtain ⟨as, rd⟩ := Dp.readsAll I _ _ _ (dp_ints (K := X.K) (H := H) (n :: ns)) rv
  have dz := depth_ints (n :: ns)
  refine PySem.W.min_tuple_data (I.ok.hd hc) ⟨o, e1, e2, e3, e4⟩ (x := .int n) (xs := ns.map PyData.int) (as := as) rd ⟨fun x hx y hy => ?_, fun x hx => ?_⟩ (by
    have : PyData.depthAll (PyData.int n :: ns.map PyData.int) = 0 := dz
    omega) fun i v h' tk bs hv hr hk => ?_
  · obtain ⟨p, _, rfl⟩ := List.mem_map.mp (show x ∈ (n :: ns).map PyData.int from hx)
    obtain ⟨p', _, rfl⟩ := List.mem_map.mp (show y ∈ (n :: ns).map PyData.int from hy)
    simp [PySem.W.alike]
  · obtain ⟨p, _, rfl⟩ := List.mem_map.mp (show x ∈ (n :: ns).map PyData.int from hx)
    exact fun z => by cases z
  · rw [PySem.W.minD_ints] at hr
    cases hr with
    | int t => exact ⟨.int _, H, I.kept hk, ⟨_, rfl⟩, q⟩
section
variable {X : Cx} {e : Expr} {t : TA} {p pos : Pos}
theorem pe_minT {K : PySem.W.Frag} (hu : X.A.units + 64 < cLine) (b : X.mg "min" = none) (hc : X.calm = true) (hg : Gl X "min") (ha : PA X [e] t) (he : starEach [e] X.env = (false, eval e X.env) :: starEach [] X.env := by rfl) (hpl : (backTo pos (starEach [] X.env)).any (·.1) = false := by rfl) (hK : X.K = K := by rfl) : PE X (.Call (.Name "min" p) [e] [] pos) (tCB (rMinT K) t) := by
  subst hK
  exact pe_callB (cr_minT hc hu) hg b (by decide +kernel) ha (by decide) (by decide) he hpl
end
theorem ec_minT {K : PySem.W.Frag} {M : List MO} {Q : Sl → Prop} {n : Int} {ns : List Int} (q : Q (.v (.int (ns.foldl min n)))) : EvC K (rMinT K) M [.v (.tup (D.ints (n :: ns)))] Q := fun α F H us S o k kk => by
  obtain ⟨u, rfl, o1⟩ := sls1s o
  obtain ⟨a, vs, rfl, e1, d1⟩ := o1
  have e2 := d1.ofInts
  subst e2
  exact ⟨a, n, ns, rfl, sqt_same K S.sub e1, kk _ F H _ .refl S raw_ok q⟩
end DL

namespace DL
open PySem L2
/-! ### xs.insert(i, x) -/
section
variable {K : PySem.W.Frag} {e : Ent} {ρ : Rho} {M : List MO} {nx bk ct : Rho → List MO → Prop} {rt : Sl → List MO → Prop}
def rInsert : V → List V → Hp → VK → Prop := fun x vs H Q => ∃ (l : Addr) (xs : List V) (i : Int) (y : V), x = .ref l ∧ vs = [.int i, y] ∧ H l = some (.lst xs) ∧ xs.length < sizeLine ∧ 0 ≤ i ∧ i < 2 ^ 63 ∧ Q .non (upd H l (.lst (xs.take i.toNat ++ [y] ++ xs.drop i.toNat)))
theorem r_ins {i k : Nat} {ds : List D} {ta : TA} (hi : ρ[i]? = some (some (.l k))) (hk : M[k]? = some (.lst ds)) (h : EvA K ta ρ M fun ss => ∃ (j : Nat) (d : D), ss = [.v (.int (j : Int)), .v d] ∧ j < 16777216 ∧ ds.length < 16777216 ∧ nx ρ (M.set k (.lst (ds.take j ++ [d] ++ ds.drop j)))) :
    RunD K e (tDrop (tBM K "list" rInsert (tVar i) ta)) ρ M nx rt bk ct := fun X σ α F H g ok => by
  obtain ⟨v, h1, p, hp, rfl⟩ := g.env.at' i _ hi
  obtain ⟨hF, vs, hvs, _⟩ := g.sta.ob k _ p hk hp
  refine ⟨_, h1, .inl ⟨rfl, vs, SqL.of hvs⟩, h σ α F H g.env g.sta _ fun us F1 H1 ss m1 S1 o1 ⟨j, d, e1, hj, hl, q1⟩ => ?_⟩
  subst e1
  obtain ⟨u1, r1, rfl, a1, u2, r2, rfl, a2, rfl⟩ := o1
  have a1 : u1 = .int (j : Int) := a1
  subst a1
  have a2 : Den K F1 d u2 := a2
  obtain ⟨hF1, vs1, hvs1, hd1⟩ := S1.ob k _ p hk hp
  have tn : ((j : Int)).toNat = j := Int.toNat_natCast j
  refine ⟨p.1, vs1, (j : Int), u2, rfl, rfl, hvs1, by rw [← hd1.length, sizeLine_eq]; exact hl, by omega, by omega, ?_⟩
  rw [tn]
  obtain ⟨m2, S2⟩ := S1.write (m' := .lst (ds.take j ++ [d] ++ ds.drop j)) (o := .lst (vs1.take j ++ [u2] ++ vs1.drop j)) hp hF1 ⟨hF1, _, upd_same, ((hd1.take j).append (Dens.cons a2 Dens.nil)).append (hd1.drop j)⟩
  exact ok.nx _ _ F1 _ _ _ ⟨(g.env.mono m1.ex), S2, (g.st.move m1).move m2⟩ m1.ex q1
theorem x_ins {i : Nat} {ta : TA} (h : ∃ k ds, ρ[i]? = some (some (.l k)) ∧ M[k]? = some (.lst ds) ∧ EvA K ta ρ M fun ss => ∃ (j : Nat) (d : D), ss = [.v (.int (j : Int)), .v d] ∧ j < 16777216 ∧ ds.length < 16777216 ∧ nx ρ (M.set k (.lst (ds.take j ++ [d] ++ ds.drop j)))) :
    RunD K e (tDrop (tBM K "list" rInsert (tVar i) ta)) ρ M nx rt bk ct := let ⟨_, _, a, b, c⟩ := h; r_ins a b c
end
end DL

/-! DL23: a comprehension that makes a list that is to change. -/
namespace DL
open PySem L2
section
variable {K : PySem.W.Frag} {e : Ent} {ρ : Rho} {M : List MO} {te ta tb : TE} {nx bk ct : Rho → List MO → Prop} {rt : Sl → List MO → Prop}
end
end DL

/-! DL24: own errors: raised, let through, caught; over plain data. -/
namespace DL
open PySem L2
section
variable {K : PySem.W.Frag} {e : Ent} {ρ : Rho} {M : List MO} {te ta tb : TE} {t u : TS} {Q : Sl → Prop} {nx bk ct : Rho → List MO → Prop} {rt : Sl → List MO → Prop}
/-- an error as it leaves: its class at C; with one field, its dict is a thing of its own -/
def ErrAt (M1 : List MO) (C : Addr) (pl : Option (List (Str × V))) (cls : Value) (d : Option Addr) : Prop := cls = .ref C ∧ match pl with
  | none => d = none ∧ M1 = []
  | some q => ∃ dd, d = some dd ∧ M1 = [.ho dd (.xd q)]
def XOk (K : PySem.W.Frag) (e : Ent) (xr : Addr → Option (List (Str × V)) → Rho → List MO → Prop) (W : WX) : Prop := ∀ σ α F H ρ M M1 C pl cls d, Good K e α F H σ ρ (M ++ M1) → ErrAt M1 C pl cls d → xr C pl ρ M → W cls d σ H
/-- an expression that may raise -/
def EvX (K : PySem.W.Frag) (e : Ent) (te : TE) (ρ : Rho) (M : List MO) (Q : Sl → Prop) : Prop := ∀ σ α F H, Good K e α F H σ ρ M → ∀ k : VK, (∀ v F' H' s, Move α F H F' H' → Sta K α M F' H' → SlOk K α F' s v → Q s → k v H') → te σ H k
theorem EvP.x (h : EvP K te ρ M Q) : EvX K e te ρ M Q := fun σ α F H g k kk => h σ α F H g.env g.sta k kk
theorem EvX.mono {Q' : Sl → Prop} (h : EvX K e te ρ M Q) (q : ∀ s, Q s → Q' s) : EvX K e te ρ M Q' := fun σ α F H g k kk => h σ α F H g k fun v F' H' s a b c d => kk v F' H' s a b c (q s d)
/-- plain data in; plain data out, or an error -/
def SpX {ι : Type} (K : PySem.W.Frag) (args : ι → List D) (pre : ι → Prop) (post : ι → D → Prop) (bad : ι → Addr → Option (List (Str × V)) → Prop) : Sp := fun vs H Q E =>
  ∃ (x : ι) (F : Hp), SlsOk K [] F ((args x).map Sl.v) vs ∧ Same F H ∧ pre x ∧ (∀ v F' H' d M', Move [] F H F' H' → Sta K [] M' F' H' → Den K F' d v → post x d → Q v H') ∧
    ∀ C pl cls d α F' H' M1, Move [] F H F' H' → Sta K α M1 F' H' → (∀ p, p ∈ α → H p.1 = none ∧ H p.2 = none) → ErrAt M1 C pl cls d → bad x C pl → E cls d H'
theorem StepE.trans {α α' : Al} {F H F' H' : Hp} (s : StepE e α F H) (t : StepE ⟨α, F, H⟩ α' F' H') : StepE e α' F' H' := by
  obtain ⟨β, e1, hβ⟩ := s.pre
  obtain ⟨β', e2, hβ'⟩ := t.pre
  have e2 : α' = α ++ β' := e2
  refine ⟨s.ex.trans t.ex, fun b o h k => t.fr b o (s.fr b o h k) fun p hp => ?_, fun b h => t.tr b (s.tr b h), fun b h => ?_, ⟨β ++ β', by rw [e2, e1, List.append_assoc], fun p hp => ?_⟩⟩
  · have hp : p ∈ α := hp
    rw [e1] at hp
    rcases List.mem_append.mp hp with q | q
    · exact k p q
    · have := hβ p q
      exact ⟨fun z => by { rw [z, this.1] at h; cases h }, fun z => by { rw [z, this.2] at h; cases h }⟩
  · rcases t.new b h with q | q
    · exact s.new b q
    · exact .inr (none_back (s.tr b) q)
  · rcases List.mem_append.mp hp with q | q
    · exact hβ p q
    · have := hβ' p q
      exact ⟨none_back (s.tr _) this.1, none_back (s.tr _) this.2⟩
section
variable {ι : Type} {args : ι → List D} {pre : ι → Prop} {post : ι → D → Prop} {bad : ι → Addr → Option (List (Str × V)) → Prop} {xr : Addr → Option (List (Str × V)) → Rho → List MO → Prop} {W : WX}
/-- a call of a value: which function it is the reading tells -/
def tCallV (ok : V → Sp → Prop) (E : L2.St → XK) (tf : TE) (t : TA) : TE := fun σ H Q => tf σ H fun v H1 => ∃ sp, ok v sp ∧ t σ H1 fun vs H2 => sp vs H2 Q (E σ)
/-! raise -/
def tRaise0 (C : Addr) (W : WX) : TS := fun _ σ H => W (.ref C) none σ H
def tRaiseF (C : Addr) (f : Str) (te : TE) (W : WX) : TS := fun _ σ H => te σ H fun v H1 => ∀ dd, H1 dd = none → W (.ref C) (some dd) σ (upd H1 dd (.xd [(f, v)]))
/-! try -/
theorem EndsOk.sub {α : Al} {F H B : Hp} {E : EndsD} {X : Ends} (ok : EndsOk K e B E X) (s : StepE e α F H) : EndsOk K ⟨α, F, H⟩ B E X :=
  ⟨fun σ α F H ρ M g z q => ok.nx σ α F H ρ M ⟨g.env, g.sta, s.trans g.st⟩ z q, fun v t α F H M a b c z q => ok.rt v t α F H M a b (s.trans c) z q,
   fun σ α F H ρ M g z q => ok.bk σ α F H ρ M ⟨g.env, g.sta, s.trans g.st⟩ z q, fun σ α F H ρ M g z q => ok.ct σ α F H ρ M ⟨g.env, g.sta, s.trans g.st⟩ z q⟩
end
end
section
variable {P : Program} {w : World} {K : PySem.W.Frag} {mg : Str → Option Value} {base : Heap}
theorem FnAt.mono {CX : CXT} {j k : Nat} {x : Str} {ps : List Str} {sp : Sp} (F : FnAt P w K mg base CX j x ps sp) (h : j ≤ k) : FnAt P w K mg base CX k x ps sp :=
  let ⟨f, fd, a, b, c, d⟩ := F
  ⟨f, fd, a, b, c, d.mono h⟩
end
end DL

/-! DL25: own errors: the statements' rules, what the top says of their classes. -/
namespace DL
open PySem L2
/-- an error's class -/
structure ECls (K : PySem.W.Frag) (mg : Str → Option Value) (x : Str) (C : Addr) : Prop where
  m : mg x = some (.ref C)
  ex : ExcC K C
  ty : PySem.W.typeIn K (.ref C) = some (.type "type")
  kp : PySem.W.keepIn K (.ref C) = true
abbrev veB : List Value := [.type "ValueError", .type "Exception", .type "BaseException", .type "object"]
/-- .. without an __init__ of its own -/
def Bare (K : PySem.W.Frag) (C : Addr) : Prop := PySem.W.excIn K C veB "ValueError.__new__" = true
structure SubIs (K : PySem.W.Frag) (C C2 : Addr) (b : Bool) : Prop where
  s : PySem.W.subIn K (.ref C) (.ref C2) = some b
  r : C = C2 → b = true
section
variable {K : PySem.W.Frag} {mg : Str → Option Value} {R : Prop} {x y : Str} {h : Heap} {C C2 : Addr} {b : Bool}
theorem kit_of (E2 : ECls K mg y C2) (u : SubIs K C C2 b) : PySem.W.kitOne K (.ref C) (.ref C2) = some b := by
  unfold PySem.W.kitOne
  by_cases e : C = C2
  · rw [if_pos (by rw [e]; exact beq_self_eq_true _), u.r e]
  · rw [if_neg (fun z => e (Value.ref.inj (beq_iff_eq.mp z)))]
    obtain ⟨cd, hc, _⟩ := PySem.W.any_some E2.ex.hd
    have e2 : ((PySem.W.clsIn K C2).isSome && PySem.W.typeIn K (.ref C2) == some (.type "type")) = true := by rw [hc, E2.ty]; rfl
    show (if ((PySem.W.clsIn K C2).isSome && PySem.W.typeIn K (.ref C2) == some (.type "type")) = true then PySem.W.subIn K (.ref C) (.ref C2) else none) = some b
    rw [if_pos e2]
    exact u.s
end
section
variable {X : Cx} {x : Str} {C : Addr} {p p2 pos : Pos} {W : WX}
/-- a value that is a function of a promise -/
def FnV (P : Program) (w : World) (K : PySem.W.Frag) (mg : Str → Option Value) (base : Heap) (k : Nat) (v : V) (sp : Sp) : Prop :=
  ∃ f fd ps, v = .ref f ∧ PySem.W.keepIn K (.ref f) = true ∧ Binds K fd ps [] ∧ FnOk P w K mg base (L2N.CX P w) k f fd ps sp
theorem FnAt.val {P : Program} {w : World} {K : PySem.W.Frag} {mg : Str → Option Value} {base : Heap} {k : Nat} {ps : List Str} {sp : Sp} (F : FnAt P w K mg base (L2N.CX P w) k x ps sp) : ∃ f, mg x = some (.ref f) ∧ FnV P w K mg base k (.ref f) sp := by
  obtain ⟨f, fd, ⟨hm, _⟩, hk, hb, F⟩ := F
  exact ⟨f, hm, f, fd, ps, rfl, hk, binds_of hb, F⟩
end
/-! in an except's suite -/
section
variable {X : Cx} {a : Addr} {oe : Obj} {cls : Value} {d : Option Addr} {pn : List (Addr × Obj)}
def rIsX (K : PySem.W.Frag) (a : Addr) (cls : Value) (d : Option Addr) : List V → Hp → VK → Prop := fun xs H Q => ∃ (C : Addr) (c : V) (cv : Value) (b : Bool), cls = .ref C ∧ ExcC K C ∧ (∀ dd, d = some dd → ∃ fs, H dd = some (.xd fs)) ∧
  xs = [.ref a, c] ∧ (∀ u, RelV c u → u = cv) ∧ PySem.W.kitOne K (.ref C) cv = some b ∧ Q (.bl b) H
end
section
variable {K : PySem.W.Frag} {mg : Str → Option Value} {ρ : Rho} {M : List MO} {Q : Sl → Prop} {te : TE} {a C C2 : Addr} {x y : Str} {b : Bool}
/-- what a list of things knows of the error's dict -/
def HasX (M : List MO) (d : Option Addr) : Prop := ∀ dd, d = some dd → ∃ (k : Nat) (fs : List (Str × V)), M[k]? = some (.ho dd (.xd fs))
theorem ErrAt.has {M M1 : List MO} {pl : Option (List (Str × V))} {cls : Value} {d : Option Addr} (h : ErrAt M1 C pl cls d) : HasX (M ++ M1) d := fun dd e => by
  cases pl with
  | none =>
    obtain ⟨_, h2, _⟩ := h
    rw [h2] at e; cases e
  | some q =>
    obtain ⟨_, d2, h2, h3⟩ := h
    rw [h2] at e; cases e
    exact ⟨M.length, q, by rw [h3, List.getElem?_append_right (Nat.le_refl _)]; simp⟩
end
end DL

/-! DL26: a comprehension over a range in an except's suite. -/
namespace DL
open PySem PySem.Spec PyProof.Rows L2 HotX L2H
section
variable {X : Cx}
section
variable {elt tg iter : Expr} {ifs : List Expr} {scope : Scope} {own : List (Str × Nat)} {pos : Pos} {wi : TI} {g : TG} {tt : TT} {te : TE}
end
end
/-! ### try, as one word -/
section
variable {K : PySem.W.Frag} {c : Value} {i : Nat} {tb : WX → TS} {ts : Addr → Value → Option Addr → TS} {Wout : WX}
def tTry (K : PySem.W.Frag) (c : Value) (i : Nat) (tb : WX → TS) (ts : Addr → Value → Option Addr → TS) (Wout : WX) : TS := fun D σ H => tb (wAs K c i ts Wout D) D σ H
end
end DL

/-! DL27: a dict from pairs (number, bool) to True. -/
namespace DL
open PySem PySem.Spec PyProof.Rows L2
abbrev kB (r : Int) (f : Bool) : NestedKey := .tup [.num r, .num (if f = true then 1 else 0)]
abbrev XsB := List (NestedKey × Addr × Value)
/-- the dict's own object: its entries -/
def dbO (P : Program) (w : World) (d : Addr) (xs : XsB) : HO := .ext fun h => (d == sysModules) = false ∧ ∃ o es ep, h.get? d = some o ∧ o.ExactDict ∧ o.data = .dict es ep ∧ es.toList = xs.map (entryOfKey (nestedKind P w)) ∧ (xs.map (·.1)).Nodup
/-- its keys are tuples that stand -/
def KeysAt (K : PySem.W.Frag) (H : Hp) (xs : XsB) : Prop := ∀ z, z ∈ xs → ∃ (r : Int) (f : Bool), z.1 = kB r f ∧ SqT K H z.2.1 [.int r, .bl f]
theorem KeysAt.mono {K : PySem.W.Frag} {xs : XsB} (F F' : Hp) (e : Same F F') (h : KeysAt K F xs) : KeysAt K F' xs := fun z hz => let ⟨r, f, a, b⟩ := h z hz; ⟨r, f, a, sqt_same K e b⟩
section
variable {X : Cx} {pins : List (Addr × Obj)} {σ : L2.St} {H : Hp} {s : Shared} {pos : Pos}
def tDNewB (P : Program) (w : World) : TE := fun _ H Q => ∀ p, H p = none → Q (.ref p) (upd H p (dbO P w p []))
/-- (r, f) in d -/
def rInB (P : Program) (w : World) (K : PySem.W.Frag) : R2 := fun x y H Q => ∃ (b d : Addr) (xs : XsB) (r : Int) (f : Bool), x = .ref b ∧ y = .ref d ∧ H d = some (dbO P w d xs) ∧ KeysAt K H xs ∧ SqT K H b [.int r, .bl f] ∧ Q (.bl (atKey xs (kB r f)).isSome) H
/-- d[(r, f)] = True -/
def rSetB (P : Program) (w : World) (K : PySem.W.Frag) : TSet := fun o i v H Q => ∃ (d b : Addr) (xs : XsB) (r : Int) (f : Bool), o = .ref d ∧ i = .ref b ∧ v = .bl true ∧ H d = some (dbO P w d xs) ∧ KeysAt K H xs ∧ xs.length ≤ 1000 ∧ SqT K H b [.int r, .bl f] ∧
  Q (upd H d (dbO P w d (storedH xs (kB r f) b (.bool true))))
end
/-! over plain data -/
section
variable {P : Program} {w : World} {K : PySem.W.Frag} {e : Ent} {ρ : Rho} {M : List MO} {te ti : TE} {Q : Sl → Prop} {nx bk ct : Rho → List MO → Prop} {rt : Sl → List MO → Prop}
abbrev MO.dB (P : Program) (w : World) (K : PySem.W.Frag) (d : Addr) (xs : XsB) : MO := .hoF d (dbO P w d xs) (fun F => KeysAt K F xs) KeysAt.mono
/-- which keys are there -/
def hasB (xs : XsB) (k : NestedKey) : Bool := (atKey xs k).isSome
end
end DL

/-! DL28: an own error whose __init__ says super().__init__(text) and keeps one field. -/
namespace DL
open PySem PySem.W PySem.Calls PySem.Spec PyProof.Rows
/-- what the top says of such a class, of its __init__ (at fI), of the cell that knows the class, of the code object -/
structure IniC (P : Program) (K : Frag) (C fI cc cda : Addr) (f qual : Str) (st : Stmt) : Prop where
  cls : ∃ nm q N bs bm sn sub ab col dd k0 k1 k2 k3 k5, K.lookup C = some (excClassObj nm q C N bs bm true sn sub ab col dd k0 k1 k2 k3 k5 "ValueError.__new__") ∧ PySem.HandSPX.refsVE bm = true
  sa : findIn K (.ref C) "__setattr__" = some (some (.builtin "object.__setattr__"))
  noF : findIn K (.ref C) f = some none
  iC : findIn K (.ref C) "__init__" = some (some (.ref fI))
  tI : typeIn K (.ref fI) = some (.type "function")
  sup : ks_superIn K C C "__init__" = some (some (.builtin "ValueError.__init__"))
  sVE : subIn K (.ref C) (.type "ValueError") = some true
  opq : nsIn K cStatics "thirdparty.any" = some none
  fn : ∃ (oc : Value) (od : Option Addr) (dV kV doc pm : Value) (an : Option Addr) (ct : Value) (osl : Array (Option Value)), K.lookup fI = some ⟨oc, od, .func (ksFn "__init__" qual (L2.defArgs st) (L2.defBody st) (L2.defScope st) dV kV doc pm an (.ref cda) ct cc), osl⟩ ∧ codeIn K (.ref cda) qual = true ∧
    ∀ v : Value, ∀ s : Shared, ∀ x : Addr, BindsTo s (ksFn "__init__" qual (L2.defArgs st) (L2.defBody st) (L2.defScope st) dV kV doc pm an (.ref cda) ct cc) ⟨[.ref x, v], []⟩ [("self", .ref x), (f, v)]
  cell : ∃ cl cld csl, K.lookup cc = some ⟨cl, cld, .cell (some (.ref C)), csl⟩
  code : ∃ ccl cdd vs ccs file tf, K.lookup cda = some ⟨ccl, cdd, .fields vs, ccs⟩ ∧ vs[2]? = some (.str file tf) ∧ ((P.main.file : Str) == file) = true
  top : (P.main.scope.names.lookup ("super" : Str)).isSome = false
/-- the shape of the def -/
structure IniS (f : Str) (st : Stmt) : Prop where
  body : ∃ txt j p0 p1 p2 p3 p4 p5 p6 p7 p8 p9, L2.defBody st = [.Expr (.Call (.Attribute (.Call (.Name "super" p0) [] [] p1) "__init__" p2) [.Constant (.str txt) j p3] [] p4) p5, .Assign [.Attribute (.Name "self" p6) f p7] (.Name f p8) p9] ∧
    ∀ env, ∃ pl, eval (.Call (.Attribute (.Call (.Name "super" p0) [] [] p1) "__init__" p2) [.Constant (.str txt) j p3] [] p4) env = (do
      let ov ← attributeBase (.Call (.Name "super" p0) [] [] p1) "__init__" env (eval (.Call (.Name "super" p0) [] [] p1) env)
      standAt p2.atName
      let (f, first) ← holding [ov] (getMethod ov "__init__" pl)
      callWith p4 f first (backTo p4 (starEach [.Constant (.str txt) j p3] env)) [])
  args : ∃ a1 a2 : Arg, (L2.defArgs st).posonlyargs = [] ∧ (L2.defArgs st).args = [a1, a2] ∧ a1.arg = "self"
  ks : (L2.defScope st).names.lookup ("super" : Str) = some .globalImplicit
  kc : (L2.defScope st).names.lookup ("__class__" : Str) = some .free
  k1 : (L2.defScope st).names.lookup ("self" : Str) = some .local
  k2 : (L2.defScope st).names.lookup f = some .local
  nc : ∀ x, x ∈ (L2.defScope st).names → x.2 ≠ .cell
  co : (L2.defScope st).isCoroutine = false
  gen : (L2.defScope st).isGenerator = false
  kd : (L2.defScope st).kind = .function
  db : (f == ("__debug__" : Str)) = false
  ns : (f == ("self" : Str)) = false
/-- what __init__ leaves -/
structure IniEnd (h h' : Heap) (x C dx : Addr) (f : Str) (v : Value) : Prop where
  keep : ∀ b o, b ≠ x → h.get? b = some o → h'.get? b = some o
  obj : ∃ t1 : Addr, h'.get? x = some { cls := .ref C, dict := some dx, data := .fields #[.ref t1, .none, .none, .none, .bool false, .none] }
  big : h.objs.size ≤ dx
  ne : dx ≠ x
  ns : h'.Ns1 dx (fun y => if y = f then some v else none)
section
variable {prog : Program} {w : World} {A : Around} {E : Value → Shared → Prop} {R : Result → Shared → Prop} {s : Shared} {K : Frag} {C fI cc cda : Addr} {f qual : Str} {st : Stmt} {mg mb : Str → Option Value}
/-- a made error -/
structure IniMade (h h' : Heap) (e C d : Addr) (f : Str) (v : Value) : Prop where
  keep : ∀ b o, h.get? b = some o → h'.get? b = some o
  new : h.objs.size ≤ e
  obj : ∃ oe vs, h'.get? e = some oe ∧ oe.cls = .ref C ∧ oe.dict = some d ∧ oe.data = .fields vs ∧ vs[1]? = some .none ∧ PXN.CtxN oe
  dbig : h.objs.size ≤ d
  dne : d ≠ e
  ns : h'.Ns1 d (fun y => if y = f then some v else none)
end
/-- an own error with one field, of a program -/
structure ErrF (P : Program) (K : Frag) (mg : Str → Option Value) (C : Addr) (f : Str) : Prop where
  t : ∃ fI cc cda qual st, IniC P K C fI cc cda f qual st ∧ IniS f st
  s : mg "super" = none
end DL
namespace DL
open PySem PySem.Spec PyProof.Rows L2
section
variable {X : Cx} {x f : Str} {C : Addr} {W : WX} {te : TE} {ta : TA} {a : Expr} {p p2 pos : Pos} {k : Nat}
def tMkF (C : Addr) (f : Str) (te : TE) : L2.St → Hp → XK → Prop := fun σ H Q => te σ H fun v H1 => ∀ d, H1 d = none → Q (.ref C) (some d) (upd H1 d (.xd [(f, v)]))
end
end DL

/-! DL29: a try with several named handlers. -/
namespace DL
open PySem PySem.Spec PyProof.Rows L2
abbrev Hd := Value × (Addr → Value → Option Addr → TS)
/-- the handlers, one after the other -/
def wN (K : PySem.W.Frag) (i : Nat) (Wout : WX) (D : Ends) : List Hd → WX
  | [] => Wout
  | p :: r => wAs K p.1 i p.2 (wN K i Wout D r) D
inductive HdN (X : Cx) (n : Str) : List ExceptHandler → List Hd → Prop
  | nil : HdN X n [] []
  | cons {x : Str} {c : Value} {ts : Addr → Value → Option Addr → TS} {b₀ : Stmt} {suite : List Stmt} {np p2 : Pos} {hds : List ExceptHandler} {l : List Hd} (hc : Names X x c)
      (hu : ∀ (a : Addr) (oe : Obj) (cls : Value) (d : Option Addr) (pn : List (Addr × Obj)), L2N.Zn cls d oe → (∃ vs, oe.data = .fields vs) → PSs (X.suite a ((a, oe) :: pn)) (b₀ :: suite) (ts a cls d)) (r : HdN X n hds l) :
      HdN X n (.ExceptHandler (some (.Name x np)) (some n) (b₀ :: suite) p2 :: hds) ((c, ts) :: l)
section
variable {X : Cx} {n : Str} {i : Nat} {body : List Stmt} {h0 : ExceptHandler} {hds : List ExceptHandler} {l : List Hd} {pos : Pos} {tb : WX → TS} {Wout : WX}
def tTryM (K : PySem.W.Frag) (i : Nat) (tb : WX → TS) (l : List Hd) (Wout : WX) : TS := fun D σ H => tb (wN K i Wout D l) D σ H
end
section
variable {K : PySem.W.Frag} {e : Ent} {ρ : Rho} {M : List MO} {nx bk ct : Rho → List MO → Prop} {rt : Sl → List MO → Prop} {i : Nat} {tb : WX → TS} {Wout : WX} {l : List Hd}
/-- which handler takes an error, and what its suite does -/
def Hits (K : PySem.W.Frag) (e : Ent) (i : Nat) (nx bk ct : Rho → List MO → Prop) (rt : Sl → List MO → Prop) (C : Addr) (pl : Option (List (Str × V))) (ρ : Rho) (M : List MO) : List Hd → Prop
  | [] => False
  | p :: r => ∃ b, PySem.W.exmOne K (.ref C) p.1 = some b ∧ if b = true then ∀ a d M1, ErrAt M1 C pl (.ref C) d →
      RunD K e (p.2 a (.ref C) d) (ρ.set i (some (.v (.raw (.ref a))))) (M ++ M1) (fun ρ2 M2 => nx (ρ2.set i none) M2) rt (fun ρ2 M2 => bk (ρ2.set i none) M2) (fun ρ2 M2 => ct (ρ2.set i none) M2)
      else Hits K e i nx bk ct rt C pl ρ M r
end
theorem ErrF.no {P : Program} {K : PySem.W.Frag} {mg : Str → Option Value} {C : Addr} {f : Str} (T : ErrF P K mg C f) : PySem.W.findIn K (.ref C) f = some none :=
  let ⟨_, _, _, _, _, T, _⟩ := T.t
  T.noF
end DL

/-! DL30: a constructor that may raise. -/
namespace DL
open PySem L2
def tMakeS (C : Addr) (sp : Sp) (E : L2.St → XK) (t : TA) : TE := fun σ H Q => t σ H fun vs H1 => ∀ x dx, H1 x = none → H1 dx = none → dx ≠ x →
  sp (.ref x :: vs) (upd (upd H1 dx (.own x)) x (.ins C dx [])) (fun v H2 => v = .non ∧ Q (.ref x) H2) (E σ)
section
variable {X : Cx} {CX : CXT} {k : Nat} {f C : Addr} {fd : FuncData} {ps : List Str} {sp : Sp} {E : L2.St → XK}
end
/-- a class whose __init__ may raise -/
structure MkX (P : Program) (w : World) (K : PySem.W.Frag) (mg : Str → Option Value) (base : Heap) (k : Nat) (x : Str) (C : Addr) (ps : List Str) (sp : Sp) : Prop where
  ex : ∃ f fd, mg x = some (.ref C) ∧ Mk K C f ∧ Binds K fd ps [] ∧ FnOk P w K mg base (L2N.CX P w) k f fd ps sp
/-- plain data in; an object of plain data, or an error -/
def SpIX {ι : Type} (K : PySem.W.Frag) (C : Addr) (args : ι → List D) (pre : ι → Prop) (ns : List Str) (post : ι → List D → Prop) (bad : ι → Addr → Option (List (Str × V)) → Prop) : Sp := fun vs H Q E =>
  ∃ (x : ι) (a dx : Addr) (F : Hp) (us : List V), vs = .ref a :: us ∧ Dens K F (args x) us ∧ Same F H ∧ F a = none ∧ F dx = none ∧ a ≠ dx ∧ H a = some (.ins C dx []) ∧ pre x ∧
    (∀ F' H' ds, Same F F' → Same F' H' → (∀ b o, H b = some o → b ≠ a → H' b = some o) → (∀ b, F' b ≠ none → F b ≠ none ∨ H b = none ∨ b = a) → Den K F' (.ins C ns ds) (.ref a) → post x ds → Q .non H') ∧
    ∀ C' pl cls d α F' H' M1, Move [(a, a)] F H F' H' → Sta K α M1 F' H' → (∀ p, p ∈ α → H p.1 = none ∧ H p.2 = none) → ErrAt M1 C' pl cls d → bad x C' pl → E cls d H'
section
variable {P : Program} {w : World} {K : PySem.W.Frag} {mg : Str → Option Value} {base : Heap} {e : Ent} {ρ : Rho} {M : List MO}
end
end DL

/-! DL31: an own == and len() of an object of plain data. -/
namespace DL
open PySem PySem.Spec PyProof.Rows L2
/-- x == y where x's class has its own __eq__, which tells True or False -/
def rEqO (K : PySem.W.Frag) (C : Addr) (sp : Sp) : V → V → Hp → VK → Prop := fun x y H Q => ∃ a dx fs t, x = .ref a ∧ H a = some (.ins C dx fs) ∧ TyX K H y t ∧ PySem.W.notFirst K C t = true ∧ sp [x, y] H (fun v H' => (∃ r, v = .bl r) ∧ Q v H') E0
/-- len(x) where x's class has its own __len__ -/
def rLenO (C : Addr) (sp : Sp) : List V → Hp → VK → Prop := fun xs H Q => ∃ a dx fs, xs = [.ref a] ∧ H a = some (.ins C dx fs) ∧ sp xs H (fun v H' => (∃ n : Int, v = .int n ∧ 0 ≤ n ∧ n < 2 ^ 63) ∧ Q v H') E0
section
variable {X : Cx} {k : Nat} {C f : Addr} {fd : FuncData} {ps : List Str} {sp : Sp}
theorem op_eqO0 (F : FnOk X.prog X.w X.K X.mg X.base CX0 k f fd ps sp) (hs : PySem.W.findIn X.K (.ref C) "__eq__" = some (some (.ref f))) (hf : PySem.W.isFn X.K (.ref f) = true) (hb : Binds X.K fd ps []) (hr : Room k X.A) : OpR X (compareOp .Eq) (rEqO X.K C sp) := by
  intro pins s σ H x y v u Q I rx ry hq
  obtain ⟨a, dx, fs, t, rfl, ha, ty, nf, hsp⟩ := hq
  cases rx
  obtain ⟨mA, J, _⟩ := ins_get I.hok ha
  obtain ⟨od, J, _⟩ := J.look
  obtain ⟨m, hF⟩ := I.fr
  obtain ⟨Pk, kx, hP, _⟩ := L2.kit_of I ry ty
  show wpAny (model X.prog X.w) X.A (richCompare .Eq (.ref a) u) (EP X pins σ Q) X.xe s
  refine PySem.W.cmp_K (op := .Eq) (tb := t) hr.units0 hF I.ok.mod.kin J (kx.ty _ _ I.kIn hP) nf hs hf ?_
  have hl := F.len _ _ _ _ hsp
  have r2 : Vals [V.ref a, y] [Value.ref a, u] := .cons rfl (.cons ry .nil)
  refine wpAny_call (codeAny_mono (F.run X.A X.stack s H ⟨[.ref a, u], []⟩ [.ref a, u] [.ref a, y] _ E0 hr I.env0 (by
    have := hb s [.ref a, u] I.kIn (by simpa using hl)
    simpa using this) r2 hsp) fun r s' hq => ?_)
  cases r with
  | error e => exact pass0 pins σ H s e s' I hq
  | ok fl =>
    cases fl with
    | ret w =>
      obtain ⟨z, H', I', rz, ⟨r, rfl⟩, q⟩ := I.after hq
      cases rz
      exact ⟨.bl r, H', I', rfl, q⟩
    | next => exact False.elim hq
    | brk => exact False.elim hq
    | cont => exact False.elim hq
end
section
variable {X : Cx} {k : Nat} {C : Addr} {ps : List Str} {sp : Sp} {K : PySem.W.Frag}
theorem op_eqO (F : MFnAt X.prog X.w X.K X.mg X.base k C "__eq__" ps sp) (hr : Room k X.A) (hK : X.K = K := by rfl) : OpR X (compareOp .Eq) (rEqO K C sp) := by
  subst hK
  obtain ⟨f, fd, hm, hb, F⟩ := F.ex
  exact op_eqO0 F hm.at_ hm.fn hb hr
end
section
variable {ι : Type} {K : PySem.W.Frag} {C : Addr} {args : ι → List D} {pre : ι → Prop} {post : ι → D → Prop} {M : List MO} {Q : Sl → Prop} {ns : List Str} {ds : List D}
theorem g_eqO {d : D} {t : Value} (kd : Kind K d t) (nf : PySem.W.notFirst K C t = true) (h : ∃ x, [.ins C ns ds, d] = args x ∧ pre x ∧ ∀ r, post x r → ∃ b, r = .bl b ∧ Q (.v (.bl b))) : EvR K (rEqO K C (SpP K args pre post)) M (.v (.ins C ns ds)) (.v d) Q := fun α F H u v S o1 o2 k kk => by
  obtain ⟨x, ex, hp, q⟩ := h
  obtain ⟨a, dx, vs, rfl, h1, h2, h3⟩ := id o1
  have o3 : SlsOk K α F ((args x).map Sl.v) [.ref a, v] := by
    rw [← ex]
    exact ⟨_, _, rfl, o1, _, _, rfl, o2, rfl⟩
  refine ⟨a, dx, _, t, rfl, S.sub _ _ h1, kd.ty S o2, nf, x, [], F, o3.ofD, sta_nil S.sub, hp, fun v F' H' d M' m3 S3 o4 p3 => ?_⟩
  obtain ⟨b, rfl, qb⟩ := q d p3
  have o4 : v = .bl b := o4
  subst o4
  exact ⟨⟨b, rfl⟩, kk _ F' H' _ (m3.widen fun _ h => by simp at h) (S.keep0 m3 S3.sub) raw_ok qb⟩
end
/-- a class is a class: for isinstance and == -/
structure ClsT (K : PySem.W.Frag) (C : Addr) : Prop where
  t : PySem.W.typeIn K (.ref C) = some (.type "type")
  c : (PySem.W.clsIn K C).isSome = true
theorem clst_k {K : PySem.W.Frag} {C : Addr} {R : Prop} (k : ClsI K C) (t : PySem.W.typeIn K (.ref C) = some (.type "type")) (z : ClsT K C → R) : R := z ⟨t, by
  obtain ⟨cd, hc, _⟩ := PySem.W.any_some k.cl.hd
  rw [hc]; rfl⟩
theorem ClsT.no {K : PySem.W.Frag} {C : Addr} (k : ClsT K C) (T : String) (h : ∃ l, fastBuiltinMro T = some l ∧ l.contains (.ref C) = false) : PySem.W.kitOne K (.type T) (.ref C) = some false := by
  obtain ⟨l, h1, h2⟩ := h
  unfold PySem.W.kitOne
  rw [if_neg (by intro z; exact absurd (beq_iff_eq.mp z) (by intro z; cases z))]
  have e : ((PySem.W.clsIn K C).isSome && PySem.W.typeIn K (.ref C) == some (.type "type")) = true := by rw [k.c, k.t]; rfl
  show (if ((PySem.W.clsIn K C).isSome && PySem.W.typeIn K (.ref C) == some (.type "type")) = true then PySem.W.subIn K (.type T) (.ref C) else none) = some false
  rw [if_pos e]
  show (fastBuiltinMro T).map (·.contains (.ref C)) = _
  rw [h1]
  show some (l.contains (.ref C)) = _
  rw [h2]
theorem kit_self {K : PySem.W.Frag} {C : Addr} : PySem.W.kitOne K (.ref C) (.ref C) = some true := by
  unfold PySem.W.kitOne
  rw [if_pos (beq_self_eq_true _)]
theorem nf_self {K : PySem.W.Frag} {C : Addr} : PySem.W.notFirst K C (.ref C) = true := by simp [PySem.W.notFirst]
theorem mro_tup {C : Addr} : ∃ l, fastBuiltinMro "tuple" = some l ∧ l.contains (.ref C) = false := ⟨[.type "tuple", .type "object"], by decide +kernel, by simp⟩
end DL

/-! DL32: an own error whose __init__ says super().__init__(text) and keeps two fields. -/
namespace DL
open PySem PySem.W PySem.Calls PySem.Spec PyProof.Rows
/-- what the top says of such a class, of its __init__ (at fI), of the cell that knows the class, of the code object -/
structure JniC (P : Program) (K : Frag) (C fI cc cda : Addr) (f f2 qual : Str) (st : Stmt) : Prop where
  cls : ∃ nm q N bs bm sn sub ab col dd k0 k1 k2 k3 k5, K.lookup C = some (excClassObj nm q C N bs bm true sn sub ab col dd k0 k1 k2 k3 k5 "ValueError.__new__") ∧ PySem.HandSPX.refsVE bm = true
  sa : findIn K (.ref C) "__setattr__" = some (some (.builtin "object.__setattr__"))
  noF : findIn K (.ref C) f = some none
  noF2 : findIn K (.ref C) f2 = some none
  iC : findIn K (.ref C) "__init__" = some (some (.ref fI))
  tI : typeIn K (.ref fI) = some (.type "function")
  sup : ks_superIn K C C "__init__" = some (some (.builtin "ValueError.__init__"))
  sVE : subIn K (.ref C) (.type "ValueError") = some true
  opq : nsIn K cStatics "thirdparty.any" = some none
  fn : ∃ (oc : Value) (od : Option Addr) (dV kV doc pm : Value) (an : Option Addr) (ct : Value) (osl : Array (Option Value)), K.lookup fI = some ⟨oc, od, .func (ksFn "__init__" qual (L2.defArgs st) (L2.defBody st) (L2.defScope st) dV kV doc pm an (.ref cda) ct cc), osl⟩ ∧ codeIn K (.ref cda) qual = true ∧
    ∀ v v2 : Value, ∀ s : Shared, ∀ x : Addr, BindsTo s (ksFn "__init__" qual (L2.defArgs st) (L2.defBody st) (L2.defScope st) dV kV doc pm an (.ref cda) ct cc) ⟨[.ref x, v, v2], []⟩ [("self", .ref x), (f, v), (f2, v2)]
  cell : ∃ cl cld csl, K.lookup cc = some ⟨cl, cld, .cell (some (.ref C)), csl⟩
  code : ∃ ccl cdd vs ccs file tf, K.lookup cda = some ⟨ccl, cdd, .fields vs, ccs⟩ ∧ vs[2]? = some (.str file tf) ∧ ((P.main.file : Str) == file) = true
  top : (P.main.scope.names.lookup ("super" : Str)).isSome = false
/-- the shape of the def -/
structure JniS (f f2 : Str) (st : Stmt) : Prop where
  body : ∃ txt j p0 p1 p2 p3 p4 p5 p6 p7 p8 p9 q6 q7 q8 q9, L2.defBody st = [.Expr (.Call (.Attribute (.Call (.Name "super" p0) [] [] p1) "__init__" p2) [.Constant (.str txt) j p3] [] p4) p5, .Assign [.Attribute (.Name "self" p6) f p7] (.Name f p8) p9, .Assign [.Attribute (.Name "self" q6) f2 q7] (.Name f2 q8) q9] ∧
    ∀ env, ∃ pl, eval (.Call (.Attribute (.Call (.Name "super" p0) [] [] p1) "__init__" p2) [.Constant (.str txt) j p3] [] p4) env = (do
      let ov ← attributeBase (.Call (.Name "super" p0) [] [] p1) "__init__" env (eval (.Call (.Name "super" p0) [] [] p1) env)
      standAt p2.atName
      let (f, first) ← holding [ov] (getMethod ov "__init__" pl)
      callWith p4 f first (backTo p4 (starEach [.Constant (.str txt) j p3] env)) [])
  args : ∃ a1 a2 a3 : Arg, (L2.defArgs st).posonlyargs = [] ∧ (L2.defArgs st).args = [a1, a2, a3] ∧ a1.arg = "self"
  ks : (L2.defScope st).names.lookup ("super" : Str) = some .globalImplicit
  kc : (L2.defScope st).names.lookup ("__class__" : Str) = some .free
  k1 : (L2.defScope st).names.lookup ("self" : Str) = some .local
  k2 : (L2.defScope st).names.lookup f = some .local
  k3 : (L2.defScope st).names.lookup f2 = some .local
  nc : ∀ x, x ∈ (L2.defScope st).names → x.2 ≠ .cell
  co : (L2.defScope st).isCoroutine = false
  gen : (L2.defScope st).isGenerator = false
  kd : (L2.defScope st).kind = .function
  db : (f == ("__debug__" : Str)) = false
  ns : (f == ("self" : Str)) = false
  db2 : (f2 == ("__debug__" : Str)) = false
  ns2 : (f2 == ("self" : Str)) = false
  ne : (f2 == f) = false
/-- what __init__ leaves -/
structure JniEnd (h h' : Heap) (x C dx : Addr) (f f2 : Str) (v v2 : Value) : Prop where
  keep : ∀ b o, b ≠ x → h.get? b = some o → h'.get? b = some o
  obj : ∃ t1 : Addr, h'.get? x = some { cls := .ref C, dict := some dx, data := .fields #[.ref t1, .none, .none, .none, .bool false, .none] }
  big : h.objs.size ≤ dx
  ne : dx ≠ x
  ns : h'.Ns1 dx (fun y => if y = f2 then some v2 else if y = f then some v else none)
section
variable {prog : Program} {w : World} {A : Around} {E : Value → Shared → Prop} {R : Result → Shared → Prop} {s : Shared} {K : Frag} {C fI cc cda : Addr} {f f2 qual : Str} {st : Stmt} {mg mb : Str → Option Value}
/-- a made error -/
structure JniMade (h h' : Heap) (e C d : Addr) (f f2 : Str) (v v2 : Value) : Prop where
  keep : ∀ b o, h.get? b = some o → h'.get? b = some o
  new : h.objs.size ≤ e
  obj : ∃ oe vs, h'.get? e = some oe ∧ oe.cls = .ref C ∧ oe.dict = some d ∧ oe.data = .fields vs ∧ vs[1]? = some .none ∧ PXN.CtxN oe
  dbig : h.objs.size ≤ d
  dne : d ≠ e
  ns : h'.Ns1 d (fun y => if y = f2 then some v2 else if y = f then some v else none)
end
/-- an own error with one field, of a program -/
structure ErrG (P : Program) (K : Frag) (mg : Str → Option Value) (C : Addr) (f f2 : Str) : Prop where
  t : ∃ fI cc cda qual st, JniC P K C fI cc cda f f2 qual st ∧ JniS f f2 st
  s : mg "super" = none
end DL
namespace DL
open PySem PySem.Spec PyProof.Rows L2
section
variable {X : Cx} {x f f2 : Str} {C : Addr} {W : WX} {te : TE} {ta : TA} {a a' : Expr} {p p2 pos : Pos} {k : Nat}
def tMkG (C : Addr) (f f2 : Str) (ta : TA) : L2.St → Hp → XK → Prop := fun σ H Q => ta σ H fun vs H1 => ∃ v u, vs = [v, u] ∧ ∀ d, H1 d = none → Q (.ref C) (some d) (upd H1 d (.xd [(f, v), (f2, u)]))
def tRaiseG (C : Addr) (f f2 : Str) (ta : TA) (W : WX) : TS := fun _ σ H => tMkG C f f2 ta σ H fun cls d H' => W cls d σ H'
end
section
variable {K : PySem.W.Frag} {e : Ent} {ρ : Rho} {M : List MO} {ta : TA} {nx bk ct : Rho → List MO → Prop} {rt : Sl → List MO → Prop} {xr : Addr → Option (List (Str × V)) → Rho → List MO → Prop} {W : WX}
theorem ErrG.no {P : Program} {mg : Str → Option Value} {C : Addr} {f f2 : Str} (T : ErrG P K mg C f f2) : PySem.W.findIn K (.ref C) f = some none :=
  let ⟨_, _, _, _, _, T, _⟩ := T.t
  T.noF
end
end DL

/-! DL33: texts. -/
namespace DL
open PySem L2
open SX (S)
abbrev tx (l : List Nat) : D := .str (S l)
section
variable {K : PySem.W.Frag} {e : Ent} {ρ : Rho} {M : List MO} {nx bk ct : Rho → List MO → Prop} {rt : Sl → List MO → Prop} {Q : Sl → Prop} {te to ta tb : TE}
/-- a slice of a text -/
theorem ev_slS {tl th : TO} (h : EvP K te ρ M fun x => EvO K tl ρ M fun lo => EvO K th ρ M fun hi => ∃ z : Str, x = .v (.str z) ∧ z.length ≤ 16777216 ∧ Q (.v (.str (cutS z lo hi)))) : EvP K (tSl rSlS te tl th) ρ M Q := fun σ α F H en S k kk =>
  h σ α F H en S _ fun v F1 H1 x m1 S1 o1 q1 => q1 σ α F1 H1 (en.mono m1.ex) S1 _ fun lo F2 H2 m2 S2 q2 => q2 σ α F2 H2 (en.mono (m1.trans m2).ex) S2 _ fun hi F3 H3 m3 S3 ⟨z, hr, hl, q⟩ => by
    subst hr
    have o1 : v = .str z := o1
    subst o1
    exact ⟨z, rfl, by rw [sizeLine_eq]; exact hl, kk _ _ _ _ ((m1.trans m2).trans m3) S3 raw_ok q⟩
theorem cut_take (l : List Nat) (n : Nat) : cutS (S l) none (some (n : Int)) = S (l.take n) := by
  unfold cutS
  rw [HT.sIx_none, HT.sIx_nat, SX.S_len, Nat.sub_zero, List.drop_zero]
  show S (l.take (min n l.length)) = _
  by_cases h : n ≤ l.length
  · rw [Nat.min_eq_left h]
  · rw [Nat.min_eq_right (by omega), List.take_length, List.take_of_length_le (by omega)]
theorem cut_drop (l : List Nat) (n : Nat) : cutS (S l) (some (n : Int)) none = S (l.drop n) := by
  unfold cutS
  rw [HT.sIx_none, HT.sIx_nat, SX.S_len]
  show S ((l.drop (min n l.length)).take (l.length - min n l.length)) = _
  by_cases h : n ≤ l.length
  · rw [Nat.min_eq_left h, List.take_of_length_le (by rw [List.length_drop]; omega)]
  · rw [Nat.min_eq_right (by omega), List.drop_length, List.drop_eq_nil_of_le (by omega)]
    simp
/-- a text's signs, walked -/
theorem ei_tx {R : List D → Prop} (h : EvP K te ρ M fun s => ∃ l : List Nat, s = .v (tx l) ∧ R (l.map fun c => tx [c])) : EvI K (iStr te) ρ M R := fun σ α F H en S0 k kk =>
  h σ α F H en S0 _ fun v F1 H1 s m1 S1 o1 ⟨l, e1, r⟩ => by
    subst e1
    have o1 : v = .str (S l) := o1
    subst o1
    refine ⟨S l, rfl, kk _ F1 H1 _ m1 S1 (fun i F2 H2 s1 s2 => ⟨fun hl => ?_, fun d hd => ?_⟩) r⟩
    · show (S l).cps.size ≤ i
      rw [List.length_map] at hl
      simp [S]; omega
    · rw [List.getElem?_map] at hd
      obtain ⟨c, hc, rfl⟩ := Option.map_eq_some_iff.mp hd
      have hi := (List.getElem?_eq_some_iff.mp hc).1
      refine ⟨by show i < (S l).cps.size; simpa [S] using hi, fun x H' y => .inl ⟨y.1, ?_⟩⟩
      obtain ⟨_, c', hc', rfl⟩ := y
      have e2 : l[i]? = some c' := by simpa [S] using hc'
      rw [hc] at e2
      cases e2
      rfl
theorem g_inC {c : Nat} {l : List Nat} {r : V → V → Hp → VK → Prop} (hr : r = fun x y H Q => ∃ (c : Nat) (z : Str), x = .str ⟨#[c]⟩ ∧ y = .str z ∧ Q (.bl (decide (c ∈ z.cps.toList))) H) (q : Q (.v (.bl (decide (c ∈ l))))) : EvR K r M (.v (tx [c])) (.v (tx l)) Q := fun α F H u v S0 o1 o2 k kk => by
  subst hr
  have o1 : u = .str (S [c]) := o1
  have o2 : v = .str (S l) := o2
  subst o1; subst o2
  exact ⟨c, S l, rfl, rfl, kk _ F H _ .refl S0 raw_ok q⟩
/-- int(text) -/
def rIntS : List V → Hp → VK → Prop := fun xs H Q => ∃ a n, xs = [.str a] ∧ PySem.intText? a = some n ∧ a.length ≤ 640 ∧ Q (.int n) H
theorem x_intS {a : Str} {n : Int} (h : PySem.intText? a = some n) (hl : a.length ≤ 640) (q : Q (.v (.int n))) : EvC K rIntS M [.v (.str a)] Q := fun α F H us S0 o k kk =>
  ⟨a, n, sls1 o, h, hl, kk _ F H _ .refl S0 raw_ok q⟩
/-- sep.join(texts) -/
def rJoinS (K : PySem.W.Frag) : V → List V → Hp → VK → Prop := fun x xs H Q => ∃ a p, ∃ ys : List Str, x = .str a ∧ xs = [.ref p] ∧ (SqL K H p (ys.map V.str) ∨ SqT K H p (ys.map V.str)) ∧ (ys.map (·.length)).sum + ys.length * a.length ≤ 16777216 ∧ Q (.str (Txt.join a ys)) H
def rSplitS : V → List V → Hp → VK → Prop := fun x xs H Q => ∃ a b, x = .str a ∧ xs = [.str b] ∧ (b.length == 0) = false ∧ a.length + 2 ≤ sizeLine ∧ rNewStrs (Txt.split a b) H Q
theorem dens_tx {F : Hp} : ∀ {ls : List (List Nat)} {vs : List V}, Dens K F (ls.map tx) vs → vs = (ls.map S).map V.str
  | [], vs, h => h
  | l :: ls, vs, ⟨v, r, e, h1, h2⟩ => by
    have h1 : v = .str (S l) := h1
    rw [e, h1, dens_tx h2]
    rfl
theorem dens_txs {F : Hp} : ∀ ls : List (List Nat), Dens K F (ls.map tx) ((ls.map S).map V.str)
  | [] => rfl
  | l :: ls => ⟨_, _, rfl, rfl, dens_txs ls⟩
theorem ev_join (h : EvP K to ρ M fun s => ∃ a : List Nat, s = .v (tx a) ∧ EvP K te ρ M fun s' => ∃ (ls : List (List Nat)) (ds : List D), RdL M s' ds ∧ ds = ls.map tx ∧ (ls.map (·.length)).sum + ls.length * a.length ≤ 16777216 ∧ Q (.v (tx (TL.joinL a ls)))) : EvP K (tM1 (rJoinS K) to te) ρ M Q := fun σ α F H en S0 k kk =>
  h σ α F H en S0 _ fun v F1 H1 s m1 S1 o1 ⟨a, e1, q1⟩ => by
    subst e1
    have o1 : v = .str (S a) := o1
    subst o1
    refine ⟨⟨_, rfl⟩, q1 σ α F1 H1 (en.mono m1.ex) S1 _ fun u F2 H2 s' m2 S2 o2 ⟨ls, ds, hr, e2, hz, q⟩ => ?_⟩
    subst e2
    obtain ⟨p, vs, rfl, hH, d1⟩ := hr.get S2 o2
    have ev := dens_tx d1
    subst ev
    refine ⟨S a, p, ls.map S, rfl, rfl, .inl (SqL.of hH), ?_, ?_⟩
    · rw [SX.lens, List.length_map, SX.S_len]; exact hz
    · rw [SX.join_S]
      exact kk _ F2 H2 (.v (tx (TL.joinL a ls))) (m1.trans m2) S2 raw_ok q
theorem ev_split (h : EvP K to ρ M fun s => ∃ a : List Nat, s = .v (tx a) ∧ EvP K te ρ M fun s' => ∃ b : List Nat, s' = .v (tx b) ∧ b ≠ [] ∧ b.all (· < 256) = true ∧ a.length + 2 ≤ 16777216 ∧ Q (.v (.lst ((TL.spl b 0 [] a).map tx)))) : EvP K (tM1 rSplitS to te) ρ M Q := fun σ α F H en S0 k kk =>
  h σ α F H en S0 _ fun v F1 H1 s m1 S1 o1 ⟨a, e1, q1⟩ => by
    subst e1
    have o1 : v = .str (S a) := o1
    subst o1
    refine ⟨⟨_, rfl⟩, q1 σ α F1 H1 (en.mono m1.ex) S1 _ fun u F2 H2 s' m2 S2 o2 ⟨b, e2, hb, h256, hz, q⟩ => ?_⟩
    subst e2
    have o2 : u = .str (S b) := o2
    subst o2
    refine ⟨S a, S b, rfl, rfl, ?_, by rw [SX.S_len, sizeLine_eq]; exact hz, ?_⟩
    · rw [SX.S_len]
      cases b with
      | nil => exact absurd rfl hb
      | cons c r => rfl
    · intro p hp
      rw [SX.split_S hb h256]
      obtain ⟨m4, S4⟩ := S2.laid (o := .lst ((TL.spl b 0 [] a).map S |>.map V.str)) hp
      exact kk _ _ _ _ ((m1.trans m2).trans m4) S4 (den_ok (d := .lst ((TL.spl b 0 [] a).map tx)) ⟨p, _, rfl, upd_same, dens_txs _⟩) q
/-- text * number -/
def rMulS : V → V → Hp → VK → Prop := fun x y H Q => ∃ (i : Str) (n : Nat), x = .str i ∧ y = .int (n : Int) ∧ 2 ≤ n ∧ n ≤ 1000 ∧ 1 ≤ i.length ∧ i.length ≤ 1000 ∧ Q (.str ⟨(List.replicate n i.cps).foldl (· ++ ·) #[]⟩) H
theorem rep_S (l : List Nat) : ∀ n : Nat, (⟨(List.replicate n (S l).cps).foldl (· ++ ·) #[]⟩ : Str) = S (List.replicate n l).flatten := fun n => by
  have g : ∀ (n : Nat) (a : List Nat), ((List.replicate n (S l).cps).foldl (· ++ ·) a.toArray) = (a ++ (List.replicate n l).flatten).toArray := by
    intro n
    induction n with
    | zero => intro a; simp
    | succ n ih =>
      intro a
      rw [List.replicate_succ, List.foldl_cons]
      have : a.toArray ++ (S l).cps = (a ++ l).toArray := by simp [S]
      rw [this, ih]
      simp [List.replicate_succ]
  have := g n []
  simp at this
  show Str.mk _ = Str.mk _
  congr 1
end
section
variable {X : Cx} {K : PySem.W.Frag} {o e : Expr} {to te : TE} {apos pos p : Pos} {t : TA}
theorem pe_joinK (ho : PE X o to) (he : PE X e te) (hs : starEach [e] X.env = [(false, eval e X.env)] := by rfl) (hbase : attributeBase o "join" X.env (eval o X.env) = eval o X.env := by rfl) (hline : (apos.endLine == pos.line) = true := by rfl) (hK : X.K = K := by rfl) :
    PE X (.Call (.Attribute o "join" apos) [e] [] pos) (tM1 (rJoinS K) to te) := by
  subst hK
  exact pe_join ho he hs hbase hline
theorem pe_splitK (ho : PE X o to) (he : PE X e te) (hs : starEach [e] X.env = [(false, eval e X.env)] := by rfl) (hbase : attributeBase o "split" X.env (eval o X.env) = eval o X.env := by rfl) (hline : (apos.endLine == pos.line) = true := by rfl) :
    PE X (.Call (.Attribute o "split" apos) [e] [] pos) (tM1 rSplitS to te) := pe_split ho he hs hbase hline
theorem pe_intS (b : X.mg "int" = none) (hg : Gl X "int") (ha : PA X [e] t) (he : starEach [e] X.env = (false, eval e X.env) :: starEach [] X.env := by rfl) (hpl : (backTo pos (starEach [] X.env)).any (·.1) = false := by rfl) :
    PE X (.Call (.Name "int" p) [e] [] pos) (tCB rIntS t) := pe_callTy call_int_str hg b (by decide +kernel) ha (by decide) (by decide) he hpl
theorem op_mulS : OpR X (binaryOp .Mult) rMulS := by
  intro pins s σ H x y v u Q I rx ry h
  obtain ⟨i, n, rfl, rfl, h2, hn, h1, hl, q⟩ := h
  obtain ⟨t, rfl⟩ := rx
  obtain ⟨t', rfl⟩ := ry
  have e1 : ¬ ((n : Int) < 1) := by omega
  have e2 : (((n : Int) == 1) || i.length == 0) = false := by
    rw [Bool.or_eq_false_iff]
    exact ⟨by rw [beq_eq_false_iff_ne]; omega, by rw [beq_eq_false_iff_ne]; omega⟩
  have hz : i.length * n ≤ 1000000 := Nat.le_trans (Nat.mul_le_mul hl hn) (by decide)
  refine PySem.P.mul_str (by rw [decide_eq_false (by omega), decide_eq_false (by omega)]; rfl) (fun _ _ => ?_) (fun _ _ => ?_) ?_
  · have h3 : (1000 : Int) ≤ (2 ^ 63 - 1) / n := by
      rw [Int.le_ediv_iff_mul_le (by omega)]
      omega
    omega
  · show PySem.Builtin.Str.tooLong _ = false
    unfold PySem.Builtin.Str.tooLong
    rw [sizeLine_eq, Int.toNat_natCast]
    exact decide_eq_false (by omega)
  · rw [if_neg e1, e2]
    rw [Int.toNat_natCast]
    refine ⟨?_, ⟨.str _, H, I.tok _, ⟨_, rfl⟩, q⟩⟩
    have e4 : i = S i.cps.toList := (SX.S_tl i).symm
    have hl' : i.cps.toList.length ≤ 1000 := hl
    have h5 := rep_S i.cps.toList n
    rw [← e4] at h5
    rw [h5, SX.S_len, sizeLine_eq, List.length_flatten, List.map_replicate, List.sum_replicate_nat]
    exact Nat.le_trans (Nat.mul_le_mul hn hl') (by decide)
end
end DL

/-! DL34: lists that a call hands out, to be changed. A call is told of no frozen list: then the list that comes out is a new one. -/
namespace DL
open PySem L2
mutual
/-- no list and no dict in it -/
def D.noL : D → Bool
  | .raw _ => true
  | .tup ds => D.noLs ds
  | .lst _ => false
  | .dic _ _ => false
  | .ins _ _ ds => D.noLs ds
  | .rd _ => false
def D.noLs : List D → Bool
  | [] => true
  | d :: ds => d.noL && D.noLs ds
end
def noLH (F : Hp) : Hp := fun b => match F b with
  | some (.lst _) => none
  | o => o
theorem noLH_same (F : Hp) : Same (noLH F) F := fun b o h => by
  unfold noLH at h
  cases e : F b with
  | none => rw [e] at h; cases h
  | some o' => rw [e] at h; cases o' <;> first | exact h | cases h
theorem noLH_get {F : Hp} {b : Addr} {o : HO} (h : F b = some o) (n : ∀ vs, o ≠ .lst vs) : noLH F b = some o := by
  unfold noLH
  rw [h]
  cases o <;> first | rfl | exact absurd rfl (n _)
theorem noLH_lst {F : Hp} {b : Addr} {vs : List V} : noLH F b ≠ some (.lst vs) := fun h => by
  unfold noLH at h
  cases e : F b with
  | none => rw [e] at h; cases h
  | some o => rw [e] at h; cases o <;> cases h
variable {K : PySem.W.Frag}
theorem noL_sqt {F : Hp} {a : Addr} {vs : List V} (h : SqT K F a vs) : SqT K (noLH F) a vs := by
  rcases h with (h | ⟨o, h⟩) | h
  · exact .inl (.inl (noLH_get h (fun _ z => nomatch z)))
  · exact .inl (.inr ⟨o, noLH_get h (fun _ z => nomatch z)⟩)
  · exact .inr h
mutual
theorem noL_den {F : Hp} : ∀ (d : D) (v : V), d.noL = true → Den K F d v → Den K (noLH F) d v
  | .raw _, _, _, h => h
  | .tup ds, _, n, ⟨a, vs, e, h, k⟩ => ⟨a, vs, e, noL_sqt h, noL_dens ds vs n k⟩
  | .ins C ns ds, _, n, ⟨a, dx, vs, e, h, l, k⟩ => ⟨a, dx, vs, e, noLH_get h (fun _ z => nomatch z), l, noL_dens ds vs n k⟩
  | .lst _, _, n, _ => nomatch n
  | .dic _ _, _, n, _ => nomatch n
  | .rd _, _, n, _ => nomatch n
theorem noL_dens {F : Hp} : ∀ (ds : List D) (vs : List V), D.noLs ds = true → Dens K F ds vs → Dens K (noLH F) ds vs
  | [], _, _, h => h
  | d :: ds, _, n, ⟨v, r, e, h1, h2⟩ => by
    have n : (d.noL && D.noLs ds) = true := n
    rw [Bool.and_eq_true] at n
    exact ⟨v, r, e, noL_den d v n.1 h1, noL_dens ds r n.2 h2⟩
end
theorem noL_sls {F : Hp} : ∀ {ds : List D} {vs : List V}, D.noLs ds = true → SlsOk K [] F (ds.map Sl.v) vs → SlsOk K [] (noLH F) (ds.map Sl.v) vs
  | [], _, _, h => h
  | d :: ds, _, n, ⟨v, r, e, h1, h2⟩ => by
    have n : (d.noL && D.noLs ds) = true := n
    rw [Bool.and_eq_true] at n
    exact ⟨v, r, e, noL_den d v n.1 h1, noL_sls n.2 h2⟩
/-- plain data in, a new list out, at an address -/
def SpL {ι : Type} (K : PySem.W.Frag) (args : ι → List D) (pre : ι → Prop) (post : ι → List D → Prop) : Sp := fun vs H Q _ =>
  ∃ (x : ι) (F : Hp), SlsOk K [] F ((args x).map Sl.v) vs ∧ Same F H ∧ pre x ∧ ∀ p F' H' ds, Move [] F H F' H' → Sta K [(p, p)] [.pin p ds] F' H' → H p = none → post x ds → Q (.ref p) H'
theorem SpL.of {ι : Type} {args : ι → List D} {pre : ι → Prop} {post : ι → D → Prop} {post' : ι → List D → Prop} (na : ∀ x, pre x → D.noLs (args x) = true) (hp : ∀ x d, pre x → post x d → ∃ ds, d = .lst ds ∧ D.noLs ds = true ∧ post' x ds) {vs : List V} {H : Hp} {Q : VK} {E : XK}
    (h : SpL K args pre post' vs H Q E) : SpP K args pre post vs H Q E := by
  obtain ⟨x, F, ho, sub, px, k⟩ := h
  refine ⟨x, [], noLH F, noL_sls (na x px) ho, sta_nil ((noLH_same F).trans sub), px, fun v F0 H' d M' mv st hd pd => ?_⟩
  obtain ⟨ds, rfl, nd, pd⟩ := hp x d px pd
  obtain ⟨p, us, rfl, hp1, hds⟩ := hd
  have fresh : H p = none := by
    rcases mv.new p (by rw [hp1]; exact fun z => nomatch z) with z | z
    · exfalso
      cases e : noLH F p with
      | none => exact z e
      | some o =>
        have := mv.ex p o e
        rw [hp1] at this
        obtain rfl := Option.some.inj this
        exact noLH_lst e
    · exact z
  have Fp : F p = none := sub.free fresh
  obtain ⟨F', hF'⟩ : ∃ F' : Hp, ∀ b, F' b = if b = p then none else (match F b with | some o => some o | none => F0 b) := ⟨fun b => if b = p then none else (match F b with | some o => some o | none => F0 b), fun b => rfl⟩
  have ex : Same F F' := fun b o e => by
    rw [hF', if_neg (fun z => by rw [z, Fp] at e; cases e), e]
  have sub' : Same F' H' := fun b o e => by
    rw [hF'] at e
    by_cases hb : b = p
    · rw [if_pos hb] at e; cases e
    · rw [if_neg hb] at e
      cases e2 : F b with
      | some o' =>
        rw [e2] at e
        cases e
        exact mv.fr b _ (sub b _ e2) (fun q hq => by simp at hq)
      | none =>
        rw [e2] at e
        exact st.sub b o e
  have s0 : Same (noLH F0) F' := fun b o e => by
    have e1 := noLH_same F0 b o e
    rw [hF', if_neg (fun z => by rw [z, hp1] at e1; cases e1; rw [z] at e; exact noLH_lst e)]
    cases e2 : F b with
    | none => exact e1
    | some o' =>
      have h1 := mv.fr b o' (sub b _ e2) (fun q hq => by simp at hq)
      have h2 := st.sub b o e1
      rw [h1] at h2
      exact h2
  refine k p F' H' ds ⟨ex, mv.fr, mv.tr, fun b hb => ?_⟩ ⟨sub', rfl, fun i m q h1 h2 => ?_, fun i j q r hij h1 h2 => ?_, fun q hq => ?_⟩ fresh pd
  · rw [hF'] at hb
    by_cases e : b = p
    · rw [if_pos e] at hb; exact absurd rfl hb
    · rw [if_neg e] at hb
      cases e2 : F b with
      | some o => exact .inl fun z => nomatch z
      | none =>
        rw [e2] at hb
        rcases mv.new b hb with z | z
        · cases e3 : noLH F b with
          | none => exact absurd e3 z
          | some o => exact absurd (noLH_same F b o e3) (by rw [e2]; exact fun z => nomatch z)
        · exact .inr z
  · cases i with
    | succ i => simp at h1
    | zero =>
      simp at h1 h2
      subst h1; subst h2
      exact ⟨by rw [hF', if_pos rfl], rfl, us, st.sub _ _ hp1, Dens.mono K s0 _ _ (noL_dens ds us nd hds)⟩
  · cases i with
    | succ i => simp at h1
    | zero =>
      cases j with
      | zero => omega
      | succ j => simp at h2
  · simp at hq
    subst hq
    have : H' p = some (.lst us) := st.sub _ _ hp1
    exact ⟨by rw [this]; exact fun z => (nomatch z), by rw [this]; exact fun z => (nomatch z)⟩
theorem FnAt.pinned {P : Program} {w : World} {mg : Str → Option Value} {base : Heap} {CX : CXT} {k : Nat} {x : Str} {ps : List Str} {ι : Type} {args : ι → List D} {pre : ι → Prop} {post : ι → D → Prop} (F : FnAt P w K mg base CX k x ps (SpP K args pre post)) (post' : ι → List D → Prop) (na : ∀ x, pre x → D.noLs (args x) = true) (hp : ∀ x d, pre x → post x d → ∃ ds, d = .lst ds ∧ D.noLs ds = true ∧ post' x ds) :
    FnAt P w K mg base CX k x ps (SpL K args pre post') := F.imp fun vs H Q E h => SpL.of na hp h
section
variable {e : Ent} {ρ : Rho} {M : List MO} {te ta tb : TE} {t u : TS} {Q : Sl → Prop} {nx bk ct : Rho → List MO → Prop} {rt : Sl → List MO → Prop} {QN : Sl → List MO → Prop}
/-- lists handed out inside a list: the outer one plain, the inner ones to be changed -/
def PinsOf (d : D) (M' : List MO) (dss : List (List D)) : Prop := ∃ ps : List Addr, d = .lst (ps.map fun p => .raw (.ref p)) ∧ ps.length = dss.length ∧ ∀ (i : Nat) p ds, ps[i]? = some p → dss[i]? = some ds → ∃ k : Nat, M'[k]? = some (.pin p ds)
def SpM {ι : Type} (K : PySem.W.Frag) (args : ι → List D) (pre : ι → Prop) (post : ι → List (List D) → Prop) : Sp := fun vs H Q _ =>
  ∃ (x : ι) (F : Hp), SlsOk K [] F ((args x).map Sl.v) vs ∧ Same F H ∧ pre x ∧ ∀ v β F' H' d M' dss, Move [] F H F' H' → Sta K β M' F' H' → (∀ p, p ∈ β → H p.1 = none ∧ H p.2 = none) → Den K F' d v → PinsOf d M' dss → post x dss → Q v H'
/-- .. read as plain data -/
theorem SpM.of {ι : Type} {args : ι → List D} {pre : ι → Prop} {post : ι → List (List D) → Prop} {vs : List V} {H : Hp} {Q : VK} {E : XK} (h : SpP K args pre (fun x d => ∃ dss, d = .lst (dss.map .lst) ∧ post x dss) vs H Q E) : SpM K args pre post vs H Q E := by
  obtain ⟨x, α, F, ho, S, px, k⟩ := h
  have hα : α = [] := List.eq_nil_of_length_eq_zero (by rw [← S.len]; rfl)
  subst hα
  refine ⟨x, F, ho, S.sub, px, fun v β F' H' d M' dss mv st fr hd hP pm => ?_⟩
  obtain ⟨ps, rfl, hl, hk⟩ := hP
  obtain ⟨F2, hF2⟩ : ∃ F2 : Hp, ∀ b, F2 b = match F' b with | some o => some o | none => if b ∈ ps then H' b else none := ⟨fun b => match F' b with | some o => some o | none => if b ∈ ps then H' b else none, fun b => rfl⟩
  have s1 : Same F' F2 := fun b o e => by rw [hF2, e]
  have s2 : Same F2 H' := fun b o e => by
    rw [hF2] at e
    cases e2 : F' b with
    | some o' => rw [e2] at e; cases e; exact st.sub b _ e2
    | none =>
      rw [e2] at e
      by_cases hb : b ∈ ps
      · simp only [if_pos hb] at e; exact e
      · simp only [if_neg hb] at e; cases e
  have fresh : ∀ p, p ∈ ps → H p = none := fun p hp => by
    obtain ⟨i, hi⟩ := List.getElem?_of_mem hp
    have hil := (List.getElem?_eq_some_iff.mp hi).1
    obtain ⟨k', hk'⟩ := hk i p dss[i] hi (List.getElem?_eq_getElem (by omega))
    obtain ⟨q, hq, e1, _⟩ := pin_ob st hk'
    have := (fr q (List.mem_of_getElem? hq)).1
    rw [e1] at this
    exact this
  refine k v F2 H' (.lst (dss.map .lst)) [] ⟨mv.ex.trans s1, mv.fr, mv.tr, fun b hb => ?_⟩ (sta_nil s2) ?_ ⟨dss, rfl, pm⟩
  · rw [hF2] at hb
    cases e2 : F' b with
    | some o => exact mv.new b (by rw [e2]; exact fun z => nomatch z)
    | none =>
      rw [e2] at hb
      by_cases hp : b ∈ ps
      · exact .inr (fresh b hp)
      · simp only [if_neg hp] at hb; exact absurd rfl hb
  · obtain ⟨a, us, rfl, h1, h2⟩ := hd
    refine ⟨a, us, rfl, s1 _ _ h1, ?_⟩
    have key : ∀ (ps : List Addr) (dss : List (List D)) (us : List V), ps.length = dss.length → Dens K F' (ps.map fun p => D.raw (.ref p)) us → (∀ (i : Nat) p ds, ps[i]? = some p → dss[i]? = some ds → Den K F2 (.lst ds) (.ref p)) → Dens K F2 (dss.map .lst) us := by
      intro ps
      induction ps with
      | nil =>
        intro dss us hl h _
        cases dss with
        | nil => exact h
        | cons _ _ => simp at hl
      | cons p ps ih =>
        intro dss us hl h hh
        cases dss with
        | nil => simp at hl
        | cons ds dss =>
          obtain ⟨v, r, e1, e2, e3⟩ := h
          have e2 : v = .ref p := e2
          subst e2
          exact ⟨_, r, e1, hh 0 p ds rfl rfl, ih dss r (by simpa using hl) e3 fun i p' ds' a b => hh (i + 1) p' ds' (by simpa using a) (by simpa using b)⟩
    refine key ps dss us hl h2 fun i p ds hi hd => ?_
    obtain ⟨k', hk'⟩ := hk i p ds hi hd
    obtain ⟨q, hq, e1, hFp, ws, hH, hds⟩ := pin_ob st hk'
    exact ⟨p, ws, rfl, by rw [hF2, hFp]; simp only [if_pos (List.mem_of_getElem? hi)]; exact hH, Dens.mono K s1 _ _ hds⟩
theorem Dens.reverse {F : Hp} : ∀ {ds : List D} {vs : List V}, Dens K F ds vs → Dens K F ds.reverse vs.reverse
  | [], vs, h => by
    have h : vs = [] := h
    subst h
    exact h
  | d :: ds, vs, h => by
    obtain ⟨v, r, rfl, h1, h2⟩ := h
    rw [List.reverse_cons, List.reverse_cons]
    exact (Dens.reverse h2).append (Dens.cons h1 Dens.nil)
end
section
variable {P : Program} {w : World} {mg : Str → Option Value} {base : Heap}
theorem FnAt.plain {CX : CXT} {k : Nat} {x : Str} {ps : List Str} {ι : Type} {args : ι → List D} {pre : ι → Prop} {post : ι → List (List D) → Prop} (F : FnAt P w K mg base CX k x ps (SpM K args pre post)) :
    FnAt P w K mg base CX k x ps (SpP K args pre (fun x d => ∃ dss, d = .lst (dss.map .lst) ∧ post x dss)) := F.imp fun vs H Q E h => SpM.of h
end
end DL

/-! DL35: instances that change: a new one as a numbered thing, and one that is to change no more. -/
namespace DL
open PySem L2
section
variable {K : PySem.W.Frag} {e : Ent} {ρ : Rho} {M : List MO} {te ta tb : TE} {t u : TS} {Q : Sl → Prop} {nx bk ct : Rho → List MO → Prop} {rt : Sl → List MO → Prop} {QN : Sl → List MO → Prop}
end
mutual
/-- no instance of C in it -/
def D.noI (C : Addr) : D → Bool
  | .raw _ => true
  | .tup ds => D.noIs C ds
  | .lst ds => D.noIs C ds
  | .dic _ ds => D.noIs C ds
  | .ins C' _ ds => !decide (C' = C) && D.noIs C ds
  | .rd ds => D.noIs C ds
def D.noIs (C : Addr) : List D → Bool
  | [] => true
  | d :: ds => d.noI C && D.noIs C ds
end
section
variable {K : PySem.W.Frag} {C a dx : Addr} {us : List (Str × V)} {F F2 : Hp}
end
section
variable {K : PySem.W.Frag} {e : Ent} {ρ : Rho} {M : List MO} {QN : Sl → List MO → Prop}
end
end DL

/-! DL36: a property whose getter has any body. -/
namespace DL
open PySem L2
structure PropFn (P : Program) (w : World) (K : PySem.W.Frag) (mg : Str → Option Value) (base : Heap) (k : Nat) (C : Addr) (x : Str) (sp : Sp) : Prop where
  ex : ∃ p g fd, PropOf K C x p g ∧ FnOk P w K mg base CX0 k g fd ["self"] sp ∧ Binds K fd ["self"] []
section
variable {P : Program} {w : World} {K : PySem.W.Frag} {mg : Str → Option Value} {base : Heap}
end
section
variable {X : Cx} {e : Expr} {pos : Pos} {ta : TE} {k : Nat} {sp : Sp}
end
section
variable {K : PySem.W.Frag} {R : Prop} {x y : Str} {C : Addr}
end
section
variable {K : PySem.W.Frag} {e : Ent} {ρ : Rho} {M : List MO} {te ta tl : TE} {Q : Sl → Prop} {QN : Sl → List MO → Prop}
end
section
variable {K : PySem.W.Frag} {e : Ent} {ρ : Rho} {M : List MO} {te ta tl : TE} {tm : TA} {Q : Sl → Prop} {QN : Sl → List MO → Prop}
/-- a method of one numbered thing -/
abbrev SpI1 {ι : Type} (K : PySem.W.Frag) (args : ι → List D) (m0 : ι → MO) (pre : ι → Prop) (post : ι → D → MO → Prop) : Sp := SpF K (fun x => .l 0 :: (args x).map Sl.v) (fun x => [m0 x]) pre (fun x d M' => ∃ m', M' = [m'] ∧ post x d m')
end
section
variable {K : PySem.W.Frag} {ρ : Rho} {M : List MO} {te : TE} {Q : Sl → Prop}
end
end DL

/-! DL37: a numbered instance lent to a call that reads it as plain data; methods that may raise; methods that hand out a new thing; tests that change things. -/
namespace DL
open PySem L2
section
variable {K : PySem.W.Frag} {e : Ent} {ρ : Rho} {M : List MO} {te ta tb : TE} {t u : TS} {tm : TA} {Q : Sl → Prop} {nx bk ct : Rho → List MO → Prop} {rt : Sl → List MO → Prop} {QN : Sl → List MO → Prop}
/-- a method that may raise, of a numbered instance: it changes it (one promise), or it raises and nothing is changed (the other) -/
def tMethW (C : Addr) (m : Str) (sp : Sp) (E : L2.St → XK) (ta : TE) (t : TA) : TE := fun σ H Q => ta σ H fun x H1 => ∃ a dx fs, x = .ref a ∧ H1 a = some (.ins C dx fs) ∧ fs.lookup m = none ∧
  t σ H1 fun vs H2 => sp (x :: vs) H2 Q (E σ)
/-! tests that change things -/
def EvTN (K : PySem.W.Frag) (e : Ent) (tt : TT) (ρ : Rho) (M : List MO) (R : Bool → List MO → Prop) : Prop := ∀ (σ : L2.St) (α : Al) (F H : Hp), Good K e α F H σ ρ M → ∀ k : Bool → Hp → Prop,
  (∀ b α' F' H' M', Good K e α' F' H' σ ρ M' → Same F F' → R b M' → k b H') → tt σ H k
end
/-! methods that may raise; that hand out a new thing -/
structure MFnAtC (P : Program) (w : World) (K : PySem.W.Frag) (mg : Str → Option Value) (base : Heap) (CX : CXT) (k : Nat) (C : Addr) (x : Str) (ps : List Str) (sp : Sp) : Prop where
  ex : ∃ f fd, Meth K C x f ∧ Binds K fd ps [] ∧ (∃ oc od osl, K.lookup f = some ⟨oc, od, .func fd, osl⟩) ∧ FnOk P w K mg base CX k f fd ps sp
abbrev MFnAtX (P : Program) (w : World) (K : PySem.W.Frag) (mg : Str → Option Value) (base : Heap) (k : Nat) (C : Addr) (x : Str) (ps : List Str) (sp : Sp) : Prop := MFnAtC P w K mg base (L2N.CX P w) k C x ps sp
section
variable {P : Program} {w : World} {K : PySem.W.Frag} {mg : Str → Option Value} {base : Heap}
end
section
variable {X : Cx} {C : Addr} {x : Str} {k : Nat} {ps : List Str} {sp : Sp} {o e : Expr} {es : List Expr} {ta : TE} {t : TA} {apos pos : Pos} {W : WX}
end
end DL

/-! DL38: tokens carried through a loop; a text repeated, then put in for " " in a line. -/
namespace DL
open PySem L2 PySem.Spec PyProof.Rows
section
variable {X : Cx} {st : Stmt} {rest : List Stmt} {t u : TS}
theorem thnT {α : Type} {t : Sem α} {Q Q' : α → Shared → Prop} {M : Model} {A : Around} {E : Value → Shared → Prop} {s : Shared} (h : wpAny M A t Q E s) (hQ : ∀ a s', s.toks ≤ s'.toks → Q a s' → Q' a s') : wpAny M A t Q' E s :=
  wpAny_mono (PySem.wpAny_toks h) (fun a s' q => hQ a s' q.1 q.2) fun _ _ z => z.2
/-- arguments; behind them a token is out -/
def PA1 (X : Cx) (es : List Expr) (t : TA) : Prop :=
  ∀ (pos : Pos) (pins : List (Addr × Obj)) (s : Shared) (σ : L2.St) (H : Hp) (Q : List V → Hp → Prop), Inv X pins σ H s → t σ H Q → wpAny (model X.prog X.w) X.A (spliced (backTo pos (starEach es X.env))) (fun us s1 => 1 ≤ s1.toks ∧ AP X pins σ Q us s1) X.xe s
theorem pa1_int {k : Int} {j : Nat} {cp : Pos} : PA1 X [.Constant (.int k) j cp] (tCons (tC (.int k)) tNil) := by
  intro pos pins s σ H Q I h
  show wpAny _ _ (spliced ((false, eval (.Constant (.int k) j cp) X.env) :: backTo pos (starEach [] X.env))) _ _ s
  refine Calls.spliced_cons (wpAny_Constant_int (Calls.spliced_nil ?_))
  exact ⟨Nat.succ_pos _, [.int k], H, I.tok _, .cons ⟨_, rfl⟩ .nil, h⟩
theorem pa1_cons {e : Expr} {es : List Expr} {te : TE} {ta : TA} (ha : PE X e te) (hr : PA1 X es ta) (hs : starEach (e :: es) X.env = (false, eval e X.env) :: starEach es X.env := by rfl) : PA1 X (e :: es) (tCons te ta) := by
  intro pos pins s σ H Q I h
  rw [hs]
  show wpAny _ _ (spliced ((false, eval e X.env) :: backTo pos (starEach es X.env))) _ _ s
  refine Calls.spliced_cons (thn (ha.run pins s σ H _ I h) fun v s1 ⟨x, H1, I1, r1, q1⟩ => ?_)
  exact thn (hr pos pins s1 σ H1 _ I1 q1) fun us s2 ⟨k, xs, H2, I2, r2, q2⟩ => ⟨k, x :: xs, H2, I2, .cons r1 r2, q2⟩
/-- name = f(.., a written number): behind it a token is out -/
theorem pss_fnT {i k : Nat} {x f : Str} {ps : List Str} {sp : Sp} {e : Expr} {es : List Expr} {ta : TA} {p pos' pos2 pos : Pos} (F : FnAt X.prog X.w X.K X.mg X.base CX0 k f ps sp) (hr : Room k X.A) (hg : Gl X f) (ha : PA1 X (e :: es) ta)
    (hN : X.N.Nodup) (hi : X.N[i]? = some x) (hx : Loc X.env.scope x) (h2 : PSsT X rest u)
    (hdb : (f == ("__debug__" : Str)) = false := by decide) (he : starEach (e :: es) X.env = (false, eval e X.env) :: starEach es X.env := by rfl) (hpl : (backTo pos2 (starEach es X.env)).any (·.1) = false := by rfl)
    (hs : swapsWith (.Call (.Name f p) (e :: es) [] pos2) (some (.Name x pos')) pos.line X.env = pure false := by rfl) (hf : X.fn x = true ∨ X.env.scope.names.lookup x = some .local := by first | exact .inl rfl | exact .inr rfl | assumption) :
    PSs X (.Assign [.Name x pos'] (.Call (.Name f p) (e :: es) [] pos2) pos :: rest) (tSeq (tAsg (tCall sp [] E0 ta) (gName i)) u) := by
  obtain ⟨fa, fd, ⟨hm, _⟩, hk, hb, F⟩ := F
  refine ⟨fun pins s σ H D I h => ?_⟩
  refine wpAny_execs_cons (wpAny_Assign_Name ?_ hs)
  refine wpAny_Call_Name_kw (ld_glob I hg hm ?_ hdb)
  refine PySem.W.callWith_K (h₀ := X.base) I.ok.mod.kin hk (thn (ha pos2 pins s σ H _ I h) fun us s1 ⟨k1, vs, H1, I1, r, q⟩ => ⟨I1.kIn, ?_⟩) he hpl
  refine thnT (run_fn F hr (binds_of hb) .nil pass0 I1 r q) fun v s2 k2 ⟨y, H2, I2, ry, q2⟩ => ?_
  refine thnT (store_ok (Q := fun _ s3 => Inv X pins (σ.set i (some y)) H2 s3) I2 hN hi hx ry (fun _ I3 => I3) hf) fun _ s3 k3 I3 => ?_
  exact h2 pins s3 _ H2 D (Nat.le_trans k1 (Nat.le_trans k2 k3)) I3 q2
/-- for, one token out, the body too -/
theorem pst_forT {tg iter : Expr} {body : List Stmt} {wi : TI} {g : TG} {tb : TS} {pos : Pos} (hp : PassesOwn (model X.prog X.w) X.A X.env X.xe) (hc : X.calm = true) (hi : PI X tg iter wi) (hg : PG X tg g) (hb : PSsT X body tb)
    (hs : ∀ x, foldedSetIterable iter X.env x = pure x := by intro _; rfl) : PST X (.For tg iter body [] pos) (tFor wi g tb) := by
  intro pins s σ H D h0 I h
  refine wpAny_For (thnT (hi.run pins s σ H _ I h) fun v s1 k1 h1 => thnT h1 fun itv s2 k2 h2 => ?_) hs
  obtain ⟨it, fp, tn, J, H2, e, I2, T, st2, f2, W, ⟨m0, w0⟩, turn⟩ := h2
  subst e
  have h02 : 1 ≤ s2.toks := Nat.le_trans h0 (Nat.le_trans k1 k2)
  have stat : ∀ {H' : Hp}, (∀ b ∈ fp, H' b = none) → ∀ b ∈ fp, FpOk X pins H' b := fun hn b hb => ⟨hn b hb, (f2 b hb).2⟩
  refine codeAny_forLoop_any (fun n s' => ∃ i σ' H', 1 ≤ s'.toks ∧ Inv X pins σ' H' s' ∧ tn i s'.heap ∧ (∀ b ∈ fp, H' b = none) ∧ W i n σ' H') ?_ m0 ⟨0, σ, H2, h02, I2, st2, fun b hb => (f2 b hb).1, w0⟩
  rintro n s3 ⟨i, σ3, H3, t3, I3, st3, fr3, w3⟩
  rcases turn i n σ3 H3 w3 with ⟨stop, qn⟩ | ⟨go, N, hN, step⟩
  · refine wpAny_passesOwn hp (thn (T.done X rfl rfl rfl hc i pins s3 σ3 H3 X.xe I3 (stat fr3) st3 stop) fun r s4 ⟨hr, I4⟩ => ?_)
    subst hr
    exact wpAny_execs_nil ⟨σ3, H3, I4, qn⟩
  · refine wpAny_passesOwn hp (thnT (T.item X rfl rfl rfl hc i pins s3 σ3 H3 X.xe I3 (stat fr3) st3 go) fun r s4 k4 ⟨u, hr, h4⟩ => ?_)
    subst hr
    refine wpAny_passesOwn hp (thnT h4 fun _ s5 k5 ⟨x, H5, I5, r5, y5, st5, fr5⟩ => ?_)
    have I5' := I5.pinned (stat fr5) (T.obj _ _ st5)
    refine wpAny_passesOwn hp (thnT (hg.run _ s5 σ3 H5 x u _ I5' r5 (step x H5 y5)) fun _ s6 k6 ⟨σ6, H6, I6, q6⟩ => ?_)
    have t6 : 1 ≤ s6.toks := Nat.le_trans t3 (Nat.le_trans k4 (Nat.le_trans k5 k6))
    refine wpAny_passesOwn hp (thnT (hb _ s6 σ6 H6 _ t6 I6 q6) fun f s7 k7 q7 => ?_)
    have t7 : 1 ≤ s7.toks := Nat.le_trans t6 k7
    have again : ∀ {σ7 : L2.St} {H7 : Hp}, Inv X (pins ++ pinsAt fp s5.heap) σ7 H7 s7 → N σ7 H7 → ∃ m, m < n ∧ ∃ i σ' H', 1 ≤ s7.toks ∧ Inv X pins σ' H' s7 ∧ tn i s7.heap ∧ (∀ b ∈ fp, H' b = none) ∧ W i m σ' H' := fun {σ7 H7} I7 n7 => by
      obtain ⟨m', hm, w7⟩ := hN σ7 H7 n7
      refine ⟨m', hm, i + 1, σ7, H7, t7, I7.unpinned, T.keep _ _ _ st5 fun b hb o e => (I7.pin (b, o) (List.mem_append_right _ (List.mem_append_right _ (mem_pinsAt hb e)))).1, fun b hb => ?_, w7⟩
      obtain ⟨o, e, d⟩ := T.obj _ _ st5 b hb
      exact (I7.pin (b, o) (List.mem_append_right _ (List.mem_append_right _ (mem_pinsAt hb e)))).2.1
    cases f with
    | next => obtain ⟨σ7, H7, I7, n7⟩ := q7; exact again I7 n7
    | cont => obtain ⟨σ7, H7, I7, n7⟩ := q7; exact again I7 n7
    | brk => obtain ⟨σ7, H7, I7, q7⟩ := q7; exact ⟨σ7, H7, I7.unpinned, q7⟩
    | ret v => obtain ⟨x7, σ7, H7, I7, r7, q7⟩ := q7; exact ⟨x7, σ7, H7, I7.unpinned, r7, q7⟩
/-- no reader has booked a token: the module's base says so -/
theorem none_booked_of {pins : List (Addr × Obj)} {σ : L2.St} {H : Hp} {s : Shared} (hS : PySem.W.nsIn X.K cStatics sharingNotToldKey = some none) (I : Inv X pins σ H s) : NoneBooked s.heap := by
  obtain ⟨mc, hn, _⟩ := I.ok.mod.nolimit
  have hk := PySem.W.ns_none_of I.ok.mod.kin hn hS
  exact ⟨mc, hn.keeps I.bk, hk⟩
end
end DL

/-! DL39: room, ends = " " * n, [a, b]; wide.append(ends[0] + line.replace(" ", room) + ends[1]). -/
namespace DL
open PySem L2 PySem.Spec PyProof.Rows
section
variable {X : Cx} {pins : List (Addr × Obj)} {σ : L2.St} {H : Hp} {s : Shared}
/-- a local name stored: what it then holds, the token too -/
theorem store_ns {M : Model} {A : Around} {E : Value → Shared → Prop} {i : Nat} {x : Str} {v : V} {u : Value} {Q : Unit → Shared → Prop} (I : Inv X pins σ H s) (hN : X.N.Nodup) (hi : X.N[i]? = some x) (hk : X.env.scope.names.lookup x = some .local) (r : RelV v u)
    (h : ∀ s' m, Inv X pins (σ.set i (some v)) H s' → s.toks ≤ s'.toks → s'.heap.Ns X.env.locals m → m x = some u → Q () s') : wpAny M A (storeName X.env x u) Q E s := by
  obtain ⟨m, hn, hl⟩ := id I.loc
  have hcls : (X.env.scope.kind == .class || (X.env.scope.kind == .module && X.env.locals != X.env.globals)) = false := by rw [I.ok.kind]; rfl
  have hiσ : i < σ.length := by rw [I.len]; exact (List.getElem?_eq_some_iff.mp hi).1
  have cne := I.cne
  have tracked : ∀ {a : Addr} {h' : Heap}, (∃ o, s.heap.get? a = some o ∧ H a = none) → Heap.SameBut a s.heap h' → HOk X.prog X.w H h' := fun {a h'} ha hs b ob e => by
    obtain ⟨_, _, hfree⟩ := ha
    refine (I.hok b ob e).stay (fun c w' hc q => (hs.2 c ?_).trans q) (fun _ q => q) fun _ _ q => q
    rintro rfl
    rcases hc with rfl | hc
    · rw [hfree] at e; cases e
    · rw [hfree] at hc; cases hc
  refine wpAny_storeName_local hk hn (fun h' hn' hs => ?_) hcls
  obtain ⟨oL, _, _, hoL, _⟩ := id hn
  refine h _ _ ⟨I.ok, I.os, I.bare, ⟨fun b o e n hb hx => ?_, fun b o e n hb hx => ?_, I.base.free, fun b o e hx => ?_, I.base.tups, I.base.frzs, I.base.tbls⟩, ⟨_, hn', fun j y v' e1 e2 e3 => ?_⟩, fun y c e => ?_, I.free, I.freeC, fun p hp => ?_, tracked ⟨oL, hoL, I.free⟩ hs, by simpa using I.len⟩ (by first | exact Nat.le_refl _ | exact Nat.le_succ _) hn' (by simp)
  · exact (hs.2 b (Nat.ne_of_lt (Nat.lt_of_lt_of_le (Heap.lt_size e) I.ok.above))).trans (I.base.keep b o e n hb hx)
  · obtain ⟨sl, e1⟩ := I.base.slot b o e n hb hx
    exact ⟨sl, (hs.2 b (Nat.ne_of_lt (Nat.lt_of_lt_of_le (Heap.lt_size e) I.ok.above))).trans e1⟩
  · obtain ⟨o', e1⟩ := I.base.there b o e hx
    exact ⟨o', (hs.2 b (Nat.ne_of_lt (Nat.lt_of_lt_of_le (Heap.lt_size e) I.ok.above))).trans e1⟩
  · by_cases hj : j = i
    · subst hj
      rw [hi] at e1; cases e1
      rw [List.getElem?_set_self hiσ] at e2
      cases e2
      exact ⟨u, r, .inl ⟨hk, by simp⟩⟩
    · rw [List.getElem?_set_ne (Ne.symm hj)] at e2
      obtain ⟨u', r', q⟩ := hl j y v' e1 e2 e3
      refine ⟨u', r', ?_⟩
      rcases q with ⟨k, e⟩ | ⟨k, c, e, z⟩
      · refine .inl ⟨k, ?_⟩
        have : y ≠ x := fun e => hj (nodup_ix hN e1 (e ▸ hi))
        simp [this, e]
      · exact .inr ⟨k, c, e, z.sameBut hs (cne y c e)⟩
  · obtain ⟨w', z⟩ := I.cell y c e
    exact ⟨w', z.sameBut hs (cne y c e)⟩
  · obtain ⟨e, n, ne, nf, d⟩ := I.pin p hp
    exact ⟨(hs.2 p.1 ne).trans e, n, ne, nf, d⟩
end
/-- " " n times -/
def repT (n : Nat) : Str := ⟨(List.replicate n (" " : Str).cps).foldl (· ++ ·) #[]⟩
theorem repT_one : repT 1 = (" " : Str) := by decide
theorem repT_len (n : Nat) : (repT n).length = n := by
  have e : repT n = SX.S (List.replicate n [32]).flatten := by
    have := rep_S [32] n
    have e2 : SX.S [32] = (" " : Str) := by decide
    rw [e2] at this
    exact this
  rw [e, SX.S_len]
  simp
def tPair (iR iE iL iW : Nat) (tn tE : TE) : TS := fun D σ H => tn σ H fun vn H1 => ∃ n : Nat, vn = .int (n : Int) ∧ 1 ≤ n ∧ n ≤ 1000 ∧ tE σ H1 fun ve H2 =>
  ∃ (aE aW : Addr) (y0 y1 l : Str) (ws : List V), ve = .ref aE ∧ H2 aE = some (.lst [.str y0, .str y1]) ∧ σ[iL]? = some (some (.str l)) ∧ σ[iW]? = some (some (.ref aW)) ∧ H2 aW = some (.lst ws) ∧ ws.length < sizeLine ∧
    l.length ≤ 1000 ∧ y0.length ≤ 1000 ∧ y1.length ≤ 1000 ∧ D.nx ((σ.set iE (some ve)).set iR (some (.str (repT n)))) (upd H2 aW (.lst (ws ++ [.str (y0 ++ Txt.replace l " " (repT n) ++ y1)])))
section
variable {X : Cx}
/-- " " * n: the text, its token a new one -/
theorem mul_room {n : Nat} {t u : Tok} {s : Shared} {Q : Value → Shared → Prop} {E : Value → Shared → Prop} (h1 : 1 ≤ n) (hn : n ≤ 1000) (ht : t ≠ 0) (hl : t < s.toks) (h : ∀ tk kk, tk ≠ 0 → tk < kk → s.toks ≤ kk → Q (.str (repT n) tk) { s with toks := kk }) :
    wpAny (model X.prog X.w) X.A (binaryOp .Mult (.str " " t) (.int (n : Int) u)) Q E s := by
  have hz : (" " : Str).length * n ≤ 1000 := by
    have : (" " : Str).length = 1 := by decide
    rw [this]; omega
  have l1 : (" " : Str).length = 1 := by decide
  refine PySem.P.mul_str (by rw [decide_eq_false (by omega), decide_eq_false (by omega)]; rfl) (fun _ _ => ?_) (fun _ _ => ?_) ?_
  · have h3 : (1000 : Int) ≤ (2 ^ 63 - 1) / n := by
      rw [Int.le_ediv_iff_mul_le (by omega)]
      omega
    rw [l1]
    omega
  · show PySem.Builtin.Str.tooLong _ = false
    unfold PySem.Builtin.Str.tooLong
    rw [sizeLine_eq, Int.toNat_natCast]
    exact decide_eq_false (by omega)
  · have e1 : ¬ ((n : Int) < 1) := by omega
    rw [if_neg e1]
    by_cases hn1 : n = 1
    · subst hn1
      rw [if_pos (by decide)]
      have := h t s.toks ht hl (Nat.le_refl _)
      rw [repT_one] at this
      exact this
    · have e2 : (((n : Int) == 1) || (" " : Str).length == 0) = false := by
        rw [Bool.or_eq_false_iff]
        exact ⟨by rw [beq_eq_false_iff_ne]; omega, by decide⟩
      rw [e2, Int.toNat_natCast]
      have hlen : (repT n).length ≤ 1000 := by rw [repT_len]; exact hn
      exact ⟨by show (repT n).length ≤ _; rw [sizeLine_eq]; omega, h s.toks (s.toks + 1) (Nat.ne_of_gt (Nat.lt_of_le_of_lt (Nat.zero_le _) hl)) (Nat.lt_succ_self _) (Nat.le_succ _)⟩
theorem psst_pair {iR iE iL iW : Nat} {xR xE xL xW : Str} {eN eE : Expr} {tn tE : TE} {j0 j1 j2 j3 : Nat} {q0 q1 q2 q3 q4 q5 q6 q7 q8 q9 q10 q11 q12 q13 q14 q15 q16 q17 q18 q19 apos1 apos2 pos1 pos2 : Pos} {kt k2}
    (hS : PySem.W.nsIn X.K cStatics sharingNotToldKey = some none) (hc : X.calm = true) (hN : X.N.Nodup) (hR : X.N[iR]? = some xR) (hE : X.N[iE]? = some xE) (hL : X.N[iL]? = some xL) (hW : X.N[iW]? = some xW)
    (d1 : iR ≠ iE) (d2 : iR ≠ iL) (d3 : iR ≠ iW) (d4 : iE ≠ iL) (d5 : iE ≠ iW) (kR : X.env.scope.names.lookup xR = some .local) (kE : X.env.scope.names.lookup xE = some .local) (vL : Vis X.env.scope xL) (vW : Vis X.env.scope xW) (hn : PE X eN tn) (he : PE X eE tE)
    (hw : swappedStores [.Tuple [.Name xR q0, .Name xE q1] kt q2] (.Tuple [.BinOp (.Constant (.str " ") j0 q3) .Mult eN q4, eE] k2 q5) X.env = pure (some [xR, xE]))
    (bR : (xR == ("__debug__" : Str)) = false) (bE : (xE == ("__debug__" : Str)) = false) (bL : (xL == ("__debug__" : Str)) = false) (bW : (xW == ("__debug__" : Str)) = false) (cE : (xE == ("__classdict__" : Str)) = false) (cL : (xL == ("__classdict__" : Str)) = false) (cW : (xW == ("__classdict__" : Str)) = false)
    (hs : swapsWithSole [.Tuple [.Name xR q0, .Name xE q1] kt q2] (.Tuple [.BinOp (.Constant (.str " ") j0 q3) .Mult eN q4, eE] k2 q5) pos1.line X.env = pure false := by rfl)
    (hst : starEach [.BinOp (.Constant (.str " ") j0 q3) .Mult eN q4, eE] X.env = [(false, eval (.BinOp (.Constant (.str " ") j0 q3) .Mult eN q4) X.env), (false, eval eE X.env)] := by rfl)
    (hb1 : attributeBase (.Name xW q6) "append" X.env (eval (.Name xW q6) X.env) = eval (.Name xW q6) X.env := by rfl) (hl1 : (apos1.endLine == q7.line) = true := by rfl)
    (hb2 : attributeBase (.Name xL q8) "replace" X.env (eval (.Name xL q8) X.env) = eval (.Name xL q8) X.env := by rfl) (hl2 : (apos2.endLine == q9.line) = true := by rfl)
    (hs2 : swapsWith (.Call (.Attribute (.Name xW q6) "append" apos1) [.BinOp (.BinOp (.Subscript (.Name xE q10) (.Constant (.int 0) j1 q11) q12) .Add (.Call (.Attribute (.Name xL q8) "replace" apos2) [.Constant (.str " ") j2 q13, .Name xR q14] [] q9) q15) .Add (.Subscript (.Name xE q16) (.Constant (.int 1) j3 q17) q18) q19] [] q7) none pos2.line X.env = pure false := by rfl) :
    PSsT X [.Assign [.Tuple [.Name xR q0, .Name xE q1] kt q2] (.Tuple [.BinOp (.Constant (.str " ") j0 q3) .Mult eN q4, eE] k2 q5) pos1,
      .Expr (.Call (.Attribute (.Name xW q6) "append" apos1) [.BinOp (.BinOp (.Subscript (.Name xE q10) (.Constant (.int 0) j1 q11) q12) .Add (.Call (.Attribute (.Name xL q8) "replace" apos2) [.Constant (.str " ") j2 q13, .Name xR q14] [] q9) q15) .Add (.Subscript (.Name xE q16) (.Constant (.int 1) j3 q17) q18) q19] [] q7) pos2] (tPair iR iE iL iW tn tE) := by
  intro pins s σ H D h0 I h
  refine wpAny_execs_cons ?_
  rw [exec_Assign_arm]
  refine wpAny_bind (wpAny_standAt ?_)
  rw [hs]
  refine wpAny_bind (wpAny_pure ?_)
  rw [if_neg (by decide)]
  refine wpAny_bind (Tuple_ ?_)
  rw [hst]
  refine Calls.spliced_cons (wpAny_BinOp (Calls.Constant_str ?_))
  refine thnT (hn.run pins _ σ H _ (I.tok (s.toks + 1)) h) fun vb s1 k1 ⟨vn, H1, I1, rn, n, e1, n1, n2, p1⟩ => ?_
  subst e1
  obtain ⟨tn', e⟩ := rn
  subst e
  have k1 : s.toks + 1 ≤ s1.toks := k1
  refine mul_room (t := s.toks) n1 n2 (Nat.ne_of_gt h0) (Nat.lt_of_lt_of_le (Nat.lt_succ_self _) k1) fun tk kk htk hkk hk1 => ?_
  refine Calls.spliced_cons (thnT (he.run pins _ σ H1 _ (I1.tok kk) p1) fun vE s3 k3 ⟨ve, H2, I2, rE, aE, aW, y0, y1, l, ws, e2, hE2, hσL, hσW, hW2, hwl, ll, l0, l1, p2⟩ => Calls.spliced_nil ?_)
  subst e2
  have e3 : vE = Value.ref aE := rE
  subst e3
  have k3 : kk ≤ s3.toks := k3
  refine wpAny_newObj_type ?_ (by show 2 ≤ sizeLine; decide)
  have I3 : Inv X pins σ H2 { s3 with heap := s3.heap.push { cls := .type "tuple", data := .seq [.str (repT n) tk, .ref aE].toArray } } := I2.kept (t' := s3.toks) fun b o e => Heap.get?_push_of_some _ e
  rw [hw]
  refine wpAny_bind (wpAny_pure ?_)
  show wpAny (model X.prog X.w) X.A (do rule "assign.swapped-stores"; let items ← unpackItems (.ref s3.heap.objs.size) 2 none; assignInOrder [fun v => bindName X.env xE v, fun v => bindName X.env xR v] items.reverse; pure Flow.next) _ _ _
  refine wpAny_bind (wpAny_rule (wpAny_bind (unpackItems_tuple (items := #[.str (repT n) tk, .ref aE]) (I.ok.hd hc) (IsTup.new s3.heap _) fun h' hx' => ?_)))
  have I4 := I3.kept (h' := h') (t' := s3.toks) fun b o e => hx' b o (Nat.ne_of_lt (Heap.lt_size e)) e
  show wpAny _ _ (assignInOrder [fun v => bindName X.env xE v, fun v => bindName X.env xR v] [.ref aE, .str (repT n) tk] >>= fun _ => pure Flow.next) _ _ _
  refine wpAny_bind (assignInOrder_cons (wpAny_bindName (thnT (store_ok (v := .ref aE) (Q := fun _ s4 => Inv X pins (σ.set iE (some (.ref aE))) H2 s4) I4 hN hE (.inl kE) rfl (fun _ I5 => I5) (.inr kE)) fun _ s4 k4 I5 => ?_)))
  have k4 : s3.toks ≤ s4.toks := k4
  refine assignInOrder_cons (wpAny_bindName (store_ns (v := .str (repT n)) I5 hN hR kR ⟨tk, rfl⟩ fun s5 m5 I6 k5 hn5 hm5 => assignInOrder_nil (wpAny_pure ?_)))
  -- the second statement
  have t5 : tk < s5.toks := by have k5 : s4.toks ≤ s5.toks := k5; omega
  have σE : ((σ.set iE (some (V.ref aE))).set iR (some (.str (repT n))))[iE]? = some (some (.ref aE)) := by
    have : iE < σ.length := by rw [I2.len]; exact (List.getElem?_eq_some_iff.mp hE).1
    rw [List.getElem?_set_ne d1, List.getElem?_set_self this]
  have σL : ((σ.set iE (some (V.ref aE))).set iR (some (.str (repT n))))[iL]? = some (some (.str l)) := by rw [List.getElem?_set_ne d2, List.getElem?_set_ne d4]; exact hσL
  have σW : ((σ.set iE (some (V.ref aE))).set iR (some (.str (repT n))))[iW]? = some (some (.ref aW)) := by rw [List.getElem?_set_ne d3, List.getElem?_set_ne d5]; exact hσW
  generalize (σ.set iE (some (V.ref aE))).set iR (some (.str (repT n))) = σ5 at *
  have ends : ∀ {s' : Shared}, Inv X pins σ5 H2 s' → ∃ t0 t1, s'.heap.IsList aE #[.str y0 t0, .str y1 t1] := fun {s'} J => by
    obtain ⟨its, rv, p, _⟩ := J.list (SqL.of hE2)
    cases rv with
    | cons r0 rv =>
      cases rv with
      | cons r1 rv =>
        cases rv
        obtain ⟨t0, rfl⟩ := r0
        obtain ⟨t1, rfl⟩ := r1
        exact ⟨t0, t1, p.isList⟩
  have vE' : Vis X.env.scope xE := .inl kE
  have lr : (Txt.replace l " " (repT n)).length ≤ 1002000 := by
    have := TK.replace_len l " " (repT n)
    rw [repT_len] at this
    have h3 := Nat.mul_le_mul (show l.length + 1 ≤ 1001 by omega) n2
    omega
  refine wpAny_execs_cons (wpAny_Expr_any (thn (?_ : wpAny (model X.prog X.w) X.A (eval _ X.env) (EP X pins σ5 fun _ H' => D.nx σ5 H') X.xe s5) fun v s6 ⟨x, H6, I7, r6, q6⟩ => wpAny_execs_nil ⟨σ5, H6, I7, q6⟩) I6.quiet hs2)
  refine wpAny_Call_method_late hb1 (by rfl) hl1 rfl (raw_name hW vW I6 σW (fun v r => ?_) bW cW)
  have er : v = Value.ref aW := r
  subst er
  obtain ⟨ty1, ty2⟩ := tyV_is (T := "list") I6 (show RelV (.ref aW) (Value.ref aW) from rfl) (.inl ⟨rfl, ws, SqL.of hW2⟩)
  refine ⟨"list", _, PySem.F.plainAttrs_list, PySem.F.slot_list_append, PySem.F.type_list_append, ty1, ty2, ?_⟩
  refine Calls.callWith_builtin rfl (Calls.evalArgs_plain ?_)
  show wpAny _ _ (spliced ((false, eval _ X.env) :: backTo q7 (starEach [] X.env))) _ _ _
  refine Calls.spliced_cons (thn (?_ : wpAny (model X.prog X.w) X.A (eval _ X.env) (EP X pins σ5 fun x H' => x = .str (y0 ++ Txt.replace l " " (repT n) ++ y1) ∧ H' = H2) X.xe s5) fun v s6 ⟨x, H6, I7, r6, ex, eH⟩ => Calls.spliced_nil ?_)
  · refine wpAny_BinOp ?_
    refine thn (?_ : wpAny (model X.prog X.w) X.A (eval _ X.env) (EP X pins σ5 fun x H' => x = .str (y0 ++ Txt.replace l " " (repT n)) ∧ H' = H2) X.xe s5) fun v s6 ⟨x, H6, I7, r6, ex, eH⟩ => ?_
    · refine wpAny_BinOp ?_
      obtain ⟨t0, t1, hl0⟩ := ends I6
      refine thnT (raw_ix (w := .str y0 t0) (Q := fun v s' => v = .str y0 t0 ∧ ∃ tk', s' = { s5 with toks := tk' }) hE vE' I6 σE hl0 (by omega) (by omega) rfl (fun tk' => ⟨rfl, tk', rfl⟩) (fun _ _ => rfl) bE cE) fun v s6 k6 ⟨ev, tk6, es⟩ => ?_
      subst ev
      subst es
      have k6 : s5.toks ≤ tk6 := k6
      have I7 : Inv X pins σ5 H2 { s5 with toks := tk6 } := I6.tok tk6
      refine PySem.Call_method2 hb2 rfl hl2 (raw_name hL vL I7 σL (fun v r => ?_) bL cL)
      obtain ⟨tx, e⟩ := r
      subst e
      refine ⟨"str", _, F.plainAttrs_str, F.slot_str_replace, F.type_str_replace, typeIs_str _ _ _, (fun _ e => nomatch e), Calls.callWith_builtin rfl (Calls.evalArgs_plain (Calls.spliced_cons (Calls.Constant_str ?_)))⟩
      refine Calls.spliced_cons (wpAny_Name (wpAny_loadName_local I6.ok.kind kR hn5 hm5 (Calls.spliced_nil ?_)) bR)
      have I8 : Inv X pins σ5 H2 { s5 with toks := tk6 + 1 } := I6.tok (tk6 + 1)
      refine PySem.SC.replaceA (show tk6 ≠ 0 by omega) htk (show tk6 ≠ tk by omega) ?_ (fun t' k => ?_) (none_booked_of hS I8)
      · rw [repT_len]
        have h3 := Nat.mul_le_mul (show l.length + 1 ≤ 1001 by omega) n2
        omega
      · refine thn (op_gAdd (K := X.K) rfl pins { s5 with toks := k } σ5 H2 (.str y0) (.str (Txt.replace l " " (repT n))) _ _ (fun x H' => x = .str (y0 ++ Txt.replace l " " (repT n)) ∧ H' = H2) (I6.tok k) ⟨t0, rfl⟩ ⟨t', rfl⟩ (.inr (.inr ⟨y0, _, rfl, rfl, by rw [sizeLine_eq]; omega, rfl, rfl⟩))) fun v s' q => q
    · subst ex; subst eH
      obtain ⟨t6, e⟩ := r6
      subst e
      obtain ⟨t0, t1, hl0⟩ := ends I7
      refine raw_ix (w := .str y1 t1) hE vE' I7 σE hl0 (by omega) (by omega) rfl (fun tk' => ?_) (fun _ _ => rfl) bE cE
      refine thn (op_gAdd (K := X.K) rfl pins { s6 with toks := tk' } σ5 H6 (.str (y0 ++ Txt.replace l " " (repT n))) (.str y1) _ _ (fun x H' => x = .str (y0 ++ Txt.replace l " " (repT n) ++ y1) ∧ H' = H6) (I7.tok tk') ⟨t6, rfl⟩ ⟨t1, rfl⟩ (.inr (.inr ⟨_, y1, rfl, rfl, by rw [Str.length_append, sizeLine_eq]; omega, rfl, rfl⟩))) fun v s' q => q
  · subst ex; subst eH
    exact mt_append pins s6 σ5 H6 (.ref aW) [.str (y0 ++ Txt.replace l " " (repT n) ++ y1)] (.ref aW) [v] _ I7 rfl (.cons r6 .nil) ⟨aW, ws, _, rfl, rfl, hW2, hwl, p2⟩
end
end DL

/-! DL40: a text any number of times; the pair of statements with replace, read over data. -/
namespace DL
open PySem L2 PySem.Spec PyProof.Rows
open SX (S)
section
variable {K : PySem.W.Frag} {e : Ent} {ρ : Rho} {M : List MO} {te ta tb tn tE : TE} {Q : Sl → Prop} {nx bk ct : Rho → List MO → Prop} {rt : Sl → List MO → Prop}
def rMulS0 : V → V → Hp → VK → Prop := fun x y H Q => ∃ (i : Str) (n : Nat), x = .str i ∧ y = .int (n : Int) ∧ n ≤ 1000 ∧ 1 ≤ i.length ∧ i.length ≤ 1000 ∧ Q (.str ⟨(List.replicate n i.cps).foldl (· ++ ·) #[]⟩) H
theorem op_mulS0 {X : Cx} : OpR X (binaryOp .Mult) rMulS0 := by
  intro pins s σ H x y v u Q I rx ry h
  by_cases h2 : ∃ (i : Str) (n : Nat), x = .str i ∧ y = .int (n : Int) ∧ 2 ≤ n ∧ n ≤ 1000 ∧ 1 ≤ i.length ∧ i.length ≤ 1000 ∧ Q (.str ⟨(List.replicate n i.cps).foldl (· ++ ·) #[]⟩) H
  · exact op_mulS pins s σ H x y v u Q I rx ry h2
  obtain ⟨i, n, rfl, rfl, hn, h1, hl, q⟩ := h
  have hn1 : n ≤ 1 := by
    refine Nat.not_lt.mp fun z => h2 ⟨i, n, rfl, rfl, z, hn, h1, hl, q⟩
  obtain ⟨t, rfl⟩ := rx
  obtain ⟨t', rfl⟩ := ry
  have n01 : n = 0 ∨ n = 1 := by omega
  rcases n01 with rfl | rfl
  · refine PySem.P.mul_str_none (by decide) (by decide) ?_
    exact ⟨.str Str.empty, H, I.tok _, ⟨_, rfl⟩, q⟩
  · refine PySem.P.mul_str (by decide) (fun _ z => by cases z) (fun _ z => by cases z) ?_
    rw [if_neg (by decide), if_pos (by rfl)]
    have ei : (⟨(List.replicate 1 i.cps).foldl (· ++ ·) #[]⟩ : Str) = i := by
      obtain ⟨c⟩ := i
      show (⟨#[] ++ c⟩ : Str) = ⟨c⟩
      rw [Array.empty_append]
    rw [ei] at q
    exact ⟨.str i, H, I, ⟨t, rfl⟩, q⟩
theorem g_repS0 {l : List Nat} {n : Nat} (hn : n ≤ 1000) (h1 : 1 ≤ l.length) (hl : l.length ≤ 1000) (q : Q (.v (tx (List.replicate n l).flatten))) : EvR K rMulS0 M (.v (tx l)) (.v (.int (n : Int))) Q := fun α F H u v S0 o1 o2 k kk => by
  have o1 : u = .str (S l) := o1
  have o2 : v = .int (n : Int) := o2
  subst o1; subst o2
  refine ⟨S l, n, rfl, rfl, hn, by rw [SX.S_len]; exact h1, by rw [SX.S_len]; exact hl, ?_⟩
  rw [rep_S]
  exact kk _ F H _ .refl S0 raw_ok q
theorem repT_S (n : Nat) : repT n = S (List.replicate n 32) := by
  have := rep_S [32] n
  have e2 : SX.S [32] = (" " : Str) := by decide
  rw [e2] at this
  have e3 : (List.replicate n [32]).flatten = List.replicate n 32 := by
    induction n with
    | zero => rfl
    | succ n ih => rw [List.replicate_succ, List.replicate_succ, List.flatten_cons]; simp [ih (rep_S [32] n |>.trans rfl |> fun h => by rw [e2] at h; exact h)]
  rw [e3] at this
  exact this
theorem replace_S (l : List Nat) (n : Nat) : Txt.replace (S l) " " (repT n) = S (PySem.StrLaws.replL [32] (List.replicate n 32) l) := by
  have h := PySem.StrLaws.replace_list (x := S l) (y := (" " : Str)) (z := repT n) (by decide)
  rw [repT_S] at h
  have e1 : (" " : Str).cps.toList = [32] := by decide
  have e2 : ∀ x : List Nat, (S x).cps.toList = x := fun x => by simp [S]
  rw [e1, e2, e2] at h
  rw [repT_S, ← SX.S_tl (Txt.replace (S l) " " (S (List.replicate n 32))), h]
theorem r_pair {iR iE iL iW k : Nat} {ds : List D} {l : List Nat} (hL : ρ[iL]? = some (some (.v (tx l)))) (hW : ρ[iW]? = some (some (.l k))) (hk : M[k]? = some (.lst ds)) (hds : ds.length < 16777216) (hl : l.length ≤ 1000)
    (h : EvP K tn ρ M fun s => ∃ n : Nat, s = .v (.int (n : Int)) ∧ 1 ≤ n ∧ n ≤ 1000 ∧ EvP K tE ρ M fun s' => ∃ y0 y1 : List Nat, s' = .v (.lst [tx y0, tx y1]) ∧ y0.length ≤ 1000 ∧ y1.length ≤ 1000 ∧
      nx ((ρ.set iE (some (.v (.lst [tx y0, tx y1])))).set iR (some (.v (.str (repT n))))) (M.set k (.lst (ds ++ [tx (y0 ++ PySem.StrLaws.replL [32] (List.replicate n 32) l ++ y1)])))) :
    RunD K e (tPair iR iE iL iW tn tE) ρ M nx rt bk ct := fun X σ α F H g ok =>
  h σ α F H g.env g.sta _ fun v F1 H1 s m1 S1 o1 ⟨n, e1, n1, n2, q1⟩ => by
    subst e1
    have o1 : v = .int (n : Int) := o1
    subst o1
    refine ⟨n, rfl, n1, n2, q1 σ α F1 H1 (g.env.mono m1.ex) S1 _ fun u F2 H2 s m2 S2 o2 ⟨y0, y1, e2, l0, l1, q2⟩ => ?_⟩
    subst e2
    obtain ⟨aE, us, rfl, hE, hd⟩ := id o2
    obtain ⟨v0, r0, rfl, c0, v1, r1, rfl, c1, c2⟩ := hd
    have c0 : v0 = .str (S y0) := c0
    have c1 : v1 = .str (S y1) := c1
    have c2 : r1 = [] := c2
    subst c0; subst c1; subst c2
    have en2 := g.env.mono (m1.trans m2).ex
    obtain ⟨vl, hvl, ol⟩ := en2.at' iL _ hL
    have ol : vl = .str (S l) := ol
    subst ol
    obtain ⟨vw, hvw, p, hp, rfl⟩ := en2.at' iW _ hW
    obtain ⟨hF, ws, hws, hdw⟩ := S2.ob k _ p hk hp
    refine ⟨aE, p.1, S y0, S y1, S l, ws, rfl, S2.sub _ _ hE, hvl, hvw, hws, by rw [← hdw.length, sizeLine_eq]; exact hds, by rw [SX.S_len]; exact hl, by rw [SX.S_len]; exact l0, by rw [SX.S_len]; exact l1, ?_⟩
    rw [replace_S, SX.S_cat, SX.S_cat]
    obtain ⟨m3, S3⟩ := S2.write (m' := .lst (ds ++ [tx (y0 ++ PySem.StrLaws.replL [32] (List.replicate n 32) l ++ y1)])) (o := .lst (ws ++ [.str (S (y0 ++ PySem.StrLaws.replL [32] (List.replicate n 32) l ++ y1))])) hp hF ⟨hF, _, upd_same, hdw.append (Dens.cons (show Den K F2 (tx (y0 ++ PySem.StrLaws.replL [32] (List.replicate n 32) l ++ y1)) (.str (S (y0 ++ PySem.StrLaws.replL [32] (List.replicate n 32) l ++ y1))) from rfl) Dens.nil)⟩
    exact ok.nx _ _ F2 _ _ _ ⟨(en2.set iE o2).set iR raw_ok, S3, ((g.st.move m1).move m2).move m3⟩ (m1.trans m2).ex q2
theorem book_k {R : Prop} {h : Heap} (X : K.In h) (a : PySem.W.nsIn K cStatics sharingNotToldKey = some none) (z : PySem.W.nsIn K cStatics sharingNotToldKey = some none → R) : R := z a
end
end DL

/-! plain number theory: primes, valuations, remainders of powers -/
namespace NT
def Pr (p : Nat) : Prop := 2 ≤ p ∧ ∀ d, d ∣ p → d = 1 ∨ d = p
theorem Pr.two {p : Nat} (h : Pr p) : 2 ≤ p := h.1
theorem Pr.pos {p : Nat} (h : Pr p) : 0 < p := by have := h.1; omega
theorem Pr.cop {p n : Nat} (h : Pr p) (hn : ¬ p ∣ n) : Nat.Coprime p n := by
  have h1 := h.2 (Nat.gcd p n) (Nat.gcd_dvd_left p n)
  rcases h1 with h1 | h1
  · exact h1
  · exact absurd (h1 ▸ Nat.gcd_dvd_right p n) hn
theorem Pr.dvd_mul {p a b : Nat} (h : Pr p) (d : p ∣ a * b) : p ∣ a ∨ p ∣ b := by
  by_cases ha : p ∣ a
  · exact .inl ha
  · exact .inr ((h.cop ha).dvd_of_dvd_mul_left d)
theorem Pr.one {p : Nat} (h : Pr p) : ¬ p ∣ 1 := by
  intro d
  have := Nat.le_of_dvd (by decide) d
  have := h.1
  omega
theorem Pr.eq {p q : Nat} (hp : Pr p) (hq : Pr q) (d : p ∣ q) : p = q := by
  rcases hq.2 p d with h | h
  · have := hp.1; omega
  · exact h
/-! ### valuations -/
def vp (p n : Nat) : Nat := if h : 2 ≤ p ∧ 0 < n ∧ p ∣ n then 1 + vp p (n / p) else 0
termination_by n
decreasing_by exact Nat.div_lt_self h.2.1 (by omega)
theorem vp_no {p n : Nat} (h : ¬ p ∣ n) : vp p n = 0 := by
  rw [vp, dif_neg (fun z => h z.2.2)]
theorem vp_step {p n : Nat} (hp : 2 ≤ p) (hn : 0 < n) : vp p (p * n) = 1 + vp p n := by
  rw [vp, dif_pos ⟨hp, Nat.mul_pos (by omega) hn, Nat.dvd_mul_right p n⟩, Nat.mul_div_cancel_left n (by omega)]
theorem vp_spec {p : Nat} (hp : 2 ≤ p) : ∀ (n : Nat), 0 < n → ∃ m, n = p ^ vp p n * m ∧ ¬ p ∣ m ∧ 0 < m := by
  intro n
  induction n using Nat.strongRecOn with
  | ind n ih =>
    intro hn
    by_cases h : p ∣ n
    · obtain ⟨c, rfl⟩ := h
      have hc : 0 < c := Nat.pos_of_ne_zero (fun z => by subst z; simp at hn)
      obtain ⟨m, h1, h2, h3⟩ := ih c (by
        have : 1 * c < p * c := Nat.mul_lt_mul_of_pos_right (by omega) hc
        omega) hc
      refine ⟨m, ?_, h2, h3⟩
      rw [vp_step hp hc, Nat.pow_add, Nat.pow_one, Nat.mul_assoc, ← h1]
    · exact ⟨n, by rw [vp_no h]; simp, h, hn⟩
theorem vp_pos {p n : Nat} (hp : 2 ≤ p) (hn : 0 < n) : p ∣ n ↔ 0 < vp p n := by
  constructor
  · rintro ⟨c, rfl⟩
    have hc : 0 < c := Nat.pos_of_ne_zero (fun z => by subst z; simp at hn)
    rw [vp_step hp hc]; omega
  · intro h
    refine Classical.byContradiction fun z => ?_
    rw [vp_no z] at h; omega
end NT

namespace NT
/-! ### Fermat, Euler's powers -/
abbrev R1 (m : Nat) : List Nat := List.range' 1 m
theorem mem_R1 {m x : Nat} : x ∈ R1 m ↔ 1 ≤ x ∧ x ≤ m := by
  rw [List.mem_range'_1]; omega
theorem perm_self {m : Nat} {f : Nat → Nat} (h1 : ∀ x, 1 ≤ x → x ≤ m → 1 ≤ f x ∧ f x ≤ m) (inj : ∀ x y, 1 ≤ x → x ≤ m → 1 ≤ y → y ≤ m → f x = f y → x = y) : ((R1 m).map f).Perm (R1 m) := by
  have nd : ((R1 m).map f).Nodup := by
    rw [List.Nodup, List.pairwise_map]
    refine List.Pairwise.imp_of_mem (R := (· ≠ ·)) (fun {x y} hx hy hxy e => ?_) List.nodup_range'
    exact hxy (inj x y (mem_R1.mp hx).1 (mem_R1.mp hx).2 (mem_R1.mp hy).1 (mem_R1.mp hy).2 e)
  have sub : (R1 m).map f ⊆ R1 m := by
    intro y hy
    obtain ⟨x, hx, rfl⟩ := List.mem_map.mp hy
    exact mem_R1.mpr (h1 x (mem_R1.mp hx).1 (mem_R1.mp hx).2)
  refine (List.perm_ext_iff_of_nodup nd List.nodup_range').mpr fun y => ⟨fun h => sub h, fun h => ?_⟩
  refine Classical.byContradiction fun z => ?_
  have nd2 : (y :: (R1 m).map f).Nodup := List.nodup_cons.mpr ⟨z, nd⟩
  have := nd2.length_le_of_subset (l₂ := R1 m) (fun w hw => by
    rcases List.mem_cons.mp hw with e | e
    · rw [e]; exact h
    · exact sub e)
  simp at this
  omega
/-- congruent by p -/
abbrev Cg (p : Nat) (a b : Int) : Prop := (p : Int) ∣ a - b
theorem Cg.refl {p : Nat} (a : Int) : Cg p a a := ⟨0, by grind⟩
theorem Cg.symm {p : Nat} {a b : Int} (h : Cg p a b) : Cg p b a := by
  obtain ⟨c, hc⟩ := h
  exact ⟨-c, by grind⟩
theorem Cg.trans {p : Nat} {a b c : Int} (h : Cg p a b) (k : Cg p b c) : Cg p a c := by
  obtain ⟨x, hx⟩ := h
  obtain ⟨y, hy⟩ := k
  exact ⟨x + y, by grind⟩
theorem Cg.mul {p : Nat} {a b c d : Int} (h : Cg p a b) (k : Cg p c d) : Cg p (a * c) (b * d) := by
  obtain ⟨x, hx⟩ := h
  obtain ⟨y, hy⟩ := k
  exact ⟨x * c + b * y, by grind⟩
theorem Cg.add {p : Nat} {a b c d : Int} (h : Cg p a b) (k : Cg p c d) : Cg p (a + c) (b + d) := by
  obtain ⟨x, hx⟩ := h
  obtain ⟨y, hy⟩ := k
  exact ⟨x + y, by grind⟩
theorem Cg.sub {p : Nat} {a b c d : Int} (h : Cg p a b) (k : Cg p c d) : Cg p (a - c) (b - d) := by
  obtain ⟨x, hx⟩ := h
  obtain ⟨y, hy⟩ := k
  exact ⟨x - y, by grind⟩
theorem Cg.pow {p : Nat} {a b : Int} (h : Cg p a b) : ∀ n : Nat, Cg p (a ^ n) (b ^ n)
  | 0 => by simpa using Cg.refl 1
  | n + 1 => by rw [Int.pow_succ, Int.pow_succ]; exact (Cg.pow h n).mul h
theorem Cg.emod {p : Nat} (a : Int) : Cg p (a % p) a := by
  refine ⟨-(a / p), ?_⟩
  have := Int.emod_add_mul_ediv a p
  grind
theorem Cg.iff {p : Nat} {a b : Int} : Cg p a b ↔ a % p = b % p := by
  constructor
  · intro h; exact Int.emod_eq_emod_iff_emod_sub_eq_zero.mpr (Int.emod_eq_zero_of_dvd h)
  · intro h
    exact Int.dvd_of_emod_eq_zero (Int.emod_eq_emod_iff_emod_sub_eq_zero.mp h)
theorem Pr.dvdI {p : Nat} (hp : Pr p) {a b : Int} (h : (p : Int) ∣ a * b) : (p : Int) ∣ a ∨ (p : Int) ∣ b := by
  rw [Int.ofNat_dvd_left, Int.natAbs_mul] at h
  rcases hp.dvd_mul h with h | h
  · exact .inl (Int.ofNat_dvd_left.mpr h)
  · exact .inr (Int.ofNat_dvd_left.mpr h)
theorem Pr.oneI {p : Nat} (hp : Pr p) : ¬ (p : Int) ∣ 1 := fun h => hp.one (by have := Int.ofNat_dvd_left.mp h; simpa using this)
theorem Pr.can {p : Nat} (hp : Pr p) {a b c : Int} (hc : ¬ (p : Int) ∣ c) (h : Cg p (c * a) (c * b)) : Cg p a b := by
  have : (p : Int) ∣ c * (a - b) := by
    obtain ⟨x, hx⟩ := h
    exact ⟨x, by grind⟩
  exact (hp.dvdI this).resolve_left hc
theorem prod_cg {p : Nat} (f g : Nat → Int) (h : ∀ x, Cg p (f x) (g x)) : ∀ l : List Nat, Cg p (l.map f).prod (l.map g).prod
  | [] => by simpa using Cg.refl 1
  | x :: l => by simp only [List.map_cons, List.prod_cons]; exact (h x).mul (prod_cg f g h l)
theorem prod_scale (c : Int) (f : Nat → Int) : ∀ l : List Nat, (l.map fun x => c * f x).prod = c ^ l.length * (l.map f).prod
  | [] => by simp
  | x :: l => by simp only [List.map_cons, List.prod_cons, List.length_cons, prod_scale c f l, Int.pow_succ]; grind
theorem prod_cast : ∀ l : List Nat, ((l.prod : Nat) : Int) = (l.map fun x : Nat => (x : Int)).prod
  | [] => rfl
  | x :: l => by simp only [List.map_cons, List.prod_cons, Int.natCast_mul, prod_cast l]
theorem fac_no {p : Nat} (hp : Pr p) {m : Nat} (hm : m < p) : ∀ l : List Nat, (∀ x, x ∈ l → 1 ≤ x ∧ x ≤ m) → ¬ (p : Int) ∣ (l.map fun x : Nat => (x : Int)).prod
  | [], _ => by simpa using hp.oneI
  | x :: l, h => by
    simp only [List.map_cons, List.prod_cons]
    intro d
    rcases hp.dvdI d with d | d
    · have := Int.natCast_dvd_natCast.mp d
      have := Nat.le_of_dvd (by have := (h x (by simp)).1; omega) this
      have := (h x (by simp)).2
      omega
    · exact fac_no hp hm l (fun y hy => h y (by simp [hy])) d
theorem emod_bd {p : Nat} (hp : Pr p) {a : Int} (ha : ¬ (p : Int) ∣ a) : 1 ≤ a % (p : Int) ∧ a % (p : Int) < p := by
  have h0 : (0 : Int) < p := by have := hp.1; omega
  have h1 := Int.emod_nonneg a (Int.ne_of_gt h0)
  have h2 := Int.emod_lt_of_pos a h0
  have : a % (p : Int) ≠ 0 := fun e => ha (Int.dvd_of_emod_eq_zero e)
  omega
theorem fermat {p : Nat} (hp : Pr p) {a : Int} (ha : ¬ (p : Int) ∣ a) : Cg p (a ^ (p - 1)) 1 := by
  have hp1 := hp.1
  let f : Nat → Nat := fun x => ((a * x) % (p : Int)).toNat
  have nd : ∀ x : Nat, 1 ≤ x → x ≤ p - 1 → ¬ (p : Int) ∣ a * x := fun x h1 h2 d => by
    rcases hp.dvdI d with d | d
    · exact ha d
    · have := Nat.le_of_dvd (by omega) (Int.natCast_dvd_natCast.mp d)
      omega
  have fe : ∀ x : Nat, ((f x : Nat) : Int) = (a * x) % (p : Int) := fun x => Int.toNat_of_nonneg (Int.emod_nonneg _ (by omega))
  have P : ((R1 (p - 1)).map f).Perm (R1 (p - 1)) := perm_self (fun x h1 h2 => by
    have := emod_bd hp (nd x h1 h2)
    have := fe x
    omega) (fun x y h1 h2 h3 h4 e => by
    have e2 : (a * x) % (p : Int) = (a * y) % (p : Int) := by rw [← fe, ← fe, e]
    have c := hp.can ha (Cg.iff.mpr e2)
    have c2 := Cg.iff.mp c
    rw [Int.emod_eq_of_lt (by omega) (by omega), Int.emod_eq_of_lt (by omega) (by omega)] at c2
    omega)
  have e1 : (((R1 (p - 1)).map f).map fun x : Nat => (x : Int)).prod = ((R1 (p - 1)).map fun x : Nat => (x : Int)).prod := by
    rw [← prod_cast, ← prod_cast, P.prod_nat]
  rw [List.map_map] at e1
  have e2 : Cg p ((R1 (p - 1)).map ((fun x : Nat => (x : Int)) ∘ f)).prod ((R1 (p - 1)).map fun x : Nat => a * (x : Int)).prod := prod_cg _ _ (fun x => by
    show Cg p ((f x : Nat) : Int) _
    rw [fe]; exact Cg.emod _) _
  rw [e1, prod_scale a (fun x : Nat => (x : Int)), List.length_range'] at e2
  refine hp.can (c := ((R1 (p - 1)).map fun x : Nat => (x : Int)).prod) (fac_no hp (m := p - 1) (by omega) _ (fun x hx => mem_R1.mp hx)) ?_
  obtain ⟨x, hx⟩ := e2
  exact ⟨-x, by grind⟩
end NT

namespace NT
/-! ### squares by an odd prime, reciprocity -/
/-- Euler's power is 1 -/
def sq (p : Nat) (a : Int) : Bool := decide (Cg p (a ^ ((p - 1) / 2)) 1)
structure Od (p : Nat) : Prop where
  pr : Pr p
  odd : p % 2 = 1
theorem Od.of {p : Nat} (h : Pr p) (h2 : p ≠ 2) : Od p := ⟨h, by
  refine Classical.byContradiction fun z => ?_
  rcases h.2 2 ⟨p / 2, by omega⟩ with e | e <;> omega⟩
theorem Od.ge {p : Nat} (h : Od p) : 3 ≤ p := by have := h.pr.1; have := h.odd; omega
theorem neg1 {p : Nat} (h : Od p) : ¬ Cg p 1 (-1) := by
  intro d
  have h3 := h.ge
  have d : (p : Int) ∣ 2 := d
  have := Int.le_of_dvd (by decide) d
  omega
theorem sq_or {p : Nat} (h : Od p) {a : Int} (ha : ¬ (p : Int) ∣ a) : Cg p (a ^ ((p - 1) / 2)) 1 ∨ Cg p (a ^ ((p - 1) / 2)) (-1) := by
  have f := fermat h.pr ha
  have e : p - 1 = (p - 1) / 2 + (p - 1) / 2 := by have := h.odd; omega
  have e2 : a ^ (p - 1) = a ^ ((p - 1) / 2) * a ^ ((p - 1) / 2) := by
    have := Int.pow_add a ((p - 1) / 2) ((p - 1) / 2)
    rw [← e] at this; exact this
  have : (p : Int) ∣ (a ^ ((p - 1) / 2) - 1) * (a ^ ((p - 1) / 2) - (-1)) := by
    rw [e2] at f
    obtain ⟨c, hc⟩ := f
    exact ⟨c, by grind⟩
  exact h.pr.dvdI this
theorem sq_f {p : Nat} (h : Od p) {a : Int} (ha : ¬ (p : Int) ∣ a) : sq p a = false ↔ Cg p (a ^ ((p - 1) / 2)) (-1) := by
  unfold sq
  rw [decide_eq_false_iff_not]
  constructor
  · intro z; exact (sq_or h ha).resolve_left z
  · intro z y; exact neg1 h (y.symm.trans z)
theorem sq_t {p : Nat} {a : Int} : sq p a = true ↔ Cg p (a ^ ((p - 1) / 2)) 1 := by
  unfold sq; rw [decide_eq_true_eq]
theorem Cg.dvd {p : Nat} {a b : Int} (h : Cg p a b) : (p : Int) ∣ a ↔ (p : Int) ∣ b := by
  obtain ⟨c, hc⟩ := h
  constructor
  · rintro ⟨x, hx⟩; exact ⟨x - c, by grind⟩
  · rintro ⟨x, hx⟩; exact ⟨x + c, by grind⟩
theorem sq_cg {p : Nat} {a b : Int} (h : Cg p a b) : sq p a = sq p b := by
  have := h.pow ((p - 1) / 2)
  unfold sq
  exact decide_eq_decide.mpr ⟨fun k => this.symm.trans k, fun k => this.trans k⟩
theorem sq_mul {p : Nat} (h : Od p) {a b : Int} (ha : ¬ (p : Int) ∣ a) (hb : ¬ (p : Int) ∣ b) : sq p (a * b) = (sq p a == sq p b) := by
  have hab : ¬ (p : Int) ∣ a * b := fun d => (h.pr.dvdI d).elim ha hb
  have e : (a * b) ^ ((p - 1) / 2) = a ^ ((p - 1) / 2) * b ^ ((p - 1) / 2) := Int.mul_pow ..
  cases h1 : sq p a <;> cases h2 : sq p b
  · have := ((sq_f h ha).mp h1).mul ((sq_f h hb).mp h2)
    rw [← e] at this
    exact sq_t.mpr (by simpa using this)
  · have := ((sq_f h ha).mp h1).mul (sq_t.mp h2)
    rw [← e] at this
    exact (sq_f h hab).mpr (by simpa using this)
  · have := (sq_t.mp h1).mul ((sq_f h hb).mp h2)
    rw [← e] at this
    exact (sq_f h hab).mpr (by simpa using this)
  · have := (sq_t.mp h1).mul (sq_t.mp h2)
    rw [← e] at this
    exact sq_t.mpr (by simpa using this)
theorem sq_sq {p : Nat} (h : Od p) {a x : Int} (ha : ¬ (p : Int) ∣ a) (e : Cg p (x * x) a) : sq p a = true := by
  have hx : ¬ (p : Int) ∣ x := fun d => ha (e.dvd.mp (Int.dvd_mul_of_dvd_left d))
  rw [← sq_cg e, sq_mul h hx hx]
  simp
theorem sq_one {p : Nat} : sq p 1 = true := by
  rw [sq_t, Int.one_pow]; exact Cg.refl 1
theorem sq_mulsq {p : Nat} (h : Od p) {a b : Int} (ha : ¬ (p : Int) ∣ a) (hb : ¬ (p : Int) ∣ b) : sq p (a * (b * b)) = sq p a := by
  have hbb : ¬ (p : Int) ∣ b * b := fun d => (h.pr.dvdI d).elim hb hb
  rw [sq_mul h ha hbb, sq_sq h hbb (Cg.refl _)]
  cases sq p a <;> rfl
/-! Gauss -/
def rs (p a x : Nat) : Nat := a * x % p
def ff (p a x : Nat) : Nat := if rs p a x ≤ (p - 1) / 2 then rs p a x else p - rs p a x
def mu (p a : Nat) : Nat := ((R1 ((p - 1) / 2)).map fun x => if rs p a x ≤ (p - 1) / 2 then 0 else 1).sum
/-! Eisenstein -/
/-! counting pairs -/
end NT

namespace NT
/-! ### products of primes -/
def fac : Nat → Nat
  | 0 => 1
  | n + 1 => (n + 1) * fac n
/-! ascending lists -/
end NT

namespace NT
/-! ### symbols of two numbers by a prime -/
def vI (p : Nat) (a : Int) : Nat := vp p a.natAbs
def uI (p : Nat) (a : Int) : Int := a / ((p ^ vI p a : Nat) : Int)
/-- the characters -/
def chi (p : Nat) (u : Int) : Bool := if p = 2 then decide (u % 8 = 3 ∨ u % 8 = 5) else !sq p u
def eps (p : Nat) (u : Int) : Bool := if p = 2 then decide (u % 4 = 3) else false
def cc (p : Nat) : Bool := if p = 2 then false else decide ((p - 1) / 2 % 2 = 1)
def oI (p : Nat) (a : Int) : Bool := decide (vI p a % 2 = 1)
def hs (p : Nat) (a b : Int) : Bool := (oI p a && oI p b && cc p) ^^ (oI p b && chi p (uI p a)) ^^ (oI p a && chi p (uI p b)) ^^ (eps p (uI p a) && eps p (uI p b))
/-! ### the product formula -/
def xs (f : Nat → Bool) : List Nat → Bool
  | [] => false
  | p :: S => f p ^^ xs f S
def ng (a : Int) : Bool := decide (a < 0)
/-- the product over S and the signs -/
def pf (S : List Nat) (a b : Int) : Bool := xs (fun p => hs p a b) S ^^ (ng a && ng b)
structure Pl (S : List Nat) : Prop where
  nd : S.Nodup
  pr : ∀ p, p ∈ S → Pr p
  two : 2 ∈ S
end NT

namespace NT
/-! ### a x x + b y y = z z makes the symbol trivial -/
end NT

namespace NT
end NT

namespace NT
/-! ### few roots; a number that is no square; Tonelli's and Shanks' steps -/
def Ev : List Int → Int → Int
  | [], _ => 0
  | c :: cs, x => c + x * Ev cs x
def Dv : List Int → Int → List Int
  | [], _ => []
  | [_], _ => []
  | _ :: d :: cs, a => Ev (d :: cs) a :: Dv (d :: cs) a
theorem ev_dv : ∀ (f : List Int) (x a : Int), Ev f x - Ev f a = (x - a) * Ev (Dv f a) x
  | [], x, a => by simp [Ev, Dv]
  | [c], x, a => by simp only [Ev, Dv]; grind
  | c :: d :: cs, x, a => by
    have ih := ev_dv (d :: cs) x a
    show (c + x * Ev (d :: cs) x) - (c + a * Ev (d :: cs) a) = (x - a) * (Ev (d :: cs) a + x * Ev (Dv (d :: cs) a) x)
    generalize Ev (d :: cs) x = p at *
    generalize Ev (d :: cs) a = q at *
    generalize Ev (Dv (d :: cs) a) x = r at *
    grind
theorem dv_len : ∀ (f : List Int) (a : Int), (Dv f a).length = f.length - 1
  | [], a => rfl
  | [c], a => rfl
  | c :: d :: cs, a => by rw [Dv, List.length_cons, dv_len (d :: cs) a]; simp
theorem dv_last : ∀ (f : List Int) (a : Int), 2 ≤ f.length → (Dv f a).getLast? = f.getLast?
  | [], a, h => by simp at h
  | [c], a, h => by simp at h
  | [c, d], a, _ => by simp [Dv, Ev]
  | c :: d :: e :: cs, a, _ => by
    have ih := dv_last (d :: e :: cs) a (by simp)
    rw [Dv]
    have l1 : Dv (d :: e :: cs) a ≠ [] := by rw [Dv]; simp
    rw [List.getLast?_cons_of_ne_nil l1, ih]
    exact (List.getLast?_cons_of_ne_nil (by simp)).symm
theorem lagrange {p : Nat} (hp : Pr p) : ∀ (n : Nat) (f : List Int), f.length = n + 1 → (∀ c, f.getLast? = some c → ¬ (p : Int) ∣ c) → ∀ rs : List Int, rs.Pairwise (fun a b => ¬ (p : Int) ∣ b - a) → (∀ r, r ∈ rs → (p : Int) ∣ Ev f r) → rs.length ≤ n
  | 0, f, hf, hl, rs, _, hr => by
    obtain ⟨c, rfl⟩ := List.length_eq_one_iff.mp hf
    cases rs with
    | nil => simp
    | cons r rs =>
      have := hr r (by simp)
      simp only [Ev, Int.mul_zero, Int.add_zero] at this
      exact absurd this (hl c rfl)
  | n + 1, f, hf, hl, rs, hd, hr => by
    cases rs with
    | nil => simp
    | cons r rs =>
      have h1 := hr r (by simp)
      rw [List.pairwise_cons] at hd
      have := lagrange hp n (Dv f r) (by rw [dv_len]; omega) (by rw [dv_last f r (by omega)]; exact hl) rs hd.2 fun s hs => by
        have h2 := hr s (by simp [hs])
        have h3 : (p : Int) ∣ (s - r) * Ev (Dv f r) s := by rw [← ev_dv]; exact Int.dvd_sub h2 h1
        exact (hp.dvdI h3).resolve_left (hd.1 s hs)
      simp; omega
theorem ev_pow : ∀ (m : Nat) (x : Int), Ev (List.replicate m 0 ++ [1]) x = x ^ m
  | 0, x => by simp [Ev]
  | m + 1, x => by
    rw [List.replicate_succ, List.cons_append, Ev, ev_pow m x, Int.pow_succ]
    grind
/-- some number is no square -/
theorem nonres {p : Nat} (h : Od p) : ∃ a : Nat, 2 ≤ a ∧ a < p ∧ sq p (a : Int) = false := by
  have hp := h.pr
  have ho := h.odd
  have h3 := h.ge
  refine Classical.byContradiction fun c => ?_
  have all : ∀ a : Nat, 1 ≤ a → a ≤ p - 1 → sq p (a : Int) = true := fun a h1 h2 => by
    by_cases e : a = 1
    · subst e; exact sq_one
    · cases hs : sq p (a : Int) with
      | true => rfl
      | false => exact absurd ⟨a, by omega, by omega, hs⟩ c
  have := lagrange hp ((p - 1) / 2) ((-1) :: (List.replicate ((p - 1) / 2 - 1) 0 ++ [1])) (by simp; omega) (fun c hc => by
    rw [List.getLast?_cons_of_ne_nil (by simp), List.getLast?_append] at hc
    simp at hc
    subst hc
    exact hp.oneI) ((R1 (p - 1)).map fun x : Nat => (x : Int)) (by
    rw [List.pairwise_map]
    refine List.Pairwise.imp_of_mem (R := (· < ·)) (fun {a b} ha hb hab d => ?_) List.pairwise_lt_range'
    have a1 := mem_R1.mp ha
    have b1 := mem_R1.mp hb
    have : (b : Int) - (a : Int) = ((b - a : Nat) : Int) := by omega
    rw [this] at d
    have := Nat.le_of_dvd (by omega) (Int.natCast_dvd_natCast.mp d)
    omega) (fun r hr => by
    obtain ⟨a, ha, rfl⟩ := List.mem_map.mp hr
    have a1 := mem_R1.mp ha
    have := sq_t.mp (all a a1.1 a1.2)
    rw [Ev, ev_pow]
    have e : (a : Int) * (a : Int) ^ ((p - 1) / 2 - 1) = (a : Int) ^ ((p - 1) / 2) := by
      have : (p - 1) / 2 = ((p - 1) / 2 - 1) + 1 := by omega
      conv => rhs; rw [this, Int.pow_succ]
      grind
    rw [e]
    obtain ⟨k, hk⟩ := this
    exact ⟨k, by omega⟩)
  simp at this
  omega
theorem Cg.one_or {p : Nat} (hp : Pr p) {a : Int} (h : Cg p (a * a) 1) : Cg p a 1 ∨ Cg p a (-1) := by
  have : (p : Int) ∣ (a - 1) * (a + 1) := by
    obtain ⟨k, hk⟩ := h
    exact ⟨k, by grind⟩
  rcases hp.dvdI this with h | h
  · exact .inl h
  · exact .inr (by show (p : Int) ∣ a - -1; rwa [Int.sub_neg])
/-- a number on the way, with what is left of it -/
structure TS (p : Nat) (n f r w : Int) (m : Nat) : Prop where
  m1 : 1 ≤ m
  fsq : Cg p (f * f) (n * r)
  hw : Cg p (w ^ (2 ^ (m - 1))) (-1)
  hr : Cg p (r ^ (2 ^ (m - 1))) 1
theorem pow_two_succ (a : Int) (k : Nat) : a ^ (2 ^ (k + 1)) = (a ^ (2 ^ k)) * (a ^ (2 ^ k)) := by
  rw [Nat.pow_succ, Int.pow_mul]
  generalize a ^ 2 ^ k = t
  exact Int.pow_succ .. |>.trans (by rw [Int.pow_succ]; simp)
theorem TS.start {p : Nat} (h : Od p) {n : Int} (hn : sq p n = true) {z : Int} (hz0 : ¬ (p : Int) ∣ z) (hz : NT.sq p z = false) {part many : Nat} (hm : 1 ≤ many) (e : p - 1 = part * 2 ^ many) (ho : part % 2 = 1) {f r w : Int}
    (hf : Cg p f (n ^ ((part + 1) / 2))) (hr : Cg p r (n ^ part)) (hw : Cg p w (z ^ part)) : TS p n f r w many := by
  have e2 : (p - 1) / 2 = part * 2 ^ (many - 1) := by
    have : many = (many - 1) + 1 := by omega
    rw [this, Nat.pow_succ] at e
    rw [e, ← Nat.mul_assoc]
    omega
  refine ⟨hm, ?_, ?_, ?_⟩
  · refine (hf.mul hf).trans ?_
    refine Cg.trans ?_ ((Cg.refl n).mul hr.symm)
    have : n ^ ((part + 1) / 2) * n ^ ((part + 1) / 2) = n * n ^ part := by
      rw [← Int.pow_add]
      have : (part + 1) / 2 + (part + 1) / 2 = part + 1 := by omega
      rw [this, Int.pow_succ]; grind
    rw [this]
    exact Cg.refl _
  · refine (hw.pow _).trans ?_
    rw [← Int.pow_mul, ← e2]
    exact (sq_f h hz0).mp hz
  · refine (hr.pow _).trans ?_
    rw [← Int.pow_mul, ← e2]
    exact sq_t.mp hn
/-- the least power of two by which a number comes to 1 -/
theorem TS.least {p : Nat} {n f r w : Int} {m : Nat} (h : TS p n f r w m) {t : Nat} (ht : ∀ j, j < t → ¬ Cg p (r ^ (2 ^ j)) 1) : t ≤ m - 1 := by
  refine Nat.not_lt.mp fun c => ht (m - 1) c h.hr
theorem TS.next {p : Nat} (hp : Pr p) {n f r w : Int} {m t : Nat} (h : TS p n f r w m) (ht : ∀ j, j < t → ¬ Cg p (r ^ (2 ^ j)) 1) (h1 : Cg p (r ^ (2 ^ t)) 1) (t1 : 1 ≤ t) {s w2 r2 f2 : Int}
    (hs : Cg p s (w ^ (2 ^ (m - t - 1)))) (hf2 : Cg p f2 (f * s)) (hw2 : Cg p w2 (s * s)) (hr2 : Cg p r2 (r * w2)) : TS p n f2 r2 w2 t := by
  have tm := h.least ht
  have hm := h.m1
  have ew : Cg p w2 (w ^ (2 ^ (m - t))) := by
    refine hw2.trans ((hs.mul hs).trans ?_)
    have : m - t = (m - t - 1) + 1 := by omega
    rw [this, pow_two_succ]
    exact Cg.refl _
  have ew2 : Cg p (w2 ^ (2 ^ (t - 1))) (-1) := by
    refine (ew.pow _).trans ?_
    rw [← Int.pow_mul, ← Nat.pow_add]
    have : m - t + (t - 1) = m - 1 := by omega
    rw [this]
    exact h.hw
  have er : Cg p (r ^ (2 ^ (t - 1))) (-1) := by
    have e : t = (t - 1) + 1 := by omega
    rw [e, pow_two_succ] at h1
    exact (Cg.one_or hp h1).resolve_left (ht (t - 1) (by omega))
  refine ⟨t1, ?_, ew2, ?_⟩
  · refine (hf2.mul hf2).trans ?_
    have e1 : f * s * (f * s) = f * f * (s * s) := by grind
    rw [e1]
    refine (h.fsq.mul (hw2.symm)).trans ?_
    have e2 : n * r * w2 = n * (r * w2) := by grind
    rw [e2]
    exact (Cg.refl n).mul hr2.symm
  · refine (hr2.pow _).trans ?_
    rw [Int.mul_pow]
    exact (er.mul ew2).trans (Cg.refl 1)
theorem TS.done {p : Nat} {n f r w : Int} {m : Nat} (h : TS p n f r w m) (hr : Cg p r 1) : Cg p (f * f) n := by
  refine h.fsq.trans (((Cg.refl n).mul hr).trans ?_)
  rw [Int.mul_one]
  exact Cg.refl _
end NT

namespace NT
/-! ### grids of rows of three numbers -/
structure V3 where
  x : Int
  y : Int
  z : Int
theorem V3.eq {u v : V3} (h1 : u.x = v.x) (h2 : u.y = v.y) (h3 : u.z = v.z) : u = v := by
  cases u; cases v; simp at h1 h2 h3; subst h1; subst h2; subst h3; rfl
def dot (s u v : V3) : Int := s.x * u.x * v.x + s.y * u.y * v.y + s.z * u.z * v.z
abbrev Qd (s u : V3) : Int := dot s u u
def less (u v : V3) (t : Int) : V3 := ⟨u.x - t * v.x, u.y - t * v.y, u.z - t * v.z⟩
def det (u v w : V3) : Int := u.x * (v.y * w.z - v.z * w.y) - u.y * (v.x * w.z - v.z * w.x) + u.z * (v.x * w.y - v.y * w.x)
def near (over under : Int) : Int := (2 * over + under) / (2 * under)
structure Pos3 (s : V3) : Prop where
  x : 0 < s.x
  y : 0 < s.y
  z : 0 < s.z
theorem sqn (x : Int) : 0 ≤ x * x := by
  rcases Int.le_total 0 x with h | h
  · exact Int.mul_nonneg h h
  · exact Int.mul_nonneg_of_nonpos_of_nonpos h h
/-! two rows -/
def byTwo (s : V3) : Nat → V3 → V3 → V3 × V3
  | 0, u, v => (u, v)
  | n + 1, u, v =>
    if dot s u u > dot s v v then
      (if near (dot s v u) (dot s v v) = 0 then (v, u) else if dot s (less u v (near (dot s v u) (dot s v v))) (less u v (near (dot s v u) (dot s v v))) ≥ dot s v v then (v, less u v (near (dot s v u) (dot s v v))) else byTwo s n v (less u v (near (dot s v u) (dot s v v))))
    else
      (if near (dot s u v) (dot s u u) = 0 then (u, v) else if dot s (less v u (near (dot s u v) (dot s u u))) (less v u (near (dot s u v) (dot s u u))) ≥ dot s u u then (u, less v u (near (dot s u v) (dot s u u))) else byTwo s n u (less v u (near (dot s u v) (dot s u u))))
/-- a kind of rows that goes with differences -/
def Kind3 (P : V3 → Prop) : Prop := ∀ u v t, P u → P v → P (less u v t)
structure Two3 (s : V3) (P : V3 → Prop) (w : V3) (d0 q0 : Int) (f g : V3) : Prop where
  le : Qd s f ≤ Qd s g
  in1 : -(Qd s f) ≤ 2 * dot s f g
  in2 : 2 * dot s f g ≤ Qd s f
  p1 : P f
  p2 : P g
  dt : det f g w = d0 ∨ det f g w = -d0
  sum : Qd s f + Qd s g ≤ q0
/-! three rows -/
def pm : List (Int × Int) := [(-1, -1), (-1, 0), (-1, 1), (0, -1), (0, 0), (0, 1), (1, -1), (1, 0), (1, 1)]
def cand (f g w : V3) (i j : Int) : List V3 := pm.map fun p => less (less w f (i + p.1)) g (j + p.2)
def minBy (s : V3) (best : Option V3) (r : V3) : Option V3 := match best with
  | none => some r
  | some b => if dot s r r < dot s b b then some r else some b
def iOf (s f g w : V3) : Int := near (dot s f w * dot s g g - dot s g w * dot s f g) (dot s f f * dot s g g - dot s f g * dot s f g)
def jOf (s f g w : V3) : Int := near (dot s g w * dot s f f - dot s f w * dot s f g) (dot s f f * dot s g g - dot s f g * dot s f g)
def short (s f g w : V3) : V3 := ((cand f g w (iOf s f g w) (jOf s f g w)).foldl (minBy s) none).getD w
end NT

namespace NT
/-! ### a short row -/
def gram (Q1 Q2 Q3 m p q : Int) : Int := Q1 * Q2 * Q3 + 2 * (p * q * m) - Q1 * (q * q) - Q2 * (p * p) - Q3 * (m * m)
end NT

namespace NT
/-! ### the short base; grids made narrower -/
def fuel2 (s u v : V3) : Nat := (Qd s u + Qd s v).toNat + 1
def two (s u v : V3) : V3 × V3 := byTwo s (fuel2 s u v) u v
def shBase (s : V3) : Nat → V3 → V3 → V3 → V3 × V3 × V3
  | 0, u, v, w => (u, v, w)
  | n + 1, u, v, w =>
    if Qd s (short s (two s u v).1 (two s u v).2 w) ≥ Qd s (two s u v).2 then ((two s u v).1, (two s u v).2, short s (two s u v).1 (two s u v).2 w)
    else shBase s n (two s u v).1 (short s (two s u v).1 (two s u v).2 w) (two s u v).2
structure Sh3 (s : V3) (P : V3 → Prop) (d2 q0 : Int) (f : V3) : Prop where
  p : P f
  ne : ¬ (f.x = 0 ∧ f.y = 0 ∧ f.z = 0)
  bd : 3 * (Qd s f * Qd s f * Qd s f) ≤ 8 * (s.x * s.y * s.z * d2)
/-! rules -/
def val (k u : V3) : Int := k.x * u.x + k.y * u.y + k.z * u.z
def smul (u : V3) (t : Int) : V3 := ⟨u.x * t, u.y * t, u.z * t⟩
/-! what the rules come to -/
/-- by an odd prime that divides a -/
theorem rule_prime {p : Nat} {a b c x y z r : Int} (ha : (p : Int) ∣ a) (hr : (p : Int) ∣ b * (r * r) + c) (hyz : (p : Int) ∣ y - r * z) : (p : Int) ∣ a * (x * x) + b * (y * y) + c * (z * z) := by
  obtain ⟨i, hi⟩ := ha
  obtain ⟨j, hj⟩ := hr
  obtain ⟨k, hk⟩ := hyz
  have ey : y = r * z + p * k := by omega
  have ec : c = p * j - b * (r * r) := by omega
  rw [hi, ey, ec]
  exact ⟨i * (x * x) + b * (2 * (r * z * k) + p * (k * k)) + j * (z * z), by grind⟩
end NT

namespace NT
/-! ### Mordell's step -/
structure Ways (a b c x y z X Y Z many : Int) : Prop where
  ap : 0 < a
  bp : 0 < b
  cp : 0 < c
  zp : 0 < z
  e : a * (x * x) + b * (y * y) = c * (z * z)
  w : x * Y - y * X = many
abbrev whole (a b c X Y Z : Int) : Int := a * (X * X) + b * (Y * Y) - c * (Z * Z)
abbrev both (a b c x y z X Y Z : Int) : Int := a * (x * X) + b * (y * Y) - c * (z * Z)
def stp (W B t T : Int) : Int := W * t - 2 * B * T
/-- the number by which the new row can be divided -/
def cut (c : Int) : Int := if c % 2 = 1 then 2 * c else c / 2
/-- the nearest number of the right kind -/
def pick2 (over under odd : Int) : Int := 2 * ((over - odd * under + under) / (2 * under)) + odd
end NT

namespace NT
/-! ### square roots by a prime, as computed -/
def lstO (p : Nat) : Nat → Nat → Nat
  | 0, a => a
  | n + 1, a => if sq p (a : Int) = true then lstO p n (a + 1) else a
theorem lstO_ok {p : Nat} : ∀ (n a b : Nat), a ≤ b → b < a + n → sq p (b : Int) = false → sq p (lstO p n a : Nat) = false ∧ a ≤ lstO p n a ∧ lstO p n a ≤ b
  | 0, a, b, h1, h2, _ => by omega
  | n + 1, a, b, h1, h2, hb => by
    unfold lstO
    by_cases c : sq p (a : Int) = true
    · rw [if_pos c]
      have : a ≠ b := by rintro rfl; rw [hb] at c; cases c
      obtain ⟨x, y, z⟩ := lstO_ok n (a + 1) b (by omega) (by omega) hb
      exact ⟨x, by omega, z⟩
    · rw [if_neg c]
      exact ⟨by simpa using c, Nat.le_refl _, h1⟩
def oddF (p : Nat) : Nat := lstO p p 2
theorem oddF_ok {p : Nat} (h : Od p) : sq p (oddF p : Nat) = false ∧ 2 ≤ oddF p ∧ oddF p < p := by
  obtain ⟨b, b2, bp, hb⟩ := nonres h
  obtain ⟨x, y, z⟩ := lstO_ok p 2 b b2 (by omega) hb
  exact ⟨x, y, Nat.lt_of_le_of_lt z bp⟩
def lstT (p : Nat) : Nat → Int → Nat
  | 0, _ => 0
  | n + 1, h => if h = 1 then 0 else lstT p n (h * h % (p : Int)) + 1
def sqk (p : Nat) : Nat → Int → Int
  | 0, s => s
  | n + 1, s => sqk p n (s * s % (p : Int))
theorem sqk_cg {p : Nat} : ∀ (k : Nat) (s : Int), Cg p (sqk p k s) (s ^ (2 ^ k))
  | 0, s => by rw [sqk, Nat.pow_zero, Int.pow_succ, Int.pow_zero, Int.one_mul]; exact Cg.refl s
  | k + 1, s => by
    rw [sqk]
    refine (sqk_cg k _).trans ?_
    refine ((Cg.emod (p := p) (s * s)).pow _).trans ?_
    rw [pow_two_succ, Int.mul_pow]
    exact Cg.refl _
theorem one_iff {p : Nat} (hp : 2 ≤ p) {h : Int} (h0 : 0 ≤ h) (h1 : h < p) : h = 1 ↔ Cg p h 1 := by
  rw [Cg.iff, Int.emod_eq_of_lt h0 h1, Int.emod_eq_of_lt (by decide) (by omega)]
theorem lst_ok {p : Nat} (hp : 2 ≤ p) {r : Int} : ∀ (n t : Nat) (h : Int), 0 ≤ h → h < p → Cg p h (r ^ (2 ^ t)) → (∀ j, j < t → ¬ Cg p (r ^ (2 ^ j)) 1) → (∃ j, j < t + n ∧ Cg p (r ^ (2 ^ j)) 1) →
    (∀ j, j < lstT p n h + t → ¬ Cg p (r ^ (2 ^ j)) 1) ∧ Cg p (r ^ (2 ^ (lstT p n h + t))) 1
  | 0, t, h, _, _, _, hn, ⟨j, hj, hc⟩ => absurd hc (hn j (by omega))
  | n + 1, t, h, h0, h1, hc, hn, hj => by
    unfold lstT
    by_cases c : h = 1
    · rw [if_pos c, Nat.zero_add]
      exact ⟨hn, hc.symm.trans ((one_iff hp h0 h1).mp c)⟩
    · rw [if_neg c]
      have hp0 : (0 : Int) < p := by omega
      have nt : ¬ Cg p (r ^ (2 ^ t)) 1 := fun z => c ((one_iff hp h0 h1).mpr (hc.trans z))
      have r' := lst_ok hp n (t + 1) (h * h % (p : Int)) (Int.emod_nonneg _ (Int.ne_of_gt hp0)) (Int.emod_lt_of_pos _ hp0) (by
        refine (Cg.emod _).trans ((hc.mul hc).trans ?_)
        rw [pow_two_succ]; exact Cg.refl _) (fun j hj => by
          by_cases e : j = t
          · subst e; exact nt
          · exact hn j (by omega)) (by obtain ⟨j, a, b⟩ := hj; exact ⟨j, by omega, b⟩)
      have e : lstT p n (h * h % (p : Int)) + 1 + t = lstT p n (h * h % (p : Int)) + (t + 1) := by omega
      rw [e]
      exact r'
theorem TS.lst {p : Nat} (hp : 2 ≤ p) {n f r w : Int} {m : Nat} (h : TS p n f r w m) (r0 : 0 ≤ r) (r1 : r < p) : (∀ j, j < lstT p m r → ¬ Cg p (r ^ (2 ^ j)) 1) ∧ Cg p (r ^ (2 ^ (lstT p m r))) 1 ∧ lstT p m r ≤ m - 1 := by
  obtain ⟨a, b⟩ := lst_ok hp m 0 r r0 r1 (by rw [Nat.pow_zero, Int.pow_succ, Int.pow_zero, Int.one_mul]; exact Cg.refl r) (fun j hj => by omega) ⟨m - 1, by have := h.m1; omega, h.hr⟩
  exact ⟨a, b, h.least a⟩
theorem TS.lst1 {p : Nat} {m : Nat} {r : Int} (hm : 1 ≤ m) (hr : r ≠ 1) : 1 ≤ lstT p m r := by
  cases m with
  | zero => omega
  | succ m => unfold lstT; rw [if_neg hr]; omega
def tsR (p : Nat) : Nat → Int → Int → Int → Nat → Int
  | 0, f, _, _, _ => f
  | k + 1, f, r, w, m => if r = 1 then f else
    tsR p k (f * sqk p (m - lstT p m r - 1) w % (p : Int)) (r * (sqk p (m - lstT p m r - 1) w * sqk p (m - lstT p m r - 1) w % (p : Int)) % (p : Int)) (sqk p (m - lstT p m r - 1) w * sqk p (m - lstT p m r - 1) w % (p : Int)) (lstT p m r)
theorem TS.step {p : Nat} (hp : Pr p) {n f r w : Int} {m : Nat} (h : TS p n f r w m) (r0 : 0 ≤ r) (r1 : r < p) (hr : r ≠ 1) :
    TS p n (f * sqk p (m - lstT p m r - 1) w % (p : Int)) (r * (sqk p (m - lstT p m r - 1) w * sqk p (m - lstT p m r - 1) w % (p : Int)) % (p : Int)) (sqk p (m - lstT p m r - 1) w * sqk p (m - lstT p m r - 1) w % (p : Int)) (lstT p m r) := by
  obtain ⟨a, b, c⟩ := h.lst hp.1 r0 r1
  exact h.next hp a b (TS.lst1 h.m1 hr) (sqk_cg _ _) (Cg.emod _) (Cg.emod _) (Cg.emod _)
theorem tsR_ok {p : Nat} (hp : Pr p) {n : Int} : ∀ (k : Nat) (f r w : Int) (m : Nat), TS p n f r w m → m ≤ k → 0 ≤ r → r < p → 0 ≤ f → f < p → Cg p (tsR p k f r w m * tsR p k f r w m) n ∧ 0 ≤ tsR p k f r w m ∧ tsR p k f r w m < p
  | 0, f, r, w, m, h, hk, _, _, _, _ => by have := h.m1; omega
  | k + 1, f, r, w, m, h, hk, r0, r1, f0, f1 => by
    unfold tsR
    by_cases c : r = 1
    · rw [if_pos c]
      exact ⟨h.done (by rw [c]; exact Cg.refl 1), f0, f1⟩
    · rw [if_neg c]
      have hp0 : (0 : Int) < p := by have := hp.1; omega
      have l := (h.lst hp.1 r0 r1).2.2
      have m1 := h.m1
      exact tsR_ok hp k _ _ _ _ (h.step hp r0 r1 c) (by omega) (Int.emod_nonneg _ (Int.ne_of_gt hp0)) (Int.emod_lt_of_pos _ hp0) (Int.emod_nonneg _ (Int.ne_of_gt hp0)) (Int.emod_lt_of_pos _ hp0)
def manyF (p : Nat) : Nat := vp 2 (p - 1)
def partF (p : Nat) : Nat := (p - 1) / 2 ^ manyF p
theorem part_ok {p : Nat} (h : Od p) : p - 1 = partF p * 2 ^ manyF p ∧ partF p % 2 = 1 ∧ 1 ≤ manyF p := by
  have h3 := h.ge
  have ho := h.odd
  obtain ⟨m, e, nd, m0⟩ := vp_spec (p := 2) (by decide) (p - 1) (by omega)
  have hm : 1 ≤ manyF p := (vp_pos (by decide) (by omega)).mp ⟨(p - 1) / 2, by omega⟩
  have pp : 0 < 2 ^ manyF p := Nat.pow_pos (by decide)
  have ep : partF p = m := by
    unfold partF
    conv => lhs; rw [e]
    exact Nat.mul_div_cancel_left _ pp
  refine ⟨?_, ?_, hm⟩
  · rw [ep, Nat.mul_comm]; exact e
  · rw [ep]; omega
def sqrtF (p : Nat) (n : Int) : Int := tsR p (manyF p) ((n % (p : Int)) ^ ((partF p + 1) / 2) % (p : Int)) ((n % (p : Int)) ^ partF p % (p : Int)) ((oddF p : Int) ^ partF p % (p : Int)) (manyF p)
theorem sqrt_start {p : Nat} (h : Od p) {n : Int} (hn : sq p n = true) : TS p n ((n % (p : Int)) ^ ((partF p + 1) / 2) % (p : Int)) ((n % (p : Int)) ^ partF p % (p : Int)) ((oddF p : Int) ^ partF p % (p : Int)) (manyF p) := by
  obtain ⟨e, ho, hm⟩ := part_ok h
  obtain ⟨z1, z2, z3⟩ := oddF_ok h
  refine TS.start h hn (z := (oddF p : Int)) (fun d => ?_) z1 hm e ho ((Cg.emod _).trans ((Cg.emod n).pow _)) ((Cg.emod _).trans ((Cg.emod n).pow _)) (Cg.emod _)
  have := Nat.le_of_dvd (by omega) (Int.natCast_dvd_natCast.mp d)
  omega
theorem sqrtF_ok {p : Nat} (h : Od p) {n : Int} (hn : sq p n = true) : Cg p (sqrtF p n * sqrtF p n) n ∧ 0 ≤ sqrtF p n ∧ sqrtF p n < p := by
  have hp0 : (0 : Int) < p := by have := h.ge; omega
  exact tsR_ok h.pr _ _ _ _ _ (sqrt_start h hn) (Nat.le_refl _) (Int.emod_nonneg _ (Int.ne_of_gt hp0)) (Int.emod_lt_of_pos _ hp0) (Int.emod_nonneg _ (Int.ne_of_gt hp0)) (Int.emod_lt_of_pos _ hp0)
end NT

namespace NT
/-! ### a grid by its rules -/
abbrev B3 := V3 × V3 × V3
def freeF (v : Int) (m : Nat) : Bool := if m = 2 ∨ m = 4 ∨ m = 8 then decide (v % 2 = 1) else !decide (v % (m : Int) = 0)
def expo (m : Nat) : Nat := if m = 4 ∨ m = 8 then m / 2 - 1 else m - 2
def invF (k u : V3) (m : Nat) : Int := (val k u % (m : Int)) ^ expo m % (m : Int)
def moreF (k u v : V3) (m : Nat) : Int := val k v % (m : Int) * invF k u m % (m : Int)
def narF (b : B3) (k : V3) (m : Nat) : B3 :=
  if freeF (val k b.1 % (m : Int)) m = true then (smul b.1 m, less b.2.1 b.1 (moreF k b.1 b.2.1 m), less b.2.2 b.1 (moreF k b.1 b.2.2 m))
  else if freeF (val k b.2.1 % (m : Int)) m = true then (less b.1 b.2.1 (moreF k b.2.1 b.1 m), smul b.2.1 m, less b.2.2 b.2.1 (moreF k b.2.1 b.2.2 m))
  else (less b.1 b.2.2 (moreF k b.2.2 b.1 m), less b.2.1 b.2.2 (moreF k b.2.2 b.2.1 m), smul b.2.2 m)
def Md (m : Nat) : Prop := m = 2 ∨ m = 4 ∨ Od m
theorem Md.two {m : Nat} (h : Md m) : 2 ≤ m := by
  rcases h with rfl | rfl | h
  · decide
  · decide
  · have := h.ge; omega
def All3 (P : V3 → Prop) (b : B3) : Prop := P b.1 ∧ P b.2.1 ∧ P b.2.2
def detB (b : B3) : Int := det b.1 b.2.1 b.2.2
def Le3 (B : Nat) (u : V3) : Prop := u.x.natAbs ≤ B ∧ u.y.natAbs ≤ B ∧ u.z.natAbs ≤ B
structure NarOk (b b' : B3) (k : V3) (m : Nat) : Prop where
  dt : detB b' = m * detB b
  rule : All3 (fun u => (m : Int) ∣ val k u) b'
  kind : ∀ P : V3 → Prop, Kind3 P → All3 P b → All3 P b'
  bd : ∀ B, All3 (Le3 B) b → All3 (Le3 (m * B)) b'
abbrev Rule := V3 × Nat
def foldR (b : B3) (rs : List Rule) : B3 := rs.foldl (fun b r => narF b r.1 r.2) b
/-- some row is free, at each rule in turn -/
def Free (b : B3) (k : V3) (m : Nat) : Prop := freeF (val k b.1 % (m : Int)) m = true ∨ freeF (val k b.2.1 % (m : Int)) m = true ∨ freeF (val k b.2.2 % (m : Int)) m = true
def Frees (b : B3) : List Rule → Prop
  | [] => True
  | r :: rs => Md r.2 ∧ Free b r.1 r.2 ∧ Frees (narF b r.1 r.2) rs
structure FoldOk (b b' : B3) (rs : List Rule) : Prop where
  dt : detB b' = ((rs.map (·.2)).prod : Nat) * detB b
  rule : ∀ r, r ∈ rs → All3 (fun u => (r.2 : Int) ∣ val r.1 u) b'
  kind : ∀ P : V3 → Prop, Kind3 P → All3 P b → All3 P b'
  bd : ∀ B, All3 (Le3 B) b → All3 (Le3 ((rs.map (·.2)).prod * B)) b'
def I3 : B3 := (⟨1, 0, 0⟩, ⟨0, 1, 0⟩, ⟨0, 0, 1⟩)
def axis (i : Nat) : V3 := if i = 0 then ⟨1, 0, 0⟩ else if i = 1 then ⟨0, 1, 0⟩ else ⟨0, 0, 1⟩
/-- 1 ahead of a place, a factor two ahead of it -/
def apart (i : Nat) (t : Int) : V3 := if i = 0 then ⟨0, t, 1⟩ else if i = 1 then ⟨1, 0, t⟩ else ⟨t, 1, 0⟩
def withp (i : Nat) : V3 := if i = 0 then ⟨1, 0, 1⟩ else if i = 1 then ⟨1, 1, 0⟩ else ⟨0, 1, 1⟩
/-- the place, the one ahead, the one two ahead -/
def at0 (a : V3) (i : Nat) : Int := if i = 0 then a.x else if i = 1 then a.y else a.z
def at1 (a : V3) (i : Nat) : Int := if i = 0 then a.z else if i = 1 then a.x else a.y
def at2 (a : V3) (i : Nat) : Int := if i = 0 then a.y else if i = 1 then a.z else a.x
def evenAt (a : V3) : Option Nat := if a.x % 2 = 0 then some 0 else if a.y % 2 = 0 then some 1 else if a.z % 2 = 0 then some 2 else none
def fourAt (a : V3) : Nat := if (at1 a 0 + at2 a 0) % 4 = 0 then 0 else if (at1 a 1 + at2 a 1) % 4 = 0 then 1 else 2
def twoR (a : V3) : List Rule := match evenAt a with
  | none => [(axis (fourAt a), 2), (apart (fourAt a) (-1), 2)]
  | some i => if (at1 a i + at2 a i) % 8 = 0 then [(apart i (-1), 4), (axis i, 2)] else [(apart i (-1), 4), (withp i, 2)]
end NT

namespace NT
/-! ### the grid of three weights without common parts -/
def restF (a : V3) (i p : Nat) : Int := -(at2 a i) * ((at1 a i % (p : Int)) ^ (p - 2) % (p : Int))
def oddRi (a : V3) (B : List Nat) (i : Nat) : List Rule := (B.filter fun p => decide (2 < p)).map fun p => (apart i (-(sqrtF p (restF a i p))), p)
def gridR (a : V3) (B0 B1 B2 : List Nat) : List Rule := twoR a ++ (oddRi a B0 0 ++ oddRi a B1 1 ++ oddRi a B2 2)
structure Fine3 (a : V3) (B0 B1 B2 : List Nat) : Prop where
  ax : a.x.natAbs = B0.prod
  ay : a.y.natAbs = B1.prod
  az : a.z.natAbs = B2.prod
  n0 : B0.Nodup
  n1 : B1.Nodup
  n2 : B2.Nodup
  p0 : ∀ p, p ∈ B0 → Pr p
  p1 : ∀ p, p ∈ B1 → Pr p
  p2 : ∀ p, p ∈ B2 → Pr p
  d01 : ∀ p, p ∈ B0 → p ∉ B1
  d02 : ∀ p, p ∈ B0 → p ∉ B2
  d12 : ∀ p, p ∈ B1 → p ∉ B2
  s0 : ∀ p, p ∈ B0 → 2 < p → sq p (-a.z * a.y) = true
  s1 : ∀ p, p ∈ B1 → 2 < p → sq p (-a.x * a.z) = true
  s2 : ∀ p, p ∈ B2 → 2 < p → sq p (-a.y * a.x) = true
  four : evenAt a = none → (at1 a (fourAt a) + at2 a (fourAt a)) % 4 = 0
  eight : ∀ i, evenAt a = some i → (at1 a i + at2 a i) % 8 = 0 ∨ (at1 a i + at2 a i + at0 a i) % 8 = 0
theorem pr_in {B : List Nat} (hp : ∀ p, p ∈ B → Pr p) {p : Nat} (h : Pr p) (d : p ∣ B.prod) : p ∈ B := by
  induction B with
  | nil => simp at d; exact absurd d (by have := h.1; omega)
  | cons q B ih =>
    rw [List.prod_cons] at d
    rcases h.dvd_mul d with d | d
    · rw [h.eq (hp q (by simp)) d]; simp
    · exact List.mem_cons_of_mem _ (ih (fun r hr => hp r (by simp [hr])) d)
theorem in_dvd {p : Nat} : ∀ {B : List Nat}, p ∈ B → p ∣ B.prod
  | q :: B, h => by
    rw [List.prod_cons]
    rcases List.mem_cons.mp h with rfl | h
    · exact Nat.dvd_mul_right _ _
    · exact Nat.dvd_mul_left_of_dvd (in_dvd h) _
theorem nd_of {a : Int} {B : List Nat} (e : a.natAbs = B.prod) (hp : ∀ p, p ∈ B → Pr p) {p : Nat} (h : Pr p) (hn : p ∉ B) : ¬ (p : Int) ∣ a := fun d => hn (pr_in hp h (by rw [← e]; exact Int.ofNat_dvd_left.mp d))
theorem inv_cg {p : Nat} (h : Od p) {u : Int} (hu : ¬ (p : Int) ∣ u) : Cg p (u * ((u % (p : Int)) ^ (p - 2) % (p : Int))) 1 := by
  have c1 : Cg p ((u % (p : Int)) ^ (p - 2) % (p : Int)) (u ^ (p - 2)) := (Cg.emod _).trans ((Cg.emod u).pow _)
  have c2 := (Cg.refl (p := p) u).mul c1
  have e2 : u * u ^ (p - 2) = u ^ (p - 1) := by
    have h3 := h.ge
    have : p - 1 = (p - 2) + 1 := by omega
    rw [this, Int.pow_succ]; grind
  rw [e2] at c2
  exact c2.trans (fermat h.pr hu)
/-- the rest is a square -/
theorem rest_sq {p : Nat} (h : Od p) {u v : Int} (hu : ¬ (p : Int) ∣ u) (hv : ¬ (p : Int) ∣ v) (hs : sq p (-u * v) = true) : sq p (-v * ((u % (p : Int)) ^ (p - 2) % (p : Int))) = true := by
  have hi := inv_cg h hu
  generalize (u % (p : Int)) ^ (p - 2) % (p : Int) = w at *
  have nw : ¬ (p : Int) ∣ w := fun d => h.pr.oneI ((Cg.dvd hi).mp (Int.dvd_mul_of_dvd_right d))
  have nvw : ¬ (p : Int) ∣ -v * w := fun d => by
    rcases h.pr.dvdI d with d | d
    · exact hv (Int.dvd_neg.mp d)
    · exact nw d
  rw [← sq_mulsq h nvw hu]
  have : Cg p (-v * w * (u * u)) (-u * v) := by
    have e : -v * w * (u * u) = (-u * v) * (u * w) := by grind
    have k := (Cg.refl (p := p) (-u * v)).mul hi
    rw [Int.mul_one] at k
    rw [e]; exact k
  rw [sq_cg this]
  exact hs
/-- a root of the rest is a rule's factor -/
theorem rest_rule {p : Nat} (h : Od p) {u v : Int} (hu : ¬ (p : Int) ∣ u) {r : Int} (hr : Cg p (r * r) (-v * ((u % (p : Int)) ^ (p - 2) % (p : Int)))) : (p : Int) ∣ u * (r * r) + v := by
  have hi := inv_cg h hu
  generalize (u % (p : Int)) ^ (p - 2) % (p : Int) = w at *
  have k := (Cg.refl (p := p) u).mul hr
  have e : u * (-v * w) = -v * (u * w) := by grind
  rw [e] at k
  have k2 := k.trans ((Cg.refl (p := p) (-v)).mul hi)
  obtain ⟨c, hc⟩ := k2
  exact ⟨c, by omega⟩
def ev3 (a u : V3) : Int := a.x * u.x * u.x + a.y * u.y * u.y + a.z * u.z * u.z
theorem ev_at (a u : V3) (i : Nat) (hi : i < 3) : ev3 a u = at0 a i * (at0 u i * at0 u i) + at1 a i * (at1 u i * at1 u i) + at2 a i * (at2 u i * at2 u i) := by
  have h3 : i = 0 ∨ i = 1 ∨ i = 2 := by omega
  unfold ev3
  rcases h3 with rfl | rfl | rfl
  · show _ = a.x * (u.x * u.x) + a.z * (u.z * u.z) + a.y * (u.y * u.y); grind
  · show _ = a.y * (u.y * u.y) + a.x * (u.x * u.x) + a.z * (u.z * u.z); grind
  · show _ = a.z * (u.z * u.z) + a.y * (u.y * u.y) + a.x * (u.x * u.x); grind
theorem val_apart (i : Nat) (hi : i < 3) (t : Int) (u : V3) : val (apart i t) u = at1 u i + t * at2 u i := by
  have h3 : i = 0 ∨ i = 1 ∨ i = 2 := by omega
  rcases h3 with rfl | rfl | rfl
  · show 0 * u.x + t * u.y + 1 * u.z = u.z + t * u.y; omega
  · show 1 * u.x + 0 * u.y + t * u.z = u.x + t * u.z; omega
  · show t * u.x + 1 * u.y + 0 * u.z = u.y + t * u.x; omega
structure At3 (a : V3) (B : List Nat) (i : Nat) : Prop where
  i3 : i < 3
  pr : ∀ p, p ∈ B → Pr p
  dv : ∀ p, p ∈ B → (p : Int) ∣ at0 a i
  u : ∀ p, p ∈ B → ¬ (p : Int) ∣ at1 a i
  v : ∀ p, p ∈ B → ¬ (p : Int) ∣ at2 a i
  s : ∀ p, p ∈ B → 2 < p → sq p (-(at1 a i) * at2 a i) = true
theorem Fine3.at {a : V3} {B0 B1 B2 : List Nat} (h : Fine3 a B0 B1 B2) : At3 a B0 0 ∧ At3 a B1 1 ∧ At3 a B2 2 := by
  have dv : ∀ {t : Int} {B : List Nat}, t.natAbs = B.prod → ∀ p, p ∈ B → (p : Int) ∣ t := fun e p hp => Int.ofNat_dvd_left.mpr (by rw [e]; exact in_dvd hp)
  refine ⟨⟨by decide, h.p0, dv h.ax, fun p hp => nd_of h.az h.p2 (h.p0 p hp) (h.d02 p hp), fun p hp => nd_of h.ay h.p1 (h.p0 p hp) (h.d01 p hp), h.s0⟩,
    ⟨by decide, h.p1, dv h.ay, fun p hp => nd_of h.ax h.p0 (h.p1 p hp) (fun z => h.d01 p z hp), fun p hp => nd_of h.az h.p2 (h.p1 p hp) (h.d12 p hp), h.s1⟩,
    ⟨by decide, h.p2, dv h.az, fun p hp => nd_of h.ay h.p1 (h.p2 p hp) (fun z => h.d12 p z hp), fun p hp => nd_of h.ax h.p0 (h.p2 p hp) (fun z => h.d02 p z hp), h.s2⟩⟩
theorem At3.od {a : V3} {B : List Nat} {i : Nat} (h : At3 a B i) {p : Nat} (hp : p ∈ B) (h2 : 2 < p) : Od p := Od.of (h.pr p hp) (by omega)
theorem At3.root {a : V3} {B : List Nat} {i : Nat} (h : At3 a B i) {p : Nat} (hp : p ∈ B) (h2 : 2 < p) : sq p (restF a i p) = true := rest_sq (h.od hp h2) (h.u p hp) (h.v p hp) (h.s p hp h2)
theorem At3.rule {a : V3} {B : List Nat} {i : Nat} (h : At3 a B i) {u : V3} (hu : ∀ r, r ∈ oddRi a B i → (r.2 : Int) ∣ val r.1 u) : ∀ p, p ∈ B → 2 < p → (p : Int) ∣ ev3 a u := fun p hp h2 => by
  have hr := hu (apart i (-(sqrtF p (restF a i p))), p) (List.mem_map.mpr ⟨p, List.mem_filter.mpr ⟨hp, decide_eq_true h2⟩, rfl⟩)
  have ho := h.od hp h2
  obtain ⟨e1, _, _⟩ := sqrtF_ok ho (h.root hp h2)
  rw [val_apart _ h.i3] at hr
  rw [ev_at a u i h.i3]
  refine rule_prime (r := sqrtF p (restF a i p)) (h.dv p hp) (rest_rule ho (h.u p hp) e1) ?_
  have : at1 u i - sqrtF p (restF a i p) * at2 u i = at1 u i + -(sqrtF p (restF a i p)) * at2 u i := by grind
  rw [this]; exact hr
end NT

namespace NT
/-! ### the grid's row comes to nought -/
structure Sh4 (s : V3) (d2 q0 : Int) (b : B3) : Prop where
  f : Qd s b.1 ≤ q0
  g : Qd s b.2.1 ≤ q0
  l : Qd s b.2.2 ≤ s.x * s.y * s.z * d2 + q0
def absV (a : V3) : V3 := ⟨a.x.natAbs, a.y.natAbs, a.z.natAbs⟩
def gridB (a : V3) (B0 B1 B2 : List Nat) : B3 := foldR I3 (gridR a B0 B1 B2)
def baseF (a : V3) (B0 B1 B2 : List Nat) : B3 := shBase (absV a) (fuel2 (absV a) (gridB a B0 B1 B2).1 (gridB a B0 B1 B2).2.1) (gridB a B0 B1 B2).1 (gridB a B0 B1 B2).2.1 (gridB a B0 B1 B2).2.2
structure GridOk (a : V3) (B0 B1 B2 : List Nat) : Prop where
  pos : Pos3 (absV a)
  dt : detB (gridB a B0 B1 B2) = 4 * (B0.prod * B1.prod * B2.prod : Nat)
  bd : All3 (Le3 (4 * (B0.prod * B1.prod * B2.prod))) (gridB a B0 B1 B2)
  ne : ¬ ((baseF a B0 B1 B2).1.x = 0 ∧ (baseF a B0 B1 B2).1.y = 0 ∧ (baseF a B0 B1 B2).1.z = 0)
  zero : ev3 a (baseF a B0 B1 B2).1 = 0
end NT

namespace NT
/-! ### greatest common divisors of rows -/
def gcdL (r : List Int) : Nat := r.foldl (fun g x => Nat.gcd g x.natAbs) 0
def lowL (r : List Int) : List Int := r.map fun x => x / (gcdL r : Int)
/-! ### numbers that come to 1 together -/
def parG : Nat → Int × Int → Int × Int → Int → Int → Int × Int
  | 0, h, _, l, _ => (h.1 * l, h.2 * l)
  | n + 1, h, t, l, r => if r = 0 then (h.1 * l, h.2 * l) else parG n t (h.1 - l / r * t.1, h.2 - l / r * t.2) r (l - l / r * r)
def parF (x y : Int) : Int × Int := parG (y.natAbs + 1) (1, 0) (0, 1) x y
structure Par (x y : Int) (h t : Int × Int) (l r : Int) : Prop where
  l0 : 0 ≤ l
  r0 : 0 ≤ r
  e1 : x * h.1 + y * h.2 = l
  e2 : x * t.1 + y * t.2 = r
  g : Nat.gcd l.natAbs r.natAbs = 1
theorem par_mod {l r : Int} (hr : r ≠ 0) (r0 : 0 ≤ r) : l - l / r * r = l % r := by
  have := Int.emod_add_mul_ediv l r
  have e : l / r * r = r * (l / r) := Int.mul_comm _ _
  omega
theorem Par.step {x y : Int} {h t : Int × Int} {l r : Int} (p : Par x y h t l r) (hr : r ≠ 0) : Par x y t (h.1 - l / r * t.1, h.2 - l / r * t.2) r (l - l / r * r) := by
  have r0 := p.r0
  have l0 := p.l0
  refine ⟨r0, ?_, p.e2, ?_, ?_⟩
  · rw [par_mod hr r0]; exact Int.emod_nonneg _ hr
  · show x * (h.1 - l / r * t.1) + y * (h.2 - l / r * t.2) = _
    have e1 := p.e1
    have e2 := p.e2
    have : x * (h.1 - l / r * t.1) + y * (h.2 - l / r * t.2) = (x * h.1 + y * h.2) - l / r * (x * t.1 + y * t.2) := by grind
    rw [this, e1, e2]
  · rw [par_mod hr r0]
    have : (l % r).natAbs = l.natAbs % r.natAbs := by
      rw [Int.natAbs_emod_of_nonneg l0]
    rw [this, Nat.gcd_comm, ← Nat.gcd_rec, Nat.gcd_comm]
    exact p.g
/-! ### the step, as computed -/
def manyC (c : Int) : Int := if c % 2 = 1 then c else c / 2
def wayX (c x y : Int) : Int := -(manyC c) * (parF x y).2
def wayY (c x y : Int) : Int := manyC c * (parF x y).1
def overF (a b c x y : Int) : Int := a * x * wayX c x y + b * y * wayY c x y
def wayZ (a b c x y z : Int) : Int := if c % 2 = 1 then pick2 (overF a b c x y) (c * z) ((a * wayX c x y + b * wayY c x y) % 2) else near (overF a b c x y) (c * z)
def wholeF (a b c x y z : Int) : Int := a * wayX c x y * wayX c x y + b * wayY c x y * wayY c x y - c * wayZ a b c x y z * wayZ a b c x y z
def bothF (a b c x y z : Int) : Int := overF a b c x y - c * z * wayZ a b c x y z
def absI (t : Int) : Int := if t < 0 then -t else t
def rowF (a b c x y z : Int) : List Int := [absI (wholeF a b c x y z * x - 2 * bothF a b c x y z * wayX c x y), absI (wholeF a b c x y z * y - 2 * bothF a b c x y z * wayY c x y), absI (wholeF a b c x y z * z - 2 * bothF a b c x y z * wayZ a b c x y z)]
/-! ### a step -/
def sqf (n : Nat) : Prop := ∀ d : Nat, d * d ∣ n → d = 1
structure Ans3 (a b c x y z : Int) : Prop where
  x0 : 0 ≤ x
  y0 : 0 ≤ y
  z0 : 0 < z
  e : a * (x * x) + b * (y * y) = c * (z * z)
  g : gcdL [x, y, z] = 1
theorem Ans3.co {a b c x y z : Int} (h : Ans3 a b c x y z) (hc : sqf c.natAbs) : Nat.gcd x.natAbs y.natAbs = 1 := by
  apply hc
  have hx : ((Nat.gcd x.natAbs y.natAbs : Nat) : Int) ∣ x := Int.ofNat_dvd_left.mpr (Nat.gcd_dvd_left _ _)
  have hy : ((Nat.gcd x.natAbs y.natAbs : Nat) : Int) ∣ y := Int.ofNat_dvd_left.mpr (Nat.gcd_dvd_right _ _)
  have hg : Nat.gcd (Nat.gcd x.natAbs y.natAbs) z.natAbs = 1 := by
    have := h.g
    unfold gcdL at this
    simpa using this
  generalize Nat.gcd x.natAbs y.natAbs = d at *
  obtain ⟨k, rfl⟩ := hx
  obtain ⟨l, rfl⟩ := hy
  have hz : ((d * d : Nat) : Int) ∣ c * (z * z) := by
    rw [← h.e]
    exact ⟨a * (k * k) + b * (l * l), by push_cast; grind⟩
  have hz : d * d ∣ c.natAbs * (z.natAbs * z.natAbs) := by
    have := Int.ofNat_dvd_left.mp hz
    rwa [Int.natAbs_mul, Int.natAbs_mul] at this
  have co : Nat.Coprime (d * d) (z.natAbs * z.natAbs) := Nat.Coprime.mul_left (Nat.Coprime.mul_right hg hg) (Nat.Coprime.mul_right hg hg)
  exact co.dvd_of_dvd_mul_right hz
def stepF (a b c : Int) (r : Int × Int × Int) : Int × Int × Int := (absI (wholeF a b c r.1 r.2.1 r.2.2 * r.1 - 2 * bothF a b c r.1 r.2.1 r.2.2 * wayX c r.1 r.2.1) / (gcdL (rowF a b c r.1 r.2.1 r.2.2) : Int), absI (wholeF a b c r.1 r.2.1 r.2.2 * r.2.1 - 2 * bothF a b c r.1 r.2.1 r.2.2 * wayY c r.1 r.2.1) / (gcdL (rowF a b c r.1 r.2.1 r.2.2) : Int), absI (wholeF a b c r.1 r.2.1 r.2.2 * r.2.2 - 2 * bothF a b c r.1 r.2.1 r.2.2 * wayZ a b c r.1 r.2.1 r.2.2) / (gcdL (rowF a b c r.1 r.2.1 r.2.2) : Int))
/-! ### down to a small answer -/
def smallG (a b c : Int) : Nat → Int × Int × Int → Int × Int × Int
  | 0, r => r
  | n + 1, r => if r.2.2 * r.2.2 > a * b then smallG a b c n (stepF a b c r) else r
theorem Ans3.small {a b c x y z : Int} (ap : 0 < a) (bp : 0 < b) (h : Ans3 a b c x y z) (cp : 0 < c) (hz : z * z ≤ a * b) : x * x ≤ b * c ∧ y * y ≤ c * a := by
  have e := h.e
  have xx := sqn x
  have yy := sqn y
  have k : c * (z * z) ≤ c * (a * b) := Int.mul_le_mul_of_nonneg_left hz (by omega)
  have k1 : 0 ≤ b * (y * y) := Int.mul_nonneg (by omega) yy
  have k2 : 0 ≤ a * (x * x) := Int.mul_nonneg (by omega) xx
  constructor
  · have : a * (x * x) ≤ a * (b * c) := by
      have : c * (a * b) = a * (b * c) := by grind
      omega
    exact Int.le_of_mul_le_mul_left this ap
  · have : b * (y * y) ≤ b * (c * a) := by
      have : c * (a * b) = b * (c * a) := by grind
      omega
    exact Int.le_of_mul_le_mul_left this bp
end NT

namespace NT
/-! ### the grid's rules, one by one -/
theorem Le3.mono {A B : Nat} {u : V3} (h : Le3 A u) (k : A ≤ B) : Le3 B u := ⟨Nat.le_trans h.1 k, Nat.le_trans h.2.1 k, Nat.le_trans h.2.2 k⟩
/-! ### how long the numbers are -/
def Lg (b : Nat) (t : Int) : Prop := t.natAbs < 2 ^ b
def Lg3 (b : Nat) (u : V3) : Prop := Lg b u.x ∧ Lg b u.y ∧ Lg b u.z
theorem Lg.mul {x y : Int} {a b : Nat} (h : Lg a x) (k : Lg b y) : Lg (a + b) (x * y) := by
  show (x * y).natAbs < _
  rw [Int.natAbs_mul, Nat.pow_add]
  exact Nat.mul_lt_mul'' h k
theorem Lg.le {x : Int} {a b : Nat} (h : Lg a x) (k : a ≤ b) : Lg b x := Nat.lt_of_lt_of_le h (Nat.pow_le_pow_right (by decide) k)
theorem Lg.add {x y : Int} {a : Nat} (h : Lg a x) (k : Lg a y) : Lg (a + 1) (x + y) := by
  show (x + y).natAbs < _
  have h : x.natAbs < 2 ^ a := h
  have k : y.natAbs < 2 ^ a := k
  rw [Nat.pow_succ]; omega
structure BaseBd (a : V3) (B0 B1 B2 : List Nat) : Prop where
  n : 4 * (B0.prod * B1.prod * B2.prod) < 2 ^ 602
  g : All3 (Lg3 602) (gridB a B0 B1 B2)
  q : Lg 1407 (Qd (absV a) (gridB a B0 B1 B2).1 + Qd (absV a) (gridB a B0 B1 B2).2.1)
  b : All3 (Lg3 903) (baseF a B0 B1 B2)
def rowsF (a : V3) (L : List V3) : List V3 := L.filter fun u => decide (¬ (u.x = 0 ∧ u.y = 0 ∧ u.z = 0) ∧ ev3 a u = 0)
end NT

namespace NT
/-! ### how long a step's numbers are -/
structure PB (b : Nat) (x y : Int) (h t : Int × Int) (l r : Int) : Prop where
  h1 : h.1.natAbs ≤ y.natAbs + 1
  h2 : h.2.natAbs ≤ x.natAbs + 1
  t1 : t.1.natAbs ≤ y.natAbs + 1
  t2 : t.2.natAbs ≤ x.natAbs + 1
  s1 : h.1.natAbs * r.natAbs + t.1.natAbs * l.natAbs ≤ y.natAbs
  s2 : h.2.natAbs * r.natAbs + t.2.natAbs * l.natAbs ≤ x.natAbs
  lb : Lg b l
  rb : Lg b r
theorem PB.step {b : Nat} {x y : Int} {h t : Int × Int} {l r : Int} (p : PB b x y h t l r) (l0 : 0 ≤ l) (r0 : 0 ≤ r) (hr : r ≠ 0) : PB b x y t (h.1 - l / r * t.1, h.2 - l / r * t.2) r (l - l / r * r) := by
  have em := par_mod (l := l) hr r0
  have m0 := Int.emod_nonneg l hr
  have m1 := Int.emod_lt_of_pos l (show 0 < r by omega)
  have q0 : 0 ≤ l / r := Int.ediv_nonneg l0 r0
  have qr : 0 ≤ l / r * r := Int.mul_nonneg q0 r0
  have el : l.natAbs = (l / r).natAbs * r.natAbs + (l - l / r * r).natAbs := by
    rw [← Int.natAbs_mul]; omega
  have key : ∀ {H T Y : Int}, H.natAbs * r.natAbs + T.natAbs * l.natAbs ≤ Y.natAbs → T.natAbs * (l - l / r * r).natAbs + (H - l / r * T).natAbs * r.natAbs ≤ Y.natAbs := fun {H T Y} k => by
    have n := Int.natAbs_sub_le H (l / r * T)
    rw [Int.natAbs_mul] at n
    rw [el] at k
    generalize (l - l / r * r).natAbs = R' at *
    generalize (H - l / r * T).natAbs = N at *
    have m := Nat.mul_le_mul_right r.natAbs n
    have e : (H.natAbs + (l / r).natAbs * T.natAbs) * r.natAbs + T.natAbs * R' = H.natAbs * r.natAbs + T.natAbs * ((l / r).natAbs * r.natAbs + R') := by grind
    omega
  have k1 := key p.s1
  have k2 := key p.s2
  have rp : 1 ≤ r.natAbs := by omega
  have up : ∀ {A N Y : Nat}, A + N * r.natAbs ≤ Y → N ≤ Y + 1 := fun {A N Y} k => by
    have : N * 1 ≤ N * r.natAbs := Nat.mul_le_mul_left _ rp
    omega
  have rb := p.rb
  refine ⟨p.t1, p.t2, up k1, up k2, k1, k2, p.rb, ?_⟩
  show Int.natAbs _ < _
  have rb : r.natAbs < 2 ^ b := rb
  omega
theorem Lg.sub {x y : Int} {a : Nat} (h : Lg a x) (k : Lg a y) : Lg (a + 1) (x - y) := by
  show (x - y).natAbs < _
  have h : x.natAbs < 2 ^ a := h
  have k : y.natAbs < 2 ^ a := k
  rw [Nat.pow_succ]; omega
theorem Lg.succ {b : Nat} {x y : Int} (h : x.natAbs ≤ y.natAbs + 1) (k : Lg b y) : Lg (b + 1) x := by
  show x.natAbs < _
  have k : y.natAbs < 2 ^ b := k
  rw [Nat.pow_succ]; omega
theorem Lg.neg {a : Nat} {x : Int} (h : Lg a x) : Lg a (-x) := by
  show (-x).natAbs < _
  rw [Int.natAbs_neg]; exact h
structure StepLg (a b c x y z : Int) : Prop where
  m : Lg 200 (manyC c)
  p1 : Lg 1108 (parF x y).1
  p2 : Lg 1108 (parF x y).2
  wx : Lg 1308 (wayX c x y)
  wy : Lg 1308 (wayY c x y)
  ov : Lg 2616 (overF a b c x y)
  un : Lg 1107 (c * z)
  wz : Lg 2617 (wayZ a b c x y z)
  wh : Lg 5440 (wholeF a b c x y z)
  bo : Lg 3730 (bothF a b c x y z)
  row : ∀ t, t ∈ rowF a b c x y z → Lg 6600 t
end NT

namespace NT
/-! ### the small row -/
def ord0 (t : Nat) : Nat := if t = 0 then 1 else 0
def ord1 (t : Nat) : Nat := if t = 2 then 1 else 2
def thirdF (a : V3) : Nat := if 0 < a.x then (if 0 < a.y then 2 else if 0 < a.z then 1 else 0) else if 0 < a.y then (if 0 < a.z then 0 else 1) else 2
def smallT (a r : V3) (t : Nat) : Int × Int × Int := smallG (absI (at0 a (ord0 t))) (absI (at0 a (ord1 t))) (absI (at0 a t)) ((at0 r t).natAbs + 1) (absI (at0 r (ord0 t)), absI (at0 r (ord1 t)), absI (at0 r t))
def placed (t : Nat) (h : Int × Int × Int) : V3 := ⟨if t = 0 then h.2.2 else h.1, if t = 0 then h.1 else if t = 1 then h.2.2 else h.2.1, if t = 2 then h.2.2 else h.2.1⟩
def smallR (a r : V3) : V3 := placed (thirdF a) (smallT a r (thirdF a))
structure Mixed (a : V3) : Prop where
  x : a.x ≠ 0
  y : a.y ≠ 0
  z : a.z ≠ 0
  p : ¬ (0 < a.x ∧ 0 < a.y ∧ 0 < a.z)
  n : ¬ (a.x < 0 ∧ a.y < 0 ∧ a.z < 0)
structure SmallOk (a u : V3) : Prop where
  x0 : 0 ≤ u.x
  y0 : 0 ≤ u.y
  z0 : 0 ≤ u.z
  e : ev3 a u = 0
  g : gcdL [u.x, u.y, u.z] = 1
  bx : u.x * u.x ≤ absI (a.y * a.z)
  yb : u.y * u.y ≤ absI (a.z * a.x)
  bz : u.z * u.z ≤ absI (a.x * a.y)
end NT

namespace NT
/-! ### rows without a common divisor -/
def gcdV (u : V3) : Nat := gcdL [u.x, u.y, u.z]
def lowV (u : V3) : V3 := ⟨u.x / (gcdV u : Int), u.y / (gcdV u : Int), u.z / (gcdV u : Int)⟩
theorem ne_gcdV {u : V3} (h : gcdV u = 1) : ¬ (u.x = 0 ∧ u.y = 0 ∧ u.z = 0) := fun ⟨h1, h2, h3⟩ => by
  unfold gcdV at h
  rw [h1, h2, h3] at h
  exact absurd h (by decide)
structure AnsV (a u : V3) : Prop where
  x0 : 0 ≤ u.x
  y0 : 0 ≤ u.y
  z0 : 0 ≤ u.z
  e : ev3 a u = 0
  g : gcdV u = 1
end NT

namespace NT
/-! ### rows up to their sign and their common divisor -/
def fstL : List Int → Int
  | [] => 0
  | x :: xs => if x ≠ 0 then x else fstL xs
def sgnL (r : List Int) : List Int := r.map fun x => if 0 < fstL r then x else -x
def normL (r : List Int) : List Int := sgnL (lowL r)
end NT

namespace NT
/-! ### two letters lead from an answer to an answer -/
def fixF (f : V3) : Nat := if f.z ≠ 0 then 2 else if f.y ≠ 0 then 1 else 0
def wayF (t : Nat) (p q : Int) : V3 := if t = 2 then ⟨p, q, 0⟩ else if t = 1 then ⟨p, 0, q⟩ else ⟨0, p, q⟩
def bil (a u v : V3) : Int := a.x * u.x * v.x + a.y * u.y * v.y + a.z * u.z * v.z
def refF (a f s : V3) : List Int := [ev3 a s * f.x - 2 * bil a f s * s.x, ev3 a s * f.y - 2 * bil a f s * s.y, ev3 a s * f.z - 2 * bil a f s * s.z]
def walkF (a f : V3) (p q : Int) : List Int := normL (refF a f (wayF (fixF f) p q))
def findF (f t : V3) (i : Nat) : Int := at0 f (fixF f) * at0 t i - at0 t (fixF f) * at0 f i
def pairF (a f t : V3) : List Int := if findF f t 0 = 0 ∧ findF f t 1 = 0 ∧ findF f t 2 = 0 then [at0 a (ord1 (fixF f)) * at0 f (ord1 (fixF f)), -at0 a (ord0 (fixF f)) * at0 f (ord0 (fixF f))] else [findF f t (ord0 (fixF f)), findF f t (ord1 (fixF f))]
def lettF (a f t : V3) : List Int := normL (pairF a f t)
/-- an answer, of any signs -/
structure AnsG (a u : V3) : Prop where
  e : ev3 a u = 0
  g : gcdV u = 1
structure Nz (a : V3) : Prop where
  x : a.x ≠ 0
  y : a.y ≠ 0
  z : a.z ≠ 0
theorem AnsG.ne {a f : V3} (h : AnsG a f) : ¬ (f.x = 0 ∧ f.y = 0 ∧ f.z = 0) := ne_gcdV h.g
theorem ref1 (a f : V3) (p q : Int) : refF a f (wayF 1 p q) = [(a.x * p * p + a.z * q * q) * f.x - 2 * (a.x * f.x * p + a.z * f.z * q) * p, (a.x * p * p + a.z * q * q) * f.y, (a.x * p * p + a.z * q * q) * f.z - 2 * (a.x * f.x * p + a.z * f.z * q) * q] := by
  show [_, _, _] = [_, _, _]
  simp [ev3, bil, wayF]
end NT

namespace NT
/-! ### the letters back -/
end NT

namespace NT
/-! ### bits of walks -/
end NT

namespace T
open PySem L2 DL
def top (i : Nat) : Stmt := PySem.Challenge.pw_squareweights_k15_whole_texts.main.body.getD i (.Pass ⟨0, 0, 0, 0⟩)
abbrev s_is_integer : Stmt := top 8
abbrev n_is_integer : List Str := ["thing", "low", "high"]
theorem sc_is_integer : FnScope n_is_integer ["thing", "low", "high"] (defScope s_is_integer) := ⟨rfl, rfl, rfl, by decide +kernel, rfl, by decide +kernel, by decide +kernel⟩
abbrev s_is_weight : Stmt := top 9
abbrev n_is_weight : List Str := ["thing", "part"]
theorem sc_is_weight : FnScope n_is_weight ["thing"] (defScope s_is_weight) := ⟨rfl, rfl, rfl, by decide +kernel, rfl, by decide +kernel, by decide +kernel⟩
abbrev s_product : Stmt := top 10
abbrev n_product : List Str := ["numbers", "found", "one"]
theorem sc_product : FnScope n_product ["numbers"] (defScope s_product) := ⟨rfl, rfl, rfl, by decide +kernel, rfl, by decide +kernel, by decide +kernel⟩
abbrev s_Form___init__ : Stmt := inClass (top 11) 0
abbrev n_Form___init__ : List Str := ["self", "weights", "index", "weight"]
theorem sc_Form___init__ : FnScope n_Form___init__ ["self", "weights"] (defScope s_Form___init__) := ⟨rfl, rfl, rfl, by decide +kernel, rfl, by decide +kernel, by decide +kernel⟩
abbrev s_Form_weights : Stmt := inClass (top 11) 1
abbrev n_Form_weights : List Str := ["self"]
theorem sc_Form_weights : FnScope n_Form_weights ["self"] (defScope s_Form_weights) := ⟨rfl, rfl, rfl, by decide +kernel, rfl, by decide +kernel, by decide +kernel⟩
abbrev s_Form_numbers : Stmt := inClass (top 11) 2
abbrev n_Form_numbers : List Str := ["self"]
theorem sc_Form_numbers : FnScope n_Form_numbers ["self"] (defScope s_Form_numbers) := ⟨rfl, rfl, rfl, by decide +kernel, rfl, by decide +kernel, by decide +kernel⟩
abbrev s_Form___len__ : Stmt := inClass (top 11) 3
abbrev n_Form___len__ : List Str := ["self"]
abbrev s_Form___eq__ : Stmt := inClass (top 11) 4
abbrev n_Form___eq__ : List Str := ["self", "other"]
theorem sc_Form___eq__ : FnScope n_Form___eq__ ["self", "other"] (defScope s_Form___eq__) := ⟨rfl, rfl, rfl, by decide +kernel, rfl, by decide +kernel, by decide +kernel⟩
abbrev s_write : Stmt := top 14
abbrev n_write : List Str := ["form", "weight", "part"]
theorem sc_write : FnScope n_write ["form"] (defScope s_write) := ⟨rfl, rfl, rfl, by decide +kernel, rfl, by decide +kernel, by decide +kernel⟩
abbrev s_part_of : Stmt := top 15
abbrev n_part_of : List Str := ["word", "figures", "sign"]
theorem sc_part_of : FnScope n_part_of ["word"] (defScope s_part_of) := ⟨rfl, rfl, rfl, by decide +kernel, rfl, by decide +kernel, by decide +kernel⟩
abbrev s_take_weight : Stmt := top 16
abbrev n_take_weight : List Str := ["words", "line", "at", "word"]
theorem sc_take_weight : FnScope n_take_weight ["words", "line"] (defScope s_take_weight) := ⟨rfl, rfl, rfl, by decide +kernel, rfl, by decide +kernel, by decide +kernel⟩
abbrev s_read : Stmt := top 17
abbrev n_read : List Str := ["text", "rows", "at", "line", "word"]
theorem sc_read : FnScope n_read ["text"] (defScope s_read) := ⟨rfl, rfl, rfl, by decide +kernel, rfl, by decide +kernel, by decide +kernel⟩
abbrev s__law_mix : Stmt := top 19
abbrev n__law_mix : List Str := ["_law_script", "_law_seed", "_law_state", "_law_cell"]
theorem sc__law_mix : FnScope n__law_mix ["_law_script", "_law_seed"] (defScope s__law_mix) := ⟨rfl, rfl, rfl, by decide +kernel, rfl, by decide +kernel, by decide +kernel⟩
abbrev s__law_next : Stmt := top 20
abbrev n__law_next : List Str := ["_law_h", "_law_cap", "_law_cell"]
theorem sc__law_next : FnScope n__law_next ["_law_h", "_law_cap"] (defScope s__law_next) := ⟨rfl, rfl, rfl, by decide +kernel, rfl, by decide +kernel, by decide +kernel⟩
abbrev s__law_alike : Stmt := top 21
abbrev n__law_alike : List Str := ["_law_found", "_law_due", "_law_k"]
theorem sc__law_alike : FnScope n__law_alike ["_law_found", "_law_due"] (defScope s__law_alike) := ⟨rfl, rfl, rfl, by decide +kernel, rfl, by decide +kernel, by decide +kernel⟩
abbrev s__law_pick : Stmt := top 22
abbrev n__law_pick : List Str := ["_law_h", "_law_things"]
theorem sc__law_pick : FnScope n__law_pick ["_law_h", "_law_things"] (defScope s__law_pick) := ⟨rfl, rfl, rfl, by decide +kernel, rfl, by decide +kernel, by decide +kernel⟩
abbrev s__law_weight : Stmt := top 23
abbrev n__law_weight : List Str := ["_law_h", "_law_k", "_law_parts", "_law_cap"]
theorem sc__law_weight : FnScope n__law_weight ["_law_h"] (defScope s__law_weight) := ⟨rfl, rfl, rfl, by decide +kernel, rfl, by decide +kernel, by decide +kernel⟩
abbrev s_law : Stmt := top 24
abbrev n_law : List Str := ["_law_script", "_law_h", "_law_turn", "_law_weights", "_law_text", "_law_wide", "_law_line", "_law_some", "_law_form", "_law_lines", "_law_found", "_law_room", "_law_ends", "_law_k", "_law_weight_here", "_law_part"]
theorem sc_law : FnScope n_law ["_law_script"] (defScope s_law) := ⟨rfl, rfl, rfl, by decide +kernel, rfl, by decide +kernel, by decide +kernel⟩
structure Adr where
  WeightError : Addr
  InvalidWeights : Addr
  InvalidText : Addr
  Form : Addr
structure Ctx (K : PySem.W.Frag) (mg : Str → Option Value) (a : Adr) : Prop where
  B : Blt mg
  c_MOST_PART : CInt mg "MOST_PART" 1000000
  c_MOST_PARTS : CInt mg "MOST_PARTS" 5
  c_SIZES : CTup K mg "SIZES" [.int (3), .int (4)]
  d_is_integer : DefAt K mg "is_integer" s_is_integer ["thing", "low", "high"]
  d_is_weight : DefAt K mg "is_weight" s_is_weight ["thing"]
  d_product : DefAt K mg "product" s_product ["numbers"]
  m_Form : mg "Form" = some (.ref a.Form)
  k_Form : ClsI K a.Form
  t_Form : ClsT K a.Form
  n_Form_rows : NoAttr K a.Form "rows"
  n_Form_sums : NoAttr K a.Form "sums"
  i_Form : InitAt K a.Form "Form.__init__" s_Form___init__ ["self", "weights"]
  g_Form_weights : Getter K a.Form "weights" "rows"
  g_Form_numbers : Getter K a.Form "numbers" "sums"
  e_Form___len__ : MethAt K a.Form "__len__" "Form.__len__" s_Form___len__ ["self"]
  e_Form___eq__ : MethAt K a.Form "__eq__" "Form.__eq__" s_Form___eq__ ["self", "other"]
  c_MOST_FIGURES : CInt mg "MOST_FIGURES" 7
  d_write : DefAt K mg "write" s_write ["form"]
  d_part_of : DefAt K mg "part_of" s_part_of ["word"]
  d_take_weight : DefAt K mg "take_weight" s_take_weight ["words", "line"]
  d_read : DefAt K mg "read" s_read ["text"]
  d__law_mix : DefAt K mg "_law_mix" s__law_mix ["_law_script", "_law_seed"]
  d__law_next : DefAt K mg "_law_next" s__law_next ["_law_h", "_law_cap"]
  d__law_alike : DefAt K mg "_law_alike" s__law_alike ["_law_found", "_law_due"]
  d__law_pick : DefAt K mg "_law_pick" s__law_pick ["_law_h", "_law_things"]
  d__law_weight : DefAt K mg "_law_weight" s__law_weight ["_law_h"]
  d_law : DefAt K mg "law" s_law ["_law_script"]
  q_book : PySem.W.nsIn K cStatics sharingNotToldKey = some none
local macro_rules | `(tactic| walk_at "n1") => `(tactic| (show ∃ i, Sl.v (D.int _) = Sl.v (D.int i) ∧ _; refine ⟨_, rfl, ?_⟩))
local macro_rules | `(tactic| walk_at "n1") => `(tactic| (show ∃ b, Sl.v (D.bl _) = Sl.v (D.bl b) ∧ _; refine ⟨_, rfl, ?_⟩))
local macro_rules | `(tactic| walk_at "n1") => `(tactic| (with_reducible show ∃ ds : List D, _ = List.map Sl.v ds ∧ _; refine ⟨[_, _, _, _, _, _, _, _, _, _, _, _], rfl, le_lit rfl, ?_⟩))
local macro_rules | `(tactic| walk_at "n1") => `(tactic| (with_reducible show ∃ ds : List D, _ = List.map Sl.v ds ∧ _; refine ⟨[_, _, _, _, _, _, _, _, _, _, _], rfl, le_lit rfl, ?_⟩))
local macro_rules | `(tactic| walk_at "n1") => `(tactic| (with_reducible show ∃ ds : List D, _ = List.map Sl.v ds ∧ _; refine ⟨[_, _, _, _, _, _, _, _, _, _], rfl, le_lit rfl, ?_⟩))
local macro_rules | `(tactic| walk_at "n1") => `(tactic| (with_reducible show ∃ ds : List D, _ = List.map Sl.v ds ∧ _; refine ⟨[_, _, _, _, _, _, _, _, _], rfl, le_lit rfl, ?_⟩))
local macro_rules | `(tactic| walk_at "n1") => `(tactic| (with_reducible show ∃ ds : List D, _ = List.map Sl.v ds ∧ _; refine ⟨[_, _, _, _, _, _, _, _], rfl, le_lit rfl, ?_⟩))
local macro_rules | `(tactic| walk_at "n1") => `(tactic| (with_reducible show ∃ ds : List D, _ = List.map Sl.v ds ∧ _; refine ⟨[_, _, _, _, _, _, _], rfl, le_lit rfl, ?_⟩))
local macro_rules | `(tactic| walk_at "n1") => `(tactic| (with_reducible show ∃ ds : List D, _ = List.map Sl.v ds ∧ _; refine ⟨[_, _, _, _, _, _], rfl, le_lit rfl, ?_⟩))
local macro_rules | `(tactic| walk_at "n1") => `(tactic| (with_reducible show ∃ ds : List D, _ = List.map Sl.v ds ∧ _; refine ⟨[_, _, _, _, _], rfl, le_lit rfl, ?_⟩))
local macro_rules | `(tactic| walk_at "n1") => `(tactic| (with_reducible show ∃ ds : List D, _ = List.map Sl.v ds ∧ _; refine ⟨[_, _, _, _], rfl, le_lit rfl, ?_⟩))
local macro_rules | `(tactic| walk_at "n1") => `(tactic| (with_reducible show ∃ ds : List D, _ = List.map Sl.v ds ∧ _; refine ⟨[_, _, _], rfl, le_lit rfl, ?_⟩))
local macro_rules | `(tactic| walk_at "n1") => `(tactic| (with_reducible show ∃ ds : List D, _ = List.map Sl.v ds ∧ _; refine ⟨[_, _], rfl, le_lit rfl, ?_⟩))
local macro_rules | `(tactic| walk_at "n1") => `(tactic| (with_reducible show ∃ ds : List D, _ = List.map Sl.v ds ∧ _; refine ⟨[_], rfl, le_lit rfl, ?_⟩))
local macro_rules | `(tactic| walk_at "n1") => `(tactic| (with_reducible show ∃ ds : List D, _ = List.map Sl.v ds ∧ _; refine ⟨[], rfl, le_lit rfl, ?_⟩))
local macro_rules | `(tactic| walk_at "n1") => `(tactic| with_reducible refine eg_name ?_)
local macro_rules | `(tactic| walk_at "n1") => `(tactic| with_reducible refine eg_cons ?_)
local macro_rules | `(tactic| walk_at "n1") => `(tactic| with_reducible refine eg_nil ?_)
local macro_rules | `(tactic| walk_at "n1") => `(tactic| with_reducible refine eg_tup rfl ?_)
local macro_rules | `(tactic| walk_at "n1") => `(tactic| with_reducible refine ec_callG ?_)
local macro_rules | `(tactic| walk_at "n1") => `(tactic| with_reducible refine ec_callP ?_)
local macro_rules | `(tactic| walk_at "n1") => `(tactic| ((with_reducible refine ei_str ?_); refine ⟨by first | assumption | constructor, ?_⟩))
local macro_rules | `(tactic| walk_at "n1") => `(tactic| ((with_reducible refine ei_lst ?_); refine ⟨by first | assumption | constructor, ?_⟩))
local macro_rules | `(tactic| walk_at "n1") => `(tactic| ((with_reducible refine ei_tuple ?_); refine ⟨by first | assumption | constructor, ?_⟩))
local macro_rules | `(tactic| walk_at "n1") => `(tactic| ((with_reducible refine ei_bool ?_); refine ⟨by first | assumption | constructor, ?_⟩))
local macro_rules | `(tactic| walk_at "n1") => `(tactic| ((with_reducible refine ei_int ?_); refine ⟨by first | assumption | constructor, ?_⟩))
local macro_rules | `(tactic| walk_at "n1") => `(tactic| with_reducible refine ev_ct ?_)
local macro_rules | `(tactic| walk_at "n1") => `(tactic| with_reducible refine ev_chain ?_)
local macro_rules | `(tactic| walk_at "n1") => `(tactic| ((with_reducible refine x_tupM ?_); refine ⟨_, rfl, ?_⟩))
local macro_rules | `(tactic| walk_at "n1") => `(tactic| with_reducible refine x_tupL ?_)
local macro_rules | `(tactic| walk_at "n1") => `(tactic| with_reducible refine ec_int1 ?_)
local macro_rules | `(tactic| walk_at "n1") => `(tactic| with_reducible refine ec_min2 ?_)
local macro_rules | `(tactic| walk_at "n1") => `(tactic| with_reducible refine ec_max2 ?_)
local macro_rules | `(tactic| walk_at "n1") => `(tactic| with_reducible refine ec_abs ?_)
local macro_rules | `(tactic| walk_at "n1") => `(tactic| ((with_reducible refine x_lenM ?_); refine ⟨_, rfl, ?_⟩))
local macro_rules | `(tactic| walk_at "n1") => `(tactic| with_reducible refine x_lenS ?_)
local macro_rules | `(tactic| walk_at "n1") => `(tactic| with_reducible refine x_lenT ?_)
local macro_rules | `(tactic| walk_at "n1") => `(tactic| with_reducible refine x_lenL ?_)
local macro_rules | `(tactic| walk_at "n1") => `(tactic| ((with_reducible refine x_ixM ?_); refine ⟨_, rfl, ?_⟩))
local macro_rules | `(tactic| walk_at "n1") => `(tactic| with_reducible refine x_ixL ?_)
local macro_rules | `(tactic| walk_at "n1") => `(tactic| with_reducible refine x_ixT ?_)
local macro_rules | `(tactic| walk_at "n1") => `(tactic| with_reducible refine g_notND ?_)
local macro_rules | `(tactic| walk_at "n1") => `(tactic| with_reducible refine g_isND ?_)
local macro_rules | `(tactic| walk_at "n1") => `(tactic| with_reducible refine g_neV rfl ?_)
local macro_rules | `(tactic| walk_at "n1") => `(tactic| with_reducible refine g_eqV rfl ?_)
local macro_rules | `(tactic| walk_at "n1") => `(tactic| with_reducible refine g_neI ?_)
local macro_rules | `(tactic| walk_at "n1") => `(tactic| with_reducible refine g_eqI ?_)
local macro_rules | `(tactic| walk_at "n1") => `(tactic| with_reducible refine g_ge ?_)
local macro_rules | `(tactic| walk_at "n1") => `(tactic| with_reducible refine g_gt ?_)
local macro_rules | `(tactic| walk_at "n1") => `(tactic| with_reducible refine g_le ?_)
local macro_rules | `(tactic| walk_at "n1") => `(tactic| with_reducible refine g_lt ?_)
local macro_rules | `(tactic| walk_at "n1") => `(tactic| with_reducible refine x_div ?_)
local macro_rules | `(tactic| walk_at "n1") => `(tactic| with_reducible refine x_mod ?_)
local macro_rules | `(tactic| walk_at "n1") => `(tactic| ((with_reducible refine x_pow ?_); refine ⟨⟨by decide, by decide, by decide⟩, ?_⟩))
local macro_rules | `(tactic| walk_at "n1") => `(tactic| ((with_reducible refine x_div ?_); refine ⟨divW (b := 60) (by decide) (by decide) (by decide), ?_⟩))
local macro_rules | `(tactic| walk_at "n1") => `(tactic| ((with_reducible refine x_mod ?_); refine ⟨by decide, ?_⟩))
local macro_rules | `(tactic| walk_at "n1") => `(tactic| with_reducible refine x_mul ?_)
local macro_rules | `(tactic| walk_at "n1") => `(tactic| with_reducible refine g_sub ?_)
local macro_rules | `(tactic| walk_at "n1") => `(tactic| with_reducible refine g_add ?_)
local macro_rules | `(tactic| walk_at "n1") => `(tactic| with_reducible refine eu_I ?_)
local macro_rules | `(tactic| walk_at "n1") => `(tactic| with_reducible refine ea_cons ?_)
local macro_rules | `(tactic| walk_at "n1") => `(tactic| with_reducible refine ea_nil ?_)
local macro_rules | `(tactic| walk_at "n1") => `(tactic| with_reducible refine eo_some ?_)
local macro_rules | `(tactic| walk_at "n1") => `(tactic| with_reducible refine eo_none ?_)
local macro_rules | `(tactic| walk_at "n1") => `(tactic| with_reducible refine ev_notV ?_)
local macro_rules | `(tactic| walk_at "n1") => `(tactic| with_reducible refine ev_orV ?_)
local macro_rules | `(tactic| walk_at "n1") => `(tactic| with_reducible refine ev_andV ?_)
local macro_rules | `(tactic| walk_at "n1") => `(tactic| with_reducible refine et_not ?_)
local macro_rules | `(tactic| walk_at "n1") => `(tactic| with_reducible refine et_or ?_)
local macro_rules | `(tactic| walk_at "n1") => `(tactic| with_reducible refine et_and ?_)
local macro_rules | `(tactic| walk_at "n1") => `(tactic| with_reducible refine et_B ?_)
local macro_rules | `(tactic| walk_at "n1") => `(tactic| with_reducible refine et_test ?_)
local macro_rules | `(tactic| walk_at "n1") => `(tactic| with_reducible refine ev_if ?_)
local macro_rules | `(tactic| walk_at "n1") => `(tactic| with_reducible refine ev_lst ?_)
local macro_rules | `(tactic| walk_at "n1") => `(tactic| with_reducible refine ev_tup ?_)
local macro_rules | `(tactic| walk_at "n1") => `(tactic| with_reducible refine ev_cb ?_)
local macro_rules | `(tactic| walk_at "n1") => `(tactic| with_reducible refine ev_isiT ?_)
local macro_rules | `(tactic| walk_at "n1") => `(tactic| with_reducible refine ev_un ?_)
local macro_rules | `(tactic| walk_at "n1") => `(tactic| with_reducible refine ev_op ?_)
local macro_rules | `(tactic| walk_at "n1") => `(tactic| with_reducible refine ev_c ?_)
local macro_rules | `(tactic| walk_at "n1") => `(tactic| ((with_reducible refine x_var ?_); refine ⟨_, rfl, ?_⟩))
local macro_rules | `(tactic| walk_at "n1") => `(tactic| with_reducible refine r_par ?_)
local macro_rules | `(tactic| walk_at "n1") => `(tactic| with_reducible refine r_aug rfl ?_)
local macro_rules | `(tactic| walk_at "n1") => `(tactic| with_reducible refine r_drop ?_)
local macro_rules | `(tactic| walk_at "n1") => `(tactic| ((with_reducible refine x_ins ?_); refine ⟨_, _, rfl, rfl, ?_⟩))
local macro_rules | `(tactic| walk_at "n1") => `(tactic| ((with_reducible refine x_app ?_); refine ⟨_, _, rfl, rfl, ?_⟩))
local macro_rules | `(tactic| walk_at "n1") => `(tactic| with_reducible refine r_next ?_)
local macro_rules | `(tactic| walk_at "n1") => `(tactic| with_reducible refine r_retN ?_)
local macro_rules | `(tactic| walk_at "n1") => `(tactic| with_reducible refine r_ret ?_)
local macro_rules | `(tactic| walk_at "n1") => `(tactic| with_reducible refine r_seq ?_)
local macro_rules | `(tactic| walk_at "d1") => `(tactic| walk_at "n1")
local macro_rules | `(tactic| walk_at "d1") => `(tactic| with_reducible refine r_if ?_)
local macro_rules | `(tactic| walk_at "n") => `(tactic| repeat walk_at "n1")
local macro_rules | `(tactic| walk_at "d") => `(tactic| repeat walk_at "d1")
section
variable {P : Program} {w : World} {K : PySem.W.Frag} {mg : Str → Option Value} {base : Heap} {a : Adr}
/-! ### forms: kinds, weights, products -/
def isI (d : D) (lo hi : Int) : Bool := match d with
  | .raw (.int i) => decide (lo ≤ i) && decide (i ≤ hi)
  | _ => false
theorem isI_of {d : D} (h1 : isIntD d = true) (h2 : isBoolD d = false) : ∃ i, d = .int i := by
  match d, h1, h2 with
  | .raw (.int i), _, _ => exact ⟨i, rfl⟩
theorem ok_is_integer (C : Ctx K mg a) : FnAt P w K mg base CX0 1 "is_integer" ["thing", "low", "high"] (SpP K (fun x : D × Int × Int => [x.1, .int x.2.1, .int x.2.2]) (fun x => Tame x.1) (fun x d => d = .bl (isI x.1 x.2.1 x.2.2))) := by
  refine fn_at C.d_is_integer sc_is_integer (fun _ => rfl) fun f cdv A outer s H E hr => ⟨_, (pss_one (ps_ret (pe_and (pe_isi (K := K) C.B.isinstance rfl (pa_cons (pv 0) (pa_cons (pe_bltn (v := .ty "int") rfl C.B.int (by decide +kernel) rfl) pa_nil))) (pe_and (pe_not (pe_isi (K := K) C.B.isinstance rfl (pa_cons (pv 0) (pa_cons (pe_bltn (v := .ty "bool") rfl C.B.bool (by decide +kernel) rfl) pa_nil)))) (pe_one (pe_chain op_gLe op_gLe (pv 1) (pv 0) (pv 2))))))), fun i e hp he => ?_⟩
  obtain ⟨d, lo, hi⟩ := i
  have hp : Tame d := hp
  dsimp only [cxOf]
  walk_at "d"
  refine ite_b (fun h1 => ?_) (fun h1 => ?_)
  · walk_at "d"
    refine ite_b (fun h2 => ?_) (fun h2 => ?_)
    · obtain ⟨j, rfl⟩ := isI_of h1 (by simpa using h2)
      walk_at "d"
      refine ite_dec (fun h3 => ?_) (fun h3 => ?_)
      · walk_at "d"
        refine ret_v ?_
        simp [isI, h3]
      · refine ret_v ?_
        simp [isI, h3]
    · refine ret_v ?_
      have : isBoolD d = true := by simpa using h2
      match d, this with
      | .raw (.bl b), _ => rfl
  · refine ret_v ?_
    match d, h1 with
    | .raw .non, _ => rfl
    | .raw (.str _), _ => rfl
    | .raw (.byt _), _ => rfl
    | .raw (.flt _), _ => rfl
    | .raw (.ref _), _ => rfl
    | .raw (.ty _), _ => rfl
    | .tup _, _ => rfl
    | .lst _, _ => rfl
    | .dic _ _, _ => rfl
    | .ins _ _ _, _ => rfl
    | .rd _, _ => rfl
/-- a part that can stand -/
def okPart (d : D) : Bool := match d with
  | .raw (.int i) => decide (-1000000 ≤ i) && decide (i ≤ 1000000) && !decide (i = 0)
  | _ => false
def isW (d : D) : Bool := match d with
  | .tup ds => decide (1 ≤ ds.length) && decide (ds.length ≤ 5) && (ds.map okPart).all id
  | _ => false
def TameW (d : D) : Prop := Tame d ∧ ∀ ds, d = .tup ds → ds.length ≤ 1000 ∧ ∀ x, x ∈ ds → Tame x
theorem isW_no {d : D} (h : isTupD d = false) : isW d = false := by
  match d, h with
  | .raw _, _ => rfl
  | .lst _, _ => rfl
  | .dic _ _, _ => rfl
  | .ins _ _ _, _ => rfl
  | .rd _, _ => rfl
theorem isTup_of {d : D} (h : isTupD d = true) : ∃ ds, d = .tup ds := by
  match d, h with
  | .tup ds, _ => exact ⟨ds, rfl⟩
theorem ok_is_weight (C : Ctx K mg a) : FnAt P w K mg base CX0 2 "is_weight" ["thing"] (SpP K (fun d : D => [d]) TameW (fun d r => r = .bl (isW d))) := by
  refine fn_at C.d_is_weight sc_is_weight (fun _ => rfl) fun f cdv A outer s H E hr => ⟨_, (pss_cons (ps_if (PW.pt (pw_or (pt_not (pt_val (pe_isi (K := K) C.B.isinstance rfl (pa_cons (pv 0) (pa_cons (pe_bltn (v := .ty "tuple") rfl C.B.tuple (by decide +kernel) rfl) pa_nil))))) (pw_or1 (pt_not (pt_chain op_gLe op_gLe pe_int (pe_len (K := K) C.B.len rfl (pa_cons (pv 0) pa_nil)) (C.c_MOST_PARTS.pe rfl))))))
    (pss_one (ps_ret pe_bl))
    pss_nil)
    (pss_one (ps_ret (pe_all (K := K) C.B.all rfl rfl (pa_cons (pe_lc (own := [("part", 1)]) (g := (gName 1)) (tt := tYes) rfl sc_is_weight.nd (pi_seq (K := K) (pv 0)) (blkOk_by (N := n_is_weight) (sc := defScope s_is_weight) (by decide +kernel)) (fun _ _ _ _ _ => (pg_name (i := 1) sc_is_weight.nd rfl (by first | exact Or.inl rfl | exact Or.inr rfl))) (fun _ _ _ _ _ => pts_nil) (fun _ _ _ _ _ => (pe_and (pe_fn (ok_is_integer C) (hr.mono (by omega)) rfl (pa_cons (pv 1) (pa_cons (pe_un un_neg (C.c_MOST_PART.pe rfl)) (pa_cons (C.c_MOST_PART.pe rfl) pa_nil)))) (pe_one (pe_cmpR (op_gNe (K := K) (by exact hr.units)) (pv 1) pe_int (nomark _)))))) pa_nil))))), fun d e hp he => ?_⟩
  have ht : Tame d := hp.1
  dsimp only [cxOf]
  walk_at "d"
  cases h1 : isTupD d with
  | false =>
    refine iteT ?_
    refine iteT ?_
    walk_at "d"
    exact ret_v (by rw [isW_no h1])
  | true =>
    obtain ⟨ds, rfl⟩ := isTup_of h1
    obtain ⟨hl, hx⟩ := hp.2 ds rfl
    refine iteF ?_
    walk_at "d"
    have fin : ∀ {M : List MO}, ¬ (1 ≤ ds.length ∧ ds.length ≤ 5) → RetOk ([] : List MO).length (fun r (_ : List MO) => r = D.bl (isW (.tup ds))) (.v (.bl false)) M := fun {M} h => ret_v (by
      show D.bl false = D.bl (decide (1 ≤ ds.length) && decide (ds.length ≤ 5) && (ds.map okPart).all id)
      by_cases z : 1 ≤ ds.length
      · rw [decide_eq_true z, decide_eq_false (fun y => h ⟨z, y⟩)]; rfl
      · rw [decide_eq_false z]; rfl)
    refine ite_dec (fun h2 => ?_) (fun h2 => ?_)
    · walk_at "d"
      refine ite_ndec (fun h3 => ?_) (fun h3 => ?_)
      · walk_at "d"
        exact fin (by omega)
      · walk_at "d"
        refine ev_lcM (fun d => .bl (okPart d)) (ei_seqT ?_)
        walk_at "d"
        refine ⟨ds, rfl, by omega, fun j x hj => ?_, ?_⟩
        · have hxt := hx x (List.mem_of_getElem? hj)
          walk_at "d"
          refine ⟨(x, -1000000, 1000000), rfl, hxt, fun r hr' => ?_⟩
          subst hr'
          refine ⟨_, rfl, ?_⟩
          refine ite_b (fun h4 => ?_) (fun h4 => ?_)
          · match x, h4 with
            | .raw (.int i), h4 =>
              have h4 : (decide (-1000000 ≤ i) && decide (i ≤ 1000000)) = true := h4
              walk_at "d"
              show Sl.v (D.bl (!decide (i = 0))) = Sl.v (.bl (decide (-1000000 ≤ i) && decide (i ≤ 1000000) && !decide (i = 0)))
              rw [h4]; rfl
          · show Sl.v (D.bl false) = Sl.v (.bl (okPart x))
            match x, h4 with
            | .raw (.int i), h4 =>
              have h4 : (decide (-1000000 ≤ i) && decide (i ≤ 1000000)) = false := h4
              show Sl.v (D.bl false) = Sl.v (.bl (decide (-1000000 ≤ i) && decide (i ≤ 1000000) && !decide (i = 0)))
              rw [h4]; rfl
            | .raw .non, _ => rfl
            | .raw (.bl _), _ => rfl
            | .raw (.str _), _ => rfl
            | .raw (.byt _), _ => rfl
            | .raw (.flt _), _ => rfl
            | .raw (.ref _), _ => rfl
            | .raw (.ty _), _ => rfl
            | .tup _, _ => rfl
            | .lst _, _ => rfl
            | .dic _ _, _ => rfl
            | .ins _ _ _, _ => rfl
            | .rd _, _ => rfl
        · walk_at "d"
          refine ec_all (bs := ds.map okPart) ?_ (ret_v ?_)
          · have : (D.bls (ds.map okPart)) = ds.map fun d => .bl (okPart d) := by simp [D.bls, Function.comp_def]
            rw [this]; exact .v
          · show D.bl _ = D.bl (decide (1 ≤ ds.length) && decide (ds.length ≤ 5) && (ds.map okPart).all id)
            rw [decide_eq_true (by omega), decide_eq_true (by omega)]; rfl
    · walk_at "d"
      refine iteT ?_
      walk_at "d"
      exact fin (by omega)
abbrev wt (ns : List Int) : D := .tup (D.ints ns)
/-- a weight's parts -/
structure Wt (ns : List Int) : Prop where
  lo : 1 ≤ ns.length
  hi : ns.length ≤ 5
  p : ∀ n, n ∈ ns → n ≠ 0 ∧ n.natAbs ≤ 1000000
theorem Wt.isW {ns : List Int} (h : Wt ns) : isW (wt ns) = true := by
  show (decide (1 ≤ (D.ints ns).length) && decide ((D.ints ns).length ≤ 5) && ((D.ints ns).map okPart).all id) = true
  rw [decide_eq_true (by rw [List.length_map]; exact h.lo), decide_eq_true (by rw [List.length_map]; exact h.hi), Bool.true_and, Bool.true_and]
  simp only [D.ints, List.map_map, List.all_eq_true, List.mem_map, id]
  rintro b ⟨n, hn, rfl⟩
  have := h.p n hn
  simp only [Function.comp, okPart, Bool.and_eq_true, decide_eq_true_eq, Bool.not_eq_true', decide_eq_false_iff_not]
  omega
theorem tameW_wt (ns : List Int) (h : ns.length ≤ 1000) : TameW (wt ns) := ⟨.tup _, fun ds e => by
  cases e
  refine ⟨by simpa using h, fun x hx => ?_⟩
  obtain ⟨n, _, rfl⟩ := List.mem_map.mp hx
  exact .int n⟩
theorem Wt.tame {ns : List Int} (h : Wt ns) : TameW (wt ns) := tameW_wt ns (by have := h.hi; omega)
def prodL (ns : List Int) : Int := ns.foldl (· * ·) 1
theorem prod_bit (ns : List Int) (h : ∀ n, n ∈ ns → n.natAbs < 2 ^ 700) : (prodL ns).natAbs < 2 ^ (700 * ns.length + 1) := by
  unfold prodL
  suffices g : ∀ (ns : List Int) (a : Int) (m : Nat), a.natAbs < 2 ^ m → (∀ n, n ∈ ns → n.natAbs < 2 ^ 700) → (ns.foldl (· * ·) a).natAbs < 2 ^ (700 * ns.length + m) by
    exact g ns 1 1 (by decide) h
  intro ns
  induction ns with
  | nil => intro a m ha _; simpa using ha
  | cons n ns ih =>
    intro a m ha h
    have := ih (a * n) (m + 700) (mul_lt ha (h n (by simp))) (fun k hk => h k (by simp [hk]))
    rw [List.foldl_cons, List.length_cons]
    exact bit_le this (by omega)
theorem prod_snoc (ns : List Int) (n : Int) : prodL (ns ++ [n]) = prodL ns * n := by
  unfold prodL
  rw [List.foldl_append]
  rfl
theorem take_snoc {α : Type} {xs : List α} {i : Nat} {x : α} (h : xs[i]? = some x) : xs.take (i + 1) = xs.take i ++ [x] := by
  have hlt := (List.getElem?_eq_some_iff.mp h).1
  rw [List.take_succ_eq_append_getElem hlt, (List.getElem?_eq_some_iff.mp h).2]
theorem ints_get {ns : List Int} {i : Nat} {d : D} (h : (D.ints ns)[i]? = some d) : ∃ n, ns[i]? = some n ∧ d = .int n := by
  rw [List.getElem?_map] at h
  obtain ⟨n, hn, e⟩ := Option.map_eq_some_iff.mp h
  exact ⟨n, hn, e.symm⟩
theorem ok_product (C : Ctx K mg a) : FnAt P w K mg base CX0 1 "product" ["numbers"] (SpP K (fun x : Bool × List Int => [D.seq x.1 (D.ints x.2)]) (fun x => x.2.length ≤ 1000 ∧ ∀ n, n ∈ x.2 → n.natAbs < 2 ^ 700) (fun x d => d = .int (prodL x.2))) := by
  refine fn_at C.d_product sc_product (fun _ => rfl) fun f cdv A outer s H E hr => ⟨_, (pss_cons (ps_set (i := 1) sc_product.nd rfl (Or.inl rfl) pe_int)
    (pss_cons (ps_for PassesOwn.never rfl (pi_seq (K := K) (pv 0)) (pg_name (i := 2) sc_product.nd rfl (Or.inl rfl))
    (pss_one (ps_set (i := 1) sc_product.nd rfl (Or.inl rfl) (pe_op (op_gMul (K := K)) (pv 1) (pv 2)))))
    (pss_one (ps_ret (pv 1))))), fun i e hp he => ?_⟩
  obtain ⟨b, ns⟩ := i
  have hl : ns.length ≤ 1000 := hp.1
  have hb : ∀ n, n ∈ ns → n.natAbs < 2 ^ 700 := hp.2
  dsimp only [cxOf]
  walk_at "d"
  refine r_asg ?_
  walk_at "d"
  refine r_for [2] ?_
  refine ei_seqS ?_
  walk_at "d"
  refine ⟨_, ⟨_, rfl⟩, fun i ρ M => ∃ o, ρ = [some (.v (D.seq b (D.ints ns))), some (.v (.int (prodL (ns.take i)))), o] ∧ M = [], ⟨_, rfl, rfl⟩, ?_, ?_⟩
  · rintro i d ρ M hi ⟨o, rfl, rfl⟩
    obtain ⟨n, hn, rfl⟩ := ints_get hi
    walk_at "d"
    refine r_asg ?_
    walk_at "d"
    refine ⟨mulW (prod_bit (ns.take i) fun k hk => hb k (List.mem_of_mem_take hk)) (hb n (List.mem_of_getElem? hn)) (by rw [List.length_take]; omega), some (.v (.int n)), ?_, rfl⟩
    rw [take_snoc hn, prod_snoc]
    rfl
  · rintro ρ M ⟨o, rfl, rfl⟩
    walk_at "d"
    refine ret_v ?_
    simp [D.ints]
theorem Wt.pre {ns : List Int} (h : Wt ns) : ns.length ≤ 1000 ∧ ∀ n, n ∈ ns → n.natAbs < 2 ^ 700 := ⟨by have := h.hi; omega, fun n hn => by
  have h1 := (h.p n hn).2
  have h2 : (1000000 : Nat) < 2 ^ 700 := Nat.lt_of_lt_of_le (show 1000000 < 2 ^ 20 by decide) (Nat.pow_le_pow_right (by decide) (by decide))
  omega⟩
theorem lit_bit {i : Int} {b : Nat} (h : i.natAbs < 2 ^ 60) (hb : 60 ≤ b) : i.natAbs < 2 ^ b := bit_le h hb

end
section
variable {P : Program} {w : World} {K : PySem.W.Frag} {mg : Str → Option Value} {base : Heap} {a : Adr}
/-! ### the making of a form -/
abbrev fm (C : Addr) (ws : List (List Int)) : D := .ins C ["rows", "sums"] [.tup (ws.map wt), .tup (D.ints (ws.map prodL))]
structure Frm (ws : List (List Int)) : Prop where
  len : ws.length = 3 ∨ ws.length = 4
  w : ∀ n, n ∈ ws → Wt n
theorem enum_get {k : Int} {ds : List D} {i : Nat} {d : D} (h : (enumD k ds)[i]? = some d) : ∃ c, ds[i]? = some c ∧ d = .tup [.int (k + (i : Int)), c] := by
  unfold enumD at h
  rw [List.getElem?_mapIdx] at h
  obtain ⟨c, hc, e⟩ := Option.map_eq_some_iff.mp h
  exact ⟨c, hc, e.symm⟩
theorem map_get {α β : Type} {f : α → β} {xs : List α} {i : Nat} {y : β} (h : (xs.map f)[i]? = some y) : ∃ x, xs[i]? = some x ∧ y = f x := by
  rw [List.getElem?_map] at h
  obtain ⟨c, hc, e⟩ := Option.map_eq_some_iff.mp h
  exact ⟨c, hc, e.symm⟩
theorem ok_Form (C : Ctx K mg a) : MkAt P w K mg base 3 "Form" a.Form ["self", "weights"] (SpI K a.Form (fun ws : List (List Int) => [.tup (ws.map wt)]) Frm ["rows", "sums"] (fun ws ds => ds = [.tup (ws.map wt), .tup (D.ints (ws.map prodL))])) := by
  obtain ⟨f, fd, hM, hF, hB⟩ := C.i_Form.ex
  refine mk_at C.m_Form hM hF hB sc_Form___init__ (fun _ => rfl) fun f cdv A outer s H E hr => ⟨_, (pss_cons (ps_if (PW.pt (pw_or (pt_not (pt_val (pe_isi (K := K) C.B.isinstance rfl (pa_cons (pv 1) (pa_cons (pe_bltn (v := .ty "tuple") rfl C.B.tuple (by decide +kernel) rfl) pa_nil))))) (pw_or1 (pt_cmpR (op_gNotIn (K := K) (by exact units65 hr)) (pe_len (K := K) C.B.len rfl (pa_cons (pv 1) pa_nil)) (C.c_SIZES.pe rfl) rfl))))
    (pss_one ps_never)
    pss_nil)
    (pss_cons (ps_for PassesOwn.never rfl (pi_enB (K := K) rfl C.B.enumerate (pa_cons (pv 1) pa_nil)) (pg_tup rfl (pgs_cons (pg_name (i := 2) sc_Form___init__.nd rfl (Or.inl rfl)) (pgs_cons (pg_name (i := 3) sc_Form___init__.nd rfl (Or.inl rfl)) pgs_nil)))
    (pss_one (ps_if (pt_not (pt_val (pe_fn (ok_is_weight C) (hr.mono (by omega)) rfl (pa_cons (pv 3) pa_nil))))
    (pss_one ps_never)
    pss_nil)))
    (pss_cons (ps_fld (pv 0) (pv 1) rfl)
    (pss_one (ps_fld (pv 0) (pe_tupOf (K := K) C.B.tuple rfl (pa_cons (pe_lc (own := [("weight", 3)]) (g := (gName 3)) (tt := tYes) rfl sc_Form___init__.nd (pi_seq (K := K) (pv 1)) (blkOk_by (N := n_Form___init__) (sc := defScope s_Form___init__) (by decide +kernel)) (fun _ _ _ _ _ => (pg_name (i := 3) sc_Form___init__.nd rfl (by first | exact Or.inl rfl | exact Or.inr rfl))) (fun _ _ _ _ _ => pts_nil) (fun _ _ _ _ _ => (pe_fn (ok_product C) (hr.mono (by omega)) rfl (pa_cons (pv 3) pa_nil)))) pa_nil)) rfl))))), fun ws e hp he => ?_⟩
  have hlen : ws.length = 3 ∨ ws.length = 4 := hp.len
  dsimp only [cxOf]
  walk_at "d"
  refine iteF ?_
  walk_at "d"
  refine g_notInI (ns := [3, 4]) .t ?_
  have hin : decide (((ws.map wt).length : Int) ∈ ([3, 4] : List Int)) = true := by
    rw [List.length_map]
    rcases hlen with h | h <;> rw [h] <;> decide
  rw [hin]
  refine ⟨_, rfl, iteF ?_⟩
  walk_at "d"
  refine r_for [2, 3] ?_
  refine ei_enB ?_
  walk_at "d"
  refine ⟨_, _, rfl, .t, fun i ρ M => ∃ o1 o2, ρ = [some (.l 0), some (.v (.tup (ws.map wt))), o1, o2] ∧ M = [.ins a.Form [] []], ⟨none, none, rfl, rfl⟩, ?_, ?_⟩
  · rintro i d ρ M hi ⟨o1, o2, rfl, rfl⟩
    obtain ⟨c, hc, rfl⟩ := enum_get hi
    obtain ⟨n, hn, rfl⟩ := map_get hc
    have hw := hp.w n (List.mem_of_getElem? hn)
    walk_at "d"
    refine ⟨wt n, rfl, hw.tame, fun r er => ?_⟩
    subst er
    refine ⟨_, rfl, ?_⟩
    rw [hw.isW]
    refine iteF ?_
    walk_at "d"
    exact ⟨_, _, rfl, rfl⟩
  · rintro ρ M ⟨o1, o2, rfl, rfl⟩
    walk_at "d"
    refine r_fld C.k_Form.cl C.n_Form_rows rfl rfl (by decide) ?_
    walk_at "d"
    refine ⟨_, rfl, ?_⟩
    refine r_fld C.k_Form.cl C.n_Form_sums rfl rfl (le_lit rfl) ?_
    walk_at "d"
    refine ev_lcM (fun d => match d with | .tup ds => .int (prodL (ds.map fun | .raw (.int i) => i | _ => 0)) | _ => d) (ei_seqT ?_)
    walk_at "d"
    refine ⟨_, rfl, by rw [List.length_map]; omega, fun j x hj => ?_, ?_⟩
    · obtain ⟨n, hn, rfl⟩ := map_get hj
      have hw := hp.w n (List.mem_of_getElem? hn)
      walk_at "d"
      refine ⟨(true, n), rfl, hw.pre, fun r er => ?_⟩
      subst er
      have : (D.ints n).map (fun | .raw (.int i) => i | _ => (0 : Int)) = n := by simp [D.ints, Function.comp_def]
      show Sl.v (D.int (prodL n)) = .v (.int (prodL ((D.ints n).map fun | .raw (.int i) => i | _ => 0)))
      rw [this]
    · walk_at "d"
      refine ⟨_, rfl, _, rfl, ?_⟩
      have : (ws.map wt).map (fun d => match d with | .tup ds => D.int (prodL (ds.map fun | .raw (.int i) => i | _ => 0)) | _ => d) = D.ints (ws.map prodL) := by
        simp only [D.ints, List.map_map]
        apply List.map_congr_left
        intro n _
        have : (D.ints n).map (fun | .raw (.int i) => i | _ => (0 : Int)) = n := by simp [D.ints, Function.comp_def]
        show D.int (prodL ((D.ints n).map fun | .raw (.int i) => i | _ => 0)) = .int (prodL n)
        rw [this]
      rw [this]
      rfl
end
section
variable {P : Program} {w : World} {K : PySem.W.Frag} {mg : Str → Option Value} {base : Heap} {a : Adr}
/-! ### the source of draws -/
theorem mix_get {cells : List Int} {i : Nat} {y : V} (h : (cells.map V.int)[i]? = some y) : ∃ z, cells[i]? = some z ∧ y = .int z := by
  rw [List.getElem?_map] at h
  obtain ⟨z, hz, e⟩ := Option.map_eq_some_iff.mp h
  exact ⟨z, hz, e.symm⟩
theorem ok__law_mix (C : Ctx K mg a) : FnAt P w K mg base CX0 1 "_law_mix" ["_law_script", "_law_seed"] (spMix K) := by
  refine fn_atR C.d__law_mix sc__law_mix (fun vs H Q E h => ?_) fun f cdv A outer s H E hr => ⟨_, (pss_cons (ps_set (i := 2) sc__law_mix.nd rfl (Or.inl rfl) (pv 1))
    (pss_cons (ps_for PassesOwn.never rfl (pi_seq (K := K) (pv 0)) (pg_name (i := 3) sc__law_mix.nd rfl (Or.inl rfl))
    (pss_one (ps_set (i := 2) sc__law_mix.nd rfl (Or.inl rfl) (pe_op op_gMod (pe_int1 C.B.int rfl (pa_cons (pe_op (op_gAdd (K := K)) (pe_op (op_gAdd (K := K)) (pe_op (op_gMul (K := K)) (pv 2) pe_int) (pe_op op_gMod (pe_int1 C.B.int rfl (pa_cons (pv 3) pa_nil)) pe_int)) pe_int) pa_nil)) pe_int))))
    (pss_one (ps_ret (pe_lst (pa_cons (pv 2) (pa_cons (pe_listOf (K := K) C.B.list rfl (pa_cons (pv 0) pa_nil)) (pa_cons pe_int pa_nil)))))))), fun vs Q E' h => ?_⟩
  · obtain ⟨a, cells, seed, rfl, _⟩ := h
    rfl
  · obtain ⟨b, cells, seed, rfl, hs, h63, s0, s1, k⟩ := h
    refine ⟨_, rfl, ⟨_, rfl, b, rfl, .inl ⟨⟨_, hs⟩, for_list (K := K) (a := b) (xs := cells.map V.int) (fun i σ H2 => ∃ (z : Int) (v : Option V), σ = [some (.ref b), some (.int seed), some (.int z), v] ∧ 0 ≤ z ∧ z < 2147483647 ∧ H2 = H)
      ⟨seed, none, rfl, s0, s1, rfl⟩ (fun i σ H2 _ ⟨_, _, _, _, _, e⟩ => by rw [e]; exact hs) ?_ ?_⟩⟩⟩
    · rintro i y σ H2 hi ⟨z, v, rfl, z0, z1, rfl⟩
      obtain ⟨c, hc, rfl⟩ := mix_get hi
      refine ⟨_, rfl, .inl (.inl ⟨z, 48271, rfl, rfl, ?_, ?_⟩)⟩
      · exact mulW (a := 40) (b := 40) (by omega) (by decide) (by decide)
      · refine ⟨_, rfl, .inl ⟨c, rfl, .inl ⟨c, 2147483629, rfl, rfl, by show (0 : Int) < 2147483629; decide, ?_⟩⟩⟩
        refine .inl ⟨_, _, rfl, rfl, .inl ⟨_, _, rfl, rfl, .inl ⟨_, rfl, .inl ⟨_, 2147483647, rfl, rfl, by show (0 : Int) < 2147483647; decide, ?_⟩⟩⟩⟩
        exact ⟨_, some (.int c), rfl, Int.emod_nonneg _ (by decide), Int.emod_lt_of_pos _ (by decide), rfl⟩
    · rintro σ H2 ⟨z, v, rfl, z0, z1, rfl⟩
      refine ⟨_, rfl, ⟨_, rfl, b, cells.map V.int, rfl, .inl hs, fun q hq => ⟨by show 3 ≤ sizeLine; decide, fun p hp => ?_⟩⟩⟩
      have hpq : p ≠ q := fun e => by rw [e, upd_same] at hp; cases hp
      refine k (p, q) _ (by rw [upd_ne hpq] at hp; exact hp) hq (fun c o h => ?_) ⟨z, 0, cells, hpq, upd_same, ?_, z0, z1, h63, by decide⟩
      · rw [upd_ne (ne_of_none (by rw [upd_ne (ne_of_none h hq)]; exact h) hp), upd_ne (ne_of_none h hq)]; exact h
      · show upd (upd H2 q _) p _ q = _
        rw [upd_ne (Ne.symm hpq), upd_same]
/-- a draw below a cap -/
abbrev SpDraw (K : PySem.W.Frag) : Sp := SpG K (fun cap : Int => [.int cap]) (fun cap => 1 ≤ cap ∧ cap.natAbs < 2 ^ 1000) (fun cap d => ∃ r, d = .int r ∧ 0 ≤ r ∧ r < cap)
theorem ok__law_next (C : Ctx K mg a) : FnAt P w K mg base CX0 1 "_law_next" ["_law_h", "_law_cap"] (SpDraw K) := by
  refine fn_atR C.d__law_next sc__law_next (fun vs H Q E h => ?_) fun f cdv A outer s H E hr => ⟨_, (pss_cons (ps_set (i := 2) sc__law_next.nd rfl (Or.inl rfl) (pe_ix (ix_any (K := K)) (pe_op (op_gAdd (K := K)) (pe_ix (ix_any (K := K)) (pv 0) pe_int (fun _ _ => rfl)) (pe_lst (pa_cons pe_int pa_nil))) (pe_op op_gMod (pe_int1 C.B.int rfl (pa_cons (pe_ix (ix_any (K := K)) (pv 0) pe_int (fun _ _ => rfl)) pa_nil)) (pe_max2 C.B.max rfl rfl (pa_cons pe_int (pa_cons (pe_len (K := K) C.B.len rfl (pa_cons (pe_ix (ix_any (K := K)) (pv 0) pe_int (fun _ _ => rfl)) pa_nil)) pa_nil)))) (fun _ _ => rfl)))
    (pss_cons (ps_if (pt_cmpR op_gGe (pv 2) (pe_op op_gPow pe_int pe_int) (nomark _))
    (pss_cons (ps_asg (pe_op op_gDiv (pv 2) (pv 1)) (pg_sub (pe_ix (ix_any (K := K)) (pv 0) pe_int (fun _ _ => rfl)) (pe_op op_gMod (pe_int1 C.B.int rfl (pa_cons (pe_ix (ix_any (K := K)) (pv 0) pe_int (fun _ _ => rfl)) pa_nil)) (pe_len (K := K) C.B.len rfl (pa_cons (pe_ix (ix_any (K := K)) (pv 0) pe_int (fun _ _ => rfl)) pa_nil))) set_list))
    (pss_one (ps_ret (pe_op op_gMod (pe_int1 C.B.int rfl (pa_cons (pv 2) pa_nil)) (pv 1)))))
    pss_nil)
    (pss_cons (ps_asg (pe_op op_gMod (pe_int1 C.B.int rfl (pa_cons (pe_op (op_gAdd (K := K)) (pe_op (op_gAdd (K := K)) (pe_op (op_gMul (K := K)) (pe_ix (ix_any (K := K)) (pv 0) pe_int (fun _ _ => rfl)) pe_int) (pe_op (op_gMul (K := K)) (pv 2) pe_int)) pe_int) pa_nil)) pe_int) (pg_sub (pv 0) pe_int set_list))
    (pss_cons (ps_asg (pe_op (op_gAdd (K := K)) (pe_ix (ix_any (K := K)) (pv 0) pe_int (fun _ _ => rfl)) pe_int) (pg_sub (pv 0) pe_int set_list))
    (pss_one (ps_ret (pe_op op_gMod (pe_int1 C.B.int rfl (pa_cons (pe_op op_gDiv (pe_ix (ix_any (K := K)) (pv 0) pe_int (fun _ _ => rfl)) pe_int) pa_nil)) (pv 1)))))))), fun vs Q E' h => ?_⟩
  · obtain ⟨cap, α, F, o, _⟩ := h
    exact o.length.symm
  · obtain ⟨cap, α, F, o, S, ⟨c1, c2⟩, k⟩ := h
    obtain ⟨v, r, rfl, ⟨p, hp, rfl⟩, o2⟩ := o
    have e2 := sls1 o2
    subst e2
    obtain ⟨hF1, hF2, st, ix, cells, hne, h1, h2, s0, s1, h63, i0⟩ := S.ob 0 .rng p rfl hp
    have hpa : p ∈ α := List.mem_of_getElem? hp
    have hα : α = [p] := by
      have := S.len
      match α, hp, this with
      | [q], hp, _ => simp at hp; rw [hp]
    -- what a state behind is worth
    have fin : ∀ (H' : Hp) (d : Int) (st' ix' : Int) (cells' : List Int), (∀ b o, H b = some o → b ≠ p.1 → b ≠ p.2 → H' b = some o) → H' p.1 = some (.lst [.int st', .ref p.2, .int ix']) → H' p.2 = some (.lst (cells'.map V.int)) → 0 ≤ st' → st' < 2147483647 → cells'.length ≤ 63 → 0 ≤ ix' → 0 ≤ d → d < cap → Q (.int d) H' := by
      intro H' d st' ix' cells' fr g1 g2 t0 t1 t2 t3 d0 d1
      have tr : ∀ b, H b ≠ none → H' b ≠ none := fun b hb => by
        by_cases e1 : b = p.1
        · rw [e1, g1]; simp
        · by_cases e2 : b = p.2
          · rw [e2, g2]; simp
          · cases z : H b with
            | none => exact absurd z hb
            | some o => rw [fr b o z e1 e2]; simp
      have sub : Same F H' := fun b o z => fr b o (S.sub b o z) (fun e => by { rw [e, hF1] at z; cases z }) (fun e => by { rw [e, hF2] at z; cases z })
      refine k (.int d) F H' (.int d) [.rng] ⟨.refl F, fun b o z q => fr b o z (q p hpa).1 (q p hpa).2, tr, fun b z => .inl z⟩ ?_ rfl ⟨rfl, d, rfl, d0, d1⟩
      refine ⟨sub, S.len, fun i m q g3 g4 => ?_, S.ap, fun q hq => ⟨tr _ (S.tr q hq).1, tr _ (S.tr q hq).2⟩⟩
      cases i with
      | zero =>
        rw [hp] at g4
        simp at g3 g4
        subst g3; subst g4
        exact ⟨hF1, hF2, st', ix', cells', hne, g1, g2, t0, t1, t2, t3⟩
      | succ i => simp at g3
    let m : Int := if (cells.length : Int) > 1 then (cells.length : Int) else 1
    have hm : 0 < m := by show 0 < (if (cells.length : Int) > 1 then (cells.length : Int) else 1); split <;> omega
    have hj0 := Int.emod_nonneg ix (show m ≠ 0 by omega)
    have hj1 := Int.emod_lt_of_pos ix hm
    obtain ⟨j, hj⟩ : ∃ j : Nat, ix % m = (j : Int) := ⟨(ix % m).toNat, by omega⟩
    have hjl : j < (cells.map V.int ++ [V.int 0]).length := by
      rw [List.length_append, List.length_map]
      show j < cells.length + 1
      have : m ≤ (cells.length : Int) + 1 := by show (if (cells.length : Int) > 1 then (cells.length : Int) else 1) ≤ _; split <;> omega
      omega
    obtain ⟨c, hc⟩ : ∃ c : Int, (cells.map V.int ++ [V.int 0])[j]? = some (V.int c) := by
      by_cases hl : j < cells.length
      · exact ⟨cells[j], by rw [List.getElem?_append_left (by simpa using hl), List.getElem?_map, List.getElem?_eq_getElem hl]; rfl⟩
      · refine ⟨0, ?_⟩
        rw [List.getElem?_append_right (by simpa using hl)]
        have : j - (cells.map V.int).length = 0 := by rw [List.length_map]; rw [List.length_append, List.length_map] at hjl; have : j < cells.length + 1 := hjl; omega
        rw [this]; rfl
    -- the cell
    refine ⟨_, rfl, .inl ⟨p.1, _, 1, .ref p.2, rfl, rfl, SqL.of h1, rfl, by decide, fun q hq => .inr (.inl (.inl ⟨p.2, q, cells.map V.int, [.int 0], rfl, rfl, ?_, upd_same, ?_, fun u hu => ?_⟩))⟩⟩
    · rw [upd_ne (ne_of_none h2 hq)]; exact h2
    · rw [List.length_map, sizeLine_eq]; show cells.length + 1 ≤ _; omega
    have nq1 := ne_of_none h1 hq
    have nq2 := ne_of_none h2 hq
    have k1 : ∀ o : HO, (upd (upd H q (.lst [.int 0])) u o) p.1 = some (.lst [.int st, .ref p.2, .int ix]) := fun o => by
      rw [upd_ne (ne_of_none (by rw [upd_ne nq1]; exact h1) hu), upd_ne nq1]; exact h1
    have k2 : ∀ o : HO, (upd (upd H q (.lst [.int 0])) u o) p.2 = some (.lst (cells.map V.int)) := fun o => by
      rw [upd_ne (ne_of_none (by rw [upd_ne nq2]; exact h2) hu), upd_ne nq2]; exact h2
    have k3 : ∀ (b : Addr) (o o' : HO), H b = some o → (upd (upd H q (.lst [.int 0])) u o') b = some o := fun b o o' z => by
      have z1 := ne_of_none z hq
      rw [upd_ne (ne_of_none (by rw [upd_ne z1]; exact z) hu), upd_ne z1]; exact z
    refine ⟨_, rfl, .inl ⟨p.1, _, 2, .int ix, rfl, rfl, SqL.of (k1 _), rfl, .inl ⟨ix, rfl, ⟨_, rfl, .inl ⟨p.1, _, 1, .ref p.2, rfl, rfl, SqL.of (k1 _), rfl, ⟨_, cells.length, rfl, .inl ⟨_, SqL.of (k2 _), by rw [List.length_map]⟩, ⟨1, (cells.length : Int), rfl, .inl ⟨ix, m, rfl, rfl, hm, ?_⟩⟩⟩⟩⟩⟩⟩⟩
    refine .inl ⟨u, _, (j : Int), .int c, rfl, congrArg V.int hj, SqL.of upd_same, atI_nat hc, ?_⟩
    -- if cell >= 10 ** 18
    refine ⟨_, rfl, 10, 18, rfl, rfl, ⟨by decide, by decide, by decide⟩, c, _, rfl, rfl, _, rfl, ite_dec (fun hge => ?_) (fun hlt => ?_)⟩
    · have hge : (1000000000000000000 : Int) ≤ c := hge
      have hjc : j < cells.length := by
        by_cases hl : j < cells.length
        · exact hl
        · rw [List.getElem?_append_right (by simpa using hl)] at hc
          have : j - (cells.map V.int).length = 0 := by rw [List.length_map]; rw [List.length_append, List.length_map] at hjl; have : j < cells.length + 1 := hjl; omega
          rw [this] at hc
          have : (0 : Int) = c := by injection hc with hc; injection hc
          omega
      have hlm : 0 < (cells.length : Int) := by omega
      have h3 := Int.emod_nonneg ix (show (cells.length : Int) ≠ 0 by omega)
      have h4 := Int.emod_lt_of_pos ix hlm
      obtain ⟨j2, hj2⟩ : ∃ j2 : Nat, ix % (cells.length : Int) = (j2 : Int) := ⟨(ix % (cells.length : Int)).toNat, by omega⟩
      refine ⟨_, rfl, _, rfl, .inl ⟨c, cap, rfl, rfl, divW (b := 1000) (by omega) c2 (by decide), ?_⟩⟩
      refine ⟨_, rfl, .inl ⟨p.1, _, 1, .ref p.2, rfl, rfl, SqL.of (k1 _), rfl, ?_⟩⟩
      refine ⟨_, rfl, .inl ⟨p.1, _, 2, .int ix, rfl, rfl, SqL.of (k1 _), rfl, .inl ⟨ix, rfl, ?_⟩⟩⟩
      refine ⟨_, rfl, .inl ⟨p.1, _, 1, .ref p.2, rfl, rfl, SqL.of (k1 _), rfl, ⟨_, cells.length, rfl, .inl ⟨_, SqL.of (k2 _), by rw [List.length_map]⟩, .inl ⟨ix, (cells.length : Int), rfl, rfl, hlm, ?_⟩⟩⟩⟩
      refine ⟨p.2, cells.map V.int, (j2 : Int), j2, rfl, congrArg V.int hj2, k2 _, ixN_nat (by rw [List.length_map]; omega), ?_⟩
      refine ⟨_, rfl, .inl ⟨c, rfl, ⟨_, rfl, .inl ⟨c, cap, rfl, rfl, by omega, ?_⟩⟩⟩⟩
      refine fin _ _ st ix (cells.set j2 (c / cap)) (fun b o z z1 z2 => ?_) ?_ ?_ s0 s1 (by rw [List.length_set]; exact h63) i0 (Int.emod_nonneg _ (by omega)) (Int.emod_lt_of_pos _ (by omega))
      · rw [upd_ne z2]; exact k3 b o _ z
      · rw [upd_ne hne]; exact k1 _
      · rw [upd_same, List.map_set]
    · have hlt : ¬ (1000000000000000000 : Int) ≤ c := hlt
      -- h[0] = int(h[0] * 48271 + cell * 69621 + 11) % 2147483647
      refine ⟨_, rfl, .inl ⟨p.1, _, 0, .int st, rfl, rfl, SqL.of (k1 _), rfl, .inl (.inl ⟨st, 48271, rfl, rfl, mulW (a := 40) (b := 40) (by omega) (by decide) (by decide), ?_⟩)⟩⟩
      refine ⟨_, rfl, .inl (.inr ⟨c, 69621, rfl, rfl, .inr ⟨by decide, by decide⟩, ?_⟩)⟩
      refine .inl ⟨_, _, rfl, rfl, .inl ⟨_, _, rfl, rfl, .inl ⟨_, rfl, .inl ⟨_, 2147483647, rfl, rfl, by show (0 : Int) < 2147483647; decide, ?_⟩⟩⟩⟩
      refine ⟨_, rfl, p.1, _, 0, 0, rfl, rfl, k1 _, rfl, ?_⟩
      -- h[2] = h[2] + 1
      refine ⟨_, rfl, .inl ⟨p.1, _, 2, .int ix, rfl, rfl, SqL.of upd_same, rfl, .inl ⟨ix, 1, rfl, rfl, ?_⟩⟩⟩
      refine ⟨_, rfl, p.1, _, 2, 2, rfl, rfl, upd_same, rfl, ?_⟩
      refine ⟨_, rfl, .inl ⟨p.1, _, 0, .int ((st * 48271 + c * 69621 + 11) % 2147483647), rfl, rfl, SqL.of upd_same, rfl, .inl ⟨_, 7, rfl, rfl, ⟨by decide, by decide⟩, ?_⟩⟩⟩
      refine .inl ⟨_, rfl, ⟨_, rfl, .inl ⟨_, cap, rfl, rfl, by omega, ?_⟩⟩⟩
      refine fin _ _ ((st * 48271 + c * 69621 + 11) % 2147483647) (ix + 1) cells (fun b o z z1 z2 => ?_) ?_ ?_ (Int.emod_nonneg _ (by decide)) (Int.emod_lt_of_pos _ (by decide)) h63 (by omega) (Int.emod_nonneg _ (by omega)) (Int.emod_lt_of_pos _ (by omega))
      · rw [upd_ne z1, upd_ne z1]; exact k3 b o _ z
      · rw [upd_same]; rfl
      · rw [upd_ne (Ne.symm hne), upd_ne (Ne.symm hne)]; exact k2 _
/-- one of some things -/
theorem ok__law_pick (C : Ctx K mg a) : FnAt P w K mg base CX0 2 "_law_pick" ["_law_h", "_law_things"] (SpG K (fun ds : List D => [.lst ds]) (fun ds => 1 ≤ ds.length ∧ ds.length ≤ 1000000) (fun ds d => d ∈ ds)) := by
  refine fn_at C.d__law_pick sc__law_pick (fun _ => rfl) fun f cdv A outer s H E hr => ⟨_, (pss_one (ps_ret (pe_ix (ix_any (K := K)) (pv 1) (pe_fn (ok__law_next C) (hr.mono (by omega)) rfl (pa_cons (pv 0) (pa_cons (pe_len (K := K) C.B.len rfl (pa_cons (pv 1) pa_nil)) pa_nil))) (fun _ _ => rfl)))), fun ds e hp he => ?_⟩
  obtain ⟨h1, h2⟩ := hp
  dsimp only [cxOf]
  walk_at "d"
  refine ⟨(ds.length : Int), 0, rfl, rfl, ⟨by omega, ?_⟩, fun r hr' => ?_⟩
  · have : (1000000 : Nat) < 2 ^ 1000 := Nat.lt_of_lt_of_le (show 1000000 < 2 ^ 20 by decide) (Nat.pow_le_pow_right (by decide) (by decide))
    omega
  obtain ⟨i, rfl, i0, i1⟩ := hr'
  walk_at "d"
  obtain ⟨j, rfl⟩ : ∃ j : Nat, i = (j : Int) := ⟨i.toNat, by omega⟩
  have hj : j < ds.length := by omega
  refine ⟨ds[j], atI_nat (List.getElem?_eq_getElem hj), ret_v ⟨rfl, List.getElem_mem hj⟩⟩

end
section
variable {P : Program} {w : World} {K : PySem.W.Frag} {mg : Str → Option Value} {base : Heap} {a : Adr}
theorem ok__law_weight (C : Ctx K mg a) : FnAt P w K mg base CX0 3 "_law_weight" ["_law_h"] (SpG K (fun _ : Unit => []) (fun _ => True) (fun _ d => ∃ ns, d = wt ns ∧ Wt ns)) := by
  refine fn_at C.d__law_weight sc__law_weight (fun _ => rfl) fun f cdv A outer s H E hr => ⟨_, (pss_cons (ps_par (i := 2) (j := 3) rfl sc__law_weight.nd rfl rfl (by decide) rfl rfl (pa_cons (pe_lst pa_nil) (pa_cons (pe_fn (ok__law_pick C) (hr.mono (by omega)) rfl (pa_cons (pv 0) (pa_cons (pe_lst (pa_cons pe_int (pa_cons pe_int (pa_cons pe_int (pa_cons pe_int (pa_cons pe_int (pa_cons (pe_op op_gPow pe_int pe_int) pa_nil))))))) pa_nil))) pa_nil)) rfl)
    (pss_cons (ps_for PassesOwn.never rfl (pi_range1 rfl C.B.range (pa_cons (pe_fn (ok__law_pick C) (hr.mono (by omega)) rfl (pa_cons (pv 0) (pa_cons (pe_lst (pa_cons pe_int (pa_cons pe_int (pa_cons pe_int (pa_cons pe_int (pa_cons pe_int (pa_cons pe_int pa_nil))))))) pa_nil))) pa_nil)) (pg_name (i := 1) sc__law_weight.nd rfl (Or.inl rfl))
    (pss_one (ps_expr (pe_bm PySem.F.plainAttrs_list PySem.F.slot_list_append PySem.F.type_list_append mt_append (pv 2) (pa_cons (pe_op (op_gMul (K := K)) (pe_op (op_gAdd (K := K)) pe_int (pe_fn (ok__law_next C) (hr.mono (by omega)) rfl (pa_cons (pv 0) (pa_cons (pv 3) pa_nil)))) (pe_fn (ok__law_pick C) (hr.mono (by omega)) rfl (pa_cons (pv 0) (pa_cons (pe_lst (pa_cons pe_int (pa_cons pe_int (pa_cons (pe_un un_neg pe_int) pa_nil)))) pa_nil)))) pa_nil)))))
    (pss_one (ps_ret (pe_tupOf (K := K) C.B.tuple rfl (pa_cons (pv 2) pa_nil)))))), fun x e hp he => ?_⟩
  have he : e.α.length = 1 := he
  dsimp only [cxOf]
  refine r_seq (r_parN ?_)
  refine ena_cons (en_newL (ea_nil ⟨[], rfl, by decide, ena_cons (en_ev ?_)⟩))
  walk_at "d"
  refine ⟨_, 0, rfl, rfl, ⟨le_lit rfl, le_lit rfl⟩, fun d hd => ?_⟩
  refine ena_nil ⟨_, _, rfl, ?_⟩
  obtain ⟨cap, rfl, c1, c2⟩ : ∃ cap : Int, d = .int cap ∧ 1 ≤ cap ∧ cap ≤ 1000000 := by
    simp only [List.mem_cons, List.not_mem_nil, or_false] at hd
    rcases hd with rfl | rfl | rfl | rfl | rfl | rfl <;> exact ⟨_, rfl, by decide, by decide⟩
  walk_at "d"
  refine r_for [1] ?_
  refine ei_range1 ?_
  walk_at "d"
  refine ⟨_, 0, rfl, rfl, ⟨le_lit rfl, le_lit rfl⟩, fun d hd => ?_⟩
  obtain ⟨q, rfl, q1, q2⟩ : ∃ q : Int, d = .int q ∧ 1 ≤ q ∧ q ≤ 5 := by
    simp only [List.mem_cons, List.not_mem_nil, or_false] at hd
    rcases hd with rfl | rfl | rfl | rfl | rfl | rfl <;> exact ⟨_, rfl, by decide, by decide⟩
  walk_at "d"
  refine ⟨q, rfl, by omega, by omega, fun i ρ M => ∃ (ns : List Int) (o1 : Option Sl), ρ = [some (.l 0), o1, some (.l 1), some (.v (.int cap))] ∧ M = [.rng, .lst (D.ints ns)] ∧ ns.length = i ∧ ∀ n, n ∈ ns → n ≠ 0 ∧ n.natAbs ≤ 1000000, ⟨[], none, rfl, rfl, rfl, fun n h => by simp at h⟩, ?_, ?_⟩
  · rintro i d ρ M hi ⟨ns, o1, rfl, rfl, hl, hb⟩
    obtain ⟨hil, rfl⟩ := rangeD_get hi
    walk_at "d"
    refine ⟨_, 0, rfl, rfl, ⟨by omega, lit_bit (by omega) (by decide)⟩, fun _ ⟨x1, e1, a1, b1⟩ => ?_⟩
    subst e1
    walk_at "d"
    refine ⟨_, 0, rfl, rfl, ⟨le_lit rfl, le_lit rfl⟩, fun d hd => ?_⟩
    obtain ⟨sg, rfl, hs⟩ : ∃ sg : Int, d = .int sg ∧ (sg = 1 ∨ sg = -1) := by
      simp only [List.mem_cons, List.not_mem_nil, or_false] at hd
      rcases hd with rfl | rfl | rfl
      · exact ⟨_, rfl, .inl rfl⟩
      · exact ⟨_, rfl, .inl rfl⟩
      · exact ⟨_, rfl, .inr rfl⟩
    walk_at "d"
    refine ⟨mulW (a := 60) (b := 60) (by omega) (by rcases hs with rfl | rfl <;> decide) (by decide), _, rfl, by simp [D.ints]; omega, ns ++ [(1 + x1) * sg], _, rfl, by simp [D.ints], by simp [hl], fun n hn => ?_⟩
    rcases List.mem_append.mp hn with h | h
    · exact hb n h
    · simp at h
      subst h
      rcases hs with rfl | rfl <;> omega
  · rintro ρ M ⟨ns, o1, rfl, rfl, hl, hb⟩
    walk_at "d"
    rw [rangeD_len] at hl
    exact ret_v ⟨rfl, ns, rfl, by omega, by omega, hb⟩

end
section
variable {P : Program} {w : World} {K : PySem.W.Frag} {mg : Str → Option Value} {base : Heap} {a : Adr}
/-! ### two values of one datum are alike -/
theorem pl_tame {n : Nat} {d : D} (h : d.pl n = true) : Tame d := by
  match d, h with
  | .raw .non, _ => exact .non
  | .raw (.bl b), _ => exact .bl b
  | .raw (.int b), _ => exact .int b
  | .raw (.str b), _ => exact .str b
  | .raw (.byt b), h => simp [D.pl] at h
  | .raw (.flt b), h => simp [D.pl] at h
  | .raw (.ref b), h => simp [D.pl] at h
  | .raw (.ty b), h => simp [D.pl] at h
  | .tup ds, _ => exact .tup ds
  | .lst ds, _ => exact .lst ds
  | .dic _ _, h => simp [D.pl] at h
  | .ins _ _ _, h => simp [D.pl] at h
  | .rd _, h => simp [D.pl] at h
theorem plAll_mem {n : Nat} : ∀ {ds : List D} {d : D}, D.plAll n ds = true → d ∈ ds → d.pl n = true
  | c :: ds, d, h, hm => by
    simp only [D.plAll, Bool.and_eq_true] at h
    rcases List.mem_cons.mp hm with e | e
    · rw [e]; exact h.1
    · exact plAll_mem h.2 e
/-- .. not too long, at any depth -/
def shD : Nat → D → Prop
  | n + 1, .tup ds => ds.length ≤ 1000000 ∧ ∀ d, d ∈ ds → shD n d
  | n + 1, .lst ds => ds.length ≤ 1000000 ∧ ∀ d, d ∈ ds → shD n d
  | _, _ => True
theorem ok__law_alike (C : Ctx K mg a) : ∀ n : Nat, n ≤ 60 → FnAt P w K mg base CX0 n "_law_alike" ["_law_found", "_law_due"] (SpP K (fun d : D => [d, d]) (fun d => ∃ m, n = m + 1 ∧ d.pl m = true ∧ shD m d) (fun d r => r = .bl true)) := by
  intro n
  induction n with
  | zero => exact fun _ => fn_never C.d__law_alike fun d ⟨m, e, _⟩ => by omega
  | succ n ih =>
    intro hn
    have ih := ih (by omega)
    refine fn_at C.d__law_alike sc__law_alike (fun _ => rfl) fun f cdv A outer s H E hr => ⟨_, (pss_cons (ps_if (pt_val (pe_isiT (K := K) C.B.isinstance rfl (pa_cons (pv 1) (pa_cons (pe_tup (pa_cons (pe_bltn (v := .ty "tuple") rfl C.B.tuple (by decide +kernel) rfl) (pa_cons (pe_bltn (v := .ty "list") rfl C.B.list (by decide +kernel) rfl) pa_nil))) pa_nil))))
    (pss_cons (ps_if (PW.pt (pw_or (pt_not (pt_val (pe_isiT (K := K) C.B.isinstance rfl (pa_cons (pv 0) (pa_cons (pe_tup (pa_cons (pe_bltn (v := .ty "tuple") rfl C.B.tuple (by decide +kernel) rfl) (pa_cons (pe_bltn (v := .ty "list") rfl C.B.list (by decide +kernel) rfl) pa_nil))) pa_nil))))) (pw_or1 (pt_cmpR (op_gNe (K := K) (by exact hr.units)) (pe_isi (K := K) C.B.isinstance rfl (pa_cons (pv 0) (pa_cons (pe_bltn (v := .ty "list") rfl C.B.list (by decide +kernel) rfl) pa_nil))) (pe_isi (K := K) C.B.isinstance rfl (pa_cons (pv 1) (pa_cons (pe_bltn (v := .ty "list") rfl C.B.list (by decide +kernel) rfl) pa_nil))) (nomark _)))))
    (pss_one (ps_ret pe_bl))
    pss_nil)
    (pss_cons (ps_if (pt_cmpR (op_gNe (K := K) (by exact hr.units)) (pe_len (K := K) C.B.len rfl (pa_cons (pv 0) pa_nil)) (pe_len (K := K) C.B.len rfl (pa_cons (pv 1) pa_nil)) (nomark _))
    (pss_one (ps_ret pe_bl))
    pss_nil)
    (pss_one (ps_ret (pe_cmpR (op_gEq (K := K) (by exact hr.units)) (pe_lc (own := [("_law_k", 2)]) (g := (gName 2)) (tt := _) rfl sc__law_alike.nd (pi_range1 rfl C.B.range (pa_cons (pe_len (K := K) C.B.len rfl (pa_cons (pv 1) pa_nil)) pa_nil)) (blkOk_by (N := n__law_alike) (sc := defScope s__law_alike) (by decide +kernel)) (fun _ _ _ _ _ => (pg_name (i := 2) sc__law_alike.nd rfl (by first | exact Or.inl rfl | exact Or.inr rfl))) (fun _ _ _ _ _ => (pts_one (pt_not (pt_val (pe_fn (ih) (hr.mono (by omega)) rfl (pa_cons (pe_ix (ix_any (K := K)) (pv 0) (pv 2) (fun _ _ => rfl)) (pa_cons (pe_ix (ix_any (K := K)) (pv 1) (pv 2) (fun _ _ => rfl)) pa_nil))))))) (fun _ _ _ _ _ => (pv 2))) (pe_lst pa_nil) (nomark _))))))
    pss_nil)
    (pss_cons (ps_if (PW.pt (pw_or (pt_cmpR op_gIs (pv 1) pe_non (nomark _)) (pw_or1 (pt_val (pe_isi (K := K) C.B.isinstance rfl (pa_cons (pv 1) (pa_cons (pe_bltn (v := .ty "str") rfl C.B.str (by decide +kernel) rfl) pa_nil)))))))
    (pss_one (ps_ret (pe_and (pe_cmpR (op_gEq (K := K) (by exact hr.units)) (pv 0) (pv 1) (nomark _)) (pe_one (pe_cmpR (op_gEq (K := K) (by exact hr.units)) (pe_isi (K := K) C.B.isinstance rfl (pa_cons (pv 0) (pa_cons (pe_bltn (v := .ty "str") rfl C.B.str (by decide +kernel) rfl) pa_nil))) (pe_isi (K := K) C.B.isinstance rfl (pa_cons (pv 1) (pa_cons (pe_bltn (v := .ty "str") rfl C.B.str (by decide +kernel) rfl) pa_nil))) (nomark _))))))
    pss_nil)
    (pss_one (ps_ret (pe_and (pe_isi (K := K) C.B.isinstance rfl (pa_cons (pv 0) (pa_cons (pe_bltn (v := .ty "int") rfl C.B.int (by decide +kernel) rfl) pa_nil))) (pe_and (pe_cmpR (op_gEq (K := K) (by exact hr.units)) (pe_isi (K := K) C.B.isinstance rfl (pa_cons (pv 0) (pa_cons (pe_bltn (v := .ty "bool") rfl C.B.bool (by decide +kernel) rfl) pa_nil))) (pe_isi (K := K) C.B.isinstance rfl (pa_cons (pv 1) (pa_cons (pe_bltn (v := .ty "bool") rfl C.B.bool (by decide +kernel) rfl) pa_nil))) (nomark _)) (pe_one (pe_cmpR (op_gEq (K := K) (by exact hr.units)) (pv 0) (pv 1) (nomark _))))))))), fun d e hp he => ?_⟩
    obtain ⟨m, e1, hpl, hsh⟩ := hp
    have e1 : m = n := by omega
    subst e1
    have ht := pl_tame hpl
    dsimp only [cxOf]
    walk_at "d"
    refine ⟨d, "tuple", "list", rfl, rfl, ht, _, _, kb_tup ht, kb_lst ht, ?_⟩
    have cs : (∃ ds, (d = .tup ds ∨ d = .lst ds) ∧ ds.length ≤ 1000000 ∧ ∀ x, x ∈ ds → ∃ k, m = k + 1 ∧ x.pl k = true ∧ shD k x) ∨ (∃ v, d = .raw v) := by
      match m, d, hpl, hsh with
      | _, .raw v, _, _ => exact .inr ⟨v, rfl⟩
      | 0, .tup ds, h, _ => simp [D.pl] at h
      | 0, .lst ds, h, _ => simp [D.pl] at h
      | k + 1, .tup ds, h, h2 => exact .inl ⟨ds, .inl rfl, h2.1, fun x hx => ⟨k, rfl, plAll_mem (by simpa [D.pl] using h) hx, h2.2 x hx⟩⟩
      | k + 1, .lst ds, h, h2 => exact .inl ⟨ds, .inr rfl, h2.1, fun x hx => ⟨k, rfl, plAll_mem (by simpa [D.pl] using h) hx, h2.2 x hx⟩⟩
      | _, .dic _ _, h, _ => simp [D.pl] at h
      | _, .ins _ _ _, h, _ => simp [D.pl] at h
      | _, .rd _, h, _ => simp [D.pl] at h
    rcases cs with ⟨ds, z, hl, hx⟩ | ⟨v, rfl⟩
    · rcases z with rfl | rfl
      all_goals
        refine ⟨_, rfl, iteT ?_⟩
        walk_at "d"
        refine ⟨_, "tuple", "list", rfl, rfl, ht, _, _, kb_tup ht, kb_lst ht, ?_⟩
        refine ⟨_, rfl, iteF ?_⟩
        walk_at "d"
        refine ite_ndec (fun h => (h rfl).elim) (fun _ => ?_)
        walk_at "d"
        refine ite_ndec (fun h => (h rfl).elim) (fun _ => ?_)
        walk_at "d"
        refine ev_lc (ei_range1 ?_)
        walk_at "d"
        refine ⟨_, rfl, by omega, by omega, by rw [rangeD_len]; omega, fun _ acc => acc = [], rfl, ?_, ?_⟩
        · rintro i c acc hi rfl
          obtain ⟨hil, rfl⟩ := rangeD_get hi
          have hil : i < ds.length := by omega
          have hget : atI ds (0 + (i : Int)) = some ds[i] := by rw [Int.zero_add]; exact atI_nat (List.getElem?_eq_getElem hil)
          walk_at "d"
          refine ⟨ds[i], hget, ?_⟩
          walk_at "d"
          refine ⟨ds[i], hget, ?_⟩
          walk_at "d"
          refine ⟨ds[i], rfl, hx _ (List.getElem_mem hil), fun r hr' => ?_⟩
          subst hr'
          refine ⟨_, rfl, iteF rfl⟩
        · rintro acc rfl
          walk_at "d"
          refine g_eqD 1 rfl rfl (by decide) ?_
          exact ret_v rfl
    · match v, hpl with
      | .non, _ =>
        refine ⟨_, rfl, iteF ?_⟩
        walk_at "d"
        refine iteT (iteT ?_)
        walk_at "d"
        refine iteT ?_
        walk_at "d"
        exact ret_v rfl
      | .bl b, _ =>
        refine ⟨_, rfl, iteF ?_⟩
        walk_at "d"
        refine iteF ?_
        walk_at "d"
        refine iteF ?_
        walk_at "d"
        refine iteT ?_
        walk_at "d"
        refine ite_dec (fun _ => ?_) (fun h => (h rfl).elim)
        walk_at "d"
        exact ret_v (by rw [decide_eq_true rfl])
      | .int b, _ =>
        refine ⟨_, rfl, iteF ?_⟩
        walk_at "d"
        refine iteF ?_
        walk_at "d"
        refine iteF ?_
        walk_at "d"
        refine iteT ?_
        walk_at "d"
        refine ite_dec (fun _ => ?_) (fun h => (h rfl).elim)
        walk_at "d"
        exact ret_v (by rw [decide_eq_true rfl])
      | .str b, _ =>
        refine ⟨_, rfl, iteF ?_⟩
        walk_at "d"
        refine iteF ?_
        walk_at "d"
        refine iteT ?_
        walk_at "d"
        refine ite_dec (fun _ => ?_) (fun h => (h rfl).elim)
        walk_at "d"
        exact ret_v rfl

end
section
variable {P : Program} {w : World} {K : PySem.W.Frag} {mg : Str → Option Value} {base : Heap} {a : Adr}
/-! ### forms: == and len -/
theorem pl_wt (ns : List Int) : (wt ns).pl 2 = true := by
  show D.plAll 1 (D.ints ns) = true
  induction ns with
  | nil => rfl
  | cons n ns ih => simpa [D.ints, D.plAll, D.pl] using ih
theorem pl_fm (ws : List (List Int)) : (D.tup (ws.map wt)).pl 3 = true := by
  show D.plAll 2 (ws.map wt) = true
  induction ws with
  | nil => rfl
  | cons n ns ih =>
    simp only [List.map_cons, D.plAll, Bool.and_eq_true]
    exact ⟨pl_wt n, ih⟩
/-- what a form is compared with -/
inductive Oth (C : Addr) : D → Prop
  | form (ws : List (List Int)) : Oth C (fm C ws)
  | tup (ds : List D) : Oth C (.tup ds)
def eqF (C : Addr) (ws : List (List Int)) : D → Bool
  | .ins _ _ (d :: _) => (D.tup (ws.map wt)).eqv d
  | _ => false
theorem ok_Form___eq__ (C : Ctx K mg a) : MFnAt P w K mg base 2 a.Form "__eq__" ["self", "other"] (SpP K (fun x : List (List Int) × D => [fm a.Form x.1, x.2]) (fun x => Oth a.Form x.2) (fun x d => d = .bl (eqF a.Form x.1 x.2))) := by
  refine mfn_at C.e_Form___eq__ sc_Form___eq__ (fun _ => rfl) fun f cdv A outer s H E hr => ⟨_, (pss_one (ps_ret (pe_and (pe_isi (K := K) C.B.isinstance rfl (pa_cons (pv 1) (pa_cons (pe_cls C.m_Form rfl) pa_nil))) (pe_one (pe_cmpR (op_gEq (K := K) (by exact hr.units)) (pe_at (K := K) (pv 0)) (pe_at (K := K) (pv 1)) (nomark _)))))), fun x e hp he => ?_⟩
  obtain ⟨ws, d⟩ := x
  have hp : Oth a.Form d := hp
  dsimp only [cxOf]
  cases hp with
  | form ws' =>
    walk_at "d"
    refine ec_isiC (.ins _ _ _ C.k_Form) kit_self ?_
    refine ⟨_, rfl, iteT ?_⟩
    walk_at "d"
    refine ev_at ?_
    walk_at "d"
    refine ⟨_, _, _, rfl, C.k_Form.cl, C.n_Form_rows, _, _, rfl, rfl, ?_⟩
    refine ev_at ?_
    walk_at "d"
    refine ⟨_, _, _, rfl, C.k_Form.cl, C.n_Form_rows, _, _, rfl, rfl, ?_⟩
    refine g_eqD 3 (pl_fm ws) (pl_fm ws') (by decide) ?_
    exact .inl ⟨_, rfl, rfl⟩
  | tup ds =>
    walk_at "d"
    refine ec_isiC (.tup _) (C.t_Form.no "tuple" mro_tup) ?_
    exact ⟨_, rfl, iteF (.inl ⟨_, rfl, rfl⟩)⟩
end
section
variable {P : Program} {w : World} {K : PySem.W.Frag} {mg : Str → Option Value} {base : Heap} {a : Adr}
/-! ### words and parts -/
open SX (S)
abbrev digL : List Nat := [48, 49, 50, 51, 52, 53, 54, 55, 56, 57]
def figs (w : List Nat) : List Nat := if w.take 1 = [45] then w.drop 1 else w
def okF (w : List Nat) : Bool := decide (1 ≤ (figs w).length) && decide ((figs w).length ≤ 7) && (figs w).all fun c => decide (c ∈ digL)
/-- what int(word) is -/
def valW (w : List Nat) : Int := if w.take 1 = [45] then -((NumText.digitsVal (figs w) : Nat) : Int) else ((NumText.digitsVal (figs w) : Nat) : Int)
def decC (v : Int) : List Nat := (Str.ofString (toString v)).cps.toList
theorem S_decC (v : Int) : S (decC v) = Str.ofString (toString v) := SX.S_tl _
/-- the part that a word writes -/
def partV (w : List Nat) : Int := if okF w = true then (if decC (valW w) = w ∧ (valW w).natAbs ≤ 1000000 then valW w else 0) else 0
theorem dig_rng {c : Nat} (h : c ∈ digL) : 48 ≤ c ∧ c ≤ 57 := by
  simp only [digL, List.mem_cons, List.not_mem_nil, or_false] at h
  omega
theorem okF_int {w : List Nat} (h : okF w = true) : PySem.intText? (S w) = some (valW w) := by
  unfold okF at h
  simp only [Bool.and_eq_true, decide_eq_true_eq, List.all_eq_true] at h
  obtain ⟨⟨h1, h7⟩, hd⟩ := h
  have ad : NumText.AllDigits (figs w) := fun c hc => dig_rng (hd c hc)
  have hne : figs w ≠ [] := fun z => by rw [z] at h1; simp at h1
  unfold valW
  by_cases hm : w.take 1 = [45]
  · rw [if_pos hm]
    have hf : figs w = w.drop 1 := if_pos hm
    have hw : w = 45 :: figs w := by
      rw [hf]
      match w, hm with
      | c :: r, hm =>
        simp at hm
        rw [hm]
        rfl
    refine PySem.intText_neg (cs := figs w) hw ad hne ?_
    rw [SX.S_len, hw, List.length_cons]
    omega
  · rw [if_neg hm]
    have hf : figs w = w := if_neg hm
    rw [hf] at ad hne h7 ⊢
    exact PySem.intText_digits ad hne (by rw [SX.S_len]; omega)
theorem dv_lt : ∀ (cs : List Nat) (b : Nat), NumText.AllDigits cs → cs.foldl (fun acc c => acc * 10 + (c - 48)) b + 1 ≤ (b + 1) * 10 ^ cs.length
  | [], b, _ => by simp
  | c :: cs, b, h => by
    have hc := h.head
    have ih := dv_lt cs (b * 10 + (c - 48)) h.tail
    rw [List.foldl_cons, List.length_cons, Nat.pow_succ]
    refine Nat.le_trans ih ?_
    have h9 : b * 10 + (c - 48) + 1 ≤ (b + 1) * 10 := by omega
    have := Nat.mul_le_mul_right (10 ^ cs.length) h9
    rw [Nat.mul_comm (10 ^ cs.length) 10, ← Nat.mul_assoc]
    exact this
theorem valW_lt {w : List Nat} (h : okF w = true) : (valW w).natAbs < 10000000 := by
  unfold okF at h
  simp only [Bool.and_eq_true, decide_eq_true_eq, List.all_eq_true] at h
  obtain ⟨⟨h1, h7⟩, hd⟩ := h
  have ad : NumText.AllDigits (figs w) := fun c hc => dig_rng (hd c hc)
  have hb := dv_lt (figs w) 0 ad
  have h10 : 10 ^ (figs w).length ≤ 10 ^ 7 := Nat.pow_le_pow_right (by decide) h7
  have hv : NumText.digitsVal (figs w) < 10000000 := by
    have e : NumText.digitsVal (figs w) = (figs w).foldl (fun acc c => acc * 10 + (c - 48)) 0 := rfl
    rw [e]
    omega
  unfold valW
  split <;> omega
theorem dec_eq (v : Int) (w : List Nat) : decide (V.str (Str.ofString (toString v)) = V.str (S w)) = decide (decC v = w) := by
  rw [decide_eq_decide, ← S_decC]
  exact ⟨fun h => SX.S_inj (V.str.inj h), fun h => by rw [h]⟩
theorem ok_part_of (C : Ctx K mg a) : FnAt P w K mg base CX0 1 "part_of" ["word"] (SpP K (fun w : List Nat => [tx w]) (fun w => w.length ≤ 10000) (fun w d => d = .int (partV w))) := by
  refine fn_at C.d_part_of sc_part_of (fun _ => rfl) fun f cdv A outer s H E hr => ⟨_, (pss_cons (ps_set (i := 1) sc_part_of.nd rfl (Or.inl rfl) (pe_ifExp (pt_cmpR (op_gEq (K := K) (by exact hr.units)) (pe_slice sl_str (pv 0) po_none (po_some pe_int)) pe_str (nomark _)) (pe_slice sl_str (pv 0) (po_some pe_int) po_none) (pv 0)))
    (pss_cons (ps_if (PW.pt (pw_or (pt_not (pt_chain op_gLe op_gLe pe_int (pe_len (K := K) C.B.len rfl (pa_cons (pv 1) pa_nil)) (C.c_MOST_FIGURES.pe rfl))) (pw_or1 (pt_not (pt_val (pe_all (K := K) C.B.all rfl rfl (pa_cons (pe_lc (own := [("sign", 2)]) (g := (gName 2)) (tt := tYes) rfl sc_part_of.nd (pi_str (pv 1)) (blkOk_by (N := n_part_of) (sc := defScope s_part_of) (by decide +kernel)) (fun _ _ _ _ _ => (pg_name (i := 2) sc_part_of.nd rfl (by first | exact Or.inl rfl | exact Or.inr rfl))) (fun _ _ _ _ _ => pts_nil) (fun _ _ _ _ _ => (pe_cmpR (op_in_sign) (pv 2) pe_str rfl))) pa_nil)))))))
    (pss_one (ps_ret pe_int))
    pss_nil)
    (pss_one (ps_ret (pe_ifExp (PW.pt (pw_and (pt_cmpR (op_gEq (K := K) (by exact hr.units)) (pe_strI C.B.str rfl (pa_cons (pe_intS C.B.int rfl (pa_cons (pv 0) pa_nil)) pa_nil)) (pv 0) (nomark _)) (pw_and1 (pt_cmpR op_gLe (pe_abs C.B.abs rfl (pa_cons (pe_intS C.B.int rfl (pa_cons (pv 0) pa_nil)) pa_nil)) (C.c_MOST_PART.pe rfl) (nomark _))))) (pe_intS C.B.int rfl (pa_cons (pv 0) pa_nil)) pe_int))))), fun w e hp he => ?_⟩
  have hl : w.length ≤ 10000 := hp
  dsimp only [cxOf]
  refine r_seq (r_asg ?_)
  refine EvP.mono (?_ : EvP K _ _ _ fun s => s = .v (tx (figs w))) ?_
  · walk_at "d"
    refine ev_slS ?_
    walk_at "d"
    refine ⟨S w, rfl, by rw [SX.S_len]; omega, ?_⟩
    rw [show (1 : Int) = ((1 : Nat) : Int) from rfl, cut_take]
    walk_at "d"
    have e1 : decide (V.str (S (w.take 1)) = V.str (Str.ofString "-")) = decide (w.take 1 = [45]) := by
      rw [decide_eq_decide]
      have : (Str.ofString "-" : Str) = S [45] := by decide
      rw [this]
      exact ⟨fun h => SX.S_inj (V.str.inj h), fun h => by rw [h]⟩
    rw [e1]
    by_cases hm : w.take 1 = [45]
    · rw [decide_eq_true hm]
      refine iteT ?_
      refine ev_slS ?_
      walk_at "d"
      refine ⟨S w, rfl, by rw [SX.S_len]; omega, ?_⟩
      rw [cut_drop]
      unfold figs
      rw [if_pos hm]
    · rw [decide_eq_false hm]
      refine iteF ?_
      walk_at "d"
      unfold figs
      rw [if_neg hm]
  rintro _ rfl
  have lf : (figs w).length ≤ 10000 := by
    unfold figs
    split
    · rw [List.length_drop]; omega
    · exact hl
  walk_at "d"
  refine ec_lenS (by rw [SX.S_len]; omega) ?_
  rw [SX.S_len]
  walk_at "d"
  have no : okF w = false → partV w = 0 := fun h => by
    unfold partV
    rw [h, if_neg Bool.false_ne_true]
  have okd : okF w = (decide (1 ≤ (figs w).length) && decide ((figs w).length ≤ 7) && (figs w).all fun c => decide (c ∈ digL)) := rfl
  refine ite_dec (fun h1 => ?_) (fun h1 => ?_)
  · walk_at "d"
    refine ite_ndec (fun h2 => ?_) (fun h2 => ?_)
    · refine iteT ?_
      walk_at "d"
      refine ret_v ?_
      rw [no]
      rw [okd, decide_eq_false (show ¬ (figs w).length ≤ 7 by omega)]
      simp
    · walk_at "d"
      refine ev_lc (ei_tx ?_)
      walk_at "d"
      refine ⟨figs w, rfl, by rw [List.length_map]; omega, fun j acc => acc = D.bls (((figs w).take j).map fun c => decide (c ∈ digL)), rfl, fun j d acc hj ha => ?_, fun acc ha => ?_⟩
      · rw [List.getElem?_map] at hj
        obtain ⟨c, hc, rfl⟩ := Option.map_eq_some_iff.mp hj
        have ha : acc = D.bls (((figs w).take j).map fun c => decide (c ∈ digL)) := ha
        refine eg_name ?_
        refine fun σ α F H en S0 k kk => kk true F H .refl S0 ?_
        refine iteT ?_
        walk_at "d"
        refine g_inC (l := digL) rfl ?_
        refine ⟨_, rfl, ?_⟩
        show acc ++ [D.bl (decide (c ∈ digL))] = D.bls (((figs w).take (j + 1)).map fun c => decide (c ∈ digL))
        rw [take_snoc hc, ha]
        simp [D.bls]
      · have ha : acc = D.bls (((figs w).take ((figs w).map fun c => tx [c]).length).map fun c => decide (c ∈ digL)) := ha
        rw [List.length_map, List.take_length] at ha
        subst ha
        walk_at "d"
        refine ec_all (bs := (figs w).map fun c => decide (c ∈ digL)) .v ?_
        have ea : ((figs w).map fun c => decide (c ∈ digL)).all id = (figs w).all fun c => decide (c ∈ digL) := by simp [List.all_map]
        rw [ea]
        cases hA : (figs w).all fun c => decide (c ∈ digL) with
        | false =>
          refine ⟨_, rfl, iteT ?_⟩
          walk_at "d"
          refine ret_v ?_
          rw [no]
          rw [okd, hA, Bool.and_false]
        | true =>
          have ok : okF w = true := by
            rw [okd, hA, decide_eq_true (show 1 ≤ (figs w).length by omega), decide_eq_true (show (figs w).length ≤ 7 by omega)]
            rfl
          have lw : w.length ≤ 8 := by
            have : w.length ≤ (figs w).length + 1 := by
              unfold figs
              split
              · rw [List.length_drop]; omega
              · omega
            omega
          have it := okF_int ok
          have pv : partV w = if decC (valW w) = w ∧ (valW w).natAbs ≤ 1000000 then valW w else 0 := if_pos ok
          have sl : (S w).length ≤ 640 := by rw [SX.S_len]; omega
          refine ⟨_, rfl, iteF ?_⟩
          refine r_next ?_
          walk_at "d"
          refine x_intS it sl ?_
          have vl := valW_lt ok
          have hlog : (valW w).natAbs.log2 < 1920 := by
            by_cases z : (valW w).natAbs = 0
            · rw [z]; decide
            · rw [Nat.log2_lt z]
              exact Nat.lt_of_lt_of_le vl (Nat.le_trans (show 10000000 ≤ 2 ^ 24 by decide) (Nat.pow_le_pow_right (by decide) (by decide)))
          walk_at "d"
          refine ec_strI hlog ?_
          walk_at "d"
          rw [dec_eq]
          by_cases hd : decC (valW w) = w
          · rw [decide_eq_true hd]
            refine iteT ?_
            walk_at "d"
            refine x_intS it sl ?_
            walk_at "d"
            refine ite_dec (fun h3 => ?_) (fun h3 => ?_)
            · walk_at "d"
              refine x_intS it sl (ret_v ?_)
              rw [pv, if_pos ⟨hd, by split at h3 <;> omega⟩]
            · walk_at "d"
              refine ret_v ?_
              rw [pv, if_neg (fun z => h3 (by have := z.2; split <;> omega))]
          · rw [decide_eq_false hd]
            refine iteF (iteF ?_)
            walk_at "d"
            refine ret_v ?_
            rw [pv, if_neg (fun z => hd z.1)]
  · refine ⟨_, rfl, iteT (iteT ?_)⟩
    walk_at "d"
    refine ret_v ?_
    rw [no]
    rw [okd, decide_eq_false (show ¬ 1 ≤ (figs w).length by omega)]
    rfl

end
section
variable {P : Program} {w : World} {K : PySem.W.Frag} {mg : Str → Option Value} {base : Heap} {a : Adr}
/-! ### a line's words -/
open SX (S)
abbrev weightC : List Nat := [119, 101, 105, 103, 104, 116]
/-- a text that may be asked -/
structure TxOk (l : List Nat) : Prop where
  len : l.length ≤ 10000
  ok : l.all (fun c => decide (c < 0x110000)) = true
def goW : List (List Nat) → Nat → Option Nat
  | [], _ => none
  | p :: ps, k => if k > 5 ∨ partV p = 0 then some (k + 1) else goW ps (k + 1)
/-- the first word that cannot stand -/
def wrongW : List (List Nat) → Option Nat
  | [] => some 1
  | h :: ps => if h = weightC then (if ps = [] then some 2 else goW ps 1) else some 1
theorem goW_none : ∀ {ps : List (List Nat)} {k : Nat}, (∀ i q, ps[i]? = some q → ¬ (k + i > 5 ∨ partV q = 0)) → goW ps k = none
  | [], _, _ => rfl
  | x :: ps, k, ha => by
    have h0 := ha 0 x rfl
    show (if k > 5 ∨ partV x = 0 then some (k + 1) else goW ps (k + 1)) = _
    rw [if_neg (by simpa using h0)]
    exact goW_none fun i q hq => by
      have := ha (i + 1) q (by simpa using hq)
      rw [show k + 1 + i = k + (i + 1) by omega]
      exact this
theorem partV_ne {w : List Nat} (h : partV w ≠ 0) : okF w = true ∧ partV w = valW w ∧ (valW w).natAbs ≤ 1000000 := by
  unfold partV at h ⊢
  by_cases ok : okF w = true
  · rw [if_pos ok] at h ⊢
    by_cases c : decC (valW w) = w ∧ (valW w).natAbs ≤ 1000000
    · exact ⟨ok, if_pos c, c.2⟩
    · rw [if_neg c] at h
      exact absurd rfl h
  · rw [if_neg ok] at h
    exact absurd rfl h
theorem okF_len {w : List Nat} (h : okF w = true) : w.length ≤ 8 := by
  unfold okF at h
  simp only [Bool.and_eq_true, decide_eq_true_eq] at h
  have h7 := h.1.2
  have : w.length ≤ (figs w).length + 1 := by
    unfold figs
    split
    · rw [List.length_drop]; omega
    · omega
  omega
theorem tx_pl {l : List Nat} (h : l.all (fun c => decide (c < 0x110000)) = true) (n : Nat) : (tx l).pl n = true := by
  show (S l).cps.all (· < 0x110000) = true
  rw [← Array.all_toList]
  exact h
theorem sl_lst {X : Cx} {K : PySem.W.Frag} (hK : X.K = K := by rfl) : SlR X (rSlL K) := by
  subst hK
  exact sl_list
theorem cut_n (xs : List D) (n : Nat) : cutD xs none (some (n : Int)) = xs.take n := by
  unfold cutD
  rw [HT.sIx_none, HT.sIx_nat, Nat.sub_zero, List.drop_zero]
  by_cases h : n ≤ xs.length
  · rw [Nat.min_eq_left h]
  · rw [Nat.min_eq_right (by omega), List.take_length, List.take_of_length_le (by omega)]
theorem cut_d (xs : List D) (n : Nat) : cutD xs (some (n : Int)) none = xs.drop n := by
  unfold cutD
  rw [HT.sIx_none, HT.sIx_nat]
  by_cases h : n ≤ xs.length
  · rw [Nat.min_eq_left h, List.take_of_length_le (by rw [List.length_drop]; omega)]
  · rw [Nat.min_eq_right (by omega), List.drop_length, List.drop_eq_nil_of_le (by omega)]
    simp
theorem eqv_w (w : List Nat) : (D.lst [tx w]).eqv (D.lst [.str "weight"]) = decide (w = weightC) := by
  have e : (Str.ofString "weight" : Str) = S weightC := by decide
  show PyData.eqvAll [.str (S w)] [.str (Str.ofString "weight")] = _
  rw [e]
  show (S w == S weightC && true) = _
  rw [Bool.and_true, SX.S_beq_eq]

end
section
variable {P : Program} {w : World} {K : PySem.W.Frag} {mg : Str → Option Value} {base : Heap} {a : Adr}
/-! ### a text, read -/
open SX (S)
theorem spl_eq (c : Nat) (acc r : List Nat) : TL.spl [c] 0 acc (c :: r) = acc :: TL.spl [c] 0 [] r := TL.spl_hit (by simp [TL.pre])
theorem spl_ne {c d : Nat} (h : d ≠ c) (acc r : List Nat) : TL.spl [c] 0 acc (d :: r) = TL.spl [c] 0 (acc ++ [d]) r := TL.spl_miss (by simp [TL.pre]; exact h)
theorem spl_ok {c : Nat} : ∀ (l acc : List Nat) (p : List Nat), p ∈ TL.spl [c] 0 acc l → p.length ≤ acc.length + l.length ∧ ∀ x, x ∈ p → x ∈ acc ∨ x ∈ l
  | [], acc, p, h => by
    rw [TL.spl_nil] at h
    simp at h
    subst h
    exact ⟨by simp, fun x hx => .inl hx⟩
  | d :: r, acc, p, h => by
    by_cases e : d = c
    · subst e
      rw [spl_eq] at h
      rcases List.mem_cons.mp h with rfl | h
      · exact ⟨by simp, fun x hx => .inl hx⟩
      · obtain ⟨h1, h2⟩ := spl_ok r [] p h
        refine ⟨by simp at h1 ⊢; omega, fun x hx => ?_⟩
        rcases h2 x hx with z | z
        · simp at z
        · exact .inr (List.mem_cons_of_mem _ z)
    · rw [spl_ne e] at h
      obtain ⟨h1, h2⟩ := spl_ok r (acc ++ [d]) p h
      refine ⟨by simp at h1 ⊢; omega, fun x hx => ?_⟩
      rcases h2 x hx with z | z
      · rcases List.mem_append.mp z with z | z
        · exact .inl z
        · simp at z
          subst z
          exact .inr (by simp)
      · exact .inr (List.mem_cons_of_mem _ z)
theorem spl_len {c : Nat} : ∀ (l acc : List Nat), 1 ≤ (TL.spl [c] 0 acc l).length ∧ (TL.spl [c] 0 acc l).length ≤ l.length + 1
  | [], acc => by rw [TL.spl_nil]; simp
  | d :: r, acc => by
    by_cases e : d = c
    · subst e
      rw [spl_eq]
      have := spl_len (c := d) r []
      simp only [List.length_cons]
      omega
    · rw [spl_ne e]
      have := spl_len (c := c) r (acc ++ [d])
      simp only [List.length_cons]
      omega
theorem spl_tx {c : Nat} {l p : List Nat} (h : TxOk l) (hp : p ∈ TL.spl [c] 0 [] l) : TxOk p := by
  obtain ⟨h1, h2⟩ := spl_ok l [] p hp
  refine ⟨by have := h.len; simp at h1; omega, ?_⟩
  rw [List.all_eq_true]
  intro x hx
  rcases h2 x hx with z | z
  · simp at z
  · exact List.all_eq_true.mp h.ok x z
def wordsOf (l : List Nat) : List (List Nat) := (TL.spl [32] 0 [] l).filter fun w => !decide (w = [])
/-- the first word that cannot stand: its line and its place -/
def dueT : List (List Nat) → Nat → Option (Nat × Nat)
  | [], k => if k < 3 then some (k + 1, 1) else none
  | l :: ls, k => if k ≥ 4 then some (k + 1, 1) else match wrongW (wordsOf l) with
    | some w => some (k + 1, w)
    | none => dueT ls (k + 1)
theorem goW_ok : ∀ {ps : List (List Nat)} {k : Nat}, goW ps k = none → ∀ i q, ps[i]? = some q → ¬ (k + i > 5 ∨ partV q = 0)
  | [], _, _, i, q, h => by simp at h
  | x :: ps, k, hn, i, q, h => by
    have hn : (if k > 5 ∨ partV x = 0 then some (k + 1) else goW ps (k + 1)) = none := hn
    by_cases c : k > 5 ∨ partV x = 0
    · rw [if_pos c] at hn
      cases hn
    · rw [if_neg c] at hn
      cases i with
      | zero =>
        have e : x = q := by simpa using h
        subst e
        simpa using c
      | succ i =>
        have := goW_ok hn i q (by simpa using h)
        rw [show k + (i + 1) = k + 1 + i by omega]
        exact this
theorem wrongW_ok {ws : List (List Nat)} (h : wrongW ws = none) : Wt (ws.tail.map partV) := by
  cases ws with
  | nil => cases h
  | cons a ps =>
    have h : (if a = weightC then (if ps = [] then some 2 else goW ps 1) else some 1) = none := h
    by_cases ha : a = weightC
    · rw [if_pos ha] at h
      by_cases hp : ps = []
      · rw [if_pos hp] at h
        cases h
      · rw [if_neg hp] at h
        have g := goW_ok h
        have l1 : 1 ≤ ps.length := List.length_pos_iff.mpr hp
        refine ⟨by simpa using l1, ?_, fun n hn => ?_⟩
        · have hq : ps[ps.length - 1]? = some ps[ps.length - 1] := List.getElem?_eq_getElem (by omega)
          have := g _ _ hq
          show (ps.map partV).length ≤ 5
          rw [List.length_map]
          omega
        · obtain ⟨q, hq, rfl⟩ := List.mem_map.mp (show n ∈ ps.map partV from hn)
          obtain ⟨i, hi⟩ := List.getElem?_of_mem hq
          have h0 : partV q ≠ 0 := fun z => g i q hi (.inr z)
          obtain ⟨_, e, hb⟩ := partV_ne h0
          exact ⟨h0, by rw [e]; exact hb⟩
    · rw [if_neg ha] at h
      cases h
theorem dueT_step {L : List (List Nat)} {i : Nat} {l : List Nat} (h : L[i]? = some l) : dueT (L.drop i) i = if i ≥ 4 then some (i + 1, 1) else match wrongW (wordsOf l) with
    | some w => some (i + 1, w)
    | none => dueT (L.drop (i + 1)) (i + 1) := by
  obtain ⟨hi, rfl⟩ := List.getElem?_eq_some_iff.mp h
  rw [List.drop_eq_getElem_cons hi]
  rfl
theorem dueT_end {L : List (List Nat)} {i : Nat} (h : L.length ≤ i) : dueT (L.drop i) i = if i < 3 then some (i + 1, 1) else none := by
  rw [List.drop_eq_nil_of_le h]
  rfl
theorem wordsOf_tx {l : List Nat} (h : TxOk l) : (wordsOf l).length ≤ 10001 ∧ ∀ w, w ∈ wordsOf l → TxOk w := by
  refine ⟨?_, fun w hw => spl_tx h (List.mem_filter.mp hw).1⟩
  have h1 := List.length_filter_le (fun w => !decide (w = [])) (TL.spl [32] 0 [] l)
  have h2 := (spl_len (c := 32) l []).2
  have h3 := h.len
  show ((TL.spl [32] 0 [] l).filter _).length ≤ _
  omega
theorem ne_str (w : List Nat) : (!decide (V.str (S w) = V.str (Str.ofString ""))) = !decide (w = []) := by
  congr 1
  rw [decide_eq_decide]
  have : (Str.ofString "" : Str) = S [] := by decide
  rw [this]
  exact ⟨fun h => SX.S_inj (V.str.inj h), fun h => by rw [h]⟩

end
section
variable {P : Program} {w : World} {K : PySem.W.Frag} {mg : Str → Option Value} {base : Heap} {a : Adr}
/-! ### texts of forms -/
open SX (S)
open PySem.StrLaws (replL replL_hit replL_miss replL_nil)
theorem decC_natE (n : Nat) : decC (n : Int) = TL.numL n := TL.tl_num n
theorem decC_negE {n : Nat} (h : 1 ≤ n) : decC (-(n : Int)) = 45 :: TL.numL n := by
  obtain ⟨m, rfl⟩ : ∃ m, n = m + 1 := ⟨n - 1, by omega⟩
  rw [← decC_natE]
  have e : toString (-((m + 1 : Nat) : Int)) = "-" ++ toString ((m + 1 : Nat) : Int) := rfl
  unfold decC
  rw [e, PyProof.Rows.signs_ofString, PyProof.Rows.signs_ofString, String.toList_append, List.map_append]
  rfl
theorem dig_mem {c : Nat} (h : 48 ≤ c ∧ c ≤ 57) : c ∈ digL := by
  simp only [digL, List.mem_cons, List.not_mem_nil, or_false]
  omega
/-- a written part, read -/
theorem dec_part {v : Int} (h0 : v ≠ 0) (h6 : v.natAbs ≤ 1000000) : partV (decC v) = v ∧ (∀ c, c ∈ decC v → c ≠ 32 ∧ c ≠ 10 ∧ c < 128) ∧ decC v ≠ [] ∧ (decC v).length ≤ 8 := by
  have key : ∀ n : Nat, n ≤ 1000000 → (TL.numL n).length ≤ 7 ∧ (∀ c, c ∈ TL.numL n → 48 ≤ c ∧ c ≤ 57) ∧ TL.numL n ≠ [] := fun n hn =>
    ⟨TL.numL_len (by decide) (by omega), TL.numL_digits n, TL.numL_ne n⟩
  obtain ⟨n, hv⟩ : ∃ n : Nat, v = (n : Int) ∨ (1 ≤ n ∧ v = -(n : Int)) := ⟨v.natAbs, by omega⟩
  rcases hv with rfl | ⟨n1, rfl⟩
  · have hn : n ≤ 1000000 := by omega
    obtain ⟨l7, dg, ne⟩ := key n hn
    rw [decC_natE]
    have t1 : ¬ (TL.numL n).take 1 = [45] := fun z => by
      cases hq : TL.numL n with
      | nil => exact ne hq
      | cons c r =>
        rw [hq] at z
        simp at z
        have := dg c (by rw [hq]; simp)
        omega
    have fg : figs (TL.numL n) = TL.numL n := if_neg t1
    have l1 : 1 ≤ (TL.numL n).length := List.length_pos_iff.mpr ne
    have ok : okF (TL.numL n) = true := by
      unfold okF
      rw [fg, decide_eq_true l1, decide_eq_true l7]
      simp only [Bool.true_and, List.all_eq_true, decide_eq_true_eq]
      exact fun c hc => dig_mem (dg c hc)
    have vl : valW (TL.numL n) = (n : Int) := by
      unfold valW
      rw [if_neg t1, fg, TL.numL_val]
    refine ⟨?_, fun c hc => by have := dg c hc; omega, ne, by omega⟩
    unfold partV
    rw [if_pos ok, vl, if_pos ⟨decC_natE n, by omega⟩]
  · have hn : n ≤ 1000000 := by omega
    obtain ⟨l7, dg, ne⟩ := key n hn
    rw [decC_negE n1]
    have t1 : (45 :: TL.numL n).take 1 = [45] := rfl
    have fg : figs (45 :: TL.numL n) = TL.numL n := if_pos t1
    have l1 : 1 ≤ (TL.numL n).length := List.length_pos_iff.mpr ne
    have ok : okF (45 :: TL.numL n) = true := by
      unfold okF
      rw [fg, decide_eq_true l1, decide_eq_true l7]
      simp only [Bool.true_and, List.all_eq_true, decide_eq_true_eq]
      exact fun c hc => dig_mem (dg c hc)
    have vl : valW (45 :: TL.numL n) = -(n : Int) := by
      unfold valW
      rw [if_pos t1, fg, TL.numL_val]
    refine ⟨?_, fun c hc => ?_, by simp, by simp; omega⟩
    · unfold partV
      rw [if_pos ok, vl, if_pos ⟨decC_negE n1, by omega⟩]
    · rcases List.mem_cons.mp hc with rfl | hc
      · omega
      · have := dg c hc; omega
/-! words, with more spaces between -/
theorem spl_word {c : Nat} : ∀ (w acc r : List Nat), c ∉ w → TL.spl [c] 0 acc (w ++ r) = TL.spl [c] 0 (acc ++ w) r
  | [], acc, r, _ => by simp
  | d :: w, acc, r, h => by
    have hd : d ≠ c := fun z => h (by rw [z]; simp)
    rw [List.cons_append, spl_ne hd, spl_word w (acc ++ [d]) r (fun z => h (List.mem_cons_of_mem _ z))]
    simp
theorem spl_join {c : Nat} : ∀ (ws : List (List Nat)) (w acc : List Nat), (∀ x, x ∈ w :: ws → c ∉ x) → TL.spl [c] 0 acc (TL.joinL [c] (w :: ws)) = (acc ++ w) :: ws
  | [], w, acc, h => by
    have := spl_word w acc [] (h w (by simp))
    rw [List.append_nil] at this
    show TL.spl [c] 0 acc w = _
    rw [this, TL.spl_nil]
  | x :: ws, w, acc, h => by
    show TL.spl [c] 0 acc (w ++ ([c] ++ TL.joinL [c] (x :: ws))) = _
    rw [spl_word w acc _ (h w (by simp)), List.cons_append, List.nil_append, spl_eq, spl_join ws x [] (fun y hy => h y (List.mem_cons_of_mem _ hy))]
    rfl
abbrev nz (l : List (List Nat)) : List (List Nat) := l.filter fun w => !decide (w = [])
theorem nz_sp0 : ∀ (k : Nat) (r : List Nat), nz (TL.spl [32] 0 [] (List.replicate k 32 ++ r)) = nz (TL.spl [32] 0 [] r)
  | 0, r => rfl
  | k + 1, r => by
    rw [List.replicate_succ, List.cons_append, spl_eq]
    show nz ([] :: _) = _
    rw [nz, List.filter_cons_of_neg (by simp)]
    exact nz_sp0 k r
theorem nz_sp (k : Nat) (acc r : List Nat) (h : acc ≠ []) : nz (TL.spl [32] 0 acc (List.replicate (k + 1) 32 ++ r)) = acc :: nz (TL.spl [32] 0 [] r) := by
  rw [List.replicate_succ, List.cons_append, spl_eq, nz, List.filter_cons_of_pos (by simp [h])]
  exact congrArg _ (nz_sp0 k r)
theorem nz_join {n : Nat} (hn : 1 ≤ n) (k : Nat) : ∀ (ws : List (List Nat)) (w : List Nat), (∀ x, x ∈ w :: ws → x ≠ [] ∧ 32 ∉ x) → nz (TL.spl [32] 0 [] (TL.joinL (List.replicate n 32) (w :: ws) ++ List.replicate k 32)) = w :: ws
  | [], w, h => by
    obtain ⟨h1, h2⟩ := h w (by simp)
    show nz (TL.spl [32] 0 [] (w ++ List.replicate k 32)) = _
    rw [spl_word w [] _ h2, List.nil_append]
    cases k with
    | zero =>
      rw [List.replicate_zero, TL.spl_nil, nz, List.filter_cons_of_pos (by simp [h1])]
      rfl
    | succ k =>
      have := nz_sp k w [] h1
      rw [List.append_nil] at this
      rw [this, TL.spl_nil]
      rfl
  | x :: ws, w, h => by
    obtain ⟨h1, h2⟩ := h w (by simp)
    obtain ⟨m, rfl⟩ : ∃ m, n = m + 1 := ⟨n - 1, by omega⟩
    show nz (TL.spl [32] 0 [] ((w ++ (List.replicate (m + 1) 32 ++ TL.joinL (List.replicate (m + 1) 32) (x :: ws))) ++ List.replicate k 32)) = _
    rw [List.append_assoc, List.append_assoc, spl_word w [] _ h2, List.nil_append, nz_sp m w _ h1, nz_join hn k ws x (fun y hy => h y (List.mem_cons_of_mem _ hy))]
theorem wordsOf_wide {n j k : Nat} (hn : 1 ≤ n) {ws : List (List Nat)} (h0 : ws ≠ []) (h : ∀ x, x ∈ ws → x ≠ [] ∧ 32 ∉ x) : wordsOf (List.replicate j 32 ++ TL.joinL (List.replicate n 32) ws ++ List.replicate k 32) = ws := by
  cases ws with
  | nil => exact absurd rfl h0
  | cons w ws =>
    show nz (TL.spl [32] 0 [] _) = _
    rw [List.append_assoc, nz_sp0, nz_join hn k ws w h]
theorem replL_word {z : List Nat} : ∀ (w r : List Nat), 32 ∉ w → replL [32] z (w ++ r) = w ++ replL [32] z r
  | [], r, _ => rfl
  | c :: w, r, h => by
    have hc : c ≠ 32 := fun e => h (by rw [e]; simp)
    rw [List.cons_append, replL_miss (by simp [hc]), replL_word w r (fun e => h (List.mem_cons_of_mem _ e))]
    rfl
theorem replL_join {z : List Nat} : ∀ (ws : List (List Nat)), (∀ x, x ∈ ws → 32 ∉ x) → replL [32] z (TL.joinL [32] ws) = TL.joinL z ws
  | [], _ => replL_nil
  | [w], h => by
    have := replL_word (z := z) w [] (h w (by simp))
    rw [List.append_nil, replL_nil, List.append_nil] at this
    exact this
  | w :: x :: ws, h => by
    show replL [32] z (w ++ ([32] ++ TL.joinL [32] (x :: ws))) = w ++ (z ++ TL.joinL z (x :: ws))
    rw [replL_word w _ (h w (by simp)), List.cons_append, List.nil_append, replL_hit (by simp) (by simp)]
    show w ++ (z ++ replL [32] z (TL.joinL [32] (x :: ws))) = _
    rw [replL_join (x :: ws) (fun y hy => h y (List.mem_cons_of_mem _ hy))]
/-- the words of a weight; its line, with spaces -/
abbrev wdsC (v : List Int) : List (List Nat) := weightC :: v.map decC
def wideC (j n k : Nat) (v : List Int) : List Nat := List.replicate j 32 ++ TL.joinL (List.replicate n 32) (wdsC v) ++ List.replicate k 32
abbrev lineC (v : List Int) : List Nat := TL.joinL [32] (wdsC v)
theorem lineC_wide (v : List Int) : lineC v = wideC 0 1 0 v := by
  show _ = [] ++ TL.joinL [32] (wdsC v) ++ []
  rw [List.append_nil, List.nil_append]
theorem wds_ok {v : List Int} (h : Wt v) : ∀ x, x ∈ wdsC v → x ≠ [] ∧ (∀ c, c ∈ x → c ≠ 32 ∧ c ≠ 10 ∧ c < 128) ∧ x.length ≤ 8 := fun x hx => by
  rcases List.mem_cons.mp hx with rfl | hx
  · exact ⟨by decide, by decide, by decide⟩
  · obtain ⟨p, hp, rfl⟩ := List.mem_map.mp hx
    obtain ⟨p0, p6⟩ := h.3 p hp
    obtain ⟨_, h2, h3, h4⟩ := dec_part p0 p6
    exact ⟨h3, h2, h4⟩
theorem wds_wrong {v : List Int} (h : Wt v) : wrongW (wdsC v) = none ∧ (wdsC v).tail.map partV = v := by
  have e : (wdsC v).tail.map partV = v := by
    show (v.map decC).map partV = v
    rw [List.map_map]
    have : ∀ l : List Int, (∀ n, n ∈ l → n ≠ 0 ∧ n.natAbs ≤ 1000000) → l.map (partV ∘ decC) = l := by
      intro l
      induction l with
      | nil => intro _; rfl
      | cons p l ih =>
        intro hl
        obtain ⟨p0, p6⟩ := hl p (by simp)
        rw [List.map_cons, ih (fun n hn => hl n (List.mem_cons_of_mem _ hn))]
        show partV (decC p) :: l = _
        rw [(dec_part p0 p6).1]
    exact this v h.3
  refine ⟨?_, e⟩
  have ne : v.map decC ≠ [] := by
    have := h.1
    cases v with
    | nil => simp at this
    | cons _ _ => simp
  show (if weightC = weightC then (if v.map decC = [] then some 2 else goW (v.map decC) 1) else some 1) = none
  rw [if_pos rfl, if_neg ne]
  refine goW_none fun i q hi => ?_
  rw [List.getElem?_map] at hi
  obtain ⟨p, hp, rfl⟩ := Option.map_eq_some_iff.mp hi
  obtain ⟨p0, p6⟩ := h.3 p (List.mem_of_getElem? hp)
  have hil := (List.getElem?_eq_some_iff.mp hp).1
  have h5 := h.2
  rw [(dec_part p0 p6).1]
  rintro (z | z)
  · omega
  · exact p0 z
theorem joinL_mem {z : List Nat} : ∀ (ws : List (List Nat)) (c : Nat), c ∈ TL.joinL z ws → c ∈ z ∨ ∃ w, w ∈ ws ∧ c ∈ w
  | [], c, h => by cases h
  | [w], c, h => .inr ⟨w, by simp, h⟩
  | w :: x :: ws, c, h => by
    have h : c ∈ w ++ (z ++ TL.joinL z (x :: ws)) := h
    rcases List.mem_append.mp h with h | h
    · exact .inr ⟨w, by simp, h⟩
    · rcases List.mem_append.mp h with h | h
      · exact .inl h
      · rcases joinL_mem (x :: ws) c h with h | ⟨y, hy, hc⟩
        · exact .inl h
        · exact .inr ⟨y, List.mem_cons_of_mem _ hy, hc⟩
theorem joinL_len {z : List Nat} {b : Nat} : ∀ (ws : List (List Nat)), (∀ w, w ∈ ws → w.length ≤ b) → (TL.joinL z ws).length ≤ ws.length * (b + z.length)
  | [], _ => by simp [TL.joinL]
  | [w], h => by
    have := h w (by simp)
    show w.length ≤ 1 * _
    omega
  | w :: x :: ws, h => by
    have h1 := h w (by simp)
    have h2 := joinL_len (z := z) (x :: ws) (fun y hy => h y (List.mem_cons_of_mem _ hy))
    show (w ++ (z ++ TL.joinL z (x :: ws))).length ≤ _
    rw [List.length_append, List.length_append, List.length_cons, Nat.succ_mul]
    omega
structure LnOk (l : List Nat) (v : List Int) : Prop where
  len : l.length ≤ 100
  chr : ∀ c, c ∈ l → c ≠ 10 ∧ c < 128
  wds : wordsOf l = wdsC v
theorem wide_ok {v : List Int} (h : Wt v) {j n k : Nat} (hj : j ≤ 2) (hn : 1 ≤ n) (hn3 : n ≤ 3) (hk : k ≤ 2) : LnOk (wideC j n k v) v := by
  have ok := wds_ok h
  refine ⟨?_, fun c hc => ?_, wordsOf_wide hn (by simp) (fun x hx => ⟨(ok x hx).1, fun z => ((ok x hx).2.1 32 z).1 rfl⟩)⟩
  · have h1 := joinL_len (z := List.replicate n 32) (b := 8) (wdsC v) (fun w hw => (ok w hw).2.2)
    have h5 := h.2
    have hl : (wdsC v).length ≤ 6 := by
      show (v.map decC).length + 1 ≤ 6
      rw [List.length_map]; omega
    have h2 := Nat.mul_le_mul hl (show 8 + (List.replicate n 32).length ≤ 11 by rw [List.length_replicate]; omega)
    unfold wideC
    rw [List.length_append, List.length_append, List.length_replicate, List.length_replicate]
    omega
  · unfold wideC at hc
    rcases List.mem_append.mp hc with hc | hc
    · rcases List.mem_append.mp hc with hc | hc
      · have := List.eq_of_mem_replicate hc
        omega
      · rcases joinL_mem _ c hc with hc | ⟨w, hw, hc⟩
        · have := List.eq_of_mem_replicate hc
          omega
        · exact ((ok w hw).2.1 c hc).2
    · have := List.eq_of_mem_replicate hc
      omega
/-- lines that tell weights -/
def LnsOk : List (List Nat) → List (List Int) → Prop
  | [], ws => ws = []
  | l :: ls, ws => ∃ v r, ws = v :: r ∧ LnOk l v ∧ Wt v ∧ LnsOk ls r
theorem LnsOk.len : ∀ {ls : List (List Nat)} {ws : List (List Int)}, LnsOk ls ws → ls.length = ws.length
  | [], _, h => by
    have h : _ = [] := h
    subst h; rfl
  | l :: ls, _, ⟨v, r, rfl, _, _, h⟩ => by simp [h.len]
theorem LnsOk.mem : ∀ {ls : List (List Nat)} {ws : List (List Int)}, LnsOk ls ws → ∀ l, l ∈ ls → ∃ v, LnOk l v ∧ Wt v
  | [], _, _, l, hl => by cases hl
  | x :: ls, _, ⟨v, r, rfl, h1, h2, h⟩, l, hl => by
    rcases List.mem_cons.mp hl with rfl | hl
    · exact ⟨v, h1, h2⟩
    · exact h.mem l hl
theorem LnsOk.snoc : ∀ {ls : List (List Nat)} {ws : List (List Int)} {l : List Nat} {v : List Int}, LnsOk ls ws → LnOk l v → Wt v → LnsOk (ls ++ [l]) (ws ++ [v])
  | [], _, l, v, h, h1, h2 => by
    have h : _ = [] := h
    subst h
    exact ⟨v, [], rfl, h1, h2, rfl⟩
  | x :: ls, _, l, v, ⟨u, r, rfl, a, b, h⟩, h1, h2 => ⟨u, r ++ [v], rfl, a, b, h.snoc h1 h2⟩
def rowsOf (L : List (List Nat)) : List (List Int) := L.map fun ln => (wordsOf ln).tail.map partV
theorem LnsOk.rows : ∀ {ls : List (List Nat)} {ws : List (List Int)}, LnsOk ls ws → rowsOf ls = ws
  | [], _, h => by
    have h : _ = [] := h
    subst h; rfl
  | l :: ls, _, ⟨v, r, rfl, h1, h2, h⟩ => by
    show (wordsOf l).tail.map partV :: rowsOf ls = _
    rw [h1.wds, (wds_wrong h2).2, h.rows]
theorem LnsOk.due : ∀ {ls : List (List Nat)} {ws : List (List Int)} {k : Nat}, LnsOk ls ws → k + ls.length ≤ 4 → 3 ≤ k + ls.length → dueT ls k = none
  | [], _, k, _, _, h3 => by
    show (if k < 3 then some (k + 1, 1) else none) = none
    rw [if_neg (by simp at h3; omega)]
  | l :: ls, _, k, ⟨v, r, rfl, h1, h2, h⟩, h4, h3 => by
    have h4 : k + (ls.length + 1) ≤ 4 := h4
    have h3 : 3 ≤ k + (ls.length + 1) := h3
    show (if k ≥ 4 then some (k + 1, 1) else match wrongW (wordsOf l) with
      | some w => some (k + 1, w)
      | none => dueT ls (k + 1)) = none
    rw [if_neg (by omega), h1.wds, (wds_wrong h2).1]
    exact h.due (by omega) (by omega)
/-- .. read -/
theorem LnsOk.text {ls : List (List Nat)} {ws : List (List Int)} (h : LnsOk ls ws) (h34 : ls.length = 3 ∨ ls.length = 4) : TxOk (TL.joinL [10] ls) ∧ TL.spl [10] 0 [] (TL.joinL [10] ls) = ls := by
  have hm := h.mem
  have h1 := joinL_len (z := [10]) (b := 100) ls (fun l hl => by
    obtain ⟨v, a, _⟩ := hm l hl
    exact a.len)
  refine ⟨⟨?_, ?_⟩, ?_⟩
  · have h2 := Nat.mul_le_mul (show ls.length ≤ 4 by omega) (show 100 + ([10] : List Nat).length ≤ 101 by decide)
    omega
  · rw [List.all_eq_true]
    intro c hc
    have : c < 128 := by
      rcases joinL_mem _ c hc with hc | ⟨l, hl, hc⟩
      · simp at hc; omega
      · obtain ⟨v, a, _⟩ := hm l hl
        exact (a.chr c hc).2
    exact decide_eq_true (by omega)
  · cases ls with
    | nil => rcases h34 with h | h <;> cases h
    | cons l ls =>
      have := spl_join (c := 10) ls l [] (fun x hx z => by
        obtain ⟨v, a, _⟩ := hm x hx
        exact (a.chr 10 z).1 rfl)
      rw [this, List.nil_append]

end
section
variable {P : Program} {w : World} {K : PySem.W.Frag} {mg : Str → Option Value} {base : Heap} {a : Adr}
/-! ### a text, read and written -/
open SX (S)
theorem ok_take_weight (C : Ctx K mg a) : FnAt P w K mg base CX0 2 "take_weight" ["words", "line"] (SpP K (fun x : List (List Nat) × Int => [.lst (x.1.map tx), .int x.2]) (fun x => x.1.length ≤ 10001 ∧ (∀ w, w ∈ x.1 → TxOk w) ∧ wrongW x.1 = none)
    (fun x d => d = wt (x.1.tail.map partV))) := by
  refine fn_at C.d_take_weight sc_take_weight (fun _ => rfl) fun f cdv A outer s H E hr => ⟨_, (pss_cons (ps_if (pt_cmpR (op_gNe (K := K) (by exact hr.units)) (pe_slice (sl_lst (K := K)) (pv 0) po_none (po_some pe_int)) (pe_lst (pa_cons pe_str pa_nil)) (nomark _))
    (pss_one ps_never)
    pss_nil)
    (pss_cons (ps_for PassesOwn.never rfl (pi_range2 rfl C.B.range (pa_cons pe_int (pa_cons (pe_max2 C.B.max rfl rfl (pa_cons pe_int (pa_cons (pe_len (K := K) C.B.len rfl (pa_cons (pv 0) pa_nil)) pa_nil))) pa_nil))) (pg_name (i := 2) sc_take_weight.nd rfl (Or.inl rfl))
    (pss_one (ps_if (PW.pt (pw_or (pt_cmpR op_gGe (pv 2) (pe_len (K := K) C.B.len rfl (pa_cons (pv 0) pa_nil)) (nomark _)) (pw_or (pt_cmpR op_gGt (pv 2) (C.c_MOST_PARTS.pe rfl) (nomark _)) (pw_or1 (pt_cmpR (op_gEq (K := K) (by exact hr.units)) (pe_fn (ok_part_of C) (hr.mono (by omega)) rfl (pa_cons (pe_ix (ix_any (K := K)) (pv 0) (pv 2) (fun _ _ => rfl)) pa_nil)) pe_int (nomark _))))))
    (pss_one ps_never)
    pss_nil)))
    (pss_one (ps_ret (pe_tupOf (K := K) C.B.tuple rfl (pa_cons (pe_lc (own := [("word", 3)]) (g := (gName 3)) (tt := tYes) rfl sc_take_weight.nd (pi_seq (K := K) (pe_slice (sl_lst (K := K)) (pv 0) (po_some pe_int) po_none)) (blkOk_by (N := n_take_weight) (sc := defScope s_take_weight) (by decide +kernel)) (fun _ _ _ _ _ => (pg_name (i := 3) sc_take_weight.nd rfl (by first | exact Or.inl rfl | exact Or.inr rfl))) (fun _ _ _ _ _ => pts_nil) (fun _ _ _ _ _ => (pe_intS C.B.int rfl (pa_cons (pv 3) pa_nil)))) pa_nil)))))), fun x e hp he => ?_⟩
  obtain ⟨ws, ln⟩ := x
  have hl : ws.length ≤ 10001 := hp.1
  have hw : ∀ w, w ∈ ws → TxOk w := hp.2.1
  have hz : wrongW ws = none := hp.2.2
  dsimp only [cxOf]
  walk_at "d"
  refine ev_slL ?_
  walk_at "d"
  refine ⟨_, .v, ?_⟩
  have c1 : cutD (ws.map tx) none (some 1) = (ws.map tx).take 1 := cut_n _ 1
  rw [c1]
  walk_at "d"
  match ws, hl, hw, hz with
  | h :: ps, hl, hw, hz =>
    have hh := hw h (by simp)
    have lps : ps.length ≤ 10000 := by simp at hl; omega
    refine g_neD 2 (by
      show ((tx h).pl 1 && true) = true
      rw [tx_pl hh.ok]
      rfl) (by decide +kernel) (by decide) ?_
    rw [show (List.take 1 ((h :: ps).map tx)) = [tx h] from rfl, eqv_w]
    have hz : (if h = weightC then (if ps = [] then some 2 else goW ps 1) else some 1) = none := hz
    by_cases hwt : h = weightC
    · rw [if_pos hwt] at hz
      have nn : ps ≠ [] := fun z => by rw [if_pos z] at hz; cases hz
      rw [if_neg nn] at hz
      have hk := goW_ok hz
      have lp : 1 ≤ ps.length := List.length_pos_iff.mpr nn
      rw [decide_eq_true hwt]
      refine ⟨_, rfl, iteF ?_⟩
      refine r_next ?_
      refine r_seq (r_for [2] ?_)
      refine ei_range2 ?_
      walk_at "d"
      have el : ((h :: ps).map tx).length = ps.length + 1 := by simp
      rw [el]
      refine ⟨1, _, rfl, ⟨by omega, by omega, by split <;> omega, by split <;> omega⟩, fun i ρ M => (∃ o2 o3 : Option Sl, ρ = [some (.v (.lst ((h :: ps).map tx))), some (.v (.int ln)), o2, o3] ∧ M = []) ∧ i ≤ ps.length, ⟨⟨_, _, rfl, rfl⟩, by omega⟩, ?_, ?_⟩
      · rintro i d ρ M hi ⟨⟨o2, o3, rfl, rfl⟩, hip⟩
        obtain ⟨hi2, rfl⟩ := rangeD_get hi
        refine eg_name ?_
        walk_at "d"
        rw [el]
        refine ite_dec (fun h1 => ?_) (fun h1 => ?_)
        · exfalso
          split at hi2 <;> omega
        · have hil : i < ps.length := by omega
          have hq : ps[i]? = some ps[i] := List.getElem?_eq_getElem hil
          have hm := hw ps[i] (by simp)
          have g := hk i _ hq
          walk_at "d"
          refine ite_dec (fun h2 => ?_) (fun h2 => ?_)
          · exact absurd (.inl (by omega)) g
          · walk_at "d"
            have at1 : atI ((h :: ps).map tx) (1 + (i : Int)) = some (tx ps[i]) := by
              rw [show (1 + (i : Int)) = ((i + 1 : Nat) : Int) by omega]
              exact atI_nat (by simp [hq])
            refine ⟨_, at1, ?_⟩
            walk_at "d"
            refine ⟨ps[i], rfl, hm.len, fun r er => ?_⟩
            subst er
            walk_at "d"
            refine ite_dec (fun h3 => ?_) (fun h3 => ?_)
            · exact absurd (.inr h3) g
            · refine r_next ?_
              exact ⟨⟨_, _, rfl, rfl⟩, by omega⟩
      · rintro ρ M ⟨⟨o2, o3, rfl, rfl⟩, hip⟩
        have c2 : cutD ((h :: ps).map tx) (some 1) none = ps.map tx := cut_d _ 1
        walk_at "d"
        refine ev_lcM (fun d => match d with | .raw (.str z) => .int (partV z.cps.toList) | d => d) (ei_seqL ?_)
        refine ev_slL ?_
        walk_at "d"
        refine ⟨_, .v, ?_⟩
        rw [c2]
        refine ⟨_, rfl, by rw [List.length_map]; omega, fun j d hj => ?_, ?_⟩
        · rw [List.getElem?_map] at hj
          obtain ⟨p, hp, rfl⟩ := Option.map_eq_some_iff.mp hj
          have hg := hk j p hp
          obtain ⟨ok, pv, _⟩ := partV_ne (fun z => hg (.inr z))
          refine eg_name ?_
          walk_at "d"
          refine x_intS (okF_int ok) ?_ ?_
          · rw [SX.S_len]
            have h7 := okF_len ok
            omega
          · show Sl.v (D.int (valW p)) = Sl.v (D.int (partV p))
            rw [pv]
        · walk_at "d"
          refine ret_v ?_
          show D.tup ((ps.map tx).map _) = D.tup (D.ints (ps.map partV))
          simp [D.ints, Function.comp_def]
    · rw [if_neg hwt] at hz
      cases hz
theorem ok_read (C : Ctx K mg a) : FnAt P w K mg base CX0 5 "read" ["text"] (SpP K (fun l : List Nat => [tx l]) (fun l => TxOk l ∧ dueT (TL.spl [10] 0 [] l) 0 = none) (fun l d => d = fm a.Form (rowsOf (TL.spl [10] 0 [] l)))) := by
  refine fn_at C.d_read sc_read (fun _ => rfl) fun f cdv A outer s H E hr => ⟨_, (pss_cons (ps_set (i := 1) sc_read.nd rfl (Or.inl rfl) (pe_lst pa_nil))
    (pss_cons (ps_for PassesOwn.never rfl (pi_enB2 (K := K) rfl C.B.enumerate (pa_cons (pe_splitK (pv 0) pe_str) (pa_cons pe_int pa_nil))) (pg_tup rfl (pgs_cons (pg_name (i := 2) sc_read.nd rfl (Or.inl rfl)) (pgs_cons (pg_name (i := 3) sc_read.nd rfl (Or.inl rfl)) pgs_nil)))
    (pss_cons (ps_if (pt_cmpR op_gGe (pe_len (K := K) C.B.len rfl (pa_cons (pv 1) pa_nil)) (pe_maxT (K := K) hr.units C.B.max rfl rfl (pa_cons (C.c_SIZES.pe rfl) pa_nil)) (nomark _))
    (pss_one ps_never)
    pss_nil)
    (pss_one (ps_expr (pe_bm PySem.F.plainAttrs_list PySem.F.slot_list_append PySem.F.type_list_append mt_append (pv 1) (pa_cons (pe_fn (ok_take_weight C) (hr.mono (by omega)) rfl (pa_cons (pe_lc (own := [("word", 4)]) (g := (gName 4)) (tt := _) rfl sc_read.nd (pi_seq (K := K) (pe_splitK (pv 3) pe_str)) (blkOk_by (N := n_read) (sc := defScope s_read) (by decide +kernel)) (fun _ _ _ _ _ => (pg_name (i := 4) sc_read.nd rfl (by first | exact Or.inl rfl | exact Or.inr rfl))) (fun _ _ _ _ _ => (pts_one (pt_cmpR (op_gNe (K := K) (by exact hr.units)) (pv 4) pe_str (nomark _)))) (fun _ _ _ _ _ => (pv 4))) (pa_cons (pv 2) pa_nil))) pa_nil))))))
    (pss_cons (ps_if (pt_cmpR op_gLt (pe_len (K := K) C.B.len rfl (pa_cons (pv 1) pa_nil)) (pe_minT (K := K) hr.units C.B.min rfl rfl (pa_cons (C.c_SIZES.pe rfl) pa_nil)) (nomark _))
    (pss_one ps_never)
    pss_nil)
    (pss_one (ps_ret (pe_new (ok_Form C) (hr.mono (by omega)) rfl (pa_cons (pe_tupOf (K := K) C.B.tuple rfl (pa_cons (pv 1) pa_nil)) pa_nil))))))), fun l e hp he => ?_⟩
  obtain ⟨hp, hdue⟩ := hp
  have hp : TxOk l := hp
  dsimp only [cxOf]
  generalize hL : TL.spl [10] 0 [] l = L at *
  have lL : L.length ≤ 10001 := by
    have := (spl_len (c := 10) l []).2
    have h2 := hp.len
    rw [hL] at this
    omega
  have tL : ∀ x, x ∈ L → TxOk x := fun x h => spl_tx hp (by rw [hL]; exact h)
  refine r_seq (r_newL ?_)
  walk_at "n1"
  refine ⟨[], rfl, by simp, ?_⟩
  refine r_seq (r_for [2, 3] ?_)
  refine ei_enB2 ?_
  walk_at "d"
  refine ev_split ?_
  walk_at "d"
  refine ⟨l, rfl, ?_⟩
  walk_at "d"
  refine ⟨[10], by rw [show (Str.ofString "\n" : Str) = S [10] by decide], by decide, by decide, by have := hp.len; omega, ?_⟩
  rw [hL]
  walk_at "d"
  refine ⟨_, _, _, rfl, .l, by omega, ?_⟩
  refine ⟨fun i ρ M => ∃ (o2 o3 o4 : Option Sl) (wss : List (List Int)), ρ = [some (.v (tx l)), some (.l 0), o2, o3, o4] ∧ M = [.lst (wss.map wt)] ∧ wss = rowsOf (L.take i) ∧ wss.length = i ∧ i ≤ 4 ∧ (∀ n, n ∈ wss → Wt n) ∧ dueT L 0 = dueT (L.drop i) i, ⟨none, none, none, [], rfl, rfl, rfl, rfl, by omega, fun n h => absurd h (by simp), rfl⟩, ?_, ?_⟩
  · rintro i d ρ M hi ⟨o2, o3, o4, wss, rfl, rfl, er, hwl, hi4, hw, hd⟩
    obtain ⟨c, hc, rfl⟩ := enum_get hi
    obtain ⟨ln, hn, rfl⟩ := map_get hc
    have tln := tL ln (List.mem_of_getElem? hn)
    obtain ⟨wl, wok⟩ := wordsOf_tx tln
    have st := dueT_step hn
    rw [← hd, hdue] at st
    have hlen : (wss.map wt).length = i := by rw [List.length_map]; exact hwl
    refine eg_tup rfl ?_
    walk_at "d"
    refine ec_maxT (n := 3) (ns := [4]) ?_
    walk_at "d"
    rw [hlen]
    refine ite_dec (fun h4 => ?_) (fun h4 => ?_)
    · have h4 : i ≥ 4 := by have : ((4 : Int)) ≤ (i : Int) := h4; omega
      rw [if_pos h4] at st
      cases st
    · have h4 : ¬ i ≥ 4 := fun z => h4 (by show ((4 : Int)) ≤ (i : Int); omega)
      rw [if_neg h4] at st
      refine r_next ?_
      refine r_app rfl rfl ?_
      have sp1 : (TL.spl [32] 0 [] ln).length ≤ 10001 := by
        have := (spl_len (c := 32) ln []).2
        have h2 := tln.len
        omega
      refine ec_callP (ea_cons (ev_lc (ei_seqL (ev_split ?_))))
      walk_at "d"
      refine ⟨ln, rfl, ?_⟩
      walk_at "d"
      refine ⟨[32], by rw [show (Str.ofString " " : Str) = S [32] by decide], by decide, by decide, by have := tln.len; omega, ?_⟩
      refine ⟨_, rfl, by rw [List.length_map]; omega, fun j acc => acc = ((((TL.spl [32] 0 [] ln).take j).filter fun w => !decide (w = [])).map tx), rfl, fun j d acc hj ha => ?_, fun acc ha => ?_⟩
      · have ha : acc = ((((TL.spl [32] 0 [] ln).take j).filter fun w => !decide (w = [])).map tx) := ha
        obtain ⟨c, hcw, rfl⟩ := map_get hj
        refine eg_name ?_
        walk_at "d"
        rw [ne_str]
        have et : (TL.spl [32] 0 [] ln).take (j + 1) = (TL.spl [32] 0 [] ln).take j ++ [c] := take_snoc hcw
        by_cases hc0 : c = []
        · rw [decide_eq_true hc0]
          refine iteF ?_
          show acc = _
          rw [et, List.filter_append, ha]
          simp [hc0]
        · rw [decide_eq_false hc0]
          refine iteT ?_
          walk_at "d"
          refine ⟨_, rfl, ?_⟩
          show acc ++ [tx c] = _
          rw [et, List.filter_append, ha]
          simp [hc0]
      · have ha : acc = ((((TL.spl [32] 0 [] ln).take ((TL.spl [32] 0 [] ln).map tx).length).filter fun w => !decide (w = [])).map tx) := ha
        rw [List.length_map, List.take_length] at ha
        have ha : acc = (wordsOf ln).map tx := ha
        subst ha
        walk_at "d"
        cases hwr : wrongW (wordsOf ln) with
        | some k => rw [hwr] at st; cases st
        | none =>
          rw [hwr] at st
          refine ⟨(wordsOf ln, 1 + (i : Int)), rfl, ⟨wl, wok, hwr⟩, fun r er2 => ?_⟩
          subst er2
          refine ⟨_, rfl, by rw [hlen]; omega, _, _, _, wss ++ [(wordsOf ln).tail.map partV], rfl, by simp, ?_, by simp [hwl], by omega, fun n hn => ?_, by rw [hdue]; exact st⟩
          · rw [take_snoc hn, er]
            unfold rowsOf
            rw [List.map_append]; rfl
          · rcases List.mem_append.mp hn with z | z
            · exact hw n z
            · simp only [List.mem_cons, List.not_mem_nil, or_false] at z
              subst z
              exact wrongW_ok hwr
  · rintro ρ M ⟨o2, o3, o4, wss, rfl, rfl, er, hwl, hi4, hw, hd⟩
    have el : (enumD 1 (L.map tx)).length = L.length := by simp [enumD]
    rw [el] at hwl hi4 hd er
    rw [List.take_length] at er
    rw [dueT_end (Nat.le_refl _), hdue] at hd
    have hlen : (wss.map wt).length = L.length := by rw [List.length_map, hwl]
    walk_at "d"
    refine ec_minT (n := 3) (ns := [4]) ?_
    walk_at "d"
    rw [hlen]
    refine ite_dec (fun h3 => ?_) (fun h3 => ?_)
    · have h3 : L.length < 3 := by have : (L.length : Int) < 3 := h3; omega
      rw [if_pos h3] at hd
      cases hd
    · have h3 : ¬ L.length < 3 := fun z => h3 (by show (L.length : Int) < 3; omega)
      walk_at "d"
      refine ec_new ?_
      walk_at "d"
      refine ⟨wss, rfl, ⟨by omega, hw⟩, fun ds hds => ret_v ?_⟩
      subst hds
      rw [er]
/-- a form's text -/
def textOf (ws : List (List Int)) : List Nat := TL.joinL [10] (ws.map lineC)
def lnD (d : D) : D := match d with
  | .tup ds => tx (TL.joinL [32] (weightC :: ds.map fun d => match d with | .raw (.int i) => decC i | _ => []))
  | d => d
theorem lnD_wt (v : List Int) : lnD (wt v) = tx (lineC v) := by
  show tx (TL.joinL [32] (weightC :: (D.ints v).map _)) = tx (TL.joinL [32] (weightC :: v.map decC))
  congr 3
  simp [D.ints, Function.comp_def]
theorem lineC_len {v : List Int} (h : Wt v) : (lineC v).length ≤ 100 := by
  rw [lineC_wide]
  exact (wide_ok h (by decide) (by decide) (by decide) (by decide)).len
theorem lines_ok : ∀ {ws : List (List Int)}, (∀ v, v ∈ ws → Wt v) → LnsOk (ws.map lineC) ws
  | [], _ => rfl
  | v :: ws, h => ⟨v, ws, rfl, by rw [lineC_wide]; exact wide_ok (h v (by simp)) (by decide) (by decide) (by decide) (by decide), h v (by simp), lines_ok fun u hu => h u (List.mem_cons_of_mem _ hu)⟩
theorem text_sz {ls : List (List Nat)} (h : ∀ l, l ∈ ls → l.length ≤ 100) (k : ls.length ≤ 4) : (ls.map (·.length)).sum + ls.length * ([10] : List Nat).length ≤ 16777216 := by
  have : (ls.map (·.length)).sum ≤ ls.length * 100 := by
    clear k
    induction ls with
    | nil => simp
    | cons l ls ih =>
      have h1 := h l (by simp)
      have h2 := ih fun x hx => h x (List.mem_cons_of_mem _ hx)
      rw [List.map_cons, List.sum_cons, List.length_cons, Nat.succ_mul]
      omega
  simp only [List.length_cons, List.length_nil]
  omega
theorem words_sz {v : List Int} (h : Wt v) : ((wdsC v).map (·.length)).sum + (wdsC v).length * ([32] : List Nat).length ≤ 16777216 := by
  have ok := wds_ok h
  have h5 := h.2
  have hl : (wdsC v).length ≤ 6 := by
    show (v.map decC).length + 1 ≤ 6
    rw [List.length_map]; omega
  have : ∀ ls : List (List Nat), (∀ l, l ∈ ls → l.length ≤ 8) → (ls.map (·.length)).sum ≤ ls.length * 8 := by
    intro ls
    induction ls with
    | nil => intro _; simp
    | cons l ls ih =>
      intro hs
      have h1 := hs l (by simp)
      have h2 := ih fun x hx => hs x (List.mem_cons_of_mem _ hx)
      rw [List.map_cons, List.sum_cons, List.length_cons, Nat.succ_mul]
      omega
  have := this (wdsC v) fun x hx => (ok x hx).2.2
  simp only [List.length_cons, List.length_nil] at *
  omega
theorem log_part {p : Int} (h : p.natAbs ≤ 1000000) : p.natAbs.log2 < 1920 := by
  by_cases h0 : p.natAbs = 0
  · rw [h0]; decide
  · refine Nat.lt_of_lt_of_le ((Nat.log2_lt h0).mpr (show p.natAbs < 2 ^ 20 by omega)) (by decide)
theorem ok_write (C : Ctx K mg a) : FnAt P w K mg base CX0 2 "write" ["form"] (SpP K (fun ws : List (List Int) => [fm a.Form ws]) Frm (fun ws d => d = tx (textOf ws))) := by
  refine fn_at C.d_write sc_write (fun _ => rfl) fun f cdv A outer s H E hr => ⟨_, (pss_one (ps_ret (pe_joinK (K := K) pe_str (pe_lc (own := [("weight", 1)]) (g := (gName 1)) (tt := tYes) rfl sc_write.nd (pi_seq (K := K) (pe_at (K := K) (pv 0))) (blkOk_by (N := n_write) (sc := defScope s_write) (by decide +kernel)) (fun _ _ _ _ _ => (pg_name (i := 1) sc_write.nd rfl (by first | exact Or.inl rfl | exact Or.inr rfl))) (fun _ _ _ _ _ => pts_nil) (fun _ _ _ _ _ => (pe_joinK (K := K) pe_str (pe_op (op_gAdd (K := K)) (pe_lst (pa_cons pe_str pa_nil)) (pe_lc (own := [("part", 2)]) (g := (gName 2)) (tt := tYes) rfl sc_write.nd (pi_seq (K := K) (pv 1)) (blkOk_in (N := n_write) (by decide +kernel)) (fun _ _ _ _ _ => (pg_name (i := 2) sc_write.nd rfl (by first | exact Or.inl rfl | exact Or.inr rfl))) (fun _ _ _ _ _ => pts_nil) (fun _ _ _ _ _ => (pe_strI C.B.str rfl (pa_cons (pv 2) pa_nil))))))))))), fun ws e hp he => ?_⟩
  have hp : Frm ws := hp
  have l4 : ws.length ≤ 4 := by rcases hp.len with h | h <;> omega
  dsimp only [cxOf]
  walk_at "d"
  refine ev_join ?_
  walk_at "d"
  refine ⟨[10], by rw [show (Str.ofString "\n" : Str) = S [10] by decide], ?_⟩
  refine ev_lcM lnD (ei_seqT ?_)
  refine ev_at ?_
  walk_at "d"
  refine ⟨_, _, _, rfl, C.k_Form.cl, C.n_Form_rows, _, _, rfl, rfl, ?_⟩
  refine ⟨_, rfl, by rw [List.length_map]; omega, fun j d hj => ?_, ?_⟩
  · obtain ⟨v, hv, rfl⟩ := map_get hj
    have wv := hp.w v (List.mem_of_getElem? hv)
    have lv := wv.2
    refine eg_name ?_
    refine ev_join ?_
    walk_at "d"
    refine ⟨[32], by rw [show (Str.ofString " " : Str) = S [32] by decide], ?_⟩
    walk_at "d"
    refine ev_lcM (fun d => match d with | .raw (.int i) => tx (decC i) | d => d) (ei_seqT ?_)
    walk_at "d"
    refine ⟨_, rfl, by simp [D.ints]; omega, fun k d hk => ?_, ?_⟩
    · obtain ⟨p, hpp, rfl⟩ := ints_get hk
      refine eg_name ?_
      walk_at "d"
      refine ec_strI (log_part (wv.3 p (List.mem_of_getElem? hpp)).2) ?_
      show Sl.v (.str (toString p)) = Sl.v (tx (decC p))
      rw [show tx (decC p) = D.str (S (decC p)) from rfl, S_decC]
    · refine g_addL .v .v (by simp [D.ints]; omega) ?_
      refine ⟨wdsC v, _, .v, ?_, words_sz wv, ?_⟩
      · show [D.str "weight"] ++ (D.ints v).map _ = (weightC :: v.map decC).map tx
        have e : (Str.ofString "weight" : Str) = S weightC := by decide
        simp [D.ints, Function.comp_def, e]
      · rw [lnD_wt]
  · refine ⟨ws.map lineC, _, .v, ?_, text_sz (fun l hl => ?_) (by rw [List.length_map]; exact l4), ?_⟩
    · rw [List.map_map, List.map_map]
      apply List.map_congr_left
      intro v _
      exact lnD_wt v
    · obtain ⟨v, hv, rfl⟩ := List.mem_map.mp hl
      exact lineC_len (hp.w v hv)
    · exact ret_v rfl

end
section
variable {P : Program} {w : World} {K : PySem.W.Frag} {mg : Str → Option Value} {base : Heap} {a : Adr}
open SX (S)
theorem et_yes {K : PySem.W.Frag} {ρ : Rho} {M : List MO} {R : Bool → Prop} (q : R true) : EvT K tYes ρ M R := fun σ α F H en S k kk => kk true F H .refl S q
theorem sh_wt {ws : List (List Int)} (h : Frm ws) : shD 3 (.tup (ws.map wt)) := by
  refine ⟨?_, fun d hd => ?_⟩
  · rw [List.length_map]
    rcases h.len with h | h <;> omega
  · obtain ⟨v, hv, rfl⟩ := List.mem_map.mp hd
    refine ⟨?_, fun d hd => ?_⟩
    · have := (h.w v hv).2
      simp [D.ints]; omega
    · obtain ⟨n, _, rfl⟩ := List.mem_map.mp hd
      trivial
theorem ok_law (C : Ctx K mg a) : FnAt P w K mg base CX0 7 "law" ["_law_script"] (SpP K (fun cells : List Int => [.rd (D.ints cells)]) (fun cells => cells.length ≤ 63) (fun _ d => d = .bl true)) := by
  refine fn_at C.d_law sc_law (fun _ => rfl) fun f cdv A outer s H E hr => ⟨_, (pss_fnT (i := 1) (ok__law_mix C) (hr.mono (by omega)) rfl (pa1_cons (pv 0) (pa1_int)) sc_law.nd rfl (Or.inr rfl)
    (psst_cons (pst_forT PassesOwn.never rfl (pi_range1 rfl C.B.range (pa_cons pe_int pa_nil)) (pg_name (i := 2) sc_law.nd rfl (Or.inl rfl))
    (psst_cons (PST.of (ps_set (i := 3) sc_law.nd rfl (Or.inl rfl) (pe_tupOf (K := K) C.B.tuple rfl (pa_cons (pe_lc (own := [("_law_k", 13)]) (g := (gName 13)) (tt := tYes) rfl sc_law.nd (pi_range1 rfl C.B.range (pa_cons (pe_op (op_gAdd (K := K)) pe_int (pe_fn (ok__law_next C) (hr.mono (by omega)) rfl (pa_cons (pv 1) (pa_cons pe_int pa_nil)))) pa_nil)) (blkOk_by (N := n_law) (sc := defScope s_law) (by decide +kernel)) (fun _ _ _ _ _ => (pg_name (i := 13) sc_law.nd rfl (by first | exact Or.inl rfl | exact Or.inr rfl))) (fun _ _ _ _ _ => pts_nil) (fun _ _ _ _ _ => (pe_fn (ok__law_weight C) (hr.mono (by omega)) rfl (pa_cons (pv 1) pa_nil)))) pa_nil))))
    (psst_cons (PST.of (ps_par (i := 8) (j := 9) rfl sc_law.nd rfl rfl (by decide) rfl rfl (pa_cons (pe_new (ok_Form C) (hr.mono (by omega)) rfl (pa_cons (pv 3) pa_nil)) (pa_cons (pe_lc (own := [("_law_weight_here", 14)]) (g := (gName 14)) (tt := tYes) rfl sc_law.nd (pi_seq (K := K) (pv 3)) (blkOk_by (N := n_law) (sc := defScope s_law) (by decide +kernel)) (fun _ _ _ _ _ => (pg_name (i := 14) sc_law.nd rfl (by first | exact Or.inl rfl | exact Or.inr rfl))) (fun _ _ _ _ _ => pts_nil) (fun _ _ _ _ _ => (pe_joinK (K := K) pe_str (pe_op (op_gAdd (K := K)) (pe_lst (pa_cons pe_str pa_nil)) (pe_lc (own := [("_law_part", 15)]) (g := (gName 15)) (tt := tYes) rfl sc_law.nd (pi_seq (K := K) (pv 14)) (blkOk_in (N := n_law) (by decide +kernel)) (fun _ _ _ _ _ => (pg_name (i := 15) sc_law.nd rfl (by first | exact Or.inl rfl | exact Or.inr rfl))) (fun _ _ _ _ _ => pts_nil) (fun _ _ _ _ _ => (pe_strI C.B.str rfl (pa_cons (pv 15) pa_nil)))))))) pa_nil)) rfl))
    (psst_cons (PST.of (ps_set (i := 4) sc_law.nd rfl (Or.inl rfl) (pe_fn (ok_write C) (hr.mono (by omega)) rfl (pa_cons (pv 8) pa_nil))))
    (psst_cons (PST.of (ps_if (pt_not (pt_val (pe_fn (ok__law_alike C 4 (by decide)) (hr.mono (by omega)) rfl (pa_cons (pv 4) (pa_cons (pe_joinK (K := K) pe_str (pv 9)) pa_nil)))))
    (pss_one (ps_ret pe_bl))
    pss_nil))
    (psst_cons (PST.of (ps_set (i := 5) sc_law.nd rfl (Or.inl rfl) (pe_lst pa_nil)))
    (psst_cons (pst_forT PassesOwn.never rfl (pi_seq (K := K) (pv 9)) (pg_name (i := 6) sc_law.nd rfl (Or.inl rfl))
    (psst_pair (iR := 11) (iE := 12) (iL := 6) (iW := 5) C.q_book rfl sc_law.nd rfl rfl rfl rfl (by decide) (by decide) (by decide) (by decide) (by decide) rfl rfl (.inl rfl) (.inl rfl) (pe_op (op_gAdd (K := K)) pe_int (pe_fn (ok__law_next C) (hr.mono (by omega)) rfl (pa_cons (pv 1) (pa_cons pe_int pa_nil)))) (pe_lst (pa_cons (pe_op op_mulS0 pe_str (pe_fn (ok__law_next C) (hr.mono (by omega)) rfl (pa_cons (pv 1) (pa_cons pe_int pa_nil)))) (pa_cons (pe_op op_mulS0 pe_str (pe_fn (ok__law_next C) (hr.mono (by omega)) rfl (pa_cons (pv 1) (pa_cons pe_int pa_nil)))) pa_nil))) rfl (by decide) (by decide) (by decide) (by decide) (by decide) (by decide) (by decide)))
    (PSsT.of (pss_one (ps_for PassesOwn.never rfl (pi_seq (K := K) (pe_lst (pa_cons (pv 4) (pa_cons (pe_joinK (K := K) pe_str (pv 5)) pa_nil)))) (pg_name (i := 7) sc_law.nd rfl (Or.inl rfl))
    (pss_cons (ps_set (i := 10) sc_law.nd rfl (Or.inl rfl) (pe_fn (ok_read C) (hr.mono (by omega)) rfl (pa_cons (pv 7) pa_nil)))
    (pss_one (ps_if (PW.pt (pw_or (pt_not (pt_val (pe_fn (ok__law_alike C 4 (by decide)) (hr.mono (by omega)) rfl (pa_cons (pe_get C.g_Form_weights C.k_Form.cl (hr.mono (by omega)) (pv 10)) (pa_cons (pv 3) pa_nil))))) (pw_or (pt_not (pt_cmpR (op_eqO (ok_Form___eq__ C) (hr.mono (by omega))) (pv 10) (pv 8) (nomark _))) (pw_or1 (pt_not (pt_val (pe_fn (ok__law_alike C 4 (by decide)) (hr.mono (by omega)) rfl (pa_cons (pe_fn (ok_write C) (hr.mono (by omega)) rfl (pa_cons (pv 10) pa_nil)) (pa_cons (pv 4) pa_nil)))))))))
    (pss_one (ps_ret pe_bl))
    pss_nil)))))))))))))
    (PSsT.of (pss_one (ps_ret pe_bl))))), fun cells e hp he => ?_⟩
  have hp : cells.length ≤ 63 := hp
  have he : e.α.length = 0 := he
  dsimp only [cxOf]
  walk_at "d"
  refine r_mix ?_
  walk_at "d"
  refine ⟨cells, 15, rfl, hp, by decide, by decide, ?_⟩
  walk_at "d"
  refine r_for [2] ?_
  refine ei_range1 ?_
  walk_at "d"
  refine ⟨5, rfl, by decide, by decide, fun i ρ M => ∃ (o2 o3 o4 o5 o6 o7 o8 o9 o10 o11 o12 : Option Sl), ρ = [some (.v (.rd (D.ints cells))), some (.l 0), o2, o3, o4, o5, o6, o7, o8, o9, o10, o11, o12, none, none, none] ∧ M[0]? = some .rng, ⟨_, _, _, _, _, _, _, _, _, _, _, rfl, rfl⟩, ?_, ?_⟩
  · rintro i d ρ M hi ⟨o2, o3, o4, o5, o6, o7, o8, o9, o10, o11, o12, rfl, m0⟩
    generalize some (Sl.v (D.rd (D.ints cells))) = scr
    obtain ⟨il, rfl⟩ := rangeD_get hi
    generalize (.int (0 + (i : Int)) : D) = di
    walk_at "d"
    refine r_asg ?_
    walk_at "d"
    refine ev_lc (ei_range1 ?_)
    walk_at "d"
    refine ⟨_, 0, rfl, m0, ⟨by omega, lit_bit (by omega) (by decide)⟩, fun _ ⟨r, e1, a1, b1⟩ => ?_⟩
    subst e1
    walk_at "d"
    have hn : (3 + r).toNat = 3 ∨ (3 + r).toNat = 4 := by omega
    refine ⟨_, rfl, by omega, by omega, by rw [rangeD_len]; omega, fun j acc => ∃ ws : List (List Int), acc = ws.map wt ∧ ws.length = j ∧ ∀ v, v ∈ ws → Wt v, ⟨[], rfl, rfl, fun v h => by simp at h⟩, ?_, ?_⟩
    · rintro j d acc hj ⟨ws, rfl, hl, hw⟩
      obtain ⟨_, rfl⟩ := rangeD_get hj
      walk_at "d"
      refine et_yes (iteT ?_)
      walk_at "d"
      refine ⟨(), 0, rfl, m0, trivial, fun _ ⟨v, e2, hv⟩ => ?_⟩
      refine ⟨_, rfl, ws ++ [v], ?_, by simp [hl], fun u hu => ?_⟩
      · rw [e2, List.map_append]; rfl
      · rcases List.mem_append.mp hu with h | h
        · exact hw u h
        · simp only [List.mem_cons, List.not_mem_nil, or_false] at h
          subst h
          exact hv
    rintro acc ⟨ws, rfl, hl, hw⟩
    rw [rangeD_len] at hl
    have fr : Frm ws := ⟨by omega, hw⟩
    have l4 : ws.length ≤ 4 := by omega
    walk_at "d"
    refine ec_new ?_
    walk_at "d"
    refine ⟨ws, rfl, fr, fun ds hds => ?_⟩
    subst hds
    walk_at "d"
    refine ev_lcM lnD (ei_seqT ?_)
    walk_at "d"
    refine ⟨_, rfl, by rw [List.length_map]; omega, fun j d hj => ?_, ?_⟩
    · obtain ⟨v, hv, rfl⟩ := map_get hj
      have wv := hw v (List.mem_of_getElem? hv)
      have lv := wv.2
      refine eg_name ?_
      refine ev_join ?_
      walk_at "d"
      refine ⟨[32], by rw [show (Str.ofString " " : Str) = S [32] by decide], ?_⟩
      walk_at "d"
      refine ev_lcM (fun d => match d with | .raw (.int i) => tx (decC i) | d => d) (ei_seqT ?_)
      walk_at "d"
      refine ⟨_, rfl, by simp [D.ints]; omega, fun k d hk => ?_, ?_⟩
      · obtain ⟨p, hpp, rfl⟩ := ints_get hk
        refine eg_name ?_
        walk_at "d"
        refine ec_strI (log_part (wv.3 p (List.mem_of_getElem? hpp)).2) ?_
        show Sl.v (.str (toString p)) = Sl.v (tx (decC p))
        rw [show tx (decC p) = D.str (S (decC p)) from rfl, S_decC]
      · refine g_addL .v .v (by simp [D.ints]; omega) ?_
        refine ⟨wdsC v, _, .v, ?_, words_sz wv, ?_⟩
        · show [D.str "weight"] ++ (D.ints v).map _ = (weightC :: v.map decC).map tx
          have e : (Str.ofString "weight" : Str) = S weightC := by decide
          simp [D.ints, Function.comp_def, e]
        · rw [lnD_wt]
    have el : (ws.map wt).map lnD = (ws.map lineC).map tx := by
      rw [List.map_map, List.map_map]
      apply List.map_congr_left
      intro v _
      exact lnD_wt v
    rw [el]
    walk_at "d"
    refine ⟨_, _, rfl, ?_⟩
    walk_at "d"
    refine r_asg ?_
    walk_at "d"
    refine ⟨ws, rfl, fr, fun d ed => ?_⟩
    subst ed
    have lo := lines_ok (ws := ws) hw
    have ll : (ws.map lineC).length = ws.length := List.length_map _
    have l34 : (ws.map lineC).length = 3 ∨ (ws.map lineC).length = 4 := by omega
    obtain ⟨tk, ts⟩ := lo.text l34
    walk_at "d"
    refine ev_join ?_
    walk_at "d"
    refine ⟨[10], by rw [show (Str.ofString "\n" : Str) = S [10] by decide], ?_⟩
    walk_at "d"
    refine ⟨ws.map lineC, _, .v, rfl, text_sz (fun l hl => ?_) (by omega), ?_⟩
    · obtain ⟨v, hv, rfl⟩ := List.mem_map.mp hl
      exact lineC_len (hw v hv)
    walk_at "d"
    refine ⟨tx (textOf ws), rfl, ⟨3, rfl, tx_pl tk.ok 3, trivial⟩, fun d ed => ?_⟩
    subst ed
    refine ⟨_, rfl, iteF ?_⟩
    walk_at "d"
    refine r_asgN (en_newL ?_)
    walk_at "d"
    have mw : (M ++ [.lst []])[M.length]? = some (.lst []) := by simp
    have m0' : (M ++ [.lst []])[0]? = some .rng := by rw [List.getElem?_append_left (List.getElem?_eq_some_iff.mp m0).1]; exact m0
    generalize M.length = jw at *
    generalize M ++ [.lst []] = M1 at *
    show RunD K e _ [scr, some (.l 0), some (.v di), some (.v (.tup (ws.map wt))), some (.v (tx (textOf ws))), some (.l jw), o6, o7, some (.v (fm a.Form ws)), some (.v (.lst ((ws.map lineC).map tx))), o10, o11, o12, none, none, none] M1 _ _ _ _
    refine r_seq (r_for [6] ?_)
    refine ei_seqL ?_
    walk_at "d"
    refine ⟨_, rfl, fun j ρ M => ∃ (o6 o11 o12 : Option Sl) (Ls : List (List Nat)), ρ = [scr, some (.l 0), some (.v di), some (.v (.tup (ws.map wt))), some (.v (tx (textOf ws))), some (.l jw), o6, o7, some (.v (fm a.Form ws)), some (.v (.lst ((ws.map lineC).map tx))), o10, o11, o12, none, none, none] ∧ M[0]? = some .rng ∧ M[jw]? = some (.lst (Ls.map tx)) ∧ LnsOk Ls (ws.take j), ⟨_, _, _, [], rfl, m0', mw, rfl⟩, ?_, ?_⟩
    · clear mw m0' m0
      rintro j d ρ M hj ⟨o6, o11, o12, Ls, rfl, m0, mw, ho⟩
      obtain ⟨l, hl1, rfl⟩ := map_get hj
      obtain ⟨v, hv, rfl⟩ := map_get hl1
      have wv := hw v (List.mem_of_getElem? hv)
      have ne0 : jw ≠ 0 := fun z => by rw [z, m0] at mw; cases mw
      have Ll : Ls.length ≤ 4 := by rw [ho.len, List.length_take]; omega
      refine eg_name ?_
      refine r_pair (l := lineC v) (k := jw) rfl rfl mw (by rw [List.length_map]; omega) (by have := lineC_len wv; omega) ?_
      walk_at "d"
      refine ⟨_, 0, rfl, m0, ⟨by omega, lit_bit (by omega) (by decide)⟩, fun _ ⟨r1, e1, a2, b2⟩ => ?_⟩
      subst e1
      walk_at "d"
      obtain ⟨n, rfl, n1, n3⟩ : ∃ n : Nat, r1 = (n : Int) - 1 ∧ 1 ≤ n ∧ n ≤ 3 := ⟨(r1 + 1).toNat, by omega, by omega, by omega⟩
      have en : (1 + ((n : Int) - 1)) = (n : Int) := by omega
      rw [en]
      refine ⟨n, rfl, n1, by omega, ?_⟩
      walk_at "d"
      refine ⟨_, 0, rfl, m0, ⟨by omega, lit_bit (by omega) (by decide)⟩, fun _ ⟨r2, e1, a3, b3⟩ => ?_⟩
      subst e1
      obtain ⟨n2, rfl, c2⟩ : ∃ n : Nat, r2 = (n : Int) ∧ n ≤ 2 := ⟨r2.toNat, by omega, by omega⟩
      have es : (Str.ofString " " : Str) = S [32] := by decide
      have er : ∀ n : Nat, (List.replicate n [32]).flatten = List.replicate n 32 := fun n => by
        induction n with
        | zero => rfl
        | succ n ih => rw [List.replicate_succ, List.replicate_succ, List.flatten_cons, ih]; rfl
      rw [es]
      refine g_repS0 (l := [32]) (by omega) (by decide) (by decide) ?_
      walk_at "d"
      refine ⟨_, 0, rfl, m0, ⟨by omega, lit_bit (by omega) (by decide)⟩, fun _ ⟨r3, e1, a4, b4⟩ => ?_⟩
      subst e1
      obtain ⟨n4, rfl, c4⟩ : ∃ n : Nat, r3 = (n : Int) ∧ n ≤ 2 := ⟨r3.toNat, by omega, by omega⟩
      refine g_repS0 (l := [32]) (by omega) (by decide) (by decide) ?_
      walk_at "d"
      rw [er, er]
      refine ⟨List.replicate n2 32, List.replicate n4 32, rfl, by rw [List.length_replicate]; omega, by rw [List.length_replicate]; omega, ?_⟩
      have e7 : PySem.StrLaws.replL [32] (List.replicate n 32) (lineC v) = TL.joinL (List.replicate n 32) (wdsC v) := replL_join _ fun x hx z => (((wds_ok wv) x hx).2.1 32 z).1 rfl
      rw [e7]
      refine ⟨_, _, _, Ls ++ [wideC n2 n n4 v], rfl, by rw [List.getElem?_set_ne ne0]; exact m0, ?_, ?_⟩
      · rw [List.getElem?_set_self (List.getElem?_eq_some_iff.mp mw).1, List.map_append]
        rfl
      · rw [take_snoc hv]
        exact ho.snoc (wide_ok wv c2 n1 n3 c4) wv
    rintro ρ M ⟨o6, o11, o12, Ls, rfl, m0, mw, ho⟩
    have ho : LnsOk Ls ws := by
      rw [List.length_map, List.length_map, List.take_length] at ho
      exact ho
    have Ll : Ls.length = ws.length := ho.len
    have L34 : Ls.length = 3 ∨ Ls.length = 4 := by omega
    obtain ⟨tk2, ts2⟩ := ho.text L34
    refine r_next ?_
    refine r_for [7] ?_
    refine ei_seqL ?_
    walk_at "d"
    refine ev_join ?_
    walk_at "d"
    refine ⟨[10], by rw [show (Str.ofString "\n" : Str) = S [10] by decide], ?_⟩
    walk_at "d"
    refine ⟨Ls, _, .l mw, rfl, text_sz (fun l hl => ?_) (by omega), ?_⟩
    · obtain ⟨v, h1, _⟩ := ho.mem l hl
      exact h1.len
    walk_at "d"
    refine ⟨_, rfl, fun j ρ M => ∃ (o7 o10 : Option Sl), ρ = [scr, some (.l 0), some (.v di), some (.v (.tup (ws.map wt))), some (.v (tx (textOf ws))), some (.l jw), o6, o7, some (.v (fm a.Form ws)), some (.v (.lst ((ws.map lineC).map tx))), o10, o11, o12, none, none, none] ∧ M[0]? = some .rng, ⟨_, _, rfl, m0⟩, ?_, ?_⟩
    · clear mw m0
      rintro j d ρ M hj ⟨o7, o10, rfl, m0⟩
      obtain ⟨l, ls, rfl, hls, tl, sl⟩ : ∃ (l : List Nat) (ls : List (List Nat)), d = tx l ∧ LnsOk ls ws ∧ TxOk l ∧ TL.spl [10] 0 [] l = ls := by
        match j, hj with
        | 0, hj => exact ⟨_, _, (Option.some.inj hj).symm, lo, tk, ts⟩
        | 1, hj => exact ⟨_, _, (Option.some.inj hj).symm, ho, tk2, ts2⟩
      refine eg_name ?_
      walk_at "d"
      refine r_asg ?_
      walk_at "d"
      refine ⟨l, rfl, ⟨tl, by rw [sl]; exact hls.due (by rw [hls.len]; omega) (by rw [hls.len]; omega)⟩, fun d ed => ?_⟩
      subst ed
      rw [sl, hls.rows]
      walk_at "d"
      refine ev_prop (ns := ["rows", "sums"]) (ds := [.tup (ws.map wt), .tup (D.ints (ws.map prodL))]) (i := 0) rfl rfl ?_
      walk_at "d"
      refine ⟨rfl, ?_⟩
      walk_at "d"
      refine ⟨.tup (ws.map wt), rfl, ⟨3, rfl, pl_fm ws, sh_wt fr⟩, fun d ed => ?_⟩
      subst ed
      refine ⟨_, rfl, iteF ?_⟩
      walk_at "d"
      refine g_eqO (.ins _ _ _ C.k_Form) nf_self ⟨(ws, fm a.Form ws), rfl, .form ws, fun r er => ⟨true, by rw [er]; exact congrArg D.bl (eqv_refl (pl_fm ws)), ?_⟩⟩
      refine ⟨_, rfl, iteF ?_⟩
      walk_at "d"
      refine ⟨ws, rfl, fr, fun d ed => ?_⟩
      subst ed
      walk_at "d"
      refine ⟨tx (textOf ws), rfl, ⟨3, rfl, tx_pl tk.ok 3, trivial⟩, fun d ed => ?_⟩
      subst ed
      refine ⟨_, rfl, iteF ?_⟩
      refine r_next ?_
      exact ⟨_, _, rfl, m0⟩
    · rintro ρ M ⟨o7, o10, rfl, m0⟩
      exact ⟨_, _, _, _, _, _, _, _, _, _, _, rfl, m0⟩
  · rintro ρ M ⟨o2, o3, o4, o5, o6, o7, o8, o9, o10, o11, o12, rfl, m0⟩
    walk_at "d"
    exact ret_v rfl

end
end T
open PySem PySem.W PyProof.Rows
set_option maxRecDepth 100000 in
set_option maxHeartbeats 0 in
theorem PySem.Challenge.cw_squareweights_k15_whole_texts_holds : PySem.Challenge.rw_squareweights_k15_whole_texts.Holds := by
  w_on; o_law; k_head; (case hw => w_witness2)
  k_fill
  refine DL.walk_ofX (l := PySem.Challenge.rw_squareweights_k15_whole_texts) (n := 63) (k := 7) (x := "_law_script") (sp := DL.SpLaw) rfl (by decide) rfl ⟨rfl, by decide, by decide⟩ (fun w h Y => PySem.W.kIn_of Y) ?F (fun K H a ns h s => DL.spLaw_of h s)
  case F =>
    intro w mg fa h KX G X hmg
    have b_range : mg "range" = none := by
      refine' PySem.W.mg_none_of KX G ?z
      (case z => k_is)
    have b_len : mg "len" = none := by
      refine' PySem.W.mg_none_of KX G ?z
      (case z => k_is)
    have b_abs : mg "abs" = none := by
      refine' PySem.W.mg_none_of KX G ?z
      (case z => k_is)
    have b_max : mg "max" = none := by
      refine' PySem.W.mg_none_of KX G ?z
      (case z => k_is)
    have b_min : mg "min" = none := by
      refine' PySem.W.mg_none_of KX G ?z
      (case z => k_is)
    have b_sum : mg "sum" = none := by
      refine' PySem.W.mg_none_of KX G ?z
      (case z => k_is)
    have b_any : mg "any" = none := by
      refine' PySem.W.mg_none_of KX G ?z
      (case z => k_is)
    have b_all : mg "all" = none := by
      refine' PySem.W.mg_none_of KX G ?z
      (case z => k_is)
    have b_int : mg "int" = none := by
      refine' PySem.W.mg_none_of KX G ?z
      (case z => k_is)
    have b_str : mg "str" = none := by
      refine' PySem.W.mg_none_of KX G ?z
      (case z => k_is)
    have b_tuple : mg "tuple" = none := by
      refine' PySem.W.mg_none_of KX G ?z
      (case z => k_is)
    have b_list : mg "list" = none := by
      refine' PySem.W.mg_none_of KX G ?z
      (case z => k_is)
    have b_bool : mg "bool" = none := by
      refine' PySem.W.mg_none_of KX G ?z
      (case z => k_is)
    have b_set : mg "set" = none := by
      refine' PySem.W.mg_none_of KX G ?z
      (case z => k_is)
    have b_sorted : mg "sorted" = none := by
      refine' PySem.W.mg_none_of KX G ?z
      (case z => k_is)
    have b_zip : mg "zip" = none := by
      refine' PySem.W.mg_none_of KX G ?z
      (case z => k_is)
    have b_enumerate : mg "enumerate" = none := by
      refine' PySem.W.mg_none_of KX G ?z
      (case z => k_is)
    have b_isinstance : mg "isinstance" = none := by
      refine' PySem.W.mg_none_of KX G ?z
      (case z => k_is)
    have B : DL.Blt mg := ⟨b_range, b_len, b_abs, b_max, b_min, b_sum, b_any, b_all, b_int, b_str, b_tuple, b_list, b_bool, b_set, b_sorted, b_zip, b_enumerate, b_isinstance⟩
    have c_MOST_PART : DL.CInt mg "MOST_PART" 1000000 := DL.loose_int X (by simp)
    have c_MOST_PARTS : DL.CInt mg "MOST_PARTS" 5 := by
      refine' DL.cint_mk KX G ?a
      (case a => k_is)
    refine' DL.ctup_k (x := "SIZES") (vs := [.int (3), .int (4)]) KX G ?a1_ ?l1_ ?c1_ ?d1_ ?s1_ ?r1_ ?z1_
    (case a1_ => k_is); (case l1_ => k_is)
    (case c1_ => rfl); (case d1_ => rfl); (case s1_ => decide)
    (case r1_ => exact .cons ⟨_, rfl⟩ (.cons ⟨_, rfl⟩ (.nil)))
    intro c_SIZES
    refine' DL.def_k (x := "is_integer") (st := T.s_is_integer) (ps := ["thing", "low", "high"]) KX G ?a4 ?l4 ?c4 ?k4 ?b4 ?z4
    (case a4 => k_is); (case l4 => k_is); (case c4 => k_is); (case k4 => k_is)
    (case b4 => exact fun _ _ _ _ _ _ us hl => match us, hl with | [_, _, _], _ => rfl)
    intro d_is_integer
    refine' DL.def_k (x := "is_weight") (st := T.s_is_weight) (ps := ["thing"]) KX G ?a5 ?l5 ?c5 ?k5 ?b5 ?z5
    (case a5 => k_is); (case l5 => k_is); (case c5 => k_is); (case k5 => k_is)
    (case b5 => exact fun _ _ _ _ _ _ us hl => match us, hl with | [_], _ => rfl)
    intro d_is_weight
    refine' DL.def_k (x := "product") (st := T.s_product) (ps := ["numbers"]) KX G ?a6 ?l6 ?c6 ?k6 ?b6 ?z6
    (case a6 => k_is); (case l6 => k_is); (case c6 => k_is); (case k6 => k_is)
    (case b6 => exact fun _ _ _ _ _ _ us hl => match us, hl with | [_], _ => rfl)
    intro d_product
    refine' DL.cls_k (x := "Form") KX G ?a2_ ?p2_ ?h2_ ?o2_ ?s2_ ?c2_ ?g2_ ?t2_ ?m2_ ?z2_
    (case a2_ => k_is); (case p2_ => k_is); (case h2_ => k_is); (case o2_ => k_is); (case s2_ => k_is); (case c2_ => k_is); (case g2_ => k_is); (case t2_ => k_is); (case m2_ => k_is)
    intro m_Form k_Form
    refine' DL.clst_k k_Form ?t3_ ?_
    (case t3_ => k_is)
    intro t_Form
    refine' DL.noattr_k (f := "rows") k_Form ?h4_ ?z4_
    (case h4_ => k_is)
    intro n_Form_rows
    refine' DL.noattr_k (f := "sums") k_Form ?h5_ ?z5_
    (case h5_ => k_is)
    intro n_Form_sums
    refine' DL.init_k (qual := "Form.__init__") (st := T.s_Form___init__) (ps := ["self", "weights"]) k_Form ?m6_ ?i6_ ?f6_ ?p6_ ?l6_ ?c6_ ?k6_ ?b6_ ?z6_
    (case m6_ => k_is); (case i6_ => k_is); (case f6_ => k_is); (case p6_ => k_is); (case l6_ => k_is); (case c6_ => k_is); (case k6_ => k_is)
    (case b6_ => exact fun _ _ _ _ _ _ us hl => match us, hl with | [_, _], _ => rfl)
    intro i_Form
    refine' DL.prop_k (x := "weights") (f := "rows") (qual := "Form.weights") (st := T.s_Form_weights) k_Form n_Form_rows ?p7_ ?g7_ ?t7_ ?r7_ ?l7_ ?c7_ ?k7_ T.sc_Form_weights rfl ?b7_ ?z7_
    (case p7_ => k_is); (case g7_ => k_is); (case t7_ => k_is); (case r7_ => k_is); (case l7_ => k_is); (case c7_ => k_is); (case k7_ => k_is)
    (case b7_ => exact fun _ _ _ _ _ _ us hl => match us, hl with | [_], _ => rfl)
    intro g_Form_weights
    refine' DL.prop_k (x := "numbers") (f := "sums") (qual := "Form.numbers") (st := T.s_Form_numbers) k_Form n_Form_sums ?p8_ ?g8_ ?t8_ ?r8_ ?l8_ ?c8_ ?k8_ T.sc_Form_numbers rfl ?b8_ ?z8_
    (case p8_ => k_is); (case g8_ => k_is); (case t8_ => k_is); (case r8_ => k_is); (case l8_ => k_is); (case c8_ => k_is); (case k8_ => k_is)
    (case b8_ => exact fun _ _ _ _ _ _ us hl => match us, hl with | [_], _ => rfl)
    intro g_Form_numbers
    refine' DL.meth_k (x := "__len__") (qual := "Form.__len__") (st := T.s_Form___len__) (ps := ["self"]) k_Form ?a9_ ?i9_ ?l9_ ?c9_ ?k9_ ?b9_ ?z9_
    (case a9_ => k_is); (case i9_ => k_is); (case l9_ => k_is); (case c9_ => k_is); (case k9_ => k_is)
    (case b9_ => exact fun _ _ _ _ _ _ us hl => match us, hl with | [_], _ => rfl)
    intro e_Form___len__
    refine' DL.meth_k (x := "__eq__") (qual := "Form.__eq__") (st := T.s_Form___eq__) (ps := ["self", "other"]) k_Form ?a10_ ?i10_ ?l10_ ?c10_ ?k10_ ?b10_ ?z10_
    (case a10_ => k_is); (case i10_ => k_is); (case l10_ => k_is); (case c10_ => k_is); (case k10_ => k_is)
    (case b10_ => exact fun _ _ _ _ _ _ us hl => match us, hl with | [_, _], _ => rfl)
    intro e_Form___eq__
    have c_MOST_FIGURES : DL.CInt mg "MOST_FIGURES" 7 := by
      refine' DL.cint_mk KX G ?a
      (case a => k_is)
    refine' DL.def_k (x := "write") (st := T.s_write) (ps := ["form"]) KX G ?a18 ?l18 ?c18 ?k18 ?b18 ?z18
    (case a18 => k_is); (case l18 => k_is); (case c18 => k_is); (case k18 => k_is)
    (case b18 => exact fun _ _ _ _ _ _ us hl => match us, hl with | [_], _ => rfl)
    intro d_write
    refine' DL.def_k (x := "part_of") (st := T.s_part_of) (ps := ["word"]) KX G ?a19 ?l19 ?c19 ?k19 ?b19 ?z19
    (case a19 => k_is); (case l19 => k_is); (case c19 => k_is); (case k19 => k_is)
    (case b19 => exact fun _ _ _ _ _ _ us hl => match us, hl with | [_], _ => rfl)
    intro d_part_of
    refine' DL.def_k (x := "take_weight") (st := T.s_take_weight) (ps := ["words", "line"]) KX G ?a20 ?l20 ?c20 ?k20 ?b20 ?z20
    (case a20 => k_is); (case l20 => k_is); (case c20 => k_is); (case k20 => k_is)
    (case b20 => exact fun _ _ _ _ _ _ us hl => match us, hl with | [_, _], _ => rfl)
    intro d_take_weight
    refine' DL.def_k (x := "read") (st := T.s_read) (ps := ["text"]) KX G ?a21 ?l21 ?c21 ?k21 ?b21 ?z21
    (case a21 => k_is); (case l21 => k_is); (case c21 => k_is); (case k21 => k_is)
    (case b21 => exact fun _ _ _ _ _ _ us hl => match us, hl with | [_], _ => rfl)
    intro d_read
    refine' DL.def_k (x := "_law_mix") (st := T.s__law_mix) (ps := ["_law_script", "_law_seed"]) KX G ?a22 ?l22 ?c22 ?k22 ?b22 ?z22
    (case a22 => k_is); (case l22 => k_is); (case c22 => k_is); (case k22 => k_is)
    (case b22 => exact fun _ _ _ _ _ _ us hl => match us, hl with | [_, _], _ => rfl)
    intro d__law_mix
    refine' DL.def_k (x := "_law_next") (st := T.s__law_next) (ps := ["_law_h", "_law_cap"]) KX G ?a23 ?l23 ?c23 ?k23 ?b23 ?z23
    (case a23 => k_is); (case l23 => k_is); (case c23 => k_is); (case k23 => k_is)
    (case b23 => exact fun _ _ _ _ _ _ us hl => match us, hl with | [_, _], _ => rfl)
    intro d__law_next
    refine' DL.def_k (x := "_law_alike") (st := T.s__law_alike) (ps := ["_law_found", "_law_due"]) KX G ?a24 ?l24 ?c24 ?k24 ?b24 ?z24
    (case a24 => k_is); (case l24 => k_is); (case c24 => k_is); (case k24 => k_is)
    (case b24 => exact fun _ _ _ _ _ _ us hl => match us, hl with | [_, _], _ => rfl)
    intro d__law_alike
    refine' DL.def_k (x := "_law_pick") (st := T.s__law_pick) (ps := ["_law_h", "_law_things"]) KX G ?a25 ?l25 ?c25 ?k25 ?b25 ?z25
    (case a25 => k_is); (case l25 => k_is); (case c25 => k_is); (case k25 => k_is)
    (case b25 => exact fun _ _ _ _ _ _ us hl => match us, hl with | [_, _], _ => rfl)
    intro d__law_pick
    refine' DL.def_k (x := "_law_weight") (st := T.s__law_weight) (ps := ["_law_h"]) KX G ?a26 ?l26 ?c26 ?k26 ?b26 ?z26
    (case a26 => k_is); (case l26 => k_is); (case c26 => k_is); (case k26 => k_is)
    (case b26 => exact fun _ _ _ _ _ _ us hl => match us, hl with | [_], _ => rfl)
    intro d__law_weight
    refine' DL.def_k (x := "law") (st := T.s_law) (ps := ["_law_script"]) KX G ?a27 ?l27 ?c27 ?k27 ?b27 ?z27
    (case a27 => k_is); (case l27 => k_is); (case c27 => k_is); (case k27 => k_is)
    (case b27 => exact fun _ _ _ _ _ _ us hl => match us, hl with | [_], _ => rfl)
    intro d_law
    refine' DL.book_k KX ?q11_ ?_
    (case q11_ => k_is)
    intro q_book
    have C : T.Ctx _ mg ⟨0, 0, 0, _⟩ := ⟨B, c_MOST_PART, c_MOST_PARTS, c_SIZES, d_is_integer, d_is_weight, d_product, m_Form, k_Form, t_Form, n_Form_rows, n_Form_sums, i_Form, g_Form_weights, g_Form_numbers, e_Form___len__, e_Form___eq__, c_MOST_FIGURES, d_write, d_part_of, d_take_weight, d_read, d__law_mix, d__law_next, d__law_alike, d__law_pick, d__law_weight, d_law, q_book⟩
    exact DL.law_end (fun base X' G' => T.ok_law C) KX G hmg


