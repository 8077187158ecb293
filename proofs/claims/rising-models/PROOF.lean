import PyProof.Rows.All
import Wide.All
import OpenK.AllK
import Wide.FinOn
import KE.KStateDown
import HandS.ForMost
import HandS.TupAny
import HandS.TupMul
import HandS.Deep
import HandS.IsInst
import HandS.Conv
import HandS.Zip
import HandS.Walk
import HandS.NoneIn
import HandS.Defaults
import KE.GoesNew
import KE.KDictKeyed
import HandS.MapObj
import HandS.TupSets
import HandS.HeadHook2
import HandS.Head0
import HandS.Head1
import HandS.Head2
import HandS.HeadEnd
import HandS.HeadHook1
import HandS.WordsExc
import PySem.Challenge.RW_asifforever_k30_whole_rising_models
set_option Elab.async false
set_option linter.all false
set_option maxRecDepth 100000
set_option maxHeartbeats 0
/-! A layer: what is known of values stands in a frozen part F of the tracked heap H; slots by what they hold. -/
namespace Ly
open PySem L2

/-! ### heaps -/
def Ex (H H' : Hp) : Prop := ∀ a o, H a = some o → H' a = some o
theorem Ex.refl (H : Hp) : Ex H H := fun _ _ h => h
theorem Ex.trans {H H1 H2 : Hp} (a : Ex H H1) (b : Ex H1 H2) : Ex H H2 := fun x o h => b x o (a x o h)
theorem Ex.new {H : Hp} {p : Addr} {o : HO} (h : H p = none) : Ex H (upd H p o) := fun a u e => by
  rw [upd_ne (ne_of_none e h)]
  exact e
theorem Ex.nn {H H' : Hp} {p : Addr} (e : Ex H H') (h : H' p = none) : H p = none := by
  cases h1 : H p with
  | none => rfl
  | some o =>
    rw [e p o h1] at h
    cases h
theorem Ex.upd2 {H H' : Hp} {p : Addr} {o : HO} (e : Ex H H') : Ex (upd H p o) (upd H' p o) := fun a u h => by
  by_cases hp : a = p
  · rw [hp, upd_same] at h
    rw [hp, upd_same]
    exact h
  · rw [upd_ne hp] at h
    rw [upd_ne hp]
    exact e a u h
/-- an object that the part does not know may be another -/
theorem Ex.out {H H' : Hp} {p : Addr} {o : HO} (e : Ex H H') (h : H p = none) : Ex H (upd H' p o) := fun a u ha => by
  rw [upd_ne (ne_of_none ha h)]
  exact e a u ha
theorem ex_rd {H H' : Hp} {a : Addr} {u : HO} (e : Ex H H') (h : Rd H a u) : Rd H' a u := by
  rcases h with h | ⟨o, h⟩
  · exact Or.inl (e a _ h)
  · exact Or.inr ⟨o, e a _ h⟩
theorem ex_l {K : PySem.W.Frag} {H H' : Hp} {a : Addr} {xs : List V} (e : Ex H H') (h : SqL K H a xs) : SqL K H' a xs := by
  rcases h with h | h
  · exact Or.inl (ex_rd e h)
  · exact Or.inr h
theorem ex_t {K : PySem.W.Frag} {H H' : Hp} {a : Addr} {xs : List V} (e : Ex H H') (h : SqT K H a xs) : SqT K H' a xs := by
  rcases h with h | h
  · exact Or.inl (ex_rd e h)
  · exact Or.inr h

/-! ### what is known of a value, of an object -/
structure MVP where
  P : Hp → V → Prop
  m : ∀ F F' v, Ex F F' → P F v → P F' v
structure MOP where
  G : Hp → HO → Prop
  m : ∀ F F' o, Ex F F' → G F o → G F' o
theorem pair_mono {F F' : Hp} (e : Ex F F') : ∀ {vs : List V} {Ps : List MVP}, Paired (fun v (P : MVP) => P.P F v) vs Ps → Paired (fun v (P : MVP) => P.P F' v) vs Ps
  | _, _, .nil => .nil
  | _, _, .cons h t => .cons (MVP.m _ _ _ _ e h) (pair_mono e t)
abbrev All (F : Hp) (vs : List V) (Ps : List MVP) : Prop := Paired (fun v (P : MVP) => P.P F v) vs Ps
theorem all_get {F : Hp} : ∀ {vs : List V} {Ps : List MVP} {i : Nat} {P : MVP}, All F vs Ps → Ps[i]? = some P → ∃ v, vs[i]? = some v ∧ P.P F v
  | _, _, 0, P, .cons h t, e => ⟨_, rfl, by
      have e1 : _ = P := Option.some.inj e
      rw [← e1]
      exact h⟩
  | _, _, i + 1, P, .cons h t, e => by
      obtain ⟨v, h1, h2⟩ := all_get (i := i) (P := P) t (by simpa using e)
      exact ⟨v, by simpa using h1, h2⟩
  | _, _, _, _, .nil, e => by simp at e
theorem all_get' {F : Hp} : ∀ {vs : List V} {Ps : List MVP} {i : Nat} {v : V}, All F vs Ps → vs[i]? = some v → ∃ P, Ps[i]? = some P ∧ P.P F v
  | _, _, 0, v, .cons h t, e => ⟨_, rfl, by
      have e1 : _ = v := Option.some.inj e
      rw [← e1]
      exact h⟩
  | _, _, i + 1, P, .cons h t, e => by
      obtain ⟨v, h1, h2⟩ := all_get' (i := i) (v := P) t (by simpa using e)
      exact ⟨v, by simpa using h1, h2⟩
  | _, _, _, _, .nil, e => by simp at e
theorem all_app {F : Hp} : ∀ {vs ws : List V} {Ps Qs : List MVP}, All F vs Ps → All F ws Qs → All F (vs ++ ws) (Ps ++ Qs)
  | _, _, _, _, .nil, h => h
  | _, _, _, _, .cons h t, h2 => .cons h (all_app t h2)
theorem all_len {F : Hp} {vs : List V} {Ps : List MVP} (h : All F vs Ps) : vs.length = Ps.length := Paired.length h
theorem all_take {F : Hp} : ∀ {vs : List V} {Ps : List MVP} (n : Nat), All F vs Ps → All F (vs.take n) (Ps.take n)
  | _, _, 0, _ => .nil
  | _, _, _ + 1, .nil => .nil
  | _, _, n + 1, .cons r t => .cons r (all_take n t)
theorem all_drop {F : Hp} : ∀ {vs : List V} {Ps : List MVP} (n : Nat), All F vs Ps → All F (vs.drop n) (Ps.drop n)
  | _, _, 0, r => r
  | _, _, _ + 1, .nil => .nil
  | _, _, n + 1, .cons _ t => all_drop n t
theorem all_set {F : Hp} {v : V} {P : MVP} (h : P.P F v) : ∀ {vs : List V} {Ps : List MVP} (n : Nat), All F vs Ps → All F (vs.set n v) (Ps.set n P)
  | _, _, _, .nil => .nil
  | _, _, 0, .cons _ t => .cons h t
  | _, _, n + 1, .cons q t => .cons q (all_set h n t)
theorem all_dropLast {F : Hp} {vs : List V} {Ps : List MVP} (h : All F vs Ps) : All F vs.dropLast Ps.dropLast := by
  rw [List.dropLast_eq_take, List.dropLast_eq_take, all_len h]
  exact all_take _ h
theorem all_rep {F : Hp} {vs : List V} {Ps : List MVP} (h : All F vs Ps) : ∀ k : Nat, All F (List.replicate k vs).flatten (List.replicate k Ps).flatten
  | 0 => .nil
  | k + 1 => by
    rw [List.replicate_succ, List.replicate_succ, List.flatten_cons, List.flatten_cons]
    exact all_app h (all_rep h k)
/-- this very value -/
def sP (v : V) : MVP := ⟨fun _ u => u = v, fun _ _ _ _ h => h⟩
abbrev iP (i : Int) : MVP := sP (.int i)
abbrev bP (b : Bool) : MVP := sP (.bl b)
abbrev nP : MVP := sP .non
theorem all_sP {F : Hp} : ∀ {vs us : List V}, All F us (vs.map sP) → us = vs
  | [], _, .nil => rfl
  | v :: vs, _, .cons h t => by
    have e1 : _ = v := h
    rw [e1, all_sP t]
theorem all_sP' {F : Hp} : ∀ (vs : List V), All F vs (vs.map sP)
  | [] => .nil
  | _ :: vs => .cons rfl (all_sP' vs)
/-- a list, a tuple of such -/
def lP (Ps : List MVP) : MVP := ⟨fun F v => ∃ a vs, v = .ref a ∧ F a = some (.lst vs) ∧ All F vs Ps, fun _ _ _ e ⟨a, vs, h1, h2, h3⟩ => ⟨a, vs, h1, e _ _ h2, pair_mono e h3⟩⟩
def tP (Ps : List MVP) : MVP := ⟨fun F v => ∃ a vs, v = .ref a ∧ F a = some (.tup vs) ∧ All F vs Ps, fun _ _ _ e ⟨a, vs, h1, h2, h3⟩ => ⟨a, vs, h1, e _ _ h2, pair_mono e h3⟩⟩
/-- one of some -/
def anyP {α : Type} (C : α → Prop) (f : α → MVP) : MVP := ⟨fun F v => ∃ x, C x ∧ (f x).P F v, fun _ _ _ e ⟨x, h1, h2⟩ => ⟨x, h1, (f x).m _ _ _ e h2⟩⟩
/-- a list object of such -/
def lO (Ps : List MVP) : MOP := ⟨fun F o => ∃ vs, o = .lst vs ∧ All F vs Ps, fun _ _ _ e ⟨vs, h1, h2⟩ => ⟨vs, h1, pair_mono e h2⟩⟩

/-! ### the shared objects, the steps -/
abbrev Shr := Addr → Option MOP
structure SOk (S : Shr) (F H : Hp) : Prop where
  at_ : ∀ a G, S a = some G → F a = none ∧ ∃ o, H a = some o ∧ G.G F o
structure Go (S : Shr) (F H F' H' : Hp) : Prop where
  fe : Ex F F'
  eh : Ex F' H'
  nw : ∀ a, H a ≠ none → F' a = F a
  ch : ∀ a o, H a = some o → H' a = some o ∨ ∃ G o', S a = some G ∧ H' a = some o' ∧ G.G F' o'
section
variable {S : Shr} {F H F1 H1 F2 H2 : Hp}
theorem Go.refl (e : Ex F H) : Go S F H F H := ⟨Ex.refl F, e, fun _ _ => rfl, fun _ _ h => .inl h⟩
theorem Go.there (g : Go S F H F1 H1) {a : Addr} {o : HO} (h : H a = some o) : ∃ o', H1 a = some o' := by
  rcases g.ch a o h with h1 | ⟨_, o', _, h1, _⟩
  · exact ⟨o, h1⟩
  · exact ⟨o', h1⟩
theorem Go.nn (g : Go S F H F1 H1) {a : Addr} (h : H1 a = none) : H a = none := by
  cases q : H a with
  | none => rfl
  | some o =>
    obtain ⟨o', e⟩ := g.there q
    rw [h] at e
    cases e
theorem Go.trans (g : Go S F H F1 H1) (g2 : Go S F1 H1 F2 H2) : Go S F H F2 H2 where
  fe := g.fe.trans g2.fe
  eh := g2.eh
  nw := fun a h => by
    rw [g2.nw a fun q => h (g.nn q), g.nw a h]
  ch := fun a o h => by
    rcases g.ch a o h with h1 | ⟨G, o1, e, h1, q⟩
    · exact g2.ch a o h1
    · rcases g2.ch a o1 h1 with h2 | ⟨G2, o2, e2, h2, q2⟩
      · exact .inr ⟨G, o1, e, h2, G.m _ _ _ g2.fe q⟩
      · exact .inr ⟨G2, o2, e2, h2, q2⟩
theorem SOk.go (s : SOk S F H) (g : Go S F H F1 H1) : SOk S F1 H1 := ⟨fun a G e => by
  obtain ⟨h1, o, h2, h3⟩ := s.at_ a G e
  refine ⟨(g.nw a (by rw [h2]; simp)).trans h1, ?_⟩
  rcases g.ch a o h2 with h4 | ⟨G', o', e', h4, q⟩
  · exact ⟨o, h4, G.m _ _ _ g.fe h3⟩
  · rw [e] at e'
    cases e'
    exact ⟨o', h4, q⟩⟩
/-- a new object of the frozen part; a new one of one's own -/
theorem Go.fresh {p : Addr} {o : HO} (e : Ex F H) (h : H p = none) : Go S F H (upd F p o) (upd H p o) where
  fe := Ex.new (e.nn h)
  eh := e.upd2
  nw := fun a ha => upd_ne fun q => ha (by rw [q]; exact h)
  ch := fun a u ha => .inl (by rw [upd_ne (ne_of_none ha h)]; exact ha)
theorem Go.own {p : Addr} {o : HO} (e : Ex F H) (h : H p = none) : Go S F H F (upd H p o) where
  fe := Ex.refl F
  eh := e.out (e.nn h)
  nw := fun _ _ => rfl
  ch := fun a u ha => .inl (by rw [upd_ne (ne_of_none ha h)]; exact ha)
/-- an own object, not known at the entry, is changed; or frozen -/
theorem Go.wr {p : Addr} {o : HO} (g : Go S F H F1 H1) (h : H p = none) (hf : F1 p = none) : Go S F H F1 (upd H1 p o) where
  fe := g.fe
  eh := g.eh.out hf
  nw := g.nw
  ch := fun a u ha => by
    rcases g.ch a u ha with h1 | ⟨G, o', e, h1, q⟩
    · exact .inl (by rw [upd_ne (ne_of_none ha h)]; exact h1)
    · exact .inr ⟨G, o', e, by rw [upd_ne (ne_of_none ha h)]; exact h1, q⟩
theorem Go.frz {p : Addr} {o : HO} (g : Go S F H F1 H1) (h : H p = none) (hf : F1 p = none) (ho : H1 p = some o) : Go S F H (upd F1 p o) H1 where
  fe := g.fe.trans (Ex.new hf)
  eh := fun a u ha => by
    by_cases hp : a = p
    · rw [hp, upd_same] at ha
      rw [hp, ← ha]
      exact ho
    · rw [upd_ne hp] at ha
      exact g.eh a u ha
  nw := fun a ha => by
    rw [upd_ne fun q => ha (by rw [q]; exact h)]
    exact g.nw a ha
  ch := fun a u ha => by
    rcases g.ch a u ha with h1 | ⟨G, o', e, h1, q⟩
    · exact .inl h1
    · exact .inr ⟨G, o', e, h1, G.m _ _ _ (Ex.new hf) q⟩
/-- a shared object is changed -/
theorem Go.share {p : Addr} {o : HO} {G : MOP} (e : Ex F H) (s : S p = some G) (hf : F p = none) (q : G.G F o) : Go S F H F (upd H p o) where
  fe := Ex.refl F
  eh := e.out hf
  nw := fun _ _ => rfl
  ch := fun a u ha => by
    by_cases hp : a = p
    · exact .inr ⟨G, o, by rw [hp]; exact s, by rw [hp]; exact upd_same, q⟩
    · exact .inl (by rw [upd_ne hp]; exact ha)
end

/-! ### slots -/
inductive Sv where
  | no | fz (P : MVP) | ow (G : MOP) | sh (G : MOP)
structure Wd where
  S : Shr
  F0 : Hp
  H0 : Hp
  B : Hp
  ok : SOk S F0 H0
/-- the same, more being known -/
abbrev Wd.bd (W : Wd) (B : Hp) : Wd := { W with B := B }
def SlotOk (W : Wd) (F H : Hp) (x : Option V) : Sv → Prop
  | .no => True
  | .fz P => ∃ v, x = some v ∧ P.P F v
  | .ow G => ∃ p o, x = some (.ref p) ∧ W.H0 p = none ∧ F p = none ∧ H p = some o ∧ G.G F o
  | .sh G => ∃ p, x = some (.ref p) ∧ W.S p = some G
def Sv.own : Sv → Bool
  | .ow _ => true
  | _ => false
structure Slots (W : Wd) (F H : Hp) (σ : L2.St) (env : List Sv) : Prop where
  len : σ.length = env.length
  ok : ∀ (i : Nat) (s : Sv), env[i]? = some s → ∃ x, σ[i]? = some x ∧ SlotOk W F H x s
  sep : ∀ (i j : Nat) (s t : Sv) (p : Addr), env[i]? = some s → env[j]? = some t → s.own = true → t.own = true → σ[i]? = some (some (.ref p)) → σ[j]? = some (some (.ref p)) → i = j
theorem Wd.nsh (W : Wd) {p : Addr} (h : W.H0 p = none) : W.S p = none := by
  cases q : W.S p with
  | none => rfl
  | some G =>
    obtain ⟨_, o, h2, _⟩ := W.ok.at_ p G q
    rw [h] at h2
    cases h2
section
variable {W : Wd} {F H F' H' : Hp} {σ : L2.St} {env : List Sv}
theorem SlotOk.go {x : Option V} {s : Sv} (h : SlotOk W F H x s) (g : Go W.S F H F' H') : SlotOk W F' H' x s := by
  cases s with
  | no => exact True.intro
  | fz P =>
    obtain ⟨v, e, q⟩ := h
    exact ⟨v, e, P.m _ _ _ g.fe q⟩
  | ow G =>
    obtain ⟨p, o, e, h0, hf, hh, q⟩ := h
    refine ⟨p, o, e, h0, (g.nw p (by rw [hh]; simp)).trans hf, ?_, G.m _ _ _ g.fe q⟩
    rcases g.ch p o hh with h1 | ⟨G', o', e', _, _⟩
    · exact h1
    · rw [W.nsh h0] at e'
      cases e'
  | sh G => exact h
theorem Slots.go (h : Slots W F H σ env) (g : Go W.S F H F' H') : Slots W F' H' σ env :=
  ⟨h.len, fun i s e => by
    obtain ⟨x, h1, h2⟩ := h.ok i s e
    exact ⟨x, h1, h2.go g⟩, h.sep⟩
theorem Slots.set (h : Slots W F H σ env) (i : Nat) {x : Option V} {s : Sv} (q : SlotOk W F H x s)
    (sep : s.own = true → ∀ p, x = some (.ref p) → ∀ j t, j ≠ i → env[j]? = some t → t.own = true → σ[j]? ≠ some (some (.ref p))) : Slots W F H (σ.set i x) (env.set i s) := by
  refine ⟨by rw [List.length_set, List.length_set, h.len], fun j t e => ?_, fun j k t u p ej ek ht hu hj hk => ?_⟩
  · by_cases hji : i = j
    · subst hji
      have hl : i < env.length := by
        have := (List.getElem?_eq_some_iff.mp e).1
        rwa [List.length_set] at this
      rw [List.getElem?_set_self hl] at e
      have e1 : s = t := Option.some.inj e
      subst e1
      exact ⟨x, List.getElem?_set_self (by rw [h.len]; exact hl), q⟩
    · rw [List.getElem?_set_ne hji] at e
      rw [List.getElem?_set_ne hji]
      exact h.ok j t e
  · by_cases hji : i = j
    · subst hji
      have hl : i < env.length := by
        have := (List.getElem?_eq_some_iff.mp ej).1
        rwa [List.length_set] at this
      rw [List.getElem?_set_self hl] at ej
      have e1 : s = t := Option.some.inj ej
      subst e1
      rw [List.getElem?_set_self (by rw [h.len]; exact hl)] at hj
      by_cases hki : i = k
      · exact hki
      · rw [List.getElem?_set_ne hki] at ek hk
        exact absurd hk (sep ht p (Option.some.inj hj) k u (fun z => hki z.symm) ek hu)
    · rw [List.getElem?_set_ne hji] at ej hj
      by_cases hki : i = k
      · subst hki
        have hl : i < env.length := by
          have := (List.getElem?_eq_some_iff.mp ek).1
          rwa [List.length_set] at this
        rw [List.getElem?_set_self hl] at ek
        have e1 : s = u := Option.some.inj ek
        subst e1
        rw [List.getElem?_set_self (by rw [h.len]; exact hl)] at hk
        exact absurd hj (sep hu p (Option.some.inj hk) j t (fun z => hji z.symm) ej ht)
      · rw [List.getElem?_set_ne hki] at ek hk
        exact h.sep j k t u p ej ek ht hu hj hk
theorem Slots.setF (h : Slots W F H σ env) (i : Nat) {v : V} {P : MVP} (q : P.P F v) : Slots W F H (σ.set i (some v)) (env.set i (.fz P)) :=
  h.set i ⟨v, rfl, q⟩ fun z => nomatch z
/-- an own object is written -/
theorem Slots.write (h : Slots W F H σ env) {i : Nat} {p : Addr} {G G' : MOP} {o : HO} (e : env[i]? = some (.ow G)) (ep : σ[i]? = some (some (.ref p))) (q : G'.G F o) : Slots W F (upd H p o) σ (env.set i (.ow G')) := by
  obtain ⟨x, hx, p', o', ex, h0, hf, hh, _⟩ := h.ok i _ e
  have epp : p' = p := by
    rw [hx, ex] at ep
    exact V.ref.inj (Option.some.inj (Option.some.inj ep))
  subst epp
  have hl : i < env.length := (List.getElem?_eq_some_iff.mp e).1
  have base : Slots W F (upd H p' o) σ (env.set i .no) := by
    refine ⟨by rw [List.length_set, h.len], fun j t ej => ?_, fun j k t u r ej ek ht hu hj hk => ?_⟩
    · by_cases hji : i = j
      · subst hji
        rw [List.getElem?_set_self hl] at ej
        have e1 : Sv.no = t := Option.some.inj ej
        subst e1
        exact ⟨_, hx, True.intro⟩
      · rw [List.getElem?_set_ne hji] at ej
        obtain ⟨y, hy, qy⟩ := h.ok j t ej
        refine ⟨y, hy, ?_⟩
        cases t with
        | no => exact True.intro
        | fz P => exact qy
        | sh G => exact qy
        | ow G2 =>
          obtain ⟨r, u, e1, e2, e3, e4, e5⟩ := qy
          refine ⟨r, u, e1, e2, e3, ?_, e5⟩
          rw [upd_ne]
          · exact e4
          · intro z
            subst z
            subst e1
            exact hji (h.sep i j _ _ r e ej rfl rfl (by rw [hx, ex]) hy)
    · by_cases hji : i = j
      · subst hji
        rw [List.getElem?_set_self hl] at ej
        have e1 : Sv.no = t := Option.some.inj ej
        subst e1
        cases ht
      · by_cases hki : i = k
        · subst hki
          rw [List.getElem?_set_self hl] at ek
          have e1 : Sv.no = u := Option.some.inj ek
          subst e1
          cases hu
        · rw [List.getElem?_set_ne hji] at ej
          rw [List.getElem?_set_ne hki] at ek
          exact h.sep j k t u r ej ek ht hu hj hk
  have fin := base.set i (x := x) (s := .ow G') ⟨p', o, ex, h0, hf, upd_same, q⟩ fun _ r er j t hj ej ht hσ => by
    rw [List.getElem?_set_ne (fun z => hj z.symm)] at ej
    exact hj ((h.sep i j _ _ r e ej rfl ht (by rw [hx, er]) hσ).symm)
  have hs : σ.set i x = σ := by
    refine List.ext_getElem? fun j => ?_
    by_cases hji : i = j
    · subst hji
      rw [List.getElem?_set_self (by rw [h.len]; exact hl), hx]
    · rw [List.getElem?_set_ne hji]
  rw [hs, List.set_set] at fin
  exact fin
/-- an own list is frozen -/
theorem Slots.freeze (h : Slots W F H σ env) {i : Nat} {Ps : List MVP} (e : env[i]? = some (.ow (lO Ps))) :
    ∃ p vs, σ[i]? = some (some (.ref p)) ∧ W.H0 p = none ∧ F p = none ∧ H p = some (.lst vs) ∧ Slots W (upd F p (.lst vs)) H σ (env.set i (.fz (lP Ps))) := by
  obtain ⟨x, hx, p, o, ex, h0, hf, hh, vs, eo, q⟩ := h.ok i _ e
  subst eo
  have hl : i < env.length := (List.getElem?_eq_some_iff.mp e).1
  refine ⟨p, vs, by rw [hx, ex], h0, hf, hh, by rw [List.length_set, h.len], fun j t ej => ?_, fun j k t u r ej ek ht hu hj hk => ?_⟩
  · by_cases hji : i = j
    · subst hji
      rw [List.getElem?_set_self hl] at ej
      have e1 : Sv.fz (lP Ps) = t := Option.some.inj ej
      subst e1
      exact ⟨x, hx, _, ex, p, vs, rfl, upd_same, pair_mono (Ex.new hf) q⟩
    · rw [List.getElem?_set_ne hji] at ej
      obtain ⟨y, hy, qy⟩ := h.ok j t ej
      refine ⟨y, hy, ?_⟩
      cases t with
      | no => exact True.intro
      | fz P =>
        obtain ⟨v, e1, e2⟩ := qy
        exact ⟨v, e1, P.m _ _ _ (Ex.new hf) e2⟩
      | sh G => exact qy
      | ow G2 =>
        obtain ⟨r, u, e1, e2, e3, e4, e5⟩ := qy
        refine ⟨r, u, e1, e2, ?_, e4, G2.m _ _ _ (Ex.new hf) e5⟩
        rw [upd_ne]
        · exact e3
        · intro z
          subst z
          subst e1
          exact hji (h.sep i j _ _ r e ej rfl rfl (by rw [hx, ex]) hy)
  · by_cases hji : i = j
    · subst hji
      rw [List.getElem?_set_self hl] at ej
      have e1 : Sv.fz (lP Ps) = t := Option.some.inj ej
      subst e1
      cases ht
    · by_cases hki : i = k
      · subst hki
        rw [List.getElem?_set_self hl] at ek
        have e1 : Sv.fz (lP Ps) = u := Option.some.inj ek
        subst e1
        cases hu
      · rw [List.getElem?_set_ne hji] at ej
        rw [List.getElem?_set_ne hki] at ek
        exact h.sep j k t u r ej ek ht hu hj hk
/-- forgetting, or knowing less -/
def SvLe (a b : Sv) : Prop := b = .no ∨ a = b ∨ ∃ P P' : MVP, a = .fz P ∧ b = .fz P' ∧ ∀ F v, P.P F v → P'.P F v
def EnvLe : List Sv → List Sv → Prop
  | [], [] => True
  | a :: as, b :: bs => SvLe a b ∧ EnvLe as bs
  | _, _ => False
theorem EnvLe.refl : ∀ e : List Sv, EnvLe e e
  | [] => True.intro
  | _ :: as => ⟨.inr (.inl rfl), EnvLe.refl as⟩
theorem EnvLe.len : ∀ {a b : List Sv}, EnvLe a b → a.length = b.length
  | [], [], _ => rfl
  | _ :: _, _ :: _, h => by rw [List.length_cons, List.length_cons, EnvLe.len h.2]
theorem EnvLe.get : ∀ {a b : List Sv} {i : Nat} {s : Sv}, EnvLe a b → b[i]? = some s → ∃ r, a[i]? = some r ∧ SvLe r s
  | [], [], _, _, _, e => by simp at e
  | a :: _, b :: _, 0, s, h, e => by
    have e1 : b = s := Option.some.inj e
    subst e1
    exact ⟨a, rfl, h.1⟩
  | _ :: as, _ :: bs, i + 1, s, h, e => by
    obtain ⟨r, h1, h2⟩ := EnvLe.get (i := i) (s := s) h.2 (by simpa using e)
    exact ⟨r, by simpa using h1, h2⟩
theorem Slots.le {env' : List Sv} (h : Slots W F H σ env) (l : EnvLe env env') : Slots W F H σ env' := by
  refine ⟨h.len.trans l.len, fun i s e => ?_, fun i j s t p ei ej hs ht hi hj => ?_⟩
  · obtain ⟨r, h1, h2⟩ := l.get e
    obtain ⟨x, hx, q⟩ := h.ok i r h1
    refine ⟨x, hx, ?_⟩
    rcases h2 with h2 | h2 | ⟨P, P', e1, e2, h2⟩
    · rw [h2]
      exact True.intro
    · rw [← h2]
      exact q
    · subst e1 e2
      obtain ⟨v, e3, e4⟩ := q
      exact ⟨v, e3, h2 _ _ e4⟩
  · obtain ⟨r, h1, h2⟩ := l.get ei
    obtain ⟨r', h1', h2'⟩ := l.get ej
    have o1 : r.own = true := by
      rcases h2 with h2 | h2 | ⟨P, P', e1, e2, h2⟩
      · rw [h2] at hs
        cases hs
      · rw [h2]
        exact hs
      · rw [e2] at hs
        cases hs
    have o2 : r'.own = true := by
      rcases h2' with h2 | h2 | ⟨P, P', e1, e2, h2⟩
      · rw [h2] at ht
        cases ht
      · rw [h2]
        exact ht
      · rw [e2] at ht
        cases ht
    exact h.sep i j r r' p h1 h1' o1 o2 hi hj
end

/-! ### what is said of code: At (of what is wanted at a state), EvP (an expression), EvT (a test), EvA (arguments), EvI (what is walked) -/
def At (W : Wd) (X : L2.St → Hp → Prop) (env : List Sv) : Prop := ∀ σ F H, Go W.S W.F0 W.H0 F H → Ex W.B F → Slots W F H σ env → X σ H
def EvP (W : Wd) (te : TE) (env : List Sv) (P : MVP) : Prop := ∀ σ F H, Ex F H → SOk W.S F H → Slots W F H σ env → ∀ Q : VK, (∀ v F' H', Go W.S F H F' H' → P.P F' v → Q v H') → te σ H Q
def EvT (W : Wd) (tt : TT) (env : List Sv) (C : Bool → Prop) : Prop := ∀ σ F H, Ex F H → SOk W.S F H → Slots W F H σ env → ∀ Q : Bool → Hp → Prop, (∀ b F' H', Go W.S F H F' H' → C b → Q b H') → tt σ H Q
def ArgOk (S : Shr) (F : Hp) (v : V) : Sv → Prop
  | .fz P => P.P F v
  | .sh G => ∃ p, v = .ref p ∧ S p = some G
  | _ => False
abbrev ArgsOk (S : Shr) (F : Hp) (vs : List V) (svs : List Sv) : Prop := Paired (fun v s => ArgOk S F v s) vs svs
def EvA (W : Wd) (ta : TA) (env : List Sv) (svs : List Sv) : Prop := ∀ σ F H, Ex F H → SOk W.S F H → Slots W F H σ env → ∀ Q : List V → Hp → Prop, (∀ vs F' H', Go W.S F H F' H' → ArgsOk W.S F' vs svs → Q vs H') → ta σ H Q
/-- a list that is new, not yet frozen -/
def EvF (W : Wd) (te : TE) (env : List Sv) (Ps : List MVP) : Prop := ∀ σ F H, Ex F H → SOk W.S F H → Slots W F H σ env → ∀ Q : VK,
  (∀ p vs F' H', Go W.S F H F' H' → H p = none → F' p = none → H' p = some (.lst vs) → All F' vs Ps → Q (.ref p) H') → te σ H Q
/-- so many turns, of such -/
structure Iter (S : Shr) (J : It) (F : Hp) (Ps : List MVP) : Prop where
  go : ∀ i P F2 H, Ps[i]? = some P → Ex F F2 → Ex F2 H → J.go i H ∧ ∀ x H', J.yld i H x H' → ∃ F3, Go S F2 H F3 H' ∧ P.P F3 x
  stop : ∀ H, Ex F H → J.stop Ps.length H
def EvI (W : Wd) (wi : TI) (env : List Sv) (Ps : List MVP) : Prop := ∀ σ F H, Ex F H → SOk W.S F H → Slots W F H σ env → ∀ R : It → Hp → Prop, (∀ J F' H', Go W.S F H F' H' → Iter W.S J F' Ps → R J H') → wi σ H R
/-- a target, which stores at the places js -/
def Tgt (W : Wd) (g : TG) (P : MVP) (env env' : List Sv) (js : List Nat) : Prop := ∀ σ F H v, Ex F H → Slots W F H σ env → P.P F v → ∀ Q : L2.St → Hp → Prop, (∀ σ' : L2.St, Slots W F H σ' env' → σ'.length = σ.length → (∀ j, j ∉ js → σ'[j]? = σ[j]?) → Q σ' H) → g v σ H Q
/-- several targets -/
def TgtS (W : Wd) (g : TGs) (Ps : List MVP) (env env' : List Sv) (js : List Nat) : Prop := ∀ σ F H vs, Ex F H → Slots W F H σ env → All F vs Ps → ∀ Q : L2.St → Hp → Prop, (∀ σ' : L2.St, Slots W F H σ' env' → σ'.length = σ.length → (∀ j, j ∉ js → σ'[j]? = σ[j]?) → Q σ' H) → g vs σ H Q
/-- one of some states -/
def Sat (W : Wd) (S : List Sv → Prop) : L2.St → Hp → Prop := fun σ H => ∃ env F, S env ∧ Go W.S W.F0 W.H0 F H ∧ Ex W.B F ∧ Slots W F H σ env
end Ly
namespace Ly
open PySem L2
section
variable {K : PySem.W.Frag} {W : Wd} {S : Shr} {env : List Sv} {P P1 P2 P3 : MVP} {ta tb te : TE} {tr : TA} {tt tu : TT} {Ps Qs : List MVP}
theorem sz {n : Nat} (h : n ≤ 1000000) : n ≤ sizeLine := Nat.le_trans h (by decide)
theorem szl {n : Nat} (h : n ≤ 1000000) : n < sizeLine := Nat.lt_of_le_of_lt h (by decide)

/-! ### names, constants, operators -/
theorem ev_var {i : Nat} (h : env[i]? = some (.fz P)) : EvP W (tVar i) env P := fun σ F H e so sl Q k => by
  obtain ⟨x, hx, v, ex, q⟩ := sl.ok i _ h
  exact ⟨v, by rw [hx, ex], k v F H (Go.refl e) q⟩
theorem ev_c {v : V} : EvP W (tC v) env (sP v) := fun σ F H e so sl Q k => k v F H (Go.refl e) rfl
theorem ev_le (h : EvP W te env P) (l : ∀ F v, P.P F v → P1.P F v) : EvP W te env P1 := fun σ F H e so sl Q k => h σ F H e so sl Q fun v F1 H1 g q => k v F1 H1 g (l F1 v q)
theorem ev_is (h : EvP W te env P) (e : P = P1) : EvP W te env P1 := by
  rw [← e]
  exact h
def Op2 (S : Shr) (r : R2) (P1 P2 P3 : MVP) : Prop := ∀ F H x y, Ex F H → P1.P F x → P2.P F y → ∀ Q : VK, (∀ v F' H', Go S F H F' H' → P3.P F' v → Q v H') → r x y H Q
def Op2F (S : Shr) (r : R2) (P1 P2 : MVP) (Ps : List MVP) : Prop := ∀ F H x y, Ex F H → P1.P F x → P2.P F y → ∀ Q : VK, (∀ p vs F' H', Go S F H F' H' → H p = none → F' p = none → H' p = some (.lst vs) → All F' vs Ps → Q (.ref p) H') → r x y H Q
theorem ev_op {r : R2} (ha : EvP W ta env P1) (hb : EvP W tb env P2) (h : Op2 W.S r P1 P2 P3) : EvP W (tOp r ta tb) env P3 := fun σ F H e so sl Q k =>
  ha σ F H e so sl _ fun x F1 H1 g1 q1 => hb σ F1 H1 g1.eh (so.go g1) (sl.go g1) _ fun y F2 H2 g2 q2 => h F2 H2 x y g2.eh (P1.m _ _ _ g2.fe q1) q2 Q fun v F3 H3 g3 q3 => k v F3 H3 ((g1.trans g2).trans g3) q3
theorem ef_op {r : R2} (ha : EvP W ta env P1) (hb : EvP W tb env P2) (h : Op2F W.S r P1 P2 Ps) : EvF W (tOp r ta tb) env Ps := fun σ F H e so sl Q k =>
  ha σ F H e so sl _ fun x F1 H1 g1 q1 => hb σ F1 H1 g1.eh (so.go g1) (sl.go g1) _ fun y F2 H2 g2 q2 => h F2 H2 x y g2.eh (P1.m _ _ _ g2.fe q1) q2 Q fun p vs F3 H3 g3 n1 n2 hh q3 =>
    k p vs F3 H3 ((g1.trans g2).trans g3) (g1.nn (g2.nn n1)) n2 hh q3
theorem o_any1 {α : Type} {C : α → Prop} {f g : α → MVP} {r : R2} (h : ∀ x, C x → Op2 S r (f x) P2 (g x)) : Op2 S r (anyP C f) P2 (anyP C g) := fun F H x y e ⟨z, c, q⟩ hy Q k =>
  h z c F H x y e q hy Q fun v F' H' g' q' => k v F' H' g' ⟨z, c, q'⟩
theorem o_any2 {α : Type} {C : α → Prop} {f g : α → MVP} {r : R2} (h : ∀ x, C x → Op2 S r P1 (f x) (g x)) : Op2 S r P1 (anyP C f) (anyP C g) := fun F H x y e hx ⟨z, c, q⟩ Q k =>
  h z c F H x y e hx q Q fun v F' H' g' q' => k v F' H' g' ⟨z, c, q'⟩
theorem o_I0 {g : Int → Int → V} {i j : Int} : Op2 S (rI0 g) (iP i) (iP j) (sP (g i j)) := fun F H x y e hx hy Q k => ⟨i, j, hx, hy, k _ F H (Go.refl e) rfl⟩
theorem o_I {C : Int → Int → Prop} {g : Int → Int → V} {i j : Int} (c : C i j) : Op2 S (rI C g) (iP i) (iP j) (sP (g i j)) := fun F H x y e hx hy Q k => ⟨i, j, hx, hy, c, k _ F H (Go.refl e) rfl⟩
theorem o_add {i j : Int} : Op2 S (rI0 fun i j => .int (i + j)) (iP i) (iP j) (iP (i + j)) := o_I0
theorem o_sub {i j : Int} : Op2 S (rI0 fun i j => .int (i - j)) (iP i) (iP j) (iP (i - j)) := o_I0
theorem o_lt {i j : Int} : Op2 S (rI0 fun i j => .bl (decide (i < j))) (iP i) (iP j) (bP (decide (i < j))) := o_I0
theorem o_le {i j : Int} : Op2 S (rI0 fun i j => .bl (decide (i ≤ j))) (iP i) (iP j) (bP (decide (i ≤ j))) := o_I0
theorem o_gt {i j : Int} : Op2 S (rI0 fun i j => .bl (decide (j < i))) (iP i) (iP j) (bP (decide (j < i))) := o_I0
theorem o_ge {i j : Int} : Op2 S (rI0 fun i j => .bl (decide (j ≤ i))) (iP i) (iP j) (bP (decide (j ≤ i))) := o_I0
theorem o_mul {i j : Int} (c : CMul i j) : Op2 S (rI CMul fun i j => .int (i * j)) (iP i) (iP j) (iP (i * j)) := o_I c
theorem o_fdiv {i j : Int} (c : CDiv i j) : Op2 S (rI CDiv fun i j => .int (i / j)) (iP i) (iP j) (iP (i / j)) := o_I c
theorem o_mod {i j : Int} (c : 0 < j) : Op2 S (rI (fun _ j => 0 < j) fun i j => .int (i % j)) (iP i) (iP j) (iP (i % j)) := o_I c
theorem o_pow {i j : Int} (c : CPow i j) : Op2 S (rI CPow fun i j => .int (i ^ j.toNat)) (iP i) (iP j) (iP (i ^ j.toNat)) := o_I c
theorem o_eqS {x y : V} (h : scal x y = true) : Op2 S rEq (sP x) (sP y) (bP (decide (x = y))) := fun F H u v e hx hy Q k => by
  have e1 : u = x := hx
  have e2 : v = y := hy
  subst e1 e2
  exact ⟨h, k _ F H (Go.refl e) rfl⟩
theorem o_neS {x y : V} (h : scal x y = true) : Op2 S rNe (sP x) (sP y) (bP (!decide (x = y))) := fun F H u v e hx hy Q k => by
  have e1 : u = x := hx
  have e2 : v = y := hy
  subst e1 e2
  exact ⟨h, k _ F H (Go.refl e) rfl⟩
theorem dInt (i j : Int) : decide (V.int i = V.int j) = decide (i = j) := by
  by_cases h : i = j
  · subst h
    simp
  · rw [decide_eq_false h, decide_eq_false fun q => h (V.int.inj q)]
theorem dBl (i j : Bool) : decide (V.bl i = V.bl j) = decide (i = j) := by
  by_cases h : i = j
  · subst h
    simp
  · rw [decide_eq_false h, decide_eq_false fun q => h (V.bl.inj q)]
theorem o_eqI {i j : Int} : Op2 S rEq (iP i) (iP j) (bP (decide (i = j))) := by
  rw [← dInt]
  exact o_eqS rfl
theorem o_neI {i j : Int} : Op2 S rNe (iP i) (iP j) (bP (!decide (i = j))) := by
  rw [← dInt]
  exact o_neS rfl
theorem o_eqB {i j : Bool} : Op2 S rEq (bP i) (bP j) (bP (decide (i = j))) := by
  rw [← dBl]
  exact o_eqS rfl

/-! ### tests -/
theorem t_test {b : Bool} (h : EvP W te env (bP b)) : EvT W (tTest te) env (· = b) := fun σ F H e so sl Q k => h σ F H e so sl _ fun v F1 H1 g q => ⟨b, q, k b F1 H1 g rfl⟩
theorem t_B {b : Bool} (h : EvP W te env (bP b)) : EvT W (tB te) env (· = b) := fun σ F H e so sl Q k => h σ F H e so sl _ fun v F1 H1 g q => ⟨b, q, k b F1 H1 g rfl⟩
theorem t_testA {α : Type} {C : α → Prop} {f : α → Bool} (h : EvP W te env (anyP C fun x => bP (f x))) : EvT W (tTest te) env (fun b => ∃ x, C x ∧ b = f x) := fun σ F H e so sl Q k =>
  h σ F H e so sl _ fun v F1 H1 g ⟨x, c, q⟩ => ⟨f x, q, k (f x) F1 H1 g ⟨x, c, rfl⟩⟩
theorem t_BA {α : Type} {C : α → Prop} {f : α → Bool} (h : EvP W te env (anyP C fun x => bP (f x))) : EvT W (tB te) env (fun b => ∃ x, C x ∧ b = f x) := fun σ F H e so sl Q k =>
  h σ F H e so sl _ fun v F1 H1 g ⟨x, c, q⟩ => ⟨f x, q, k (f x) F1 H1 g ⟨x, c, rfl⟩⟩
theorem t_le {C C' : Bool → Prop} (h : EvT W tt env C) (l : ∀ b, C b → C' b) : EvT W tt env C' := fun σ F H e so sl Q k => h σ F H e so sl Q fun b F1 H1 g q => k b F1 H1 g (l b q)
theorem t_is {a b : Bool} (h : EvT W tt env (· = a)) (e : a = b) : EvT W tt env (· = b) := by
  rw [← e]
  exact h
theorem t_andC {C1 C2 C : Bool → Prop} (h1 : EvT W tt env C1) (h2 : C1 true → EvT W tu env C2) (h3 : C1 true → ∀ b, C2 b → C b) (h4 : C1 false → C false) : EvT W (tAnd tt tu) env C := fun σ F H e so sl Q k =>
  h1 σ F H e so sl _ fun a F1 H1 g q => by
    cases a with
    | true =>
      show tu σ H1 Q
      exact h2 q σ F1 H1 g.eh (so.go g) (sl.go g) Q fun b F2 H2 g2 q2 => k b F2 H2 (g.trans g2) (h3 q b q2)
    | false =>
      show Q false H1
      exact k false F1 H1 g (h4 q)
theorem t_orC {C1 C2 C : Bool → Prop} (h1 : EvT W tt env C1) (h2 : C1 false → EvT W tu env C2) (h3 : C1 false → ∀ b, C2 b → C b) (h4 : C1 true → C true) : EvT W (tOr tt tu) env C := fun σ F H e so sl Q k =>
  h1 σ F H e so sl _ fun a F1 H1 g q => by
    cases a with
    | false =>
      show tu σ H1 Q
      exact h2 q σ F1 H1 g.eh (so.go g) (sl.go g) Q fun b F2 H2 g2 q2 => k b F2 H2 (g.trans g2) (h3 q b q2)
    | true =>
      show Q true H1
      exact k true F1 H1 g (h4 q)
theorem t_and {a b : Bool} (h1 : EvT W tt env (· = a)) (h2 : a = true → EvT W tu env (· = b)) : EvT W (tAnd tt tu) env (· = (a && b)) :=
  t_andC h1 (fun q => h2 q.symm) (fun q c hc => by rw [← q, hc]; rfl) fun q => by rw [← q]; rfl
theorem t_or {a b : Bool} (h1 : EvT W tt env (· = a)) (h2 : a = false → EvT W tu env (· = b)) : EvT W (tOr tt tu) env (· = (a || b)) :=
  t_orC h1 (fun q => h2 q.symm) (fun q c hc => by rw [← q, hc]; rfl) fun q => by rw [← q]; rfl
theorem t_not {a : Bool} (h : EvT W tt env (· = a)) : EvT W (tNot tt) env (· = !a) := fun σ F H e so sl Q k => h σ F H e so sl _ fun b F1 H1 g q => k (!b) F1 H1 g (by rw [q])
theorem ev_ifC {C : Bool → Prop} (h : EvT W tt env C) (h1 : C true → EvP W ta env P) (h2 : C false → EvP W tb env P) : EvP W (tIf tt ta tb) env P := fun σ F H e so sl Q k => h σ F H e so sl _ fun b F1 H1 g q => by
  cases b with
  | true =>
    show ta σ H1 Q
    exact h1 q σ F1 H1 g.eh (so.go g) (sl.go g) Q fun v F2 H2 g2 q2 => k v F2 H2 (g.trans g2) q2
  | false =>
    show tb σ H1 Q
    exact h2 q σ F1 H1 g.eh (so.go g) (sl.go g) Q fun v F2 H2 g2 q2 => k v F2 H2 (g.trans g2) q2
theorem ef_ifC {C : Bool → Prop} (h : EvT W tt env C) (h1 : C true → EvF W ta env Ps) (h2 : C false → EvF W tb env Ps) : EvF W (tIf tt ta tb) env Ps := fun σ F H e so sl Q k => h σ F H e so sl _ fun b F1 H1 g q => by
  cases b with
  | true =>
    show ta σ H1 Q
    exact h1 q σ F1 H1 g.eh (so.go g) (sl.go g) Q fun p vs F2 H2 g2 n1 n2 hh q2 => k p vs F2 H2 (g.trans g2) (g.nn n1) n2 hh q2
  | false =>
    show tb σ H1 Q
    exact h2 q σ F1 H1 g.eh (so.go g) (sl.go g) Q fun p vs F2 H2 g2 n1 n2 hh q2 => k p vs F2 H2 (g.trans g2) (g.nn n1) n2 hh q2
theorem ev_if {α : Type} {f : α → MVP} {b : Bool} {x y : α} (h : EvT W tt env (· = b)) (h1 : b = true → EvP W ta env (f x)) (h2 : b = false → EvP W tb env (f y)) : EvP W (tIf tt ta tb) env (f (if b = true then x else y)) :=
  ev_ifC h (fun q => by rw [if_pos q.symm]; exact h1 q.symm) fun q => by rw [if_neg (by rw [← q]; exact Bool.false_ne_true)]; exact h2 q.symm
theorem ef_if {b : Bool} (h : EvT W tt env (· = b)) (h1 : b = true → EvF W ta env Ps) (h2 : b = false → EvF W tb env Qs) : EvF W (tIf tt ta tb) env (if b = true then Ps else Qs) :=
  ef_ifC h (fun q => by rw [if_pos q.symm]; exact h1 q.symm) fun q => by rw [if_neg (by rw [← q]; exact Bool.false_ne_true)]; exact h2 q.symm
theorem ev_andV {a b : Bool} (h1 : EvP W ta env (bP a)) (h2 : a = true → EvP W tb env (bP b)) : EvP W (tAndV ta tb) env (bP (a && b)) := fun σ F H e so sl Q k => h1 σ F H e so sl _ fun v F1 H1 g q => ⟨a, q, by
  cases a with
  | true =>
    show tb σ H1 Q
    exact h2 rfl σ F1 H1 g.eh (so.go g) (sl.go g) Q fun v F2 H2 g2 q2 => k v F2 H2 (g.trans g2) q2
  | false =>
    show Q (.bl false) H1
    exact k _ F1 H1 g rfl⟩
theorem ev_orV {a b : Bool} (h1 : EvP W ta env (bP a)) (h2 : a = false → EvP W tb env (bP b)) : EvP W (tOrV ta tb) env (bP (a || b)) := fun σ F H e so sl Q k => h1 σ F H e so sl _ fun v F1 H1 g q => ⟨a, q, by
  cases a with
  | false =>
    show tb σ H1 Q
    exact h2 rfl σ F1 H1 g.eh (so.go g) (sl.go g) Q fun v F2 H2 g2 q2 => k v F2 H2 (g.trans g2) q2
  | true =>
    show Q (.bl true) H1
    exact k _ F1 H1 g rfl⟩
theorem ev_notV {a : Bool} (h1 : EvP W ta env (bP a)) : EvP W (tNotV ta) env (bP (!a)) := fun σ F H e so sl Q k => h1 σ F H e so sl _ fun v F1 H1 g q => ⟨a, q, k _ F1 H1 g rfl⟩
theorem ev_isN {v : V} (h : EvP W ta env (sP v)) : EvP W (tIsN ta) env (bP (decide (v = .non))) := fun σ F H e so sl Q k => h σ F H e so sl _ fun x F1 H1 g q => by
  have e1 : x = v := q
  subst e1
  exact k _ F1 H1 g rfl
theorem ev_notN {v : V} (h : EvP W ta env (sP v)) : EvP W (tNotN ta) env (bP (!decide (v = .non))) := fun σ F H e so sl Q k => h σ F H e so sl _ fun x F1 H1 g q => by
  have e1 : x = v := q
  subst e1
  exact k _ F1 H1 g rfl
theorem ev_isNt (h : EvP W ta env (tP Ps)) : EvP W (tIsN ta) env (bP false) := fun σ F H e so sl Q k => h σ F H e so sl _ fun x F1 H1 g ⟨a, vs, ex, _⟩ => by
  subst ex
  exact k _ F1 H1 g rfl
theorem ev_notNt (h : EvP W ta env (tP Ps)) : EvP W (tNotN ta) env (bP true) := fun σ F H e so sl Q k => h σ F H e so sl _ fun x F1 H1 g ⟨a, vs, ex, _⟩ => by
  subst ex
  exact k _ F1 H1 g rfl
theorem ev_chain {r r' : R2} {tc : TE} {a b : Bool} (ha : EvP W ta env P1) (hb : EvP W tb env P2) (hc : EvP W tc env P3) (h1 : Op2 W.S r P1 P2 (bP a)) (h2 : Op2 W.S r' P2 P3 (bP b))
    (hd : tChain r r' ta tb tc = fun σ H Q => ta σ H fun x H1 => tb σ H1 fun y H2 => r x y H2 fun z H3 => ∃ k, z = .bl k ∧ if k = true then tc σ H3 fun u H4 => r' y u H4 Q else Q (.bl false) H3 := by rfl) :
    EvP W (tChain r r' ta tb tc) env (bP (a && b)) := by
  rw [hd]
  exact fun σ F H e so sl Q k => ha σ F H e so sl _ fun x F1 H1 g1 q1 => hb σ F1 H1 g1.eh (so.go g1) (sl.go g1) _ fun y F2 H2 g2 q2 => h1 F2 H2 x y g2.eh (P1.m _ _ _ g2.fe q1) q2 _ fun z F3 H3 g3 q3 => ⟨a, q3, by
    cases a with
    | true =>
      rw [if_pos rfl]
      have G := (g1.trans g2).trans g3
      exact hc σ F3 H3 g3.eh (so.go G) (sl.go G) _ fun u F4 H4 g4 q4 => h2 F4 H4 y u g4.eh (P2.m _ _ _ (g3.trans g4).fe q2) q4 Q fun v F5 H5 g5 q5 => k v F5 H5 ((G.trans g4).trans g5) q5
    | false =>
      rw [if_neg Bool.false_ne_true]
      exact k _ F3 H3 ((g1.trans g2).trans g3) rfl⟩

/-! ### arguments, displays, calls -/
def EvAs (W : Wd) (ta : TA) (env : List Sv) (Ps : List MVP) : Prop := ∀ σ F H, Ex F H → SOk W.S F H → Slots W F H σ env → ∀ Q : List V → Hp → Prop, (∀ vs F' H', Go W.S F H F' H' → All F' vs Ps → Q vs H') → ta σ H Q
theorem as_nil : EvAs W tNil env [] := fun σ F H e so sl Q k => k [] F H (Go.refl e) .nil
theorem as_cons (h : EvP W te env P) (hr : EvAs W tr env Ps) : EvAs W (tCons te tr) env (P :: Ps) := fun σ F H e so sl Q k => h σ F H e so sl _ fun x F1 H1 g1 q1 => hr σ F1 H1 g1.eh (so.go g1) (sl.go g1) _ fun vs F2 H2 g2 q2 =>
  k (x :: vs) F2 H2 (g1.trans g2) (.cons (P.m _ _ _ g2.fe q1) q2)
theorem argOk_m {F F' : Hp} (e : Ex F F') {v : V} {s : Sv} (h : ArgOk S F v s) : ArgOk S F' v s := by
  cases s with
  | fz P => exact P.m _ _ _ e h
  | sh G => exact h
  | no => exact h
  | ow G => exact h
theorem ea_nil : EvA W tNil env [] := fun σ F H e so sl Q k => k [] F H (Go.refl e) .nil
theorem ea_cons {svs : List Sv} (h : EvP W te env P) (hr : EvA W tr env svs) : EvA W (tCons te tr) env (.fz P :: svs) := fun σ F H e so sl Q k => h σ F H e so sl _ fun x F1 H1 g1 q1 => hr σ F1 H1 g1.eh (so.go g1) (sl.go g1) _ fun vs F2 H2 g2 q2 =>
  k (x :: vs) F2 H2 (g1.trans g2) (.cons (P.m _ _ _ g2.fe q1) q2)
theorem ea_sh {svs : List Sv} {i : Nat} {G : MOP} (h : env[i]? = some (.sh G)) (hr : EvA W tr env svs) : EvA W (tCons (tVar i) tr) env (.sh G :: svs) := fun σ F H e so sl Q k => by
  obtain ⟨x, hx, p, ex, q⟩ := sl.ok i _ h
  exact ⟨.ref p, by rw [hx, ex], hr σ F H e so sl _ fun vs F2 H2 g2 q2 => k (.ref p :: vs) F2 H2 g2 (.cons ⟨p, rfl, q⟩ q2)⟩
theorem ev_tup (h : EvAs W tr env Ps) (hl : Ps.length ≤ 1000 := by decide) : EvP W (tTup tr) env (tP Ps) := fun σ F H e so sl Q k => h σ F H e so sl _ fun vs F1 H1 g q =>
  ⟨sz (by have := all_len q; omega), fun p hp => k (.ref p) _ _ (g.trans (Go.fresh g.eh hp)) ⟨p, vs, rfl, upd_same, pair_mono (Ex.new (g.eh.nn hp)) q⟩⟩
theorem ef_lst (h : EvAs W tr env Ps) (hl : Ps.length ≤ 1000 := by decide) : EvF W (tLst tr) env Ps := fun σ F H e so sl Q k => h σ F H e so sl _ fun vs F1 H1 g q =>
  ⟨sz (by have := all_len q; omega), fun p hp => k p vs F1 _ (g.trans (Go.own g.eh hp)) (g.nn hp) (g.eh.nn hp) upd_same q⟩
theorem ev_frz (h : EvF W te env Ps) : EvP W te env (lP Ps) := fun σ F H e so sl Q k => h σ F H e so sl _ fun p vs F1 H1 g n1 n2 hh q =>
  k (.ref p) _ H1 (g.frz n1 n2 hh) ⟨p, vs, rfl, upd_same, pair_mono (Ex.new n2) q⟩
def Call1 (S : Shr) (r : List V → Hp → VK → Prop) (P1 P3 : MVP) : Prop := ∀ F H x, Ex F H → P1.P F x → ∀ Q : VK, (∀ v F' H', Go S F H F' H' → P3.P F' v → Q v H') → r [x] H Q
def Call1F (S : Shr) (r : List V → Hp → VK → Prop) (P1 : MVP) (Ps : List MVP) : Prop := ∀ F H x, Ex F H → P1.P F x → ∀ Q : VK, (∀ p vs F' H', Go S F H F' H' → H p = none → F' p = none → H' p = some (.lst vs) → All F' vs Ps → Q (.ref p) H') → r [x] H Q
def Call2 (S : Shr) (r : List V → Hp → VK → Prop) (P1 P2 P3 : MVP) : Prop := ∀ F H x y, Ex F H → P1.P F x → P2.P F y → ∀ Q : VK, (∀ v F' H', Go S F H F' H' → P3.P F' v → Q v H') → r [x, y] H Q
theorem ev_call1 {r : List V → Hp → VK → Prop} (ha : EvP W ta env P1) (h : Call1 W.S r P1 P3) : EvP W (tCB r (tCons ta tNil)) env P3 := fun σ F H e so sl Q k =>
  ha σ F H e so sl _ fun x F1 H1 g1 q1 => h F1 H1 x g1.eh q1 Q fun v F3 H3 g3 q3 => k v F3 H3 (g1.trans g3) q3
theorem ef_call1 {r : List V → Hp → VK → Prop} (ha : EvP W ta env P1) (h : Call1F W.S r P1 Ps) : EvF W (tCB r (tCons ta tNil)) env Ps := fun σ F H e so sl Q k =>
  ha σ F H e so sl _ fun x F1 H1 g1 q1 => h F1 H1 x g1.eh q1 Q fun p vs F3 H3 g3 n1 n2 hh q3 => k p vs F3 H3 (g1.trans g3) (g1.nn n1) n2 hh q3
theorem ev_call2 {r : List V → Hp → VK → Prop} (ha : EvP W ta env P1) (hb : EvP W tb env P2) (h : Call2 W.S r P1 P2 P3) : EvP W (tCB r (tCons ta (tCons tb tNil))) env P3 := fun σ F H e so sl Q k =>
  ha σ F H e so sl _ fun x F1 H1 g1 q1 => hb σ F1 H1 g1.eh (so.go g1) (sl.go g1) _ fun y F2 H2 g2 q2 => h F2 H2 x y g2.eh (P1.m _ _ _ g2.fe q1) q2 Q fun v F3 H3 g3 q3 => k v F3 H3 ((g1.trans g2).trans g3) q3
/-- the promise of a def -/
abbrev Pre := List Sv → MVP → Prop
def SpX (pre : Pre) : Sp := fun vs H Q _ => ∃ (S : Shr) (F : Hp) (svs : List Sv) (post : MVP), SOk S F H ∧ Ex F H ∧ ArgsOk S F vs svs ∧ pre svs post ∧ ∀ v F' H', Go S F H F' H' → post.P F' v → Q v H'
theorem ev_call {pre : Pre} {E : XK} {svs : List Sv} {post : MVP} (ha : EvA W tr env svs) (h : pre svs post) : EvP W (tCall (SpX pre) [] E tr) env post := fun σ F H e so sl Q k =>
  ha σ F H e so sl _ fun vs F1 H1 g1 q1 => by
    show SpX pre (vs ++ []) H1 Q E
    rw [List.append_nil]
    exact ⟨W.S, F1, svs, post, so.go g1, g1.eh, q1, h, fun v F2 H2 g2 q2 => k v F2 H2 (g1.trans g2) q2⟩

/-! ### built-ins -/
def rLenQ (K : PySem.W.Frag) : List V → Hp → VK → Prop := fun xs H Q => ∃ p ys, xs = [.ref p] ∧ (SqL K H p ys ∨ SqT K H p ys) ∧ Q (.int ys.length) H
theorem c_len {X : Cx} : CallR X (.builtin "len") (rLenQ X.K) := call_len_seq
theorem c1_lenL : Call1 S (rLenQ K) (lP Ps) (iP Ps.length) := fun F H x e ⟨a, vs, ex, h1, h2⟩ Q k => ⟨a, vs, by rw [ex], .inl (.of (e _ _ h1)), k _ F H (Go.refl e) (by rw [all_len h2]; rfl)⟩
theorem c1_lenT : Call1 S (rLenQ K) (tP Ps) (iP Ps.length) := fun F H x e ⟨a, vs, ex, h1, h2⟩ Q k => ⟨a, vs, by rw [ex], .inr (.of (e _ _ h1)), k _ F H (Go.refl e) (by rw [all_len h2]; rfl)⟩
def rTupQ (K : PySem.W.Frag) : List V → Hp → VK → Prop := fun xs H Q => ∃ p ys, xs = [.ref p] ∧ ((SqL K H p ys ∧ ∀ l, H l = none → Q (.ref l) (upd H l (.tup ys))) ∨ (SqT K H p ys ∧ Q (.ref p) H))
theorem c_tuple {X : Cx} : CallR X (.type "tuple") (rTupQ X.K) := call_tuple_of
theorem c1_tuple : Call1 S (rTupQ K) (lP Ps) (tP Ps) := fun F H x e ⟨a, vs, ex, h1, h2⟩ Q k => ⟨a, vs, by rw [ex], .inl ⟨.of (e _ _ h1), fun l hl => k (.ref l) _ _ (Go.fresh e hl) ⟨l, vs, rfl, upd_same, pair_mono (Ex.new (e.nn hl)) h2⟩⟩⟩
def rLstQ (K : PySem.W.Frag) : List V → Hp → VK → Prop := fun xs H Q => ∃ p ys, xs = [.ref p] ∧ (SqL K H p ys ∨ SqT K H p ys) ∧ ∀ l, H l = none → Q (.ref l) (upd H l (.lst ys))
theorem c_list {X : Cx} : CallR X (.type "list") (rLstQ X.K) := call_list_of
theorem c1_listT : Call1F S (rLstQ K) (tP Ps) Ps := fun F H x e ⟨a, vs, ex, h1, h2⟩ Q k => ⟨a, vs, by rw [ex], .inr (.of (e _ _ h1)), fun l hl => k l vs F _ (Go.own e hl) hl (e.nn hl) upd_same h2⟩
theorem c1_listL : Call1F S (rLstQ K) (lP Ps) Ps := fun F H x e ⟨a, vs, ex, h1, h2⟩ Q k => ⟨a, vs, by rw [ex], .inl (.of (e _ _ h1)), fun l hl => k l vs F _ (Go.own e hl) hl (e.nn hl) upd_same h2⟩
theorem all_ints {F : Hp} {vs : List V} {ns : List Int} (h : All F vs (ns.map iP)) : vs = ns.map V.int := all_sP (by rw [List.map_map]; exact h)
theorem all_bls {F : Hp} {vs : List V} {ns : List Bool} (h : All F vs (ns.map bP)) : vs = ns.map V.bl := all_sP (by rw [List.map_map]; exact h)
theorem c1_sum {ns : List Int} : Call1 S (rSum K) (lP (ns.map iP)) (iP ns.sum) := fun F H x e ⟨a, vs, ex, h1, h2⟩ Q k => by
  have e1 := all_ints h2
  subst e1
  exact ⟨a, ns, by rw [ex], .of (e _ _ h1), k _ F H (Go.refl e) rfl⟩
theorem c1_all {bs : List Bool} : Call1 S (rAll K) (lP (bs.map bP)) (bP (bs.all id)) := fun F H x e ⟨a, vs, ex, h1, h2⟩ Q k => by
  have e1 := all_bls h2
  subst e1
  exact ⟨a, bs, by rw [ex], .of (e _ _ h1), k _ F H (Go.refl e) rfl⟩
theorem c1_any {bs : List Bool} : Call1 S (rAny K) (lP (bs.map bP)) (bP (bs.any id)) := fun F H x e ⟨a, vs, ex, h1, h2⟩ Q k => by
  have e1 := all_bls h2
  subst e1
  exact ⟨a, bs, by rw [ex], .of (e _ _ h1), k _ F H (Go.refl e) rfl⟩
theorem c1_max {ns : List Int} {m : Int} (hm : m ∈ ns) (hx : ∀ y ∈ ns, y ≤ m) : Call1 S (rMax K) (lP (ns.map iP)) (iP m) := fun F H x e ⟨a, vs, ex, h1, h2⟩ Q k => by
  have e1 := all_ints h2
  subst e1
  refine ⟨a, ns, by rw [ex], .of (e _ _ h1), List.length_pos_of_mem hm, fun m' h3 h4 => ?_⟩
  have e2 : m' = m := Int.le_antisymm (hx m' h3) (h4 m hm)
  subst e2
  exact k _ F H (Go.refl e) rfl
theorem perm_sorted_eq {ns ms : List Int} (p : ns.Perm ms) (h1 : ns.Pairwise (· ≤ ·)) (h2 : ms.Pairwise (· ≤ ·)) : ns = ms := p.eq_of_pairwise (fun _ _ _ _ => Int.le_antisymm) h1 h2
theorem c1_sorted {ns ms : List Int} (hl : ns.length < 64) (p : ms.Perm ns) (hs : ms.Pairwise (· ≤ ·)) : Call1F S (rSorted K) (lP (ns.map iP)) (ms.map iP) := fun F H x e ⟨a, vs, ex, h1, h2⟩ Q k => by
  have e1 := all_ints h2
  subst e1
  refine ⟨a, ns, by rw [ex], .of (e _ _ h1), hl, fun ns' q h3 h4 h5 => ?_⟩
  have e2 : ns' = ms := perm_sorted_eq (h3.trans p.symm) h4 hs
  subst e2
  refine k q (ns'.map V.int) F _ (Go.own e h5) h5 (e.nn h5) upd_same ?_
  have := all_sP' (F := F) (ns'.map V.int)
  rw [List.map_map] at this
  exact this
def rMax2 : List V → Hp → VK → Prop := fun xs H Q => ∃ i j, xs = [.int i, .int j] ∧ Q (.int (if j > i then j else i)) H
def rMin2 : List V → Hp → VK → Prop := fun xs H Q => ∃ i j, xs = [.int i, .int j] ∧ Q (.int (if j < i then j else i)) H
theorem c_max2 {X : Cx} (hc : X.calm = true) : CallR X (.builtin "max") rMax2 := call_max2 hc
theorem c_min2 {X : Cx} (hc : X.calm = true) : CallR X (.builtin "min") rMin2 := call_min2 hc
theorem c2_max {i j : Int} : Call2 S rMax2 (iP i) (iP j) (iP (max i j)) := fun F H x y e hx hy Q k => ⟨i, j, by rw [show x = .int i from hx, show y = .int j from hy], k _ F H (Go.refl e) (by
  show V.int _ = V.int _
  congr 1
  split <;> omega)⟩
theorem c2_min {i j : Int} : Call2 S rMin2 (iP i) (iP j) (iP (min i j)) := fun F H x y e hx hy Q k => ⟨i, j, by rw [show x = .int i from hx, show y = .int j from hy], k _ F H (Go.refl e) (by
  show V.int _ = V.int _
  congr 1
  split <;> omega)⟩
def rInt1 : List V → Hp → VK → Prop := fun xs H Q => (∃ i, xs = [.int i] ∧ Q (.int i) H) ∨ ∃ k, xs = [.bl k] ∧ Q (.int (if k then 1 else 0)) H
theorem c_int {X : Cx} : CallR X (.type "int") rInt1 := call_int1
theorem c1_int {i : Int} : Call1 S rInt1 (iP i) (iP i) := fun F H x e hx Q k => .inl ⟨i, by rw [show x = .int i from hx], k _ F H (Go.refl e) rfl⟩
theorem c1_intB {b : Bool} : Call1 S rInt1 (bP b) (iP (if b then 1 else 0)) := fun F H x e hx Q k => .inr ⟨b, by rw [show x = .bl b from hx], k _ F H (Go.refl e) rfl⟩
def rAbs : List V → Hp → VK → Prop := fun xs H Q => ∃ i, xs = [.int i] ∧ Q (.int (if i < 0 then -i else i)) H
theorem c_abs {X : Cx} : CallR X (.builtin "abs") rAbs := call_abs
theorem c1_abs {i : Int} : Call1 S rAbs (iP i) (iP (i.natAbs : Int)) := fun F H x e hx Q k => ⟨i, by rw [show x = .int i from hx], k _ F H (Go.refl e) (by
  show V.int _ = V.int _
  congr 1
  split <;> omega)⟩
/-- isinstance -/
theorem c2_isi {P1 : MVP} {t n : String} {b : Bool} (ht : ∀ F H x, Ex F H → P1.P F x → TyX K H x (.type t)) (h : kitB t n = some b) : Call2 S (rIsi K) P1 (sP (.ty n)) (bP b) := fun F H x y e hx hy Q k =>
  ⟨x, .ty n, .type t, .type n, b, by rw [show y = .ty n from hy], .ty n, ht F H x e hx, kit_ty h, k _ F H (Go.refl e) rfl⟩
theorem ty_int {i : Int} : ∀ F H x, Ex F H → (iP i).P F x → TyX K H x (.type "int") := fun F H x e hx => by
  rw [show x = .int i from hx]
  exact .base (.int i)
theorem ty_bl {i : Bool} : ∀ F H x, Ex F H → (bP i).P F x → TyX K H x (.type "bool") := fun F H x e hx => by
  rw [show x = .bl i from hx]
  exact .base (.bl i)
theorem ty_tup : ∀ F H x, Ex F H → (tP Ps).P F x → TyX K H x (.type "tuple") := fun F H x e ⟨a, vs, ex, h1, _⟩ => by
  rw [ex]
  exact .base (.tup (e _ _ h1))

/-! ### items, slices, joins -/
theorem atI_all {F : Hp} {vs : List V} {k : Int} {P : MVP} (h : All F vs Ps) (e : atI Ps k = some P) : ∃ v, atI vs k = some v ∧ P.P F v := by
  unfold atI at e ⊢
  rw [all_len h]
  cases q : ixN Ps.length k with
  | none =>
    rw [q] at e
    cases e
  | some j =>
    rw [q] at e
    exact all_get h e
theorem o_ixL {k : Int} (h : atI Ps k = some P) : Op2 S (rIxL K) (lP Ps) (iP k) P := fun F H x y e ⟨a, vs, ex, h1, h2⟩ hy Q c => by
  obtain ⟨v, e1, e2⟩ := atI_all h2 h
  exact ⟨a, vs, k, v, ex, hy, .of (e _ _ h1), e1, c v F H (Go.refl e) e2⟩
theorem o_ixT {k : Int} (h : atI Ps k = some P) : Op2 S (rIxT K) (tP Ps) (iP k) P := fun F H x y e ⟨a, vs, ex, h1, h2⟩ hy Q c => by
  obtain ⟨v, e1, e2⟩ := atI_all h2 h
  exact ⟨a, vs, k, v, ex, hy, .of (e _ _ h1), e1, c v F H (Go.refl e) e2⟩
theorem atI_map {α β : Type} {f : α → β} {xs : List α} {n : Nat} {x : α} (h : xs[n]? = some x) : atI (xs.map f) (n : Int) = some (f x) := atI_nat (by rw [List.getElem?_map, h]; rfl)
def cutA {α : Type} (xs : List α) (lo hi : Option Int) : List α := (xs.drop (HT.sIx xs.length 0 lo)).take (HT.sIx xs.length xs.length hi - HT.sIx xs.length 0 lo)
theorem all_cut {F : Hp} {vs : List V} {lo hi : Option Int} (h : All F vs Ps) : All F (cutV vs lo hi) (cutA Ps lo hi) := by
  unfold cutV cutA
  rw [all_len h]
  exact all_take _ (all_drop _ h)
theorem cutA_map {α β : Type} (f : α → β) (xs : List α) (lo hi : Option Int) : cutA (xs.map f) lo hi = (cutA xs lo hi).map f := by
  unfold cutA
  rw [List.map_take, List.map_drop, List.length_map]
theorem cutA_to {α : Type} (xs : List α) (n : Nat) : cutA xs none (some (n : Int)) = xs.take n := by
  unfold cutA
  rw [HT.sIx_none, HT.sIx_nat, List.drop_zero, Nat.sub_zero]
  by_cases h : n ≤ xs.length
  · rw [Nat.min_eq_left h]
  · rw [Nat.min_eq_right (by omega), List.take_of_length_le (Nat.le_refl _), List.take_of_length_le (by omega)]
theorem cutA_from {α : Type} (xs : List α) (n : Nat) : cutA xs (some (n : Int)) none = xs.drop n := by
  unfold cutA
  rw [HT.sIx_none, HT.sIx_nat]
  by_cases h : n ≤ xs.length
  · rw [Nat.min_eq_left h, List.take_of_length_le (by rw [List.length_drop]; omega)]
  · rw [Nat.min_eq_right (by omega), Nat.sub_self, List.take_zero, List.drop_eq_nil_of_le (by omega)]
def EvO (W : Wd) (to : TO) (env : List Sv) (o : Option Int) : Prop := ∀ σ F H, Ex F H → SOk W.S F H → Slots W F H σ env → ∀ Q : Option Int → Hp → Prop, (∀ F' H', Go W.S F H F' H' → Q o H') → to σ H Q
theorem eo_none : EvO W tNoPart env none := fun σ F H e so sl Q k => k F H (Go.refl e)
theorem eo_some {i : Int} (h : EvP W te env (iP i)) : EvO W (tPart te) env (some i) := fun σ F H e so sl Q k => h σ F H e so sl _ fun x F1 H1 g q => ⟨i, q, k F1 H1 g⟩
theorem ef_slice {tl th : TO} {lo hi : Option Int} (h : EvP W te env (lP Ps)) (hl : EvO W tl env lo) (hh : EvO W th env hi) : EvF W (tSl (rSlL K) te tl th) env (cutA Ps lo hi) := fun σ F H e so sl Q k =>
  h σ F H e so sl _ fun x F1 H1 g1 q1 => hl σ F1 H1 g1.eh (so.go g1) (sl.go g1) _ fun F2 H2 g2 => hh σ F2 H2 g2.eh (so.go (g1.trans g2)) (sl.go (g1.trans g2)) _ fun F3 H3 g3 => by
    obtain ⟨a, vs, ex, h1, h2⟩ := (lP Ps).m _ _ _ (g2.trans g3).fe q1
    exact ⟨a, vs, ex, .of (g3.eh _ _ h1), fun p hp => k p _ F3 _ (((g1.trans g2).trans g3).trans (Go.own g3.eh hp)) (((g1.trans g2).trans g3).nn hp) (g3.eh.nn hp) upd_same (all_cut h2)⟩
theorem cutA_whole {α : Type} {xs : List α} {lo hi : Option Int} (h : HT.sIx xs.length 0 lo = 0 ∧ HT.sIx xs.length xs.length hi = xs.length) : cutA xs lo hi = xs := by
  unfold cutA
  rw [h.1, h.2, List.drop_zero, Nat.sub_zero, List.take_of_length_le (Nat.le_refl _)]
theorem ev_sliceT {tl th : TO} {lo hi : Option Int} (h : EvP W te env (tP Ps)) (hl : EvO W tl env lo) (hh : EvO W th env hi) : EvP W (tSl (rSlA K) te tl th) env (tP (cutA Ps lo hi)) := fun σ F H e so sl Q k =>
  h σ F H e so sl _ fun x F1 H1 g1 q1 => hl σ F1 H1 g1.eh (so.go g1) (sl.go g1) _ fun F2 H2 g2 => hh σ F2 H2 g2.eh (so.go (g1.trans g2)) (sl.go (g1.trans g2)) _ fun F3 H3 g3 => by
    have G := (g1.trans g2).trans g3
    obtain ⟨a, vs, ex, h1, h2⟩ := (tP Ps).m _ _ _ (g2.trans g3).fe q1
    refine ⟨a, vs, ex, .of (g3.eh _ _ h1), fun hw => ?_, fun _ p hp => ?_⟩
    · refine k (.ref a) F3 H3 G ⟨a, vs, rfl, h1, ?_⟩
      rw [all_len h2] at hw
      rw [cutA_whole hw]
      exact h2
    · exact k (.ref p) _ _ (G.trans (Go.fresh g3.eh hp)) ⟨p, _, rfl, upd_same, pair_mono (Ex.new (g3.eh.nn hp)) (all_cut h2)⟩
theorem o_catL (hl : Ps.length + Qs.length ≤ 1000000) : Op2F S rCat (lP Ps) (lP Qs) (Ps ++ Qs) := fun F H x y e ⟨a, vs, ex, h1, h2⟩ ⟨b, ws, ey, h3, h4⟩ Q k =>
  ⟨a, b, vs, ws, ex, ey, e _ _ h1, e _ _ h3, sz (by have := all_len h2; have := all_len h4; omega), fun p hp => k p _ F _ (Go.own e hp) hp (e.nn hp) upd_same (all_app h2 h4)⟩
theorem o_catT (hl : Ps.length + Qs.length ≤ 1000000) : Op2 S (rCatA K) (tP Ps) (tP Qs) (tP (Ps ++ Qs)) := fun F H x y e ⟨a, vs, ex, h1, h2⟩ ⟨b, ws, ey, h3, h4⟩ Q k => by
  refine ⟨a, b, vs, ws, ex, ey, .of (e _ _ h1), .of (e _ _ h3), sz (by have := all_len h2; have := all_len h4; omega), fun z => ?_, fun z1 z2 => ?_, fun z1 z2 p hp => ?_⟩
  · subst z
    cases h2
    exact k (.ref b) F H (Go.refl e) ⟨b, ws, rfl, h3, h4⟩
  · subst z2
    cases h4
    exact k (.ref a) F H (Go.refl e) ⟨a, vs, rfl, h1, by rw [List.append_nil]; exact h2⟩
  · exact k (.ref p) _ _ (Go.fresh e hp) ⟨p, _, rfl, upd_same, pair_mono (Ex.new (e.nn hp)) (all_app h2 h4)⟩
theorem o_repL {n : Nat} (hl : Ps.length * n ≤ 1000000) (hn : n ≤ 1000000) : Op2F S rRep (lP Ps) (iP n) (List.replicate n Ps).flatten := fun F H x y e ⟨a, vs, ex, h1, h2⟩ hy Q k =>
  ⟨a, n, vs, ex, hy, e _ _ h1, by omega, by omega, sz (by rw [all_len h2]; exact hl), fun p hp => k p _ F _ (Go.own e hp) hp (e.nn hp) upd_same (all_rep h2 n)⟩
end
end Ly
namespace Ly
open PySem L2
section
variable {K : PySem.W.Frag} {W : Wd} {S : Shr} {env env' env2 : List Sv} {P P1 P2 P3 : MVP} {ta tb te ti : TE} {tr : TA} {tt : TT} {Ps Qs : List MVP} {js js' : List Nat}

/-! ### targets -/
theorem tg_name {j : Nat} : Tgt W (gName j) P env (env.set j (.fz P)) [j] := fun σ F H v e sl q Q k =>
  k _ (sl.setF j q) (by rw [List.length_set]) fun i hi => List.getElem?_set_ne (by simpa using fun z : j = i => hi (by simp [z]))
theorem tgs_nil : TgtS W gNil [] env env [] := fun σ F H vs e sl q Q k => by
  cases q
  exact ⟨rfl, k σ sl rfl fun _ _ => rfl⟩
theorem tgs_cons {t : TG} {u : TGs} (h1 : Tgt W t P env env' js) (h2 : TgtS W u Ps env' env2 js') : TgtS W (gCons t u) (P :: Ps) env env2 (js ++ js') := fun σ F H vs e sl q Q k => by
  cases q with
  | cons q qs =>
    refine ⟨_, _, rfl, h1 σ F H _ e sl q _ fun σ1 sl1 l1 n1 => h2 σ1 F H _ e sl1 qs _ fun σ2 sl2 l2 n2 => k σ2 sl2 (l2.trans l1) fun j hj => ?_⟩
    rw [List.mem_append] at hj
    rw [n2 j fun z => hj (.inr z), n1 j fun z => hj (.inl z)]
theorem tg_tup {n : Nat} {t : TGs} (h : TgtS W t Ps env env' js) (hn : Ps.length = n := by rfl) : Tgt W (gTup K n t) (tP Ps) env env' js := fun σ F H v e sl ⟨a, vs, ev, h1, h2⟩ Q k =>
  ⟨a, vs, ev, .of (e _ _ h1), (all_len h2).trans hn, h σ F H vs e sl h2 Q k⟩
theorem tg_unl {n : Nat} {t : TGs} (h : TgtS W t Ps env env' js) (hn : Ps.length = n := by rfl) : Tgt W (gUnl K n t) (lP Ps) env env' js := fun σ F H v e sl ⟨a, vs, ev, h1, h2⟩ Q k =>
  ⟨a, vs, ev, .of (e _ _ h1), (all_len h2).trans hn, h σ F H vs e sl h2 Q k⟩

/-! ### what is walked -/
theorem ei_list (h : EvP W te env (lP Ps)) : EvI W (iList K te) env Ps := fun σ F H e so sl R k => h σ F H e so sl _ fun v F1 H1 g ⟨a, vs, ev, h1, h2⟩ =>
  ⟨a, ev, ⟨vs, .of (g.eh _ _ h1)⟩, k _ F1 H1 g ⟨fun i P F2 H2 hP e1 e2 => by
    obtain ⟨v, hv, q⟩ := all_get h2 hP
    exact ⟨⟨vs, v, .of (e2 _ _ (e1 _ _ h1)), hv⟩, fun x H' ⟨e3, y⟩ => by
      subst e3
      have e4 := y vs (.of (e2 _ _ (e1 _ _ h1)))
      rw [hv] at e4
      cases e4
      exact ⟨F2, Go.refl e2, P.m _ _ _ e1 q⟩⟩, fun H2 e1 => ⟨vs, .of (e1 _ _ h1), by rw [all_len h2]; exact Nat.le_refl _⟩⟩⟩
theorem ei_tup (h : EvP W te env (tP Ps)) : EvI W (iTup K te) env Ps := fun σ F H e so sl R k => h σ F H e so sl _ fun v F1 H1 g ⟨a, vs, ev, h1, h2⟩ =>
  ⟨a, ev, ⟨vs, .of (g.eh _ _ h1)⟩, k _ F1 H1 g ⟨fun i P F2 H2 hP e1 e2 => by
    obtain ⟨v, hv, q⟩ := all_get h2 hP
    exact ⟨⟨vs, v, .of (e2 _ _ (e1 _ _ h1)), hv⟩, fun x H' ⟨e3, y⟩ => by
      subst e3
      have e4 := y vs (.of (e2 _ _ (e1 _ _ h1)))
      rw [hv] at e4
      cases e4
      exact ⟨F2, Go.refl e2, P.m _ _ _ e1 q⟩⟩, fun H2 e1 => ⟨vs, .of (e1 _ _ h1), by rw [all_len h2]; exact Nat.le_refl _⟩⟩⟩
def rngP (lo : Int) (n : Nat) : List MVP := (List.range n).map fun i : Nat => iP (lo + (i : Int))
theorem iter_rng {lo : Int} {n : Nat} {F : Hp} : Iter S (Itr lo n) F (rngP lo n) := ⟨fun i P F2 H2 hP e1 e2 => by
    unfold rngP at hP
    rw [List.getElem?_map] at hP
    cases q : (List.range n)[i]? with
    | none =>
      rw [q] at hP
      cases hP
    | some j =>
      rw [q] at hP
      have hi : i < n := by
        have := (List.getElem?_eq_some_iff.mp q).1
        rwa [List.length_range] at this
      have ej : j = i := by
        rw [List.getElem?_range hi] at q
        exact (Option.some.inj q).symm
      subst ej
      have e3 : iP (lo + (j : Int)) = P := Option.some.inj hP
      subst e3
      exact ⟨hi, fun x H' ⟨e3, y⟩ => by
        subst e3
        exact ⟨F2, Go.refl e2, y⟩⟩, fun H2 _ => by
    show n ≤ (rngP lo n).length
    unfold rngP
    rw [List.length_map, List.length_range]
    exact Nat.le_refl _⟩
theorem ei_rng1 {n : Int} (h : EvAs W tr env [iP n]) (hn : -1000000 ≤ n ∧ n ≤ 1000000) : EvI W (iRng1 tr) env (rngP 0 n.toNat) := fun σ F H e so sl R k => h σ F H e so sl _ fun vs F1 H1 g q => by
  cases q with
  | cons q1 q =>
    cases q
    exact ⟨n, by rw [show _ = V.int n from q1], by omega, by omega, k _ F1 H1 g iter_rng⟩
theorem ei_rng2 {lo n : Int} (h : EvAs W tr env [iP lo, iP n]) (hl : -1000000 ≤ lo ∧ lo ≤ 1000000) (hn : -1000000 ≤ n ∧ n ≤ 1000000) : EvI W (iRng2 tr) env (rngP lo (n - lo).toNat) := fun σ F H e so sl R k => h σ F H e so sl _ fun vs F1 H1 g q => by
  cases q with
  | cons q1 q =>
    cases q with
    | cons q2 q =>
      cases q
      exact ⟨lo, n, by rw [show _ = V.int lo from q1, show _ = V.int n from q2], by omega, k _ F1 H1 g iter_rng⟩
theorem ei_is (h : EvI W wi env Ps) (e : Ps = Qs) : EvI W wi env Qs := by
  rw [← e]
  exact h

/-! ### comprehensions -/
def wipeE (env : List Sv) : List Nat → List Sv
  | [] => env
  | v :: vs => (wipeE env vs).set v .no
theorem slots_wipe {F H : Hp} {σ : L2.St} (h : Slots W F H σ env) : ∀ vs : List Nat, Slots W F H (wipe σ vs) (wipeE env vs)
  | [] => h
  | v :: vs => by
    unfold wipe wipeE
    exact (slots_wipe h vs).set v (s := .no) True.intro fun z => nomatch z
theorem wipe_get {σ : L2.St} {i : Nat} : ∀ {vs : List Nat}, (wipe σ vs)[i]? = if i ∈ vs ∧ i < σ.length then some none else σ[i]?
  | [] => by
    unfold wipe
    simp
  | v :: vs => by
    unfold wipe
    rw [List.getElem?_set]
    by_cases h : v = i
    · subst h
      rw [if_pos rfl, wipe_length]
      by_cases hl : v < σ.length
      · rw [if_pos hl, if_pos ⟨List.mem_cons_self, hl⟩]
      · rw [if_neg hl, if_neg (fun z => hl z.2), List.getElem?_eq_none (by omega)]
    · rw [if_neg h, wipe_get]
      by_cases h2 : i ∈ vs ∧ i < σ.length
      · rw [if_pos h2, if_pos ⟨List.mem_cons_of_mem _ h2.1, h2.2⟩]
      · rw [if_neg h2, if_neg fun z => h2 ⟨(List.mem_cons.mp z.1).resolve_left fun e => h e.symm, z.2⟩]
theorem wipe_eq {σ σ' : L2.St} {vs : List Nat} (hl : σ'.length = σ.length) (h : ∀ j, j ∉ vs → σ'[j]? = σ[j]?) : wipe σ' vs = wipe σ vs := by
  refine List.ext_getElem? fun i => ?_
  rw [wipe_get, wipe_get, hl]
  by_cases hi : i ∈ vs
  · by_cases h2 : i < σ.length
    · rw [if_pos ⟨hi, h2⟩, if_pos ⟨hi, h2⟩]
    · rw [if_neg fun z => h2 z.2, if_neg fun z => h2 z.2, List.getElem?_eq_none (by omega), List.getElem?_eq_none (by omega)]
  · rw [if_neg fun z => hi z.1, if_neg fun z => hi z.1]
    exact h i hi
theorem wipe_wipe (σ : L2.St) (vs : List Nat) : wipe (wipe σ vs) vs = wipe σ vs := by
  refine List.ext_getElem? fun i => ?_
  rw [wipe_get, wipe_get, wipe_length]
  split <;> rfl
/-- a new list, one of some -/
def EvFC (W : Wd) (te : TE) (env : List Sv) (C : List MVP → Prop) : Prop := ∀ σ F H, Ex F H → SOk W.S F H → Slots W F H σ env → ∀ Q : VK,
  (∀ p vs F' H' Ps, C Ps → Go W.S F H F' H' → H p = none → F' p = none → H' p = some (.lst vs) → All F' vs Ps → Q (.ref p) H') → te σ H Q
theorem ef_of {C : List MVP → Prop} (h : EvFC W te env C) (e : ∀ Qs, C Qs → Qs = Ps) : EvF W te env Ps := fun σ F H ex so sl Q k => h σ F H ex so sl Q fun p vs F1 H1 Qs c g n1 n2 hh q => by
  have e1 := e Qs c
  subst e1
  exact k p vs F1 H1 g n1 n2 hh q
theorem ev_frzC {C : List MVP → Prop} (h : EvFC W te env C) : EvP W te env (anyP C lP) := fun σ F H ex so sl Q k => h σ F H ex so sl Q fun p vs F1 H1 Qs c g n1 n2 hh q =>
  k (.ref p) _ H1 (g.frz n1 n2 hh) ⟨Qs, c, p, vs, rfl, upd_same, pair_mono (Ex.new n2) q⟩
theorem go_at {F H F' H' : Hp} {D : Addr} {o : HO} (g : Go S F H F' H') (n : S D = none) (h : H D = some o) : H' D = some o := by
  rcases g.ch D o h with h1 | ⟨G, _, e, _, _⟩
  · exact h1
  · rw [n] at e
    cases e
theorem ef_lcC {wi : TI} {g : TG} {vs : List Nat} (Acc : Nat → List MVP → Prop) (hi : EvI W wi env Ps) (hz : Ps.length ≤ 1000000) (h0 : Acc 0 [])
    (hs : ∀ (i : Nat) P rs, Ps[i]? = some P → Acc i rs → ∃ env2 js C, Tgt W g P (wipeE env vs) env2 js ∧ (∀ j ∈ js, j ∈ vs) ∧ EvT W tt env2 C ∧ (C true → ∃ R, EvP W te env2 R ∧ Acc (i + 1) (rs ++ [R])) ∧ (C false → Acc (i + 1) rs)) :
    EvFC W (tLc wi g tt te vs) env (Acc Ps.length) := fun σ F H e so sl Q k => hi σ F H e so sl _ fun J F1 H1 g1 it D hD => by
  have so1 := so.go g1
  have sl1 := sl.go g1
  have nD : W.S D = none := by
    cases q : W.S D with
    | none => rfl
    | some G =>
      obtain ⟨_, o, h2, _⟩ := so1.at_ D G q
      rw [hD] at h2
      cases h2
  refine ⟨fun i m H' => m = Ps.length - i ∧ i ≤ Ps.length ∧ ∃ F' acc rs, Go W.S F1 H1 F' H' ∧ F' D = none ∧ H' D = some (.lst acc) ∧ All F' acc rs ∧ Acc i rs ∧ rs.length ≤ i,
    ⟨Ps.length, by simp, Nat.zero_le _, F1, [], [], Go.own g1.eh hD, g1.eh.nn hD, upd_same, .nil, h0, Nat.le_refl _⟩, ?_⟩
  rintro i m H2 ⟨rfl, hi2, F2, acc, rs, g2, fD, hD2, al, ac, hl⟩
  by_cases hlt : i < Ps.length
  · have hP : Ps[i]? = some Ps[i] := List.getElem?_eq_getElem hlt
    obtain ⟨j1, j2⟩ := it.go i Ps[i] F2 H2 hP g2.fe g2.eh
    refine .inr ⟨j1, fun H' => ∃ F' acc rs, Go W.S F1 H1 F' H' ∧ F' D = none ∧ H' D = some (.lst acc) ∧ All F' acc rs ∧ Acc (i + 1) rs ∧ rs.length ≤ i + 1, fun H' z => ⟨Ps.length - (i + 1), by omega, rfl, hlt, z⟩, fun x H3 y => ?_⟩
    obtain ⟨F3, g3, q3⟩ := j2 x H3 y
    obtain ⟨env2, js, C, tg, hj, ht, hT, hF⟩ := hs i Ps[i] rs hP ac
    have G3 := g2.trans g3
    refine tg (wipe σ vs) F3 H3 x g3.eh (slots_wipe (sl1.go G3) vs) q3 _ fun σ2 sl2 l2 n2 => ⟨?_, ?_⟩
    · rw [← wipe_wipe σ vs]
      exact wipe_eq l2 fun j hjv => n2 j fun z => hjv (hj j z)
    · refine ht σ2 F3 H3 g3.eh (so1.go G3) sl2 _ fun b F4 H4 g4 cb => ?_
      have fD3 : F3 D = none := (g3.nw D (by rw [hD2]; simp)).trans fD
      have hD3 := go_at g3 nD hD2
      have hD4 := go_at g4 nD hD3
      have fD4 : F4 D = none := (g4.nw D (by rw [hD3]; simp)).trans fD3
      cases b with
      | true =>
        rw [if_pos rfl]
        obtain ⟨R, hR, aR⟩ := hT cb
        refine hR σ2 F4 H4 g4.eh (so1.go (G3.trans g4)) (sl2.go g4) _ fun y F5 H5 g5 q5 => ?_
        have hD5 := go_at g5 nD hD4
        have fD5 : F5 D = none := (g5.nw D (by rw [hD4]; simp)).trans fD4
        refine ⟨acc, hD5, szl (by have := all_len al; omega), F5, acc ++ [y], rs ++ [R], ((G3.trans g4).trans g5).wr hD fD5, fD5, upd_same, all_app (pair_mono (g3.trans (g4.trans g5)).fe al) (.cons q5 .nil), aR, ?_⟩
        rw [List.length_append]
        exact Nat.succ_le_succ hl
      | false =>
        rw [if_neg Bool.false_ne_true]
        exact ⟨F4, acc, rs, G3.trans g4, fD4, hD4, pair_mono (g3.trans g4).fe al, hF cb, Nat.le_succ_of_le hl⟩
  · have e1 : i = Ps.length := by omega
    subst e1
    exact .inl ⟨it.stop _ (g2.fe.trans g2.eh), k D acc F2 H2 rs ac (g1.trans g2) (g1.nn hD) fD hD2 al⟩
theorem t_yes : EvT W tYes env (· = true) := fun σ F H e so sl Q k => k true F H (Go.refl e) rfl
/-- kept by p, each as g -/
theorem ef_lcG {α : Type} {xs : List α} {f g' : α → MVP} {p : α → Bool} {wi : TI} {g : TG} {vs : List Nat} (hi : EvI W wi env (xs.map f)) (hz : xs.length ≤ 1000000)
    (hs : ∀ x ∈ xs, ∃ env2 js, Tgt W g (f x) (wipeE env vs) env2 js ∧ (∀ j ∈ js, j ∈ vs) ∧ EvT W tt env2 (· = p x) ∧ (p x = true → EvP W te env2 (g' x))) : EvF W (tLc wi g tt te vs) env ((xs.filter p).map g') := by
  refine ef_of (ef_lcC (fun i rs => rs = ((xs.take i).filter p).map g') hi (by rw [List.length_map]; exact hz) rfl fun i P rs hP ac => ?_) fun Qs c => ?_
  · rw [List.getElem?_map] at hP
    cases q : xs[i]? with
    | none =>
      rw [q] at hP
      cases hP
    | some x =>
      rw [q] at hP
      have e3 : f x = P := Option.some.inj hP
      subst e3
      obtain ⟨env2, js, h1, h2, h3, h4⟩ := hs x (List.mem_of_getElem? q)
      have e4 := PySem.take_succ_filter p xs i x q
      refine ⟨env2, js, (· = p x), h1, h2, h3, fun c => ⟨g' x, h4 c.symm, ?_⟩, fun c => ?_⟩
      · rw [e4, ← c, if_pos rfl, List.map_append, ac]
        rfl
      · rw [e4, ← c, if_neg Bool.false_ne_true, List.append_nil]
        exact ac
  · rw [List.length_map, List.take_length] at c
    exact c
theorem ef_lc {α : Type} {xs : List α} {f g' : α → MVP} {p : α → Bool} {wi : TI} {j : Nat} {vs : List Nat} (hi : EvI W wi env (xs.map f)) (hz : xs.length ≤ 1000000) (hj : j ∈ vs)
    (hs : ∀ x ∈ xs, EvT W tt ((wipeE env vs).set j (.fz (f x))) (· = p x) ∧ (p x = true → EvP W te ((wipeE env vs).set j (.fz (f x))) (g' x))) : EvF W (tLc wi (gName j) tt te vs) env ((xs.filter p).map g') :=
  ef_lcG hi hz fun x hx => ⟨_, [j], tg_name, fun i h => by rw [List.mem_singleton.mp h]; exact hj, hs x hx⟩
theorem filter_yes {α : Type} (xs : List α) : xs.filter (fun _ => true) = xs := List.filter_eq_self.mpr fun _ _ => rfl
/-- all, each as g -/
theorem ef_lcN {α : Type} {xs : List α} {f g' : α → MVP} {wi : TI} {j : Nat} {vs : List Nat} (hi : EvI W wi env (xs.map f)) (hz : xs.length ≤ 1000000) (hj : j ∈ vs)
    (hs : ∀ x ∈ xs, EvP W te ((wipeE env vs).set j (.fz (f x))) (g' x)) : EvF W (tLc wi (gName j) tYes te vs) env (xs.map g') := by
  have h := ef_lc (tt := tYes) (p := fun _ => true) hi hz hj fun x hx => ⟨t_yes, fun _ => hs x hx⟩
  rw [filter_yes] at h
  exact h
theorem ef_lcNG {α : Type} {xs : List α} {f g' : α → MVP} {wi : TI} {g : TG} {vs : List Nat} (hi : EvI W wi env (xs.map f)) (hz : xs.length ≤ 1000000)
    (hs : ∀ x ∈ xs, ∃ env2 js, Tgt W g (f x) (wipeE env vs) env2 js ∧ (∀ j ∈ js, j ∈ vs) ∧ EvP W te env2 (g' x)) : EvF W (tLc wi g tYes te vs) env (xs.map g') := by
  have h := ef_lcG (tt := tYes) (p := fun _ => true) hi hz fun x hx => by
    obtain ⟨env2, js, h1, h2, h3⟩ := hs x hx
    exact ⟨env2, js, h1, h2, t_yes, fun _ => h3⟩
  rw [filter_yes] at h
  exact h

/-! ### statements -/
variable {D : Ends} {t u : TS} {X : L2.St → Hp → Prop}
theorem at_tgt {g : TG} (he : EvP W te env P) (ht : Tgt W g P env env' js) (k : At W D.nx env') : At W (tAsg te g D) env := fun σ F H g0 eB sl =>
  he σ F H g0.eh (W.ok.go g0) sl _ fun v F1 H1 g1 q => ht σ F1 H1 v g1.eh (sl.go g1) q _ fun σ' sl' _ _ => k σ' F1 H1 (g0.trans g1) (eB.trans g1.fe) sl'
theorem q_tgt {g : TG} (he : EvP W te env P) (ht : Tgt W g P env env' js) (k : At W (u D) env') : At W (tSeq (tAsg te g) u D) env := at_tgt (D := { D with nx := u D }) he ht k
theorem at_set {i : Nat} (he : EvP W te env P) (k : At W D.nx (env.set i (.fz P))) : At W (tAsg te (gName i) D) env := at_tgt he tg_name k
theorem q_set {i : Nat} (he : EvP W te env P) (k : At W (u D) (env.set i (.fz P))) : At W (tSeq (tAsg te (gName i)) u D) env := at_set (D := { D with nx := u D }) he k
theorem own_sep {F H : Hp} {σ : L2.St} {p : Addr} (sl : Slots W F H σ env) (hp : H p = none) : ∀ (j : Nat) (t : Sv), env[j]? = some t → t.own = true → σ[j]? ≠ some (some (.ref p)) := fun j t ej ht hs => by
  obtain ⟨x, hx, q⟩ := sl.ok j t ej
  cases t with
  | ow G =>
    obtain ⟨p', o, ex, _, _, hh, _⟩ := q
    rw [hx, ex] at hs
    have e1 : p' = p := V.ref.inj (Option.some.inj (Option.some.inj hs))
    rw [e1, hp] at hh
    cases hh
  | _ => cases ht
theorem at_own {i : Nat} (he : EvF W te env Ps) (k : At W D.nx (env.set i (.ow (lO Ps)))) : At W (tAsg te (gName i) D) env := fun σ F H g0 eB sl =>
  he σ F H g0.eh (W.ok.go g0) sl _ fun p vs F1 H1 g1 n1 n2 hh q => by
    have h0 : W.H0 p = none := g0.nn n1
    refine k _ F1 H1 (g0.trans g1) (eB.trans g1.fe) ((sl.go g1).set i (x := some (.ref p)) (s := .ow (lO Ps)) ⟨p, _, rfl, h0, n2, hh, vs, rfl, q⟩ fun _ r er j t _ ej ht => ?_)
    have e1 : p = r := V.ref.inj (Option.some.inj er)
    subst e1
    exact own_sep sl n1 j t ej ht
theorem q_own {i : Nat} (he : EvF W te env Ps) (k : At W (u D) (env.set i (.ow (lO Ps)))) : At W (tSeq (tAsg te (gName i)) u D) env := at_own (D := { D with nx := u D }) he k
theorem ow_get {F H : Hp} {σ : L2.St} {i : Nat} (sl : Slots W F H σ env) (h : env[i]? = some (.ow (lO Ps))) : ∃ p vs, σ[i]? = some (some (.ref p)) ∧ W.H0 p = none ∧ F p = none ∧ H p = some (.lst vs) ∧ All F vs Ps := by
  obtain ⟨x, hx, p, o, ex, h0, hf, hh, vs, eo, q⟩ := sl.ok i _ h
  subst eo
  exact ⟨p, vs, by rw [hx, ex], h0, hf, hh, q⟩
theorem ty_list {H : Hp} {p : Addr} {vs : List V} (h : H p = some (.lst vs)) : tyV K "list" (.ref p) H := .inl ⟨rfl, vs, .of h⟩
theorem at_app {i : Nat} (hi : env[i]? = some (.ow (lO Ps))) (he : EvP W te env P) (hl : Ps.length ≤ 1000000) (k : At W D.nx (env.set i (.ow (lO (Ps ++ [P]))))) : At W (tDrop (tBM K "list" rAppend (tVar i) (tCons te tNil)) D) env := fun σ F H g0 eB sl => by
  obtain ⟨p, vs, hp, h0, hf, hh, q⟩ := ow_get sl hi
  refine ⟨.ref p, hp, ty_list hh, ?_⟩
  refine he σ F H g0.eh (W.ok.go g0) sl _ fun v F1 H1 g1 q1 => ?_
  obtain ⟨p', vs', hp', h0', hf', hh', q'⟩ := ow_get (sl.go g1) hi
  rw [hp] at hp'
  cases hp'
  refine ⟨p, vs', v, rfl, rfl, hh', szl (by have := all_len q'; omega), ?_⟩
  exact k σ F1 _ ((g0.trans g1).wr h0 hf') (eB.trans g1.fe) ((sl.go g1).write hi hp ⟨_, rfl, all_app q' (.cons q1 .nil)⟩)
theorem q_app {i : Nat} (hi : env[i]? = some (.ow (lO Ps))) (he : EvP W te env P) (hl : Ps.length ≤ 1000000) (k : At W (u D) (env.set i (.ow (lO (Ps ++ [P]))))) : At W (tSeq (tDrop (tBM K "list" rAppend (tVar i) (tCons te tNil))) u D) env :=
  at_app (D := { D with nx := u D }) hi he hl k
theorem at_ext {i : Nat} (hi : env[i]? = some (.ow (lO Ps))) (he : EvF W te env Qs) (hl : Ps.length + Qs.length ≤ 1000000) (k : At W D.nx (env.set i (.ow (lO (Ps ++ Qs))))) : At W (tDrop (tBM K "list" rExtend (tVar i) (tCons te tNil)) D) env := fun σ F H g0 eB sl => by
  obtain ⟨p, vs, hp, h0, hf, hh, q⟩ := ow_get sl hi
  refine ⟨.ref p, hp, ty_list hh, ?_⟩
  refine he σ F H g0.eh (W.ok.go g0) sl _ fun b ws F1 H1 g1 n1 n2 hb q1 => ?_
  obtain ⟨p', vs', hp', h0', hf', hh', q'⟩ := ow_get (sl.go g1) hi
  rw [hp] at hp'
  cases hp'
  refine ⟨p, b, vs', ws, rfl, rfl, hh', hb, sz (by have := all_len q'; have := all_len q1; omega), ?_⟩
  exact k σ F1 _ ((g0.trans g1).wr h0 hf') (eB.trans g1.fe) ((sl.go g1).write hi hp ⟨_, rfl, all_app q' q1⟩)
theorem q_ext {i : Nat} (hi : env[i]? = some (.ow (lO Ps))) (he : EvF W te env Qs) (hl : Ps.length + Qs.length ≤ 1000000) (k : At W (u D) (env.set i (.ow (lO (Ps ++ Qs))))) : At W (tSeq (tDrop (tBM K "list" rExtend (tVar i) (tCons te tNil))) u D) env :=
  at_ext (D := { D with nx := u D }) hi he hl k
theorem at_pop {i j : Nat} (hi : env[i]? = some (.ow (lO (Ps ++ [P])))) (k : At W D.nx ((env.set i (.ow (lO Ps))).set j (.fz P))) : At W (tAsg (tBM0 K "list" rPop (tVar i)) (gName j) D) env := fun σ F H g0 eB sl => by
  obtain ⟨p, vs, hp, h0, hf, hh, q⟩ := ow_get sl hi
  have hz := all_len q
  rw [List.length_append] at hz
  have hz : vs.length = Ps.length + 1 := hz
  obtain ⟨v, hv, qv⟩ := all_get (i := Ps.length) (P := P) q (by simp)
  have q2 := all_dropLast q
  rw [List.dropLast_concat] at q2
  refine ⟨.ref p, hp, ty_list hh, p, vs, v, rfl, rfl, hh, by rw [hz]; exact hv, ?_⟩
  exact k _ F _ (g0.wr h0 hf) eB ((sl.write (G' := lO Ps) hi hp ⟨_, rfl, q2⟩).setF j qv)
theorem q_pop {i j : Nat} (hi : env[i]? = some (.ow (lO (Ps ++ [P])))) (k : At W (u D) ((env.set i (.ow (lO Ps))).set j (.fz P))) : At W (tSeq (tAsg (tBM0 K "list" rPop (tVar i)) (gName j)) u D) env := at_pop (D := { D with nx := u D }) hi k
theorem at_setL {i j : Nat} {k' : Int} (hi : env[i]? = some (.ow (lO Ps))) (he : EvP W te env P) (hk : EvP W ti env (iP k')) (hj : ixN Ps.length k' = some j) (k : At W D.nx (env.set i (.ow (lO (Ps.set j P))))) : At W (tAsg te (gSub (tVar i) ti rSetL) D) env := fun σ F H g0 eB sl =>
  he σ F H g0.eh (W.ok.go g0) sl _ fun v F1 H1 g1 q1 => by
    obtain ⟨p, vs, hp, h0, hf, hh, q⟩ := ow_get (sl.go g1) hi
    refine ⟨.ref p, hp, hk σ F1 H1 g1.eh (W.ok.go (g0.trans g1)) (sl.go g1) _ fun y F2 H2 g2 q2 => ?_⟩
    have G := g1.trans g2
    obtain ⟨p', vs', hp', h0', hf', hh', q'⟩ := ow_get (sl.go G) hi
    rw [hp] at hp'
    cases hp'
    exact ⟨p, vs', k', j, rfl, q2, hh', by rw [all_len q']; exact hj, k σ F2 _ ((g0.trans G).wr h0 hf') (eB.trans G.fe) ((sl.go G).write hi hp ⟨_, rfl, all_set (P.m _ _ _ g2.fe q1) j q'⟩)⟩
theorem q_setL {i j : Nat} {k' : Int} (hi : env[i]? = some (.ow (lO Ps))) (he : EvP W te env P) (hk : EvP W ti env (iP k')) (hj : ixN Ps.length k' = some j) (k : At W (u D) (env.set i (.ow (lO (Ps.set j P))))) : At W (tSeq (tAsg te (gSub (tVar i) ti rSetL)) u D) env :=
  at_setL (D := { D with nx := u D }) hi he hk hj k
theorem at_aug {i : Nat} {r : TIp} (hi : env[i]? = some (.fz P1)) (he : EvP W te env P2) (ho : Op2 W.S r P1 P2 P3) (k : At W D.nx (env.set i (.fz P3))) : At W (tAug i te r D) env := fun σ F H g0 eB sl => by
  obtain ⟨x, hx, v, ex, q⟩ := sl.ok i _ hi
  refine ⟨v, by rw [hx, ex], he σ F H g0.eh (W.ok.go g0) sl _ fun y F1 H1 g1 q1 => ho F1 H1 v y g1.eh (P1.m _ _ _ g1.fe q) q1 _ fun z F2 H2 g2 q2 => ?_⟩
  exact k _ F2 H2 (g0.trans (g1.trans g2)) (eB.trans (g1.trans g2).fe) ((sl.go (g1.trans g2)).setF i q2)
theorem q_aug {i : Nat} {r : TIp} (hi : env[i]? = some (.fz P1)) (he : EvP W te env P2) (ho : Op2 W.S r P1 P2 P3) (k : At W (u D) (env.set i (.fz P3))) : At W (tSeq (tAug i te r) u D) env := at_aug (D := { D with nx := u D }) hi he ho k
theorem at_ret (he : EvP W te env P) (hr : ∀ v F H, Go W.S W.F0 W.H0 F H → P.P F v → D.rt v H) : At W (tRet te D) env := fun σ F H g0 eB sl =>
  he σ F H g0.eh (W.ok.go g0) sl _ fun v F1 H1 g1 q => hr v F1 H1 (g0.trans g1) q
theorem at_if {C : Bool → Prop} (ht : EvT W tt env C) (h1 : C true → At W (t D) env) (h2 : C false → At W (u D) env) : At W (tIfS tt t u D) env := fun σ F H g0 eB sl =>
  ht σ F H g0.eh (W.ok.go g0) sl _ fun b F1 H1 g1 q => by
    cases b with
    | true => exact h1 q σ F1 H1 (g0.trans g1) (eB.trans g1.fe) (sl.go g1)
    | false => exact h2 q σ F1 H1 (g0.trans g1) (eB.trans g1.fe) (sl.go g1)
theorem at_drop (he : EvP W te env P) (k : At W D.nx env) : At W (tDrop te D) env := fun σ F H g0 eB sl =>
  he σ F H g0.eh (W.ok.go g0) sl _ fun v F1 H1 g1 q => k σ F1 H1 (g0.trans g1) (eB.trans g1.fe) (sl.go g1)
theorem q_drop (he : EvP W te env P) (k : At W (u D) env) : At W (tSeq (tDrop te) u D) env := at_drop (D := { D with nx := u D }) he k
theorem at_seq (h : At W (t { D with nx := u D }) env) : At W (tSeq t u D) env := h
theorem q_if {C : Bool → Prop} {v : TS} (ht : EvT W tt env C) (h1 : C true → At W (t { D with nx := v D }) env) (h2 : C false → At W (u { D with nx := v D }) env) : At W (tSeq (tIfS tt t u) v D) env := at_if (D := { D with nx := v D }) ht h1 h2
/-- if t: a way that leaves or can't be -/
theorem q_when {C : Bool → Prop} {v : TS} (ht : EvT W tt env C) (h1 : C true → At W (t { D with nx := v D }) env) (h2 : C false → At W (v D) env) : At W (tSeq (tIfS tt t tNext) v D) env := at_if (D := { D with nx := v D }) ht h1 h2
theorem at_le (l : EnvLe env env') (k : At W X env') : At W X env := fun σ F H g0 eB sl => k σ F H g0 eB (sl.le l)
theorem at_frz {i : Nat} (hi : env[i]? = some (.ow (lO Ps))) (k : At W X (env.set i (.fz (lP Ps)))) : At W X env := fun σ F H g0 eB sl => by
  obtain ⟨p, vs, hp, h0, hf, hh, sl'⟩ := sl.freeze hi
  exact k σ _ H (g0.frz h0 hf hh) (eB.trans (Ex.new hf)) sl'
theorem at_any {α : Type} {C : α → Prop} {f : α → MVP} {i : Nat} (hi : env[i]? = some (.fz (anyP C f))) (k : ∀ x, C x → At W X (env.set i (.fz (f x)))) : At W X env := fun σ F H g0 eB sl => by
  obtain ⟨x, hx, v, ex, z, c, q⟩ := sl.ok i _ hi
  have hs : σ.set i (some v) = σ := by
    refine List.ext_getElem? fun j => ?_
    by_cases hji : i = j
    · subst hji
      rw [List.getElem?_set_self (List.getElem?_eq_some_iff.mp hx).1, hx, ex]
    · rw [List.getElem?_set_ne hji]
  have sl' := sl.setF i (v := v) (P := f z) q
  rw [hs] at sl'
  exact k z c σ F H g0 eB sl'
theorem at_sat {T : List Sv → Prop} (h : T env) : At W (Sat W T) env := fun σ F H g0 eB sl => ⟨env, F, h, g0, eB, sl⟩
theorem sat_at {T : List Sv → Prop} (h : ∀ env, T env → At W X env) : ∀ σ H, Sat W T σ H → X σ H := fun σ H ⟨env, F, h1, g0, eB, sl⟩ => h env h1 σ F H g0 eB sl
theorem slotOk_bd {B F H : Hp} {x : Option V} {s : Sv} : SlotOk (W.bd B) F H x s ↔ SlotOk W F H x s := by
  cases s <;> exact Iff.rfl
theorem Slots.bd {B F H : Hp} {σ : L2.St} (h : Slots W F H σ env) : Slots (W.bd B) F H σ env := ⟨h.len, fun i s e => by
  obtain ⟨x, h1, h2⟩ := h.ok i s e
  exact ⟨x, h1, slotOk_bd.mpr h2⟩, h.sep⟩
theorem Slots.ub {B F H : Hp} {σ : L2.St} (h : Slots (W.bd B) F H σ env) : Slots W F H σ env := ⟨h.len, fun i s e => by
  obtain ⟨x, h1, h2⟩ := h.ok i s e
  exact ⟨x, h1, slotOk_bd.mp h2⟩, h.sep⟩
theorem at_for {T : Nat → List Sv → Prop} {wi : TI} {g : TG} {tb : TS} (hi : EvI W wi env Ps) (h0 : T 0 env)
    (hs : ∀ B (i : Nat) P env', Ps[i]? = some P → T i env' → ∃ env2 js, Tgt (W.bd B) g P env' env2 js ∧ At (W.bd B) (tb { D with nx := Sat (W.bd B) (T (i + 1)), ct := Sat (W.bd B) (T (i + 1)), bk := D.nx }) env2)
    (hd : ∀ env', T Ps.length env' → At W D.nx env') : At W (tFor wi g tb D) env := fun σ F H g0 eB sl => hi σ F H g0.eh (W.ok.go g0) sl _ fun J F1 H1 g1 it => by
  refine ⟨fun i m σ' H' => m = Ps.length - i ∧ i ≤ Ps.length ∧ Sat (W.bd F1) (T i) σ' H', ⟨Ps.length, by simp, Nat.zero_le _, env, F1, h0, g0.trans g1, Ex.refl F1, (sl.go g1).bd⟩, ?_⟩
  rintro i m σ2 H2 ⟨rfl, hi2, env', F2, hT, g2, e2, sl2⟩
  by_cases hlt : i < Ps.length
  · have hP : Ps[i]? = some Ps[i] := List.getElem?_eq_getElem hlt
    obtain ⟨j1, j2⟩ := it.go i Ps[i] F2 H2 hP e2 g2.eh
    obtain ⟨env2, js, tg, hb⟩ := hs F1 i Ps[i] env' hP hT
    refine .inr ⟨j1, Sat (W.bd F1) (T (i + 1)), fun σ' H' z => ⟨Ps.length - (i + 1), by omega, rfl, hlt, z⟩, fun x H3 y => ?_⟩
    obtain ⟨F3, g3, q3⟩ := j2 x H3 y
    exact tg σ2 F3 H3 x g3.eh (sl2.go g3) q3 _ fun σ3 sl3 _ _ => hb σ3 F3 H3 (g2.trans g3) (e2.trans g3.fe) sl3
  · have e1 : i = Ps.length := by omega
    subst e1
    exact .inl ⟨it.stop _ (e2.trans g2.eh), hd env' hT σ2 F2 H2 g2 ((eB.trans g1.fe).trans e2) sl2.ub⟩
theorem q_for {T : Nat → List Sv → Prop} {wi : TI} {g : TG} {tb : TS} (hi : EvI W wi env Ps) (h0 : T 0 env)
    (hs : ∀ B (i : Nat) P env', Ps[i]? = some P → T i env' → ∃ env2 js, Tgt (W.bd B) g P env' env2 js ∧ At (W.bd B) (tb { D with nx := Sat (W.bd B) (T (i + 1)), ct := Sat (W.bd B) (T (i + 1)), bk := u D }) env2)
    (hd : ∀ env', T Ps.length env' → At W (u D) env') : At W (tSeq (tFor wi g tb) u D) env := at_for (D := { D with nx := u D }) hi h0 hs hd
/-- by what has been gone through -/
theorem at_forE {α : Type} {xs : List α} {f : α → MVP} (E : List α → List Sv) {wi : TI} {g : TG} {tb : TS} (hi : EvI W wi env (xs.map f)) (h0 : EnvLe env (E []))
    (hs : ∀ B pre x post, xs = pre ++ x :: post → ∃ env2 js, Tgt (W.bd B) g (f x) (E pre) env2 js ∧ At (W.bd B) (tb { D with nx := Sat (W.bd B) (fun e => EnvLe e (E (pre ++ [x]))), ct := Sat (W.bd B) (fun e => EnvLe e (E (pre ++ [x]))), bk := D.nx }) env2)
    (hd : At W D.nx (E xs)) : At W (tFor wi g tb D) env := by
  refine at_for (T := fun i e => EnvLe e (E (xs.take i))) hi h0 (fun B i P env' hP hT => ?_) fun env' hT => ?_
  · rw [List.getElem?_map] at hP
    cases q : xs[i]? with
    | none =>
      rw [q] at hP
      cases hP
    | some x =>
      rw [q] at hP
      have e3 : f x = P := Option.some.inj hP
      subst e3
      have hlt : i < xs.length := (List.getElem?_eq_some_iff.mp q).1
      have e4 : xs = xs.take i ++ x :: xs.drop (i + 1) := by
        have e5 : xs[i] = x := by
          have := List.getElem?_eq_getElem hlt
          rw [q] at this
          exact (Option.some.inj this).symm
        rw [← e5, ← List.drop_eq_getElem_cons hlt, List.take_append_drop]
      have e6 : xs.take (i + 1) = xs.take i ++ [x] := by
        rw [List.take_add_one, q]
        rfl
      obtain ⟨env2, js, h1, h2⟩ := hs B (xs.take i) x (xs.drop (i + 1)) e4
      refine ⟨env2, js, fun σ F H v e sl q Q k => h1 σ F H v e (sl.le hT) q Q k, ?_⟩
      show At (W.bd B) (tb { D with nx := Sat (W.bd B) (fun e => EnvLe e (E (xs.take (i + 1)))), ct := Sat (W.bd B) (fun e => EnvLe e (E (xs.take (i + 1)))), bk := D.nx }) env2
      rw [e6]
      exact h2
  · rw [List.length_map, List.take_length] at hT
    exact at_le hT hd
theorem q_forE {α : Type} {xs : List α} {f : α → MVP} (E : List α → List Sv) {wi : TI} {g : TG} {tb : TS} (hi : EvI W wi env (xs.map f)) (h0 : EnvLe env (E []))
    (hs : ∀ B pre x post, xs = pre ++ x :: post → ∃ env2 js, Tgt (W.bd B) g (f x) (E pre) env2 js ∧ At (W.bd B) (tb { D with nx := Sat (W.bd B) (fun e => EnvLe e (E (pre ++ [x]))), ct := Sat (W.bd B) (fun e => EnvLe e (E (pre ++ [x]))), bk := u D }) env2)
    (hd : At W (u D) (E xs)) : At W (tSeq (tFor wi g tb) u D) env := at_forE (D := { D with nx := u D }) E hi h0 hs hd
theorem at_while {T : Nat → List Sv → Prop} {tb : TS} (m0 : Nat) (h0 : T m0 env)
    (hs : ∀ B m env', T m env' → ∃ C, EvT W tt env' C ∧ (C true → At (W.bd B) (tb { D with nx := Sat (W.bd B) (fun e => ∃ m', m' < m ∧ T m' e), ct := Sat (W.bd B) (fun e => ∃ m', m' < m ∧ T m' e), bk := D.nx }) env') ∧ (C false → At W D.nx env')) : At W (tWhile tt tb D) env := fun σ F H g0 eB sl => by
  refine ⟨fun m σ' H' => Sat (W.bd F) (T m) σ' H', ⟨m0, env, F, h0, g0, Ex.refl F, sl.bd⟩, ?_⟩
  rintro m σ1 H1 ⟨env', F1, hT, g1, e1, sl1⟩
  obtain ⟨C, ht, hb, hd⟩ := hs F m env' hT
  refine ht σ1 F1 H1 g1.eh (W.ok.go g1) sl1.ub _ fun b F2 H2 g2 q => ?_
  cases b with
  | true =>
    rw [if_pos rfl]
    exact ⟨Sat (W.bd F) (fun e => ∃ m', m' < m ∧ T m' e), fun σ' H' ⟨env3, F3, ⟨m', hm, h3⟩, g3, e3, sl3⟩ => ⟨m', hm, env3, F3, h3, g3, e3, sl3⟩, hb q σ1 F2 H2 (g1.trans g2) (e1.trans g2.fe) (sl1.go g2)⟩
  | false =>
    rw [if_neg Bool.false_ne_true]
    exact hd q σ1 F2 H2 (g1.trans g2) ((eB.trans e1).trans g2.fe) (sl1.go g2).ub
theorem q_while {T : Nat → List Sv → Prop} {tb : TS} (m0 : Nat) (h0 : T m0 env)
    (hs : ∀ B m env', T m env' → ∃ C, EvT W tt env' C ∧ (C true → At (W.bd B) (tb { D with nx := Sat (W.bd B) (fun e => ∃ m', m' < m ∧ T m' e), ct := Sat (W.bd B) (fun e => ∃ m', m' < m ∧ T m' e), bk := u D }) env') ∧ (C false → At W (u D) env')) : At W (tSeq (tWhile tt tb) u D) env :=
  at_while (D := { D with nx := u D }) m0 h0 hs

/-! ### a def's body -/
theorem args_slots {S : Shr} {F H : Hp} {ok : SOk S F H} {vs : List V} {svs : List Sv} (h : ArgsOk S F vs svs) (n : Nat) : Slots ⟨S, F, H, F, ok⟩ F H (vs.map some ++ List.replicate n none) (svs ++ List.replicate n .no) := by
  have hl := Paired.length h
  have get : ∀ (vs : List V) (svs : List Sv), ArgsOk S F vs svs → ∀ (i : Nat) (s : Sv), svs[i]? = some s → ∃ v, vs[i]? = some v ∧ ArgOk S F v s := by
    intro vs svs h
    induction h with
    | nil =>
      intro i s e
      simp at e
    | cons a t ih =>
      intro i s e
      cases i with
      | zero =>
        have e1 := Option.some.inj e
        subst e1
        exact ⟨_, rfl, a⟩
      | succ i =>
        obtain ⟨v, h1, h2⟩ := ih i s (by simpa using e)
        exact ⟨v, by simpa using h1, h2⟩
  refine ⟨by simp [hl], fun i s e => ?_, fun i j s t p ei ej hs ht hi hj => ?_⟩
  · by_cases hi : i < svs.length
    · rw [List.getElem?_append_left hi] at e
      obtain ⟨v, h1, h2⟩ := get vs svs h i s e
      refine ⟨some v, ?_, ?_⟩
      · rw [List.getElem?_append_left (by rw [List.length_map, hl]; exact hi), List.getElem?_map, h1]
        rfl
      · cases s with
        | no => exact True.intro
        | fz P => exact ⟨v, rfl, h2⟩
        | sh G =>
          obtain ⟨p, h3, h4⟩ := h2
          exact ⟨p, by rw [h3], h4⟩
        | ow G => exact h2.elim
    · rw [List.getElem?_append_right (by omega), List.getElem?_replicate] at e
      split at e
      · rename_i h3
        have e1 := Option.some.inj e
        subst e1
        refine ⟨none, ?_, True.intro⟩
        rw [List.getElem?_append_right (by rw [List.length_map, hl]; omega), List.getElem?_replicate, List.length_map, hl, if_pos h3]
      · cases e
  · exfalso
    by_cases hi : i < svs.length
    · rw [List.getElem?_append_left hi] at ei
      obtain ⟨v, h1, h2⟩ := get vs svs h i s ei
      cases s with
      | ow G => exact h2
      | _ => cases hs
    · rw [List.getElem?_append_right (by omega), List.getElem?_replicate] at ei
      split at ei
      · have e1 := Option.some.inj ei
        subst e1
        cases hs
      · cases ei
/-- what a def hands back -/
structure Ret (W : Wd) (D : Ends) (post : MVP) : Prop where
  rt : ∀ v F H, Go W.S W.F0 W.H0 F H → post.P F v → D.rt v H
  nx : ∀ σ F H, Go W.S W.F0 W.H0 F H → post.P F .non → D.nx σ H
def Body (N : List Str) (t : TS) (pre : Pre) : Prop := ∀ (W : Wd) (svs : List Sv) (post : MVP) (D : Ends), pre svs post → Ret W D post → At W (t D) (svs ++ List.replicate (N.length - svs.length) .no)
theorem Body.ok {N : List Str} {t : TS} {pre : Pre} (b : Body N t pre) {vs : List V} {H : Hp} {Q : VK} {E : XK} (h : SpX pre vs H Q E) : t { nx := fun _ H' => Q .non H', rt := Q } (L2.start N vs) H := by
  obtain ⟨S, F, svs, post, so, e, ha, hp, k⟩ := h
  have hl := Paired.length ha
  refine b ⟨S, F, H, F, so⟩ svs post _ hp ⟨fun v F' H' g q => k v F' H' g q, fun σ F' H' g q => k .non F' H' g q⟩ _ F H (Go.refl e) (Ex.refl F) ?_
  unfold L2.start
  rw [hl]
  exact args_slots ha _
end
end Ly
namespace Ly
open PySem PySem.Spec PyProof.Rows L2
abbrev rAddI : R2 := rI0 fun i j => .int (i + j)
abbrev rSubI : R2 := rI0 fun i j => .int (i - j)
abbrev rMulI : R2 := rI CMul fun i j => .int (i * j)
abbrev rDivI : R2 := rI CDiv fun i j => .int (i / j)
abbrev rModI : R2 := rI (fun _ j => 0 < j) fun i j => .int (i % j)
abbrev rPowI : R2 := rI CPow fun i j => .int (i ^ j.toNat)
abbrev rLtI : R2 := rI0 fun i j => .bl (decide (i < j))
abbrev rLeI : R2 := rI0 fun i j => .bl (decide (i ≤ j))
abbrev rGtI : R2 := rI0 fun i j => .bl (decide (j < i))
abbrev rGeI : R2 := rI0 fun i j => .bl (decide (j ≤ i))
abbrev rNeg : V → Hp → VK → Prop := rU fun i => .int (-i)

/-! ### tuple * 1 -/
theorem tuple_mulW1 (l : Addr) (items : Array Value) (n : Nat) (dd : Option Addr) (sl : Array (Option Value)) (u : Tok) :
    Meets (Builtin.«tuple.__mul__» ⟨[.ref l, .int 1 u], []⟩) (fun _ R s => s.heap.get? l = some { cls := .type "tuple", dict := dd, data := .seq items n, slots := sl } ∧
      R (.ok (.ret (Value.ref l))) s) :=
  .of_wp fun prog w A R s h => by
    obtain ⟨hp, g, d, tk, os⟩ := s
    obtain ⟨hl, h⟩ := h
    have f1 := AutoSeq1.idx_int
    wp_walk using wpAny_loadPart' hl
    repeat (first
      | (refine wpAny_ite_true (by simp) ?_; wp_walk using wpAny_loadPart' hl)
      | (refine wpAny_ite_false (by simp) ?_; wp_walk using wpAny_loadPart' hl))
    all_goals exact ⟨_, rfl, h⟩
def rRepQ (K : PySem.W.Frag) : R2 := fun x y H Q => ∃ l k xs, x = .ref l ∧ y = .int k ∧ SqT K H l xs ∧ xs ≠ [] ∧ 1 ≤ k ∧ k ≤ 1000 ∧ xs.length ≤ 1000 ∧ (k = 1 → Q (.ref l) H) ∧ (k ≠ 1 → ∀ p, H p = none → Q (.ref p) (upd H p (.tup (List.replicate k.toNat xs).flatten)))
section
variable {X : Cx}
theorem op_repQ : OpR X (binaryOp .Mult) (rRepQ X.K) := by
  intro pins s σ H x y v u Q I rx ry h
  obtain ⟨l, k, xs, rfl, rfl, hT, hne, h1, h2, hz, q1, q2⟩ := h
  by_cases hk : k = 1
  · subst hk
    cases rx
    obtain ⟨t, rfl⟩ := ry
    obtain ⟨its, r, ⟨⟨cls, dd, data, sl⟩, ho, hc, n, hd⟩, hs⟩ := I.tuple hT
    simp only at hc hd
    subst hc hd
    exact wpAny_binaryOp_repeat_ref (T := "tuple") (U := "int") (by decide) ⟨_, ho, rfl⟩ (fun s' => typeIs_int s' 1 t) noFill_tuple_mul F.fills_int_mul F.slot_int_rmul repeat_tuple F.slot_int_index.lookup
      (call_meets F.slot_int_rmul (typeIs_int s 1 t) F.entry_int_rmul (F.args_int_rmul_2 _ _) (int_rmul_tuple 1 t l its.toArray n dd sl)
        ⟨ho, rfl, ⟨_, ho, rfl⟩, call_meets F.slot_tuple_mul ⟨_, ho, rfl⟩ F.entry_tuple_mul (F.args_tuple_mul_2 _ _) (tuple_mulW1 l its.toArray n dd sl t) ⟨ho, ⟨.ref l, H, I, rfl, q1 rfl⟩⟩⟩)
  · exact op_repT pins s σ H _ _ v u Q I rx ry ⟨l, k, xs, rfl, rfl, hT, hne, by omega, h2, hz, q2 hk⟩
/-- a if t else b, as a test -/
def tIfT (t ta tb : TT) : TT := fun σ H Q => t σ H fun c H1 => if c = true then ta σ H1 Q else tb σ H1 Q
theorem pt_ifExp {c a b : Expr} {tc ta tb : TT} {pos : Pos} (hc : PT X c tc) (ha : PT X a ta) (hb : PT X b tb) : PT X (.IfExp c a b pos) (tIfT tc ta tb) := by
  refine ⟨fun pins s σ H Q I h => isTrue_IfExp (thn (hc.run pins s σ H _ I h) fun d s1 ⟨H1, I1, q1⟩ => ?_)⟩
  cases d with
  | true => exact ha.run pins s1 σ H1 Q I1 q1
  | false => exact hb.run pins s1 σ H1 Q I1 q1
theorem ip_mul : PIp X .Mult rMulI := fun pins s σ H x y v u Q I r1 r2 h => iop_mul pins s σ H x y v u Q I r1 r2 h
theorem pget_list : PGet X (rIxL X.K) := by
  intro pins s σ H x y v u Q I rx ry h
  obtain ⟨p, xs, i, z, rfl, rfl, hq, he, q⟩ := h
  cases rx
  obtain ⟨t, rfl⟩ := ry
  obtain ⟨its, r, pl, hz⟩ := I.list hq
  obtain ⟨j, h1, h2, h3, h4, h5⟩ := atI_get he
  obtain ⟨w, ew, rw'⟩ := r.get h2
  have hl := r.length
  have hn := line63
  have fin : EP X pins σ Q w s := ⟨z, H, I, rw', q⟩
  by_cases h0 : 0 ≤ i
  · have hj : i.toNat = j := by
      rw [seqIndex_of h0 h5] at h1
      exact Option.some.inj h1
    exact wpAny_getItem_list pl.isList h0 (by omega) (by rw [hj]; simpa using ew) fin
  · have hj : (i + (its.toArray.size : Int)).toNat = j := by
      rw [seqIndex_neg (by omega) h4] at h1
      rw [List.size_toArray, ← hl]
      exact Option.some.inj h1
    exact wpAny_getItem_list_neg pl.isList (by omega) (by rw [List.size_toArray] <;> omega) (by omega) (by rw [hj]; simpa using ew) fin
theorem blkOk_blk {s : Shared} {H : Hp} {scope0 scope : Scope} {cl : List (Str × Addr)} {C : Addr} {fp : List Addr} {own : List (Str × Nat)} {N : List Str} {sc : Scope} (hN : X.N = N) (hs : X.env.scope = sc) (h : blkC N (relS scope0 sc) scope own = true) :
    BlkOk (X.blk s H scope0 (compEnvC scope0 cl C X.env) fp).N (X.blk s H scope0 (compEnvC scope0 cl C X.env) fp).env.scope scope own := by
  subst hN hs
  exact blkOk_by h
theorem hu64 {A : Around} {k : Nat} (hr : Room k A) : A.units + 64 < cLine := hr.units
theorem hu65 {A : Around} {k : Nat} (hr : Room k A) : A.units + 65 < cLine := by
  have := hr.un
  omega
/-- a, b, c = x, y, z with plain local names -/
def tPar3 (i j l : Nat) (ta : TA) : TS := fun D σ H => ta σ H fun vs H1 => ∃ v w x, vs = [v, w, x] ∧ D.nx (((σ.set i (some v)).set j (some w)).set l (some x)) H1
theorem ps_par3 {pos : Pos} {i j l : Nat} {x y z : Str} {a b c : Expr} {ta : TA} {px py pz pt : Pos} {kt k2 pt2} (hc : X.calm = true) (hN : X.N.Nodup) (hi : X.N[i]? = some x) (hj : X.N[j]? = some y) (hl : X.N[l]? = some z) (hij : i ≠ j ∧ i ≠ l ∧ j ≠ l)
    (hx : X.env.scope.names.lookup x = some .local) (hy : X.env.scope.names.lookup y = some .local) (hz : X.env.scope.names.lookup z = some .local) (ha : PA X [a, b, c] ta)
    (hw : swappedStores [.Tuple [.Name x px, .Name y py, .Name z pz] kt pt] (.Tuple [a, b, c] k2 pt2) X.env = pure (some [x, y, z]))
    (hs : swapsWithSole [.Tuple [.Name x px, .Name y py, .Name z pz] kt pt] (.Tuple [a, b, c] k2 pt2) pos.line X.env = pure false := by rfl) :
    PS X (.Assign [.Tuple [.Name x px, .Name y py, .Name z pz] kt pt] (.Tuple [a, b, c] k2 pt2) pos) (tPar3 i j l ta) := by
  refine ⟨fun pins s σ H D I h => ?_⟩
  rw [exec_Assign_arm]
  refine wpAny_bind (wpAny_standAt ?_)
  rw [hs]
  refine wpAny_bind (wpAny_pure ?_)
  rw [if_neg (by decide)]
  refine wpAny_bind (Tuple_ (thn (ha.run _ pins s σ H _ I h) fun us s1 ⟨vs, H1, I1, r1, q1⟩ => ?_))
  obtain ⟨v, w, q, e1, q1⟩ := q1
  subst e1
  obtain ⟨u1, u2, u3, rfl, rv, rw', rq⟩ : ∃ u1 u2 u3, us = [u1, u2, u3] ∧ RelV v u1 ∧ RelV w u2 ∧ RelV q u3 := by
    cases r1 with
    | cons p q =>
      cases q with
      | cons p' q' =>
        cases q' with
        | cons p'' q'' =>
          cases q''
          exact ⟨_, _, _, rfl, p, p', p''⟩
  refine wpAny_newObj_type ?_ (by show 3 ≤ sizeLine; decide)
  have I2 : Inv X pins σ H1 { s1 with heap := s1.heap.push { cls := .type "tuple", data := .seq [u1, u2, u3].toArray } } := I1.kept (t' := s1.toks) fun b o e => Heap.get?_push_of_some _ e
  rw [hw]
  refine wpAny_bind (wpAny_pure ?_)
  show wpAny (model X.prog X.w) X.A (do rule "assign.swapped-stores"; let items ← unpackItems (.ref s1.heap.objs.size) 3 none; assignInOrder [fun v => bindName X.env z v, fun v => bindName X.env y v, fun v => bindName X.env x v] items.reverse; pure Flow.next) _ _ _
  refine wpAny_bind (wpAny_rule (wpAny_bind (unpackItems_tuple (items := #[u1, u2, u3]) (I.ok.hd hc) (IsTup.new s1.heap _) fun h' hx' => ?_)))
  have I3 := I2.kept (h' := h') (t' := s1.toks) fun b o e => hx' b o (Nat.ne_of_lt (Heap.lt_size e)) e
  show wpAny _ _ (assignInOrder [fun v => bindName X.env z v, fun v => bindName X.env y v, fun v => bindName X.env x v] [u3, u2, u1] >>= fun _ => pure Flow.next) _ _ _
  refine wpAny_bind (assignInOrder_cons (wpAny_bindName (store_ok I3 hN hl (.inl hz) rq (fun s2 I4 => ?_) (.inr hz))))
  refine assignInOrder_cons (wpAny_bindName (store_ok I4 hN hj (.inl hy) rw' (fun s3 I5 => ?_) (.inr hy)))
  refine assignInOrder_cons (wpAny_bindName (store_ok I5 hN hi (.inl hx) rv (fun s4 I6 => assignInOrder_nil (wpAny_pure ?_)) (.inr hx)))
  rw [List.set_comm _ _ (Ne.symm hij.2.2), List.set_comm _ _ (Ne.symm hij.2.1), List.set_comm _ _ (Ne.symm hij.1)] at I6
  exact ⟨_, H1, I6, q1⟩
/-! ### the defs of the text -/
structure OkF (P : Program) (w : World) (K : PySem.W.Frag) (mg : Str → Option Value) (base : Heap) (x : Str) (f : Addr) (ps : List Str) (k : Nat) (pre : Pre) : Prop where
  ex : ∃ fd, FnOk P w K mg base CX0 k f fd ps (SpX pre) ∧ Binds K fd ps []
  gl : mg x = some (.ref f)
  kp : PySem.W.keepIn K (.ref f) = true
theorem pe_cal {x : Str} {f : Addr} {ps : List Str} {k : Nat} {pre : Pre} {p pos : Pos} {e : Expr} {es : List Expr} {t : TA} (O : OkF X.prog X.w X.K X.mg X.base x f ps k pre) (hr : Room k X.A) (hg : Gl X x) (ha : PA X (e :: es) t) (hd : (x == ("__debug__" : Str)) = false := by decide)
    (he : starEach (e :: es) X.env = (false, eval e X.env) :: starEach es X.env := by rfl) (hpl : (backTo pos (starEach es X.env)).any (·.1) = false := by rfl) : PE X (.Call (.Name x p) (e :: es) [] pos) (tCall (SpX pre) [] E0 t) := by
  obtain ⟨fd, F, b⟩ := O.ex
  exact pe_call F hr hg O.gl O.kp b .nil pass0 ha (hdb := hd) (he := he) (hpl := hpl)
end
theorem okf_of {P : Program} {w : World} {K : PySem.W.Frag} {mg : Str → Option Value} {base : Heap} {x qual : Str} {params : Arguments} {body : List Stmt} {scope : Scope} {f : Addr} {N ps : List Str} {k : Nat} {pre : Pre} {t : TS}
    (F : ∃ fd, FunD K x qual params body scope [] [] f fd) (gl : mg x = some (.ref f)) (S : FnScope N ps scope) (hb : ∀ (kV doc pm : Value) (an : Option Addr) (cdv ct : Value) (us : List Value), us.length = ps.length → bindArgs (PySem.W.fnOf x qual params body scope .none kV doc pm an cdv ct) ⟨us, []⟩ = pure (ps.zip us))
    (hl : ∀ svs post, pre svs post → svs.length = ps.length)
    (hp : ∀ {cdv : Value} {A : Around} {outer : List Env} {s : Shared} {H : Hp} {E : XK}, Room k (A.deeper (envOfC qual scope s.heap.objs.size f cdv)) → PSs (cxOf CX0 P w K mg base N qual scope f cdv A outer s H E).nox body t)
    (b : Body N t pre) : OkF P w K mg base x f ps (k + 1) pre := by
  obtain ⟨fd, F⟩ := F
  refine ⟨⟨fd, F.ok S (fun vs H Q E h => ?_) (fun cdv A outer s H vs Q E hr h => ⟨t, (hp hr).nox, b.ok h⟩), F.bindsN hb⟩, gl, F.kp⟩
  obtain ⟨_, _, svs, post, _, _, ha, h1, _⟩ := h
  rw [Paired.length ha]
  exact hl svs post h1
section
variable {W : Wd} {env : List Sv} {tc ta tb : TT}
theorem t_ifT {a b c : Bool} (h : EvT W tc env (· = c)) (h1 : c = true → EvT W ta env (· = a)) (h2 : c = false → EvT W tb env (· = b)) : EvT W (tIfT tc ta tb) env (· = if c = true then a else b) := fun σ F H e so sl Q k =>
  h σ F H e so sl _ fun d F1 H1 g q => by
    subst q
    cases d with
    | true =>
      rw [if_pos rfl] at k ⊢
      exact h1 rfl σ F1 H1 g.eh (so.go g) (sl.go g) Q fun v F2 H2 g2 q2 => k v F2 H2 (g.trans g2) q2
    | false =>
      rw [if_neg Bool.false_ne_true] at k ⊢
      exact h2 rfl σ F1 H1 g.eh (so.go g) (sl.go g) Q fun v F2 H2 g2 q2 => k v F2 H2 (g.trans g2) q2
theorem ev_neg {te : TE} {i : Int} (h : EvP W te env (iP i)) : EvP W (tUn rNeg te) env (iP (-i)) := fun σ F H e so sl Q k => h σ F H e so sl _ fun x F1 H1 g q => ⟨i, q, k _ F1 H1 g rfl⟩
theorem o_repT {S : Shr} {K : PySem.W.Frag} {Ps : List MVP} {n : Nat} (hne : Ps ≠ []) (h1 : 1 ≤ n) (hn : n ≤ 1000) (hl : Ps.length ≤ 1000) : Op2 S (rRepQ K) (tP Ps) (iP n) (tP (List.replicate n Ps).flatten) := fun F H x y e ⟨a, vs, ex, h2, h3⟩ hy Q k => by
  refine ⟨a, n, vs, ex, hy, .of (e _ _ h2), fun z => ?_, by omega, by omega, by rw [all_len h3]; exact hl, fun z => ?_, fun z p hp => ?_⟩
  · subst z
    cases h3
    exact hne rfl
  · have e1 : n = 1 := by omega
    subst e1
    exact k (.ref a) F H (Go.refl e) ⟨a, vs, rfl, h2, by simpa using h3⟩
  · exact k (.ref p) _ _ (Go.fresh e hp) ⟨p, _, rfl, upd_same, pair_mono (Ex.new (e.nn hp)) (all_rep h3 n)⟩
end
end Ly
namespace Ly
open PySem PySem.Spec PyProof.Rows L2
/-! ### what an iterator draws from: a list, a tuple -/
structure Kd where
  ho : List V → HO
  isIt : Heap → Addr → Addr → Nat → Prop
  is_ : Heap → Addr → Array Value → Prop
  obj : Addr → Obj
  draws : ∀ {prog : Program} {w : World} {A : Around}, A.handled = none → ∀ (it a : Addr), a ≠ it → ∀ items : Array Value, Draws prog w A it [it, a] items.size (fun i v => items[i]? = some v) (fun i h => isIt h it a i ∧ is_ h a items)
  begins : ∀ (a : Addr) (items : Array Value), Begins (.ref a) (obj a) (fun h => is_ h a items)
  it0 : ∀ {h : Heap} {it a : Addr}, h.get? it = some (obj a) → isIt h it a 0
  itObj : ∀ {h : Heap} {it a : Addr} {i : Nat}, isIt h it a i → ∃ o, h.get? it = some o ∧ ∀ v, o.data ≠ .cell v
  itKeep : ∀ {h h' : Heap} {it a : Addr} {i : Nat}, isIt h it a i → (∀ o, h.get? it = some o → h'.get? it = some o) → isIt h' it a i
  inv : ∀ {X : Cx} {pins : List (Addr × Obj)} {σ : L2.St} {H : Hp} {s : Shared} {a : Addr} {xs : List V}, Inv X pins σ H s → H a = some (ho xs) → ∃ its : List Value, Vals xs its ∧ is_ s.heap a its.toArray
def kL : Kd where
  ho := .lst
  isIt := fun h it a i => h.IsListIter it a i
  is_ := fun h a its => h.IsList a its
  obj := fun a => { cls := .type "list_iterator", data := .fields #[.ref a, .int 0 0] }
  draws := fun hh it a hne items => Draws.list hh it a hne items
  begins := fun a items => begins_list a items
  it0 := fun {h it a} e => ⟨_, e, rfl, rfl⟩
  itObj := fun {h it a i} st => by
    obtain ⟨o, e, _, d⟩ := st
    exact ⟨o, e, fun v q => by rw [d] at q; cases q⟩
  itKeep := fun {h h' it a i} st k => st.at k
  inv := fun {X pins σ H s a xs} I h => by
    obtain ⟨its, rv, p, _⟩ := I.list (SqL.of h)
    exact ⟨its, rv, p.isList⟩
def kT : Kd where
  ho := .tup
  isIt := fun h it a i => h.IsTupleIter it a i
  is_ := fun h a its => h.IsTuple a its
  obj := fun a => { cls := .type "tuple_iterator", data := .fields #[.ref a, .int 0 0] }
  draws := fun hh it a hne items => Draws.tuple hh it a hne items
  begins := fun a items => begins_tuple a items
  it0 := fun {h it a} e => ⟨_, e, rfl, rfl⟩
  itObj := fun {h it a i} st => by
    obtain ⟨o, e, _, d⟩ := st
    exact ⟨o, e, fun v q => by rw [d] at q; cases q⟩
  itKeep := fun {h h' it a i} st k => st.at k
  inv := fun {X pins σ H s a xs} I h => by
    obtain ⟨its, rv, p, _⟩ := I.tuple (SqT.of h)
    exact ⟨its, rv, p⟩
/-- n turns, a new tuple f i at each, while what is drawn from stands -/
def ItN (n : Nat) (Src : Hp → Prop) (f : Nat → List V) : It := ⟨fun i H => i < n ∧ Src H, fun i H v H' => ∃ T, v = .ref T ∧ H T = none ∧ H' = upd H T (.tup (f i)), fun i H => i = n ∧ Src H⟩
theorem turn_gn {P : Program} {w : World} {K : PySem.W.Frag} {tg : Expr} {n : Nat} {Src : Hp → Prop} {f : Nat → List V} {fp : List Addr} {it : Addr} {tn : Nat → Heap → Prop} (mem : it ∈ fp)
    (obj : ∀ i h, tn i h → ∀ b ∈ fp, ∃ o, h.get? b = some o ∧ ∀ v, o.data ≠ .cell v) (keep : ∀ i h h', tn i h → (∀ b ∈ fp, ∀ o, h.get? b = some o → h'.get? b = some o) → tn i h')
    (self : ∀ (A : Around) (i : Nat) (s : Shared) (Q : Value → Shared → Prop) (E : Value → Shared → Prop), tn i s.heap → Q (.ref it) s → wpAny (model P w) A (pyIter (.ref it)) Q E s)
    (hf : ∀ i, (f i).length ≤ sizeLine)
    (gn : ∀ (X : Cx), X.prog = P → X.w = w → X.calm = true → ∀ (pins : List (Addr × Obj)) (s : Shared) (σ : L2.St) (H : Hp), Inv X pins σ H s → Src H → ∃ fpG wr Y St, GoesN P w X.A tg it fpG wr n Y St ∧ (∀ b ∈ wr, b ∈ fp) ∧
      (∀ i, tn i s.heap → St i s.heap) ∧ (∀ i h, St i h → tn i h) ∧ ∀ i h0 v h, i < n → Y i h0 v h → ∃ T vals, v = .ref T ∧ h0.objs.size ≤ T ∧ h.IsTuple T (List.toArray vals) ∧ Vals (f i) vals) :
    Turn P w K tg (ItN n Src f) fp it tn where
  mem := mem
  obj := obj
  keep := keep
  self := self
  item := by
    intro X hP hw hK hc i pins s σ H E I hfp st hg
    obtain ⟨hi, hS⟩ := hg
    obtain ⟨fpG, wr, Y, St, G, hwr, t1, t2, hY⟩ := gn X hP hw hc pins s σ H I hS
    subst hP hw
    refine thn (G.goes i s (fun u s2 => ∃ x H', Inv X pins σ H' s2 ∧ RelV x u ∧ (ItN n Src f).yld i H x H' ∧ tn (i + 1) s2.heap ∧ ∀ b ∈ fp, H' b = none) E hi (t1 i st) fun v h' tk y st' k htk => ?_) fun r s1 ⟨v, hv, q⟩ => ⟨v, hv, q⟩
    obtain ⟨T, vals, ev, hT, ht, rv⟩ := hY i s.heap v h' hi y
    subst ev
    have hn : H T = none := I.hok.fresh hT
    have I1 : Inv X pins σ (upd H T (.tup (f i))) { s with heap := h', toks := tk } := I.turnedNew (ch := fp) (fun b o hb e => k b o (fun z => hb (hwr b z)) e) hfp hT ⟨hf i, vals, rv, ht⟩
    refine ⟨.ref T, _, I1, rfl, ⟨T, rfl, hn, rfl⟩, t2 _ _ st', fun b hb => ?_⟩
    obtain ⟨o, e, _⟩ := obj i s.heap st b hb
    rw [upd_ne (Nat.ne_of_lt (Nat.lt_of_lt_of_le (Heap.lt_size e) hT))]
    exact (hfp b hb).1
  done := by
    intro X hP hw hK hc i pins s σ H E I hfp st hg
    obtain ⟨hi, hS⟩ := hg
    obtain ⟨fpG, wr, Y, St, G, hwr, t1, t2, hY⟩ := gn X hP hw hc pins s σ H I hS
    subst hP hw hi
    exact G.stops s (fun s1 => Inv X pins σ H s1) E (t1 _ st) fun h' tk k htk => I.turnedL (ch := fp) (fun b o hb e => k b o (fun z => hb (hwr b z)) e) hfp
/-- the values of two sources, of three, at a turn -/
def f2 (xs ys : List V) (i : Nat) : List V := [xs.getD i .non, ys.getD i .non]
def f3 (xs ys zs : List V) (i : Nat) : List V := [xs.getD i .non, ys.getD i .non, zs.getD i .non]
def fE (xs : List V) (i : Nat) : List V := [.int (i : Int), xs.getD i .non]
theorem vals_getD {xs : List V} {its : List Value} {i : Nat} {x : Value} (r : Vals xs its) (h : its.toArray[i]? = some x) : RelV (xs.getD i .non) x := by
  have h2 : its[i]? = some x := by simpa using h
  have hlt : i < xs.length := by
    rw [r.length]
    exact (List.getElem?_eq_some_iff.mp h2).1
  have h3 : xs[i]? = some xs[i] := List.getElem?_eq_getElem hlt
  obtain ⟨u, e1, e2⟩ := r.get h3
  rw [h2] at e1
  cases e1
  rw [List.getD_eq_getElem?_getD, h3]
  exact e2
def iZip2 (k1 k2 : Kd) (ta : TA) : TI := fun σ H R => ta σ H fun vs H1 => ∃ a b xs ys, vs = [.ref a, .ref b] ∧ H1 a = some (k1.ho xs) ∧ H1 b = some (k2.ho ys) ∧ R (ItN (min xs.length ys.length) (fun H => H a = some (k1.ho xs) ∧ H b = some (k2.ho ys)) (f2 xs ys)) H1
def iZip3 (k1 k2 k3 : Kd) (ta : TA) : TI := fun σ H R => ta σ H fun vs H1 => ∃ a b c xs ys zs, vs = [.ref a, .ref b, .ref c] ∧ H1 a = some (k1.ho xs) ∧ H1 b = some (k2.ho ys) ∧ H1 c = some (k3.ho zs) ∧
  R (ItN (min (min xs.length ys.length) zs.length) (fun H => H a = some (k1.ho xs) ∧ H b = some (k2.ho ys) ∧ H c = some (k3.ho zs)) (f3 xs ys zs)) H1
def iEnumK (k1 : Kd) (ta : TA) : TI := fun σ H R => ta σ H fun vs H1 => ∃ a xs, vs = [.ref a] ∧ H1 a = some (k1.ho xs) ∧ R (ItN xs.length (fun H => H a = some (k1.ho xs)) (fE xs)) H1
section
variable {X : Cx} {k1 k2 k3 : Kd}
theorem nlt {h : Heap} {a : Addr} {i : Nat} {o : Obj} (e : h.get? a = some o) : a ≠ h.objs.size + i := Nat.ne_of_lt (Nat.lt_of_lt_of_le (Heap.lt_size e) (Nat.le_add_right _ _))
theorem pi_zip2 {e e2 : Expr} {ta : TA} {p pos tpos : Pos} {elts : List Expr} {kk : Nat} (hg : Gl X "zip") (hm : X.mg "zip" = none) (ha : PA X [e, e2] ta)
    (hs : starEach [e, e2] X.env = (false, eval e X.env) :: starEach [e2] X.env := by rfl) (hpl : (backTo pos (starEach [e2] X.env)).any (·.1) = false := by rfl) :
    PI X (.Tuple elts kk tpos) (.Call (.Name "zip" p) [e, e2] [] pos) (iZip2 k1 k2 ta) := by
  refine ⟨fun pins s σ H R I h => ?_⟩
  refine Call_ (ld_blt I hg hm PyProof.Rows.boot_zip (PyProof.Rows.callWith_type1 (thn (ha.run pos pins s σ H _ I h) fun us s1 ⟨vs, H1, I1, r1, q1⟩ => ?_) hs hpl))
  obtain ⟨a, b, xs, ys, ex, hqx, hqy, q⟩ := q1
  subst ex
  cases r1 with
  | cons r rr =>
    cases rr with
    | cons r' rr =>
      cases rr
      cases r
      cases r'
      obtain ⟨its, rv, p1⟩ := k1.inv I1 hqx
      obtain ⟨its2, rv2, p2⟩ := k2.inv I1 hqy
      have la : a < s1.heap.objs.size := I1.hok.lt hqx
      have lb : b < s1.heap.objs.size := I1.hok.lt hqy
      refine zip_begins2 (k1.begins a its.toArray) (k2.begins b its2.toArray) p1 p2 fun h' hz hTI hTO h1 h2 hsz hk => wpAny_pyIter_zip hz ?_
      have I2 : Inv X pins σ H1 { s1 with heap := h' } := I1.kept (t' := s1.toks) hk
      generalize hN : s1.heap.objs.size = N at *
      refine ⟨N + 4, [N + 4, N + 2, N + 3, N, N + 1], fun i h => IsZip h (N + 4) (N + 2) (N + 3) .none ∧ IsTupOf2 h (N + 2) (.ref N) (.ref (N + 1)) ∧ (∃ a1 a2, IsTupOf2 h (N + 3) a1 a2) ∧ k1.isIt h N a i ∧ k2.isIt h (N + 1) b i, _, H1, rfl, I2,
        turn_gn (List.mem_cons_self ..) (fun i h st c hc => ?_) (fun i h h' st k => ?_) (fun A i s Q E st h => wpAny_pyIter_zip st.1 h) (fun i => by show 2 ≤ sizeLine; decide) (fun Y hP hw hc pins' s' σ' H' I' hS => ?_), ⟨hz, hTI, ⟨_, _, hTO⟩, k1.it0 h1, k2.it0 h2⟩, fun c hcm => ?_, q⟩
      · obtain ⟨a1, a2, ⟨x, y, a3⟩, a4, a5⟩ := st
        have e' : c = N + 4 ∨ c = N + 2 ∨ c = N + 3 ∨ c = N ∨ c = N + 1 := by simpa using hc
        rcases e' with z | z | z | z | z
        · rw [z]; exact ⟨_, a1, fun v q => nomatch q⟩
        · rw [z]; exact ⟨_, a2, fun v q => nomatch q⟩
        · rw [z]; exact ⟨_, a3, fun v q => nomatch q⟩
        · rw [z]; exact k1.itObj a4
        · rw [z]; exact k2.itObj a5
      · obtain ⟨a1, a2, ⟨x, y, a3⟩, a4, a5⟩ := st
        exact ⟨k _ (by simp) _ a1, k _ (by simp) _ a2, ⟨x, y, k _ (by simp) _ a3⟩, k1.itKeep a4 (k _ (by simp)), k2.itKeep a5 (k _ (by simp))⟩
      · obtain ⟨jts, rw1, p3⟩ := k1.inv I' hS.1
        obtain ⟨jts2, rw2, p4⟩ := k2.inv I' hS.2
        have l1 := rw1.length
        have l2 := rw2.length

        have hh := I'.ok.hd hc
        have G := GoesN.zip2 (elts := elts) (x1 := kk) (pos := tpos) (zip_sep2 (N := N) (fp1 := [a]) (fp2 := [b]) (fun c hc => by rw [List.mem_singleton.mp hc]; exact la) (fun c hc => by rw [List.mem_singleton.mp hc]; exact lb))
          (k1.draws (prog := X.prog) (w := X.w) (A := Y.A.in1) hh N a (Nat.ne_of_lt la) jts.toArray) (k2.draws (prog := X.prog) (w := X.w) (A := Y.A.in1) hh (N + 1) b (Nat.ne_of_lt (Nat.lt_succ_of_lt lb)) jts2.toArray)
        have en : min jts.toArray.size jts2.toArray.size = min xs.length ys.length := by rw [List.size_toArray, List.size_toArray, l1, l2]
        rw [en] at G
        refine ⟨_, _, _, _, G, fun c hc => ?_, fun i st => ⟨st.1, st.2.1, st.2.2.1, ⟨st.2.2.2.1, p3⟩, st.2.2.2.2, p4⟩, fun i h st => ⟨st.1, st.2.1, st.2.2.1, st.2.2.2.1.1, st.2.2.2.2.1⟩, fun i h0 v h hi y => ?_⟩
        · have e' : c = N + 4 ∨ c = N + 3 ∨ c = N ∨ c = N + 1 := by simpa using hc
          simp only [List.mem_cons, List.not_mem_nil, or_false]
          rcases e' with z | z | z | z
          · exact .inl z
          · exact .inr (.inr (.inl z))
          · exact .inr (.inr (.inr (.inl z)))
          · exact .inr (.inr (.inr (.inr z)))
        · obtain ⟨T, x, y', ev, hT, hx, hy, ht⟩ := y
          exact ⟨T, [x, y'], ev, hT, ht, .cons (vals_getD rw1 hx) (.cons (vals_getD rw2 hy) .nil)⟩
      · have e' : c = N + 4 ∨ c = N + 2 ∨ c = N + 3 ∨ c = N ∨ c = N + 1 := by simpa using hcm
        have hle : N ≤ c := by
          rcases e' with z | z | z | z | z <;> rw [z] <;> first | exact Nat.le_add_right _ _ | exact Nat.le_refl _
        rw [← hN] at hle
        exact I1.fpOk hle (I1.hok.fresh hle)
theorem pi_zip3 {e e2 e3 : Expr} {ta : TA} {p pos tpos : Pos} {elts : List Expr} {kk : Nat} (hg : Gl X "zip") (hm : X.mg "zip" = none) (ha : PA X [e, e2, e3] ta)
    (hs : starEach [e, e2, e3] X.env = (false, eval e X.env) :: starEach [e2, e3] X.env := by rfl) (hpl : (backTo pos (starEach [e2, e3] X.env)).any (·.1) = false := by rfl) :
    PI X (.Tuple elts kk tpos) (.Call (.Name "zip" p) [e, e2, e3] [] pos) (iZip3 k1 k2 k3 ta) := by
  refine ⟨fun pins s σ H R I h => ?_⟩
  refine Call_ (ld_blt I hg hm PyProof.Rows.boot_zip (PyProof.Rows.callWith_type1 (thn (ha.run pos pins s σ H _ I h) fun us s1 ⟨vs, H1, I1, r1, q1⟩ => ?_) hs hpl))
  obtain ⟨a, b, c, xs, ys, zs, ex, hqx, hqy, hqz, q⟩ := q1
  subst ex
  cases r1 with
  | cons r rr =>
    cases rr with
    | cons r' rr =>
      cases rr with
      | cons r'' rr =>
        cases rr
        cases r
        cases r'
        cases r''
        obtain ⟨its, rv, p1⟩ := k1.inv I1 hqx
        obtain ⟨its2, rv2, p2⟩ := k2.inv I1 hqy
        obtain ⟨its3, rv3, p3⟩ := k3.inv I1 hqz
        have la : a < s1.heap.objs.size := I1.hok.lt hqx
        have lb : b < s1.heap.objs.size := I1.hok.lt hqy
        have lc : c < s1.heap.objs.size := I1.hok.lt hqz
        refine zip_begins3 (k1.begins a its.toArray) (k2.begins b its2.toArray) (k3.begins c its3.toArray) p1 p2 p3 fun h' hz hTI hTO h1 h2 h3 hsz hk => wpAny_pyIter_zip hz ?_
        have I2 : Inv X pins σ H1 { s1 with heap := h' } := I1.kept (t' := s1.toks) hk
        generalize hN : s1.heap.objs.size = N at *
        refine ⟨N + 5, [N + 5, N + 3, N + 4, N, N + 1, N + 2], fun i h => IsZip h (N + 5) (N + 3) (N + 4) .none ∧ IsTupOf3 h (N + 3) (.ref N) (.ref (N + 1)) (.ref (N + 2)) ∧ (∃ a1 a2 a3, IsTupOf3 h (N + 4) a1 a2 a3) ∧ k1.isIt h N a i ∧ k2.isIt h (N + 1) b i ∧ k3.isIt h (N + 2) c i, _, H1, rfl, I2,
          turn_gn (List.mem_cons_self ..) (fun i h st d hd => ?_) (fun i h h' st k => ?_) (fun A i s Q E st h => wpAny_pyIter_zip st.1 h) (fun i => by show 3 ≤ sizeLine; decide) (fun Y hP hw hc pins' s' σ' H' I' hS => ?_), ⟨hz, hTI, ⟨_, _, _, hTO⟩, k1.it0 h1, k2.it0 h2, k3.it0 h3⟩, fun d hcm => ?_, q⟩
        · obtain ⟨a1, a2, ⟨x, y, u, a3⟩, a4, a5, a6⟩ := st
          have e' : d = N + 5 ∨ d = N + 3 ∨ d = N + 4 ∨ d = N ∨ d = N + 1 ∨ d = N + 2 := by simpa using hd
          rcases e' with z | z | z | z | z | z
          · rw [z]; exact ⟨_, a1, fun v q => nomatch q⟩
          · rw [z]; exact ⟨_, a2, fun v q => nomatch q⟩
          · rw [z]; exact ⟨_, a3, fun v q => nomatch q⟩
          · rw [z]; exact k1.itObj a4
          · rw [z]; exact k2.itObj a5
          · rw [z]; exact k3.itObj a6
        · obtain ⟨a1, a2, ⟨x, y, u, a3⟩, a4, a5, a6⟩ := st
          exact ⟨k _ (by simp) _ a1, k _ (by simp) _ a2, ⟨x, y, u, k _ (by simp) _ a3⟩, k1.itKeep a4 (k _ (by simp)), k2.itKeep a5 (k _ (by simp)), k3.itKeep a6 (k _ (by simp))⟩
        · obtain ⟨jts, rw1, p4⟩ := k1.inv I' hS.1
          obtain ⟨jts2, rw2, p5⟩ := k2.inv I' hS.2.1
          obtain ⟨jts3, rw3, p6⟩ := k3.inv I' hS.2.2
          have l1 := rw1.length
          have l2 := rw2.length
          have l3 := rw3.length

          have hh := I'.ok.hd hc
          have G := GoesN.zip3 (elts := elts) (x1 := kk) (pos := tpos) (zip_sep3 (N := N) (fp1 := [a]) (fp2 := [b]) (fp3 := [c]) (fun d hd => by rw [List.mem_singleton.mp hd]; exact la) (fun d hd => by rw [List.mem_singleton.mp hd]; exact lb) (fun d hd => by rw [List.mem_singleton.mp hd]; exact lc))
            (k1.draws (prog := X.prog) (w := X.w) (A := Y.A.in1) hh N a (Nat.ne_of_lt la) jts.toArray) (k2.draws (prog := X.prog) (w := X.w) (A := Y.A.in1) hh (N + 1) b (Nat.ne_of_lt (Nat.lt_succ_of_lt lb)) jts2.toArray)
            (k3.draws (prog := X.prog) (w := X.w) (A := Y.A.in1) hh (N + 2) c (Nat.ne_of_lt (Nat.lt_succ_of_lt (Nat.lt_succ_of_lt lc))) jts3.toArray)
          have en : min (min jts.toArray.size jts2.toArray.size) jts3.toArray.size = min (min xs.length ys.length) zs.length := by rw [List.size_toArray, List.size_toArray, List.size_toArray, l1, l2, l3]
          rw [en] at G
          refine ⟨_, _, _, _, G, fun d hd => ?_, fun i st => ⟨st.1, st.2.1, st.2.2.1, ⟨st.2.2.2.1, p4⟩, ⟨st.2.2.2.2.1, p5⟩, st.2.2.2.2.2, p6⟩, fun i h st => ⟨st.1, st.2.1, st.2.2.1, st.2.2.2.1.1, st.2.2.2.2.1.1, st.2.2.2.2.2.1⟩, fun i h0 v h hi y => ?_⟩
          · have e' : d = N + 5 ∨ d = N + 4 ∨ d = N ∨ d = N + 1 ∨ d = N + 2 := by simpa using hd
            simp only [List.mem_cons, List.not_mem_nil, or_false]
            rcases e' with z | z | z | z | z
            · exact .inl z
            · exact .inr (.inr (.inl z))
            · exact .inr (.inr (.inr (.inl z)))
            · exact .inr (.inr (.inr (.inr (.inl z))))
            · exact .inr (.inr (.inr (.inr (.inr z))))
          · obtain ⟨T, x, y', u, ev, hT, hx, hy, hu, ht⟩ := y
            exact ⟨T, [x, y', u], ev, hT, ht, .cons (vals_getD rw1 hx) (.cons (vals_getD rw2 hy) (.cons (vals_getD rw3 hu) .nil))⟩
        · have e' : d = N + 5 ∨ d = N + 3 ∨ d = N + 4 ∨ d = N ∨ d = N + 1 ∨ d = N + 2 := by simpa using hcm
          have hle : N ≤ d := by
            rcases e' with z | z | z | z | z | z <;> rw [z] <;> first | exact Nat.le_add_right _ _ | exact Nat.le_refl _
          rw [← hN] at hle
          exact I1.fpOk hle (I1.hok.fresh hle)
end
/-! ### enumerate -/
theorem meets_enumerate_new1 {v : Value} {o : Obj} {H : Heap → Prop} (B : Begins v o H) :
    Meets (Builtin.«enumerate.__new__» ⟨[.type "enumerate", v], []⟩) (fun _ R s => H s.heap ∧
      R (.ok (.ret (.ref (s.heap.push o).objs.size))) { s with heap := (s.heap.push o).push { cls := .type "enumerate", data := .fields #[.none, .bool false, .ref s.heap.objs.size, rawInt 0, .none, .none] } }) :=
  .of_wp fun prog w A R s h => by
    obtain ⟨hp, g, d, tk, os⟩ := s; obtain ⟨h1, h⟩ := h
    have hsub := sub_enumerate
    have q1 : ∀ {A' : Around} {E : Value → Shared → Prop} {Q : Value → Shared → Prop}, Q (.ref hp.objs.size) ⟨hp.push o, g, d, tk, os⟩ → wpAny (model prog w) A' (pyIter v) Q E ⟨hp, g, d, tk, os⟩ :=
      fun q => B.iter prog w _ _ ⟨hp, g, d, tk, os⟩ _ h1 q
    wp_walk using q1
    refine wpAny_stack_any fun st => wpAny_pure ?_
    split
    · rename_i c _ _ _ _ _
      cases (c == Value.type "enumerate")
      · wp_walk using q1
        exact ⟨_, rfl, h⟩
      · wp_walk using q1
        exact ⟨_, rfl, h⟩
    · wp_walk using q1
      exact ⟨_, rfl, h⟩
theorem enum_begins1 {prog : Program} {w : World} {A : Around} {E : Value → Shared → Prop} {s : Shared} {v : Value} {o : Obj} {H : Heap → Prop} {Q : Value → Shared → Prop} (B : Begins v o H) (h1 : H s.heap)
    (h : ∀ h', IsEnum h' (s.heap.objs.size + 1) s.heap.objs.size 0 .none → h'.get? s.heap.objs.size = some o → h'.objs.size = s.heap.objs.size + 2 →
      (∀ b o, s.heap.get? b = some o → h'.get? b = some o) → Q (.ref (s.heap.objs.size + 1)) { s with heap := h' }) :
    wpAny (model prog w) A (call (.type "enumerate") [v]) Q E s := by
  refine callType_new F.called_enumerate (by decide) (F.typeCall_enumerate_1 _) (F.newCall_enumerate_1 _) (fun obj => F.args_object_init_2 obj _) F.entry_enumerate_new
    (meets_enumerate_new1 B) ⟨h1, ?_⟩
  have hz : (s.heap.push o).objs.size = s.heap.objs.size + 1 := Heap.size_push ..
  show _ ∧ _
  rw [hz]
  have he : IsEnum ((s.heap.push o).push { cls := .type "enumerate", data := .fields #[.none, .bool false, .ref s.heap.objs.size, rawInt 0, .none, .none] }) (s.heap.objs.size + 1) s.heap.objs.size 0 .none := by
    have := Heap.get?_push_size (s.heap.push o) (o := { cls := .type "enumerate", data := .fields #[.none, .bool false, .ref s.heap.objs.size, rawInt 0, .none, .none] }) rfl
    rw [hz] at this; exact this
  refine ⟨⟨_, he, rfl⟩, h _ he (Heap.get?_push_of_some _ (Heap.get?_push_size _ B.free)) (by rw [Heap.size_push, hz]) fun b o x => Heap.get?_push_of_some _ (Heap.get?_push_of_some _ x)⟩
theorem zero_add_nat (i : Nat) : (0 : Int) + (i : Int) = (i : Int) := Int.zero_add _
theorem pi_enumK {X : Cx} {k1 : Kd} {e : Expr} {ta : TA} {p pos tpos : Pos} {elts : List Expr} {kk : Nat} (hg : Gl X "enumerate") (hm : X.mg "enumerate" = none) (ha : PA X [e] ta) (hs : starEach [e] X.env = [(false, eval e X.env)] := by rfl) :
    PI X (.Tuple elts kk tpos) (.Call (.Name "enumerate" p) [e] [] pos) (iEnumK k1 ta) := by
  refine ⟨fun pins s σ H R I h => ?_⟩
  refine Call_ (ld_blt I hg hm boot_enumerate (PyProof.Rows.callWith_type1 (thn (ha.run pos pins s σ H _ I h) fun us s1 ⟨vs, H1, I1, r1, q1⟩ => ?_) hs rfl))
  obtain ⟨a, xs, ex, hqx, q⟩ := q1
  subst ex
  cases r1 with
  | cons r rr =>
    cases rr
    cases r
    obtain ⟨its, rv, p1⟩ := k1.inv I1 hqx
    have la : a < s1.heap.objs.size := I1.hok.lt hqx
    refine enum_begins1 (k1.begins a its.toArray) p1 fun h' he h1 hsz hk => wpAny_pyIter_enum he ?_
    have I2 : Inv X pins σ H1 { s1 with heap := h' } := I1.kept (t' := s1.toks) hk
    generalize hN : s1.heap.objs.size = N at *
    refine ⟨N + 1, [N + 1, N], fun i h => (∃ old, IsEnum h (N + 1) N ((0 : Int) + (i : Int)) old) ∧ k1.isIt h N a i, _, H1, rfl, I2,
      turn_gn (List.mem_cons_self ..) (fun i h st c hc => ?_) (fun i h h' st k => ?_) (fun A i s Q E st h => let ⟨⟨_, he⟩, _⟩ := st; wpAny_pyIter_enum he h) (fun i => by show 2 ≤ sizeLine; decide) (fun Y hP hw hc pins' s' σ' H' I' hS => ?_), ⟨⟨_, he⟩, k1.it0 h1⟩, fun c hcm => ?_, q⟩
    · obtain ⟨⟨old, a1⟩, a4⟩ := st
      have e' : c = N + 1 ∨ c = N := by simpa using hc
      rcases e' with z | z
      · rw [z]; exact ⟨_, a1, fun v q => nomatch q⟩
      · rw [z]; exact k1.itObj a4
    · obtain ⟨⟨old, a1⟩, a4⟩ := st
      exact ⟨⟨old, k _ (by simp) _ a1⟩, k1.itKeep a4 (k _ (by simp))⟩
    · obtain ⟨jts, rw1, p3⟩ := k1.inv I' hS
      have l1 := rw1.length
      have hh := I'.ok.hd hc
      have G := GoesN.enumFrom (elts := elts) (x1 := kk) (pos := tpos) 0 (k1.draws (prog := X.prog) (w := X.w) (A := Y.A.in1) hh N a (Nat.ne_of_lt la) jts.toArray) (N + 1) (Nat.succ_ne_self _)
        (fun hm => by
          have e' : N + 1 = N ∨ N + 1 = a := by simpa using hm
          rcases e' with z | z
          · exact Nat.succ_ne_self _ z
          · exact absurd la (by rw [← z]; exact Nat.not_lt.mpr (Nat.le_succ _))) (List.mem_cons_self ..)
      have en : jts.toArray.size = xs.length := by rw [List.size_toArray, l1]
      rw [en] at G
      refine ⟨_, _, _, _, G, fun c hc => hc, fun i st => ⟨st.1, st.2, p3⟩, fun i h st => ⟨st.1, st.2.1⟩, fun i h0 v h hi y => ?_⟩
      obtain ⟨T, t, x, ev, hT, hx, ht⟩ := y
      rw [zero_add_nat] at ht
      exact ⟨T, [.int (i : Int) t, x], ev, hT, ht, .cons ⟨t, rfl⟩ (.cons (vals_getD rw1 hx) .nil)⟩
    · have e' : c = N + 1 ∨ c = N := by simpa using hcm
      have hle : N ≤ c := by
        rcases e' with z | z <;> rw [z] <;> first | exact Nat.le_add_right _ _ | exact Nat.le_refl _
      rw [← hN] at hle
      exact I1.fpOk hle (I1.hok.fresh hle)
/-! ### what these walk, by what is known -/
section
variable {W : Wd} {S : Shr} {env : List Sv} {tr : TA} {Ps Qs Rs : List MVP}
/-- such a list, such a tuple -/
def kP (k : Kd) (Ps : List MVP) : MVP := ⟨fun F v => ∃ a vs, v = .ref a ∧ F a = some (k.ho vs) ∧ All F vs Ps, fun _ _ _ e ⟨a, vs, h1, h2, h3⟩ => ⟨a, vs, h1, e _ _ h2, pair_mono e h3⟩⟩
theorem kP_L : kP kL Ps = lP Ps := rfl
theorem kP_T : kP kT Ps = tP Ps := rfl
theorem getD_all {F : Hp} {vs : List V} {i : Nat} {P : MVP} (h : All F vs Ps) (e : Ps[i]? = some P) : P.P F (vs.getD i .non) := by
  obtain ⟨v, h1, h2⟩ := all_get h e
  rw [List.getD_eq_getElem?_getD, h1]
  exact h2
theorem iter_N {n : Nat} {Src : Hp → Prop} {f : Nat → List V} {F : Hp} {Ps : List MVP} {g : Nat → List MVP} (hl : Ps.length = n) (hS : ∀ H, Ex F H → Src H) (hg : ∀ (i : Nat) P, Ps[i]? = some P → P = tP (g i) ∧ All F (f i) (g i)) : Iter S (ItN n Src f) F Ps where
  go := fun i P F2 H hP e1 e2 => by
    obtain ⟨e3, al⟩ := hg i P hP
    refine ⟨⟨by rw [← hl]; exact (List.getElem?_eq_some_iff.mp hP).1, hS H (e1.trans e2)⟩, fun x H' ⟨T, ex, hT, eH⟩ => ?_⟩
    subst ex eH e3
    exact ⟨_, Go.fresh e2 hT, T, f i, rfl, upd_same, pair_mono (e1.trans (Ex.new (e2.nn hT))) al⟩
  stop := fun H e => ⟨hl, hS H e⟩
def zip2P (Ps Qs : List MVP) : List MVP := (Ps.zip Qs).map fun x => tP [x.1, x.2]
def zip3P (Ps Qs Rs : List MVP) : List MVP := (Ps.zip (Qs.zip Rs)).map fun x => tP [x.1, x.2.1, x.2.2]
theorem ei_zip2 {k1 k2 : Kd} (h : EvAs W tr env [kP k1 Ps, kP k2 Qs]) : EvI W (iZip2 k1 k2 tr) env (zip2P Ps Qs) := fun σ F H e so sl R k => h σ F H e so sl _ fun vs F1 H1 g q => by
  cases q with
  | cons q1 q =>
    cases q with
    | cons q2 q =>
      cases q
      obtain ⟨a, xs, e1, h1, a1⟩ := q1
      obtain ⟨b, ys, e2, h2, a2⟩ := q2
      subst e1 e2
      refine ⟨a, b, xs, ys, rfl, g.eh _ _ h1, g.eh _ _ h2, k _ F1 H1 g (iter_N (g := fun i => [Ps.getD i nP, Qs.getD i nP]) ?_ (fun H' e' => ⟨e' _ _ h1, e' _ _ h2⟩) fun i P hP => ?_)⟩
      · unfold zip2P
        rw [List.length_map, List.length_zip, all_len a1, all_len a2]
      · unfold zip2P at hP
        rw [List.getElem?_map] at hP
        cases hz : (Ps.zip Qs)[i]? with
        | none =>
          rw [hz] at hP
          cases hP
        | some z =>
          rw [hz] at hP
          obtain ⟨z1, z2⟩ := List.getElem?_zip_eq_some.mp hz
          refine ⟨?_, .cons ?_ (.cons ?_ .nil)⟩
          · rw [← Option.some.inj hP, List.getD_eq_getElem?_getD, List.getD_eq_getElem?_getD, z1, z2]
            rfl
          · show (Ps.getD i nP).P _ _
            rw [List.getD_eq_getElem?_getD, z1]
            exact getD_all a1 z1
          · show (Qs.getD i nP).P _ _
            rw [List.getD_eq_getElem?_getD, z2]
            exact getD_all a2 z2
theorem ei_zip3 {k1 k2 k3 : Kd} (h : EvAs W tr env [kP k1 Ps, kP k2 Qs, kP k3 Rs]) : EvI W (iZip3 k1 k2 k3 tr) env (zip3P Ps Qs Rs) := fun σ F H e so sl R k => h σ F H e so sl _ fun vs F1 H1 g q => by
  cases q with
  | cons q1 q =>
    cases q with
    | cons q2 q =>
      cases q with
      | cons q3 q =>
        cases q
        obtain ⟨a, xs, e1, h1, a1⟩ := q1
        obtain ⟨b, ys, e2, h2, a2⟩ := q2
        obtain ⟨c, zs, e3, h3, a3⟩ := q3
        subst e1 e2 e3
        refine ⟨a, b, c, xs, ys, zs, rfl, g.eh _ _ h1, g.eh _ _ h2, g.eh _ _ h3, k _ F1 H1 g (iter_N (g := fun i => [Ps.getD i nP, Qs.getD i nP, Rs.getD i nP]) ?_ (fun H' e' => ⟨e' _ _ h1, e' _ _ h2, e' _ _ h3⟩) fun i P hP => ?_)⟩
        · unfold zip3P
          rw [List.length_map, List.length_zip, List.length_zip, all_len a1, all_len a2, all_len a3]
          omega
        · unfold zip3P at hP
          rw [List.getElem?_map] at hP
          cases hz : (Ps.zip (Qs.zip Rs))[i]? with
          | none =>
            rw [hz] at hP
            cases hP
          | some z =>
            rw [hz] at hP
            obtain ⟨z1, z23⟩ := List.getElem?_zip_eq_some.mp hz
            obtain ⟨z2, z3⟩ := List.getElem?_zip_eq_some.mp z23
            refine ⟨?_, .cons ?_ (.cons ?_ (.cons ?_ .nil))⟩
            · rw [← Option.some.inj hP, List.getD_eq_getElem?_getD, List.getD_eq_getElem?_getD, List.getD_eq_getElem?_getD, z1, z2, z3]
              rfl
            · show (Ps.getD i nP).P _ _
              rw [List.getD_eq_getElem?_getD, z1]
              exact getD_all a1 z1
            · show (Qs.getD i nP).P _ _
              rw [List.getD_eq_getElem?_getD, z2]
              exact getD_all a2 z2
            · show (Rs.getD i nP).P _ _
              rw [List.getD_eq_getElem?_getD, z3]
              exact getD_all a3 z3
def enumP (Ps : List MVP) : List MVP := Ps.zipIdx.map fun x => tP [iP (x.2 : Int), x.1]
theorem ei_enum {k1 : Kd} (h : EvAs W tr env [kP k1 Ps]) : EvI W (iEnumK k1 tr) env (enumP Ps) := fun σ F H e so sl R k => h σ F H e so sl _ fun vs F1 H1 g q => by
  cases q with
  | cons q1 q =>
    cases q
    obtain ⟨a, xs, e1, h1, a1⟩ := q1
    subst e1
    refine ⟨a, xs, rfl, g.eh _ _ h1, k _ F1 H1 g (iter_N (g := fun i => [iP (i : Int), Ps.getD i nP]) ?_ (fun H' e' => e' _ _ h1) fun i P hP => ?_)⟩
    · unfold enumP
      rw [List.length_map, List.length_zipIdx, all_len a1]
    · unfold enumP at hP
      rw [List.getElem?_map, List.getElem?_zipIdx] at hP
      cases hz : Ps[i]? with
      | none =>
        rw [hz] at hP
        cases hP
      | some z =>
        rw [hz] at hP
        refine ⟨?_, .cons rfl (.cons ?_ .nil)⟩
        · rw [← Option.some.inj hP, List.getD_eq_getElem?_getD, hz, Nat.zero_add]
          rfl
        · show (Ps.getD i nP).P _ _
          rw [List.getD_eq_getElem?_getD, hz]
          exact getD_all a1 hz
end
end Ly
namespace Ly
open PySem PySem.Spec PyProof.Rows L2
/-! ### dicts whose keys are tuples of ints and bools, whose values are bools -/
def kN : V → NestedKey
  | .int i => .num i
  | .bl b => .num (if b = true then 1 else 0)
  | _ => .none
def isN : V → Bool
  | .int _ => true
  | .bl _ => true
  | _ => false
abbrev KX := List (NestedKey × Addr × Value)
def kdO (w : World) (a : Addr) (xs : KX) : HO := .ext fun h => (a == sysModules) = false ∧ ∃ o es ep, h.get? a = some o ∧ o.ExactDict ∧ o.data = .dict es ep ∧ es.toList = xs.map (fun x : NestedKey × Addr × Value => DictEntry.mk (x.1.hash w) (.ref x.2.1) x.2.2)
structure KOk (H : Hp) (xs : KX) : Prop where
  ks : ∀ x ∈ xs, ∃ vs, H x.2.1 = some (.tup vs) ∧ vs.all isN = true ∧ x.1 = .tup (vs.map kN)
  nd : (xs.map (·.1)).Nodup
theorem KOk.m {H H' : Hp} {xs : KX} (k : KOk H xs) (e : ∀ b vs, H b = some (.tup vs) → H' b = some (.tup vs)) : KOk H' xs := ⟨fun x hx => by
  obtain ⟨vs, h1, h2, h3⟩ := k.ks x hx
  exact ⟨vs, e _ _ h1, h2, h3⟩, k.nd⟩
theorem entry_eq {P : Program} {w : World} (xs : KX) : xs.map (fun x : NestedKey × Addr × Value => DictEntry.mk (x.1.hash w) (.ref x.2.1) x.2.2) = xs.map (entryOfKey (nestedKind P w)) := rfl
theorem kN_is {h : Heap} {v : V} {u : Value} (hv : isN v = true) (r : RelV v u) : NestedIs h (kN v) u := by
  cases v with
  | int i =>
    obtain ⟨t, rfl⟩ := r
    exact .int i t
  | bl b =>
    cases r
    exact .bool rfl
  | _ => cases hv
theorem kN_all {h : Heap} : ∀ {vs : List V} {us : List Value}, vs.all isN = true → Vals vs us → NestedAll h (vs.map kN) us
  | [], _, _, .nil => .nil
  | v :: vs, _, hv, .cons r t => by
    rw [List.all_cons, Bool.and_eq_true] at hv
    exact .cons (kN_is hv.1 r) (kN_all hv.2 t)
theorem kN_depth : ∀ (vs : List V), NestedKey.depthAll (vs.map kN) = 0
  | [] => rfl
  | v :: vs => by
    rw [List.map_cons, NestedKey.depthAll, kN_depth vs]
    cases v <;> rfl
section
variable {P : Program} {w : World} {H : Hp} {h : Heap} {a p : Addr} {xs : KX} {vs : List V}
theorem kd_key (ok : HOk P w H h) (e : H a = some (.tup vs)) (hv : vs.all isN = true) : (nestedKind P w).is h (.tup (vs.map kN)) a := by
  obtain ⟨_, its, r, o, h1, h2, n, h3⟩ := (show ObjOk P w H h a (.tup vs) from ok a _ e)
  refine ⟨.tup h1 h2 h3 (by simpa using kN_all hv r), ?_⟩
  rw [NestedKey.depth, kN_depth]
  omega
theorem kd_at (ok : HOk P w H h) (e : H p = some (kdO w a xs)) : a = p := by
  obtain ⟨f, ⟨o, ho⟩, st⟩ := (show ObjOk P w H h p (kdO w a xs) from ok p _ e)
  by_cases hap : a = p
  · exact hap
  · have g := st h (PySem.W.hideAll h [a]) f fun o' e' => PySem.W.hideAll_get _ e' (by simpa using fun z : p = a => hap z.symm)
    obtain ⟨_, o', _, _, e', _⟩ := g
    rw [PySem.W.hideAll_none [a] (by simp)] at e'
    cases e'
theorem kd_of (ok : HOk P w H h) (e : H p = some (kdO w a xs)) (k : KOk H xs) : a = p ∧ (p == sysModules) = false ∧ h.DictOfH (nestedKind P w) p xs := by
  have e1 := kd_at ok e
  subst e1
  obtain ⟨⟨sm, o, es, ep, h1, h2, h3, h4⟩, _, _⟩ := (show ObjOk P w H h a (kdO w a xs) from ok a _ e)
  refine ⟨rfl, sm, o, es, ep, h1, h2, h3, h4, fun x hx => ?_, k.nd⟩
  obtain ⟨vs, q1, q2, q3⟩ := k.ks x hx
  rw [q3]
  exact kd_key ok q1 q2
theorem kd_new {h' : Heap} {H' : Hp} (sm : (p == sysModules) = false) (d : h'.DictOfH (nestedKind P w) p xs) : ObjOk P w H' h' p (kdO w p xs) := by
  obtain ⟨o, es, ep, h1, h2, h3, h4, _, _⟩ := d
  exact ⟨⟨sm, o, es, ep, h1, h2, h3, h4⟩, ⟨o, h1⟩, fun x y ⟨q0, o', es', ep', q1, q2⟩ k => ⟨q0, o', es', ep', k _ q1, q2⟩⟩
end
def keyB (xs : KX) (vs : List V) : Option Value := (atKey xs (.tup (vs.map kN))).map (·.2)
def tKNew (w : World) : TE := fun _ H Q => ∀ p, H p = none → Q (.ref p) (upd H p (kdO w p []))
def tKGet (w : World) (td ty : TE) : TE := fun σ H Q => td σ H fun x H1 => ty σ H1 fun y H2 => ∃ p a xs b vs c, x = .ref p ∧ H2 p = some (kdO w a xs) ∧ KOk H2 xs ∧ y = .ref b ∧ H2 b = some (.tup vs) ∧ vs.all isN = true ∧ keyB xs vs = some (.bool c) ∧ Q (.bl c) H2
def tKNotIn (w : World) (ty td : TE) : TE := fun σ H Q => ty σ H fun y H1 => td σ H1 fun x H2 => ∃ p a xs b vs, x = .ref p ∧ H2 p = some (kdO w a xs) ∧ KOk H2 xs ∧ y = .ref b ∧ H2 b = some (.tup vs) ∧ vs.all isN = true ∧ Q (.bl (!(keyB xs vs).isSome)) H2
def sKPut (w : World) (td ty tv : TE) : TS := fun D σ H => tv σ H fun v H1 => td σ H1 fun x H2 => ty σ H2 fun y H3 => ∃ p a xs b vs c, v = .bl c ∧ x = .ref p ∧ H3 p = some (kdO w a xs) ∧ KOk H3 xs ∧ y = .ref b ∧ H3 b = some (.tup vs) ∧ vs.all isN = true ∧ xs.length ≤ 1000000 ∧
  D.nx σ (upd H3 p (kdO w a (storedH xs (.tup (vs.map kN)) b (.bool c))))
section
variable {X : Cx} {o i value : Expr} {pos pos' : Pos} {td ty tv : TE}
theorem pe_knew : PE X (.Dict [] [] pos) (tKNew X.w) := ⟨fun pins s σ H Q I h =>
  wpAny_Dict_empty ⟨.ref s.heap.objs.size, _, I.laid (a := s.heap.objs.size) (o := kdO X.w s.heap.objs.size []) (t' := s.toks) (fun _ _ q => Heap.get?_push_of_some _ q) (Nat.le_refl _)
    (kd_new (P := X.prog) (beq_eq_false_iff_ne.mpr (Ne.symm (Nat.ne_of_lt I.big))) (Heap.DictOfH.new _)), rfl, h _ (I.hok.fresh (Nat.le_refl _))⟩⟩
theorem kd_ty {s : Shared} {a : Addr} {xs : KX} {P : Program} {w : World} (d : s.heap.DictOfH (nestedKind P w) a xs) : s.TypeIs (.ref a) "dict" := d.typeIs
theorem n_room {A : Around} (hu : A.units + 64 < cLine) {P : Program} {w : World} : (nestedKind P w).room A.in1 := by
  show A.units + 1 + 8 < cLine
  omega
theorem pe_kget (hu : X.A.units + 64 < cLine) (ho : PE X o td) (hi : PE X i ty) (hs : NoSl i) : PE X (.Subscript o i pos) (tKGet X.w td ty) := by
  refine ⟨fun pins s σ H Q I h => ?_⟩
  refine subD_of PySem.F.slot_dict_getitem.lookup hs (thn (ho.run pins s σ H _ I h) fun u s1 ⟨x, H1, I1, rx, q1⟩ => thn (hi.run pins s1 σ H1 _ I1 q1) fun iv s2 ⟨y, H2, I2, ry, p, a, xs, b, vs, c, ex, e, k, ey, eb, hv, hc, q2⟩ => ?_)
  subst ex ey
  obtain rfl : u = Value.ref p := rx
  obtain rfl : iv = Value.ref b := ry
  obtain ⟨ea, sm, d⟩ := kd_of I2.hok e k
  unfold keyB at hc
  obtain ⟨r, hr, hr2⟩ := Option.map_eq_some_iff.mp hc
  refine ⟨d.typeIs, wpAny_getItem_heap (n_room hu) (kd_key I2.hok eb hv) d hr ?_⟩
  rw [hr2]
  exact ⟨.bl c, H2, I2.tok _, rfl, q2⟩
theorem pc_knotin (hu : X.A.units + 64 < cLine) (hi : PE X i ty) (ho : PE X o td) : PC X .NotIn i o (tKNotIn X.w ty td) := by
  refine ⟨fun pins s σ H Q I h => ?_⟩
  refine thn (hi.run pins s σ H _ I h) fun iv s1 ⟨y, H1, I1, ry, q1⟩ => thn (ho.run pins s1 σ H1 _ I1 q1) fun u s2 ⟨x, H2, I2, rx, p, a, xs, b, vs, ex, e, k, ey, eb, hv, q2⟩ => ?_
  subst ex ey
  obtain rfl : u = Value.ref p := rx
  obtain rfl : iv = Value.ref b := ry
  obtain ⟨ea, sm, d⟩ := kd_of I2.hok e k
  refine wpAny_notIn_heap (n_room hu) (kd_key I2.hok eb hv) sm d ?_
  unfold keyB at q2
  rw [Option.isSome_map] at q2
  exact ⟨.bl (!(atKey xs (.tup (vs.map kN))).isSome), H2, I2.tok _, rfl, q2⟩
theorem ps_kput (hu : X.A.units + 64 < cLine) (ho : PE X o td) (hi : PE X i ty) (hv : PE X value tv) (hs : swapsWith value (some (.Subscript o i pos')) pos.line X.env = pure false) :
    PS X (.Assign [.Subscript o i pos'] value pos) (sKPut X.w td ty tv) := by
  refine ⟨fun pins s σ H D I h => ?_⟩
  refine wpAny_Assign_Subscript (thn (hv.run pins s σ H _ I h) fun r s1 ⟨v, H1, I1, rv, q1⟩ => thn (ho.run pins s1 σ H1 _ I1 q1) fun u s2 ⟨x, H2, I2, rx, q2⟩ => thn (hi.run pins s2 σ H2 _ I2 q2) fun iv s3 ⟨y, H3, I3, ry, p, a, xs, b, vs, c, ev, ex, e, k, ey, eb, hn, hl, q3⟩ => ?_) hs
  subst ex ey ev
  obtain rfl : u = Value.ref p := rx
  obtain rfl : iv = Value.ref b := ry
  obtain rfl : r = Value.bool c := rv
  obtain ⟨ea, sm, d⟩ := kd_of I3.hok e k
  subst ea
  refine wpAny_setItem_heap (hsz := sz hl) (n_room hu) (kd_key I3.hok eb hn) d fun h' dd' hs' => ?_
  obtain ⟨q, es, ep, hq, _⟩ := id dd'
  exact ⟨σ, _, d_write I3 (by rw [e]; exact True.intro) hs' ⟨q, hq⟩ (kd_new sm dd'), q3⟩
end
end Ly
namespace Ly
open PySem PySem.Spec PyProof.Rows L2
/-! ### dicts of bools at tuples, in the layer -/
theorem nodup_len {α : Type} [DecidableEq α] : ∀ (l m : List α), l.Nodup → (∀ x ∈ l, x ∈ m) → l.length ≤ m.length
  | [], _, _, _ => Nat.zero_le _
  | x :: l, m, hn, hs => by
    obtain ⟨h1, h2⟩ := List.nodup_cons.mp hn
    have hx := hs x List.mem_cons_self
    have := nodup_len l (m.erase x) h2 fun y hy => (List.mem_erase_of_ne fun e => h1 (by rw [← e]; exact hy)).mpr (hs y (List.mem_cons_of_mem _ hy))
    rw [List.length_erase_of_mem hx] at this
    have := List.length_pos_of_mem hx
    rw [List.length_cons]
    omega
theorem atKey_some {xs : KX} {k : NestedKey} (h : k ∈ xs.map (·.1)) : ∃ p, atKey xs k = some p ∧ (k, p) ∈ xs := by
  obtain ⟨x, hx, e⟩ := List.mem_map.mp h
  unfold atKey
  cases q : xs.find? (fun x => decide (x.1 = k)) with
  | none =>
    have := List.find?_eq_none.mp q x hx
    simp [e] at this
  | some y =>
    have h1 := List.find?_some q
    have h2 := List.mem_of_find?_eq_some q
    have h3 : y.1 = k := of_decide_eq_true h1
    exact ⟨y.2, rfl, by rw [← h3]; exact h2⟩
theorem atKey_none {xs : KX} {k : NestedKey} (h : atKey xs k = none) : k ∉ xs.map (·.1) := fun hm => by
  obtain ⟨p, hp, _⟩ := atKey_some hm
  rw [h] at hp
  cases hp
theorem atKey_mem {xs : KX} {k : NestedKey} {p : Addr × Value} (h : atKey xs k = some p) : (k, p) ∈ xs := by
  unfold atKey at h
  obtain ⟨y, h1, h2⟩ := Option.map_eq_some_iff.mp h
  have h4 := List.find?_some h1
  have h3 : y.1 = k := of_decide_eq_true h4
  have := List.mem_of_find?_eq_some h1
  rw [← h2, ← h3]
  exact this
theorem putAt_key {k : NestedKey} {v : Value} (x : NestedKey × Addr × Value) : (putAt k v x).1 = x.1 := by
  unfold putAt
  split <;> rfl
theorem stored_keys {xs : KX} {k : NestedKey} {b : Addr} {v : Value} : (storedH xs k b v).map (·.1) = if (atKey xs k).isSome = true then xs.map (·.1) else xs.map (·.1) ++ [k] := by
  unfold storedH
  split
  · rw [List.map_map]
    exact List.map_congr_left fun x _ => putAt_key x
  · rw [List.map_append]
    rfl
theorem stored_mem {xs : KX} {k : NestedKey} {b : Addr} {v : Value} {x : NestedKey × Addr × Value} (h : x ∈ storedH xs k b v) : x = (k, b, v) ∨ ∃ y ∈ xs, x.1 = y.1 ∧ x.2.1 = y.2.1 ∧ (x.2.2 = y.2.2 ∨ (x.1 = k ∧ x.2.2 = v)) := by
  unfold storedH at h
  split at h
  · obtain ⟨y, hy, e⟩ := List.mem_map.mp h
    right
    refine ⟨y, hy, ?_⟩
    rw [← e]
    unfold putAt
    split
    · rename_i e1
      exact ⟨rfl, rfl, .inr ⟨e1, rfl⟩⟩
    · exact ⟨rfl, rfl, .inl rfl⟩
  · rcases List.mem_append.mp h with h | h
    · exact .inr ⟨x, h, rfl, rfl, .inl rfl⟩
    · exact .inl (List.mem_singleton.mp h)
theorem KOk.put {H : Hp} {xs : KX} {b : Addr} {vs : List V} {v : Value} (k : KOk H xs) (e : H b = some (.tup vs)) (hv : vs.all isN = true) : KOk H (storedH xs (.tup (vs.map kN)) b v) := by
  refine ⟨fun x hx => ?_, ?_⟩
  · rcases stored_mem hx with h | ⟨y, hy, e1, e2, _⟩
    · subst h
      exact ⟨vs, e, hv, rfl⟩
    · rw [e1, e2]
      exact k.ks y hy
  · rw [stored_keys]
    split
    · exact k.nd
    · rename_i h
      refine List.nodup_append.mpr ⟨k.nd, by simp, fun x hx y hy => ?_⟩
      rw [List.mem_singleton.mp hy]
      intro e3
      rw [e3] at hx
      obtain ⟨p, hp, _⟩ := atKey_some hx
      exact h (by rw [hp]; rfl)
structure Kn (f : NestedKey → Bool) (D dom : List NestedKey) (F : Hp) (xs : KX) : Prop where
  ok : KOk F xs
  val : ∀ x ∈ xs, x.2.2 = .bool (f x.1)
  dm : ∀ x ∈ xs, x.1 ∈ dom
  has : ∀ k ∈ D, k ∈ xs.map (·.1)
theorem Kn.put {f : NestedKey → Bool} {D dom : List NestedKey} {F : Hp} {xs : KX} {b : Addr} {vs : List V} (k : Kn f D dom F xs) (e : F b = some (.tup vs)) (hv : vs.all isN = true) (hd : .tup (vs.map kN) ∈ dom) :
    Kn f (D ++ [.tup (vs.map kN)]) dom F (storedH xs (.tup (vs.map kN)) b (.bool (f (.tup (vs.map kN))))) := by
  refine ⟨k.ok.put e hv, fun x hx => ?_, fun x hx => ?_, fun y hy => ?_⟩
  · rcases stored_mem hx with h | ⟨y, hy, e1, e2, e3 | ⟨e3, e4⟩⟩
    · rw [h]
    · rw [e3, e1]
      exact k.val y hy
    · rw [e4, e3]
  · rcases stored_mem hx with h | ⟨y, hy, e1, _⟩
    · rw [h]
      exact hd
    · rw [e1]
      exact k.dm y hy
  · rw [stored_keys]
    split
    · rename_i h
      rcases List.mem_append.mp hy with h2 | h2
      · exact k.has y h2
      · rw [List.mem_singleton.mp h2]
        obtain ⟨p, hp⟩ := Option.isSome_iff_exists.mp h
        exact List.mem_map.mpr ⟨_, atKey_mem hp, rfl⟩
    · rcases List.mem_append.mp hy with h2 | h2
      · exact List.mem_append_left _ (k.has y h2)
      · exact List.mem_append_right _ h2
theorem Kn.len {f : NestedKey → Bool} {D dom : List NestedKey} {F : Hp} {xs : KX} (k : Kn f D dom F xs) : xs.length ≤ dom.length := by
  have := nodup_len _ dom k.ok.nd fun y hy => by
    obtain ⟨x, hx, e⟩ := List.mem_map.mp hy
    rw [← e]
    exact k.dm x hx
  rwa [List.length_map] at this
theorem Kn.get {f : NestedKey → Bool} {D dom : List NestedKey} {F : Hp} {xs : KX} {vs : List V} (k : Kn f D dom F xs) (h : .tup (vs.map kN) ∈ xs.map (·.1)) : keyB xs vs = some (.bool (f (.tup (vs.map kN)))) := by
  obtain ⟨p, hp, hm⟩ := atKey_some h
  unfold keyB
  rw [hp]
  show some p.2 = _
  rw [show p.2 = Value.bool (f (.tup (vs.map kN))) from k.val _ hm]
theorem Kn.nil {f : NestedKey → Bool} {dom : List NestedKey} {F : Hp} : Kn f [] dom F [] := ⟨⟨fun x h => (nomatch h), List.nodup_nil⟩, fun x h => (nomatch h), fun x h => (nomatch h), fun x h => (nomatch h)⟩
theorem Kn.m {f : NestedKey → Bool} {D dom : List NestedKey} {F F' : Hp} {xs : KX} (k : Kn f D dom F xs) (e : Ex F F') : Kn f D dom F' xs := ⟨k.ok.m fun b vs h => e _ _ h, k.val, k.dm, k.has⟩
def kdM (w : World) (f : NestedKey → Bool) (D dom : List NestedKey) : MOP := ⟨fun F o => ∃ a xs, o = kdO w a xs ∧ Kn f D dom F xs, fun _ _ _ e ⟨a, xs, h1, h2⟩ => ⟨a, xs, h1, h2.m e⟩⟩
/-- a known object -/
def objP (G : MOP) : MVP := ⟨fun F v => ∃ p o, v = .ref p ∧ F p = some o ∧ G.G F o, fun _ _ _ e ⟨p, o, h1, h2, h3⟩ => ⟨p, o, h1, e _ _ h2, G.m _ _ _ e h3⟩⟩
section
variable {K : PySem.W.Frag} {W : Wd} {w : World} {S : Shr} {env : List Sv} {P P1 P2 : MVP} {ta tb te ti : TE} {tr : TA} {tt : TT} {Ps Qs : List MVP} {G : MOP} {f : NestedKey → Bool} {Dk dom : List NestedKey}
theorem Slots.freezeG {F H : Hp} {σ : L2.St} (h : Slots W F H σ env) {i : Nat} (e : env[i]? = some (.ow G)) :
    ∃ p o, σ[i]? = some (some (.ref p)) ∧ W.H0 p = none ∧ F p = none ∧ H p = some o ∧ Slots W (upd F p o) H σ (env.set i (.fz (objP G))) := by
  obtain ⟨x, hx, p, o, ex, h0, hf, hh, q⟩ := h.ok i _ e
  have hl : i < env.length := (List.getElem?_eq_some_iff.mp e).1
  refine ⟨p, o, by rw [hx, ex], h0, hf, hh, by rw [List.length_set, h.len], fun j t ej => ?_, fun j k t u r ej ek ht hu hj hk => ?_⟩
  · by_cases hji : i = j
    · subst hji
      rw [List.getElem?_set_self hl] at ej
      have e1 : Sv.fz (objP G) = t := Option.some.inj ej
      subst e1
      exact ⟨x, hx, _, ex, p, o, rfl, upd_same, G.m _ _ _ (Ex.new hf) q⟩
    · rw [List.getElem?_set_ne hji] at ej
      obtain ⟨y, hy, qy⟩ := h.ok j t ej
      refine ⟨y, hy, ?_⟩
      cases t with
      | no => exact True.intro
      | fz P =>
        obtain ⟨v, e1, e2⟩ := qy
        exact ⟨v, e1, P.m _ _ _ (Ex.new hf) e2⟩
      | sh G => exact qy
      | ow G2 =>
        obtain ⟨r, u, e1, e2, e3, e4, e5⟩ := qy
        refine ⟨r, u, e1, e2, ?_, e4, G2.m _ _ _ (Ex.new hf) e5⟩
        rw [upd_ne]
        · exact e3
        · intro z
          subst z
          subst e1
          exact hji (h.sep i j _ _ r e ej rfl rfl (by rw [hx, ex]) hy)
  · by_cases hji : i = j
    · subst hji
      rw [List.getElem?_set_self hl] at ej
      have e1 : Sv.fz (objP G) = t := Option.some.inj ej
      subst e1
      cases ht
    · by_cases hki : i = k
      · subst hki
        rw [List.getElem?_set_self hl] at ek
        have e1 : Sv.fz (objP G) = u := Option.some.inj ek
        subst e1
        cases hu
      · rw [List.getElem?_set_ne hji] at ej
        rw [List.getElem?_set_ne hki] at ek
        exact h.sep j k t u r ej ek ht hu hj hk
theorem at_frzG {X : L2.St → Hp → Prop} {i : Nat} (hi : env[i]? = some (.ow G)) (k : At W X (env.set i (.fz (objP G)))) : At W X env := fun σ F H g0 eB sl => by
  obtain ⟨p, o, hp, h0, hf, hh, sl'⟩ := sl.freezeG hi
  exact k σ _ H (g0.frz h0 hf hh) (eB.trans (Ex.new hf)) sl'
theorem tup_keys {F : Hp} {v : V} {ks : List V} (h : (tP (ks.map sP)).P F v) : ∃ b, v = .ref b ∧ F b = some (.tup ks) := by
  obtain ⟨b, vs, e1, e2, e3⟩ := h
  rw [all_sP e3] at e2
  exact ⟨b, e1, e2⟩
theorem ev_kget {ks : List V} (hd : EvP W ta env (objP (kdM w f Dk dom))) (hk : EvP W tb env (tP (ks.map sP))) (hn : ks.all isN = true) (hm : .tup (ks.map kN) ∈ Dk) : EvP W (tKGet w ta tb) env (bP (f (.tup (ks.map kN)))) := fun σ F H e so sl Q k =>
  hd σ F H e so sl _ fun x F1 H1 g1 q1 => hk σ F1 H1 g1.eh (so.go g1) (sl.go g1) _ fun y F2 H2 g2 q2 => by
    obtain ⟨p, o, ex, h1, a, xs, eo, kn⟩ := (objP (kdM w f Dk dom)).m _ _ _ g2.fe q1
    subst eo
    obtain ⟨b, ey, h2⟩ := tup_keys q2
    refine ⟨p, a, xs, b, ks, f (.tup (ks.map kN)), ex, g2.eh _ _ h1, kn.ok.m fun c us hc => g2.eh _ _ hc, ey, g2.eh _ _ h2, hn, kn.get (kn.has _ hm), k _ F2 H2 (g1.trans g2) rfl⟩
variable {D : Ends} {t u : TS}
/-- a new dict, one's own -/
theorem q_knew {i : Nat} (k : At W (u D) (env.set i (.ow (kdM w f [] dom)))) : At W (tSeq (tAsg (tKNew w) (gName i)) u D) env := fun σ F H g0 eB sl p hp => by
  have nf : F p = none := g0.eh.nn hp
  refine k _ F _ (g0.trans (Go.own g0.eh hp)) eB ((sl.go (Go.own g0.eh hp)).set i (x := some (.ref p)) (s := .ow (kdM w f [] dom)) ⟨p, _, rfl, g0.nn hp, nf, upd_same, p, [], rfl, Kn.nil⟩ fun _ r er j t _ ej ht => ?_)
  have e1 : p = r := V.ref.inj (Option.some.inj er)
  subst e1
  exact own_sep sl hp j t ej ht
theorem q_parK {i j : Nat} (he : EvP W te env P) (k : At W (u D) ((env.set i (.fz P)).set j (.ow (kdM w f [] dom)))) : At W (tSeq (tPar i j (tCons te (tCons (tKNew w) tNil))) u D) env := fun σ F H g0 eB sl =>
  he σ F H g0.eh (W.ok.go g0) sl _ fun v F1 H1 g1 q p hp => by
    have G0 := g0.trans g1
    have g2 : Go W.S F1 H1 F1 (upd H1 p (kdO w p [])) := Go.own g1.eh hp
    have nf : F1 p = none := g1.eh.nn hp
    refine ⟨v, .ref p, rfl, k _ F1 _ (G0.trans g2) (eB.trans g1.fe) ((((sl.go g1).go g2).setF i q).set j (x := some (.ref p)) (s := .ow (kdM w f [] dom)) ⟨p, _, rfl, G0.nn hp, nf, upd_same, p, [], rfl, Kn.nil⟩ fun _ r er j' t _ ej ht => ?_)⟩
    have e1 : p = r := V.ref.inj (Option.some.inj er)
    subst e1
    exact own_sep ((sl.go g1).setF i q) hp j' t ej ht
/-- a put into one's own -/
theorem q_kput {i : Nat} {ks : List V} (hi : env[i]? = some (.ow (kdM w f Dk dom))) (hv : EvP W te env (bP (f (.tup (ks.map kN))))) (hk : EvP W ti env (tP (ks.map sP))) (hn : ks.all isN = true) (hm : .tup (ks.map kN) ∈ dom) (hz : dom.length ≤ 1000000)
    (k : At W D.nx (env.set i (.ow (kdM w f (Dk ++ [.tup (ks.map kN)]) dom)))) : At W (sKPut w (tVar i) ti te D) env := fun σ F H g0 eB sl =>
  hv σ F H g0.eh (W.ok.go g0) sl _ fun v F1 H1 g1 q1 => by
    obtain ⟨x, hx, p, o, ex, h0, hf, hh, a, xs, eo, kn⟩ := (sl.go g1).ok i _ hi
    refine ⟨.ref p, by rw [hx, ex], hk σ F1 H1 g1.eh (W.ok.go (g0.trans g1)) (sl.go g1) _ fun y F2 H2 g2 q2 => ?_⟩
    have G := g1.trans g2
    obtain ⟨x', hx', p', o', ex', h0', hf', hh', a', xs', eo', kn'⟩ := (sl.go G).ok i _ hi
    have epp : p' = p := by
      rw [hx, ex, ex'] at hx'
      exact (V.ref.inj (Option.some.inj (Option.some.inj hx'))).symm
    subst epp eo'
    obtain ⟨b, ey, h2⟩ := tup_keys q2
    refine ⟨p', a', xs', b, ks, f (.tup (ks.map kN)), q1, rfl, hh', kn'.ok.m fun c us hc => g2.eh _ _ hc, ey, g2.eh _ _ h2, hn, Nat.le_trans kn'.len hz, ?_⟩
    exact k σ F2 _ ((g0.trans G).wr h0 hf') (eB.trans G.fe) ((sl.go G).write (G' := kdM w f (Dk ++ [.tup (ks.map kN)]) dom) hi (by rw [hx, ex]) ⟨a', _, rfl, kn'.put h2 hn hm⟩)
/-- if k not in d: d[k] = e; if not d[k]: .. -/
theorem q_memo {i j : Nat} {ks : List V} {tc ts2 : TS} (hi : env[i]? = some (.sh (kdM w f [] dom))) (hj : env[j]? = some (.fz (tP (ks.map sP)))) (hv : EvP W te env (bP (f (.tup (ks.map kN))))) (hn : ks.all isN = true) (hm : .tup (ks.map kN) ∈ dom) (hz : dom.length ≤ 1000000)
    (h1 : f (.tup (ks.map kN)) = false → At W (tc D) env) (h2 : f (.tup (ks.map kN)) = true → At W (ts2 D) env) :
    At W (tSeq (tIfS (tB (tKNotIn w (tVar j) (tVar i))) (sKPut w (tVar i) (tVar j) te) tNext) (tIfS (tNot (tB (tKGet w (tVar i) (tVar j)))) tc ts2) D) env := fun σ F H g0 eB sl => by
  have so := W.ok.go g0
  obtain ⟨x, hx, p, ex, hS⟩ := sl.ok i _ hi
  obtain ⟨x2, hx2, y, ey, qy⟩ := sl.ok j _ hj
  obtain ⟨b, eb, hb⟩ := tup_keys qy
  have hp : σ[i]? = some (some (.ref p)) := by rw [hx, ex]
  have hy : σ[j]? = some (some (.ref b)) := by rw [hx2, ey, eb]
  have fin : ∀ F2 H2 a xs, Go W.S W.F0 W.H0 F2 H2 → Ex W.B F2 → Slots W F2 H2 σ env → F2 b = some (.tup ks) → H2 p = some (kdO w a xs) → Kn f [] dom F2 xs → NestedKey.tup (ks.map kN) ∈ xs.map (·.1) → tIfS (tNot (tB (tKGet w (tVar i) (tVar j)))) tc ts2 D σ H2 := fun F2 H2 a xs g2 e2 sl2 hb2 ha2 kn hk => by
    refine ⟨.ref p, hp, .ref b, hy, p, a, xs, b, ks, f (.tup (ks.map kN)), rfl, ha2, kn.ok.m fun c us hc => g2.eh _ _ hc, rfl, g2.eh _ _ hb2, hn, kn.get hk, f (.tup (ks.map kN)), rfl, ?_⟩
    cases hf : f (.tup (ks.map kN)) with
    | true => exact h2 hf σ F2 H2 g2 e2 sl2
    | false => exact h1 hf σ F2 H2 g2 e2 sl2
  obtain ⟨hfp, o, ho, a, xs, eo, kn⟩ := so.at_ p _ hS
  subst eo
  refine ⟨.ref b, hy, .ref p, hp, p, a, xs, b, ks, rfl, ho, kn.ok.m fun c us hc => g0.eh _ _ hc, rfl, g0.eh _ _ hb, hn, !(keyB xs ks).isSome, rfl, ?_⟩
  cases hq : keyB xs ks with
  | some r =>
    show tIfS (tNot (tB (tKGet w (tVar i) (tVar j)))) tc ts2 D σ H
    refine fin F H a xs g0 eB sl hb ho kn ?_
    unfold keyB at hq
    obtain ⟨r', hr', _⟩ := Option.map_eq_some_iff.mp hq
    exact List.mem_map.mpr ⟨_, atKey_mem hr', rfl⟩
  | none =>
    show sKPut w (tVar i) (tVar j) te { D with nx := tIfS (tNot (tB (tKGet w (tVar i) (tVar j)))) tc ts2 D } σ H
    refine hv σ F H g0.eh so sl _ fun v F1 H1 g1 q1 => ?_
    have so1 := so.go g1
    obtain ⟨hfp1, o1, ho1, a1, xs1, eo1, kn1⟩ := so1.at_ p _ hS
    subst eo1
    have hb1 := g1.fe _ _ hb
    refine ⟨.ref p, hp, .ref b, hy, p, a1, xs1, b, ks, f (.tup (ks.map kN)), q1, rfl, ho1, kn1.ok.m fun c us hc => g1.eh _ _ hc, rfl, g1.eh _ _ hb1, hn, Nat.le_trans kn1.len hz, ?_⟩
    have kn2 := kn1.put hb1 hn hm
    have kn3 : Kn f [] dom F1 (storedH xs1 (.tup (ks.map kN)) b (.bool (f (.tup (ks.map kN))))) := ⟨kn2.ok, kn2.val, kn2.dm, fun _ h => nomatch h⟩
    have g2 : Go W.S F1 H1 F1 (upd H1 p (kdO w a1 (storedH xs1 (.tup (ks.map kN)) b (.bool (f (.tup (ks.map kN))))))) := Go.share g1.eh hS hfp1 ⟨a1, _, rfl, kn3⟩
    exact fin F1 _ a1 _ ((g0.trans g1).trans g2) (eB.trans g1.fe) ((sl.go g1).go g2) hb1 upd_same kn3 (kn2.has _ (by simp))
/-- a call that is handed one's own, as shared; of its bool -/
theorem at_ifOw {pre : Pre} {i : Nat} {c : Bool} {E : XK} (hi : env[i]? = some (.ow G)) (ha : EvP W ta env P1) (hb : EvP W tb env P2) (hp : pre [.fz P1, .fz P2, .sh G] (bP c)) (h1 : c = true → At W (t D) env) (h2 : c = false → At W (u D) env) :
    At W (tIfS (tB (tCall (SpX pre) [] E (tCons ta (tCons tb (tCons (tVar i) tNil))))) t u D) env := fun σ F H g0 eB sl =>
  ha σ F H g0.eh (W.ok.go g0) sl _ fun x F1 H1 g1 q1 => hb σ F1 H1 g1.eh (W.ok.go (g0.trans g1)) (sl.go g1) _ fun y F2 H2 g2 q2 => by
    have G2 := (g0.trans g1).trans g2
    have sl2 := (sl.go g1).go g2
    have so2 := W.ok.go G2
    obtain ⟨z, hz, p, o, ez, h0, hf, hh, q⟩ := sl2.ok i _ hi
    refine ⟨.ref p, by rw [hz, ez], ?_⟩
    let S2 : Shr := fun a => if a = p then some G else W.S a
    have hSp : S2 p = some G := if_pos rfl
    have nS : ∀ a, a ≠ p → S2 a = W.S a := fun a ha => if_neg ha
    have hl : i < env.length := (List.getElem?_eq_some_iff.mp hi).1
    refine ⟨S2, F2, [.fz P1, .fz P2, .sh G], bP c, ⟨fun a G' ea => ?_⟩, G2.eh, .cons (P1.m _ _ _ g2.fe q1) (.cons q2 (.cons ⟨p, rfl, hSp⟩ .nil)), hp, fun v F3 H3 g3 q3 => ⟨c, q3, ?_⟩⟩
    · by_cases hap : a = p
      · subst hap
        rw [hSp] at ea
        cases ea
        exact ⟨hf, o, hh, q⟩
      · rw [nS a hap] at ea
        exact so2.at_ a G' ea
    · have n0 : ∀ a o, W.H0 a = some o → a ≠ p := fun a o h z => by rw [z, h0] at h; cases h
      have g4 : Go W.S W.F0 W.H0 F3 H3 := ⟨G2.fe.trans g3.fe, g3.eh, fun a ha => by
          obtain ⟨o0, h00⟩ := Option.ne_none_iff_exists'.mp ha
          obtain ⟨o2, h02⟩ := G2.there h00
          rw [g3.nw a (by rw [h02]; simp)]
          exact G2.nw a ha, fun a o0 h00 => by
          have hap := n0 a o0 h00
          rcases G2.ch a o0 h00 with h5 | ⟨G', o', e', h5, q5⟩
          · rcases g3.ch a o0 h5 with h6 | ⟨G', o', e', h6, q6⟩
            · exact .inl h6
            · exact .inr ⟨G', o', by rw [← nS a hap]; exact e', h6, q6⟩
          · rcases g3.ch a o' h5 with h6 | ⟨G2', o2', e2', h6, q6⟩
            · exact .inr ⟨G', o', e', h6, G'.m _ _ _ g3.fe q5⟩
            · exact .inr ⟨G2', o2', by rw [← nS a hap]; exact e2', h6, q6⟩⟩
      have hf3 : F3 p = none := (g3.nw p (by rw [hh]; simp)).trans hf
      have hh3 : ∃ o3, H3 p = some o3 ∧ G.G F3 o3 := by
        rcases g3.ch p o hh with h6 | ⟨G', o', e', h6, q6⟩
        · exact ⟨o, h6, G.m _ _ _ g3.fe q⟩
        · rw [hSp] at e'
          cases e'
          exact ⟨o', h6, q6⟩
      obtain ⟨o3, h3, q3'⟩ := hh3
      have sl3 : Slots W F3 H3 σ env := by
        refine ⟨sl2.len, fun k s ek => ?_, sl2.sep⟩
        obtain ⟨xk, hk, qk⟩ := sl2.ok k s ek
        refine ⟨xk, hk, ?_⟩
        cases s with
        | no => exact True.intro
        | fz P =>
          obtain ⟨v', e1, e2⟩ := qk
          exact ⟨v', e1, P.m _ _ _ g3.fe e2⟩
        | sh G' => exact qk
        | ow G' =>
          obtain ⟨r, u', e1, e2, e3, e4, e5⟩ := qk
          by_cases hki : k = i
          · subst hki
            rw [hi] at ek
            cases ek
            have erp : r = p := by
              rw [hz, ez, e1] at hk
              exact (V.ref.inj (Option.some.inj (Option.some.inj hk))).symm
            subst erp
            exact ⟨r, o3, e1, h0, hf3, h3, q3'⟩
          · have hrp : r ≠ p := fun zz => by
              subst zz
              exact hki (sl2.sep k i _ _ r ek hi rfl rfl (by rw [hk, e1]) (by rw [hz, ez]))
            refine ⟨r, u', e1, e2, (g3.nw r (by rw [e4]; simp)).trans e3, ?_, G'.m _ _ _ g3.fe e5⟩
            rcases g3.ch r u' e4 with h6 | ⟨G4, _, e', _, _⟩
            · exact h6
            · rw [nS r hrp, W.nsh e2] at e'
              cases e'
      cases c with
      | true => exact h1 rfl σ F3 H3 g4 ((eB.trans (g1.fe.trans g2.fe)).trans g3.fe) sl3
      | false => exact h2 rfl σ F3 H3 g4 ((eB.trans (g1.fe.trans g2.fe)).trans g3.fe) sl3
end
end Ly
namespace Ly
open PySem PySem.Spec PyProof.Rows L2
/-! ### dict(list(zip(a list, a tuple))) -/
theorem zp_nolen : typeLookup (.type "zip") "__len__" = pure none := by rw [typeLookup_type, builtinLookup_eq_fast]; kernel_rfl
theorem zp_nohint : typeLookup (.type "zip") "__length_hint__" = pure none := by rw [typeLookup_type, builtinLookup_eq_fast]; kernel_rfl
section
variable {prog : Program} {w : World} {A : Around} {E : Value → Shared → Prop} {s : Shared} {z TI TO i1 i2 T : Addr} {fp1 fp2 : List Addr} {n1 n2 i : Nat} {P1 P2 : Nat → Value → Prop} {St1 St2 : Nat → Heap → Prop} {f : Bool} {oT : Obj}
theorem zh_next {Q : Value → Shared → Prop} (S : ZipSep2 z TI TO i1 i2 fp1 fp2) (D1 : Draws prog w A i1 fp1 n1 P1 St1) (D2 : Draws prog w A i2 fp2 n2 P2 St2)
    (hz : IsZipHeld s.heap z TI TO T f) (hT : s.heap.get? T = some oT) (hTI : IsTupOf2 s.heap TI (.ref i1) (.ref i2)) (st1 : St1 i s.heap) (st2 : St2 i s.heap) (hl1 : i < n1) (hl2 : i < n2)
    (hQ : ∀ x y h' tk, P1 i x → P2 i y → IsZipHeld h' z TI TO T true → St1 (i + 1) h' → St2 (i + 1) h' → IsTupOf2 h' s.heap.objs.size x y → h'.objs.size = s.heap.objs.size + 1 →
      (∀ c o, c ≠ z → c ≠ i1 → c ≠ i2 → s.heap.get? c = some o → h'.get? c = some o) → Q (.ref s.heap.objs.size) { s with heap := h', toks := tk }) :
    wpAny (model prog w) A (Builtin.«zip.__next__» ⟨[.ref z], []⟩) (fun fin s' => ∃ v, fin = .done (.ret v) ∧ Q v s') E s := by
  obtain ⟨hp, g, d, tk0, os⟩ := s
  show wpAny (model prog w) A (field (.ref z) 2 >>= _) _ E _
  refine wpAny_bind (wpAny_field (x := .bool false) hz rfl rfl ?_)
  show wpAny (model prog w) A (field (.ref z) 3 >>= _) _ E _
  refine wpAny_bind (wpAny_field (x := .ref TI) hz rfl rfl ?_)
  refine wpAny_bind (wpAny_seqItems hTI rfl ?_)
  show wpAny (model prog w) A (Builtin.SmallTypes.ownedTupleIsFree (.ref z) >>= _) _ E _
  refine wpAny_bind (wpAny_tupleHeld_zip hz hT fun g1 hz1 hs1 => ?_)
  simp only [if_false, Bool.false_eq_true]
  refine wpAny_bind ?_
  rw [← Array.forIn_toList]
  simp only [List.forIn_nil, List.forIn_cons]
  refine wpAny_bind (wpAny_bind (wpAny_holding ?_))
  show wpAny (model prog w) A (Builtin.SmallTypes.nextOf (.ref i1) >>= _) _ E ⟨g1, g, d, tk0, os⟩
  refine wpAny_bind (D1.item i _ _ _ hl1 (D1.over st1 hs1 S.zf1) fun x p1 tk1 hx sn1 hp1 => wpAny_pure ?_)
  refine wpAny_pure ?_
  refine wpAny_bind (wpAny_bind (wpAny_holding ?_))
  replace hp1 : Heap.SameBut i1 g1 p1 := hp1
  show wpAny (model prog w) A (Builtin.SmallTypes.nextOf (.ref i2) >>= _) _ E ⟨p1, g, d, tk1, os⟩
  refine wpAny_bind (D2.item i _ _ _ hl2 (D2.over (D2.over st2 hs1 S.zf2) hp1 S.sep1_2) fun y p2 tk2 hy sn2 hp2 => wpAny_pure ?_)
  refine wpAny_pure (wpAny_pure ?_)
  replace hp2 : Heap.SameBut i2 p1 p2 := hp2
  show wpAny (model prog w) A (newTuple [x, y] >>= _) _ E ⟨p2, g, d, tk2, os⟩
  refine wpAny_bind (wpAny_newTuple ?_)
  have hsz : p2.objs.size = hp.objs.size := by rw [hp2.1, hp1.1, hs1.1]
  have hz3 : IsZipHeld p2 z TI TO T true := hp2.extBut _ _ S.zi2 (hp1.extBut _ _ S.zi1 hz1)
  have kp : ∀ c o, c ≠ z → c ≠ i1 → c ≠ i2 → hp.get? c = some o → p2.get? c = some o := fun c o c1 c2 c3 e => hp2.extBut _ _ c3 (hp1.extBut _ _ c2 (hs1.extBut _ _ c1 e))
  have sn1' : St1 (i + 1) p2 := D1.over sn1 hp2 S.sep2_1
  refine wpAny_pure ⟨_, rfl, ?_⟩
  show Q (.ref p2.objs.size) _
  have hp4 : IsTupOf2 (p2.push { cls := .type "tuple", data := .seq #[x, y] }) p2.objs.size x y := Heap.get?_push_size _ rfl
  have hz4 : (p2.push { cls := .type "tuple", data := .seq #[x, y] }).objs.size = p2.objs.size + 1 := Heap.size_push ..
  rw [hsz] at hp4 hz4 ⊢
  exact hQ x y _ tk2 hx hy (Heap.get?_push_of_some _ hz3) (D1.frame _ _ _ sn1' fun b _ o e => Heap.get?_push_of_some _ e) (D2.frame _ _ _ sn2 fun b _ o e => Heap.get?_push_of_some _ e) hp4 hz4 fun c o c1 c2 c3 e => Heap.get?_push_of_some _ (kp c o c1 c2 c3 e)
theorem zh_stop {Q : Fin → Shared → Prop} (S : ZipSep2 z TI TO i1 i2 fp1 fp2) (D1 : Draws prog w A i1 fp1 n1 P1 St1) (D2 : Draws prog w A i2 fp2 n2 P2 St2)
    (hz : IsZipHeld s.heap z TI TO T f) (hT : s.heap.get? T = some oT) (hTI : IsTupOf2 s.heap TI (.ref i1) (.ref i2)) (st1 : St1 i s.heap) (st2 : St2 i s.heap) (hl1 : i ≤ n1) (hl2 : i ≤ n2) (hend : i = n1 ∨ i = n2)
    (hE : ∀ h' tk e, (∀ c o, c ≠ z → c ≠ i1 → c ≠ i2 → s.heap.get? c = some o → h'.get? c = some o) → (∃ o, h'.get? e = some o ∧ o.cls = .type "StopIteration") → E (.ref e) { s with heap := h', toks := tk }) :
    wpAny (model prog w) A (Builtin.«zip.__next__» ⟨[.ref z], []⟩) Q E s := by
  obtain ⟨hp, g, d, tk0, os⟩ := s
  show wpAny (model prog w) A (field (.ref z) 2 >>= _) _ E _
  refine wpAny_bind (wpAny_field (x := .bool false) hz rfl rfl ?_)
  show wpAny (model prog w) A (field (.ref z) 3 >>= _) _ E _
  refine wpAny_bind (wpAny_field (x := .ref TI) hz rfl rfl ?_)
  refine wpAny_bind (wpAny_seqItems hTI rfl ?_)
  show wpAny (model prog w) A (Builtin.SmallTypes.ownedTupleIsFree (.ref z) >>= _) _ E _
  refine wpAny_bind (wpAny_tupleHeld_zip hz hT fun g1 hz1 hs1 => ?_)
  simp only [if_false, Bool.false_eq_true]
  refine wpAny_bind ?_
  rw [← Array.forIn_toList]
  simp only [List.forIn_nil, List.forIn_cons]
  refine wpAny_bind (wpAny_bind (wpAny_holding ?_))
  show wpAny (model prog w) A (Builtin.SmallTypes.nextOf (.ref i1) >>= _) _ E ⟨g1, g, d, tk0, os⟩
  by_cases hlt1 : i < n1
  · refine wpAny_bind (D1.item i _ _ _ hlt1 (D1.over st1 hs1 S.zf1) fun x p1 tk1 hx sn1 hp1 => wpAny_pure ?_)
    refine wpAny_pure ?_
    refine wpAny_bind (wpAny_bind (wpAny_holding ?_))
    replace hp1 : Heap.SameBut i1 g1 p1 := hp1
    have hi2 : i = n2 := by omega
    show wpAny (model prog w) A (Builtin.SmallTypes.nextOf (.ref i2) >>= _) _ E ⟨p1, g, d, tk1, os⟩
    refine wpAny_bind (D2.done ⟨p1, g, d, tk1, os⟩ _ _ (by rw [← hi2]; exact D2.over (D2.over st2 hs1 S.zf2) hp1 S.sep1_2) fun q e hq he => ?_)
    exact hE q tk1 e (fun c o c1 c2 c3 x => hq _ _ c3 (hp1.extBut _ _ c2 (hs1.extBut _ _ c1 x))) he
  · have hi1 : i = n1 := by omega
    refine wpAny_bind (D1.done ⟨g1, g, d, tk0, os⟩ _ _ (by rw [← hi1]; exact D1.over st1 hs1 S.zf1) fun q e hq he => ?_)
    exact hE q tk0 e (fun c o c1 c2 c3 x => hq _ _ c2 (hs1.extBut _ _ c1 x)) he
theorem zh_pyNext {Q : Option Value → Shared → Prop} (S : ZipSep2 z TI TO i1 i2 fp1 fp2) (D1 : Draws prog w A.in1 i1 fp1 n1 P1 St1) (D2 : Draws prog w A.in1 i2 fp2 n2 P2 St2)
    (hz : IsZipHeld s.heap z TI TO T f) (hT : s.heap.get? T = some oT) (hTI : IsTupOf2 s.heap TI (.ref i1) (.ref i2)) (st1 : St1 i s.heap) (st2 : St2 i s.heap) (hl1 : i < n1) (hl2 : i < n2)
    (hQ : ∀ x y h' tk, P1 i x → P2 i y → IsZipHeld h' z TI TO T true → St1 (i + 1) h' → St2 (i + 1) h' → IsTupOf2 h' s.heap.objs.size x y → h'.objs.size = s.heap.objs.size + 1 →
      (∀ c o, c ≠ z → c ≠ i1 → c ≠ i2 → s.heap.get? c = some o → h'.get? c = some o) → Q (some (.ref s.heap.objs.size)) { s with heap := h', toks := tk }) :
    wpAny (model prog w) A (pyNext (.ref z)) Q E s := by
  have ht : s.TypeIs (.ref z) "zip" := ⟨_, hz, rfl⟩
  unfold pyNext
  exact wpAny_bind (wpAny_attempt (wpAny_callSpecial?_slot (name := Str.ofString "__next__") ht F.slot_zip_next (wpAny_call_entry F.slot_zip_next ht F.entry_zip_next
    (zh_next S D1 D2 hz hT hTI st1 st2 hl1 hl2 fun x y h' tk a b c d e k l m => wpAny_pure (hQ x y h' tk a b c d e k l m)) (F.args_zip_next_1 _))))
theorem zh_pyStop {Q : Option Value → Shared → Prop} (S : ZipSep2 z TI TO i1 i2 fp1 fp2) (D1 : Draws prog w A.in1 i1 fp1 n1 P1 St1) (D2 : Draws prog w A.in1 i2 fp2 n2 P2 St2)
    (hz : IsZipHeld s.heap z TI TO T f) (hT : s.heap.get? T = some oT) (hTI : IsTupOf2 s.heap TI (.ref i1) (.ref i2)) (st1 : St1 i s.heap) (st2 : St2 i s.heap) (hl1 : i ≤ n1) (hl2 : i ≤ n2) (hend : i = n1 ∨ i = n2)
    (hQ : ∀ h' tk, (∀ c o, c ≠ z → c ≠ i1 → c ≠ i2 → s.heap.get? c = some o → h'.get? c = some o) → Q none { s with heap := h', toks := tk }) :
    wpAny (model prog w) A (pyNext (.ref z)) Q E s := by
  have ht : s.TypeIs (.ref z) "zip" := ⟨_, hz, rfl⟩
  unfold pyNext
  refine wpAny_bind (wpAny_attempt (wpAny_callSpecial?_slot (name := Str.ofString "__next__") ht F.slot_zip_next (wpAny_call_entry F.slot_zip_next ht F.entry_zip_next
    (zh_stop S D1 D2 hz hT hTI st1 st2 hl1 hl2 hend fun h' tk e hk he => ?_) (F.args_zip_next_1 _))))
  obtain ⟨o, ho, hc⟩ := he
  exact wpAny_bind (wpAny_isInstance (T := "StopIteration") (b := true) ⟨o, ho, hc⟩ isSubtype_stop (wpAny_pure (hQ _ _ hk)))
end
/-! the list that takes them in -/
section
variable {prog : Program} {w : World} {A : Around} {E : Value → Shared → Prop} {s : Shared} {z TI TO i1 i2 : Addr} {fp1 fp2 : List Addr} {n1 n2 : Nat} {P1 P2 : Nat → Value → Prop} {St1 St2 : Nat → Heap → Prop}
structure ZG (P1 P2 : Nat → Value → Prop) (lo : Addr) (h : Heap) (as : List Addr) : Prop where
  above : ∀ a ∈ as, lo < a
  pairs : ∀ (j : Nat) (a : Addr), as[j]? = some a → ∃ x y, P1 j x ∧ P2 j y ∧ IsTupOf2 h a x y
/-- what the zip is while the list S takes its tuples in -/
def ZS (z TI TO i1 i2 S : Addr) (St1 St2 : Nat → Heap → Prop) (i : Nat) (h : Heap) : Prop := IsTupOf2 h TI (.ref i1) (.ref i2) ∧ St1 i h ∧ St2 i h ∧
  ((IsZip h z TI TO .none ∧ ∃ a b, IsTupOf2 h TO a b) ∨ ∃ T f oT, IsZipHeld h z TI TO T f ∧ h.get? T = some oT ∧ S < T)
structure ZA (z TI TO i1 i2 : Addr) (fp1 fp2 : List Addr) (S : Addr) : Prop where
  sep : ZipSep2 z TI TO i1 i2 fp1 fp2
  lz : z < S
  lI : TI < S
  lO : TO < S
  l1 : ∀ b ∈ fp1, b < S
  l2 : ∀ b ∈ fp2, b < S
theorem ZS.keep {S : Addr} (Z : ZA z TI TO i1 i2 fp1 fp2 S) (D1 : Draws prog w A i1 fp1 n1 P1 St1) (D2 : Draws prog w A i2 fp2 n2 P2 St2) {i : Nat} {h h' : Heap} (st : ZS z TI TO i1 i2 S St1 St2 i h) (k : ∀ b o, b ≠ S → h.get? b = some o → h'.get? b = some o) : ZS z TI TO i1 i2 S St1 St2 i h' := by
  obtain ⟨a1, a2, a3, a4⟩ := st
  refine ⟨k _ _ (Nat.ne_of_lt Z.lI) a1, D1.frame _ _ _ a2 fun b hb o e => k b o (Nat.ne_of_lt (Z.l1 b hb)) e, D2.frame _ _ _ a3 fun b hb o e => k b o (Nat.ne_of_lt (Z.l2 b hb)) e, ?_⟩
  rcases a4 with ⟨b1, x, y, b2⟩ | ⟨T, f, oT, b1, b2, b3⟩
  · exact .inl ⟨k _ _ (Nat.ne_of_lt Z.lz) b1, x, y, k _ _ (Nat.ne_of_lt Z.lO) b2⟩
  · exact .inr ⟨T, f, oT, k _ _ (Nat.ne_of_lt Z.lz) b1, k _ _ (Nat.ne_of_gt b3) b2, b3⟩
theorem zs_item {S : Addr} (Z : ZA z TI TO i1 i2 fp1 fp2 S) (D1 : Draws prog w A.in1 i1 fp1 n1 P1 St1) (D2 : Draws prog w A.in1 i2 fp2 n2 P2 St2) {i : Nat} {Q : Option Value → Shared → Prop} (st : ZS z TI TO i1 i2 S St1 St2 i s.heap) (hS : S < s.heap.objs.size) (h1 : i < n1) (h2 : i < n2)
    (hQ : ∀ x y h' tk, P1 i x → P2 i y → ZS z TI TO i1 i2 S St1 St2 (i + 1) h' → IsTupOf2 h' s.heap.objs.size x y → h'.objs.size = s.heap.objs.size + 1 → (∀ c o, c ≠ z → c ≠ TO → c ≠ i1 → c ≠ i2 → s.heap.get? c = some o → h'.get? c = some o) → Q (some (.ref s.heap.objs.size)) { s with heap := h', toks := tk }) :
    wpAny (model prog w) A (pyNext (.ref z)) Q E s := by
  obtain ⟨a1, a2, a3, a4⟩ := st
  rcases a4 with ⟨b1, x, y, b2⟩ | ⟨T, f, oT, b1, b2, b3⟩
  · exact wpAny_pyNext_zipD2_item Z.sep D1 D2 b1 a1 b2 a2 a3 h1 h2 fun x1 x2 h' tk p1 p2 c1 c2 c3 c4 c5 c6 hk => hQ x1 x2 h' tk p1 p2 ⟨hk _ _ Z.sep.TIz Z.sep.TITO Z.sep.TIi1 Z.sep.TIi2 a1, c3, c4, .inr ⟨_, false, _, c1, c5, hS⟩⟩ c5 c6 hk
  · have t1 : T ≠ z := Nat.ne_of_gt (Nat.lt_trans Z.lz b3)
    have t2 : T ≠ i1 := Nat.ne_of_gt (Nat.lt_trans (Z.l1 _ Z.sep.mem1) b3)
    have t3 : T ≠ i2 := Nat.ne_of_gt (Nat.lt_trans (Z.l2 _ Z.sep.mem2) b3)
    exact zh_pyNext Z.sep D1 D2 b1 b2 a1 a2 a3 h1 h2 fun x1 x2 h' tk p1 p2 c1 c3 c4 c5 c6 hk => hQ x1 x2 h' tk p1 p2 ⟨hk _ _ Z.sep.TIz Z.sep.TIi1 Z.sep.TIi2 a1, c3, c4, .inr ⟨T, true, oT, c1, hk _ _ t1 t2 t3 b2, b3⟩⟩ c5 c6 fun c o q1 _ q3 q4 e => hk c o q1 q3 q4 e
theorem zs_stop {S : Addr} (Z : ZA z TI TO i1 i2 fp1 fp2 S) (D1 : Draws prog w A.in1 i1 fp1 n1 P1 St1) (D2 : Draws prog w A.in1 i2 fp2 n2 P2 St2) {i : Nat} {Q : Option Value → Shared → Prop} (st : ZS z TI TO i1 i2 S St1 St2 i s.heap) (h1 : i ≤ n1) (h2 : i ≤ n2) (he : i = n1 ∨ i = n2)
    (hQ : ∀ h' tk, (∀ c o, c ≠ z → c ≠ TO → c ≠ i1 → c ≠ i2 → s.heap.get? c = some o → h'.get? c = some o) → Q none { s with heap := h', toks := tk }) : wpAny (model prog w) A (pyNext (.ref z)) Q E s := by
  obtain ⟨a1, a2, a3, a4⟩ := st
  rcases a4 with ⟨b1, x, y, b2⟩ | ⟨T, f, oT, b1, b2, b3⟩
  · exact wpAny_pyNext_zipD2_end Z.sep D1 D2 b1 a1 b2 a2 a3 h1 h2 he hQ
  · exact zh_pyStop Z.sep D1 D2 b1 b2 a1 a2 a3 h1 h2 he fun h' tk hk => hQ h' tk fun c o q1 _ q3 q4 e => hk c o q1 q3 q4 e
theorem zl_loop {S : Addr} (Z : ZA z TI TO i1 i2 fp1 fp2 S) (D1 : Draws prog w A.in1.in1 i1 fp1 n1 P1 St1) (D2 : Draws prog w A.in1.in1 i2 fp2 n2 P2 St2) {m : Nat} (hm : m = min n1 n2) (hn : m ≤ sizeLine) (res : Value) {R : Result → Shared → Prop} {h₁ : Heap}
    (hR : ∀ h' tk acc c as, (∀ b o, b ≠ S → b ≠ z → b ≠ TO → b ≠ i1 → b ≠ i2 → h₁.get? b = some o → h'.get? b = some o) → h'.get? S = some { cls := .type "list", dict := none, data := .seq acc c, slots := #[] } → as.length = m → ZG P1 P2 S h' as → acc.toList = as.map Value.ref → R (.ok (.ret res)) { s with heap := h', toks := tk }) :
    ∀ (k i : Nat) (h : Heap) (tk c : Nat) (acc : Array Value) (as : List Addr), m - i = k → i ≤ m → ZS z TI TO i1 i2 S St1 St2 i h → (∀ b o, b ≠ S → b ≠ z → b ≠ TO → b ≠ i1 → b ≠ i2 → h₁.get? b = some o → h.get? b = some o) →
      h.get? S = some { cls := .type "list", dict := none, data := .seq acc c, slots := #[] } → acc.toList = as.map Value.ref → as.length = i → ZG P1 P2 S h as →
      codeAny (model prog w) A (.builtin "list.extend.loop" ⟨[.ref S, .ref z, res], []⟩) R { s with heap := h, toks := tk } := by
  have n1' : i1 < S := Z.l1 _ Z.sep.mem1
  have n2' : i2 < S := Z.l2 _ Z.sep.mem2
  intro k
  induction k with
  | zero =>
    intro i h tk c acc as hk hi st hkeep hS hacc hal hG
    refine codeAny_builtin PySem.F.entry_extend_loop ?_
    rw [Around.under_plainId PySem.F.plain_extend_loop _]
    show wpAny (model prog w) A.in1 (pyNext (.ref z) >>= _) _ _ _
    refine wpAny_bind (zs_stop (s := { s with heap := h, toks := tk }) (A := A.in1) Z D1 D2 st (by omega) (by omega) (by omega) fun h' tk' he => ?_)
    have up : ∀ a o, S ≤ a → h.get? a = some o → h'.get? a = some o := fun a o ha e => he a o (Nat.ne_of_gt (Nat.lt_of_lt_of_le Z.lz ha)) (Nat.ne_of_gt (Nat.lt_of_lt_of_le Z.lO ha)) (Nat.ne_of_gt (Nat.lt_of_lt_of_le n1' ha)) (Nat.ne_of_gt (Nat.lt_of_lt_of_le n2' ha)) e
    refine wpAny_pure (hR h' tk' acc c as (fun b o b1 b2 b3 b4 b5 e => he b o b2 b3 b4 b5 (hkeep b o b1 b2 b3 b4 b5 e)) (up _ _ (Nat.le_refl _) hS) (by omega) ⟨hG.above, fun j a hj => ?_⟩ hacc)
    obtain ⟨x, y, q1, q2, q3⟩ := hG.pairs j a hj
    exact ⟨x, y, q1, q2, up a _ (Nat.le_of_lt (hG.above a (List.mem_of_getElem? hj))) q3⟩
  | succ k ih =>
    intro i h tk c acc as hk hi st hkeep hS hacc hal hG
    have hsz : acc.size = i := by rw [← Array.length_toList, hacc, List.length_map, hal]
    have hSl : S < h.objs.size := Heap.lt_size hS
    refine codeAny_builtin PySem.F.entry_extend_loop ?_
    rw [Around.under_plainId PySem.F.plain_extend_loop _]
    show wpAny (model prog w) A.in1 (pyNext (.ref z) >>= _) _ _ _
    refine wpAny_bind (zs_item (s := { s with heap := h, toks := tk }) (A := A.in1) Z D1 D2 st hSl (by omega) (by omega) fun x y h' tk' p1 p2 st' ht hz hkp => ?_)
    dsimp only at ht hz hkp ⊢
    have up : ∀ a o, S ≤ a → h.get? a = some o → h'.get? a = some o := fun a o ha e => hkp a o (Nat.ne_of_gt (Nat.lt_of_lt_of_le Z.lz ha)) (Nat.ne_of_gt (Nat.lt_of_lt_of_le Z.lO ha)) (Nat.ne_of_gt (Nat.lt_of_lt_of_le n1' ha)) (Nat.ne_of_gt (Nat.lt_of_lt_of_le n2' ha)) e
    have hS' := up _ _ (Nat.le_refl _) hS
    have oth : ∀ b o, b ≠ S → h'.get? b = some o → (h'.update S (Obj.mapSeq (·.push (Value.ref h.objs.size)))).get? b = some o := fun b o hb e => (Heap.get?_update_other _ _ (Ne.symm hb)).trans e
    show wpAny (model prog w) A.in1 (updateSeq S (·.push (Value.ref h.objs.size)) >>= _) _ _ _
    refine wpAny_bind ?_
    refine wpAny_updateSeq hS' rfl (wpAny_pure ⟨plainId_quiet PySem.F.plain_extend_loop _, ih (i + 1) _ tk' _ (acc.push (Value.ref h.objs.size)) (as ++ [h.objs.size]) (by omega) (by omega) (st'.keep Z D1 D2 oth)
      (fun b o b1 b2 b3 b4 b5 e => oth b o b1 (hkp b o b2 b3 b4 b5 (hkeep b o b1 b2 b3 b4 b5 e))) (Heap.get?_update_self _ hS' rfl) (by rw [Array.toList_push, hacc, List.map_append]; rfl) (by rw [List.length_append, hal]; rfl) ⟨?_, ?_⟩⟩) (by rw [hsz]; omega) (by show (acc.push (Value.ref h.objs.size)).size ≤ sizeLine + 1; rw [Array.size_push, hsz]; omega)
    · intro a ha
      rcases List.mem_append.mp ha with ha | ha
      · exact hG.above a ha
      · rw [List.mem_singleton.mp ha]; exact hSl
    · intro j b hj
      rcases Nat.lt_trichotomy j as.length with q | q | q
      · rw [List.getElem?_append_left q] at hj
        obtain ⟨x', y', r1, r2, r3⟩ := hG.pairs j b hj
        have hb := hG.above b (List.mem_of_getElem? hj)
        exact ⟨x', y', r1, r2, oth b _ (Nat.ne_of_gt hb) (up b _ (Nat.le_of_lt hb) r3)⟩
      · subst q
        have hb : h.objs.size = b := by simpa using hj
        subst hb
        rw [hal]
        exact ⟨x, y, p1, p2, oth _ _ (Nat.ne_of_gt hSl) ht⟩
      · rw [List.getElem?_eq_none (by rw [List.length_append, List.length_singleton]; omega)] at hj
        cases hj
theorem zl_call {Q : Value → Shared → Prop} (Z : ZA z TI TO i1 i2 fp1 fp2 s.heap.objs.size) (D1 : Draws prog w A.in1.in1.in1 i1 fp1 n1 P1 St1) (D2 : Draws prog w A.in1.in1.in1 i2 fp2 n2 P2 St2) (hTI : IsTupOf2 s.heap TI (.ref i1) (.ref i2)) (s1 : St1 0 s.heap) (s2 : St2 0 s.heap) (hz : IsZip s.heap z TI TO .none) {a b : Value} (hO : IsTupOf2 s.heap TO a b)
    (hn : min n1 n2 ≤ sizeLine)
    (hQ : ∀ h' tk acc c as, (∀ b o, b ≠ z → b ≠ TO → b ≠ i1 → b ≠ i2 → s.heap.get? b = some o → h'.get? b = some o) → h'.get? s.heap.objs.size = some { cls := .type "list", dict := none, data := .seq acc c, slots := #[] } → as.length = min n1 n2 → ZG P1 P2 s.heap.objs.size h' as →
      acc.toList = as.map Value.ref → Q (.ref s.heap.objs.size) { s with heap := h', toks := tk }) : wpAny (model prog w) A (call (.type "list") [.ref z]) Q E s := by
  refine callType_codes (Q₁ := fun obj s₁ => obj = .ref s.heap.objs.size ∧ s₁ = { s with heap := s.heap.push { cls := .type "list", data := .seq #[] } }) PySem.F.called_list (PySem.F.typeCall_list_1 _) PySem.F.entry_list_init
    (code_list_new _ ⟨rfl, rfl⟩) fun obj s₁ hobj => ?_
  obtain ⟨rfl, rfl⟩ := hobj
  generalize hS0 : s.heap.objs.size = S at *
  have gS : (s.heap.push { cls := .type "list", data := .seq #[] }).get? S = some { cls := .type "list", data := .seq #[] } := by
    rw [← hS0]
    exact Heap.get?_push_size _ rfl
  have nz : S ≠ z := Nat.ne_of_gt Z.lz
  refine ⟨⟨_, gS, rfl⟩, PySem.F.args_list_init_2 _ _, ?_⟩
  show wpAny (model prog w) A.in1.in1 (do let old ← Builtin.List.listItems (.ref S); Builtin.List.listUpdate (.ref S) (fun _ => #[]); letGo old.toList.reverse; Builtin.List.listExtendWith (.ref S) (.ref z) .none) _ _ _
  refine wpAny_bind ?_
  unfold Builtin.List.listItems
  refine wpAny_bind (wpAny_seqItems gS rfl (wpAny_pure ?_))
  show wpAny (model prog w) A.in1.in1 (updateSeq S (fun _ => #[]) >>= fun _ => letGo (#[] : Array Value).toList.reverse >>= fun _ => Builtin.List.listExtendWith (.ref S) (.ref z) .none) _ _ _
  refine wpAny_bind (wpAny_updateSeq gS rfl ?_)
  have g2 := Heap.get?_update_self (Obj.mapSeq (fun _ => (#[] : Array Value))) gS rfl
  have k2 : ∀ b o, b ≠ S → s.heap.get? b = some o → ((s.heap.push { cls := .type "list", data := .seq #[] }).update S (Obj.mapSeq (fun _ => (#[] : Array Value)))).get? b = some o :=
    fun b o hb e => (Heap.get?_update_other _ _ (Ne.symm hb)).trans (Heap.get?_push_of_some _ e)
  generalize (s.heap.push { cls := .type "list", data := .seq #[] }).update S (Obj.mapSeq (fun _ => (#[] : Array Value))) = hA at g2 k2 ⊢
  refine wpAny_bind (wpAny_letGo ?_)
  have hzA : IsZip hA z TI TO .none := k2 _ _ nz.symm hz
  unfold Builtin.List.listExtendWith
  refine wpAny_bind (wpAny_typeOf (T := "zip") ⟨_, hzA, rfl⟩ ?_)
  have e1 : Builtin.List.listSameRef (.ref S) (.ref z) = false := by simp [Builtin.List.listSameRef, nz]
  have e2 : (Value.type "zip" == Value.type "list") = false := by decide
  have e3 : (Value.type "zip" == Value.type "tuple") = false := by decide
  simp only [e1, e2, e3, Bool.or_false, Bool.false_eq_true, if_false]
  refine wpAny_bind (wpAny_pyIter_zip hzA ?_)
  refine wpAny_bind (wpAny_holding ?_)
  unfold Builtin.List.listLengthHint
  refine wpAny_bind (wpAny_specialOf (T := "zip") ⟨_, hzA, rfl⟩ zp_nolen ?_)
  show wpAny (model prog w) A.in1.in1 (specialOf (Value.ref z) (Str.ofString "__length_hint__") >>= _) _ _ _
  refine wpAny_bind (wpAny_specialOf (T := "zip") ⟨_, hzA, rfl⟩ zp_nohint ?_)
  refine wpAny_pure ?_
  show wpAny (model prog w) A.in1.in1 (rule "list.extend.makes-room" >>= fun _ => Builtin.List.listTouch (.ref S) >>= fun _ => again (.builtin "list.extend.loop" ⟨[.ref S, .ref z, .none], []⟩)) _ _ _
  refine wpAny_bind (wpAny_rule ?_)
  refine wpAny_bind ?_
  show wpAny (model prog w) A.in1.in1 (updateSeq S (·.push .none) >>= fun _ => updateSeq S (·.pop)) _ _ _
  refine wpAny_bind (wpAny_updateSeq (hz := by seq_fits) g2 rfl ?_)
  have g3 := Heap.get?_update_self (Obj.mapSeq (·.push Value.none)) g2 rfl
  refine wpAny_updateSeq (hz := by seq_fits) g3 rfl ?_
  have g4 := Heap.get?_update_self (Obj.mapSeq (·.pop)) g3 rfl
  have k4 : ∀ b o, b ≠ S → s.heap.get? b = some o → ((hA.update S (Obj.mapSeq (·.push Value.none))).update S (Obj.mapSeq (·.pop))).get? b = some o := fun b o hb e => (Heap.get?_update_other _ _ (Ne.symm hb)).trans ((Heap.get?_update_other _ _ (Ne.symm hb)).trans (k2 b o hb e))
  generalize (hA.update S (Obj.mapSeq (·.push Value.none))).update S (Obj.mapSeq (·.pop)) = hB at g4 k4 ⊢
  have st0 : ZS z TI TO i1 i2 S St1 St2 0 s.heap := ⟨hTI, s1, s2, .inl ⟨hz, a, b, hO⟩⟩
  refine wpAny_pure ⟨plainId_quiet PySem.F.plain_extend_loop _, zl_loop (s := s) (h₁ := s.heap) (R := _) Z D1 D2 rfl hn .none (fun h' tk acc c as hk hS hl hG hacc => ?_) (min n1 n2) 0 hB s.toks _ #[] [] rfl (Nat.zero_le _) (st0.keep Z D1 D2 k4) (fun b o b1 _ _ _ _ e => k4 b o b1 e) g4 rfl rfl ⟨fun _ h => (nomatch h), fun j a h => by simp at h⟩⟩
  exact ⟨rfl, hQ h' tk acc c as (fun b o b2 b3 b4 b5 e => hk b o (by
    rw [← hS0]
    exact Nat.ne_of_lt (Heap.lt_size e)) b2 b3 b4 b5 e) hS hl hG hacc⟩
end
end Ly
namespace Ly
open PySem PySem.Spec PyProof.Rows L2
/-! ### dict(list(zip(ints, tuple))) -/
def tDictZip (ta : TA) : TE := fun σ H Q => ta σ H fun vs H1 => ∃ (a b : Addr) (ks : List Int) (ys : List V), vs = [.ref a, .ref b] ∧ H1 a = some (.lst (ks.map V.int)) ∧ H1 b = some (.tup ys) ∧ ks.length = ys.length ∧ ks.length ≤ 1000 ∧ ∀ p, H1 p = none → Q (.ref p) (upd H1 p (.dK (mergeK [] ((ks.map Sum.inl : List Key).zip ys))))
theorem kv_zip {ks : List Int} {ys : List V} {us : List Value} (r : Vals ys us) : KV (((ks.map Sum.inl : List Key)).zip ys) (((ks.map Sum.inl : List Key)).zip us) := by
  induction r generalizing ks with
  | nil =>
    cases ks <;> exact .nil
  | cons h t ih =>
    cases ks with
    | nil => exact .nil
    | cons k ks => exact .cons ⟨rfl, h⟩ ih
theorem vals_refs : ∀ (as : List Addr) (i : Nat) (a : Addr), as[i]? = some a → (as.map Value.ref)[i]? = some (.ref a) := fun as i a h => by
  rw [List.getElem?_map, h]
  rfl
section
variable {X : Cx}
theorem pe_dictZip {e e2 : Expr} {ta : TA} {p1 p2 p3 q1 q2 q3 : Pos} (hcal : X.calm = true) (hg : Gl X "dict") (hm : X.mg "dict" = none) (hg2 : Gl X "list") (hm2 : X.mg "list" = none) (hg3 : Gl X "zip") (hm3 : X.mg "zip" = none) (h : PA X [e, e2] ta)
    (hs : starEach [e, e2] X.env = (false, eval e X.env) :: starEach [e2] X.env := by rfl) (hpl : (backTo q1 (starEach [e2] X.env)).any (·.1) = false := by rfl) :
    PE X (.Call (.Name "dict" p1) [.Call (.Name "list" p2) [.Call (.Name "zip" p3) [e, e2] [] q1] [] q2] [] q3) (tDictZip ta) := by
  refine ⟨fun pins s σ H Q I hw => ?_⟩
  refine Call_ (ld_blt I hg hm PyProof.Rows.boot_dict (PyProof.Rows.callWith_type1 (args_cons (Call_ (ld_blt I hg2 hm2 PyProof.Rows.boot_list (PyProof.Rows.callWith_type1 (args_cons (Call_ (ld_blt I hg3 hm3 PyProof.Rows.boot_zip (PyProof.Rows.callWith_type1 (thn (h.run q1 pins s σ H _ I hw) fun us s1 ⟨vs, H1, I1, r1, k1⟩ => ?_) hs hpl))) rfl) rfl))) rfl) rfl))
  obtain ⟨a, b, ks, ys, ex, hqx, hqy, hlen, h1000, q⟩ := k1
  subst ex
  cases r1 with
  | cons r rr =>
    cases rr with
    | cons r' rr =>
      cases rr
      cases r
      cases r'
      obtain ⟨its, rv, pL⟩ := kL.inv I1 (show H1 a = some (kL.ho _) from hqx)
      obtain ⟨its2, rv2, pT⟩ := kT.inv I1 (show H1 b = some (kT.ho _) from hqy)
      have la : a < s1.heap.objs.size := I1.hok.lt hqx
      have lb : b < s1.heap.objs.size := I1.hok.lt hqy
      have l1 : its.length = ks.length := by
        have := rv.length
        rw [List.length_map] at this
        exact this.symm
      have l2 : its2.length = ks.length := by rw [hlen, rv2.length]
      refine zip_begins2 (kL.begins a its.toArray) (kT.begins b its2.toArray) pL pT fun h' hz hTI hTO hi1 hi2 hsz hk => ?_
      have I2 : Inv X pins σ H1 { s1 with heap := h' } := I1.kept (t' := s1.toks) hk
      have big : sysModules < s1.heap.objs.size := I1.big
      generalize hN : s1.heap.objs.size = N at *
      have hh := I1.ok.hd hcal
      refine args_nil ?_
      have hp1 : kL.is_ h' a its.toArray := PySem.Heap.IsList.at pL fun o e => hk _ o e
      have hp2 : kT.is_ h' b its2.toArray := let ⟨o, ho, r⟩ := pT; ⟨o, hk _ _ ho, r⟩
      have hsz' : ({ s1 with heap := h' } : Shared).heap.objs.size = N + 5 := hsz
      refine zl_call (s := { s1 with heap := h' }) (z := N + 4) (TI := N + 2) (TO := N + 3) (i1 := N) (i2 := N + 1) (fp1 := [N, a]) (fp2 := [N + 1, b])
        ⟨zip_sep2 (fun c hc => by rw [List.mem_singleton.mp hc]; exact la) (fun c hc => by rw [List.mem_singleton.mp hc]; exact lb), by rw [hsz']; exact Nat.add_lt_add_left (by decide) N, by rw [hsz']; exact Nat.add_lt_add_left (by decide) N, by rw [hsz']; exact Nat.add_lt_add_left (by decide) N,
          fun c hc => by
            rw [hsz']
            rcases List.mem_cons.mp hc with z | z
            · rw [z]
              exact Nat.lt_add_of_pos_right (by decide)
            · rw [List.mem_singleton.mp z]
              exact Nat.lt_of_lt_of_le la (Nat.le_add_right _ _), fun c hc => by
            rw [hsz']
            rcases List.mem_cons.mp hc with z | z
            · rw [z]
              exact Nat.add_lt_add_left (by decide) N
            · rw [List.mem_singleton.mp z]
              exact Nat.lt_of_lt_of_le lb (Nat.le_add_right _ _)⟩
        (kL.draws (prog := X.prog) (w := X.w) (A := X.A.in1.in1.in1) hh N a (Nat.ne_of_lt la) its.toArray) (kT.draws (prog := X.prog) (w := X.w) (A := X.A.in1.in1.in1) hh (N + 1) b (Nat.ne_of_lt (Nat.lt_succ_of_lt lb)) its2.toArray)
        hTI ⟨kL.it0 hi1, hp1⟩ ⟨kT.it0 hi2, hp2⟩ hz hTO (by rw [List.size_toArray, List.size_toArray, l1, l2, Nat.min_self]; exact sz (by omega)) fun h2 tk acc c as hk2 hS hl hG hacc => ?_
      have hlas : as.length = ks.length := by rw [hl, List.size_toArray, List.size_toArray, l1, l2, Nat.min_self]
      have kk : ∀ b' o, s1.heap.get? b' = some o → h2.get? b' = some o := fun b' o e => by
        have hlt : b' < N := by
          rw [← hN]
          exact Heap.lt_size e
        exact hk2 b' o (Nat.ne_of_lt (Nat.lt_of_lt_of_le hlt (Nat.le_add_right _ _))) (Nat.ne_of_lt (Nat.lt_of_lt_of_le hlt (Nat.le_add_right _ _))) (Nat.ne_of_lt hlt) (Nat.ne_of_lt (Nat.lt_of_lt_of_le hlt (Nat.le_add_right _ _))) (hk _ _ e)
      have I3 : Inv X pins σ H1 { s1 with heap := h2, toks := tk } := I1.kept kk
      refine args_nil ?_
      rw [hsz'] at hS ⊢
      refine call_dict_pairs (s := { s1 with heap := h2, toks := tk }) (l := N + 5) (prs := ((ks.map Sum.inl : List Key)).zip its2) hh hS rfl rfl rfl ?_ ?_ (fun j q' e => ?_) fun h3 tk3 hd3 k3 => ?_
      · rw [← Array.length_toList, hacc, List.length_map, hlas, List.length_zip, List.length_map, l2, Nat.min_self]
      · rw [List.length_zip, List.length_map, l2, Nat.min_self]
        exact sz (by omega)
      · obtain ⟨e1, e2⟩ := List.getElem?_zip_eq_some.mp e
        have hj : j < ks.length := by
          have := (List.getElem?_eq_some_iff.mp e1).1
          rwa [List.length_map] at this
        have ea : as[j]? = some as[j] := List.getElem?_eq_getElem (by rw [hlas]; exact hj)
        obtain ⟨x, y, px, py, ht⟩ := hG.pairs j _ ea
        have px' : its[j]? = some x := by simpa using px
        have py' : its2[j]? = some y := by simpa using py
        rw [py'] at e2
        have ey := Option.some.inj e2
        rw [List.getElem?_map, List.getElem?_eq_getElem hj] at e1
        have ek : Sum.inl ks[j] = q'.1 := Option.some.inj e1
        obtain ⟨u, hu, ru⟩ := rv.get (i := j) (x := .int ks[j]) (by rw [List.getElem?_map, List.getElem?_eq_getElem hj]; rfl)
        rw [px'] at hu
        cases hu
        refine ⟨as[j], x, ?_, ⟨_, ht, rfl, _, by rw [ey]⟩, ?_⟩
        · rw [← Array.getElem?_toList, hacc]
          exact vals_refs _ _ _ ea
        · rw [← ek]
          exact kV_is (P := X.prog) (w := X.w) (k := Sum.inl ks[j]) ru
      · have hm' : (h2.objs.size == sysModules) = false := beq_eq_false_iff_ne.mpr (Nat.ne_of_gt I3.big)
        have rel := kv_zip (ks := ks) rv2
        have hlm : (mergeK [] (((ks.map Sum.inl : List Key)).zip ys)).length ≤ sizeLine := by
          refine Nat.le_trans (length_mergeK _ []) ?_
          rw [List.length_nil, Nat.zero_add, List.length_zip, List.length_map, ← hlen, Nat.min_self]
          exact sz (by omega)
        exact ⟨.ref h2.objs.size, upd H1 h2.objs.size (.dK (mergeK [] (((ks.map Sum.inl : List Key)).zip ys))), I3.laid (t' := tk3) k3 (Nat.le_refl _) (show ObjOk X.prog X.w _ _ _ (.dK _) from ⟨hlm, hm', _, KV.merge rel .nil, hd3⟩), rfl, q _ (I3.hok.fresh (Nat.le_refl _))⟩
end
end Ly
namespace Ly
/-! ### the mirror: what the program and the law compute, in plain Lean -/
abbrev Tab := List (List Int)
structure Tie where
  a : Nat
  b : Nat
  t : Tab
structure Mdl where
  many : Nat
  levels : Nat
  weights : Tab
  ties : List Tie
def tab2 (t : Tab) (x y : Nat) : Int := (t.getD x []).getD y 0
def tiesAt (ts : List Tie) (i : Nat) : List Tie := ts.filter fun t => decide (t.a = i) || decide (t.b = i)
def otherOf (i : Nat) (t : Tie) : Nat := if t.b = i then t.a else t.b
def tiedAt (ts : List Tie) (i : Nat) : List Nat := (tiesAt ts i).map (otherOf i)
def fac (i : Nat) (t : Tie) (v y : Nat) : Int := if t.a = i then tab2 t.t v y else tab2 t.t y v
def localV (m : Mdl) (i : Nat) (ys : List Nat) (v : Nat) : Int := ((tiesAt m.ties i).zip ys).foldl (fun w x => w * fac i x.1 v x.2) (tab2 m.weights i v)
def localW (m : Mdl) (i : Nat) (ys : List Nat) : List Int := (List.range m.levels).map (localV m i ys)
def ext1 {α : Type} (xs : List α) (fs : List (List α)) : List (List α) := fs.flatMap fun f => xs.map fun x => f ++ [x]
def tuplesOf {α : Type} (rows : List (List α)) : List (List α) := rows.foldl (fun fs r => ext1 r fs) [[]]
def allRows (q n : Nat) : List (List Nat) := tuplesOf (List.replicate n (List.range q))
def addedUp (ws : List Int) : List Int := (List.range ws.length).map fun k => (ws.take (k + 1)).sum
def rowBelow (fl : List Bool) (x y : List Nat) : Bool := (fl.zip (x.zip y)).all fun z => if z.1 = true then decide (z.2.2 ≤ z.2.1) else decide (z.2.1 ≤ z.2.2)
def turned1 (flag : Bool) (lx ly : Int) (z : Int × Int) : Bool := !(if flag = true then decide (0 < z.1 * ly - z.2 * lx) else decide (z.1 * ly - z.2 * lx < 0))
def turned (flag : Bool) (x y : List Int) : Bool := (x.zip y).all (turned1 flag (x.getLastD 0) (y.getLastD 0))
def rowsOf (m : Mdl) (i n : Nat) : List (List Nat × List Int) := ((allRows m.levels n).map fun ys => (ys, addedUp (localW m i ys))).filter fun z => decide (0 < z.2.getLastD 0)
def pairOk (flag : Bool) (fl : List Bool) (x y : List Nat × List Int) : Bool := !(rowBelow fl x.1 y.1) || turned flag x.2 y.2
def risesAt (m : Mdl) (i : Nat) (flag : Bool) (fl : List Bool) : Bool := (rowsOf m i fl.length).all fun x => (rowsOf m i fl.length).all fun y => pairOk flag fl x y
def flAt (fl : List Bool) (ts : List Tie) (i : Nat) : List Bool := (tiedAt ts i).map fun j => fl.getD j false
def risesP (m : Mdl) (fl : List Bool) (i : Nat) : Bool := risesAt m i (fl.getD i false) (flAt fl m.ties i)
def risesM (m : Mdl) (fl : List Bool) : Bool := (List.range m.many).all (risesP m fl)
def endLo (q : Nat) (fl : List Bool) : List Nat := fl.map fun f => if f = true then q - 1 else 0
def endHi (q : Nat) (fl : List Bool) : List Nat := fl.map fun f => if f = true then 0 else q - 1
def weightM (m : Mdl) (pic : List Nat) : Int := m.ties.foldl (fun w t => w * tab2 t.t (pic.getD t.a 0) (pic.getD t.b 0)) ((m.weights.zip pic).foldl (fun w z => w * z.1.getD z.2 0) 1)
def endsFit (m : Mdl) (fl : List Bool) : Bool := decide (0 < weightM m (endLo m.levels fl)) && decide (0 < weightM m (endHi m.levels fl))
def allFlips (n : Nat) : List (List Bool) := tuplesOf (List.replicate n [false, true])
def goodF (m : Mdl) (f : List Bool) : Bool := endsFit m f && risesM m f
def flipsFor (m : Mdl) : Option (List Bool) := (allFlips m.many).find? (goodF m)
def maxL (x : Nat) (xs : List Nat) : Nat := xs.foldl max x
def mayP (m : Mdl) (b : List Bool) (i : Nat) : Bool := if maxL i (tiedAt m.ties i) + 1 = b.length then risesP m b i else true
def mayRise (m : Mdl) (b : List Bool) : Bool := (List.range b.length).all (mayP m b)

/-! ### what is asked of models, of pairs -/
def RowOk (n : Nat) (r : List Int) : Prop := r.length = n ∧ ∀ x ∈ r, 0 ≤ x ∧ x ≤ 1000
def TabOk (n k : Nat) (t : Tab) : Prop := t.length = n ∧ ∀ r ∈ t, RowOk k r
abbrev Pr := Nat × Nat
def prLt (p q : Pr) : Prop := p.1 < q.1 ∨ (p.1 = q.1 ∧ p.2 < q.2)
def PairsOk (n : Nat) (ps : List Pr) : Prop := ps.Pairwise prLt ∧ ∀ p ∈ ps, p.1 < p.2 ∧ p.2 < n
structure WF (m : Mdl) : Prop where
  many1 : 1 ≤ m.many
  many12 : m.many ≤ 12
  lev1 : 1 ≤ m.levels
  lev4 : m.levels ≤ 4
  wt : TabOk m.many m.levels m.weights
  tt : ∀ t ∈ m.ties, TabOk m.levels m.levels t.t
  prs : PairsOk m.many (m.ties.map fun t => (t.a, t.b))
  few : ∀ i, i < m.many → (tiesAt m.ties i).length ≤ 4
def mkTies (ps : List Pr) (t : Tab) : List Tie := ps.map fun p => ⟨p.1, p.2, t⟩
def evenM (n q : Nat) (row : List Int) (ps : List Pr) (t : Tab) : Mdl := ⟨n, q, List.replicate n row, mkTies ps t⟩
def spinsM (n : Nat) (ps : List Pr) (s o : Int) : Mdl := evenM n 2 [1, 1] ps [[s, o], [o, s]]
def apartM (n : Nat) (ps : List Pr) (k : Int) : Mdl := evenM n 2 [1, k] ps [[1, 1], [1, 0]]
def leTab (q : Nat) : Tab := (List.range q).map fun x => (List.range q).map fun y => if y ≤ x then 1 else 0
def gridAt (r c k : Nat) : List Pr := (if 0 < (k + 1) % c then [(k, k + 1)] else []) ++ (if k + c < r * c then [(k, k + c)] else [])
def gridPairs (r c : Nat) : List Pr := (List.range (r * c)).flatMap (gridAt r c)
def stacksM (r c mo : Nat) : Mdl := evenM (r * c) (mo + 1) (List.replicate (mo + 1) 1) (gridPairs r c) (leTab (mo + 1))
end Ly
namespace Ly
open PySem PySem.Spec PyProof.Rows L2
/-! ### sorted lists of pairs -/
abbrev uP (n : Nat) : MVP := iP (n : Int)
def pairP (p : Pr) : MVP := tP [uP p.1, uP p.2]
def cd (p : Pr) : Int := (p.1 : Int) * 64 + (p.2 : Int)
def prI (p : Pr) : List Int := [(p.1 : Int), (p.2 : Int)]
theorem cd_code (p : Pr) : TS.code 64 (prI p) = cd p := code_pair _ _
theorem cd_inj {p q : Pr} (h1 : p.2 < 64) (h2 : q.2 < 64) (h : cd p = cd q) : p = q := by
  unfold cd at h
  exact Prod.ext (by omega) (by omega)
theorem all_perm {F : Hp} {α : Type} {g : α → MVP} {xs ys : List V} (p : ys.Perm xs) : ∀ {ps : List α}, All F xs (ps.map g) → ∃ qs : List α, qs.Perm ps ∧ All F ys (qs.map g) := by
  induction p with
  | nil =>
    intro ps h
    cases ps with
    | nil => exact ⟨[], .refl _, .nil⟩
    | cons q ps => cases h
  | cons x p ih =>
    intro ps h
    cases ps with
    | nil => cases h
    | cons q ps =>
      cases h with
      | cons a t =>
        obtain ⟨qs, h1, h2⟩ := ih t
        exact ⟨q :: qs, h1.cons q, .cons a h2⟩
  | swap x y l =>
    intro ps h
    cases ps with
    | nil => cases h
    | cons q ps =>
      cases h with
      | cons a t =>
        cases ps with
        | nil => cases t
        | cons r ps =>
          cases t with
          | cons b t => exact ⟨r :: q :: ps, .swap _ _ _, .cons b (.cons a t)⟩
  | trans p1 p2 ih1 ih2 =>
    intro ps h
    obtain ⟨qs, h1, h2⟩ := ih2 h
    obtain ⟨rs, h3, h4⟩ := ih1 h2
    exact ⟨rs, h3.trans h1, h4⟩
theorem pairP_at {F : Hp} {v : V} {p : Pr} (h : (pairP p).P F v) : ∃ a, v = .ref a ∧ F a = some (.tup ((prI p).map V.int)) := by
  obtain ⟨a, vs, e, h1, h2⟩ := h
  have e1 : vs = (prI p).map V.int := all_sP (vs := (prI p).map V.int) h2
  exact ⟨a, e, by rw [← e1]; exact h1⟩
theorem pairP_of {F : Hp} {a : Addr} {p : Pr} (h : F a = some (.tup ((prI p).map V.int))) : (pairP p).P F (.ref a) := ⟨a, _, rfl, h, all_sP' ((prI p).map V.int)⟩
theorem prI_bd {p : Pr} (h : p.1 < 64 ∧ p.2 < 64) : TS.Bd 64 (prI p) := fun m hm => by
  rcases List.mem_cons.mp hm with e | e
  · rw [e]; omega
  · rw [List.mem_singleton.mp e]; omega
section
variable {K : PySem.W.Frag} {W : Wd} {S : Shr} {env : List Sv} {te : TE}
theorem tupI_of {F H : Hp} {v : V} {p : Pr} (e : Ex F H) (h : (pairP p).P F v) : TupI K H v (prI p) := by
  obtain ⟨a, e1, e2⟩ := pairP_at h
  exact ⟨a, e1, .of (e _ _ e2)⟩
theorem pw_of {F H : Hp} (e : Ex F H) : ∀ {ys : List V} {qs : List Pr}, All F ys (qs.map pairP) → ys.Pairwise (fun x y => ∀ n m, TupI K H x n → TupI K H y m → TS.code 64 n ≤ TS.code 64 m) → qs.Pairwise (fun p q => cd p ≤ cd q)
  | [], [], _, _ => .nil
  | [], _ :: _, h, _ => by cases h
  | _ :: _, [], h, _ => by cases h
  | y :: ys, q :: qs, .cons a t, h => by
    obtain ⟨h1, h2⟩ := List.pairwise_cons.mp h
    refine List.pairwise_cons.mpr ⟨fun r hr => ?_, pw_of e t h2⟩
    obtain ⟨i, hi⟩ := List.mem_iff_getElem?.mp hr
    obtain ⟨z, hz, qz⟩ := all_get (i := i) (P := pairP r) t (by rw [List.getElem?_map, hi]; rfl)
    have := h1 z (List.mem_of_getElem? hz) _ _ (tupI_of e a) (tupI_of e qz)
    rwa [cd_code, cd_code] at this
theorem c1_sortT {ps ms : List Pr} (hl : ps.length < 64) (hb : ∀ p ∈ ps, p.1 < 64 ∧ p.2 < 64) (hm : ms.Perm ps) (hs : ms.Pairwise fun p q => cd p ≤ cd q) : Call1F S (rSortU K 2 64) (lP (ps.map pairP)) (ms.map pairP) := fun F H x e ⟨a, vs, ex, h1, h2⟩ Q k => by
  have l1 := all_len h2
  rw [List.length_map] at l1
  refine ⟨a, vs, by rw [ex], .of (e _ _ h1), by omega, fun v hv => ?_, fun ys q hp hw hq => ?_⟩
  · obtain ⟨i, hi⟩ := List.mem_iff_getElem?.mp hv
    obtain ⟨P, hP, qP⟩ := all_get' h2 hi
    rw [List.getElem?_map] at hP
    obtain ⟨p, hp, e1⟩ := Option.map_eq_some_iff.mp hP
    subst e1
    exact ⟨prI p, tupI_of e qP, rfl, prI_bd (hb p (List.mem_of_getElem? hp))⟩
  · obtain ⟨qs, g1, g2⟩ := all_perm hp h2
    have g3 := pw_of e g2 hw
    have g4 : qs = ms := by
      refine (g1.trans hm.symm).eq_of_pairwise (le := fun p q => cd p ≤ cd q) (fun p q hp hq a b => ?_) g3 hs
      exact cd_inj (hb p (g1.mem_iff.mp hp)).2 (hb q (hm.mem_iff.mp hq)).2 (Int.le_antisymm a b)
    subst g4
    exact k q ys F _ (Go.own e hq) hq (e.nn hq) upd_same g2
theorem strict_eq : ∀ {xs ys : List Pr}, xs.Pairwise (fun p q => cd p < cd q) → ys.Pairwise (fun p q => cd p < cd q) → (∀ p, p ∈ xs ↔ p ∈ ys) → xs = ys
  | [], [], _, _, _ => rfl
  | [], y :: ys, _, _, h => absurd ((h y).mpr List.mem_cons_self) (by simp)
  | x :: xs, [], _, _, h => absurd ((h x).mp List.mem_cons_self) (by simp)
  | x :: xs, y :: ys, h1, h2, h => by
    obtain ⟨a1, a2⟩ := List.pairwise_cons.mp h1
    obtain ⟨b1, b2⟩ := List.pairwise_cons.mp h2
    have e : x = y := by
      rcases List.mem_cons.mp ((h x).mp List.mem_cons_self) with e | e
      · exact e
      · rcases List.mem_cons.mp ((h y).mpr List.mem_cons_self) with e' | e'
        · exact e'.symm
        · have := b1 x e
          have := a1 y e'
          omega
    subst e
    congr 1
    refine strict_eq a2 b2 fun p => ⟨fun hp => ?_, fun hp => ?_⟩
    · rcases List.mem_cons.mp ((h p).mp (List.mem_cons_of_mem _ hp)) with e | e
      · have := a1 p hp
        rw [e] at this
        omega
      · exact e
    · rcases List.mem_cons.mp ((h p).mpr (List.mem_cons_of_mem _ hp)) with e | e
      · have := b1 p hp
        rw [e] at this
        omega
      · exact e
theorem keys_of {F : Hp} : ∀ {vs : List V} {ps : List Pr}, All F vs (ps.map pairP) → ∃ ks : List (Addr × List Int), vs = ks.map (fun k => V.ref k.1) ∧ ks.map (·.2) = ps.map prI ∧ ∀ k ∈ ks, F k.1 = some (.tup (k.2.map V.int))
  | [], [], _ => ⟨[], rfl, rfl, fun _ h => (nomatch h)⟩
  | [], _ :: _, h => by cases h
  | _ :: _, [], h => by cases h
  | v :: vs, p :: ps, .cons a t => by
    obtain ⟨ks, e1, e2, e3⟩ := keys_of t
    obtain ⟨b, eb, hb⟩ := pairP_at a
    refine ⟨(b, prI p) :: ks, by rw [eb, e1]; rfl, by rw [List.map_cons, List.map_cons, e2], fun k hk => ?_⟩
    rcases List.mem_cons.mp hk with e | e
    · rw [e]; exact hb
    · exact e3 k e
theorem prs_of {ks : List (Addr × List Int)} {ps : List Pr} (h : ∀ k ∈ ks, ∃ p ∈ ps, k.2 = prI p) : ∃ qs : List Pr, ks.map (·.2) = qs.map prI ∧ ∀ q ∈ qs, q ∈ ps := by
  induction ks with
  | nil => exact ⟨[], rfl, fun _ h => (nomatch h)⟩
  | cons k ks ih =>
    obtain ⟨qs, e1, e2⟩ := ih fun x hx => h x (List.mem_cons_of_mem _ hx)
    obtain ⟨p, hp, e⟩ := h k List.mem_cons_self
    refine ⟨p :: qs, by rw [List.map_cons, List.map_cons, e, e1], fun q hq => ?_⟩
    rcases List.mem_cons.mp hq with z | z
    · rw [z]; exact hp
    · exact e2 q z
theorem prI_inj {p q : Pr} (h : prI p = prI q) : p = q := by
  unfold prI at h
  injection h with h1 h2
  injection h2 with h2 _
  exact Prod.ext (Int.ofNat.inj h1) (Int.ofNat.inj h2)
theorem ef_sortSet {P : Program} {w : World} {ps ms : List Pr} (h : EvP W te env (lP (ps.map pairP))) (hl : ps.length < 64) (hb : ∀ p ∈ ps, p.1 < 64 ∧ p.2 < 64) (hm : ∀ p, p ∈ ms ↔ p ∈ ps) (hs : ms.Pairwise fun p q => cd p < cd q) :
    EvF W (tCB (rSortedT K P w) (tCons (tCB (rSetOfT K P w) (tCons te tNil)) tNil)) env (ms.map pairP) := fun σ F H e so sl Q k => h σ F H e so sl _ fun x F1 H1 g1 ⟨a, vs, ex, h1, h2⟩ => by
  obtain ⟨ks, e1, e2, e3⟩ := keys_of h2
  subst e1
  have l1 : ks.length = ps.length := by
    have := congrArg List.length e2
    rwa [List.length_map, List.length_map] at this
  have kp : ∀ k ∈ ks, ∃ p ∈ ps, k.2 = prI p := fun k hk => by
    have : k.2 ∈ ps.map prI := by
      rw [← e2]
      exact List.mem_map.mpr ⟨k, hk, rfl⟩
    obtain ⟨p, hp, e⟩ := List.mem_map.mp this
    exact ⟨p, hp, e.symm⟩
  refine ⟨a, ks, by rw [ex], .of (g1.eh _ _ h1), fun p hp => .of (g1.eh _ _ (e3 p hp)), by omega, fun b L hb1 hL1 hL2 => ?_⟩
  have g2 : Go W.S F1 H1 F1 (upd H1 b (SetTO P w b L)) := Go.own g1.eh hb1
  refine ⟨b, L, 2, 64, rfl, upd_same, fun p hp => .of (g2.eh _ _ (e3 p (hL1 p hp))), by decide, fun p hp => ?_, fun L' q p1 p2 p3 p4 hq => ?_⟩
  · obtain ⟨r, hr, e⟩ := kp p (hL1 p hp)
    rw [e]
    exact ⟨rfl, prI_bd (hb r hr)⟩
  · obtain ⟨qs, e4, e5⟩ := prs_of (ks := L') (ps := ps) fun k hk => kp k (hL1 k (p1.mem_iff.mp hk))
    have nd : qs.Nodup := nodup_of_map (f := prI) (by rw [← e4]; exact p2)
    have pw : qs.Pairwise fun p q => cd p ≤ cd q := by
      have : (qs.map prI).Pairwise fun x y => TS.code 64 x ≤ TS.code 64 y := by
        rw [← e4, List.pairwise_map]
        exact p4
      rw [List.pairwise_map] at this
      exact this.imp fun {x y} z => by rwa [cd_code, cd_code] at z
    have pw2 : qs.Pairwise fun p q => cd p < cd q := by
      refine List.Pairwise.imp_of_mem (R := fun p q => cd p ≤ cd q ∧ p ≠ q) (fun {x y} hx hy z => ?_) (pw.and nd)
      have z2 : cd x ≠ cd y := fun e => z.2 (cd_inj (hb x (e5 x hx)).2 (hb y (e5 y hy)).2 e)
      have := z.1
      omega
    have e6 : qs = ms := strict_eq pw2 hs fun p => ⟨fun hp => (hm p).mpr (e5 p hp), fun hp => by
      have hp' := (hm p).mp hp
      have : prI p ∈ ks.map (·.2) := by
        rw [e2]
        exact List.mem_map.mpr ⟨p, hp', rfl⟩
      obtain ⟨k, hk, ek⟩ := List.mem_map.mp this
      have h5 := hL2 k hk
      have h6 : prI p ∈ L'.map (·.2) := by
        rw [← ek]
        exact (p1.map (·.2)).mem_iff.mpr h5
      rw [e4] at h6
      obtain ⟨r, hr, er⟩ := List.mem_map.mp h6
      rw [← prI_inj er]
      exact hr⟩
    subst e6
    have al : ∀ {L' : List (Addr × List Int)} {qs : List Pr}, L'.map (·.2) = qs.map prI → (∀ k ∈ L', F1 k.1 = some (.tup (k.2.map V.int))) → All F1 (L'.map fun k => V.ref k.1) (qs.map pairP) := by
      intro L'
      induction L' with
      | nil =>
        intro qs e _
        cases qs with
        | nil => exact .nil
        | cons q qs => cases e
      | cons k L' ih =>
        intro qs e hk
        cases qs with
        | nil => cases e
        | cons q qs =>
          rw [List.map_cons, List.map_cons] at e
          injection e with e7 e8
          refine .cons (pairP_of ?_) (ih e8 fun x hx => hk x (List.mem_cons_of_mem _ hx))
          rw [← e7]
          exact hk k List.mem_cons_self
    exact k q _ F1 _ ((g1.trans g2).trans (Go.own g2.eh hq)) ((g1.trans g2).nn hq) (g2.eh.nn hq) upd_same (al e4 fun k hk => e3 k (hL1 k (p1.mem_iff.mp hk)))
end
end Ly
namespace Ly
open PySem PySem.Spec PyProof.Rows L2
section
variable {K : PySem.W.Frag} {W : Wd} {S : Shr} {env env' : List Sv} {P P1 P2 P3 : MVP} {ta tb te ti tj : TE} {tr : TA} {tt : TT} {Ps Qs : List MVP} {G : MOP} {D : Ends} {t u : TS}

/-! ### == of data -/
structure HasD (K : PySem.W.Frag) (P : MVP) (d : PyData) (n : Nat) : Prop where
  dp : ∀ F H v, Ex F H → P.P F v → Dp K H v d
  cl : d.canLay0 = true
  dm : d.depth ≤ n
theorem HasD.sh {d : PyData} {n : Nat} (h : HasD K P d n) (hn : n ≤ 64) : SeqAt.shaped d = true := by
  unfold SeqAt.shaped
  rw [h.cl, Bool.true_and]
  exact decide_eq_true (Nat.le_trans h.dm hn)
theorem hd_int {i : Int} : HasD K (iP i) (.int i) 0 := ⟨fun F H v e q => by rw [show v = .int i from q]; exact .int i, rfl, Nat.le_refl _⟩
theorem hd_bl {b : Bool} : HasD K (bP b) (.bool b) 0 := ⟨fun F H v e q => by rw [show v = .bl b from q]; exact .bl b, rfl, Nat.le_refl _⟩
theorem hd_non : HasD K nP .none 0 := ⟨fun F H v e q => by rw [show v = .non from q]; exact .non, rfl, Nat.le_refl _⟩
theorem hd_tup {ds : List PyData} {n : Nat} (h : Paired (fun P d => HasD K P d n) Ps ds) : HasD K (tP Ps) (.tuple ds) (n + 1) := by
  have key : ∀ {Ps : List MVP} {ds : List PyData}, Paired (fun P d => HasD K P d n) Ps ds → (∀ F H vs, Ex F H → All F vs Ps → DpAll K H vs ds) ∧ PyData.canLayAll0 ds = true ∧ PyData.depthAll ds ≤ n := by
    intro Ps ds h
    induction h with
    | nil =>
      refine ⟨fun F H vs e q => ?_, rfl, Nat.zero_le _⟩
      cases q
      exact .nil
    | cons a t ih =>
      obtain ⟨h1, h2, h3⟩ := ih
      refine ⟨fun F H vs e q => ?_, ?_, ?_⟩
      · cases q with
        | cons q qs => exact .cons (a.dp F H _ e q) (h1 F H _ e qs)
      · rw [PyData.canLayAll0, a.cl, h2]; rfl
      · rw [PyData.depthAll]
        exact Nat.max_le.mpr ⟨a.dm, h3⟩
  obtain ⟨h1, h2, h3⟩ := key h
  refine ⟨fun F H v e ⟨a, vs, ev, q1, q2⟩ => ?_, ?_, ?_⟩
  · rw [ev]
    exact .tup (.of (e _ _ q1)) (h1 F H vs e q2)
  · rw [PyData.canLay0]; exact h2
  · rw [PyData.depth]; exact Nat.succ_le_succ h3
theorem pd_map {α β γ : Type} {R : β → γ → Prop} {f : α → β} {g : α → γ} (h : ∀ x, R (f x) (g x)) : ∀ xs : List α, Paired R (xs.map f) (xs.map g)
  | [] => .nil
  | x :: xs => .cons (h x) (pd_map h xs)
abbrev flT (fl : List Bool) : MVP := tP (fl.map bP)
abbrev nsT (ns : List Nat) : MVP := tP (ns.map uP)
theorem hd_fl {fl : List Bool} : HasD K (flT fl) (.tuple (fl.map .bool)) 1 := hd_tup (pd_map (R := fun P d => HasD K P d 0) (fun _ => hd_bl) fl)
theorem hd_ns {ns : List Nat} : HasD K (nsT ns) (.tuple (ns.map fun n : Nat => PyData.int (n : Int))) 1 := hd_tup (pd_map (R := fun P d => HasD K P d 0) (fun _ => hd_int) ns)
theorem HasD.up {d : PyData} {n m : Nat} (h : HasD K P d n) (l : n ≤ m) : HasD K P d m := ⟨h.dp, h.cl, Nat.le_trans h.dm l⟩
theorem eqv_fl : ∀ {a b : List Bool}, PyData.eqvAll (a.map .bool) (b.map .bool) = decide (a = b)
  | [], [] => rfl
  | [], _ :: _ => by simp [PyData.eqvAll]
  | _ :: _, [] => by simp [PyData.eqvAll]
  | x :: a, y :: b => by
    rw [List.map_cons, List.map_cons, PyData.eqvAll, PyData.eqv, eqv_fl]
    by_cases h1 : x = y <;> by_cases h2 : a = b <;> simp [h1, h2]
theorem eqv_ns : ∀ {a b : List Nat}, PyData.eqvAll (a.map fun n : Nat => PyData.int (n : Int)) (b.map fun n : Nat => PyData.int (n : Int)) = decide (a = b)
  | [], [] => rfl
  | [], _ :: _ => by simp [PyData.eqvAll]
  | _ :: _, [] => by simp [PyData.eqvAll]
  | x :: a, y :: b => by
    rw [List.map_cons, List.map_cons, PyData.eqvAll, PyData.eqv, eqv_ns]
    by_cases h1 : x = y
    · by_cases h2 : a = b <;> simp [h1, h2]
    · have h3 : ¬ ((x : Int) = (y : Int)) := fun e => h1 (Int.ofNat.inj e)
      by_cases h2 : a = b <;> simp [h1, h2, h3]
theorem o_eqD {d e : PyData} {n m : Nat} (h1 : HasD K P1 d n) (h2 : HasD K P2 e m) (hn : n ≤ 64) (hm : m ≤ 64) : Op2 S (rEqD K) P1 P2 (bP (PyData.eqv d e)) := fun F H x y ex q1 q2 Q k =>
  ⟨d, e, h1.dp F H x ex q1, h2.dp F H y ex q2, h1.sh hn, h2.sh hm, k _ F H (Go.refl ex) rfl⟩
theorem o_neD {d e : PyData} {n m : Nat} (h1 : HasD K P1 d n) (h2 : HasD K P2 e m) (hn : n ≤ 64) (hm : m ≤ 64) : Op2 S (rNeD K) P1 P2 (bP (!PyData.eqv d e)) := fun F H x y ex q1 q2 Q k =>
  ⟨d, e, h1.dp F H x ex q1, h2.dp F H y ex q2, h1.sh hn, h2.sh hm, k _ F H (Go.refl ex) rfl⟩
theorem o_any12 {α β : Type} {C : α → Prop} {C' : β → Prop} {f : α → MVP} {g : β → MVP} {r : R2} (h : ∀ x y, C x → C' y → Op2 S r (f x) (g y) P3) : Op2 S r (anyP C f) (anyP C' g) P3 := fun F H x y ex ⟨a, ca, qa⟩ ⟨b, cb, qb⟩ Q k => h a b ca cb F H x y ex qa qb Q k
/-- optional flips -/
def opD : Option (List Bool) → PyData
  | none => .none
  | some fl => .tuple (fl.map .bool)
def opP : Option (List Bool) → MVP
  | none => nP
  | some fl => flT fl
theorem hd_op : ∀ {o : Option (List Bool)}, HasD K (opP o) (opD o) 1
  | none => hd_non.up (Nat.zero_le _)
  | some _ => hd_fl
theorem eqv_op {o o' : Option (List Bool)} : PyData.eqv (opD o) (opD o') = decide (o = o') := by
  cases o with
  | none =>
    cases o' with
    | none => rfl
    | some b => simp [opD, PyData.eqv]
  | some a =>
    cases o' with
    | none => simp [opD, PyData.eqv]
    | some b =>
      show PyData.eqvAll _ _ = _
      rw [eqv_fl]
      simp
theorem ev_isO {o : Option (List Bool)} (h : EvP W ta env (opP o)) : EvP W (tIsN ta) env (bP o.isNone) := by
  cases o with
  | none => exact ev_isN (v := .non) h
  | some fl => exact ev_isNt h
theorem ev_notO {o : Option (List Bool)} (h : EvP W ta env (opP o)) : EvP W (tNotN ta) env (bP o.isSome) := by
  cases o with
  | none => exact ev_notN (v := .non) h
  | some fl => exact ev_notNt h
/-- in, of pairs of ints -/
theorem all_get2 {F : Hp} {α : Type} {g : α → MVP} {vs : List V} {ps : List α} (h : All F vs (ps.map g)) : ∀ v ∈ vs, ∃ p ∈ ps, (g p).P F v := fun v hv => by
  obtain ⟨i, hi⟩ := List.mem_iff_getElem?.mp hv
  obtain ⟨P, hP, q⟩ := all_get' h hi
  rw [List.getElem?_map] at hP
  obtain ⟨p, hp, e⟩ := Option.map_eq_some_iff.mp hP
  subst e
  exact ⟨p, List.mem_of_getElem? hp, q⟩
theorem inV_ints {i : Int} : ∀ ns : List Int, inV (.int i) (ns.map V.int) = decide (i ∈ ns)
  | [] => rfl
  | n :: ns => by
    have ih := inV_ints (i := i) ns
    unfold inV at ih ⊢
    rw [List.map_cons, List.any_cons, ih]
    show ((n == i) || decide (i ∈ ns)) = _
    by_cases h : n = i
    · simp [h]
    · have h' : ¬ i = n := fun e => h e.symm
      simp [h, h']
/-- x in (a, b): ints -/
theorem o_inI {i : Int} {ns : List Int} : Op2 S (rIn K false) (iP i) (tP (ns.map iP)) (bP (decide (i ∈ ns))) := fun F H x y ex q1 ⟨a, vs, ev, h1, h2⟩ Q k => by
  have e1 := all_ints h2
  subst e1
  have e2 : x = .int i := q1
  subst e2
  refine ⟨a, _, ev, .inr (.of (ex _ _ h1)), rfl, ?_, k _ F H (Go.refl ex) ?_⟩
  · rw [List.all_map]
    exact List.all_eq_true.mpr fun _ _ => rfl
  · show V.bl _ = V.bl _
    congr 1
    exact inV_ints ns
/-! ### the order of pairs -/
instance (p q : Pr) : Decidable (prLt p q) := by
  unfold prLt
  infer_instance
theorem o_ltP {p q : Pr} : Op2 S (rLtT K) (pairP p) (pairP q) (bP (decide (prLt p q))) := fun F H x y ex q1 q2 Q k => by
  obtain ⟨a, ea, ha⟩ := pairP_at q1
  obtain ⟨b, eb, hb⟩ := pairP_at q2
  refine ⟨a, b, prI p, prI q, ea, eb, .of (ex _ _ ha), .of (ex _ _ hb), k _ F H (Go.refl ex) ?_⟩
  show V.bl _ = V.bl _
  congr 1
  show (if (p.1 : Int) = (q.1 : Int) then (if (p.2 : Int) = (q.2 : Int) then false else decide ((p.2 : Int) < (q.2 : Int))) else decide ((p.1 : Int) < (q.1 : Int))) = _
  by_cases h1 : (p.1 : Int) = (q.1 : Int)
  · rw [if_pos h1]
    by_cases h2 : (p.2 : Int) = (q.2 : Int)
    · rw [if_pos h2]
      exact (decide_eq_false (by unfold prLt; omega)).symm
    · rw [if_neg h2]
      exact decide_eq_decide.mpr (by unfold prLt; omega)
  · rw [if_neg h1]
    exact decide_eq_decide.mpr (by unfold prLt; omega)

/-! ### what is read of one's own list -/
theorem ev_ixO {i : Nat} {k : Int} (hi : env[i]? = some (.ow (lO Ps))) (hk : EvP W ti env (iP k)) (h : atI Ps k = some P) : EvP W (tOp (rIxL K) (tVar i) ti) env P := fun σ F H e so sl Q c => by
  obtain ⟨p, vs, hp, h0, hf, hh, q⟩ := ow_get sl hi
  refine ⟨.ref p, hp, hk σ F H e so sl _ fun y F1 H1 g1 q1 => ?_⟩
  obtain ⟨p', vs', hp', h0', hf', hh', q'⟩ := ow_get (sl.go g1) hi
  rw [hp] at hp'
  cases hp'
  obtain ⟨v, e1, e2⟩ := atI_all q' h
  exact ⟨p, vs', k, v, rfl, q1, .of hh', e1, c v F1 H1 g1 e2⟩
theorem ev_lenO {i : Nat} (hi : env[i]? = some (.ow (lO Ps))) : EvP W (tCB (rLenQ K) (tCons (tVar i) tNil)) env (iP Ps.length) := fun σ F H e so sl Q c => by
  obtain ⟨p, vs, hp, h0, hf, hh, q⟩ := ow_get sl hi
  exact ⟨.ref p, hp, p, vs, rfl, .inl (.of hh), c _ F H (Go.refl e) (by rw [all_len q]; rfl)⟩
/-- p not in one's own list of pairs -/
theorem eqv_pr (p q : Pr) : PyData.eqv (.tuple ((prI p).map .int)) (.tuple ((prI q).map .int)) = decide (p = q) := by
  show (((p.1 : Int) == (q.1 : Int)) && (((p.2 : Int) == (q.2 : Int)) && true)) = _
  by_cases h : p = q
  · subst h
    simp
  · rw [decide_eq_false h]
    by_cases h1 : p.1 = q.1
    · have h2 : p.2 ≠ q.2 := fun e => h (Prod.ext h1 e)
      simp
      omega
    · simp
      omega
theorem hd_pr {p : Pr} : HasD K (pairP p) (.tuple ((prI p).map .int)) 1 := hd_tup (.cons hd_int (.cons hd_int .nil))
theorem dpAll_of {F H : Hp} (ex : Ex F H) : ∀ {vs : List V} {ps : List Pr}, All F vs (ps.map pairP) → DpAll K H vs (ps.map fun p => .tuple ((prI p).map .int))
  | [], [], _ => .nil
  | [], _ :: _, h => by cases h
  | _ :: _, [], h => by cases h
  | _ :: _, _ :: _, .cons a t => .cons (hd_pr.dp F H _ ex a) (dpAll_of ex t)
theorem prs_lay (ps : List Pr) : PyData.canLayAll0 (ps.map fun p => .tuple ((prI p).map .int)) = true ∧ PyData.depthAll (ps.map fun p => .tuple ((prI p).map .int)) ≤ 1 := by
  induction ps with
  | nil => exact ⟨rfl, Nat.zero_le _⟩
  | cons r ps ih =>
    refine ⟨?_, ?_⟩
    · rw [List.map_cons, PyData.canLayAll0, ih.1]; rfl
    · rw [List.map_cons, PyData.depthAll]
      exact Nat.max_le.mpr ⟨Nat.le_refl _, ih.2⟩
theorem prs_any (p : Pr) (ps : List Pr) : (ps.map fun p => PyData.tuple ((prI p).map .int)).any (fun z => PyData.eqv z (.tuple ((prI p).map .int))) = decide (p ∈ ps) := by
  induction ps with
  | nil => rfl
  | cons r ps ih =>
    rw [List.map_cons, List.any_cons, ih, eqv_pr]
    by_cases h : r = p
    · simp [h]
    · have h' : ¬ p = r := fun e => h e.symm
      simp [h, h']
theorem ev_notInO {i : Nat} {p : Pr} {ps : List Pr} (hi : env[i]? = some (.ow (lO (ps.map pairP)))) (h : EvP W ta env (pairP p)) : EvP W (tOp (rNotInD K) ta (tVar i)) env (bP (!decide (p ∈ ps))) := fun σ F H e so sl Q c =>
  h σ F H e so sl _ fun x F1 H1 g1 q1 => by
    obtain ⟨a, vs, hp, h0, hf, hh, q⟩ := ow_get (sl.go g1) hi
    have c1 := prs_lay ps
    refine ⟨.ref a, hp, .tuple ((prI p).map .int), _, hd_pr.dp F1 H1 x g1.eh q1, .lst (.of hh) (dpAll_of g1.eh q), (hd_pr (K := K) (p := p)).sh (by decide), ?_, c _ F1 H1 g1 ?_⟩
    · unfold SeqAt.shaped
      rw [PyData.canLay0, c1.1, PyData.depth, Bool.true_and]
      exact decide_eq_true (by omega)
    · show V.bl _ = V.bl _
      congr 2
      exact prs_any p ps

/-! ### several values of which some are new and one's own -/
def NewOk (H F' H' : Hp) (v : V) : Sv → Prop
  | .fz P => P.P F' v
  | .ow G => ∃ p o, v = .ref p ∧ H p = none ∧ F' p = none ∧ H' p = some o ∧ G.G F' o
  | _ => False
structure News (H F' H' : Hp) (vs : List V) (ss : List Sv) : Prop where
  ok : Paired (fun v s => NewOk H F' H' v s) vs ss
  ap : ∀ (i j : Nat) (s t : Sv) (p : Addr), ss[i]? = some s → ss[j]? = some t → s.own = true → t.own = true → vs[i]? = some (.ref p) → vs[j]? = some (.ref p) → i = j
def EvM (W : Wd) (ta : TA) (env ss : List Sv) : Prop := ∀ σ F H, Ex F H → SOk W.S F H → Slots W F H σ env → ∀ Q : List V → Hp → Prop, (∀ vs F' H', Go W.S F H F' H' → News H F' H' vs ss → Q vs H') → ta σ H Q
theorem NewOk.low {H0 H F' H' : Hp} {v : V} {s : Sv} (h : NewOk H F' H' v s) (l : ∀ p, H p = none → H0 p = none) : NewOk H0 F' H' v s := by
  cases s with
  | ow G =>
    obtain ⟨p, o, e, h1, r⟩ := h
    exact ⟨p, o, e, l p h1, r⟩
  | fz P => exact h
  | no => exact h
  | sh G => exact h
theorem em_nil : EvM W tNil env [] := fun σ F H e so sl Q k => k [] F H (Go.refl e) ⟨.nil, fun i j s t p e => by simp at e⟩
theorem em_cons {ss : List Sv} (h : EvP W te env P) (hr : EvM W tr env ss) : EvM W (tCons te tr) env (.fz P :: ss) := fun σ F H e so sl Q k => h σ F H e so sl _ fun x F1 H1 g1 q1 => hr σ F1 H1 g1.eh (so.go g1) (sl.go g1) _ fun vs F2 H2 g2 q2 => by
  refine k (x :: vs) F2 H2 (g1.trans g2) ⟨.cons (P.m _ _ _ g2.fe q1) (Paired.mapP q2.ok fun v s z => z.low fun p hp => g1.nn hp), fun i j s t p ei ej hs ht vi vj => ?_⟩
  cases i with
  | zero =>
    cases ei
    cases hs
  | succ i =>
    cases j with
    | zero =>
      cases ej
      cases ht
    | succ j => exact congrArg Nat.succ (q2.ap i j s t p (by simpa using ei) (by simpa using ej) hs ht (by simpa using vi) (by simpa using vj))
theorem paired_get {α β : Type} {R : α → β → Prop} : ∀ {xs : List α} {ys : List β} {i : Nat} {x : α} {y : β}, Paired R xs ys → xs[i]? = some x → ys[i]? = some y → R x y
  | _, _, 0, _, _, .cons h _, e1, e2 => by
    have a1 := Option.some.inj e1
    have a2 := Option.some.inj e2
    subst a1 a2
    exact h
  | _, _, i + 1, _, _, .cons _ t, e1, e2 => paired_get (i := i) t (by simpa using e1) (by simpa using e2)
  | _, _, _, _, _, .nil, e1, _ => by simp at e1
theorem em_own {ss : List Sv} (h : EvF W te env Ps) (hr : EvM W tr env ss) : EvM W (tCons te tr) env (.ow (lO Ps) :: ss) := fun σ F H e so sl Q k => h σ F H e so sl _ fun q us F1 H1 g1 n1 n2 hh al => hr σ F1 H1 g1.eh (so.go g1) (sl.go g1) _ fun vs F2 H2 g2 q2 => by
  have nS : W.S q = none := by
    cases z : W.S q with
    | none => rfl
    | some G =>
      obtain ⟨_, o, h2, _⟩ := so.at_ q G z
      rw [n1] at h2
      cases h2
  have hh2 := go_at g2 nS hh
  refine k (.ref q :: vs) F2 H2 (g1.trans g2) ⟨.cons ⟨q, _, rfl, n1, (g2.nw q (by rw [hh]; simp)).trans n2, hh2, us, rfl, pair_mono g2.fe al⟩ (Paired.mapP q2.ok fun v s z => z.low fun p hp => g1.nn hp), fun i j s t p ei ej hs ht vi vj => ?_⟩
  have key : ∀ (j : Nat) (t : Sv), ss[j]? = some t → t.own = true → vs[j]? = some (.ref q) → False := fun j t ej ht vj => by
    have := paired_get q2.ok vj ej
    cases t with
    | ow G =>
      obtain ⟨p', o, e1, e2, _⟩ := this
      cases e1
      rw [hh] at e2
      cases e2
    | _ => cases ht
  cases i with
  | zero =>
    cases j with
    | zero => rfl
    | succ j =>
      have e1 : V.ref q = V.ref p := Option.some.inj vi
      cases e1
      exact (key j t (by simpa using ej) ht (by simpa using vj)).elim
  | succ i =>
    cases j with
    | zero =>
      have e1 : V.ref q = V.ref p := Option.some.inj vj
      cases e1
      exact (key i s (by simpa using ei) hs (by simpa using vi)).elim
    | succ j => exact congrArg Nat.succ (q2.ap i j s t p (by simpa using ei) (by simpa using ej) hs ht (by simpa using vi) (by simpa using vj))
/-- a slot gets a new value -/
theorem Slots.setN {H F' H' : Hp} {σ : L2.St} {i : Nat} {v : V} {s : Sv} (sl : Slots W F' H' σ env) (h0 : ∀ p, H p = none → W.H0 p = none) (q : NewOk H F' H' v s)
    (sep : s.own = true → ∀ p, v = .ref p → ∀ j t, j ≠ i → env[j]? = some t → t.own = true → σ[j]? ≠ some (some (.ref p))) : Slots W F' H' (σ.set i (some v)) (env.set i s) := by
  refine sl.set i ?_ fun z p e => sep z p (Option.some.inj e)
  cases s with
  | no => exact True.intro
  | fz P => exact ⟨v, rfl, q⟩
  | sh G => exact q.elim
  | ow G =>
    obtain ⟨p, o, e, a, b, c, d⟩ := q
    exact ⟨p, o, by rw [e], h0 p a, b, c, d⟩
theorem new_sep {F H F' H' : Hp} {σ : L2.St} {v : V} {s : Sv} (sl : Slots W F H σ env) (q : NewOk H F' H' v s) (hs : s.own = true) : ∀ p, v = .ref p → ∀ (j : Nat) (t : Sv), env[j]? = some t → t.own = true → σ[j]? ≠ some (some (.ref p)) := fun p e j t ej ht => by
  cases s with
  | ow G =>
    obtain ⟨p', o, e1, a, _⟩ := q
    rw [e] at e1
    cases e1
    exact own_sep sl a j t ej ht
  | _ => cases hs
theorem at_par {i j : Nat} {s1 s2 : Sv} (h : EvM W tr env [s1, s2]) (k : At W D.nx ((env.set i s1).set j s2)) : At W (tPar i j tr D) env := fun σ F H g0 eB sl => h σ F H g0.eh (W.ok.go g0) sl _ fun vs F1 H1 g1 nw => by
  obtain ⟨ok, ap⟩ := nw
  cases ok with
  | cons q1 r1 =>
    cases r1 with
    | cons q2 r2 =>
      cases r2
      rename_i v w
      have sl1 := sl.go g1
      have hh0 : ∀ p, H p = none → W.H0 p = none := fun p hp => g0.nn hp
      have sa := sl1.setN (i := i) hh0 q1 fun z p e j' t _ ej ht => new_sep sl q1 z p e j' t ej ht
      refine ⟨v, w, rfl, k _ F1 H1 (g0.trans g1) (eB.trans g1.fe) (sa.setN (i := j) hh0 q2 fun z p e j' t hj' ej ht hσ => ?_)⟩
      by_cases hji : i = j'
      · subst hji
        by_cases hl : i < env.length
        · rw [List.getElem?_set_self hl] at ej
          cases ej
          rw [List.getElem?_set_self (by rw [sl.len]; exact hl)] at hσ
          have := ap 0 1 s1 s2 p rfl rfl ht z (show some _ = some (V.ref p) from Option.some.inj hσ) (show some _ = some (V.ref p) by rw [e])
          cases this
        · rw [List.getElem?_eq_none (by rw [List.length_set]; omega)] at ej
          cases ej
      · rw [List.getElem?_set_ne hji] at ej hσ
        exact new_sep sl q2 z p e j' t ej ht hσ
theorem q_par {i j : Nat} {s1 s2 : Sv} (h : EvM W tr env [s1, s2]) (k : At W (u D) ((env.set i s1).set j s2)) : At W (tSeq (tPar i j tr) u D) env := at_par (D := { D with nx := u D }) h k
theorem q_par3 {i j l : Nat} {s1 s2 s3 : Sv} (h : EvM W tr env [s1, s2, s3]) (k : At W (u D) (((env.set i s1).set j s2).set l s3)) : At W (tSeq (tPar3 i j l tr) u D) env := fun σ F H g0 eB sl => h σ F H g0.eh (W.ok.go g0) sl _ fun vs F1 H1 g1 nw => by
  obtain ⟨ok, ap⟩ := nw
  cases ok with
  | cons q1 r1 =>
    cases r1 with
    | cons q2 r2 =>
      cases r2 with
      | cons q3 r3 =>
        cases r3
        rename_i v w x
        have sl1 := sl.go g1
        have hh0 : ∀ p, H p = none → W.H0 p = none := fun p hp => g0.nn hp
        have sa := sl1.setN (i := i) hh0 q1 fun z p e j' t _ ej ht => new_sep sl q1 z p e j' t ej ht
        have sb := sa.setN (i := j) hh0 q2 fun z p e j' t hj' ej ht hσ => by
          by_cases hji : i = j'
          · subst hji
            by_cases hl : i < env.length
            · rw [List.getElem?_set_self hl] at ej
              cases ej
              rw [List.getElem?_set_self (by rw [sl.len]; exact hl)] at hσ
              have := ap 0 1 s1 s2 p rfl rfl ht z (show some _ = some (V.ref p) from Option.some.inj hσ) (show some _ = some (V.ref p) by rw [e])
              cases this
            · rw [List.getElem?_eq_none (by rw [List.length_set]; omega)] at ej
              cases ej
          · rw [List.getElem?_set_ne hji] at ej hσ
            exact new_sep sl q2 z p e j' t ej ht hσ
        refine ⟨v, w, x, rfl, k _ F1 H1 (g0.trans g1) (eB.trans g1.fe) (sb.setN (i := l) hh0 q3 fun z p e j' t hj' ej ht hσ => ?_)⟩
        by_cases hjj : j = j'
        · subst hjj
          by_cases hl : j < env.length
          · rw [List.getElem?_set_self (by rw [List.length_set]; exact hl)] at ej
            cases ej
            rw [List.getElem?_set_self (by rw [List.length_set, sl.len]; exact hl)] at hσ
            have := ap 1 2 s2 s3 p rfl rfl ht z (show some _ = some (V.ref p) from Option.some.inj hσ) (show some _ = some (V.ref p) by rw [e])
            cases this
          · rw [List.getElem?_eq_none (by rw [List.length_set, List.length_set]; omega)] at ej
            cases ej
        · rw [List.getElem?_set_ne hjj] at ej hσ
          by_cases hji : i = j'
          · subst hji
            by_cases hl : i < env.length
            · rw [List.getElem?_set_self hl] at ej
              cases ej
              rw [List.getElem?_set_self (by rw [sl.len]; exact hl)] at hσ
              have := ap 0 2 s1 s3 p rfl rfl ht z (show some _ = some (V.ref p) from Option.some.inj hσ) (show some _ = some (V.ref p) by rw [e])
              cases this
            · rw [List.getElem?_eq_none (by rw [List.length_set]; omega)] at ej
              cases ej
          · rw [List.getElem?_set_ne hji] at ej hσ
            exact new_sep sl q3 z p e j' t ej ht hσ

/-! ### stores -/
/-- xs[i] *= e -/
theorem at_augS {i j : Nat} {k : Int} {r : TIp} (hi : env[i]? = some (.ow (lO Ps))) (hk : EvP W ti env (iP k)) (hj : ixN Ps.length k = some j) (h1 : Ps[j]? = some P1) (he : EvP W te env P2) (ho : Op2 W.S r P1 P2 P3)
    (c : At W D.nx (env.set i (.ow (lO (Ps.set j P3))))) : At W (tAugS (tVar i) ti te (rIxL K) r rSetL D) env := fun σ F H g0 eB sl => by
  obtain ⟨p, vs, hp, h0, hf, hh, q⟩ := ow_get sl hi
  refine ⟨.ref p, hp, hk σ F H g0.eh (W.ok.go g0) sl _ fun y F1 H1 g1 q1 => ?_⟩
  have G1 := g0.trans g1
  obtain ⟨p1, vs1, hp1, _, hf1, hh1, a1⟩ := ow_get (sl.go g1) hi
  rw [hp] at hp1
  cases hp1
  obtain ⟨v, hv, qv⟩ := all_get a1 h1
  refine ⟨p, vs1, k, v, rfl, q1, .of hh1, ?_, he σ F1 H1 g1.eh (W.ok.go G1) (sl.go g1) _ fun z F2 H2 g2 q2 => ?_⟩
  · unfold atI
    rw [all_len a1, hj]
    exact hv
  · refine ho F2 H2 v z g2.eh (P1.m _ _ _ g2.fe qv) q2 _ fun w F3 H3 g3 q3 => ?_
    have G3 := g1.trans (g2.trans g3)
    obtain ⟨p3, vs3, hp3, _, hf3, hh3, a3⟩ := ow_get (sl.go G3) hi
    rw [hp] at hp3
    cases hp3
    exact ⟨p, vs3, k, j, rfl, q1, hh3, by rw [all_len a3]; exact hj, c σ F3 _ ((g0.trans G3).wr h0 hf3) (eB.trans G3.fe) ((sl.go G3).write hi hp ⟨_, rfl, all_set q3 j a3⟩)⟩
/-- xs[i], xs[j] = a, b -/
theorem at_setLL {i a b : Nat} {x y : Int} (hi : env[i]? = some (.ow (lO Ps))) (h1 : EvP W ta env P1) (h2 : EvP W tb env P2) (hx : ∀ Ps', Ps'.length = Ps.length → EvP W ti (env.set i (.ow (lO Ps'))) (iP x)) (hy : ∀ Ps', Ps'.length = Ps.length → EvP W tj (env.set i (.ow (lO Ps'))) (iP y)) (ha : ixN Ps.length x = some a) (hb : ixN Ps.length y = some b)
    (c : At W D.nx (env.set i (.ow (lO ((Ps.set a P1).set b P2))))) : At W (tAsg (tTup (tCons ta (tCons tb tNil))) (gTup K 2 (gCons (gSub (tVar i) ti rSetL) (gCons (gSub (tVar i) tj rSetL) gNil))) D) env := fun σ F H g0 eB sl =>
  ev_tup (Ps := [P1, P2]) (as_cons h1 (as_cons h2 as_nil)) (show 2 ≤ 1000 by decide) σ F H g0.eh (W.ok.go g0) sl _ fun v F1 H1 g1 ⟨t, vs, ev, ht, al⟩ => by
    cases al with
    | cons q1 al =>
      cases al with
      | cons q2 al =>
        cases al
        rename_i v1 v2
        have G1 := g0.trans g1
        have sl1 := sl.go g1
        have es : env.set i (.ow (lO Ps)) = env := by
          refine List.ext_getElem? fun j => ?_
          by_cases hji : i = j
          · subst hji
            rw [List.getElem?_set_self (List.getElem?_eq_some_iff.mp hi).1, hi]
          · rw [List.getElem?_set_ne hji]
        obtain ⟨p, us, hp, h0, hf, hh, q⟩ := ow_get sl1 hi
        refine ⟨t, [v1, v2], ev, .of (g1.eh _ _ ht), rfl, v1, [v2], rfl, .ref p, hp, ?_⟩
        have hx0 := hx Ps rfl
        rw [es] at hx0
        refine hx0 σ F1 H1 g1.eh (W.ok.go G1) sl1 _ fun i1 F2 H2 g2 e2 => ?_
        obtain ⟨p2, us2, hp2, _, hf2, hh2, a2⟩ := ow_get (sl1.go g2) hi
        rw [hp] at hp2
        cases hp2
        refine ⟨p, us2, x, a, rfl, e2, hh2, by rw [all_len a2]; exact ha, v2, [], rfl, .ref p, hp, ?_⟩
        have g3 : Go W.S W.F0 W.H0 F2 (upd H2 p (.lst (us2.set a v1))) := (G1.trans g2).wr h0 hf2
        have a2' := all_set (P1.m _ _ _ g2.fe q1) a a2
        have sl3 : Slots W F2 (upd H2 p (.lst (us2.set a v1))) σ (env.set i (.ow (lO (Ps.set a P1)))) := (sl1.go g2).write hi hp ⟨_, rfl, a2'⟩
        refine hy (Ps.set a P1) List.length_set σ F2 _ g3.eh (W.ok.go g3) sl3 _ fun i2 F4 H4 g4 e4 => ?_
        have hi3 : (env.set i (.ow (lO (Ps.set a P1))))[i]? = some (.ow (lO (Ps.set a P1))) := List.getElem?_set_self (List.getElem?_eq_some_iff.mp hi).1
        obtain ⟨p4, us4, hp4, _, hf4, hh4, a4⟩ := ow_get (sl3.go g4) hi3
        rw [hp] at hp4
        cases hp4
        have fin := (sl3.go g4).write (G' := lO ((Ps.set a P1).set b P2)) hi3 hp ⟨_, rfl, all_set (P2.m _ _ _ (g2.fe.trans g4.fe) q2) b a4⟩
        rw [List.set_set] at fin
        exact ⟨p, us4, y, b, rfl, e4, hh4, by rw [all_len a4, List.length_set]; exact hb, rfl, c σ F4 _ ((g3.trans g4).wr h0 hf4) (((eB.trans g1.fe).trans g2.fe).trans g4.fe) fin⟩
end
end Ly
namespace Ly
open PySem PySem.Spec PyProof.Rows L2
abbrev rowP (r : List Int) : MVP := tP (r.map iP)
abbrev tabP (t : Tab) : MVP := tP (t.map rowP)
def tieP (t : Tie) : MVP := tP [uP t.a, uP t.b, tabP t.t]
abbrev tiesP (ts : List Tie) : MVP := tP (ts.map tieP)

/-! ### instances -/
abbrev FsP (F : Hp) (vs : List (Str × V)) (fs : List (Str × MVP)) : Prop := Paired (fun v f => v.1 = f.1 ∧ f.2.P F v.2) vs fs
theorem fsP_m {F F' : Hp} (e : Ex F F') {vs : List (Str × V)} {fs : List (Str × MVP)} (h : FsP F vs fs) : FsP F' vs fs := Paired.mapP h fun v f z => ⟨z.1, f.2.m _ _ _ e z.2⟩
def insG (C : Addr) (fs : List (Str × MVP)) : MOP := ⟨fun F o => ∃ dx vs, o = .ins C dx vs ∧ FsP F vs fs, fun _ _ _ e ⟨dx, vs, h1, h2⟩ => ⟨dx, vs, h1, fsP_m e h2⟩⟩
abbrev mdlFs (m : Mdl) : List (Str × MVP) := [("many", uP m.many), ("levels", uP m.levels), ("weights", tabP m.weights), ("ties", tiesP m.ties)]
abbrev mdlG (C : Addr) (m : Mdl) : MOP := insG C (mdlFs m)
abbrev mdlP (C : Addr) (m : Mdl) : MVP := objP (mdlG C m)
theorem fsP_look {F : Hp} {f : Str} {P : MVP} : ∀ {vs : List (Str × V)} {fs : List (Str × MVP)}, FsP F vs fs → fs.lookup f = some P → ∃ v, vs.lookup f = some v ∧ P.P F v
  | _, _, .nil, e => by cases e
  | (k, v) :: vs, (l, P') :: fs, .cons ⟨h1, h2⟩ t, e => by
    have h1' : k = l := h1
    subst h1'
    rw [List.lookup_cons] at e ⊢
    cases q : (f == k) with
    | true =>
      rw [q] at e
      cases e
      exact ⟨v, rfl, h2⟩
    | false =>
      rw [q] at e
      exact fsP_look t e
theorem fsP_put {F : Hp} {f : Str} {v : V} {P : MVP} (q : P.P F v) : ∀ {vs : List (Str × V)} {fs : List (Str × MVP)}, FsP F vs fs → (∀ g ∈ fs, g.1 ≠ f) → FsP F (putF f v vs) (fs ++ [(f, P)])
  | _, _, .nil, _ => .cons ⟨rfl, q⟩ .nil
  | (k, v') :: vs, (l, P') :: fs, .cons ⟨h1, h2⟩ t, hn => by
    have h1' : k = l := h1
    subst h1'
    have e1 : k ≠ f := hn _ List.mem_cons_self
    unfold putF
    rw [if_neg e1]
    exact .cons ⟨rfl, h2⟩ (fsP_put q t fun g hg => hn g (List.mem_cons_of_mem _ hg))
section
variable {K : PySem.W.Frag} {W : Wd} {S : Shr} {env env' : List Sv} {P P1 P2 P3 : MVP} {ta tb te ti tj : TE} {tr : TA} {tt : TT} {Ps Qs : List MVP} {G : MOP} {D : Ends} {t u : TS} {C : Addr} {fs : List (Str × MVP)}
theorem ev_fld {f : Str} (c : Cls K C) (n : NoAttr K C f) (h : EvP W te env (objP (insG C fs))) (hl : fs.lookup f = some P) : EvP W (tFld K te f) env P := fun σ F H e so sl Q k => h σ F H e so sl _ fun x F1 H1 g1 ⟨p, o, ex, h1, dx, vs, eo, h2⟩ => by
  subst eo
  obtain ⟨v, e1, e2⟩ := fsP_look h2 hl
  exact ⟨p, C, dx, vs, v, ex, g1.eh _ _ h1, c, n, e1, k v F1 H1 g1 e2⟩
theorem at_fld {f : Str} {i : Nat} (c : Cls K C) (n : NoAttr K C f) (hi : env[i]? = some (.ow (insG C fs))) (he : EvP W te env P) (hn : ∀ g ∈ fs, g.1 ≠ f) (hl : fs.length ≤ 10)
    (k : At W D.nx (env.set i (.ow (insG C (fs ++ [(f, P)]))))) : At W (sFld K (tVar i) te f D) env := fun σ F H g0 eB sl => he σ F H g0.eh (W.ok.go g0) sl _ fun v F1 H1 g1 q1 => by
  obtain ⟨x, hx, p, o, ex, h0, hf, hh, dx, vs, eo, h2⟩ := (sl.go g1).ok i _ hi
  subst eo
  have hp : σ[i]? = some (some (.ref p)) := by rw [hx, ex]
  have hlen := Paired.length h2
  refine ⟨.ref p, hp, p, C, dx, vs, rfl, hh, c, n, by omega, ?_⟩
  exact k σ F1 _ ((g0.trans g1).wr h0 hf) (eB.trans g1.fe) ((sl.go g1).write (G' := insG C (fs ++ [(f, P)])) hi hp ⟨dx, _, rfl, fsP_put q1 h2 hn⟩)
end
/-- the promise of Model.__init__ -/
def spI (C : Addr) : Sp := fun vs H Q _ => ∃ (S : Shr) (F H1 : Hp) (x dx : Addr) (m : Mdl) (us : List V), vs = .ref x :: us ∧ SOk S F H1 ∧ Ex F H1 ∧ H = upd (upd H1 dx (.own x)) x (.ins C dx []) ∧ H1 x = none ∧ H1 dx = none ∧ dx ≠ x ∧
  ArgsOk S F us [.fz (uP m.many), .fz (uP m.levels), .fz (tabP m.weights), .fz (tiesP m.ties)] ∧ WF m ∧ ∀ F' H' o, Go S F H1 F' H' → H' x = some o → F' x = none → (mdlG C m).G F' o → Q .non H'
theorem ev_make {K : PySem.W.Frag} {W : Wd} {env : List Sv} {ta : TA} {C : Addr} {E : XK} {m : Mdl} (h : EvAs W ta env [uP m.many, uP m.levels, tabP m.weights, tiesP m.ties]) (wf : WF m) : EvP W (tMake C (spI C) [] E ta) env (mdlP C m) := fun σ F H e so sl Q k => h σ F H e so sl _ fun vs F1 H1 g1 al => by
  intro x dx hx hdx hne
  refine ⟨W.S, F1, H1, x, dx, m, vs, by rw [List.append_nil], so.go g1, g1.eh, rfl, hx, hdx, hne, ?_, wf, fun F' H' o g ho hf hg => ⟨rfl, ?_⟩⟩
  · cases al with
    | cons a al =>
      cases al with
      | cons b al =>
        cases al with
        | cons c al =>
          cases al with
          | cons d al =>
            cases al
            exact .cons a (.cons b (.cons c (.cons d .nil)))
  · exact k (.ref x) _ H' (g1.trans (g.frz hx hf ho)) ⟨x, o, rfl, upd_same, (mdlG C m).m _ _ _ (Ex.new hf) hg⟩
/-- its last rows -/
theorem at_init4 {K : PySem.W.Frag} {W : Wd} {env : List Sv} {D : Ends} {C x dx : Addr} {m : Mdl} (c : Cls K C) (n1 : NoAttr K C "many") (n2 : NoAttr K C "levels") (n3 : NoAttr K C "weights") (n4 : NoAttr K C "ties") (e0 : env[0]? = some (.fz (sP (.ref x))))
    (e1 : env[1]? = some (.fz (uP m.many))) (e2 : env[2]? = some (.fz (uP m.levels))) (e3 : env[3]? = some (.fz (tabP m.weights))) (e4 : env[4]? = some (.fz (tiesP m.ties))) (hx : W.H0 x = some (.ins C dx [])) (hs : W.S x = none)
    (k : ∀ σ F H o, Go W.S W.F0 W.H0 F H → (mdlG C m).G F o → D.nx σ (upd H x o)) :
    At W (tSeq (sFld K (tVar 0) (tVar 1) "many") (tSeq (sFld K (tVar 0) (tVar 2) "levels") (tSeq (sFld K (tVar 0) (tVar 3) "weights") (sFld K (tVar 0) (tVar 4) "ties"))) D) env := fun σ F H g0 eB sl => by
  obtain ⟨_, h0, v0, rfl, q0⟩ := sl.ok 0 _ e0
  obtain ⟨_, h1, v1, rfl, q1⟩ := sl.ok 1 _ e1
  obtain ⟨_, h2, v2, rfl, q2⟩ := sl.ok 2 _ e2
  obtain ⟨_, h3, v3, rfl, q3⟩ := sl.ok 3 _ e3
  obtain ⟨_, h4, v4, rfl, q4⟩ := sl.ok 4 _ e4
  have e5 : v0 = .ref x := q0
  subst e5
  have hH := go_at g0 hs hx
  have d1 : ("many" : Str) ≠ "levels" := by decide
  have d2 : ("many" : Str) ≠ "weights" := by decide
  have d3 : ("many" : Str) ≠ "ties" := by decide
  have d4 : ("levels" : Str) ≠ "weights" := by decide
  have d5 : ("levels" : Str) ≠ "ties" := by decide
  have d6 : ("weights" : Str) ≠ "ties" := by decide
  have p2 : putF "levels" v2 [("many", v1)] = ([("many", v1), ("levels", v2)] : List (Str × V)) := by
    unfold putF
    rw [if_neg d1]
    rfl
  have p3 : putF "weights" v3 [("many", v1), ("levels", v2)] = ([("many", v1), ("levels", v2), ("weights", v3)] : List (Str × V)) := by
    unfold putF
    rw [if_neg d2]
    unfold putF
    rw [if_neg d4]
    rfl
  have p4 : putF "ties" v4 [("many", v1), ("levels", v2), ("weights", v3)] = ([("many", v1), ("levels", v2), ("weights", v3), ("ties", v4)] : List (Str × V)) := by
    unfold putF
    rw [if_neg d3]
    unfold putF
    rw [if_neg d5]
    unfold putF
    rw [if_neg d6]
    rfl
  refine ⟨v1, h1, .ref x, h0, x, C, dx, [], rfl, hH, c, n1, by decide, ?_⟩
  refine ⟨v2, h2, .ref x, h0, x, C, dx, [("many", v1)], rfl, upd_same, c, n2, by show 1 < 1000; decide, ?_⟩
  rw [p2]
  refine ⟨v3, h3, .ref x, h0, x, C, dx, _, rfl, upd_same, c, n3, by show 2 < 1000; decide, ?_⟩
  rw [p3]
  refine ⟨v4, h4, .ref x, h0, x, C, dx, _, rfl, upd_same, c, n4, by show 3 < 1000; decide, ?_⟩
  rw [p4, upd_upd, upd_upd, upd_upd]
  exact k σ F H _ g0 ⟨dx, _, rfl, .cons ⟨rfl, q1⟩ (.cons ⟨rfl, q2⟩ (.cons ⟨rfl, q3⟩ (.cons ⟨rfl, q4⟩ .nil)))⟩
/-- its body -/
def BodyI (N : List Str) (C : Addr) (t : TS) : Prop := ∀ (W : Wd) (m : Mdl) (x dx : Addr) (D : Ends), WF m → W.H0 x = some (.ins C dx []) → W.S x = none → (∀ σ F H o, Go W.S W.F0 W.H0 F H → (mdlG C m).G F o → D.nx σ (upd H x o)) →
  At W (t D) ([.fz (sP (.ref x)), .fz (uP m.many), .fz (uP m.levels), .fz (tabP m.weights), .fz (tiesP m.ties)] ++ List.replicate (N.length - 5) .no)
theorem BodyI.ok {N : List Str} {C : Addr} {t : TS} (b : BodyI N C t) {vs : List V} {H : Hp} {Q : VK} {E : XK} (h : spI C vs H Q E) : t { nx := fun _ H' => Q .non H', rt := Q } (L2.start N vs) H := by
  obtain ⟨S, F, H1, x, dx, m, us, ev, so, ex, eH, hx, hdx, hne, ha, wf, k⟩ := h
  subst ev
  have g1 : Go S F H1 F (upd H1 dx (.own x)) := Go.own ex hdx
  have hx2 : upd H1 dx (.own x) x = none := by
    rw [upd_ne (Ne.symm hne)]
    exact hx
  have g2 : Go S F (upd H1 dx (.own x)) F H := by
    rw [eH]
    exact Go.own g1.eh hx2
  have G := g1.trans g2
  have nS : S x = none := by
    cases z : S x with
    | none => rfl
    | some G' =>
      obtain ⟨_, o, h2, _⟩ := so.at_ x G' z
      rw [hx] at h2
      cases h2
  have hHx : H x = some (.ins C dx []) := by rw [eH, upd_same]
  have fx : F x = none := ex.nn hx
  have ha2 : ArgsOk S F (.ref x :: us) (.fz (sP (.ref x)) :: [.fz (uP m.many), .fz (uP m.levels), .fz (tabP m.weights), .fz (tiesP m.ties)]) := .cons (show ArgOk S F (.ref x) (.fz (sP (.ref x))) from rfl) ha
  have sl := args_slots (F := F) (H := H) (ok := so.go G) ha2 (N.length - 5)
  have hl := Paired.length ha2
  have key := b ⟨S, F, H, F, so.go G⟩ m x dx { nx := fun _ H' => Q .non H', rt := Q } wf hHx nS (fun σ F' H' o g hg => by
    have G3 : Go S F H1 F' H' := G.trans g
    have fx' : F' x = none := (g.nw x (by show H x ≠ none; rw [hHx]; simp)).trans fx
    exact k F' _ o (G3.wr hx fx') upd_same fx' hg) (L2.start N (.ref x :: us)) F H (Go.refl G.eh) (Ex.refl F)
  refine key ?_
  unfold L2.start
  rw [hl]
  exact sl
structure OkI (P : Program) (w : World) (K : PySem.W.Frag) (mg : Str → Option Value) (base : Heap) (C f : Addr) (ps : List Str) (k : Nat) : Prop where
  ex : ∃ fd, FnOk P w K mg base CX0 k f fd ps (spI C) ∧ Binds K fd ps []
theorem pe_mk2 {X : Cx} {f : Addr} {ps : List Str} {k : Nat} {p pos : Pos} {e : Expr} {es : List Expr} {t : TA} {C : Addr} (M : Mk X.K C f) (gm : X.mg "Model" = some (.ref C)) (O : OkI X.prog X.w X.K X.mg X.base C f ps k) (hr : Room (k + 1) X.A) (hg : Gl X "Model") (ha : PA X (e :: es) t)
    (he : starEach (e :: es) X.env = (false, eval e X.env) :: starEach es X.env := by rfl) (hpl : (backTo pos (starEach es X.env)).any (·.1) = false := by rfl) : PE X (.Call (.Name "Model" p) (e :: es) [] pos) (tMake C (spI C) [] E0 t) := by
  obtain ⟨fd, F, b⟩ := O.ex
  exact pe_make M F hr hg gm b .nil pass0 ha (he := he) (hpl := hpl)
theorem okI_of {P : Program} {w : World} {K : PySem.W.Frag} {mg : Str → Option Value} {base : Heap} {x qual : Str} {params : Arguments} {body : List Stmt} {scope : Scope} {f : Addr} {N ps : List Str} {k : Nat} {C : Addr} {t : TS}
    (F : ∃ fd, FunD K x qual params body scope [] [] f fd) (S : FnScope N ps scope) (hb : ∀ (kV doc pm : Value) (an : Option Addr) (cdv ct : Value) (us : List Value), us.length = ps.length → bindArgs (PySem.W.fnOf x qual params body scope .none kV doc pm an cdv ct) ⟨us, []⟩ = pure (ps.zip us))
    (hl : ps.length = 5)
    (hp : ∀ {cdv : Value} {A : Around} {outer : List Env} {s : Shared} {H : Hp} {E : XK}, Room k (A.deeper (envOfC qual scope s.heap.objs.size f cdv)) → PSs (cxOf CX0 P w K mg base N qual scope f cdv A outer s H E).nox body t)
    (b : BodyI N C t) : OkI P w K mg base C f ps (k + 1) := by
  obtain ⟨fd, F⟩ := F
  refine ⟨⟨fd, F.ok S (fun vs H Q E h => ?_) (fun cdv A outer s H vs Q E hr h => ⟨t, (hp hr).nox, b.ok h⟩), F.bindsN hb⟩⟩
  obtain ⟨_, _, _, _, _, _, us, ev, _, _, _, _, _, _, ha, _⟩ := h
  rw [ev, List.length_cons, Paired.length ha, hl]
  rfl

/-! ### dicts that are known -/
abbrev KvP (F : Hp) (kvs : List (Key × V)) (fs : List (Key × MVP)) : Prop := Paired (fun v f => v.1 = f.1 ∧ f.2.P F v.2) kvs fs
def dkM (fs : List (Key × MVP)) : MOP := ⟨fun F o => ∃ kvs, o = .dK kvs ∧ KvP F kvs fs, fun _ _ _ e ⟨kvs, h1, h2⟩ => ⟨kvs, h1, Paired.mapP h2 fun v f z => ⟨z.1, f.2.m _ _ _ e z.2⟩⟩⟩
abbrev dkP (fs : List (Key × MVP)) : MVP := objP (dkM fs)
def lookK (fs : List (Key × MVP)) (k : Key) : Option MVP := (fs.find? fun f => decide (f.1 = k)).map (·.2)
theorem kvP_look {F : Hp} {k : Key} {P : MVP} : ∀ {kvs : List (Key × V)} {fs : List (Key × MVP)}, KvP F kvs fs → lookK fs k = some P → ∃ v, valV kvs k = some v ∧ P.P F v
  | _, _, .nil, e => by cases e
  | (k1, v) :: kvs, (k2, P') :: fs, .cons ⟨h1, h2⟩ t, e => by
    have h1' : k1 = k2 := h1
    subst h1'
    by_cases q : k1 = k
    · refine ⟨v, valV_pos q, ?_⟩
      unfold lookK at e
      rw [List.find?_cons_of_pos (by exact decide_eq_true q)] at e
      cases e
      exact h2
    · rw [valV_neg q]
      unfold lookK at e
      rw [List.find?_cons_of_neg (by simpa using q)] at e
      exact kvP_look t e
section
variable {K : PySem.W.Frag} {W : Wd} {S : Shr} {env env' : List Sv} {P P1 P2 P3 : MVP} {ta tb te ti tj : TE} {tr : TA}
theorem ev_dget {fs : List (Key × MVP)} {k : Key} (h : EvP W ta env (dkP fs)) (hk : EvP W ti env (sP (kV k))) (hl : lookK fs k = some P) : EvP W (tDGet ta ti) env P := fun σ F H e so sl Q c =>
  h σ F H e so sl _ fun x F1 H1 g1 q1 => hk σ F1 H1 g1.eh (so.go g1) (sl.go g1) _ fun y F2 H2 g2 q2 => by
    obtain ⟨p, o, ex, h1, kvs, eo, h2⟩ := (dkP fs).m _ _ _ g2.fe q1
    subst eo
    obtain ⟨v, e1, e2⟩ := kvP_look h2 hl
    have ey : y = kV k := q2
    refine ⟨p, v, ex, ?_, c v F2 H2 (g1.trans g2) e2⟩
    rw [ey, ← e1]
    exact DGet.k (g2.eh _ _ h1)
def EvDs (W : Wd) (trs : List (TE × TE)) (env : List Sv) (fs : List (Key × MVP)) : Prop := ∀ σ F H, Ex F H → SOk W.S F H → Slots W F H σ env → ∀ Q : List (V × V) → Hp → Prop, (∀ ps F' H', Go W.S F H F' H' → Paired (fun p f => p.1 = kV f.1 ∧ f.2.P F' p.2) ps fs → Q ps H') → tPairs trs σ H Q
theorem eds_nil : EvDs W [] env [] := fun σ F H e so sl Q k => k [] F H (Go.refl e) .nil
theorem eds_cons {x : Str} {trs : List (TE × TE)} {fs : List (Key × MVP)} (h : EvP W te env P) (hr : EvDs W trs env fs) : EvDs W ((tC (.str x), te) :: trs) env ((Sum.inr x, P) :: fs) := fun σ F H e so sl Q k =>
  h σ F H e so sl _ fun v F1 H1 g1 q1 => hr σ F1 H1 g1.eh (so.go g1) (sl.go g1) _ fun ps F2 H2 g2 q2 => k _ F2 H2 (g1.trans g2) (.cons ⟨rfl, P.m _ _ _ g2.fe q1⟩ q2)
theorem putK_new {kvs : List (Key × V)} {k : Key} {v : V} (h : ∀ kv ∈ kvs, kv.1 ≠ k) : putK kvs k v = kvs ++ [(k, v)] := by
  unfold putK
  rw [if_neg]
  intro hz
  obtain ⟨kv, h1, h2⟩ := List.any_eq_true.mp hz
  exact h kv h1 (of_decide_eq_true h2)
theorem mergeK_nodup : ∀ (more acc : List (Key × V)), (more.map (·.1)).Nodup → (∀ kv ∈ acc, ∀ x ∈ more, kv.1 ≠ x.1) → mergeK acc more = acc ++ more
  | [], acc, _, _ => by
    show acc = acc ++ []
    rw [List.append_nil]
  | x :: more, acc, hn, hd => by
    obtain ⟨h1, h2⟩ := List.nodup_cons.mp hn
    show mergeK (putK acc x.1 x.2) more = _
    rw [putK_new fun kv hkv => hd kv hkv x List.mem_cons_self, mergeK_nodup more _ h2, List.append_assoc]
    · rfl
    · intro kv hkv y hy
      rcases List.mem_append.mp hkv with z | z
      · exact hd kv z y (List.mem_cons_of_mem _ hy)
      · rw [List.mem_singleton.mp z]
        exact fun e => h1 (by show x.1 ∈ _; rw [show x.1 = y.1 from e]; exact List.mem_map.mpr ⟨y, hy, rfl⟩)
theorem pairs_kvs {F : Hp} : ∀ {ps : List (V × V)} {fs : List (Key × MVP)}, Paired (fun p f => p.1 = kV f.1 ∧ f.2.P F p.2) ps fs → ∃ kvs : List (Key × V), ps = kvs.map (fun kv => (kV kv.1, kv.2)) ∧ KvP F kvs fs
  | _, _, .nil => ⟨[], rfl, .nil⟩
  | (a, b) :: ps, (k, P) :: fs, .cons ⟨h1, h2⟩ t => by
    obtain ⟨kvs, e1, e2⟩ := pairs_kvs t
    have h1' : a = kV k := h1
    exact ⟨(k, b) :: kvs, by rw [List.map_cons, ← e1, h1'], .cons ⟨rfl, h2⟩ e2⟩
theorem kvP_keys {F : Hp} : ∀ {kvs : List (Key × V)} {fs : List (Key × MVP)}, KvP F kvs fs → kvs.map (·.1) = fs.map (·.1)
  | _, _, .nil => rfl
  | _, _, .cons ⟨h1, _⟩ t => by rw [List.map_cons, List.map_cons, kvP_keys t, h1]
theorem ev_disp {trs : List (TE × TE)} {fs : List (Key × MVP)} (h : EvDs W trs env fs) (hn : (fs.map (·.1)).Nodup) (hl : fs.length ≤ 15) : EvP W (tDisp trs) env (dkP fs) := fun σ F H e so sl Q k p hp => by
  have nS : W.S p = none := by
    cases z : W.S p with
    | none => rfl
    | some G' =>
      obtain ⟨_, o, h2, _⟩ := so.at_ p G' z
      rw [hp] at h2
      cases h2
  have g1 : Go W.S F H F (upd H p (.dK [])) := Go.own e hp
  refine h σ F _ g1.eh (so.go g1) (sl.go g1) _ fun ps F2 H2 g2 q2 => ?_
  have hH2 := go_at g2 nS (upd_same (H := H) (a := p) (o := .dK []))
  obtain ⟨kvs, e1, e2⟩ := pairs_kvs q2
  have f2 : F2 p = none := (g2.nw p (by rw [upd_same]; simp)).trans (e.nn hp)
  have e3 : mergeK [] kvs = kvs := mergeK_nodup kvs [] (by rw [kvP_keys e2]; exact hn) fun _ z => (nomatch z)
  refine ⟨hH2, kvs, e1, by rw [Paired.length e2]; exact hl, ?_⟩
  rw [e3]
  have g3 : Go W.S F H F2 (upd H2 p (.dK kvs)) := (g1.trans g2).wr hp f2
  exact k (.ref p) _ _ (g3.frz hp f2 upd_same) ⟨p, _, rfl, upd_same, kvs, rfl, Paired.mapP e2 fun v f z => ⟨z.1, f.2.m _ _ _ (Ex.new f2) z.2⟩⟩
/-- dict(list(zip(ks, vs))) -/
theorem ev_dictZip {ks : List Int} {Qs : List MVP} (h : EvAs W tr env [lP (ks.map iP), tP Qs]) (hl : ks.length = Qs.length) (h1 : ks.length ≤ 1000) (hn : ks.Nodup) : EvP W (tDictZip tr) env (dkP ((ks.map Sum.inl : List Key).zip Qs)) := fun σ F H e so sl Q k =>
  h σ F H e so sl _ fun vs F1 H1 g1 al => by
    cases al with
    | cons a al =>
      cases al with
      | cons b al =>
        cases al
        obtain ⟨p, xs, ep, hp, ax⟩ := a
        obtain ⟨q, ys, eq, hq, ay⟩ := b
        have e1 := all_ints ax
        subst e1 ep eq
        have hly := all_len ay
        refine ⟨p, q, ks, ys, rfl, g1.eh _ _ hp, g1.eh _ _ hq, by omega, h1, fun d hd => ?_⟩
        have rel : ∀ {ks : List Int} {ys : List V} {Qs : List MVP}, All F1 ys Qs → KvP F1 ((ks.map Sum.inl : List Key).zip ys) ((ks.map Sum.inl : List Key).zip Qs) := by
          intro ks ys Qs h
          induction h generalizing ks with
          | nil => cases ks <;> exact .nil
          | cons h t ih =>
            cases ks with
            | nil => exact .nil
            | cons k ks => exact .cons ⟨rfl, h⟩ ih
        have r := rel (ks := ks) ay
        have e3 : mergeK [] ((ks.map Sum.inl : List Key).zip ys) = (ks.map Sum.inl : List Key).zip ys := mergeK_nodup _ [] (by
          rw [List.map_fst_zip (by rw [List.length_map]; omega)]
          exact (List.pairwise_map.mpr (hn.imp fun {a b} z e => z (Sum.inl.inj e)))) fun _ z => (nomatch z)
        rw [e3]
        have nd : F1 d = none := g1.eh.nn hd
        exact k (.ref d) _ _ (g1.trans (Go.fresh g1.eh hd)) ⟨d, _, rfl, upd_same, _, rfl, Paired.mapP r fun v f z => ⟨z.1, f.2.m _ _ _ (Ex.new nd) z.2⟩⟩
end
end Ly
namespace Ly
open PySem PySem.Spec PyProof.Rows L2
/-! ### a list or a tuple -/
def wOr (w1 w2 : TI) : TI := fun σ H R => w1 σ H R ∨ w2 σ H R
theorem pi_or {X : Cx} {tg e : Expr} {w1 w2 : TI} (h1 : PI X tg e w1) (h2 : PI X tg e w2) : PI X tg e (wOr w1 w2) := ⟨fun pins s σ H R I h => h.elim (h1.run pins s σ H R I) (h2.run pins s σ H R I)⟩
def sq (b : Bool) (Ps : List MVP) : MVP := if b = true then tP Ps else lP Ps
section
variable {K : PySem.W.Frag} {W : Wd} {S : Shr} {env : List Sv} {P : MVP} {ta tb te : TE} {Ps : List MVP} {w1 w2 : TI} {b : Bool}
theorem ei_l (h : EvI W w1 env Ps) : EvI W (wOr w1 w2) env Ps := fun σ F H e so sl R k => .inl (h σ F H e so sl R k)
theorem ei_r (h : EvI W w2 env Ps) : EvI W (wOr w1 w2) env Ps := fun σ F H e so sl R k => .inr (h σ F H e so sl R k)
theorem o_ixE {k : Int} (h : atI Ps k = some P) : Op2 S (rIx K) (sq b Ps) (iP k) P := fun F H x y e q1 hy Q c => by
  cases b with
  | true => exact .inr (.inl (o_ixT h F H x y e q1 hy Q c))
  | false => exact .inl (o_ixL h F H x y e q1 hy Q c)
theorem c1_lenE : Call1 S (rLenQ K) (sq b Ps) (iP Ps.length) := by
  cases b with
  | true => exact c1_lenT
  | false => exact c1_lenL
theorem ei_seqE (h : EvP W te env (sq b Ps)) : EvI W (wOr (iList K te) (iTup K te)) env Ps := by
  cases b with
  | true => exact ei_r (ei_tup h)
  | false => exact ei_l (ei_list h)
end
/-! ### what the text's names are -/
structure Tx (K : PySem.W.Frag) (mg : Str → Option Value) : Prop where
  b_abs : mg "abs" = none
  b_all : mg "all" = none
  b_any : mg "any" = none
  b_bool : mg "bool" = none
  b_dict : mg "dict" = none
  b_enumerate : mg "enumerate" = none
  b_int : mg "int" = none
  b_isinstance : mg "isinstance" = none
  b_len : mg "len" = none
  b_list : mg "list" = none
  b_max : mg "max" = none
  b_min : mg "min" = none
  b_range : mg "range" = none
  b_set : mg "set" = none
  b_sorted : mg "sorted" = none
  b_sum : mg "sum" = none
  b_tuple : mg "tuple" = none
  b_zip : mg "zip" = none
  k_MOST_PLACES : ∃ t, mg "MOST_PLACES" = some (.int 12 t)
  k_MOST_VALUES : ∃ t, mg "MOST_VALUES" = some (.int 4 t)
  k_MOST_WEIGHT : ∃ t, mg "MOST_WEIGHT" = some (.int 1000 t)
  k_MOST_TIES : ∃ t, mg "MOST_TIES" = some (.int 4 t)
  g_Model : mg "Model" = some (.ref (He.ga K "Model"))
  cls : Cls K (He.ga K "Model")
  n_many : NoAttr K (He.ga K "Model") "many"
  n_levels : NoAttr K (He.ga K "Model") "levels"
  n_weights : NoAttr K (He.ga K "Model") "weights"
  n_ties : NoAttr K (He.ga K "Model") "ties"
  mkr : Mk K (He.ga K "Model") (He.ma K (He.ga K "Model") "__init__")
def top (i : Nat) : Stmt := PySem.Challenge.pw_asifforever_k30_whole_rising_models.main.body.getD i (.Pass ⟨0, 0, 0, 0⟩)
abbrev s_is_integer : Stmt := top 9
abbrev s_is_within : Stmt := top 10
abbrev s_is_rising : Stmt := top 11
abbrev s_are_weights : Stmt := top 17
abbrev s_are_all_weights : Stmt := top 18
abbrev s_is_pair_of_places : Stmt := top 19
abbrev s_is_tie : Stmt := top 20
abbrev s_ties_at : Stmt := top 21
abbrev s_Model_init : Stmt := inClass (top 22) 0
abbrev s_is_picture : Stmt := top 23
abbrev s_weight_there : Stmt := top 24
abbrev s_check_pairs : Stmt := top 25
abbrev s_even_model : Stmt := top 26
abbrev s_spins : Stmt := top 27
abbrev s_sets_apart : Stmt := top 28
abbrev s_stacks : Stmt := top 29
abbrev s_tied_places : Stmt := top 31
abbrev s_local_weights : Stmt := top 32
abbrev s_all_rows : Stmt := top 33
abbrev s_are_flips : Stmt := top 35
abbrev s_check_flips : Stmt := top 36
abbrev s_is_row_below : Stmt := top 37
abbrev s_is_below : Stmt := top 38
abbrev s_added_up : Stmt := top 39
abbrev s_is_turned_right : Stmt := top 40
abbrev s_rises_at : Stmt := top 41
abbrev s_rises_there : Stmt := top 42
abbrev s_rises : Stmt := top 43
abbrev s_ends_by : Stmt := top 44
abbrev s_do_ends_fit : Stmt := top 45
abbrev s_ends_of : Stmt := top 46
abbrev s_may_rise : Stmt := top 47
abbrev s_flips_for : Stmt := top 48
abbrev s_law_hand : Stmt := top 50
abbrev s_law_draw : Stmt := top 51
abbrev s_law_any : Stmt := top 52
abbrev s_law_near : Stmt := top 53
abbrev s_law_local : Stmt := top 54
abbrev s_law_weight : Stmt := top 55
abbrev s_law_tuples : Stmt := top 56
abbrev s_law_pairs : Stmt := top 57
abbrev s_law_stacks : Stmt := top 58
abbrev s_law_table : Stmt := top 59
abbrev s_law_model : Stmt := top 60
abbrev s_law_wide : Stmt := top 61
abbrev s_law_is_under : Stmt := top 62
abbrev s_law_rises_at : Stmt := top 63
abbrev s_law_rises : Stmt := top 64
abbrev s_law_ends : Stmt := top 65
abbrev s_law_flips_for : Stmt := top 66
abbrev s_law_packed : Stmt := top 67
abbrev s_law_flag : Stmt := top 68
abbrev s_law_is_drawn_right : Stmt := top 69
abbrev s_law_tree : Stmt := top 70
abbrev s_law_is_hand_right : Stmt := top 71
abbrev s_law_known : Stmt := top 72
abbrev s_law_is_known : Stmt := top 73
abbrev s_law_is_wide_right : Stmt := top 74
abbrev s_law : Stmt := top 75
end Ly
namespace Ly
open PySem PySem.Spec PyProof.Rows L2
/-! ### what each def promises -/
abbrev mC (K : PySem.W.Frag) : Addr := He.ga K "Model"
abbrev ldP (m : Mdl) : MVP := dkP [(Sum.inr "many", uP m.many), (Sum.inr "levels", uP m.levels), (Sum.inr "weights", tabP m.weights), (Sum.inr "ties", tiesP m.ties)]
def PicOk (m : Mdl) (xs : List Nat) : Prop := xs.length = m.many ∧ ∀ x ∈ xs, x < m.levels
abbrev bsL (bs : List Bool) : List MVP := bs.map bP
abbrev isL (ns : List Int) : List MVP := ns.map iP
abbrev usL (ns : List Nat) : List MVP := ns.map uP
/-- keys of the memo -/
def numB (b : Bool) : NestedKey := .num (if b = true then 1 else 0)
def keyB2 : NestedKey → Bool
  | .num i => decide (i = 1)
  | _ => false
def memoF (m : Mdl) : NestedKey → Bool
  | .tup (.num i :: b :: bs) => risesAt m i.toNat (keyB2 b) (bs.map keyB2)
  | _ => false
def knownF (m : Mdl) (i : Nat) : NestedKey → Bool
  | .tup (b :: bs) => risesAt m i (keyB2 b) (bs.map keyB2)
  | _ => false
def memoDom : List NestedKey := (List.range 12).flatMap fun i : Nat => (List.range 5).flatMap fun n : Nat => (allFlips (n + 1)).map fun bs => .tup (.num (i : Int) :: bs.map numB)
def knownDom (n : Nat) : List NestedKey := (allFlips n).map fun bs => .tup (bs.map numB)
abbrev memoG (w : World) (m : Mdl) : MOP := kdM w (memoF m) [] memoDom
def knownP (w : World) (m : Mdl) (i : Nat) : MVP := tP [lP (usL (tiedAt m.ties i)), objP (kdM w (knownF m i) (knownDom (1 + (tiedAt m.ties i).length)) (knownDom (1 + (tiedAt m.ties i).length)))]
/-- the hand -/
def handO (a g s t : Int) (c : Addr) : HO := .dK [(Sum.inr "cells", .ref c), (Sum.inr "at", .int a), (Sum.inr "great", .int g), (Sum.inr "seed", .int s), (Sum.inr "turn", .int t)]
def HandG : MOP := ⟨fun F o => ∃ (cs : List Int) (a g s t : Int) (c : Addr), o = handO a g s t c ∧ F c = some (.lst (cs.map V.int)) ∧ 0 ≤ a, fun _ _ _ e ⟨cs, a, g, s, t, c, h1, h2, h3⟩ => ⟨cs, a, g, s, t, c, h1, e _ _ h2, h3⟩⟩
def scP (K : PySem.W.Frag) (ns : List Int) : MVP := ⟨fun F v => ∃ a, v = .ref a ∧ SqL K F a (ns.map V.int), fun _ _ _ e ⟨a, h1, h2⟩ => ⟨a, h1, ex_l e h2⟩⟩
def memP (Ps : List MVP) : MVP := anyP (fun P : MVP => P ∈ Ps) id
structure TreeOk (n : Nat) (x : List Pr × List Bool) : Prop where
  prs : PairsOk n x.1
  len : x.2.length = n
  s0 : x.2.getD 0 true = false
  alt : ∀ p ∈ x.1, x.2.getD p.2 false = !x.2.getD p.1 false
  con : ∀ i, 1 ≤ i → i < n → ∃ j, j < i ∧ (j, i) ∈ x.1
  few : ∀ i, i < n → (tiesAt (mkTies x.1 []) i).length ≤ 4


def pr_is_integer (K : PySem.W.Frag) (w : World) : Pre := fun svs post => ∃ i : Int, svs = [.fz (iP i)] ∧ post = bP true
def pr_is_within (K : PySem.W.Frag) (w : World) : Pre := fun svs post => ∃ i lo hi : Int, svs = [.fz (iP i), .fz (iP lo), .fz (iP hi)] ∧ post = bP (decide (lo ≤ i) && decide (i ≤ hi))
def pr_is_rising (K : PySem.W.Frag) (w : World) : Pre := fun svs post => ∃ ps : List Pr, svs = [.fz (tP (ps.map pairP))] ∧ ps.length ≤ 1000 ∧ ps.Pairwise prLt ∧ post = bP true
def pr_are_weights (K : PySem.W.Frag) (w : World) : Pre := fun svs post => ∃ (r : List Int) (n : Nat), svs = [.fz (rowP r), .fz (uP n)] ∧ n ≤ 12 ∧ RowOk n r ∧ post = bP true
def pr_are_all_weights (K : PySem.W.Frag) (w : World) : Pre := fun svs post => ∃ (t : Tab) (n k : Nat), svs = [.fz (tabP t), .fz (uP n), .fz (uP k)] ∧ n ≤ 12 ∧ k ≤ 12 ∧ TabOk n k t ∧ post = bP true
def pr_is_pair_of_places (K : PySem.W.Frag) (w : World) : Pre := fun svs post => ∃ (p : Pr) (n : Nat), svs = [.fz (pairP p), .fz (uP n)] ∧ p.1 < p.2 ∧ p.2 < n ∧ post = bP true
def pr_is_tie (K : PySem.W.Frag) (w : World) : Pre := fun svs post => ∃ (t : Tie) (n q : Nat), svs = [.fz (tieP t), .fz (uP n), .fz (uP q)] ∧ t.a < t.b ∧ t.b < n ∧ q ≤ 12 ∧ TabOk q q t.t ∧ post = bP true
def pr_ties_at (K : PySem.W.Frag) (w : World) : Pre := fun svs post => ∃ (ts : List Tie) (i : Nat), svs = [.fz (tiesP ts), .fz (uP i)] ∧ ts.length ≤ 1000 ∧ post = lP ((tiesAt ts i).map tieP)
def pr_is_picture (K : PySem.W.Frag) (w : World) : Pre := fun svs post => ∃ (m : Mdl) (xs : List Nat), svs = [.fz (mdlP (mC K) m), .fz (nsT xs)] ∧ WF m ∧ PicOk m xs ∧ post = bP true
def pr_weight_there (K : PySem.W.Frag) (w : World) : Pre := fun svs post => ∃ (m : Mdl) (xs : List Nat), svs = [.fz (mdlP (mC K) m), .fz (nsT xs)] ∧ WF m ∧ PicOk m xs ∧ post = iP (weightM m xs)
def pr_check_pairs (K : PySem.W.Frag) (w : World) : Pre := fun svs post => ∃ (n : Nat) (ps : List Pr), svs = [.fz (uP n), .fz (tP (ps.map pairP))] ∧ 1 ≤ n ∧ n ≤ 12 ∧ PairsOk n ps ∧ post = nP
def pr_even_model (K : PySem.W.Frag) (w : World) : Pre := fun svs post => ∃ (n q : Nat) (row : List Int) (b : Bool) (ps : List Pr) (t : Tab), svs = [.fz (uP n), .fz (uP q), .fz (rowP row), .fz (sq b (ps.map pairP)), .fz (tabP t)] ∧ WF (evenM n q row ps t) ∧ post = mdlP (mC K) (evenM n q row ps t)
def pr_spins (K : PySem.W.Frag) (w : World) : Pre := fun svs post => ∃ (n : Nat) (ps : List Pr) (s o : Int), svs = [.fz (uP n), .fz (tP (ps.map pairP)), .fz (iP s), .fz (iP o)] ∧ WF (spinsM n ps s o) ∧ post = mdlP (mC K) (spinsM n ps s o)
def pr_sets_apart (K : PySem.W.Frag) (w : World) : Pre := fun svs post => ∃ (n : Nat) (ps : List Pr) (k : Int), svs = [.fz (uP n), .fz (tP (ps.map pairP)), .fz (iP k)] ∧ WF (apartM n ps k) ∧ post = mdlP (mC K) (apartM n ps k)
structure GridOk (r c mo : Nat) : Prop where
  r1 : 1 ≤ r
  c1 : 1 ≤ c
  rc : r * c ≤ 12
  mo3 : mo ≤ 3
  wf : WF (stacksM r c mo)
def pr_stacks (K : PySem.W.Frag) (w : World) : Pre := fun svs post => ∃ r c mo : Nat, svs = [.fz (uP r), .fz (uP c), .fz (uP mo)] ∧ GridOk r c mo ∧ post = mdlP (mC K) (stacksM r c mo)
def pr_tied_places (K : PySem.W.Frag) (w : World) : Pre := fun svs post => ∃ (m : Mdl) (i : Nat), svs = [.fz (mdlP (mC K) m), .fz (uP i)] ∧ WF m ∧ post = lP (usL (tiedAt m.ties i))
def pr_local_weights (K : PySem.W.Frag) (w : World) : Pre := fun svs post => ∃ (m : Mdl) (i : Nat) (ys : List Nat), svs = [.fz (mdlP (mC K) m), .fz (uP i), .fz (nsT ys)] ∧ WF m ∧ i < m.many ∧ ys.length = (tiesAt m.ties i).length ∧ (∀ y ∈ ys, y < m.levels) ∧ post = lP (isL (localW m i ys))
def pr_all_rows (K : PySem.W.Frag) (w : World) : Pre := fun svs post => ∃ q n : Nat, svs = [.fz (uP q), .fz (uP n)] ∧ q ≤ 4 ∧ n ≤ 4 ∧ post = lP ((allRows q n).map nsT)
def pr_are_flips (K : PySem.W.Frag) (w : World) : Pre := fun svs post => ∃ (m : Mdl) (fl : List Bool), svs = [.fz (mdlP (mC K) m), .fz (flT fl)] ∧ WF m ∧ fl.length = m.many ∧ post = bP true
def pr_check_flips (K : PySem.W.Frag) (w : World) : Pre := fun svs post => ∃ (m : Mdl) (fl : List Bool), svs = [.fz (mdlP (mC K) m), .fz (flT fl)] ∧ WF m ∧ fl.length = m.many ∧ post = nP
def pr_is_row_below (K : PySem.W.Frag) (w : World) : Pre := fun svs post => ∃ (b : Bool) (fl : List Bool) (x y : List Nat), svs = [.fz (sq b (bsL fl)), .fz (nsT x), .fz (nsT y)] ∧ fl.length ≤ 12 ∧ post = bP (rowBelow fl x y)
def pr_is_below (K : PySem.W.Frag) (w : World) : Pre := fun svs post => ∃ (m : Mdl) (fl : List Bool) (x y : List Nat), svs = [.fz (mdlP (mC K) m), .fz (flT fl), .fz (nsT x), .fz (nsT y)] ∧ WF m ∧ fl.length = m.many ∧ PicOk m x ∧ PicOk m y ∧ post = bP (rowBelow fl x y)
def pr_added_up (K : PySem.W.Frag) (w : World) : Pre := fun svs post => ∃ ws : List Int, svs = [.fz (lP (isL ws))] ∧ ws.length ≤ 100 ∧ post = lP (isL (addedUp ws))
def SmallL (x : List Int) : Prop := x ≠ [] ∧ x.length ≤ 100 ∧ ∀ v ∈ x, 0 ≤ v ∧ v < 2 ^ 60
def pr_is_turned_right (K : PySem.W.Frag) (w : World) : Pre := fun svs post => ∃ (f : Bool) (x y : List Int), svs = [.fz (bP f), .fz (lP (isL x)), .fz (lP (isL y))] ∧ SmallL x ∧ SmallL y ∧ post = bP (turned f x y)
def pr_rises_at (K : PySem.W.Frag) (w : World) : Pre := fun svs post => ∃ (m : Mdl) (i : Nat) (f : Bool) (fl : List Bool), svs = [.fz (mdlP (mC K) m), .fz (uP i), .fz (bP f), .fz (lP (bsL fl))] ∧ WF m ∧ i < m.many ∧ fl.length = (tiesAt m.ties i).length ∧ post = bP (risesAt m i f fl)
def pr_rises_there (K : PySem.W.Frag) (w : World) : Pre := fun svs post => ∃ (m : Mdl) (fl : List Bool), svs = [.fz (mdlP (mC K) m), .fz (flT fl)] ∧ WF m ∧ fl.length = m.many ∧ post = bP (risesM m fl)
def pr_rises (K : PySem.W.Frag) (w : World) : Pre := fun svs post => ∃ (m : Mdl) (fl : List Bool), svs = [.fz (mdlP (mC K) m), .fz (flT fl)] ∧ WF m ∧ fl.length = m.many ∧ post = bP (risesM m fl)
def pr_ends_by (K : PySem.W.Frag) (w : World) : Pre := fun svs post => ∃ (m : Mdl) (fl : List Bool), svs = [.fz (mdlP (mC K) m), .fz (flT fl)] ∧ WF m ∧ fl.length = m.many ∧ post = tP [nsT (endLo m.levels fl), nsT (endHi m.levels fl)]
def pr_do_ends_fit (K : PySem.W.Frag) (w : World) : Pre := fun svs post => ∃ (m : Mdl) (fl : List Bool), svs = [.fz (mdlP (mC K) m), .fz (flT fl)] ∧ WF m ∧ fl.length = m.many ∧ post = bP (endsFit m fl)
def pr_ends_of (K : PySem.W.Frag) (w : World) : Pre := fun svs post => ∃ (m : Mdl) (fl : List Bool), svs = [.fz (mdlP (mC K) m), .fz (flT fl)] ∧ WF m ∧ fl.length = m.many ∧ endsFit m fl = true ∧ post = tP [nsT (endLo m.levels fl), nsT (endHi m.levels fl)]
def pr_may_rise (K : PySem.W.Frag) (w : World) : Pre := fun svs post => ∃ (m : Mdl) (b : List Bool), svs = [.fz (mdlP (mC K) m), .fz (flT b), .sh (memoG w m)] ∧ WF m ∧ b.length ≤ m.many ∧ post = bP (mayRise m b)
def pr_flips_for (K : PySem.W.Frag) (w : World) : Pre := fun svs post => ∃ m : Mdl, svs = [.fz (mdlP (mC K) m)] ∧ WF m ∧ post = opP (flipsFor m)
def pr_law_hand (K : PySem.W.Frag) (w : World) : Pre := fun svs post => ∃ ns : List Int, svs = [.fz (scP K ns)] ∧ ns.length ≤ 1000 ∧ post = objP HandG
def pr_law_draw (K : PySem.W.Frag) (w : World) : Pre := fun svs post => ∃ n : Nat, svs = [.sh HandG, .fz (uP n)] ∧ 1 ≤ n ∧ n < 1000000 ∧ post = anyP (fun r : Nat => r < n) uP
def pr_law_any (K : PySem.W.Frag) (w : World) : Pre := fun svs post => ∃ Ps : List MVP, svs = [.sh HandG, .fz (lP Ps)] ∧ Ps ≠ [] ∧ Ps.length ≤ 1000 ∧ post = memP Ps
def pr_law_near (K : PySem.W.Frag) (w : World) : Pre := fun svs post => ∃ (m : Mdl) (i : Nat), svs = [.fz (ldP m), .fz (uP i)] ∧ WF m ∧ post = lP (usL (tiedAt m.ties i))
def seenP (m : Mdl) (i : Nat) (ys : List Nat) : MVP := dkP ((((tiedAt m.ties i).map fun n : Nat => (n : Int)).map Sum.inl : List Key).zip (usL ys))
def pr_law_local (K : PySem.W.Frag) (w : World) : Pre := fun svs post => ∃ (m : Mdl) (i : Nat) (ys : List Nat), svs = [.fz (ldP m), .fz (uP i), .fz (seenP m i ys)] ∧ WF m ∧ i < m.many ∧ ys.length = (tiesAt m.ties i).length ∧ (∀ y ∈ ys, y < m.levels) ∧ post = lP (isL (localW m i ys))
def pr_law_weight (K : PySem.W.Frag) (w : World) : Pre := fun svs post => ∃ (m : Mdl) (xs : List Nat), svs = [.fz (ldP m), .fz (nsT xs)] ∧ WF m ∧ PicOk m xs ∧ post = iP (weightM m xs)
def pr_law_tuples (K : PySem.W.Frag) (w : World) : Pre := fun svs post => ∃ (α : Type) (g : α → MVP) (rows : List (List α)) (k : Nat), svs = [.fz (lP (rows.map fun r => lP (r.map g)))] ∧ 1 ≤ k ∧ (∀ r ∈ rows, r.length ≤ k) ∧ k ^ rows.length ≤ 5000 ∧ rows.length ≤ 12 ∧ post = lP ((tuplesOf rows).map fun f => tP (f.map g))
structure PrsOk (n : Nat) (ps : List Pr) : Prop where
  ok : PairsOk n ps
  few : ∀ i, i < n → (tiesAt (mkTies ps []) i).length ≤ 4
def pr_law_pairs (K : PySem.W.Frag) (w : World) : Pre := fun svs post => ∃ n : Nat, svs = [.sh HandG, .fz (uP n)] ∧ 1 ≤ n ∧ n ≤ 5 ∧ post = anyP (PrsOk n) fun ps => lP (ps.map pairP)
def pr_law_stacks (K : PySem.W.Frag) (w : World) : Pre := fun svs post => ∃ r c mo : Nat, svs = [.fz (uP r), .fz (uP c), .fz (uP mo)] ∧ GridOk r c mo ∧ post = ldP (stacksM r c mo)
abbrev natP : MVP := anyP (fun _ : Nat => True) uP
abbrev levP : MVP := anyP (fun q : Nat => 1 ≤ q ∧ q ≤ 4) uP
def pr_law_table (K : PySem.W.Frag) (w : World) : Pre := fun svs post => ∃ q : Nat, svs = [.sh HandG, .fz (uP q), .fz natP] ∧ 1 ≤ q ∧ q ≤ 4 ∧ post = anyP (TabOk q q) tabP
def pr_law_model (K : PySem.W.Frag) (w : World) : Pre := fun svs post => svs = [.sh HandG] ∧ post = anyP WF ldP
def pr_law_wide (K : PySem.W.Frag) (w : World) : Pre := fun svs post => ∃ n : Nat, svs = [.sh HandG, .fz (uP n), .fz levP] ∧ 1 ≤ n ∧ n ≤ 12 ∧ post = anyP (fun m => WF m ∧ m.many = n) ldP
def pr_law_is_under (K : PySem.W.Frag) (w : World) : Pre := fun svs post => ∃ (b : Bool) (fl : List Bool) (x y : List Nat), svs = [.fz (sq b (bsL fl)), .fz (nsT x), .fz (nsT y)] ∧ fl.length ≤ 12 ∧ x.length = fl.length ∧ y.length = fl.length ∧ post = bP (rowBelow fl x y)
def pr_law_rises_at (K : PySem.W.Frag) (w : World) : Pre := fun svs post => ∃ (m : Mdl) (b : Bool) (fl : List Bool) (i : Nat), svs = [.fz (ldP m), .fz (sq b (bsL fl)), .fz (uP i)] ∧ WF m ∧ fl.length = m.many ∧ i < m.many ∧ post = bP (risesP m fl i)
def pr_law_rises (K : PySem.W.Frag) (w : World) : Pre := fun svs post => ∃ (m : Mdl) (fl : List Bool), svs = [.fz (ldP m), .fz (flT fl)] ∧ WF m ∧ fl.length = m.many ∧ post = bP (risesM m fl)
def pr_law_ends (K : PySem.W.Frag) (w : World) : Pre := fun svs post => ∃ (m : Mdl) (fl : List Bool), svs = [.fz (ldP m), .fz (flT fl)] ∧ WF m ∧ fl.length = m.many ∧ post = tP [nsT (endLo m.levels fl), nsT (endHi m.levels fl)]
def pr_law_flips_for (K : PySem.W.Frag) (w : World) : Pre := fun svs post => ∃ m : Mdl, svs = [.fz (ldP m)] ∧ WF m ∧ post = opP (flipsFor m)
def pr_law_packed (K : PySem.W.Frag) (w : World) : Pre := fun svs post => ∃ m : Mdl, svs = [.fz (ldP m)] ∧ WF m ∧ post = mdlP (mC K) m
def pr_law_flag (K : PySem.W.Frag) (w : World) : Pre := fun svs post => ∃ a b : Bool, svs = [.fz (bP a), .fz (bP b)] ∧ post = bP (decide (a = b))
def pr_law_is_drawn_right (K : PySem.W.Frag) (w : World) : Pre := fun svs post => svs = [.sh HandG] ∧ post = bP true
def pr_law_tree (K : PySem.W.Frag) (w : World) : Pre := fun svs post => ∃ n : Nat, svs = [.sh HandG, .fz (uP n)] ∧ 4 ≤ n ∧ n ≤ 12 ∧ post = anyP (TreeOk n) fun x => tP [tP (x.1.map pairP), flT x.2]
def pr_law_is_hand_right (K : PySem.W.Frag) (w : World) : Pre := fun svs post => svs = [.sh HandG] ∧ post = bP true
def pr_law_known (K : PySem.W.Frag) (w : World) : Pre := fun svs post => ∃ m : Mdl, svs = [.fz (ldP m)] ∧ WF m ∧ post = lP ((List.range m.many).map (knownP w m))
def pr_law_is_known (K : PySem.W.Frag) (w : World) : Pre := fun svs post => ∃ (m : Mdl) (fl : List Bool), svs = [.fz (lP ((List.range m.many).map (knownP w m))), .fz (flT fl)] ∧ WF m ∧ fl.length = m.many ∧ post = bP (risesM m fl)
def pr_law_is_wide_right (K : PySem.W.Frag) (w : World) : Pre := fun svs post => svs = [.sh HandG] ∧ post = bP true
end Ly
namespace Ly
open PySem PySem.Spec PyProof.Rows L2
section
variable {K : PySem.W.Frag} {W : Wd} {S : Shr} {env env' : List Sv} {P P1 P2 P3 : MVP} {ta tb te ti tj : TE} {tr : TA} {tt tu : TT} {Ps Qs : List MVP} {G : MOP} {D : Ends} {t u : TS} {wi : TI}
/-- all([..]) -/
theorem ev_allN {α : Type} {xs : List α} {f : α → MVP} (b : α → Bool) {j : Nat} (hi : EvI W wi env (xs.map f)) (hz : xs.length ≤ 1000000) (hs : ∀ x ∈ xs, EvP W te ((env.set j .no).set j (.fz (f x))) (bP (b x))) :
    EvP W (tCB (rAll K) (tCons (tLc wi (gName j) tYes te [j]) tNil)) env (bP (xs.all b)) := by
  have h := ev_call1 (ev_frz (ef_lcN (te := te) (j := j) (vs := [j]) (g' := fun x => bP (b x)) hi hz (List.mem_singleton.mpr rfl) hs)) (c1_all (S := W.S) (K := K) (bs := xs.map b) |> fun z => by
    rw [List.map_map] at z
    exact z)
  rw [List.all_map] at h
  exact h
theorem ev_anyN {α : Type} {xs : List α} {f : α → MVP} (b : α → Bool) {j : Nat} (hi : EvI W wi env (xs.map f)) (hz : xs.length ≤ 1000000) (hs : ∀ x ∈ xs, EvP W te ((env.set j .no).set j (.fz (f x))) (bP (b x))) :
    EvP W (tCB (rAny K) (tCons (tLc wi (gName j) tYes te [j]) tNil)) env (bP (xs.any b)) := by
  have h := ev_call1 (ev_frz (ef_lcN (te := te) (j := j) (vs := [j]) (g' := fun x => bP (b x)) hi hz (List.mem_singleton.mpr rfl) hs)) (c1_any (S := W.S) (K := K) (bs := xs.map b) |> fun z => by
    rw [List.map_map] at z
    exact z)
  rw [List.any_map] at h
  exact h
theorem ev_true {b : Bool} (h : EvP W te env (bP b)) (e : b = true) : EvP W te env (bP true) := by
  rw [← e]
  exact h
theorem ev_b {b c : Bool} (h : EvP W te env (bP b)) (e : b = c) : EvP W te env (bP c) := by
  rw [← e]
  exact h
theorem ev_i {b c : Int} (h : EvP W te env (iP b)) (e : b = c) : EvP W te env (iP c) := by
  rw [← e]
  exact h
theorem ev_isiT (h : EvP W te env (tP Ps)) : EvP W (tCB (rIsi K) (tCons te (tCons (tC (.ty "tuple")) tNil))) env (bP true) := ev_call2 h ev_c (c2_isi ty_tup rfl)
theorem ev_isiB {b : Bool} (h : EvP W te env (bP b)) : EvP W (tCB (rIsi K) (tCons te (tCons (tC (.ty "bool")) tNil))) env (bP true) := ev_call2 h ev_c (c2_isi ty_bl rfl)
theorem ev_lenT (h : EvP W te env (tP Ps)) : EvP W (tCB (rLenQ K) (tCons te tNil)) env (iP Ps.length) := ev_call1 h c1_lenT
theorem ev_lenL (h : EvP W te env (lP Ps)) : EvP W (tCB (rLenQ K) (tCons te tNil)) env (iP Ps.length) := ev_call1 h c1_lenL
theorem ev_tupL (h : EvP W te env (lP Ps)) : EvP W (tCB (rTupQ K) (tCons te tNil)) env (tP Ps) := ev_call1 h c1_tuple
/-- an if whose test is false; true -/
theorem q_no {c : TS} (h : EvT W tt env (· = false)) (k : At W (u D) env) : At W (tSeq (tIfS tt c tNext) u D) env := q_when (C := (· = false)) h (fun z => nomatch z) fun _ => k
theorem at_no {c : TS} (h : EvT W tt env (· = false)) (k : At W D.nx env) : At W (tIfS tt c tNext D) env := at_if (C := (· = false)) h (fun z => nomatch z) fun _ => k
theorem t_notB {b : Bool} (h : EvP W te env (bP b)) (e : b = true) : EvT W (tNot (tB te)) env (· = false) := t_is (t_not (t_B h)) (by rw [e]; rfl)
theorem t_f {b : Bool} (h : EvT W tt env (· = b)) (e : b = false) : EvT W tt env (· = false) := t_is h e
theorem t_orF (h1 : EvT W tt env (· = false)) (h2 : EvT W tu env (· = false)) : EvT W (tOr tt tu) env (· = false) := t_is (t_or h1 fun _ => h2) rfl
theorem t_testF {b : Bool} (h : EvP W te env (bP b)) (e : b = false) : EvT W (tTest te) env (· = false) := t_is (t_test h) e
theorem t_testT {b c : Bool} (h : EvP W te env (bP b)) (e : b = c) : EvT W (tTest te) env (· = c) := t_is (t_test h) e
/-- t[i], t[i][j] of tuples -/
theorem ev_ix {k : Int} (h1 : EvP W ta env (tP Ps)) (h2 : EvP W tb env (iP k)) (h : atI Ps k = some P) : EvP W (tOp (rIxT K) ta tb) env P := ev_op h1 h2 (o_ixT h)
theorem ev_ixL {k : Int} (h1 : EvP W ta env (lP Ps)) (h2 : EvP W tb env (iP k)) (h : atI Ps k = some P) : EvP W (tOp (rIxL K) ta tb) env P := ev_op h1 h2 (o_ixL h)
theorem atI_neg {α : Type} {xs : List α} {x : α} (h : xs.getLast? = some x) : atI xs (-1) = some x := by
  have hne : xs ≠ [] := fun e => by
    rw [e] at h
    cases h
  have hl := List.length_pos_iff.mpr hne
  unfold atI ixN
  rw [if_neg (by omega), if_pos (by omega)]
  show xs[((xs.length : Int) + -1).toNat]? = some x
  rw [show ((xs.length : Int) + -1).toNat = xs.length - 1 by omega, ← List.getLast?_eq_getElem?]
  exact h
theorem cutA_lo {α : Type} (xs : List α) (n : Nat) : cutA xs none (some (n : Int)) = xs.take n := cutA_to xs n
theorem ev_cut {n : Nat} (h : EvP W te env (tP Ps)) (hk : EvP W ti env (iP (n : Int))) : EvP W (tSl (rSlA K) te tNoPart (tPart ti)) env (tP (Ps.take n)) := by
  have := ev_sliceT (K := K) h eo_none (eo_some hk)
  rwa [cutA_to] at this
theorem ef_cut {n : Nat} (h : EvP W te env (lP Ps)) (hk : EvP W ti env (iP (n : Int))) : EvF W (tSl (rSlL K) te tNoPart (tPart ti)) env (Ps.take n) := by
  have := ef_slice (K := K) h eo_none (eo_some hk)
  rwa [cutA_to] at this
theorem ev_cutF {n : Nat} (h : EvP W te env (tP Ps)) (hk : EvP W ti env (iP (n : Int))) : EvP W (tSl (rSlA K) te (tPart ti) tNoPart) env (tP (Ps.drop n)) := by
  have := ev_sliceT (K := K) h (eo_some hk) eo_none
  rwa [cutA_from] at this
/-- for i in range(n) -/
theorem rngP_map (n : Nat) : rngP 0 n = (List.range n).map fun i : Nat => uP i := by
  unfold rngP
  refine List.map_congr_left fun i _ => ?_
  show iP (0 + (i : Int)) = iP (i : Int)
  rw [Int.zero_add]
theorem ei_rangeI {k : Int} {n : Nat} (h : EvP W te env (iP k)) (e : k = n) (hn : n ≤ 1000000) : EvI W (iRng1 (tCons te tNil)) env ((List.range n).map uP) := by
  subst e
  have := ei_rng1 (as_cons h as_nil) (by omega)
  rw [Int.toNat_natCast, rngP_map] at this
  exact this
theorem ei_range {n : Nat} (h : EvP W te env (uP n)) (hn : n ≤ 1000000) : EvI W (iRng1 (tCons te tNil)) env ((List.range n).map uP) := ei_rangeI h rfl hn
theorem ev_tup0 : EvP W (tTup tNil) env (tP []) := ev_tup as_nil (Nat.zero_le _)
theorem ev_tup1 (h1 : EvP W ta env P1) : EvP W (tTup (tCons ta tNil)) env (tP [P1]) := ev_tup (as_cons h1 as_nil) (show 1 ≤ 1000 by decide)
theorem ev_tup2 (h1 : EvP W ta env P1) (h2 : EvP W tb env P2) : EvP W (tTup (tCons ta (tCons tb tNil))) env (tP [P1, P2]) := ev_tup (as_cons h1 (as_cons h2 as_nil)) (show 2 ≤ 1000 by decide)
theorem ev_tup3 (h1 : EvP W ta env P1) (h2 : EvP W tb env P2) (h3 : EvP W te env P3) : EvP W (tTup (tCons ta (tCons tb (tCons te tNil)))) env (tP [P1, P2, P3]) := ev_tup (as_cons h1 (as_cons h2 (as_cons h3 as_nil))) (show 3 ≤ 1000 by decide)
theorem ef_lst0 : EvF W (tLst tNil) env [] := ef_lst as_nil (Nat.zero_le _)
theorem ef_lst1 (h1 : EvP W ta env P1) : EvF W (tLst (tCons ta tNil)) env [P1] := ef_lst (as_cons h1 as_nil) (show 1 ≤ 1000 by decide)
theorem ef_lst2 (h1 : EvP W ta env P1) (h2 : EvP W tb env P2) : EvF W (tLst (tCons ta (tCons tb tNil))) env [P1, P2] := ef_lst (as_cons h1 (as_cons h2 as_nil)) (show 2 ≤ 1000 by decide)
/-- the slots, one by one -/
theorem le_z : EnvLe [] [] := True.intro
theorem le_k {a : Sv} {as bs : List Sv} (h : EnvLe as bs) : EnvLe (a :: as) (a :: bs) := ⟨.inr (.inl rfl), h⟩
theorem le_n {a : Sv} {as bs : List Sv} (h : EnvLe as bs) : EnvLe (a :: as) (.no :: bs) := ⟨.inl rfl, h⟩
theorem le_p {P P' : MVP} {as bs : List Sv} (l : ∀ F v, P.P F v → P'.P F v) (h : EnvLe as bs) : EnvLe (.fz P :: as) (.fz P' :: bs) := ⟨.inr (.inr ⟨P, P', rfl, rfl, l⟩), h⟩
/-- enumerate, zip of what is known one by one -/
theorem enumP_map {α : Type} (f : α → MVP) (xs : List α) : enumP (xs.map f) = xs.zipIdx.map fun x => tP [uP x.2, f x.1] := by
  unfold enumP
  rw [List.zipIdx_map, List.map_map]
  rfl
theorem zip2P_map {α β : Type} (f : α → MVP) (g : β → MVP) (xs : List α) (ys : List β) : zip2P (xs.map f) (ys.map g) = (xs.zip ys).map fun z => tP [f z.1, g z.2] := by
  unfold zip2P
  rw [List.zip_map, List.map_map]
  rfl
theorem zip3P_map {α β γ : Type} (f : α → MVP) (g : β → MVP) (h : γ → MVP) (xs : List α) (ys : List β) (zs : List γ) : zip3P (xs.map f) (ys.map g) (zs.map h) = (xs.zip (ys.zip zs)).map fun z => tP [f z.1, g z.2.1, h z.2.2] := by
  unfold zip3P
  rw [List.zip_map, List.zip_map, List.map_map]
  rfl
theorem tg2 {P1 P2 : MVP} {i j : Nat} : Tgt W (gTup K 2 (gCons (gName i) (gCons (gName j) gNil))) (tP [P1, P2]) env ((env.set i (.fz P1)).set j (.fz P2)) [i, j] := tg_tup (tgs_cons tg_name (tgs_cons tg_name tgs_nil))
theorem tg3 {P1 P2 P3 : MVP} {i j l : Nat} : Tgt W (gTup K 3 (gCons (gName i) (gCons (gName j) (gCons (gName l) gNil)))) (tP [P1, P2, P3]) env (((env.set i (.fz P1)).set j (.fz P2)).set l (.fz P3)) [i, j, l] := tg_tup (tgs_cons tg_name (tgs_cons tg_name (tgs_cons tg_name tgs_nil)))
theorem le_i {a b : Int} {as bs : List Sv} (e : a = b) (h : EnvLe as bs) : EnvLe (.fz (iP a) :: as) (.fz (iP b) :: bs) := by
  subst e
  exact le_k h
theorem le_f {P P' : MVP} {as bs : List Sv} (e : P = P') (h : EnvLe as bs) : EnvLe (.fz P :: as) (.fz P' :: bs) := by
  subst e
  exact le_k h
theorem le_o {Ps Ps' : List MVP} {as bs : List Sv} (e : Ps = Ps') (h : EnvLe as bs) : EnvLe (.ow (lO Ps) :: as) (.ow (lO Ps') :: bs) := by
  subst e
  exact le_k h
theorem set_self {env : List Sv} {i : Nat} {s : Sv} (h : env[i]? = some s) : env.set i s = env := by
  refine List.ext_getElem? fun j => ?_
  by_cases hji : i = j
  · subst hji
    rw [List.getElem?_set_self (List.getElem?_eq_some_iff.mp h).1, h]
  · rw [List.getElem?_set_ne hji]
/-- if t: xs.append(e) -/
theorem at_ifApp {i : Nat} {b : Bool} (hi : env[i]? = some (.ow (lO Ps))) (ht : EvT W tt env (· = b)) (he : b = true → EvP W te env P) (hl : Ps.length ≤ 1000000) (k : At W D.nx (env.set i (.ow (lO (Ps ++ if b = true then [P] else []))))) :
    At W (tIfS tt (tDrop (tBM K "list" rAppend (tVar i) (tCons te tNil))) tNext D) env := by
  refine at_if ht (fun z => ?_) fun z => ?_
  · rw [← z, if_pos rfl] at k
    exact at_app hi (he z.symm) hl k
  · rw [← z, if_neg Bool.false_ne_true, List.append_nil, set_self hi] at k
    exact k
theorem q_ifApp {i : Nat} {b : Bool} (hi : env[i]? = some (.ow (lO Ps))) (ht : EvT W tt env (· = b)) (he : b = true → EvP W te env P) (hl : Ps.length ≤ 1000000) (k : At W (u D) (env.set i (.ow (lO (Ps ++ if b = true then [P] else []))))) :
    At W (tSeq (tIfS tt (tDrop (tBM K "list" rAppend (tVar i) (tCons te tNil))) tNext) u D) env := at_ifApp (D := { D with nx := u D }) hi ht he hl k
theorem atI_getD {α β : Type} {f : α → β} {xs : List α} {n : Nat} {d : α} (h : n < xs.length) : atI (xs.map f) (n : Int) = some (f (xs.getD n d)) := by
  rw [atI_map (List.getElem?_eq_getElem h), List.getD_eq_getElem?_getD, List.getElem?_eq_getElem h]
  rfl
theorem tab_bd {n k : Nat} {t : Tab} (h : TabOk n k t) {x y : Nat} (hx : x < n) (hy : y < k) : 0 ≤ tab2 t x y ∧ tab2 t x y ≤ 1000 := by
  have h1 : x < t.length := by rw [h.1]; exact hx
  have e1 : t.getD x [] = t[x] := by rw [List.getD_eq_getElem?_getD, List.getElem?_eq_getElem h1]; rfl
  have h2 := h.2 t[x] (List.getElem_mem h1)
  have h3 : y < t[x].length := by rw [h2.1]; exact hy
  unfold tab2
  rw [e1, List.getD_eq_getElem?_getD, List.getElem?_eq_getElem h3]
  exact h2.2 _ (List.getElem_mem h3)
theorem tab_row {n k : Nat} {t : Tab} (h : TabOk n k t) {x : Nat} (hx : x < n) : RowOk k (t.getD x []) := by
  have h1 : x < t.length := by rw [h.1]; exact hx
  rw [List.getD_eq_getElem?_getD, List.getElem?_eq_getElem h1]
  exact h.2 t[x] (List.getElem_mem h1)
theorem ev_tab {n k x y : Nat} {t : Tab} (h : TabOk n k t) (ht : EvP W te env (tabP t)) (h1 : EvP W ti env (uP x)) (h2 : EvP W tj env (uP y)) (hx : x < n) (hy : y < k) : EvP W (tOp (rIxT K) (tOp (rIxT K) te ti) tj) env (iP (tab2 t x y)) :=
  ev_ix (Ps := (t.getD x []).map iP) (ev_ix ht h1 (atI_getD (d := []) (by rw [h.1]; exact hx))) h2 (atI_getD (by rw [(tab_row h hx).1]; exact hy))
theorem cmul_r {i j : Int} (h : 0 ≤ j ∧ j ≤ 1000) : CMul i j := .inr (by omega)
theorem ext_len {α : Type} (xs : List α) (fs : List (List α)) : (ext1 xs fs).length = fs.length * xs.length := by
  unfold ext1
  induction fs with
  | nil => simp
  | cons f fs ih =>
    rw [List.flatMap_cons, List.length_append, ih, List.length_map, List.length_cons, Nat.succ_mul, Nat.add_comm]
theorem tuples_snoc {α : Type} (rows : List (List α)) (r : List α) : tuplesOf (rows ++ [r]) = ext1 r (tuplesOf rows) := by
  unfold tuplesOf
  rw [List.foldl_append]
  rfl
theorem tuples_len {α : Type} {k : Nat} (hk : 1 ≤ k) : ∀ (n : Nat) (rows : List (List α)), rows.length = n → (∀ r ∈ rows, r.length ≤ k) → (tuplesOf rows).length ≤ k ^ n
  | 0, rows, h, _ => by
    rw [List.length_eq_zero_iff.mp h]
    exact Nat.le_refl 1
  | n + 1, rows, h, hr => by
    have hne : rows ≠ [] := fun e => by
      rw [e] at h
      cases h
    rw [← List.dropLast_concat_getLast hne, tuples_snoc, ext_len, Nat.pow_succ]
    refine Nat.mul_le_mul (tuples_len hk n _ (by rw [List.length_dropLast, h]; rfl) fun r hm => hr r ((List.dropLast_sublist rows).subset hm)) (hr _ (List.getLast_mem hne))
theorem tuples_each {α : Type} : ∀ (n : Nat) (rows : List (List α)), rows.length = n → ∀ f ∈ tuplesOf rows, f.length = n ∧ ∀ x ∈ f, ∃ r ∈ rows, x ∈ r
  | 0, rows, h, f, hf => by
    rw [List.length_eq_zero_iff.mp h] at hf
    have e : f = [] := List.mem_singleton.mp hf
    subst e
    exact ⟨rfl, fun x hx => nomatch hx⟩
  | n + 1, rows, h, f, hf => by
    have hne : rows ≠ [] := fun e => by
      rw [e] at h
      cases h
    rw [← List.dropLast_concat_getLast hne, tuples_snoc] at hf
    unfold ext1 at hf
    obtain ⟨g, hg, hf⟩ := List.mem_flatMap.mp hf
    obtain ⟨x, hx, e⟩ := List.mem_map.mp hf
    obtain ⟨h1, h2⟩ := tuples_each n _ (by rw [List.length_dropLast, h]; rfl) g hg
    subst e
    refine ⟨by rw [List.length_append, h1]; rfl, fun y hy => ?_⟩
    rcases List.mem_append.mp hy with hy | hy
    · obtain ⟨r, hr, z⟩ := h2 y hy
      exact ⟨r, (List.dropLast_sublist rows).subset hr, z⟩
    · rw [List.mem_singleton.mp hy]
      exact ⟨_, List.getLast_mem hne, hx⟩
theorem zipIdx_at {α : Type} {xs : List α} {pre post : List (α × Nat)} {x : α × Nat} (h : xs.zipIdx = pre ++ x :: post) : xs[x.2]? = some x.1 := by
  have h1 : xs.zipIdx[pre.length]? = some x := by
    rw [h, List.getElem?_append_right (Nat.le_refl _), Nat.sub_self]
    rfl
  rw [List.getElem?_zipIdx] at h1
  cases q : xs[pre.length]? with
  | none =>
    rw [q] at h1
    cases h1
  | some y =>
    rw [q] at h1
    have e : (y, 0 + pre.length) = x := Option.some.inj h1
    rw [← e, Nat.zero_add]
    exact q
theorem wf_pr {m : Mdl} (wf : WF m) {t : Tie} (h : t ∈ m.ties) : t.a < t.b ∧ t.b < m.many := wf.prs.2 (t.a, t.b) (List.mem_map.mpr ⟨t, h, rfl⟩)
theorem cd_lt {n : Nat} (hn : n ≤ 12) {p q : Pr} (hp : p.1 < p.2 ∧ p.2 < n) (hq : q.1 < q.2 ∧ q.2 < n) (h : prLt p q) : cd p < cd q := by
  unfold cd
  unfold prLt at h
  omega
theorem pairs_few {n : Nat} (hn : n ≤ 12) {ps : List Pr} (h : PairsOk n ps) : ps.length ≤ 144 := by
  have nd : (ps.map fun p => p.1 * 12 + p.2).Nodup := by
    refine List.pairwise_map.mpr (h.1.imp_of_mem fun {p q} hp hq z => ?_)
    have h1 := h.2 p hp
    have h2 := h.2 q hq
    unfold prLt at z
    omega
  have := nodup_len _ (List.range 144) nd fun x hx => by
    obtain ⟨p, hp, e⟩ := List.mem_map.mp hx
    have h1 := h.2 p hp
    exact List.mem_range.mpr (by omega)
  rwa [List.length_map, List.length_range] at this
theorem wf_few {m : Mdl} (wf : WF m) : m.ties.length ≤ 144 := by
  have := pairs_few wf.many12 wf.prs
  rwa [List.length_map] at this
theorem wf_pr3 {m : Mdl} (wf : WF m) {t : Tie} (h : t ∈ m.ties) : t.a < m.many ∧ t.b < m.many := by
  have := wf.prs.2 (t.a, t.b) (List.mem_map.mpr ⟨t, h, rfl⟩)
  exact ⟨Nat.lt_trans this.1 this.2, this.2⟩
theorem pic_at {m : Mdl} {xs : List Nat} (h : PicOk m xs) {i : Nat} (hi : i < m.many) : xs.getD i 0 < m.levels := by
  have h1 : i < xs.length := by rw [h.1]; exact hi
  rw [List.getD_eq_getElem?_getD, List.getElem?_eq_getElem h1]
  exact h.2 _ (List.getElem_mem h1)
theorem mk_prs (ps : List Pr) (t : Tab) : ((mkTies ps t).map fun t => (t.a, t.b)) = ps := by
  unfold mkTies
  rw [List.map_map]
  exact List.map_id'' (fun _ => rfl) ps
theorem ixN_lt {n v : Nat} (h : v < n) : ixN n (v : Int) = some v := by
  unfold ixN
  first
    | (rw [if_pos (by omega), if_pos (by omega)]; simp)
    | (simp [h]; omega)
    | simp [h]
/-- for x in xs: what leaves unless ok x -/
theorem at_forAll {α : Type} {xs : List α} {f : α → MVP} (ok : α → Bool) {g : TG} {tb : TS} {E : List Sv} (hi : EvI W wi env (xs.map f)) (h0 : EnvLe env E)
    (hs : ∀ B x, x ∈ xs → ∃ env2 js, Tgt (W.bd B) g (f x) E env2 js ∧ ∀ X : L2.St → Hp → Prop, (ok x = true → At (W.bd B) X E) → At (W.bd B) (tb { D with nx := X, ct := X, bk := D.nx }) env2)
    (k : xs.all ok = true → At W D.nx E) : At W (tFor wi g tb D) env := by
  refine at_for (T := fun i e => EnvLe e E ∧ (xs.take i).all ok = true) hi ⟨h0, rfl⟩ (fun B i Q env' hQ ⟨hT, hA⟩ => ?_) fun env' ⟨hT, hA⟩ => ?_
  · rw [List.getElem?_map] at hQ
    cases hz : xs[i]? with
    | none =>
      rw [hz] at hQ
      cases hQ
    | some z =>
      rw [hz] at hQ
      have e3 : f z = Q := Option.some.inj hQ
      subst e3
      obtain ⟨env2, js, h1, h2⟩ := hs B z (List.mem_of_getElem? hz)
      refine ⟨env2, js, fun σ F H v e sl q Q' k => h1 σ F H v e (sl.le hT) q Q' k, h2 _ fun c => at_sat ⟨EnvLe.refl E, ?_⟩⟩
      rw [List.take_add_one, hz, List.all_append, hA]
      show (true && (ok z && true)) = true
      rw [c]
      rfl
  · rw [List.length_map, List.take_length] at hA
    exact at_le hT (k hA)
theorem q_forAll {α : Type} {xs : List α} {f : α → MVP} (ok : α → Bool) {g : TG} {tb : TS} {E : List Sv} (hi : EvI W wi env (xs.map f)) (h0 : EnvLe env E)
    (hs : ∀ B x, x ∈ xs → ∃ env2 js, Tgt (W.bd B) g (f x) E env2 js ∧ ∀ X : L2.St → Hp → Prop, (ok x = true → At (W.bd B) X E) → At (W.bd B) (tb { D with nx := X, ct := X, bk := u D }) env2)
    (k : xs.all ok = true → At W (u D) E) : At W (tSeq (tFor wi g tb) u D) env := at_forAll (D := { D with nx := u D }) ok hi h0 hs k
theorem all_false {α : Type} {xs : List α} {ok : α → Bool} {x : α} (h : x ∈ xs) (e : ok x = false) : xs.all ok = false := by
  cases q : xs.all ok with
  | false => rfl
  | true =>
    have := List.all_eq_true.mp q x h
    rw [e] at this
    cases this
theorem last_map {α β : Type} {f : α → β} {xs : List α} {d : α} (h : xs ≠ []) : atI (xs.map f) (-1) = some (f (xs.getLastD d)) := by
  refine atI_neg ?_
  rw [List.getLast?_map, List.getLastD_eq_getLast?, List.getLast?_eq_some_getLast h]
  rfl
theorem lastD_mem {α : Type} {xs : List α} {d : α} (h : xs ≠ []) : xs.getLastD d ∈ xs := by
  rw [List.getLastD_eq_getLast?, List.getLast?_eq_some_getLast h]
  exact List.getLast_mem h
theorem set_range {α : Type} (q : Nat) (g h : Nat → α) (x : Nat) (e : ∀ v, v ≠ x → g v = h v) : ((List.range q).map g).set x (h x) = (List.range q).map h := by
  refine List.ext_getElem? fun i => ?_
  by_cases hi : x = i
  · subst hi
    by_cases hl : x < q
    · rw [List.getElem?_set_self (by rw [List.length_map, List.length_range]; exact hl), List.getElem?_map, List.getElem?_range hl]
      rfl
    · rw [List.getElem?_eq_none (by rw [List.length_set, List.length_map, List.length_range]; omega), List.getElem?_eq_none (by rw [List.length_map, List.length_range]; omega)]
  · rw [List.getElem?_set_ne hi, List.getElem?_map, List.getElem?_map]
    cases q1 : (List.range q)[i]? with
    | none => rfl
    | some v =>
      have : v = i := by
        have hl := (List.getElem?_eq_some_iff.mp q1).1
        rw [List.length_range] at hl
        rw [List.getElem?_range hl] at q1
        exact (Option.some.inj q1).symm
      subst this
      show some (g v) = some (h v)
      rw [e v fun z => hi z.symm]
theorem range_at {q x : Nat} {pre post : List Nat} (h : List.range q = pre ++ x :: post) : x = pre.length ∧ x < q := by
  have h1 : (List.range q)[pre.length]? = some x := by
    rw [h, List.getElem?_append_right (Nat.le_refl _), Nat.sub_self]
    rfl
  have hl := (List.getElem?_eq_some_iff.mp h1).1
  rw [List.length_range] at hl
  rw [List.getElem?_range hl] at h1
  have := Option.some.inj h1
  exact ⟨this.symm, by omega⟩
theorem fac_bd {m : Mdl} (wf : WF m) {t : Tie} (h : t ∈ m.ties) {i v y : Nat} (hv : v < m.levels) (hy : y < m.levels) : 0 ≤ fac i t v y ∧ fac i t v y ≤ 1000 := by
  unfold fac
  split
  · exact tab_bd (wf.tt t h) hv hy
  · exact tab_bd (wf.tt t h) hy hv
theorem mem_split2 {α : Type} {xs pre post : List α} {x : α} (h : xs = pre ++ x :: post) : x ∈ xs := by
  rw [h]
  exact List.mem_append_right _ List.mem_cons_self
/-- the rows so far, and one more -/
theorem ext_snoc {α : Type} (r : List α) (pre : List (List α)) (f : List α) : ext1 r (pre ++ [f]) = ext1 r pre ++ r.map fun x => f ++ [x] := by
  unfold ext1
  rw [List.flatMap_append, List.flatMap_cons, List.flatMap_nil, List.append_nil]
theorem bool_at {fl : List Bool} {n i : Nat} (hl : fl.length = n) (hi : i < n) : atI (fl.map bP) (i : Int) = some (bP (fl.getD i false)) := atI_getD (by omega)
theorem tied_lt {m : Mdl} (wf : WF m) {i j : Nat} (h : j ∈ tiedAt m.ties i) : j < m.many := by
  unfold tiedAt at h
  obtain ⟨t, ht, e⟩ := List.mem_map.mp h
  have := wf_pr3 wf (List.mem_filter.mp ht).1
  subst e
  unfold otherOf
  split
  · exact this.1
  · exact this.2
theorem end_ok {m : Mdl} (wf : WF m) {fl : List Bool} (hl : fl.length = m.many) : PicOk m (endLo m.levels fl) ∧ PicOk m (endHi m.levels fl) := by
  have l1 := wf.lev1
  unfold endLo endHi
  refine ⟨⟨by rw [List.length_map, hl], fun x hx => ?_⟩, by rw [List.length_map, hl], fun x hx => ?_⟩
  all_goals
    obtain ⟨b, _, e⟩ := List.mem_map.mp hx
    subst e
    split <;> omega
theorem rows_mem {q n : Nat} {ys : List Nat} (h : ys ∈ allRows q n) : ys.length = n ∧ ∀ y ∈ ys, y < q := by
  obtain ⟨h1, h2⟩ := tuples_each n _ (by simp) ys h
  refine ⟨h1, fun y hy => ?_⟩
  obtain ⟨r, hr, hm⟩ := h2 y hy
  rw [List.eq_of_mem_replicate hr] at hm
  exact List.mem_range.mp hm
theorem rows_len {q n : Nat} (hq : q ≤ 4) (hn : n ≤ 4) : (allRows q n).length ≤ 256 := by
  have h1 := tuples_len (α := Nat) (k := 4) (by decide) n (List.replicate n (List.range q)) (by simp) fun r hr => by
    rw [List.eq_of_mem_replicate hr, List.length_range]
    exact hq
  exact Nat.le_trans h1 (Nat.le_trans (Nat.pow_le_pow_right (by decide) hn) (by decide))
/-- list(range(n)) -/
theorem ef_listRg {n : Nat} {W : Wd} {env : List Sv} {te : TE} (h : EvP W te env (uP n)) (hn : n ≤ 1000000) : EvF W (tLstRg (tRg1 te)) env ((List.range n).map uP) := fun σ F H e so sl Q k => h σ F H e so sl _ fun x F1 H1 g1 q1 => by
  refine ⟨(n : Int), q1, ⟨by omega, by omega, by omega, by omega, by omega⟩, fun p hp => ?_⟩
  refine k p _ F1 _ (g1.trans (Go.own g1.eh hp)) (g1.nn hp) (g1.eh.nn hp) upd_same ?_
  have e1 : rgV 0 (n : Int) = (List.range n).map fun i : Nat => V.int (i : Int) := by
    unfold rgV
    rw [show ((n : Int) - 0).toNat = n by omega]
    refine List.map_congr_left fun i _ => ?_
    rw [Int.zero_add]
  rw [e1]
  have := all_sP' (F := F1) ((List.range n).map fun i : Nat => V.int (i : Int))
  rw [List.map_map] at this
  exact this
theorem ef_rep {W : Wd} {env : List Sv} {ta tb : TE} {P : MVP} {n : Nat} {k : Int} (h1 : EvP W ta env P) (h2 : EvP W tb env (iP k)) (e : k = n) (hn : n ≤ 1000000) : EvF W (tOp rRep (tLst (tCons ta tNil)) tb) env (List.replicate n P) := by
  subst e
  have := ef_op (ev_frz (ef_lst1 h1)) h2 (o_repL (S := W.S) (Ps := [P]) (n := n) (show 1 * n ≤ 1000000 by omega) hn)
  simpa using this
theorem ev_repT {K : PySem.W.Frag} {W : Wd} {env : List Sv} {ta tb : TE} {P : MVP} {n : Nat} {k : Int} (h1 : EvP W ta env P) (h2 : EvP W tb env (iP k)) (e : k = n) (hp : 1 ≤ n) (hn : n ≤ 1000) : EvP W (tOp (rRepQ K) (tTup (tCons ta tNil)) tb) env (tP (List.replicate n P)) := by
  subst e
  have := ev_op (ev_tup1 h1) h2 (o_repT (S := W.S) (K := K) (Ps := [P]) (n := n) (by simp) hp hn (show 1 ≤ 1000 by decide))
  simpa using this
theorem rep_map {α : Type} (f : α → MVP) (n : Nat) (x : α) : List.replicate n (f x) = (List.replicate n x).map f := (List.map_replicate ..).symm
theorem look_zip {ks : List Key} {Qs : List MVP} (hn : ks.Nodup) : ∀ {k : Nat} {key : Key} {P : MVP}, ks[k]? = some key → Qs[k]? = some P → lookK (ks.zip Qs) key = some P := by
  induction ks generalizing Qs with
  | nil =>
    intro k key P h
    simp at h
  | cons a ks ih =>
    obtain ⟨h1, h2⟩ := List.nodup_cons.mp hn
    intro k key P hk hP
    cases Qs with
    | nil => simp at hP
    | cons Q Qs =>
      cases k with
      | zero =>
        have e1 : a = key := Option.some.inj hk
        have e2 : Q = P := Option.some.inj hP
        subst e1 e2
        unfold lookK
        rw [List.zip_cons_cons, List.find?_cons_of_pos (by simp)]
        rfl
      | succ k =>
        have hk' : ks[k]? = some key := by simpa using hk
        have hne : a ≠ key := fun e => h1 (by rw [e]; exact List.mem_of_getElem? hk')
        have := ih (Qs := Qs) h2 hk' (by simpa using hP)
        unfold lookK at this ⊢
        rw [List.zip_cons_cons, List.find?_cons_of_neg (by simpa using hne)]
        exact this
theorem at_forAllP {α : Type} {xs : List α} {f : α → MVP} (ok : α → Bool) {W : Wd} {env : List Sv} {wi : TI} {D : Ends} {g : TG} {tb : TS} (E : List α → List Sv) (hi : EvI W wi env (xs.map f)) (h0 : EnvLe env (E []))
    (hs : ∀ B pre x post, xs = pre ++ x :: post → ∃ env2 js, Tgt (W.bd B) g (f x) (E pre) env2 js ∧ ∀ X : L2.St → Hp → Prop, (ok x = true → At (W.bd B) X (E (pre ++ [x]))) → At (W.bd B) (tb { D with nx := X, ct := X, bk := D.nx }) env2)
    (k : xs.all ok = true → At W D.nx (E xs)) : At W (tFor wi g tb D) env := by
  refine at_for (T := fun i e => EnvLe e (E (xs.take i)) ∧ (xs.take i).all ok = true) hi ⟨h0, rfl⟩ (fun B i Q env' hQ ⟨hT, hA⟩ => ?_) fun env' ⟨hT, hA⟩ => ?_
  · rw [List.getElem?_map] at hQ
    cases hz : xs[i]? with
    | none =>
      rw [hz] at hQ
      cases hQ
    | some z =>
      rw [hz] at hQ
      have e3 : f z = Q := Option.some.inj hQ
      subst e3
      have hlt : i < xs.length := (List.getElem?_eq_some_iff.mp hz).1
      have e4 : xs = xs.take i ++ z :: xs.drop (i + 1) := by
        have e5 : xs[i] = z := by
          have := List.getElem?_eq_getElem hlt
          rw [hz] at this
          exact (Option.some.inj this).symm
        rw [← e5, ← List.drop_eq_getElem_cons hlt, List.take_append_drop]
      have e6 : xs.take (i + 1) = xs.take i ++ [z] := by
        rw [List.take_add_one, hz]
        rfl
      obtain ⟨env2, js, h1, h2⟩ := hs B _ z _ e4
      refine ⟨env2, js, fun σ F H v e sl q Q' k => h1 σ F H v e (sl.le hT) q Q' k, h2 _ fun c => at_sat ⟨?_, ?_⟩⟩
      · rw [e6]
        exact EnvLe.refl _
      · rw [e6, List.all_append, hA]
        show (true && (ok z && true)) = true
        rw [c]
        rfl
  · rw [List.length_map, List.take_length] at hT hA
    exact at_le hT (k hA)
theorem tied_sorted {m : Mdl} (wf : WF m) (i : Nat) : (tiedAt m.ties i).Pairwise (· < ·) := by
  unfold tiedAt
  refine List.pairwise_map.mpr ?_
  have h1 := List.pairwise_map.mp wf.prs.1
  refine (h1.filter _).imp_of_mem fun {t u} ht hu z => ?_
  have a1 := wf_pr wf (List.mem_filter.mp ht).1
  have a2 := wf_pr wf (List.mem_filter.mp hu).1
  have b1 : t.a = i ∨ t.b = i := by simpa using (List.mem_filter.mp ht).2
  have b2 : u.a = i ∨ u.b = i := by simpa using (List.mem_filter.mp hu).2
  unfold prLt at z
  simp only at z
  unfold otherOf
  split <;> split <;> omega
theorem all_congr2 {α : Type} {xs : List α} {f g : α → Bool} (h : ∀ x ∈ xs, f x = g x) : xs.all f = xs.all g := by
  induction xs with
  | nil => rfl
  | cons x xs ih => rw [List.all_cons, List.all_cons, h x List.mem_cons_self, ih fun y hy => h y (List.mem_cons_of_mem _ hy)]
def rowQ (z : List Nat × List Int) : MVP := tP [nsT z.1, lP (isL z.2)]
theorem prod_bd {i v : Nat} : ∀ (pre : List (Tie × Nat)) (a B : Int), 0 ≤ a → a ≤ B → (∀ x ∈ pre, 0 ≤ fac i x.1 v x.2 ∧ fac i x.1 v x.2 ≤ 1000) → 0 ≤ pre.foldl (fun (w : Int) (x : Tie × Nat) => w * fac i x.1 v x.2) a ∧ pre.foldl (fun (w : Int) (x : Tie × Nat) => w * fac i x.1 v x.2) a ≤ B * 1000 ^ pre.length
  | [], a, B, h1, h2, _ => ⟨h1, by simpa using h2⟩
  | x :: pre, a, B, h1, h2, h => by
    obtain ⟨h3, h4⟩ := h x List.mem_cons_self
    have h5 : 0 ≤ a * fac i x.1 v x.2 := Int.mul_nonneg h1 h3
    have h6 : a * fac i x.1 v x.2 ≤ B * 1000 := Int.mul_le_mul h2 h4 h3 (Int.le_trans h1 h2)
    have := prod_bd pre (a * fac i x.1 v x.2) (B * 1000) h5 h6 fun y hy => h y (List.mem_cons_of_mem _ hy)
    rw [List.foldl_cons, List.length_cons, Int.pow_succ, Int.mul_comm (1000 ^ pre.length) 1000, ← Int.mul_assoc]
    exact this
theorem localV_bd {m : Mdl} (wf : WF m) {i v : Nat} {ys : List Nat} (hi : i < m.many) (hv : v < m.levels) (hy : ∀ y ∈ ys, y < m.levels) : 0 ≤ localV m i ys v ∧ localV m i ys v ≤ 1000 ^ 5 := by
  have h0 := tab_bd wf.wt hi hv
  have h := prod_bd (i := i) (v := v) ((tiesAt m.ties i).zip ys) _ 1000 h0.1 h0.2 fun x hx => by
    obtain ⟨a, b⟩ := List.of_mem_zip hx
    exact fac_bd wf (List.mem_filter.mp a).1 hv (hy _ b)
  refine ⟨h.1, Int.le_trans h.2 ?_⟩
  have hl : ((tiesAt m.ties i).zip ys).length ≤ 4 := by
    rw [List.length_zip]
    exact Nat.le_trans (Nat.min_le_left _ _) (wf.few i hi)
  have : ∀ n : Nat, n ≤ 4 → (1000 : Int) * 1000 ^ n ≤ 1000 ^ 5 := by decide
  exact this _ hl
theorem sum_bd : ∀ (ws : List Int) (B : Int), (∀ x ∈ ws, 0 ≤ x ∧ x ≤ B) → 0 ≤ ws.sum ∧ ws.sum ≤ B * ws.length
  | [], B, _ => by simp
  | x :: ws, B, h => by
    have h1 := h x List.mem_cons_self
    have h2 := sum_bd ws B fun y hy => h y (List.mem_cons_of_mem _ hy)
    rw [List.sum_cons, List.length_cons]
    have e : B * ((ws.length + 1 : Nat) : Int) = B * (ws.length : Int) + B := by
      rw [Int.natCast_add, Int.mul_add]
      simp
    omega
theorem grid_at_len (r c k : Nat) : (gridAt r c k).length ≤ 2 := by
  unfold gridAt
  split <;> split <;> simp
theorem flat_len {f : Nat → List Pr} (h : ∀ k, (f k).length ≤ 2) : ∀ xs : List Nat, (xs.flatMap f).length ≤ 2 * xs.length
  | [] => Nat.le_refl _
  | x :: xs => by
    rw [List.flatMap_cons, List.length_append, List.length_cons]
    have := flat_len h xs
    have := h x
    omega
theorem mem_allFlips : ∀ (n : Nat) (fl : List Bool), fl.length = n → fl ∈ allFlips n
  | 0, fl, h => by
    rw [List.length_eq_zero_iff.mp h]
    exact List.mem_singleton.mpr rfl
  | n + 1, fl, h => by
    have hne : fl ≠ [] := fun e => by
      rw [e] at h
      cases h
    have hd := mem_allFlips n fl.dropLast (by rw [List.length_dropLast, h]; rfl)
    unfold allFlips at hd ⊢
    rw [List.replicate_succ', tuples_snoc]
    unfold ext1
    refine List.mem_flatMap.mpr ⟨_, hd, List.mem_map.mpr ⟨fl.getLast hne, ?_, List.dropLast_concat_getLast hne⟩⟩
    cases fl.getLast hne <;> simp
theorem keyB_num (b : Bool) : keyB2 (numB b) = b := by cases b <;> decide
end
end Ly
namespace Ly
/-! ### the search, in plain Lean -/
def compl (n : Nat) (p : List Bool) : List (List Bool) := (allFlips (n - p.length)).map (p ++ ·)
theorem allFlips_succ : ∀ n : Nat, allFlips (n + 1) = (allFlips n).map (false :: ·) ++ (allFlips n).map (true :: ·)
  | 0 => rfl
  | n + 1 => by
    have h1 : ∀ k, allFlips (k + 1) = ext1 [false, true] (allFlips k) := fun k => by
      unfold allFlips
      rw [List.replicate_succ', tuples_snoc]
    have h2 : ∀ (b : Bool) (fs : List (List Bool)), ext1 [false, true] (fs.map (b :: ·)) = (ext1 [false, true] fs).map (b :: ·) := fun b fs => by
      unfold ext1
      induction fs with
      | nil => rfl
      | cons f fs ih =>
        rw [List.map_cons, List.flatMap_cons, List.flatMap_cons, List.map_append, ih]
        rfl
    have h3 : ∀ a b : List (List Bool), ext1 [false, true] (a ++ b) = ext1 [false, true] a ++ ext1 [false, true] b := fun a b => by
      unfold ext1
      rw [List.flatMap_append]
    rw [h1 (n + 1), allFlips_succ n, h3, h2, h2, ← h1 n, allFlips_succ n]
theorem flips_each {n : Nat} {f : List Bool} (h : f ∈ allFlips n) : f.length = n := (tuples_each n _ (by simp) f h).1
theorem compl_split {n : Nat} {p : List Bool} (h : p.length < n) : compl n p = compl n (p ++ [false]) ++ compl n (p ++ [true]) := by
  unfold compl
  have e : n - p.length = (n - (p.length + 1)) + 1 := by omega
  rw [e, allFlips_succ, List.map_append, List.map_map, List.map_map, List.length_append, List.length_append]
  congr 1
  · refine List.map_congr_left fun f _ => ?_
    show p ++ (false :: f) = (p ++ [false]) ++ f
    rw [List.append_assoc]
    rfl
  · refine List.map_congr_left fun f _ => ?_
    show p ++ (true :: f) = (p ++ [true]) ++ f
    rw [List.append_assoc]
    rfl
theorem compl_leaf {n : Nat} {p : List Bool} (h : p.length = n) : compl n p = [p] := by
  unfold compl
  rw [h, Nat.sub_self]
  show [p ++ []] = [p]
  rw [List.append_nil]
theorem compl_nil (n : Nat) : compl n [] = allFlips n := by
  unfold compl
  exact List.map_id'' (fun _ => rfl) _
theorem compl_mem {n : Nat} {p f : List Bool} (hp : p.length ≤ n) (h : f ∈ compl n p) : f.length = n ∧ ∃ r, f = p ++ r := by
  unfold compl at h
  obtain ⟨r, hr, e⟩ := List.mem_map.mp h
  have := flips_each hr
  subst e
  exact ⟨by rw [List.length_append]; omega, r, rfl⟩
theorem getD_app {α : Type} {p r : List α} {i : Nat} {d : α} (h : i < p.length) : (p ++ r).getD i d = p.getD i d := by
  rw [List.getD_eq_getElem?_getD, List.getD_eq_getElem?_getD, List.getElem?_append_left h]
theorem maxL_ge2 : ∀ (xs : List Nat) (a : Nat), a ≤ maxL a xs ∧ ∀ x ∈ xs, x ≤ maxL a xs
  | [], a => ⟨Nat.le_refl _, fun _ h => nomatch h⟩
  | y :: xs, a => by
    obtain ⟨h1, h2⟩ := maxL_ge2 xs (max a y)
    have e : maxL a (y :: xs) = maxL (max a y) xs := rfl
    rw [e]
    refine ⟨by omega, fun x hx => ?_⟩
    rcases List.mem_cons.mp hx with z | z
    · rw [z]; omega
    · exact h2 x z
theorem rises_app {m : Mdl} {p r : List Bool} {i : Nat} (h : maxL i (tiedAt m.ties i) < p.length) : risesP m (p ++ r) i = risesP m p i := by
  have ge := maxL_ge2 (tiedAt m.ties i) i
  have h1 : i < p.length := Nat.lt_of_le_of_lt ge.1 h
  have h2 : flAt (p ++ r) m.ties i = flAt p m.ties i := by
    unfold flAt
    exact List.map_congr_left fun j hj => getD_app (Nat.lt_of_le_of_lt (ge.2 j hj) h)
  unfold risesP
  rw [h2, getD_app h1]
theorem compl_bad {m : Mdl} {p : List Bool} (hp : p.length ≤ m.many) (h : mayRise m p = false) : ∀ f ∈ compl m.many p, goodF m f = false := fun f hf => by
  obtain ⟨h1, r, e⟩ := compl_mem hp hf
  subst e
  obtain ⟨i, hi, hm⟩ : ∃ i ∈ List.range p.length, mayP m p i = false := by
    unfold mayRise at h
    cases q : (List.range p.length).find? (fun i => !mayP m p i) with
    | some i =>
      refine ⟨i, List.mem_of_find?_eq_some q, ?_⟩
      have := List.find?_some q
      simpa using this
    | none =>
      have h2 := List.find?_eq_none.mp q
      have : (List.range p.length).all (mayP m p) = true := List.all_eq_true.mpr fun i hi => by simpa using h2 i hi
      rw [this] at h
      cases h
  have hi' := List.mem_range.mp hi
  unfold mayP at hm
  split at hm
  · rename_i hl
    have e1 : risesP m (p ++ r) i = false := by rw [rises_app (by omega)]; exact hm
    have e2 : risesM m (p ++ r) = false := by
      cases q : risesM m (p ++ r) with
      | false => rfl
      | true =>
        have := List.all_eq_true.mp q i (List.mem_range.mpr (by omega))
        rw [e1] at this
        cases this
    unfold goodF
    rw [e2, Bool.and_false]
  · cases hm
theorem leaf_good {m : Mdl} (wf : WF m) {p : List Bool} (hp : p.length = m.many) (h : ∀ l, l ≤ p.length → mayRise m (p.take l) = true) : risesM m p = true := by
  refine List.all_eq_true.mpr fun i hi => ?_
  have hi' := List.mem_range.mp hi
  have hml : maxL i (tiedAt m.ties i) < m.many := by
    unfold maxL
    have : ∀ (xs : List Nat) (a : Nat), a < m.many → (∀ x ∈ xs, x < m.many) → xs.foldl max a < m.many := by
      intro xs
      induction xs with
      | nil => exact fun a h _ => h
      | cons y xs ih =>
        intro a ha hx
        rw [List.foldl_cons]
        have := hx y List.mem_cons_self
        exact ih _ (by omega) fun z hz => hx z (List.mem_cons_of_mem _ hz)
    exact this _ _ hi' fun x hx => tied_lt wf hx
  have h1 := h (maxL i (tiedAt m.ties i) + 1) (by omega)
  have hlen : (p.take (maxL i (tiedAt m.ties i) + 1)).length = maxL i (tiedAt m.ties i) + 1 := by
    rw [List.length_take]
    omega
  have hle := (maxL_ge2 (tiedAt m.ties i) i).1
  have h2 := List.all_eq_true.mp h1 i (List.mem_range.mpr (by rw [hlen]; omega))
  unfold mayP at h2
  rw [hlen, if_pos rfl] at h2
  have h3 := rises_app (m := m) (p := p.take (maxL i (tiedAt m.ties i) + 1)) (r := p.drop (maxL i (tiedAt m.ties i) + 1)) (i := i) (by rw [hlen]; omega)
  rw [List.take_append_drop] at h3
  rw [h3]
  exact h2
/-- what stands in the search -/
structure Srch (m : Mdl) (st : List (List Bool)) : Prop where
  len : ∀ p ∈ st, p.length ≤ m.many
  pre : ∀ p ∈ st, ∀ l, l < p.length → mayRise m (p.take l) = true
  fnd : (st.reverse.flatMap (compl m.many)).find? (goodF m) = flipsFor m
theorem Srch.zero (m : Mdl) : Srch m [[]] where
  len := fun p hp => by rw [List.mem_singleton.mp hp]; exact Nat.zero_le _
  pre := fun p hp l hl => by rw [List.mem_singleton.mp hp] at hl; exact absurd hl (Nat.not_lt_zero _)
  fnd := by
    show ((compl m.many [] ++ []).find? (goodF m)) = _
    rw [List.append_nil, compl_nil]
    rfl
theorem find_none {α : Type} {p : α → Bool} : ∀ {xs ys : List α}, (∀ x ∈ xs, p x = false) → (xs ++ ys).find? p = ys.find? p
  | [], _, _ => rfl
  | x :: xs, ys, h => by
    rw [List.cons_append, List.find?_cons_of_neg (by rw [h x List.mem_cons_self]; exact Bool.false_ne_true)]
    exact find_none fun y hy => h y (List.mem_cons_of_mem _ hy)
theorem rev_flat (n : Nat) (st : List (List Bool)) (p : List Bool) : (st ++ [p]).reverse.flatMap (compl n) = compl n p ++ st.reverse.flatMap (compl n) := by
  rw [List.reverse_append]
  rfl
theorem Srch.bad {m : Mdl} {st : List (List Bool)} {p : List Bool} (s : Srch m (st ++ [p])) (h : mayRise m p = false) : Srch m st where
  len := fun q hq => s.len q (List.mem_append_left _ hq)
  pre := fun q hq => s.pre q (List.mem_append_left _ hq)
  fnd := by
    rw [← s.fnd, rev_flat]
    exact (find_none (compl_bad (s.len p (by simp)) h)).symm
theorem Srch.leaf {m : Mdl} (wf : WF m) {st : List (List Bool)} {p : List Bool} (s : Srch m (st ++ [p])) (h : mayRise m p = true) (hl : p.length = m.many) : (endsFit m p = true → flipsFor m = some p) ∧ (endsFit m p = false → Srch m st) := by
  have hr : risesM m p = true := leaf_good wf hl fun l hle => by
    rcases Nat.lt_or_ge l p.length with h1 | h1
    · exact s.pre p (by simp) l h1
    · rw [List.take_of_length_le h1]; exact h
  have hf := s.fnd
  rw [rev_flat, compl_leaf hl] at hf
  refine ⟨fun e => ?_, fun e => ⟨fun q hq => s.len q (List.mem_append_left _ hq), fun q hq => s.pre q (List.mem_append_left _ hq), ?_⟩⟩
  · rw [← hf]
    exact List.find?_cons_of_pos (by unfold goodF; rw [e, hr]; rfl)
  · rw [← hf]
    exact (find_none fun x hx => by
      rw [List.mem_singleton.mp hx]
      unfold goodF
      rw [e, Bool.false_and]).symm
theorem Srch.more {m : Mdl} {st : List (List Bool)} {p : List Bool} (s : Srch m (st ++ [p])) (h : mayRise m p = true) (hl : p.length < m.many) : Srch m (st ++ [p ++ [true], p ++ [false]]) where
  len := fun q hq => by
    rcases List.mem_append.mp hq with h1 | h1
    · exact s.len q (List.mem_append_left _ h1)
    · rcases List.mem_cons.mp h1 with e | e
      · rw [e, List.length_append]; exact hl
      · rw [List.mem_singleton.mp e, List.length_append]; exact hl
  pre := fun q hq l hl2 => by
    have key : ∀ b : Bool, l < (p ++ [b]).length → mayRise m ((p ++ [b]).take l) = true := fun b hb => by
      rw [List.length_append] at hb
      have hb' : l < p.length + 1 := hb
      rw [List.take_append_of_le_length (by omega)]
      rcases Nat.lt_or_ge l p.length with h1 | h1
      · exact s.pre p (by simp) l h1
      · rw [List.take_of_length_le h1]; exact h
    rcases List.mem_append.mp hq with h1 | h1
    · exact s.pre q (List.mem_append_left _ h1) l hl2
    · rcases List.mem_cons.mp h1 with e | e
      · rw [e] at hl2 ⊢; exact key true hl2
      · rw [List.mem_singleton.mp e] at hl2 ⊢; exact key false hl2
  fnd := by
    rw [← s.fnd, rev_flat, compl_split hl]
    have e : st ++ [p ++ [true], p ++ [false]] = (st ++ [p ++ [true]]) ++ [p ++ [false]] := by rw [List.append_assoc]; rfl
    rw [e, rev_flat, rev_flat, List.append_assoc]
theorem Srch.done {m : Mdl} (s : Srch m []) : flipsFor m = none := s.fnd.symm
/-- how much is still to be looked at -/
def wgt (n : Nat) (st : List (List Bool)) : Nat := (st.map fun p => 2 ^ (n + 1 - p.length) - 1).sum
theorem wgt_snoc (n : Nat) (st : List (List Bool)) (p : List Bool) : wgt n (st ++ [p]) = wgt n st + (2 ^ (n + 1 - p.length) - 1) := by
  unfold wgt
  rw [List.map_append, List.sum_append]
  simp
theorem wgt_less {n : Nat} {st : List (List Bool)} {p : List Bool} (h : p.length ≤ n) : wgt n st < wgt n (st ++ [p]) := by
  rw [wgt_snoc, show n + 1 - p.length = (n - p.length) + 1 by omega, Nat.pow_succ]
  have : 0 < 2 ^ (n - p.length) := Nat.pow_pos (by decide)
  omega
theorem wgt_more {n : Nat} {st : List (List Bool)} {p : List Bool} (h : p.length < n) : wgt n (st ++ [p ++ [true], p ++ [false]]) < wgt n (st ++ [p]) := by
  have e : st ++ [p ++ [true], p ++ [false]] = (st ++ [p ++ [true]]) ++ [p ++ [false]] := by rw [List.append_assoc]; rfl
  rw [e, wgt_snoc, wgt_snoc, wgt_snoc, List.length_append, List.length_append, show n + 1 - p.length = (n + 1 - (p.length + 1)) + 1 by omega, Nat.pow_succ]
  have : 0 < 2 ^ (n + 1 - (p.length + 1)) := Nat.pow_pos (by decide)
  simp only [List.length_cons, List.length_nil, Nat.zero_add]
  omega
theorem wgt_le {n : Nat} : ∀ {st : List (List Bool)}, (∀ p ∈ st, p.length ≤ n) → st.length ≤ wgt n st
  | [], _ => Nat.zero_le _
  | p :: st, h => by
    have h1 := wgt_le (n := n) (st := st) fun q hq => h q (List.mem_cons_of_mem _ hq)
    have h2 := h p List.mem_cons_self
    have e : wgt n (p :: st) = (2 ^ (n + 1 - p.length) - 1) + wgt n st := by
      unfold wgt
      rw [List.map_cons, List.sum_cons]
    rw [e, List.length_cons, show n + 1 - p.length = (n - p.length) + 1 by omega, Nat.pow_succ]
    have : 0 < 2 ^ (n - p.length) := Nat.pow_pos (by decide)
    omega
end Ly
namespace Ly
open PySem PySem.Spec PyProof.Rows L2
section
variable {K : PySem.W.Frag} {W : Wd} {S : Shr} {env env' : List Sv} {P P1 P2 P3 : MVP} {ta tb te ti tj : TE} {tr : TA} {tt tu : TT} {Ps Qs : List MVP} {G : MOP} {D : Ends} {t u : TS} {wi : TI}
/-! ### what is one of some -/
theorem ev_any {α : Type} {C : α → Prop} {f : α → MVP} {x : α} (h : EvP W te env (f x)) (c : C x) : EvP W te env (anyP C f) := ev_le h fun F v q => ⟨x, c, q⟩
theorem c1_anyX {α : Type} {C : α → Prop} {f g : α → MVP} {r : List V → Hp → VK → Prop} (h : ∀ x, C x → Call1 S r (f x) (g x)) : Call1 S r (anyP C f) (anyP C g) := fun F H x e ⟨a, c, q⟩ Q k => h a c F H x e q Q fun v F' H' g' q' => k v F' H' g' ⟨a, c, q'⟩
def listC {α : Type} (C : α → Prop) (n : Nat) (xs : List α) : Prop := xs.length = n ∧ ∀ x ∈ xs, C x
theorem all_any {α : Type} {C : α → Prop} {f : α → MVP} {F : Hp} : ∀ {n : Nat} {vs : List V}, All F vs (List.replicate n (anyP C f)) → ∃ xs, listC C n xs ∧ All F vs (xs.map f)
  | 0, _, h => by
    cases h
    exact ⟨[], ⟨rfl, fun _ z => nomatch z⟩, .nil⟩
  | n + 1, vs, h => by
    rw [List.replicate_succ] at h
    cases h with
    | cons a t =>
      obtain ⟨x, c, q⟩ := a
      obtain ⟨xs, ⟨h1, h2⟩, h3⟩ := all_any t
      refine ⟨x :: xs, ⟨by rw [List.length_cons, h1], fun y hy => ?_⟩, .cons q h3⟩
      rcases List.mem_cons.mp hy with e | e
      · rw [e]; exact c
      · exact h2 y e
theorem lP_any {α : Type} {C : α → Prop} {f : α → MVP} {n : Nat} (F : Hp) (v : V) (h : (lP (List.replicate n (anyP C f))).P F v) : (anyP (listC C n) fun xs => lP (xs.map f)).P F v := by
  obtain ⟨a, vs, e, h1, h2⟩ := h
  obtain ⟨xs, c, q⟩ := all_any h2
  exact ⟨xs, c, a, vs, e, h1, q⟩
theorem tP_any {α : Type} {C : α → Prop} {f : α → MVP} {n : Nat} (F : Hp) (v : V) (h : (tP (List.replicate n (anyP C f))).P F v) : (anyP (listC C n) fun xs => tP (xs.map f)).P F v := by
  obtain ⟨a, vs, e, h1, h2⟩ := h
  obtain ⟨xs, c, q⟩ := all_any h2
  exact ⟨xs, c, a, vs, e, h1, q⟩
/-- [e for ..], each one of some -/
theorem ef_lcK {α : Type} {xs : List α} {f : α → MVP} {wi : TI} {j : Nat} {vs : List Nat} {n : Nat} (hi : EvI W wi env (xs.map f)) (hn : xs.length = n) (hz : n ≤ 1000000) (hj : j ∈ vs) (hs : ∀ x ∈ xs, EvP W te ((wipeE env vs).set j (.fz (f x))) P) : EvF W (tLc wi (gName j) tYes te vs) env (List.replicate n P) := by
  have h := ef_lcN (te := te) (g' := fun _ => P) hi (by omega) hj hs
  rw [List.map_const', hn] at h
  exact h
theorem ev_tupAny {α : Type} {C : α → Prop} {f : α → MVP} {n : Nat} (h : EvF W te env (List.replicate n (anyP C f))) : EvP W (tCB (rTupQ K) (tCons te tNil)) env (anyP (listC C n) fun xs => tP (xs.map f)) := ev_le (ev_tupL (ev_frz h)) tP_any
theorem at_tgtA {α : Type} {C : α → Prop} {f : α → MVP} {g : TG} (he : EvP W te env (anyP C f)) (k : ∀ x, C x → ∃ env' js, Tgt W g (f x) env env' js ∧ At W D.nx env') : At W (tAsg te g D) env := fun σ F H g0 eB sl =>
  he σ F H g0.eh (W.ok.go g0) sl _ fun v F1 H1 g1 ⟨x, c, q⟩ => by
    obtain ⟨env', js, h1, h2⟩ := k x c
    exact h1 σ F1 H1 v g1.eh (sl.go g1) q _ fun σ' sl' _ _ => h2 σ' F1 H1 (g0.trans g1) (eB.trans g1.fe) sl'
theorem q_tgtA {α : Type} {C : α → Prop} {f : α → MVP} {g : TG} (he : EvP W te env (anyP C f)) (k : ∀ x, C x → ∃ env' js, Tgt W g (f x) env env' js ∧ At W (u D) env') : At W (tSeq (tAsg te g) u D) env := at_tgtA (D := { D with nx := u D }) he k
theorem q_setA {α : Type} {C : α → Prop} {f : α → MVP} {i : Nat} (he : EvP W te env (anyP C f)) (k : ∀ x, C x → At W (u D) (env.set i (.fz (f x)))) : At W (tSeq (tAsg te (gName i)) u D) env := q_tgtA he fun x c => ⟨_, _, tg_name, k x c⟩
theorem at_setA {α : Type} {C : α → Prop} {f : α → MVP} {i : Nat} (he : EvP W te env (anyP C f)) (k : ∀ x, C x → At W D.nx (env.set i (.fz (f x)))) : At W (tAsg te (gName i) D) env := at_tgtA he fun x c => ⟨_, _, tg_name, k x c⟩
/-- xs.extend, of one of some -/
theorem at_extC {i : Nat} {C : List MVP → Prop} (hi : env[i]? = some (.ow (lO Ps))) (he : EvFC W te env C) (hl : ∀ Qs, C Qs → Ps.length + Qs.length ≤ 1000000) (k : ∀ Qs, C Qs → At W D.nx (env.set i (.ow (lO (Ps ++ Qs))))) : At W (tDrop (tBM K "list" rExtend (tVar i) (tCons te tNil)) D) env := fun σ F H g0 eB sl => by
  obtain ⟨p, vs, hp, h0, hf, hh, q⟩ := ow_get sl hi
  refine ⟨.ref p, hp, ty_list hh, ?_⟩
  refine he σ F H g0.eh (W.ok.go g0) sl _ fun b ws F1 H1 Qs c g1 n1 n2 hb q1 => ?_
  obtain ⟨p', vs', hp', h0', hf', hh', q'⟩ := ow_get (sl.go g1) hi
  rw [hp] at hp'
  cases hp'
  refine ⟨p, b, vs', ws, rfl, rfl, hh', hb, sz (by have := all_len q'; have := all_len q1; have := hl Qs c; omega), ?_⟩
  exact k Qs c σ F1 _ ((g0.trans g1).wr h0 hf') (eB.trans g1.fe) ((sl.go g1).write hi hp ⟨_, rfl, all_app q' q1⟩)
theorem t_true {C : Bool → Prop} (h : EvT W tt env C) : EvT W tt env fun _ => True := t_le h fun _ _ => True.intro
theorem key4 : ([Sum.inr "many", Sum.inr "levels", Sum.inr "weights", Sum.inr "ties"] : List Key).Nodup := by decide
/-! ### draws -/
theorem ev_draw {w : World} {i n : Nat} {E : XK} (hi : env[i]? = some (.sh HandG)) (h : EvP W te env (uP n)) (h1 : 1 ≤ n) (h2 : n < 1000000) : EvP W (tCall (SpX (pr_law_draw K w)) [] E (tCons (tVar i) (tCons te tNil))) env (anyP (fun r : Nat => r < n) uP) :=
  ev_call (ea_sh hi (ea_cons h ea_nil)) ⟨n, rfl, h1, h2, rfl⟩
theorem ev_mem {w : World} {i : Nat} {E : XK} (hi : env[i]? = some (.sh HandG)) (h : EvP W te env (lP Ps)) (h1 : Ps ≠ []) (h2 : Ps.length ≤ 1000) : EvP W (tCall (SpX (pr_law_any K w)) [] E (tCons (tVar i) (tCons te tNil))) env (memP Ps) :=
  ev_call (ea_sh hi (ea_cons h ea_nil)) ⟨Ps, rfl, h1, h2, rfl⟩
theorem memP_map {α : Type} {f : α → MVP} {xs : List α} (F : Hp) (v : V) (h : (memP (xs.map f)).P F v) : (anyP (fun x => x ∈ xs) f).P F v := by
  obtain ⟨P, hP, q⟩ := h
  obtain ⟨x, hx, e⟩ := List.mem_map.mp hP
  subst e
  exact ⟨x, hx, q⟩
theorem anyP_le {α : Type} {C C' : α → Prop} {f : α → MVP} (l : ∀ x, C x → C' x) (F : Hp) (v : V) (h : (anyP C f).P F v) : (anyP C' f).P F v := by
  obtain ⟨x, c, q⟩ := h
  exact ⟨x, l x c, q⟩
/-- law_any of a display whose members are of a kind -/
theorem ev_memA {α : Type} {f : α → MVP} {w : World} {i : Nat} {E : XK} {C : α → Prop} (xs : List α) (hi : env[i]? = some (.sh HandG)) (h : EvP W te env (lP (xs.map f))) (h1 : xs ≠ []) (h2 : xs.length ≤ 1000) (hC : ∀ x ∈ xs, C x) : EvP W (tCall (SpX (pr_law_any K w)) [] E (tCons (tVar i) (tCons te tNil))) env (anyP C f) :=
  ev_le (ev_mem hi h (by simpa using h1) (by rw [List.length_map]; exact h2)) fun F v q => anyP_le hC F v (memP_map F v q)
end
/-! ### sorted pairs -/
def sortP (ps : List Pr) : List Pr := ps.mergeSort fun p q => decide (cd p ≤ cd q)
theorem sortP_perm (ps : List Pr) : (sortP ps).Perm ps := List.mergeSort_perm ..
theorem sortP_le (ps : List Pr) : (sortP ps).Pairwise fun p q => cd p ≤ cd q := by
  have h := List.pairwise_mergeSort (le := fun p q : Pr => decide (cd p ≤ cd q)) (fun a b c h1 h2 => decide_eq_true (Int.le_trans (of_decide_eq_true h1) (of_decide_eq_true h2))) (fun a b => by
    simp only [Bool.or_eq_true, decide_eq_true_eq]
    exact Int.le_total _ _) ps
  exact h.imp fun {a b} z => of_decide_eq_true z
structure Good (n : Nat) (ps : List Pr) : Prop where
  nd : ps.Nodup
  bd : ∀ p ∈ ps, p.1 < p.2 ∧ p.2 < n
theorem Good.sorted {n : Nat} (hn : n ≤ 12) {ps : List Pr} (g : Good n ps) : PairsOk n (sortP ps) := by
  have hm : ∀ p ∈ sortP ps, p.1 < p.2 ∧ p.2 < n := fun p hp => g.bd p ((sortP_perm ps).mem_iff.mp hp)
  refine ⟨?_, hm⟩
  refine List.Pairwise.imp_of_mem (R := fun p q => cd p ≤ cd q ∧ p ≠ q) (fun {p q} hp hq z => ?_) ((sortP_le ps).and ((sortP_perm ps).nodup_iff.mpr g.nd))
  have h1 := hm p hp
  have h2 := hm q hq
  have h3 : cd p ≠ cd q := fun e => z.2 (cd_inj (by omega) (by omega) e)
  have h4 := z.1
  unfold cd at h3 h4
  unfold prLt
  omega
theorem Good.len {n : Nat} {ps : List Pr} (g : Good n ps) : ps.length ≤ n * n := by
  have nd : (ps.map fun p => p.1 * n + p.2).Nodup := List.pairwise_map.mpr (g.nd.imp_of_mem fun {p q} hp hq z e => z (by
    have h1 := g.bd p hp
    have h2 := g.bd q hq
    have e1 : (p.1 * n + p.2) % n = (q.1 * n + q.2) % n := by rw [e]
    rw [Nat.mul_add_mod_of_lt h1.2, Nat.mul_add_mod_of_lt h2.2] at e1
    have e2 : p.1 * n = q.1 * n := by omega
    exact Prod.ext (Nat.eq_of_mul_eq_mul_right (by omega) e2) e1))
  have := nodup_len _ (List.range (n * n)) nd fun x hx => by
    obtain ⟨p, hp, e⟩ := List.mem_map.mp hx
    have h1 := g.bd p hp
    refine List.mem_range.mpr ?_
    rw [← e]
    have : (p.1 + 1) * n ≤ n * n := Nat.mul_le_mul_right n (by omega)
    rw [Nat.succ_mul] at this
    omega
  rwa [List.length_map, List.length_range] at this
theorem tied_sortedG {n : Nat} {ts : List Tie} (h : PairsOk n (ts.map fun t => (t.a, t.b))) (i : Nat) : (tiedAt ts i).Pairwise (· < ·) ∧ ∀ j ∈ tiedAt ts i, j < n ∧ j ≠ i := by
  have hp : ∀ t ∈ ts, t.a < t.b ∧ t.b < n := fun t ht => h.2 (t.a, t.b) (List.mem_map.mpr ⟨t, ht, rfl⟩)
  refine ⟨?_, fun j hj => ?_⟩
  · unfold tiedAt
    refine List.pairwise_map.mpr ?_
    have h1 := List.pairwise_map.mp h.1
    refine (h1.filter _).imp_of_mem fun {t u} ht hu z => ?_
    have a1 := hp t (List.mem_filter.mp ht).1
    have a2 := hp u (List.mem_filter.mp hu).1
    have b1 : t.a = i ∨ t.b = i := by simpa using (List.mem_filter.mp ht).2
    have b2 : u.a = i ∨ u.b = i := by simpa using (List.mem_filter.mp hu).2
    unfold prLt at z
    simp only at z
    unfold otherOf
    split <;> split <;> omega
  · unfold tiedAt at hj
    obtain ⟨t, ht, e⟩ := List.mem_map.mp hj
    have h1 := hp t (List.mem_filter.mp ht).1
    have b1 : t.a = i ∨ t.b = i := by simpa using (List.mem_filter.mp ht).2
    subst e
    unfold otherOf
    split <;> omega
theorem few_of {n : Nat} (hn : n ≤ 5) {ts : List Tie} (h : PairsOk n (ts.map fun t => (t.a, t.b))) {i : Nat} (hi : i < n) : (tiesAt ts i).length ≤ 4 := by
  obtain ⟨h1, h2⟩ := tied_sortedG h i
  have nd : (i :: tiedAt ts i).Nodup := List.nodup_cons.mpr ⟨fun hm => (h2 i hm).2 rfl, h1.imp fun {a b} z => Nat.ne_of_lt z⟩
  have := nodup_len _ (List.range n) nd fun x hx => by
    rcases List.mem_cons.mp hx with e | e
    · rw [e]; exact List.mem_range.mpr hi
    · exact List.mem_range.mpr (h2 x e).1
  rw [List.length_cons, List.length_range] at this
  have e : (tiedAt ts i).length = (tiesAt ts i).length := List.length_map ..
  omega
/-! ### models by check -/
instance (n : Nat) (r : List Int) : Decidable (RowOk n r) := by
  unfold RowOk
  infer_instance
instance (n k : Nat) (t : Tab) : Decidable (TabOk n k t) := by
  unfold TabOk
  infer_instance
instance (n : Nat) (ps : List Pr) : Decidable (PairsOk n ps) := by
  unfold PairsOk
  infer_instance
instance (m : Mdl) : Decidable (WF m) := decidable_of_iff (((1 ≤ m.many ∧ m.many ≤ 12) ∧ (1 ≤ m.levels ∧ m.levels ≤ 4)) ∧ (TabOk m.many m.levels m.weights ∧ (∀ t ∈ m.ties, TabOk m.levels m.levels t.t)) ∧ PairsOk m.many (m.ties.map fun t => (t.a, t.b)) ∧ ∀ i, i < m.many → (tiesAt m.ties i).length ≤ 4)
  ⟨fun ⟨⟨⟨a, b⟩, c, d⟩, ⟨e, f⟩, g, h⟩ => ⟨a, b, c, d, e, f, g, h⟩, fun h => ⟨⟨⟨h.many1, h.many12⟩, h.lev1, h.lev4⟩, ⟨h.wt, h.tt⟩, h.prs, h.few⟩⟩
def deg (ps : List Pr) (i : Nat) : Nat := (ps.filter fun p => decide (p.1 = i) || decide (p.2 = i)).length
theorem deg_ties (ts : List Tie) (i : Nat) : (tiesAt ts i).length = deg (ts.map fun t => (t.a, t.b)) i := by
  unfold tiesAt deg
  rw [List.filter_map, List.length_map]
  rfl
theorem deg_mk (ps : List Pr) (t : Tab) (i : Nat) : (tiesAt (mkTies ps t) i).length = deg ps i := by rw [deg_ties, mk_prs]
theorem deg_perm {ps qs : List Pr} (h : ps.Perm qs) (i : Nat) : deg ps i = deg qs i := (h.filter _).length_eq
theorem deg_snoc (ps : List Pr) (p : Pr) (i : Nat) : deg (ps ++ [p]) i = deg ps i + if p.1 = i ∨ p.2 = i then 1 else 0 := by
  unfold deg
  rw [List.filter_append, List.length_append]
  congr 1
  by_cases h : p.1 = i ∨ p.2 = i
  · rw [if_pos h, List.filter_cons_of_pos (by rcases h with e | e <;> simp [e])]
    rfl
  · rw [if_neg h, List.filter_cons_of_neg (by
      rw [not_or] at h
      simp [h.1, h.2])]
    rfl
def mkTies2 (ps : List Pr) (ts : List Tab) : List Tie := (ps.zip ts).map fun z => ⟨z.1.1, z.1.2, z.2⟩
theorem mk2_prs {ps : List Pr} {ts : List Tab} (h : ts.length = ps.length) : ((mkTies2 ps ts).map fun t => (t.a, t.b)) = ps := by
  unfold mkTies2
  rw [List.map_map]
  exact List.map_fst_zip (by omega)
theorem wf_mk {n q : Nat} {ps : List Pr} {ts : List Tab} {wt : Tab} (n1 : 1 ≤ n) (n12 : n ≤ 12) (q1 : 1 ≤ q) (q4 : q ≤ 4) (hw : TabOk n q wt) (ht : listC (TabOk q q) ps.length ts) (hp : PairsOk n ps) (hf : ∀ i, i < n → deg ps i ≤ 4) : WF ⟨n, q, wt, mkTies2 ps ts⟩ where
  many1 := n1
  many12 := n12
  lev1 := q1
  lev4 := q4
  wt := hw
  tt := fun t h => by
    obtain ⟨z, hz, e⟩ := List.mem_map.mp h
    subst e
    exact ht.2 _ (List.of_mem_zip hz).2
  prs := by
    show PairsOk n ((mkTies2 ps ts).map fun t => (t.a, t.b))
    rw [mk2_prs ht.1]
    exact hp
  few := fun i hi => by
    show (tiesAt (mkTies2 ps ts) i).length ≤ 4
    rw [deg_ties, mk2_prs ht.1]
    exact hf i hi
section
variable {K : PySem.W.Frag} {W : Wd} {S : Shr} {env env' : List Sv} {P P1 P2 P3 : MVP} {ta tb te ti tj : TE} {tr : TA} {tt tu : TT} {Ps Qs : List MVP} {G : MOP} {D : Ends} {t u : TS} {wi : TI}
/-! ### new lists by a tuple -/
theorem slots_par2 {F H F1 H1 : Hp} {σ : L2.St} {vs : List V} {i j : Nat} {s1 s2 : Sv} (sl : Slots W F H σ env) (sl1 : Slots W F1 H1 σ env) (hh0 : ∀ p, H p = none → W.H0 p = none) (nw : News H F1 H1 vs [s1, s2]) : ∃ v w, vs = [v, w] ∧ Slots W F1 H1 ((σ.set i (some v)).set j (some w)) ((env.set i s1).set j s2) := by
  obtain ⟨ok, ap⟩ := nw
  cases ok with
  | cons q1 r1 =>
    cases r1 with
    | cons q2 r2 =>
      cases r2
      rename_i v w
      have sa := sl1.setN (i := i) hh0 q1 fun z p e j' t _ ej ht => new_sep sl q1 z p e j' t ej ht
      refine ⟨v, w, rfl, sa.setN (i := j) hh0 q2 fun z p e j' t hj' ej ht hσ => ?_⟩
      by_cases hji : i = j'
      · subst hji
        by_cases hl : i < env.length
        · rw [List.getElem?_set_self hl] at ej
          cases ej
          rw [List.getElem?_set_self (by rw [sl.len]; exact hl)] at hσ
          have := ap 0 1 s1 s2 p rfl rfl ht z (show some _ = some (V.ref p) from Option.some.inj hσ) (show some _ = some (V.ref p) by rw [e])
          cases this
        · rw [List.getElem?_eq_none (by rw [List.length_set]; omega)] at ej
          cases ej
      · rw [List.getElem?_set_ne hji] at ej hσ
        exact new_sep sl q2 z p e j' t ej ht hσ
theorem slots_par3 {F H F1 H1 : Hp} {σ : L2.St} {vs : List V} {i j l : Nat} {s1 s2 s3 : Sv} (sl : Slots W F H σ env) (sl1 : Slots W F1 H1 σ env) (hh0 : ∀ p, H p = none → W.H0 p = none) (nw : News H F1 H1 vs [s1, s2, s3]) : ∃ v w x, vs = [v, w, x] ∧ Slots W F1 H1 (((σ.set i (some v)).set j (some w)).set l (some x)) (((env.set i s1).set j s2).set l s3) := by
  obtain ⟨ok, ap⟩ := nw
  cases ok with
  | cons q1 r1 =>
    cases r1 with
    | cons q2 r2 =>
      cases r2 with
      | cons q3 r3 =>
        cases r3
        rename_i v w x
        have sa := sl1.setN (i := i) hh0 q1 fun z p e j' t _ ej ht => new_sep sl q1 z p e j' t ej ht
        have sb := sa.setN (i := j) hh0 q2 fun z p e j' t hj' ej ht hσ => by
          by_cases hji : i = j'
          · subst hji
            by_cases hl : i < env.length
            · rw [List.getElem?_set_self hl] at ej
              cases ej
              rw [List.getElem?_set_self (by rw [sl.len]; exact hl)] at hσ
              have := ap 0 1 s1 s2 p rfl rfl ht z (show some _ = some (V.ref p) from Option.some.inj hσ) (show some _ = some (V.ref p) by rw [e])
              cases this
            · rw [List.getElem?_eq_none (by rw [List.length_set]; omega)] at ej
              cases ej
          · rw [List.getElem?_set_ne hji] at ej hσ
            exact new_sep sl q2 z p e j' t ej ht hσ
        refine ⟨v, w, x, rfl, sb.setN (i := l) hh0 q3 fun z p e j' t hj' ej ht hσ => ?_⟩
        by_cases hjj : j = j'
        · subst hjj
          by_cases hl : j < env.length
          · rw [List.getElem?_set_self (by rw [List.length_set]; exact hl)] at ej
            cases ej
            rw [List.getElem?_set_self (by rw [List.length_set, sl.len]; exact hl)] at hσ
            have := ap 1 2 s2 s3 p rfl rfl ht z (show some _ = some (V.ref p) from Option.some.inj hσ) (show some _ = some (V.ref p) by rw [e])
            cases this
          · rw [List.getElem?_eq_none (by rw [List.length_set, List.length_set]; omega)] at ej
            cases ej
        · rw [List.getElem?_set_ne hjj] at ej hσ
          by_cases hji : i = j'
          · subst hji
            by_cases hl : i < env.length
            · rw [List.getElem?_set_self hl] at ej
              cases ej
              rw [List.getElem?_set_self (by rw [sl.len]; exact hl)] at hσ
              have := ap 0 2 s1 s3 p rfl rfl ht z (show some _ = some (V.ref p) from Option.some.inj hσ) (show some _ = some (V.ref p) by rw [e])
              cases this
            · rw [List.getElem?_eq_none (by rw [List.length_set]; omega)] at ej
              cases ej
          · rw [List.getElem?_set_ne hji] at ej hσ
            exact new_sep sl q3 z p e j' t ej ht hσ

theorem News.upd {H F1 H1 : Hp} {vs : List V} {ss : List Sv} {p : Addr} {o : HO} (nw : News H F1 H1 vs ss) (hp : H1 p = none) : News H F1 (upd H1 p o) vs ss := ⟨Paired.mapP nw.ok fun v s z => by
    cases s with
    | ow G =>
      obtain ⟨q, o, e, a, b, c, d⟩ := z
      exact ⟨q, o, e, a, b, by rw [upd_ne (ne_of_none c hp)]; exact c, d⟩
    | fz P => exact z
    | no => exact z
    | sh G => exact z, nw.ap⟩
theorem q_tup2F {i j : Nat} {s1 s2 : Sv} (h : EvM W tr env [s1, s2]) (k : At W (u D) ((env.set i s1).set j s2)) : At W (tSeq (tAsg (tTup tr) (gTup K 2 (gCons (gName i) (gCons (gName j) gNil)))) u D) env := fun σ F H g0 eB sl => h σ F H g0.eh (W.ok.go g0) sl _ fun vs F1 H1 g1 nw => by
  have hl : vs.length = 2 := Paired.length nw.ok
  refine ⟨sz (by omega), fun p hp => ?_⟩
  have gp : Go W.S F1 H1 F1 (L2.upd H1 p (.tup vs)) := Go.own g1.eh hp
  obtain ⟨v, w, e, sl'⟩ := slots_par2 (i := i) (j := j) sl ((sl.go g1).go gp) (fun q hq => g0.nn hq) (nw.upd (o := .tup vs) hp)
  subst e
  exact ⟨p, [v, w], rfl, .of upd_same, rfl, v, [w], rfl, w, [], rfl, rfl, k _ F1 _ ((g0.trans g1).trans gp) (eB.trans g1.fe) sl'⟩
theorem q_tup3F {i j l : Nat} {s1 s2 s3 : Sv} (h : EvM W tr env [s1, s2, s3]) (k : At W (u D) (((env.set i s1).set j s2).set l s3)) : At W (tSeq (tAsg (tTup tr) (gTup K 3 (gCons (gName i) (gCons (gName j) (gCons (gName l) gNil))))) u D) env := fun σ F H g0 eB sl => h σ F H g0.eh (W.ok.go g0) sl _ fun vs F1 H1 g1 nw => by
  have hl : vs.length = 3 := Paired.length nw.ok
  refine ⟨sz (by omega), fun p hp => ?_⟩
  have gp : Go W.S F1 H1 F1 (L2.upd H1 p (.tup vs)) := Go.own g1.eh hp
  obtain ⟨v, w, x, e, sl'⟩ := slots_par3 (i := i) (j := j) (l := l) sl ((sl.go g1).go gp) (fun q hq => g0.nn hq) (nw.upd (o := .tup vs) hp)
  subst e
  exact ⟨p, [v, w, x], rfl, .of upd_same, rfl, v, [w, x], rfl, w, [x], rfl, x, [], rfl, rfl, k _ F1 _ ((g0.trans g1).trans gp) (eB.trans g1.fe) sl'⟩
/-- for i in range(n), n one of some; what stands stays -/
theorem at_forR {C : Nat → Prop} {g : TG} {tb : TS} (he : EvP W te env (anyP C uP)) (hC : ∀ n, C n → n ≤ 1000) (T : List Sv → Prop) (h0 : T env)
    (hs : ∀ B (i : Nat) env', T env' → ∃ env2 js, Tgt (W.bd B) g (uP i) env' env2 js ∧ At (W.bd B) (tb { D with nx := Sat (W.bd B) T, ct := Sat (W.bd B) T, bk := D.nx }) env2)
    (hd : ∀ env', T env' → At W D.nx env') : At W (tFor (iRng1 (tCons te tNil)) g tb D) env := fun σ F H g0 eB sl =>
  he σ F H g0.eh (W.ok.go g0) sl _ fun v F1 H1 g1 ⟨n, c, q⟩ => by
    have hn := hC n c
    have hi : EvI W (fun _ H R => R (Itr 0 n) H) env (rngP 0 n) := fun σ F H e so sl R k => k _ F H (Go.refl e) iter_rng
    have key := at_for (W := W) (D := D) (wi := fun _ H R => R (Itr 0 n) H) (g := g) (tb := tb) (T := fun _ => T) hi h0 (fun B i P env' hP hT => by
      rw [rngP_map, List.getElem?_map] at hP
      cases q2 : (List.range n)[i]? with
      | none =>
        rw [q2] at hP
        cases hP
      | some i2 =>
        rw [q2] at hP
        have e3 : uP i2 = P := Option.some.inj hP
        subst e3
        exact hs B i2 env' hT) hd
    refine ⟨(n : Int), by rw [show v = .int (n : Int) from q], by omega, by omega, ?_⟩
    rw [Int.toNat_natCast]
    exact key σ F1 H1 (g0.trans g1) (eB.trans g1.fe) (sl.go g1)
end
section
variable {K : PySem.W.Frag}
theorem gen_tab {q : Nat} {g : Nat → Nat → Int} (h : ∀ i j, i < q → j < q → 0 ≤ g i j ∧ g i j ≤ 1000) : TabOk q q ((List.range q).map fun i => (List.range q).map (g i)) := by
  refine ⟨by rw [List.length_map, List.length_range], fun r hr => ?_⟩
  obtain ⟨i, hi, e⟩ := List.mem_map.mp hr
  subst e
  refine ⟨by rw [List.length_map, List.length_range], fun x hx => ?_⟩
  obtain ⟨j, hj, e⟩ := List.mem_map.mp hx
  subst e
  exact h i j (List.mem_range.mp hi) (List.mem_range.mp hj)
theorem ev_genTab {W : Wd} {env : List Sv} {te : TE} {q a b : Nat} {g : Nat → Nat → Int} {ta tb : TE} (hq : q ≤ 4) (h1 : EvP W ta env (uP q)) (h2 : ∀ i, EvP W tb ((env.set a .no).set a (.fz (uP i))) (uP q)) (h : ∀ i j, i < q → j < q → EvP W te ((((env.set a .no).set a (.fz (uP i))).set b .no).set b (.fz (uP j))) (iP (g i j))) :
    EvP W (tCB (rTupQ K) (tCons (tLc (iRng1 (tCons ta tNil)) (gName a) tYes (tCB (rTupQ K) (tCons (tLc (iRng1 (tCons tb tNil)) (gName b) tYes te [b]) tNil)) [a]) tNil)) env (tabP ((List.range q).map fun i => (List.range q).map (g i))) := by
  refine ev_tupL (ev_frz (Ps := ((List.range q).map fun i => (List.range q).map (g i)).map rowP) ?_)
  rw [List.map_map]
  refine ef_lcN (xs := List.range q) (f := uP) (ei_range h1 (by omega)) (by rw [List.length_range]; omega) (List.mem_singleton.mpr rfl) fun i hi => ev_tupL (ev_frz (Ps := ((List.range q).map (g i)).map iP) ?_)
  rw [List.map_map]
  exact ef_lcN (xs := List.range q) (f := uP) (ei_range (h2 i) (by omega)) (by rw [List.length_range]; omega) (List.mem_singleton.mpr rfl) fun j hj => h i j (List.mem_range.mp hi) (List.mem_range.mp hj)
/-- a table of drawn numbers -/
theorem ev_drawTab {W : Wd} {env : List Sv} {te : TE} {n q a b : Nat} {ta tb : TE} (hn : n ≤ 1000) (hq : q ≤ 1000) (h1 : EvP W ta env (uP n)) (h2 : ∀ i, EvP W tb ((env.set a .no).set a (.fz (uP i))) (uP q)) (h : ∀ i j, EvP W te ((((env.set a .no).set a (.fz (uP i))).set b .no).set b (.fz (uP j))) (anyP (fun x : Int => 0 ≤ x ∧ x ≤ 1000) iP)) :
    EvP W (tCB (rTupQ K) (tCons (tLc (iRng1 (tCons ta tNil)) (gName a) tYes (tCB (rTupQ K) (tCons (tLc (iRng1 (tCons tb tNil)) (gName b) tYes te [b]) tNil)) [a]) tNil)) env (anyP (TabOk n q) tabP) := by
  refine ev_le (ev_tupAny (C := RowOk q) (f := rowP) (ef_lcK (xs := List.range n) (f := uP) (ei_range h1 (by omega)) List.length_range (by omega) (List.mem_singleton.mpr rfl) fun i hi => ?_)) fun F v z => anyP_le (C' := TabOk n q) (fun t c => c) F v z
  exact ev_le (ev_tupAny (ef_lcK (xs := List.range q) (f := uP) (ei_range (h2 i) (by omega)) List.length_range (by omega) (List.mem_singleton.mpr rfl) fun j hj => h i j)) fun F v z => anyP_le (fun r c => c) F v z
theorem good_line {n : Nat} : Good n ((List.range (n - 1)).map fun k => (k, k + 1)) where
  nd := List.pairwise_map.mpr (List.nodup_range.imp fun {a b} z e => z (Prod.mk.inj e).1)
  bd := fun p hp => by
    obtain ⟨k, hk, e⟩ := List.mem_map.mp hp
    have := List.mem_range.mp hk
    subst e
    exact ⟨Nat.lt_succ_self _, by show k + 1 < n; omega⟩
theorem good_ring {n : Nat} (h : 2 < n) : Good n (((List.range (n - 1)).map fun k => (k, k + 1)) ++ [(0, n - 1)]) where
  nd := List.nodup_append.mpr ⟨good_line.nd, by simp, fun p hp q hq e => by
    obtain ⟨k, hk, e1⟩ := List.mem_map.mp hp
    rw [List.mem_singleton.mp hq] at e
    rw [← e1] at e
    have := Prod.mk.inj e
    omega⟩
  bd := fun p hp => by
    rcases List.mem_append.mp hp with h1 | h1
    · exact good_line.bd p h1
    · rw [List.mem_singleton.mp h1]
      exact ⟨by show 0 < n - 1; omega, by show n - 1 < n; omega⟩
theorem good_star {n : Nat} : Good n ((List.range (n - 1)).map fun k => (0, 1 + k)) where
  nd := List.pairwise_map.mpr (List.nodup_range.imp fun {a b} z e => z (by have := (Prod.mk.inj e).2; omega))
  bd := fun p hp => by
    obtain ⟨k, hk, e⟩ := List.mem_map.mp hp
    have := List.mem_range.mp hk
    subst e
    exact ⟨by show 0 < 1 + k; omega, by show 1 + k < n; omega⟩
theorem ef_line {W : Wd} {env : List Sv} {n i j : Nat} (hn : n ≤ 1000) (hi : env[i]? = some (.fz (uP n))) (hj : j < env.length) : EvF W (tLc (iRng1 (tCons (tOp rSubI (tVar i) (tC (.int 1))) tNil)) (gName j) tYes (tTup (tCons (tVar j) (tCons (tOp rAddI (tVar j) (tC (.int 1))) tNil))) [j]) env (((List.range (n - 1)).map fun k => (k, k + 1)).map pairP) := by
  rw [List.map_map]
  have hv : ∀ k : Nat, ((wipeE env [j]).set j (.fz (uP k)))[j]? = some (.fz (uP k)) := fun k => List.getElem?_set_self (by show j < (env.set j .no).length; rw [List.length_set]; exact hj)
  by_cases h0 : n = 0
  · subst h0
    have hr : EvI W (iRng1 (tCons (tOp rSubI (tVar i) (tC (.int 1))) tNil)) env (([] : List Nat).map uP) := ei_rng1 (n := ((0 : Nat) : Int) - 1) (as_cons (ev_op (ev_var hi) ev_c o_sub) as_nil) (by decide)
    exact ef_lcN (xs := ([] : List Nat)) hr (by decide) (List.mem_singleton.mpr rfl) fun x hx => nomatch hx
  · exact ef_lcN (xs := List.range (n - 1)) (f := uP) (ei_rangeI (ev_op (ev_var hi) ev_c o_sub) (by omega) (by omega)) (by rw [List.length_range]; omega) (List.mem_singleton.mpr rfl) fun k hk => ev_tup2 (ev_var (hv k)) (ev_i (ev_op (ev_var (hv k)) ev_c o_add) rfl)
theorem getD_set_eq {xs : List Nat} {i v : Nat} (h : i < xs.length) : (xs.set i v).getD i 0 = v := by
  rw [List.getD_eq_getElem?_getD, List.getElem?_set_self h]
  rfl
theorem getD_set_ne {xs : List Nat} {i j v : Nat} (h : i ≠ j) : (xs.set i v).getD j 0 = xs.getD j 0 := by
  rw [List.getD_eq_getElem?_getD, List.getElem?_set_ne h, ← List.getD_eq_getElem?_getD]
theorem getD_snoc_lt {α : Type} {xs : List α} {y d : α} {i : Nat} (h : i < xs.length) : (xs ++ [y]).getD i d = xs.getD i d := getD_app h
theorem getD_snoc_eq {α : Type} {xs : List α} {y d : α} : (xs ++ [y]).getD xs.length d = y := by
  rw [List.getD_eq_getElem?_getD, List.getElem?_append_right (Nat.le_refl _), Nat.sub_self]
  rfl
theorem ei_rng1n {W : Wd} {env : List Sv} {te : TE} {n : Nat} (h : EvP W te env (uP n)) (hn : n ≤ 1000) : EvI W (iRng2 (tCons (tC (.int 1)) (tCons te tNil))) env ((List.range (n - 1)).map fun k => uP (1 + k)) := by
  refine ei_is (ei_rng2 (lo := 1) (n := (n : Int)) (as_cons ev_c (as_cons h as_nil)) (by omega) (by omega)) ?_
  unfold rngP
  rw [show ((n : Int) - 1).toNat = n - 1 by omega]
  exact List.map_congr_left fun k _ => by rw [show (1 : Int) + (k : Int) = ((1 + k : Nat) : Int) by omega]
/-- free[-1], any(free) -/
theorem ev_pick {W : Wd} {env : List Sv} {w : World} {a j : Nat} {free : List Nat} {E : XK} (hs : env[0]? = some (.sh HandG)) (hf : env[a]? = some (.fz (lP (usL free)))) (hne : free ≠ []) (hl : free.length ≤ 1000) : EvP W (tOp (rIxL K) (tVar a) (tUn rNeg (tC (.int 1)))) env (anyP (fun x => x ∈ free) uP) ∧ EvP W (tCall (SpX (pr_law_any K w)) [] E (tCons (tVar 0) (tCons (tVar a) tNil))) env (anyP (fun x => x ∈ free) uP) :=
  ⟨ev_any (ev_ixL (ev_var hf) (ev_neg ev_c) (last_map (d := 0) hne)) (lastD_mem hne), ev_memA (f := uP) free hs (ev_var hf) hne hl fun x h => h⟩
theorem memP_one {Ps : List MVP} {P : MVP} (h : ∀ Q ∈ Ps, Q = P) (F : Hp) (v : V) (q : (memP Ps).P F v) : P.P F v := by
  obtain ⟨Q, hQ, q⟩ := q
  rw [← h Q hQ]
  exact q
end
end Ly
namespace Ly
open PySem PySem.Spec PyProof.Rows L2
section
variable {P : Program} {w : World} {K : PySem.W.Frag} {mg : Str → Option Value} {base : Heap}
def N_is_integer : List PySem.Str := ["thing"]
theorem sc_is_integer : FnScope N_is_integer ["thing"] (defScope s_is_integer) := ⟨rfl, rfl, rfl, by decide +kernel, rfl, by decide +kernel, by decide +kernel⟩
def t_is_integer (K : PySem.W.Frag) (P : Program) (w : World) : TS := (tRet (tAndV (tCB (rIsi K) (tCons (tVar 0) (tCons (tC (.ty "int")) tNil))) (tNotV (tCB (rIsi K) (tCons (tVar 0) (tCons (tC (.ty "bool")) tNil))))))
theorem ps_is_integer (T : Tx K mg)  {cdv : Value} {A : Around} {outer : List Env} {s : Shared} {H : Hp} {E : XK} (hr : Room 0 (A.deeper (envOfC "is_integer" (defScope s_is_integer) s.heap.objs.size (He.ga K "is_integer") cdv))) : PSs (cxOf CX0 P w K mg base N_is_integer "is_integer" (defScope s_is_integer) (He.ga K "is_integer") cdv A outer s H E).nox (defBody s_is_integer) (t_is_integer K P w) :=
  (pss_one (ps_ret (pe_and (pe_callB call_isi rfl T.b_isinstance (by decide +kernel) (pa_cons (pv 0) (pa_cons (pe_bltn rfl T.b_int (by decide +kernel) rfl) pa_nil))) (pe_one (pe_not (pe_callB call_isi rfl T.b_isinstance (by decide +kernel) (pa_cons (pv 0) (pa_cons (pe_bltn rfl T.b_bool (by decide +kernel) rfl) pa_nil))))))))
def N_is_within : List PySem.Str := ["thing", "least", "most"]
theorem sc_is_within : FnScope N_is_within ["thing", "least", "most"] (defScope s_is_within) := ⟨rfl, rfl, rfl, by decide +kernel, rfl, by decide +kernel, by decide +kernel⟩
def t_is_within (K : PySem.W.Frag) (P : Program) (w : World) : TS := (tRet (tAndV (tCall (SpX (pr_is_integer K w)) [] E0 (tCons (tVar 0) tNil)) (tChain rLeI rLeI (tVar 1) (tVar 0) (tVar 2))))
theorem ps_is_within (T : Tx K mg) (O_is_integer : OkF P w K mg base "is_integer" (He.ga K "is_integer") ["thing"] 1 (pr_is_integer K w)) {cdv : Value} {A : Around} {outer : List Env} {s : Shared} {H : Hp} {E : XK} (hr : Room 1 (A.deeper (envOfC "is_within" (defScope s_is_within) s.heap.objs.size (He.ga K "is_within") cdv))) : PSs (cxOf CX0 P w K mg base N_is_within "is_within" (defScope s_is_within) (He.ga K "is_within") cdv A outer s H E).nox (defBody s_is_within) (t_is_within K P w) :=
  (pss_one (ps_ret (pe_and (pe_cal O_is_integer (hr.mono (by decide)) rfl (pa_cons (pv 0) pa_nil)) (pe_one (pe_chain op_le op_le (pv 1) (pv 0) (pv 2))))))
def N_is_rising : List PySem.Str := ["things", "at"]
theorem sc_is_rising : FnScope N_is_rising ["things"] (defScope s_is_rising) := ⟨rfl, rfl, rfl, by decide +kernel, rfl, by decide +kernel, by decide +kernel⟩
def t_is_rising (K : PySem.W.Frag) (P : Program) (w : World) : TS := (tRet (tCB (rAll K) (tCons (tLc (iRng1 (tCons (tOp rSubI (tCB (rLenQ K) (tCons (tVar 0) tNil)) (tC (.int 1))) tNil)) (gName 1) tYes (tOp (rLtT K) (tOp (rIxT K) (tVar 0) (tVar 1)) (tOp (rIxT K) (tVar 0) (tOp rAddI (tVar 1) (tC (.int 1))))) [1]) tNil)))
theorem ps_is_rising (T : Tx K mg)  {cdv : Value} {A : Around} {outer : List Env} {s : Shared} {H : Hp} {E : XK} (hr : Room 0 (A.deeper (envOfC "is_rising" (defScope s_is_rising) s.heap.objs.size (He.ga K "is_rising") cdv))) : PSs (cxOf CX0 P w K mg base N_is_rising "is_rising" (defScope s_is_rising) (He.ga K "is_rising") cdv A outer s H E).nox (defBody s_is_rising) (t_is_rising K P w) :=
  (pss_one (ps_ret (pe_callB (cr_all rfl) rfl T.b_all (by decide +kernel) (pa_cons (pe_lc (own := [("at", 1)]) (g := (gName 1)) (tt := tYes) rfl sc_is_rising.nd (pi_range1 rfl T.b_range (pa_cons (pe_op op_sub (pe_callB c_len rfl T.b_len (by decide +kernel) (pa_cons (pv 0) pa_nil)) pe_int) pa_nil)) (blkOk_by (own := [("at", 1)]) (N := N_is_rising) (sc := defScope s_is_rising) (by decide +kernel)) (fun _ _ _ _ _ => (pg_name (i := 1) sc_is_rising.nd rfl (by first | exact Or.inl rfl | exact Or.inr rfl))) (fun _ _ _ _ _ => pts_nil) (fun _ _ _ _ _ => (pe_cmpR (op_ltT hr.units0) (pe_ix ix_tup (pv 0) (pv 1) (fun _ _ => rfl)) (pe_ix ix_tup (pv 0) (pe_op op_add (pv 1) pe_int) (fun _ _ => rfl)) (nomark _)))) pa_nil))))
def N_are_weights : List PySem.Str := ["thing", "many", "one"]
theorem sc_are_weights : FnScope N_are_weights ["thing", "many"] (defScope s_are_weights) := ⟨rfl, rfl, rfl, by decide +kernel, rfl, by decide +kernel, by decide +kernel⟩
def t_are_weights (K : PySem.W.Frag) (P : Program) (w : World) : TS := (tRet (tAndV (tCB (rIsi K) (tCons (tVar 0) (tCons (tC (.ty "tuple")) tNil))) (tAndV (tOp rEq (tCB (rLenQ K) (tCons (tVar 0) tNil)) (tVar 1)) (tCB (rAll K) (tCons (tLc (iTup K (tVar 0)) (gName 2) tYes (tCall (SpX (pr_is_within K w)) [] E0 (tCons (tVar 2) (tCons (tC (.int 0)) (tCons (tC (.int 1000)) tNil)))) [2]) tNil)))))
theorem ps_are_weights (T : Tx K mg) (O_is_within : OkF P w K mg base "is_within" (He.ga K "is_within") ["thing", "least", "most"] 2 (pr_is_within K w)) {cdv : Value} {A : Around} {outer : List Env} {s : Shared} {H : Hp} {E : XK} (hr : Room 2 (A.deeper (envOfC "are_weights" (defScope s_are_weights) s.heap.objs.size (He.ga K "are_weights") cdv))) : PSs (cxOf CX0 P w K mg base N_are_weights "are_weights" (defScope s_are_weights) (He.ga K "are_weights") cdv A outer s H E).nox (defBody s_are_weights) (t_are_weights K P w) :=
  (pss_one (ps_ret (pe_and (pe_callB call_isi rfl T.b_isinstance (by decide +kernel) (pa_cons (pv 0) (pa_cons (pe_bltn rfl T.b_tuple (by decide +kernel) rfl) pa_nil))) (pe_and (pe_cmpR op_eq (pe_callB c_len rfl T.b_len (by decide +kernel) (pa_cons (pv 0) pa_nil)) (pv 1) (nomark _)) (pe_one (pe_callB (cr_all rfl) rfl T.b_all (by decide +kernel) (pa_cons (pe_lc (own := [("one", 2)]) (g := (gName 2)) (tt := tYes) rfl sc_are_weights.nd (pi_tup (pv 0)) (blkOk_by (own := [("one", 2)]) (N := N_are_weights) (sc := defScope s_are_weights) (by decide +kernel)) (fun _ _ _ _ _ => (pg_name (i := 2) sc_are_weights.nd rfl (by first | exact Or.inl rfl | exact Or.inr rfl))) (fun _ _ _ _ _ => pts_nil) (fun _ _ _ _ _ => (pe_cal O_is_within (hr.mono (by decide)) rfl (pa_cons (pv 2) (pa_cons pe_int (pa_cons (pe_glob rfl (T.k_MOST_WEIGHT).choose_spec ⟨_, rfl⟩) pa_nil)))))) pa_nil)))))))
def N_are_all_weights : List PySem.Str := ["thing", "many", "values", "row"]
theorem sc_are_all_weights : FnScope N_are_all_weights ["thing", "many", "values"] (defScope s_are_all_weights) := ⟨rfl, rfl, rfl, by decide +kernel, rfl, by decide +kernel, by decide +kernel⟩
def t_are_all_weights (K : PySem.W.Frag) (P : Program) (w : World) : TS := (tRet (tAndV (tCB (rIsi K) (tCons (tVar 0) (tCons (tC (.ty "tuple")) tNil))) (tAndV (tOp rEq (tCB (rLenQ K) (tCons (tVar 0) tNil)) (tVar 1)) (tCB (rAll K) (tCons (tLc (iTup K (tVar 0)) (gName 3) tYes (tCall (SpX (pr_are_weights K w)) [] E0 (tCons (tVar 3) (tCons (tVar 2) tNil))) [3]) tNil)))))
theorem ps_are_all_weights (T : Tx K mg) (O_are_weights : OkF P w K mg base "are_weights" (He.ga K "are_weights") ["thing", "many"] 3 (pr_are_weights K w)) {cdv : Value} {A : Around} {outer : List Env} {s : Shared} {H : Hp} {E : XK} (hr : Room 3 (A.deeper (envOfC "are_all_weights" (defScope s_are_all_weights) s.heap.objs.size (He.ga K "are_all_weights") cdv))) : PSs (cxOf CX0 P w K mg base N_are_all_weights "are_all_weights" (defScope s_are_all_weights) (He.ga K "are_all_weights") cdv A outer s H E).nox (defBody s_are_all_weights) (t_are_all_weights K P w) :=
  (pss_one (ps_ret (pe_and (pe_callB call_isi rfl T.b_isinstance (by decide +kernel) (pa_cons (pv 0) (pa_cons (pe_bltn rfl T.b_tuple (by decide +kernel) rfl) pa_nil))) (pe_and (pe_cmpR op_eq (pe_callB c_len rfl T.b_len (by decide +kernel) (pa_cons (pv 0) pa_nil)) (pv 1) (nomark _)) (pe_one (pe_callB (cr_all rfl) rfl T.b_all (by decide +kernel) (pa_cons (pe_lc (own := [("row", 3)]) (g := (gName 3)) (tt := tYes) rfl sc_are_all_weights.nd (pi_tup (pv 0)) (blkOk_by (own := [("row", 3)]) (N := N_are_all_weights) (sc := defScope s_are_all_weights) (by decide +kernel)) (fun _ _ _ _ _ => (pg_name (i := 3) sc_are_all_weights.nd rfl (by first | exact Or.inl rfl | exact Or.inr rfl))) (fun _ _ _ _ _ => pts_nil) (fun _ _ _ _ _ => (pe_cal O_are_weights (hr.mono (by decide)) rfl (pa_cons (pv 3) (pa_cons (pv 2) pa_nil))))) pa_nil)))))))
def N_is_pair_of_places : List PySem.Str := ["thing", "many", "place"]
theorem sc_is_pair_of_places : FnScope N_is_pair_of_places ["thing", "many"] (defScope s_is_pair_of_places) := ⟨rfl, rfl, rfl, by decide +kernel, rfl, by decide +kernel, by decide +kernel⟩
def t_is_pair_of_places (K : PySem.W.Frag) (P : Program) (w : World) : TS := (tSeq (tIfS (tOr (tNot (tB (tCB (rIsi K) (tCons (tVar 0) (tCons (tC (.ty "tuple")) tNil))))) (tTest (tOp rNe (tCB (rLenQ K) (tCons (tVar 0) tNil)) (tC (.int 2))))) (tRet (tC (.bl false))) tNext) (tRet (tAndV (tCB (rAll K) (tCons (tLc (iTup K (tVar 0)) (gName 2) tYes (tCall (SpX (pr_is_within K w)) [] E0 (tCons (tVar 2) (tCons (tC (.int 0)) (tCons (tOp rSubI (tVar 1) (tC (.int 1))) tNil)))) [2]) tNil)) (tOp rLtI (tOp (rIxT K) (tVar 0) (tC (.int 0))) (tOp (rIxT K) (tVar 0) (tC (.int 1)))))))
theorem ps_is_pair_of_places (T : Tx K mg) (O_is_within : OkF P w K mg base "is_within" (He.ga K "is_within") ["thing", "least", "most"] 2 (pr_is_within K w)) {cdv : Value} {A : Around} {outer : List Env} {s : Shared} {H : Hp} {E : XK} (hr : Room 2 (A.deeper (envOfC "is_pair_of_places" (defScope s_is_pair_of_places) s.heap.objs.size (He.ga K "is_pair_of_places") cdv))) : PSs (cxOf CX0 P w K mg base N_is_pair_of_places "is_pair_of_places" (defScope s_is_pair_of_places) (He.ga K "is_pair_of_places") cdv A outer s H E).nox (defBody s_is_pair_of_places) (t_is_pair_of_places K P w) :=
  (pss_cons (ps_if (PW.pt (pw_or (pt_not (pt_val (pe_callB call_isi rfl T.b_isinstance (by decide +kernel) (pa_cons (pv 0) (pa_cons (pe_bltn rfl T.b_tuple (by decide +kernel) rfl) pa_nil))))) (pw_or1 (pt_cmpR op_ne (pe_callB c_len rfl T.b_len (by decide +kernel) (pa_cons (pv 0) pa_nil)) pe_int (nomark _))))) (pss_one (ps_ret pe_bl)) pss_nil) (pss_one (ps_ret (pe_and (pe_callB (cr_all rfl) rfl T.b_all (by decide +kernel) (pa_cons (pe_lc (own := [("place", 2)]) (g := (gName 2)) (tt := tYes) rfl sc_is_pair_of_places.nd (pi_tup (pv 0)) (blkOk_by (own := [("place", 2)]) (N := N_is_pair_of_places) (sc := defScope s_is_pair_of_places) (by decide +kernel)) (fun _ _ _ _ _ => (pg_name (i := 2) sc_is_pair_of_places.nd rfl (by first | exact Or.inl rfl | exact Or.inr rfl))) (fun _ _ _ _ _ => pts_nil) (fun _ _ _ _ _ => (pe_cal O_is_within (hr.mono (by decide)) rfl (pa_cons (pv 2) (pa_cons pe_int (pa_cons (pe_op op_sub (pv 1) pe_int) pa_nil)))))) pa_nil)) (pe_one (pe_cmpR op_lt (pe_ix ix_tup (pv 0) pe_int (fun _ _ => rfl)) (pe_ix ix_tup (pv 0) pe_int (fun _ _ => rfl)) (nomark _)))))))
def N_is_tie : List PySem.Str := ["thing", "many", "values"]
theorem sc_is_tie : FnScope N_is_tie ["thing", "many", "values"] (defScope s_is_tie) := ⟨rfl, rfl, rfl, by decide +kernel, rfl, by decide +kernel, by decide +kernel⟩
def t_is_tie (K : PySem.W.Frag) (P : Program) (w : World) : TS := (tSeq (tIfS (tOr (tNot (tB (tCB (rIsi K) (tCons (tVar 0) (tCons (tC (.ty "tuple")) tNil))))) (tTest (tOp rNe (tCB (rLenQ K) (tCons (tVar 0) tNil)) (tC (.int 3))))) (tRet (tC (.bl false))) tNext) (tRet (tAndV (tCall (SpX (pr_is_pair_of_places K w)) [] E0 (tCons (tSl (rSlA K) (tVar 0) tNoPart (tPart (tC (.int 2)))) (tCons (tVar 1) tNil))) (tCall (SpX (pr_are_all_weights K w)) [] E0 (tCons (tOp (rIxT K) (tVar 0) (tC (.int 2))) (tCons (tVar 2) (tCons (tVar 2) tNil)))))))
theorem ps_is_tie (T : Tx K mg) (O_are_all_weights : OkF P w K mg base "are_all_weights" (He.ga K "are_all_weights") ["thing", "many", "values"] 4 (pr_are_all_weights K w)) (O_is_pair_of_places : OkF P w K mg base "is_pair_of_places" (He.ga K "is_pair_of_places") ["thing", "many"] 3 (pr_is_pair_of_places K w)) {cdv : Value} {A : Around} {outer : List Env} {s : Shared} {H : Hp} {E : XK} (hr : Room 4 (A.deeper (envOfC "is_tie" (defScope s_is_tie) s.heap.objs.size (He.ga K "is_tie") cdv))) : PSs (cxOf CX0 P w K mg base N_is_tie "is_tie" (defScope s_is_tie) (He.ga K "is_tie") cdv A outer s H E).nox (defBody s_is_tie) (t_is_tie K P w) :=
  (pss_cons (ps_if (PW.pt (pw_or (pt_not (pt_val (pe_callB call_isi rfl T.b_isinstance (by decide +kernel) (pa_cons (pv 0) (pa_cons (pe_bltn rfl T.b_tuple (by decide +kernel) rfl) pa_nil))))) (pw_or1 (pt_cmpR op_ne (pe_callB c_len rfl T.b_len (by decide +kernel) (pa_cons (pv 0) pa_nil)) pe_int (nomark _))))) (pss_one (ps_ret pe_bl)) pss_nil) (pss_one (ps_ret (pe_and (pe_cal O_is_pair_of_places (hr.mono (by decide)) rfl (pa_cons (pe_slice sl_tupA (pv 0) po_none (po_some pe_int)) (pa_cons (pv 1) pa_nil))) (pe_one (pe_cal O_are_all_weights (hr.mono (by decide)) rfl (pa_cons (pe_ix ix_tup (pv 0) pe_int (fun _ _ => rfl)) (pa_cons (pv 2) (pa_cons (pv 2) pa_nil)))))))))
def N_ties_at : List PySem.Str := ["ties", "place", "tie"]
theorem sc_ties_at : FnScope N_ties_at ["ties", "place"] (defScope s_ties_at) := ⟨rfl, rfl, rfl, by decide +kernel, rfl, by decide +kernel, by decide +kernel⟩
def t_ties_at (K : PySem.W.Frag) (P : Program) (w : World) : TS := (tRet (tLc (iTup K (tVar 0)) (gName 2) (tTest (tOp (rIn K false) (tVar 1) (tSl (rSlA K) (tVar 2) tNoPart (tPart (tC (.int 2)))))) (tVar 2) [2]))
theorem ps_ties_at (T : Tx K mg)  {cdv : Value} {A : Around} {outer : List Env} {s : Shared} {H : Hp} {E : XK} (hr : Room 0 (A.deeper (envOfC "ties_at" (defScope s_ties_at) s.heap.objs.size (He.ga K "ties_at") cdv))) : PSs (cxOf CX0 P w K mg base N_ties_at "ties_at" (defScope s_ties_at) (He.ga K "ties_at") cdv A outer s H E).nox (defBody s_ties_at) (t_ties_at K P w) :=
  (pss_one (ps_ret (pe_lc (own := [("tie", 2)]) (g := (gName 2)) (tt := (tTest (tOp (rIn K false) (tVar 1) (tSl (rSlA K) (tVar 2) tNoPart (tPart (tC (.int 2))))))) rfl sc_ties_at.nd (pi_tup (pv 0)) (blkOk_by (own := [("tie", 2)]) (N := N_ties_at) (sc := defScope s_ties_at) (by decide +kernel)) (fun _ _ _ _ _ => (pg_name (i := 2) sc_ties_at.nd rfl (by first | exact Or.inl rfl | exact Or.inr rfl))) (fun _ _ _ _ _ => (pts_one (pt_cmpR op_in_seq (pv 1) (pe_slice sl_tupA (pv 2) po_none (po_some pe_int)) (by rfl)))) (fun _ _ _ _ _ => (pv 2)))))
def N_Model_init : List PySem.Str := ["self", "many", "levels", "weights", "ties", "number", "tie", "place"]
theorem sc_Model_init : FnScope N_Model_init ["self", "many", "levels", "weights", "ties"] (defScope s_Model_init) := ⟨rfl, rfl, rfl, by decide +kernel, rfl, by decide +kernel, by decide +kernel⟩
def t_Model_init (K : PySem.W.Frag) (P : Program) (w : World) : TS := (tSeq (tIfS (tNot (tB (tCall (SpX (pr_is_within K w)) [] E0 (tCons (tVar 1) (tCons (tC (.int 1)) (tCons (tC (.int 12)) tNil)))))) tNever tNext) (tSeq (tIfS (tNot (tB (tCall (SpX (pr_is_within K w)) [] E0 (tCons (tVar 2) (tCons (tC (.int 1)) (tCons (tC (.int 4)) tNil)))))) tNever tNext) (tSeq (tIfS (tNot (tB (tCall (SpX (pr_are_all_weights K w)) [] E0 (tCons (tVar 3) (tCons (tVar 1) (tCons (tVar 2) tNil)))))) tNever tNext) (tSeq (tIfS (tNot (tB (tCB (rIsi K) (tCons (tVar 4) (tCons (tC (.ty "tuple")) tNil))))) tNever tNext) (tSeq (tFor (iEnumK kT (tCons (tVar 4) tNil)) (gTup K 2 (gCons (gName 5) (gCons (gName 6) gNil))) (tIfS (tOr (tNot (tB (tCall (SpX (pr_is_tie K w)) [] E0 (tCons (tVar 6) (tCons (tVar 1) (tCons (tVar 2) tNil)))))) (tAnd (tTest (tOp rGtI (tVar 5) (tC (.int 0)))) (tNot (tTest (tOp (rLtT K) (tSl (rSlA K) (tOp (rIxT K) (tVar 4) (tOp rSubI (tVar 5) (tC (.int 1)))) tNoPart (tPart (tC (.int 2)))) (tSl (rSlA K) (tVar 6) tNoPart (tPart (tC (.int 2))))))))) tNever tNext)) (tSeq (tIfS (tB (tCB (rAny K) (tCons (tLc (iRng1 (tCons (tVar 1) tNil)) (gName 7) tYes (tOp rGtI (tCB (rLenQ K) (tCons (tCall (SpX (pr_ties_at K w)) [] E0 (tCons (tVar 4) (tCons (tVar 7) tNil))) tNil)) (tC (.int 4))) [7]) tNil))) tNever tNext) (tSeq (sFld K (tVar 0) (tVar 1) "many") (tSeq (sFld K (tVar 0) (tVar 2) "levels") (tSeq (sFld K (tVar 0) (tVar 3) "weights") (sFld K (tVar 0) (tVar 4) "ties"))))))))))
theorem ps_Model_init (T : Tx K mg) (O_are_all_weights : OkF P w K mg base "are_all_weights" (He.ga K "are_all_weights") ["thing", "many", "values"] 4 (pr_are_all_weights K w)) (O_is_tie : OkF P w K mg base "is_tie" (He.ga K "is_tie") ["thing", "many", "values"] 5 (pr_is_tie K w)) (O_is_within : OkF P w K mg base "is_within" (He.ga K "is_within") ["thing", "least", "most"] 2 (pr_is_within K w)) (O_ties_at : OkF P w K mg base "ties_at" (He.ga K "ties_at") ["ties", "place"] 1 (pr_ties_at K w)) {cdv : Value} {A : Around} {outer : List Env} {s : Shared} {H : Hp} {E : XK} (hr : Room 5 (A.deeper (envOfC "Model.__init__" (defScope s_Model_init) s.heap.objs.size (He.ma K (He.ga K "Model") "__init__") cdv))) : PSs (cxOf CX0 P w K mg base N_Model_init "Model.__init__" (defScope s_Model_init) (He.ma K (He.ga K "Model") "__init__") cdv A outer s H E).nox (defBody s_Model_init) (t_Model_init K P w) :=
  (pss_cons (ps_if (pt_not (pt_val (pe_cal O_is_within (hr.mono (by decide)) rfl (pa_cons (pv 1) (pa_cons pe_int (pa_cons (pe_glob rfl (T.k_MOST_PLACES).choose_spec ⟨_, rfl⟩) pa_nil)))))) (pss_one ps_never) pss_nil) (pss_cons (ps_if (pt_not (pt_val (pe_cal O_is_within (hr.mono (by decide)) rfl (pa_cons (pv 2) (pa_cons pe_int (pa_cons (pe_glob rfl (T.k_MOST_VALUES).choose_spec ⟨_, rfl⟩) pa_nil)))))) (pss_one ps_never) pss_nil) (pss_cons (ps_if (pt_not (pt_val (pe_cal O_are_all_weights (hr.mono (by decide)) rfl (pa_cons (pv 3) (pa_cons (pv 1) (pa_cons (pv 2) pa_nil)))))) (pss_one ps_never) pss_nil) (pss_cons (ps_if (pt_not (pt_val (pe_callB call_isi rfl T.b_isinstance (by decide +kernel) (pa_cons (pv 4) (pa_cons (pe_bltn rfl T.b_tuple (by decide +kernel) rfl) pa_nil))))) (pss_one ps_never) pss_nil) (pss_cons (ps_for PassesOwn.never rfl (pi_enumK (k1 := kT) rfl T.b_enumerate (pa_cons (pv 4) pa_nil)) (pg_tup rfl (pgs_cons (pg_name (i := 5) sc_Model_init.nd rfl (by first | exact Or.inl rfl | exact Or.inr rfl)) (pgs_cons (pg_name (i := 6) sc_Model_init.nd rfl (by first | exact Or.inl rfl | exact Or.inr rfl)) pgs_nil))) (pss_one (ps_if (PW.pt (pw_or (pt_not (pt_val (pe_cal O_is_tie (hr.mono (by decide)) rfl (pa_cons (pv 6) (pa_cons (pv 1) (pa_cons (pv 2) pa_nil)))))) (pw_or1 (PW.pt (pw_and (pt_cmpR op_gt (pv 5) pe_int (nomark _)) (pw_and1 (pt_not (pt_cmpR (op_ltT hr.units0) (pe_slice sl_tupA (pe_ix ix_tup (pv 4) (pe_op op_sub (pv 5) pe_int) (fun _ _ => rfl)) po_none (po_some pe_int)) (pe_slice sl_tupA (pv 6) po_none (po_some pe_int)) (nomark _))))))))) (pss_one ps_never) pss_nil))) (pss_cons (ps_if (pt_val (pe_callB (cr_any rfl) rfl T.b_any (by decide +kernel) (pa_cons (pe_lc (own := [("place", 7)]) (g := (gName 7)) (tt := tYes) rfl sc_Model_init.nd (pi_range1 rfl T.b_range (pa_cons (pv 1) pa_nil)) (blkOk_by (own := [("place", 7)]) (N := N_Model_init) (sc := defScope s_Model_init) (by decide +kernel)) (fun _ _ _ _ _ => (pg_name (i := 7) sc_Model_init.nd rfl (by first | exact Or.inl rfl | exact Or.inr rfl))) (fun _ _ _ _ _ => pts_nil) (fun _ _ _ _ _ => (pe_cmpR op_gt (pe_callB c_len rfl T.b_len (by decide +kernel) (pa_cons (pe_cal O_ties_at (hr.mono (by decide)) rfl (pa_cons (pv 4) (pa_cons (pv 7) pa_nil))) pa_nil)) (pe_glob rfl (T.k_MOST_TIES).choose_spec ⟨_, rfl⟩) (nomark _)))) pa_nil))) (pss_one ps_never) pss_nil) (pss_cons (ps_fld (pv 0) (pv 1) rfl) (pss_cons (ps_fld (pv 0) (pv 2) rfl) (pss_cons (ps_fld (pv 0) (pv 3) rfl) (pss_one (ps_fld (pv 0) (pv 4) rfl)))))))))))
def N_is_picture : List PySem.Str := ["model", "thing", "value"]
theorem sc_is_picture : FnScope N_is_picture ["model", "thing"] (defScope s_is_picture) := ⟨rfl, rfl, rfl, by decide +kernel, rfl, by decide +kernel, by decide +kernel⟩
def t_is_picture (K : PySem.W.Frag) (P : Program) (w : World) : TS := (tSeq (tIfS (tOr (tNot (tB (tCB (rIsi K) (tCons (tVar 1) (tCons (tC (.ty "tuple")) tNil))))) (tTest (tOp rNe (tCB (rLenQ K) (tCons (tVar 1) tNil)) (tFld K (tVar 0) "many")))) (tRet (tC (.bl false))) tNext) (tRet (tCB (rAll K) (tCons (tLc (iTup K (tVar 1)) (gName 2) tYes (tCall (SpX (pr_is_within K w)) [] E0 (tCons (tVar 2) (tCons (tC (.int 0)) (tCons (tOp rSubI (tFld K (tVar 0) "levels") (tC (.int 1))) tNil)))) [2]) tNil))))
theorem ps_is_picture (T : Tx K mg) (O_is_within : OkF P w K mg base "is_within" (He.ga K "is_within") ["thing", "least", "most"] 2 (pr_is_within K w)) {cdv : Value} {A : Around} {outer : List Env} {s : Shared} {H : Hp} {E : XK} (hr : Room 2 (A.deeper (envOfC "is_picture" (defScope s_is_picture) s.heap.objs.size (He.ga K "is_picture") cdv))) : PSs (cxOf CX0 P w K mg base N_is_picture "is_picture" (defScope s_is_picture) (He.ga K "is_picture") cdv A outer s H E).nox (defBody s_is_picture) (t_is_picture K P w) :=
  (pss_cons (ps_if (PW.pt (pw_or (pt_not (pt_val (pe_callB call_isi rfl T.b_isinstance (by decide +kernel) (pa_cons (pv 1) (pa_cons (pe_bltn rfl T.b_tuple (by decide +kernel) rfl) pa_nil))))) (pw_or1 (pt_cmpR op_ne (pe_callB c_len rfl T.b_len (by decide +kernel) (pa_cons (pv 1) pa_nil)) (pe_fld (pv 0) rfl) (nomark _))))) (pss_one (ps_ret pe_bl)) pss_nil) (pss_one (ps_ret (pe_callB (cr_all rfl) rfl T.b_all (by decide +kernel) (pa_cons (pe_lc (own := [("value", 2)]) (g := (gName 2)) (tt := tYes) rfl sc_is_picture.nd (pi_tup (pv 1)) (blkOk_by (own := [("value", 2)]) (N := N_is_picture) (sc := defScope s_is_picture) (by decide +kernel)) (fun _ _ _ _ _ => (pg_name (i := 2) sc_is_picture.nd rfl (by first | exact Or.inl rfl | exact Or.inr rfl))) (fun _ _ _ _ _ => pts_nil) (fun _ _ _ _ _ => (pe_cal O_is_within (hr.mono (by decide)) rfl (pa_cons (pv 2) (pa_cons pe_int (pa_cons (pe_op op_sub (pe_fld (pv 0) rfl) pe_int) pa_nil)))))) pa_nil)))))
end
end Ly
namespace Ly
open PySem PySem.Spec PyProof.Rows L2
section
variable {P : Program} {w : World} {K : PySem.W.Frag} {mg : Str → Option Value} {base : Heap}
def N_weight_there : List PySem.Str := ["model", "picture", "found", "weights", "value", "one", "other", "table"]
theorem sc_weight_there : FnScope N_weight_there ["model", "picture"] (defScope s_weight_there) := ⟨rfl, rfl, rfl, by decide +kernel, rfl, by decide +kernel, by decide +kernel⟩
def t_weight_there (K : PySem.W.Frag) (P : Program) (w : World) : TS := (tSeq (tAsg (tC (.int 1)) (gName 2)) (tSeq (tFor (iZip2 kT kT (tCons (tFld K (tVar 0) "weights") (tCons (tVar 1) tNil))) (gTup K 2 (gCons (gName 3) (gCons (gName 4) gNil))) (tAug 2 (tOp (rIxT K) (tVar 3) (tVar 4)) rMulI)) (tSeq (tFor (iTup K (tFld K (tVar 0) "ties")) (gTup K 3 (gCons (gName 5) (gCons (gName 6) (gCons (gName 7) gNil)))) (tAug 2 (tOp (rIxT K) (tOp (rIxT K) (tVar 7) (tOp (rIxT K) (tVar 1) (tVar 5))) (tOp (rIxT K) (tVar 1) (tVar 6))) rMulI)) (tRet (tVar 2)))))
theorem ps_weight_there (T : Tx K mg)  {cdv : Value} {A : Around} {outer : List Env} {s : Shared} {H : Hp} {E : XK} (hr : Room 0 (A.deeper (envOfC "weight_there" (defScope s_weight_there) s.heap.objs.size (He.ga K "weight_there") cdv))) : PSs (cxOf CX0 P w K mg base N_weight_there "weight_there" (defScope s_weight_there) (He.ga K "weight_there") cdv A outer s H E).nox (defBody s_weight_there) (t_weight_there K P w) :=
  (pss_cons (ps_set (i := 2) sc_weight_there.nd rfl (by first | exact Or.inl rfl | exact Or.inr rfl) pe_int) (pss_cons (ps_for PassesOwn.never rfl (pi_zip2 (k1 := kT) (k2 := kT) rfl T.b_zip (pa_cons (pe_fld (pv 0) rfl) (pa_cons (pv 1) pa_nil))) (pg_tup rfl (pgs_cons (pg_name (i := 3) sc_weight_there.nd rfl (by first | exact Or.inl rfl | exact Or.inr rfl)) (pgs_cons (pg_name (i := 4) sc_weight_there.nd rfl (by first | exact Or.inl rfl | exact Or.inr rfl)) pgs_nil))) (pss_one (ps_aug (i := 2) sc_weight_there.nd rfl (by first | exact Or.inl rfl | exact Or.inr rfl) (pe_ix ix_tup (pv 3) (pv 4) (fun _ _ => rfl)) ip_mul))) (pss_cons (ps_for PassesOwn.never rfl (pi_tup (pe_fld (pv 0) rfl)) (pg_tup rfl (pgs_cons (pg_name (i := 5) sc_weight_there.nd rfl (by first | exact Or.inl rfl | exact Or.inr rfl)) (pgs_cons (pg_name (i := 6) sc_weight_there.nd rfl (by first | exact Or.inl rfl | exact Or.inr rfl)) (pgs_cons (pg_name (i := 7) sc_weight_there.nd rfl (by first | exact Or.inl rfl | exact Or.inr rfl)) pgs_nil)))) (pss_one (ps_aug (i := 2) sc_weight_there.nd rfl (by first | exact Or.inl rfl | exact Or.inr rfl) (pe_ix ix_tup (pe_ix ix_tup (pv 7) (pe_ix ix_tup (pv 1) (pv 5) (fun _ _ => rfl)) (fun _ _ => rfl)) (pe_ix ix_tup (pv 1) (pv 6) (fun _ _ => rfl)) (fun _ _ => rfl)) ip_mul))) (pss_one (ps_ret (pv 2))))))
def N_check_pairs : List PySem.Str := ["many", "pairs", "pair"]
theorem sc_check_pairs : FnScope N_check_pairs ["many", "pairs"] (defScope s_check_pairs) := ⟨rfl, rfl, rfl, by decide +kernel, rfl, by decide +kernel, by decide +kernel⟩
def t_check_pairs (K : PySem.W.Frag) (P : Program) (w : World) : TS := (tSeq (tIfS (tNot (tB (tCall (SpX (pr_is_within K w)) [] E0 (tCons (tVar 0) (tCons (tC (.int 1)) (tCons (tC (.int 12)) tNil)))))) tNever tNext) (tSeq (tIfS (tOr (tNot (tB (tCB (rIsi K) (tCons (tVar 1) (tCons (tC (.ty "tuple")) tNil))))) (tNot (tB (tCB (rAll K) (tCons (tLc (iTup K (tVar 1)) (gName 2) tYes (tCall (SpX (pr_is_pair_of_places K w)) [] E0 (tCons (tVar 2) (tCons (tVar 0) tNil))) [2]) tNil))))) tNever tNext) (tIfS (tNot (tB (tCall (SpX (pr_is_rising K w)) [] E0 (tCons (tVar 1) tNil)))) tNever tNext)))
theorem ps_check_pairs (T : Tx K mg) (O_is_pair_of_places : OkF P w K mg base "is_pair_of_places" (He.ga K "is_pair_of_places") ["thing", "many"] 3 (pr_is_pair_of_places K w)) (O_is_rising : OkF P w K mg base "is_rising" (He.ga K "is_rising") ["things"] 1 (pr_is_rising K w)) (O_is_within : OkF P w K mg base "is_within" (He.ga K "is_within") ["thing", "least", "most"] 2 (pr_is_within K w)) {cdv : Value} {A : Around} {outer : List Env} {s : Shared} {H : Hp} {E : XK} (hr : Room 3 (A.deeper (envOfC "check_pairs" (defScope s_check_pairs) s.heap.objs.size (He.ga K "check_pairs") cdv))) : PSs (cxOf CX0 P w K mg base N_check_pairs "check_pairs" (defScope s_check_pairs) (He.ga K "check_pairs") cdv A outer s H E).nox (defBody s_check_pairs) (t_check_pairs K P w) :=
  (pss_cons (ps_if (pt_not (pt_val (pe_cal O_is_within (hr.mono (by decide)) rfl (pa_cons (pv 0) (pa_cons pe_int (pa_cons (pe_glob rfl (T.k_MOST_PLACES).choose_spec ⟨_, rfl⟩) pa_nil)))))) (pss_one ps_never) pss_nil) (pss_cons (ps_if (PW.pt (pw_or (pt_not (pt_val (pe_callB call_isi rfl T.b_isinstance (by decide +kernel) (pa_cons (pv 1) (pa_cons (pe_bltn rfl T.b_tuple (by decide +kernel) rfl) pa_nil))))) (pw_or1 (pt_not (pt_val (pe_callB (cr_all rfl) rfl T.b_all (by decide +kernel) (pa_cons (pe_lc (own := [("pair", 2)]) (g := (gName 2)) (tt := tYes) rfl sc_check_pairs.nd (pi_tup (pv 1)) (blkOk_by (own := [("pair", 2)]) (N := N_check_pairs) (sc := defScope s_check_pairs) (by decide +kernel)) (fun _ _ _ _ _ => (pg_name (i := 2) sc_check_pairs.nd rfl (by first | exact Or.inl rfl | exact Or.inr rfl))) (fun _ _ _ _ _ => pts_nil) (fun _ _ _ _ _ => (pe_cal O_is_pair_of_places (hr.mono (by decide)) rfl (pa_cons (pv 2) (pa_cons (pv 0) pa_nil))))) pa_nil))))))) (pss_one ps_never) pss_nil) (pss_one (ps_if (pt_not (pt_val (pe_cal O_is_rising (hr.mono (by decide)) rfl (pa_cons (pv 1) pa_nil)))) (pss_one ps_never) pss_nil))))
def N_even_model : List PySem.Str := ["many", "values", "row", "pairs", "table", "pair"]
theorem sc_even_model : FnScope N_even_model ["many", "values", "row", "pairs", "table"] (defScope s_even_model) := ⟨rfl, rfl, rfl, by decide +kernel, rfl, by decide +kernel, by decide +kernel⟩
def t_even_model (K : PySem.W.Frag) (P : Program) (w : World) : TS := (tRet (tMake (He.ga K "Model") (spI (He.ga K "Model")) [] E0 (tCons (tVar 0) (tCons (tVar 1) (tCons (tOp (rRepQ K) (tTup (tCons (tVar 2) tNil)) (tVar 0)) (tCons (tCB (rTupQ K) (tCons (tLc (wOr (iList K (tVar 3)) (iTup K (tVar 3))) (gName 5) tYes (tOp (rCatA K) (tVar 5) (tTup (tCons (tVar 4) tNil))) [5]) tNil)) tNil))))))
theorem ps_even_model (T : Tx K mg) (O_Model_init : OkI P w K mg base (He.ga K "Model") (He.ma K (He.ga K "Model") "__init__") ["self", "many", "levels", "weights", "ties"] 6) {cdv : Value} {A : Around} {outer : List Env} {s : Shared} {H : Hp} {E : XK} (hr : Room 7 (A.deeper (envOfC "even_model" (defScope s_even_model) s.heap.objs.size (He.ga K "even_model") cdv))) : PSs (cxOf CX0 P w K mg base N_even_model "even_model" (defScope s_even_model) (He.ga K "even_model") cdv A outer s H E).nox (defBody s_even_model) (t_even_model K P w) :=
  (pss_one (ps_ret (pe_mk2 T.mkr T.g_Model O_Model_init (hr.mono (by decide)) rfl (pa_cons (pv 0) (pa_cons (pv 1) (pa_cons (pe_op op_repQ (pe_tup (pa_cons (pv 2) pa_nil)) (pv 0)) (pa_cons (pe_callTy c_tuple rfl T.b_tuple (by decide +kernel) (pa_cons (pe_lc (own := [("pair", 5)]) (g := (gName 5)) (tt := tYes) rfl sc_even_model.nd (pi_or (pi_list (pv 3)) (pi_tup (pv 3))) (blkOk_by (own := [("pair", 5)]) (N := N_even_model) (sc := defScope s_even_model) (by decide +kernel)) (fun _ _ _ _ _ => (pg_name (i := 5) sc_even_model.nd rfl (by first | exact Or.inl rfl | exact Or.inr rfl))) (fun _ _ _ _ _ => pts_nil) (fun _ _ _ _ _ => (pe_op op_catA (pv 5) (pe_tup (pa_cons (pv 4) pa_nil))))) pa_nil)) pa_nil)))))))
def N_spins : List PySem.Str := ["many", "pairs", "same", "other"]
theorem sc_spins : FnScope N_spins ["many", "pairs", "same", "other"] (defScope s_spins) := ⟨rfl, rfl, rfl, by decide +kernel, rfl, by decide +kernel, by decide +kernel⟩
def t_spins (K : PySem.W.Frag) (P : Program) (w : World) : TS := (tSeq (tDrop (tCall (SpX (pr_check_pairs K w)) [] E0 (tCons (tVar 0) (tCons (tVar 1) tNil)))) (tRet (tCall (SpX (pr_even_model K w)) [] E0 (tCons (tVar 0) (tCons (tC (.int 2)) (tCons (tTup (tCons (tC (.int 1)) (tCons (tC (.int 1)) tNil))) (tCons (tVar 1) (tCons (tTup (tCons (tTup (tCons (tVar 2) (tCons (tVar 3) tNil))) (tCons (tTup (tCons (tVar 3) (tCons (tVar 2) tNil))) tNil))) tNil))))))))
theorem ps_spins (T : Tx K mg) (O_check_pairs : OkF P w K mg base "check_pairs" (He.ga K "check_pairs") ["many", "pairs"] 4 (pr_check_pairs K w)) (O_even_model : OkF P w K mg base "even_model" (He.ga K "even_model") ["many", "values", "row", "pairs", "table"] 8 (pr_even_model K w)) {cdv : Value} {A : Around} {outer : List Env} {s : Shared} {H : Hp} {E : XK} (hr : Room 8 (A.deeper (envOfC "spins" (defScope s_spins) s.heap.objs.size (He.ga K "spins") cdv))) : PSs (cxOf CX0 P w K mg base N_spins "spins" (defScope s_spins) (He.ga K "spins") cdv A outer s H E).nox (defBody s_spins) (t_spins K P w) :=
  (pss_cons (ps_expr (pe_cal O_check_pairs (hr.mono (by decide)) rfl (pa_cons (pv 0) (pa_cons (pv 1) pa_nil)))) (pss_one (ps_ret (pe_cal O_even_model (hr.mono (by decide)) rfl (pa_cons (pv 0) (pa_cons pe_int (pa_cons (pe_tup (pa_cons pe_int (pa_cons pe_int pa_nil))) (pa_cons (pv 1) (pa_cons (pe_tup (pa_cons (pe_tup (pa_cons (pv 2) (pa_cons (pv 3) pa_nil))) (pa_cons (pe_tup (pa_cons (pv 3) (pa_cons (pv 2) pa_nil))) pa_nil))) pa_nil)))))))))
def N_sets_apart : List PySem.Str := ["many", "pairs", "number"]
theorem sc_sets_apart : FnScope N_sets_apart ["many", "pairs", "number"] (defScope s_sets_apart) := ⟨rfl, rfl, rfl, by decide +kernel, rfl, by decide +kernel, by decide +kernel⟩
def t_sets_apart (K : PySem.W.Frag) (P : Program) (w : World) : TS := (tSeq (tDrop (tCall (SpX (pr_check_pairs K w)) [] E0 (tCons (tVar 0) (tCons (tVar 1) tNil)))) (tRet (tCall (SpX (pr_even_model K w)) [] E0 (tCons (tVar 0) (tCons (tC (.int 2)) (tCons (tTup (tCons (tC (.int 1)) (tCons (tVar 2) tNil))) (tCons (tVar 1) (tCons (tTup (tCons (tTup (tCons (tC (.int 1)) (tCons (tC (.int 1)) tNil))) (tCons (tTup (tCons (tC (.int 1)) (tCons (tC (.int 0)) tNil))) tNil))) tNil))))))))
theorem ps_sets_apart (T : Tx K mg) (O_check_pairs : OkF P w K mg base "check_pairs" (He.ga K "check_pairs") ["many", "pairs"] 4 (pr_check_pairs K w)) (O_even_model : OkF P w K mg base "even_model" (He.ga K "even_model") ["many", "values", "row", "pairs", "table"] 8 (pr_even_model K w)) {cdv : Value} {A : Around} {outer : List Env} {s : Shared} {H : Hp} {E : XK} (hr : Room 8 (A.deeper (envOfC "sets_apart" (defScope s_sets_apart) s.heap.objs.size (He.ga K "sets_apart") cdv))) : PSs (cxOf CX0 P w K mg base N_sets_apart "sets_apart" (defScope s_sets_apart) (He.ga K "sets_apart") cdv A outer s H E).nox (defBody s_sets_apart) (t_sets_apart K P w) :=
  (pss_cons (ps_expr (pe_cal O_check_pairs (hr.mono (by decide)) rfl (pa_cons (pv 0) (pa_cons (pv 1) pa_nil)))) (pss_one (ps_ret (pe_cal O_even_model (hr.mono (by decide)) rfl (pa_cons (pv 0) (pa_cons pe_int (pa_cons (pe_tup (pa_cons pe_int (pa_cons (pv 2) pa_nil))) (pa_cons (pv 1) (pa_cons (pe_tup (pa_cons (pe_tup (pa_cons pe_int (pa_cons pe_int pa_nil))) (pa_cons (pe_tup (pa_cons pe_int (pa_cons pe_int pa_nil))) pa_nil))) pa_nil)))))))))
def N_stacks : List PySem.Str := ["rows", "columns", "most", "pairs", "place", "values", "table", "one", "other"]
theorem sc_stacks : FnScope N_stacks ["rows", "columns", "most"] (defScope s_stacks) := ⟨rfl, rfl, rfl, by decide +kernel, rfl, by decide +kernel, by decide +kernel⟩
def t_stacks (K : PySem.W.Frag) (P : Program) (w : World) : TS := (tSeq (tIfS (tOr (tNot (tB (tCall (SpX (pr_is_within K w)) [] E0 (tCons (tVar 0) (tCons (tC (.int 1)) (tCons (tC (.int 12)) tNil)))))) (tOr (tNot (tB (tCall (SpX (pr_is_within K w)) [] E0 (tCons (tVar 1) (tCons (tC (.int 1)) (tCons (tC (.int 12)) tNil)))))) (tTest (tOp rGtI (tOp rMulI (tVar 0) (tVar 1)) (tC (.int 12)))))) tNever tNext) (tSeq (tIfS (tNot (tB (tCall (SpX (pr_is_within K w)) [] E0 (tCons (tVar 2) (tCons (tC (.int 0)) (tCons (tOp rSubI (tC (.int 4)) (tC (.int 1))) tNil)))))) tNever tNext) (tSeq (tAsg (tLst tNil) (gName 3)) (tSeq (tFor (iRng1 (tCons (tOp rMulI (tVar 0) (tVar 1)) tNil)) (gName 4) (tSeq (tIfS (tTest (tOp rGtI (tOp rModI (tOp rAddI (tVar 4) (tC (.int 1))) (tVar 1)) (tC (.int 0)))) (tDrop (tBM K "list" rAppend (tVar 3) (tCons (tTup (tCons (tVar 4) (tCons (tOp rAddI (tVar 4) (tC (.int 1))) tNil))) tNil))) tNext) (tIfS (tTest (tOp rLtI (tOp rAddI (tVar 4) (tVar 1)) (tOp rMulI (tVar 0) (tVar 1)))) (tDrop (tBM K "list" rAppend (tVar 3) (tCons (tTup (tCons (tVar 4) (tCons (tOp rAddI (tVar 4) (tVar 1)) tNil))) tNil))) tNext))) (tSeq (tAsg (tOp rAddI (tVar 2) (tC (.int 1))) (gName 5)) (tSeq (tAsg (tCB (rTupQ K) (tCons (tLc (iRng1 (tCons (tVar 5) tNil)) (gName 7) tYes (tCB (rTupQ K) (tCons (tLc (iRng1 (tCons (tVar 5) tNil)) (gName 8) tYes (tCB rInt1 (tCons (tOp rLeI (tVar 8) (tVar 7)) tNil)) [8]) tNil)) [7]) tNil)) (gName 6)) (tRet (tCall (SpX (pr_even_model K w)) [] E0 (tCons (tOp rMulI (tVar 0) (tVar 1)) (tCons (tVar 5) (tCons (tOp (rRepQ K) (tTup (tCons (tC (.int 1)) tNil)) (tVar 5)) (tCons (tCB (rSortedT K P w) (tCons (tCB (rSetOfT K P w) (tCons (tVar 3) tNil)) tNil)) (tCons (tVar 6) tNil)))))))))))))
theorem ps_stacks (T : Tx K mg) (O_even_model : OkF P w K mg base "even_model" (He.ga K "even_model") ["many", "values", "row", "pairs", "table"] 8 (pr_even_model K w)) (O_is_within : OkF P w K mg base "is_within" (He.ga K "is_within") ["thing", "least", "most"] 2 (pr_is_within K w)) {cdv : Value} {A : Around} {outer : List Env} {s : Shared} {H : Hp} {E : XK} (hr : Room 8 (A.deeper (envOfC "stacks" (defScope s_stacks) s.heap.objs.size (He.ga K "stacks") cdv))) : PSs (cxOf CX0 P w K mg base N_stacks "stacks" (defScope s_stacks) (He.ga K "stacks") cdv A outer s H E).nox (defBody s_stacks) (t_stacks K P w) :=
  (pss_cons (ps_if (PW.pt (pw_or (pt_not (pt_val (pe_cal O_is_within (hr.mono (by decide)) rfl (pa_cons (pv 0) (pa_cons pe_int (pa_cons (pe_glob rfl (T.k_MOST_PLACES).choose_spec ⟨_, rfl⟩) pa_nil)))))) (pw_or (pt_not (pt_val (pe_cal O_is_within (hr.mono (by decide)) rfl (pa_cons (pv 1) (pa_cons pe_int (pa_cons (pe_glob rfl (T.k_MOST_PLACES).choose_spec ⟨_, rfl⟩) pa_nil)))))) (pw_or1 (pt_cmpR op_gt (pe_op op_mul (pv 0) (pv 1)) (pe_glob rfl (T.k_MOST_PLACES).choose_spec ⟨_, rfl⟩) (nomark _)))))) (pss_one ps_never) pss_nil) (pss_cons (ps_if (pt_not (pt_val (pe_cal O_is_within (hr.mono (by decide)) rfl (pa_cons (pv 2) (pa_cons pe_int (pa_cons (pe_op op_sub (pe_glob rfl (T.k_MOST_VALUES).choose_spec ⟨_, rfl⟩) pe_int) pa_nil)))))) (pss_one ps_never) pss_nil) (pss_cons (ps_set (i := 3) sc_stacks.nd rfl (by first | exact Or.inl rfl | exact Or.inr rfl) (pe_lst pa_nil)) (pss_cons (ps_for PassesOwn.never rfl (pi_range1 rfl T.b_range (pa_cons (pe_op op_mul (pv 0) (pv 1)) pa_nil)) (pg_name (i := 4) sc_stacks.nd rfl (by first | exact Or.inl rfl | exact Or.inr rfl)) (pss_cons (ps_if (pt_cmpR op_gt (pe_op op_mod (pe_op op_add (pv 4) pe_int) (pv 1)) pe_int (nomark _)) (pss_one (ps_expr (pe_bm PySem.F.plainAttrs_list PySem.F.slot_list_append PySem.F.type_list_append mt_append (pv 3) (pa_cons (pe_tup (pa_cons (pv 4) (pa_cons (pe_op op_add (pv 4) pe_int) pa_nil))) pa_nil)))) pss_nil) (pss_one (ps_if (pt_cmpR op_lt (pe_op op_add (pv 4) (pv 1)) (pe_op op_mul (pv 0) (pv 1)) (nomark _)) (pss_one (ps_expr (pe_bm PySem.F.plainAttrs_list PySem.F.slot_list_append PySem.F.type_list_append mt_append (pv 3) (pa_cons (pe_tup (pa_cons (pv 4) (pa_cons (pe_op op_add (pv 4) (pv 1)) pa_nil))) pa_nil)))) pss_nil)))) (pss_cons (ps_set (i := 5) sc_stacks.nd rfl (by first | exact Or.inl rfl | exact Or.inr rfl) (pe_op op_add (pv 2) pe_int)) (pss_cons (ps_set (i := 6) sc_stacks.nd rfl (by first | exact Or.inl rfl | exact Or.inr rfl) (pe_callTy c_tuple rfl T.b_tuple (by decide +kernel) (pa_cons (pe_lc (own := [("one", 7)]) (g := (gName 7)) (tt := tYes) rfl sc_stacks.nd (pi_range1 rfl T.b_range (pa_cons (pv 5) pa_nil)) (blkOk_by (own := [("one", 7)]) (N := N_stacks) (sc := defScope s_stacks) (by decide +kernel)) (fun _ _ _ _ _ => (pg_name (i := 7) sc_stacks.nd rfl (by first | exact Or.inl rfl | exact Or.inr rfl))) (fun _ _ _ _ _ => pts_nil) (fun _ _ _ _ _ => (pe_callTy c_tuple rfl T.b_tuple (by decide +kernel) (pa_cons (pe_lc (own := [("other", 8)]) (g := (gName 8)) (tt := tYes) rfl sc_stacks.nd (pi_range1 rfl T.b_range (pa_cons (pv 5) pa_nil)) (blkOk_blk (own := [("other", 8)]) (N := N_stacks) (sc := defScope s_stacks) rfl rfl (by decide +kernel)) (fun _ _ _ _ _ => (pg_name (i := 8) sc_stacks.nd rfl (by first | exact Or.inl rfl | exact Or.inr rfl))) (fun _ _ _ _ _ => pts_nil) (fun _ _ _ _ _ => (pe_callTy c_int rfl T.b_int (by decide +kernel) (pa_cons (pe_cmpR op_le (pv 8) (pv 7) (nomark _)) pa_nil)))) pa_nil)))) pa_nil))) (pss_one (ps_ret (pe_cal O_even_model (hr.mono (by decide)) rfl (pa_cons (pe_op op_mul (pv 0) (pv 1)) (pa_cons (pv 5) (pa_cons (pe_op op_repQ (pe_tup (pa_cons pe_int pa_nil)) (pv 5)) (pa_cons (pe_callB (cr_sortedT rfl) rfl T.b_sorted (by decide +kernel) (pa_cons (pe_callTy (cr_setOfT rfl (hu64 hr)) rfl T.b_set (by decide +kernel) (pa_cons (pv 3) pa_nil)) pa_nil)) (pa_cons (pv 6) pa_nil))))))))))))))
def N_tied_places : List PySem.Str := ["model", "place", "one", "other", "table"]
theorem sc_tied_places : FnScope N_tied_places ["model", "place"] (defScope s_tied_places) := ⟨rfl, rfl, rfl, by decide +kernel, rfl, by decide +kernel, by decide +kernel⟩
def t_tied_places (K : PySem.W.Frag) (P : Program) (w : World) : TS := (tRet (tLc (iList K (tCall (SpX (pr_ties_at K w)) [] E0 (tCons (tFld K (tVar 0) "ties") (tCons (tVar 1) tNil)))) (gTup K 3 (gCons (gName 2) (gCons (gName 3) (gCons (gName 4) gNil)))) tYes (tIf (tTest (tOp rEq (tVar 3) (tVar 1))) (tVar 2) (tVar 3)) [2, 3, 4]))
theorem ps_tied_places (T : Tx K mg) (O_ties_at : OkF P w K mg base "ties_at" (He.ga K "ties_at") ["ties", "place"] 1 (pr_ties_at K w)) {cdv : Value} {A : Around} {outer : List Env} {s : Shared} {H : Hp} {E : XK} (hr : Room 1 (A.deeper (envOfC "tied_places" (defScope s_tied_places) s.heap.objs.size (He.ga K "tied_places") cdv))) : PSs (cxOf CX0 P w K mg base N_tied_places "tied_places" (defScope s_tied_places) (He.ga K "tied_places") cdv A outer s H E).nox (defBody s_tied_places) (t_tied_places K P w) :=
  (pss_one (ps_ret (pe_lc (own := [("one", 2), ("other", 3), ("table", 4)]) (g := (gTup K 3 (gCons (gName 2) (gCons (gName 3) (gCons (gName 4) gNil))))) (tt := tYes) rfl sc_tied_places.nd (pi_list (pe_cal O_ties_at (hr.mono (by decide)) rfl (pa_cons (pe_fld (pv 0) rfl) (pa_cons (pv 1) pa_nil)))) (blkOk_by (own := [("one", 2), ("other", 3), ("table", 4)]) (N := N_tied_places) (sc := defScope s_tied_places) (by decide +kernel)) (fun _ _ _ _ _ => (pg_tup rfl (pgs_cons (pg_name (i := 2) sc_tied_places.nd rfl (by first | exact Or.inl rfl | exact Or.inr rfl)) (pgs_cons (pg_name (i := 3) sc_tied_places.nd rfl (by first | exact Or.inl rfl | exact Or.inr rfl)) (pgs_cons (pg_name (i := 4) sc_tied_places.nd rfl (by first | exact Or.inl rfl | exact Or.inr rfl)) pgs_nil))))) (fun _ _ _ _ _ => pts_nil) (fun _ _ _ _ _ => (pe_ifExp (pt_cmpR op_eq (pv 3) (pv 1) (nomark _)) (pv 2) (pv 3))))))
def N_local_weights : List PySem.Str := ["model", "place", "values", "found", "tie", "there", "value"]
theorem sc_local_weights : FnScope N_local_weights ["model", "place", "values"] (defScope s_local_weights) := ⟨rfl, rfl, rfl, by decide +kernel, rfl, by decide +kernel, by decide +kernel⟩
def t_local_weights (K : PySem.W.Frag) (P : Program) (w : World) : TS := (tSeq (tAsg (tCB (rLstQ K) (tCons (tOp (rIxT K) (tFld K (tVar 0) "weights") (tVar 1)) tNil)) (gName 3)) (tSeq (tFor (iZip2 kL kT (tCons (tCall (SpX (pr_ties_at K w)) [] E0 (tCons (tFld K (tVar 0) "ties") (tCons (tVar 1) tNil))) (tCons (tVar 2) tNil))) (gTup K 2 (gCons (gName 4) (gCons (gName 5) gNil))) (tFor (iRng1 (tCons (tFld K (tVar 0) "levels") tNil)) (gName 6) (tAugS (tVar 3) (tVar 6) (tIf (tTest (tOp rEq (tOp (rIxT K) (tVar 4) (tC (.int 0))) (tVar 1))) (tOp (rIxT K) (tOp (rIxT K) (tOp (rIxT K) (tVar 4) (tC (.int 2))) (tVar 6)) (tVar 5)) (tOp (rIxT K) (tOp (rIxT K) (tOp (rIxT K) (tVar 4) (tC (.int 2))) (tVar 5)) (tVar 6))) (rIxL K) rMulI rSetL))) (tRet (tVar 3))))
theorem ps_local_weights (T : Tx K mg) (O_ties_at : OkF P w K mg base "ties_at" (He.ga K "ties_at") ["ties", "place"] 1 (pr_ties_at K w)) {cdv : Value} {A : Around} {outer : List Env} {s : Shared} {H : Hp} {E : XK} (hr : Room 1 (A.deeper (envOfC "local_weights" (defScope s_local_weights) s.heap.objs.size (He.ga K "local_weights") cdv))) : PSs (cxOf CX0 P w K mg base N_local_weights "local_weights" (defScope s_local_weights) (He.ga K "local_weights") cdv A outer s H E).nox (defBody s_local_weights) (t_local_weights K P w) :=
  (pss_cons (ps_set (i := 3) sc_local_weights.nd rfl (by first | exact Or.inl rfl | exact Or.inr rfl) (pe_callTy c_list rfl T.b_list (by decide +kernel) (pa_cons (pe_ix ix_tup (pe_fld (pv 0) rfl) (pv 1) (fun _ _ => rfl)) pa_nil))) (pss_cons (ps_for PassesOwn.never rfl (pi_zip2 (k1 := kL) (k2 := kT) rfl T.b_zip (pa_cons (pe_cal O_ties_at (hr.mono (by decide)) rfl (pa_cons (pe_fld (pv 0) rfl) (pa_cons (pv 1) pa_nil))) (pa_cons (pv 2) pa_nil))) (pg_tup rfl (pgs_cons (pg_name (i := 4) sc_local_weights.nd rfl (by first | exact Or.inl rfl | exact Or.inr rfl)) (pgs_cons (pg_name (i := 5) sc_local_weights.nd rfl (by first | exact Or.inl rfl | exact Or.inr rfl)) pgs_nil))) (pss_one (ps_for PassesOwn.never rfl (pi_range1 rfl T.b_range (pa_cons (pe_fld (pv 0) rfl) pa_nil)) (pg_name (i := 6) sc_local_weights.nd rfl (by first | exact Or.inl rfl | exact Or.inr rfl)) (pss_one (ps_augS (pv 3) (pv 6) pget_list (pe_ifExp (pt_cmpR op_eq (pe_ix ix_tup (pv 4) pe_int (fun _ _ => rfl)) (pv 1) (nomark _)) (pe_ix ix_tup (pe_ix ix_tup (pe_ix ix_tup (pv 4) pe_int (fun _ _ => rfl)) (pv 6) (fun _ _ => rfl)) (pv 5) (fun _ _ => rfl)) (pe_ix ix_tup (pe_ix ix_tup (pe_ix ix_tup (pv 4) pe_int (fun _ _ => rfl)) (pv 5) (fun _ _ => rfl)) (pv 6) (fun _ _ => rfl))) ip_mul set_list))))) (pss_one (ps_ret (pv 3)))))
def N_all_rows : List PySem.Str := ["values", "many", "found", "turn", "longer", "row", "value"]
theorem sc_all_rows : FnScope N_all_rows ["values", "many"] (defScope s_all_rows) := ⟨rfl, rfl, rfl, by decide +kernel, rfl, by decide +kernel, by decide +kernel⟩
def t_all_rows (K : PySem.W.Frag) (P : Program) (w : World) : TS := (tSeq (tAsg (tLst (tCons (tTup tNil) tNil)) (gName 2)) (tSeq (tFor (iRng1 (tCons (tVar 1) tNil)) (gName 3) (tSeq (tAsg (tLst tNil) (gName 4)) (tSeq (tFor (iList K (tVar 2)) (gName 5) (tDrop (tBM K "list" rExtend (tVar 4) (tCons (tLc (iRng1 (tCons (tVar 0) tNil)) (gName 6) tYes (tOp (rCatA K) (tVar 5) (tTup (tCons (tVar 6) tNil))) [6]) tNil)))) (tAsg (tVar 4) (gName 2))))) (tRet (tVar 2))))
theorem ps_all_rows (T : Tx K mg)  {cdv : Value} {A : Around} {outer : List Env} {s : Shared} {H : Hp} {E : XK} (hr : Room 0 (A.deeper (envOfC "all_rows" (defScope s_all_rows) s.heap.objs.size (He.ga K "all_rows") cdv))) : PSs (cxOf CX0 P w K mg base N_all_rows "all_rows" (defScope s_all_rows) (He.ga K "all_rows") cdv A outer s H E).nox (defBody s_all_rows) (t_all_rows K P w) :=
  (pss_cons (ps_set (i := 2) sc_all_rows.nd rfl (by first | exact Or.inl rfl | exact Or.inr rfl) (pe_lst (pa_cons (pe_tup pa_nil) pa_nil))) (pss_cons (ps_for PassesOwn.never rfl (pi_range1 rfl T.b_range (pa_cons (pv 1) pa_nil)) (pg_name (i := 3) sc_all_rows.nd rfl (by first | exact Or.inl rfl | exact Or.inr rfl)) (pss_cons (ps_set (i := 4) sc_all_rows.nd rfl (by first | exact Or.inl rfl | exact Or.inr rfl) (pe_lst pa_nil)) (pss_cons (ps_for PassesOwn.never rfl (pi_list (pv 2)) (pg_name (i := 5) sc_all_rows.nd rfl (by first | exact Or.inl rfl | exact Or.inr rfl)) (pss_one (ps_expr (pe_bm PySem.F.plainAttrs_list PySem.F.slot_list_extend PySem.F.type_list_extend mt_extend (pv 4) (pa_cons (pe_lc (own := [("value", 6)]) (g := (gName 6)) (tt := tYes) rfl sc_all_rows.nd (pi_range1 rfl T.b_range (pa_cons (pv 0) pa_nil)) (blkOk_by (own := [("value", 6)]) (N := N_all_rows) (sc := defScope s_all_rows) (by decide +kernel)) (fun _ _ _ _ _ => (pg_name (i := 6) sc_all_rows.nd rfl (by first | exact Or.inl rfl | exact Or.inr rfl))) (fun _ _ _ _ _ => pts_nil) (fun _ _ _ _ _ => (pe_op op_catA (pv 5) (pe_tup (pa_cons (pv 6) pa_nil))))) pa_nil))))) (pss_one (ps_set (i := 2) sc_all_rows.nd rfl (by first | exact Or.inl rfl | exact Or.inr rfl) (pv 4)))))) (pss_one (ps_ret (pv 2)))))
def N_are_flips : List PySem.Str := ["model", "thing", "flag"]
theorem sc_are_flips : FnScope N_are_flips ["model", "thing"] (defScope s_are_flips) := ⟨rfl, rfl, rfl, by decide +kernel, rfl, by decide +kernel, by decide +kernel⟩
def t_are_flips (K : PySem.W.Frag) (P : Program) (w : World) : TS := (tRet (tAndV (tCB (rIsi K) (tCons (tVar 1) (tCons (tC (.ty "tuple")) tNil))) (tAndV (tOp rEq (tCB (rLenQ K) (tCons (tVar 1) tNil)) (tFld K (tVar 0) "many")) (tCB (rAll K) (tCons (tLc (iTup K (tVar 1)) (gName 2) tYes (tCB (rIsi K) (tCons (tVar 2) (tCons (tC (.ty "bool")) tNil))) [2]) tNil)))))
theorem ps_are_flips (T : Tx K mg)  {cdv : Value} {A : Around} {outer : List Env} {s : Shared} {H : Hp} {E : XK} (hr : Room 0 (A.deeper (envOfC "are_flips" (defScope s_are_flips) s.heap.objs.size (He.ga K "are_flips") cdv))) : PSs (cxOf CX0 P w K mg base N_are_flips "are_flips" (defScope s_are_flips) (He.ga K "are_flips") cdv A outer s H E).nox (defBody s_are_flips) (t_are_flips K P w) :=
  (pss_one (ps_ret (pe_and (pe_callB call_isi rfl T.b_isinstance (by decide +kernel) (pa_cons (pv 1) (pa_cons (pe_bltn rfl T.b_tuple (by decide +kernel) rfl) pa_nil))) (pe_and (pe_cmpR op_eq (pe_callB c_len rfl T.b_len (by decide +kernel) (pa_cons (pv 1) pa_nil)) (pe_fld (pv 0) rfl) (nomark _)) (pe_one (pe_callB (cr_all rfl) rfl T.b_all (by decide +kernel) (pa_cons (pe_lc (own := [("flag", 2)]) (g := (gName 2)) (tt := tYes) rfl sc_are_flips.nd (pi_tup (pv 1)) (blkOk_by (own := [("flag", 2)]) (N := N_are_flips) (sc := defScope s_are_flips) (by decide +kernel)) (fun _ _ _ _ _ => (pg_name (i := 2) sc_are_flips.nd rfl (by first | exact Or.inl rfl | exact Or.inr rfl))) (fun _ _ _ _ _ => pts_nil) (fun _ _ _ _ _ => (pe_callB call_isi rfl T.b_isinstance (by decide +kernel) (pa_cons (pv 2) (pa_cons (pe_bltn rfl T.b_bool (by decide +kernel) rfl) pa_nil))))) pa_nil)))))))
end
end Ly
namespace Ly
open PySem PySem.Spec PyProof.Rows L2
section
variable {P : Program} {w : World} {K : PySem.W.Frag} {mg : Str → Option Value} {base : Heap}
def N_check_flips : List PySem.Str := ["model", "flips"]
theorem sc_check_flips : FnScope N_check_flips ["model", "flips"] (defScope s_check_flips) := ⟨rfl, rfl, rfl, by decide +kernel, rfl, by decide +kernel, by decide +kernel⟩
def t_check_flips (K : PySem.W.Frag) (P : Program) (w : World) : TS := (tIfS (tNot (tB (tCall (SpX (pr_are_flips K w)) [] E0 (tCons (tVar 0) (tCons (tVar 1) tNil))))) tNever tNext)
theorem ps_check_flips (T : Tx K mg) (O_are_flips : OkF P w K mg base "are_flips" (He.ga K "are_flips") ["model", "thing"] 1 (pr_are_flips K w)) {cdv : Value} {A : Around} {outer : List Env} {s : Shared} {H : Hp} {E : XK} (hr : Room 1 (A.deeper (envOfC "check_flips" (defScope s_check_flips) s.heap.objs.size (He.ga K "check_flips") cdv))) : PSs (cxOf CX0 P w K mg base N_check_flips "check_flips" (defScope s_check_flips) (He.ga K "check_flips") cdv A outer s H E).nox (defBody s_check_flips) (t_check_flips K P w) :=
  (pss_one (ps_if (pt_not (pt_val (pe_cal O_are_flips (hr.mono (by decide)) rfl (pa_cons (pv 0) (pa_cons (pv 1) pa_nil))))) (pss_one ps_never) pss_nil))
def N_is_row_below : List PySem.Str := ["flips", "one", "other", "flag", "here", "there"]
theorem sc_is_row_below : FnScope N_is_row_below ["flips", "one", "other"] (defScope s_is_row_below) := ⟨rfl, rfl, rfl, by decide +kernel, rfl, by decide +kernel, by decide +kernel⟩
def t_is_row_below (K : PySem.W.Frag) (P : Program) (w : World) : TS := (tSeq (tFor (wOr (iZip3 kL kT kT (tCons (tVar 0) (tCons (tVar 1) (tCons (tVar 2) tNil)))) (iZip3 kT kT kT (tCons (tVar 0) (tCons (tVar 1) (tCons (tVar 2) tNil))))) (gTup K 3 (gCons (gName 3) (gCons (gName 4) (gCons (gName 5) gNil)))) (tIfS (tIfT (tB (tVar 3)) (tTest (tOp rLtI (tVar 4) (tVar 5))) (tTest (tOp rLtI (tVar 5) (tVar 4)))) (tRet (tC (.bl false))) tNext)) (tRet (tC (.bl true))))
theorem ps_is_row_below (T : Tx K mg)  {cdv : Value} {A : Around} {outer : List Env} {s : Shared} {H : Hp} {E : XK} (hr : Room 0 (A.deeper (envOfC "is_row_below" (defScope s_is_row_below) s.heap.objs.size (He.ga K "is_row_below") cdv))) : PSs (cxOf CX0 P w K mg base N_is_row_below "is_row_below" (defScope s_is_row_below) (He.ga K "is_row_below") cdv A outer s H E).nox (defBody s_is_row_below) (t_is_row_below K P w) :=
  (pss_cons (ps_for PassesOwn.never rfl (pi_or (pi_zip3 (k1 := kL) (k2 := kT) (k3 := kT) rfl T.b_zip (pa_cons (pv 0) (pa_cons (pv 1) (pa_cons (pv 2) pa_nil)))) (pi_zip3 (k1 := kT) (k2 := kT) (k3 := kT) rfl T.b_zip (pa_cons (pv 0) (pa_cons (pv 1) (pa_cons (pv 2) pa_nil))))) (pg_tup rfl (pgs_cons (pg_name (i := 3) sc_is_row_below.nd rfl (by first | exact Or.inl rfl | exact Or.inr rfl)) (pgs_cons (pg_name (i := 4) sc_is_row_below.nd rfl (by first | exact Or.inl rfl | exact Or.inr rfl)) (pgs_cons (pg_name (i := 5) sc_is_row_below.nd rfl (by first | exact Or.inl rfl | exact Or.inr rfl)) pgs_nil)))) (pss_one (ps_if (pt_ifExp (pt_val (pv 3)) (pt_cmpR op_lt (pv 4) (pv 5) (nomark _)) (pt_cmpR op_lt (pv 5) (pv 4) (nomark _))) (pss_one (ps_ret pe_bl)) pss_nil))) (pss_one (ps_ret pe_bl)))
def N_is_below : List PySem.Str := ["model", "flips", "one", "other"]
theorem sc_is_below : FnScope N_is_below ["model", "flips", "one", "other"] (defScope s_is_below) := ⟨rfl, rfl, rfl, by decide +kernel, rfl, by decide +kernel, by decide +kernel⟩
def t_is_below (K : PySem.W.Frag) (P : Program) (w : World) : TS := (tSeq (tDrop (tCall (SpX (pr_check_flips K w)) [] E0 (tCons (tVar 0) (tCons (tVar 1) tNil)))) (tSeq (tIfS (tOr (tNot (tB (tCall (SpX (pr_is_picture K w)) [] E0 (tCons (tVar 0) (tCons (tVar 2) tNil))))) (tNot (tB (tCall (SpX (pr_is_picture K w)) [] E0 (tCons (tVar 0) (tCons (tVar 3) tNil)))))) tNever tNext) (tRet (tCall (SpX (pr_is_row_below K w)) [] E0 (tCons (tVar 1) (tCons (tVar 2) (tCons (tVar 3) tNil)))))))
theorem ps_is_below (T : Tx K mg) (O_check_flips : OkF P w K mg base "check_flips" (He.ga K "check_flips") ["model", "flips"] 2 (pr_check_flips K w)) (O_is_picture : OkF P w K mg base "is_picture" (He.ga K "is_picture") ["model", "thing"] 3 (pr_is_picture K w)) (O_is_row_below : OkF P w K mg base "is_row_below" (He.ga K "is_row_below") ["flips", "one", "other"] 1 (pr_is_row_below K w)) {cdv : Value} {A : Around} {outer : List Env} {s : Shared} {H : Hp} {E : XK} (hr : Room 3 (A.deeper (envOfC "is_below" (defScope s_is_below) s.heap.objs.size (He.ga K "is_below") cdv))) : PSs (cxOf CX0 P w K mg base N_is_below "is_below" (defScope s_is_below) (He.ga K "is_below") cdv A outer s H E).nox (defBody s_is_below) (t_is_below K P w) :=
  (pss_cons (ps_expr (pe_cal O_check_flips (hr.mono (by decide)) rfl (pa_cons (pv 0) (pa_cons (pv 1) pa_nil)))) (pss_cons (ps_if (PW.pt (pw_or (pt_not (pt_val (pe_cal O_is_picture (hr.mono (by decide)) rfl (pa_cons (pv 0) (pa_cons (pv 2) pa_nil))))) (pw_or1 (pt_not (pt_val (pe_cal O_is_picture (hr.mono (by decide)) rfl (pa_cons (pv 0) (pa_cons (pv 3) pa_nil)))))))) (pss_one ps_never) pss_nil) (pss_one (ps_ret (pe_cal O_is_row_below (hr.mono (by decide)) rfl (pa_cons (pv 1) (pa_cons (pv 2) (pa_cons (pv 3) pa_nil))))))))
def N_added_up : List PySem.Str := ["weights", "value"]
theorem sc_added_up : FnScope N_added_up ["weights"] (defScope s_added_up) := ⟨rfl, rfl, rfl, by decide +kernel, rfl, by decide +kernel, by decide +kernel⟩
def t_added_up (K : PySem.W.Frag) (P : Program) (w : World) : TS := (tRet (tLc (iRng1 (tCons (tCB (rLenQ K) (tCons (tVar 0) tNil)) tNil)) (gName 1) tYes (tCB (rSum K) (tCons (tSl (rSlL K) (tVar 0) tNoPart (tPart (tOp rAddI (tVar 1) (tC (.int 1))))) tNil)) [1]))
theorem ps_added_up (T : Tx K mg)  {cdv : Value} {A : Around} {outer : List Env} {s : Shared} {H : Hp} {E : XK} (hr : Room 0 (A.deeper (envOfC "added_up" (defScope s_added_up) s.heap.objs.size (He.ga K "added_up") cdv))) : PSs (cxOf CX0 P w K mg base N_added_up "added_up" (defScope s_added_up) (He.ga K "added_up") cdv A outer s H E).nox (defBody s_added_up) (t_added_up K P w) :=
  (pss_one (ps_ret (pe_lc (own := [("value", 1)]) (g := (gName 1)) (tt := tYes) rfl sc_added_up.nd (pi_range1 rfl T.b_range (pa_cons (pe_callB c_len rfl T.b_len (by decide +kernel) (pa_cons (pv 0) pa_nil)) pa_nil)) (blkOk_by (own := [("value", 1)]) (N := N_added_up) (sc := defScope s_added_up) (by decide +kernel)) (fun _ _ _ _ _ => (pg_name (i := 1) sc_added_up.nd rfl (by first | exact Or.inl rfl | exact Or.inr rfl))) (fun _ _ _ _ _ => pts_nil) (fun _ _ _ _ _ => (pe_callB (cr_sum rfl) rfl T.b_sum (by decide +kernel) (pa_cons (pe_slice sl_list (pv 0) po_none (po_some (pe_op op_add (pv 1) pe_int))) pa_nil))))))
def N_is_turned_right : List PySem.Str := ["flag", "one", "other", "here", "there", "apart"]
theorem sc_is_turned_right : FnScope N_is_turned_right ["flag", "one", "other"] (defScope s_is_turned_right) := ⟨rfl, rfl, rfl, by decide +kernel, rfl, by decide +kernel, by decide +kernel⟩
def t_is_turned_right (K : PySem.W.Frag) (P : Program) (w : World) : TS := (tSeq (tFor (iZip2 kL kL (tCons (tVar 1) (tCons (tVar 2) tNil))) (gTup K 2 (gCons (gName 3) (gCons (gName 4) gNil))) (tSeq (tAsg (tOp rSubI (tOp rMulI (tVar 3) (tOp (rIxL K) (tVar 2) (tUn rNeg (tC (.int 1))))) (tOp rMulI (tVar 4) (tOp (rIxL K) (tVar 1) (tUn rNeg (tC (.int 1)))))) (gName 5)) (tIfS (tIfT (tB (tVar 0)) (tTest (tOp rGtI (tVar 5) (tC (.int 0)))) (tTest (tOp rLtI (tVar 5) (tC (.int 0))))) (tRet (tC (.bl false))) tNext))) (tRet (tC (.bl true))))
theorem ps_is_turned_right (T : Tx K mg)  {cdv : Value} {A : Around} {outer : List Env} {s : Shared} {H : Hp} {E : XK} (hr : Room 0 (A.deeper (envOfC "is_turned_right" (defScope s_is_turned_right) s.heap.objs.size (He.ga K "is_turned_right") cdv))) : PSs (cxOf CX0 P w K mg base N_is_turned_right "is_turned_right" (defScope s_is_turned_right) (He.ga K "is_turned_right") cdv A outer s H E).nox (defBody s_is_turned_right) (t_is_turned_right K P w) :=
  (pss_cons (ps_for PassesOwn.never rfl (pi_zip2 (k1 := kL) (k2 := kL) rfl T.b_zip (pa_cons (pv 1) (pa_cons (pv 2) pa_nil))) (pg_tup rfl (pgs_cons (pg_name (i := 3) sc_is_turned_right.nd rfl (by first | exact Or.inl rfl | exact Or.inr rfl)) (pgs_cons (pg_name (i := 4) sc_is_turned_right.nd rfl (by first | exact Or.inl rfl | exact Or.inr rfl)) pgs_nil))) (pss_cons (ps_set (i := 5) sc_is_turned_right.nd rfl (by first | exact Or.inl rfl | exact Or.inr rfl) (pe_op op_sub (pe_op op_mul (pv 3) (pe_ix ix_list (pv 2) (pe_un un_neg pe_int) (fun _ _ => rfl))) (pe_op op_mul (pv 4) (pe_ix ix_list (pv 1) (pe_un un_neg pe_int) (fun _ _ => rfl))))) (pss_one (ps_if (pt_ifExp (pt_val (pv 0)) (pt_cmpR op_gt (pv 5) pe_int (nomark _)) (pt_cmpR op_lt (pv 5) pe_int (nomark _))) (pss_one (ps_ret pe_bl)) pss_nil)))) (pss_one (ps_ret pe_bl)))
def N_rises_at : List PySem.Str := ["model", "place", "flag", "flips", "rows", "values", "added", "one", "here", "other", "there"]
theorem sc_rises_at : FnScope N_rises_at ["model", "place", "flag", "flips"] (defScope s_rises_at) := ⟨rfl, rfl, rfl, by decide +kernel, rfl, by decide +kernel, by decide +kernel⟩
def t_rises_at (K : PySem.W.Frag) (P : Program) (w : World) : TS := (tSeq (tAsg (tLst tNil) (gName 4)) (tSeq (tFor (iList K (tCall (SpX (pr_all_rows K w)) [] E0 (tCons (tFld K (tVar 0) "levels") (tCons (tCB (rLenQ K) (tCons (tVar 3) tNil)) tNil)))) (gName 5) (tSeq (tAsg (tCall (SpX (pr_added_up K w)) [] E0 (tCons (tCall (SpX (pr_local_weights K w)) [] E0 (tCons (tVar 0) (tCons (tVar 1) (tCons (tVar 5) tNil)))) tNil)) (gName 6)) (tIfS (tTest (tOp rGtI (tOp (rIxL K) (tVar 6) (tUn rNeg (tC (.int 1)))) (tC (.int 0)))) (tDrop (tBM K "list" rAppend (tVar 4) (tCons (tTup (tCons (tVar 5) (tCons (tVar 6) tNil))) tNil))) tNext))) (tSeq (tFor (iList K (tVar 4)) (gTup K 2 (gCons (gName 7) (gCons (gName 8) gNil))) (tFor (iList K (tVar 4)) (gTup K 2 (gCons (gName 9) (gCons (gName 10) gNil))) (tIfS (tAnd (tB (tCall (SpX (pr_is_row_below K w)) [] E0 (tCons (tVar 3) (tCons (tVar 7) (tCons (tVar 9) tNil))))) (tNot (tB (tCall (SpX (pr_is_turned_right K w)) [] E0 (tCons (tVar 2) (tCons (tVar 8) (tCons (tVar 10) tNil))))))) (tRet (tC (.bl false))) tNext))) (tRet (tC (.bl true))))))
theorem ps_rises_at (T : Tx K mg) (O_added_up : OkF P w K mg base "added_up" (He.ga K "added_up") ["weights"] 1 (pr_added_up K w)) (O_all_rows : OkF P w K mg base "all_rows" (He.ga K "all_rows") ["values", "many"] 1 (pr_all_rows K w)) (O_is_row_below : OkF P w K mg base "is_row_below" (He.ga K "is_row_below") ["flips", "one", "other"] 1 (pr_is_row_below K w)) (O_is_turned_right : OkF P w K mg base "is_turned_right" (He.ga K "is_turned_right") ["flag", "one", "other"] 1 (pr_is_turned_right K w)) (O_local_weights : OkF P w K mg base "local_weights" (He.ga K "local_weights") ["model", "place", "values"] 2 (pr_local_weights K w)) {cdv : Value} {A : Around} {outer : List Env} {s : Shared} {H : Hp} {E : XK} (hr : Room 2 (A.deeper (envOfC "rises_at" (defScope s_rises_at) s.heap.objs.size (He.ga K "rises_at") cdv))) : PSs (cxOf CX0 P w K mg base N_rises_at "rises_at" (defScope s_rises_at) (He.ga K "rises_at") cdv A outer s H E).nox (defBody s_rises_at) (t_rises_at K P w) :=
  (pss_cons (ps_set (i := 4) sc_rises_at.nd rfl (by first | exact Or.inl rfl | exact Or.inr rfl) (pe_lst pa_nil)) (pss_cons (ps_for PassesOwn.never rfl (pi_list (pe_cal O_all_rows (hr.mono (by decide)) rfl (pa_cons (pe_fld (pv 0) rfl) (pa_cons (pe_callB c_len rfl T.b_len (by decide +kernel) (pa_cons (pv 3) pa_nil)) pa_nil)))) (pg_name (i := 5) sc_rises_at.nd rfl (by first | exact Or.inl rfl | exact Or.inr rfl)) (pss_cons (ps_set (i := 6) sc_rises_at.nd rfl (by first | exact Or.inl rfl | exact Or.inr rfl) (pe_cal O_added_up (hr.mono (by decide)) rfl (pa_cons (pe_cal O_local_weights (hr.mono (by decide)) rfl (pa_cons (pv 0) (pa_cons (pv 1) (pa_cons (pv 5) pa_nil)))) pa_nil))) (pss_one (ps_if (pt_cmpR op_gt (pe_ix ix_list (pv 6) (pe_un un_neg pe_int) (fun _ _ => rfl)) pe_int (nomark _)) (pss_one (ps_expr (pe_bm PySem.F.plainAttrs_list PySem.F.slot_list_append PySem.F.type_list_append mt_append (pv 4) (pa_cons (pe_tup (pa_cons (pv 5) (pa_cons (pv 6) pa_nil))) pa_nil)))) pss_nil)))) (pss_cons (ps_for PassesOwn.never rfl (pi_list (pv 4)) (pg_tup rfl (pgs_cons (pg_name (i := 7) sc_rises_at.nd rfl (by first | exact Or.inl rfl | exact Or.inr rfl)) (pgs_cons (pg_name (i := 8) sc_rises_at.nd rfl (by first | exact Or.inl rfl | exact Or.inr rfl)) pgs_nil))) (pss_one (ps_for PassesOwn.never rfl (pi_list (pv 4)) (pg_tup rfl (pgs_cons (pg_name (i := 9) sc_rises_at.nd rfl (by first | exact Or.inl rfl | exact Or.inr rfl)) (pgs_cons (pg_name (i := 10) sc_rises_at.nd rfl (by first | exact Or.inl rfl | exact Or.inr rfl)) pgs_nil))) (pss_one (ps_if (PW.pt (pw_and (pt_val (pe_cal O_is_row_below (hr.mono (by decide)) rfl (pa_cons (pv 3) (pa_cons (pv 7) (pa_cons (pv 9) pa_nil))))) (pw_and1 (pt_not (pt_val (pe_cal O_is_turned_right (hr.mono (by decide)) rfl (pa_cons (pv 2) (pa_cons (pv 8) (pa_cons (pv 10) pa_nil))))))))) (pss_one (ps_ret pe_bl)) pss_nil))))) (pss_one (ps_ret pe_bl)))))
def N_rises_there : List PySem.Str := ["model", "flips", "place", "other"]
theorem sc_rises_there : FnScope N_rises_there ["model", "flips"] (defScope s_rises_there) := ⟨rfl, rfl, rfl, by decide +kernel, rfl, by decide +kernel, by decide +kernel⟩
def t_rises_there (K : PySem.W.Frag) (P : Program) (w : World) : TS := (tSeq (tFor (iRng1 (tCons (tFld K (tVar 0) "many") tNil)) (gName 2) (tIfS (tNot (tB (tCall (SpX (pr_rises_at K w)) [] E0 (tCons (tVar 0) (tCons (tVar 2) (tCons (tOp (rIxT K) (tVar 1) (tVar 2)) (tCons (tLc (iList K (tCall (SpX (pr_tied_places K w)) [] E0 (tCons (tVar 0) (tCons (tVar 2) tNil)))) (gName 3) tYes (tOp (rIxT K) (tVar 1) (tVar 3)) [3]) tNil))))))) (tRet (tC (.bl false))) tNext)) (tRet (tC (.bl true))))
theorem ps_rises_there (T : Tx K mg) (O_rises_at : OkF P w K mg base "rises_at" (He.ga K "rises_at") ["model", "place", "flag", "flips"] 3 (pr_rises_at K w)) (O_tied_places : OkF P w K mg base "tied_places" (He.ga K "tied_places") ["model", "place"] 2 (pr_tied_places K w)) {cdv : Value} {A : Around} {outer : List Env} {s : Shared} {H : Hp} {E : XK} (hr : Room 3 (A.deeper (envOfC "rises_there" (defScope s_rises_there) s.heap.objs.size (He.ga K "rises_there") cdv))) : PSs (cxOf CX0 P w K mg base N_rises_there "rises_there" (defScope s_rises_there) (He.ga K "rises_there") cdv A outer s H E).nox (defBody s_rises_there) (t_rises_there K P w) :=
  (pss_cons (ps_for PassesOwn.never rfl (pi_range1 rfl T.b_range (pa_cons (pe_fld (pv 0) rfl) pa_nil)) (pg_name (i := 2) sc_rises_there.nd rfl (by first | exact Or.inl rfl | exact Or.inr rfl)) (pss_one (ps_if (pt_not (pt_val (pe_cal O_rises_at (hr.mono (by decide)) rfl (pa_cons (pv 0) (pa_cons (pv 2) (pa_cons (pe_ix ix_tup (pv 1) (pv 2) (fun _ _ => rfl)) (pa_cons (pe_lc (own := [("other", 3)]) (g := (gName 3)) (tt := tYes) rfl sc_rises_there.nd (pi_list (pe_cal O_tied_places (hr.mono (by decide)) rfl (pa_cons (pv 0) (pa_cons (pv 2) pa_nil)))) (blkOk_by (own := [("other", 3)]) (N := N_rises_there) (sc := defScope s_rises_there) (by decide +kernel)) (fun _ _ _ _ _ => (pg_name (i := 3) sc_rises_there.nd rfl (by first | exact Or.inl rfl | exact Or.inr rfl))) (fun _ _ _ _ _ => pts_nil) (fun _ _ _ _ _ => (pe_ix ix_tup (pv 1) (pv 3) (fun _ _ => rfl)))) pa_nil))))))) (pss_one (ps_ret pe_bl)) pss_nil))) (pss_one (ps_ret pe_bl)))
def N_rises : List PySem.Str := ["model", "flips"]
theorem sc_rises : FnScope N_rises ["model", "flips"] (defScope s_rises) := ⟨rfl, rfl, rfl, by decide +kernel, rfl, by decide +kernel, by decide +kernel⟩
def t_rises (K : PySem.W.Frag) (P : Program) (w : World) : TS := (tSeq (tDrop (tCall (SpX (pr_check_flips K w)) [] E0 (tCons (tVar 0) (tCons (tVar 1) tNil)))) (tRet (tCall (SpX (pr_rises_there K w)) [] E0 (tCons (tVar 0) (tCons (tVar 1) tNil)))))
theorem ps_rises (T : Tx K mg) (O_check_flips : OkF P w K mg base "check_flips" (He.ga K "check_flips") ["model", "flips"] 2 (pr_check_flips K w)) (O_rises_there : OkF P w K mg base "rises_there" (He.ga K "rises_there") ["model", "flips"] 4 (pr_rises_there K w)) {cdv : Value} {A : Around} {outer : List Env} {s : Shared} {H : Hp} {E : XK} (hr : Room 4 (A.deeper (envOfC "rises" (defScope s_rises) s.heap.objs.size (He.ga K "rises") cdv))) : PSs (cxOf CX0 P w K mg base N_rises "rises" (defScope s_rises) (He.ga K "rises") cdv A outer s H E).nox (defBody s_rises) (t_rises K P w) :=
  (pss_cons (ps_expr (pe_cal O_check_flips (hr.mono (by decide)) rfl (pa_cons (pv 0) (pa_cons (pv 1) pa_nil)))) (pss_one (ps_ret (pe_cal O_rises_there (hr.mono (by decide)) rfl (pa_cons (pv 0) (pa_cons (pv 1) pa_nil))))))
def N_ends_by : List PySem.Str := ["model", "flips", "last", "flag"]
theorem sc_ends_by : FnScope N_ends_by ["model", "flips"] (defScope s_ends_by) := ⟨rfl, rfl, rfl, by decide +kernel, rfl, by decide +kernel, by decide +kernel⟩
def t_ends_by (K : PySem.W.Frag) (P : Program) (w : World) : TS := (tSeq (tAsg (tOp rSubI (tFld K (tVar 0) "levels") (tC (.int 1))) (gName 2)) (tRet (tTup (tCons (tCB (rTupQ K) (tCons (tLc (iTup K (tVar 1)) (gName 3) tYes (tIf (tB (tVar 3)) (tVar 2) (tC (.int 0))) [3]) tNil)) (tCons (tCB (rTupQ K) (tCons (tLc (iTup K (tVar 1)) (gName 3) tYes (tIf (tB (tVar 3)) (tC (.int 0)) (tVar 2)) [3]) tNil)) tNil)))))
theorem ps_ends_by (T : Tx K mg)  {cdv : Value} {A : Around} {outer : List Env} {s : Shared} {H : Hp} {E : XK} (hr : Room 0 (A.deeper (envOfC "ends_by" (defScope s_ends_by) s.heap.objs.size (He.ga K "ends_by") cdv))) : PSs (cxOf CX0 P w K mg base N_ends_by "ends_by" (defScope s_ends_by) (He.ga K "ends_by") cdv A outer s H E).nox (defBody s_ends_by) (t_ends_by K P w) :=
  (pss_cons (ps_set (i := 2) sc_ends_by.nd rfl (by first | exact Or.inl rfl | exact Or.inr rfl) (pe_op op_sub (pe_fld (pv 0) rfl) pe_int)) (pss_one (ps_ret (pe_tup (pa_cons (pe_callTy c_tuple rfl T.b_tuple (by decide +kernel) (pa_cons (pe_lc (own := [("flag", 3)]) (g := (gName 3)) (tt := tYes) rfl sc_ends_by.nd (pi_tup (pv 1)) (blkOk_by (own := [("flag", 3)]) (N := N_ends_by) (sc := defScope s_ends_by) (by decide +kernel)) (fun _ _ _ _ _ => (pg_name (i := 3) sc_ends_by.nd rfl (by first | exact Or.inl rfl | exact Or.inr rfl))) (fun _ _ _ _ _ => pts_nil) (fun _ _ _ _ _ => (pe_ifExp (pt_val (pv 3)) (pv 2) pe_int))) pa_nil)) (pa_cons (pe_callTy c_tuple rfl T.b_tuple (by decide +kernel) (pa_cons (pe_lc (own := [("flag", 3)]) (g := (gName 3)) (tt := tYes) rfl sc_ends_by.nd (pi_tup (pv 1)) (blkOk_by (own := [("flag", 3)]) (N := N_ends_by) (sc := defScope s_ends_by) (by decide +kernel)) (fun _ _ _ _ _ => (pg_name (i := 3) sc_ends_by.nd rfl (by first | exact Or.inl rfl | exact Or.inr rfl))) (fun _ _ _ _ _ => pts_nil) (fun _ _ _ _ _ => (pe_ifExp (pt_val (pv 3)) pe_int (pv 2)))) pa_nil)) pa_nil))))))
def N_do_ends_fit : List PySem.Str := ["model", "flips", "picture"]
theorem sc_do_ends_fit : FnScope N_do_ends_fit ["model", "flips"] (defScope s_do_ends_fit) := ⟨rfl, rfl, rfl, by decide +kernel, rfl, by decide +kernel, by decide +kernel⟩
def t_do_ends_fit (K : PySem.W.Frag) (P : Program) (w : World) : TS := (tRet (tCB (rAll K) (tCons (tLc (iTup K (tCall (SpX (pr_ends_by K w)) [] E0 (tCons (tVar 0) (tCons (tVar 1) tNil)))) (gName 2) tYes (tOp rGtI (tCall (SpX (pr_weight_there K w)) [] E0 (tCons (tVar 0) (tCons (tVar 2) tNil))) (tC (.int 0))) [2]) tNil)))
theorem ps_do_ends_fit (T : Tx K mg) (O_ends_by : OkF P w K mg base "ends_by" (He.ga K "ends_by") ["model", "flips"] 1 (pr_ends_by K w)) (O_weight_there : OkF P w K mg base "weight_there" (He.ga K "weight_there") ["model", "picture"] 1 (pr_weight_there K w)) {cdv : Value} {A : Around} {outer : List Env} {s : Shared} {H : Hp} {E : XK} (hr : Room 1 (A.deeper (envOfC "do_ends_fit" (defScope s_do_ends_fit) s.heap.objs.size (He.ga K "do_ends_fit") cdv))) : PSs (cxOf CX0 P w K mg base N_do_ends_fit "do_ends_fit" (defScope s_do_ends_fit) (He.ga K "do_ends_fit") cdv A outer s H E).nox (defBody s_do_ends_fit) (t_do_ends_fit K P w) :=
  (pss_one (ps_ret (pe_callB (cr_all rfl) rfl T.b_all (by decide +kernel) (pa_cons (pe_lc (own := [("picture", 2)]) (g := (gName 2)) (tt := tYes) rfl sc_do_ends_fit.nd (pi_tup (pe_cal O_ends_by (hr.mono (by decide)) rfl (pa_cons (pv 0) (pa_cons (pv 1) pa_nil)))) (blkOk_by (own := [("picture", 2)]) (N := N_do_ends_fit) (sc := defScope s_do_ends_fit) (by decide +kernel)) (fun _ _ _ _ _ => (pg_name (i := 2) sc_do_ends_fit.nd rfl (by first | exact Or.inl rfl | exact Or.inr rfl))) (fun _ _ _ _ _ => pts_nil) (fun _ _ _ _ _ => (pe_cmpR op_gt (pe_cal O_weight_there (hr.mono (by decide)) rfl (pa_cons (pv 0) (pa_cons (pv 2) pa_nil))) pe_int (nomark _)))) pa_nil))))
def N_ends_of : List PySem.Str := ["model", "flips"]
theorem sc_ends_of : FnScope N_ends_of ["model", "flips"] (defScope s_ends_of) := ⟨rfl, rfl, rfl, by decide +kernel, rfl, by decide +kernel, by decide +kernel⟩
def t_ends_of (K : PySem.W.Frag) (P : Program) (w : World) : TS := (tSeq (tDrop (tCall (SpX (pr_check_flips K w)) [] E0 (tCons (tVar 0) (tCons (tVar 1) tNil)))) (tSeq (tIfS (tNot (tB (tCall (SpX (pr_do_ends_fit K w)) [] E0 (tCons (tVar 0) (tCons (tVar 1) tNil))))) tNever tNext) (tRet (tCall (SpX (pr_ends_by K w)) [] E0 (tCons (tVar 0) (tCons (tVar 1) tNil))))))
theorem ps_ends_of (T : Tx K mg) (O_check_flips : OkF P w K mg base "check_flips" (He.ga K "check_flips") ["model", "flips"] 2 (pr_check_flips K w)) (O_do_ends_fit : OkF P w K mg base "do_ends_fit" (He.ga K "do_ends_fit") ["model", "flips"] 2 (pr_do_ends_fit K w)) (O_ends_by : OkF P w K mg base "ends_by" (He.ga K "ends_by") ["model", "flips"] 1 (pr_ends_by K w)) {cdv : Value} {A : Around} {outer : List Env} {s : Shared} {H : Hp} {E : XK} (hr : Room 2 (A.deeper (envOfC "ends_of" (defScope s_ends_of) s.heap.objs.size (He.ga K "ends_of") cdv))) : PSs (cxOf CX0 P w K mg base N_ends_of "ends_of" (defScope s_ends_of) (He.ga K "ends_of") cdv A outer s H E).nox (defBody s_ends_of) (t_ends_of K P w) :=
  (pss_cons (ps_expr (pe_cal O_check_flips (hr.mono (by decide)) rfl (pa_cons (pv 0) (pa_cons (pv 1) pa_nil)))) (pss_cons (ps_if (pt_not (pt_val (pe_cal O_do_ends_fit (hr.mono (by decide)) rfl (pa_cons (pv 0) (pa_cons (pv 1) pa_nil))))) (pss_one ps_never) pss_nil) (pss_one (ps_ret (pe_cal O_ends_by (hr.mono (by decide)) rfl (pa_cons (pv 0) (pa_cons (pv 1) pa_nil)))))))
def N_may_rise : List PySem.Str := ["model", "begun", "known", "place", "tied", "row", "other"]
theorem sc_may_rise : FnScope N_may_rise ["model", "begun", "known"] (defScope s_may_rise) := ⟨rfl, rfl, rfl, by decide +kernel, rfl, by decide +kernel, by decide +kernel⟩
def t_may_rise (K : PySem.W.Frag) (P : Program) (w : World) : TS := (tSeq (tFor (iRng1 (tCons (tCB (rLenQ K) (tCons (tVar 1) tNil)) tNil)) (gName 3) (tSeq (tAsg (tCall (SpX (pr_tied_places K w)) [] E0 (tCons (tVar 0) (tCons (tVar 3) tNil))) (gName 4)) (tIfS (tTest (tOp rEq (tCB (rMax K) (tCons (tOp rCat (tLst (tCons (tVar 3) tNil)) (tVar 4)) tNil)) (tOp rSubI (tCB (rLenQ K) (tCons (tVar 1) tNil)) (tC (.int 1))))) (tSeq (tAsg (tOp (rCatA K) (tTup (tCons (tVar 3) (tCons (tOp (rIxT K) (tVar 1) (tVar 3)) tNil))) (tCB (rTupQ K) (tCons (tLc (iList K (tVar 4)) (gName 6) tYes (tOp (rIxT K) (tVar 1) (tVar 6)) [6]) tNil))) (gName 5)) (tSeq (tIfS (tB (tKNotIn w (tVar 5) (tVar 2))) (sKPut w (tVar 2) (tVar 5) (tCall (SpX (pr_rises_at K w)) [] E0 (tCons (tVar 0) (tCons (tVar 3) (tCons (tOp (rIxT K) (tVar 5) (tC (.int 1))) (tCons (tCB (rLstQ K) (tCons (tSl (rSlA K) (tVar 5) (tPart (tC (.int 2))) tNoPart) tNil)) tNil)))))) tNext) (tIfS (tNot (tB (tKGet w (tVar 2) (tVar 5)))) (tRet (tC (.bl false))) tNext))) tNext))) (tRet (tC (.bl true))))
theorem ps_may_rise (T : Tx K mg) (O_rises_at : OkF P w K mg base "rises_at" (He.ga K "rises_at") ["model", "place", "flag", "flips"] 3 (pr_rises_at K w)) (O_tied_places : OkF P w K mg base "tied_places" (He.ga K "tied_places") ["model", "place"] 2 (pr_tied_places K w)) {cdv : Value} {A : Around} {outer : List Env} {s : Shared} {H : Hp} {E : XK} (hr : Room 3 (A.deeper (envOfC "may_rise" (defScope s_may_rise) s.heap.objs.size (He.ga K "may_rise") cdv))) : PSs (cxOf CX0 P w K mg base N_may_rise "may_rise" (defScope s_may_rise) (He.ga K "may_rise") cdv A outer s H E).nox (defBody s_may_rise) (t_may_rise K P w) :=
  (pss_cons (ps_for PassesOwn.never rfl (pi_range1 rfl T.b_range (pa_cons (pe_callB c_len rfl T.b_len (by decide +kernel) (pa_cons (pv 1) pa_nil)) pa_nil)) (pg_name (i := 3) sc_may_rise.nd rfl (by first | exact Or.inl rfl | exact Or.inr rfl)) (pss_cons (ps_set (i := 4) sc_may_rise.nd rfl (by first | exact Or.inl rfl | exact Or.inr rfl) (pe_cal O_tied_places (hr.mono (by decide)) rfl (pa_cons (pv 0) (pa_cons (pv 3) pa_nil)))) (pss_one (ps_if (pt_cmpR op_eq (pe_callB (cr_max rfl) rfl T.b_max (by decide +kernel) (pa_cons (pe_op op_cat (pe_lst (pa_cons (pv 3) pa_nil)) (pv 4)) pa_nil)) (pe_op op_sub (pe_callB c_len rfl T.b_len (by decide +kernel) (pa_cons (pv 1) pa_nil)) pe_int) (nomark _)) (pss_cons (ps_set (i := 5) sc_may_rise.nd rfl (by first | exact Or.inl rfl | exact Or.inr rfl) (pe_op op_catA (pe_tup (pa_cons (pv 3) (pa_cons (pe_ix ix_tup (pv 1) (pv 3) (fun _ _ => rfl)) pa_nil))) (pe_callTy c_tuple rfl T.b_tuple (by decide +kernel) (pa_cons (pe_lc (own := [("other", 6)]) (g := (gName 6)) (tt := tYes) rfl sc_may_rise.nd (pi_list (pv 4)) (blkOk_by (own := [("other", 6)]) (N := N_may_rise) (sc := defScope s_may_rise) (by decide +kernel)) (fun _ _ _ _ _ => (pg_name (i := 6) sc_may_rise.nd rfl (by first | exact Or.inl rfl | exact Or.inr rfl))) (fun _ _ _ _ _ => pts_nil) (fun _ _ _ _ _ => (pe_ix ix_tup (pv 1) (pv 6) (fun _ _ => rfl)))) pa_nil)))) (pss_cons (ps_if (pt_cmp (pc_knotin (hu64 hr) (pv 5) (pv 2))) (pss_one (ps_kput (hu64 hr) (pv 2) (pv 5) (pe_cal O_rises_at (hr.mono (by decide)) rfl (pa_cons (pv 0) (pa_cons (pv 3) (pa_cons (pe_ix ix_tup (pv 5) pe_int (fun _ _ => rfl)) (pa_cons (pe_callTy c_list rfl T.b_list (by decide +kernel) (pa_cons (pe_slice sl_tupA (pv 5) (po_some pe_int) po_none) pa_nil)) pa_nil))))) rfl)) pss_nil) (pss_one (ps_if (pt_not (pt_val (pe_kget (hu64 hr) (pv 2) (pv 5) (fun _ _ => rfl)))) (pss_one (ps_ret pe_bl)) pss_nil)))) pss_nil)))) (pss_one (ps_ret pe_bl)))
def N_flips_for : List PySem.Str := ["model", "waiting", "known", "begun"]
theorem sc_flips_for : FnScope N_flips_for ["model"] (defScope s_flips_for) := ⟨rfl, rfl, rfl, by decide +kernel, rfl, by decide +kernel, by decide +kernel⟩
def t_flips_for (K : PySem.W.Frag) (P : Program) (w : World) : TS := (tSeq (tAsg (tLst (tCons (tTup tNil) tNil)) (gName 1)) (tSeq (tAsg (tKNew w) (gName 2)) (tSeq (tWhile (tTest (tOp rGtI (tCB (rLenQ K) (tCons (tVar 1) tNil)) (tC (.int 0)))) (tSeq (tAsg (tBM0 K "list" rPop (tVar 1)) (gName 3)) (tIfS (tB (tCall (SpX (pr_may_rise K w)) [] E0 (tCons (tVar 0) (tCons (tVar 3) (tCons (tVar 2) tNil))))) (tIfS (tTest (tOp rLtI (tCB (rLenQ K) (tCons (tVar 3) tNil)) (tFld K (tVar 0) "many"))) (tDrop (tBM K "list" rExtend (tVar 1) (tCons (tLst (tCons (tOp (rCatA K) (tVar 3) (tTup (tCons (tC (.bl true)) tNil))) (tCons (tOp (rCatA K) (tVar 3) (tTup (tCons (tC (.bl false)) tNil))) tNil))) tNil))) (tIfS (tB (tCall (SpX (pr_do_ends_fit K w)) [] E0 (tCons (tVar 0) (tCons (tVar 3) tNil)))) (tRet (tVar 3)) tNext)) tNext))) (tRet (tC .non)))))
theorem ps_flips_for (T : Tx K mg) (O_do_ends_fit : OkF P w K mg base "do_ends_fit" (He.ga K "do_ends_fit") ["model", "flips"] 2 (pr_do_ends_fit K w)) (O_may_rise : OkF P w K mg base "may_rise" (He.ga K "may_rise") ["model", "begun", "known"] 4 (pr_may_rise K w)) {cdv : Value} {A : Around} {outer : List Env} {s : Shared} {H : Hp} {E : XK} (hr : Room 4 (A.deeper (envOfC "flips_for" (defScope s_flips_for) s.heap.objs.size (He.ga K "flips_for") cdv))) : PSs (cxOf CX0 P w K mg base N_flips_for "flips_for" (defScope s_flips_for) (He.ga K "flips_for") cdv A outer s H E).nox (defBody s_flips_for) (t_flips_for K P w) :=
  (pss_cons (ps_set (i := 1) sc_flips_for.nd rfl (by first | exact Or.inl rfl | exact Or.inr rfl) (pe_lst (pa_cons (pe_tup pa_nil) pa_nil))) (pss_cons (ps_set (i := 2) sc_flips_for.nd rfl (by first | exact Or.inl rfl | exact Or.inr rfl) pe_knew) (pss_cons (ps_while PassesOwn.never (pt_cmpR op_gt (pe_callB c_len rfl T.b_len (by decide +kernel) (pa_cons (pv 1) pa_nil)) pe_int (nomark _)) (pss_cons (ps_set (i := 3) sc_flips_for.nd rfl (by first | exact Or.inl rfl | exact Or.inr rfl) (pe_bm0 PySem.F.plainAttrs_list PySem.F.slot_list_pop PySem.F.type_list_pop mt_pop (pv 1))) (pss_one (ps_if (pt_val (pe_cal O_may_rise (hr.mono (by decide)) rfl (pa_cons (pv 0) (pa_cons (pv 3) (pa_cons (pv 2) pa_nil))))) (pss_one (ps_if (pt_cmpR op_lt (pe_callB c_len rfl T.b_len (by decide +kernel) (pa_cons (pv 3) pa_nil)) (pe_fld (pv 0) rfl) (nomark _)) (pss_one (ps_expr (pe_bm PySem.F.plainAttrs_list PySem.F.slot_list_extend PySem.F.type_list_extend mt_extend (pv 1) (pa_cons (pe_lst (pa_cons (pe_op op_catA (pv 3) (pe_tup (pa_cons pe_bl pa_nil))) (pa_cons (pe_op op_catA (pv 3) (pe_tup (pa_cons pe_bl pa_nil))) pa_nil))) pa_nil)))) (pss_one (ps_if (pt_val (pe_cal O_do_ends_fit (hr.mono (by decide)) rfl (pa_cons (pv 0) (pa_cons (pv 3) pa_nil)))) (pss_one (ps_ret (pv 3))) pss_nil)))) pss_nil)))) (pss_one (ps_ret pe_non)))))
end
end Ly
namespace Ly
open PySem PySem.Spec PyProof.Rows L2
section
variable {P : Program} {w : World} {K : PySem.W.Frag} {mg : Str → Option Value} {base : Heap}
def N_law_hand : List PySem.Str := ["_law_script", "_law_cells", "_law_cell"]
theorem sc_law_hand : FnScope N_law_hand ["_law_script"] (defScope s_law_hand) := ⟨rfl, rfl, rfl, by decide +kernel, rfl, by decide +kernel, by decide +kernel⟩
def t_law_hand (K : PySem.W.Frag) (P : Program) (w : World) : TS := (tSeq (tAsg (tLc (iList K (tSl (rSlL K) (tVar 0) tNoPart (tPart (tC (.int 63))))) (gName 2) tYes (tCB rAbs (tCons (tCB rInt1 (tCons (tVar 2) tNil)) tNil)) [2]) (gName 1)) (tRet (tDisp [((tC (.str "cells")), (tVar 1)), ((tC (.str "at")), (tC (.int 0))), ((tC (.str "great")), (tC (.int 0))), ((tC (.str "seed")), (tOp rAddI (tC (.int 977)) (tCB (rLenQ K) (tCons (tVar 1) tNil)))), ((tC (.str "turn")), (tC (.int 0)))])))
theorem ps_law_hand (T : Tx K mg)  {cdv : Value} {A : Around} {outer : List Env} {s : Shared} {H : Hp} {E : XK} (hr : Room 0 (A.deeper (envOfC "_law_hand" (defScope s_law_hand) s.heap.objs.size (He.ga K "_law_hand") cdv))) : PSs (cxOf CX0 P w K mg base N_law_hand "_law_hand" (defScope s_law_hand) (He.ga K "_law_hand") cdv A outer s H E).nox (defBody s_law_hand) (t_law_hand K P w) :=
  (pss_cons (ps_setLc (i := 1) (own := [("_law_cell", 2)]) (g := (gName 2)) (tt := tYes) rfl sc_law_hand.nd rfl rfl (sw_true rfl rfl rfl (by decide +kernel)) (pi_list (pe_slice sl_list (pv 0) po_none (po_some pe_int))) (blkOk_by (own := [("_law_cell", 2)]) (N := N_law_hand) (sc := defScope s_law_hand) (by decide +kernel)) (fun _ _ _ _ _ => (pg_name (i := 2) sc_law_hand.nd rfl (by first | exact Or.inl rfl | exact Or.inr rfl))) (fun _ _ _ _ _ => pts_nil) (fun _ _ _ _ _ => (pe_callB c_abs rfl T.b_abs (by decide +kernel) (pa_cons (pe_callTy c_int rfl T.b_int (by decide +kernel) (pa_cons (pv 2) pa_nil)) pa_nil)))) (pss_one (ps_ret (pe_disp (pps_cons pe_str (pv 1) (pps_cons pe_str pe_int (pps_cons pe_str pe_int (pps_cons pe_str (pe_op op_add pe_int (pe_callB c_len rfl T.b_len (by decide +kernel) (pa_cons (pv 1) pa_nil))) (pps_cons pe_str pe_int pps_nil))))) (by rfl) (by rfl) (fun z => by cases z) (by decide)))))
def N_law_draw : List PySem.Str := ["_law_hand_here", "_law_many", "_law_cell", "_law_digit", "_law_number"]
theorem sc_law_draw : FnScope N_law_draw ["_law_hand_here", "_law_many"] (defScope s_law_draw) := ⟨rfl, rfl, rfl, by decide +kernel, rfl, by decide +kernel, by decide +kernel⟩
def t_law_draw (K : PySem.W.Frag) (P : Program) (w : World) : TS := (tSeq (tIfS (tAnd (tTest (tOp rEq (tDGet (tVar 0) (tC (.str "great"))) (tC (.int 0)))) (tTest (tOp rLtI (tDGet (tVar 0) (tC (.str "at"))) (tCB (rLenQ K) (tCons (tDGet (tVar 0) (tC (.str "cells"))) tNil))))) (tSeq (tAsg (tOp (rIxL K) (tDGet (tVar 0) (tC (.str "cells"))) (tDGet (tVar 0) (tC (.str "at")))) (gName 2)) (tSeq (sDPut (tVar 0) (tC (.str "at")) (tOp rAddI (tDGet (tVar 0) (tC (.str "at"))) (tC (.int 1)))) (tSeq (sDPut (tVar 0) (tC (.str "seed")) (tOp rModI (tCB rInt1 (tCons (tOp rAddI (tOp rAddI (tOp rMulI (tDGet (tVar 0) (tC (.str "seed"))) (tC (.int 48271))) (tVar 2)) (tC (.int 7))) tNil)) (tC (.int 2147483629)))) (tIfS (tTest (tOp rGeI (tVar 2) (tOp rPowI (tC (.int 10)) (tC (.int 18))))) (sDPut (tVar 0) (tC (.str "great")) (tVar 2)) tNext)))) tNext) (tSeq (tIfS (tTest (tOp rGtI (tDGet (tVar 0) (tC (.str "great"))) (tC (.int 0)))) (tSeq (tAsg (tOp rModI (tCB rInt1 (tCons (tDGet (tVar 0) (tC (.str "great"))) tNil)) (tVar 1)) (gName 3)) (tSeq (sDPut (tVar 0) (tC (.str "great")) (tOp rDivI (tDGet (tVar 0) (tC (.str "great"))) (tVar 1))) (tRet (tVar 3)))) tNext) (tSeq (sDPut (tVar 0) (tC (.str "turn")) (tOp rAddI (tDGet (tVar 0) (tC (.str "turn"))) (tC (.int 1)))) (tSeq (tAsg (tOp rModI (tCB rInt1 (tCons (tOp rMulI (tCB rInt1 (tCons (tOp rAddI (tOp rAddI (tDGet (tVar 0) (tC (.str "seed"))) (tC (.int 1))) (tOp rMulI (tC (.int 7919)) (tDGet (tVar 0) (tC (.str "turn"))))) tNil)) (tC (.int 69621))) tNil)) (tC (.int 2147483647))) (gName 4)) (tSeq (tAsg (tOp rModI (tCB rInt1 (tCons (tOp rMulI (tVar 4) (tOp rAddI (tOp rDivI (tVar 4) (tC (.int 1009))) (tC (.int 48271)))) tNil)) (tC (.int 2147483647))) (gName 4)) (tSeq (tAsg (tOp rModI (tCB rInt1 (tCons (tOp rMulI (tVar 4) (tOp rAddI (tOp rDivI (tVar 4) (tC (.int 2003))) (tC (.int 40692)))) tNil)) (tC (.int 2147483399))) (gName 4)) (tRet (tOp rModI (tCB rInt1 (tCons (tOp rDivI (tVar 4) (tC (.int 16))) tNil)) (tVar 1)))))))))
theorem ps_law_draw (T : Tx K mg)  {cdv : Value} {A : Around} {outer : List Env} {s : Shared} {H : Hp} {E : XK} (hr : Room 0 (A.deeper (envOfC "_law_draw" (defScope s_law_draw) s.heap.objs.size (He.ga K "_law_draw") cdv))) : PSs (cxOf CX0 P w K mg base N_law_draw "_law_draw" (defScope s_law_draw) (He.ga K "_law_draw") cdv A outer s H E).nox (defBody s_law_draw) (t_law_draw K P w) :=
  (pss_cons (ps_if (PW.pt (pw_and (pt_cmpR op_eq (pe_dget (hu_of hr) (pv 0) pe_str (fun _ _ => rfl)) pe_int (nomark _)) (pw_and1 (pt_cmpR op_lt (pe_dget (hu_of hr) (pv 0) pe_str (fun _ _ => rfl)) (pe_callB c_len rfl T.b_len (by decide +kernel) (pa_cons (pe_dget (hu_of hr) (pv 0) pe_str (fun _ _ => rfl)) pa_nil)) (nomark _))))) (pss_cons (ps_set (i := 2) sc_law_draw.nd rfl (by first | exact Or.inl rfl | exact Or.inr rfl) (pe_ix ix_list (pe_dget (hu_of hr) (pv 0) pe_str (fun _ _ => rfl)) (pe_dget (hu_of hr) (pv 0) pe_str (fun _ _ => rfl)) (fun _ _ => rfl))) (pss_cons (ps_dput (hu_of hr) (pv 0) pe_str (pe_op op_add (pe_dget (hu_of hr) (pv 0) pe_str (fun _ _ => rfl)) pe_int) rfl) (pss_cons (ps_dput (hu_of hr) (pv 0) pe_str (pe_op op_mod (pe_callTy c_int rfl T.b_int (by decide +kernel) (pa_cons (pe_op op_add (pe_op op_add (pe_op op_mul (pe_dget (hu_of hr) (pv 0) pe_str (fun _ _ => rfl)) pe_int) (pv 2)) pe_int) pa_nil)) pe_int) rfl) (pss_one (ps_if (pt_cmpR op_ge (pv 2) (pe_op op_pow pe_int pe_int) (nomark _)) (pss_one (ps_dput (hu_of hr) (pv 0) pe_str (pv 2) rfl)) pss_nil))))) pss_nil) (pss_cons (ps_if (pt_cmpR op_gt (pe_dget (hu_of hr) (pv 0) pe_str (fun _ _ => rfl)) pe_int (nomark _)) (pss_cons (ps_set (i := 3) sc_law_draw.nd rfl (by first | exact Or.inl rfl | exact Or.inr rfl) (pe_op op_mod (pe_callTy c_int rfl T.b_int (by decide +kernel) (pa_cons (pe_dget (hu_of hr) (pv 0) pe_str (fun _ _ => rfl)) pa_nil)) (pv 1))) (pss_cons (ps_dput (hu_of hr) (pv 0) pe_str (pe_op op_fdiv (pe_dget (hu_of hr) (pv 0) pe_str (fun _ _ => rfl)) (pv 1)) rfl) (pss_one (ps_ret (pv 3))))) pss_nil) (pss_cons (ps_dput (hu_of hr) (pv 0) pe_str (pe_op op_add (pe_dget (hu_of hr) (pv 0) pe_str (fun _ _ => rfl)) pe_int) rfl) (pss_cons (ps_set (i := 4) sc_law_draw.nd rfl (by first | exact Or.inl rfl | exact Or.inr rfl) (pe_op op_mod (pe_callTy c_int rfl T.b_int (by decide +kernel) (pa_cons (pe_op op_mul (pe_callTy c_int rfl T.b_int (by decide +kernel) (pa_cons (pe_op op_add (pe_op op_add (pe_dget (hu_of hr) (pv 0) pe_str (fun _ _ => rfl)) pe_int) (pe_op op_mul pe_int (pe_dget (hu_of hr) (pv 0) pe_str (fun _ _ => rfl)))) pa_nil)) pe_int) pa_nil)) pe_int)) (pss_cons (ps_set (i := 4) sc_law_draw.nd rfl (by first | exact Or.inl rfl | exact Or.inr rfl) (pe_op op_mod (pe_callTy c_int rfl T.b_int (by decide +kernel) (pa_cons (pe_op op_mul (pv 4) (pe_op op_add (pe_op op_fdiv (pv 4) pe_int) pe_int)) pa_nil)) pe_int)) (pss_cons (ps_set (i := 4) sc_law_draw.nd rfl (by first | exact Or.inl rfl | exact Or.inr rfl) (pe_op op_mod (pe_callTy c_int rfl T.b_int (by decide +kernel) (pa_cons (pe_op op_mul (pv 4) (pe_op op_add (pe_op op_fdiv (pv 4) pe_int) pe_int)) pa_nil)) pe_int)) (pss_one (ps_ret (pe_op op_mod (pe_callTy c_int rfl T.b_int (by decide +kernel) (pa_cons (pe_op op_fdiv (pv 4) pe_int) pa_nil)) (pv 1))))))))))
def N_law_any : List PySem.Str := ["_law_hand_here", "_law_things"]
theorem sc_law_any : FnScope N_law_any ["_law_hand_here", "_law_things"] (defScope s_law_any) := ⟨rfl, rfl, rfl, by decide +kernel, rfl, by decide +kernel, by decide +kernel⟩
def t_law_any (K : PySem.W.Frag) (P : Program) (w : World) : TS := (tRet (tOp (rIxL K) (tVar 1) (tCall (SpX (pr_law_draw K w)) [] E0 (tCons (tVar 0) (tCons (tCB (rLenQ K) (tCons (tVar 1) tNil)) tNil)))))
theorem ps_law_any (T : Tx K mg) (O_law_draw : OkF P w K mg base "_law_draw" (He.ga K "_law_draw") ["_law_hand_here", "_law_many"] 1 (pr_law_draw K w)) {cdv : Value} {A : Around} {outer : List Env} {s : Shared} {H : Hp} {E : XK} (hr : Room 1 (A.deeper (envOfC "_law_any" (defScope s_law_any) s.heap.objs.size (He.ga K "_law_any") cdv))) : PSs (cxOf CX0 P w K mg base N_law_any "_law_any" (defScope s_law_any) (He.ga K "_law_any") cdv A outer s H E).nox (defBody s_law_any) (t_law_any K P w) :=
  (pss_one (ps_ret (pe_ix ix_list (pv 1) (pe_cal O_law_draw (hr.mono (by decide)) rfl (pa_cons (pv 0) (pa_cons (pe_callB c_len rfl T.b_len (by decide +kernel) (pa_cons (pv 1) pa_nil)) pa_nil))) (fun _ _ => rfl))))
def N_law_near : List PySem.Str := ["_law_model_here", "_law_place", "_law_found", "_law_one", "_law_other", "_law_table_here"]
theorem sc_law_near : FnScope N_law_near ["_law_model_here", "_law_place"] (defScope s_law_near) := ⟨rfl, rfl, rfl, by decide +kernel, rfl, by decide +kernel, by decide +kernel⟩
def t_law_near (K : PySem.W.Frag) (P : Program) (w : World) : TS := (tSeq (tAsg (tLst tNil) (gName 2)) (tSeq (tFor (iTup K (tDGet (tVar 0) (tC (.str "ties")))) (gTup K 3 (gCons (gName 3) (gCons (gName 4) (gCons (gName 5) gNil)))) (tDrop (tBM K "list" rExtend (tVar 2) (tCons (tIf (tTest (tOp rEq (tVar 3) (tVar 1))) (tLst (tCons (tVar 4) tNil)) (tIf (tTest (tOp rEq (tVar 4) (tVar 1))) (tLst (tCons (tVar 3) tNil)) (tLst tNil))) tNil)))) (tRet (tCB (rSorted K) (tCons (tVar 2) tNil)))))
theorem ps_law_near (T : Tx K mg)  {cdv : Value} {A : Around} {outer : List Env} {s : Shared} {H : Hp} {E : XK} (hr : Room 0 (A.deeper (envOfC "_law_near" (defScope s_law_near) s.heap.objs.size (He.ga K "_law_near") cdv))) : PSs (cxOf CX0 P w K mg base N_law_near "_law_near" (defScope s_law_near) (He.ga K "_law_near") cdv A outer s H E).nox (defBody s_law_near) (t_law_near K P w) :=
  (pss_cons (ps_set (i := 2) sc_law_near.nd rfl (by first | exact Or.inl rfl | exact Or.inr rfl) (pe_lst pa_nil)) (pss_cons (ps_for PassesOwn.never rfl (pi_tup (pe_dget (hu_of hr) (pv 0) pe_str (fun _ _ => rfl))) (pg_tup rfl (pgs_cons (pg_name (i := 3) sc_law_near.nd rfl (by first | exact Or.inl rfl | exact Or.inr rfl)) (pgs_cons (pg_name (i := 4) sc_law_near.nd rfl (by first | exact Or.inl rfl | exact Or.inr rfl)) (pgs_cons (pg_name (i := 5) sc_law_near.nd rfl (by first | exact Or.inl rfl | exact Or.inr rfl)) pgs_nil)))) (pss_one (ps_expr (pe_bm PySem.F.plainAttrs_list PySem.F.slot_list_extend PySem.F.type_list_extend mt_extend (pv 2) (pa_cons (pe_ifExp (pt_cmpR op_eq (pv 3) (pv 1) (nomark _)) (pe_lst (pa_cons (pv 4) pa_nil)) (pe_ifExp (pt_cmpR op_eq (pv 4) (pv 1) (nomark _)) (pe_lst (pa_cons (pv 3) pa_nil)) (pe_lst pa_nil))) pa_nil))))) (pss_one (ps_ret (pe_callB cr_sorted rfl T.b_sorted (by decide +kernel) (pa_cons (pv 2) pa_nil))))))
def N_law_local : List PySem.Str := ["_law_model_here", "_law_place", "_law_seen", "_law_found", "_law_value", "_law_weight_here", "_law_one", "_law_other", "_law_table_here"]
theorem sc_law_local : FnScope N_law_local ["_law_model_here", "_law_place", "_law_seen"] (defScope s_law_local) := ⟨rfl, rfl, rfl, by decide +kernel, rfl, by decide +kernel, by decide +kernel⟩
def t_law_local (K : PySem.W.Frag) (P : Program) (w : World) : TS := (tSeq (tAsg (tLst tNil) (gName 3)) (tSeq (tFor (iRng1 (tCons (tDGet (tVar 0) (tC (.str "levels"))) tNil)) (gName 4) (tSeq (tAsg (tOp (rIxT K) (tOp (rIxT K) (tDGet (tVar 0) (tC (.str "weights"))) (tVar 1)) (tVar 4)) (gName 5)) (tSeq (tFor (iTup K (tDGet (tVar 0) (tC (.str "ties")))) (gTup K 3 (gCons (gName 6) (gCons (gName 7) (gCons (gName 8) gNil)))) (tIfS (tTest (tOp rEq (tVar 6) (tVar 1))) (tAsg (tOp rMulI (tVar 5) (tOp (rIxT K) (tOp (rIxT K) (tVar 8) (tVar 4)) (tDGet (tVar 2) (tVar 7)))) (gName 5)) (tIfS (tTest (tOp rEq (tVar 7) (tVar 1))) (tAsg (tOp rMulI (tVar 5) (tOp (rIxT K) (tOp (rIxT K) (tVar 8) (tDGet (tVar 2) (tVar 6))) (tVar 4))) (gName 5)) tNext))) (tDrop (tBM K "list" rAppend (tVar 3) (tCons (tVar 5) tNil)))))) (tRet (tVar 3))))
theorem ps_law_local (T : Tx K mg)  {cdv : Value} {A : Around} {outer : List Env} {s : Shared} {H : Hp} {E : XK} (hr : Room 0 (A.deeper (envOfC "_law_local" (defScope s_law_local) s.heap.objs.size (He.ga K "_law_local") cdv))) : PSs (cxOf CX0 P w K mg base N_law_local "_law_local" (defScope s_law_local) (He.ga K "_law_local") cdv A outer s H E).nox (defBody s_law_local) (t_law_local K P w) :=
  (pss_cons (ps_set (i := 3) sc_law_local.nd rfl (by first | exact Or.inl rfl | exact Or.inr rfl) (pe_lst pa_nil)) (pss_cons (ps_for PassesOwn.never rfl (pi_range1 rfl T.b_range (pa_cons (pe_dget (hu_of hr) (pv 0) pe_str (fun _ _ => rfl)) pa_nil)) (pg_name (i := 4) sc_law_local.nd rfl (by first | exact Or.inl rfl | exact Or.inr rfl)) (pss_cons (ps_set (i := 5) sc_law_local.nd rfl (by first | exact Or.inl rfl | exact Or.inr rfl) (pe_ix ix_tup (pe_ix ix_tup (pe_dget (hu_of hr) (pv 0) pe_str (fun _ _ => rfl)) (pv 1) (fun _ _ => rfl)) (pv 4) (fun _ _ => rfl))) (pss_cons (ps_for PassesOwn.never rfl (pi_tup (pe_dget (hu_of hr) (pv 0) pe_str (fun _ _ => rfl))) (pg_tup rfl (pgs_cons (pg_name (i := 6) sc_law_local.nd rfl (by first | exact Or.inl rfl | exact Or.inr rfl)) (pgs_cons (pg_name (i := 7) sc_law_local.nd rfl (by first | exact Or.inl rfl | exact Or.inr rfl)) (pgs_cons (pg_name (i := 8) sc_law_local.nd rfl (by first | exact Or.inl rfl | exact Or.inr rfl)) pgs_nil)))) (pss_one (ps_if (pt_cmpR op_eq (pv 6) (pv 1) (nomark _)) (pss_one (ps_set (i := 5) sc_law_local.nd rfl (by first | exact Or.inl rfl | exact Or.inr rfl) (pe_op op_mul (pv 5) (pe_ix ix_tup (pe_ix ix_tup (pv 8) (pv 4) (fun _ _ => rfl)) (pe_dget (hu_of hr) (pv 2) (pv 7) (fun _ _ => rfl)) (fun _ _ => rfl))))) (pss_one (ps_if (pt_cmpR op_eq (pv 7) (pv 1) (nomark _)) (pss_one (ps_set (i := 5) sc_law_local.nd rfl (by first | exact Or.inl rfl | exact Or.inr rfl) (pe_op op_mul (pv 5) (pe_ix ix_tup (pe_ix ix_tup (pv 8) (pe_dget (hu_of hr) (pv 2) (pv 6) (fun _ _ => rfl)) (fun _ _ => rfl)) (pv 4) (fun _ _ => rfl))))) pss_nil))))) (pss_one (ps_expr (pe_bm PySem.F.plainAttrs_list PySem.F.slot_list_append PySem.F.type_list_append mt_append (pv 3) (pa_cons (pv 5) pa_nil))))))) (pss_one (ps_ret (pv 3)))))
def N_law_weight : List PySem.Str := ["_law_model_here", "_law_picture", "_law_found", "_law_place", "_law_one", "_law_other", "_law_table_here"]
theorem sc_law_weight : FnScope N_law_weight ["_law_model_here", "_law_picture"] (defScope s_law_weight) := ⟨rfl, rfl, rfl, by decide +kernel, rfl, by decide +kernel, by decide +kernel⟩
def t_law_weight (K : PySem.W.Frag) (P : Program) (w : World) : TS := (tSeq (tAsg (tC (.int 1)) (gName 2)) (tSeq (tFor (iRng1 (tCons (tDGet (tVar 0) (tC (.str "many"))) tNil)) (gName 3) (tAsg (tOp rMulI (tVar 2) (tOp (rIxT K) (tOp (rIxT K) (tDGet (tVar 0) (tC (.str "weights"))) (tVar 3)) (tOp (rIxT K) (tVar 1) (tVar 3)))) (gName 2))) (tSeq (tFor (iTup K (tDGet (tVar 0) (tC (.str "ties")))) (gTup K 3 (gCons (gName 4) (gCons (gName 5) (gCons (gName 6) gNil)))) (tAsg (tOp rMulI (tVar 2) (tOp (rIxT K) (tOp (rIxT K) (tVar 6) (tOp (rIxT K) (tVar 1) (tVar 4))) (tOp (rIxT K) (tVar 1) (tVar 5)))) (gName 2))) (tRet (tVar 2)))))
theorem ps_law_weight (T : Tx K mg)  {cdv : Value} {A : Around} {outer : List Env} {s : Shared} {H : Hp} {E : XK} (hr : Room 0 (A.deeper (envOfC "_law_weight" (defScope s_law_weight) s.heap.objs.size (He.ga K "_law_weight") cdv))) : PSs (cxOf CX0 P w K mg base N_law_weight "_law_weight" (defScope s_law_weight) (He.ga K "_law_weight") cdv A outer s H E).nox (defBody s_law_weight) (t_law_weight K P w) :=
  (pss_cons (ps_set (i := 2) sc_law_weight.nd rfl (by first | exact Or.inl rfl | exact Or.inr rfl) pe_int) (pss_cons (ps_for PassesOwn.never rfl (pi_range1 rfl T.b_range (pa_cons (pe_dget (hu_of hr) (pv 0) pe_str (fun _ _ => rfl)) pa_nil)) (pg_name (i := 3) sc_law_weight.nd rfl (by first | exact Or.inl rfl | exact Or.inr rfl)) (pss_one (ps_set (i := 2) sc_law_weight.nd rfl (by first | exact Or.inl rfl | exact Or.inr rfl) (pe_op op_mul (pv 2) (pe_ix ix_tup (pe_ix ix_tup (pe_dget (hu_of hr) (pv 0) pe_str (fun _ _ => rfl)) (pv 3) (fun _ _ => rfl)) (pe_ix ix_tup (pv 1) (pv 3) (fun _ _ => rfl)) (fun _ _ => rfl)))))) (pss_cons (ps_for PassesOwn.never rfl (pi_tup (pe_dget (hu_of hr) (pv 0) pe_str (fun _ _ => rfl))) (pg_tup rfl (pgs_cons (pg_name (i := 4) sc_law_weight.nd rfl (by first | exact Or.inl rfl | exact Or.inr rfl)) (pgs_cons (pg_name (i := 5) sc_law_weight.nd rfl (by first | exact Or.inl rfl | exact Or.inr rfl)) (pgs_cons (pg_name (i := 6) sc_law_weight.nd rfl (by first | exact Or.inl rfl | exact Or.inr rfl)) pgs_nil)))) (pss_one (ps_set (i := 2) sc_law_weight.nd rfl (by first | exact Or.inl rfl | exact Or.inr rfl) (pe_op op_mul (pv 2) (pe_ix ix_tup (pe_ix ix_tup (pv 6) (pe_ix ix_tup (pv 1) (pv 4) (fun _ _ => rfl)) (fun _ _ => rfl)) (pe_ix ix_tup (pv 1) (pv 5) (fun _ _ => rfl)) (fun _ _ => rfl)))))) (pss_one (ps_ret (pv 2))))))
def N_law_tuples : List PySem.Str := ["_law_rows", "_law_found", "_law_row", "_law_longer", "_law_front", "_law_item"]
theorem sc_law_tuples : FnScope N_law_tuples ["_law_rows"] (defScope s_law_tuples) := ⟨rfl, rfl, rfl, by decide +kernel, rfl, by decide +kernel, by decide +kernel⟩
def t_law_tuples (K : PySem.W.Frag) (P : Program) (w : World) : TS := (tSeq (tAsg (tLst (tCons (tTup tNil) tNil)) (gName 1)) (tSeq (tFor (iList K (tVar 0)) (gName 2) (tSeq (tAsg (tLst tNil) (gName 3)) (tSeq (tFor (iList K (tVar 1)) (gName 4) (tDrop (tBM K "list" rExtend (tVar 3) (tCons (tLc (iList K (tVar 2)) (gName 5) tYes (tOp (rCatA K) (tVar 4) (tTup (tCons (tVar 5) tNil))) [5]) tNil)))) (tAsg (tVar 3) (gName 1))))) (tRet (tVar 1))))
theorem ps_law_tuples (T : Tx K mg)  {cdv : Value} {A : Around} {outer : List Env} {s : Shared} {H : Hp} {E : XK} (hr : Room 0 (A.deeper (envOfC "_law_tuples" (defScope s_law_tuples) s.heap.objs.size (He.ga K "_law_tuples") cdv))) : PSs (cxOf CX0 P w K mg base N_law_tuples "_law_tuples" (defScope s_law_tuples) (He.ga K "_law_tuples") cdv A outer s H E).nox (defBody s_law_tuples) (t_law_tuples K P w) :=
  (pss_cons (ps_set (i := 1) sc_law_tuples.nd rfl (by first | exact Or.inl rfl | exact Or.inr rfl) (pe_lst (pa_cons (pe_tup pa_nil) pa_nil))) (pss_cons (ps_for PassesOwn.never rfl (pi_list (pv 0)) (pg_name (i := 2) sc_law_tuples.nd rfl (by first | exact Or.inl rfl | exact Or.inr rfl)) (pss_cons (ps_set (i := 3) sc_law_tuples.nd rfl (by first | exact Or.inl rfl | exact Or.inr rfl) (pe_lst pa_nil)) (pss_cons (ps_for PassesOwn.never rfl (pi_list (pv 1)) (pg_name (i := 4) sc_law_tuples.nd rfl (by first | exact Or.inl rfl | exact Or.inr rfl)) (pss_one (ps_expr (pe_bm PySem.F.plainAttrs_list PySem.F.slot_list_extend PySem.F.type_list_extend mt_extend (pv 3) (pa_cons (pe_lc (own := [("_law_item", 5)]) (g := (gName 5)) (tt := tYes) rfl sc_law_tuples.nd (pi_list (pv 2)) (blkOk_by (own := [("_law_item", 5)]) (N := N_law_tuples) (sc := defScope s_law_tuples) (by decide +kernel)) (fun _ _ _ _ _ => (pg_name (i := 5) sc_law_tuples.nd rfl (by first | exact Or.inl rfl | exact Or.inr rfl))) (fun _ _ _ _ _ => pts_nil) (fun _ _ _ _ _ => (pe_op op_catA (pv 4) (pe_tup (pa_cons (pv 5) pa_nil))))) pa_nil))))) (pss_one (ps_set (i := 1) sc_law_tuples.nd rfl (by first | exact Or.inl rfl | exact Or.inr rfl) (pv 3)))))) (pss_one (ps_ret (pv 1)))))
def N_law_pairs : List PySem.Str := ["_law_hand_here", "_law_many", "_law_kind", "_law_k", "_law_found", "_law_j"]
theorem sc_law_pairs : FnScope N_law_pairs ["_law_hand_here", "_law_many"] (defScope s_law_pairs) := ⟨rfl, rfl, rfl, by decide +kernel, rfl, by decide +kernel, by decide +kernel⟩
def t_law_pairs (K : PySem.W.Frag) (P : Program) (w : World) : TS := (tSeq (tAsg (tCall (SpX (pr_law_draw K w)) [] E0 (tCons (tVar 0) (tCons (tC (.int 5)) tNil))) (gName 2)) (tSeq (tIfS (tTest (tOp rEq (tVar 2) (tC (.int 0)))) (tAsg (tLc (iRng1 (tCons (tOp rSubI (tVar 1) (tC (.int 1))) tNil)) (gName 3) tYes (tTup (tCons (tVar 3) (tCons (tOp rAddI (tVar 3) (tC (.int 1))) tNil))) [3]) (gName 4)) (tIfS (tTest (tOp rEq (tVar 2) (tC (.int 1)))) (tAsg (tOp rCat (tLc (iRng1 (tCons (tOp rSubI (tVar 1) (tC (.int 1))) tNil)) (gName 3) tYes (tTup (tCons (tVar 3) (tCons (tOp rAddI (tVar 3) (tC (.int 1))) tNil))) [3]) (tIf (tTest (tOp rGtI (tVar 1) (tC (.int 2)))) (tLst (tCons (tTup (tCons (tC (.int 0)) (tCons (tOp rSubI (tVar 1) (tC (.int 1))) tNil))) tNil)) (tLst tNil))) (gName 4)) (tIfS (tTest (tOp rEq (tVar 2) (tC (.int 2)))) (tAsg (tLc (iRng2 (tCons (tC (.int 1)) (tCons (tVar 1) tNil))) (gName 3) tYes (tTup (tCons (tC (.int 0)) (tCons (tVar 3) tNil))) [3]) (gName 4)) (tSeq (tAsg (tLst tNil) (gName 4)) (tFor (iRng1 (tCons (tVar 1) tNil)) (gName 3) (tDrop (tBM K "list" rExtend (tVar 4) (tCons (tLc (iRng1 (tCons (tVar 3) tNil)) (gName 5) (tTest (tOp rEq (tCall (SpX (pr_law_draw K w)) [] E0 (tCons (tVar 0) (tCons (tC (.int 2)) tNil))) (tC (.int 0)))) (tTup (tCons (tVar 5) (tCons (tVar 3) tNil))) [5]) tNil)))))))) (tRet (tCB (rSortU K 2 64) (tCons (tVar 4) tNil)))))
theorem ps_law_pairs (T : Tx K mg) (O_law_draw : OkF P w K mg base "_law_draw" (He.ga K "_law_draw") ["_law_hand_here", "_law_many"] 1 (pr_law_draw K w)) {cdv : Value} {A : Around} {outer : List Env} {s : Shared} {H : Hp} {E : XK} (hr : Room 1 (A.deeper (envOfC "_law_pairs" (defScope s_law_pairs) s.heap.objs.size (He.ga K "_law_pairs") cdv))) : PSs (cxOf CX0 P w K mg base N_law_pairs "_law_pairs" (defScope s_law_pairs) (He.ga K "_law_pairs") cdv A outer s H E).nox (defBody s_law_pairs) (t_law_pairs K P w) :=
  (pss_cons (ps_set (i := 2) sc_law_pairs.nd rfl (by first | exact Or.inl rfl | exact Or.inr rfl) (pe_cal O_law_draw (hr.mono (by decide)) rfl (pa_cons (pv 0) (pa_cons pe_int pa_nil)))) (pss_cons (ps_if (pt_cmpR op_eq (pv 2) pe_int (nomark _)) (pss_one (ps_setLc (i := 4) (own := [("_law_k", 3)]) (g := (gName 3)) (tt := tYes) rfl sc_law_pairs.nd rfl rfl (sw_true rfl rfl rfl (by decide +kernel)) (pi_range1 rfl T.b_range (pa_cons (pe_op op_sub (pv 1) pe_int) pa_nil)) (blkOk_by (own := [("_law_k", 3)]) (N := N_law_pairs) (sc := defScope s_law_pairs) (by decide +kernel)) (fun _ _ _ _ _ => (pg_name (i := 3) sc_law_pairs.nd rfl (by first | exact Or.inl rfl | exact Or.inr rfl))) (fun _ _ _ _ _ => pts_nil) (fun _ _ _ _ _ => (pe_tup (pa_cons (pv 3) (pa_cons (pe_op op_add (pv 3) pe_int) pa_nil)))))) (pss_one (ps_if (pt_cmpR op_eq (pv 2) pe_int (nomark _)) (pss_one (ps_set (i := 4) sc_law_pairs.nd rfl (by first | exact Or.inl rfl | exact Or.inr rfl) (pe_op op_cat (pe_lc (own := [("_law_k", 3)]) (g := (gName 3)) (tt := tYes) rfl sc_law_pairs.nd (pi_range1 rfl T.b_range (pa_cons (pe_op op_sub (pv 1) pe_int) pa_nil)) (blkOk_by (own := [("_law_k", 3)]) (N := N_law_pairs) (sc := defScope s_law_pairs) (by decide +kernel)) (fun _ _ _ _ _ => (pg_name (i := 3) sc_law_pairs.nd rfl (by first | exact Or.inl rfl | exact Or.inr rfl))) (fun _ _ _ _ _ => pts_nil) (fun _ _ _ _ _ => (pe_tup (pa_cons (pv 3) (pa_cons (pe_op op_add (pv 3) pe_int) pa_nil))))) (pe_ifExp (pt_cmpR op_gt (pv 1) pe_int (nomark _)) (pe_lst (pa_cons (pe_tup (pa_cons pe_int (pa_cons (pe_op op_sub (pv 1) pe_int) pa_nil))) pa_nil)) (pe_lst pa_nil))))) (pss_one (ps_if (pt_cmpR op_eq (pv 2) pe_int (nomark _)) (pss_one (ps_setLc (i := 4) (own := [("_law_k", 3)]) (g := (gName 3)) (tt := tYes) rfl sc_law_pairs.nd rfl rfl (sw_true rfl rfl rfl (by decide +kernel)) (pi_range2 rfl T.b_range (pa_cons pe_int (pa_cons (pv 1) pa_nil))) (blkOk_by (own := [("_law_k", 3)]) (N := N_law_pairs) (sc := defScope s_law_pairs) (by decide +kernel)) (fun _ _ _ _ _ => (pg_name (i := 3) sc_law_pairs.nd rfl (by first | exact Or.inl rfl | exact Or.inr rfl))) (fun _ _ _ _ _ => pts_nil) (fun _ _ _ _ _ => (pe_tup (pa_cons pe_int (pa_cons (pv 3) pa_nil)))))) (pss_cons (ps_set (i := 4) sc_law_pairs.nd rfl (by first | exact Or.inl rfl | exact Or.inr rfl) (pe_lst pa_nil)) (pss_one (ps_for PassesOwn.never rfl (pi_range1 rfl T.b_range (pa_cons (pv 1) pa_nil)) (pg_name (i := 3) sc_law_pairs.nd rfl (by first | exact Or.inl rfl | exact Or.inr rfl)) (pss_one (ps_expr (pe_bm PySem.F.plainAttrs_list PySem.F.slot_list_extend PySem.F.type_list_extend mt_extend (pv 4) (pa_cons (pe_lc (own := [("_law_j", 5)]) (g := (gName 5)) (tt := (tTest (tOp rEq (tCall (SpX (pr_law_draw K w)) [] E0 (tCons (tVar 0) (tCons (tC (.int 2)) tNil))) (tC (.int 0))))) rfl sc_law_pairs.nd (pi_range1 rfl T.b_range (pa_cons (pv 3) pa_nil)) (blkOk_by (own := [("_law_j", 5)]) (N := N_law_pairs) (sc := defScope s_law_pairs) (by decide +kernel)) (fun _ _ _ _ _ => (pg_name (i := 5) sc_law_pairs.nd rfl (by first | exact Or.inl rfl | exact Or.inr rfl))) (fun _ _ _ _ _ => (pts_one (pt_cmpR op_eq (pe_cal O_law_draw (hr.mono (by decide)) rfl (pa_cons (pv 0) (pa_cons pe_int pa_nil))) pe_int (nomark _)))) (fun _ _ _ _ _ => (pe_tup (pa_cons (pv 5) (pa_cons (pv 3) pa_nil))))) pa_nil)))))))))))) (pss_one (ps_ret (pe_callB (cr_sortT (by decide)) rfl T.b_sorted (by decide +kernel) (pa_cons (pv 4) pa_nil))))))
def N_law_stacks : List PySem.Str := ["_law_rows", "_law_columns", "_law_most", "_law_table_here", "_law_pairs_here", "_law_k", "_law_ties", "_law_weights", "_law_one", "_law_other"]
theorem sc_law_stacks : FnScope N_law_stacks ["_law_rows", "_law_columns", "_law_most"] (defScope s_law_stacks) := ⟨rfl, rfl, rfl, by decide +kernel, rfl, by decide +kernel, by decide +kernel⟩
def t_law_stacks (K : PySem.W.Frag) (P : Program) (w : World) : TS := (tSeq (tAsg (tCB (rTupQ K) (tCons (tLc (iRng1 (tCons (tOp rAddI (tVar 2) (tC (.int 1))) tNil)) (gName 8) tYes (tCB (rTupQ K) (tCons (tLc (iRng1 (tCons (tOp rAddI (tVar 2) (tC (.int 1))) tNil)) (gName 9) tYes (tCB rInt1 (tCons (tOp rLeI (tVar 9) (tVar 8)) tNil)) [9]) tNil)) [8]) tNil)) (gName 3)) (tSeq (tAsg (tLst tNil) (gName 4)) (tSeq (tFor (iRng1 (tCons (tOp rMulI (tVar 0) (tVar 1)) tNil)) (gName 5) (tSeq (tDrop (tBM K "list" rExtend (tVar 4) (tCons (tIf (tTest (tOp rGtI (tOp rModI (tCB rInt1 (tCons (tOp rAddI (tVar 5) (tC (.int 1))) tNil)) (tVar 1)) (tC (.int 0)))) (tLst (tCons (tTup (tCons (tVar 5) (tCons (tOp rAddI (tVar 5) (tC (.int 1))) tNil))) tNil)) (tLst tNil)) tNil))) (tDrop (tBM K "list" rExtend (tVar 4) (tCons (tIf (tTest (tOp rLtI (tOp rAddI (tVar 5) (tVar 1)) (tOp rMulI (tVar 0) (tVar 1)))) (tLst (tCons (tTup (tCons (tVar 5) (tCons (tOp rAddI (tVar 5) (tVar 1)) tNil))) tNil)) (tLst tNil)) tNil))))) (tSeq (tAsg (tCB (rTupQ K) (tCons (tLc (iList K (tCB (rSortedT K P w) (tCons (tCB (rSetOfT K P w) (tCons (tVar 4) tNil)) tNil))) (gTup K 2 (gCons (gName 8) (gCons (gName 9) gNil))) tYes (tTup (tCons (tVar 8) (tCons (tVar 9) (tCons (tVar 3) tNil)))) [8, 9]) tNil)) (gName 6)) (tSeq (tAsg (tOp (rRepQ K) (tTup (tCons (tOp (rRepQ K) (tTup (tCons (tC (.int 1)) tNil)) (tOp rAddI (tVar 2) (tC (.int 1)))) tNil)) (tOp rMulI (tVar 0) (tVar 1))) (gName 7)) (tRet (tDisp [((tC (.str "many")), (tOp rMulI (tVar 0) (tVar 1))), ((tC (.str "levels")), (tOp rAddI (tVar 2) (tC (.int 1)))), ((tC (.str "weights")), (tVar 7)), ((tC (.str "ties")), (tVar 6))])))))))
theorem ps_law_stacks (T : Tx K mg)  {cdv : Value} {A : Around} {outer : List Env} {s : Shared} {H : Hp} {E : XK} (hr : Room 0 (A.deeper (envOfC "_law_stacks" (defScope s_law_stacks) s.heap.objs.size (He.ga K "_law_stacks") cdv))) : PSs (cxOf CX0 P w K mg base N_law_stacks "_law_stacks" (defScope s_law_stacks) (He.ga K "_law_stacks") cdv A outer s H E).nox (defBody s_law_stacks) (t_law_stacks K P w) :=
  (pss_cons (ps_set (i := 3) sc_law_stacks.nd rfl (by first | exact Or.inl rfl | exact Or.inr rfl) (pe_callTy c_tuple rfl T.b_tuple (by decide +kernel) (pa_cons (pe_lc (own := [("_law_one", 8)]) (g := (gName 8)) (tt := tYes) rfl sc_law_stacks.nd (pi_range1 rfl T.b_range (pa_cons (pe_op op_add (pv 2) pe_int) pa_nil)) (blkOk_by (own := [("_law_one", 8)]) (N := N_law_stacks) (sc := defScope s_law_stacks) (by decide +kernel)) (fun _ _ _ _ _ => (pg_name (i := 8) sc_law_stacks.nd rfl (by first | exact Or.inl rfl | exact Or.inr rfl))) (fun _ _ _ _ _ => pts_nil) (fun _ _ _ _ _ => (pe_callTy c_tuple rfl T.b_tuple (by decide +kernel) (pa_cons (pe_lc (own := [("_law_other", 9)]) (g := (gName 9)) (tt := tYes) rfl sc_law_stacks.nd (pi_range1 rfl T.b_range (pa_cons (pe_op op_add (pv 2) pe_int) pa_nil)) (blkOk_blk (own := [("_law_other", 9)]) (N := N_law_stacks) (sc := defScope s_law_stacks) rfl rfl (by decide +kernel)) (fun _ _ _ _ _ => (pg_name (i := 9) sc_law_stacks.nd rfl (by first | exact Or.inl rfl | exact Or.inr rfl))) (fun _ _ _ _ _ => pts_nil) (fun _ _ _ _ _ => (pe_callTy c_int rfl T.b_int (by decide +kernel) (pa_cons (pe_cmpR op_le (pv 9) (pv 8) (nomark _)) pa_nil)))) pa_nil)))) pa_nil))) (pss_cons (ps_set (i := 4) sc_law_stacks.nd rfl (by first | exact Or.inl rfl | exact Or.inr rfl) (pe_lst pa_nil)) (pss_cons (ps_for PassesOwn.never rfl (pi_range1 rfl T.b_range (pa_cons (pe_op op_mul (pv 0) (pv 1)) pa_nil)) (pg_name (i := 5) sc_law_stacks.nd rfl (by first | exact Or.inl rfl | exact Or.inr rfl)) (pss_cons (ps_expr (pe_bm PySem.F.plainAttrs_list PySem.F.slot_list_extend PySem.F.type_list_extend mt_extend (pv 4) (pa_cons (pe_ifExp (pt_cmpR op_gt (pe_op op_mod (pe_callTy c_int rfl T.b_int (by decide +kernel) (pa_cons (pe_op op_add (pv 5) pe_int) pa_nil)) (pv 1)) pe_int (nomark _)) (pe_lst (pa_cons (pe_tup (pa_cons (pv 5) (pa_cons (pe_op op_add (pv 5) pe_int) pa_nil))) pa_nil)) (pe_lst pa_nil)) pa_nil))) (pss_one (ps_expr (pe_bm PySem.F.plainAttrs_list PySem.F.slot_list_extend PySem.F.type_list_extend mt_extend (pv 4) (pa_cons (pe_ifExp (pt_cmpR op_lt (pe_op op_add (pv 5) (pv 1)) (pe_op op_mul (pv 0) (pv 1)) (nomark _)) (pe_lst (pa_cons (pe_tup (pa_cons (pv 5) (pa_cons (pe_op op_add (pv 5) (pv 1)) pa_nil))) pa_nil)) (pe_lst pa_nil)) pa_nil)))))) (pss_cons (ps_set (i := 6) sc_law_stacks.nd rfl (by first | exact Or.inl rfl | exact Or.inr rfl) (pe_callTy c_tuple rfl T.b_tuple (by decide +kernel) (pa_cons (pe_lc (own := [("_law_one", 8), ("_law_other", 9)]) (g := (gTup K 2 (gCons (gName 8) (gCons (gName 9) gNil)))) (tt := tYes) rfl sc_law_stacks.nd (pi_list (pe_callB (cr_sortedT rfl) rfl T.b_sorted (by decide +kernel) (pa_cons (pe_callTy (cr_setOfT rfl (hu64 hr)) rfl T.b_set (by decide +kernel) (pa_cons (pv 4) pa_nil)) pa_nil))) (blkOk_by (own := [("_law_one", 8), ("_law_other", 9)]) (N := N_law_stacks) (sc := defScope s_law_stacks) (by decide +kernel)) (fun _ _ _ _ _ => (pg_tup rfl (pgs_cons (pg_name (i := 8) sc_law_stacks.nd rfl (by first | exact Or.inl rfl | exact Or.inr rfl)) (pgs_cons (pg_name (i := 9) sc_law_stacks.nd rfl (by first | exact Or.inl rfl | exact Or.inr rfl)) pgs_nil)))) (fun _ _ _ _ _ => pts_nil) (fun _ _ _ _ _ => (pe_tup (pa_cons (pv 8) (pa_cons (pv 9) (pa_cons (pv 3) pa_nil)))))) pa_nil))) (pss_cons (ps_set (i := 7) sc_law_stacks.nd rfl (by first | exact Or.inl rfl | exact Or.inr rfl) (pe_op op_repQ (pe_tup (pa_cons (pe_op op_repQ (pe_tup (pa_cons pe_int pa_nil)) (pe_op op_add (pv 2) pe_int)) pa_nil)) (pe_op op_mul (pv 0) (pv 1)))) (pss_one (ps_ret (pe_disp (pps_cons pe_str (pe_op op_mul (pv 0) (pv 1)) (pps_cons pe_str (pe_op op_add (pv 2) pe_int) (pps_cons pe_str (pv 7) (pps_cons pe_str (pv 6) pps_nil)))) (by rfl) (by rfl) (fun z => by cases z) (by decide)))))))))
def N_law_table : List PySem.Str := ["_law_hand_here", "_law_levels", "_law_kind", "_law_row", "_law_one", "_law_other"]
theorem sc_law_table : FnScope N_law_table ["_law_hand_here", "_law_levels", "_law_kind"] (defScope s_law_table) := ⟨rfl, rfl, rfl, by decide +kernel, rfl, by decide +kernel, by decide +kernel⟩
def t_law_table (K : PySem.W.Frag) (P : Program) (w : World) : TS := (tSeq (tIfS (tTest (tOp rEq (tVar 2) (tC (.int 0)))) (tSeq (tAsg (tCall (SpX (pr_law_any K w)) [] E0 (tCons (tVar 0) (tCons (tLst (tCons (tLst (tCons (tC (.int 16)) (tCons (tC (.int 8)) (tCons (tC (.int 1)) (tCons (tC (.int 1)) tNil))))) (tCons (tLst (tCons (tC (.int 3)) (tCons (tC (.int 1)) (tCons (tC (.int 1)) (tCons (tC (.int 1)) tNil))))) (tCons (tLst (tCons (tC (.int 1)) (tCons (tC (.int 2)) (tCons (tC (.int 9)) (tCons (tC (.int 9)) tNil))))) (tCons (tLst (tCons (tC (.int 1)) (tCons (tC (.int 1)) (tCons (tC (.int 1)) (tCons (tC (.int 1)) tNil))))) (tCons (tLst (tCons (tC (.int 4)) (tCons (tC (.int 2)) (tCons (tC (.int 1)) (tCons (tC (.int 0)) tNil))))) (tCons (tLst (tCons (tC (.int 0)) (tCons (tC (.int 1)) (tCons (tC (.int 1)) (tCons (tC (.int 1)) tNil))))) tNil))))))) tNil))) (gName 3)) (tRet (tCB (rTupQ K) (tCons (tLc (iRng1 (tCons (tVar 1) tNil)) (gName 4) tYes (tCB (rTupQ K) (tCons (tLc (iRng1 (tCons (tVar 1) tNil)) (gName 5) tYes (tOp (rIxL K) (tVar 3) (tCB rAbs (tCons (tOp rSubI (tVar 4) (tVar 5)) tNil))) [5]) tNil)) [4]) tNil)))) tNext) (tSeq (tIfS (tTest (tOp rEq (tVar 2) (tC (.int 1)))) (tRet (tCB (rTupQ K) (tCons (tLc (iRng1 (tCons (tVar 1) tNil)) (gName 4) tYes (tCB (rTupQ K) (tCons (tLc (iRng1 (tCons (tVar 1) tNil)) (gName 5) tYes (tCB rInt1 (tCons (tOp rGeI (tVar 4) (tVar 5)) tNil)) [5]) tNil)) [4]) tNil))) tNext) (tRet (tCB (rTupQ K) (tCons (tLc (iRng1 (tCons (tVar 1) tNil)) (gName 4) tYes (tCB (rTupQ K) (tCons (tLc (iRng1 (tCons (tVar 1) tNil)) (gName 5) tYes (tCall (SpX (pr_law_any K w)) [] E0 (tCons (tVar 0) (tCons (tLst (tCons (tC (.int 0)) (tCons (tC (.int 1)) (tCons (tC (.int 1)) (tCons (tC (.int 2)) (tCons (tC (.int 3)) (tCons (tC (.int 1000)) tNil))))))) tNil))) [5]) tNil)) [4]) tNil)))))
theorem ps_law_table (T : Tx K mg) (O_law_any : OkF P w K mg base "_law_any" (He.ga K "_law_any") ["_law_hand_here", "_law_things"] 2 (pr_law_any K w)) {cdv : Value} {A : Around} {outer : List Env} {s : Shared} {H : Hp} {E : XK} (hr : Room 2 (A.deeper (envOfC "_law_table" (defScope s_law_table) s.heap.objs.size (He.ga K "_law_table") cdv))) : PSs (cxOf CX0 P w K mg base N_law_table "_law_table" (defScope s_law_table) (He.ga K "_law_table") cdv A outer s H E).nox (defBody s_law_table) (t_law_table K P w) :=
  (pss_cons (ps_if (pt_cmpR op_eq (pv 2) pe_int (nomark _)) (pss_cons (ps_set (i := 3) sc_law_table.nd rfl (by first | exact Or.inl rfl | exact Or.inr rfl) (pe_cal O_law_any (hr.mono (by decide)) rfl (pa_cons (pv 0) (pa_cons (pe_lst (pa_cons (pe_lst (pa_cons pe_int (pa_cons pe_int (pa_cons pe_int (pa_cons pe_int pa_nil))))) (pa_cons (pe_lst (pa_cons pe_int (pa_cons pe_int (pa_cons pe_int (pa_cons pe_int pa_nil))))) (pa_cons (pe_lst (pa_cons pe_int (pa_cons pe_int (pa_cons pe_int (pa_cons pe_int pa_nil))))) (pa_cons (pe_lst (pa_cons pe_int (pa_cons pe_int (pa_cons pe_int (pa_cons pe_int pa_nil))))) (pa_cons (pe_lst (pa_cons pe_int (pa_cons pe_int (pa_cons pe_int (pa_cons pe_int pa_nil))))) (pa_cons (pe_lst (pa_cons pe_int (pa_cons pe_int (pa_cons pe_int (pa_cons pe_int pa_nil))))) pa_nil))))))) pa_nil)))) (pss_one (ps_ret (pe_callTy c_tuple rfl T.b_tuple (by decide +kernel) (pa_cons (pe_lc (own := [("_law_one", 4)]) (g := (gName 4)) (tt := tYes) rfl sc_law_table.nd (pi_range1 rfl T.b_range (pa_cons (pv 1) pa_nil)) (blkOk_by (own := [("_law_one", 4)]) (N := N_law_table) (sc := defScope s_law_table) (by decide +kernel)) (fun _ _ _ _ _ => (pg_name (i := 4) sc_law_table.nd rfl (by first | exact Or.inl rfl | exact Or.inr rfl))) (fun _ _ _ _ _ => pts_nil) (fun _ _ _ _ _ => (pe_callTy c_tuple rfl T.b_tuple (by decide +kernel) (pa_cons (pe_lc (own := [("_law_other", 5)]) (g := (gName 5)) (tt := tYes) rfl sc_law_table.nd (pi_range1 rfl T.b_range (pa_cons (pv 1) pa_nil)) (blkOk_blk (own := [("_law_other", 5)]) (N := N_law_table) (sc := defScope s_law_table) rfl rfl (by decide +kernel)) (fun _ _ _ _ _ => (pg_name (i := 5) sc_law_table.nd rfl (by first | exact Or.inl rfl | exact Or.inr rfl))) (fun _ _ _ _ _ => pts_nil) (fun _ _ _ _ _ => (pe_ix ix_list (pv 3) (pe_callB c_abs rfl T.b_abs (by decide +kernel) (pa_cons (pe_op op_sub (pv 4) (pv 5)) pa_nil)) (fun _ _ => rfl)))) pa_nil)))) pa_nil))))) pss_nil) (pss_cons (ps_if (pt_cmpR op_eq (pv 2) pe_int (nomark _)) (pss_one (ps_ret (pe_callTy c_tuple rfl T.b_tuple (by decide +kernel) (pa_cons (pe_lc (own := [("_law_one", 4)]) (g := (gName 4)) (tt := tYes) rfl sc_law_table.nd (pi_range1 rfl T.b_range (pa_cons (pv 1) pa_nil)) (blkOk_by (own := [("_law_one", 4)]) (N := N_law_table) (sc := defScope s_law_table) (by decide +kernel)) (fun _ _ _ _ _ => (pg_name (i := 4) sc_law_table.nd rfl (by first | exact Or.inl rfl | exact Or.inr rfl))) (fun _ _ _ _ _ => pts_nil) (fun _ _ _ _ _ => (pe_callTy c_tuple rfl T.b_tuple (by decide +kernel) (pa_cons (pe_lc (own := [("_law_other", 5)]) (g := (gName 5)) (tt := tYes) rfl sc_law_table.nd (pi_range1 rfl T.b_range (pa_cons (pv 1) pa_nil)) (blkOk_blk (own := [("_law_other", 5)]) (N := N_law_table) (sc := defScope s_law_table) rfl rfl (by decide +kernel)) (fun _ _ _ _ _ => (pg_name (i := 5) sc_law_table.nd rfl (by first | exact Or.inl rfl | exact Or.inr rfl))) (fun _ _ _ _ _ => pts_nil) (fun _ _ _ _ _ => (pe_callTy c_int rfl T.b_int (by decide +kernel) (pa_cons (pe_cmpR op_ge (pv 4) (pv 5) (nomark _)) pa_nil)))) pa_nil)))) pa_nil)))) pss_nil) (pss_one (ps_ret (pe_callTy c_tuple rfl T.b_tuple (by decide +kernel) (pa_cons (pe_lc (own := [("_law_one", 4)]) (g := (gName 4)) (tt := tYes) rfl sc_law_table.nd (pi_range1 rfl T.b_range (pa_cons (pv 1) pa_nil)) (blkOk_by (own := [("_law_one", 4)]) (N := N_law_table) (sc := defScope s_law_table) (by decide +kernel)) (fun _ _ _ _ _ => (pg_name (i := 4) sc_law_table.nd rfl (by first | exact Or.inl rfl | exact Or.inr rfl))) (fun _ _ _ _ _ => pts_nil) (fun _ _ _ _ _ => (pe_callTy c_tuple rfl T.b_tuple (by decide +kernel) (pa_cons (pe_lc (own := [("_law_other", 5)]) (g := (gName 5)) (tt := tYes) rfl sc_law_table.nd (pi_range1 rfl T.b_range (pa_cons (pv 1) pa_nil)) (blkOk_blk (own := [("_law_other", 5)]) (N := N_law_table) (sc := defScope s_law_table) rfl rfl (by decide +kernel)) (fun _ _ _ _ _ => (pg_name (i := 5) sc_law_table.nd rfl (by first | exact Or.inl rfl | exact Or.inr rfl))) (fun _ _ _ _ _ => pts_nil) (fun _ _ _ _ _ => (pe_cal O_law_any (hr.mono (by decide)) rfl (pa_cons (pv 0) (pa_cons (pe_lst (pa_cons pe_int (pa_cons pe_int (pa_cons pe_int (pa_cons pe_int (pa_cons pe_int (pa_cons pe_int pa_nil))))))) pa_nil))))) pa_nil)))) pa_nil))))))
end
end Ly
namespace Ly
open PySem PySem.Spec PyProof.Rows L2
section
variable {P : Program} {w : World} {K : PySem.W.Frag} {mg : Str → Option Value} {base : Heap}
def N_law_model : List PySem.Str := ["_law_hand_here", "_law_kind", "_law_some", "_law_rows", "_law_columns", "_law_most", "_law_levels", "_law_many", "_law_pairs_here", "_law_tables", "_law_one", "_law_pair", "_law_number", "_law_weights", "_law_ties", "_law_table_here", "_law_place", "_law_value"]
theorem sc_law_model : FnScope N_law_model ["_law_hand_here"] (defScope s_law_model) := ⟨rfl, rfl, rfl, by decide +kernel, rfl, by decide +kernel, by decide +kernel⟩
def t_law_model (K : PySem.W.Frag) (P : Program) (w : World) : TS := (tSeq (tAsg (tCall (SpX (pr_law_draw K w)) [] E0 (tCons (tVar 0) (tCons (tC (.int 8)) tNil))) (gName 1)) (tSeq (tIfS (tTest (tOp rEq (tVar 1) (tC (.int 0)))) (tSeq (tAsg (tLst (tCons (tTup (tCons (tC (.int 1)) (tCons (tC (.int 3)) (tCons (tC (.int 1)) tNil)))) (tCons (tTup (tCons (tC (.int 1)) (tCons (tC (.int 3)) (tCons (tC (.int 3)) tNil)))) (tCons (tTup (tCons (tC (.int 2)) (tCons (tC (.int 2)) (tCons (tC (.int 1)) tNil)))) (tCons (tTup (tCons (tC (.int 2)) (tCons (tC (.int 2)) (tCons (tC (.int 2)) tNil)))) (tCons (tTup (tCons (tC (.int 2)) (tCons (tC (.int 3)) (tCons (tC (.int 1)) tNil)))) (tCons (tTup (tCons (tC (.int 3)) (tCons (tC (.int 1)) (tCons (tC (.int 2)) tNil)))) (tCons (tTup (tCons (tC (.int 1)) (tCons (tC (.int 1)) (tCons (tC (.int 3)) tNil)))) tNil)))))))) (gName 2)) (tSeq (tAsg (tCall (SpX (pr_law_any K w)) [] E0 (tCons (tVar 0) (tCons (tVar 2) tNil))) (gTup K 3 (gCons (gName 3) (gCons (gName 4) (gCons (gName 5) gNil))))) (tRet (tCall (SpX (pr_law_stacks K w)) [] E0 (tCons (tVar 3) (tCons (tVar 4) (tCons (tVar 5) tNil))))))) tNext) (tSeq (tAsg (tIf (tTest (tOp rGtI (tVar 1) (tC (.int 3)))) (tCall (SpX (pr_law_any K w)) [] E0 (tCons (tVar 0) (tCons (tLst (tCons (tC (.int 2)) (tCons (tC (.int 2)) (tCons (tC (.int 2)) (tCons (tC (.int 3)) (tCons (tC (.int 3)) (tCons (tC (.int 4)) tNil))))))) tNil))) (tCall (SpX (pr_law_any K w)) [] E0 (tCons (tVar 0) (tCons (tLst (tCons (tC (.int 1)) (tCons (tC (.int 2)) (tCons (tC (.int 2)) (tCons (tC (.int 2)) tNil))))) tNil)))) (gName 6)) (tSeq (tAsg (tOp rAddI (tC (.int 1)) (tCall (SpX (pr_law_draw K w)) [] E0 (tCons (tVar 0) (tCons (tIf (tTest (tOp rLtI (tVar 6) (tC (.int 4)))) (tC (.int 5)) (tC (.int 3))) tNil)))) (gName 7)) (tSeq (tPar 8 9 (tCons (tCall (SpX (pr_law_pairs K w)) [] E0 (tCons (tVar 0) (tCons (tVar 7) tNil))) (tCons (tLst tNil) tNil))) (tSeq (tAsg (tCall (SpX (pr_law_table K w)) [] E0 (tCons (tVar 0) (tCons (tVar 6) (tCons (tIf (tTest (tOp rLtI (tVar 1) (tC (.int 4)))) (tC (.int 0)) (tCall (SpX (pr_law_draw K w)) [] E0 (tCons (tVar 0) (tCons (tC (.int 3)) tNil)))) tNil)))) (gName 10)) (tSeq (tFor (iList K (tVar 8)) (gName 11) (tDrop (tBM K "list" rAppend (tVar 9) (tCons (tIf (tTest (tOp rLtI (tVar 1) (tC (.int 6)))) (tVar 10) (tCall (SpX (pr_law_table K w)) [] E0 (tCons (tVar 0) (tCons (tVar 6) (tCons (tCall (SpX (pr_law_draw K w)) [] E0 (tCons (tVar 0) (tCons (tC (.int 3)) tNil))) tNil))))) tNil)))) (tSeq (tIfS (tAnd (tTest (tOp rEq (tVar 1) (tC (.int 1)))) (tTest (tOp rEq (tVar 6) (tC (.int 2))))) (tSeq (tAsg (tCall (SpX (pr_law_any K w)) [] E0 (tCons (tVar 0) (tCons (tLst (tCons (tC (.int 1)) (tCons (tC (.int 1)) (tCons (tC (.int 2)) (tCons (tC (.int 7)) tNil))))) tNil))) (gName 12)) (tSeq (tAsg (tOp rRep (tLst (tCons (tTup (tCons (tTup (tCons (tC (.int 1)) (tCons (tC (.int 1)) tNil))) (tCons (tTup (tCons (tC (.int 1)) (tCons (tC (.int 0)) tNil))) tNil))) tNil)) (tCB (rLenQ K) (tCons (tVar 8) tNil))) (gName 9)) (tAsg (tCB (rTupQ K) (tCons (tOp rRep (tLst (tCons (tTup (tCons (tC (.int 1)) (tCons (tVar 12) tNil))) tNil)) (tVar 7)) tNil)) (gName 13)))) (tSeq (tAsg (tLst (tCons (tC (.int 1)) (tCons (tC (.int 1)) (tCons (tC (.int 1)) (tCons (tC (.int 2)) (tCons (tC (.int 5)) (tCons (tIf (tTest (tOp rGtI (tVar 1) (tC (.int 5)))) (tC (.int 0)) (tC (.int 1))) tNil))))))) (gName 2)) (tAsg (tCB (rTupQ K) (tCons (tLc (iRng1 (tCons (tVar 7) tNil)) (gName 16) tYes (tCB (rTupQ K) (tCons (tLc (iRng1 (tCons (tVar 6) tNil)) (gName 17) tYes (tCall (SpX (pr_law_any K w)) [] E0 (tCons (tVar 0) (tCons (tVar 2) tNil))) [17]) tNil)) [16]) tNil)) (gName 13)))) (tSeq (tAsg (tCB (rTupQ K) (tCons (tLc (iZip2 kL kL (tCons (tVar 8) (tCons (tVar 9) tNil))) (gTup K 2 (gCons (gName 11) (gCons (gName 15) gNil))) tYes (tTup (tCons (tOp (rIxT K) (tVar 11) (tC (.int 0))) (tCons (tOp (rIxT K) (tVar 11) (tC (.int 1))) (tCons (tVar 15) tNil)))) [11, 15]) tNil)) (gName 14)) (tRet (tDisp [((tC (.str "many")), (tVar 7)), ((tC (.str "levels")), (tVar 6)), ((tC (.str "weights")), (tVar 13)), ((tC (.str "ties")), (tVar 14))])))))))))))
theorem ps_law_model (T : Tx K mg) (O_law_any : OkF P w K mg base "_law_any" (He.ga K "_law_any") ["_law_hand_here", "_law_things"] 2 (pr_law_any K w)) (O_law_draw : OkF P w K mg base "_law_draw" (He.ga K "_law_draw") ["_law_hand_here", "_law_many"] 1 (pr_law_draw K w)) (O_law_pairs : OkF P w K mg base "_law_pairs" (He.ga K "_law_pairs") ["_law_hand_here", "_law_many"] 2 (pr_law_pairs K w)) (O_law_stacks : OkF P w K mg base "_law_stacks" (He.ga K "_law_stacks") ["_law_rows", "_law_columns", "_law_most"] 1 (pr_law_stacks K w)) (O_law_table : OkF P w K mg base "_law_table" (He.ga K "_law_table") ["_law_hand_here", "_law_levels", "_law_kind"] 3 (pr_law_table K w)) {cdv : Value} {A : Around} {outer : List Env} {s : Shared} {H : Hp} {E : XK} (hr : Room 3 (A.deeper (envOfC "_law_model" (defScope s_law_model) s.heap.objs.size (He.ga K "_law_model") cdv))) : PSs (cxOf CX0 P w K mg base N_law_model "_law_model" (defScope s_law_model) (He.ga K "_law_model") cdv A outer s H E).nox (defBody s_law_model) (t_law_model K P w) :=
  (pss_cons (ps_set (i := 1) sc_law_model.nd rfl (by first | exact Or.inl rfl | exact Or.inr rfl) (pe_cal O_law_draw (hr.mono (by decide)) rfl (pa_cons (pv 0) (pa_cons pe_int pa_nil)))) (pss_cons (ps_if (pt_cmpR op_eq (pv 1) pe_int (nomark _)) (pss_cons (ps_set (i := 2) sc_law_model.nd rfl (by first | exact Or.inl rfl | exact Or.inr rfl) (pe_lst (pa_cons (pe_tup (pa_cons pe_int (pa_cons pe_int (pa_cons pe_int pa_nil)))) (pa_cons (pe_tup (pa_cons pe_int (pa_cons pe_int (pa_cons pe_int pa_nil)))) (pa_cons (pe_tup (pa_cons pe_int (pa_cons pe_int (pa_cons pe_int pa_nil)))) (pa_cons (pe_tup (pa_cons pe_int (pa_cons pe_int (pa_cons pe_int pa_nil)))) (pa_cons (pe_tup (pa_cons pe_int (pa_cons pe_int (pa_cons pe_int pa_nil)))) (pa_cons (pe_tup (pa_cons pe_int (pa_cons pe_int (pa_cons pe_int pa_nil)))) (pa_cons (pe_tup (pa_cons pe_int (pa_cons pe_int (pa_cons pe_int pa_nil)))) pa_nil))))))))) (pss_cons (ps_asg (pe_cal O_law_any (hr.mono (by decide)) rfl (pa_cons (pv 0) (pa_cons (pv 2) pa_nil))) (pg_tup rfl (pgs_cons (pg_name (i := 3) sc_law_model.nd rfl (by first | exact Or.inl rfl | exact Or.inr rfl)) (pgs_cons (pg_name (i := 4) sc_law_model.nd rfl (by first | exact Or.inl rfl | exact Or.inr rfl)) (pgs_cons (pg_name (i := 5) sc_law_model.nd rfl (by first | exact Or.inl rfl | exact Or.inr rfl)) pgs_nil))))) (pss_one (ps_ret (pe_cal O_law_stacks (hr.mono (by decide)) rfl (pa_cons (pv 3) (pa_cons (pv 4) (pa_cons (pv 5) pa_nil)))))))) pss_nil) (pss_cons (ps_set (i := 6) sc_law_model.nd rfl (by first | exact Or.inl rfl | exact Or.inr rfl) (pe_ifExp (pt_cmpR op_gt (pv 1) pe_int (nomark _)) (pe_cal O_law_any (hr.mono (by decide)) rfl (pa_cons (pv 0) (pa_cons (pe_lst (pa_cons pe_int (pa_cons pe_int (pa_cons pe_int (pa_cons pe_int (pa_cons pe_int (pa_cons pe_int pa_nil))))))) pa_nil))) (pe_cal O_law_any (hr.mono (by decide)) rfl (pa_cons (pv 0) (pa_cons (pe_lst (pa_cons pe_int (pa_cons pe_int (pa_cons pe_int (pa_cons pe_int pa_nil))))) pa_nil))))) (pss_cons (ps_set (i := 7) sc_law_model.nd rfl (by first | exact Or.inl rfl | exact Or.inr rfl) (pe_op op_add pe_int (pe_cal O_law_draw (hr.mono (by decide)) rfl (pa_cons (pv 0) (pa_cons (pe_ifExp (pt_cmpR op_lt (pv 6) pe_int (nomark _)) pe_int pe_int) pa_nil))))) (pss_cons (ps_par (i := 8) (j := 9) rfl sc_law_model.nd rfl rfl (by decide) rfl rfl (pa_cons (pe_cal O_law_pairs (hr.mono (by decide)) rfl (pa_cons (pv 0) (pa_cons (pv 7) pa_nil))) (pa_cons (pe_lst pa_nil) pa_nil)) (by rfl)) (pss_cons (ps_set (i := 10) sc_law_model.nd rfl (by first | exact Or.inl rfl | exact Or.inr rfl) (pe_cal O_law_table (hr.mono (by decide)) rfl (pa_cons (pv 0) (pa_cons (pv 6) (pa_cons (pe_ifExp (pt_cmpR op_lt (pv 1) pe_int (nomark _)) pe_int (pe_cal O_law_draw (hr.mono (by decide)) rfl (pa_cons (pv 0) (pa_cons pe_int pa_nil)))) pa_nil))))) (pss_cons (ps_for PassesOwn.never rfl (pi_list (pv 8)) (pg_name (i := 11) sc_law_model.nd rfl (by first | exact Or.inl rfl | exact Or.inr rfl)) (pss_one (ps_expr (pe_bm PySem.F.plainAttrs_list PySem.F.slot_list_append PySem.F.type_list_append mt_append (pv 9) (pa_cons (pe_ifExp (pt_cmpR op_lt (pv 1) pe_int (nomark _)) (pv 10) (pe_cal O_law_table (hr.mono (by decide)) rfl (pa_cons (pv 0) (pa_cons (pv 6) (pa_cons (pe_cal O_law_draw (hr.mono (by decide)) rfl (pa_cons (pv 0) (pa_cons pe_int pa_nil))) pa_nil))))) pa_nil))))) (pss_cons (ps_if (PW.pt (pw_and (pt_cmpR op_eq (pv 1) pe_int (nomark _)) (pw_and1 (pt_cmpR op_eq (pv 6) pe_int (nomark _))))) (pss_cons (ps_set (i := 12) sc_law_model.nd rfl (by first | exact Or.inl rfl | exact Or.inr rfl) (pe_cal O_law_any (hr.mono (by decide)) rfl (pa_cons (pv 0) (pa_cons (pe_lst (pa_cons pe_int (pa_cons pe_int (pa_cons pe_int (pa_cons pe_int pa_nil))))) pa_nil)))) (pss_cons (ps_set (i := 9) sc_law_model.nd rfl (by first | exact Or.inl rfl | exact Or.inr rfl) (pe_op op_rep (pe_lst (pa_cons (pe_tup (pa_cons (pe_tup (pa_cons pe_int (pa_cons pe_int pa_nil))) (pa_cons (pe_tup (pa_cons pe_int (pa_cons pe_int pa_nil))) pa_nil))) pa_nil)) (pe_callB c_len rfl T.b_len (by decide +kernel) (pa_cons (pv 8) pa_nil)))) (pss_one (ps_set (i := 13) sc_law_model.nd rfl (by first | exact Or.inl rfl | exact Or.inr rfl) (pe_callTy c_tuple rfl T.b_tuple (by decide +kernel) (pa_cons (pe_op op_rep (pe_lst (pa_cons (pe_tup (pa_cons pe_int (pa_cons (pv 12) pa_nil))) pa_nil)) (pv 7)) pa_nil)))))) (pss_cons (ps_set (i := 2) sc_law_model.nd rfl (by first | exact Or.inl rfl | exact Or.inr rfl) (pe_lst (pa_cons pe_int (pa_cons pe_int (pa_cons pe_int (pa_cons pe_int (pa_cons pe_int (pa_cons (pe_ifExp (pt_cmpR op_gt (pv 1) pe_int (nomark _)) pe_int pe_int) pa_nil)))))))) (pss_one (ps_set (i := 13) sc_law_model.nd rfl (by first | exact Or.inl rfl | exact Or.inr rfl) (pe_callTy c_tuple rfl T.b_tuple (by decide +kernel) (pa_cons (pe_lc (own := [("_law_place", 16)]) (g := (gName 16)) (tt := tYes) rfl sc_law_model.nd (pi_range1 rfl T.b_range (pa_cons (pv 7) pa_nil)) (blkOk_by (own := [("_law_place", 16)]) (N := N_law_model) (sc := defScope s_law_model) (by decide +kernel)) (fun _ _ _ _ _ => (pg_name (i := 16) sc_law_model.nd rfl (by first | exact Or.inl rfl | exact Or.inr rfl))) (fun _ _ _ _ _ => pts_nil) (fun _ _ _ _ _ => (pe_callTy c_tuple rfl T.b_tuple (by decide +kernel) (pa_cons (pe_lc (own := [("_law_value", 17)]) (g := (gName 17)) (tt := tYes) rfl sc_law_model.nd (pi_range1 rfl T.b_range (pa_cons (pv 6) pa_nil)) (blkOk_blk (own := [("_law_value", 17)]) (N := N_law_model) (sc := defScope s_law_model) rfl rfl (by decide +kernel)) (fun _ _ _ _ _ => (pg_name (i := 17) sc_law_model.nd rfl (by first | exact Or.inl rfl | exact Or.inr rfl))) (fun _ _ _ _ _ => pts_nil) (fun _ _ _ _ _ => (pe_cal O_law_any (hr.mono (by decide)) rfl (pa_cons (pv 0) (pa_cons (pv 2) pa_nil))))) pa_nil)))) pa_nil)))))) (pss_cons (ps_set (i := 14) sc_law_model.nd rfl (by first | exact Or.inl rfl | exact Or.inr rfl) (pe_callTy c_tuple rfl T.b_tuple (by decide +kernel) (pa_cons (pe_lc (own := [("_law_pair", 11), ("_law_table_here", 15)]) (g := (gTup K 2 (gCons (gName 11) (gCons (gName 15) gNil)))) (tt := tYes) rfl sc_law_model.nd (pi_zip2 (k1 := kL) (k2 := kL) rfl T.b_zip (pa_cons (pv 8) (pa_cons (pv 9) pa_nil))) (blkOk_by (own := [("_law_pair", 11), ("_law_table_here", 15)]) (N := N_law_model) (sc := defScope s_law_model) (by decide +kernel)) (fun _ _ _ _ _ => (pg_tup rfl (pgs_cons (pg_name (i := 11) sc_law_model.nd rfl (by first | exact Or.inl rfl | exact Or.inr rfl)) (pgs_cons (pg_name (i := 15) sc_law_model.nd rfl (by first | exact Or.inl rfl | exact Or.inr rfl)) pgs_nil)))) (fun _ _ _ _ _ => pts_nil) (fun _ _ _ _ _ => (pe_tup (pa_cons (pe_ix ix_tup (pv 11) pe_int (fun _ _ => rfl)) (pa_cons (pe_ix ix_tup (pv 11) pe_int (fun _ _ => rfl)) (pa_cons (pv 15) pa_nil)))))) pa_nil))) (pss_one (ps_ret (pe_disp (pps_cons pe_str (pv 7) (pps_cons pe_str (pv 6) (pps_cons pe_str (pv 13) (pps_cons pe_str (pv 14) pps_nil)))) (by rfl) (by rfl) (fun z => by cases z) (by decide)))))))))))))
def N_law_wide : List PySem.Str := ["_law_hand_here", "_law_many", "_law_levels", "_law_counts", "_law_pairs_here", "_law_place", "_law_other", "_law_free", "_law_turn", "_law_one", "_law_pair", "_law_kind", "_law_ties", "_law_table_here", "_law_weights", "_law_value"]
theorem sc_law_wide : FnScope N_law_wide ["_law_hand_here", "_law_many", "_law_levels"] (defScope s_law_wide) := ⟨rfl, rfl, rfl, by decide +kernel, rfl, by decide +kernel, by decide +kernel⟩
def t_law_wide (K : PySem.W.Frag) (P : Program) (w : World) : TS := (tSeq (tAsg (tTup (tCons (tOp rRep (tLst (tCons (tC (.int 0)) tNil)) (tVar 1)) (tCons (tLst tNil) tNil))) (gTup K 2 (gCons (gName 3) (gCons (gName 4) gNil)))) (tSeq (tFor (iRng2 (tCons (tC (.int 1)) (tCons (tVar 1) tNil))) (gName 5) (tSeq (tAsg (tLc (iRng1 (tCons (tVar 5) tNil)) (gName 6) (tTest (tOp rLtI (tOp (rIxL K) (tVar 3) (tVar 6)) (tC (.int 3)))) (tVar 6) [6]) (gName 7)) (tFor (iList K (tIf (tTest (tOp rGtI (tCB (rLenQ K) (tCons (tVar 7) tNil)) (tC (.int 0)))) (tLst (tCons (tCall (SpX (pr_law_any K w)) [] E0 (tCons (tVar 0) (tCons (tLst (tCons (tOp (rIxL K) (tVar 7) (tUn rNeg (tC (.int 1)))) (tCons (tOp (rIxL K) (tVar 7) (tUn rNeg (tC (.int 1)))) (tCons (tCall (SpX (pr_law_any K w)) [] E0 (tCons (tVar 0) (tCons (tVar 7) tNil))) tNil)))) tNil))) tNil)) (tLst tNil))) (gName 6) (tSeq (tDrop (tBM K "list" rAppend (tVar 4) (tCons (tTup (tCons (tVar 6) (tCons (tVar 5) tNil))) tNil))) (tAsg (tTup (tCons (tOp rAddI (tOp (rIxL K) (tVar 3) (tVar 6)) (tC (.int 1))) (tCons (tOp rAddI (tOp (rIxL K) (tVar 3) (tVar 5)) (tC (.int 1))) tNil))) (gTup K 2 (gCons (gSub (tVar 3) (tVar 6) rSetL) (gCons (gSub (tVar 3) (tVar 5) rSetL) gNil)))))))) (tSeq (tFor (iRng1 (tCons (tCall (SpX (pr_law_draw K w)) [] E0 (tCons (tVar 0) (tCons (tC (.int 3)) tNil))) tNil)) (gName 8) (tSeq (tPar 9 6 (tCons (tCall (SpX (pr_law_draw K w)) [] E0 (tCons (tVar 0) (tCons (tVar 1) tNil))) (tCons (tCall (SpX (pr_law_draw K w)) [] E0 (tCons (tVar 0) (tCons (tVar 1) tNil))) tNil))) (tSeq (tAsg (tTup (tCons (tCB rMin2 (tCons (tVar 9) (tCons (tVar 6) tNil))) (tCons (tCB rMax2 (tCons (tVar 9) (tCons (tVar 6) tNil))) tNil))) (gName 10)) (tIfS (tAnd (tTest (tOp rNe (tVar 9) (tVar 6))) (tAnd (tTest (tOp (rNotInD K) (tVar 10) (tVar 4))) (tTest (tOp rLtI (tCB rMax2 (tCons (tOp (rIxL K) (tVar 3) (tVar 9)) (tCons (tOp (rIxL K) (tVar 3) (tVar 6)) tNil))) (tC (.int 3)))))) (tSeq (tDrop (tBM K "list" rAppend (tVar 4) (tCons (tVar 10) tNil))) (tAsg (tTup (tCons (tOp rAddI (tOp (rIxL K) (tVar 3) (tVar 9)) (tC (.int 1))) (tCons (tOp rAddI (tOp (rIxL K) (tVar 3) (tVar 6)) (tC (.int 1))) tNil))) (gTup K 2 (gCons (gSub (tVar 3) (tVar 9) rSetL) (gCons (gSub (tVar 3) (tVar 6) rSetL) gNil))))) tNext)))) (tSeq (tPar 11 12 (tCons (tCall (SpX (pr_law_any K w)) [] E0 (tCons (tVar 0) (tCons (tLst (tCons (tC (.int 0)) (tCons (tC (.int 0)) (tCons (tC (.int 1)) (tCons (tC (.int 2)) tNil))))) tNil))) (tCons (tLst tNil) tNil))) (tSeq (tAsg (tCall (SpX (pr_law_table K w)) [] E0 (tCons (tVar 0) (tCons (tVar 2) (tCons (tVar 11) tNil)))) (gName 13)) (tSeq (tFor (iList K (tCB (rSortU K 2 64) (tCons (tVar 4) tNil))) (gTup K 2 (gCons (gName 9) (gCons (gName 6) gNil))) (tSeq (tAsg (tIf (tTest (tOp rEq (tCall (SpX (pr_law_draw K w)) [] E0 (tCons (tVar 0) (tCons (tC (.int 4)) tNil))) (tC (.int 0)))) (tCall (SpX (pr_law_table K w)) [] E0 (tCons (tVar 0) (tCons (tVar 2) (tCons (tVar 11) tNil)))) (tVar 13)) (gName 13)) (tDrop (tBM K "list" rAppend (tVar 12) (tCons (tTup (tCons (tVar 9) (tCons (tVar 6) (tCons (tVar 13) tNil)))) tNil))))) (tSeq (tAsg (tCB (rTupQ K) (tCons (tLc (iRng1 (tCons (tVar 1) tNil)) (gName 5) tYes (tCB (rTupQ K) (tCons (tLc (iRng1 (tCons (tVar 2) tNil)) (gName 15) tYes (tCall (SpX (pr_law_any K w)) [] E0 (tCons (tVar 0) (tCons (tLst (tCons (tC (.int 1)) (tCons (tC (.int 1)) (tCons (tC (.int 2)) (tCons (tC (.int 5)) tNil))))) tNil))) [15]) tNil)) [5]) tNil)) (gName 14)) (tRet (tDisp [((tC (.str "many")), (tVar 1)), ((tC (.str "levels")), (tVar 2)), ((tC (.str "weights")), (tVar 14)), ((tC (.str "ties")), (tCB (rTupQ K) (tCons (tVar 12) tNil)))])))))))))
theorem ps_law_wide (T : Tx K mg) (O_law_any : OkF P w K mg base "_law_any" (He.ga K "_law_any") ["_law_hand_here", "_law_things"] 2 (pr_law_any K w)) (O_law_draw : OkF P w K mg base "_law_draw" (He.ga K "_law_draw") ["_law_hand_here", "_law_many"] 1 (pr_law_draw K w)) (O_law_table : OkF P w K mg base "_law_table" (He.ga K "_law_table") ["_law_hand_here", "_law_levels", "_law_kind"] 3 (pr_law_table K w)) {cdv : Value} {A : Around} {outer : List Env} {s : Shared} {H : Hp} {E : XK} (hr : Room 3 (A.deeper (envOfC "_law_wide" (defScope s_law_wide) s.heap.objs.size (He.ga K "_law_wide") cdv))) : PSs (cxOf CX0 P w K mg base N_law_wide "_law_wide" (defScope s_law_wide) (He.ga K "_law_wide") cdv A outer s H E).nox (defBody s_law_wide) (t_law_wide K P w) :=
  (pss_cons (ps_asg (pe_tup (pa_cons (pe_op op_rep (pe_lst (pa_cons pe_int pa_nil)) (pv 1)) (pa_cons (pe_lst pa_nil) pa_nil))) (pg_tup rfl (pgs_cons (pg_name (i := 3) sc_law_wide.nd rfl (by first | exact Or.inl rfl | exact Or.inr rfl)) (pgs_cons (pg_name (i := 4) sc_law_wide.nd rfl (by first | exact Or.inl rfl | exact Or.inr rfl)) pgs_nil)))) (pss_cons (ps_for PassesOwn.never rfl (pi_range2 rfl T.b_range (pa_cons pe_int (pa_cons (pv 1) pa_nil))) (pg_name (i := 5) sc_law_wide.nd rfl (by first | exact Or.inl rfl | exact Or.inr rfl)) (pss_cons (ps_setLc (i := 7) (own := [("_law_other", 6)]) (g := (gName 6)) (tt := (tTest (tOp rLtI (tOp (rIxL K) (tVar 3) (tVar 6)) (tC (.int 3))))) rfl sc_law_wide.nd rfl rfl (sw_true rfl rfl rfl (by decide +kernel)) (pi_range1 rfl T.b_range (pa_cons (pv 5) pa_nil)) (blkOk_by (own := [("_law_other", 6)]) (N := N_law_wide) (sc := defScope s_law_wide) (by decide +kernel)) (fun _ _ _ _ _ => (pg_name (i := 6) sc_law_wide.nd rfl (by first | exact Or.inl rfl | exact Or.inr rfl))) (fun _ _ _ _ _ => (pts_one (pt_cmpR op_lt (pe_ix ix_list (pv 3) (pv 6) (fun _ _ => rfl)) pe_int (nomark _)))) (fun _ _ _ _ _ => (pv 6))) (pss_one (ps_for PassesOwn.never rfl (pi_list (pe_ifExp (pt_cmpR op_gt (pe_callB c_len rfl T.b_len (by decide +kernel) (pa_cons (pv 7) pa_nil)) pe_int (nomark _)) (pe_lst (pa_cons (pe_cal O_law_any (hr.mono (by decide)) rfl (pa_cons (pv 0) (pa_cons (pe_lst (pa_cons (pe_ix ix_list (pv 7) (pe_un un_neg pe_int) (fun _ _ => rfl)) (pa_cons (pe_ix ix_list (pv 7) (pe_un un_neg pe_int) (fun _ _ => rfl)) (pa_cons (pe_cal O_law_any (hr.mono (by decide)) rfl (pa_cons (pv 0) (pa_cons (pv 7) pa_nil))) pa_nil)))) pa_nil))) pa_nil)) (pe_lst pa_nil))) (pg_name (i := 6) sc_law_wide.nd rfl (by first | exact Or.inl rfl | exact Or.inr rfl)) (pss_cons (ps_expr (pe_bm PySem.F.plainAttrs_list PySem.F.slot_list_append PySem.F.type_list_append mt_append (pv 4) (pa_cons (pe_tup (pa_cons (pv 6) (pa_cons (pv 5) pa_nil))) pa_nil))) (pss_one (ps_asg (pe_tup (pa_cons (pe_op op_add (pe_ix ix_list (pv 3) (pv 6) (fun _ _ => rfl)) pe_int) (pa_cons (pe_op op_add (pe_ix ix_list (pv 3) (pv 5) (fun _ _ => rfl)) pe_int) pa_nil))) (pg_tup rfl (pgs_cons (pg_sub (pv 3) (pv 6) set_list) (pgs_cons (pg_sub (pv 3) (pv 5) set_list) pgs_nil)))))))))) (pss_cons (ps_for PassesOwn.never rfl (pi_range1 rfl T.b_range (pa_cons (pe_cal O_law_draw (hr.mono (by decide)) rfl (pa_cons (pv 0) (pa_cons pe_int pa_nil))) pa_nil)) (pg_name (i := 8) sc_law_wide.nd rfl (by first | exact Or.inl rfl | exact Or.inr rfl)) (pss_cons (ps_par (i := 9) (j := 6) rfl sc_law_wide.nd rfl rfl (by decide) rfl rfl (pa_cons (pe_cal O_law_draw (hr.mono (by decide)) rfl (pa_cons (pv 0) (pa_cons (pv 1) pa_nil))) (pa_cons (pe_cal O_law_draw (hr.mono (by decide)) rfl (pa_cons (pv 0) (pa_cons (pv 1) pa_nil))) pa_nil)) (by rfl)) (pss_cons (ps_set (i := 10) sc_law_wide.nd rfl (by first | exact Or.inl rfl | exact Or.inr rfl) (pe_tup (pa_cons (pe_callB (c_min2 rfl) rfl T.b_min (by decide +kernel) (pa_cons (pv 9) (pa_cons (pv 6) pa_nil))) (pa_cons (pe_callB (c_max2 rfl) rfl T.b_max (by decide +kernel) (pa_cons (pv 9) (pa_cons (pv 6) pa_nil))) pa_nil)))) (pss_one (ps_if (PW.pt (pw_and (pt_cmpR op_ne (pv 9) (pv 6) (nomark _)) (pw_and (pt_cmpR (op_notInD (hu65 hr)) (pv 10) (pv 4) (by rfl)) (pw_and1 (pt_cmpR op_lt (pe_callB (c_max2 rfl) rfl T.b_max (by decide +kernel) (pa_cons (pe_ix ix_list (pv 3) (pv 9) (fun _ _ => rfl)) (pa_cons (pe_ix ix_list (pv 3) (pv 6) (fun _ _ => rfl)) pa_nil))) pe_int (nomark _)))))) (pss_cons (ps_expr (pe_bm PySem.F.plainAttrs_list PySem.F.slot_list_append PySem.F.type_list_append mt_append (pv 4) (pa_cons (pv 10) pa_nil))) (pss_one (ps_asg (pe_tup (pa_cons (pe_op op_add (pe_ix ix_list (pv 3) (pv 9) (fun _ _ => rfl)) pe_int) (pa_cons (pe_op op_add (pe_ix ix_list (pv 3) (pv 6) (fun _ _ => rfl)) pe_int) pa_nil))) (pg_tup rfl (pgs_cons (pg_sub (pv 3) (pv 9) set_list) (pgs_cons (pg_sub (pv 3) (pv 6) set_list) pgs_nil)))))) pss_nil))))) (pss_cons (ps_par (i := 11) (j := 12) rfl sc_law_wide.nd rfl rfl (by decide) rfl rfl (pa_cons (pe_cal O_law_any (hr.mono (by decide)) rfl (pa_cons (pv 0) (pa_cons (pe_lst (pa_cons pe_int (pa_cons pe_int (pa_cons pe_int (pa_cons pe_int pa_nil))))) pa_nil))) (pa_cons (pe_lst pa_nil) pa_nil)) (by rfl)) (pss_cons (ps_set (i := 13) sc_law_wide.nd rfl (by first | exact Or.inl rfl | exact Or.inr rfl) (pe_cal O_law_table (hr.mono (by decide)) rfl (pa_cons (pv 0) (pa_cons (pv 2) (pa_cons (pv 11) pa_nil))))) (pss_cons (ps_for PassesOwn.never rfl (pi_list (pe_callB (cr_sortT (by decide)) rfl T.b_sorted (by decide +kernel) (pa_cons (pv 4) pa_nil))) (pg_tup rfl (pgs_cons (pg_name (i := 9) sc_law_wide.nd rfl (by first | exact Or.inl rfl | exact Or.inr rfl)) (pgs_cons (pg_name (i := 6) sc_law_wide.nd rfl (by first | exact Or.inl rfl | exact Or.inr rfl)) pgs_nil))) (pss_cons (ps_set (i := 13) sc_law_wide.nd rfl (by first | exact Or.inl rfl | exact Or.inr rfl) (pe_ifExp (pt_cmpR op_eq (pe_cal O_law_draw (hr.mono (by decide)) rfl (pa_cons (pv 0) (pa_cons pe_int pa_nil))) pe_int (nomark _)) (pe_cal O_law_table (hr.mono (by decide)) rfl (pa_cons (pv 0) (pa_cons (pv 2) (pa_cons (pv 11) pa_nil)))) (pv 13))) (pss_one (ps_expr (pe_bm PySem.F.plainAttrs_list PySem.F.slot_list_append PySem.F.type_list_append mt_append (pv 12) (pa_cons (pe_tup (pa_cons (pv 9) (pa_cons (pv 6) (pa_cons (pv 13) pa_nil)))) pa_nil)))))) (pss_cons (ps_set (i := 14) sc_law_wide.nd rfl (by first | exact Or.inl rfl | exact Or.inr rfl) (pe_callTy c_tuple rfl T.b_tuple (by decide +kernel) (pa_cons (pe_lc (own := [("_law_place", 5)]) (g := (gName 5)) (tt := tYes) rfl sc_law_wide.nd (pi_range1 rfl T.b_range (pa_cons (pv 1) pa_nil)) (blkOk_by (own := [("_law_place", 5)]) (N := N_law_wide) (sc := defScope s_law_wide) (by decide +kernel)) (fun _ _ _ _ _ => (pg_name (i := 5) sc_law_wide.nd rfl (by first | exact Or.inl rfl | exact Or.inr rfl))) (fun _ _ _ _ _ => pts_nil) (fun _ _ _ _ _ => (pe_callTy c_tuple rfl T.b_tuple (by decide +kernel) (pa_cons (pe_lc (own := [("_law_value", 15)]) (g := (gName 15)) (tt := tYes) rfl sc_law_wide.nd (pi_range1 rfl T.b_range (pa_cons (pv 2) pa_nil)) (blkOk_blk (own := [("_law_value", 15)]) (N := N_law_wide) (sc := defScope s_law_wide) rfl rfl (by decide +kernel)) (fun _ _ _ _ _ => (pg_name (i := 15) sc_law_wide.nd rfl (by first | exact Or.inl rfl | exact Or.inr rfl))) (fun _ _ _ _ _ => pts_nil) (fun _ _ _ _ _ => (pe_cal O_law_any (hr.mono (by decide)) rfl (pa_cons (pv 0) (pa_cons (pe_lst (pa_cons pe_int (pa_cons pe_int (pa_cons pe_int (pa_cons pe_int pa_nil))))) pa_nil))))) pa_nil)))) pa_nil))) (pss_one (ps_ret (pe_disp (pps_cons pe_str (pv 1) (pps_cons pe_str (pv 2) (pps_cons pe_str (pv 14) (pps_cons pe_str (pe_callTy c_tuple rfl T.b_tuple (by decide +kernel) (pa_cons (pv 12) pa_nil)) pps_nil)))) (by rfl) (by rfl) (fun z => by cases z) (by decide)))))))))))
def N_law_is_under : List PySem.Str := ["_law_flips", "_law_one", "_law_other", "_law_k"]
theorem sc_law_is_under : FnScope N_law_is_under ["_law_flips", "_law_one", "_law_other"] (defScope s_law_is_under) := ⟨rfl, rfl, rfl, by decide +kernel, rfl, by decide +kernel, by decide +kernel⟩
def t_law_is_under (K : PySem.W.Frag) (P : Program) (w : World) : TS := (tRet (tCB (rAll K) (tCons (tLc (iRng1 (tCons (tCB (rLenQ K) (tCons (tVar 0) tNil)) tNil)) (gName 3) tYes (tIf (tB (tOp (rIx K) (tVar 0) (tVar 3))) (tOp rGeI (tOp (rIxT K) (tVar 1) (tVar 3)) (tOp (rIxT K) (tVar 2) (tVar 3))) (tOp rLeI (tOp (rIxT K) (tVar 1) (tVar 3)) (tOp (rIxT K) (tVar 2) (tVar 3)))) [3]) tNil)))
theorem ps_law_is_under (T : Tx K mg)  {cdv : Value} {A : Around} {outer : List Env} {s : Shared} {H : Hp} {E : XK} (hr : Room 0 (A.deeper (envOfC "_law_is_under" (defScope s_law_is_under) s.heap.objs.size (He.ga K "_law_is_under") cdv))) : PSs (cxOf CX0 P w K mg base N_law_is_under "_law_is_under" (defScope s_law_is_under) (He.ga K "_law_is_under") cdv A outer s H E).nox (defBody s_law_is_under) (t_law_is_under K P w) :=
  (pss_one (ps_ret (pe_callB (cr_all rfl) rfl T.b_all (by decide +kernel) (pa_cons (pe_lc (own := [("_law_k", 3)]) (g := (gName 3)) (tt := tYes) rfl sc_law_is_under.nd (pi_range1 rfl T.b_range (pa_cons (pe_callB c_len rfl T.b_len (by decide +kernel) (pa_cons (pv 0) pa_nil)) pa_nil)) (blkOk_by (own := [("_law_k", 3)]) (N := N_law_is_under) (sc := defScope s_law_is_under) (by decide +kernel)) (fun _ _ _ _ _ => (pg_name (i := 3) sc_law_is_under.nd rfl (by first | exact Or.inl rfl | exact Or.inr rfl))) (fun _ _ _ _ _ => pts_nil) (fun _ _ _ _ _ => (pe_ifExp (pt_val (pe_ix ix_seq (pv 0) (pv 3) (fun _ _ => rfl))) (pe_cmpR op_ge (pe_ix ix_tup (pv 1) (pv 3) (fun _ _ => rfl)) (pe_ix ix_tup (pv 2) (pv 3) (fun _ _ => rfl)) (nomark _)) (pe_cmpR op_le (pe_ix ix_tup (pv 1) (pv 3) (fun _ _ => rfl)) (pe_ix ix_tup (pv 2) (pv 3) (fun _ _ => rfl)) (nomark _))))) pa_nil))))
def N_law_rises_at : List PySem.Str := ["_law_model_here", "_law_flips", "_law_place", "_law_near_here", "_law_rows", "_law_values", "_law_local_here", "_law_other", "_law_own", "_law_later", "_law_beyond", "_law_one", "_law_value", "_law_ahead"]
theorem sc_law_rises_at : FnScope N_law_rises_at ["_law_model_here", "_law_flips", "_law_place"] (defScope s_law_rises_at) := ⟨rfl, rfl, rfl, by decide +kernel, rfl, by decide +kernel, by decide +kernel⟩
def t_law_rises_at (K : PySem.W.Frag) (P : Program) (w : World) : TS := (tSeq (tAsg (tCall (SpX (pr_law_near K w)) [] E0 (tCons (tVar 0) (tCons (tVar 2) tNil))) (gName 3)) (tSeq (tAsg (tLst tNil) (gName 4)) (tSeq (tFor (iList K (tCall (SpX (pr_law_tuples K w)) [] E0 (tCons (tOp rRep (tLst (tCons (tLstRg (tRg1 (tDGet (tVar 0) (tC (.str "levels"))))) tNil)) (tCB (rLenQ K) (tCons (tVar 3) tNil))) tNil))) (gName 5) (tSeq (tAsg (tCall (SpX (pr_law_local K w)) [] E0 (tCons (tVar 0) (tCons (tVar 2) (tCons (tDictZip (tCons (tVar 3) (tCons (tVar 5) tNil))) tNil)))) (gName 6)) (tIfS (tTest (tOp rGtI (tCB (rSum K) (tCons (tVar 6) tNil)) (tC (.int 0)))) (tDrop (tBM K "list" rAppend (tVar 4) (tCons (tTup (tCons (tVar 5) (tCons (tVar 6) tNil))) tNil))) tNext))) (tSeq (tAsg (tLc (iList K (tVar 3)) (gName 7) tYes (tOp (rIx K) (tVar 1) (tVar 7)) [7]) (gName 8)) (tSeq (tFor (iList K (tVar 4)) (gTup K 2 (gCons (gName 5) (gCons (gName 6) gNil))) (tFor (iList K (tVar 4)) (gTup K 2 (gCons (gName 9) (gCons (gName 10) gNil))) (tIfS (tB (tCall (SpX (pr_law_is_under K w)) [] E0 (tCons (tVar 8) (tCons (tVar 5) (tCons (tVar 9) tNil))))) (tSeq (tAsg (tTup (tCons (tC (.int 0)) (tCons (tC (.int 0)) tNil))) (gTup K 2 (gCons (gName 11) (gCons (gName 7) gNil)))) (tFor (iRng1 (tCons (tDGet (tVar 0) (tC (.str "levels"))) tNil)) (gName 12) (tSeq (tPar 11 7 (tCons (tOp rAddI (tVar 11) (tOp (rIxL K) (tVar 6) (tVar 12))) (tCons (tOp rAddI (tVar 7) (tOp (rIxL K) (tVar 10) (tVar 12))) tNil))) (tSeq (tAsg (tOp rSubI (tOp rMulI (tVar 11) (tCB (rSum K) (tCons (tVar 10) tNil))) (tOp rMulI (tVar 7) (tCB (rSum K) (tCons (tVar 6) tNil)))) (gName 13)) (tIfS (tOr (tAnd (tTest (tOp rGtI (tVar 13) (tC (.int 0)))) (tB (tOp (rIx K) (tVar 1) (tVar 2)))) (tAnd (tTest (tOp rLtI (tVar 13) (tC (.int 0)))) (tNot (tB (tOp (rIx K) (tVar 1) (tVar 2)))))) (tRet (tC (.bl false))) tNext))))) tNext))) (tRet (tC (.bl true))))))))
theorem ps_law_rises_at (T : Tx K mg) (O_law_is_under : OkF P w K mg base "_law_is_under" (He.ga K "_law_is_under") ["_law_flips", "_law_one", "_law_other"] 1 (pr_law_is_under K w)) (O_law_local : OkF P w K mg base "_law_local" (He.ga K "_law_local") ["_law_model_here", "_law_place", "_law_seen"] 1 (pr_law_local K w)) (O_law_near : OkF P w K mg base "_law_near" (He.ga K "_law_near") ["_law_model_here", "_law_place"] 1 (pr_law_near K w)) (O_law_tuples : OkF P w K mg base "_law_tuples" (He.ga K "_law_tuples") ["_law_rows"] 1 (pr_law_tuples K w)) {cdv : Value} {A : Around} {outer : List Env} {s : Shared} {H : Hp} {E : XK} (hr : Room 1 (A.deeper (envOfC "_law_rises_at" (defScope s_law_rises_at) s.heap.objs.size (He.ga K "_law_rises_at") cdv))) : PSs (cxOf CX0 P w K mg base N_law_rises_at "_law_rises_at" (defScope s_law_rises_at) (He.ga K "_law_rises_at") cdv A outer s H E).nox (defBody s_law_rises_at) (t_law_rises_at K P w) :=
  (pss_cons (ps_set (i := 3) sc_law_rises_at.nd rfl (by first | exact Or.inl rfl | exact Or.inr rfl) (pe_cal O_law_near (hr.mono (by decide)) rfl (pa_cons (pv 0) (pa_cons (pv 2) pa_nil)))) (pss_cons (ps_set (i := 4) sc_law_rises_at.nd rfl (by first | exact Or.inl rfl | exact Or.inr rfl) (pe_lst pa_nil)) (pss_cons (ps_for PassesOwn.never rfl (pi_list (pe_cal O_law_tuples (hr.mono (by decide)) rfl (pa_cons (pe_op op_rep (pe_lst (pa_cons (pe_listRg rfl rfl T.b_list (prg_1 rfl T.b_range (pe_dget (hu_of hr) (pv 0) pe_str (fun _ _ => rfl)))) pa_nil)) (pe_callB c_len rfl T.b_len (by decide +kernel) (pa_cons (pv 3) pa_nil))) pa_nil))) (pg_name (i := 5) sc_law_rises_at.nd rfl (by first | exact Or.inl rfl | exact Or.inr rfl)) (pss_cons (ps_set (i := 6) sc_law_rises_at.nd rfl (by first | exact Or.inl rfl | exact Or.inr rfl) (pe_cal O_law_local (hr.mono (by decide)) rfl (pa_cons (pv 0) (pa_cons (pv 2) (pa_cons (pe_dictZip rfl rfl T.b_dict rfl T.b_list rfl T.b_zip (pa_cons (pv 3) (pa_cons (pv 5) pa_nil))) pa_nil))))) (pss_one (ps_if (pt_cmpR op_gt (pe_callB (cr_sum rfl) rfl T.b_sum (by decide +kernel) (pa_cons (pv 6) pa_nil)) pe_int (nomark _)) (pss_one (ps_expr (pe_bm PySem.F.plainAttrs_list PySem.F.slot_list_append PySem.F.type_list_append mt_append (pv 4) (pa_cons (pe_tup (pa_cons (pv 5) (pa_cons (pv 6) pa_nil))) pa_nil)))) pss_nil)))) (pss_cons (ps_setLc (i := 8) (own := [("_law_other", 7)]) (g := (gName 7)) (tt := tYes) rfl sc_law_rises_at.nd rfl rfl (sw_true rfl rfl rfl (by decide +kernel)) (pi_list (pv 3)) (blkOk_by (own := [("_law_other", 7)]) (N := N_law_rises_at) (sc := defScope s_law_rises_at) (by decide +kernel)) (fun _ _ _ _ _ => (pg_name (i := 7) sc_law_rises_at.nd rfl (by first | exact Or.inl rfl | exact Or.inr rfl))) (fun _ _ _ _ _ => pts_nil) (fun _ _ _ _ _ => (pe_ix ix_seq (pv 1) (pv 7) (fun _ _ => rfl)))) (pss_cons (ps_for PassesOwn.never rfl (pi_list (pv 4)) (pg_tup rfl (pgs_cons (pg_name (i := 5) sc_law_rises_at.nd rfl (by first | exact Or.inl rfl | exact Or.inr rfl)) (pgs_cons (pg_name (i := 6) sc_law_rises_at.nd rfl (by first | exact Or.inl rfl | exact Or.inr rfl)) pgs_nil))) (pss_one (ps_for PassesOwn.never rfl (pi_list (pv 4)) (pg_tup rfl (pgs_cons (pg_name (i := 9) sc_law_rises_at.nd rfl (by first | exact Or.inl rfl | exact Or.inr rfl)) (pgs_cons (pg_name (i := 10) sc_law_rises_at.nd rfl (by first | exact Or.inl rfl | exact Or.inr rfl)) pgs_nil))) (pss_one (ps_if (pt_val (pe_cal O_law_is_under (hr.mono (by decide)) rfl (pa_cons (pv 8) (pa_cons (pv 5) (pa_cons (pv 9) pa_nil))))) (pss_cons (ps_asg (pe_tup (pa_cons pe_int (pa_cons pe_int pa_nil))) (pg_tup rfl (pgs_cons (pg_name (i := 11) sc_law_rises_at.nd rfl (by first | exact Or.inl rfl | exact Or.inr rfl)) (pgs_cons (pg_name (i := 7) sc_law_rises_at.nd rfl (by first | exact Or.inl rfl | exact Or.inr rfl)) pgs_nil)))) (pss_one (ps_for PassesOwn.never rfl (pi_range1 rfl T.b_range (pa_cons (pe_dget (hu_of hr) (pv 0) pe_str (fun _ _ => rfl)) pa_nil)) (pg_name (i := 12) sc_law_rises_at.nd rfl (by first | exact Or.inl rfl | exact Or.inr rfl)) (pss_cons (ps_par (i := 11) (j := 7) rfl sc_law_rises_at.nd rfl rfl (by decide) rfl rfl (pa_cons (pe_op op_add (pv 11) (pe_ix ix_list (pv 6) (pv 12) (fun _ _ => rfl))) (pa_cons (pe_op op_add (pv 7) (pe_ix ix_list (pv 10) (pv 12) (fun _ _ => rfl))) pa_nil)) (by rfl)) (pss_cons (ps_set (i := 13) sc_law_rises_at.nd rfl (by first | exact Or.inl rfl | exact Or.inr rfl) (pe_op op_sub (pe_op op_mul (pv 11) (pe_callB (cr_sum rfl) rfl T.b_sum (by decide +kernel) (pa_cons (pv 10) pa_nil))) (pe_op op_mul (pv 7) (pe_callB (cr_sum rfl) rfl T.b_sum (by decide +kernel) (pa_cons (pv 6) pa_nil))))) (pss_one (ps_if (PW.pt (pw_or (PW.pt (pw_and (pt_cmpR op_gt (pv 13) pe_int (nomark _)) (pw_and1 (pt_val (pe_ix ix_seq (pv 1) (pv 2) (fun _ _ => rfl)))))) (pw_or1 (PW.pt (pw_and (pt_cmpR op_lt (pv 13) pe_int (nomark _)) (pw_and1 (pt_not (pt_val (pe_ix ix_seq (pv 1) (pv 2) (fun _ _ => rfl)))))))))) (pss_one (ps_ret pe_bl)) pss_nil))))))) pss_nil))))) (pss_one (ps_ret pe_bl)))))))
def N_law_rises : List PySem.Str := ["_law_model_here", "_law_flips", "_law_place"]
theorem sc_law_rises : FnScope N_law_rises ["_law_model_here", "_law_flips"] (defScope s_law_rises) := ⟨rfl, rfl, rfl, by decide +kernel, rfl, by decide +kernel, by decide +kernel⟩
def t_law_rises (K : PySem.W.Frag) (P : Program) (w : World) : TS := (tRet (tCB (rAll K) (tCons (tLc (iRng1 (tCons (tDGet (tVar 0) (tC (.str "many"))) tNil)) (gName 2) tYes (tCall (SpX (pr_law_rises_at K w)) [] E0 (tCons (tVar 0) (tCons (tVar 1) (tCons (tVar 2) tNil)))) [2]) tNil)))
theorem ps_law_rises (T : Tx K mg) (O_law_rises_at : OkF P w K mg base "_law_rises_at" (He.ga K "_law_rises_at") ["_law_model_here", "_law_flips", "_law_place"] 2 (pr_law_rises_at K w)) {cdv : Value} {A : Around} {outer : List Env} {s : Shared} {H : Hp} {E : XK} (hr : Room 2 (A.deeper (envOfC "_law_rises" (defScope s_law_rises) s.heap.objs.size (He.ga K "_law_rises") cdv))) : PSs (cxOf CX0 P w K mg base N_law_rises "_law_rises" (defScope s_law_rises) (He.ga K "_law_rises") cdv A outer s H E).nox (defBody s_law_rises) (t_law_rises K P w) :=
  (pss_one (ps_ret (pe_callB (cr_all rfl) rfl T.b_all (by decide +kernel) (pa_cons (pe_lc (own := [("_law_place", 2)]) (g := (gName 2)) (tt := tYes) rfl sc_law_rises.nd (pi_range1 rfl T.b_range (pa_cons (pe_dget (hu_of hr) (pv 0) pe_str (fun _ _ => rfl)) pa_nil)) (blkOk_by (own := [("_law_place", 2)]) (N := N_law_rises) (sc := defScope s_law_rises) (by decide +kernel)) (fun _ _ _ _ _ => (pg_name (i := 2) sc_law_rises.nd rfl (by first | exact Or.inl rfl | exact Or.inr rfl))) (fun _ _ _ _ _ => pts_nil) (fun _ _ _ _ _ => (pe_cal O_law_rises_at (hr.mono (by decide)) rfl (pa_cons (pv 0) (pa_cons (pv 1) (pa_cons (pv 2) pa_nil)))))) pa_nil))))
end
end Ly
namespace Ly
open PySem PySem.Spec PyProof.Rows L2
section
variable {P : Program} {w : World} {K : PySem.W.Frag} {mg : Str → Option Value} {base : Heap}
def N_law_ends : List PySem.Str := ["_law_model_here", "_law_flips", "_law_last", "_law_flip"]
theorem sc_law_ends : FnScope N_law_ends ["_law_model_here", "_law_flips"] (defScope s_law_ends) := ⟨rfl, rfl, rfl, by decide +kernel, rfl, by decide +kernel, by decide +kernel⟩
def t_law_ends (K : PySem.W.Frag) (P : Program) (w : World) : TS := (tSeq (tAsg (tOp rSubI (tDGet (tVar 0) (tC (.str "levels"))) (tC (.int 1))) (gName 2)) (tRet (tTup (tCons (tCB (rTupQ K) (tCons (tLc (iTup K (tVar 1)) (gName 3) tYes (tIf (tB (tVar 3)) (tVar 2) (tC (.int 0))) [3]) tNil)) (tCons (tCB (rTupQ K) (tCons (tLc (iTup K (tVar 1)) (gName 3) tYes (tIf (tB (tVar 3)) (tC (.int 0)) (tVar 2)) [3]) tNil)) tNil)))))
theorem ps_law_ends (T : Tx K mg)  {cdv : Value} {A : Around} {outer : List Env} {s : Shared} {H : Hp} {E : XK} (hr : Room 0 (A.deeper (envOfC "_law_ends" (defScope s_law_ends) s.heap.objs.size (He.ga K "_law_ends") cdv))) : PSs (cxOf CX0 P w K mg base N_law_ends "_law_ends" (defScope s_law_ends) (He.ga K "_law_ends") cdv A outer s H E).nox (defBody s_law_ends) (t_law_ends K P w) :=
  (pss_cons (ps_set (i := 2) sc_law_ends.nd rfl (by first | exact Or.inl rfl | exact Or.inr rfl) (pe_op op_sub (pe_dget (hu_of hr) (pv 0) pe_str (fun _ _ => rfl)) pe_int)) (pss_one (ps_ret (pe_tup (pa_cons (pe_callTy c_tuple rfl T.b_tuple (by decide +kernel) (pa_cons (pe_lc (own := [("_law_flip", 3)]) (g := (gName 3)) (tt := tYes) rfl sc_law_ends.nd (pi_tup (pv 1)) (blkOk_by (own := [("_law_flip", 3)]) (N := N_law_ends) (sc := defScope s_law_ends) (by decide +kernel)) (fun _ _ _ _ _ => (pg_name (i := 3) sc_law_ends.nd rfl (by first | exact Or.inl rfl | exact Or.inr rfl))) (fun _ _ _ _ _ => pts_nil) (fun _ _ _ _ _ => (pe_ifExp (pt_val (pv 3)) (pv 2) pe_int))) pa_nil)) (pa_cons (pe_callTy c_tuple rfl T.b_tuple (by decide +kernel) (pa_cons (pe_lc (own := [("_law_flip", 3)]) (g := (gName 3)) (tt := tYes) rfl sc_law_ends.nd (pi_tup (pv 1)) (blkOk_by (own := [("_law_flip", 3)]) (N := N_law_ends) (sc := defScope s_law_ends) (by decide +kernel)) (fun _ _ _ _ _ => (pg_name (i := 3) sc_law_ends.nd rfl (by first | exact Or.inl rfl | exact Or.inr rfl))) (fun _ _ _ _ _ => pts_nil) (fun _ _ _ _ _ => (pe_ifExp (pt_val (pv 3)) pe_int (pv 2)))) pa_nil)) pa_nil))))))
def N_law_flips_for : List PySem.Str := ["_law_model_here", "_law_flips", "_law_end"]
theorem sc_law_flips_for : FnScope N_law_flips_for ["_law_model_here"] (defScope s_law_flips_for) := ⟨rfl, rfl, rfl, by decide +kernel, rfl, by decide +kernel, by decide +kernel⟩
def t_law_flips_for (K : PySem.W.Frag) (P : Program) (w : World) : TS := (tSeq (tFor (iList K (tCall (SpX (pr_law_tuples K w)) [] E0 (tCons (tOp rRep (tLst (tCons (tLst (tCons (tC (.bl false)) (tCons (tC (.bl true)) tNil))) tNil)) (tDGet (tVar 0) (tC (.str "many")))) tNil))) (gName 1) (tIfS (tAnd (tB (tCB (rAll K) (tCons (tLc (iTup K (tCall (SpX (pr_law_ends K w)) [] E0 (tCons (tVar 0) (tCons (tVar 1) tNil)))) (gName 2) tYes (tOp rGtI (tCall (SpX (pr_law_weight K w)) [] E0 (tCons (tVar 0) (tCons (tVar 2) tNil))) (tC (.int 0))) [2]) tNil))) (tB (tCall (SpX (pr_law_rises K w)) [] E0 (tCons (tVar 0) (tCons (tVar 1) tNil))))) (tRet (tVar 1)) tNext)) (tRet (tC .non)))
theorem ps_law_flips_for (T : Tx K mg) (O_law_ends : OkF P w K mg base "_law_ends" (He.ga K "_law_ends") ["_law_model_here", "_law_flips"] 1 (pr_law_ends K w)) (O_law_rises : OkF P w K mg base "_law_rises" (He.ga K "_law_rises") ["_law_model_here", "_law_flips"] 3 (pr_law_rises K w)) (O_law_tuples : OkF P w K mg base "_law_tuples" (He.ga K "_law_tuples") ["_law_rows"] 1 (pr_law_tuples K w)) (O_law_weight : OkF P w K mg base "_law_weight" (He.ga K "_law_weight") ["_law_model_here", "_law_picture"] 1 (pr_law_weight K w)) {cdv : Value} {A : Around} {outer : List Env} {s : Shared} {H : Hp} {E : XK} (hr : Room 3 (A.deeper (envOfC "_law_flips_for" (defScope s_law_flips_for) s.heap.objs.size (He.ga K "_law_flips_for") cdv))) : PSs (cxOf CX0 P w K mg base N_law_flips_for "_law_flips_for" (defScope s_law_flips_for) (He.ga K "_law_flips_for") cdv A outer s H E).nox (defBody s_law_flips_for) (t_law_flips_for K P w) :=
  (pss_cons (ps_for PassesOwn.never rfl (pi_list (pe_cal O_law_tuples (hr.mono (by decide)) rfl (pa_cons (pe_op op_rep (pe_lst (pa_cons (pe_lst (pa_cons pe_bl (pa_cons pe_bl pa_nil))) pa_nil)) (pe_dget (hu_of hr) (pv 0) pe_str (fun _ _ => rfl))) pa_nil))) (pg_name (i := 1) sc_law_flips_for.nd rfl (by first | exact Or.inl rfl | exact Or.inr rfl)) (pss_one (ps_if (PW.pt (pw_and (pt_val (pe_callB (cr_all rfl) rfl T.b_all (by decide +kernel) (pa_cons (pe_lc (own := [("_law_end", 2)]) (g := (gName 2)) (tt := tYes) rfl sc_law_flips_for.nd (pi_tup (pe_cal O_law_ends (hr.mono (by decide)) rfl (pa_cons (pv 0) (pa_cons (pv 1) pa_nil)))) (blkOk_by (own := [("_law_end", 2)]) (N := N_law_flips_for) (sc := defScope s_law_flips_for) (by decide +kernel)) (fun _ _ _ _ _ => (pg_name (i := 2) sc_law_flips_for.nd rfl (by first | exact Or.inl rfl | exact Or.inr rfl))) (fun _ _ _ _ _ => pts_nil) (fun _ _ _ _ _ => (pe_cmpR op_gt (pe_cal O_law_weight (hr.mono (by decide)) rfl (pa_cons (pv 0) (pa_cons (pv 2) pa_nil))) pe_int (nomark _)))) pa_nil))) (pw_and1 (pt_val (pe_cal O_law_rises (hr.mono (by decide)) rfl (pa_cons (pv 0) (pa_cons (pv 1) pa_nil))))))) (pss_one (ps_ret (pv 1))) pss_nil))) (pss_one (ps_ret pe_non)))
def N_law_packed : List PySem.Str := ["_law_model_here"]
theorem sc_law_packed : FnScope N_law_packed ["_law_model_here"] (defScope s_law_packed) := ⟨rfl, rfl, rfl, by decide +kernel, rfl, by decide +kernel, by decide +kernel⟩
def t_law_packed (K : PySem.W.Frag) (P : Program) (w : World) : TS := (tRet (tMake (He.ga K "Model") (spI (He.ga K "Model")) [] E0 (tCons (tDGet (tVar 0) (tC (.str "many"))) (tCons (tDGet (tVar 0) (tC (.str "levels"))) (tCons (tDGet (tVar 0) (tC (.str "weights"))) (tCons (tDGet (tVar 0) (tC (.str "ties"))) tNil))))))
theorem ps_law_packed (T : Tx K mg) (O_Model_init : OkI P w K mg base (He.ga K "Model") (He.ma K (He.ga K "Model") "__init__") ["self", "many", "levels", "weights", "ties"] 6) {cdv : Value} {A : Around} {outer : List Env} {s : Shared} {H : Hp} {E : XK} (hr : Room 7 (A.deeper (envOfC "_law_packed" (defScope s_law_packed) s.heap.objs.size (He.ga K "_law_packed") cdv))) : PSs (cxOf CX0 P w K mg base N_law_packed "_law_packed" (defScope s_law_packed) (He.ga K "_law_packed") cdv A outer s H E).nox (defBody s_law_packed) (t_law_packed K P w) :=
  (pss_one (ps_ret (pe_mk2 T.mkr T.g_Model O_Model_init (hr.mono (by decide)) rfl (pa_cons (pe_dget (hu_of hr) (pv 0) pe_str (fun _ _ => rfl)) (pa_cons (pe_dget (hu_of hr) (pv 0) pe_str (fun _ _ => rfl)) (pa_cons (pe_dget (hu_of hr) (pv 0) pe_str (fun _ _ => rfl)) (pa_cons (pe_dget (hu_of hr) (pv 0) pe_str (fun _ _ => rfl)) pa_nil)))))))
def N_law_flag : List PySem.Str := ["_law_flag_here", "_law_due"]
theorem sc_law_flag : FnScope N_law_flag ["_law_flag_here", "_law_due"] (defScope s_law_flag) := ⟨rfl, rfl, rfl, by decide +kernel, rfl, by decide +kernel, by decide +kernel⟩
def t_law_flag (K : PySem.W.Frag) (P : Program) (w : World) : TS := (tRet (tAndV (tCB (rIsi K) (tCons (tVar 0) (tCons (tC (.ty "bool")) tNil))) (tOp rEq (tVar 0) (tVar 1))))
theorem ps_law_flag (T : Tx K mg)  {cdv : Value} {A : Around} {outer : List Env} {s : Shared} {H : Hp} {E : XK} (hr : Room 0 (A.deeper (envOfC "_law_flag" (defScope s_law_flag) s.heap.objs.size (He.ga K "_law_flag") cdv))) : PSs (cxOf CX0 P w K mg base N_law_flag "_law_flag" (defScope s_law_flag) (He.ga K "_law_flag") cdv A outer s H E).nox (defBody s_law_flag) (t_law_flag K P w) :=
  (pss_one (ps_ret (pe_and (pe_callB call_isi rfl T.b_isinstance (by decide +kernel) (pa_cons (pv 0) (pa_cons (pe_bltn rfl T.b_bool (by decide +kernel) rfl) pa_nil))) (pe_one (pe_cmpR op_eq (pv 0) (pv 1) (nomark _))))))
def N_law_is_drawn_right : List PySem.Str := ["_law_hand_here", "_law_model_here", "_law_packed_here", "_law_many", "_law_due", "_law_told", "_law_some", "_law_flips", "_law_ends_here", "_law_one", "_law_other", "_law_turn", "_law_place", "_law_end", "_law_flip"]
theorem sc_law_is_drawn_right : FnScope N_law_is_drawn_right ["_law_hand_here"] (defScope s_law_is_drawn_right) := ⟨rfl, rfl, rfl, by decide +kernel, rfl, by decide +kernel, by decide +kernel⟩
def t_law_is_drawn_right (K : PySem.W.Frag) (P : Program) (w : World) : TS := (tSeq (tAsg (tCall (SpX (pr_law_model K w)) [] E0 (tCons (tVar 0) tNil)) (gName 1)) (tSeq (tAsg (tTup (tCons (tCall (SpX (pr_law_packed K w)) [] E0 (tCons (tVar 1) tNil)) (tCons (tDGet (tVar 1) (tC (.str "many"))) tNil))) (gTup K 2 (gCons (gName 2) (gCons (gName 3) gNil)))) (tSeq (tAsg (tCall (SpX (pr_law_flips_for K w)) [] E0 (tCons (tVar 1) tNil)) (gName 4)) (tSeq (tAsg (tCall (SpX (pr_flips_for K w)) [] E0 (tCons (tVar 2) tNil)) (gName 5)) (tSeq (tIfS (tOr (tTest (tOp (rNeD K) (tVar 5) (tVar 4))) (tAnd (tB (tNotN (tVar 5))) (tNot (tB (tCB (rAll K) (tCons (tLc (iTup K (tVar 5)) (gName 14) tYes (tCB (rIsi K) (tCons (tVar 14) (tCons (tC (.ty "bool")) tNil))) [14]) tNil)))))) (tRet (tC (.bl false))) tNext) (tSeq (tAsg (tLc (iRng1 (tCons (tC (.int 2)) tNil)) (gName 11) tYes (tCB (rTupQ K) (tCons (tLc (iRng1 (tCons (tVar 3) tNil)) (gName 12) tYes (tOp rEq (tCall (SpX (pr_law_draw K w)) [] E0 (tCons (tVar 0) (tCons (tC (.int 2)) tNil))) (tC (.int 0))) [12]) tNil)) [11]) (gName 6)) (tSeq (tAsg (tOp rCat (tVar 6) (tLst (tCons (tOp (rRepQ K) (tTup (tCons (tC (.bl false)) tNil)) (tVar 3)) (tCons (tIf (tB (tNotN (tVar 4))) (tVar 4) (tOp (rRepQ K) (tTup (tCons (tC (.bl true)) tNil)) (tVar 3))) tNil)))) (gName 6)) (tSeq (tFor (iList K (tVar 6)) (gName 7) (tSeq (tIfS (tNot (tB (tCall (SpX (pr_law_flag K w)) [] E0 (tCons (tCall (SpX (pr_rises K w)) [] E0 (tCons (tVar 2) (tCons (tVar 7) tNil))) (tCons (tCall (SpX (pr_law_rises K w)) [] E0 (tCons (tVar 1) (tCons (tVar 7) tNil))) tNil))))) (tRet (tC (.bl false))) tNext) (tSeq (tAsg (tCall (SpX (pr_law_ends K w)) [] E0 (tCons (tVar 1) (tCons (tVar 7) tNil))) (gName 8)) (tSeq (tIfS (tAnd (tB (tCB (rAll K) (tCons (tLc (iTup K (tVar 8)) (gName 13) tYes (tOp rGtI (tCall (SpX (pr_law_weight K w)) [] E0 (tCons (tVar 1) (tCons (tVar 13) tNil))) (tC (.int 0))) [13]) tNil))) (tTest (tOp (rNeD K) (tCall (SpX (pr_ends_of K w)) [] E0 (tCons (tVar 2) (tCons (tVar 7) tNil))) (tVar 8)))) (tRet (tC (.bl false))) tNext) (tSeq (tAsg (tLc (iRng1 (tCons (tC (.int 2)) tNil)) (gName 11) tYes (tCB (rTupQ K) (tCons (tLc (iRng1 (tCons (tVar 3) tNil)) (gName 12) tYes (tCall (SpX (pr_law_draw K w)) [] E0 (tCons (tVar 0) (tCons (tDGet (tVar 1) (tC (.str "levels"))) tNil))) [12]) tNil)) [11]) (gUnl K 2 (gCons (gName 9) (gCons (gName 10) gNil)))) (tSeq (tAsg (tCall (SpX (pr_law_any K w)) [] E0 (tCons (tVar 0) (tCons (tLst (tCons (tVar 9) (tCons (tVar 9) (tCons (tVar 10) (tCons (tOp (rIxT K) (tVar 8) (tC (.int 0))) tNil))))) tNil))) (gName 9)) (tSeq (tIfS (tNot (tB (tCall (SpX (pr_law_flag K w)) [] E0 (tCons (tCall (SpX (pr_is_below K w)) [] E0 (tCons (tVar 2) (tCons (tVar 7) (tCons (tVar 9) (tCons (tVar 10) tNil))))) (tCons (tCall (SpX (pr_law_is_under K w)) [] E0 (tCons (tVar 7) (tCons (tVar 9) (tCons (tVar 10) tNil)))) tNil))))) (tRet (tC (.bl false))) tNext) (tIfS (tOr (tNot (tB (tCall (SpX (pr_is_below K w)) [] E0 (tCons (tVar 2) (tCons (tVar 7) (tCons (tOp (rIxT K) (tVar 8) (tC (.int 0))) (tCons (tVar 10) tNil))))))) (tNot (tB (tCall (SpX (pr_is_below K w)) [] E0 (tCons (tVar 2) (tCons (tVar 7) (tCons (tVar 10) (tCons (tOp (rIxT K) (tVar 8) (tC (.int 1))) tNil)))))))) (tRet (tC (.bl false))) tNext)))))))) (tRet (tC (.bl true)))))))))))
theorem ps_law_is_drawn_right (T : Tx K mg) (O_law_any : OkF P w K mg base "_law_any" (He.ga K "_law_any") ["_law_hand_here", "_law_things"] 2 (pr_law_any K w)) (O_law_draw : OkF P w K mg base "_law_draw" (He.ga K "_law_draw") ["_law_hand_here", "_law_many"] 1 (pr_law_draw K w)) (O_law_ends : OkF P w K mg base "_law_ends" (He.ga K "_law_ends") ["_law_model_here", "_law_flips"] 1 (pr_law_ends K w)) (O_law_flag : OkF P w K mg base "_law_flag" (He.ga K "_law_flag") ["_law_flag_here", "_law_due"] 1 (pr_law_flag K w)) (O_law_flips_for : OkF P w K mg base "_law_flips_for" (He.ga K "_law_flips_for") ["_law_model_here"] 4 (pr_law_flips_for K w)) (O_law_is_under : OkF P w K mg base "_law_is_under" (He.ga K "_law_is_under") ["_law_flips", "_law_one", "_law_other"] 1 (pr_law_is_under K w)) (O_law_model : OkF P w K mg base "_law_model" (He.ga K "_law_model") ["_law_hand_here"] 4 (pr_law_model K w)) (O_law_packed : OkF P w K mg base "_law_packed" (He.ga K "_law_packed") ["_law_model_here"] 8 (pr_law_packed K w)) (O_law_rises : OkF P w K mg base "_law_rises" (He.ga K "_law_rises") ["_law_model_here", "_law_flips"] 3 (pr_law_rises K w)) (O_law_weight : OkF P w K mg base "_law_weight" (He.ga K "_law_weight") ["_law_model_here", "_law_picture"] 1 (pr_law_weight K w)) (O_ends_of : OkF P w K mg base "ends_of" (He.ga K "ends_of") ["model", "flips"] 3 (pr_ends_of K w)) (O_flips_for : OkF P w K mg base "flips_for" (He.ga K "flips_for") ["model"] 5 (pr_flips_for K w)) (O_is_below : OkF P w K mg base "is_below" (He.ga K "is_below") ["model", "flips", "one", "other"] 4 (pr_is_below K w)) (O_rises : OkF P w K mg base "rises" (He.ga K "rises") ["model", "flips"] 5 (pr_rises K w)) {cdv : Value} {A : Around} {outer : List Env} {s : Shared} {H : Hp} {E : XK} (hr : Room 8 (A.deeper (envOfC "_law_is_drawn_right" (defScope s_law_is_drawn_right) s.heap.objs.size (He.ga K "_law_is_drawn_right") cdv))) : PSs (cxOf CX0 P w K mg base N_law_is_drawn_right "_law_is_drawn_right" (defScope s_law_is_drawn_right) (He.ga K "_law_is_drawn_right") cdv A outer s H E).nox (defBody s_law_is_drawn_right) (t_law_is_drawn_right K P w) :=
  (pss_cons (ps_set (i := 1) sc_law_is_drawn_right.nd rfl (by first | exact Or.inl rfl | exact Or.inr rfl) (pe_cal O_law_model (hr.mono (by decide)) rfl (pa_cons (pv 0) pa_nil))) (pss_cons (ps_asg (pe_tup (pa_cons (pe_cal O_law_packed (hr.mono (by decide)) rfl (pa_cons (pv 1) pa_nil)) (pa_cons (pe_dget (hu_of hr) (pv 1) pe_str (fun _ _ => rfl)) pa_nil))) (pg_tup rfl (pgs_cons (pg_name (i := 2) sc_law_is_drawn_right.nd rfl (by first | exact Or.inl rfl | exact Or.inr rfl)) (pgs_cons (pg_name (i := 3) sc_law_is_drawn_right.nd rfl (by first | exact Or.inl rfl | exact Or.inr rfl)) pgs_nil)))) (pss_cons (ps_set (i := 4) sc_law_is_drawn_right.nd rfl (by first | exact Or.inl rfl | exact Or.inr rfl) (pe_cal O_law_flips_for (hr.mono (by decide)) rfl (pa_cons (pv 1) pa_nil))) (pss_cons (ps_set (i := 5) sc_law_is_drawn_right.nd rfl (by first | exact Or.inl rfl | exact Or.inr rfl) (pe_cal O_flips_for (hr.mono (by decide)) rfl (pa_cons (pv 2) pa_nil))) (pss_cons (ps_if (PW.pt (pw_or (pt_cmpR (op_neD (hu64 hr)) (pv 5) (pv 4) (nomark _)) (pw_or1 (PW.pt (pw_and (pt_cmp (pc_notN (pv 5))) (pw_and1 (pt_not (pt_val (pe_callB (cr_all rfl) rfl T.b_all (by decide +kernel) (pa_cons (pe_lc (own := [("_law_flip", 14)]) (g := (gName 14)) (tt := tYes) rfl sc_law_is_drawn_right.nd (pi_tup (pv 5)) (blkOk_by (own := [("_law_flip", 14)]) (N := N_law_is_drawn_right) (sc := defScope s_law_is_drawn_right) (by decide +kernel)) (fun _ _ _ _ _ => (pg_name (i := 14) sc_law_is_drawn_right.nd rfl (by first | exact Or.inl rfl | exact Or.inr rfl))) (fun _ _ _ _ _ => pts_nil) (fun _ _ _ _ _ => (pe_callB call_isi rfl T.b_isinstance (by decide +kernel) (pa_cons (pv 14) (pa_cons (pe_bltn rfl T.b_bool (by decide +kernel) rfl) pa_nil))))) pa_nil)))))))))) (pss_one (ps_ret pe_bl)) pss_nil) (pss_cons (ps_setLc (i := 6) (own := [("_law_turn", 11)]) (g := (gName 11)) (tt := tYes) rfl sc_law_is_drawn_right.nd rfl rfl (sw_true rfl rfl rfl (by decide +kernel)) (pi_range1 rfl T.b_range (pa_cons pe_int pa_nil)) (blkOk_by (own := [("_law_turn", 11)]) (N := N_law_is_drawn_right) (sc := defScope s_law_is_drawn_right) (by decide +kernel)) (fun _ _ _ _ _ => (pg_name (i := 11) sc_law_is_drawn_right.nd rfl (by first | exact Or.inl rfl | exact Or.inr rfl))) (fun _ _ _ _ _ => pts_nil) (fun _ _ _ _ _ => (pe_callTy c_tuple rfl T.b_tuple (by decide +kernel) (pa_cons (pe_lc (own := [("_law_place", 12)]) (g := (gName 12)) (tt := tYes) rfl sc_law_is_drawn_right.nd (pi_range1 rfl T.b_range (pa_cons (pv 3) pa_nil)) (blkOk_blk (own := [("_law_place", 12)]) (N := N_law_is_drawn_right) (sc := defScope s_law_is_drawn_right) rfl rfl (by decide +kernel)) (fun _ _ _ _ _ => (pg_name (i := 12) sc_law_is_drawn_right.nd rfl (by first | exact Or.inl rfl | exact Or.inr rfl))) (fun _ _ _ _ _ => pts_nil) (fun _ _ _ _ _ => (pe_cmpR op_eq (pe_cal O_law_draw (hr.mono (by decide)) rfl (pa_cons (pv 0) (pa_cons pe_int pa_nil))) pe_int (nomark _)))) pa_nil)))) (pss_cons (ps_set (i := 6) sc_law_is_drawn_right.nd rfl (by first | exact Or.inl rfl | exact Or.inr rfl) (pe_op op_cat (pv 6) (pe_lst (pa_cons (pe_op op_repQ (pe_tup (pa_cons pe_bl pa_nil)) (pv 3)) (pa_cons (pe_ifExp (pt_cmp (pc_notN (pv 4))) (pv 4) (pe_op op_repQ (pe_tup (pa_cons pe_bl pa_nil)) (pv 3))) pa_nil))))) (pss_cons (ps_for PassesOwn.never rfl (pi_list (pv 6)) (pg_name (i := 7) sc_law_is_drawn_right.nd rfl (by first | exact Or.inl rfl | exact Or.inr rfl)) (pss_cons (ps_if (pt_not (pt_val (pe_cal O_law_flag (hr.mono (by decide)) rfl (pa_cons (pe_cal O_rises (hr.mono (by decide)) rfl (pa_cons (pv 2) (pa_cons (pv 7) pa_nil))) (pa_cons (pe_cal O_law_rises (hr.mono (by decide)) rfl (pa_cons (pv 1) (pa_cons (pv 7) pa_nil))) pa_nil))))) (pss_one (ps_ret pe_bl)) pss_nil) (pss_cons (ps_set (i := 8) sc_law_is_drawn_right.nd rfl (by first | exact Or.inl rfl | exact Or.inr rfl) (pe_cal O_law_ends (hr.mono (by decide)) rfl (pa_cons (pv 1) (pa_cons (pv 7) pa_nil)))) (pss_cons (ps_if (PW.pt (pw_and (pt_val (pe_callB (cr_all rfl) rfl T.b_all (by decide +kernel) (pa_cons (pe_lc (own := [("_law_end", 13)]) (g := (gName 13)) (tt := tYes) rfl sc_law_is_drawn_right.nd (pi_tup (pv 8)) (blkOk_by (own := [("_law_end", 13)]) (N := N_law_is_drawn_right) (sc := defScope s_law_is_drawn_right) (by decide +kernel)) (fun _ _ _ _ _ => (pg_name (i := 13) sc_law_is_drawn_right.nd rfl (by first | exact Or.inl rfl | exact Or.inr rfl))) (fun _ _ _ _ _ => pts_nil) (fun _ _ _ _ _ => (pe_cmpR op_gt (pe_cal O_law_weight (hr.mono (by decide)) rfl (pa_cons (pv 1) (pa_cons (pv 13) pa_nil))) pe_int (nomark _)))) pa_nil))) (pw_and1 (pt_cmpR (op_neD (hu64 hr)) (pe_cal O_ends_of (hr.mono (by decide)) rfl (pa_cons (pv 2) (pa_cons (pv 7) pa_nil))) (pv 8) (nomark _))))) (pss_one (ps_ret pe_bl)) pss_nil) (pss_cons (ps_asg (pe_lc (own := [("_law_turn", 11)]) (g := (gName 11)) (tt := tYes) rfl sc_law_is_drawn_right.nd (pi_range1 rfl T.b_range (pa_cons pe_int pa_nil)) (blkOk_by (own := [("_law_turn", 11)]) (N := N_law_is_drawn_right) (sc := defScope s_law_is_drawn_right) (by decide +kernel)) (fun _ _ _ _ _ => (pg_name (i := 11) sc_law_is_drawn_right.nd rfl (by first | exact Or.inl rfl | exact Or.inr rfl))) (fun _ _ _ _ _ => pts_nil) (fun _ _ _ _ _ => (pe_callTy c_tuple rfl T.b_tuple (by decide +kernel) (pa_cons (pe_lc (own := [("_law_place", 12)]) (g := (gName 12)) (tt := tYes) rfl sc_law_is_drawn_right.nd (pi_range1 rfl T.b_range (pa_cons (pv 3) pa_nil)) (blkOk_blk (own := [("_law_place", 12)]) (N := N_law_is_drawn_right) (sc := defScope s_law_is_drawn_right) rfl rfl (by decide +kernel)) (fun _ _ _ _ _ => (pg_name (i := 12) sc_law_is_drawn_right.nd rfl (by first | exact Or.inl rfl | exact Or.inr rfl))) (fun _ _ _ _ _ => pts_nil) (fun _ _ _ _ _ => (pe_cal O_law_draw (hr.mono (by decide)) rfl (pa_cons (pv 0) (pa_cons (pe_dget (hu_of hr) (pv 1) pe_str (fun _ _ => rfl)) pa_nil))))) pa_nil)))) (pg_unl rfl (pgs_cons (pg_name (i := 9) sc_law_is_drawn_right.nd rfl (by first | exact Or.inl rfl | exact Or.inr rfl)) (pgs_cons (pg_name (i := 10) sc_law_is_drawn_right.nd rfl (by first | exact Or.inl rfl | exact Or.inr rfl)) pgs_nil)))) (pss_cons (ps_set (i := 9) sc_law_is_drawn_right.nd rfl (by first | exact Or.inl rfl | exact Or.inr rfl) (pe_cal O_law_any (hr.mono (by decide)) rfl (pa_cons (pv 0) (pa_cons (pe_lst (pa_cons (pv 9) (pa_cons (pv 9) (pa_cons (pv 10) (pa_cons (pe_ix ix_tup (pv 8) pe_int (fun _ _ => rfl)) pa_nil))))) pa_nil)))) (pss_cons (ps_if (pt_not (pt_val (pe_cal O_law_flag (hr.mono (by decide)) rfl (pa_cons (pe_cal O_is_below (hr.mono (by decide)) rfl (pa_cons (pv 2) (pa_cons (pv 7) (pa_cons (pv 9) (pa_cons (pv 10) pa_nil))))) (pa_cons (pe_cal O_law_is_under (hr.mono (by decide)) rfl (pa_cons (pv 7) (pa_cons (pv 9) (pa_cons (pv 10) pa_nil)))) pa_nil))))) (pss_one (ps_ret pe_bl)) pss_nil) (pss_one (ps_if (PW.pt (pw_or (pt_not (pt_val (pe_cal O_is_below (hr.mono (by decide)) rfl (pa_cons (pv 2) (pa_cons (pv 7) (pa_cons (pe_ix ix_tup (pv 8) pe_int (fun _ _ => rfl)) (pa_cons (pv 10) pa_nil))))))) (pw_or1 (pt_not (pt_val (pe_cal O_is_below (hr.mono (by decide)) rfl (pa_cons (pv 2) (pa_cons (pv 7) (pa_cons (pv 10) (pa_cons (pe_ix ix_tup (pv 8) pe_int (fun _ _ => rfl)) pa_nil)))))))))) (pss_one (ps_ret pe_bl)) pss_nil))))))))) (pss_one (ps_ret pe_bl))))))))))
end
end Ly
namespace Ly
open PySem PySem.Spec PyProof.Rows L2
section
variable {P : Program} {w : World} {K : PySem.W.Frag} {mg : Str → Option Value} {base : Heap}
def N_law_tree : List PySem.Str := ["_law_hand_here", "_law_many", "_law_pairs_here", "_law_sides", "_law_counts", "_law_place", "_law_other", "_law_free"]
theorem sc_law_tree : FnScope N_law_tree ["_law_hand_here", "_law_many"] (defScope s_law_tree) := ⟨rfl, rfl, rfl, by decide +kernel, rfl, by decide +kernel, by decide +kernel⟩
def t_law_tree (K : PySem.W.Frag) (P : Program) (w : World) : TS := (tSeq (tAsg (tTup (tCons (tLst tNil) (tCons (tLst (tCons (tC (.bl false)) tNil)) (tCons (tLst (tCons (tC (.int 0)) tNil)) tNil)))) (gTup K 3 (gCons (gName 2) (gCons (gName 3) (gCons (gName 4) gNil))))) (tSeq (tFor (iRng2 (tCons (tC (.int 1)) (tCons (tVar 1) tNil))) (gName 5) (tSeq (tAsg (tLc (iRng1 (tCons (tVar 5) tNil)) (gName 6) (tTest (tOp rLtI (tOp (rIxL K) (tVar 4) (tVar 6)) (tC (.int 4)))) (tVar 6) [6]) (gName 7)) (tSeq (tAsg (tCall (SpX (pr_law_any K w)) [] E0 (tCons (tVar 0) (tCons (tLst (tCons (tOp (rIxL K) (tVar 7) (tUn rNeg (tC (.int 1)))) (tCons (tCall (SpX (pr_law_any K w)) [] E0 (tCons (tVar 0) (tCons (tVar 7) tNil))) tNil))) tNil))) (gName 6)) (tSeq (tAsg (tOp rAddI (tOp (rIxL K) (tVar 4) (tVar 6)) (tC (.int 1))) (gSub (tVar 4) (tVar 6) rSetL)) (tSeq (tDrop (tBM K "list" rAppend (tVar 2) (tCons (tTup (tCons (tVar 6) (tCons (tVar 5) tNil))) tNil))) (tSeq (tDrop (tBM K "list" rAppend (tVar 3) (tCons (tNotV (tOp (rIxL K) (tVar 3) (tVar 6))) tNil))) (tDrop (tBM K "list" rAppend (tVar 4) (tCons (tC (.int 1)) tNil))))))))) (tRet (tTup (tCons (tCB (rTupQ K) (tCons (tCB (rSortU K 2 64) (tCons (tVar 2) tNil)) tNil)) (tCons (tCB (rTupQ K) (tCons (tVar 3) tNil)) tNil))))))
theorem ps_law_tree (T : Tx K mg) (O_law_any : OkF P w K mg base "_law_any" (He.ga K "_law_any") ["_law_hand_here", "_law_things"] 2 (pr_law_any K w)) {cdv : Value} {A : Around} {outer : List Env} {s : Shared} {H : Hp} {E : XK} (hr : Room 2 (A.deeper (envOfC "_law_tree" (defScope s_law_tree) s.heap.objs.size (He.ga K "_law_tree") cdv))) : PSs (cxOf CX0 P w K mg base N_law_tree "_law_tree" (defScope s_law_tree) (He.ga K "_law_tree") cdv A outer s H E).nox (defBody s_law_tree) (t_law_tree K P w) :=
  (pss_cons (ps_asg (pe_tup (pa_cons (pe_lst pa_nil) (pa_cons (pe_lst (pa_cons pe_bl pa_nil)) (pa_cons (pe_lst (pa_cons pe_int pa_nil)) pa_nil)))) (pg_tup rfl (pgs_cons (pg_name (i := 2) sc_law_tree.nd rfl (by first | exact Or.inl rfl | exact Or.inr rfl)) (pgs_cons (pg_name (i := 3) sc_law_tree.nd rfl (by first | exact Or.inl rfl | exact Or.inr rfl)) (pgs_cons (pg_name (i := 4) sc_law_tree.nd rfl (by first | exact Or.inl rfl | exact Or.inr rfl)) pgs_nil))))) (pss_cons (ps_for PassesOwn.never rfl (pi_range2 rfl T.b_range (pa_cons pe_int (pa_cons (pv 1) pa_nil))) (pg_name (i := 5) sc_law_tree.nd rfl (by first | exact Or.inl rfl | exact Or.inr rfl)) (pss_cons (ps_setLc (i := 7) (own := [("_law_other", 6)]) (g := (gName 6)) (tt := (tTest (tOp rLtI (tOp (rIxL K) (tVar 4) (tVar 6)) (tC (.int 4))))) rfl sc_law_tree.nd rfl rfl (sw_true rfl rfl rfl (by decide +kernel)) (pi_range1 rfl T.b_range (pa_cons (pv 5) pa_nil)) (blkOk_by (own := [("_law_other", 6)]) (N := N_law_tree) (sc := defScope s_law_tree) (by decide +kernel)) (fun _ _ _ _ _ => (pg_name (i := 6) sc_law_tree.nd rfl (by first | exact Or.inl rfl | exact Or.inr rfl))) (fun _ _ _ _ _ => (pts_one (pt_cmpR op_lt (pe_ix ix_list (pv 4) (pv 6) (fun _ _ => rfl)) pe_int (nomark _)))) (fun _ _ _ _ _ => (pv 6))) (pss_cons (ps_set (i := 6) sc_law_tree.nd rfl (by first | exact Or.inl rfl | exact Or.inr rfl) (pe_cal O_law_any (hr.mono (by decide)) rfl (pa_cons (pv 0) (pa_cons (pe_lst (pa_cons (pe_ix ix_list (pv 7) (pe_un un_neg pe_int) (fun _ _ => rfl)) (pa_cons (pe_cal O_law_any (hr.mono (by decide)) rfl (pa_cons (pv 0) (pa_cons (pv 7) pa_nil))) pa_nil))) pa_nil)))) (pss_cons (ps_asg (pe_op op_add (pe_ix ix_list (pv 4) (pv 6) (fun _ _ => rfl)) pe_int) (pg_sub (pv 4) (pv 6) set_list)) (pss_cons (ps_expr (pe_bm PySem.F.plainAttrs_list PySem.F.slot_list_append PySem.F.type_list_append mt_append (pv 2) (pa_cons (pe_tup (pa_cons (pv 6) (pa_cons (pv 5) pa_nil))) pa_nil))) (pss_cons (ps_expr (pe_bm PySem.F.plainAttrs_list PySem.F.slot_list_append PySem.F.type_list_append mt_append (pv 3) (pa_cons (pe_not (pe_ix ix_list (pv 3) (pv 6) (fun _ _ => rfl))) pa_nil))) (pss_one (ps_expr (pe_bm PySem.F.plainAttrs_list PySem.F.slot_list_append PySem.F.type_list_append mt_append (pv 4) (pa_cons pe_int pa_nil)))))))))) (pss_one (ps_ret (pe_tup (pa_cons (pe_callTy c_tuple rfl T.b_tuple (by decide +kernel) (pa_cons (pe_callB (cr_sortT (by decide)) rfl T.b_sorted (by decide +kernel) (pa_cons (pv 2) pa_nil)) pa_nil)) (pa_cons (pe_callTy c_tuple rfl T.b_tuple (by decide +kernel) (pa_cons (pv 3) pa_nil)) pa_nil)))))))
def N_law_is_hand_right : List PySem.Str := ["_law_hand_here", "_law_many", "_law_pairs_here", "_law_sides", "_law_least", "_law_most", "_law_ring", "_law_due", "_law_rows", "_law_columns", "_law_last", "_law_floor", "_law_k"]
theorem sc_law_is_hand_right : FnScope N_law_is_hand_right ["_law_hand_here"] (defScope s_law_is_hand_right) := ⟨rfl, rfl, rfl, by decide +kernel, rfl, by decide +kernel, by decide +kernel⟩
def t_law_is_hand_right (K : PySem.W.Frag) (P : Program) (w : World) : TS := (tSeq (tAsg (tOp rAddI (tC (.int 4)) (tCall (SpX (pr_law_draw K w)) [] E0 (tCons (tVar 0) (tCons (tC (.int 9)) tNil)))) (gName 1)) (tSeq (tAsg (tCall (SpX (pr_law_tree K w)) [] E0 (tCons (tVar 0) (tCons (tVar 1) tNil))) (gTup K 2 (gCons (gName 2) (gCons (gName 3) gNil)))) (tSeq (tPar 4 5 (tCons (tOp rAddI (tC (.int 1)) (tCall (SpX (pr_law_draw K w)) [] E0 (tCons (tVar 0) (tCons (tC (.int 3)) tNil)))) (tCons (tOp rAddI (tC (.int 4)) (tCall (SpX (pr_law_draw K w)) [] E0 (tCons (tVar 0) (tCons (tC (.int 997)) tNil)))) tNil))) (tSeq (tIfS (tTest (tOp (rNeD K) (tCall (SpX (pr_flips_for K w)) [] E0 (tCons (tCall (SpX (pr_spins K w)) [] E0 (tCons (tVar 1) (tCons (tVar 2) (tCons (tVar 5) (tCons (tVar 4) tNil))))) tNil)) (tOp (rRepQ K) (tTup (tCons (tC (.bl false)) tNil)) (tVar 1)))) (tRet (tC (.bl false))) tNext) (tSeq (tIfS (tOr (tTest (tOp (rNeD K) (tCall (SpX (pr_flips_for K w)) [] E0 (tCons (tCall (SpX (pr_spins K w)) [] E0 (tCons (tVar 1) (tCons (tVar 2) (tCons (tVar 4) (tCons (tVar 5) tNil))))) tNil)) (tVar 3))) (tTest (tOp (rNeD K) (tCall (SpX (pr_flips_for K w)) [] E0 (tCons (tCall (SpX (pr_sets_apart K w)) [] E0 (tCons (tVar 1) (tCons (tVar 2) (tCons (tVar 4) tNil)))) tNil)) (tVar 3)))) (tRet (tC (.bl false))) tNext) (tSeq (tAsg (tCB (rTupQ K) (tCons (tCB (rSortU K 2 64) (tCons (tOp rCat (tLc (iRng1 (tCons (tOp rSubI (tVar 1) (tC (.int 1))) tNil)) (gName 12) tYes (tTup (tCons (tVar 12) (tCons (tOp rAddI (tVar 12) (tC (.int 1))) tNil))) [12]) (tLst (tCons (tTup (tCons (tC (.int 0)) (tCons (tOp rSubI (tVar 1) (tC (.int 1))) tNil))) tNil))) tNil)) tNil)) (gName 6)) (tSeq (tAsg (tIf (tTest (tOp rEq (tOp rModI (tCB rInt1 (tCons (tVar 1) tNil)) (tC (.int 2))) (tC (.int 0)))) (tCB (rTupQ K) (tCons (tLc (iRng1 (tCons (tVar 1) tNil)) (gName 12) tYes (tOp rEq (tOp rModI (tCB rInt1 (tCons (tVar 12) tNil)) (tC (.int 2))) (tC (.int 1))) [12]) tNil)) (tC .non)) (gName 7)) (tSeq (tIfS (tOr (tTest (tOp (rNeD K) (tCall (SpX (pr_flips_for K w)) [] E0 (tCons (tCall (SpX (pr_spins K w)) [] E0 (tCons (tVar 1) (tCons (tVar 6) (tCons (tVar 4) (tCons (tVar 5) tNil))))) tNil)) (tVar 7))) (tTest (tOp (rNeD K) (tCall (SpX (pr_flips_for K w)) [] E0 (tCons (tCall (SpX (pr_spins K w)) [] E0 (tCons (tVar 1) (tCons (tVar 6) (tCons (tVar 5) (tCons (tVar 4) tNil))))) tNil)) (tOp (rRepQ K) (tTup (tCons (tC (.bl false)) tNil)) (tVar 1))))) (tRet (tC (.bl false))) tNext) (tSeq (tAsg (tCall (SpX (pr_law_any K w)) [] E0 (tCons (tVar 0) (tCons (tLst (tCons (tTup (tCons (tC (.int 3)) (tCons (tC (.int 4)) (tCons (tC (.int 2)) tNil)))) (tCons (tTup (tCons (tC (.int 2)) (tCons (tC (.int 6)) (tCons (tC (.int 3)) tNil)))) (tCons (tTup (tCons (tC (.int 4)) (tCons (tC (.int 3)) (tCons (tC (.int 1)) tNil)))) (tCons (tTup (tCons (tC (.int 1)) (tCons (tC (.int 12)) (tCons (tC (.int 3)) tNil)))) (tCons (tTup (tCons (tC (.int 2)) (tCons (tC (.int 2)) (tCons (tC (.int 0)) tNil)))) tNil)))))) tNil))) (gTup K 3 (gCons (gName 8) (gCons (gName 9) (gCons (gName 10) gNil))))) (tSeq (tAsg (tCall (SpX (pr_stacks K w)) [] E0 (tCons (tVar 8) (tCons (tVar 9) (tCons (tVar 10) tNil)))) (gName 11)) (tSeq (tIfS (tTest (tOp (rNeD K) (tCall (SpX (pr_flips_for K w)) [] E0 (tCons (tVar 11) tNil)) (tOp (rRepQ K) (tTup (tCons (tC (.bl false)) tNil)) (tOp rMulI (tVar 8) (tVar 9))))) (tRet (tC (.bl false))) tNext) (tRet (tOp (rEqD K) (tCall (SpX (pr_ends_of K w)) [] E0 (tCons (tVar 11) (tCons (tOp (rRepQ K) (tTup (tCons (tC (.bl false)) tNil)) (tOp rMulI (tVar 8) (tVar 9))) tNil))) (tTup (tCons (tOp (rRepQ K) (tTup (tCons (tC (.int 0)) tNil)) (tOp rMulI (tVar 8) (tVar 9))) (tCons (tOp (rRepQ K) (tTup (tCons (tVar 10) tNil)) (tOp rMulI (tVar 8) (tVar 9))) tNil))))))))))))))))
theorem ps_law_is_hand_right (T : Tx K mg) (O_law_any : OkF P w K mg base "_law_any" (He.ga K "_law_any") ["_law_hand_here", "_law_things"] 2 (pr_law_any K w)) (O_law_draw : OkF P w K mg base "_law_draw" (He.ga K "_law_draw") ["_law_hand_here", "_law_many"] 1 (pr_law_draw K w)) (O_law_tree : OkF P w K mg base "_law_tree" (He.ga K "_law_tree") ["_law_hand_here", "_law_many"] 3 (pr_law_tree K w)) (O_ends_of : OkF P w K mg base "ends_of" (He.ga K "ends_of") ["model", "flips"] 3 (pr_ends_of K w)) (O_flips_for : OkF P w K mg base "flips_for" (He.ga K "flips_for") ["model"] 5 (pr_flips_for K w)) (O_sets_apart : OkF P w K mg base "sets_apart" (He.ga K "sets_apart") ["many", "pairs", "number"] 9 (pr_sets_apart K w)) (O_spins : OkF P w K mg base "spins" (He.ga K "spins") ["many", "pairs", "same", "other"] 9 (pr_spins K w)) (O_stacks : OkF P w K mg base "stacks" (He.ga K "stacks") ["rows", "columns", "most"] 9 (pr_stacks K w)) {cdv : Value} {A : Around} {outer : List Env} {s : Shared} {H : Hp} {E : XK} (hr : Room 9 (A.deeper (envOfC "_law_is_hand_right" (defScope s_law_is_hand_right) s.heap.objs.size (He.ga K "_law_is_hand_right") cdv))) : PSs (cxOf CX0 P w K mg base N_law_is_hand_right "_law_is_hand_right" (defScope s_law_is_hand_right) (He.ga K "_law_is_hand_right") cdv A outer s H E).nox (defBody s_law_is_hand_right) (t_law_is_hand_right K P w) :=
  (pss_cons (ps_set (i := 1) sc_law_is_hand_right.nd rfl (by first | exact Or.inl rfl | exact Or.inr rfl) (pe_op op_add pe_int (pe_cal O_law_draw (hr.mono (by decide)) rfl (pa_cons (pv 0) (pa_cons pe_int pa_nil))))) (pss_cons (ps_asg (pe_cal O_law_tree (hr.mono (by decide)) rfl (pa_cons (pv 0) (pa_cons (pv 1) pa_nil))) (pg_tup rfl (pgs_cons (pg_name (i := 2) sc_law_is_hand_right.nd rfl (by first | exact Or.inl rfl | exact Or.inr rfl)) (pgs_cons (pg_name (i := 3) sc_law_is_hand_right.nd rfl (by first | exact Or.inl rfl | exact Or.inr rfl)) pgs_nil)))) (pss_cons (ps_par (i := 4) (j := 5) rfl sc_law_is_hand_right.nd rfl rfl (by decide) rfl rfl (pa_cons (pe_op op_add pe_int (pe_cal O_law_draw (hr.mono (by decide)) rfl (pa_cons (pv 0) (pa_cons pe_int pa_nil)))) (pa_cons (pe_op op_add pe_int (pe_cal O_law_draw (hr.mono (by decide)) rfl (pa_cons (pv 0) (pa_cons pe_int pa_nil)))) pa_nil)) (by rfl)) (pss_cons (ps_if (pt_cmpR (op_neD (hu64 hr)) (pe_cal O_flips_for (hr.mono (by decide)) rfl (pa_cons (pe_cal O_spins (hr.mono (by decide)) rfl (pa_cons (pv 1) (pa_cons (pv 2) (pa_cons (pv 5) (pa_cons (pv 4) pa_nil))))) pa_nil)) (pe_op op_repQ (pe_tup (pa_cons pe_bl pa_nil)) (pv 1)) (nomark _)) (pss_one (ps_ret pe_bl)) pss_nil) (pss_cons (ps_if (PW.pt (pw_or (pt_cmpR (op_neD (hu64 hr)) (pe_cal O_flips_for (hr.mono (by decide)) rfl (pa_cons (pe_cal O_spins (hr.mono (by decide)) rfl (pa_cons (pv 1) (pa_cons (pv 2) (pa_cons (pv 4) (pa_cons (pv 5) pa_nil))))) pa_nil)) (pv 3) (nomark _)) (pw_or1 (pt_cmpR (op_neD (hu64 hr)) (pe_cal O_flips_for (hr.mono (by decide)) rfl (pa_cons (pe_cal O_sets_apart (hr.mono (by decide)) rfl (pa_cons (pv 1) (pa_cons (pv 2) (pa_cons (pv 4) pa_nil)))) pa_nil)) (pv 3) (nomark _))))) (pss_one (ps_ret pe_bl)) pss_nil) (pss_cons (ps_set (i := 6) sc_law_is_hand_right.nd rfl (by first | exact Or.inl rfl | exact Or.inr rfl) (pe_callTy c_tuple rfl T.b_tuple (by decide +kernel) (pa_cons (pe_callB (cr_sortT (by decide)) rfl T.b_sorted (by decide +kernel) (pa_cons (pe_op op_cat (pe_lc (own := [("_law_k", 12)]) (g := (gName 12)) (tt := tYes) rfl sc_law_is_hand_right.nd (pi_range1 rfl T.b_range (pa_cons (pe_op op_sub (pv 1) pe_int) pa_nil)) (blkOk_by (own := [("_law_k", 12)]) (N := N_law_is_hand_right) (sc := defScope s_law_is_hand_right) (by decide +kernel)) (fun _ _ _ _ _ => (pg_name (i := 12) sc_law_is_hand_right.nd rfl (by first | exact Or.inl rfl | exact Or.inr rfl))) (fun _ _ _ _ _ => pts_nil) (fun _ _ _ _ _ => (pe_tup (pa_cons (pv 12) (pa_cons (pe_op op_add (pv 12) pe_int) pa_nil))))) (pe_lst (pa_cons (pe_tup (pa_cons pe_int (pa_cons (pe_op op_sub (pv 1) pe_int) pa_nil))) pa_nil))) pa_nil)) pa_nil))) (pss_cons (ps_set (i := 7) sc_law_is_hand_right.nd rfl (by first | exact Or.inl rfl | exact Or.inr rfl) (pe_ifExp (pt_cmpR op_eq (pe_op op_mod (pe_callTy c_int rfl T.b_int (by decide +kernel) (pa_cons (pv 1) pa_nil)) pe_int) pe_int (nomark _)) (pe_callTy c_tuple rfl T.b_tuple (by decide +kernel) (pa_cons (pe_lc (own := [("_law_k", 12)]) (g := (gName 12)) (tt := tYes) rfl sc_law_is_hand_right.nd (pi_range1 rfl T.b_range (pa_cons (pv 1) pa_nil)) (blkOk_by (own := [("_law_k", 12)]) (N := N_law_is_hand_right) (sc := defScope s_law_is_hand_right) (by decide +kernel)) (fun _ _ _ _ _ => (pg_name (i := 12) sc_law_is_hand_right.nd rfl (by first | exact Or.inl rfl | exact Or.inr rfl))) (fun _ _ _ _ _ => pts_nil) (fun _ _ _ _ _ => (pe_cmpR op_eq (pe_op op_mod (pe_callTy c_int rfl T.b_int (by decide +kernel) (pa_cons (pv 12) pa_nil)) pe_int) pe_int (nomark _)))) pa_nil)) pe_non)) (pss_cons (ps_if (PW.pt (pw_or (pt_cmpR (op_neD (hu64 hr)) (pe_cal O_flips_for (hr.mono (by decide)) rfl (pa_cons (pe_cal O_spins (hr.mono (by decide)) rfl (pa_cons (pv 1) (pa_cons (pv 6) (pa_cons (pv 4) (pa_cons (pv 5) pa_nil))))) pa_nil)) (pv 7) (nomark _)) (pw_or1 (pt_cmpR (op_neD (hu64 hr)) (pe_cal O_flips_for (hr.mono (by decide)) rfl (pa_cons (pe_cal O_spins (hr.mono (by decide)) rfl (pa_cons (pv 1) (pa_cons (pv 6) (pa_cons (pv 5) (pa_cons (pv 4) pa_nil))))) pa_nil)) (pe_op op_repQ (pe_tup (pa_cons pe_bl pa_nil)) (pv 1)) (nomark _))))) (pss_one (ps_ret pe_bl)) pss_nil) (pss_cons (ps_asg (pe_cal O_law_any (hr.mono (by decide)) rfl (pa_cons (pv 0) (pa_cons (pe_lst (pa_cons (pe_tup (pa_cons pe_int (pa_cons pe_int (pa_cons pe_int pa_nil)))) (pa_cons (pe_tup (pa_cons pe_int (pa_cons pe_int (pa_cons pe_int pa_nil)))) (pa_cons (pe_tup (pa_cons pe_int (pa_cons pe_int (pa_cons pe_int pa_nil)))) (pa_cons (pe_tup (pa_cons pe_int (pa_cons pe_int (pa_cons pe_int pa_nil)))) (pa_cons (pe_tup (pa_cons pe_int (pa_cons pe_int (pa_cons pe_int pa_nil)))) pa_nil)))))) pa_nil))) (pg_tup rfl (pgs_cons (pg_name (i := 8) sc_law_is_hand_right.nd rfl (by first | exact Or.inl rfl | exact Or.inr rfl)) (pgs_cons (pg_name (i := 9) sc_law_is_hand_right.nd rfl (by first | exact Or.inl rfl | exact Or.inr rfl)) (pgs_cons (pg_name (i := 10) sc_law_is_hand_right.nd rfl (by first | exact Or.inl rfl | exact Or.inr rfl)) pgs_nil))))) (pss_cons (ps_set (i := 11) sc_law_is_hand_right.nd rfl (by first | exact Or.inl rfl | exact Or.inr rfl) (pe_cal O_stacks (hr.mono (by decide)) rfl (pa_cons (pv 8) (pa_cons (pv 9) (pa_cons (pv 10) pa_nil))))) (pss_cons (ps_if (pt_cmpR (op_neD (hu64 hr)) (pe_cal O_flips_for (hr.mono (by decide)) rfl (pa_cons (pv 11) pa_nil)) (pe_op op_repQ (pe_tup (pa_cons pe_bl pa_nil)) (pe_op op_mul (pv 8) (pv 9))) (nomark _)) (pss_one (ps_ret pe_bl)) pss_nil) (pss_one (ps_ret (pe_cmpR (op_eqD (hu64 hr)) (pe_cal O_ends_of (hr.mono (by decide)) rfl (pa_cons (pv 11) (pa_cons (pe_op op_repQ (pe_tup (pa_cons pe_bl pa_nil)) (pe_op op_mul (pv 8) (pv 9))) pa_nil))) (pe_tup (pa_cons (pe_op op_repQ (pe_tup (pa_cons pe_int pa_nil)) (pe_op op_mul (pv 8) (pv 9))) (pa_cons (pe_op op_repQ (pe_tup (pa_cons (pv 10) pa_nil)) (pe_op op_mul (pv 8) (pv 9))) pa_nil))) (nomark _)))))))))))))))
def N_law_known : List PySem.Str := ["_law_model_here", "_law_found", "_law_place", "_law_near_here", "_law_known_here", "_law_some", "_law_flips", "_law_other", "_law_flip"]
theorem sc_law_known : FnScope N_law_known ["_law_model_here"] (defScope s_law_known) := ⟨rfl, rfl, rfl, by decide +kernel, rfl, by decide +kernel, by decide +kernel⟩
def t_law_known (K : PySem.W.Frag) (P : Program) (w : World) : TS := (tSeq (tAsg (tLst tNil) (gName 1)) (tSeq (tFor (iRng1 (tCons (tDGet (tVar 0) (tC (.str "many"))) tNil)) (gName 2) (tSeq (tPar 3 4 (tCons (tCall (SpX (pr_law_near K w)) [] E0 (tCons (tVar 0) (tCons (tVar 2) tNil))) (tCons (tKNew w) tNil))) (tSeq (tFor (iList K (tCall (SpX (pr_law_tuples K w)) [] E0 (tCons (tOp rRep (tLst (tCons (tLst (tCons (tC (.bl false)) (tCons (tC (.bl true)) tNil))) tNil)) (tOp rAddI (tC (.int 1)) (tCB (rLenQ K) (tCons (tVar 3) tNil)))) tNil))) (gName 5) (tSeq (tAsg (tOp rRep (tLst (tCons (tC (.bl false)) tNil)) (tDGet (tVar 0) (tC (.str "many")))) (gName 6)) (tSeq (tAsg (tOp (rIxT K) (tVar 5) (tC (.int 0))) (gSub (tVar 6) (tVar 2) rSetL)) (tSeq (tFor (iZip2 kL kT (tCons (tVar 3) (tCons (tSl (rSlA K) (tVar 5) (tPart (tC (.int 1))) tNoPart) tNil))) (gTup K 2 (gCons (gName 7) (gCons (gName 8) gNil))) (tAsg (tVar 8) (gSub (tVar 6) (tVar 7) rSetL))) (sKPut w (tVar 4) (tVar 5) (tCall (SpX (pr_law_rises_at K w)) [] E0 (tCons (tVar 0) (tCons (tVar 6) (tCons (tVar 2) tNil))))))))) (tDrop (tBM K "list" rAppend (tVar 1) (tCons (tTup (tCons (tVar 3) (tCons (tVar 4) tNil))) tNil)))))) (tRet (tVar 1))))
theorem ps_law_known (T : Tx K mg) (O_law_near : OkF P w K mg base "_law_near" (He.ga K "_law_near") ["_law_model_here", "_law_place"] 1 (pr_law_near K w)) (O_law_rises_at : OkF P w K mg base "_law_rises_at" (He.ga K "_law_rises_at") ["_law_model_here", "_law_flips", "_law_place"] 2 (pr_law_rises_at K w)) (O_law_tuples : OkF P w K mg base "_law_tuples" (He.ga K "_law_tuples") ["_law_rows"] 1 (pr_law_tuples K w)) {cdv : Value} {A : Around} {outer : List Env} {s : Shared} {H : Hp} {E : XK} (hr : Room 2 (A.deeper (envOfC "_law_known" (defScope s_law_known) s.heap.objs.size (He.ga K "_law_known") cdv))) : PSs (cxOf CX0 P w K mg base N_law_known "_law_known" (defScope s_law_known) (He.ga K "_law_known") cdv A outer s H E).nox (defBody s_law_known) (t_law_known K P w) :=
  (pss_cons (ps_set (i := 1) sc_law_known.nd rfl (by first | exact Or.inl rfl | exact Or.inr rfl) (pe_lst pa_nil)) (pss_cons (ps_for PassesOwn.never rfl (pi_range1 rfl T.b_range (pa_cons (pe_dget (hu_of hr) (pv 0) pe_str (fun _ _ => rfl)) pa_nil)) (pg_name (i := 2) sc_law_known.nd rfl (by first | exact Or.inl rfl | exact Or.inr rfl)) (pss_cons (ps_par (i := 3) (j := 4) rfl sc_law_known.nd rfl rfl (by decide) rfl rfl (pa_cons (pe_cal O_law_near (hr.mono (by decide)) rfl (pa_cons (pv 0) (pa_cons (pv 2) pa_nil))) (pa_cons pe_knew pa_nil)) (by rfl)) (pss_cons (ps_for PassesOwn.never rfl (pi_list (pe_cal O_law_tuples (hr.mono (by decide)) rfl (pa_cons (pe_op op_rep (pe_lst (pa_cons (pe_lst (pa_cons pe_bl (pa_cons pe_bl pa_nil))) pa_nil)) (pe_op op_add pe_int (pe_callB c_len rfl T.b_len (by decide +kernel) (pa_cons (pv 3) pa_nil)))) pa_nil))) (pg_name (i := 5) sc_law_known.nd rfl (by first | exact Or.inl rfl | exact Or.inr rfl)) (pss_cons (ps_set (i := 6) sc_law_known.nd rfl (by first | exact Or.inl rfl | exact Or.inr rfl) (pe_op op_rep (pe_lst (pa_cons pe_bl pa_nil)) (pe_dget (hu_of hr) (pv 0) pe_str (fun _ _ => rfl)))) (pss_cons (ps_asg (pe_ix ix_tup (pv 5) pe_int (fun _ _ => rfl)) (pg_sub (pv 6) (pv 2) set_list)) (pss_cons (ps_for PassesOwn.never rfl (pi_zip2 (k1 := kL) (k2 := kT) rfl T.b_zip (pa_cons (pv 3) (pa_cons (pe_slice sl_tupA (pv 5) (po_some pe_int) po_none) pa_nil))) (pg_tup rfl (pgs_cons (pg_name (i := 7) sc_law_known.nd rfl (by first | exact Or.inl rfl | exact Or.inr rfl)) (pgs_cons (pg_name (i := 8) sc_law_known.nd rfl (by first | exact Or.inl rfl | exact Or.inr rfl)) pgs_nil))) (pss_one (ps_asg (pv 8) (pg_sub (pv 6) (pv 7) set_list)))) (pss_one (ps_kput (hu64 hr) (pv 4) (pv 5) (pe_cal O_law_rises_at (hr.mono (by decide)) rfl (pa_cons (pv 0) (pa_cons (pv 6) (pa_cons (pv 2) pa_nil)))) rfl)))))) (pss_one (ps_expr (pe_bm PySem.F.plainAttrs_list PySem.F.slot_list_append PySem.F.type_list_append mt_append (pv 1) (pa_cons (pe_tup (pa_cons (pv 3) (pa_cons (pv 4) pa_nil))) pa_nil))))))) (pss_one (ps_ret (pv 1)))))
def N_law_is_known : List PySem.Str := ["_law_known_here", "_law_flips", "_law_place", "_law_near_here", "_law_holds", "_law_other"]
theorem sc_law_is_known : FnScope N_law_is_known ["_law_known_here", "_law_flips"] (defScope s_law_is_known) := ⟨rfl, rfl, rfl, by decide +kernel, rfl, by decide +kernel, by decide +kernel⟩
def t_law_is_known (K : PySem.W.Frag) (P : Program) (w : World) : TS := (tSeq (tFor (iRng1 (tCons (tCB (rLenQ K) (tCons (tVar 1) tNil)) tNil)) (gName 2) (tSeq (tAsg (tOp (rIxL K) (tVar 0) (tVar 2)) (gTup K 2 (gCons (gName 3) (gCons (gName 4) gNil)))) (tIfS (tNot (tB (tKGet w (tVar 4) (tOp (rCatA K) (tTup (tCons (tOp (rIxT K) (tVar 1) (tVar 2)) tNil)) (tCB (rTupQ K) (tCons (tLc (iList K (tVar 3)) (gName 5) tYes (tOp (rIxT K) (tVar 1) (tVar 5)) [5]) tNil)))))) (tRet (tC (.bl false))) tNext))) (tRet (tC (.bl true))))
theorem ps_law_is_known (T : Tx K mg)  {cdv : Value} {A : Around} {outer : List Env} {s : Shared} {H : Hp} {E : XK} (hr : Room 0 (A.deeper (envOfC "_law_is_known" (defScope s_law_is_known) s.heap.objs.size (He.ga K "_law_is_known") cdv))) : PSs (cxOf CX0 P w K mg base N_law_is_known "_law_is_known" (defScope s_law_is_known) (He.ga K "_law_is_known") cdv A outer s H E).nox (defBody s_law_is_known) (t_law_is_known K P w) :=
  (pss_cons (ps_for PassesOwn.never rfl (pi_range1 rfl T.b_range (pa_cons (pe_callB c_len rfl T.b_len (by decide +kernel) (pa_cons (pv 1) pa_nil)) pa_nil)) (pg_name (i := 2) sc_law_is_known.nd rfl (by first | exact Or.inl rfl | exact Or.inr rfl)) (pss_cons (ps_asg (pe_ix ix_list (pv 0) (pv 2) (fun _ _ => rfl)) (pg_tup rfl (pgs_cons (pg_name (i := 3) sc_law_is_known.nd rfl (by first | exact Or.inl rfl | exact Or.inr rfl)) (pgs_cons (pg_name (i := 4) sc_law_is_known.nd rfl (by first | exact Or.inl rfl | exact Or.inr rfl)) pgs_nil)))) (pss_one (ps_if (pt_not (pt_val (pe_kget (hu64 hr) (pv 4) (pe_op op_catA (pe_tup (pa_cons (pe_ix ix_tup (pv 1) (pv 2) (fun _ _ => rfl)) pa_nil)) (pe_callTy c_tuple rfl T.b_tuple (by decide +kernel) (pa_cons (pe_lc (own := [("_law_other", 5)]) (g := (gName 5)) (tt := tYes) rfl sc_law_is_known.nd (pi_list (pv 3)) (blkOk_by (own := [("_law_other", 5)]) (N := N_law_is_known) (sc := defScope s_law_is_known) (by decide +kernel)) (fun _ _ _ _ _ => (pg_name (i := 5) sc_law_is_known.nd rfl (by first | exact Or.inl rfl | exact Or.inr rfl))) (fun _ _ _ _ _ => pts_nil) (fun _ _ _ _ _ => (pe_ix ix_tup (pv 1) (pv 5) (fun _ _ => rfl)))) pa_nil))) (fun _ _ => rfl)))) (pss_one (ps_ret pe_bl)) pss_nil)))) (pss_one (ps_ret pe_bl)))
def N_law_is_wide_right : List PySem.Str := ["_law_hand_here", "_law_many", "_law_model_here", "_law_packed_here", "_law_known_here", "_law_due", "_law_flips", "_law_some", "_law_place", "_law_end"]
theorem sc_law_is_wide_right : FnScope N_law_is_wide_right ["_law_hand_here"] (defScope s_law_is_wide_right) := ⟨rfl, rfl, rfl, by decide +kernel, rfl, by decide +kernel, by decide +kernel⟩
def t_law_is_wide_right (K : PySem.W.Frag) (P : Program) (w : World) : TS := (tSeq (tAsg (tOp rAddI (tC (.int 7)) (tCall (SpX (pr_law_draw K w)) [] E0 (tCons (tVar 0) (tCons (tC (.int 6)) tNil)))) (gName 1)) (tSeq (tAsg (tCall (SpX (pr_law_wide K w)) [] E0 (tCons (tVar 0) (tCons (tVar 1) (tCons (tIf (tTest (tOp rLtI (tVar 1) (tC (.int 10)))) (tCall (SpX (pr_law_any K w)) [] E0 (tCons (tVar 0) (tCons (tLst (tCons (tC (.int 2)) (tCons (tC (.int 2)) (tCons (tC (.int 2)) (tCons (tC (.int 3)) tNil))))) tNil))) (tC (.int 2))) tNil)))) (gName 2)) (tSeq (tPar3 3 4 5 (tCons (tCall (SpX (pr_law_packed K w)) [] E0 (tCons (tVar 2) tNil)) (tCons (tCall (SpX (pr_law_known K w)) [] E0 (tCons (tVar 2) tNil)) (tCons (tC .non) tNil)))) (tSeq (tFor (iList K (tCall (SpX (pr_law_tuples K w)) [] E0 (tCons (tOp rRep (tLst (tCons (tLst (tCons (tC (.bl false)) (tCons (tC (.bl true)) tNil))) tNil)) (tVar 1)) tNil))) (gName 6) (tIfS (tAnd (tB (tIsN (tVar 5))) (tB (tCall (SpX (pr_law_is_known K w)) [] E0 (tCons (tVar 4) (tCons (tVar 6) tNil))))) (tAsg (tIf (tB (tCB (rAll K) (tCons (tLc (iTup K (tCall (SpX (pr_law_ends K w)) [] E0 (tCons (tVar 2) (tCons (tVar 6) tNil)))) (gName 9) tYes (tOp rGtI (tCall (SpX (pr_law_weight K w)) [] E0 (tCons (tVar 2) (tCons (tVar 9) tNil))) (tC (.int 0))) [9]) tNil))) (tVar 6) (tC .non)) (gName 5)) tNext)) (tSeq (tIfS (tTest (tOp (rNeD K) (tCall (SpX (pr_flips_for K w)) [] E0 (tCons (tVar 3) tNil)) (tVar 5))) (tRet (tC (.bl false))) tNext) (tSeq (tAsg (tLst (tCons (tCB (rTupQ K) (tCons (tLc (iRng1 (tCons (tVar 1) tNil)) (gName 8) tYes (tOp rEq (tCall (SpX (pr_law_draw K w)) [] E0 (tCons (tVar 0) (tCons (tC (.int 2)) tNil))) (tC (.int 0))) [8]) tNil)) (tCons (tOp (rRepQ K) (tTup (tCons (tC (.bl false)) tNil)) (tVar 1)) tNil))) (gName 7)) (tSeq (tFor (iList K (tOp rCat (tVar 7) (tIf (tB (tNotN (tVar 5))) (tLst (tCons (tVar 5) (tCons (tOp (rCatA K) (tSl (rSlA K) (tVar 5) tNoPart (tPart (tUn rNeg (tC (.int 1))))) (tTup (tCons (tNotV (tOp (rIxT K) (tVar 5) (tUn rNeg (tC (.int 1))))) tNil))) tNil))) (tLst tNil)))) (gName 6) (tIfS (tNot (tB (tCall (SpX (pr_law_flag K w)) [] E0 (tCons (tCall (SpX (pr_rises K w)) [] E0 (tCons (tVar 3) (tCons (tVar 6) tNil))) (tCons (tCall (SpX (pr_law_is_known K w)) [] E0 (tCons (tVar 4) (tCons (tVar 6) tNil))) tNil))))) (tRet (tC (.bl false))) tNext)) (tRet (tOrV (tIsN (tVar 5)) (tOp (rEqD K) (tCall (SpX (pr_ends_of K w)) [] E0 (tCons (tVar 3) (tCons (tVar 5) tNil))) (tCall (SpX (pr_law_ends K w)) [] E0 (tCons (tVar 2) (tCons (tVar 5) tNil)))))))))))))
theorem ps_law_is_wide_right (T : Tx K mg) (O_law_any : OkF P w K mg base "_law_any" (He.ga K "_law_any") ["_law_hand_here", "_law_things"] 2 (pr_law_any K w)) (O_law_draw : OkF P w K mg base "_law_draw" (He.ga K "_law_draw") ["_law_hand_here", "_law_many"] 1 (pr_law_draw K w)) (O_law_ends : OkF P w K mg base "_law_ends" (He.ga K "_law_ends") ["_law_model_here", "_law_flips"] 1 (pr_law_ends K w)) (O_law_flag : OkF P w K mg base "_law_flag" (He.ga K "_law_flag") ["_law_flag_here", "_law_due"] 1 (pr_law_flag K w)) (O_law_is_known : OkF P w K mg base "_law_is_known" (He.ga K "_law_is_known") ["_law_known_here", "_law_flips"] 1 (pr_law_is_known K w)) (O_law_known : OkF P w K mg base "_law_known" (He.ga K "_law_known") ["_law_model_here"] 3 (pr_law_known K w)) (O_law_packed : OkF P w K mg base "_law_packed" (He.ga K "_law_packed") ["_law_model_here"] 8 (pr_law_packed K w)) (O_law_tuples : OkF P w K mg base "_law_tuples" (He.ga K "_law_tuples") ["_law_rows"] 1 (pr_law_tuples K w)) (O_law_weight : OkF P w K mg base "_law_weight" (He.ga K "_law_weight") ["_law_model_here", "_law_picture"] 1 (pr_law_weight K w)) (O_law_wide : OkF P w K mg base "_law_wide" (He.ga K "_law_wide") ["_law_hand_here", "_law_many", "_law_levels"] 4 (pr_law_wide K w)) (O_ends_of : OkF P w K mg base "ends_of" (He.ga K "ends_of") ["model", "flips"] 3 (pr_ends_of K w)) (O_flips_for : OkF P w K mg base "flips_for" (He.ga K "flips_for") ["model"] 5 (pr_flips_for K w)) (O_rises : OkF P w K mg base "rises" (He.ga K "rises") ["model", "flips"] 5 (pr_rises K w)) {cdv : Value} {A : Around} {outer : List Env} {s : Shared} {H : Hp} {E : XK} (hr : Room 8 (A.deeper (envOfC "_law_is_wide_right" (defScope s_law_is_wide_right) s.heap.objs.size (He.ga K "_law_is_wide_right") cdv))) : PSs (cxOf CX0 P w K mg base N_law_is_wide_right "_law_is_wide_right" (defScope s_law_is_wide_right) (He.ga K "_law_is_wide_right") cdv A outer s H E).nox (defBody s_law_is_wide_right) (t_law_is_wide_right K P w) :=
  (pss_cons (ps_set (i := 1) sc_law_is_wide_right.nd rfl (by first | exact Or.inl rfl | exact Or.inr rfl) (pe_op op_add pe_int (pe_cal O_law_draw (hr.mono (by decide)) rfl (pa_cons (pv 0) (pa_cons pe_int pa_nil))))) (pss_cons (ps_set (i := 2) sc_law_is_wide_right.nd rfl (by first | exact Or.inl rfl | exact Or.inr rfl) (pe_cal O_law_wide (hr.mono (by decide)) rfl (pa_cons (pv 0) (pa_cons (pv 1) (pa_cons (pe_ifExp (pt_cmpR op_lt (pv 1) pe_int (nomark _)) (pe_cal O_law_any (hr.mono (by decide)) rfl (pa_cons (pv 0) (pa_cons (pe_lst (pa_cons pe_int (pa_cons pe_int (pa_cons pe_int (pa_cons pe_int pa_nil))))) pa_nil))) pe_int) pa_nil))))) (pss_cons (ps_par3 (i := 3) (j := 4) (l := 5) rfl sc_law_is_wide_right.nd rfl rfl rfl (by decide) rfl rfl rfl (pa_cons (pe_cal O_law_packed (hr.mono (by decide)) rfl (pa_cons (pv 2) pa_nil)) (pa_cons (pe_cal O_law_known (hr.mono (by decide)) rfl (pa_cons (pv 2) pa_nil)) (pa_cons pe_non pa_nil))) (by rfl)) (pss_cons (ps_for PassesOwn.never rfl (pi_list (pe_cal O_law_tuples (hr.mono (by decide)) rfl (pa_cons (pe_op op_rep (pe_lst (pa_cons (pe_lst (pa_cons pe_bl (pa_cons pe_bl pa_nil))) pa_nil)) (pv 1)) pa_nil))) (pg_name (i := 6) sc_law_is_wide_right.nd rfl (by first | exact Or.inl rfl | exact Or.inr rfl)) (pss_one (ps_if (PW.pt (pw_and (pt_cmp (pc_isN (pv 5))) (pw_and1 (pt_val (pe_cal O_law_is_known (hr.mono (by decide)) rfl (pa_cons (pv 4) (pa_cons (pv 6) pa_nil))))))) (pss_one (ps_set (i := 5) sc_law_is_wide_right.nd rfl (by first | exact Or.inl rfl | exact Or.inr rfl) (pe_ifExp (pt_val (pe_callB (cr_all rfl) rfl T.b_all (by decide +kernel) (pa_cons (pe_lc (own := [("_law_end", 9)]) (g := (gName 9)) (tt := tYes) rfl sc_law_is_wide_right.nd (pi_tup (pe_cal O_law_ends (hr.mono (by decide)) rfl (pa_cons (pv 2) (pa_cons (pv 6) pa_nil)))) (blkOk_by (own := [("_law_end", 9)]) (N := N_law_is_wide_right) (sc := defScope s_law_is_wide_right) (by decide +kernel)) (fun _ _ _ _ _ => (pg_name (i := 9) sc_law_is_wide_right.nd rfl (by first | exact Or.inl rfl | exact Or.inr rfl))) (fun _ _ _ _ _ => pts_nil) (fun _ _ _ _ _ => (pe_cmpR op_gt (pe_cal O_law_weight (hr.mono (by decide)) rfl (pa_cons (pv 2) (pa_cons (pv 9) pa_nil))) pe_int (nomark _)))) pa_nil))) (pv 6) pe_non))) pss_nil))) (pss_cons (ps_if (pt_cmpR (op_neD (hu64 hr)) (pe_cal O_flips_for (hr.mono (by decide)) rfl (pa_cons (pv 3) pa_nil)) (pv 5) (nomark _)) (pss_one (ps_ret pe_bl)) pss_nil) (pss_cons (ps_set (i := 7) sc_law_is_wide_right.nd rfl (by first | exact Or.inl rfl | exact Or.inr rfl) (pe_lst (pa_cons (pe_callTy c_tuple rfl T.b_tuple (by decide +kernel) (pa_cons (pe_lc (own := [("_law_place", 8)]) (g := (gName 8)) (tt := tYes) rfl sc_law_is_wide_right.nd (pi_range1 rfl T.b_range (pa_cons (pv 1) pa_nil)) (blkOk_by (own := [("_law_place", 8)]) (N := N_law_is_wide_right) (sc := defScope s_law_is_wide_right) (by decide +kernel)) (fun _ _ _ _ _ => (pg_name (i := 8) sc_law_is_wide_right.nd rfl (by first | exact Or.inl rfl | exact Or.inr rfl))) (fun _ _ _ _ _ => pts_nil) (fun _ _ _ _ _ => (pe_cmpR op_eq (pe_cal O_law_draw (hr.mono (by decide)) rfl (pa_cons (pv 0) (pa_cons pe_int pa_nil))) pe_int (nomark _)))) pa_nil)) (pa_cons (pe_op op_repQ (pe_tup (pa_cons pe_bl pa_nil)) (pv 1)) pa_nil)))) (pss_cons (ps_for PassesOwn.never rfl (pi_list (pe_op op_cat (pv 7) (pe_ifExp (pt_cmp (pc_notN (pv 5))) (pe_lst (pa_cons (pv 5) (pa_cons (pe_op op_catA (pe_slice sl_tupA (pv 5) po_none (po_some (pe_un un_neg pe_int))) (pe_tup (pa_cons (pe_not (pe_ix ix_tup (pv 5) (pe_un un_neg pe_int) (fun _ _ => rfl))) pa_nil))) pa_nil))) (pe_lst pa_nil)))) (pg_name (i := 6) sc_law_is_wide_right.nd rfl (by first | exact Or.inl rfl | exact Or.inr rfl)) (pss_one (ps_if (pt_not (pt_val (pe_cal O_law_flag (hr.mono (by decide)) rfl (pa_cons (pe_cal O_rises (hr.mono (by decide)) rfl (pa_cons (pv 3) (pa_cons (pv 6) pa_nil))) (pa_cons (pe_cal O_law_is_known (hr.mono (by decide)) rfl (pa_cons (pv 4) (pa_cons (pv 6) pa_nil))) pa_nil))))) (pss_one (ps_ret pe_bl)) pss_nil))) (pss_one (ps_ret (pe_or (pe_cmp (pc_isN (pv 5))) (pe_one (pe_cmpR (op_eqD (hu64 hr)) (pe_cal O_ends_of (hr.mono (by decide)) rfl (pa_cons (pv 3) (pa_cons (pv 5) pa_nil))) (pe_cal O_law_ends (hr.mono (by decide)) rfl (pa_cons (pv 2) (pa_cons (pv 5) pa_nil))) (nomark _)))))))))))))
def N_law : List PySem.Str := ["_law_script", "_law_hand_here", "_law_turn"]
theorem sc_law : FnScope N_law ["_law_script"] (defScope s_law) := ⟨rfl, rfl, rfl, by decide +kernel, rfl, by decide +kernel, by decide +kernel⟩
def t_law (K : PySem.W.Frag) (P : Program) (w : World) : TS := (tSeq (tAsg (tCall (SpX (pr_law_hand K w)) [] E0 (tCons (tVar 0) tNil)) (gName 1)) (tSeq (tIfS (tAnd (tTest (tOp rEq (tCall (SpX (pr_law_draw K w)) [] E0 (tCons (tVar 1) (tCons (tC (.int 8)) tNil))) (tC (.int 0)))) (tNot (tB (tCall (SpX (pr_law_is_wide_right K w)) [] E0 (tCons (tVar 1) tNil))))) (tRet (tC (.bl false))) tNext) (tSeq (tFor (iRng1 (tCons (tC (.int 3)) tNil)) (gName 2) (tIfS (tNot (tB (tCall (SpX (pr_law_is_drawn_right K w)) [] E0 (tCons (tVar 1) tNil)))) (tRet (tC (.bl false))) tNext)) (tRet (tOrV (tOp rGtI (tCall (SpX (pr_law_draw K w)) [] E0 (tCons (tVar 1) (tCons (tC (.int 6)) tNil))) (tC (.int 0))) (tCall (SpX (pr_law_is_hand_right K w)) [] E0 (tCons (tVar 1) tNil)))))))
theorem ps_law (T : Tx K mg) (O_law_draw : OkF P w K mg base "_law_draw" (He.ga K "_law_draw") ["_law_hand_here", "_law_many"] 1 (pr_law_draw K w)) (O_law_hand : OkF P w K mg base "_law_hand" (He.ga K "_law_hand") ["_law_script"] 1 (pr_law_hand K w)) (O_law_is_drawn_right : OkF P w K mg base "_law_is_drawn_right" (He.ga K "_law_is_drawn_right") ["_law_hand_here"] 9 (pr_law_is_drawn_right K w)) (O_law_is_hand_right : OkF P w K mg base "_law_is_hand_right" (He.ga K "_law_is_hand_right") ["_law_hand_here"] 10 (pr_law_is_hand_right K w)) (O_law_is_wide_right : OkF P w K mg base "_law_is_wide_right" (He.ga K "_law_is_wide_right") ["_law_hand_here"] 9 (pr_law_is_wide_right K w)) {cdv : Value} {A : Around} {outer : List Env} {s : Shared} {H : Hp} {E : XK} (hr : Room 10 (A.deeper (envOfC "law" (defScope s_law) s.heap.objs.size (He.ga K "law") cdv))) : PSs (cxOf CX0 P w K mg base N_law "law" (defScope s_law) (He.ga K "law") cdv A outer s H E).nox (defBody s_law) (t_law K P w) :=
  (pss_cons (ps_set (i := 1) sc_law.nd rfl (by first | exact Or.inl rfl | exact Or.inr rfl) (pe_cal O_law_hand (hr.mono (by decide)) rfl (pa_cons (pv 0) pa_nil))) (pss_cons (ps_if (PW.pt (pw_and (pt_cmpR op_eq (pe_cal O_law_draw (hr.mono (by decide)) rfl (pa_cons (pv 1) (pa_cons pe_int pa_nil))) pe_int (nomark _)) (pw_and1 (pt_not (pt_val (pe_cal O_law_is_wide_right (hr.mono (by decide)) rfl (pa_cons (pv 1) pa_nil))))))) (pss_one (ps_ret pe_bl)) pss_nil) (pss_cons (ps_for PassesOwn.never rfl (pi_range1 rfl T.b_range (pa_cons pe_int pa_nil)) (pg_name (i := 2) sc_law.nd rfl (by first | exact Or.inl rfl | exact Or.inr rfl)) (pss_one (ps_if (pt_not (pt_val (pe_cal O_law_is_drawn_right (hr.mono (by decide)) rfl (pa_cons (pv 1) pa_nil)))) (pss_one (ps_ret pe_bl)) pss_nil))) (pss_one (ps_ret (pe_or (pe_cmpR op_gt (pe_cal O_law_draw (hr.mono (by decide)) rfl (pa_cons (pv 1) (pa_cons pe_int pa_nil))) pe_int (nomark _)) (pe_one (pe_cal O_law_is_hand_right (hr.mono (by decide)) rfl (pa_cons (pv 1) pa_nil)))))))))
end
end Ly
namespace Ly
open PySem PySem.Spec PyProof.Rows L2
section
variable {K : PySem.W.Frag} {Pr0 : Program} {w : World}
theorem b_is_integer : Body N_is_integer (t_is_integer K Pr0 w) (pr_is_integer K w) := by
  rintro W svs post D ⟨i, rfl, rfl⟩ R
  show At W _ [.fz (iP i)]
  exact at_ret (ev_andV (a := true) (b := true) (ev_call2 (ev_var rfl) ev_c (c2_isi ty_int rfl)) fun _ => ev_notV (a := false) (ev_call2 (ev_var rfl) ev_c (c2_isi ty_int rfl))) R.rt
theorem b_is_within : Body N_is_within (t_is_within K Pr0 w) (pr_is_within K w) := by
  rintro W svs post D ⟨i, lo, hi, rfl, rfl⟩ R
  show At W _ [.fz (iP i), .fz (iP lo), .fz (iP hi)]
  exact at_ret (ev_andV (a := true) (ev_call (ea_cons (ev_var rfl) ea_nil) ⟨i, rfl, rfl⟩) fun _ => ev_chain (ev_var rfl) (ev_var rfl) (ev_var rfl) o_le o_le) R.rt
theorem b_is_rising : Body N_is_rising (t_is_rising K Pr0 w) (pr_is_rising K w) := by
  rintro W svs post D ⟨ps, rfl, hz, hs, rfl⟩ R
  show At W _ [.fz (tP (ps.map pairP)), .no]
  refine at_ret ?_ R.rt
  have hl : (ps.map pairP).length = ps.length := List.length_map ..
  by_cases h0 : ps.length = 0
  · have e0 : ps = [] := List.length_eq_zero_iff.mp h0
    subst e0
    have hi : EvI W (iRng1 (tCons (tOp rSubI (tCB (rLenQ K) (tCons (tVar 0) tNil)) (tC (.int 1))) tNil)) [.fz (tP (([] : List Pr).map pairP)), .no] (([] : List Nat).map uP) := ei_rng1 (n := -1) (as_cons (ev_op (ev_lenT (ev_var rfl)) ev_c o_sub) as_nil) (by decide)
    exact ev_true (ev_allN (xs := ([] : List Nat)) (fun _ => true) hi (by decide) fun x hx => nomatch hx) rfl
  · refine ev_true (ev_allN (xs := List.range (ps.length - 1)) (f := uP) (fun _ => true) (ei_rangeI (ev_op (ev_lenT (ev_var rfl)) ev_c o_sub) (by rw [hl]; omega) (by omega)) (by rw [List.length_range]; omega) fun x hx => ?_) (List.all_eq_true.mpr fun _ _ => rfl)
    have hx' := List.mem_range.mp hx
    have e1 : ps[x]? = some ps[x] := List.getElem?_eq_getElem (by omega)
    have e2 : ps[x + 1]? = some ps[x + 1] := List.getElem?_eq_getElem (by omega)
    refine ev_b (ev_op (ev_ix (ev_var rfl) (ev_var rfl) (atI_map e1)) (ev_ix (ev_var rfl) (ev_op (ev_var rfl) ev_c o_add) (atI_map e2)) o_ltP) (decide_eq_true ?_)
    exact List.pairwise_iff_getElem.mp hs x (x + 1) (by omega) (by omega) (by omega)
theorem b_are_weights : Body N_are_weights (t_are_weights K Pr0 w) (pr_are_weights K w) := by
  rintro W svs post D ⟨r, n, rfl, hn, ⟨h1, h2⟩, rfl⟩ R
  show At W _ [.fz (rowP r), .fz (uP n), .no]
  refine at_ret (ev_true (ev_andV (ev_isiT (ev_var rfl)) fun _ => ev_andV (b := true) (ev_b (c := true) (ev_op (ev_lenT (ev_var rfl)) (ev_var rfl) o_eqI) (decide_eq_true (by rw [List.length_map, h1]))) fun _ => ev_true (ev_allN (f := iP) (fun _ => true) (ei_tup (ev_var rfl)) (by omega) fun x hx => ?_) (List.all_eq_true.mpr fun _ _ => rfl)) rfl) R.rt
  exact ev_call (ea_cons (ev_var rfl) (ea_cons ev_c (ea_cons ev_c ea_nil))) ⟨x, 0, 1000, rfl, by rw [decide_eq_true (h2 x hx).1, decide_eq_true (h2 x hx).2]; rfl⟩
theorem b_are_all_weights : Body N_are_all_weights (t_are_all_weights K Pr0 w) (pr_are_all_weights K w) := by
  rintro W svs post D ⟨t, n, k, rfl, hn, hk, ⟨h1, h2⟩, rfl⟩ R
  show At W _ [.fz (tabP t), .fz (uP n), .fz (uP k), .no]
  refine at_ret (ev_true (ev_andV (ev_isiT (ev_var rfl)) fun _ => ev_andV (b := true) (ev_b (c := true) (ev_op (ev_lenT (ev_var rfl)) (ev_var rfl) o_eqI) (decide_eq_true (by rw [List.length_map, h1]))) fun _ => ev_true (ev_allN (f := rowP) (fun _ => true) (ei_tup (ev_var rfl)) (by omega) fun x hx => ?_) (List.all_eq_true.mpr fun _ _ => rfl)) rfl) R.rt
  exact ev_call (ea_cons (ev_var rfl) (ea_cons (ev_var rfl) ea_nil)) ⟨x, k, rfl, hk, h2 x hx, rfl⟩
theorem b_is_pair_of_places : Body N_is_pair_of_places (t_is_pair_of_places K Pr0 w) (pr_is_pair_of_places K w) := by
  rintro W svs post D ⟨p, n, rfl, h1, h2, rfl⟩ R
  show At W _ [.fz (tP ([p.1, p.2].map uP)), .fz (uP n), .no]
  refine q_no (t_orF (t_notB (ev_isiT (ev_var rfl)) rfl) (t_testF (ev_op (ev_lenT (ev_var rfl)) ev_c o_neI) rfl)) ?_
  refine at_ret (ev_true (ev_andV (ev_true (ev_allN (f := uP) (fun _ => true) (ei_tup (ev_var rfl)) (show 2 ≤ 1000000 by decide) fun x hx => ?_) (List.all_eq_true.mpr fun _ _ => rfl)) fun _ => ev_b (c := true) (ev_op (ev_ix (ev_var rfl) ev_c rfl) (ev_ix (ev_var rfl) ev_c rfl) o_lt) (decide_eq_true (by omega))) rfl) R.rt
  have hx' : x < n := by
    rcases List.mem_cons.mp hx with e | e
    · omega
    · rw [List.mem_singleton.mp e]; exact h2
  exact ev_call (ea_cons (ev_var rfl) (ea_cons ev_c (ea_cons (ev_op (ev_var rfl) ev_c o_sub) ea_nil))) ⟨x, 0, (n : Int) - 1, rfl, by rw [decide_eq_true (show (0 : Int) ≤ (x : Int) by omega), decide_eq_true (show (x : Int) ≤ (n : Int) - 1 by omega)]; rfl⟩
theorem b_is_tie : Body N_is_tie (t_is_tie K Pr0 w) (pr_is_tie K w) := by
  rintro W svs post D ⟨t, n, q, rfl, h1, h2, hq, ht, rfl⟩ R
  show At W _ [.fz (tP [uP t.a, uP t.b, tabP t.t]), .fz (uP n), .fz (uP q)]
  refine q_no (t_orF (t_notB (ev_isiT (ev_var rfl)) rfl) (t_testF (ev_op (ev_lenT (ev_var rfl)) ev_c o_neI) rfl)) ?_
  exact at_ret (ev_true (ev_andV (b := true) (ev_call (ea_cons (ev_cut (n := 2) (ev_var rfl) ev_c) (ea_cons (ev_var rfl) ea_nil)) ⟨(t.a, t.b), n, rfl, h1, h2, rfl⟩) fun _ => ev_call (ea_cons (ev_ix (ev_var rfl) ev_c rfl) (ea_cons (ev_var rfl) (ea_cons (ev_var rfl) ea_nil))) ⟨t.t, q, q, rfl, hq, hq, ht, rfl⟩) rfl) R.rt
theorem b_ties_at : Body N_ties_at (t_ties_at K Pr0 w) (pr_ties_at K w) := by
  rintro W svs post D ⟨ts, i, rfl, hz, rfl⟩ R
  show At W _ [.fz (tiesP ts), .fz (uP i), .no]
  refine at_ret (ev_frz (ef_lc (xs := ts) (f := tieP) (g' := tieP) (p := fun t => decide (t.a = i) || decide (t.b = i)) (j := 2) (ei_tup (ev_var rfl)) (by omega) (by decide) fun t ht => ⟨?_, fun _ => ev_var rfl⟩)) R.rt
  refine t_testT (ev_op (ev_var rfl) (ev_cut (n := 2) (Ps := [uP t.a, uP t.b, tabP t.t]) (ev_var rfl) ev_c) (o_inI (ns := [(t.a : Int), (t.b : Int)]))) ?_
  rw [← Bool.decide_or]
  refine decide_eq_decide.mpr ⟨fun h => ?_, fun h => ?_⟩
  · rcases List.mem_cons.mp h with e | e
    · exact .inl (by omega)
    · exact .inr (by have := List.mem_singleton.mp e; omega)
  · rcases h with e | e
    · rw [e]; exact List.mem_cons_self
    · rw [e]; exact List.mem_cons_of_mem _ (List.mem_singleton.mpr rfl)
end
section
variable {K : PySem.W.Frag} {Pr0 : Program} {w : World}
theorem tab_cast (t : Tie) : tieP t = tP [uP t.a, uP t.b, tabP t.t] := rfl
theorem b_Model_init (T : Tx K mg) : BodyI N_Model_init (mC K) (t_Model_init K Pr0 w) := by
  intro W m x dx D wf hx hs k
  show At W _ [.fz (sP (.ref x)), .fz (uP m.many), .fz (uP m.levels), .fz (tabP m.weights), .fz (tiesP m.ties), .no, .no, .no]
  have m1 := wf.many1
  have m2 := wf.many12
  have l1 := wf.lev1
  have l2 := wf.lev4
  refine q_no (t_notB (ev_call (ea_cons (ev_var rfl) (ea_cons ev_c (ea_cons ev_c ea_nil))) ⟨m.many, 1, 12, rfl, rfl⟩) (by simp; omega)) ?_
  refine q_no (t_notB (ev_call (ea_cons (ev_var rfl) (ea_cons ev_c (ea_cons ev_c ea_nil))) ⟨m.levels, 1, 4, rfl, rfl⟩) (by simp; omega)) ?_
  refine q_no (t_notB (ev_call (ea_cons (ev_var rfl) (ea_cons (ev_var rfl) (ea_cons (ev_var rfl) ea_nil))) ⟨m.weights, m.many, m.levels, rfl, m2, by omega, wf.wt, rfl⟩) rfl) ?_
  refine q_no (t_notB (ev_isiT (ev_var rfl)) rfl) ?_
  refine q_forE (xs := m.ties.zipIdx) (f := fun x => tP [uP x.2, tieP x.1]) (fun _ => [.fz (sP (.ref x)), .fz (uP m.many), .fz (uP m.levels), .fz (tabP m.weights), .fz (tiesP m.ties), .no, .no, .no]) (ei_is (ei_enum (k1 := kT) (Ps := m.ties.map tieP) (as_cons (ev_var rfl) as_nil)) (enumP_map _ _)) (EnvLe.refl _) (fun B pre z post hz => ⟨_, _, tg2, ?_⟩) ?_
  · have ht := zipIdx_at hz
    have hm := List.mem_of_getElem? ht
    have hp := wf_pr wf hm
    refine at_no (t_orF (t_notB (ev_call (ea_cons (ev_var rfl) (ea_cons (ev_var rfl) (ea_cons (ev_var rfl) ea_nil))) ⟨z.1, m.many, m.levels, rfl, hp.1, hp.2, by omega, wf.tt _ hm, rfl⟩) rfl) ?_) (at_sat (by repeat (first | exact le_z | apply le_k | apply le_n)))
    refine t_is (t_and (b := false) (t_test (ev_op (ev_var rfl) ev_c o_gt)) fun hpos => ?_) (Bool.and_false _)
    have hpos' : (0 : Int) < (z.2 : Int) := of_decide_eq_true hpos
    have hlt : z.2 < m.ties.length := (List.getElem?_eq_some_iff.mp ht).1
    have e1 : m.ties[z.2 - 1]? = some m.ties[z.2 - 1] := List.getElem?_eq_getElem (by omega)
    have hw := (List.pairwise_map.mp wf.prs.1)
    have hlt2 : prLt (m.ties[z.2 - 1].a, m.ties[z.2 - 1].b) (z.1.a, z.1.b) := by
      have h5 := List.pairwise_iff_getElem.mp hw (z.2 - 1) z.2 (by omega) hlt (by omega)
      have h6 : m.ties[z.2] = z.1 := by
        rw [List.getElem?_eq_getElem hlt] at ht
        exact Option.some.inj ht
      rw [h6] at h5
      exact h5
    refine t_is (t_not (t_test (ev_op (P1 := pairP (m.ties[z.2 - 1].a, m.ties[z.2 - 1].b)) (P2 := pairP (z.1.a, z.1.b)) (ev_cut (n := 2) (Ps := [uP m.ties[z.2 - 1].a, uP m.ties[z.2 - 1].b, tabP m.ties[z.2 - 1].t]) (ev_ix (ev_var rfl) (ev_i (c := ((z.2 - 1 : Nat) : Int)) (ev_op (ev_var rfl) ev_c o_sub) (by omega)) (atI_map e1)) ev_c) (ev_cut (n := 2) (Ps := [uP z.1.a, uP z.1.b, tabP z.1.t]) (ev_var rfl) ev_c) o_ltP))) ?_
    rw [decide_eq_true hlt2]
    rfl
  · refine q_no (t_f (t_B (ev_anyN (xs := List.range m.many) (f := uP) (fun _ => false) (ei_range (ev_var rfl) (by omega)) (by rw [List.length_range]; omega) fun y hy => ?_)) ?_) ?_
    · have hl := wf.few y (List.mem_range.mp hy)
      refine ev_b (ev_op (ev_lenL (ev_call (ea_cons (ev_var rfl) (ea_cons (ev_var rfl) ea_nil)) ⟨m.ties, y, rfl, Nat.le_trans (wf_few wf) (by decide), rfl⟩)) ev_c o_gt) (decide_eq_false ?_)
      rw [List.length_map]
      omega
    · simp
    · exact at_init4 T.cls T.n_many T.n_levels T.n_weights T.n_ties rfl rfl rfl rfl rfl hx hs k
theorem b_is_picture (T : Tx K mg) : Body N_is_picture (t_is_picture K Pr0 w) (pr_is_picture K w) := by
  rintro W svs post D ⟨m, xs, rfl, wf, ⟨h1, h2⟩, rfl⟩ R
  show At W _ [.fz (mdlP (mC K) m), .fz (nsT xs), .no]
  have m2 := wf.many12
  refine q_no (t_orF (t_notB (ev_isiT (ev_var rfl)) rfl) (t_testF (ev_op (ev_lenT (ev_var rfl)) (ev_fld T.cls T.n_many (ev_var rfl) rfl) o_neI) (by simp [h1]))) ?_
  refine at_ret (ev_true (ev_allN (f := uP) (fun _ => true) (ei_tup (ev_var rfl)) (by omega) fun x hx => ?_) (List.all_eq_true.mpr fun _ _ => rfl)) R.rt
  have hx' := h2 x hx
  exact ev_call (ea_cons (ev_var rfl) (ea_cons ev_c (ea_cons (ev_op (ev_fld T.cls T.n_levels (ev_var rfl) rfl) ev_c o_sub) ea_nil))) ⟨x, 0, (m.levels : Int) - 1, rfl, by rw [decide_eq_true (show (0 : Int) ≤ (x : Int) by omega), decide_eq_true (show (x : Int) ≤ (m.levels : Int) - 1 by omega)]; rfl⟩
theorem b_check_pairs : Body N_check_pairs (t_check_pairs K Pr0 w) (pr_check_pairs K w) := by
  rintro W svs post D ⟨n, ps, rfl, h1, h2, h3, rfl⟩ R
  show At W _ [.fz (uP n), .fz (tP (ps.map pairP)), .no]
  have hl := pairs_few h2 h3
  refine q_no (t_notB (ev_call (ea_cons (ev_var rfl) (ea_cons ev_c (ea_cons ev_c ea_nil))) ⟨n, 1, 12, rfl, rfl⟩) (by simp; omega)) ?_
  refine q_no (t_orF (t_notB (ev_isiT (ev_var rfl)) rfl) (t_notB (ev_allN (f := pairP) (fun _ => true) (ei_tup (ev_var rfl)) (by omega) fun p hp => ?_) (List.all_eq_true.mpr fun _ _ => rfl))) ?_
  · exact ev_call (ea_cons (ev_var rfl) (ea_cons (ev_var rfl) ea_nil)) ⟨p, n, rfl, (h3.2 p hp).1, (h3.2 p hp).2, rfl⟩
  · exact at_no (t_notB (ev_call (ea_cons (ev_var rfl) ea_nil) ⟨ps, rfl, by omega, h3.1, rfl⟩) rfl) fun σ F H g _ _ => R.nx σ F H g rfl
theorem b_are_flips (T : Tx K mg) : Body N_are_flips (t_are_flips K Pr0 w) (pr_are_flips K w) := by
  rintro W svs post D ⟨m, fl, rfl, wf, h1, rfl⟩ R
  show At W _ [.fz (mdlP (mC K) m), .fz (flT fl), .no]
  have m2 := wf.many12
  exact at_ret (ev_true (ev_andV (ev_isiT (ev_var rfl)) fun _ => ev_andV (b := true) (ev_b (c := true) (ev_op (ev_lenT (ev_var rfl)) (ev_fld T.cls T.n_many (ev_var rfl) rfl) o_eqI) (decide_eq_true (by rw [List.length_map, h1]))) fun _ => ev_true (ev_allN (f := bP) (fun _ => true) (ei_tup (ev_var rfl)) (by omega) fun x hx => ev_isiB (ev_var rfl)) (List.all_eq_true.mpr fun _ _ => rfl)) rfl) R.rt
theorem b_check_flips : Body N_check_flips (t_check_flips K Pr0 w) (pr_check_flips K w) := by
  rintro W svs post D ⟨m, fl, rfl, wf, h1, rfl⟩ R
  show At W _ [.fz (mdlP (mC K) m), .fz (flT fl)]
  exact at_no (t_notB (ev_call (ea_cons (ev_var rfl) (ea_cons (ev_var rfl) ea_nil)) ⟨m, fl, rfl, wf, h1, rfl⟩) rfl) fun σ F H g _ _ => R.nx σ F H g rfl
end
section
variable {K : PySem.W.Frag} {Pr0 : Program} {w : World}
theorem b_weight_there (T : Tx K mg) : Body N_weight_there (t_weight_there K Pr0 w) (pr_weight_there K w) := by
  rintro W svs post D ⟨m, xs, rfl, wf, ok, rfl⟩ R
  show At W _ [.fz (mdlP (mC K) m), .fz (nsT xs), .no, .no, .no, .no, .no, .no]
  have m2 := wf.many12
  refine q_set ev_c ?_
  refine q_forE (xs := m.weights.zip xs) (f := fun z => tP [rowP z.1, uP z.2]) (fun pre => [.fz (mdlP (mC K) m), .fz (nsT xs), .fz (iP (pre.foldl (fun (w : Int) (z : List Int × Nat) => w * z.1.getD z.2 0) 1)), .no, .no, .no, .no, .no]) (ei_is (ei_zip2 (k1 := kT) (k2 := kT) (Ps := m.weights.map rowP) (Qs := xs.map uP) (as_cons (ev_fld T.cls T.n_weights (ev_var rfl) rfl) (as_cons (ev_var rfl) as_nil))) (zip2P_map _ _ _ _)) (EnvLe.refl _) (fun B pre z post hz => ⟨_, _, tg2, ?_⟩) ?_
  · have hm : z ∈ m.weights.zip xs := by rw [hz]; exact List.mem_append_right _ List.mem_cons_self
    obtain ⟨h1, h2⟩ := List.of_mem_zip hm
    have r := wf.wt.2 _ h1
    have hl : z.2 < z.1.length := by rw [r.1]; exact ok.2 _ h2
    have bd : 0 ≤ z.1.getD z.2 0 ∧ z.1.getD z.2 0 ≤ 1000 := by
      rw [List.getD_eq_getElem?_getD, List.getElem?_eq_getElem hl]
      exact r.2 _ (List.getElem_mem hl)
    refine at_aug rfl (ev_ix (Ps := z.1.map iP) (ev_var rfl) (ev_var rfl) (atI_getD (d := 0) hl)) (o_mul (cmul_r bd)) (at_sat ?_)
    exact le_k (le_k (le_i (by rw [List.foldl_append]; rfl) (le_n (le_n (le_k (le_k (le_k le_z)))))))
  · refine q_forE (xs := m.ties) (f := tieP) (fun pre => [.fz (mdlP (mC K) m), .fz (nsT xs), .fz (iP (pre.foldl (fun (w : Int) (t : Tie) => w * tab2 t.t (xs.getD t.a 0) (xs.getD t.b 0)) ((m.weights.zip xs).foldl (fun (w : Int) (z : List Int × Nat) => w * z.1.getD z.2 0) 1))), .no, .no, .no, .no, .no]) (ei_tup (ev_fld T.cls T.n_ties (ev_var rfl) rfl)) (EnvLe.refl _) (fun B pre t post hz => ⟨_, _, tg3 (P1 := uP t.a) (P2 := uP t.b) (P3 := tabP t.t), ?_⟩) (at_ret (ev_var rfl) R.rt)
    have hm : t ∈ m.ties := by rw [hz]; exact List.mem_append_right _ List.mem_cons_self
    have hp := wf_pr3 wf hm
    have tt := wf.tt _ hm
    have ha := pic_at ok hp.1
    have hb := pic_at ok hp.2
    refine at_aug rfl (ev_tab tt (ev_var rfl) (ev_ix (Ps := xs.map uP) (ev_var rfl) (ev_var rfl) (atI_getD (d := 0) (by rw [ok.1]; exact hp.1))) (ev_ix (Ps := xs.map uP) (ev_var rfl) (ev_var rfl) (atI_getD (d := 0) (by rw [ok.1]; exact hp.2))) ha hb) (o_mul (cmul_r (tab_bd tt ha hb))) (at_sat ?_)
    exact le_k (le_k (le_i (by rw [List.foldl_append]; rfl) (le_k (le_k (le_n (le_n (le_n le_z)))))))
theorem b_tied_places (T : Tx K mg) : Body N_tied_places (t_tied_places K Pr0 w) (pr_tied_places K w) := by
  rintro W svs post D ⟨m, i, rfl, wf, rfl⟩ R
  show At W _ [.fz (mdlP (mC K) m), .fz (uP i), .no, .no, .no]
  have h144 := wf_few wf
  have h1000 : m.ties.length ≤ 1000 := by omega
  have hl : (tiesAt m.ties i).length ≤ 1000000 := Nat.le_trans (List.length_filter_le ..) (by omega)
  have h := ef_lcNG (W := W) (env := [.fz (mdlP (mC K) m), .fz (uP i), .no, .no, .no]) (xs := tiesAt m.ties i) (f := tieP) (g' := fun t => uP (otherOf i t)) (wi := iList K (tCall (SpX (pr_ties_at K w)) [] E0 (tCons (tFld K (tVar 0) "ties") (tCons (tVar 1) tNil)))) (vs := [2, 3, 4]) (te := tIf (tTest (tOp rEq (tVar 3) (tVar 1))) (tVar 2) (tVar 3)) (g := gTup K 3 (gCons (gName 2) (gCons (gName 3) (gCons (gName 4) gNil))))
    (ei_list (ev_call (ea_cons (ev_fld T.cls T.n_ties (ev_var rfl) rfl) (ea_cons (ev_var rfl) ea_nil)) ⟨m.ties, i, rfl, h1000, rfl⟩)) hl fun t ht => ⟨_, _, tg3 (P1 := uP t.a) (P2 := uP t.b) (P3 := tabP t.t), by decide, ?_⟩
  · refine at_ret (ev_frz (Ps := usL (tiedAt m.ties i)) ?_) R.rt
    unfold usL tiedAt
    rw [List.map_map]
    exact h
  · refine ev_ifC (t_test (ev_op (ev_var rfl) (ev_var rfl) o_eqI)) (fun z => ?_) fun z => ?_
    · have e : t.b = i := by have := of_decide_eq_true z.symm; omega
      unfold otherOf
      rw [if_pos e]
      exact ev_var rfl
    · have e : ¬ t.b = i := by have := of_decide_eq_false z.symm; omega
      unfold otherOf
      rw [if_neg e]
      exact ev_var rfl
theorem b_even_model (T : Tx K mg) : Body N_even_model (t_even_model K Pr0 w) (pr_even_model K w) := by
  rintro W svs post D ⟨n, q, row, b, ps, t, rfl, wf, rfl⟩ R
  show At W _ [.fz (uP n), .fz (uP q), .fz (rowP row), .fz (sq b (ps.map pairP)), .fz (tabP t), .no]
  have m1 : 1 ≤ n := wf.many1
  have m2 : n ≤ 12 := wf.many12
  have hok : PairsOk n ps := by
    have h : PairsOk n ((mkTies ps t).map fun t => (t.a, t.b)) := wf.prs
    rwa [mk_prs] at h
  have hps : ps.length ≤ 1000000 := Nat.le_trans (pairs_few m2 hok) (by decide)
  refine at_ret (ev_make (K := K) (m := evenM n q row ps t) (as_cons (ev_var rfl) (as_cons (ev_var rfl) (as_cons ?_ (as_cons ?_ as_nil)))) wf) R.rt
  · have h := ev_op (W := W) (env := [.fz (uP n), .fz (uP q), .fz (rowP row), .fz (sq b (ps.map pairP)), .fz (tabP t), .no]) (ta := tTup (tCons (tVar 2) tNil)) (tb := tVar 0) (ev_tup1 (P1 := rowP row) (ev_var rfl)) (ev_var rfl) (o_repT (K := K) (n := n) (by simp) m1 (by omega) (show 1 ≤ 1000 by decide))
    refine ev_is h ?_
    show _ = tP ((List.replicate n row).map rowP)
    rw [List.map_replicate]
    simp
  · have h := ef_lcN (W := W) (env := [.fz (uP n), .fz (uP q), .fz (rowP row), .fz (sq b (ps.map pairP)), .fz (tabP t), .no]) (xs := ps) (f := pairP) (g' := fun p => tieP ⟨p.1, p.2, t⟩) (wi := wOr (iList K (tVar 3)) (iTup K (tVar 3))) (j := 5) (vs := [5]) (te := tOp (rCatA K) (tVar 5) (tTup (tCons (tVar 4) tNil))) (ei_seqE (ev_var rfl)) hps (by decide) fun p hp => ev_op (P1 := tP [uP p.1, uP p.2]) (ev_var rfl) (ev_tup1 (P1 := tabP t) (ev_var rfl)) (o_catT (show 2 + 1 ≤ 1000000 by decide))
    refine ev_tupL (ev_frz ?_)
    show EvF W _ _ ((mkTies ps t).map tieP)
    unfold mkTies
    rw [List.map_map]
    exact h
theorem b_spins : Body N_spins (t_spins K Pr0 w) (pr_spins K w) := by
  rintro W svs post D ⟨n, ps, s, o, rfl, wf, rfl⟩ R
  show At W _ [.fz (uP n), .fz (tP (ps.map pairP)), .fz (iP s), .fz (iP o)]
  have h : PairsOk n ((mkTies ps [[s, o], [o, s]]).map fun t => (t.a, t.b)) := wf.prs
  rw [mk_prs] at h
  refine q_drop (ev_call (ea_cons (ev_var rfl) (ea_cons (ev_var rfl) ea_nil)) ⟨n, ps, rfl, wf.many1, wf.many12, h, rfl⟩) ?_
  refine at_ret (ev_call (ea_cons (ev_var rfl) (ea_cons ev_c (ea_cons (ev_tup2 ev_c ev_c) (ea_cons (ev_var rfl) (ea_cons (ev_tup2 (ev_tup2 (ev_var rfl) (ev_var rfl)) (ev_tup2 (ev_var rfl) (ev_var rfl))) ea_nil))))) ⟨n, 2, [1, 1], true, ps, [[s, o], [o, s]], rfl, wf, rfl⟩) R.rt
theorem b_sets_apart : Body N_sets_apart (t_sets_apart K Pr0 w) (pr_sets_apart K w) := by
  rintro W svs post D ⟨n, ps, k, rfl, wf, rfl⟩ R
  show At W _ [.fz (uP n), .fz (tP (ps.map pairP)), .fz (iP k)]
  have h : PairsOk n ((mkTies ps [[1, 1], [1, 0]]).map fun t => (t.a, t.b)) := wf.prs
  rw [mk_prs] at h
  refine q_drop (ev_call (ea_cons (ev_var rfl) (ea_cons (ev_var rfl) ea_nil)) ⟨n, ps, rfl, wf.many1, wf.many12, h, rfl⟩) ?_
  refine at_ret (ev_call (ea_cons (ev_var rfl) (ea_cons ev_c (ea_cons (ev_tup2 ev_c (ev_var rfl)) (ea_cons (ev_var rfl) (ea_cons (ev_tup2 (ev_tup2 ev_c ev_c) (ev_tup2 ev_c ev_c)) ea_nil))))) ⟨n, 2, [1, k], true, ps, [[1, 1], [1, 0]], rfl, wf, rfl⟩) R.rt
end
section
variable {K : PySem.W.Frag} {Pr0 : Program} {w : World}
theorem b_local_weights (T : Tx K mg) : Body N_local_weights (t_local_weights K Pr0 w) (pr_local_weights K w) := by
  rintro W svs post D ⟨m, i, ys, rfl, wf, hi, hl, hy, rfl⟩ R
  show At W _ [.fz (mdlP (mC K) m), .fz (uP i), .fz (nsT ys), .no, .no, .no, .no]
  have l4 := wf.lev4
  have h144 := wf_few wf
  have tl4 := wf.few i hi
  have hrow := tab_row wf.wt hi
  let acc : List (Tie × Nat) → Nat → Int := fun pre v => pre.foldl (fun (w : Int) (x : Tie × Nat) => w * fac i x.1 v x.2) (tab2 m.weights i v)
  refine q_own (Ps := (List.range m.levels).map fun v => iP (acc [] v)) ?_ ?_
  · have h := ef_call1 (W := W) (env := [.fz (mdlP (mC K) m), .fz (uP i), .fz (nsT ys), .no, .no, .no, .no]) (r := rLstQ K) (ta := tOp (rIxT K) (tFld K (tVar 0) "weights") (tVar 1)) (ev_ix (ev_fld T.cls T.n_weights (ev_var rfl) rfl) (ev_var rfl) (atI_getD (d := []) (by rw [wf.wt.1]; exact hi))) c1_listT
    have e : (m.weights.getD i []).map iP = (List.range m.levels).map fun v => iP (acc [] v) := by
      refine List.ext_getElem (by rw [List.length_map, List.length_map, List.length_range, hrow.1]) fun v h1 h2 => ?_
      rw [List.length_map] at h1
      rw [List.getElem_map, List.getElem_map, List.getElem_range]
      show iP _ = iP (tab2 m.weights i v)
      unfold tab2
      rw [List.getD_eq_getElem?_getD (l := m.weights.getD i []), List.getElem?_eq_getElem h1]
      rfl
    rw [← e]
    exact h
  · refine q_forE (xs := (tiesAt m.ties i).zip ys) (f := fun z => tP [tieP z.1, uP z.2]) (fun (pre : List (Tie × Nat)) => [.fz (mdlP (mC K) m), .fz (uP i), .fz (nsT ys), .ow (lO ((List.range m.levels).map fun v => iP (acc pre v))), .no, .no, .no]) (ei_is (ei_zip2 (k1 := kL) (k2 := kT) (Ps := (tiesAt m.ties i).map tieP) (Qs := ys.map uP) (as_cons (ev_call (ea_cons (ev_fld T.cls T.n_ties (ev_var rfl) rfl) (ea_cons (ev_var rfl) ea_nil)) ⟨m.ties, i, rfl, by omega, rfl⟩) (as_cons (ev_var rfl) as_nil))) (zip2P_map _ _ _ _)) (EnvLe.refl _) (fun B pre z post hz => ⟨_, _, tg2, ?_⟩) ?_
    · have hm : z ∈ (tiesAt m.ties i).zip ys := by rw [hz]; exact List.mem_append_right _ List.mem_cons_self
      obtain ⟨h1, h2⟩ := List.of_mem_zip hm
      have hmt : z.1 ∈ m.ties := (List.mem_filter.mp h1).1
      have hy2 := hy _ h2
      have tt := wf.tt _ hmt
      let st : Nat → Nat → Int := fun k v => if v < k then acc pre v * fac i z.1 v z.2 else acc pre v
      refine at_forE (xs := List.range m.levels) (f := uP) (fun (pre2 : List Nat) => [.fz (mdlP (mC K) m), .fz (uP i), .fz (nsT ys), .ow (lO ((List.range m.levels).map fun v => iP (st pre2.length v))), .fz (tieP z.1), .fz (uP z.2), .no]) (ei_range (ev_fld T.cls T.n_levels (ev_var rfl) rfl) (by omega)) ?_ (fun B2 pre2 v post2 hv => ⟨_, _, tg_name, ?_⟩) ?_
      · exact le_k (le_k (le_k (le_o (List.map_congr_left fun v _ => by show iP _ = iP (if v < 0 then _ else _); rw [if_neg (Nat.not_lt_zero v)]) (le_k (le_k (le_n le_z))))))
      · obtain ⟨e1, e2⟩ := range_at hv
        refine at_augS (j := v) (k := (v : Int)) (P1 := iP (acc pre v)) (P2 := iP (fac i z.1 v z.2)) (P3 := iP (acc pre v * fac i z.1 v z.2)) rfl (ev_var rfl) ?_ ?_ ?_ (o_mul (cmul_r (fac_bd wf hmt e2 hy2))) (at_sat ?_)
        · exact ixN_lt (by rw [List.length_map, List.length_range]; exact e2)
        · rw [List.getElem?_map, List.getElem?_range e2]
          show some (iP (st pre2.length v)) = _
          show some (iP (if v < pre2.length then _ else _)) = _
          rw [if_neg (by omega)]
        · refine ev_ifC (t_test (ev_op (ev_ix (Ps := [uP z.1.a, uP z.1.b, tabP z.1.t]) (ev_var rfl) ev_c rfl) (ev_var rfl) o_eqI)) (fun b => ?_) fun b => ?_
          · have e : z.1.a = i := by have := of_decide_eq_true b.symm; omega
            unfold fac
            rw [if_pos e]
            exact ev_tab tt (ev_ix (Ps := [uP z.1.a, uP z.1.b, tabP z.1.t]) (ev_var rfl) ev_c rfl) (ev_var rfl) (ev_var rfl) e2 hy2
          · have e : ¬ z.1.a = i := by have := of_decide_eq_false b.symm; omega
            unfold fac
            rw [if_neg e]
            exact ev_tab tt (ev_ix (Ps := [uP z.1.a, uP z.1.b, tabP z.1.t]) (ev_var rfl) ev_c rfl) (ev_var rfl) (ev_var rfl) hy2 e2
        · refine le_k (le_k (le_k (le_o ?_ (le_k (le_k (le_n le_z))))))
          have h3 := set_range m.levels (fun u => iP (st pre2.length u)) (fun u => iP (st (pre2 ++ [v]).length u)) v fun u hu => by
            show iP (if u < pre2.length then _ else _) = iP (if u < (pre2 ++ [v]).length then _ else _)
            rw [List.length_append]
            by_cases h4 : u < pre2.length
            · rw [if_pos h4, if_pos (by show u < pre2.length + 1; omega)]
            · rw [if_neg h4, if_neg (by show ¬ u < pre2.length + 1; omega)]
          rw [← h3]
          congr 1
          show iP _ = iP (if v < (pre2 ++ [v]).length then _ else _)
          rw [if_pos (by rw [List.length_append]; show v < pre2.length + 1; omega)]
      · refine at_sat (le_k (le_k (le_k (le_o (List.map_congr_left fun v hv => ?_) (le_n (le_n (le_k le_z)))))))
        have hv' := List.mem_range.mp hv
        show iP (if v < (List.range m.levels).length then _ else _) = iP (acc (pre ++ [z]) v)
        rw [if_pos (by rw [List.length_range]; exact hv')]
        show _ = iP ((pre ++ [z]).foldl _ _)
        rw [List.foldl_append]
        rfl
    · refine at_frz (i := 3) rfl (at_ret (ev_is (ev_var rfl) ?_) R.rt)
      unfold isL localW
      rw [List.map_map]
      rfl
theorem b_all_rows : Body N_all_rows (t_all_rows K Pr0 w) (pr_all_rows K w) := by
  rintro W svs post D ⟨q, n, rfl, hq, hn, rfl⟩ R
  show At W _ [.fz (uP q), .fz (uP n), .no, .no, .no, .no, .no]
  let rs : Nat → List (List Nat) := fun k => tuplesOf (List.replicate k (List.range q))
  have rlen : ∀ k, k ≤ 4 → (rs k).length ≤ 256 := fun k hk => by
    have h1 := tuples_len (α := Nat) (k := 4) (by decide) k (List.replicate k (List.range q)) (by simp) fun r hr => by
      rw [List.eq_of_mem_replicate hr, List.length_range]
      exact hq
    exact Nat.le_trans h1 (Nat.le_trans (Nat.pow_le_pow_right (by decide) hk) (by decide))
  have reach : ∀ k, ∀ f ∈ rs k, f.length = k := fun k f hf => (tuples_each k _ (by simp) f hf).1
  refine q_own (Ps := [tP []]) (ef_lst1 ev_tup0) (at_frz (i := 2) rfl ?_)
  refine q_forE (xs := List.range n) (f := uP) (fun (pre : List Nat) => [.fz (uP q), .fz (uP n), .fz (lP ((rs pre.length).map nsT)), .no, .no, .no, .no]) (ei_range (ev_var rfl) (by omega)) (EnvLe.refl _) (fun B pre k post hk => ⟨_, _, tg_name, ?_⟩) ?_
  · obtain ⟨e1, e2⟩ := range_at hk
    have hle := rlen pre.length (by omega)
    refine q_own ef_lst0 ?_
    refine q_forE (xs := rs pre.length) (f := nsT) (fun (pre2 : List (List Nat)) => [.fz (uP q), .fz (uP n), .fz (lP ((rs pre.length).map nsT)), .fz (uP k), .ow (lO ((ext1 (List.range q) pre2).map nsT)), .no, .no]) (ei_list (ev_var rfl)) (EnvLe.refl _) (fun B2 pre2 f post2 hf => ⟨_, _, tg_name, ?_⟩) ?_
    · have hfl := reach _ f (mem_split2 hf)
      have hp2 : pre2.length ≤ 256 := by
        have := congrArg List.length hf
        rw [List.length_append] at this
        omega
      have hex : (ext1 (List.range q) pre2).length ≤ 1024 := by
        rw [ext_len, List.length_range]
        exact Nat.mul_le_mul hp2 hq
      refine at_ext (Qs := ((List.range q).map fun x => f ++ [x]).map nsT) rfl ?_ (by rw [List.length_map, List.length_map, List.length_map, List.length_range]; omega) (at_sat (le_k (le_k (le_k (le_k (le_o (by rw [ext_snoc, List.map_append]) (le_n (le_k le_z))))))))
      rw [List.map_map]
      refine ef_lcN (xs := List.range q) (f := uP) (ei_range (ev_var rfl) (by omega)) (by rw [List.length_range]; omega) (by decide) fun x hx => ev_is (ev_op (ev_var rfl) (ev_tup1 (P1 := uP x) (ev_var rfl)) (o_catT (by rw [List.length_map, hfl]; show pre.length + 1 ≤ 1000000; omega))) ?_
      show tP (f.map uP ++ [uP x]) = tP ((f ++ [x]).map uP)
      rw [List.map_append]
      rfl
    · refine at_frz (i := 4) rfl (at_set (ev_var rfl) (at_sat (le_k (le_k (le_f ?_ (le_n (le_n (le_n (le_k le_z)))))))))
      show lP _ = lP ((rs (pre ++ [k]).length).map nsT)
      rw [List.length_append]
      show _ = lP ((tuplesOf (List.replicate (pre.length + 1) (List.range q))).map nsT)
      rw [List.replicate_succ', tuples_snoc]
  · refine at_ret (ev_is (ev_var rfl) ?_) R.rt
    show lP ((rs (List.range n).length).map nsT) = _
    rw [List.length_range]
    rfl
theorem b_is_row_below : Body N_is_row_below (t_is_row_below K Pr0 w) (pr_is_row_below K w) := by
  rintro W svs post D ⟨b, fl, x, y, rfl, hl, rfl⟩ R
  show At W _ [.fz (sq b (bsL fl)), .fz (nsT x), .fz (nsT y), .no, .no, .no]
  let ok : Bool × Nat × Nat → Bool := fun z => if z.1 = true then decide (z.2.2 ≤ z.2.1) else decide (z.2.1 ≤ z.2.2)
  have hi : EvI W (wOr (iZip3 kL kT kT (tCons (tVar 0) (tCons (tVar 1) (tCons (tVar 2) tNil)))) (iZip3 kT kT kT (tCons (tVar 0) (tCons (tVar 1) (tCons (tVar 2) tNil))))) [.fz (sq b (bsL fl)), .fz (nsT x), .fz (nsT y), .no, .no, .no] ((fl.zip (x.zip y)).map fun z => tP [bP z.1, uP z.2.1, uP z.2.2]) := by
    refine ei_is ?_ (zip3P_map _ _ _ _ _ _)
    cases b with
    | true => exact ei_r (ei_zip3 (k1 := kT) (k2 := kT) (k3 := kT) (as_cons (ev_var rfl) (as_cons (ev_var rfl) (as_cons (ev_var rfl) as_nil))))
    | false => exact ei_l (ei_zip3 (k1 := kL) (k2 := kT) (k3 := kT) (as_cons (ev_var rfl) (as_cons (ev_var rfl) (as_cons (ev_var rfl) as_nil))))
  refine q_for (T := fun i e => EnvLe e [.fz (sq b (bsL fl)), .fz (nsT x), .fz (nsT y), .no, .no, .no] ∧ ((fl.zip (x.zip y)).take i).all ok = true) hi ⟨EnvLe.refl _, rfl⟩ (fun B i Q env' hQ ⟨hT, hA⟩ => ?_) fun env' ⟨hT, hA⟩ => ?_
  · rw [List.getElem?_map] at hQ
    cases hz : (fl.zip (x.zip y))[i]? with
    | none =>
      rw [hz] at hQ
      cases hQ
    | some z =>
      rw [hz] at hQ
      have e3 : tP [bP z.1, uP z.2.1, uP z.2.2] = Q := Option.some.inj hQ
      subst e3
      refine ⟨_, _, fun σ F H v e sl q Q' k => tg3 σ F H v e (sl.le hT) q Q' k, ?_⟩
      refine at_if (C := (· = !(ok z))) ?_ (fun c => ?_) fun c => ?_
      · refine t_is (t_ifT (c := z.1) (a := decide (z.2.1 < z.2.2)) (b := decide (z.2.2 < z.2.1)) (t_B (ev_var rfl)) (fun _ => t_testT (ev_op (ev_var rfl) (ev_var rfl) o_lt) (decide_eq_decide.mpr (by omega))) fun _ => t_testT (ev_op (ev_var rfl) (ev_var rfl) o_lt) (decide_eq_decide.mpr (by omega))) ?_
        show _ = !(if z.1 = true then decide (z.2.2 ≤ z.2.1) else decide (z.2.1 ≤ z.2.2))
        cases z.1 with
        | true =>
          rw [if_pos rfl, if_pos rfl, ← decide_not]
          exact decide_eq_decide.mpr (by omega)
        | false =>
          rw [if_neg Bool.false_ne_true, if_neg Bool.false_ne_true, ← decide_not]
          exact decide_eq_decide.mpr (by omega)
      · have hf : ok z = false := by
          cases hh : ok z with
          | false => rfl
          | true => rw [hh] at c; cases c
        refine at_ret ev_c fun v F H g q => R.rt v F H g ?_
        have : rowBelow fl x y = false := by
          cases hr : rowBelow fl x y with
          | false => rfl
          | true =>
            have := List.all_eq_true.mp hr z (List.mem_of_getElem? hz)
            rw [show ok z = true from this] at hf
            cases hf
        rw [this]
        exact q
      · refine at_sat ⟨by repeat (first | exact le_z | apply le_k | apply le_n), ?_⟩
        have hf : ok z = true := by
          cases hh : ok z with
          | true => rfl
          | false => rw [hh] at c; cases c
        rw [List.take_add_one, hz, List.all_append, hA]
        show (true && (ok z && true)) = true
        rw [hf]
        rfl
  · refine at_le hT (at_ret ev_c fun v F H g q => R.rt v F H g ?_)
    rw [List.length_map, List.take_length] at hA
    have : rowBelow fl x y = true := hA
    rw [this]
    exact q
theorem b_is_below (T : Tx K mg) : Body N_is_below (t_is_below K Pr0 w) (pr_is_below K w) := by
  rintro W svs post D ⟨m, fl, x, y, rfl, wf, h1, hx, hy, rfl⟩ R
  show At W _ [.fz (mdlP (mC K) m), .fz (flT fl), .fz (nsT x), .fz (nsT y)]
  have := wf.many12
  refine q_drop (ev_call (ea_cons (ev_var rfl) (ea_cons (ev_var rfl) ea_nil)) ⟨m, fl, rfl, wf, h1, rfl⟩) ?_
  refine q_no (t_orF (t_notB (ev_call (ea_cons (ev_var rfl) (ea_cons (ev_var rfl) ea_nil)) ⟨m, x, rfl, wf, hx, rfl⟩) rfl) (t_notB (ev_call (ea_cons (ev_var rfl) (ea_cons (ev_var rfl) ea_nil)) ⟨m, y, rfl, wf, hy, rfl⟩) rfl)) ?_
  exact at_ret (ev_call (ea_cons (ev_var rfl) (ea_cons (ev_var rfl) (ea_cons (ev_var rfl) ea_nil))) ⟨true, fl, x, y, rfl, by omega, rfl⟩) R.rt
end
section
variable {K : PySem.W.Frag} {Pr0 : Program} {w : World}
theorem b_added_up : Body N_added_up (t_added_up K Pr0 w) (pr_added_up K w) := by
  rintro W svs post D ⟨ws, rfl, hl, rfl⟩ R
  show At W _ [.fz (lP (isL ws)), .no]
  have e : isL (addedUp ws) = (List.range ws.length).map fun k => iP (ws.take (k + 1)).sum := by
    unfold isL addedUp
    rw [List.map_map]
    rfl
  rw [e] at R
  refine at_ret (ev_frz (ef_lcN (xs := List.range ws.length) (f := uP) (ei_rangeI (ev_lenL (ev_var rfl)) (by rw [List.length_map]) (by omega)) (by rw [List.length_range]; omega) (by decide) fun k hk => ?_)) R.rt
  have h := ev_call1 (W := W) (env := (wipeE [Sv.fz (lP (isL ws)), Sv.no] [1]).set 1 (.fz (uP k))) (r := rSum K) (ta := tSl (rSlL K) (tVar 0) tNoPart (tPart (tOp rAddI (tVar 1) (tC (.int 1))))) (P3 := iP (ws.take (k + 1)).sum) (ev_frz (Ps := (ws.take (k + 1)).map iP) ?_) c1_sum
  · exact h
  · have h2 := ef_cut (K := K) (W := W) (env := (wipeE [Sv.fz (lP (isL ws)), Sv.no] [1]).set 1 (.fz (uP k))) (n := k + 1) (Ps := isL ws) (te := tVar 0) (ti := tOp rAddI (tVar 1) (tC (.int 1))) (ev_var rfl) (ev_i (ev_op (ev_var rfl) ev_c o_add) (by omega))
    rw [List.map_take]
    exact h2
theorem turn_test {W : Wd} {env : List Sv} {f : Bool} {v : Int} (h0 : env[0]? = some (.fz (bP f))) (h5 : env[5]? = some (.fz (iP v))) : EvT W (tIfT (tB (tVar 0)) (tTest (tOp rGtI (tVar 5) (tC (.int 0)))) (tTest (tOp rLtI (tVar 5) (tC (.int 0))))) env (· = if f = true then decide (0 < v) else decide (v < 0)) :=
  t_ifT (t_B (ev_var h0)) (fun _ => t_test (ev_op (ev_var h5) ev_c o_gt)) fun _ => t_test (ev_op (ev_var h5) ev_c o_lt)
theorem b_is_turned_right : Body N_is_turned_right (t_is_turned_right K Pr0 w) (pr_is_turned_right K w) := by
  rintro W svs post D ⟨f, x, y, rfl, ⟨x0, xl, xb⟩, ⟨y0, yl, yb⟩, rfl⟩ R
  show At W _ [.fz (bP f), .fz (lP (isL x)), .fz (lP (isL y)), .no, .no, .no]
  have bx := xb _ (lastD_mem (d := 0) x0)
  have bby := yb _ (lastD_mem (d := 0) y0)
  refine q_forAll (xs := x.zip y) (f := fun z => tP [iP z.1, iP z.2]) (E := [.fz (bP f), .fz (lP (isL x)), .fz (lP (isL y)), .no, .no, .no]) (turned1 f (x.getLastD 0) (y.getLastD 0)) (ei_is (ei_zip2 (k1 := kL) (k2 := kL) (Ps := x.map iP) (Qs := y.map iP) (as_cons (ev_var rfl) (as_cons (ev_var rfl) as_nil))) (zip2P_map _ _ _ _)) (EnvLe.refl _) (fun B z hz => ⟨_, _, tg2, fun X kX => ?_⟩) fun c => ?_
  · obtain ⟨h1, h2⟩ := List.of_mem_zip hz
    refine q_set (P := iP (z.1 * y.getLastD 0 - z.2 * x.getLastD 0)) (ev_op (ev_op (ev_var rfl) (ev_ixL (ev_var rfl) (ev_neg ev_c) (last_map y0)) (o_mul (.inr (by omega)))) (ev_op (ev_var rfl) (ev_ixL (ev_var rfl) (ev_neg ev_c) (last_map x0)) (o_mul (.inr (by omega)))) o_sub) ?_
    refine at_if (turn_test rfl rfl) (fun c => ?_) fun c => ?_
    · have e : turned1 f (x.getLastD 0) (y.getLastD 0) z = false := by
        unfold turned1
        rw [← c]
        rfl
      have e2 : turned f x y = false := all_false hz e
      exact at_ret ev_c fun v F H g q => R.rt v F H g (by rw [e2]; exact q)
    · have e : turned1 f (x.getLastD 0) (y.getLastD 0) z = true := by
        unfold turned1
        rw [← c]
        rfl
      exact at_le (by repeat (first | exact le_z | apply le_k | apply le_n)) (kX e)
  · have e2 : turned f x y = true := c
    exact at_ret ev_c fun v F H g q => R.rt v F H g (by rw [e2]; exact q)
theorem added_small {m : Mdl} (wf : WF m) {i : Nat} {ys : List Nat} (hi : i < m.many) (hy : ∀ y ∈ ys, y < m.levels) : SmallL (addedUp (localW m i ys)) := by
  have l4 := wf.lev4
  have l1 := wf.lev1
  have len : (localW m i ys).length = m.levels := by
    unfold localW
    rw [List.length_map, List.length_range]
  have len2 : (addedUp (localW m i ys)).length = m.levels := by
    unfold addedUp
    rw [List.length_map, List.length_range, len]
  refine ⟨fun e => ?_, by omega, fun v hv => ?_⟩
  · rw [e] at len2
    simp at len2
    omega
  · unfold addedUp at hv
    obtain ⟨k, hk, e⟩ := List.mem_map.mp hv
    subst e
    have h := sum_bd ((localW m i ys).take (k + 1)) (1000 ^ 5) fun x hx => by
      unfold localW at hx
      obtain ⟨u, hu, e⟩ := List.mem_map.mp (List.mem_of_mem_take hx)
      subst e
      exact localV_bd wf hi (List.mem_range.mp hu) hy
    have hl : ((localW m i ys).take (k + 1)).length ≤ 4 := by
      rw [List.length_take, len]
      omega
    refine ⟨h.1, Int.lt_of_le_of_lt h.2 ?_⟩
    have : (1000 : Int) ^ 5 = 1000000000000000 := by decide
    have e60 : (2 : Int) ^ 60 = 1152921504606846976 := by decide
    rw [this, e60]
    omega
theorem b_rises_at (T : Tx K mg) : Body N_rises_at (t_rises_at K Pr0 w) (pr_rises_at K w) := by
  rintro W svs post D ⟨m, i, f, fl, rfl, wf, hi, hl, rfl⟩ R
  show At W _ [.fz (mdlP (mC K) m), .fz (uP i), .fz (bP f), .fz (lP (bsL fl)), .no, .no, .no, .no, .no, .no, .no]
  have l4 := wf.lev4
  have l1 := wf.lev1
  have f4 := wf.few i hi
  have hfl : fl.length ≤ 4 := by omega
  have rl := rows_len l4 hfl
  let mk : List Nat → List Nat × List Int := fun ys => (ys, addedUp (localW m i ys))
  let gd : List Nat × List Int → Bool := fun z => decide (0 < z.2.getLastD 0)
  refine q_own ef_lst0 ?_
  refine q_forE (xs := allRows m.levels fl.length) (f := nsT) (fun (pre : List (List Nat)) => [.fz (mdlP (mC K) m), .fz (uP i), .fz (bP f), .fz (lP (bsL fl)), .ow (lO (((pre.map mk).filter gd).map rowQ)), .no, .no, .no, .no, .no, .no]) (ei_list (ev_call (ea_cons (ev_fld T.cls T.n_levels (ev_var rfl) rfl) (ea_cons (ev_lenL (ev_var rfl)) ea_nil)) ⟨m.levels, fl.length, by rw [List.length_map], l4, hfl, rfl⟩)) (EnvLe.refl _) (fun B pre ys post hz => ⟨_, _, tg_name, ?_⟩) ?_
  · have hm := mem_split2 hz
    obtain ⟨h1, h2⟩ := rows_mem hm
    have sm := added_small wf hi h2
    have hp : pre.length ≤ 256 := by
      have := congrArg List.length hz
      rw [List.length_append] at this
      omega
    refine q_set (P := lP (isL (addedUp (localW m i ys)))) (ev_call (ea_cons (ev_call (ea_cons (ev_var rfl) (ea_cons (ev_var rfl) (ea_cons (ev_var rfl) ea_nil))) ⟨m, i, ys, rfl, wf, hi, by omega, h2, rfl⟩) ea_nil) ⟨localW m i ys, rfl, ?_, rfl⟩) ?_
    · unfold localW
      rw [List.length_map, List.length_range]
      omega
    · refine at_ifApp (P := rowQ (mk ys)) (b := gd (mk ys)) rfl (t_test (ev_op (ev_ixL (ev_var rfl) (ev_neg ev_c) (last_map sm.1)) ev_c o_gt)) (fun _ => ev_tup2 (ev_var rfl) (ev_var rfl)) ?_ (at_sat ?_)
      · rw [List.length_map]
        refine Nat.le_trans (List.length_filter_le ..) ?_
        rw [List.length_map]
        omega
      · refine le_k (le_k (le_k (le_k (le_o ?_ (le_n (le_n (le_k (le_k (le_k (le_k le_z))))))))))
        rw [List.map_append, List.filter_append, List.map_append]
        congr 1
        show _ = (List.filter gd [mk ys]).map rowQ
        cases hg : gd (mk ys) with
        | true => rw [if_pos rfl, List.filter_cons_of_pos hg]; rfl
        | false => rw [if_neg Bool.false_ne_true, List.filter_cons_of_neg (by rw [hg]; exact Bool.false_ne_true)]; rfl
  · have e0 : ((allRows m.levels fl.length).map mk).filter gd = rowsOf m i fl.length := rfl
    rw [e0]
    have sml : ∀ z ∈ rowsOf m i fl.length, SmallL z.2 := fun z hz => by
      obtain ⟨ys, hy, e⟩ := List.mem_map.mp (List.mem_filter.mp hz).1
      subst e
      exact added_small wf hi (rows_mem hy).2
    refine at_frz (i := 4) rfl ?_
    refine q_forAll (xs := rowsOf m i fl.length) (f := rowQ) (E := [.fz (mdlP (mC K) m), .fz (uP i), .fz (bP f), .fz (lP (bsL fl)), .fz (lP ((rowsOf m i fl.length).map rowQ)), .no, .no, .no, .no, .no, .no]) (fun x => (rowsOf m i fl.length).all fun y => pairOk f fl x y) (ei_list (ev_var rfl)) (EnvLe.refl _) (fun B x hx => ⟨_, _, tg2 (P1 := nsT x.1) (P2 := lP (isL x.2)), fun X kX => ?_⟩) fun c => ?_
    · refine at_forAll (xs := rowsOf m i fl.length) (f := rowQ) (E := [.fz (mdlP (mC K) m), .fz (uP i), .fz (bP f), .fz (lP (bsL fl)), .fz (lP ((rowsOf m i fl.length).map rowQ)), .no, .no, .fz (nsT x.1), .fz (lP (isL x.2)), .no, .no]) (fun y => pairOk f fl x y) (ei_list (ev_var rfl)) (EnvLe.refl _) (fun B2 y hy => ⟨_, _, tg2 (P1 := nsT y.1) (P2 := lP (isL y.2)), fun X2 kX2 => ?_⟩) fun c => ?_
      · refine at_if (C := (· = (rowBelow fl x.1 y.1 && !(turned f x.2 y.2)))) (t_and (t_B (ev_call (ea_cons (ev_var rfl) (ea_cons (ev_var rfl) (ea_cons (ev_var rfl) ea_nil))) ⟨false, fl, x.1, y.1, rfl, by omega, rfl⟩)) fun _ => t_not (t_B (ev_call (ea_cons (ev_var rfl) (ea_cons (ev_var rfl) (ea_cons (ev_var rfl) ea_nil))) ⟨f, x.2, y.2, rfl, sml x hx, sml y hy, rfl⟩))) (fun c => ?_) fun c => ?_
        · have e1 : pairOk f fl x y = false := by
            unfold pairOk
            cases h1 : rowBelow fl x.1 y.1 <;> cases h2 : turned f x.2 y.2 <;> rw [h1, h2] at c <;> first | rfl | cases c
          have e2 : risesAt m i f fl = false := all_false hx (all_false hy e1)
          exact at_ret ev_c fun v F H g q => R.rt v F H g (by rw [e2]; exact q)
        · have e1 : pairOk f fl x y = true := by
            unfold pairOk
            cases h1 : rowBelow fl x.1 y.1 <;> cases h2 : turned f x.2 y.2 <;> rw [h1, h2] at c <;> first | rfl | cases c
          exact at_le (by repeat (first | exact le_z | apply le_k | apply le_n)) (kX2 e1)
      · exact at_le (by repeat (first | exact le_z | apply le_k | apply le_n)) (kX c)
    · have e2 : risesAt m i f fl = true := c
      exact at_ret ev_c fun v F H g q => R.rt v F H g (by rw [e2]; exact q)
theorem b_rises_there (T : Tx K mg) : Body N_rises_there (t_rises_there K Pr0 w) (pr_rises_there K w) := by
  rintro W svs post D ⟨m, fl, rfl, wf, hl, rfl⟩ R
  show At W _ [.fz (mdlP (mC K) m), .fz (flT fl), .no, .no]
  have m2 := wf.many12
  refine q_forAll (xs := List.range m.many) (f := uP) (E := [.fz (mdlP (mC K) m), .fz (flT fl), .no, .no]) (risesP m fl) (ei_range (ev_fld T.cls T.n_many (ev_var rfl) rfl) (by omega)) (EnvLe.refl _) (fun B i hi => ⟨_, _, tg_name, fun X kX => ?_⟩) fun c => ?_
  · have hi' := List.mem_range.mp hi
    have f4 := wf.few i hi'
    have lt : (tiedAt m.ties i).length = (tiesAt m.ties i).length := List.length_map ..
    refine at_if (C := (· = !(risesP m fl i))) (t_not (t_B (ev_call (ea_cons (ev_var rfl) (ea_cons (ev_var rfl) (ea_cons (ev_ix (ev_var rfl) (ev_var rfl) (bool_at hl hi')) (ea_cons (ev_frz (Ps := bsL (flAt fl m.ties i)) ?_) ea_nil)))) ⟨m, i, fl.getD i false, flAt fl m.ties i, rfl, wf, hi', by unfold flAt; rw [List.length_map, lt], rfl⟩))) (fun c => ?_) fun c => ?_
    · unfold bsL flAt
      rw [List.map_map]
      exact ef_lcN (xs := tiedAt m.ties i) (f := uP) (ei_list (ev_call (ea_cons (ev_var rfl) (ea_cons (ev_var rfl) ea_nil)) ⟨m, i, rfl, wf, rfl⟩)) (by omega) (by decide) fun j hj => ev_ix (ev_var rfl) (ev_var rfl) (bool_at hl (tied_lt wf hj))
    · have e1 : risesP m fl i = false := by
        cases h : risesP m fl i with
        | false => rfl
        | true => rw [h] at c; cases c
      have e2 : risesM m fl = false := all_false hi e1
      exact at_ret ev_c fun v F H g q => R.rt v F H g (by rw [e2]; exact q)
    · have e1 : risesP m fl i = true := by
        cases h : risesP m fl i with
        | true => rfl
        | false => rw [h] at c; cases c
      exact at_le (by repeat (first | exact le_z | apply le_k | apply le_n)) (kX e1)
  · have e2 : risesM m fl = true := c
    exact at_ret ev_c fun v F H g q => R.rt v F H g (by rw [e2]; exact q)
theorem b_rises : Body N_rises (t_rises K Pr0 w) (pr_rises K w) := by
  rintro W svs post D ⟨m, fl, rfl, wf, hl, rfl⟩ R
  show At W _ [.fz (mdlP (mC K) m), .fz (flT fl)]
  refine q_drop (ev_call (ea_cons (ev_var rfl) (ea_cons (ev_var rfl) ea_nil)) ⟨m, fl, rfl, wf, hl, rfl⟩) ?_
  exact at_ret (ev_call (ea_cons (ev_var rfl) (ea_cons (ev_var rfl) ea_nil)) ⟨m, fl, rfl, wf, hl, rfl⟩) R.rt
theorem b_ends_by (T : Tx K mg) : Body N_ends_by (t_ends_by K Pr0 w) (pr_ends_by K w) := by
  rintro W svs post D ⟨m, fl, rfl, wf, hl, rfl⟩ R
  show At W _ [.fz (mdlP (mC K) m), .fz (flT fl), .no, .no]
  have m2 := wf.many12
  have l1 := wf.lev1
  refine q_set (P := uP (m.levels - 1)) (ev_i (ev_op (ev_fld T.cls T.n_levels (ev_var rfl) rfl) ev_c o_sub) (by omega)) ?_
  refine at_ret (ev_tup2 (ev_tupL (ev_frz (Ps := (endLo m.levels fl).map uP) ?_)) (ev_tupL (ev_frz (Ps := (endHi m.levels fl).map uP) ?_))) R.rt
  · unfold endLo
    rw [List.map_map]
    exact ef_lcN (xs := fl) (f := bP) (ei_tup (ev_var rfl)) (by omega) (by decide) fun b hb => ev_if (f := uP) (t_B (ev_var rfl)) (fun _ => ev_var rfl) fun _ => ev_c
  · unfold endHi
    rw [List.map_map]
    exact ef_lcN (xs := fl) (f := bP) (ei_tup (ev_var rfl)) (by omega) (by decide) fun b hb => ev_if (f := uP) (t_B (ev_var rfl)) (fun _ => ev_c) fun _ => ev_var rfl
theorem b_do_ends_fit (T : Tx K mg) : Body N_do_ends_fit (t_do_ends_fit K Pr0 w) (pr_do_ends_fit K w) := by
  rintro W svs post D ⟨m, fl, rfl, wf, hl, rfl⟩ R
  show At W _ [.fz (mdlP (mC K) m), .fz (flT fl), .no]
  obtain ⟨o1, o2⟩ := end_ok wf hl
  refine at_ret (ev_b (ev_allN (xs := [endLo m.levels fl, endHi m.levels fl]) (f := nsT) (fun p => decide (0 < weightM m p)) (ei_tup (ev_call (ea_cons (ev_var rfl) (ea_cons (ev_var rfl) ea_nil)) ⟨m, fl, rfl, wf, hl, rfl⟩)) (show 2 ≤ 1000000 by decide) fun p hp => ?_) ?_) R.rt
  · have hp' : PicOk m p := by
      rcases List.mem_cons.mp hp with e | e
      · rw [e]; exact o1
      · rw [List.mem_singleton.mp e]; exact o2
    exact ev_op (ev_call (ea_cons (ev_var rfl) (ea_cons (ev_var rfl) ea_nil)) ⟨m, p, rfl, wf, hp', rfl⟩) ev_c o_gt
  · show (decide _ && (decide _ && true)) = _
    rw [Bool.and_true]
    rfl
theorem b_ends_of (T : Tx K mg) : Body N_ends_of (t_ends_of K Pr0 w) (pr_ends_of K w) := by
  rintro W svs post D ⟨m, fl, rfl, wf, hl, hf, rfl⟩ R
  show At W _ [.fz (mdlP (mC K) m), .fz (flT fl)]
  refine q_drop (ev_call (ea_cons (ev_var rfl) (ea_cons (ev_var rfl) ea_nil)) ⟨m, fl, rfl, wf, hl, rfl⟩) ?_
  refine q_no (t_notB (ev_call (ea_cons (ev_var rfl) (ea_cons (ev_var rfl) ea_nil)) ⟨m, fl, rfl, wf, hl, rfl⟩) hf) ?_
  exact at_ret (ev_call (ea_cons (ev_var rfl) (ea_cons (ev_var rfl) ea_nil)) ⟨m, fl, rfl, wf, hl, rfl⟩) R.rt
end
section
variable {K : PySem.W.Frag} {Pr0 : Program} {w : World}
theorem b_stacks : Body N_stacks (t_stacks K Pr0 w) (pr_stacks K w) := by
  rintro W svs post D ⟨r, c, mo, rfl, ⟨r1, c1, rc, mo3, wf⟩, rfl⟩ R
  show At W _ [.fz (uP r), .fz (uP c), .fz (uP mo), .no, .no, .no, .no, .no, .no]
  have hr : r ≤ r * c := Nat.le_mul_of_pos_right r c1
  have hc : c ≤ r * c := Nat.le_mul_of_pos_left c r1
  have erc : (r : Int) * (c : Int) = ((r * c : Nat) : Int) := (Int.natCast_mul r c).symm
  have cm : CMul (r : Int) (c : Int) := .inr (by omega)
  refine q_no (t_orF (t_notB (ev_call (ea_cons (ev_var rfl) (ea_cons ev_c (ea_cons ev_c ea_nil))) ⟨r, 1, 12, rfl, rfl⟩) (by simp; omega)) (t_orF (t_notB (ev_call (ea_cons (ev_var rfl) (ea_cons ev_c (ea_cons ev_c ea_nil))) ⟨c, 1, 12, rfl, rfl⟩) (by simp; omega)) (t_testF (ev_op (ev_op (ev_var rfl) (ev_var rfl) (o_mul cm)) ev_c o_gt) (decide_eq_false (by rw [erc]; omega))))) ?_
  refine q_no (t_notB (ev_call (ea_cons (ev_var rfl) (ea_cons ev_c (ea_cons (ev_op ev_c ev_c o_sub) ea_nil))) ⟨mo, 0, 4 - 1, rfl, rfl⟩) (by simp; omega)) ?_
  refine q_own ef_lst0 ?_
  refine q_forE (xs := List.range (r * c)) (f := uP) (fun (pre : List Nat) => [.fz (uP r), .fz (uP c), .fz (uP mo), .ow (lO ((pre.flatMap (gridAt r c)).map pairP)), .no, .no, .no, .no, .no]) (ei_rangeI (ev_op (ev_var rfl) (ev_var rfl) (o_mul cm)) erc (by omega)) (EnvLe.refl _) (fun B pre k post hz => ⟨_, _, tg_name, ?_⟩) ?_
  · obtain ⟨e1, e2⟩ := range_at hz
    have hl := flat_len (grid_at_len r c) pre
    refine q_ifApp (P := pairP (k, k + 1)) (b := decide (0 < (k + 1) % c)) rfl (t_testT (ev_op (ev_op (ev_op (ev_var rfl) ev_c o_add) (ev_var rfl) (o_mod (by omega))) ev_c o_gt) (decide_eq_decide.mpr (by rw [show ((k : Int) + 1) % (c : Int) = (((k + 1) % c : Nat) : Int) from (Int.natCast_emod (k + 1) c).symm]; omega))) (fun _ => ev_tup2 (ev_var rfl) (ev_i (ev_op (ev_var rfl) ev_c o_add) rfl)) (by rw [List.length_map]; omega) ?_
    refine at_ifApp (P := pairP (k, k + c)) (b := decide (k + c < r * c)) rfl (t_testT (ev_op (ev_op (ev_var rfl) (ev_var rfl) o_add) (ev_op (ev_var rfl) (ev_var rfl) (o_mul cm)) o_lt) (decide_eq_decide.mpr (by rw [erc]; omega))) (fun _ => ev_tup2 (ev_var rfl) (ev_i (ev_op (ev_var rfl) (ev_var rfl) o_add) (by omega))) ?_ (at_sat ?_)
    · rw [List.length_append, List.length_map]
      exact Nat.le_trans (Nat.add_le_add_left (show _ ≤ 1 by split <;> simp) _) (by omega)
    · refine le_k (le_k (le_k (le_o ?_ (le_n (le_k (le_k (le_k (le_k le_z))))))))
      rw [List.flatMap_append, List.map_append, List.append_assoc]
      congr 1
      rw [List.flatMap_cons, List.flatMap_nil, List.append_nil]
      unfold gridAt
      rw [List.map_append]
      congr 1
      · by_cases h : 0 < (k + 1) % c
        · rw [if_pos (decide_eq_true h), if_pos h]; rfl
        · rw [if_neg (by rw [decide_eq_false h]; exact Bool.false_ne_true), if_neg h]; rfl
      · by_cases h : k + c < r * c
        · rw [if_pos (decide_eq_true h), if_pos h]; rfl
        · rw [if_neg (by rw [decide_eq_false h]; exact Bool.false_ne_true), if_neg h]; rfl
  · have hok : PairsOk (r * c) (gridPairs r c) := by
      have h : PairsOk (r * c) ((mkTies (gridPairs r c) (leTab (mo + 1))).map fun t => (t.a, t.b)) := wf.prs
      rwa [mk_prs] at h
    have hgl : (gridPairs r c).length ≤ 24 := by
      have := flat_len (grid_at_len r c) (List.range (r * c))
      rw [List.length_range] at this
      exact Nat.le_trans this (by omega)
    refine at_frz (i := 3) rfl ?_
    refine q_set (P := uP (mo + 1)) (ev_i (ev_op (ev_var rfl) ev_c o_add) rfl) ?_
    refine q_set (P := tabP (leTab (mo + 1))) (ev_tupL (ev_frz (Ps := (leTab (mo + 1)).map rowP) ?_)) ?_
    · unfold leTab
      rw [List.map_map]
      refine ef_lcN (xs := List.range (mo + 1)) (f := uP) (ei_range (ev_var rfl) (by omega)) (by rw [List.length_range]; omega) (by decide) fun x hx => ev_tupL (ev_frz (Ps := ((List.range (mo + 1)).map fun y => if y ≤ x then (1 : Int) else 0).map iP) ?_)
      rw [List.map_map]
      refine ef_lcN (xs := List.range (mo + 1)) (f := uP) (ei_range (ev_var rfl) (by omega)) (by rw [List.length_range]; omega) (by decide) fun y hy => ev_i (ev_call1 (ev_op (ev_var rfl) (ev_var rfl) o_le) c1_intB) ?_
      show _ = (if y ≤ x then (1 : Int) else 0)
      by_cases h : y ≤ x
      · rw [if_pos h, decide_eq_true (by omega)]; rfl
      · rw [if_neg h, decide_eq_false (by omega)]; rfl
    · refine at_ret (ev_call (ea_cons (ev_i (ev_op (ev_var rfl) (ev_var rfl) (o_mul cm)) erc) (ea_cons (ev_var rfl) (ea_cons (P := rowP (List.replicate (mo + 1) 1)) ?_ (ea_cons (P := sq false ((gridPairs r c).map pairP)) ?_ (ea_cons (ev_var rfl) ea_nil))))) ⟨r * c, mo + 1, List.replicate (mo + 1) 1, false, gridPairs r c, leTab (mo + 1), rfl, wf, rfl⟩) R.rt
      · refine ev_is (ev_op (ev_tup1 (P1 := iP 1) ev_c) (ev_var rfl) (o_repT (K := K) (n := mo + 1) (by simp) (by omega) (by omega) (show 1 ≤ 1000 by decide))) ?_
        show _ = tP ((List.replicate (mo + 1) (1 : Int)).map iP)
        rw [List.map_replicate]
        simp
      · refine ev_frz (ef_sortSet (ps := gridPairs r c) (ms := gridPairs r c) (ev_var rfl) (by omega) (fun p hp => ?_) (fun p => Iff.rfl) ?_)
        · have := hok.2 p hp
          omega
        · exact hok.1.imp_of_mem fun {p q} hp hq z => cd_lt rc (hok.2 p hp) (hok.2 q hq) z
theorem maxL_ge : ∀ (xs : List Nat) (a : Nat), a ≤ xs.foldl max a ∧ ∀ x ∈ xs, x ≤ xs.foldl max a
  | [], a => ⟨Nat.le_refl _, fun _ h => nomatch h⟩
  | y :: xs, a => by
    obtain ⟨h1, h2⟩ := maxL_ge xs (max a y)
    rw [List.foldl_cons]
    refine ⟨by omega, fun x hx => ?_⟩
    rcases List.mem_cons.mp hx with e | e
    · rw [e]; omega
    · exact h2 x e
theorem maxL_mem : ∀ (xs : List Nat) (a : Nat), xs.foldl max a ∈ a :: xs
  | [], a => List.mem_singleton.mpr rfl
  | y :: xs, a => by
    rw [List.foldl_cons]
    rcases List.mem_cons.mp (maxL_mem xs (max a y)) with e | e
    · rw [e]
      rcases Nat.le_total a y with h | h
      · rw [Nat.max_eq_right h]; exact List.mem_cons_of_mem _ List.mem_cons_self
      · rw [Nat.max_eq_left h]; exact List.mem_cons_self
    · exact List.mem_cons_of_mem _ (List.mem_cons_of_mem _ e)
def memoK (m : Mdl) (b : List Bool) (i : Nat) : List V := .int (i : Int) :: .bl (b.getD i false) :: (flAt b m.ties i).map V.bl
theorem memo_key (m : Mdl) (b : List Bool) (i : Nat) : NestedKey.tup ((memoK m b i).map kN) = .tup (.num (i : Int) :: (b.getD i false :: flAt b m.ties i).map numB) := by
  unfold memoK
  rw [List.map_cons, List.map_cons, List.map_cons, List.map_map]
  rfl
theorem memo_val (m : Mdl) (b : List Bool) (i : Nat) : memoF m (.tup ((memoK m b i).map kN)) = risesP m b i := by
  rw [memo_key, List.map_cons]
  show risesAt m ((i : Int)).toNat (keyB2 (numB _)) (((flAt b m.ties i).map numB).map keyB2) = _
  rw [keyB_num, List.map_map, Int.toNat_natCast, show keyB2 ∘ numB = id from funext keyB_num, List.map_id]
  rfl
theorem memo_dom (m : Mdl) (b : List Bool) {i : Nat} (hi : i < 12) (hl : (flAt b m.ties i).length ≤ 4) : NestedKey.tup ((memoK m b i).map kN) ∈ memoDom := by
  rw [memo_key]
  unfold memoDom
  refine List.mem_flatMap.mpr ⟨i, List.mem_range.mpr hi, List.mem_flatMap.mpr ⟨(flAt b m.ties i).length, List.mem_range.mpr (by omega), List.mem_map.mpr ⟨b.getD i false :: flAt b m.ties i, mem_allFlips _ _ rfl, rfl⟩⟩⟩
theorem memo_len : memoDom.length ≤ 1000000 := by
  have h1 : ∀ n : Nat, n < 5 → (allFlips (n + 1)).length ≤ 32 := fun n hn => by
    have := tuples_len (α := Bool) (k := 2) (by decide) (n + 1) (List.replicate (n + 1) [false, true]) (by simp) fun r hr => by
      rw [List.eq_of_mem_replicate hr]
      exact Nat.le_refl 2
    exact Nat.le_trans this (Nat.le_trans (Nat.pow_le_pow_right (by decide) (show n + 1 ≤ 5 by omega)) (by decide))
  have h2 : ∀ (xs : List Nat) (f : Nat → List NestedKey) (B : Nat), (∀ x ∈ xs, (f x).length ≤ B) → (xs.flatMap f).length ≤ B * xs.length := by
    intro xs f B h
    induction xs with
    | nil => exact Nat.zero_le _
    | cons x xs ih =>
      rw [List.flatMap_cons, List.length_append, List.length_cons, Nat.mul_succ]
      have := h x List.mem_cons_self
      have := ih fun y hy => h y (List.mem_cons_of_mem _ hy)
      omega
  have h3 := h2 (List.range 12) (fun i : Nat => (List.range 5).flatMap fun n : Nat => (allFlips (n + 1)).map fun bs => .tup (.num (i : Int) :: bs.map numB)) (32 * 5) fun i _ => by
    have := h2 (List.range 5) (fun n : Nat => (allFlips (n + 1)).map fun bs => .tup (.num (i : Int) :: bs.map numB)) 32 fun n hn => by
      rw [List.length_map]
      exact h1 n (List.mem_range.mp hn)
    rwa [List.length_range] at this
  exact Nat.le_trans h3 (by decide)
theorem b_may_rise (T : Tx K mg) : Body N_may_rise (t_may_rise K Pr0 w) (pr_may_rise K w) := by
  rintro W svs post D ⟨m, b, rfl, wf, hb, rfl⟩ R
  show At W _ [.fz (mdlP (mC K) m), .fz (flT b), .sh (memoG w m), .no, .no, .no, .no]
  have m2 := wf.many12
  refine q_forAll (xs := List.range b.length) (f := uP) (E := [.fz (mdlP (mC K) m), .fz (flT b), .sh (memoG w m), .no, .no, .no, .no]) (mayP m b) (ei_rangeI (ev_lenT (ev_var rfl)) (by rw [List.length_map]) (by omega)) (EnvLe.refl _) (fun B i hi => ⟨_, _, tg_name, fun X kX => ?_⟩) fun c => ?_
  · have hi' := List.mem_range.mp hi
    have him : i < m.many := by omega
    have f4 := wf.few i him
    have lt : (tiedAt m.ties i).length = (tiesAt m.ties i).length := List.length_map ..
    have lf : (flAt b m.ties i).length = (tiesAt m.ties i).length := by
      unfold flAt
      rw [List.length_map, lt]
    refine q_set (P := lP (usL (tiedAt m.ties i))) (ev_call (ea_cons (ev_var rfl) (ea_cons (ev_var rfl) ea_nil)) ⟨m, i, rfl, wf, rfl⟩) ?_
    refine at_if (C := (· = decide (maxL i (tiedAt m.ties i) + 1 = b.length))) (t_testT (ev_op (P1 := uP (maxL i (tiedAt m.ties i))) ?_ (ev_op (ev_lenT (ev_var rfl)) ev_c o_sub) o_eqI) (decide_eq_decide.mpr ?_)) (fun c => ?_) fun c => ?_
    · refine ev_call1 (P1 := lP (((i :: tiedAt m.ties i).map fun n : Nat => (n : Int)).map iP)) (ev_is (ev_frz (ef_op (ev_frz (ef_lst1 (P1 := uP i) (ev_var rfl))) (ev_var rfl) (o_catL ?_))) ?_) (c1_max ?_ ?_)
      · rw [List.length_map, lt]
        show 1 + _ ≤ 1000000
        omega
      · rw [List.map_map]
        rfl
      · exact List.mem_map.mpr ⟨_, maxL_mem _ _, rfl⟩
      · intro y hy
        obtain ⟨x, hx, e⟩ := List.mem_map.mp hy
        subst e
        have h := maxL_ge (tiedAt m.ties i) i
        rcases List.mem_cons.mp hx with e | e
        · rw [e]; exact Int.ofNat_le.mpr h.1
        · exact Int.ofNat_le.mpr (h.2 x e)
    · rw [List.length_map]
      omega
    · have hmax := of_decide_eq_true c.symm
      have ge := maxL_ge (tiedAt m.ties i) i
      have tl : ∀ j ∈ tiedAt m.ties i, j < b.length := fun j hj => by
        have := ge.2 j hj
        unfold maxL at hmax
        omega
      have emay : mayP m b i = risesP m b i := by
        unfold mayP
        rw [if_pos hmax]
      refine q_set (P := tP ((memoK m b i).map sP)) (ev_is (ev_op (ev_tup2 (ev_var rfl) (ev_ix (ev_var rfl) (ev_var rfl) (bool_at rfl hi'))) (ev_tupL (ev_frz (Ps := bsL (flAt b m.ties i)) ?_)) (o_catT ?_)) ?_) ?_
      · unfold bsL flAt
        rw [List.map_map]
        exact ef_lcN (xs := tiedAt m.ties i) (f := uP) (ei_list (ev_var rfl)) (by omega) (by decide) fun j hj => ev_ix (ev_var rfl) (ev_var rfl) (bool_at rfl (tl j hj))
      · rw [List.length_map, lf]
        show 2 + _ ≤ 1000000
        omega
      · unfold memoK
        rw [List.map_cons, List.map_cons, List.map_map]
        rfl
      · refine q_memo (ks := memoK m b i) rfl rfl (ev_b (ev_call (ea_cons (ev_var rfl) (ea_cons (ev_var rfl) (ea_cons (ev_ix (P := bP (b.getD i false)) (ev_var rfl) ev_c (atI_map (f := sP) (xs := memoK m b i) (n := 1) (x := V.bl (b.getD i false)) rfl)) (ea_cons (P := lP (bsL (flAt b m.ties i))) ?_ ea_nil)))) ⟨m, i, b.getD i false, flAt b m.ties i, rfl, wf, him, lf, rfl⟩) (memo_val m b i).symm) ?_ (memo_dom m b (by omega) (by omega)) memo_len (fun c => ?_) fun c => ?_
        · refine ev_is (ev_frz (ef_call1 (ev_cutF (n := 2) (ev_var rfl) ev_c) c1_listT)) ?_
          unfold memoK
          rw [List.map_cons, List.map_cons, List.map_map]
          rfl
        · unfold memoK
          rw [List.all_cons, List.all_cons, List.all_map]
          show (true && (true && _)) = true
          rw [Bool.true_and, Bool.true_and]
          exact List.all_eq_true.mpr fun _ _ => rfl
        · rw [memo_val, ← emay] at c
          have e2 : mayRise m b = false := all_false hi c
          exact at_ret ev_c fun v F H g q => R.rt v F H g (by rw [e2]; exact q)
        · rw [memo_val, ← emay] at c
          exact at_le (by repeat (first | exact le_z | apply le_k | apply le_n)) (kX c)
    · have e1 : mayP m b i = true := by
        unfold mayP
        rw [if_neg (of_decide_eq_false c.symm)]
      exact at_le (by repeat (first | exact le_z | apply le_k | apply le_n)) (kX e1)
  · have e2 : mayRise m b = true := c
    exact at_ret ev_c fun v F H g q => R.rt v F H g (by rw [e2]; exact q)
end
section
variable {K : PySem.W.Frag} {Pr0 : Program} {w : World}
theorem b_flips_for (T : Tx K mg) : Body N_flips_for (t_flips_for K Pr0 w) (pr_flips_for K w) := by
  rintro W svs post D ⟨m, rfl, wf, rfl⟩ R
  show At W _ [.fz (mdlP (mC K) m), .no, .no, .no]
  have m2 := wf.many12
  refine q_own (Ps := ([[]] : List (List Bool)).map flT) (ef_lst1 ev_tup0) ?_
  refine q_knew (f := memoF m) (dom := memoDom) ?_
  have b0 : wgt m.many [[]] ≤ 2 ^ 13 := by
    show 2 ^ (m.many + 1 - 0) - 1 + 0 ≤ 2 ^ 13
    have : 2 ^ (m.many + 1 - 0) ≤ 2 ^ 13 := Nat.pow_le_pow_right (by decide) (by omega)
    omega
  refine q_while (T := fun μ e => ∃ st, Srch m st ∧ μ = wgt m.many st ∧ μ ≤ 2 ^ 13 ∧ EnvLe e [.fz (mdlP (mC K) m), .ow (lO (st.map flT)), .ow (memoG w m), .no]) (wgt m.many [[]]) ⟨[[]], Srch.zero m, rfl, b0, EnvLe.refl _⟩ (fun B μ e ⟨st, s, hμ, hb, hT⟩ => ?_)
  have hlen := Nat.le_trans (wgt_le s.len) (by rw [← hμ]; exact hb)
  refine ⟨(· = decide (0 < st.length)), fun σ F H ex so sl => t_testT (ev_op (ev_lenO rfl) ev_c o_gt) (decide_eq_decide.mpr (by rw [List.length_map]; omega)) σ F H ex so (sl.le hT), fun c => at_le hT ?_, fun c => at_le hT ?_⟩
  · have hpos := of_decide_eq_true c.symm
    have hne : st ≠ [] := List.length_pos_iff.mp hpos
    obtain ⟨st', p, est⟩ : ∃ st' p, st = st' ++ [p] := ⟨st.dropLast, st.getLast hne, (List.dropLast_concat_getLast hne).symm⟩
    subst est
    have hp := s.len p (by simp)
    rw [List.map_append]
    refine q_pop (Ps := st'.map flT) (P := flT p) rfl ?_
    refine at_ifOw (G := memoG w m) (P1 := mdlP (mC K) m) (P2 := flT p) rfl (ev_var rfl) (ev_var rfl) ⟨m, p, rfl, wf, hp, rfl⟩ (fun c1 => ?_) fun c1 => ?_
    · refine at_if (C := (· = decide (p.length < m.many))) (t_testT (ev_op (ev_lenT (ev_var rfl)) (ev_fld T.cls T.n_many (ev_var rfl) rfl) o_lt) (decide_eq_decide.mpr (by rw [List.length_map]; omega))) (fun c2 => ?_) fun c2 => ?_
      · have hl := of_decide_eq_true c2.symm
        refine at_ext (Qs := [p ++ [true], p ++ [false]].map flT) rfl (ef_lst2 (ev_is (ev_op (ev_var rfl) (ev_tup1 (P1 := bP true) ev_c) (o_catT ?_)) ?_) (ev_is (ev_op (ev_var rfl) (ev_tup1 (P1 := bP false) ev_c) (o_catT ?_)) ?_)) ?_ (at_sat ⟨_, ?_, _, s.more c1 hl, rfl, ?_, ?_⟩)
        · rw [List.length_map]; show _ + 1 ≤ 1000000; omega
        · show tP (p.map bP ++ [bP true]) = tP ((p ++ [true]).map bP)
          rw [List.map_append]; rfl
        · rw [List.length_map]; show _ + 1 ≤ 1000000; omega
        · show tP (p.map bP ++ [bP false]) = tP ((p ++ [false]).map bP)
          rw [List.map_append]; rfl
        · rw [List.length_append] at hlen
          rw [List.length_map]; show _ + 2 ≤ 1000000; omega
        · rw [hμ]; exact wgt_more hl
        · have := wgt_more (st := st') hl
          omega
        · exact le_k (le_o (by rw [List.map_append]) (le_k (le_n le_z)))
      · have hl : p.length = m.many := by have := of_decide_eq_false c2.symm; omega
        obtain ⟨g1, g2⟩ := s.leaf wf c1 hl
        refine at_if (C := (· = endsFit m p)) (t_B (ev_call (ea_cons (ev_var rfl) (ea_cons (ev_var rfl) ea_nil)) ⟨m, p, rfl, wf, hl, rfl⟩)) (fun c3 => ?_) fun c3 => ?_
        · have e := g1 c3.symm
          exact at_ret (ev_var rfl) fun v F H g q => R.rt v F H g (by rw [e]; exact q)
        · have := wgt_less (st := st') hp
          exact at_sat ⟨_, by rw [hμ]; exact this, st', g2 c3.symm, rfl, by omega, le_k (le_k (le_k (le_n le_z)))⟩
    · have := wgt_less (st := st') hp
      exact at_sat ⟨_, by rw [hμ]; exact this, st', s.bad c1, rfl, by omega, le_k (le_k (le_k (le_n le_z)))⟩
  · have h0 := of_decide_eq_false c.symm
    have e0 : st = [] := List.length_eq_zero_iff.mp (by omega)
    subst e0
    have e := s.done
    exact at_ret ev_c fun v F H g q => R.rt v F H g (by rw [e]; exact q)
end
section
variable {K : PySem.W.Frag} {Pr0 : Program} {w : World}
theorem b_law_any : Body N_law_any (t_law_any K Pr0 w) (pr_law_any K w) := by
  rintro W svs post D ⟨Ps, rfl, hne, hl, rfl⟩ R
  show At W _ [.sh HandG, .fz (lP Ps)]
  have hpos := List.length_pos_iff.mpr hne
  refine at_ret (ev_op (P2 := anyP (fun r : Nat => r < Ps.length) uP) (ev_var rfl) (ev_call (ea_sh rfl (ea_cons (ev_lenL (ev_var rfl)) ea_nil)) ⟨Ps.length, rfl, hpos, by omega, rfl⟩) ?_) R.rt
  intro F H x y e hx ⟨r, hr, hy⟩ Q k
  have e1 : Ps[r]? = some Ps[r] := List.getElem?_eq_getElem hr
  exact o_ixL (P := Ps[r]) (atI_nat e1) F H x y e hx hy Q fun v F' H' g q => k v F' H' g ⟨Ps[r], List.getElem_mem hr, q⟩
theorem tied_flat (i : Nat) : ∀ ts : List Tie, (∀ t ∈ ts, t.a < t.b) → (ts.flatMap fun t => if t.a = i then [t.b] else if t.b = i then [t.a] else []) = tiedAt ts i
  | [], _ => rfl
  | t :: ts, h => by
    have ih := tied_flat i ts fun x hx => h x (List.mem_cons_of_mem _ hx)
    have hab := h t List.mem_cons_self
    rw [List.flatMap_cons, ih]
    unfold tiedAt tiesAt
    by_cases h1 : t.a = i
    · rw [if_pos h1, List.filter_cons_of_pos (by simp [h1]), List.map_cons]
      unfold otherOf
      rw [if_neg (by omega)]
      rfl
    · rw [if_neg h1]
      by_cases h2 : t.b = i
      · rw [if_pos h2, List.filter_cons_of_pos (by simp [h2]), List.map_cons]
        unfold otherOf
        rw [if_pos h2]
        rfl
      · rw [if_neg h2, List.filter_cons_of_neg (by simp [h1, h2])]
        rfl
theorem b_law_near : Body N_law_near (t_law_near K Pr0 w) (pr_law_near K w) := by
  rintro W svs post D ⟨m, i, rfl, wf, rfl⟩ R
  show At W _ [.fz (ldP m), .fz (uP i), .no, .no, .no, .no]
  have h144 := wf_few wf
  let st : Tie → List Nat := fun t => if t.a = i then [t.b] else if t.b = i then [t.a] else []
  have sl : ∀ pre : List Tie, (pre.flatMap st).length ≤ pre.length := fun pre => by
    induction pre with
    | nil => exact Nat.le_refl _
    | cons t pre ih =>
      rw [List.flatMap_cons, List.length_append, List.length_cons]
      have : (st t).length ≤ 1 := by
        show (if t.a = i then [t.b] else if t.b = i then [t.a] else []).length ≤ 1
        split
        · exact Nat.le_refl _
        · split
          · exact Nat.le_refl _
          · exact Nat.zero_le _
      omega
  refine q_own ef_lst0 ?_
  refine q_forE (xs := m.ties) (f := tieP) (fun (pre : List Tie) => [.fz (ldP m), .fz (uP i), .ow (lO ((pre.flatMap st).map uP)), .no, .no, .no]) (ei_tup (ev_dget (ev_var rfl) (k := Sum.inr "ties") ev_c rfl)) (EnvLe.refl _) (fun B pre t post hz => ⟨_, _, tg3 (P1 := uP t.a) (P2 := uP t.b) (P3 := tabP t.t), ?_⟩) ?_
  · have hl := congrArg List.length hz
    rw [List.length_append] at hl
    have := sl pre
    refine at_ext (Qs := (st t).map uP) rfl ?_ ?_ (at_sat ?_)
    · refine ef_ifC (C := (· = decide (t.a = i))) (t_testT (ev_op (ev_var rfl) (ev_var rfl) o_eqI) (decide_eq_decide.mpr (by omega))) (fun c => ?_) fun c => ?_
      · have e : st t = [t.b] := if_pos (of_decide_eq_true c.symm)
        rw [e]
        exact ef_lst1 (ev_var rfl)
      · have e1 : ¬ t.a = i := of_decide_eq_false c.symm
        refine ef_ifC (C := (· = decide (t.b = i))) (t_testT (ev_op (ev_var rfl) (ev_var rfl) o_eqI) (decide_eq_decide.mpr (by omega))) (fun c => ?_) fun c => ?_
        · have e : st t = [t.a] := (if_neg e1).trans (if_pos (of_decide_eq_true c.symm))
          rw [e]
          exact ef_lst1 (ev_var rfl)
        · have e : st t = [] := (if_neg e1).trans (if_neg (of_decide_eq_false c.symm))
          rw [e]
          exact ef_lst0
    · have h2 := sl [t]
      rw [List.flatMap_cons, List.flatMap_nil, List.append_nil] at h2
      rw [List.length_map, List.length_map]
      have : (st t).length ≤ 1 := h2
      omega
    · refine le_k (le_k (le_o ?_ (le_n (le_n (le_n le_z)))))
      rw [List.flatMap_append, List.map_append, List.flatMap_cons, List.flatMap_nil, List.append_nil]
  · have e1 : m.ties.flatMap st = tiedAt m.ties i := tied_flat i m.ties fun t ht => (wf_pr wf ht).1
    rw [e1]
    have tl : (tiedAt m.ties i).length ≤ 12 := by
      refine Nat.le_trans (nodup_len (tiedAt m.ties i) (List.range m.many) ((tied_sorted wf i).imp fun {a b} z => Nat.ne_of_lt z) fun j hj => List.mem_range.mpr (tied_lt wf hj)) ?_
      rw [List.length_range]
      exact wf.many12
    refine at_frz (i := 2) rfl (at_ret (ev_frz (Ps := usL (tiedAt m.ties i)) ?_) R.rt)
    have h := ef_call1 (W := W) (env := [.fz (ldP m), .fz (uP i), .fz (lP ((tiedAt m.ties i).map uP)), .no, .no, .no]) (r := rSorted K) (ta := tVar 2) (P1 := lP (((tiedAt m.ties i).map fun n : Nat => (n : Int)).map iP)) (Ps := ((tiedAt m.ties i).map fun n : Nat => (n : Int)).map iP) (ev_is (ev_var rfl) (by rw [List.map_map]; rfl)) (c1_sorted (by rw [List.length_map]; omega) (List.Perm.refl _) (List.pairwise_map.mpr ((tied_sorted wf i).imp fun {a b} z => by omega)))
    rw [List.map_map] at h
    exact h
theorem b_law_weight : Body N_law_weight (t_law_weight K Pr0 w) (pr_law_weight K w) := by
  rintro W svs post D ⟨m, xs, rfl, wf, ok, rfl⟩ R
  show At W _ [.fz (ldP m), .fz (nsT xs), .no, .no, .no, .no, .no]
  have m2 := wf.many12
  let f1 : Int → List Int × Nat → Int := fun w z => w * z.1.getD z.2 0
  have zl : (m.weights.zip xs).length = m.many := by rw [List.length_zip, wf.wt.1, ok.1, Nat.min_self]
  refine q_set ev_c ?_
  refine q_forE (xs := List.range m.many) (f := uP) (fun (pre : List Nat) => [.fz (ldP m), .fz (nsT xs), .fz (iP (((m.weights.zip xs).take pre.length).foldl f1 1)), .no, .no, .no, .no]) (ei_range (ev_dget (ev_var rfl) (k := Sum.inr "many") ev_c rfl) (by omega)) (EnvLe.refl _) (fun B pre p post hz => ⟨_, _, tg_name, ?_⟩) ?_
  · obtain ⟨e1, e2⟩ := range_at hz
    have hx := pic_at ok e2
    have rw1 := tab_row wf.wt e2
    refine at_set (P := iP (((m.weights.zip xs).take pre.length).foldl f1 1 * tab2 m.weights p (xs.getD p 0))) (ev_op (ev_var rfl) (ev_tab wf.wt (ev_dget (ev_var rfl) (k := Sum.inr "weights") ev_c rfl) (ev_var rfl) (ev_ix (Ps := xs.map uP) (ev_var rfl) (ev_var rfl) (atI_getD (d := 0) (by rw [ok.1]; exact e2))) e2 hx) (o_mul (cmul_r (tab_bd wf.wt e2 hx)))) (at_sat ?_)
    refine le_k (le_k (le_i ?_ (le_n (le_k (le_k (le_k le_z))))))
    have hw : p < m.weights.length := by rw [wf.wt.1]; exact e2
    have hxl : p < xs.length := by rw [ok.1]; exact e2
    rw [List.length_append, List.length_singleton, ← e1, List.take_add_one, List.getElem?_eq_getElem (by rw [zl]; exact e2), List.foldl_append, List.getElem_zip]
    show _ = (List.foldl f1 1 (List.take p (m.weights.zip xs))) * (m.weights[p]).getD (xs[p]) 0
    congr 1
    unfold tab2
    rw [List.getD_eq_getElem?_getD (l := m.weights), List.getElem?_eq_getElem hw, List.getD_eq_getElem?_getD (l := xs), List.getElem?_eq_getElem hxl]
    rfl
  · refine q_forE (xs := m.ties) (f := tieP) (fun pre => [.fz (ldP m), .fz (nsT xs), .fz (iP (pre.foldl (fun (w : Int) (t : Tie) => w * tab2 t.t (xs.getD t.a 0) (xs.getD t.b 0)) ((m.weights.zip xs).foldl f1 1))), .no, .no, .no, .no]) (ei_tup (ev_dget (ev_var rfl) (k := Sum.inr "ties") ev_c rfl)) ?_ (fun B pre t post hz => ⟨_, _, tg3 (P1 := uP t.a) (P2 := uP t.b) (P3 := tabP t.t), ?_⟩) (at_ret (ev_var rfl) R.rt)
    · refine le_k (le_k (le_i ?_ (le_k (le_k (le_k (le_k le_z))))))
      rw [List.length_range, ← zl, List.take_length]
      rfl
    · have hm := mem_split2 hz
      have hp := wf_pr3 wf hm
      have tt := wf.tt _ hm
      have ha := pic_at ok hp.1
      have hb := pic_at ok hp.2
      refine at_set (ev_op (ev_var rfl) (ev_tab tt (ev_var rfl) (ev_ix (Ps := xs.map uP) (ev_var rfl) (ev_var rfl) (atI_getD (d := 0) (by rw [ok.1]; exact hp.1))) (ev_ix (Ps := xs.map uP) (ev_var rfl) (ev_var rfl) (atI_getD (d := 0) (by rw [ok.1]; exact hp.2))) ha hb) (o_mul (cmul_r (tab_bd tt ha hb)))) (at_sat ?_)
      exact le_k (le_k (le_i (by rw [List.foldl_append]; rfl) (le_k (le_n (le_n (le_n le_z))))))
theorem b_law_tuples : Body N_law_tuples (t_law_tuples K Pr0 w) (pr_law_tuples K w) := by
  rintro W svs post D ⟨α, g, rows, k, rfl, hk, hr, hz, h12, rfl⟩ R
  show At W _ [.fz (lP (rows.map fun r => lP (r.map g))), .no, .no, .no, .no, .no]
  have k5 : rows ≠ [] → k ≤ 5000 := fun hne => by
    have h1 : 1 ≤ rows.length := List.length_pos_iff.mpr hne
    have : k ^ 1 ≤ k ^ rows.length := Nat.pow_le_pow_right hk h1
    rw [Nat.pow_one] at this
    omega
  have plen : ∀ pre : List (List α), (∃ post, rows = pre ++ post) → (tuplesOf pre).length ≤ 5000 := fun pre ⟨post, hp⟩ => by
    have h1 := tuples_len hk pre.length pre rfl fun r hm => hr r (by rw [hp]; exact List.mem_append_left _ hm)
    have h2 : k ^ pre.length ≤ k ^ rows.length := Nat.pow_le_pow_right hk (by rw [hp, List.length_append]; omega)
    omega
  refine q_own (Ps := [tP []]) (ef_lst1 ev_tup0) (at_frz (i := 1) rfl ?_)
  refine q_forE (xs := rows) (f := fun r => lP (r.map g)) (fun (pre : List (List α)) => [.fz (lP (rows.map fun r => lP (r.map g))), .fz (lP ((tuplesOf pre).map fun f => tP (f.map g))), .no, .no, .no, .no]) (ei_list (ev_var rfl)) (EnvLe.refl _) (fun B pre r post hz2 => ⟨_, _, tg_name, ?_⟩) (at_ret (ev_var rfl) R.rt)
  have hle := plen pre ⟨_, hz2⟩
  have hrk := hr r (mem_split2 hz2)
  have hk5 := k5 (fun e => by rw [e] at hz2; simp at hz2)
  have p12 : pre.length ≤ 12 := by
    have := congrArg List.length hz2
    rw [List.length_append] at this
    omega
  refine q_own ef_lst0 ?_
  refine q_forE (xs := tuplesOf pre) (f := fun f => tP (f.map g)) (fun (pre2 : List (List α)) => [.fz (lP (rows.map fun r => lP (r.map g))), .fz (lP ((tuplesOf pre).map fun f => tP (f.map g))), .fz (lP (r.map g)), .ow (lO ((ext1 r pre2).map fun f => tP (f.map g))), .no, .no]) (ei_list (ev_var rfl)) (EnvLe.refl _) (fun B2 pre2 f post2 hf => ⟨_, _, tg_name, ?_⟩) ?_
  · have hfl := (tuples_each pre.length pre rfl f (mem_split2 hf)).1
    have hex : (ext1 r (pre2 ++ [f])).length ≤ 5000 := by
      have h1 : (ext1 r (tuplesOf pre)).length ≤ 5000 := by
        rw [← tuples_snoc]
        exact plen (pre ++ [r]) ⟨post, by rw [hz2, List.append_assoc]; rfl⟩
      rw [ext_len] at h1 ⊢
      have h2 : (pre2 ++ [f]).length ≤ (tuplesOf pre).length := by
        rw [hf]
        simp only [List.length_append, List.length_cons, List.length_nil]
        omega
      exact Nat.le_trans (Nat.mul_le_mul_right _ h2) h1
    rw [ext_snoc, List.length_append, List.length_map] at hex
    refine at_ext (Qs := (r.map fun x => f ++ [x]).map fun f => tP (f.map g)) rfl ?_ (by rw [List.length_map, List.length_map, List.length_map]; omega) (at_sat (le_k (le_k (le_k (le_o (by rw [ext_snoc, List.map_append]) (le_n (le_k le_z)))))))
    rw [List.map_map]
    refine ef_lcN (xs := r) (f := g) (ei_list (ev_var rfl)) (by omega) (by decide) fun x hx => ev_is (ev_op (ev_var rfl) (ev_tup1 (P1 := g x) (ev_var rfl)) (o_catT (by rw [List.length_map, hfl]; show pre.length + 1 ≤ 1000000; omega))) ?_
    show tP (f.map g ++ [g x]) = tP ((f ++ [x]).map g)
    rw [List.map_append]
    rfl
  · refine at_frz (i := 3) rfl (at_set (ev_var rfl) (at_sat (le_k (le_f ?_ (le_n (le_n (le_n (le_k le_z))))))))
    rw [tuples_snoc]
theorem below_range {fl : List Bool} {x y : List Nat} (hx : x.length = fl.length) (hy : y.length = fl.length) :
    ((List.range fl.length).all fun k => if fl.getD k false = true then decide (y.getD k 0 ≤ x.getD k 0) else decide (x.getD k 0 ≤ y.getD k 0)) = rowBelow fl x y := by
  rw [Bool.eq_iff_iff]
  unfold rowBelow
  rw [List.all_eq_true, List.all_eq_true]
  constructor
  · intro h z hz
    obtain ⟨k, hk⟩ := List.mem_iff_getElem?.mp hz
    obtain ⟨z1, z23⟩ := List.getElem?_zip_eq_some.mp hk
    obtain ⟨z2, z3⟩ := List.getElem?_zip_eq_some.mp z23
    have hl := (List.getElem?_eq_some_iff.mp z1).1
    have := h k (List.mem_range.mpr hl)
    rw [List.getD_eq_getElem?_getD, List.getD_eq_getElem?_getD, List.getD_eq_getElem?_getD, z1, z2, z3] at this
    exact this
  · intro h k hk
    have hl := List.mem_range.mp hk
    have e1 : fl[k]? = some fl[k] := List.getElem?_eq_getElem hl
    have e2 : x[k]? = some x[k] := List.getElem?_eq_getElem (by omega)
    have e3 : y[k]? = some y[k] := List.getElem?_eq_getElem (by omega)
    have := h (fl[k], x[k], y[k]) (List.mem_of_getElem? (i := k) (List.getElem?_zip_eq_some.mpr ⟨e1, List.getElem?_zip_eq_some.mpr ⟨e2, e3⟩⟩))
    rw [List.getD_eq_getElem?_getD, List.getD_eq_getElem?_getD, List.getD_eq_getElem?_getD, e1, e2, e3]
    exact this
theorem b_law_is_under : Body N_law_is_under (t_law_is_under K Pr0 w) (pr_law_is_under K w) := by
  rintro W svs post D ⟨b, fl, x, y, rfl, hl, hx, hy, rfl⟩ R
  show At W _ [.fz (sq b (bsL fl)), .fz (nsT x), .fz (nsT y), .no]
  rw [← below_range hx hy] at R
  refine at_ret (ev_allN (xs := List.range fl.length) (f := uP) (fun k => if fl.getD k false = true then decide (y.getD k 0 ≤ x.getD k 0) else decide (x.getD k 0 ≤ y.getD k 0)) (ei_rangeI (ev_call1 (ev_var rfl) c1_lenE) (by rw [List.length_map]) (by omega)) (by rw [List.length_range]; omega) fun k hk => ?_) R.rt
  have hk' := List.mem_range.mp hk
  refine ev_if (f := bP) (t_B (ev_op (P3 := bP (fl.getD k false)) (ev_var rfl) (ev_var rfl) (o_ixE (atI_getD hk')))) (fun _ => ev_b (ev_op (ev_ix (Ps := x.map uP) (ev_var rfl) (ev_var rfl) (atI_getD (d := 0) (by omega))) (ev_ix (Ps := y.map uP) (ev_var rfl) (ev_var rfl) (atI_getD (d := 0) (by omega))) o_ge) (decide_eq_decide.mpr (by omega))) fun _ => ev_b (ev_op (ev_ix (Ps := x.map uP) (ev_var rfl) (ev_var rfl) (atI_getD (d := 0) (by omega))) (ev_ix (Ps := y.map uP) (ev_var rfl) (ev_var rfl) (atI_getD (d := 0) (by omega))) o_le) (decide_eq_decide.mpr (by omega))
theorem b_law_ends : Body N_law_ends (t_law_ends K Pr0 w) (pr_law_ends K w) := by
  rintro W svs post D ⟨m, fl, rfl, wf, hl, rfl⟩ R
  show At W _ [.fz (ldP m), .fz (flT fl), .no, .no]
  have m2 := wf.many12
  have l1 := wf.lev1
  refine q_set (P := uP (m.levels - 1)) (ev_i (ev_op (ev_dget (ev_var rfl) (k := Sum.inr "levels") ev_c rfl) ev_c o_sub) (by omega)) ?_
  refine at_ret (ev_tup2 (ev_tupL (ev_frz (Ps := (endLo m.levels fl).map uP) ?_)) (ev_tupL (ev_frz (Ps := (endHi m.levels fl).map uP) ?_))) R.rt
  · unfold endLo
    rw [List.map_map]
    exact ef_lcN (xs := fl) (f := bP) (ei_tup (ev_var rfl)) (by omega) (by decide) fun b hb => ev_if (f := uP) (t_B (ev_var rfl)) (fun _ => ev_var rfl) fun _ => ev_c
  · unfold endHi
    rw [List.map_map]
    exact ef_lcN (xs := fl) (f := bP) (ei_tup (ev_var rfl)) (by omega) (by decide) fun b hb => ev_if (f := uP) (t_B (ev_var rfl)) (fun _ => ev_c) fun _ => ev_var rfl
theorem b_law_packed : Body N_law_packed (t_law_packed K Pr0 w) (pr_law_packed K w) := by
  rintro W svs post D ⟨m, rfl, wf, rfl⟩ R
  show At W _ [.fz (ldP m)]
  exact at_ret (ev_make (K := K) (m := m) (as_cons (ev_dget (ev_var rfl) (k := Sum.inr "many") ev_c rfl) (as_cons (ev_dget (ev_var rfl) (k := Sum.inr "levels") ev_c rfl) (as_cons (ev_dget (ev_var rfl) (k := Sum.inr "weights") ev_c rfl) (as_cons (ev_dget (ev_var rfl) (k := Sum.inr "ties") ev_c rfl) as_nil)))) wf) R.rt
theorem b_law_flag : Body N_law_flag (t_law_flag K Pr0 w) (pr_law_flag K w) := by
  rintro W svs post D ⟨a, b, rfl, rfl⟩ R
  show At W _ [.fz (bP a), .fz (bP b)]
  exact at_ret (ev_andV (a := true) (ev_isiB (ev_var rfl)) fun _ => ev_op (ev_var rfl) (ev_var rfl) o_eqB) R.rt
theorem b_law_rises : Body N_law_rises (t_law_rises K Pr0 w) (pr_law_rises K w) := by
  rintro W svs post D ⟨m, fl, rfl, wf, hl, rfl⟩ R
  show At W _ [.fz (ldP m), .fz (flT fl), .no]
  have m2 := wf.many12
  refine at_ret (ev_allN (xs := List.range m.many) (f := uP) (risesP m fl) (ei_range (ev_dget (ev_var rfl) (k := Sum.inr "many") ev_c rfl) (by omega)) (by rw [List.length_range]; omega) fun i hi => ?_) R.rt
  exact ev_call (ea_cons (ev_var rfl) (ea_cons (ev_var rfl) (ea_cons (ev_var rfl) ea_nil))) ⟨m, true, fl, i, rfl, wf, hl, List.mem_range.mp hi, rfl⟩
end
section
variable {K : PySem.W.Frag} {Pr0 : Program} {w : World}
theorem zip_snoc {α β : Type} {xs : List α} {ys : List β} {t : α} {y : β} (h : ys[xs.length]? = some y) : (xs ++ [t]).zip ys = xs.zip ys ++ [(t, y)] := by
  induction xs generalizing ys with
  | nil =>
    cases ys with
    | nil => cases h
    | cons z ys =>
      have e : z = y := Option.some.inj h
      subst e
      rfl
  | cons x xs ih =>
    cases ys with
    | nil => simp at h
    | cons z ys =>
      rw [List.cons_append, List.zip_cons_cons, List.zip_cons_cons, ih (ys := ys) (by simpa using h)]
      rfl
theorem ties_app (a b : List Tie) (i : Nat) : tiesAt (a ++ b) i = tiesAt a i ++ tiesAt b i := List.filter_append ..
theorem ties_hit {t : Tie} {i : Nat} (h : t.a = i ∨ t.b = i) (ts : List Tie) : tiesAt (t :: ts) i = t :: tiesAt ts i := List.filter_cons_of_pos (by rcases h with e | e <;> simp [e])
theorem ties_miss {t : Tie} {i : Nat} (h1 : ¬ t.a = i) (h2 : ¬ t.b = i) (ts : List Tie) : tiesAt (t :: ts) i = tiesAt ts i := List.filter_cons_of_neg (by simp [h1, h2])
def foldAt (m : Mdl) (i v : Nat) (ys : List Nat) (ts : List Tie) : Int := ((tiesAt ts i).zip ys).foldl (fun (w : Int) (x : Tie × Nat) => w * fac i x.1 v x.2) (tab2 m.weights i v)
theorem fold_hit {m : Mdl} {i v : Nat} {ys : List Nat} {pre : List Tie} {t : Tie} {y : Nat} (h : t.a = i ∨ t.b = i) (hy : ys[(tiesAt pre i).length]? = some y) : foldAt m i v ys (pre ++ [t]) = foldAt m i v ys pre * fac i t v y := by
  unfold foldAt
  rw [ties_app, ties_hit h []]
  show (((tiesAt pre i ++ [t]).zip ys).foldl _ _) = _
  rw [zip_snoc hy, List.foldl_append]
  rfl
theorem fold_miss {m : Mdl} {i v : Nat} {ys : List Nat} {pre : List Tie} {t : Tie} (h1 : ¬ t.a = i) (h2 : ¬ t.b = i) : foldAt m i v ys (pre ++ [t]) = foldAt m i v ys pre := by
  unfold foldAt
  rw [ties_app, ties_miss h1 h2 []]
  show (((tiesAt pre i ++ []).zip ys).foldl _ _) = _
  rw [List.append_nil]
theorem seen_look {m : Mdl} (wf : WF m) {i : Nat} {ys : List Nat} {pre post : List Tie} {t : Tie} (hz : m.ties = pre ++ t :: post) (h : t.a = i ∨ t.b = i) {y : Nat} (hy : ys[(tiesAt pre i).length]? = some y) :
    lookK ((((tiedAt m.ties i).map fun n : Nat => (n : Int)).map Sum.inl : List Key).zip (usL ys)) (Sum.inl ((otherOf i t : Nat) : Int)) = some (uP y) := by
  refine look_zip (k := (tiesAt pre i).length) ?_ ?_ (by unfold usL; rw [List.getElem?_map, hy]; rfl)
  · rw [List.map_map]
    exact List.pairwise_map.mpr ((tied_sorted wf i).imp fun {a b} z e => by
      have : (a : Int) = (b : Int) := Sum.inl.inj e
      omega)
  · rw [List.getElem?_map, List.getElem?_map]
    unfold tiedAt
    rw [hz, ties_app, ties_hit h post, List.map_append, List.map_cons, List.getElem?_append_right (by rw [List.length_map]; exact Nat.le_refl _), List.length_map, Nat.sub_self]
    rfl
theorem b_law_local : Body N_law_local (t_law_local K Pr0 w) (pr_law_local K w) := by
  rintro W svs post D ⟨m, i, ys, rfl, wf, hi, hl, hy, rfl⟩ R
  show At W _ [.fz (ldP m), .fz (uP i), .fz (seenP m i ys), .no, .no, .no, .no, .no, .no]
  have l4 := wf.lev4
  refine q_own ef_lst0 ?_
  refine q_forE (xs := List.range m.levels) (f := uP) (fun (pre : List Nat) => [.fz (ldP m), .fz (uP i), .fz (seenP m i ys), .ow (lO (isL (pre.map (localV m i ys)))), .no, .no, .no, .no, .no]) (ei_range (ev_dget (ev_var rfl) (k := Sum.inr "levels") ev_c rfl) (by omega)) (EnvLe.refl _) (fun B pre v post hv => ⟨_, _, tg_name, ?_⟩) ?_
  · obtain ⟨e1, e2⟩ := range_at hv
    refine q_set (P := iP (foldAt m i v ys [])) (ev_is (ev_tab wf.wt (ev_dget (ev_var rfl) (k := Sum.inr "weights") ev_c rfl) (ev_var rfl) (ev_var rfl) hi e2) rfl) ?_
    refine q_forE (xs := m.ties) (f := tieP) (fun (pre2 : List Tie) => [.fz (ldP m), .fz (uP i), .fz (seenP m i ys), .ow (lO (isL (pre.map (localV m i ys)))), .fz (uP v), .fz (iP (foldAt m i v ys pre2)), .no, .no, .no]) (ei_tup (ev_dget (ev_var rfl) (k := Sum.inr "ties") ev_c rfl)) (EnvLe.refl _) (fun B2 pre2 t post2 hz => ⟨_, _, tg3 (P1 := uP t.a) (P2 := uP t.b) (P3 := tabP t.t), ?_⟩) ?_
    · have hm := mem_split2 hz
      have hab := (wf_pr wf hm).1
      have tt := wf.tt _ hm
      have kl : (t.a = i ∨ t.b = i) → ∃ y, ys[(tiesAt pre2 i).length]? = some y ∧ y < m.levels := fun h => by
        have h1 : (tiesAt pre2 i).length < ys.length := by
          rw [hl, hz, ties_app, ties_hit h post2, List.length_append, List.length_cons]
          omega
        exact ⟨ys[(tiesAt pre2 i).length], List.getElem?_eq_getElem h1, hy _ (List.getElem_mem h1)⟩
      refine at_if (C := (· = decide (t.a = i))) (t_testT (ev_op (ev_var rfl) (ev_var rfl) o_eqI) (decide_eq_decide.mpr (by omega))) (fun c => ?_) fun c => ?_
      · have ea := of_decide_eq_true c.symm
        obtain ⟨y, hy1, hy2⟩ := kl (.inl ea)
        have eo : otherOf i t = t.b := by unfold otherOf; rw [if_neg (by omega)]
        have lk := seen_look wf hz (.inl ea) hy1
        rw [eo] at lk
        refine at_set (P := iP (foldAt m i v ys pre2 * tab2 t.t v y)) (ev_op (ev_var rfl) (ev_tab tt (ev_var rfl) (ev_var rfl) (ev_dget (k := Sum.inl (t.b : Int)) (ev_var rfl) (ev_var rfl) lk) e2 hy2) (o_mul (cmul_r (tab_bd tt e2 hy2)))) (at_sat (le_k (le_k (le_k (le_k (le_k (le_i ?_ (le_n (le_n (le_n le_z))))))))))
        rw [fold_hit (.inl ea) hy1]
        unfold fac
        rw [if_pos ea]
      · have ea := of_decide_eq_false c.symm
        refine at_if (C := (· = decide (t.b = i))) (t_testT (ev_op (ev_var rfl) (ev_var rfl) o_eqI) (decide_eq_decide.mpr (by omega))) (fun c => ?_) fun c => ?_
        · have eb := of_decide_eq_true c.symm
          obtain ⟨y, hy1, hy2⟩ := kl (.inr eb)
          have eo : otherOf i t = t.a := by unfold otherOf; rw [if_pos eb]
          have lk := seen_look wf hz (.inr eb) hy1
          rw [eo] at lk
          refine at_set (P := iP (foldAt m i v ys pre2 * tab2 t.t y v)) (ev_op (ev_var rfl) (ev_tab tt (ev_var rfl) (ev_dget (k := Sum.inl (t.a : Int)) (ev_var rfl) (ev_var rfl) lk) (ev_var rfl) hy2 e2) (o_mul (cmul_r (tab_bd tt hy2 e2)))) (at_sat (le_k (le_k (le_k (le_k (le_k (le_i ?_ (le_n (le_n (le_n le_z))))))))))
          rw [fold_hit (.inr eb) hy1]
          unfold fac
          rw [if_neg ea]
        · have eb := of_decide_eq_false c.symm
          exact at_sat (le_k (le_k (le_k (le_k (le_k (le_i (fold_miss ea eb).symm (le_n (le_n (le_n le_z)))))))))
    · refine at_app (P := iP (localV m i ys v)) rfl (ev_is (ev_var rfl) rfl) ?_ (at_sat (le_k (le_k (le_k (le_o ?_ (le_n (le_n (le_k (le_k (le_k le_z))))))))))
      · rw [List.length_map, List.length_map]
        omega
      · unfold isL
        rw [List.map_append, List.map_append]
        rfl
  · exact at_frz (i := 3) rfl (at_ret (ev_var rfl) R.rt)
theorem mem_split3 {α : Type} {xs pre post : List α} {x : α} (h : xs = pre ++ x :: post) : pre = xs.take pre.length ∧ xs[pre.length]? = some x := by
  rw [h]
  exact ⟨by rw [List.take_append_of_le_length (Nat.le_refl _), List.take_length], by rw [List.getElem?_append_right (Nat.le_refl _), Nat.sub_self]; rfl⟩
theorem added_last {l : List Int} (h : l ≠ []) : (addedUp l).getLastD 0 = l.sum := by
  have hl := List.length_pos_iff.mpr h
  unfold addedUp
  rw [show l.length = (l.length - 1) + 1 by omega, List.range_succ, List.map_append]
  show ((_ ++ [(l.take (l.length - 1 + 1)).sum]) : List Int).getLastD 0 = _
  rw [List.getLastD_eq_getLast?, List.getLast?_concat, List.take_of_length_le (by omega)]
  rfl
theorem turned_law {f : Bool} {x y : List Int} {n : Nat} (hx : x.length = n) (hy : y.length = n) (h0 : 1 ≤ n) : turned f (addedUp x) (addedUp y) = (List.range n).all fun k => turned1 f x.sum y.sum ((x.take (k + 1)).sum, (y.take (k + 1)).sum) := by
  have nx : x ≠ [] := fun e => by
    rw [e] at hx
    simp at hx
    omega
  have ny : y ≠ [] := fun e => by
    rw [e] at hy
    simp at hy
    omega
  unfold turned
  rw [added_last nx, added_last ny]
  unfold addedUp
  rw [hx, hy, List.zip_map', List.all_map]
  rfl
def rows2 (m : Mdl) (i n : Nat) : List (List Nat × List Int) := ((allRows m.levels n).map fun ys => (ys, localW m i ys)).filter fun z => decide (0 < z.2.sum)
theorem local_len (m : Mdl) (i : Nat) (ys : List Nat) : (localW m i ys).length = m.levels := by
  unfold localW
  rw [List.length_map, List.length_range]
theorem rows_law {m : Mdl} (l1 : 1 ≤ m.levels) (i n : Nat) : rowsOf m i n = (rows2 m i n).map fun z => (z.1, addedUp z.2) := by
  have hne : ∀ ys, localW m i ys ≠ [] := fun ys e => by
    have := local_len m i ys
    rw [e] at this
    simp at this
    omega
  unfold rowsOf rows2
  rw [List.filter_map, List.filter_map, List.map_map]
  have e : (allRows m.levels n).filter ((fun z : List Nat × List Int => decide (0 < z.2.getLastD 0)) ∘ fun ys => (ys, addedUp (localW m i ys))) = (allRows m.levels n).filter ((fun z : List Nat × List Int => decide (0 < z.2.sum)) ∘ fun ys => (ys, localW m i ys)) := by
    refine List.filter_congr fun ys _ => ?_
    show decide (0 < (addedUp (localW m i ys)).getLastD 0) = decide (0 < (localW m i ys).sum)
    rw [added_last (hne ys)]
  rw [e]
  rfl
def pair2 (f : Bool) (fl : List Bool) (n : Nat) (x y : List Nat × List Int) : Bool := !(rowBelow fl x.1 y.1) || (List.range n).all fun k => turned1 f x.2.sum y.2.sum ((x.2.take (k + 1)).sum, (y.2.take (k + 1)).sum)
theorem rows2_len {m : Mdl} {i n : Nat} {z : List Nat × List Int} (h : z ∈ rows2 m i n) : z.1.length = n ∧ z.2.length = m.levels ∧ (∀ y ∈ z.1, y < m.levels) ∧ z.2 = localW m i z.1 := by
  obtain ⟨ys, hy, e⟩ := List.mem_map.mp (List.mem_filter.mp h).1
  subst e
  obtain ⟨h1, h2⟩ := rows_mem hy
  exact ⟨h1, local_len m i ys, h2, rfl⟩
theorem rises_law {m : Mdl} (l1 : 1 ≤ m.levels) (i : Nat) (f : Bool) (fl : List Bool) : risesAt m i f fl = (rows2 m i fl.length).all fun x => (rows2 m i fl.length).all fun y => pair2 f fl m.levels x y := by
  unfold risesAt
  rw [rows_law l1, List.all_map]
  refine all_congr2 fun x hx => ?_
  show ((rows2 m i fl.length).map _).all _ = _
  rw [List.all_map]
  refine all_congr2 fun y hy => ?_
  show pairOk f fl (x.1, addedUp x.2) (y.1, addedUp y.2) = _
  unfold pairOk pair2
  rw [turned_law (rows2_len hx).2.1 (rows2_len hy).2.1 l1]
theorem sum_take_succ {l : List Int} {k : Nat} (h : k < l.length) : (l.take (k + 1)).sum = (l.take k).sum + l.getD k 0 := by
  rw [List.take_add_one, List.getElem?_eq_getElem h, List.sum_append, List.getD_eq_getElem?_getD, List.getElem?_eq_getElem h]
  simp
theorem sum_small {m : Mdl} (wf : WF m) {i : Nat} (hi : i < m.many) {ys : List Nat} (hy : ∀ y ∈ ys, y < m.levels) : 0 ≤ (localW m i ys).sum ∧ (localW m i ys).sum < 2 ^ 60 := by
  have l4 := wf.lev4
  have h := sum_bd (localW m i ys) (1000 ^ 5) fun x hx => by
    unfold localW at hx
    obtain ⟨u, hu, e⟩ := List.mem_map.mp hx
    subst e
    exact localV_bd wf hi (List.mem_range.mp hu) hy
  refine ⟨h.1, Int.lt_of_le_of_lt h.2 ?_⟩
  have e5 : (1000 : Int) ^ 5 = 1000000000000000 := by decide
  have e60 : (2 : Int) ^ 60 = 1152921504606846976 := by decide
  rw [e5, e60, local_len]
  omega
theorem b_law_rises_at : Body N_law_rises_at (t_law_rises_at K Pr0 w) (pr_law_rises_at K w) := by
  rintro W svs post D ⟨m, b, fl, i, rfl, wf, hl, hi, rfl⟩ R
  show At W _ [.fz (ldP m), .fz (sq b (bsL fl)), .fz (uP i), .no, .no, .no, .no, .no, .no, .no, .no, .no, .no, .no]
  have l4 := wf.lev4
  have l1 := wf.lev1
  have f4 := wf.few i hi
  have m2 := wf.many12
  have lt : (tiedAt m.ties i).length = (tiesAt m.ties i).length := List.length_map ..
  have lf : (flAt fl m.ties i).length = (tiesAt m.ties i).length := by
    unfold flAt
    rw [List.length_map, lt]
  have rl := rows_len l4 (show (tiedAt m.ties i).length ≤ 4 by omega)
  have eR : risesP m fl i = (rows2 m i (tiedAt m.ties i).length).all fun x => (rows2 m i (tiedAt m.ties i).length).all fun y => pair2 (fl.getD i false) (flAt fl m.ties i) m.levels x y := by
    unfold risesP
    rw [rises_law l1, lf, lt]
  rw [eR] at R
  let mk : List Nat → List Nat × List Int := fun ys => (ys, localW m i ys)
  let gd : List Nat × List Int → Bool := fun z => decide (0 < z.2.sum)
  refine q_set (P := lP (usL (tiedAt m.ties i))) (ev_call (ea_cons (ev_var rfl) (ea_cons (ev_var rfl) ea_nil)) ⟨m, i, rfl, wf, rfl⟩) ?_
  refine q_own ef_lst0 ?_
  refine q_forE (xs := allRows m.levels (tiedAt m.ties i).length) (f := nsT) (fun (pre : List (List Nat)) => [.fz (ldP m), .fz (sq b (bsL fl)), .fz (uP i), .fz (lP (usL (tiedAt m.ties i))), .ow (lO (((pre.map mk).filter gd).map rowQ)), .no, .no, .no, .no, .no, .no, .no, .no, .no]) (ei_list (ev_call (ea_cons (P := lP ((List.replicate (tiedAt m.ties i).length (List.range m.levels)).map fun r => lP (r.map uP))) ?_ ea_nil) ⟨Nat, uP, List.replicate (tiedAt m.ties i).length (List.range m.levels), 4, rfl, by decide, fun r hr => ?_, ?_, ?_, rfl⟩)) (EnvLe.refl _) (fun B pre ys post hz => ⟨_, _, tg_name, ?_⟩) ?_
  · rw [← rep_map]
    exact ev_frz (ef_rep (ev_frz (ef_listRg (ev_dget (ev_var rfl) (k := Sum.inr "levels") ev_c rfl) (by omega))) (ev_lenL (ev_var rfl)) (by rw [List.length_map]) (by omega))
  · rw [List.eq_of_mem_replicate hr, List.length_range]
    exact l4
  · rw [List.length_replicate]
    exact Nat.le_trans (Nat.pow_le_pow_right (by decide) (show (tiedAt m.ties i).length ≤ 4 by omega)) (by decide)
  · rw [List.length_replicate]
    omega
  · have hm : ys ∈ allRows m.levels (tiedAt m.ties i).length := mem_split2 hz
    obtain ⟨h1, h2⟩ := rows_mem hm
    have hp : pre.length ≤ 256 := by
      have := congrArg List.length hz
      rw [List.length_append] at this
      have e : (allRows m.levels (tiedAt m.ties i).length).length = (tuplesOf (List.replicate (tiedAt m.ties i).length (List.range m.levels))).length := rfl
      omega
    have nd : ((tiedAt m.ties i).map fun n : Nat => (n : Int)).Nodup := List.pairwise_map.mpr ((tied_sorted wf i).imp fun {a b} z e => by omega)
    refine q_set (P := lP (isL (localW m i ys))) (ev_call (ea_cons (ev_var rfl) (ea_cons (ev_var rfl) (ea_cons (P := seenP m i ys) (ev_dictZip (ks := (tiedAt m.ties i).map fun n : Nat => (n : Int)) (Qs := usL ys) (as_cons (ev_is (ev_var rfl) ?_) (as_cons (ev_var rfl) as_nil)) ?_ ?_ nd) ea_nil))) ⟨m, i, ys, rfl, wf, hi, by omega, h2, rfl⟩) ?_
    · rw [List.map_map]
      rfl
    · rw [List.length_map, List.length_map, h1]
    · rw [List.length_map]
      omega
    · refine at_ifApp (P := rowQ (mk ys)) (b := gd (mk ys)) rfl (t_test (ev_op (ev_call1 (ev_var rfl) c1_sum) ev_c o_gt)) (fun _ => ev_tup2 (ev_var rfl) (ev_var rfl)) ?_ (at_sat ?_)
      · rw [List.length_map]
        refine Nat.le_trans (List.length_filter_le ..) ?_
        rw [List.length_map]
        omega
      · refine le_k (le_k (le_k (le_k (le_o ?_ (le_n (le_n (le_k (le_k (le_k (le_k (le_k (le_k (le_k le_z)))))))))))))
        rw [List.map_append, List.filter_append, List.map_append]
        congr 1
        show _ = (List.filter gd [mk ys]).map rowQ
        cases hg : gd (mk ys) with
        | true => rw [if_pos rfl, List.filter_cons_of_pos hg]; rfl
        | false => rw [if_neg Bool.false_ne_true, List.filter_cons_of_neg (by rw [hg]; exact Bool.false_ne_true)]; rfl
  · have e0 : ((allRows m.levels (tiedAt m.ties i).length).map mk).filter gd = rows2 m i (tiedAt m.ties i).length := rfl
    rw [e0]
    refine at_frz (i := 4) rfl ?_
    refine q_set (P := lP (bsL (flAt fl m.ties i))) (ev_frz ?_) ?_
    · unfold bsL flAt
      rw [List.map_map]
      exact ef_lcN (xs := tiedAt m.ties i) (f := uP) (ei_list (ev_var rfl)) (by omega) (by decide) fun j hj => ev_op (ev_var rfl) (ev_var rfl) (o_ixE (bool_at hl (tied_lt wf hj)))
    · refine q_forAll (xs := rows2 m i (tiedAt m.ties i).length) (f := rowQ) (E := [.fz (ldP m), .fz (sq b (bsL fl)), .fz (uP i), .fz (lP (usL (tiedAt m.ties i))), .fz (lP ((rows2 m i (tiedAt m.ties i).length).map rowQ)), .no, .no, .no, .fz (lP (bsL (flAt fl m.ties i))), .no, .no, .no, .no, .no]) (fun x => (rows2 m i (tiedAt m.ties i).length).all fun y => pair2 (fl.getD i false) (flAt fl m.ties i) m.levels x y) (ei_list (ev_var rfl)) (EnvLe.refl _) (fun B x hx => ⟨_, _, tg2 (P1 := nsT x.1) (P2 := lP (isL x.2)), fun X kX => ?_⟩) fun c => ?_
      · obtain ⟨x1, x2, x3, x4⟩ := rows2_len hx
        have sx := sum_small wf hi x3
        rw [← x4] at sx
        refine at_forAll (xs := rows2 m i (tiedAt m.ties i).length) (f := rowQ) (E := [.fz (ldP m), .fz (sq b (bsL fl)), .fz (uP i), .fz (lP (usL (tiedAt m.ties i))), .fz (lP ((rows2 m i (tiedAt m.ties i).length).map rowQ)), .fz (nsT x.1), .fz (lP (isL x.2)), .no, .fz (lP (bsL (flAt fl m.ties i))), .no, .no, .no, .no, .no]) (fun y => pair2 (fl.getD i false) (flAt fl m.ties i) m.levels x y) (ei_list (ev_var rfl)) (EnvLe.refl _) (fun B2 y hy => ⟨_, _, tg2 (P1 := nsT y.1) (P2 := lP (isL y.2)), fun X2 kX2 => ?_⟩) fun c => ?_
        · obtain ⟨y1, y2, y3, y4⟩ := rows2_len hy
          have sy := sum_small wf hi y3
          rw [← y4] at sy
          refine at_if (C := (· = rowBelow (flAt fl m.ties i) x.1 y.1)) (t_B (ev_call (ea_cons (ev_var rfl) (ea_cons (ev_var rfl) (ea_cons (ev_var rfl) ea_nil))) ⟨false, flAt fl m.ties i, x.1, y.1, rfl, by omega, by omega, by omega, rfl⟩)) (fun c => ?_) fun c => ?_
          · refine at_tgt (D := { D with nx := _, ct := _, bk := _ }) (ev_tup2 ev_c ev_c) tg2 ?_
            let ok : Nat → Bool := fun k => turned1 (fl.getD i false) x.2.sum y.2.sum ((x.2.take (k + 1)).sum, (y.2.take (k + 1)).sum)
            refine at_forAllP (xs := List.range m.levels) (f := uP) ok (fun (pre : List Nat) => [.fz (ldP m), .fz (sq b (bsL fl)), .fz (uP i), .fz (lP (usL (tiedAt m.ties i))), .fz (lP ((rows2 m i (tiedAt m.ties i).length).map rowQ)), .fz (nsT x.1), .fz (lP (isL x.2)), .fz (iP (y.2.take pre.length).sum), .fz (lP (bsL (flAt fl m.ties i))), .fz (nsT y.1), .fz (lP (isL y.2)), .fz (iP (x.2.take pre.length).sum), .no, .no]) (ei_range (ev_dget (ev_var rfl) (k := Sum.inr "levels") ev_c rfl) (by omega)) (EnvLe.refl _) (fun B3 pre k post hk => ⟨_, _, tg_name, fun X3 kX3 => ?_⟩) fun c2 => ?_
            · obtain ⟨k1, k2⟩ := range_at hk
              have ex : (x.2.take k).sum + x.2.getD k 0 = (x.2.take (k + 1)).sum := (sum_take_succ (by omega)).symm
              have ey : (y.2.take k).sum + y.2.getD k 0 = (y.2.take (k + 1)).sum := (sum_take_succ (by omega)).symm
              rw [← k1]
              refine q_par (em_cons (P := iP (x.2.take (k + 1)).sum) (ev_i (ev_op (ev_var rfl) (ev_ixL (Ps := x.2.map iP) (ev_var rfl) (ev_var rfl) (atI_getD (d := 0) (by omega))) o_add) ex) (em_cons (P := iP (y.2.take (k + 1)).sum) (ev_i (ev_op (ev_var rfl) (ev_ixL (Ps := y.2.map iP) (ev_var rfl) (ev_var rfl) (atI_getD (d := 0) (by omega))) o_add) ey) em_nil)) ?_
              refine q_set (P := iP ((x.2.take (k + 1)).sum * y.2.sum - (y.2.take (k + 1)).sum * x.2.sum)) (ev_op (ev_op (ev_var rfl) (ev_call1 (ev_var rfl) c1_sum) (o_mul (.inr (by omega)))) (ev_op (ev_var rfl) (ev_call1 (ev_var rfl) c1_sum) (o_mul (.inr (by omega)))) o_sub) ?_
              have hfi : ∀ {W' : Wd} {env : List Sv}, env[1]? = some (.fz (sq b (bsL fl))) → env[2]? = some (.fz (uP i)) → EvP W' (tOp (rIx K) (tVar 1) (tVar 2)) env (bP (fl.getD i false)) := fun e1 e2 => ev_op (ev_var e1) (ev_var e2) (o_ixE (bool_at hl hi))
              refine at_if (C := (· = !(ok k))) (t_is (t_or (t_and (t_test (ev_op (ev_var rfl) ev_c o_gt)) fun _ => t_B (hfi rfl rfl)) fun _ => t_and (t_test (ev_op (ev_var rfl) ev_c o_lt)) fun _ => t_not (t_B (hfi rfl rfl))) ?_) (fun c3 => ?_) fun c3 => ?_
              · show _ = !(turned1 (fl.getD i false) x.2.sum y.2.sum ((x.2.take (k + 1)).sum, (y.2.take (k + 1)).sum))
                unfold turned1
                rw [Bool.not_not]
                cases fl.getD i false with
                | true => rw [if_pos rfl, Bool.and_true, Bool.not_true, Bool.and_false, Bool.or_false]
                | false => rw [if_neg Bool.false_ne_true, Bool.and_false, Bool.false_or, Bool.not_false, Bool.and_true]
              · have e1 : ok k = false := by
                  cases h : ok k with
                  | false => rfl
                  | true => rw [h] at c3; cases c3
                have e2 : pair2 (fl.getD i false) (flAt fl m.ties i) m.levels x y = false := by
                  unfold pair2
                  rw [← c, all_false (List.mem_range.mpr k2) e1]
                  rfl
                have e3 := all_false hx (ok := fun x => (rows2 m i (tiedAt m.ties i).length).all fun y => pair2 (fl.getD i false) (flAt fl m.ties i) m.levels x y) (all_false hy e2)
                exact at_ret ev_c fun v F H g q => R.rt v F H g (by rw [e3]; exact q)
              · have e1 : ok k = true := by
                  cases h : ok k with
                  | true => rfl
                  | false => rw [h] at c3; cases c3
                refine at_le (le_k (le_k (le_k (le_k (le_k (le_k (le_k (le_i ?_ (le_k (le_k (le_k (le_i ?_ (le_n (le_n le_z)))))))))))))) (kX3 e1)
                · rw [List.length_append, ← k1]; rfl
                · rw [List.length_append, ← k1]; rfl
            · have e1 : pair2 (fl.getD i false) (flAt fl m.ties i) m.levels x y = true := by
                unfold pair2
                rw [← c]
                show (false || (List.range m.levels).all ok) = true
                rw [c2]
                rfl
              exact at_le (by repeat (first | exact le_z | apply le_k | apply le_n)) (kX2 e1)
          · have e1 : pair2 (fl.getD i false) (flAt fl m.ties i) m.levels x y = true := by
              unfold pair2
              rw [← c]
              rfl
            exact at_le (by repeat (first | exact le_z | apply le_k | apply le_n)) (kX2 e1)
        · exact at_le (by repeat (first | exact le_z | apply le_k | apply le_n)) (kX c)
      · exact at_ret ev_c fun v F H g q => R.rt v F H g (by rw [c]; exact q)
theorem b_law_flips_for : Body N_law_flips_for (t_law_flips_for K Pr0 w) (pr_law_flips_for K w) := by
  rintro W svs post D ⟨m, rfl, wf, rfl⟩ R
  show At W _ [.fz (ldP m), .no, .no]
  have m2 := wf.many12
  refine q_for (T := fun i e => EnvLe e [.fz (ldP m), .no, .no] ∧ ∀ x ∈ (allFlips m.many).take i, goodF m x = false) (Ps := (allFlips m.many).map flT) (ei_list (ev_call (ea_cons (P := lP ((List.replicate m.many [false, true]).map fun r => lP (r.map bP))) ?_ ea_nil) ⟨Bool, bP, List.replicate m.many [false, true], 2, rfl, by decide, fun r hr => ?_, ?_, ?_, rfl⟩)) ⟨EnvLe.refl _, fun x hx => by simp at hx⟩ (fun B i Q env' hQ ⟨hT, hA⟩ => ?_) fun env' ⟨hT, hA⟩ => ?_
  · rw [← rep_map]
    exact ev_frz (ef_rep (ev_frz (ef_lst2 ev_c ev_c)) (ev_dget (ev_var rfl) (k := Sum.inr "many") ev_c rfl) rfl (by omega))
  · rw [List.eq_of_mem_replicate hr]
    exact Nat.le_refl 2
  · rw [List.length_replicate]
    exact Nat.le_trans (Nat.pow_le_pow_right (by decide) m2) (by decide)
  · rw [List.length_replicate]
    exact m2
  · rw [List.getElem?_map] at hQ
    cases hz : (allFlips m.many)[i]? with
    | none =>
      rw [hz] at hQ
      cases hQ
    | some fl =>
      rw [hz] at hQ
      have e3 : flT fl = Q := Option.some.inj hQ
      subst e3
      have hl : fl.length = m.many := (tuples_each m.many _ (by simp) fl (List.mem_of_getElem? hz)).1
      obtain ⟨o1, o2⟩ := end_ok wf hl
      refine ⟨_, _, fun σ F H v e sl q Q' k => tg_name σ F H v e (sl.le hT) q Q' k, ?_⟩
      refine at_if (C := (· = goodF m fl)) (t_is (t_and (a := endsFit m fl) (b := risesM m fl) (t_B (ev_b (ev_allN (xs := [endLo m.levels fl, endHi m.levels fl]) (f := nsT) (fun p => decide (0 < weightM m p)) (ei_tup (ev_call (ea_cons (ev_var rfl) (ea_cons (ev_var rfl) ea_nil)) ⟨m, fl, rfl, wf, hl, rfl⟩)) (show 2 ≤ 1000000 by decide) fun p hp => ?_) ?_)) fun _ => t_B (ev_call (ea_cons (ev_var rfl) (ea_cons (ev_var rfl) ea_nil)) ⟨m, fl, rfl, wf, hl, rfl⟩)) rfl) (fun c => ?_) fun c => ?_
      · have hp' : PicOk m p := by
          rcases List.mem_cons.mp hp with e | e
          · rw [e]; exact o1
          · rw [List.mem_singleton.mp e]; exact o2
        exact ev_op (ev_call (ea_cons (ev_var rfl) (ea_cons (ev_var rfl) ea_nil)) ⟨m, p, rfl, wf, hp', rfl⟩) ev_c o_gt
      · show (decide _ && (decide _ && true)) = _
        rw [Bool.and_true]
        rfl
      · have e : flipsFor m = some fl := by
          have h1 : allFlips m.many = (allFlips m.many).take i ++ fl :: (allFlips m.many).drop (i + 1) := by
            have hlt := (List.getElem?_eq_some_iff.mp hz).1
            have e5 : (allFlips m.many)[i] = fl := (List.getElem?_eq_some_iff.mp hz).2
            rw [← e5, ← List.drop_eq_getElem_cons hlt, List.take_append_drop]
          unfold flipsFor
          rw [h1, find_none hA]
          exact List.find?_cons_of_pos c.symm
        exact at_ret (ev_var rfl) fun v F H g q => R.rt v F H g (by rw [e]; exact q)
      · refine at_sat ⟨by repeat (first | exact le_z | apply le_k | apply le_n), fun x hx => ?_⟩
        rw [List.take_add_one, hz] at hx
        rcases List.mem_append.mp hx with h | h
        · exact hA x h
        · rw [List.mem_singleton.mp (show x ∈ [fl] from h)]
          exact c.symm
  · have e : flipsFor m = none := by
      rw [List.length_map, List.take_length] at hA
      exact List.find?_eq_none.mpr fun x hx => by rw [hA x hx]; exact Bool.false_ne_true
    exact at_le hT (at_ret ev_c fun v F H g q => R.rt v F H g (by rw [e]; exact q))
end
/-! ### two values: flips by hand -/
def tb3 (a b d : Int) : Tab := [[a, b], [b, d]]
abbrev bm (n : Nat) (c : Int) (ps : List Pr) (a b d : Int) : Mdl := evenM n 2 [1, c] ps (tb3 a b d)
def pw (a b d : Int) (v : Nat) : List Nat → Int
  | [] => 1
  | y :: ys => tab2 (tb3 a b d) v y * pw a b d v ys
theorem tb3_sym {a b d : Int} {x y : Nat} (hx : x < 2) (hy : y < 2) : tab2 (tb3 a b d) x y = tab2 (tb3 a b d) y x := by
  rcases Nat.lt_or_ge x 1 with h | h
  · have e : x = 0 := by omega
    subst e
    rcases Nat.lt_or_ge y 1 with g | g
    · have e : y = 0 := by omega
      subst e; rfl
    · have e : y = 1 := by omega
      subst e; rfl
  · have e : x = 1 := by omega
    subst e
    rcases Nat.lt_or_ge y 1 with g | g
    · have e : y = 0 := by omega
      subst e; rfl
    · have e : y = 1 := by omega
      subst e; rfl
theorem fold_pw {a b d : Int} {i v : Nat} (hv : v < 2) : ∀ (ts : List Tie) (ys : List Nat) (w0 : Int), (∀ t ∈ ts, t.t = tb3 a b d) → ys.length = ts.length → (∀ y ∈ ys, y < 2) → (ts.zip ys).foldl (fun (w : Int) (x : Tie × Nat) => w * fac i x.1 v x.2) w0 = w0 * pw a b d v ys
  | [], [], w0, _, _, _ => (Int.mul_one w0).symm
  | [], _ :: _, _, _, h, _ => nomatch h
  | _ :: _, [], _, _, h, _ => nomatch h
  | t :: ts, y :: ys, w0, ht, hl, hy => by
    rw [List.zip_cons_cons, List.foldl_cons, fold_pw hv ts ys _ (fun u hu => ht u (List.mem_cons_of_mem _ hu)) (by simpa using hl) fun z hz => hy z (List.mem_cons_of_mem _ hz)]
    have e : fac i t v y = tab2 (tb3 a b d) v y := by
      unfold fac
      rw [ht t List.mem_cons_self]
      split
      · rfl
      · exact tb3_sym (hy y List.mem_cons_self) hv
    show w0 * fac i t v y * _ = w0 * (tab2 (tb3 a b d) v y * pw a b d v ys)
    rw [e, Int.mul_assoc]
theorem local_bm {n i v : Nat} {c a b d : Int} {ps : List Pr} {ys : List Nat} (hi : i < n) (hv : v < 2) (hl : ys.length = (tiesAt (bm n c ps a b d).ties i).length) (hy : ∀ y ∈ ys, y < 2) : localV (bm n c ps a b d) i ys v = (if v = 0 then 1 else c) * pw a b d v ys := by
  unfold localV
  rw [fold_pw (a := a) (b := b) (d := d) hv _ _ _ (fun t ht => ?_) hl hy]
  · congr 1
    show ((List.replicate n [1, c]).getD i []).getD v 0 = _
    rw [show (List.replicate n [1, c]).getD i [] = [1, c] by rw [List.getD_eq_getElem?_getD, List.getElem?_replicate, if_pos hi]; rfl]
    rcases Nat.lt_or_ge v 1 with h | h
    · have e : v = 0 := by omega
      subst e; rfl
    · have e : v = 1 := by omega
      subst e; rfl
  · obtain ⟨p, _, e⟩ := List.mem_map.mp (List.mem_filter.mp ht).1
    rw [← e]
theorem localW_bm {n i : Nat} {c a b d : Int} {ps : List Pr} {ys : List Nat} (hi : i < n) (hl : ys.length = (tiesAt (bm n c ps a b d).ties i).length) (hy : ∀ y ∈ ys, y < 2) : localW (bm n c ps a b d) i ys = [pw a b d 0 ys, c * pw a b d 1 ys] := by
  unfold localW
  show [localV (bm n c ps a b d) i ys 0, localV (bm n c ps a b d) i ys 1] = _
  rw [local_bm hi (by decide) hl hy, local_bm hi (by decide) hl hy, if_pos rfl, if_neg (by decide), Int.one_mul]
theorem pair_two {f : Bool} {fl : List Bool} {x y : List Nat} {x0 x1 y0 y1 : Int} : pair2 f fl 2 (x, [x0, x1]) (y, [y0, y1]) = true ↔ (rowBelow fl x y = true → if f = true then x0 * y1 ≤ y0 * x1 else y0 * x1 ≤ x0 * y1) := by
  have e0 : ∀ k : Nat → Bool, (List.range 2).all k = (k 0 && (k 1 && true)) := fun _ => rfl
  unfold pair2
  rw [e0]
  have s1 : (([x0, x1] : List Int).take (0 + 1)).sum = x0 := by simp
  have s2 : (([y0, y1] : List Int).take (0 + 1)).sum = y0 := by simp
  have s3 : (([x0, x1] : List Int).take (1 + 1)).sum = x0 + x1 := by simp
  have s4 : (([y0, y1] : List Int).take (1 + 1)).sum = y0 + y1 := by simp
  have s5 : (([x0, x1] : List Int)).sum = x0 + x1 := by simp
  have s6 : (([y0, y1] : List Int)).sum = y0 + y1 := by simp
  show (!(rowBelow fl x y) || (turned1 f ([x0, x1] : List Int).sum ([y0, y1] : List Int).sum ((([x0, x1] : List Int).take (0 + 1)).sum, (([y0, y1] : List Int).take (0 + 1)).sum) && (turned1 f ([x0, x1] : List Int).sum ([y0, y1] : List Int).sum ((([x0, x1] : List Int).take (1 + 1)).sum, (([y0, y1] : List Int).take (1 + 1)).sum) && true))) = true ↔ _
  rw [s1, s2, s3, s4, s5, s6]
  unfold turned1
  have h1 : x0 * (y0 + y1) - y0 * (x0 + x1) = x0 * y1 - y0 * x1 := by
    rw [Int.mul_add, Int.mul_add, Int.mul_comm y0 x0]
    omega
  have h2 : (x0 + x1) * (y0 + y1) - (y0 + y1) * (x0 + x1) = 0 := by
    rw [Int.mul_comm (y0 + y1)]
    omega
  simp only [h1, h2]
  cases rowBelow fl x y with
  | false => simp
  | true => cases f with
    | false => simp
    | true => simp
theorem pw_nn {a b d : Int} (ha : 0 ≤ a) (hb : 0 ≤ b) (hd : 0 ≤ d) {v : Nat} (hv : v < 2) : ∀ {ys : List Nat}, (∀ y ∈ ys, y < 2) → 0 ≤ pw a b d v ys
  | [], _ => by show (0 : Int) ≤ 1; decide
  | y :: ys, h => by
    refine Int.mul_nonneg ?_ (pw_nn ha hb hd hv fun z hz => h z (List.mem_cons_of_mem _ hz))
    have hy := h y List.mem_cons_self
    have c1 : v = 0 ∨ v = 1 := by omega
    have c2 : y = 0 ∨ y = 1 := by omega
    rcases c1 with e | e <;> rcases c2 with g | g <;> subst e <;> subst g <;> assumption
/-- what an edge must be -/
def edgeOk (a b d : Int) (f g : Bool) : Prop := if f = g then b * b ≤ a * d else a * d ≤ b * b
theorem rb_cons {f : Bool} {fl : List Bool} {x y : Nat} {xs ys : List Nat} : rowBelow (f :: fl) (x :: xs) (y :: ys) = ((if f = true then decide (y ≤ x) else decide (x ≤ y)) && rowBelow fl xs ys) := rfl
theorem mul_le2 {p q r s : Int} (h1 : p ≤ q) (h2 : r ≤ s) (hr : 0 ≤ r) (hq : 0 ≤ q) : p * r ≤ q * s := Int.le_trans (Int.mul_le_mul_of_nonneg_right h1 hr) (Int.mul_le_mul_of_nonneg_left h2 hq)
theorem pw_pos {a b d : Int} (ha : 0 ≤ a) (hb : 0 ≤ b) (hd : 0 ≤ d) {f : Bool} : ∀ {fl : List Bool} {xs ys : List Nat}, (∀ g ∈ fl, edgeOk a b d f g) → xs.length = fl.length → ys.length = fl.length → (∀ x ∈ xs, x < 2) → (∀ y ∈ ys, y < 2) → rowBelow fl xs ys = true → if f = true then pw a b d 0 xs * pw a b d 1 ys ≤ pw a b d 0 ys * pw a b d 1 xs else pw a b d 0 ys * pw a b d 1 xs ≤ pw a b d 0 xs * pw a b d 1 ys
  | [], [], [], _, _, _, _, _, _ => by split <;> exact Int.le_refl _
  | [], _ :: _, _, _, h, _, _, _, _ => nomatch h
  | [], [], _ :: _, _, _, h, _, _, _ => nomatch h
  | _ :: _, [], _, _, h, _, _, _, _ => nomatch h
  | _ :: _, _ :: _, [], _, _, h, _, _, _ => nomatch h
  | g :: fl, x :: xs, y :: ys, he, hx, hy, bx, byy, hb2 => by
    rw [rb_cons, Bool.and_eq_true] at hb2
    have ih := pw_pos ha hb hd (f := f) (fl := fl) (xs := xs) (ys := ys) (fun k hk => he k (List.mem_cons_of_mem _ hk)) (by simpa using hx) (by simpa using hy) (fun z hz => bx z (List.mem_cons_of_mem _ hz)) (fun z hz => byy z (List.mem_cons_of_mem _ hz)) hb2.2
    have e := he g List.mem_cons_self
    have nx0 := pw_nn ha hb hd (v := 0) (by decide) fun z hz => bx z (List.mem_cons_of_mem _ hz)
    have nx1 := pw_nn ha hb hd (v := 1) (by decide) fun z hz => bx z (List.mem_cons_of_mem _ hz)
    have ny0 := pw_nn ha hb hd (v := 0) (by decide) fun z hz => byy z (List.mem_cons_of_mem _ hz)
    have ny1 := pw_nn ha hb hd (v := 1) (by decide) fun z hz => byy z (List.mem_cons_of_mem _ hz)
    have c1 : x = 0 ∨ x = 1 := by have := bx x List.mem_cons_self; omega
    have c2 : y = 0 ∨ y = 1 := by have := byy y List.mem_cons_self; omega
    have n1 := Int.mul_nonneg nx0 ny1
    have n2 := Int.mul_nonneg ny0 nx1
    have bb := Int.mul_nonneg hb hb
    have ad := Int.mul_nonneg ha hd
    have aa := Int.mul_nonneg ha ha
    have dd := Int.mul_nonneg hd hd
    have ab := Int.mul_nonneg ha hb
    have db := Int.mul_nonneg hb hd
    have sh : ∀ p q r s : Int, p * q * (r * s) = (p * r) * (q * s) := fun p q r s => by rw [Int.mul_assoc, Int.mul_assoc, Int.mul_left_comm q r s]
    show if f = true then (tab2 (tb3 a b d) 0 x * pw a b d 0 xs) * (tab2 (tb3 a b d) 1 y * pw a b d 1 ys) ≤ (tab2 (tb3 a b d) 0 y * pw a b d 0 ys) * (tab2 (tb3 a b d) 1 x * pw a b d 1 xs) else (tab2 (tb3 a b d) 0 y * pw a b d 0 ys) * (tab2 (tb3 a b d) 1 x * pw a b d 1 xs) ≤ (tab2 (tb3 a b d) 0 x * pw a b d 0 xs) * (tab2 (tb3 a b d) 1 y * pw a b d 1 ys)
    rw [sh (tab2 (tb3 a b d) 0 x) (pw a b d 0 xs) (tab2 (tb3 a b d) 1 y) (pw a b d 1 ys), sh (tab2 (tb3 a b d) 0 y) (pw a b d 0 ys) (tab2 (tb3 a b d) 1 x) (pw a b d 1 xs)]
    have t00 : tab2 (tb3 a b d) 0 0 = a := rfl
    have t01 : tab2 (tb3 a b d) 0 1 = b := rfl
    have t10 : tab2 (tb3 a b d) 1 0 = b := rfl
    have t11 : tab2 (tb3 a b d) 1 1 = d := rfl
    have h2 := hb2.1
    unfold edgeOk at e
    cases f <;> cases g <;> rcases c1 with e1 | e1 <;> rcases c2 with e2 | e2 <;> subst e1 <;> subst e2 <;> simp only [t00, t01, t10, t11, if_true, if_false, Bool.false_eq_true, reduceCtorEq] at e ih h2 ⊢ <;>
      first
        | exact absurd h2 (by decide)
        | exact mul_le2 (Int.le_refl _) ih (by assumption) (by assumption)
        | exact mul_le2 e ih (by assumption) (by assumption)
        | (rw [Int.mul_comm b a]; exact mul_le2 (Int.le_refl _) ih (by assumption) (by assumption))
        | (rw [Int.mul_comm d b]; exact mul_le2 (Int.le_refl _) ih (by assumption) (by assumption))
theorem rises_pos {n i : Nat} {c a b d : Int} {ps : List Pr} (ha : 0 ≤ a) (hb : 0 ≤ b) (hd : 0 ≤ d) (hc : 0 ≤ c) (hi : i < n) {f : Bool} {fl : List Bool} (hl : fl.length = (tiesAt (bm n c ps a b d).ties i).length) (he : ∀ g ∈ fl, edgeOk a b d f g) : risesAt (bm n c ps a b d) i f fl = true := by
  rw [rises_law (show 1 ≤ 2 by decide)]
  refine List.all_eq_true.mpr fun x hx => List.all_eq_true.mpr fun y hy => ?_
  obtain ⟨x1, x2, x3, x4⟩ := rows2_len hx
  obtain ⟨y1, y2, y3, y4⟩ := rows2_len hy
  have ex : x = (x.1, [pw a b d 0 x.1, c * pw a b d 1 x.1]) := by rw [← localW_bm (ps := ps) hi (by omega) x3, ← x4]
  have ey : y = (y.1, [pw a b d 0 y.1, c * pw a b d 1 y.1]) := by rw [← localW_bm (ps := ps) hi (by omega) y3, ← y4]
  rw [ex, ey]
  refine pair_two.mpr fun hr => ?_
  have := pw_pos ha hb hd (f := f) he x1 y1 x3 y3 hr
  split <;> rename_i hf
  · rw [if_pos hf] at this
    rw [Int.mul_left_comm, Int.mul_left_comm (pw a b d 0 y.1)]
    exact Int.mul_le_mul_of_nonneg_left this hc
  · rw [if_neg hf] at this
    rw [Int.mul_left_comm, Int.mul_left_comm (pw a b d 0 x.1)]
    exact Int.mul_le_mul_of_nonneg_left this hc
theorem pw_mid {a b d : Int} {v y : Nat} {p q : List Nat} : pw a b d v (p ++ y :: q) = tab2 (tb3 a b d) v y * pw a b d v (p ++ q) := by
  induction p with
  | nil => rfl
  | cons z p ih =>
    show tab2 (tb3 a b d) v z * pw a b d v (p ++ y :: q) = tab2 (tb3 a b d) v y * (tab2 (tb3 a b d) v z * pw a b d v (p ++ q))
    rw [ih, Int.mul_left_comm]
theorem pw_zero {a b d : Int} (ha : 0 < a) (hb : 0 < b) {v : Nat} (hv : v < 2) : ∀ {ys : List Nat}, (∀ y ∈ ys, y = 0) → 0 < pw a b d v ys
  | [], _ => by show (0 : Int) < 1; decide
  | y :: ys, h => by
    refine Int.mul_pos ?_ (pw_zero ha hb hv fun z hz => h z (List.mem_cons_of_mem _ hz))
    have hy := h y List.mem_cons_self
    have c1 : v = 0 ∨ v = 1 := by omega
    subst hy
    rcases c1 with e | e <;> subst e <;> assumption
theorem rb_refl {fl : List Bool} : ∀ {x : List Nat}, rowBelow fl x x = true := by
  induction fl with
  | nil => intro x; rfl
  | cons f fl ih =>
    intro x
    cases x with
    | nil => rfl
    | cons y x =>
      rw [rb_cons, ih]
      simp
theorem rb_mid {g : Bool} {f2 : List Bool} {x y : Nat} {q : List Nat} (h : (if g = true then decide (y ≤ x) else decide (x ≤ y)) = true) : ∀ {f1 : List Bool} {p : List Nat}, p.length = f1.length → rowBelow (f1 ++ g :: f2) (p ++ x :: q) (p ++ y :: q) = true
  | [], [], _ => by
    show rowBelow (g :: f2) (x :: q) (y :: q) = true
    rw [rb_cons, h, rb_refl]
    rfl
  | _ :: f1, z :: p, e => by
    show rowBelow (_ :: (f1 ++ g :: f2)) (z :: (p ++ x :: q)) (z :: (p ++ y :: q)) = true
    rw [rb_cons, rb_mid h (by simpa using e)]
    simp
  | [], _ :: _, e => nomatch e
  | _ :: _, [], e => nomatch e
theorem mem_tup {α : Type} {r : List α} : ∀ {k : Nat} {f : List α}, f.length = k → (∀ x ∈ f, x ∈ r) → f ∈ tuplesOf (List.replicate k r)
  | 0, f, h, _ => by
    rw [List.length_eq_zero_iff.mp h]
    exact List.mem_singleton.mpr rfl
  | n + 1, f, h, hm => by
    have hne : f ≠ [] := fun e => by
      rw [e] at h
      cases h
    have hd := mem_tup (r := r) (k := n) (f := f.dropLast) (by rw [List.length_dropLast, h]; rfl) fun x hx => hm x (List.dropLast_subset f hx)
    rw [List.replicate_succ', tuples_snoc]
    exact List.mem_flatMap.mpr ⟨_, hd, List.mem_map.mpr ⟨f.getLast hne, hm _ (List.getLast_mem hne), List.dropLast_concat_getLast hne⟩⟩
theorem rises_neg {n i : Nat} {c a b d : Int} {ps : List Pr} (ha : 0 < a) (hb : 0 < b) (hd : 0 ≤ d) (hc : 0 < c) (hi : i < n) (hlt : a * d < b * b) {f : Bool} {fl : List Bool} (hl : fl.length = (tiesAt (bm n c ps a b d).ties i).length) (hf : f ∈ fl) : risesAt (bm n c ps a b d) i f fl = false := by
  obtain ⟨f1, f2, e⟩ := List.append_of_mem hf
  let p := List.replicate f1.length 0
  let q := List.replicate f2.length 0
  have hz : ∀ y ∈ p ++ q, y = 0 := fun y hy => by
    rcases List.mem_append.mp hy with h | h
    · exact List.eq_of_mem_replicate h
    · exact List.eq_of_mem_replicate h
  have hA := pw_zero (d := d) ha hb (v := 0) (by decide) hz
  have hB := pw_zero (d := d) ha hb (v := 1) (by decide) hz
  have hA := hA
  generalize eA : pw a b d 0 (p ++ q) = A at hA
  generalize eB : pw a b d 1 (p ++ q) = B at hB
  have len : ∀ u : Nat, (p ++ u :: q).length = fl.length := fun u => by
    rw [e, List.length_append, List.length_append, List.length_cons, List.length_cons, List.length_replicate, List.length_replicate]
  have mem : ∀ u : Nat, u < 2 → ∀ y ∈ p ++ u :: q, y < 2 := fun u hu y hy => by
    rcases List.mem_append.mp hy with h | h
    · rw [List.eq_of_mem_replicate h]; decide
    · rcases List.mem_cons.mp h with g | g
      · rw [g]; exact hu
      · rw [List.eq_of_mem_replicate g]; decide
  have mm : ∀ u : Nat, u < 2 → (p ++ u :: q, [pw a b d 0 (p ++ u :: q), c * pw a b d 1 (p ++ u :: q)]) ∈ rows2 (bm n c ps a b d) i fl.length := fun u hu => by
    unfold rows2
    refine List.mem_filter.mpr ⟨List.mem_map.mpr ⟨p ++ u :: q, mem_tup (len u) fun y hy => List.mem_range.mpr (mem u hu y hy), ?_⟩, ?_⟩
    · rw [localW_bm (ps := ps) hi (by rw [len u, hl]) (mem u hu)]
    · refine decide_eq_true ?_
      rw [pw_mid, pw_mid, eA, eB]
      show 0 < (_ + (_ + 0) : Int)
      have k1 : 0 < tab2 (tb3 a b d) 0 u * A := Int.mul_pos (by
        have c1 : u = 0 ∨ u = 1 := by omega
        rcases c1 with e | e <;> subst e <;> assumption) hA
      have k2 : 0 ≤ c * (tab2 (tb3 a b d) 1 u * B) := Int.mul_nonneg (by omega) (Int.mul_nonneg (by
        have c1 : u = 0 ∨ u = 1 := by omega
        rcases c1 with e | e <;> subst e
        · exact Int.le_of_lt hb
        · exact hd) (by omega))
      omega
  rw [rises_law (show 1 ≤ 2 by decide)]
  have key : ∀ x y : Nat, x < 2 → y < 2 → (if f = true then decide (y ≤ x) else decide (x ≤ y)) = true → (pair2 f fl 2 (p ++ x :: q, [pw a b d 0 (p ++ x :: q), c * pw a b d 1 (p ++ x :: q)]) (p ++ y :: q, [pw a b d 0 (p ++ y :: q), c * pw a b d 1 (p ++ y :: q)]) = false) → _ := fun x y hx hy _ h => all_false (ok := fun x => (rows2 (bm n c ps a b d) i fl.length).all fun y => pair2 f fl 2 x y) (mm x hx) (all_false (mm y hy) h)
  have pos : a * d * (c * (A * B)) < b * b * (c * (A * B)) := Int.mul_lt_mul_of_pos_right hlt (Int.mul_pos hc (Int.mul_pos hA hB))
  have t00 : tab2 (tb3 a b d) 0 0 = a := rfl
  have t01 : tab2 (tb3 a b d) 0 1 = b := rfl
  have t10 : tab2 (tb3 a b d) 1 0 = b := rfl
  have t11 : tab2 (tb3 a b d) 1 1 = d := rfl
  have z1 : b * A * (c * (b * B)) = b * b * (c * (A * B)) := by
    rw [Int.mul_left_comm c b B, Int.mul_assoc b A, Int.mul_left_comm A b, Int.mul_left_comm A c, Int.mul_assoc]
  have z2 : a * A * (c * (d * B)) = a * d * (c * (A * B)) := by
    rw [Int.mul_left_comm c d B, Int.mul_assoc a A, Int.mul_left_comm A d, Int.mul_left_comm A c, Int.mul_assoc]
  cases f with
  | false =>
    refine key 0 1 (by decide) (by decide) (by decide) ?_
    refine Bool.eq_false_iff.mpr fun h => ?_
    have := pair_two.mp h (by rw [e]; exact rb_mid (by decide) List.length_replicate)
    rw [if_neg Bool.false_ne_true, pw_mid, pw_mid, pw_mid, pw_mid, eA, eB, t00, t01, t10, t11, z1, z2] at this
    omega
  | true =>
    refine key 1 0 (by decide) (by decide) (by decide) ?_
    refine Bool.eq_false_iff.mpr fun h => ?_
    have := pair_two.mp h (by rw [e]; exact rb_mid (by decide) List.length_replicate)
    rw [if_pos rfl, pw_mid, pw_mid, pw_mid, pw_mid, eA, eB, t00, t01, t10, t11, z1, z2] at this
    omega
theorem tied_mk {ps : List Pr} {T : Tab} {i j : Nat} (h : j ∈ tiedAt (mkTies ps T) i) : (i, j) ∈ ps ∨ (j, i) ∈ ps := by
  obtain ⟨t, ht, e⟩ := List.mem_map.mp h
  obtain ⟨h1, h2⟩ := List.mem_filter.mp ht
  obtain ⟨p, hp, e2⟩ := List.mem_map.mp h1
  subst e2
  have h3 : p.1 = i ∨ p.2 = i := by simpa using h2
  have e4 : (if p.2 = i then p.1 else p.2) = j := e
  by_cases h4 : p.2 = i
  · rw [if_pos h4] at e4
    subst h4 e4
    exact .inr hp
  · rw [if_neg h4] at e4
    rcases h3 with h5 | h5
    · subst h5 e4
      exact .inl hp
    · exact absurd h5 h4
theorem mk_tied {ps : List Pr} {T : Tab} {i j : Nat} (h : (i, j) ∈ ps) : j ∈ tiedAt (mkTies ps T) i := by
  refine List.mem_map.mpr ⟨⟨i, j, T⟩, List.mem_filter.mpr ⟨List.mem_map.mpr ⟨(i, j), h, rfl⟩, by simp⟩, ?_⟩
  show (if j = i then i else j) = j
  split <;> omega
theorem edge_sym {a b d : Int} {f g : Bool} (h : edgeOk a b d f g) : edgeOk a b d g f := by
  unfold edgeOk at h ⊢
  by_cases e : f = g
  · rw [if_pos e] at h
    rw [if_pos e.symm]
    exact h
  · rw [if_neg e] at h
    rw [if_neg fun z => e z.symm]
    exact h
theorem fl_len {fl : List Bool} {ts : List Tie} {i : Nat} : (flAt fl ts i).length = (tiesAt ts i).length := by
  unfold flAt tiedAt
  rw [List.length_map, List.length_map]
theorem riseM_pos {n : Nat} {c a b d : Int} {ps : List Pr} (ha : 0 ≤ a) (hb : 0 ≤ b) (hd : 0 ≤ d) (hc : 0 ≤ c) {fl : List Bool} (he : ∀ p ∈ ps, edgeOk a b d (fl.getD p.1 false) (fl.getD p.2 false)) : risesM (bm n c ps a b d) fl = true := by
  refine List.all_eq_true.mpr fun i hi => ?_
  refine rises_pos ha hb hd hc (List.mem_range.mp hi) fl_len fun g hg => ?_
  obtain ⟨j, hj, e⟩ := List.mem_map.mp hg
  subst e
  rcases tied_mk hj with h | h
  · exact he _ h
  · exact edge_sym (he _ h)
theorem riseM_neg {n : Nat} {c a b d : Int} {ps : List Pr} (ha : 0 < a) (hb : 0 < b) (hd : 0 ≤ d) (hc : 0 < c) (hlt : a * d < b * b) {fl : List Bool} (h : risesM (bm n c ps a b d) fl = true) {i j : Nat} (hi : i < n) (hp : (i, j) ∈ ps) : fl.getD j false = !fl.getD i false := by
  have h1 := List.all_eq_true.mp h i (List.mem_range.mpr hi)
  have h2 : fl.getD i false ≠ fl.getD j false := fun e => by
    have h3 := rises_neg (ps := ps) (f := fl.getD i false) ha hb hd hc hi hlt (fl_len (fl := fl)) (List.mem_map.mpr ⟨j, mk_tied hp, e.symm⟩)
    unfold risesP at h1
    rw [h3] at h1
    cases h1
  revert h2
  cases fl.getD i false <;> cases fl.getD j false <;> decide
theorem fold_mpos {α : Type} {g : α → Int} : ∀ {xs : List α} {w0 : Int}, 0 < w0 → (∀ x ∈ xs, 0 < g x) → 0 < xs.foldl (fun w x => w * g x) w0
  | [], _, h, _ => h
  | x :: xs, w0, h, hx => fold_mpos (xs := xs) (Int.mul_pos h (hx x List.mem_cons_self)) fun y hy => hx y (List.mem_cons_of_mem _ hy)
theorem wt_pos {n : Nat} {c a b d : Int} {ps : List Pr} (hc : 0 < c) {pic : List Nat} (h2 : ∀ x ∈ pic, x < 2) (he : ∀ p ∈ ps, 0 < tab2 (tb3 a b d) (pic.getD p.1 0) (pic.getD p.2 0)) : 0 < weightM (bm n c ps a b d) pic := by
  unfold weightM
  refine fold_mpos (g := fun t : Tie => tab2 t.t (pic.getD t.a 0) (pic.getD t.b 0)) (fold_mpos (g := fun z : List Int × Nat => z.1.getD z.2 0) (by decide) fun z hz => ?_) fun t ht => ?_
  · have h1 : z.1 = [1, c] := List.eq_of_mem_replicate (List.of_mem_zip hz).1
    have h3 := h2 _ (List.of_mem_zip hz).2
    rw [h1]
    have c1 : z.2 = 0 ∨ z.2 = 1 := by omega
    rcases c1 with e | e <;> rw [e]
    · show (0 : Int) < 1; decide
    · exact hc
  · obtain ⟨p, hp, e⟩ := List.mem_map.mp ht
    subst e
    exact he p hp
theorem ends_pos {n : Nat} {c a b d : Int} {ps : List Pr} (hc : 0 < c) {fl : List Bool} (hl : fl.length = n) (hp : ∀ p ∈ ps, p.1 < n ∧ p.2 < n) (he : ∀ p ∈ ps, if fl.getD p.1 false = fl.getD p.2 false then 0 < a ∧ 0 < d else 0 < b) : endsFit (bm n c ps a b d) fl = true := by
  have gd : ∀ (g : Bool → Nat) (i : Nat), i < n → (fl.map g).getD i 0 = g (fl.getD i false) := fun g i hi => by
    rw [List.getD_eq_getElem?_getD, List.getD_eq_getElem?_getD, List.getElem?_map, List.getElem?_eq_getElem (by omega)]
    rfl
  unfold endsFit
  rw [Bool.and_eq_true]
  refine ⟨decide_eq_true (wt_pos hc (fun x hx => ?_) fun p hq => ?_), decide_eq_true (wt_pos hc (fun x hx => ?_) fun p hq => ?_)⟩
  · obtain ⟨f, _, e⟩ := List.mem_map.mp hx
    rw [← e]
    show (if f = true then 1 else 0) < 2
    split <;> decide
  · have h1 := hp p hq
    have h2 := he p hq
    unfold endLo
    rw [gd _ _ h1.1, gd _ _ h1.2]
    revert h2
    cases fl.getD p.1 false <;> cases fl.getD p.2 false <;> intro h2
    · exact (show 0 < a ∧ 0 < d from h2).1
    · exact (show 0 < b from h2)
    · exact (show 0 < b from h2)
    · exact (show 0 < a ∧ 0 < d from h2).2
  · obtain ⟨f, _, e⟩ := List.mem_map.mp hx
    rw [← e]
    show (if f = true then 0 else 1) < 2
    split <;> decide
  · have h1 := hp p hq
    have h2 := he p hq
    unfold endHi
    rw [gd _ _ h1.1, gd _ _ h1.2]
    revert h2
    cases fl.getD p.1 false <;> cases fl.getD p.2 false <;> intro h2
    · exact (show 0 < a ∧ 0 < d from h2).2
    · exact (show 0 < b from h2)
    · exact (show 0 < b from h2)
    · exact (show 0 < a ∧ 0 < d from h2).1
theorem flips_zero (n : Nat) : ∃ r, allFlips n = List.replicate n false :: r := by
  induction n with
  | zero => exact ⟨[], rfl⟩
  | succ n ih =>
    obtain ⟨r, e⟩ := ih
    exact ⟨r.map (false :: ·) ++ (allFlips n).map (true :: ·), by rw [allFlips_succ, e]; rfl⟩
theorem hand_first {m : Mdl} (h : goodF m (List.replicate m.many false) = true) : flipsFor m = some (List.replicate m.many false) := by
  obtain ⟨r, e⟩ := flips_zero m.many
  unfold flipsFor
  rw [e]
  exact List.find?_cons_of_pos h
theorem rep_getD {n i : Nat} : (List.replicate n false).getD i false = false := by
  rw [List.getD_eq_getElem?_getD, List.getElem?_replicate]
  split <;> rfl
theorem hand_zero {n : Nat} {c a b d : Int} {ps : List Pr} (ha : 0 < a) (hb : 0 < b) (hd : 0 < d) (hc : 0 < c) (hp : ∀ p ∈ ps, p.1 < n ∧ p.2 < n) (hle : b * b ≤ a * d) : flipsFor (bm n c ps a b d) = some (List.replicate n false) := by
  refine hand_first (m := bm n c ps a b d) ?_
  show goodF (bm n c ps a b d) (List.replicate n false) = true
  unfold goodF
  rw [Bool.and_eq_true]
  refine ⟨ends_pos hc List.length_replicate hp fun p _ => ?_, riseM_pos (by omega) (by omega) (by omega) (by omega) fun p _ => ?_⟩
  · rw [rep_getD, rep_getD, if_pos rfl]
    exact ⟨ha, hd⟩
  · rw [rep_getD, rep_getD]
    unfold edgeOk
    rw [if_pos rfl]
    exact hle
theorem hand_sides {n : Nat} {c a b d : Int} {ps : List Pr} {s : List Bool} (n1 : 1 ≤ n) (ha : 0 < a) (hb : 0 < b) (hd : 0 ≤ d) (hc : 0 < c) (hlt : a * d < b * b) (hp : ∀ p ∈ ps, p.1 < n ∧ p.2 < n) (hl : s.length = n) (s0 : s.getD 0 true = false) (alt : ∀ p ∈ ps, s.getD p.2 false = !s.getD p.1 false) (con : ∀ i, 1 ≤ i → i < n → ∃ j, j < i ∧ (j, i) ∈ ps) : flipsFor (bm n c ps a b d) = some s := by
  have neq : ∀ p ∈ ps, s.getD p.1 false ≠ s.getD p.2 false := fun p hq e => by
    have := alt p hq
    rw [← e] at this
    revert this
    cases s.getD p.1 false <;> decide
  have gs : goodF (bm n c ps a b d) s = true := by
    unfold goodF
    rw [Bool.and_eq_true]
    refine ⟨ends_pos hc hl hp fun p hq => ?_, riseM_pos (by omega) (by omega) hd (by omega) fun p hq => ?_⟩
    · rw [if_neg (neq p hq)]
      exact hb
    · unfold edgeOk
      rw [if_neg (neq p hq)]
      omega
  obtain ⟨k, e⟩ : ∃ k, n = k + 1 := ⟨n - 1, by omega⟩
  obtain ⟨s', es⟩ : ∃ s', s = false :: s' := by
    cases s with
    | nil =>
      rw [e] at hl
      cases hl
    | cons x s' => exact ⟨s', by rw [show x = false from s0]⟩
  have ms : s ∈ (allFlips k).map (false :: ·) := by
    rw [es]
    refine List.mem_map.mpr ⟨s', mem_allFlips k s' ?_, rfl⟩
    rw [es, e] at hl
    simpa using hl
  have uni : ∀ f ∈ (allFlips k).map (false :: ·), goodF (bm n c ps a b d) f = true → f = s := fun f hf hg => by
    obtain ⟨f', hf', e1⟩ := List.mem_map.mp hf
    have lf : f.length = n := by
      rw [← e1, List.length_cons, flips_each hf', e]
    unfold goodF at hg
    rw [Bool.and_eq_true] at hg
    have key : ∀ i, i < n → f.getD i false = s.getD i false := fun i => by
      induction i using Nat.strongRecOn with
      | _ i ih =>
        intro hi
        rcases Nat.eq_zero_or_pos i with h0 | h0
        · subst h0
          rw [← e1, es]
          rfl
        · obtain ⟨j, hj, hm⟩ := con i h0 hi
          rw [riseM_neg ha hb hd hc hlt hg.2 (by omega) hm, alt _ hm, ih j hj (by omega)]
    refine List.ext_getElem (by rw [lf, hl]) fun i h1 h2 => ?_
    have := key i (by omega)
    rw [List.getD_eq_getElem?_getD, List.getD_eq_getElem?_getD, List.getElem?_eq_getElem h1, List.getElem?_eq_getElem h2] at this
    exact this
  unfold flipsFor
  show List.find? (goodF (bm n c ps a b d)) (allFlips n) = some s
  rw [e, allFlips_succ, List.find?_append]
  rw [← e]
  cases hq : List.find? (goodF (bm n c ps a b d)) ((allFlips k).map (false :: ·)) with
  | none => exact absurd gs (List.find?_eq_none.mp hq s ms)
  | some f =>
    rw [uni f (List.mem_of_find?_eq_some hq) (List.find?_some hq)]
    rfl
theorem hand_none {n : Nat} {c a b d : Int} {ps : List Pr} (ha : 0 < a) (hb : 0 < b) (hd : 0 ≤ d) (hc : 0 < c) (hlt : a * d < b * b) (hp : ∀ p ∈ ps, p.1 < n) (no : ∀ f : List Bool, ¬ ∀ p ∈ ps, f.getD p.2 false = !f.getD p.1 false) : flipsFor (bm n c ps a b d) = none := by
  refine List.find?_eq_none.mpr fun f hf hg => no f fun p hq => ?_
  unfold goodF at hg
  rw [Bool.and_eq_true] at hg
  exact riseM_neg ha hb hd hc hlt hg.2 (hp p hq) hq
/-! ### rings -/
def ringP (n : Nat) : List Pr := sortP (((List.range (n - 1)).map fun k => (k, k + 1)) ++ [(0, n - 1)])
theorem mem_ring {n : Nat} {p : Pr} : p ∈ ringP n ↔ (∃ k, k < n - 1 ∧ p = (k, k + 1)) ∨ p = (0, n - 1) := by
  unfold ringP
  rw [(sortP_perm _).mem_iff, List.mem_append, List.mem_singleton, List.mem_map]
  constructor
  · rintro (⟨k, hk, e⟩ | h)
    · exact .inl ⟨k, List.mem_range.mp hk, e.symm⟩
    · exact .inr h
  · rintro (⟨k, hk, e⟩ | h)
    · exact .inl ⟨k, List.mem_range.mpr hk, e.symm⟩
    · exact .inr h
theorem deg_line {n i : Nat} : deg ((List.range n).map fun k => (k, k + 1)) i = (if i < n then 1 else 0) + if 1 ≤ i ∧ i ≤ n then 1 else 0 := by
  induction n with
  | zero =>
    show 0 = _
    rw [if_neg (by omega), if_neg (by omega)]
  | succ n ih =>
    rw [List.range_succ, List.map_append]
    show deg (_ ++ [(n, n + 1)]) i = _
    rw [deg_snoc, ih]
    show _ + (if n = i ∨ n + 1 = i then 1 else 0) = _
    repeat' split
    all_goals omega
theorem ring_deg {n i : Nat} : deg (ringP n) i ≤ 3 := by
  unfold ringP
  rw [deg_perm (sortP_perm _), deg_snoc, deg_line]
  repeat' split
  all_goals omega
theorem ring_pairs {n : Nat} (h : 2 < n) (hn : n ≤ 12) : PairsOk n (ringP n) := (good_ring h).sorted hn
theorem tb_ok {a b d : Int} (ha : 0 ≤ a ∧ a ≤ 1000) (hb : 0 ≤ b ∧ b ≤ 1000) (hd : 0 ≤ d ∧ d ≤ 1000) : TabOk 2 2 (tb3 a b d) := by
  refine ⟨rfl, fun r hr => ⟨?_, fun x hx => ?_⟩⟩
  · rcases List.mem_cons.mp hr with e | e
    · rw [e]; rfl
    · rw [List.mem_singleton.mp e]; rfl
  · rcases List.mem_cons.mp hr with e | e
    · rw [e] at hx
      rcases List.mem_cons.mp hx with g | g
      · rw [g]; exact ha
      · rw [List.mem_singleton.mp g]; exact hb
    · rw [List.mem_singleton.mp e] at hx
      rcases List.mem_cons.mp hx with g | g
      · rw [g]; exact hb
      · rw [List.mem_singleton.mp g]; exact hd
theorem wf_bm {n : Nat} {c a b d : Int} {ps : List Pr} (n1 : 1 ≤ n) (n12 : n ≤ 12) (hp : PairsOk n ps) (hf : ∀ i, i < n → deg ps i ≤ 4) (ha : 0 ≤ a ∧ a ≤ 1000) (hb : 0 ≤ b ∧ b ≤ 1000) (hd : 0 ≤ d ∧ d ≤ 1000) (hc : 0 ≤ c ∧ c ≤ 1000) : WF (bm n c ps a b d) where
  many1 := n1
  many12 := n12
  lev1 := by show 1 ≤ 2; decide
  lev4 := by show 2 ≤ 4; decide
  wt := ⟨List.length_replicate, fun r hr => by
    rw [List.eq_of_mem_replicate hr]
    refine ⟨rfl, fun x hx => ?_⟩
    rcases List.mem_cons.mp hx with g | g
    · rw [g]; decide
    · rw [List.mem_singleton.mp g]; exact hc⟩
  tt := fun t ht => by
    obtain ⟨p, _, e⟩ := List.mem_map.mp ht
    subst e
    exact tb_ok ha hb hd
  prs := by
    show PairsOk n ((mkTies ps _).map fun t => (t.a, t.b))
    rw [mk_prs]
    exact hp
  few := fun i hi => by
    show (tiesAt (mkTies ps _) i).length ≤ 4
    rw [deg_mk]
    exact hf i hi
def ringS (n : Nat) : Option (List Bool) := if n % 2 = 0 then some ((List.range n).map fun k => decide (k % 2 = 1)) else none
theorem ringS_get {n i : Nat} {d : Bool} (h : i < n) : ((List.range n).map fun k => decide (k % 2 = 1)).getD i d = decide (i % 2 = 1) := by
  rw [List.getD_eq_getElem?_getD, List.getElem?_map, List.getElem?_range h]
  rfl
theorem ring_hand {n : Nat} {c a b d : Int} (n3 : 2 < n) (ha : 0 < a) (hb : 0 < b) (hd : 0 ≤ d) (hc : 0 < c) (hlt : a * d < b * b) : flipsFor (bm n c (ringP n) a b d) = ringS n := by
  have bd : ∀ p ∈ ringP n, p.1 < n ∧ p.2 < n := fun p hp => by
    rcases mem_ring.mp hp with ⟨k, hk, e⟩ | e
    · rw [e]; exact ⟨by show k < n; omega, by show k + 1 < n; omega⟩
    · rw [e]; exact ⟨by show 0 < n; omega, by show n - 1 < n; omega⟩
  unfold ringS
  by_cases hn : n % 2 = 0
  · rw [if_pos hn]
    refine hand_sides (by omega) ha hb hd hc hlt bd (by rw [List.length_map, List.length_range]) ?_ (fun p hp => ?_) fun i h1 h2 => ⟨i - 1, by omega, mem_ring.mpr (.inl ⟨i - 1, by omega, by rw [show i - 1 + 1 = i by omega]⟩)⟩
    · rw [ringS_get (by omega)]; rfl
    · have := bd p hp
      rw [ringS_get this.1, ringS_get this.2, ← decide_not]
      refine decide_eq_decide.mpr ?_
      rcases mem_ring.mp hp with ⟨k, hk, e⟩ | e
      · rw [e]
        show (k + 1) % 2 = 1 ↔ ¬ k % 2 = 1
        omega
      · rw [e]
        show (n - 1) % 2 = 1 ↔ ¬ 0 % 2 = 1
        omega
  · rw [if_neg hn]
    refine hand_none ha hb hd hc hlt (fun p hp => (bd p hp).1) fun f hf => ?_
    have key : ∀ i, i < n → f.getD i false = (f.getD 0 false ^^ decide (i % 2 = 1)) := fun i => by
      induction i with
      | zero => intro _; simp
      | succ i ih =>
        intro hi
        have h1 := hf (i, i + 1) (mem_ring.mpr (.inl ⟨i, by omega, rfl⟩))
        have h2 : f.getD (i + 1) false = !f.getD i false := h1
        rw [h2, ih (by omega)]
        have h3 : decide ((i + 1) % 2 = 1) = !decide (i % 2 = 1) := by
          rw [← decide_not]
          exact decide_eq_decide.mpr (by omega)
        rw [h3]
        cases f.getD 0 false <;> cases decide (i % 2 = 1) <;> rfl
    have h1 : f.getD (n - 1) false = !f.getD 0 false := hf (0, n - 1) (mem_ring.mpr (.inr rfl))
    have h2 := key (n - 1) (by omega)
    rw [h1, show decide ((n - 1) % 2 = 1) = false from decide_eq_false (by omega)] at h2
    revert h2
    cases f.getD 0 false <;> decide
section
variable {K : PySem.W.Frag} {Pr0 : Program} {w : World}
theorem b_law_stacks : Body N_law_stacks (t_law_stacks K Pr0 w) (pr_law_stacks K w) := by
  rintro W svs post D ⟨r, c, mo, rfl, ⟨r1, c1, rc, mo3, wf⟩, rfl⟩ R
  show At W _ [.fz (uP r), .fz (uP c), .fz (uP mo), .no, .no, .no, .no, .no, .no, .no]
  have hr : r ≤ r * c := Nat.le_mul_of_pos_right r c1
  have hc : c ≤ r * c := Nat.le_mul_of_pos_left c r1
  have erc : (r : Int) * (c : Int) = ((r * c : Nat) : Int) := (Int.natCast_mul r c).symm
  have cm : CMul (r : Int) (c : Int) := .inr (by omega)
  have p1 : 1 ≤ r * c := by omega
  have e5 : (mo : Int) + 1 = ((mo + 1 : Nat) : Int) := rfl
  refine q_set (P := tabP (leTab (mo + 1))) (ev_tupL (ev_frz (Ps := (leTab (mo + 1)).map rowP) ?_)) ?_
  · unfold leTab
    rw [List.map_map]
    refine ef_lcN (xs := List.range (mo + 1)) (f := uP) (ei_rangeI (ev_op (ev_var rfl) ev_c o_add) e5 (by omega)) (by rw [List.length_range]; omega) (by decide) fun x hx => ev_tupL (ev_frz (Ps := ((List.range (mo + 1)).map fun y => if y ≤ x then (1 : Int) else 0).map iP) ?_)
    rw [List.map_map]
    refine ef_lcN (xs := List.range (mo + 1)) (f := uP) (ei_rangeI (ev_op (ev_var rfl) ev_c o_add) e5 (by omega)) (by rw [List.length_range]; omega) (by decide) fun y hy => ev_i (ev_call1 (ev_op (ev_var rfl) (ev_var rfl) o_le) c1_intB) ?_
    show _ = (if y ≤ x then (1 : Int) else 0)
    by_cases h : y ≤ x
    · rw [if_pos h, decide_eq_true (by omega)]; rfl
    · rw [if_neg h, decide_eq_false (by omega)]; rfl
  · refine q_own ef_lst0 ?_
    refine q_forE (xs := List.range (r * c)) (f := uP) (fun (pre : List Nat) => [.fz (uP r), .fz (uP c), .fz (uP mo), .fz (tabP (leTab (mo + 1))), .ow (lO ((pre.flatMap (gridAt r c)).map pairP)), .no, .no, .no, .no, .no]) (ei_rangeI (ev_op (ev_var rfl) (ev_var rfl) (o_mul cm)) erc (by omega)) (EnvLe.refl _) (fun B pre k post hz => ⟨_, _, tg_name, ?_⟩) ?_
    · obtain ⟨e1, e2⟩ := range_at hz
      have hl := flat_len (grid_at_len r c) pre
      refine q_ext (Qs := if decide (0 < (k + 1) % c) = true then [pairP (k, k + 1)] else []) rfl (ef_if (t_testT (ev_op (ev_op (ev_call1 (ev_op (ev_var rfl) ev_c o_add) c1_int) (ev_var rfl) (o_mod (by omega))) ev_c o_gt) (decide_eq_decide.mpr (by rw [show ((k : Int) + 1) % (c : Int) = (((k + 1) % c : Nat) : Int) from (Int.natCast_emod (k + 1) c).symm]; omega))) (fun _ => ef_lst1 (P1 := pairP (k, k + 1)) (ev_tup2 (ev_var rfl) (ev_i (ev_op (ev_var rfl) ev_c o_add) rfl))) fun _ => ef_lst0) ?_ ?_
      · rw [List.length_map]
        exact Nat.le_trans (Nat.add_le_add_left (show _ ≤ 1 by split <;> simp) _) (by omega)
      · refine at_ext (Qs := if decide (k + c < r * c) = true then [pairP (k, k + c)] else []) rfl (ef_if (t_testT (ev_op (ev_op (ev_var rfl) (ev_var rfl) o_add) (ev_op (ev_var rfl) (ev_var rfl) (o_mul cm)) o_lt) (decide_eq_decide.mpr (by rw [erc]; omega))) (fun _ => ef_lst1 (P1 := pairP (k, k + c)) (ev_tup2 (ev_var rfl) (ev_i (ev_op (ev_var rfl) (ev_var rfl) o_add) (by omega)))) fun _ => ef_lst0) ?_ (at_sat ?_)
        · rw [List.length_append, List.length_map]
          exact Nat.le_trans (Nat.add_le_add (Nat.add_le_add_left (show _ ≤ 1 by split <;> simp) _) (show _ ≤ 1 by split <;> simp)) (by omega)
        · refine le_k (le_k (le_k (le_k (le_o ?_ (le_n (le_k (le_k (le_k (le_k le_z)))))))))
          rw [List.flatMap_append, List.map_append, List.append_assoc]
          congr 1
          rw [List.flatMap_cons, List.flatMap_nil, List.append_nil]
          unfold gridAt
          rw [List.map_append]
          congr 1
          · by_cases h : 0 < (k + 1) % c
            · rw [if_pos (decide_eq_true h), if_pos h]; rfl
            · rw [if_neg (by rw [decide_eq_false h]; exact Bool.false_ne_true), if_neg h]; rfl
          · by_cases h : k + c < r * c
            · rw [if_pos (decide_eq_true h), if_pos h]; rfl
            · rw [if_neg (by rw [decide_eq_false h]; exact Bool.false_ne_true), if_neg h]; rfl
    · have hok : PairsOk (r * c) (gridPairs r c) := by
        have h : PairsOk (r * c) ((mkTies (gridPairs r c) (leTab (mo + 1))).map fun t => (t.a, t.b)) := wf.prs
        rwa [mk_prs] at h
      have hgl : (gridPairs r c).length ≤ 24 := by
        have := flat_len (grid_at_len r c) (List.range (r * c))
        rw [List.length_range] at this
        exact Nat.le_trans this (by omega)
      refine at_frz (i := 4) rfl ?_
      refine q_set (P := tiesP (mkTies (gridPairs r c) (leTab (mo + 1)))) (ev_tupL (ev_frz (Ps := (mkTies (gridPairs r c) (leTab (mo + 1))).map tieP) ?_)) ?_
      · unfold mkTies
        rw [List.map_map]
        exact ef_lcNG (xs := gridPairs r c) (f := pairP) (ei_list (ev_frz (ef_sortSet (ps := gridPairs r c) (ms := gridPairs r c) (ev_var rfl) (by omega) (fun p hp => by have := hok.2 p hp; omega) (fun p => Iff.rfl) (hok.1.imp_of_mem fun {p q} hp hq z => cd_lt rc (hok.2 p hp) (hok.2 q hq) z)))) (by omega) fun p hp => ⟨_, _, tg2 (P1 := uP p.1) (P2 := uP p.2), by decide, ev_tup3 (ev_var rfl) (ev_var rfl) (ev_var rfl)⟩
      · refine q_set (P := tabP (List.replicate (r * c) (List.replicate (mo + 1) 1))) (ev_is (ev_repT (n := r * c) (P := rowP (List.replicate (mo + 1) 1)) (ev_is (ev_repT (n := mo + 1) (P := iP 1) ev_c (ev_op (ev_var rfl) ev_c o_add) e5 (by omega) (by omega)) (by rw [rep_map])) (ev_op (ev_var rfl) (ev_var rfl) (o_mul cm)) erc p1 (by omega)) (by rw [rep_map])) ?_
        exact at_ret (ev_disp (eds_cons (P := uP (r * c)) (ev_i (ev_op (ev_var rfl) (ev_var rfl) (o_mul cm)) erc) (eds_cons (P := uP (mo + 1)) (ev_i (ev_op (ev_var rfl) ev_c o_add) e5) (eds_cons (ev_var rfl) (eds_cons (ev_var rfl) eds_nil)))) (show ([Sum.inr "many", Sum.inr "levels", Sum.inr "weights", Sum.inr "ties"] : List Key).Nodup by decide) (show 4 ≤ 15 by decide)) R.rt
def keyOf (fl : List Bool) : NestedKey := .tup (fl.map numB)
theorem keyOf_kN (fl : List Bool) : NestedKey.tup ((fl.map V.bl).map kN) = keyOf fl := by
  rw [List.map_map]
  rfl
theorem known_val {m : Mdl} {i : Nat} {a : Bool} {fl : List Bool} : knownF m i (keyOf (a :: fl)) = risesAt m i a fl := by
  unfold keyOf knownF
  rw [List.map_cons]
  show risesAt m i (keyB2 (numB a)) ((fl.map numB).map keyB2) = _
  rw [keyB_num, List.map_map, show keyB2 ∘ numB = id from funext keyB_num, List.map_id]
theorem known_dom {n : Nat} {fl : List Bool} (h : fl.length = n) : keyOf fl ∈ knownDom n := List.mem_map.mpr ⟨fl, mem_allFlips n fl h, rfl⟩
theorem flips_len (n : Nat) : (allFlips n).length ≤ 2 ^ n := tuples_len (α := Bool) (k := 2) (by decide) n (List.replicate n [false, true]) (by simp) fun r hr => by
  rw [List.eq_of_mem_replicate hr]
  exact Nat.le_refl 2
theorem bl_sP (fl : List Bool) : fl.map bP = (fl.map V.bl).map sP := by
  rw [List.map_map]
  rfl
theorem bl_isN (fl : List Bool) : (fl.map V.bl).all isN = true := by
  rw [List.all_map]
  exact List.all_eq_true.mpr fun _ _ => rfl
theorem b_law_is_known : Body N_law_is_known (t_law_is_known K Pr0 w) (pr_law_is_known K w) := by
  rintro W svs post D ⟨m, fl, rfl, wf, hl, rfl⟩ R
  show At W _ [.fz (lP ((List.range m.many).map (knownP w m))), .fz (flT fl), .no, .no, .no, .no]
  have m2 := wf.many12
  refine q_forAll (xs := List.range m.many) (f := uP) (E := [.fz (lP ((List.range m.many).map (knownP w m))), .fz (flT fl), .no, .no, .no, .no]) (risesP m fl) (ei_rangeI (ev_lenT (ev_var rfl)) (by rw [List.length_map, hl]) (by omega)) (EnvLe.refl _) (fun B i hi => ⟨_, _, tg_name, fun X kX => ?_⟩) fun c => ?_
  · have hi' := List.mem_range.mp hi
    have f4 := wf.few i hi'
    have lt : (tiedAt m.ties i).length = (tiesAt m.ties i).length := List.length_map ..
    have lf : (flAt fl m.ties i).length = (tiedAt m.ties i).length := List.length_map ..
    refine q_tgt (P := tP [lP (usL (tiedAt m.ties i)), objP (kdM w (knownF m i) (knownDom (1 + (tiedAt m.ties i).length)) (knownDom (1 + (tiedAt m.ties i).length)))]) (ev_ixL (ev_var rfl) (ev_var rfl) (atI_map (List.getElem?_range hi'))) tg2 ?_
    refine at_if (C := (· = !(risesP m fl i))) (t_not (t_B (ev_b (ev_kget (ks := (fl.getD i false :: flAt fl m.ties i).map V.bl) (ev_var rfl) (ev_is (ev_op (ev_tup1 (P1 := bP (fl.getD i false)) (ev_ix (ev_var rfl) (ev_var rfl) (bool_at hl hi'))) (ev_tupL (ev_frz (Ps := bsL (flAt fl m.ties i)) ?_)) (o_catT ?_)) ?_) (bl_isN _) ?_) ?_))) (fun c => ?_) fun c => ?_
    · unfold bsL flAt
      rw [List.map_map]
      exact ef_lcN (xs := tiedAt m.ties i) (f := uP) (ei_list (ev_var rfl)) (by omega) (by decide) fun j hj => ev_ix (ev_var rfl) (ev_var rfl) (bool_at hl (tied_lt wf hj))
    · rw [List.length_map, lf]
      show 1 + _ ≤ 1000000
      omega
    · rw [← bl_sP]
      rfl
    · rw [keyOf_kN]
      exact known_dom (by rw [List.length_cons, lf]; omega)
    · rw [keyOf_kN, known_val]
      rfl
    · have e1 : risesP m fl i = false := by
        cases h : risesP m fl i with
        | false => rfl
        | true => rw [h] at c; cases c
      have e2 : risesM m fl = false := all_false hi e1
      exact at_ret ev_c fun v F H g q => R.rt v F H g (by rw [e2]; exact q)
    · have e1 : risesP m fl i = true := by
        cases h : risesP m fl i with
        | true => rfl
        | false => rw [h] at c; cases c
      exact at_le (by repeat (first | exact le_z | apply le_k | apply le_n)) (kX e1)
  · have e2 : risesM m fl = true := c
    exact at_ret ev_c fun v F H g q => R.rt v F H g (by rw [e2]; exact q)
/-- stores at places -/
def stores (fl : List Bool) (zs : List (Nat × Bool)) : List Bool := zs.foldl (fun f z => f.set z.1 z.2) fl
theorem stores_len (fl : List Bool) : ∀ zs, (stores fl zs).length = fl.length := fun zs => by
  induction zs generalizing fl with
  | nil => rfl
  | cons z zs ih => exact (ih _).trans List.length_set
theorem stores_off {j : Nat} : ∀ (zs : List (Nat × Bool)) (fl : List Bool), (∀ z ∈ zs, z.1 ≠ j) → (stores fl zs).getD j false = fl.getD j false
  | [], _, _ => rfl
  | z :: zs, fl, h => by
    have e : stores fl (z :: zs) = stores (fl.set z.1 z.2) zs := rfl
    rw [e, stores_off zs _ fun y hy => h y (List.mem_cons_of_mem _ hy), List.getD_eq_getElem?_getD, List.getElem?_set_ne (h z List.mem_cons_self), ← List.getD_eq_getElem?_getD]
theorem stores_all : ∀ (near : List Nat) (bs fl : List Bool), near.Nodup → near.length = bs.length → (∀ j ∈ near, j < fl.length) → near.map (fun j => (stores fl (near.zip bs)).getD j false) = bs
  | [], [], _, _, _, _ => rfl
  | [], _ :: _, _, _, h, _ => by cases h
  | _ :: _, [], _, _, h, _ => by cases h
  | j :: near, b :: bs, fl, hn, hl, hlt => by
    obtain ⟨h1, h2⟩ := List.nodup_cons.mp hn
    have e : stores fl ((j :: near).zip (b :: bs)) = stores (fl.set j b) (near.zip bs) := rfl
    rw [e, List.map_cons]
    congr 1
    · rw [stores_off _ _ fun z hz => ?_]
      · rw [List.getD_eq_getElem?_getD, List.getElem?_set_self (hlt j List.mem_cons_self)]
        rfl
      · exact fun q => h1 (by rw [← q]; exact (List.of_mem_zip hz).1)
    · exact stores_all near bs _ h2 (by simpa using hl) fun i hi => by rw [List.length_set]; exact hlt i (List.mem_cons_of_mem _ hi)
theorem tied_ne {m : Mdl} (wf : WF m) {i j : Nat} (h : j ∈ tiedAt m.ties i) : j ≠ i := by
  unfold tiedAt at h
  obtain ⟨t, ht, e⟩ := List.mem_map.mp h
  have h1 := wf_pr wf (List.mem_filter.mp ht).1
  have b1 : t.a = i ∨ t.b = i := by simpa using (List.mem_filter.mp ht).2
  subst e
  unfold otherOf
  split <;> omega
theorem b_law_known : Body N_law_known (t_law_known K Pr0 w) (pr_law_known K w) := by
  rintro W svs post D ⟨m, rfl, wf, rfl⟩ R
  show At W _ [.fz (ldP m), .no, .no, .no, .no, .no, .no, .no, .no]
  have m1 := wf.many1
  have m2 := wf.many12
  refine q_own ef_lst0 ?_
  refine q_forE (xs := List.range m.many) (f := uP) (fun (pre : List Nat) => [.fz (ldP m), .ow (lO (pre.map (knownP w m))), .no, .no, .no, .no, .no, .no, .no]) (ei_range (ev_dget (ev_var rfl) (k := Sum.inr "many") ev_c rfl) (by omega)) (EnvLe.refl _) (fun B pre i post hz => ⟨_, _, tg_name, ?_⟩) (at_frz (i := 1) rfl (at_ret (ev_var rfl) R.rt))
  obtain ⟨e1, hi⟩ := range_at hz
  have f4 := wf.few i hi
  have lt : (tiedAt m.ties i).length = (tiesAt m.ties i).length := List.length_map ..
  refine q_parK (P := lP (usL (tiedAt m.ties i))) (f := knownF m i) (dom := knownDom (1 + (tiedAt m.ties i).length)) (ev_call (ea_cons (ev_var rfl) (ea_cons (ev_var rfl) ea_nil)) ⟨m, i, rfl, wf, rfl⟩) ?_
  have dl : (knownDom (1 + (tiedAt m.ties i).length)).length ≤ 1000000 := by
    unfold knownDom
    rw [List.length_map]
    exact Nat.le_trans (flips_len _) (Nat.le_trans (Nat.pow_le_pow_right (by decide) (show 1 + (tiedAt m.ties i).length ≤ 5 by omega)) (by decide))
  refine q_forE (xs := allFlips (1 + (tiedAt m.ties i).length)) (f := flT) (fun (pre2 : List (List Bool)) => [.fz (ldP m), .ow (lO (pre.map (knownP w m))), .fz (uP i), .fz (lP (usL (tiedAt m.ties i))), .ow (kdM w (knownF m i) (pre2.map keyOf) (knownDom (1 + (tiedAt m.ties i).length))), .no, .no, .no, .no]) (ei_list (ev_call (ea_cons (P := lP ((List.replicate (1 + (tiedAt m.ties i).length) [false, true]).map fun r => lP (r.map bP))) ?_ ea_nil) ⟨Bool, bP, List.replicate (1 + (tiedAt m.ties i).length) [false, true], 2, rfl, by decide, fun r hr => ?_, ?_, ?_, rfl⟩)) (EnvLe.refl _) (fun B2 pre2 sm post2 hs => ⟨_, _, tg_name, ?_⟩) ?_
  · rw [← rep_map]
    exact ev_frz (ef_rep (ev_frz (ef_lst2 ev_c ev_c)) (ev_op ev_c (ev_lenL (ev_var rfl)) o_add) (by rw [List.length_map]; omega) (by omega))
  · rw [List.eq_of_mem_replicate hr]
    exact Nat.le_refl 2
  · rw [List.length_replicate]
    exact Nat.le_trans (Nat.pow_le_pow_right (by decide) (show 1 + (tiedAt m.ties i).length ≤ 5 by omega)) (by decide)
  · rw [List.length_replicate]
    omega
  · have hsl : sm.length = 1 + (tiedAt m.ties i).length := (tuples_each _ _ (by simp) sm (mem_split2 hs)).1
    obtain ⟨s0, sr, esm⟩ : ∃ s0 sr, sm = s0 :: sr := by
      cases sm with
      | nil => simp at hsl; omega
      | cons a b => exact ⟨a, b, rfl⟩
    subst esm
    have hsr : sr.length = (tiedAt m.ties i).length := by
      rw [List.length_cons] at hsl
      omega
    let fl0 : List Bool := (List.replicate m.many false).set i s0
    have l0 : fl0.length = m.many := by
      show ((List.replicate m.many false).set i s0).length = _
      rw [List.length_set, List.length_replicate]
    refine q_own (Ps := (List.replicate m.many false).map bP) ?_ ?_
    · rw [← rep_map]
      exact ef_rep ev_c (ev_dget (ev_var rfl) (k := Sum.inr "many") ev_c rfl) rfl (by omega)
    · refine q_setL (j := i) (k' := (i : Int)) (P := bP s0) rfl (ev_ix (Ps := (s0 :: sr).map bP) (ev_var rfl) ev_c (atI_map (n := 0) rfl)) (ev_var rfl) (ixN_lt (by rw [List.length_map, List.length_replicate]; exact hi)) ?_
      have es : ((List.replicate m.many false).map bP).set i (bP s0) = fl0.map bP := by
        show _ = ((List.replicate m.many false).set i s0).map bP
        rw [List.map_set]
      rw [es]
      refine q_forE (xs := (tiedAt m.ties i).zip sr) (f := fun z => tP [uP z.1, bP z.2]) (fun (pre3 : List (Nat × Bool)) => [.fz (ldP m), .ow (lO (pre.map (knownP w m))), .fz (uP i), .fz (lP (usL (tiedAt m.ties i))), .ow (kdM w (knownF m i) (pre2.map keyOf) (knownDom (1 + (tiedAt m.ties i).length))), .fz (flT (s0 :: sr)), .ow (lO (bsL (stores fl0 pre3))), .no, .no]) (ei_is (ei_zip2 (k1 := kL) (k2 := kT) (Ps := (tiedAt m.ties i).map uP) (Qs := sr.map bP) (as_cons (ev_var rfl) (as_cons (ev_is (ev_cutF (n := 1) (Ps := (s0 :: sr).map bP) (ev_var rfl) ev_c) rfl) as_nil))) (zip2P_map _ _ _ _)) (EnvLe.refl _) (fun B3 pre3 z post3 hz3 => ⟨_, _, tg2, ?_⟩) ?_
      · have hm := (List.of_mem_zip (mem_split2 hz3)).1
        have hlt := tied_lt wf hm
        refine at_setL (j := z.1) (k' := (z.1 : Int)) (P := bP z.2) rfl (ev_var rfl) (ev_var rfl) (ixN_lt (by rw [List.length_map, stores_len, l0]; exact hlt)) (at_sat (le_k (le_k (le_k (le_k (le_k (le_k (le_o ?_ (le_n (le_n le_z))))))))))
        unfold bsL
        rw [← List.map_set]
        unfold stores
        rw [List.foldl_append]
        rfl
      · refine at_frz (i := 6) rfl ?_
        have hnn : (tiedAt m.ties i).Nodup := (tied_sorted wf i).imp fun {a b} z => Nat.ne_of_lt z
        have ev : risesP m (stores fl0 ((tiedAt m.ties i).zip sr)) i = knownF m i (keyOf (s0 :: sr)) := by
          rw [known_val]
          unfold risesP flAt
          rw [stores_all (tiedAt m.ties i) sr fl0 hnn hsr.symm fun j hj => by rw [l0]; exact tied_lt wf hj, stores_off _ _ fun z hz4 => tied_ne wf (List.of_mem_zip hz4).1]
          congr 1
          show ((List.replicate m.many false).set i s0).getD i false = s0
          rw [List.getD_eq_getElem?_getD, List.getElem?_set_self (by rw [List.length_replicate]; exact hi)]
          rfl
        refine q_kput (ks := (s0 :: sr).map V.bl) (f := knownF m i) (Dk := pre2.map keyOf) (dom := knownDom (1 + (tiedAt m.ties i).length)) rfl (ev_b (ev_call (ea_cons (ev_var rfl) (ea_cons (ev_var rfl) (ea_cons (ev_var rfl) ea_nil))) ⟨m, false, stores fl0 ((tiedAt m.ties i).zip sr), i, rfl, wf, by rw [stores_len, l0], hi, rfl⟩) (by rw [keyOf_kN]; exact ev)) (ev_is (ev_var rfl) (by rw [← bl_sP])) (bl_isN _) (by rw [keyOf_kN]; exact known_dom (by rw [List.length_cons, hsr]; omega)) dl (at_sat ?_)
        rw [keyOf_kN, List.map_append]
        exact le_k (le_k (le_k (le_k (le_k (le_n (le_n (le_n (le_n le_z))))))))
  · refine at_frzG (i := 4) rfl ?_
    refine at_app (P := knownP w m i) rfl (ev_tup2 (ev_var rfl) (ev_var rfl)) ?_ (at_sat (le_k (le_o (by rw [List.map_append]; rfl) (le_n (le_n (le_n (le_n (le_n (le_n (le_n le_z))))))))))
    rw [List.length_map]
    omega
end
section
variable {K : PySem.W.Frag} {Pr0 : Program} {w : World}
def rows6 : List (List Int) := [[16, 8, 1, 1], [3, 1, 1, 1], [1, 2, 9, 9], [1, 1, 1, 1], [4, 2, 1, 0], [0, 1, 1, 1]]
theorem b_law_table : Body N_law_table (t_law_table K Pr0 w) (pr_law_table K w) := by
  rintro W svs post D ⟨q, rfl, q1, q4, rfl⟩ R
  show At W _ [.sh HandG, .fz (uP q), .fz natP, .no, .no, .no]
  refine at_any (i := 2) rfl fun kd _ => ?_
  refine q_when (C := (· = decide (kd = 0))) (t_testT (ev_op (ev_var rfl) ev_c o_eqI) (decide_eq_decide.mpr (by omega))) (fun c => ?_) fun c => ?_
  · refine q_setA (C := fun r : List Int => r.length = 4 ∧ ∀ x ∈ r, 0 ≤ x ∧ x ≤ 1000) (f := fun r => lP (isL r)) (ev_memA (f := fun r => lP (isL r)) rows6 rfl (ev_frz (ef_lst (Ps := rows6.map fun r => lP (isL r)) (as_cons (ev_frz (ef_lst (as_cons ev_c (as_cons ev_c (as_cons ev_c (as_cons ev_c as_nil)))))) (as_cons (ev_frz (ef_lst (as_cons ev_c (as_cons ev_c (as_cons ev_c (as_cons ev_c as_nil)))))) (as_cons (ev_frz (ef_lst (as_cons ev_c (as_cons ev_c (as_cons ev_c (as_cons ev_c as_nil)))))) (as_cons (ev_frz (ef_lst (as_cons ev_c (as_cons ev_c (as_cons ev_c (as_cons ev_c as_nil)))))) (as_cons (ev_frz (ef_lst (as_cons ev_c (as_cons ev_c (as_cons ev_c (as_cons ev_c as_nil)))))) (as_cons (ev_frz (ef_lst (as_cons ev_c (as_cons ev_c (as_cons ev_c (as_cons ev_c as_nil)))))) as_nil)))))) (show 6 ≤ 1000 by decide))) (by decide) (by decide) (by decide)) fun r hr => ?_
    refine at_ret (ev_any (C := TabOk q q) (f := tabP) (ev_genTab (g := fun i j => r.getD ((i : Int) - (j : Int)).natAbs 0) q4 (ev_var rfl) (fun i => ev_var rfl) fun i j hi hj => ?_) (gen_tab fun i j hi hj => ?_)) R.rt
    · exact ev_ixL (Ps := r.map iP) (ev_var rfl) (ev_call1 (ev_op (ev_var rfl) (ev_var rfl) o_sub) c1_abs) (atI_getD (d := 0) (by omega))
    · have hl : ((i : Int) - (j : Int)).natAbs < r.length := by omega
      rw [List.getD_eq_getElem?_getD, List.getElem?_eq_getElem hl]
      exact hr.2 _ (List.getElem_mem hl)
  · refine q_when (C := (· = decide (kd = 1))) (t_testT (ev_op (ev_var rfl) ev_c o_eqI) (decide_eq_decide.mpr (by omega))) (fun c => ?_) fun c => ?_
    · refine at_ret (ev_any (C := TabOk q q) (f := tabP) (ev_genTab (g := fun i j => if decide ((j : Int) ≤ (i : Int)) = true then 1 else 0) q4 (ev_var rfl) (fun i => ev_var rfl) fun i j hi hj => ?_) (gen_tab fun i j hi hj => ?_)) R.rt
      · exact ev_call1 (ev_op (ev_var rfl) (ev_var rfl) o_ge) c1_intB
      · split <;> omega
    · refine at_ret (ev_drawTab (n := q) (q := q) (by omega) (by omega) (ev_var rfl) (fun i => ev_var rfl) fun i j => ?_) R.rt
      exact ev_memA (f := iP) [0, 1, 1, 2, 3, 1000] rfl (ev_frz (ef_lst (as_cons ev_c (as_cons ev_c (as_cons ev_c (as_cons ev_c (as_cons ev_c (as_cons ev_c as_nil)))))) (show 6 ≤ 1000 by decide))) (by decide) (by decide) (by decide)
theorem b_law_pairs : Body N_law_pairs (t_law_pairs K Pr0 w) (pr_law_pairs K w) := by
  rintro W svs post D ⟨n, rfl, n1, n5, rfl⟩ R
  show At W _ [.sh HandG, .fz (uP n), .no, .no, .no, .no]
  refine q_setA (ev_draw (n := 5) rfl ev_c (by decide) (by decide)) fun kd _ => ?_
  have fin : ∀ ps : List Pr, Good n ps → At W (tRet (tCB (rSortU K 2 64) (tCons (tVar 4) tNil)) D) [.sh HandG, .fz (uP n), .fz (uP kd), .no, .fz (lP (ps.map pairP)), .no] := fun ps g => by
    have hl : ps.length ≤ 25 := Nat.le_trans g.len (Nat.mul_le_mul n5 n5)
    have so := g.sorted (show n ≤ 12 by omega)
    refine at_ret (ev_any (C := PrsOk n) (f := fun ps => lP (ps.map pairP)) (x := sortP ps) (ev_frz (ef_call1 (ev_var rfl) (c1_sortT (by omega) (fun p hp => by have := g.bd p hp; omega) (sortP_perm ps) (sortP_le ps)))) ⟨so, fun i hi => few_of n5 (by rw [mk_prs]; exact so) hi⟩) R.rt
  refine q_if (C := (· = decide (kd = 0))) (t_testT (ev_op (ev_var rfl) ev_c o_eqI) (decide_eq_decide.mpr (by omega))) (fun c => ?_) fun c => ?_
  · exact at_set (ev_frz (ef_line (by omega) rfl (show 3 < 6 by decide))) (fin _ good_line)
  · refine at_if (C := (· = decide (kd = 1))) (t_testT (ev_op (ev_var rfl) ev_c o_eqI) (decide_eq_decide.mpr (by omega))) (fun c => ?_) fun c => ?_
    · refine at_set (P := lP ((if 2 < n then ((List.range (n - 1)).map fun k => (k, k + 1)) ++ [(0, n - 1)] else (List.range (n - 1)).map fun k => (k, k + 1)).map pairP)) (ev_is (ev_frz (ef_op (ev_frz (ef_line (by omega) rfl (show 3 < 6 by decide))) (ev_frz (ef_if (b := decide (2 < n)) (Ps := [pairP (0, n - 1)]) (Qs := []) (t_testT (ev_op (ev_var rfl) ev_c o_gt) (decide_eq_decide.mpr (by omega))) (fun _ => ef_lst1 (P1 := pairP (0, n - 1)) (ev_tup2 ev_c (ev_i (ev_op (ev_var rfl) ev_c o_sub) (by omega)))) fun _ => ef_lst0)) (o_catL ?_))) ?_) (fin _ ?_)
      · rw [List.length_map, List.length_map, List.length_range]
        split
        · show _ + 1 ≤ 1000000
          omega
        · show _ + 0 ≤ 1000000
          omega
      · by_cases h : 2 < n
        · rw [if_pos h, if_pos (decide_eq_true h), List.map_append]
          rfl
        · rw [if_neg h, if_neg (by rw [decide_eq_false h]; exact Bool.false_ne_true), List.append_nil]
      · by_cases h : 2 < n
        · rw [if_pos h]; exact good_ring h
        · rw [if_neg h]; exact good_line
    · refine at_if (C := (· = decide (kd = 2))) (t_testT (ev_op (ev_var rfl) ev_c o_eqI) (decide_eq_decide.mpr (by omega))) (fun c => ?_) fun c => ?_
      · refine at_set (P := lP (((List.range (n - 1)).map fun k => (0, 1 + k)).map pairP)) (ev_frz ?_) (fin _ good_star)
        rw [List.map_map]
        have hr : EvI W (iRng2 (tCons (tC (.int 1)) (tCons (tVar 1) tNil))) [.sh HandG, .fz (uP n), .fz (uP kd), .no, .no, .no] ((List.range (n - 1)).map fun k => uP (1 + k)) := by
          refine ei_is (ei_rng2 (lo := 1) (n := (n : Int)) (as_cons ev_c (as_cons (ev_var rfl) as_nil)) (by omega) (by omega)) ?_
          unfold rngP
          rw [show ((n : Int) - 1).toNat = n - 1 by omega]
          exact List.map_congr_left fun k _ => by rw [show (1 : Int) + (k : Int) = ((1 + k : Nat) : Int) by omega]
        exact ef_lcN (xs := List.range (n - 1)) (f := fun k => uP (1 + k)) hr (by rw [List.length_range]; omega) (by decide) fun k hk => ev_tup2 ev_c (ev_var rfl)
      · refine q_own ef_lst0 ?_
        refine at_for (T := fun i e => ∃ ps : List Pr, (ps.Nodup ∧ ∀ p ∈ ps, p.1 < p.2 ∧ p.2 < i) ∧ EnvLe e [.sh HandG, .fz (uP n), .fz (uP kd), .no, .ow (lO (ps.map pairP)), .no]) (Ps := (List.range n).map uP) (ei_range (ev_var rfl) (by omega)) ⟨[], ⟨List.nodup_nil, fun p h => nomatch h⟩, EnvLe.refl _⟩ (fun B k Q env' hQ ⟨ps, ⟨g1, g2⟩, hT⟩ => ?_) fun env' ⟨ps, g, hT⟩ => ?_
        · rw [List.getElem?_map] at hQ
          cases hz : (List.range n)[k]? with
          | none =>
            rw [hz] at hQ
            cases hQ
          | some k2 =>
            have hk : k < n := by
              have := (List.getElem?_eq_some_iff.mp hz).1
              rwa [List.length_range] at this
            have ek : k2 = k := by
              rw [List.getElem?_range hk] at hz
              exact (Option.some.inj hz).symm
            rw [hz, ek] at hQ
            have e3 : uP k = Q := Option.some.inj hQ
            subst e3
            have gl : ps.length ≤ k * k := Good.len ⟨g1, g2⟩
            have kk : k * k ≤ 25 := Nat.mul_le_mul (show k ≤ 5 by omega) (show k ≤ 5 by omega)
            refine ⟨_, _, fun σ F H v e sl q Q' kq => tg_name σ F H v e (sl.le hT) q Q' kq, ?_⟩
            refine at_extC (C := fun Qs => ∃ js : List Nat, js.Sublist (List.range k) ∧ Qs = (js.map fun j => (j, k)).map pairP) rfl ?_ (fun Qs hQs => ?_) fun Qs hQs => ?_
            · have h := ef_lcC (W := W.bd B) (env := [Sv.sh HandG, .fz (uP n), .fz (uP kd), .fz (uP k), .ow (lO (ps.map pairP)), .no]) (wi := iRng1 (tCons (tVar 3) tNil)) (g := gName 5) (tt := tTest (tOp rEq (tCall (SpX (pr_law_draw K w)) [] E0 (tCons (tVar 0) (tCons (tC (.int 2)) tNil))) (tC (.int 0)))) (te := tTup (tCons (tVar 5) (tCons (tVar 3) tNil))) (vs := [5]) (Ps := (List.range k).map uP) (fun i rs => ∃ js : List Nat, js.Sublist (List.range i) ∧ rs = (js.map fun j => (j, k)).map pairP) (ei_range (ev_var rfl) (by omega)) (by rw [List.length_map, List.length_range]; omega) ⟨[], List.nil_sublist _, rfl⟩ fun i Q rs hQ2 ⟨js, hs, er⟩ => ?_
              · rw [List.length_map, List.length_range] at h
                exact h
              · rw [List.getElem?_map] at hQ2
                cases hz2 : (List.range k)[i]? with
                | none =>
                  rw [hz2] at hQ2
                  cases hQ2
                | some i2 =>
                  have hi : i < k := by
                    have := (List.getElem?_eq_some_iff.mp hz2).1
                    rwa [List.length_range] at this
                  have ei : i2 = i := by
                    rw [List.getElem?_range hi] at hz2
                    exact (Option.some.inj hz2).symm
                  rw [hz2, ei] at hQ2
                  have e4 : uP i = Q := Option.some.inj hQ2
                  subst e4
                  refine ⟨_, [5], fun _ => True, tg_name, by decide, t_true (t_testA (C := fun r : Nat => r < 2) (f := fun r => decide ((r : Int) = 0)) (ev_op (ev_draw (n := 2) rfl ev_c (by decide) (by decide)) ev_c (o_any1 fun x _ => o_eqI))), fun _ => ⟨pairP (i, k), ev_tup2 (ev_var rfl) (ev_var rfl), js ++ [i], ?_, ?_⟩, fun _ => ⟨js, ?_, er⟩⟩
                  · rw [List.range_succ]
                    exact hs.append (List.Sublist.refl _)
                  · rw [er, List.map_append, List.map_append]
                    rfl
                  · rw [List.range_succ]
                    exact hs.trans (List.sublist_append_left _ _)
            · obtain ⟨js, hs, er⟩ := hQs
              have := hs.length_le
              rw [List.length_range] at this
              rw [er, List.length_map, List.length_map, List.length_map]
              omega
            · obtain ⟨js, hs, er⟩ := hQs
              refine at_sat ⟨ps ++ js.map fun j => (j, k), ⟨List.nodup_append.mpr ⟨g1, ?_, fun p hp q hq e => ?_⟩, fun p hp => ?_⟩, le_k (le_k (le_k (le_n (le_o ?_ (le_k le_z)))))⟩
              · exact List.pairwise_map.mpr ((List.nodup_range.sublist hs).imp fun {a b} z e => z (Prod.mk.inj e).1)
              · obtain ⟨j, hj, e1⟩ := List.mem_map.mp hq
                have h1 := g2 p hp
                rw [e, ← e1] at h1
                have : k < k := h1.2
                omega
              · rcases List.mem_append.mp hp with h1 | h1
                · have := g2 p h1
                  omega
                · obtain ⟨j, hj, e1⟩ := List.mem_map.mp h1
                  have := List.mem_range.mp (hs.subset hj)
                  subst e1
                  exact ⟨this, Nat.lt_succ_self k⟩
              · rw [er, List.map_append]
        · refine at_le hT (at_frz (i := 4) rfl (fin ps ⟨g.1, fun p hp => ?_⟩))
          have := g.2 p hp
          rw [List.length_map, List.length_range] at this
          exact this
end
section
variable {K : PySem.W.Frag} {Pr0 : Program} {w : World}
def tri7 : List (Nat × Nat × Nat) := [(1, 3, 1), (1, 3, 3), (2, 2, 1), (2, 2, 2), (2, 3, 1), (3, 1, 2), (1, 1, 3)]
def triP (x : Nat × Nat × Nat) : MVP := tP [uP x.1, uP x.2.1, uP x.2.2]
theorem grid7 : ∀ x ∈ tri7, GridOk x.1 x.2.1 x.2.2 := by
  have h : ∀ x ∈ tri7, (1 ≤ x.1 ∧ 1 ≤ x.2.1) ∧ (x.1 * x.2.1 ≤ 12 ∧ x.2.2 ≤ 3) ∧ WF (stacksM x.1 x.2.1 x.2.2) := by decide +kernel
  exact fun x hx => let ⟨⟨a, b⟩, ⟨c, d⟩, e⟩ := h x hx; ⟨a, b, c, d, e⟩
abbrev tabA (q : Nat) : MVP := anyP (TabOk q q) tabP
theorem len_rep {α : Type} (k : Nat) (x : α) : List.replicate (k + 1) x = List.replicate k x ++ [x] := List.replicate_succ'
theorem nat_le {C : Nat → Prop} {W : Wd} {te : TE} {env : List Sv} (h : EvP W te env (anyP C uP)) : EvP W te env natP := ev_le h (anyP_le fun _ _ => True.intro)
theorem b_law_model : Body N_law_model (t_law_model K Pr0 w) (pr_law_model K w) := by
  rintro W svs post D ⟨rfl, rfl⟩ R
  show At W _ [.sh HandG, .no, .no, .no, .no, .no, .no, .no, .no, .no, .no, .no, .no, .no, .no, .no, .no, .no]
  refine q_setA (ev_draw (n := 8) rfl ev_c (by decide) (by decide)) fun kd hkd => ?_
  refine q_when (C := (· = decide (kd = 0))) (t_testT (ev_op (ev_var rfl) ev_c o_eqI) (decide_eq_decide.mpr (by omega))) (fun c => ?_) fun c => ?_
  · refine q_set (P := lP (tri7.map triP)) (ev_frz (ef_lst (as_cons (ev_tup3 ev_c ev_c ev_c) (as_cons (ev_tup3 ev_c ev_c ev_c) (as_cons (ev_tup3 ev_c ev_c ev_c) (as_cons (ev_tup3 ev_c ev_c ev_c) (as_cons (ev_tup3 ev_c ev_c ev_c) (as_cons (ev_tup3 ev_c ev_c ev_c) (as_cons (ev_tup3 ev_c ev_c ev_c) as_nil))))))) (show 7 ≤ 1000 by decide))) ?_
    refine q_tgtA (ev_memA (C := fun x => x ∈ tri7) tri7 rfl (ev_var rfl) (by decide) (by decide) fun x h => h) fun x hx => ⟨_, _, tg3 (P1 := uP x.1) (P2 := uP x.2.1) (P3 := uP x.2.2), ?_⟩
    exact at_ret (ev_any (C := WF) (f := ldP) (x := stacksM x.1 x.2.1 x.2.2) (ev_call (ea_cons (ev_var rfl) (ea_cons (ev_var rfl) (ea_cons (ev_var rfl) ea_nil))) ⟨x.1, x.2.1, x.2.2, rfl, grid7 x hx, rfl⟩) (grid7 x hx).wf) R.rt
  · refine q_setA (C := fun q : Nat => 1 ≤ q ∧ q ≤ 4) (f := uP) (ev_ifC (C := fun _ => True) (t_true (t_test (ev_op (ev_var rfl) ev_c o_gt))) (fun _ => ev_memA (f := uP) [2, 2, 2, 3, 3, 4] rfl (ev_frz (ef_lst (as_cons ev_c (as_cons ev_c (as_cons ev_c (as_cons ev_c (as_cons ev_c (as_cons ev_c as_nil)))))) (show 6 ≤ 1000 by decide))) (by decide) (by decide) (by decide)) fun _ => ev_memA (f := uP) [1, 2, 2, 2] rfl (ev_frz (ef_lst (as_cons ev_c (as_cons ev_c (as_cons ev_c (as_cons ev_c as_nil)))) (show 4 ≤ 1000 by decide))) (by decide) (by decide) (by decide)) fun q ⟨q1, q4⟩ => ?_
    refine q_setA (C := fun n : Nat => 1 ≤ n ∧ n ≤ 5) (f := uP) (ev_le (ev_op ev_c (ev_draw (n := if decide (q < 4) = true then 5 else 3) rfl (ev_if (f := uP) (t_testT (ev_op (ev_var rfl) ev_c o_lt) (decide_eq_decide.mpr (by omega))) (fun _ => ev_c) fun _ => ev_c) (by split <;> decide) (by split <;> decide)) (o_any2 (α := Nat) (f := uP) (g := fun r : Nat => iP (1 + (r : Int))) fun r _ => o_add)) fun F v z => ?_) fun n ⟨n1, n5⟩ => ?_
    · obtain ⟨r, hr, z⟩ := z
      refine ⟨1 + r, ⟨by omega, ?_⟩, ?_⟩
      · have : (if decide (q < 4) = true then 5 else 3) ≤ 5 := by split <;> decide
        omega
      · show v = .int ((1 + r : Nat) : Int)
        rw [show v = .int (1 + (r : Int)) from z, Int.natCast_add]
        rfl
    · refine q_par (em_cons (P := anyP (PrsOk n) fun ps => lP (ps.map pairP)) (ev_call (ea_sh rfl (ea_cons (ev_var rfl) ea_nil)) ⟨n, rfl, n1, n5, rfl⟩) (em_own ef_lst0 em_nil)) ?_
      refine at_any (i := 8) rfl fun ps ⟨pok, pfew⟩ => ?_
      have pl : ps.length ≤ 144 := pairs_few (show n ≤ 12 by omega) pok
      refine q_set (P := tabA q) (ev_call (ea_sh rfl (ea_cons (ev_var rfl) (ea_cons (P := natP) (ev_ifC (C := fun _ => True) (t_true (t_test (ev_op (ev_var rfl) ev_c o_lt))) (fun _ => ev_any (x := 0) ev_c True.intro) fun _ => nat_le (ev_draw (n := 3) rfl ev_c (by decide) (by decide))) ea_nil))) ⟨q, rfl, q1, q4, rfl⟩) ?_
      refine q_forE (xs := ps) (f := pairP) (fun (pre : List Pr) => [.sh HandG, .fz (uP kd), .no, .no, .no, .no, .fz (uP q), .fz (uP n), .fz (lP (ps.map pairP)), .ow (lO (List.replicate pre.length (tabA q))), .fz (tabA q), .no, .no, .no, .no, .no, .no, .no]) (ei_list (ev_var rfl)) (EnvLe.refl _) (fun B pre p post hz => ⟨_, _, tg_name, ?_⟩) ?_
      · have hpre : pre.length ≤ 144 := by
          have := congrArg List.length hz
          rw [List.length_append] at this
          omega
        refine at_app (P := tabA q) rfl (ev_ifC (C := fun _ => True) (t_true (t_test (ev_op (ev_var rfl) ev_c o_lt))) (fun _ => ev_var rfl) fun _ => ev_call (ea_sh rfl (ea_cons (ev_var rfl) (ea_cons (P := natP) (nat_le (ev_draw (n := 3) rfl ev_c (by decide) (by decide))) ea_nil))) ⟨q, rfl, q1, q4, rfl⟩) (by rw [List.length_replicate]; omega) (at_sat ?_)
        refine le_k (le_k (le_k (le_k (le_k (le_k (le_k (le_k (le_k (le_o ?_ (le_k (le_n (le_k (le_k (le_k (le_k (le_k (le_k le_z)))))))))))))))))
        rw [List.length_append]
        exact (len_rep _ _).symm
      · have fin : At W (tSeq (tAsg (tCB (rTupQ K) (tCons (tLc (iZip2 kL kL (tCons (tVar 8) (tCons (tVar 9) tNil))) (gTup K 2 (gCons (gName 11) (gCons (gName 15) gNil))) tYes (tTup (tCons (tOp (rIxT K) (tVar 11) (tC (.int 0))) (tCons (tOp (rIxT K) (tVar 11) (tC (.int 1))) (tCons (tVar 15) tNil)))) [11, 15]) tNil)) (gName 14)) (tRet (tDisp [((tC (.str "many")), (tVar 7)), ((tC (.str "levels")), (tVar 6)), ((tC (.str "weights")), (tVar 13)), ((tC (.str "ties")), (tVar 14))])) D) [.sh HandG, .no, .no, .no, .no, .no, .fz (uP q), .fz (uP n), .fz (lP (ps.map pairP)), .fz (anyP (listC (TabOk q q) ps.length) fun ts => lP (ts.map tabP)), .no, .no, .no, .fz (anyP (TabOk n q) tabP), .no, .no, .no, .no] := by
          refine at_any (i := 9) rfl fun ts hts => at_any (i := 13) rfl fun wt hwt => ?_
          have wf : WF ⟨n, q, wt, mkTies2 ps ts⟩ := wf_mk n1 (by omega) q1 q4 hwt hts pok fun i hi => by
            rw [← deg_mk ps []]
            exact pfew i hi
          refine q_set (P := tiesP (mkTies2 ps ts)) (ev_tupL (ev_frz (Ps := (mkTies2 ps ts).map tieP) ?_)) ?_
          · unfold mkTies2
            rw [List.map_map]
            refine ef_lcNG (xs := ps.zip ts) (f := fun z => tP [pairP z.1, tabP z.2]) (ei_is (ei_zip2 (k1 := kL) (k2 := kL) (Ps := ps.map pairP) (Qs := ts.map tabP) (as_cons (ev_var rfl) (as_cons (ev_var rfl) as_nil))) (zip2P_map _ _ _ _)) (by rw [List.length_zip]; omega) fun z hz => ⟨_, _, tg2, by decide, ?_⟩
            exact ev_tup3 (ev_ix (Ps := [uP z.1.1, uP z.1.2]) (ev_var rfl) ev_c rfl) (ev_ix (Ps := [uP z.1.1, uP z.1.2]) (ev_var rfl) ev_c rfl) (ev_var rfl)
          · exact at_ret (ev_any (C := WF) (f := ldP) (x := ⟨n, q, wt, mkTies2 ps ts⟩) (ev_disp (eds_cons (ev_var rfl) (eds_cons (ev_var rfl) (eds_cons (ev_var rfl) (eds_cons (ev_var rfl) eds_nil)))) key4 (show 4 ≤ 15 by decide)) wf) R.rt
        refine q_if (C := (· = (decide (kd = 1) && decide (q = 2)))) (t_and (t_testT (ev_op (ev_var rfl) ev_c o_eqI) (decide_eq_decide.mpr (by omega))) fun _ => t_testT (ev_op (ev_var rfl) ev_c o_eqI) (decide_eq_decide.mpr (by omega))) (fun c => ?_) fun c => ?_
        · have hq : q = 2 := by
            have := c.symm
            rw [Bool.and_eq_true] at this
            exact of_decide_eq_true this.2
          refine q_setA (C := fun x : Int => 0 ≤ x ∧ x ≤ 1000) (f := iP) (ev_memA (f := iP) [1, 1, 2, 7] rfl (ev_frz (ef_lst (as_cons ev_c (as_cons ev_c (as_cons ev_c (as_cons ev_c as_nil)))) (show 4 ≤ 1000 by decide))) (by decide) (by decide) (by decide)) fun x hx => ?_
          refine q_set (P := lP (List.replicate ps.length (tabA q))) (ev_frz (ef_rep (ev_any (C := TabOk q q) (f := tabP) (x := [[1, 1], [1, 0]]) (ev_tup2 (ev_tup2 ev_c ev_c) (ev_tup2 ev_c ev_c)) (by rw [hq]; decide)) (ev_lenL (ev_var rfl)) (by rw [List.length_map]) (by omega))) ?_
          refine at_set (P := anyP (TabOk n q) tabP) (ev_any (x := List.replicate n [1, x]) (ev_is (ev_tupL (ev_frz (ef_rep (P := rowP [1, x]) (ev_tup2 ev_c (ev_var rfl)) (ev_var rfl) rfl (by omega)))) (by rw [rep_map])) ⟨List.length_replicate, fun r hr => ?_⟩) ?_
          · rw [List.eq_of_mem_replicate hr, hq]
            refine ⟨rfl, fun y hy => ?_⟩
            rcases List.mem_cons.mp hy with e | e
            · omega
            · rw [List.mem_singleton.mp e]; exact hx
          · exact at_le (le_k (le_n (le_k (le_k (le_k (le_k (le_k (le_k (le_k (le_p lP_any (le_n (le_k (le_n (le_k (le_k (le_k (le_k (le_k le_z)))))))))))))))))) fin
        · refine at_frz (i := 9) rfl ?_
          let zz : Int := if decide (5 < kd) = true then 0 else 1
          have hzz : 0 ≤ zz ∧ zz ≤ 1 := by
            show 0 ≤ (if decide (5 < kd) = true then (0 : Int) else 1) ∧ (if decide (5 < kd) = true then (0 : Int) else 1) ≤ (1 : Int)
            by_cases h : decide (5 < kd) = true
            · rw [if_pos h]; decide
            · rw [if_neg h]; decide
          refine q_set (P := lP (isL [1, 1, 1, 2, 5, zz])) (ev_frz (ef_lst (Ps := isL [1, 1, 1, 2, 5, zz]) (as_cons ev_c (as_cons ev_c (as_cons ev_c (as_cons ev_c (as_cons ev_c (as_cons (ev_if (f := iP) (t_testT (ev_op (ev_var rfl) ev_c o_gt) (decide_eq_decide.mpr (by omega))) (fun _ => ev_c) fun _ => ev_c) as_nil)))))) (show 6 ≤ 1000 by decide))) ?_
          refine at_set (P := anyP (TabOk n q) tabP) (ev_drawTab (by omega) (by omega) (ev_var rfl) (fun i => ev_var rfl) fun i j => ev_memA (f := iP) [1, 1, 1, 2, 5, zz] rfl (ev_var rfl) (by simp) (by simp) fun x hx => ?_) ?_
          · simp only [List.mem_cons, List.not_mem_nil, or_false] at hx
            omega
          · rw [show ps.length = (ps.map pairP).length from (List.length_map ..).symm] at fin
            refine at_le (le_k (le_n (le_n (le_k (le_k (le_k (le_k (le_k (le_k (le_p (fun F v h => ?_) (le_n (le_k (le_k (le_k (le_k (le_k (le_k (le_k le_z)))))))))))))))))) fin
            have := lP_any F v h
            rw [List.length_map]
            exact this
end
section
variable {K : PySem.W.Frag} {Pr0 : Program} {w : World}
structure TreeInv (cur : Nat) (ps : List Pr) (sd : List Bool) (cs : List Nat) : Prop where
  cur1 : 1 ≤ cur
  nd : ps.Nodup
  bd : ∀ p ∈ ps, p.1 < p.2 ∧ p.2 < cur
  sl : sd.length = cur
  cl : cs.length = cur
  s0 : sd.getD 0 true = false
  alt : ∀ p ∈ ps, sd.getD p.2 false = !sd.getD p.1 false
  con : ∀ i, 1 ≤ i → i < cur → ∃ j, j < i ∧ (j, i) ∈ ps
  dg : ∀ i, i < cur → deg ps i = cs.getD i 0 ∧ cs.getD i 0 ≤ 4
  off : ∀ i, cur ≤ i → deg ps i = 0
  sum : cs.sum + 2 = 2 * cur
  pl : ps.length + 1 = cur
theorem TreeInv.zero : TreeInv 1 [] [false] [0] where
  cur1 := Nat.le_refl 1
  nd := List.nodup_nil
  bd := fun p h => nomatch h
  sl := rfl
  cl := rfl
  s0 := rfl
  alt := fun p h => nomatch h
  con := fun i h1 h2 => by omega
  dg := fun i h => by
    have e : i = 0 := by omega
    subst e
    exact ⟨rfl, by decide⟩
  off := fun i _ => rfl
  sum := rfl
  pl := rfl
theorem sum_ge {cs : List Nat} {k : Nat} : (∀ i, i < cs.length → k ≤ cs.getD i 0) → k * cs.length ≤ cs.sum := by
  induction cs with
  | nil => exact fun _ => Nat.le_refl _
  | cons c cs ih =>
    intro h
    have h0 := h 0 (Nat.zero_lt_succ _)
    have h1 := ih fun i hi => h (i + 1) (Nat.succ_lt_succ hi)
    rw [List.length_cons, List.sum_cons, Nat.mul_succ]
    have : (c :: cs).getD 0 0 = c := rfl
    omega
theorem TreeInv.free {cur : Nat} {ps : List Pr} {sd : List Bool} {cs : List Nat} (t : TreeInv cur ps sd cs) : ((List.range cur).filter fun i => decide (cs.getD i 0 < 4)) ≠ [] := fun e => by
  have h : ∀ i, i < cs.length → 4 ≤ cs.getD i 0 := fun i hi => by
    rw [t.cl] at hi
    rcases Nat.lt_or_ge (cs.getD i 0) 4 with h1 | h1
    · have : i ∈ (List.range cur).filter fun i => decide (cs.getD i 0 < 4) := List.mem_filter.mpr ⟨List.mem_range.mpr hi, decide_eq_true h1⟩
      rw [e] at this
      cases this
    · exact h1
  have h2 := sum_ge h
  rw [t.cl] at h2
  have := t.sum
  have := t.cur1
  omega
theorem sum_set {cs : List Nat} {i : Nat} (h : i < cs.length) : (cs.set i (cs.getD i 0 + 1)).sum = cs.sum + 1 := by
  induction cs generalizing i with
  | nil => simp at h
  | cons c cs ih =>
    cases i with
    | zero =>
      show (c + 1) + cs.sum = c + cs.sum + 1
      omega
    | succ i =>
      have h1 : i < cs.length := Nat.lt_of_succ_lt_succ h
      have e : ((c :: cs).set (i + 1) ((c :: cs).getD (i + 1) 0 + 1)).sum = c + (cs.set i (cs.getD i 0 + 1)).sum := rfl
      rw [e, ih h1, List.sum_cons]
      omega
theorem TreeInv.step {cur o : Nat} {ps : List Pr} {sd : List Bool} {cs : List Nat} (t : TreeInv cur ps sd cs) (ho : o < cur) (hc : cs.getD o 0 < 4) : TreeInv (cur + 1) (ps ++ [(o, cur)]) (sd ++ [!sd.getD o false]) (cs.set o (cs.getD o 0 + 1) ++ [1]) where
  cur1 := by omega
  nd := List.nodup_append.mpr ⟨t.nd, by simp, fun p hp q hq e => by
    rw [List.mem_singleton.mp hq] at e
    have := (t.bd p hp).2
    rw [e] at this
    exact absurd this (Nat.lt_irrefl _)⟩
  bd := fun p hp => by
    rcases List.mem_append.mp hp with h | h
    · have := t.bd p h
      omega
    · rw [List.mem_singleton.mp h]
      exact ⟨ho, Nat.lt_succ_self _⟩
  sl := by rw [List.length_append, t.sl]; rfl
  cl := by rw [List.length_append, List.length_set, t.cl]; rfl
  s0 := by
    rw [getD_snoc_lt (by rw [t.sl]; exact t.cur1)]
    exact t.s0
  alt := fun p hp => by
    rcases List.mem_append.mp hp with h | h
    · have hb := t.bd p h
      rw [getD_snoc_lt (by rw [t.sl]; omega), getD_snoc_lt (by rw [t.sl]; omega)]
      exact t.alt p h
    · rw [List.mem_singleton.mp h]
      show (sd ++ [!sd.getD o false]).getD cur false = !(sd ++ [!sd.getD o false]).getD o false
      rw [getD_snoc_lt (i := o) (by rw [t.sl]; exact ho)]
      have := getD_snoc_eq (xs := sd) (y := !sd.getD o false) (d := false)
      rwa [t.sl] at this
  con := fun i h1 h2 => by
    by_cases e : i = cur
    · subst e
      exact ⟨o, ho, by simp⟩
    · obtain ⟨j, hj, hm⟩ := t.con i h1 (by omega)
      exact ⟨j, hj, List.mem_append_left _ hm⟩
  dg := fun i hi => by
    rw [deg_snoc]
    show deg ps i + (if o = i ∨ cur = i then 1 else 0) = _ ∧ _
    by_cases e : i = cur
    · subst e
      have h1 : (cs.set o (cs.getD o 0 + 1) ++ [1]).getD i 0 = 1 := by
        have := getD_snoc_eq (xs := cs.set o (cs.getD o 0 + 1)) (y := 1) (d := 0)
        rwa [List.length_set, t.cl] at this
      rw [if_pos (.inr rfl), h1, t.off i (Nat.le_refl _)]
      exact ⟨rfl, by decide⟩
    · have hi' : i < cur := by omega
      obtain ⟨h1, h2⟩ := t.dg i hi'
      rw [getD_snoc_lt (by rw [List.length_set, t.cl]; exact hi')]
      by_cases e2 : o = i
      · subst e2
        rw [if_pos (.inl rfl), getD_set_eq (by rw [t.cl]; exact ho), h1]
        omega
      · rw [if_neg (by omega), getD_set_ne e2, h1]
        omega
  off := fun i hi => by
    rw [deg_snoc, t.off i (by omega)]
    show 0 + (if o = i ∨ cur = i then 1 else 0) = 0
    rw [if_neg (by omega)]
  sum := by
    have := t.sum
    rw [List.sum_append, sum_set (by rw [t.cl]; exact ho)]
    show cs.sum + 1 + (1 + 0) + 2 = _
    omega
  pl := by
    have := t.pl
    rw [List.length_append]
    show ps.length + 1 + 1 = _
    omega
theorem TreeInv.ok {n : Nat} (hn : n ≤ 12) {ps : List Pr} {sd : List Bool} {cs : List Nat} (t : TreeInv n ps sd cs) : TreeOk n (sortP ps, sd) where
  prs := Good.sorted hn ⟨t.nd, t.bd⟩
  len := t.sl
  s0 := t.s0
  alt := fun p hp => t.alt p ((sortP_perm ps).mem_iff.mp hp)
  con := fun i h1 h2 => by
    obtain ⟨j, hj, hm⟩ := t.con i h1 h2
    exact ⟨j, hj, (sortP_perm ps).mem_iff.mpr hm⟩
  few := fun i hi => by
    show (tiesAt (mkTies (sortP ps) []) i).length ≤ 4
    rw [deg_mk, deg_perm (sortP_perm ps)]
    obtain ⟨h1, h2⟩ := t.dg i hi
    omega
theorem b_law_tree : Body N_law_tree (t_law_tree K Pr0 w) (pr_law_tree K w) := by
  rintro W svs post D ⟨n, rfl, n4, n12, rfl⟩ R
  show At W _ [.sh HandG, .fz (uP n), .no, .no, .no, .no, .no, .no]
  refine q_tup3F (em_own ef_lst0 (em_own (ef_lst1 ev_c) (em_own (ef_lst1 ev_c) em_nil))) ?_
  refine q_for (T := fun i e => ∃ ps sd cs, TreeInv (i + 1) ps sd cs ∧ EnvLe e [.sh HandG, .fz (uP n), .ow (lO (ps.map pairP)), .ow (lO (bsL sd)), .ow (lO (usL cs)), .no, .no, .no]) (ei_rng1n (ev_var rfl) (by omega)) ⟨[], [false], [0], TreeInv.zero, EnvLe.refl _⟩ (fun B k Q env' hQ ⟨ps, sd, cs, t, hT⟩ => ?_) fun env' ⟨ps, sd, cs, t, hT⟩ => ?_
  · rw [List.getElem?_map] at hQ
    cases hz : (List.range (n - 1))[k]? with
    | none =>
      rw [hz] at hQ
      cases hQ
    | some k2 =>
      have hk : k < n - 1 := by
        have := (List.getElem?_eq_some_iff.mp hz).1
        rwa [List.length_range] at this
      have ek : k2 = k := by
        rw [List.getElem?_range hk] at hz
        exact (Option.some.inj hz).symm
      rw [hz, ek] at hQ
      have e3 : uP (1 + k) = Q := Option.some.inj hQ
      subst e3
      rw [Nat.add_comm k 1] at t
      have sl := t.sl
      have cl := t.cl
      have pl : ps.length ≤ 144 := Nat.le_trans (Good.len ⟨t.nd, t.bd⟩) (Nat.mul_le_mul (show 1 + k ≤ 12 by omega) (show 1 + k ≤ 12 by omega))
      refine ⟨_, _, fun σ F H v e sl q Q' kq => tg_name σ F H v e (sl.le hT) q Q' kq, ?_⟩
      refine q_set (P := lP (usL ((List.range (1 + k)).filter fun i => decide (cs.getD i 0 < 4)))) (ev_frz (ef_lc (xs := List.range (1 + k)) (f := uP) (g' := uP) (p := fun i => decide (cs.getD i 0 < 4)) (ei_range (ev_var rfl) (by omega)) (by rw [List.length_range]; omega) (by decide) fun x hx => ⟨?_, fun _ => ev_var rfl⟩)) ?_
      · have hx' := List.mem_range.mp hx
        exact t_testT (ev_op (ev_ixO (Ps := usL cs) (P := uP (cs.getD x 0)) rfl (ev_var rfl) (atI_getD (by omega))) ev_c o_lt) (decide_eq_decide.mpr (by omega))
      · have hfl : ((List.range (1 + k)).filter fun i => decide (cs.getD i 0 < 4)).length ≤ 1000 := Nat.le_trans (List.length_filter_le ..) (by rw [List.length_range]; omega)
        refine q_setA (C := fun o : Nat => o ∈ (List.range (1 + k)).filter fun i => decide (cs.getD i 0 < 4)) (f := uP) (ev_le (ev_mem rfl (ev_frz (ef_lst2 (ev_pick (K := K) (w := w) (j := 0) (E := E0) (a := 7) rfl rfl t.free hfl).1 (ev_pick (K := K) (w := w) (j := 0) (E := E0) (a := 7) rfl rfl t.free hfl).2)) (by simp) (show 2 ≤ 1000 by decide)) (memP_one fun Q hQ => ?_)) fun o ho => ?_
        · rcases List.mem_cons.mp hQ with e | e
          · exact e
          · exact List.mem_singleton.mp e
        · have ho1 : o < 1 + k := List.mem_range.mp (List.mem_filter.mp ho).1
          have ho2 : cs.getD o 0 < 4 := of_decide_eq_true (List.mem_filter.mp ho).2
          have st := t.step ho1 ho2
          refine q_setL (i := 4) (j := o) (k' := (o : Int)) (P := uP (cs.getD o 0 + 1)) rfl (ev_i (ev_op (ev_ixO (Ps := usL cs) (P := uP (cs.getD o 0)) rfl (ev_var rfl) (atI_getD (by omega))) ev_c o_add) rfl) (ev_var rfl) (ixN_lt (by rw [List.length_map]; omega)) ?_
          refine q_app (i := 2) (P := pairP (o, 1 + k)) rfl (ev_tup2 (ev_var rfl) (ev_var rfl)) (by rw [List.length_map]; omega) ?_
          refine q_app (i := 3) (P := bP (!sd.getD o false)) rfl (ev_notV (ev_ixO (Ps := bsL sd) (P := bP (sd.getD o false)) rfl (ev_var rfl) (atI_getD (by omega)))) (by rw [List.length_map]; omega) ?_
          refine at_app (i := 4) (P := uP 1) rfl ev_c (by rw [List.length_set, List.length_map]; omega) (at_sat ⟨_, _, _, by rw [show k + 1 + 1 = 1 + k + 1 by omega]; exact st, le_k (le_k (le_o ?_ (le_o ?_ (le_o ?_ (le_n (le_n (le_n le_z)))))))⟩)
          · rw [List.map_append]; rfl
          · unfold bsL; rw [List.map_append]; rfl
          · unfold usL; rw [List.map_append, List.map_set]; rfl
  · rw [List.length_map, List.length_range, show n - 1 + 1 = n by omega] at t
    have pl2 : ps.length < 64 := by
      have := t.pl
      omega
    refine at_le hT (at_frz (i := 2) rfl (at_frz (i := 3) rfl ?_))
    exact at_ret (ev_any (C := TreeOk n) (f := fun x => tP [tP (x.1.map pairP), flT x.2]) (x := (sortP ps, sd)) (ev_tup2 (ev_tupL (ev_frz (ef_call1 (ev_var rfl) (c1_sortT pl2 (fun p hp => by have := t.bd p hp; omega) (sortP_perm ps) (sortP_le ps))))) (ev_tupL (ev_var rfl))) (t.ok n12)) R.rt
end
section
variable {K : PySem.W.Frag} {Pr0 : Program} {w : World}
structure WInv (n cur : Nat) (ps : List Pr) (cs : List Nat) : Prop where
  nd : ps.Nodup
  bd : ∀ p ∈ ps, p.1 < p.2 ∧ p.2 < cur
  cl : cs.length = n
  dg : ∀ i, i < n → deg ps i ≤ cs.getD i 0 ∧ cs.getD i 0 ≤ 3
  off : ∀ i, cur ≤ i → i < n → cs.getD i 0 = 0
theorem WInv.zero (n : Nat) : WInv n 1 [] (List.replicate n 0) where
  nd := List.nodup_nil
  bd := fun p h => nomatch h
  cl := List.length_replicate
  dg := fun i hi => by
    have e : (List.replicate n 0).getD i 0 = 0 := by rw [List.getD_eq_getElem?_getD, List.getElem?_replicate, if_pos hi]; rfl
    rw [e]
    exact ⟨Nat.le_refl _, by decide⟩
  off := fun i _ hi => by rw [List.getD_eq_getElem?_getD, List.getElem?_replicate, if_pos hi]; rfl
theorem WInv.up {n cur : Nat} {ps : List Pr} {cs : List Nat} (t : WInv n cur ps cs) : WInv n (cur + 1) ps cs := ⟨t.nd, fun p hp => ⟨(t.bd p hp).1, Nat.lt_succ_of_lt (t.bd p hp).2⟩, t.cl, t.dg, fun i h1 h2 => t.off i (by omega) h2⟩
/-- a pair more -/
theorem WInv.add {n cur a b : Nat} {ps : List Pr} {cs : List Nat} (t : WInv n cur ps cs) (hab : a ≠ b) (ha : a < n) (hb : b < n) (ha2 : min a b < cur) (hb2 : max a b < cur) (hn : (min a b, max a b) ∉ ps) (h1 : cs.getD a 0 < 3) (h2 : cs.getD b 0 < 3) (hc : cur ≤ n) :
    WInv n cur (ps ++ [(min a b, max a b)]) ((cs.set a (cs.getD a 0 + 1)).set b (cs.getD b 0 + 1)) where
  nd := List.nodup_append.mpr ⟨t.nd, by simp, fun p hp q hq e => by
    rw [List.mem_singleton.mp hq] at e
    exact hn (by rw [← e]; exact hp)⟩
  bd := fun p hp => by
    rcases List.mem_append.mp hp with h | h
    · exact t.bd p h
    · rw [List.mem_singleton.mp h]
      exact ⟨by show min a b < max a b; omega, hb2⟩
  cl := by rw [List.length_set, List.length_set, t.cl]
  dg := fun i hi => by
    obtain ⟨d1, d2⟩ := t.dg i hi
    rw [deg_snoc]
    show deg ps i + (if min a b = i ∨ max a b = i then 1 else 0) ≤ _ ∧ _
    by_cases eb : b = i
    · subst eb
      rw [getD_set_eq (by rw [List.length_set, t.cl]; exact hb), if_pos (by omega)]
      omega
    · rw [getD_set_ne eb]
      by_cases ea : a = i
      · subst ea
        rw [getD_set_eq (by rw [t.cl]; exact ha), if_pos (by omega)]
        omega
      · rw [getD_set_ne ea, if_neg (by omega)]
        omega
  off := fun i h1 h2 => by
    rw [getD_set_ne (by omega), getD_set_ne (by omega)]
    exact t.off i h1 h2
theorem sum_deg (n : Nat) : ∀ ps : List Pr, (∀ p ∈ ps, p.1 < p.2 ∧ p.2 < n) → ((List.range n).map (deg ps)).sum = 2 * ps.length
  | [], _ => by
    have : ∀ xs : List Nat, (xs.map (deg [])).sum = 0 := fun xs => by
      induction xs with
      | nil => rfl
      | cons x xs ih => rw [List.map_cons, List.sum_cons, ih]; rfl
    exact this _
  | p :: ps, h => by
    have ih := sum_deg n ps fun q hq => h q (List.mem_cons_of_mem _ hq)
    have hp := h p List.mem_cons_self
    have e : ∀ i, deg (p :: ps) i = deg ps i + ((if p.1 = i then 1 else 0) + if p.2 = i then 1 else 0) := fun i => by
      unfold deg
      by_cases h1 : p.1 = i
      · rw [List.filter_cons_of_pos (by simp [h1]), if_pos h1, if_neg (by omega), List.length_cons]
      · by_cases h2 : p.2 = i
        · rw [List.filter_cons_of_pos (by simp [h2]), if_neg h1, if_pos h2, List.length_cons]
        · rw [List.filter_cons_of_neg (by simp [h1, h2]), if_neg h1, if_neg h2]
          rfl
    have one : ∀ (n a : Nat), a < n → ((List.range n).map fun i => if a = i then 1 else 0).sum = 1 := by
      intro n
      induction n with
      | zero => exact fun a h => absurd h (Nat.not_lt_zero _)
      | succ n ihn =>
        intro a ha
        rw [List.range_succ, List.map_append, List.sum_append]
        show _ + ((if a = n then 1 else 0) + 0) = 1
        by_cases e : a = n
        · subst e
          have z : ∀ (k : Nat), k ≤ a → ((List.range k).map fun i => if a = i then 1 else 0).sum = 0 := by
            intro k
            induction k with
            | zero => exact fun _ => rfl
            | succ k ihk =>
              intro hk
              rw [List.range_succ, List.map_append, List.sum_append, ihk (by omega)]
              show 0 + ((if a = k then 1 else 0) + 0) = 0
              rw [if_neg (by omega)]
              rfl
          rw [z a (Nat.le_refl _), if_pos rfl]
          rfl
        · rw [ihn a (by omega), if_neg e]
          rfl
    have add : ∀ (xs : List Nat) (f g : Nat → Nat), (xs.map fun i => f i + g i).sum = (xs.map f).sum + (xs.map g).sum := fun xs f g => by
      induction xs with
      | nil => rfl
      | cons x xs ih =>
        rw [List.map_cons, List.map_cons, List.map_cons, List.sum_cons, List.sum_cons, List.sum_cons, ih]
        omega
    rw [show deg (p :: ps) = fun i => deg ps i + ((if p.1 = i then 1 else 0) + if p.2 = i then 1 else 0) from funext e, add, add, ih, one n p.1 (by omega), one n p.2 hp.2, List.length_cons]
    omega
theorem deg_len {n : Nat} (hn : n ≤ 12) {ps : List Pr} {cs : List Nat} (t : WInv n n ps cs) : ps.length < 64 := by
  have h := sum_deg n ps t.bd
  have le : ∀ (xs : List Nat), (∀ i ∈ xs, i < n) → (xs.map (deg ps)).sum ≤ 3 * xs.length := fun xs hx => by
    induction xs with
    | nil => exact Nat.le_refl _
    | cons x xs ih =>
      rw [List.map_cons, List.sum_cons, List.length_cons]
      have := t.dg x (hx x List.mem_cons_self)
      have := ih fun i hi => hx i (List.mem_cons_of_mem _ hi)
      omega
  have := le (List.range n) fun i hi => List.mem_range.mp hi
  rw [List.length_range] at this
  omega
abbrev wtP (q : Nat) (p : Pr) : MVP := tP [uP p.1, uP p.2, anyP (TabOk q q) tabP]
theorem all_wt {q : Nat} {F : Hp} : ∀ {ps : List Pr} {vs : List V}, All F vs (ps.map (wtP q)) → ∃ ts, listC (TabOk q q) ps.length ts ∧ All F vs ((mkTies2 ps ts).map tieP)
  | [], _, h => by
    cases h
    exact ⟨[], ⟨rfl, fun _ z => nomatch z⟩, .nil⟩
  | p :: ps, vs, h => by
    cases h with
    | cons a r =>
      obtain ⟨x, us, e, hx, al⟩ := a
      cases al with
      | cons a1 al =>
        cases al with
        | cons a2 al =>
          cases al with
          | cons a3 al =>
            cases al
            obtain ⟨t, ct, qt⟩ := a3
            obtain ⟨ts, ⟨h1, h2⟩, h3⟩ := all_wt r
            refine ⟨t :: ts, ⟨by rw [List.length_cons, List.length_cons, h1], fun y hy => ?_⟩, .cons ⟨x, _, e, hx, .cons a1 (.cons a2 (.cons qt .nil))⟩ h3⟩
            rcases List.mem_cons.mp hy with e | e
            · rw [e]; exact ct
            · exact h2 y e
theorem tP_wt {q : Nat} {ps : List Pr} (F : Hp) (v : V) (h : (tP (ps.map (wtP q))).P F v) : (anyP (listC (TabOk q q) ps.length) fun ts => tiesP (mkTies2 ps ts)).P F v := by
  obtain ⟨a, vs, e, h1, h2⟩ := h
  obtain ⟨ts, c, al⟩ := all_wt h2
  exact ⟨ts, c, a, vs, e, h1, al⟩
theorem b_law_wide : Body N_law_wide (t_law_wide K Pr0 w) (pr_law_wide K w) := by
  rintro W svs post D ⟨n, rfl, n1, n12, rfl⟩ R
  show At W _ [.sh HandG, .fz (uP n), .fz levP, .no, .no, .no, .no, .no, .no, .no, .no, .no, .no, .no, .no, .no]
  refine at_any (i := 2) rfl fun q ⟨q1, q4⟩ => ?_
  refine q_tup2F (em_own (Ps := usL (List.replicate n 0)) (by unfold usL; rw [← rep_map]; exact ef_rep ev_c (ev_var rfl) rfl (by omega)) (em_own ef_lst0 em_nil)) ?_
  refine q_for (T := fun i e => ∃ ps cs, WInv n (i + 1) ps cs ∧ EnvLe e [.sh HandG, .fz (uP n), .fz (uP q), .ow (lO (usL cs)), .ow (lO (ps.map pairP)), .no, .no, .no, .no, .no, .no, .no, .no, .no, .no, .no]) (ei_rng1n (ev_var rfl) (by omega)) ⟨[], List.replicate n 0, WInv.zero n, EnvLe.refl _⟩ (fun B k Q env' hQ ⟨ps, cs, t, hT⟩ => ?_) fun env' ⟨ps, cs, t, hT⟩ => ?_
  · rw [List.getElem?_map] at hQ
    cases hz : (List.range (n - 1))[k]? with
    | none =>
      rw [hz] at hQ
      cases hQ
    | some k2 =>
      have hk : k < n - 1 := by
        have := (List.getElem?_eq_some_iff.mp hz).1
        rwa [List.length_range] at this
      have ek : k2 = k := by
        rw [List.getElem?_range hk] at hz
        exact (Option.some.inj hz).symm
      rw [hz, ek] at hQ
      have e3 : uP (1 + k) = Q := Option.some.inj hQ
      subst e3
      rw [Nat.add_comm k 1] at t
      have cl := t.cl
      refine ⟨_, _, fun σ F H v e sl q Q' kq => tg_name σ F H v e (sl.le hT) q Q' kq, ?_⟩
      let free : List Nat := (List.range (1 + k)).filter fun i => decide (cs.getD i 0 < 3)
      refine q_set (P := lP (usL free)) (ev_frz (ef_lc (xs := List.range (1 + k)) (f := uP) (g' := uP) (p := fun i => decide (cs.getD i 0 < 3)) (ei_range (ev_var rfl) (by omega)) (by rw [List.length_range]; omega) (by decide) fun x hx => ⟨?_, fun _ => ev_var rfl⟩)) ?_
      · have hx' := List.mem_range.mp hx
        exact t_testT (ev_op (ev_ixO (Ps := usL cs) (P := uP (cs.getD x 0)) rfl (ev_var rfl) (atI_getD (by omega))) ev_c o_lt) (decide_eq_decide.mpr (by omega))
      · have hfl : free.length ≤ 1000 := Nat.le_trans (List.length_filter_le ..) (by rw [List.length_range]; omega)
        have stay : ∀ e, EnvLe e [.sh HandG, .fz (uP n), .fz (uP q), .ow (lO (usL cs)), .ow (lO (ps.map pairP)), .no, .no, .no, .no, .no, .no, .no, .no, .no, .no, .no] → At (W.bd B) (Sat (W.bd B) fun e => ∃ ps cs, WInv n (k + 1 + 1) ps cs ∧ EnvLe e [.sh HandG, .fz (uP n), .fz (uP q), .ow (lO (usL cs)), .ow (lO (ps.map pairP)), .no, .no, .no, .no, .no, .no, .no, .no, .no, .no, .no]) e := fun e he => at_sat ⟨ps, cs, by rw [show k + 1 + 1 = 1 + k + 1 by omega]; exact t.up, he⟩
        refine at_for (W := W.bd B) (T := fun i e => ∃ ps2 cs2, WInv n (1 + k + 1) ps2 cs2 ∧ (i = 0 → ps2 = ps ∧ cs2 = cs) ∧ EnvLe e [.sh HandG, .fz (uP n), .fz (uP q), .ow (lO (usL cs2)), .ow (lO (ps2.map pairP)), .fz (uP (1 + k)), .no, .fz (lP (usL free)), .no, .no, .no, .no, .no, .no, .no, .no])
          (Ps := if decide (0 < free.length) = true then [anyP (fun x => x ∈ free) uP] else []) (ei_list (ev_if (f := lP) (t_testT (ev_op (ev_lenL (ev_var rfl)) ev_c o_gt) (decide_eq_decide.mpr (by rw [List.length_map]; omega))) (fun c => ?_) fun _ => ev_frz ef_lst0)) ⟨ps, cs, t.up, fun _ => ⟨rfl, rfl⟩, by repeat (first | exact le_z | apply le_k | apply le_n)⟩ (fun B2 i Q env' hQ ⟨ps2, cs2, t2, h0, hT2⟩ => ?_) fun env' ⟨ps2, cs2, t2, _, hT2⟩ => ?_
        · have hne : free ≠ [] := List.length_pos_iff.mp (of_decide_eq_true c)
          refine ev_frz (ef_lst1 (ev_le (ev_mem rfl (ev_frz (ef_lst (as_cons (ev_pick (K := K) (w := w) (j := 0) (E := E0) (a := 7) rfl rfl hne hfl).1 (as_cons (ev_pick (K := K) (w := w) (j := 0) (E := E0) (a := 7) rfl rfl hne hfl).1 (as_cons (ev_pick (K := K) (w := w) (j := 0) (E := E0) (a := 7) rfl rfl hne hfl).2 as_nil))) (show 3 ≤ 1000 by decide))) (by simp) (show 3 ≤ 1000 by decide)) (memP_one fun Q hQ => ?_)))
          rcases List.mem_cons.mp hQ with e | e
          · exact e
          · rcases List.mem_cons.mp e with e | e
            · exact e
            · exact List.mem_singleton.mp e
        · have hi0 : i = 0 ∧ Q = anyP (fun x => x ∈ free) uP := by
            split at hQ
            · cases i with
              | zero => exact ⟨rfl, (Option.some.inj hQ).symm⟩
              | succ i => simp at hQ
            · simp at hQ
          obtain ⟨ei, eQ⟩ := hi0
          obtain ⟨e1, e2⟩ := h0 ei
          subst eQ e1 e2
          refine ⟨_, _, fun σ F H v e sl q Q' kq => tg_name σ F H v e (sl.le hT2) q Q' kq, ?_⟩
          refine at_any (i := 6) rfl fun o ho => ?_
          have ho1 : o < 1 + k := List.mem_range.mp (List.mem_filter.mp ho).1
          have ho2 : cs2.getD o 0 < 3 := of_decide_eq_true (List.mem_filter.mp ho).2
          have hp0 : cs2.getD (1 + k) 0 = 0 := t.off (1 + k) (Nat.le_refl _) (by omega)
          have pl : ps2.length ≤ 144 := Nat.le_trans (Good.len ⟨t.nd, t.bd⟩) (Nat.mul_le_mul (show 1 + k ≤ 12 by omega) (show 1 + k ≤ 12 by omega))
          have st := t.up.add (a := o) (b := 1 + k) (by omega) (by omega) (by omega) (by omega) (by omega) (fun hm => by
            have := (t.bd _ hm).2
            have e : max o (1 + k) = 1 + k := by omega
            rw [e] at this
            exact absurd this (Nat.lt_irrefl _)) ho2 (by omega) (by omega)
          rw [show min o (1 + k) = o by omega, show max o (1 + k) = 1 + k by omega] at st
          refine q_app (i := 4) (P := pairP (o, 1 + k)) rfl (ev_tup2 (ev_var rfl) (ev_var rfl)) (by rw [List.length_map]; omega) ?_
          refine at_setLL (i := 3) (a := o) (b := 1 + k) (x := (o : Int)) (y := ((1 + k : Nat) : Int)) (P1 := uP (cs2.getD o 0 + 1)) (P2 := uP (cs2.getD (1 + k) 0 + 1)) rfl (ev_i (ev_op (ev_ixO (Ps := usL cs2) (P := uP (cs2.getD o 0)) rfl (ev_var rfl) (atI_getD (by omega))) ev_c o_add) rfl) (ev_i (ev_op (ev_ixO (Ps := usL cs2) (P := uP (cs2.getD (1 + k) 0)) rfl (ev_var rfl) (atI_getD (by omega))) ev_c o_add) rfl) (fun _ _ => ev_var rfl) (fun _ _ => ev_var rfl) (ixN_lt (by rw [List.length_map]; omega)) (ixN_lt (by rw [List.length_map]; omega)) (at_sat ⟨_, _, st, fun e => by omega, le_k (le_k (le_k (le_o ?_ (le_o ?_ (le_k (le_n (le_k (le_k (le_k (le_k (le_k (le_k (le_k (le_k (le_k le_z)))))))))))))))⟩)
          · unfold usL; rw [List.map_set, List.map_set]
          · rw [List.map_append]; rfl
        · exact at_le hT2 (at_sat ⟨ps2, cs2, by rw [show k + 1 + 1 = 1 + k + 1 by omega]; exact t2, by repeat (first | exact le_z | apply le_k | apply le_n)⟩)
  · rw [List.length_map, List.length_range, show n - 1 + 1 = n by omega] at t
    refine at_le hT ?_
    refine at_forR (C := fun r => r < 3) (D := { D with nx := _ }) (ev_draw (n := 3) rfl ev_c (by decide) (by decide)) (fun r hr => by omega) (fun e => ∃ ps cs, WInv n n ps cs ∧ EnvLe e [.sh HandG, .fz (uP n), .fz (uP q), .ow (lO (usL cs)), .ow (lO (ps.map pairP)), .no, .no, .no, .no, .no, .no, .no, .no, .no, .no, .no]) ⟨ps, cs, t, EnvLe.refl _⟩ (fun B i env' ⟨ps, cs, t, hT⟩ => ⟨_, _, fun σ F H v e sl q Q' kq => tg_name σ F H v e (sl.le hT) q Q' kq, ?_⟩) fun env' ⟨ps, cs, t, hT⟩ => ?_
    · have cl := t.cl
      have pl : ps.length ≤ 144 := Nat.le_trans (Good.len ⟨t.nd, t.bd⟩) (Nat.mul_le_mul n12 n12)
      refine q_par (em_cons (ev_draw (n := n) rfl (ev_var rfl) n1 (by omega)) (em_cons (ev_draw (n := n) rfl (ev_var rfl) n1 (by omega)) em_nil)) ?_
      refine at_any (i := 9) rfl fun a ha => at_any (i := 6) rfl fun b hb => ?_
      refine q_set (P := pairP (min a b, max a b)) (ev_tup2 (ev_i (ev_call2 (ev_var rfl) (ev_var rfl) c2_min) (by omega)) (ev_i (ev_call2 (ev_var rfl) (ev_var rfl) c2_max) (by omega))) ?_
      refine at_if (C := (· = (!decide (a = b) && (!decide ((min a b, max a b) ∈ ps) && decide (max (cs.getD a 0) (cs.getD b 0) < 3))))) (t_and (t_testT (ev_op (ev_var rfl) (ev_var rfl) o_neI) (by congr 1; exact decide_eq_decide.mpr (by omega))) fun _ => t_and (t_test (ev_notInO (i := 4) rfl (ev_var rfl))) fun _ => t_testT (ev_op (ev_call2 (ev_ixO (Ps := usL cs) (P := uP (cs.getD a 0)) rfl (ev_var rfl) (atI_getD (by omega))) (ev_ixO (Ps := usL cs) (P := uP (cs.getD b 0)) rfl (ev_var rfl) (atI_getD (by omega))) c2_max) ev_c o_lt) (decide_eq_decide.mpr (by omega))) (fun c => ?_) fun c => at_sat ⟨ps, cs, t, by repeat (first | exact le_z | apply le_k | apply le_n)⟩
      have c' := c.symm
      rw [Bool.and_eq_true, Bool.and_eq_true] at c'
      obtain ⟨c1, c2, c3⟩ := c'
      have h1 : a ≠ b := by simpa using c1
      have h2 : (min a b, max a b) ∉ ps := by simpa using c2
      have h3 := of_decide_eq_true c3
      have st := t.add h1 ha hb (by omega) (by omega) h2 (by omega) (by omega) (Nat.le_refl _)
      refine q_app (i := 4) (P := pairP (min a b, max a b)) rfl (ev_var rfl) (by rw [List.length_map]; omega) ?_
      refine at_setLL (i := 3) (a := a) (b := b) (x := (a : Int)) (y := (b : Int)) (P1 := uP (cs.getD a 0 + 1)) (P2 := uP (cs.getD b 0 + 1)) rfl (ev_i (ev_op (ev_ixO (Ps := usL cs) (P := uP (cs.getD a 0)) rfl (ev_var rfl) (atI_getD (by omega))) ev_c o_add) rfl) (ev_i (ev_op (ev_ixO (Ps := usL cs) (P := uP (cs.getD b 0)) rfl (ev_var rfl) (atI_getD (by omega))) ev_c o_add) rfl) (fun _ _ => ev_var rfl) (fun _ _ => ev_var rfl) (ixN_lt (by rw [List.length_map]; omega)) (ixN_lt (by rw [List.length_map]; omega)) (at_sat ⟨_, _, st, le_k (le_k (le_k (le_o ?_ (le_o ?_ (le_n (le_n (le_n (le_n (le_n (le_n (le_n (le_n (le_n (le_n (le_n le_z)))))))))))))))⟩)
      · unfold usL; rw [List.map_set, List.map_set]
      · rw [List.map_append]; rfl
    · have pl : ps.length ≤ 144 := Nat.le_trans (Good.len ⟨t.nd, t.bd⟩) (Nat.mul_le_mul n12 n12)
      have pl2 : ps.length < 64 := deg_len n12 t
      have so := Good.sorted n12 ⟨t.nd, t.bd⟩
      have sl : (sortP ps).length = ps.length := (sortP_perm ps).length_eq
      refine at_le hT (at_frz (i := 4) rfl ?_)
      refine q_par (em_cons (P := natP) (ev_memA (f := uP) [0, 0, 1, 2] rfl (ev_frz (ef_lst (as_cons ev_c (as_cons ev_c (as_cons ev_c (as_cons ev_c as_nil)))) (show 4 ≤ 1000 by decide))) (by decide) (by decide) fun _ _ => True.intro) (em_own ef_lst0 em_nil)) ?_
      refine q_set (P := anyP (TabOk q q) tabP) (ev_call (ea_sh rfl (ea_cons (ev_var rfl) (ea_cons (ev_var rfl) ea_nil))) ⟨q, rfl, q1, q4, rfl⟩) ?_
      refine q_forE (xs := sortP ps) (f := pairP) (fun (pre : List Pr) => [.sh HandG, .fz (uP n), .fz (uP q), .no, .no, .no, .no, .no, .no, .no, .no, .fz natP, .ow (lO (pre.map (wtP q))), .fz (anyP (TabOk q q) tabP), .no, .no]) (ei_list (ev_frz (ef_call1 (ev_var rfl) (c1_sortT pl2 (fun p hp => by have := t.bd p hp; omega) (sortP_perm ps) (sortP_le ps))))) (le_k (le_k (le_k (le_n (le_n (le_k (le_k (le_k (le_k (le_k (le_k (le_k (le_k (le_k (le_k (le_k le_z)))))))))))))))) (fun B pre p post hz => ⟨_, _, tg2 (P1 := uP p.1) (P2 := uP p.2), ?_⟩) ?_
      · have hpre : pre.length ≤ 144 := by
          have := congrArg List.length hz
          rw [List.length_append] at this
          omega
        refine q_set (P := anyP (TabOk q q) tabP) (ev_ifC (C := fun _ => True) (t_true (t_testA (C := fun r : Nat => r < 4) (f := fun r => decide ((r : Int) = 0)) (ev_op (ev_draw (n := 4) rfl ev_c (by decide) (by decide)) ev_c (o_any1 fun x _ => o_eqI)))) (fun _ => ev_call (ea_sh rfl (ea_cons (ev_var rfl) (ea_cons (ev_var rfl) ea_nil))) ⟨q, rfl, q1, q4, rfl⟩) fun _ => ev_var rfl) ?_
        exact at_app (P := wtP q p) rfl (ev_tup3 (ev_var rfl) (ev_var rfl) (ev_var rfl)) (by rw [List.length_map]; omega) (at_sat (le_k (le_k (le_k (le_k (le_k (le_k (le_n (le_k (le_k (le_n (le_k (le_k (le_o (by rw [List.map_append]; rfl) (le_k (le_k (le_k le_z)))))))))))))))))
      · refine at_frz (i := 12) rfl ?_
        refine q_setA (C := TabOk n q) (f := tabP) (ev_drawTab (by omega) (by omega) (ev_var rfl) (fun i => ev_var rfl) fun i j => ev_memA (f := iP) [1, 1, 2, 5] rfl (ev_frz (ef_lst (as_cons ev_c (as_cons ev_c (as_cons ev_c (as_cons ev_c as_nil)))) (show 4 ≤ 1000 by decide))) (by decide) (by decide) (by decide)) fun wt hwt => ?_
        refine at_ret (P := anyP (fun m => WF m ∧ m.many = n) ldP) ?_ R.rt
        have ok : ∀ ts, listC (TabOk q q) (sortP ps).length ts → WF ⟨n, q, wt, mkTies2 (sortP ps) ts⟩ := fun ts hts => wf_mk n1 n12 q1 q4 hwt hts so fun i hi => by
          rw [deg_perm (sortP_perm ps)]
          have := t.dg i hi
          omega
        refine ev_le (ev_disp (fs := [(Sum.inr "many", uP n), (Sum.inr "levels", uP q), (Sum.inr "weights", tabP wt), (Sum.inr "ties", anyP (listC (TabOk q q) (sortP ps).length) fun ts => tiesP (mkTies2 (sortP ps) ts))]) (eds_cons (ev_var rfl) (eds_cons (ev_var rfl) (eds_cons (ev_var rfl) (eds_cons (ev_le (ev_tupL (ev_var rfl)) tP_wt) eds_nil)))) key4 (show 4 ≤ 15 by decide)) fun F v h => ?_
        obtain ⟨p, o, e, h1, kvs, e2, kv⟩ := h
        cases kv with
        | cons k1 kv =>
          cases kv with
          | cons k2 kv =>
            cases kv with
            | cons k3 kv =>
              cases kv with
              | cons k4 kv =>
                cases kv
                obtain ⟨k4a, ts, hts, k4b⟩ := k4
                exact ⟨⟨n, q, wt, mkTies2 (sortP ps) ts⟩, ⟨ok ts hts, rfl⟩, p, o, e, h1, _, e2, .cons k1 (.cons k2 (.cons k3 (.cons ⟨k4a, k4b⟩ .nil)))⟩
end
section
variable {K : PySem.W.Frag} {Pr0 : Program} {w : World}
abbrev flA (n : Nat) : MVP := anyP (fun fl : List Bool => fl.length = n) flT
abbrev picA (m : Mdl) : MVP := anyP (PicOk m) nsT
theorem flips_some {m : Mdl} {fl : List Bool} (h : flipsFor m = some fl) : fl.length = m.many ∧ goodF m fl = true := ⟨flips_each (List.mem_of_find?_eq_some h), List.find?_some h⟩
theorem below_lo {q : Nat} {fl : List Bool} {y : List Nat} (h : ∀ x ∈ y, x < q) : rowBelow fl (endLo q fl) y = true := by
  unfold rowBelow
  refine List.all_eq_true.mpr fun z hz => ?_
  obtain ⟨k, hk⟩ := List.mem_iff_getElem?.mp hz
  obtain ⟨z1, z23⟩ := List.getElem?_zip_eq_some.mp hk
  obtain ⟨z2, z3⟩ := List.getElem?_zip_eq_some.mp z23
  have hy := h _ (List.mem_of_getElem? z3)
  unfold endLo at z2
  rw [List.getElem?_map, z1] at z2
  have e : (if z.1 = true then q - 1 else 0) = z.2.1 := Option.some.inj z2
  by_cases hf : z.1 = true
  · rw [if_pos hf] at e ⊢
    exact decide_eq_true (by omega)
  · rw [if_neg hf] at e ⊢
    exact decide_eq_true (by omega)
theorem below_hi {q : Nat} {fl : List Bool} {y : List Nat} (h : ∀ x ∈ y, x < q) : rowBelow fl y (endHi q fl) = true := by
  unfold rowBelow
  refine List.all_eq_true.mpr fun z hz => ?_
  obtain ⟨k, hk⟩ := List.mem_iff_getElem?.mp hz
  obtain ⟨z1, z23⟩ := List.getElem?_zip_eq_some.mp hk
  obtain ⟨z2, z3⟩ := List.getElem?_zip_eq_some.mp z23
  have hy := h _ (List.mem_of_getElem? z2)
  unfold endHi at z3
  rw [List.getElem?_map, z1] at z3
  have e : (if z.1 = true then 0 else q - 1) = z.2.2 := Option.some.inj z3
  by_cases hf : z.1 = true
  · rw [if_pos hf] at e ⊢
    exact decide_eq_true (by omega)
  · rw [if_neg hf] at e ⊢
    exact decide_eq_true (by omega)
theorem hd_ends {a b : List Nat} : HasD K (tP [nsT a, nsT b]) (.tuple [.tuple (a.map fun n : Nat => PyData.int (n : Int)), .tuple (b.map fun n : Nat => PyData.int (n : Int))]) 2 := hd_tup (.cons hd_ns (.cons hd_ns .nil))
theorem eqv_ends {a b : List Nat} : PyData.eqv (.tuple [.tuple (a.map fun n : Nat => PyData.int (n : Int)), .tuple (b.map fun n : Nat => PyData.int (n : Int))]) (.tuple [.tuple (a.map fun n : Nat => PyData.int (n : Int)), .tuple (b.map fun n : Nat => PyData.int (n : Int))]) = true := by
  show (PyData.eqvAll _ _ && (PyData.eqvAll _ _ && true)) = true
  rw [eqv_ns, eqv_ns, decide_eq_true rfl, decide_eq_true rfl]
  rfl
/-- tuple([draw(hand, 2) == 0 for .. in range(many)]) -/
theorem ev_drawFl {W : Wd} {env : List Sv} {a n : Nat} {ta : TE} (hn : n ≤ 12) (hs : ∀ x, (((wipeE env [a]).set a (.fz (uP x))))[0]? = some (.sh HandG)) (h : EvP W ta env (uP n)) :
    EvP W (tCB (rTupQ K) (tCons (tLc (iRng1 (tCons ta tNil)) (gName a) tYes (tOp rEq (tCall (SpX (pr_law_draw K w)) [] E0 (tCons (tVar 0) (tCons (tC (.int 2)) tNil))) (tC (.int 0))) [a]) tNil)) env (flA n) :=
  ev_le (ev_tupAny (C := fun _ : Bool => True) (f := bP) (ef_lcK (xs := List.range n) (f := uP) (ei_range h (by omega)) List.length_range (by omega) (List.mem_singleton.mpr rfl) fun x hx => ev_le (ev_op (ev_draw (n := 2) (hs x) ev_c (by decide) (by decide)) ev_c (o_any1 (g := fun r : Nat => bP (decide ((r : Int) = 0))) fun r _ => o_eqI)) fun F v ⟨r, _, q⟩ => ⟨_, True.intro, q⟩)) fun F v z => anyP_le (fun fl c => c.1) F v z
theorem ev_rep_fl {W : Wd} {env : List Sv} {ta : TE} {n : Nat} {b : Bool} (h : EvP W ta env (uP n)) (n1 : 1 ≤ n) (hn : n ≤ 12) : EvP W (tOp (rRepQ K) (tTup (tCons (tC (.bl b)) tNil)) ta) env (flT (List.replicate n b)) := ev_is (ev_repT (n := n) (P := bP b) ev_c h rfl n1 (by omega)) (by rw [rep_map])
theorem ev_optA {W : Wd} {env : List Sv} {i n : Nat} {o : Option (List Bool)} {tb : TE} (hi : env[i]? = some (.fz (opP o))) (ho : ∀ fl, o = some fl → fl.length = n) (hb : EvP W tb env (flA n)) : EvP W (tIf (tB (tNotN (tVar i))) (tVar i) tb) env (flA n) := by
  cases o with
  | none => exact ev_ifC (C := (· = false)) (t_B (ev_notO (o := none) (ev_var hi))) (fun c => nomatch c) fun _ => hb
  | some fl => exact ev_ifC (C := (· = true)) (t_B (ev_notO (o := some fl) (ev_var hi))) (fun _ => ev_any (x := fl) (ev_var hi) (ho fl rfl)) fun c => nomatch c
theorem ev_fit {W : Wd} {env : List Sv} {a j : Nat} {te tw : TE} {m : Mdl} {fl : List Bool} (h : EvP W te env (tP [nsT (endLo m.levels fl), nsT (endHi m.levels fl)])) (hw : ∀ p, PicOk m p → EvP W tw ((env.set j .no).set j (.fz (nsT p))) (iP (weightM m p))) (wf : WF m) (hl : fl.length = m.many) :
    EvP W (tCB (rAll K) (tCons (tLc (iTup K te) (gName j) tYes (tOp rGtI tw (tC (.int 0))) [j]) tNil)) env (bP (endsFit m fl)) := by
  obtain ⟨o1, o2⟩ := end_ok wf hl
  refine ev_b (ev_allN (xs := [endLo m.levels fl, endHi m.levels fl]) (f := nsT) (fun p => decide (0 < weightM m p)) (ei_tup h) (show 2 ≤ 1000000 by decide) fun p hp => ev_op (hw p ?_) ev_c o_gt) ?_
  · rcases List.mem_cons.mp hp with e | e
    · rw [e]; exact o1
    · rw [List.mem_singleton.mp e]; exact o2
  · show (decide _ && (decide _ && true)) = _
    rw [Bool.and_true]
    rfl
theorem b_law_is_drawn_right : Body N_law_is_drawn_right (t_law_is_drawn_right K Pr0 w) (pr_law_is_drawn_right K w) := by
  rintro W svs post D ⟨rfl, rfl⟩ R
  show At W _ [.sh HandG, .no, .no, .no, .no, .no, .no, .no, .no, .no, .no, .no, .no, .no, .no]
  refine q_setA (C := WF) (f := ldP) (ev_call (ea_sh rfl ea_nil) ⟨rfl, rfl⟩) fun m wf => ?_
  have m1 := wf.many1
  have m2 := wf.many12
  have l1 := wf.lev1
  have l4 := wf.lev4
  refine q_tgt (ev_tup2 (P1 := mdlP (mC K) m) (P2 := uP m.many) (ev_call (ea_cons (ev_var rfl) ea_nil) ⟨m, rfl, wf, rfl⟩) (ev_dget (ev_var rfl) (k := Sum.inr "many") ev_c rfl)) tg2 ?_
  refine q_set (P := opP (flipsFor m)) (ev_call (ea_cons (ev_var rfl) ea_nil) ⟨m, rfl, wf, rfl⟩) ?_
  refine q_set (P := opP (flipsFor m)) (ev_call (ea_cons (ev_var rfl) ea_nil) ⟨m, rfl, wf, rfl⟩) ?_
  have ho : ∀ fl, flipsFor m = some fl → fl.length = m.many := fun fl h => (flips_some h).1
  refine q_no (t_orF (t_testF (ev_op (ev_var rfl) (ev_var rfl) (o_neD hd_op hd_op (by decide) (by decide))) (by rw [eqv_op, decide_eq_true rfl]; rfl)) ?_) ?_
  · generalize flipsFor m = o at ho
    cases o with
    | none => exact t_andC (C1 := (· = false)) (C2 := (· = false)) (t_B (ev_notO (o := none) (ev_var rfl))) (fun c => nomatch c) (fun c => nomatch c) fun _ => rfl
    | some fl =>
      have hl := ho fl rfl
      exact t_is (t_and (a := true) (b := false) (t_B (ev_notO (o := some fl) (ev_var rfl))) fun _ => t_notB (ev_allN (xs := fl) (f := bP) (fun _ => true) (ei_tup (ev_var rfl)) (by omega) fun x hx => ev_isiB (ev_var rfl)) (List.all_eq_true.mpr fun _ _ => rfl)) rfl
  · refine q_set (P := lP (List.replicate 2 (flA m.many))) (ev_frz (ef_lcK (xs := List.range 2) (f := uP) (ei_range ev_c (by decide)) List.length_range (by decide) (by decide) fun x hx => ev_drawFl m2 (fun y => rfl) (ev_var rfl))) ?_
    refine q_set (P := lP (List.replicate 4 (flA m.many))) (ev_frz (ef_op (ev_var rfl) (ev_frz (ef_lst2 (P1 := flA m.many) (P2 := flA m.many) (ev_any (x := List.replicate m.many false) (ev_rep_fl (ev_var rfl) m1 m2) List.length_replicate) (ev_optA rfl ho (ev_any (x := List.replicate m.many true) (ev_rep_fl (ev_var rfl) m1 m2) List.length_replicate)))) (o_catL (show 2 + 2 ≤ 1000000 by decide)))) ?_
    refine q_for (T := fun i e => EnvLe e [.sh HandG, .fz (ldP m), .fz (mdlP (mC K) m), .fz (uP m.many), .no, .no, .no, .no, .no, .no, .no, .no, .no, .no, .no]) (ei_list (ev_var rfl)) (by repeat (first | exact le_z | apply le_k | apply le_n)) (fun B i Q env' hQ hT => ?_) fun env' hT => at_le hT (at_ret ev_c R.rt)
    have eQ : flA m.many = Q := by
      rw [List.getElem?_replicate] at hQ
      split at hQ
      · exact Option.some.inj hQ
      · cases hQ
    subst eQ
    refine ⟨_, _, fun σ F H v e sl q Q' k => tg_name σ F H v e (sl.le hT) q Q' k, at_any (i := 7) rfl fun fl hl => ?_⟩
    refine q_no (t_notB (ev_call (ea_cons (ev_call (ea_cons (ev_var rfl) (ea_cons (ev_var rfl) ea_nil)) ⟨m, fl, rfl, wf, hl, rfl⟩) (ea_cons (ev_call (ea_cons (ev_var rfl) (ea_cons (ev_var rfl) ea_nil)) ⟨m, fl, rfl, wf, hl, rfl⟩) ea_nil)) ⟨risesM m fl, risesM m fl, rfl, rfl⟩) (decide_eq_true rfl)) ?_
    refine q_set (P := tP [nsT (endLo m.levels fl), nsT (endHi m.levels fl)]) (ev_call (ea_cons (ev_var rfl) (ea_cons (ev_var rfl) ea_nil)) ⟨m, fl, rfl, wf, hl, rfl⟩) ?_
    refine q_no (t_is (t_and (a := endsFit m fl) (b := false) (t_B (ev_fit (a := 0) (ev_var rfl) (fun p hp => ev_call (ea_cons (ev_var rfl) (ea_cons (ev_var rfl) ea_nil)) ⟨m, p, rfl, wf, hp, rfl⟩) wf hl)) fun hf => t_testF (ev_op (ev_call (ea_cons (ev_var rfl) (ea_cons (ev_var rfl) ea_nil)) ⟨m, fl, rfl, wf, hl, hf, rfl⟩) (ev_var rfl) (o_neD hd_ends hd_ends (by decide) (by decide))) (by rw [eqv_ends]; rfl)) (Bool.and_false _)) ?_
    refine q_tgt (P := lP [picA m, picA m]) (ev_is (ev_frz (ef_lcK (n := 2) (P := picA m) (xs := List.range 2) (f := uP) (ei_range ev_c (by decide)) List.length_range (by decide) (by decide) fun x hx => ?_)) rfl) (tg_unl (tgs_cons tg_name (tgs_cons tg_name tgs_nil))) ?_
    · exact ev_le (ev_tupAny (C := fun r : Nat => r < m.levels) (f := uP) (ef_lcK (n := m.many) (xs := List.range m.many) (f := uP) (ei_range (ev_var rfl) (by omega)) List.length_range (by omega) (by decide) fun y hy => ev_draw (n := m.levels) rfl (ev_dget (ev_var rfl) (k := Sum.inr "levels") ev_c rfl) l1 (by omega))) fun F v z => anyP_le (fun p c => c) F v z
    · obtain ⟨oLo, oHi⟩ := end_ok wf hl
      refine q_set (P := picA m) (ev_le (ev_mem rfl (ev_frz (ef_lst (as_cons (ev_var rfl) (as_cons (ev_var rfl) (as_cons (ev_var rfl) (as_cons (ev_any (C := PicOk m) (x := endLo m.levels fl) (ev_ix (ev_var rfl) ev_c rfl) oLo) as_nil)))) (show 4 ≤ 1000 by decide))) (by simp) (show 4 ≤ 1000 by decide)) (memP_one fun Q hQ => ?_)) ?_
      · simp only [List.mem_cons, List.not_mem_nil, or_false] at hQ
        rcases hQ with e | e | e | e <;> exact e
      · refine at_any (i := 9) rfl fun x hx => at_any (i := 10) rfl fun y hy => ?_
        refine q_no (t_notB (ev_call (ea_cons (ev_call (ea_cons (ev_var rfl) (ea_cons (ev_var rfl) (ea_cons (ev_var rfl) (ea_cons (ev_var rfl) ea_nil)))) ⟨m, fl, x, y, rfl, wf, hl, hx, hy, rfl⟩) (ea_cons (ev_call (ea_cons (ev_var rfl) (ea_cons (ev_var rfl) (ea_cons (ev_var rfl) ea_nil))) ⟨true, fl, x, y, rfl, by omega, by rw [hx.1, hl], by rw [hy.1, hl], rfl⟩) ea_nil)) ⟨rowBelow fl x y, rowBelow fl x y, rfl, rfl⟩) (decide_eq_true rfl)) ?_
        exact at_no (t_orF (t_notB (ev_call (ea_cons (ev_var rfl) (ea_cons (ev_var rfl) (ea_cons (ev_ix (ev_var rfl) ev_c rfl) (ea_cons (ev_var rfl) ea_nil)))) ⟨m, fl, endLo m.levels fl, y, rfl, wf, hl, oLo, hy, rfl⟩) (below_lo hy.2)) (t_notB (ev_call (ea_cons (ev_var rfl) (ea_cons (ev_var rfl) (ea_cons (ev_var rfl) (ea_cons (ev_ix (ev_var rfl) ev_c rfl) ea_nil)))) ⟨m, fl, y, endHi m.levels fl, rfl, wf, hl, hy, oHi, rfl⟩) (below_hi hy.2))) (at_sat (by repeat (first | exact le_z | apply le_k | apply le_n)))
theorem cut_len {fl : List Bool} : (cutA fl none (some (-1))).length = fl.length - 1 := by
  unfold cutA
  rw [HT.sIx_none, List.drop_zero, Nat.sub_zero, List.length_take]
  have e : HT.sIx fl.length fl.length (some (-1)) = fl.length - 1 := by
    show (if (-1 : Int) < 0 then ((-1 : Int) + (fl.length : Int)).toNat else min (-1 : Int).toNat fl.length) = _
    rw [if_pos (by decide)]
    omega
  rw [e]
  omega
theorem b_law_is_wide_right : Body N_law_is_wide_right (t_law_is_wide_right K Pr0 w) (pr_law_is_wide_right K w) := by
  rintro W svs post D ⟨rfl, rfl⟩ R
  show At W _ [.sh HandG, .no, .no, .no, .no, .no, .no, .no, .no, .no]
  refine q_setA (C := fun n : Nat => 7 ≤ n ∧ n ≤ 12) (f := uP) (ev_le (ev_op ev_c (ev_draw (n := 6) rfl ev_c (by decide) (by decide)) (o_any2 (α := Nat) (f := uP) (g := fun r : Nat => iP (7 + (r : Int))) fun r _ => o_add)) fun F v z => ?_) fun n ⟨n7, n12⟩ => ?_
  · obtain ⟨r, hr, z⟩ := z
    refine ⟨7 + r, by omega, ?_⟩
    show v = .int ((7 + r : Nat) : Int)
    rw [show v = .int (7 + (r : Int)) from z, Int.natCast_add]
    rfl
  · refine q_setA (C := fun m : Mdl => WF m ∧ m.many = n) (f := ldP) (ev_call (ea_sh rfl (ea_cons (ev_var rfl) (ea_cons (P := levP) (ev_ifC (C := fun _ => True) (t_true (t_test (ev_op (ev_var rfl) ev_c o_lt))) (fun _ => ev_memA (f := uP) [2, 2, 2, 3] rfl (ev_frz (ef_lst (as_cons ev_c (as_cons ev_c (as_cons ev_c (as_cons ev_c as_nil)))) (show 4 ≤ 1000 by decide))) (by decide) (by decide) (by decide)) fun _ => ev_any (x := 2) ev_c (by decide)) ea_nil))) ⟨n, rfl, by omega, n12, rfl⟩) fun m ⟨wf, hm⟩ => ?_
    subst hm
    refine q_par3 (em_cons (P := mdlP (mC K) m) (ev_call (ea_cons (ev_var rfl) ea_nil) ⟨m, rfl, wf, rfl⟩) (em_cons (P := lP ((List.range m.many).map (knownP w m))) (ev_call (ea_cons (ev_var rfl) ea_nil) ⟨m, rfl, wf, rfl⟩) (em_cons (P := opP none) ev_c em_nil))) ?_
    refine q_forE (xs := allFlips m.many) (f := flT) (fun (pre : List (List Bool)) => [.sh HandG, .fz (uP m.many), .fz (ldP m), .fz (mdlP (mC K) m), .fz (lP ((List.range m.many).map (knownP w m))), .fz (opP (pre.find? (goodF m))), .no, .no, .no, .no]) (ei_list (ev_call (ea_cons (P := lP ((List.replicate m.many [false, true]).map fun r => lP (r.map bP))) ?_ ea_nil) ⟨Bool, bP, List.replicate m.many [false, true], 2, rfl, by decide, fun r hr => ?_, ?_, ?_, rfl⟩)) (EnvLe.refl _) (fun B pre fl post hz => ⟨_, _, tg_name, ?_⟩) ?_
    · rw [← rep_map]
      exact ev_frz (ef_rep (ev_frz (ef_lst2 ev_c ev_c)) (ev_var rfl) rfl (by omega))
    · rw [List.eq_of_mem_replicate hr]
      exact Nat.le_refl 2
    · rw [List.length_replicate]
      exact Nat.le_trans (Nat.pow_le_pow_right (by decide) n12) (by decide)
    · rw [List.length_replicate]
      exact n12
    · have hl : fl.length = m.many := flips_each (mem_split2 hz)
      have hfind : (pre ++ [fl]).find? (goodF m) = match pre.find? (goodF m) with
          | some x => some x
          | none => if goodF m fl = true then some fl else none := by
        rw [List.find?_append]
        cases pre.find? (goodF m) with
        | some x => rfl
        | none =>
          show (match goodF m fl with | true => some fl | false => none) = _
          cases goodF m fl <;> rfl
      refine at_if (C := (· = ((pre.find? (goodF m)).isNone && risesM m fl))) (t_and (t_B (ev_isO (ev_var rfl))) fun _ => t_B (ev_call (ea_cons (ev_var rfl) (ea_cons (ev_var rfl) ea_nil)) ⟨m, fl, rfl, wf, hl, rfl⟩)) (fun c => ?_) fun c => at_sat ?_
      · have c' := c.symm
        rw [Bool.and_eq_true] at c'
        have e0 : pre.find? (goodF m) = none := Option.isNone_iff_eq_none.mp c'.1
        refine at_set (P := opP (if endsFit m fl = true then some fl else none)) (ev_if (f := opP) (t_B (ev_fit (a := 0) (ev_call (ea_cons (ev_var rfl) (ea_cons (ev_var rfl) ea_nil)) ⟨m, fl, rfl, wf, hl, rfl⟩) (fun p hp => ev_call (ea_cons (ev_var rfl) (ea_cons (ev_var rfl) ea_nil)) ⟨m, p, rfl, wf, hp, rfl⟩) wf hl)) (fun _ => ev_var rfl) fun _ => ev_c) (at_sat (le_k (le_k (le_k (le_k (le_k (le_f ?_ (le_n (le_k (le_k (le_k le_z)))))))))))
        have eg : goodF m fl = endsFit m fl := by
          unfold goodF
          rw [c'.2, Bool.and_true]
        rw [hfind, e0, eg]
      · refine le_k (le_k (le_k (le_k (le_k (le_f ?_ (le_n (le_k (le_k (le_k le_z)))))))))
        rw [hfind]
        cases ho : pre.find? (goodF m) with
        | some x => rfl
        | none =>
          rw [ho] at c
          have eg : goodF m fl = false := by
            unfold goodF
            rw [show risesM m fl = false from c.symm, Bool.and_false]
          show opP none = opP (if goodF m fl = true then some fl else none)
          rw [eg, if_neg Bool.false_ne_true]
    · have ho : ∀ fl, flipsFor m = some fl → fl.length = m.many := fun fl h => (flips_some h).1
      have hg : ∀ fl, flipsFor m = some fl → endsFit m fl = true := fun fl h => by
        have := (flips_some h).2
        unfold goodF at this
        rw [Bool.and_eq_true] at this
        exact this.1
      refine q_no (t_testF (ev_op (P1 := opP (flipsFor m)) (P2 := opP (flipsFor m)) (ev_call (ea_cons (ev_var rfl) ea_nil) ⟨m, rfl, wf, rfl⟩) (ev_var rfl) (o_neD hd_op hd_op (by decide) (by decide))) (by rw [eqv_op, decide_eq_true rfl]; rfl)) ?_
      refine q_set (P := lP [flA m.many, flA m.many]) (ev_frz (ef_lst2 (ev_drawFl n12 (fun y => rfl) (ev_var rfl)) (ev_any (x := List.replicate m.many false) (ev_rep_fl (ev_var rfl) (by omega) n12) List.length_replicate))) ?_
      have e0 : (allFlips m.many).find? (goodF m) = flipsFor m := rfl
      rw [e0]
      generalize flipsFor m = o at ho hg
      have key : ∃ k, EvP W (tOp rCat (tVar 7) (tIf (tB (tNotN (tVar 5))) (tLst (tCons (tVar 5) (tCons (tOp (rCatA K) (tSl (rSlA K) (tVar 5) tNoPart (tPart (tUn rNeg (tC (.int 1))))) (tTup (tCons (tNotV (tOp (rIxT K) (tVar 5) (tUn rNeg (tC (.int 1))))) tNil))) tNil))) (tLst tNil))) [.sh HandG, .fz (uP m.many), .fz (ldP m), .fz (mdlP (mC K) m), .fz (lP ((List.range m.many).map (knownP w m))), .fz (opP o), .no, .fz (lP [flA m.many, flA m.many]), .no, .no] (lP (List.replicate k (flA m.many))) := by
        cases o with
        | none =>
          refine ⟨2, ev_frz (ef_op (ev_var rfl) (ev_ifC (P := lP []) (C := (· = false)) (t_B (ev_notO (o := none) (ev_var rfl))) (fun c => nomatch c) fun _ => ev_frz ef_lst0) (o_catL (show 2 + 0 ≤ 1000000 by decide)))⟩
        | some fl =>
          have hl := ho fl rfl
          have hne : fl ≠ [] := fun e => by
            rw [e] at hl
            simp at hl
            omega
          refine ⟨4, ev_frz (ef_op (ev_var rfl) (ev_ifC (P := lP [flA m.many, flA m.many]) (C := (· = true)) (t_B (ev_notO (o := some fl) (ev_var rfl))) (fun _ => ev_frz (ef_lst2 (ev_any (x := fl) (ev_var rfl) hl) ?_)) fun c => nomatch c) (o_catL (show 2 + 2 ≤ 1000000 by decide)))⟩
          have h1 := ev_sliceT (K := K) (W := W) (env := [.sh HandG, .fz (uP m.many), .fz (ldP m), .fz (mdlP (mC K) m), .fz (lP ((List.range m.many).map (knownP w m))), .fz (opP (some fl)), .no, .fz (lP [flA m.many, flA m.many]), .no, .no]) (Ps := fl.map bP) (te := tVar 5) (ev_var rfl) eo_none (eo_some (ev_neg (i := 1) ev_c))
          rw [cutA_map] at h1
          refine ev_any (x := cutA fl none (some (-1)) ++ [!fl.getLastD false]) (ev_is (ev_op h1 (ev_tup1 (P1 := bP (!fl.getLastD false)) (ev_notV (ev_ix (Ps := fl.map bP) (ev_var rfl) (ev_neg ev_c) (last_map hne)))) (o_catT ?_)) ?_) ?_
          · rw [List.length_map, cut_len]
            show _ + 1 ≤ 1000000
            omega
          · show _ = tP ((cutA fl none (some (-1)) ++ [!fl.getLastD false]).map bP)
            rw [List.map_append]
            rfl
          · rw [List.length_append, cut_len]
            show fl.length - 1 + 1 = m.many
            have := List.length_pos_iff.mpr hne
            omega
      obtain ⟨k, key⟩ := key
      refine q_for (T := fun i e => EnvLe e [.sh HandG, .fz (uP m.many), .fz (ldP m), .fz (mdlP (mC K) m), .fz (lP ((List.range m.many).map (knownP w m))), .fz (opP o), .no, .no, .no, .no]) (ei_list key) (by repeat (first | exact le_z | apply le_k | apply le_n)) (fun B i Q env' hQ hT => ?_) fun env' hT => at_le hT ?_
      · have eQ : flA m.many = Q := by
          rw [List.getElem?_replicate] at hQ
          split at hQ
          · exact Option.some.inj hQ
          · cases hQ
        subst eQ
        refine ⟨_, _, fun σ F H v e sl q Q' k => tg_name σ F H v e (sl.le hT) q Q' k, at_any (i := 6) rfl fun fl hl => ?_⟩
        exact at_no (t_notB (ev_call (ea_cons (ev_call (ea_cons (ev_var rfl) (ea_cons (ev_var rfl) ea_nil)) ⟨m, fl, rfl, wf, hl, rfl⟩) (ea_cons (ev_call (ea_cons (ev_var rfl) (ea_cons (ev_var rfl) ea_nil)) ⟨m, fl, rfl, wf, hl, rfl⟩) ea_nil)) ⟨risesM m fl, risesM m fl, rfl, rfl⟩) (decide_eq_true rfl)) (at_sat (by repeat (first | exact le_z | apply le_k | apply le_n)))
      · refine at_ret ?_ R.rt
        cases o with
        | none => exact ev_true (ev_orV (a := true) (b := true) (ev_isO (o := none) (ev_var rfl)) fun c => nomatch c) rfl
        | some fl =>
          have hl := ho fl rfl
          exact ev_true (ev_orV (a := false) (b := true) (ev_isO (o := some fl) (ev_var rfl)) fun _ => ev_true (ev_op (ev_call (ea_cons (ev_var rfl) (ea_cons (ev_var rfl) ea_nil)) ⟨m, fl, rfl, wf, hl, hg fl rfl, rfl⟩) (ev_call (ea_cons (ev_var rfl) (ea_cons (ev_var rfl) ea_nil)) ⟨m, fl, rfl, wf, hl, rfl⟩) (o_eqD hd_ends hd_ends (by decide) (by decide))) eqv_ends) rfl
end
section
variable {K : PySem.W.Frag} {Pr0 : Program} {w : World}
def tri5 : List (Nat × Nat × Nat) := [(3, 4, 2), (2, 6, 3), (4, 3, 1), (1, 12, 3), (2, 2, 0)]
theorem grid5 : ∀ x ∈ tri5, GridOk x.1 x.2.1 x.2.2 := by
  have h : ∀ x ∈ tri5, (1 ≤ x.1 ∧ 1 ≤ x.2.1) ∧ (x.1 * x.2.1 ≤ 12 ∧ x.2.2 ≤ 3) ∧ WF (stacksM x.1 x.2.1 x.2.2) := by decide +kernel
  exact fun x hx => let ⟨⟨a, b⟩, ⟨c, d⟩, e⟩ := h x hx; ⟨a, b, c, d, e⟩
theorem hand_a : goodF (stacksM 3 4 2) (List.replicate (3 * 4) false) = true := by decide +kernel
theorem hand_b : goodF (stacksM 2 6 3) (List.replicate (2 * 6) false) = true := by decide +kernel
theorem hand_c : goodF (stacksM 4 3 1) (List.replicate (4 * 3) false) = true := by decide +kernel
theorem hand_d : goodF (stacksM 1 12 3) (List.replicate (1 * 12) false) = true := by decide +kernel
theorem hand_e : goodF (stacksM 2 2 0) (List.replicate (2 * 2) false) = true := by decide +kernel
theorem hand5 : ∀ x ∈ tri5, goodF (stacksM x.1 x.2.1 x.2.2) (List.replicate (x.1 * x.2.1) false) = true := fun x hx => by
  rcases List.mem_cons.mp hx with e | hx
  · rw [e]; exact hand_a
  rcases List.mem_cons.mp hx with e | hx
  · rw [e]; exact hand_b
  rcases List.mem_cons.mp hx with e | hx
  · rw [e]; exact hand_c
  rcases List.mem_cons.mp hx with e | hx
  · rw [e]; exact hand_d
  rw [List.mem_singleton.mp hx]
  exact hand_e
theorem ev_plus {W : Wd} {env : List Sv} {i n a : Nat} {E : XK} (hi : env[i]? = some (.sh HandG)) (h1 : 1 ≤ n) (h2 : n < 1000000) : EvP W (tOp rAddI (tC (.int (a : Int))) (tCall (SpX (pr_law_draw K w)) [] E (tCons (tVar i) (tCons (tC (.int (n : Int))) tNil)))) env (anyP (fun r : Nat => a ≤ r ∧ r < a + n) uP) := ev_le (ev_op ev_c (ev_draw (n := n) hi ev_c h1 h2) (o_any2 (α := Nat) (f := uP) (g := fun r : Nat => iP ((a : Int) + (r : Int))) fun r _ => o_add)) fun F v z => by
  obtain ⟨r, hr, z⟩ := z
  refine ⟨a + r, by omega, ?_⟩
  show v = .int ((a + r : Nat) : Int)
  rw [show v = .int ((a : Int) + (r : Int)) from z, Int.natCast_add]
theorem t_neO {W : Wd} {env : List Sv} {te tb : TE} {o o' : Option (List Bool)} (h1 : EvP W te env (opP o)) (h2 : EvP W tb env (opP o')) (e : o = o') : EvT W (tTest (tOp (rNeD K) te tb)) env (· = false) := t_testF (ev_op h1 h2 (o_neD hd_op hd_op (by decide) (by decide))) (by rw [eqv_op, decide_eq_true e]; rfl)
theorem b_law_is_hand_right : Body N_law_is_hand_right (t_law_is_hand_right K Pr0 w) (pr_law_is_hand_right K w) := by
  rintro W svs post D ⟨rfl, rfl⟩ R
  show At W _ [.sh HandG, .no, .no, .no, .no, .no, .no, .no, .no, .no, .no, .no, .no]
  refine q_setA (C := fun n : Nat => 4 ≤ n ∧ n < 4 + 9) (f := uP) (ev_plus (a := 4) (n := 9) rfl (by decide) (by decide)) fun n ⟨n4, n13⟩ => ?_
  refine q_tgtA (C := TreeOk n) (f := fun x => tP [tP (x.1.map pairP), flT x.2]) (ev_call (ea_sh rfl (ea_cons (ev_var rfl) ea_nil)) ⟨n, rfl, n4, by omega, rfl⟩) fun tr ht => ⟨_, _, tg2 (P1 := tP (tr.1.map pairP)) (P2 := flT tr.2), ?_⟩
  refine q_par (em_cons (P := anyP (fun r : Nat => 1 ≤ r ∧ r < 1 + 3) uP) (ev_plus (a := 1) (n := 3) rfl (by decide) (by decide)) (em_cons (P := anyP (fun r : Nat => 4 ≤ r ∧ r < 4 + 997) uP) (ev_plus (a := 4) (n := 997) rfl (by decide) (by decide)) em_nil)) ?_
  refine at_any (i := 4) rfl fun l ⟨l1, l4⟩ => at_any (i := 5) rfl fun mo ⟨mo4, mo1⟩ => ?_
  show At W _ [.sh HandG, .fz (uP n), .fz (tP (tr.1.map pairP)), .fz (flT tr.2), .fz (uP l), .fz (uP mo), .no, .no, .no, .no, .no, .no, .no]
  have n12 : n ≤ 12 := by omega
  have n1 : 1 ≤ n := by omega
  have lo : 0 ≤ (l : Int) ∧ (l : Int) ≤ 1000 := by omega
  have hi : 0 ≤ (mo : Int) ∧ (mo : Int) ≤ 1000 := by omega
  have one : 0 ≤ (1 : Int) ∧ (1 : Int) ≤ 1000 := by decide
  have nul : 0 ≤ (0 : Int) ∧ (0 : Int) ≤ 1000 := by decide
  have tdeg : ∀ i, i < n → deg tr.1 i ≤ 4 := fun i hi => by
    rw [← deg_mk tr.1 []]
    exact ht.few i hi
  have tbd : ∀ p ∈ tr.1, p.1 < n ∧ p.2 < n := fun p hp => by
    have := ht.prs.2 p hp
    omega
  have rdeg : ∀ i, i < n → deg (ringP n) i ≤ 4 := fun i _ => Nat.le_succ_of_le ring_deg
  have rok := ring_pairs (n := n) (by omega) n12
  have rbd : ∀ p ∈ ringP n, p.1 < n ∧ p.2 < n := fun p hp => by
    have := rok.2 p hp
    omega
  have ll : (l : Int) * (l : Int) < (mo : Int) * (mo : Int) := by
    have h1 : l * l ≤ 3 * 3 := Nat.mul_le_mul (by omega) (by omega)
    have h2 : 4 * 4 ≤ mo * mo := Nat.mul_le_mul (by omega) (by omega)
    have e1 : (l : Int) * (l : Int) = ((l * l : Nat) : Int) := (Int.natCast_mul ..).symm
    have e2 : (mo : Int) * (mo : Int) = ((mo * mo : Nat) : Int) := (Int.natCast_mul ..).symm
    rw [e1, e2]
    omega
  have pl : 0 < (l : Int) := by omega
  have pm : 0 < (mo : Int) := by omega
  have rep : ∀ {W' : Wd} {env : List Sv}, env[1]? = some (.fz (uP n)) → EvP W' (tOp (rRepQ K) (tTup (tCons (tC (.bl false)) tNil)) (tVar 1)) env (opP (some (List.replicate n false))) := fun e => ev_rep_fl (ev_var e) n1 n12
  have sp : ∀ {W' : Wd} {env : List Sv} {ps : List Pr} {a b j1 j2 j3 : Nat}, env[1]? = some (.fz (uP n)) → env[j1]? = some (.fz (tP (ps.map pairP))) → env[j2]? = some (.fz (uP a)) → env[j3]? = some (.fz (uP b)) → WF (spinsM n ps a b) → EvP W' (tCall (SpX (pr_flips_for K w)) [] E0 (tCons (tCall (SpX (pr_spins K w)) [] E0 (tCons (tVar 1) (tCons (tVar j1) (tCons (tVar j2) (tCons (tVar j3) tNil))))) tNil)) env (opP (flipsFor (spinsM n ps a b))) := fun {W' env ps a b j1 j2 j3} e1 e2 e3 e4 wf => ev_call (ea_cons (ev_call (ea_cons (ev_var e1) (ea_cons (ev_var e2) (ea_cons (ev_var e3) (ea_cons (ev_var e4) ea_nil)))) ⟨n, ps, a, b, rfl, wf, rfl⟩) ea_nil) ⟨spinsM n ps a b, rfl, wf, rfl⟩
  refine q_no (t_neO (sp rfl rfl rfl rfl (wf_bm n1 n12 ht.prs tdeg hi lo hi one)) (rep rfl) (hand_zero (c := 1) (a := (mo : Int)) (b := (l : Int)) (d := (mo : Int)) pm pl pm (by decide) tbd (Int.le_of_lt ll))) ?_
  refine q_no (t_orF (t_neO (o' := some tr.2) (sp rfl rfl rfl rfl (wf_bm n1 n12 ht.prs tdeg lo hi lo one)) (ev_var rfl) (hand_sides (c := 1) (a := (l : Int)) (b := (mo : Int)) (d := (l : Int)) n1 pl pm lo.1 (by decide) ll tbd ht.len ht.s0 ht.alt ht.con)) (t_neO (o' := some tr.2) (ev_call (ea_cons (ev_call (ea_cons (ev_var rfl) (ea_cons (ev_var rfl) (ea_cons (ev_var rfl) ea_nil))) ⟨n, tr.1, l, rfl, wf_bm n1 n12 ht.prs tdeg one one nul lo, rfl⟩) ea_nil) ⟨apartM n tr.1 l, rfl, wf_bm n1 n12 ht.prs tdeg one one nul lo, rfl⟩) (ev_var rfl) (hand_sides (c := (l : Int)) (a := 1) (b := 1) (d := 0) n1 (by decide) (by decide) (by decide) pl (by decide) tbd ht.len ht.s0 ht.alt ht.con))) ?_
  refine q_set (P := tP ((ringP n).map pairP)) (ev_tupL (ev_frz (ef_call1 (P1 := lP ((((List.range (n - 1)).map fun k => (k, k + 1)) ++ [(0, n - 1)]).map pairP)) (ev_is (ev_frz (ef_op (ev_frz (ef_line (by omega) rfl (show 12 < 13 by decide))) (ev_frz (ef_lst1 (P1 := pairP (0, n - 1)) (ev_tup2 ev_c (ev_i (ev_op (ev_var rfl) ev_c o_sub) (by omega))))) (o_catL ?_))) ?_) (c1_sortT ?_ (fun p hp => ?_) (sortP_perm _) (sortP_le _))))) ?_
  · rw [List.length_map, List.length_map, List.length_range]
    show _ + 1 ≤ 1000000
    omega
  · rw [List.map_append]
    rfl
  · rw [List.length_append, List.length_map, List.length_range]
    show _ + 1 < 64
    omega
  · have := (good_ring (n := n) (by omega)).bd p hp
    omega
  · refine q_set (P := opP (ringS n)) (ev_is (ev_if (f := opP) (b := decide (n % 2 = 0)) (x := some ((List.range n).map fun k => decide (k % 2 = 1))) (y := none) (t_testT (ev_op (ev_op (ev_call1 (ev_var rfl) c1_int) ev_c (o_mod (by decide))) ev_c o_eqI) (decide_eq_decide.mpr (by omega))) (fun _ => ?_) fun _ => ev_c) ?_) ?_
    · refine ev_tupL (ev_frz (Ps := ((List.range n).map fun k => decide (k % 2 = 1)).map bP) ?_)
      rw [List.map_map]
      exact ef_lcN (xs := List.range n) (f := uP) (ei_range (ev_var rfl) (by omega)) (by rw [List.length_range]; omega) (by decide) fun k hk => ev_b (ev_op (ev_op (ev_call1 (ev_var rfl) c1_int) ev_c (o_mod (by decide))) ev_c o_eqI) (decide_eq_decide.mpr (by omega))
    · unfold ringS
      by_cases h : n % 2 = 0
      · rw [if_pos h, if_pos (decide_eq_true h)]
      · rw [if_neg h, if_neg (by rw [decide_eq_false h]; exact Bool.false_ne_true)]
    · refine q_no (t_orF (t_neO (sp rfl rfl rfl rfl (wf_bm n1 n12 rok rdeg lo hi lo one)) (ev_var rfl) (ring_hand (c := 1) (a := (l : Int)) (b := (mo : Int)) (d := (l : Int)) (by omega) pl pm lo.1 (by decide) ll)) (t_neO (sp rfl rfl rfl rfl (wf_bm n1 n12 rok rdeg hi lo hi one)) (rep rfl) (hand_zero (c := 1) (a := (mo : Int)) (b := (l : Int)) (d := (mo : Int)) pm pl pm (by decide) rbd (Int.le_of_lt ll)))) ?_
      refine q_tgtA (C := fun x => x ∈ tri5) (f := triP) (ev_memA (f := triP) tri5 rfl (ev_frz (ef_lst (as_cons (ev_tup3 ev_c ev_c ev_c) (as_cons (ev_tup3 ev_c ev_c ev_c) (as_cons (ev_tup3 ev_c ev_c ev_c) (as_cons (ev_tup3 ev_c ev_c ev_c) (as_cons (ev_tup3 ev_c ev_c ev_c) as_nil))))) (show 5 ≤ 1000 by decide))) (by decide) (by decide) fun x h => h) fun x hx => ⟨_, _, tg3 (P1 := uP x.1) (P2 := uP x.2.1) (P3 := uP x.2.2), ?_⟩
      have gr := grid5 x hx
      have gd := hand5 x hx
      have h12 := gr.rc
      have h22 : x.2.1 ≤ 12 := Nat.le_trans (Nat.le_mul_of_pos_left _ gr.r1) gr.rc
      have h1 : 1 ≤ x.1 * x.2.1 := Nat.mul_le_mul gr.r1 gr.c1
      have hr : ∀ {W' : Wd} {env : List Sv}, env[8]? = some (.fz (uP x.1)) → env[9]? = some (.fz (uP x.2.1)) → EvP W' (tOp rMulI (tVar 8) (tVar 9)) env (uP (x.1 * x.2.1)) := fun e1 e2 => ev_i (ev_op (ev_var e1) (ev_var e2) (o_mul (.inr (by omega)))) (Int.natCast_mul ..).symm
      have ge : endsFit (stacksM x.1 x.2.1 x.2.2) (List.replicate (x.1 * x.2.1) false) = true := by
        unfold goodF at gd
        rw [Bool.and_eq_true] at gd
        exact gd.1
      refine q_set (P := mdlP (mC K) (stacksM x.1 x.2.1 x.2.2)) (ev_call (ea_cons (ev_var rfl) (ea_cons (ev_var rfl) (ea_cons (ev_var rfl) ea_nil))) ⟨x.1, x.2.1, x.2.2, rfl, gr, rfl⟩) ?_
      refine q_no (t_neO (o' := some (List.replicate (x.1 * x.2.1) false)) (ev_call (ea_cons (ev_var rfl) ea_nil) ⟨stacksM x.1 x.2.1 x.2.2, rfl, gr.wf, rfl⟩) (ev_rep_fl (hr rfl rfl) h1 h12) (hand_first (m := stacksM x.1 x.2.1 x.2.2) gd)) ?_
      have e1 : endLo (x.2.2 + 1) (List.replicate (x.1 * x.2.1) false) = List.replicate (x.1 * x.2.1) 0 := List.map_replicate ..
      have e2 : endHi (x.2.2 + 1) (List.replicate (x.1 * x.2.1) false) = List.replicate (x.1 * x.2.1) x.2.2 := List.map_replicate ..
      refine at_ret (ev_b (c := true) (ev_op (P1 := tP [nsT (endLo (x.2.2 + 1) (List.replicate (x.1 * x.2.1) false)), nsT (endHi (x.2.2 + 1) (List.replicate (x.1 * x.2.1) false))]) (P2 := tP [nsT (endLo (x.2.2 + 1) (List.replicate (x.1 * x.2.1) false)), nsT (endHi (x.2.2 + 1) (List.replicate (x.1 * x.2.1) false))]) (ev_call (ea_cons (ev_var rfl) (ea_cons (ev_rep_fl (hr rfl rfl) h1 h12) ea_nil)) ⟨stacksM x.1 x.2.1 x.2.2, List.replicate (x.1 * x.2.1) false, rfl, gr.wf, List.length_replicate, ge, rfl⟩) ?_ (o_eqD hd_ends hd_ends (by decide) (by decide))) eqv_ends) R.rt
      rw [e1, e2]
      exact ev_tup2 (ev_is (ev_repT (n := x.1 * x.2.1) (P := uP 0) ev_c (hr rfl rfl) rfl h1 (by omega)) (by rw [rep_map])) (ev_is (ev_repT (n := x.1 * x.2.1) (P := uP x.2.2) (ev_var rfl) (hr rfl rfl) rfl h1 (by omega)) (by rw [rep_map]))
end
section
variable {K : PySem.W.Frag} {Pr0 : Program} {w : World}
/-! ### the hand -/
theorem ef_cutS {W : Wd} {env : List Sv} {te ti : TE} {ns : List Int} {n : Nat} (h : EvP W te env (scP K ns)) (hk : EvP W ti env (iP (n : Int))) : EvF W (tSl (rSlL K) te tNoPart (tPart ti)) env (isL (ns.take n)) := fun σ F H e so sl Q k =>
  h σ F H e so sl _ fun x F1 H1 g1 q1 => hk σ F1 H1 g1.eh (so.go g1) (sl.go g1) _ fun y F2 H2 g2 q2 => by
    obtain ⟨a, ex, h1⟩ := (scP K ns).m _ _ _ g2.fe q1
    refine ⟨(n : Int), q2, a, ns.map V.int, ex, ex_l g2.eh h1, fun p hp => ?_⟩
    refine k p _ F2 _ ((g1.trans g2).trans (Go.own g2.eh hp)) ((g1.trans g2).nn hp) (g2.eh.nn hp) upd_same ?_
    rw [show cutV (ns.map V.int) none (some (n : Int)) = (ns.map V.int).take n from cutA_to _ n, ← List.map_take]
    have e1 : isL (ns.take n) = ((ns.take n).map V.int).map sP := by
      rw [List.map_map]
      rfl
    rw [e1]
    exact all_sP' _
theorem key5 : ([Sum.inr "cells", Sum.inr "at", Sum.inr "great", Sum.inr "seed", Sum.inr "turn"] : List Key).Nodup := by decide
theorem b_law_hand : Body N_law_hand (t_law_hand K Pr0 w) (pr_law_hand K w) := by
  rintro W svs post D ⟨ns, rfl, hl, rfl⟩ R
  show At W _ [.fz (scP K ns), .no, .no]
  refine q_set (P := lP (isL ((ns.take 63).map fun i => (i.natAbs : Int)))) (ev_frz ?_) ?_
  · unfold isL
    rw [List.map_map]
    exact ef_lcN (xs := ns.take 63) (f := iP) (ei_list (ev_frz (ef_cutS (n := 63) (ev_var rfl) ev_c))) (by rw [List.length_take]; omega) (by decide) fun x hx => ev_call1 (ev_call1 (ev_var rfl) c1_int) c1_abs
  · refine at_ret (ev_le (ev_disp (eds_cons (P := lP (isL ((ns.take 63).map fun i => (i.natAbs : Int)))) (ev_var rfl) (eds_cons (P := iP 0) ev_c (eds_cons (P := iP 0) ev_c (eds_cons (P := iP (977 + (((ns.take 63).map fun i => (i.natAbs : Int)).length : Int))) (ev_op ev_c (ev_is (ev_lenL (ev_var rfl)) (by rw [List.length_map])) o_add) (eds_cons (P := iP 0) ev_c eds_nil))))) key5 (show 5 ≤ 15 by decide)) fun F v z => ?_) R.rt
    obtain ⟨p, o, ex, hp, kvs, eo, h⟩ := z
    subst eo
    cases h with
    | cons q1 h =>
    cases h with
    | cons q2 h =>
    cases h with
    | cons q3 h =>
    cases h with
    | cons q4 h =>
    cases h with
    | cons q5 h =>
    cases h
    rename_i v1 v2 v3 v4 v5
    obtain ⟨k1, x1⟩ := v1
    obtain ⟨k2, x2⟩ := v2
    obtain ⟨k3, x3⟩ := v3
    obtain ⟨k4, x4⟩ := v4
    obtain ⟨k5, x5⟩ := v5
    obtain ⟨e1, c, vs, ec, hc, hv⟩ := q1
    obtain ⟨e2, f2⟩ := q2
    obtain ⟨e3, f3⟩ := q3
    obtain ⟨e4, f4⟩ := q4
    obtain ⟨e5, f5⟩ := q5
    have g2 : x2 = .int 0 := f2
    have g3 : x3 = .int 0 := f3
    have g4 : x4 = .int _ := f4
    have g5 : x5 = .int 0 := f5
    have gc : x1 = .ref c := ec
    have j1 : k1 = (Sum.inr ("cells" : Str) : Key) := e1
    have j2 : k2 = (Sum.inr ("at" : Str) : Key) := e2
    have j3 : k3 = (Sum.inr ("great" : Str) : Key) := e3
    have j4 : k4 = (Sum.inr ("seed" : Str) : Key) := e4
    have j5 : k5 = (Sum.inr ("turn" : Str) : Key) := e5
    subst g2 g3 g4 g5 gc j1 j2 j3 j4 j5
    have e6 : isL ((ns.take 63).map fun i => (i.natAbs : Int)) = (((ns.take 63).map fun i => (i.natAbs : Int)).map V.int).map sP := by
      rw [List.map_map]
      rfl
    rw [e6] at hv
    rw [all_sP hv] at hc
    exact ⟨p, _, ex, hp, _, 0, 0, _, 0, c, rfl, hc, Int.le_refl 0⟩
/-! ### steps that change nothing -/
def Pu (te : TE) (σ : L2.St) (H : Hp) (v : V) : Prop := ∀ Q : VK, Q v H → te σ H Q
def PuT (tt : TT) (σ : L2.St) (H : Hp) (b : Bool) : Prop := ∀ Q : Bool → Hp → Prop, Q b H → tt σ H Q
section
variable {σ : L2.St} {H : Hp} {v x y : V} {ta tb te : TE} {tt tu : TT} {i j : Int} {a b : Bool} {kvs kvs' : List (Key × V)} {p : Addr} {k : Key} {D : Ends} {u : TS}
theorem pu_v {i : Nat} (h : σ[i]? = some (some v)) : Pu (tVar i) σ H v := fun Q q => ⟨v, h, q⟩
theorem pu_c : Pu (tC v) σ H v := fun Q q => q
theorem pu_get (h : Pu ta σ H (.ref p)) (e : H p = some (.dK kvs)) (hv : valV kvs k = some v) : Pu (tDGet ta (tC (kV k))) σ H v := fun Q q => h _ ⟨p, v, rfl, by rw [← hv]; exact DGet.k e, q⟩
theorem pu_op {C : Int → Int → Prop} {g : Int → Int → V} (h1 : Pu ta σ H (.int i)) (h2 : Pu tb σ H (.int j)) (c : C i j) : Pu (tOp (rI C g) ta tb) σ H (g i j) := fun Q q => h1 _ (h2 _ ⟨i, j, rfl, rfl, c, q⟩)
theorem pu_op0 {g : Int → Int → V} (h1 : Pu ta σ H (.int i)) (h2 : Pu tb σ H (.int j)) : Pu (tOp (rI0 g) ta tb) σ H (g i j) := fun Q q => h1 _ (h2 _ ⟨i, j, rfl, rfl, q⟩)
theorem pu_eq (h1 : Pu ta σ H (.int i)) (h2 : Pu tb σ H (.int j)) : Pu (tOp rEq ta tb) σ H (.bl (decide (i = j))) := fun Q q => h1 _ (h2 _ ⟨rfl, by rw [show decide (V.int i = V.int j) = decide (i = j) by rw [dec_int]; rfl]; exact q⟩)
theorem pu_int (h : Pu ta σ H (.int i)) : Pu (tCB rInt1 (tCons ta tNil)) σ H (.int i) := fun Q q => h _ (.inl ⟨i, rfl, q⟩)
theorem pu_len {vs : List V} (h : Pu ta σ H (.ref p)) (e : H p = some (.lst vs)) : Pu (tCB (rLenQ K) (tCons ta tNil)) σ H (.int vs.length) := fun Q q => h _ ⟨p, vs, rfl, .inl (.of e), q⟩
theorem pu_ix {vs : List V} (h : Pu ta σ H (.ref p)) (h2 : Pu tb σ H (.int i)) (e : H p = some (.lst vs)) (ha : atI vs i = some v) : Pu (tOp (rIxL K) ta tb) σ H v := fun Q q => h _ (h2 _ ⟨p, vs, i, v, rfl, rfl, .of e, ha, q⟩)
theorem pt_t (h : Pu ta σ H (.bl a)) : PuT (tTest ta) σ H a := fun Q q => h _ ⟨a, rfl, q⟩
theorem pt_a (h1 : PuT tt σ H a) (h2 : a = true → PuT tu σ H b) (e : a = false → b = false) : PuT (tAnd tt tu) σ H b := fun Q q => h1 _ (by
  show if a = true then tu σ H Q else Q false H
  cases a with
  | true => exact h2 rfl Q q
  | false => rw [e rfl] at q; exact q)
theorem st_asg {n : Nat} (h : Pu te σ H v) (k : D.nx (σ.set n (some v)) H) : tAsg te (gName n) D σ H := h _ k
theorem st_put (hv : Pu te σ H v) (h : Pu ta σ H (.ref p)) (e : H p = some (.dK kvs)) (hz : kvs.length ≤ 1000000) (hk : putK kvs k v = kvs') (q : D.nx σ (upd H p (.dK kvs'))) : sDPut ta (tC (kV k)) te D σ H := hv _ (h _ ⟨p, _, rfl, DPut.k e (szl hz), by rw [hk]; exact q⟩)
theorem sq_asg {n : Nat} (h : Pu te σ H v) (k : u D (σ.set n (some v)) H) : tSeq (tAsg te (gName n)) u D σ H := h _ k
theorem sq_put (hv : Pu te σ H v) (h : Pu ta σ H (.ref p)) (e : H p = some (.dK kvs)) (hz : kvs.length ≤ 1000000) (hk : putK kvs k v = kvs') (q : u D σ (upd H p (.dK kvs'))) : tSeq (sDPut ta (tC (kV k)) te) u D σ H := hv _ (h _ ⟨p, _, rfl, DPut.k e (szl hz), by rw [hk]; exact q⟩)
theorem st_if {c : TS} (h : PuT tt σ H a) (h1 : a = true → c D σ H) (h2 : a = false → u D σ H) : tIfS tt c u D σ H := h _ (by
  show if a = true then c D σ H else u D σ H
  cases a with
  | true => exact h1 rfl
  | false => exact h2 rfl)
theorem st_ret (h : Pu te σ H v) (q : D.rt v H) : tRet te D σ H := h _ q
theorem st_two {c : TS} (I : L2.St → Hp → Prop) (hu : ∀ σ' H', I σ' H' → u D σ' H') (hc : ∀ E : Ends, (∀ σ' H', I σ' H' → E.nx σ' H') → E.rt = D.rt → c E σ H) : tSeq c u D σ H := hc { D with nx := u D } hu rfl
end
theorem mod_ok {i : Int} {n : Nat} (h : 1 ≤ n) : ∃ r : Nat, r < n ∧ i % (n : Int) = (r : Int) := by
  have h1 := Int.emod_nonneg i (show (n : Int) ≠ 0 by omega)
  have h2 := Int.emod_lt_of_pos i (show (0 : Int) < (n : Int) by omega)
  exact ⟨(i % (n : Int)).toNat, by omega, by omega⟩
/-- the hand there, its cells there -/
structure HAt (W : Wd) (F : Hp) (p c : Addr) (cs : List Int) (n : Nat) (a g s t : Int) (σ : L2.St) (H : Hp) : Prop where
  v0 : σ[0]? = some (some (.ref p))
  v1 : σ[1]? = some (some (.int (n : Int)))
  ln : σ.length = 5
  hp : H p = some (handO a g s t c)
  hc : H c = some (.lst (cs.map V.int))
  a0 : 0 ≤ a
  go : Go W.S W.F0 W.H0 F H
theorem HAt.put {W : Wd} {F : Hp} {p c : Addr} {cs : List Int} {n : Nat} {a g s t a' g' s' t' : Int} {σ : L2.St} {H : Hp} (h : HAt W F p c cs n a g s t σ H) (hS : W.S p = some HandG) (hf : F p = none) (hF : F c = some (.lst (cs.map V.int))) (h0 : 0 ≤ a') : HAt W F p c cs n a' g' s' t' σ (upd H p (handO a' g' s' t' c)) where
  v0 := h.v0
  v1 := h.v1
  ln := h.ln
  hp := upd_same
  hc := by
    rw [upd_ne fun e => by rw [e, hf] at hF; cases hF]
    exact h.hc
  a0 := h0
  go := h.go.trans (Go.share h.go.eh hS hf ⟨cs, a', g', s', t', c, rfl, hF, h0⟩)
theorem HAt.set {W : Wd} {F : Hp} {p c : Addr} {cs : List Int} {n i : Nat} {a g s t : Int} {σ : L2.St} {H : Hp} {v : V} (h : HAt W F p c cs n a g s t σ H) (hi : 2 ≤ i) : HAt W F p c cs n a g s t (σ.set i (some v)) H where
  v0 := by rw [List.getElem?_set_ne (by omega)]; exact h.v0
  v1 := by rw [List.getElem?_set_ne (by omega)]; exact h.v1
  ln := by rw [List.length_set]; exact h.ln
  hp := h.hp
  hc := h.hc
  a0 := h.a0
  go := h.go
theorem set_get {σ : L2.St} {i : Nat} {v : V} (h : i < σ.length) : (σ.set i (some v))[i]? = some (some v) := List.getElem?_set_self h
theorem b_law_draw : Body N_law_draw (t_law_draw K Pr0 w) (pr_law_draw K w) := by
  rintro W svs post D ⟨n, rfl, n1, n2, rfl⟩ R σ F H g0 eB sl
  obtain ⟨x, hx, p, ex, hS⟩ := sl.ok 0 (.sh HandG) rfl
  obtain ⟨x1, hx1, y, ey, qy⟩ := sl.ok 1 (.fz (uP n)) rfl
  subst ex ey
  have qy' : y = .int (n : Int) := qy
  subst qy'
  obtain ⟨hf, o, ho, cs, a, g, s, t, c, eo, hF, a0⟩ := (W.ok.go g0).at_ p _ hS
  subst eo
  have h0 : HAt W F p c cs n a g s t σ H := ⟨hx, hx1, sl.len, ho, g0.eh _ _ hF, a0, g0⟩
  have ret : ∀ (i : Int) (H' : Hp), Go W.S W.F0 W.H0 F H' → D.rt (.int (i % (n : Int))) H' := fun i H' g' => by
    obtain ⟨r, h1, h2⟩ := mod_ok (i := i) n1
    exact R.rt _ F H' g' ⟨r, h1, by rw [h2]; rfl⟩
  refine st_two (fun σ' H' => ∃ a g s t, HAt W F p c cs n a g s t σ' H') (fun σ' H' ⟨a, g, s, t, h⟩ => ?_) fun E hE _ => ?_
  · refine st_two (fun σ' H' => ∃ a g s t, HAt W F p c cs n a g s t σ' H') (fun σ' H' ⟨a, g, s, t, h⟩ => ?_) fun E hE eR => ?_
    · refine sq_put (pu_op0 (pu_get (k := Sum.inr "turn") (pu_v h.v0) h.hp rfl) pu_c) (pu_v h.v0) h.hp (show 5 ≤ 1000000 by decide) (k := Sum.inr "turn") rfl ?_
      have h := h.put (a' := a) (g' := g) (s' := s) (t' := t + 1) hS hf hF h.a0
      refine sq_asg (pu_op (pu_int (pu_op (pu_int (pu_op0 (pu_op0 (pu_get (k := Sum.inr "seed") (pu_v h.v0) h.hp rfl) pu_c) (pu_op pu_c (pu_get (k := Sum.inr "turn") (pu_v h.v0) h.hp rfl) (.inl (by decide))))) pu_c (.inr (by decide)))) pu_c (by decide)) ?_
      have b1 : ∀ i : Int, 0 ≤ i % 2147483647 ∧ i % 2147483647 < 2147483647 := fun i => ⟨Int.emod_nonneg i (by decide), Int.emod_lt_of_pos i (by decide)⟩
      have c1 := b1 ((s + 1 + 7919 * (t + 1)) * 69621)
      generalize (s + 1 + 7919 * (t + 1)) * 69621 % 2147483647 = r1 at c1
      have v4 := set_get (σ := σ') (i := 4) (v := .int r1) (by rw [h.ln]; decide)
      have h := h.set (i := 4) (v := .int r1) (by decide)
      refine sq_asg (pu_op (pu_int (pu_op (pu_v v4) (pu_op0 (pu_op (pu_v v4) pu_c ⟨by decide, by decide⟩) pu_c) (.inl (by omega)))) pu_c (by decide)) ?_
      have c2 := b1 (r1 * (r1 / 1009 + 48271))
      generalize r1 * (r1 / 1009 + 48271) % 2147483647 = r2 at c2
      have v4 := set_get (i := 4) (v := .int r2) (show 4 < (σ'.set 4 (some (.int r1))).length by rw [h.ln]; decide)
      have h := h.set (i := 4) (v := .int r2) (by decide)
      refine sq_asg (pu_op (pu_int (pu_op (pu_v v4) (pu_op0 (pu_op (pu_v v4) pu_c ⟨by decide, by decide⟩) pu_c) (.inl (by omega)))) pu_c (by decide)) ?_
      have v4 := set_get (i := 4) (v := .int (r2 * (r2 / 2003 + 40692) % 2147483399)) (show 4 < ((σ'.set 4 (some (.int r1))).set 4 (some (.int r2))).length by rw [h.ln]; decide)
      have h := h.set (i := 4) (v := .int (r2 * (r2 / 2003 + 40692) % 2147483399)) (by decide)
      exact st_ret (pu_op (pu_int (pu_op (pu_v v4) pu_c ⟨by decide, by decide⟩)) (pu_v h.v1) (by omega)) (ret _ _ h.go)
    · refine st_if (a := decide (0 < g)) (pt_t (pu_op0 (pu_get (k := Sum.inr "great") (pu_v h.v0) h.hp rfl) pu_c)) (fun _ => ?_) fun _ => hE _ _ ⟨a, g, s, t, h⟩
      refine sq_asg (pu_op (pu_int (pu_get (k := Sum.inr "great") (pu_v h.v0) h.hp rfl)) (pu_v h.v1) (by omega)) ?_
      have v3 := set_get (σ := σ') (i := 3) (v := .int (g % (n : Int))) (by rw [h.ln]; decide)
      have h := h.set (i := 3) (v := .int (g % (n : Int))) (by decide)
      refine sq_put (pu_op (pu_get (k := Sum.inr "great") (pu_v h.v0) h.hp rfl) (pu_v h.v1) (by unfold CDiv; omega)) (pu_v h.v0) h.hp (show 5 ≤ 1000000 by decide) (k := Sum.inr "great") rfl ?_
      have h := h.put (a' := a) (g' := g / (n : Int)) (s' := s) (t' := t) hS hf hF h.a0
      refine st_ret (pu_v v3) ?_
      show E.rt _ _
      rw [eR]
      exact ret _ _ h.go
  · refine st_if (a := decide (g = 0) && decide (a < (cs.length : Int))) (pt_a (a := decide (g = 0)) (pt_t (pu_eq (pu_get (k := Sum.inr "great") (pu_v h0.v0) h0.hp rfl) pu_c)) (fun e => ?_) fun e => by rw [e]; rfl) (fun e => ?_) fun _ => hE _ _ ⟨a, g, s, t, h0⟩
    · rw [e, Bool.true_and]
      have := pt_t (pu_op0 (g := fun i j => .bl (decide (i < j))) (pu_get (k := Sum.inr "at") (pu_v h0.v0) h0.hp rfl) (pu_len (K := K) (pu_get (k := Sum.inr "cells") (pu_v h0.v0) h0.hp rfl) h0.hc))
      rw [List.length_map] at this
      exact this
    · rw [Bool.and_eq_true] at e
      have ha := of_decide_eq_true e.2
      have ea : a = ((a.toNat : Nat) : Int) := by omega
      have hat : atI (cs.map V.int) a = some (.int (cs.getD a.toNat 0)) := by
        rw [ea, Int.toNat_natCast]
        exact atI_getD (by omega)
      generalize cs.getD a.toNat 0 = z at hat
      refine sq_asg (pu_ix (pu_get (k := Sum.inr "cells") (pu_v h0.v0) h0.hp rfl) (pu_get (k := Sum.inr "at") (pu_v h0.v0) h0.hp rfl) h0.hc hat) ?_
      have v2 := set_get (σ := σ) (i := 2) (v := .int z) (by rw [h0.ln]; decide)
      have h := h0.set (i := 2) (v := .int z) (by decide)
      refine sq_put (pu_op0 (pu_get (k := Sum.inr "at") (pu_v h.v0) h.hp rfl) pu_c) (pu_v h.v0) h.hp (show 5 ≤ 1000000 by decide) (k := Sum.inr "at") rfl ?_
      have h := h.put (a' := a + 1) (g' := g) (s' := s) (t' := t) hS hf hF (by omega)
      refine sq_put (pu_op (pu_int (pu_op0 (pu_op0 (pu_op (pu_get (k := Sum.inr "seed") (pu_v h.v0) h.hp rfl) pu_c (.inr (by decide))) (pu_v v2)) pu_c)) pu_c (by decide)) (pu_v h.v0) h.hp (show 5 ≤ 1000000 by decide) (k := Sum.inr "seed") rfl ?_
      have h := h.put (a' := a + 1) (g' := g) (s' := (s * 48271 + z + 7) % 2147483629) (t' := t) hS hf hF (by omega)
      refine st_if (a := decide ((10 : Int) ^ (18 : Int).toNat ≤ z)) (pt_t (pu_op0 (pu_v v2) (pu_op pu_c pu_c (by unfold CPow; decide)))) (fun _ => ?_) fun _ => hE _ _ ⟨_, _, _, _, h⟩
      refine st_put (pu_v v2) (pu_v h.v0) h.hp (show 5 ≤ 1000000 by decide) (k := Sum.inr "great") rfl ?_
      exact hE _ _ ⟨_, _, _, _, h.put (a' := a + 1) (g' := z) (s' := (s * 48271 + z + 7) % 2147483629) (t' := t) hS hf hF (by omega)⟩
end
end Ly
namespace Ly
open PySem PySem.Spec PyProof.Rows L2
section
variable {K : PySem.W.Frag} {Pr0 : Program} {w : World}
/-! ### the law -/
theorem ev_orA {W : Wd} {env : List Sv} {ta tb : TE} {α : Type} {C : α → Prop} {f : α → Bool} (h1 : EvP W ta env (anyP C fun x => bP (f x))) (h2 : EvP W tb env (bP true)) : EvP W (tOrV ta tb) env (bP true) := fun σ F H e so sl Q k => h1 σ F H e so sl _ fun v F1 H1 g ⟨x, _, q⟩ => ⟨f x, q, by
  cases f x with
  | true =>
    rw [if_pos rfl]
    exact k _ F1 H1 g rfl
  | false =>
    rw [if_neg Bool.false_ne_true]
    exact h2 σ F1 H1 g.eh (so.go g) (sl.go g) Q fun v F2 H2 g2 q2 => k v F2 H2 (g.trans g2) q2⟩
def spLaw (K : PySem.W.Frag) : L2.Sp := fun vs H Q _ => ∃ (a : Addr) (ns : List Int), vs = [.ref a] ∧ ns.length ≤ 63 ∧ SqL K H a (ns.map V.int) ∧ ∀ H', Q (.bl true) H'
theorem ev_drawB {W : Wd} {env : List Sv} {i n : Nat} {g : Nat → Bool} {r : R2} {z : V} (hi : env[i]? = some (.sh HandG)) (h1 : 1 ≤ n) (h2 : n < 1000000) (hg : ∀ x, Op2 W.S r (uP x) (sP z) (bP (g x))) : EvP W (tOp r (tCall (SpX (pr_law_draw K w)) [] E0 (tCons (tVar i) (tCons (tC (.int (n : Int))) tNil))) (tC z)) env (anyP (fun r : Nat => r < n) fun x => bP (g x)) := ev_op (ev_draw (n := n) hi ev_c h1 h2) ev_c (o_any1 (f := uP) fun x _ => hg x)
theorem pure_law (vs : List V) (H : Hp) (Q : VK) (E : XK) (h : spLaw K vs H Q E) : t_law K Pr0 w { nx := fun _ H' => Q .non H', rt := Q } (L2.start N_law vs) H := by
  obtain ⟨a, ns, rfl, hl, hS, hQ⟩ := h
  let W1 : Wd := ⟨fun _ => none, H, H, H, ⟨fun a G e => nomatch e⟩⟩
  have sl1 : Slots W1 H H (L2.start N_law [.ref a]) [.fz (scP K ns), .no, .no] := args_slots (ok := W1.ok) (vs := [.ref a]) (svs := [.fz (scP K ns)]) (.cons ⟨a, rfl, hS⟩ .nil) 2
  have c1 : EvP W1 (tCall (SpX (pr_law_hand K w)) [] E0 (tCons (tVar 0) tNil)) [.fz (scP K ns), .no, .no] (objP HandG) := ev_call (ea_cons (ev_var rfl) ea_nil) ⟨ns, rfl, by omega, rfl⟩
  refine c1 _ H H (Ex.refl H) W1.ok sl1 _ fun v F1 H1 g1 q1 => ?_
  obtain ⟨p, o, rfl, hp, hG⟩ := q1
  have hne : ∀ (x : Addr) (vs : List V), F1 x = some (.lst vs) → x ≠ p := fun x vs hx e => by
    obtain ⟨_, _, _, _, _, _, eo, _, _⟩ := hG
    rw [e, hp, eo] at hx
    cases hx
  let F2 : Hp := fun x => if x = p then none else F1 x
  have f2p : F2 p = none := if_pos rfl
  have f2 : ∀ x, x ≠ p → F2 x = F1 x := fun x hx => if_neg hx
  have e2 : Ex F2 H1 := fun x u hx => by
    by_cases z : x = p
    · rw [z, f2p] at hx
      cases hx
    · rw [f2 x z] at hx
      exact g1.eh x u hx
  have hG2 : HandG.G F2 o := by
    obtain ⟨cs, a, g, s, t, c, eo, hc, h0⟩ := hG
    exact ⟨cs, a, g, s, t, c, eo, by rw [f2 c (hne c _ hc)]; exact hc, h0⟩
  let W2 : Wd := ⟨fun x => if x = p then some HandG else none, F2, H1, F2, ⟨fun x G e => by
    have e' : (if x = p then some HandG else none) = some G := e
    by_cases z : x = p
    · rw [if_pos z] at e'
      cases e'
      rw [z]
      exact ⟨f2p, o, g1.eh _ _ hp, hG2⟩
    · rw [if_neg z] at e'
      cases e'⟩⟩
  have hS2 : W2.S p = some HandG := if_pos rfl
  have sl2 : Slots W2 F2 H1 ((L2.start N_law [.ref a]).set 1 (some (.ref p))) [.no, .sh HandG, .no] := {
    len := rfl
    ok := fun i s hs => by
      match i, hs with
      | 0, hs => cases hs; exact ⟨_, rfl, True.intro⟩
      | 1, hs => cases hs; exact ⟨_, rfl, p, rfl, hS2⟩
      | 2, hs => cases hs; exact ⟨_, rfl, True.intro⟩
      | n + 3, hs => cases hs
    sep := fun i j s t x hs ht os ot _ _ => by
      match i, hs with
      | 0, hs => cases hs; cases os
      | 1, hs => cases hs; cases os
      | 2, hs => cases hs; cases os
      | n + 3, hs => cases hs }
  have T3 : ∀ {v : V} {F H : Hp}, (bP true).P F v → Q v H := fun {v F H} q => by
    rw [show v = .bl true from q]
    exact hQ H
  have key : At W2 ((tSeq (tIfS (tAnd (tTest (tOp rEq (tCall (SpX (pr_law_draw K w)) [] E0 (tCons (tVar 1) (tCons (tC (.int 8)) tNil))) (tC (.int 0)))) (tNot (tB (tCall (SpX (pr_law_is_wide_right K w)) [] E0 (tCons (tVar 1) tNil))))) (tRet (tC (.bl false))) tNext) (tSeq (tFor (iRng1 (tCons (tC (.int 3)) tNil)) (gName 2) (tIfS (tNot (tB (tCall (SpX (pr_law_is_drawn_right K w)) [] E0 (tCons (tVar 1) tNil)))) (tRet (tC (.bl false))) tNext)) (tRet (tOrV (tOp rGtI (tCall (SpX (pr_law_draw K w)) [] E0 (tCons (tVar 1) (tCons (tC (.int 6)) tNil))) (tC (.int 0))) (tCall (SpX (pr_law_is_hand_right K w)) [] E0 (tCons (tVar 1) tNil)))))) { nx := fun _ H' => Q .non H', rt := Q }) [.no, .sh HandG, .no] := by
    refine q_no (t_andC (C1 := fun _ => True) (C2 := (· = false)) (t_le (t_testA (ev_drawB (n := 8) (g := fun x => decide ((x : Int) = 0)) rfl (by decide) (by decide) fun x => o_eqI)) fun _ _ => True.intro) (fun _ => t_notB (ev_call (ea_sh rfl ea_nil) ⟨rfl, rfl⟩) rfl) (fun _ b h => h) fun _ => rfl) ?_
    refine q_for (T := fun i e => EnvLe e [.no, .sh HandG, .no]) (ei_range (n := 3) ev_c (by decide)) (EnvLe.refl _) (fun B i P env' hP hT => ?_) fun env' hT => at_le hT ?_
    · refine ⟨_, _, fun σ F H v e sl q Q' k => tg_name σ F H v e (sl.le hT) q Q' k, ?_⟩
      exact at_no (t_notB (ev_call (ea_sh rfl ea_nil) ⟨rfl, rfl⟩) rfl) (at_sat (by repeat (first | exact le_z | apply le_k | apply le_n)))
    · exact at_ret (ev_orA (ev_drawB (n := 6) (g := fun x => decide ((0 : Int) < (x : Int))) rfl (by decide) (by decide) fun x => o_gt) (ev_call (ea_sh rfl ea_nil) ⟨rfl, rfl⟩)) fun v F H g q => T3 q
  exact key _ F2 H1 (Go.refl e2) (Ex.refl F2) sl2
end
end Ly
namespace Ly
open PySem PySem.Spec PyProof.Rows L2
def fn0 : List He.DefD := [
  ⟨("is_integer", none), "is_integer", "is_integer", defArgs s_is_integer, defBody s_is_integer, defScope s_is_integer, [], []⟩,
  ⟨("is_within", none), "is_within", "is_within", defArgs s_is_within, defBody s_is_within, defScope s_is_within, [], []⟩,
  ⟨("is_rising", none), "is_rising", "is_rising", defArgs s_is_rising, defBody s_is_rising, defScope s_is_rising, [], []⟩,
  ⟨("are_weights", none), "are_weights", "are_weights", defArgs s_are_weights, defBody s_are_weights, defScope s_are_weights, [], []⟩,
  ⟨("are_all_weights", none), "are_all_weights", "are_all_weights", defArgs s_are_all_weights, defBody s_are_all_weights, defScope s_are_all_weights, [], []⟩,
  ⟨("is_pair_of_places", none), "is_pair_of_places", "is_pair_of_places", defArgs s_is_pair_of_places, defBody s_is_pair_of_places, defScope s_is_pair_of_places, [], []⟩,
  ⟨("is_tie", none), "is_tie", "is_tie", defArgs s_is_tie, defBody s_is_tie, defScope s_is_tie, [], []⟩,
  ⟨("ties_at", none), "ties_at", "ties_at", defArgs s_ties_at, defBody s_ties_at, defScope s_ties_at, [], []⟩,
  ⟨("is_picture", none), "is_picture", "is_picture", defArgs s_is_picture, defBody s_is_picture, defScope s_is_picture, [], []⟩,
  ⟨("weight_there", none), "weight_there", "weight_there", defArgs s_weight_there, defBody s_weight_there, defScope s_weight_there, [], []⟩,
  ⟨("check_pairs", none), "check_pairs", "check_pairs", defArgs s_check_pairs, defBody s_check_pairs, defScope s_check_pairs, [], []⟩,
  ⟨("even_model", none), "even_model", "even_model", defArgs s_even_model, defBody s_even_model, defScope s_even_model, [], []⟩,
  ⟨("spins", none), "spins", "spins", defArgs s_spins, defBody s_spins, defScope s_spins, [], []⟩,
  ⟨("sets_apart", none), "sets_apart", "sets_apart", defArgs s_sets_apart, defBody s_sets_apart, defScope s_sets_apart, [], []⟩,
  ⟨("stacks", none), "stacks", "stacks", defArgs s_stacks, defBody s_stacks, defScope s_stacks, [], []⟩,
  ⟨("tied_places", none), "tied_places", "tied_places", defArgs s_tied_places, defBody s_tied_places, defScope s_tied_places, [], []⟩,
  ⟨("local_weights", none), "local_weights", "local_weights", defArgs s_local_weights, defBody s_local_weights, defScope s_local_weights, [], []⟩,
  ⟨("all_rows", none), "all_rows", "all_rows", defArgs s_all_rows, defBody s_all_rows, defScope s_all_rows, [], []⟩,
  ⟨("are_flips", none), "are_flips", "are_flips", defArgs s_are_flips, defBody s_are_flips, defScope s_are_flips, [], []⟩,
  ⟨("check_flips", none), "check_flips", "check_flips", defArgs s_check_flips, defBody s_check_flips, defScope s_check_flips, [], []⟩]
def fn1 : List He.DefD := [
  ⟨("is_row_below", none), "is_row_below", "is_row_below", defArgs s_is_row_below, defBody s_is_row_below, defScope s_is_row_below, [], []⟩,
  ⟨("is_below", none), "is_below", "is_below", defArgs s_is_below, defBody s_is_below, defScope s_is_below, [], []⟩,
  ⟨("added_up", none), "added_up", "added_up", defArgs s_added_up, defBody s_added_up, defScope s_added_up, [], []⟩,
  ⟨("is_turned_right", none), "is_turned_right", "is_turned_right", defArgs s_is_turned_right, defBody s_is_turned_right, defScope s_is_turned_right, [], []⟩,
  ⟨("rises_at", none), "rises_at", "rises_at", defArgs s_rises_at, defBody s_rises_at, defScope s_rises_at, [], []⟩,
  ⟨("rises_there", none), "rises_there", "rises_there", defArgs s_rises_there, defBody s_rises_there, defScope s_rises_there, [], []⟩,
  ⟨("rises", none), "rises", "rises", defArgs s_rises, defBody s_rises, defScope s_rises, [], []⟩,
  ⟨("ends_by", none), "ends_by", "ends_by", defArgs s_ends_by, defBody s_ends_by, defScope s_ends_by, [], []⟩,
  ⟨("do_ends_fit", none), "do_ends_fit", "do_ends_fit", defArgs s_do_ends_fit, defBody s_do_ends_fit, defScope s_do_ends_fit, [], []⟩,
  ⟨("ends_of", none), "ends_of", "ends_of", defArgs s_ends_of, defBody s_ends_of, defScope s_ends_of, [], []⟩,
  ⟨("may_rise", none), "may_rise", "may_rise", defArgs s_may_rise, defBody s_may_rise, defScope s_may_rise, [], []⟩,
  ⟨("flips_for", none), "flips_for", "flips_for", defArgs s_flips_for, defBody s_flips_for, defScope s_flips_for, [], []⟩,
  ⟨("_law_hand", none), "_law_hand", "_law_hand", defArgs s_law_hand, defBody s_law_hand, defScope s_law_hand, [], []⟩,
  ⟨("_law_draw", none), "_law_draw", "_law_draw", defArgs s_law_draw, defBody s_law_draw, defScope s_law_draw, [], []⟩,
  ⟨("_law_any", none), "_law_any", "_law_any", defArgs s_law_any, defBody s_law_any, defScope s_law_any, [], []⟩,
  ⟨("_law_near", none), "_law_near", "_law_near", defArgs s_law_near, defBody s_law_near, defScope s_law_near, [], []⟩,
  ⟨("_law_local", none), "_law_local", "_law_local", defArgs s_law_local, defBody s_law_local, defScope s_law_local, [], []⟩,
  ⟨("_law_weight", none), "_law_weight", "_law_weight", defArgs s_law_weight, defBody s_law_weight, defScope s_law_weight, [], []⟩,
  ⟨("_law_tuples", none), "_law_tuples", "_law_tuples", defArgs s_law_tuples, defBody s_law_tuples, defScope s_law_tuples, [], []⟩,
  ⟨("_law_pairs", none), "_law_pairs", "_law_pairs", defArgs s_law_pairs, defBody s_law_pairs, defScope s_law_pairs, [], []⟩]
def fn2 : List He.DefD := [
  ⟨("_law_stacks", none), "_law_stacks", "_law_stacks", defArgs s_law_stacks, defBody s_law_stacks, defScope s_law_stacks, [], []⟩,
  ⟨("_law_table", none), "_law_table", "_law_table", defArgs s_law_table, defBody s_law_table, defScope s_law_table, [], []⟩,
  ⟨("_law_model", none), "_law_model", "_law_model", defArgs s_law_model, defBody s_law_model, defScope s_law_model, [], []⟩,
  ⟨("_law_wide", none), "_law_wide", "_law_wide", defArgs s_law_wide, defBody s_law_wide, defScope s_law_wide, [], []⟩,
  ⟨("_law_is_under", none), "_law_is_under", "_law_is_under", defArgs s_law_is_under, defBody s_law_is_under, defScope s_law_is_under, [], []⟩,
  ⟨("_law_rises_at", none), "_law_rises_at", "_law_rises_at", defArgs s_law_rises_at, defBody s_law_rises_at, defScope s_law_rises_at, [], []⟩,
  ⟨("_law_rises", none), "_law_rises", "_law_rises", defArgs s_law_rises, defBody s_law_rises, defScope s_law_rises, [], []⟩,
  ⟨("_law_ends", none), "_law_ends", "_law_ends", defArgs s_law_ends, defBody s_law_ends, defScope s_law_ends, [], []⟩,
  ⟨("_law_flips_for", none), "_law_flips_for", "_law_flips_for", defArgs s_law_flips_for, defBody s_law_flips_for, defScope s_law_flips_for, [], []⟩,
  ⟨("_law_packed", none), "_law_packed", "_law_packed", defArgs s_law_packed, defBody s_law_packed, defScope s_law_packed, [], []⟩,
  ⟨("_law_flag", none), "_law_flag", "_law_flag", defArgs s_law_flag, defBody s_law_flag, defScope s_law_flag, [], []⟩,
  ⟨("_law_is_drawn_right", none), "_law_is_drawn_right", "_law_is_drawn_right", defArgs s_law_is_drawn_right, defBody s_law_is_drawn_right, defScope s_law_is_drawn_right, [], []⟩,
  ⟨("_law_tree", none), "_law_tree", "_law_tree", defArgs s_law_tree, defBody s_law_tree, defScope s_law_tree, [], []⟩,
  ⟨("_law_is_hand_right", none), "_law_is_hand_right", "_law_is_hand_right", defArgs s_law_is_hand_right, defBody s_law_is_hand_right, defScope s_law_is_hand_right, [], []⟩,
  ⟨("_law_known", none), "_law_known", "_law_known", defArgs s_law_known, defBody s_law_known, defScope s_law_known, [], []⟩,
  ⟨("_law_is_known", none), "_law_is_known", "_law_is_known", defArgs s_law_is_known, defBody s_law_is_known, defScope s_law_is_known, [], []⟩,
  ⟨("_law_is_wide_right", none), "_law_is_wide_right", "_law_is_wide_right", defArgs s_law_is_wide_right, defBody s_law_is_wide_right, defScope s_law_is_wide_right, [], []⟩,
  ⟨("law", none), "law", "law", defArgs s_law, defBody s_law, defScope s_law, [], []⟩,
  ⟨("Model", some "__init__"), "__init__", "Model.__init__", defArgs s_Model_init, defBody s_Model_init, defScope s_Model_init, [], []⟩]
def fn : List He.DefD := fn0 ++ fn1 ++ fn2
def fa0 : List He.Fa := [.glo "is_integer", .glo "is_within", .glo "is_rising", .glo "are_weights", .glo "are_all_weights", .glo "is_pair_of_places", .glo "is_tie", .glo "ties_at", .glo "is_picture", .glo "weight_there", .glo "check_pairs", .glo "even_model", .glo "spins", .glo "sets_apart", .glo "stacks", .glo "tied_places", .glo "local_weights", .glo "all_rows", .glo "are_flips", .glo "check_flips", .glo "is_row_below", .glo "is_below", .glo "added_up", .glo "is_turned_right", .glo "rises_at", .glo "rises_there", .glo "rises", .glo "ends_by", .glo "do_ends_fit", .glo "ends_of"]
def fa1 : List He.Fa := [.glo "may_rise", .glo "flips_for", .glo "_law_hand", .glo "_law_draw", .glo "_law_any", .glo "_law_near", .glo "_law_local", .glo "_law_weight", .glo "_law_tuples", .glo "_law_pairs", .glo "_law_stacks", .glo "_law_table", .glo "_law_model", .glo "_law_wide", .glo "_law_is_under", .glo "_law_rises_at", .glo "_law_rises", .glo "_law_ends", .glo "_law_flips_for", .glo "_law_packed", .glo "_law_flag", .glo "_law_is_drawn_right", .glo "_law_tree", .glo "_law_is_hand_right", .glo "_law_known", .glo "_law_is_known", .glo "_law_is_wide_right", .glo "law", .free "isinstance", .free "len"]
def fa2 : List He.Fa := [.free "all", .free "any", .free "range", .free "zip", .free "enumerate", .free "tuple", .free "list", .free "sum", .free "max", .free "min", .free "sorted", .free "set", .free "int", .free "abs", .free "dict", .free "bool", .int "MOST_PLACES" 12, .int "MOST_VALUES" 4, .int "MOST_WEIGHT" 1000, .int "MOST_TIES" 4, .glo "Model", .cls "Model", .mkr "Model", .noat "Model" "many", .noat "Model" "levels", .noat "Model" "weights", .noat "Model" "ties"]
def fa : List He.Fa := fa0 ++ fa1 ++ fa2
def lo0 : List PySem.Str := ["DrawError", "BadModel", "NoEnds", "NoPicture", "NoSizes", "NoPairs", "NoFlips", "is_integer", "is_within", "is_rising", "MOST_PLACES", "MOST_VALUES", "MOST_WEIGHT", "MOST_TIES", "are_weights", "are_all_weights", "is_pair_of_places", "is_tie", "ties_at", "Model", "is_picture", "weight_there", "check_pairs", "even_model", "spins", "sets_apart", "stacks", "tied_places", "local_weights", "all_rows"]
def lo1 : List PySem.Str := ["are_flips", "check_flips", "is_row_below", "is_below", "added_up", "is_turned_right", "rises_at", "rises_there", "rises", "ends_by", "do_ends_fit", "ends_of", "may_rise", "flips_for", "_law_hand", "_law_draw", "_law_any", "_law_near", "_law_local", "_law_weight", "_law_tuples", "_law_pairs", "_law_stacks", "_law_table", "_law_model", "_law_wide", "_law_is_under", "_law_rises_at", "_law_rises", "_law_ends"]
def lo2 : List PySem.Str := ["_law_flips_for", "_law_packed", "_law_flag", "_law_is_drawn_right", "_law_tree", "_law_is_hand_right", "_law_known", "_law_is_known", "_law_is_wide_right"]
def lo : List PySem.Str := lo0 ++ lo1 ++ lo2
abbrev R : PySem.W.OpenRow := PySem.W.OpenLaw.row PySem.Challenge.rw_asifforever_k30_whole_rising_models
abbrev hk : PySem.W.Hook := He.hookD 5 fa fn
def ob (s : PySem.W.SharedT) : He.AlD := He.obsDG 5 fa fn (HandSHeadRun.getT s)
theorem ob_eq (s : PySem.W.SharedT) : ob s = hk.obs s.abs := He.obsDG_eq (HandSHeadRun.getT_eq s)
theorem run (w : World) : HandSHeadRun.RunEq R (PySem.W.view R.prog [75]) hk ob 4000 lo w := by
  intro os
  kernel_rfl
section
variable {P : Program} {w : World} {K : PySem.W.Frag} {mg : Str → Option Value} {base : Heap}
theorem len_is_integer : ∀ svs post, pr_is_integer K w svs post → svs.length = 1 := by
  intro svs post h
  unfold pr_is_integer at h
  first
    | (obtain ⟨rfl, _⟩ := h; rfl)
    | (obtain ⟨_, rfl, _⟩ := h; rfl)
    | (obtain ⟨_, _, rfl, _⟩ := h; rfl)
    | (obtain ⟨_, _, _, rfl, _⟩ := h; rfl)
    | (obtain ⟨_, _, _, _, rfl, _⟩ := h; rfl)
    | (obtain ⟨_, _, _, _, _, rfl, _⟩ := h; rfl)
    | (obtain ⟨_, _, _, _, _, _, rfl, _⟩ := h; rfl)
theorem ok_is_integer (T : Tx K mg) (F : ∃ fd, FunD K "is_integer" "is_integer" (defArgs s_is_integer) (defBody s_is_integer) (defScope s_is_integer) [] [] (He.ga K "is_integer") fd) (gl : mg "is_integer" = some (.ref (He.ga K "is_integer")))  : OkF P w K mg base "is_integer" (He.ga K "is_integer") ["thing"] 1 (pr_is_integer K w) :=
  okf_of (k := 0) F gl sc_is_integer (fun _ _ _ _ _ _ us hl => match us, hl with | [_], _ => rfl) len_is_integer (fun hr => ps_is_integer T  hr) (b_is_integer)
theorem len_is_within : ∀ svs post, pr_is_within K w svs post → svs.length = 3 := by
  intro svs post h
  unfold pr_is_within at h
  first
    | (obtain ⟨rfl, _⟩ := h; rfl)
    | (obtain ⟨_, rfl, _⟩ := h; rfl)
    | (obtain ⟨_, _, rfl, _⟩ := h; rfl)
    | (obtain ⟨_, _, _, rfl, _⟩ := h; rfl)
    | (obtain ⟨_, _, _, _, rfl, _⟩ := h; rfl)
    | (obtain ⟨_, _, _, _, _, rfl, _⟩ := h; rfl)
    | (obtain ⟨_, _, _, _, _, _, rfl, _⟩ := h; rfl)
theorem ok_is_within (T : Tx K mg) (F : ∃ fd, FunD K "is_within" "is_within" (defArgs s_is_within) (defBody s_is_within) (defScope s_is_within) [] [] (He.ga K "is_within") fd) (gl : mg "is_within" = some (.ref (He.ga K "is_within"))) (O_is_integer : OkF P w K mg base "is_integer" (He.ga K "is_integer") ["thing"] 1 (pr_is_integer K w)) : OkF P w K mg base "is_within" (He.ga K "is_within") ["thing", "least", "most"] 2 (pr_is_within K w) :=
  okf_of (k := 1) F gl sc_is_within (fun _ _ _ _ _ _ us hl => match us, hl with | [_, _, _], _ => rfl) len_is_within (fun hr => ps_is_within T O_is_integer hr) (b_is_within)
theorem len_is_rising : ∀ svs post, pr_is_rising K w svs post → svs.length = 1 := by
  intro svs post h
  unfold pr_is_rising at h
  first
    | (obtain ⟨rfl, _⟩ := h; rfl)
    | (obtain ⟨_, rfl, _⟩ := h; rfl)
    | (obtain ⟨_, _, rfl, _⟩ := h; rfl)
    | (obtain ⟨_, _, _, rfl, _⟩ := h; rfl)
    | (obtain ⟨_, _, _, _, rfl, _⟩ := h; rfl)
    | (obtain ⟨_, _, _, _, _, rfl, _⟩ := h; rfl)
    | (obtain ⟨_, _, _, _, _, _, rfl, _⟩ := h; rfl)
theorem ok_is_rising (T : Tx K mg) (F : ∃ fd, FunD K "is_rising" "is_rising" (defArgs s_is_rising) (defBody s_is_rising) (defScope s_is_rising) [] [] (He.ga K "is_rising") fd) (gl : mg "is_rising" = some (.ref (He.ga K "is_rising")))  : OkF P w K mg base "is_rising" (He.ga K "is_rising") ["things"] 1 (pr_is_rising K w) :=
  okf_of (k := 0) F gl sc_is_rising (fun _ _ _ _ _ _ us hl => match us, hl with | [_], _ => rfl) len_is_rising (fun hr => ps_is_rising T  hr) (b_is_rising)
theorem len_are_weights : ∀ svs post, pr_are_weights K w svs post → svs.length = 2 := by
  intro svs post h
  unfold pr_are_weights at h
  first
    | (obtain ⟨rfl, _⟩ := h; rfl)
    | (obtain ⟨_, rfl, _⟩ := h; rfl)
    | (obtain ⟨_, _, rfl, _⟩ := h; rfl)
    | (obtain ⟨_, _, _, rfl, _⟩ := h; rfl)
    | (obtain ⟨_, _, _, _, rfl, _⟩ := h; rfl)
    | (obtain ⟨_, _, _, _, _, rfl, _⟩ := h; rfl)
    | (obtain ⟨_, _, _, _, _, _, rfl, _⟩ := h; rfl)
theorem ok_are_weights (T : Tx K mg) (F : ∃ fd, FunD K "are_weights" "are_weights" (defArgs s_are_weights) (defBody s_are_weights) (defScope s_are_weights) [] [] (He.ga K "are_weights") fd) (gl : mg "are_weights" = some (.ref (He.ga K "are_weights"))) (O_is_within : OkF P w K mg base "is_within" (He.ga K "is_within") ["thing", "least", "most"] 2 (pr_is_within K w)) : OkF P w K mg base "are_weights" (He.ga K "are_weights") ["thing", "many"] 3 (pr_are_weights K w) :=
  okf_of (k := 2) F gl sc_are_weights (fun _ _ _ _ _ _ us hl => match us, hl with | [_, _], _ => rfl) len_are_weights (fun hr => ps_are_weights T O_is_within hr) (b_are_weights)
theorem len_are_all_weights : ∀ svs post, pr_are_all_weights K w svs post → svs.length = 3 := by
  intro svs post h
  unfold pr_are_all_weights at h
  first
    | (obtain ⟨rfl, _⟩ := h; rfl)
    | (obtain ⟨_, rfl, _⟩ := h; rfl)
    | (obtain ⟨_, _, rfl, _⟩ := h; rfl)
    | (obtain ⟨_, _, _, rfl, _⟩ := h; rfl)
    | (obtain ⟨_, _, _, _, rfl, _⟩ := h; rfl)
    | (obtain ⟨_, _, _, _, _, rfl, _⟩ := h; rfl)
    | (obtain ⟨_, _, _, _, _, _, rfl, _⟩ := h; rfl)
theorem ok_are_all_weights (T : Tx K mg) (F : ∃ fd, FunD K "are_all_weights" "are_all_weights" (defArgs s_are_all_weights) (defBody s_are_all_weights) (defScope s_are_all_weights) [] [] (He.ga K "are_all_weights") fd) (gl : mg "are_all_weights" = some (.ref (He.ga K "are_all_weights"))) (O_are_weights : OkF P w K mg base "are_weights" (He.ga K "are_weights") ["thing", "many"] 3 (pr_are_weights K w)) : OkF P w K mg base "are_all_weights" (He.ga K "are_all_weights") ["thing", "many", "values"] 4 (pr_are_all_weights K w) :=
  okf_of (k := 3) F gl sc_are_all_weights (fun _ _ _ _ _ _ us hl => match us, hl with | [_, _, _], _ => rfl) len_are_all_weights (fun hr => ps_are_all_weights T O_are_weights hr) (b_are_all_weights)
theorem len_is_pair_of_places : ∀ svs post, pr_is_pair_of_places K w svs post → svs.length = 2 := by
  intro svs post h
  unfold pr_is_pair_of_places at h
  first
    | (obtain ⟨rfl, _⟩ := h; rfl)
    | (obtain ⟨_, rfl, _⟩ := h; rfl)
    | (obtain ⟨_, _, rfl, _⟩ := h; rfl)
    | (obtain ⟨_, _, _, rfl, _⟩ := h; rfl)
    | (obtain ⟨_, _, _, _, rfl, _⟩ := h; rfl)
    | (obtain ⟨_, _, _, _, _, rfl, _⟩ := h; rfl)
    | (obtain ⟨_, _, _, _, _, _, rfl, _⟩ := h; rfl)
theorem ok_is_pair_of_places (T : Tx K mg) (F : ∃ fd, FunD K "is_pair_of_places" "is_pair_of_places" (defArgs s_is_pair_of_places) (defBody s_is_pair_of_places) (defScope s_is_pair_of_places) [] [] (He.ga K "is_pair_of_places") fd) (gl : mg "is_pair_of_places" = some (.ref (He.ga K "is_pair_of_places"))) (O_is_within : OkF P w K mg base "is_within" (He.ga K "is_within") ["thing", "least", "most"] 2 (pr_is_within K w)) : OkF P w K mg base "is_pair_of_places" (He.ga K "is_pair_of_places") ["thing", "many"] 3 (pr_is_pair_of_places K w) :=
  okf_of (k := 2) F gl sc_is_pair_of_places (fun _ _ _ _ _ _ us hl => match us, hl with | [_, _], _ => rfl) len_is_pair_of_places (fun hr => ps_is_pair_of_places T O_is_within hr) (b_is_pair_of_places)
theorem len_is_tie : ∀ svs post, pr_is_tie K w svs post → svs.length = 3 := by
  intro svs post h
  unfold pr_is_tie at h
  first
    | (obtain ⟨rfl, _⟩ := h; rfl)
    | (obtain ⟨_, rfl, _⟩ := h; rfl)
    | (obtain ⟨_, _, rfl, _⟩ := h; rfl)
    | (obtain ⟨_, _, _, rfl, _⟩ := h; rfl)
    | (obtain ⟨_, _, _, _, rfl, _⟩ := h; rfl)
    | (obtain ⟨_, _, _, _, _, rfl, _⟩ := h; rfl)
    | (obtain ⟨_, _, _, _, _, _, rfl, _⟩ := h; rfl)
theorem ok_is_tie (T : Tx K mg) (F : ∃ fd, FunD K "is_tie" "is_tie" (defArgs s_is_tie) (defBody s_is_tie) (defScope s_is_tie) [] [] (He.ga K "is_tie") fd) (gl : mg "is_tie" = some (.ref (He.ga K "is_tie"))) (O_are_all_weights : OkF P w K mg base "are_all_weights" (He.ga K "are_all_weights") ["thing", "many", "values"] 4 (pr_are_all_weights K w)) (O_is_pair_of_places : OkF P w K mg base "is_pair_of_places" (He.ga K "is_pair_of_places") ["thing", "many"] 3 (pr_is_pair_of_places K w)) : OkF P w K mg base "is_tie" (He.ga K "is_tie") ["thing", "many", "values"] 5 (pr_is_tie K w) :=
  okf_of (k := 4) F gl sc_is_tie (fun _ _ _ _ _ _ us hl => match us, hl with | [_, _, _], _ => rfl) len_is_tie (fun hr => ps_is_tie T O_are_all_weights O_is_pair_of_places hr) (b_is_tie)
theorem len_ties_at : ∀ svs post, pr_ties_at K w svs post → svs.length = 2 := by
  intro svs post h
  unfold pr_ties_at at h
  first
    | (obtain ⟨rfl, _⟩ := h; rfl)
    | (obtain ⟨_, rfl, _⟩ := h; rfl)
    | (obtain ⟨_, _, rfl, _⟩ := h; rfl)
    | (obtain ⟨_, _, _, rfl, _⟩ := h; rfl)
    | (obtain ⟨_, _, _, _, rfl, _⟩ := h; rfl)
    | (obtain ⟨_, _, _, _, _, rfl, _⟩ := h; rfl)
    | (obtain ⟨_, _, _, _, _, _, rfl, _⟩ := h; rfl)
theorem ok_ties_at (T : Tx K mg) (F : ∃ fd, FunD K "ties_at" "ties_at" (defArgs s_ties_at) (defBody s_ties_at) (defScope s_ties_at) [] [] (He.ga K "ties_at") fd) (gl : mg "ties_at" = some (.ref (He.ga K "ties_at")))  : OkF P w K mg base "ties_at" (He.ga K "ties_at") ["ties", "place"] 1 (pr_ties_at K w) :=
  okf_of (k := 0) F gl sc_ties_at (fun _ _ _ _ _ _ us hl => match us, hl with | [_, _], _ => rfl) len_ties_at (fun hr => ps_ties_at T  hr) (b_ties_at)
theorem ok_Model_init (T : Tx K mg) (F : ∃ fd, FunD K "__init__" "Model.__init__" (defArgs s_Model_init) (defBody s_Model_init) (defScope s_Model_init) [] [] (He.ma K (He.ga K "Model") "__init__") fd) (O_are_all_weights : OkF P w K mg base "are_all_weights" (He.ga K "are_all_weights") ["thing", "many", "values"] 4 (pr_are_all_weights K w)) (O_is_tie : OkF P w K mg base "is_tie" (He.ga K "is_tie") ["thing", "many", "values"] 5 (pr_is_tie K w)) (O_is_within : OkF P w K mg base "is_within" (He.ga K "is_within") ["thing", "least", "most"] 2 (pr_is_within K w)) (O_ties_at : OkF P w K mg base "ties_at" (He.ga K "ties_at") ["ties", "place"] 1 (pr_ties_at K w)) : OkI P w K mg base (He.ga K "Model") (He.ma K (He.ga K "Model") "__init__") ["self", "many", "levels", "weights", "ties"] 6 :=
  okI_of (k := 5) F sc_Model_init (fun _ _ _ _ _ _ us hl => match us, hl with | [_, _, _, _, _], _ => rfl) rfl (fun hr => ps_Model_init T O_are_all_weights O_is_tie O_is_within O_ties_at hr) (b_Model_init T)
theorem len_is_picture : ∀ svs post, pr_is_picture K w svs post → svs.length = 2 := by
  intro svs post h
  unfold pr_is_picture at h
  first
    | (obtain ⟨rfl, _⟩ := h; rfl)
    | (obtain ⟨_, rfl, _⟩ := h; rfl)
    | (obtain ⟨_, _, rfl, _⟩ := h; rfl)
    | (obtain ⟨_, _, _, rfl, _⟩ := h; rfl)
    | (obtain ⟨_, _, _, _, rfl, _⟩ := h; rfl)
    | (obtain ⟨_, _, _, _, _, rfl, _⟩ := h; rfl)
    | (obtain ⟨_, _, _, _, _, _, rfl, _⟩ := h; rfl)
theorem ok_is_picture (T : Tx K mg) (F : ∃ fd, FunD K "is_picture" "is_picture" (defArgs s_is_picture) (defBody s_is_picture) (defScope s_is_picture) [] [] (He.ga K "is_picture") fd) (gl : mg "is_picture" = some (.ref (He.ga K "is_picture"))) (O_is_within : OkF P w K mg base "is_within" (He.ga K "is_within") ["thing", "least", "most"] 2 (pr_is_within K w)) : OkF P w K mg base "is_picture" (He.ga K "is_picture") ["model", "thing"] 3 (pr_is_picture K w) :=
  okf_of (k := 2) F gl sc_is_picture (fun _ _ _ _ _ _ us hl => match us, hl with | [_, _], _ => rfl) len_is_picture (fun hr => ps_is_picture T O_is_within hr) (b_is_picture T)
theorem len_weight_there : ∀ svs post, pr_weight_there K w svs post → svs.length = 2 := by
  intro svs post h
  unfold pr_weight_there at h
  first
    | (obtain ⟨rfl, _⟩ := h; rfl)
    | (obtain ⟨_, rfl, _⟩ := h; rfl)
    | (obtain ⟨_, _, rfl, _⟩ := h; rfl)
    | (obtain ⟨_, _, _, rfl, _⟩ := h; rfl)
    | (obtain ⟨_, _, _, _, rfl, _⟩ := h; rfl)
    | (obtain ⟨_, _, _, _, _, rfl, _⟩ := h; rfl)
    | (obtain ⟨_, _, _, _, _, _, rfl, _⟩ := h; rfl)
theorem ok_weight_there (T : Tx K mg) (F : ∃ fd, FunD K "weight_there" "weight_there" (defArgs s_weight_there) (defBody s_weight_there) (defScope s_weight_there) [] [] (He.ga K "weight_there") fd) (gl : mg "weight_there" = some (.ref (He.ga K "weight_there")))  : OkF P w K mg base "weight_there" (He.ga K "weight_there") ["model", "picture"] 1 (pr_weight_there K w) :=
  okf_of (k := 0) F gl sc_weight_there (fun _ _ _ _ _ _ us hl => match us, hl with | [_, _], _ => rfl) len_weight_there (fun hr => ps_weight_there T  hr) (b_weight_there T)
theorem len_check_pairs : ∀ svs post, pr_check_pairs K w svs post → svs.length = 2 := by
  intro svs post h
  unfold pr_check_pairs at h
  first
    | (obtain ⟨rfl, _⟩ := h; rfl)
    | (obtain ⟨_, rfl, _⟩ := h; rfl)
    | (obtain ⟨_, _, rfl, _⟩ := h; rfl)
    | (obtain ⟨_, _, _, rfl, _⟩ := h; rfl)
    | (obtain ⟨_, _, _, _, rfl, _⟩ := h; rfl)
    | (obtain ⟨_, _, _, _, _, rfl, _⟩ := h; rfl)
    | (obtain ⟨_, _, _, _, _, _, rfl, _⟩ := h; rfl)
theorem ok_check_pairs (T : Tx K mg) (F : ∃ fd, FunD K "check_pairs" "check_pairs" (defArgs s_check_pairs) (defBody s_check_pairs) (defScope s_check_pairs) [] [] (He.ga K "check_pairs") fd) (gl : mg "check_pairs" = some (.ref (He.ga K "check_pairs"))) (O_is_pair_of_places : OkF P w K mg base "is_pair_of_places" (He.ga K "is_pair_of_places") ["thing", "many"] 3 (pr_is_pair_of_places K w)) (O_is_rising : OkF P w K mg base "is_rising" (He.ga K "is_rising") ["things"] 1 (pr_is_rising K w)) (O_is_within : OkF P w K mg base "is_within" (He.ga K "is_within") ["thing", "least", "most"] 2 (pr_is_within K w)) : OkF P w K mg base "check_pairs" (He.ga K "check_pairs") ["many", "pairs"] 4 (pr_check_pairs K w) :=
  okf_of (k := 3) F gl sc_check_pairs (fun _ _ _ _ _ _ us hl => match us, hl with | [_, _], _ => rfl) len_check_pairs (fun hr => ps_check_pairs T O_is_pair_of_places O_is_rising O_is_within hr) (b_check_pairs)
theorem len_even_model : ∀ svs post, pr_even_model K w svs post → svs.length = 5 := by
  intro svs post h
  unfold pr_even_model at h
  first
    | (obtain ⟨rfl, _⟩ := h; rfl)
    | (obtain ⟨_, rfl, _⟩ := h; rfl)
    | (obtain ⟨_, _, rfl, _⟩ := h; rfl)
    | (obtain ⟨_, _, _, rfl, _⟩ := h; rfl)
    | (obtain ⟨_, _, _, _, rfl, _⟩ := h; rfl)
    | (obtain ⟨_, _, _, _, _, rfl, _⟩ := h; rfl)
    | (obtain ⟨_, _, _, _, _, _, rfl, _⟩ := h; rfl)
theorem ok_even_model (T : Tx K mg) (F : ∃ fd, FunD K "even_model" "even_model" (defArgs s_even_model) (defBody s_even_model) (defScope s_even_model) [] [] (He.ga K "even_model") fd) (gl : mg "even_model" = some (.ref (He.ga K "even_model"))) (O_Model_init : OkI P w K mg base (He.ga K "Model") (He.ma K (He.ga K "Model") "__init__") ["self", "many", "levels", "weights", "ties"] 6) : OkF P w K mg base "even_model" (He.ga K "even_model") ["many", "values", "row", "pairs", "table"] 8 (pr_even_model K w) :=
  okf_of (k := 7) F gl sc_even_model (fun _ _ _ _ _ _ us hl => match us, hl with | [_, _, _, _, _], _ => rfl) len_even_model (fun hr => ps_even_model T O_Model_init hr) (b_even_model T)
theorem len_spins : ∀ svs post, pr_spins K w svs post → svs.length = 4 := by
  intro svs post h
  unfold pr_spins at h
  first
    | (obtain ⟨rfl, _⟩ := h; rfl)
    | (obtain ⟨_, rfl, _⟩ := h; rfl)
    | (obtain ⟨_, _, rfl, _⟩ := h; rfl)
    | (obtain ⟨_, _, _, rfl, _⟩ := h; rfl)
    | (obtain ⟨_, _, _, _, rfl, _⟩ := h; rfl)
    | (obtain ⟨_, _, _, _, _, rfl, _⟩ := h; rfl)
    | (obtain ⟨_, _, _, _, _, _, rfl, _⟩ := h; rfl)
theorem ok_spins (T : Tx K mg) (F : ∃ fd, FunD K "spins" "spins" (defArgs s_spins) (defBody s_spins) (defScope s_spins) [] [] (He.ga K "spins") fd) (gl : mg "spins" = some (.ref (He.ga K "spins"))) (O_check_pairs : OkF P w K mg base "check_pairs" (He.ga K "check_pairs") ["many", "pairs"] 4 (pr_check_pairs K w)) (O_even_model : OkF P w K mg base "even_model" (He.ga K "even_model") ["many", "values", "row", "pairs", "table"] 8 (pr_even_model K w)) : OkF P w K mg base "spins" (He.ga K "spins") ["many", "pairs", "same", "other"] 9 (pr_spins K w) :=
  okf_of (k := 8) F gl sc_spins (fun _ _ _ _ _ _ us hl => match us, hl with | [_, _, _, _], _ => rfl) len_spins (fun hr => ps_spins T O_check_pairs O_even_model hr) (b_spins)
theorem len_sets_apart : ∀ svs post, pr_sets_apart K w svs post → svs.length = 3 := by
  intro svs post h
  unfold pr_sets_apart at h
  first
    | (obtain ⟨rfl, _⟩ := h; rfl)
    | (obtain ⟨_, rfl, _⟩ := h; rfl)
    | (obtain ⟨_, _, rfl, _⟩ := h; rfl)
    | (obtain ⟨_, _, _, rfl, _⟩ := h; rfl)
    | (obtain ⟨_, _, _, _, rfl, _⟩ := h; rfl)
    | (obtain ⟨_, _, _, _, _, rfl, _⟩ := h; rfl)
    | (obtain ⟨_, _, _, _, _, _, rfl, _⟩ := h; rfl)
theorem ok_sets_apart (T : Tx K mg) (F : ∃ fd, FunD K "sets_apart" "sets_apart" (defArgs s_sets_apart) (defBody s_sets_apart) (defScope s_sets_apart) [] [] (He.ga K "sets_apart") fd) (gl : mg "sets_apart" = some (.ref (He.ga K "sets_apart"))) (O_check_pairs : OkF P w K mg base "check_pairs" (He.ga K "check_pairs") ["many", "pairs"] 4 (pr_check_pairs K w)) (O_even_model : OkF P w K mg base "even_model" (He.ga K "even_model") ["many", "values", "row", "pairs", "table"] 8 (pr_even_model K w)) : OkF P w K mg base "sets_apart" (He.ga K "sets_apart") ["many", "pairs", "number"] 9 (pr_sets_apart K w) :=
  okf_of (k := 8) F gl sc_sets_apart (fun _ _ _ _ _ _ us hl => match us, hl with | [_, _, _], _ => rfl) len_sets_apart (fun hr => ps_sets_apart T O_check_pairs O_even_model hr) (b_sets_apart)
theorem len_stacks : ∀ svs post, pr_stacks K w svs post → svs.length = 3 := by
  intro svs post h
  unfold pr_stacks at h
  first
    | (obtain ⟨rfl, _⟩ := h; rfl)
    | (obtain ⟨_, rfl, _⟩ := h; rfl)
    | (obtain ⟨_, _, rfl, _⟩ := h; rfl)
    | (obtain ⟨_, _, _, rfl, _⟩ := h; rfl)
    | (obtain ⟨_, _, _, _, rfl, _⟩ := h; rfl)
    | (obtain ⟨_, _, _, _, _, rfl, _⟩ := h; rfl)
    | (obtain ⟨_, _, _, _, _, _, rfl, _⟩ := h; rfl)
theorem ok_stacks (T : Tx K mg) (F : ∃ fd, FunD K "stacks" "stacks" (defArgs s_stacks) (defBody s_stacks) (defScope s_stacks) [] [] (He.ga K "stacks") fd) (gl : mg "stacks" = some (.ref (He.ga K "stacks"))) (O_even_model : OkF P w K mg base "even_model" (He.ga K "even_model") ["many", "values", "row", "pairs", "table"] 8 (pr_even_model K w)) (O_is_within : OkF P w K mg base "is_within" (He.ga K "is_within") ["thing", "least", "most"] 2 (pr_is_within K w)) : OkF P w K mg base "stacks" (He.ga K "stacks") ["rows", "columns", "most"] 9 (pr_stacks K w) :=
  okf_of (k := 8) F gl sc_stacks (fun _ _ _ _ _ _ us hl => match us, hl with | [_, _, _], _ => rfl) len_stacks (fun hr => ps_stacks T O_even_model O_is_within hr) (b_stacks)
theorem len_tied_places : ∀ svs post, pr_tied_places K w svs post → svs.length = 2 := by
  intro svs post h
  unfold pr_tied_places at h
  first
    | (obtain ⟨rfl, _⟩ := h; rfl)
    | (obtain ⟨_, rfl, _⟩ := h; rfl)
    | (obtain ⟨_, _, rfl, _⟩ := h; rfl)
    | (obtain ⟨_, _, _, rfl, _⟩ := h; rfl)
    | (obtain ⟨_, _, _, _, rfl, _⟩ := h; rfl)
    | (obtain ⟨_, _, _, _, _, rfl, _⟩ := h; rfl)
    | (obtain ⟨_, _, _, _, _, _, rfl, _⟩ := h; rfl)
theorem ok_tied_places (T : Tx K mg) (F : ∃ fd, FunD K "tied_places" "tied_places" (defArgs s_tied_places) (defBody s_tied_places) (defScope s_tied_places) [] [] (He.ga K "tied_places") fd) (gl : mg "tied_places" = some (.ref (He.ga K "tied_places"))) (O_ties_at : OkF P w K mg base "ties_at" (He.ga K "ties_at") ["ties", "place"] 1 (pr_ties_at K w)) : OkF P w K mg base "tied_places" (He.ga K "tied_places") ["model", "place"] 2 (pr_tied_places K w) :=
  okf_of (k := 1) F gl sc_tied_places (fun _ _ _ _ _ _ us hl => match us, hl with | [_, _], _ => rfl) len_tied_places (fun hr => ps_tied_places T O_ties_at hr) (b_tied_places T)
theorem len_local_weights : ∀ svs post, pr_local_weights K w svs post → svs.length = 3 := by
  intro svs post h
  unfold pr_local_weights at h
  first
    | (obtain ⟨rfl, _⟩ := h; rfl)
    | (obtain ⟨_, rfl, _⟩ := h; rfl)
    | (obtain ⟨_, _, rfl, _⟩ := h; rfl)
    | (obtain ⟨_, _, _, rfl, _⟩ := h; rfl)
    | (obtain ⟨_, _, _, _, rfl, _⟩ := h; rfl)
    | (obtain ⟨_, _, _, _, _, rfl, _⟩ := h; rfl)
    | (obtain ⟨_, _, _, _, _, _, rfl, _⟩ := h; rfl)
theorem ok_local_weights (T : Tx K mg) (F : ∃ fd, FunD K "local_weights" "local_weights" (defArgs s_local_weights) (defBody s_local_weights) (defScope s_local_weights) [] [] (He.ga K "local_weights") fd) (gl : mg "local_weights" = some (.ref (He.ga K "local_weights"))) (O_ties_at : OkF P w K mg base "ties_at" (He.ga K "ties_at") ["ties", "place"] 1 (pr_ties_at K w)) : OkF P w K mg base "local_weights" (He.ga K "local_weights") ["model", "place", "values"] 2 (pr_local_weights K w) :=
  okf_of (k := 1) F gl sc_local_weights (fun _ _ _ _ _ _ us hl => match us, hl with | [_, _, _], _ => rfl) len_local_weights (fun hr => ps_local_weights T O_ties_at hr) (b_local_weights T)
theorem len_all_rows : ∀ svs post, pr_all_rows K w svs post → svs.length = 2 := by
  intro svs post h
  unfold pr_all_rows at h
  first
    | (obtain ⟨rfl, _⟩ := h; rfl)
    | (obtain ⟨_, rfl, _⟩ := h; rfl)
    | (obtain ⟨_, _, rfl, _⟩ := h; rfl)
    | (obtain ⟨_, _, _, rfl, _⟩ := h; rfl)
    | (obtain ⟨_, _, _, _, rfl, _⟩ := h; rfl)
    | (obtain ⟨_, _, _, _, _, rfl, _⟩ := h; rfl)
    | (obtain ⟨_, _, _, _, _, _, rfl, _⟩ := h; rfl)
theorem ok_all_rows (T : Tx K mg) (F : ∃ fd, FunD K "all_rows" "all_rows" (defArgs s_all_rows) (defBody s_all_rows) (defScope s_all_rows) [] [] (He.ga K "all_rows") fd) (gl : mg "all_rows" = some (.ref (He.ga K "all_rows")))  : OkF P w K mg base "all_rows" (He.ga K "all_rows") ["values", "many"] 1 (pr_all_rows K w) :=
  okf_of (k := 0) F gl sc_all_rows (fun _ _ _ _ _ _ us hl => match us, hl with | [_, _], _ => rfl) len_all_rows (fun hr => ps_all_rows T  hr) (b_all_rows)
theorem len_are_flips : ∀ svs post, pr_are_flips K w svs post → svs.length = 2 := by
  intro svs post h
  unfold pr_are_flips at h
  first
    | (obtain ⟨rfl, _⟩ := h; rfl)
    | (obtain ⟨_, rfl, _⟩ := h; rfl)
    | (obtain ⟨_, _, rfl, _⟩ := h; rfl)
    | (obtain ⟨_, _, _, rfl, _⟩ := h; rfl)
    | (obtain ⟨_, _, _, _, rfl, _⟩ := h; rfl)
    | (obtain ⟨_, _, _, _, _, rfl, _⟩ := h; rfl)
    | (obtain ⟨_, _, _, _, _, _, rfl, _⟩ := h; rfl)
theorem ok_are_flips (T : Tx K mg) (F : ∃ fd, FunD K "are_flips" "are_flips" (defArgs s_are_flips) (defBody s_are_flips) (defScope s_are_flips) [] [] (He.ga K "are_flips") fd) (gl : mg "are_flips" = some (.ref (He.ga K "are_flips")))  : OkF P w K mg base "are_flips" (He.ga K "are_flips") ["model", "thing"] 1 (pr_are_flips K w) :=
  okf_of (k := 0) F gl sc_are_flips (fun _ _ _ _ _ _ us hl => match us, hl with | [_, _], _ => rfl) len_are_flips (fun hr => ps_are_flips T  hr) (b_are_flips T)
theorem len_check_flips : ∀ svs post, pr_check_flips K w svs post → svs.length = 2 := by
  intro svs post h
  unfold pr_check_flips at h
  first
    | (obtain ⟨rfl, _⟩ := h; rfl)
    | (obtain ⟨_, rfl, _⟩ := h; rfl)
    | (obtain ⟨_, _, rfl, _⟩ := h; rfl)
    | (obtain ⟨_, _, _, rfl, _⟩ := h; rfl)
    | (obtain ⟨_, _, _, _, rfl, _⟩ := h; rfl)
    | (obtain ⟨_, _, _, _, _, rfl, _⟩ := h; rfl)
    | (obtain ⟨_, _, _, _, _, _, rfl, _⟩ := h; rfl)
theorem ok_check_flips (T : Tx K mg) (F : ∃ fd, FunD K "check_flips" "check_flips" (defArgs s_check_flips) (defBody s_check_flips) (defScope s_check_flips) [] [] (He.ga K "check_flips") fd) (gl : mg "check_flips" = some (.ref (He.ga K "check_flips"))) (O_are_flips : OkF P w K mg base "are_flips" (He.ga K "are_flips") ["model", "thing"] 1 (pr_are_flips K w)) : OkF P w K mg base "check_flips" (He.ga K "check_flips") ["model", "flips"] 2 (pr_check_flips K w) :=
  okf_of (k := 1) F gl sc_check_flips (fun _ _ _ _ _ _ us hl => match us, hl with | [_, _], _ => rfl) len_check_flips (fun hr => ps_check_flips T O_are_flips hr) (b_check_flips)
theorem len_is_row_below : ∀ svs post, pr_is_row_below K w svs post → svs.length = 3 := by
  intro svs post h
  unfold pr_is_row_below at h
  first
    | (obtain ⟨rfl, _⟩ := h; rfl)
    | (obtain ⟨_, rfl, _⟩ := h; rfl)
    | (obtain ⟨_, _, rfl, _⟩ := h; rfl)
    | (obtain ⟨_, _, _, rfl, _⟩ := h; rfl)
    | (obtain ⟨_, _, _, _, rfl, _⟩ := h; rfl)
    | (obtain ⟨_, _, _, _, _, rfl, _⟩ := h; rfl)
    | (obtain ⟨_, _, _, _, _, _, rfl, _⟩ := h; rfl)
theorem ok_is_row_below (T : Tx K mg) (F : ∃ fd, FunD K "is_row_below" "is_row_below" (defArgs s_is_row_below) (defBody s_is_row_below) (defScope s_is_row_below) [] [] (He.ga K "is_row_below") fd) (gl : mg "is_row_below" = some (.ref (He.ga K "is_row_below")))  : OkF P w K mg base "is_row_below" (He.ga K "is_row_below") ["flips", "one", "other"] 1 (pr_is_row_below K w) :=
  okf_of (k := 0) F gl sc_is_row_below (fun _ _ _ _ _ _ us hl => match us, hl with | [_, _, _], _ => rfl) len_is_row_below (fun hr => ps_is_row_below T  hr) (b_is_row_below)
theorem len_is_below : ∀ svs post, pr_is_below K w svs post → svs.length = 4 := by
  intro svs post h
  unfold pr_is_below at h
  first
    | (obtain ⟨rfl, _⟩ := h; rfl)
    | (obtain ⟨_, rfl, _⟩ := h; rfl)
    | (obtain ⟨_, _, rfl, _⟩ := h; rfl)
    | (obtain ⟨_, _, _, rfl, _⟩ := h; rfl)
    | (obtain ⟨_, _, _, _, rfl, _⟩ := h; rfl)
    | (obtain ⟨_, _, _, _, _, rfl, _⟩ := h; rfl)
    | (obtain ⟨_, _, _, _, _, _, rfl, _⟩ := h; rfl)
theorem ok_is_below (T : Tx K mg) (F : ∃ fd, FunD K "is_below" "is_below" (defArgs s_is_below) (defBody s_is_below) (defScope s_is_below) [] [] (He.ga K "is_below") fd) (gl : mg "is_below" = some (.ref (He.ga K "is_below"))) (O_check_flips : OkF P w K mg base "check_flips" (He.ga K "check_flips") ["model", "flips"] 2 (pr_check_flips K w)) (O_is_picture : OkF P w K mg base "is_picture" (He.ga K "is_picture") ["model", "thing"] 3 (pr_is_picture K w)) (O_is_row_below : OkF P w K mg base "is_row_below" (He.ga K "is_row_below") ["flips", "one", "other"] 1 (pr_is_row_below K w)) : OkF P w K mg base "is_below" (He.ga K "is_below") ["model", "flips", "one", "other"] 4 (pr_is_below K w) :=
  okf_of (k := 3) F gl sc_is_below (fun _ _ _ _ _ _ us hl => match us, hl with | [_, _, _, _], _ => rfl) len_is_below (fun hr => ps_is_below T O_check_flips O_is_picture O_is_row_below hr) (b_is_below T)
theorem len_added_up : ∀ svs post, pr_added_up K w svs post → svs.length = 1 := by
  intro svs post h
  unfold pr_added_up at h
  first
    | (obtain ⟨rfl, _⟩ := h; rfl)
    | (obtain ⟨_, rfl, _⟩ := h; rfl)
    | (obtain ⟨_, _, rfl, _⟩ := h; rfl)
    | (obtain ⟨_, _, _, rfl, _⟩ := h; rfl)
    | (obtain ⟨_, _, _, _, rfl, _⟩ := h; rfl)
    | (obtain ⟨_, _, _, _, _, rfl, _⟩ := h; rfl)
    | (obtain ⟨_, _, _, _, _, _, rfl, _⟩ := h; rfl)
theorem ok_added_up (T : Tx K mg) (F : ∃ fd, FunD K "added_up" "added_up" (defArgs s_added_up) (defBody s_added_up) (defScope s_added_up) [] [] (He.ga K "added_up") fd) (gl : mg "added_up" = some (.ref (He.ga K "added_up")))  : OkF P w K mg base "added_up" (He.ga K "added_up") ["weights"] 1 (pr_added_up K w) :=
  okf_of (k := 0) F gl sc_added_up (fun _ _ _ _ _ _ us hl => match us, hl with | [_], _ => rfl) len_added_up (fun hr => ps_added_up T  hr) (b_added_up)
theorem len_is_turned_right : ∀ svs post, pr_is_turned_right K w svs post → svs.length = 3 := by
  intro svs post h
  unfold pr_is_turned_right at h
  first
    | (obtain ⟨rfl, _⟩ := h; rfl)
    | (obtain ⟨_, rfl, _⟩ := h; rfl)
    | (obtain ⟨_, _, rfl, _⟩ := h; rfl)
    | (obtain ⟨_, _, _, rfl, _⟩ := h; rfl)
    | (obtain ⟨_, _, _, _, rfl, _⟩ := h; rfl)
    | (obtain ⟨_, _, _, _, _, rfl, _⟩ := h; rfl)
    | (obtain ⟨_, _, _, _, _, _, rfl, _⟩ := h; rfl)
theorem ok_is_turned_right (T : Tx K mg) (F : ∃ fd, FunD K "is_turned_right" "is_turned_right" (defArgs s_is_turned_right) (defBody s_is_turned_right) (defScope s_is_turned_right) [] [] (He.ga K "is_turned_right") fd) (gl : mg "is_turned_right" = some (.ref (He.ga K "is_turned_right")))  : OkF P w K mg base "is_turned_right" (He.ga K "is_turned_right") ["flag", "one", "other"] 1 (pr_is_turned_right K w) :=
  okf_of (k := 0) F gl sc_is_turned_right (fun _ _ _ _ _ _ us hl => match us, hl with | [_, _, _], _ => rfl) len_is_turned_right (fun hr => ps_is_turned_right T  hr) (b_is_turned_right)
theorem len_rises_at : ∀ svs post, pr_rises_at K w svs post → svs.length = 4 := by
  intro svs post h
  unfold pr_rises_at at h
  first
    | (obtain ⟨rfl, _⟩ := h; rfl)
    | (obtain ⟨_, rfl, _⟩ := h; rfl)
    | (obtain ⟨_, _, rfl, _⟩ := h; rfl)
    | (obtain ⟨_, _, _, rfl, _⟩ := h; rfl)
    | (obtain ⟨_, _, _, _, rfl, _⟩ := h; rfl)
    | (obtain ⟨_, _, _, _, _, rfl, _⟩ := h; rfl)
    | (obtain ⟨_, _, _, _, _, _, rfl, _⟩ := h; rfl)
theorem ok_rises_at (T : Tx K mg) (F : ∃ fd, FunD K "rises_at" "rises_at" (defArgs s_rises_at) (defBody s_rises_at) (defScope s_rises_at) [] [] (He.ga K "rises_at") fd) (gl : mg "rises_at" = some (.ref (He.ga K "rises_at"))) (O_added_up : OkF P w K mg base "added_up" (He.ga K "added_up") ["weights"] 1 (pr_added_up K w)) (O_all_rows : OkF P w K mg base "all_rows" (He.ga K "all_rows") ["values", "many"] 1 (pr_all_rows K w)) (O_is_row_below : OkF P w K mg base "is_row_below" (He.ga K "is_row_below") ["flips", "one", "other"] 1 (pr_is_row_below K w)) (O_is_turned_right : OkF P w K mg base "is_turned_right" (He.ga K "is_turned_right") ["flag", "one", "other"] 1 (pr_is_turned_right K w)) (O_local_weights : OkF P w K mg base "local_weights" (He.ga K "local_weights") ["model", "place", "values"] 2 (pr_local_weights K w)) : OkF P w K mg base "rises_at" (He.ga K "rises_at") ["model", "place", "flag", "flips"] 3 (pr_rises_at K w) :=
  okf_of (k := 2) F gl sc_rises_at (fun _ _ _ _ _ _ us hl => match us, hl with | [_, _, _, _], _ => rfl) len_rises_at (fun hr => ps_rises_at T O_added_up O_all_rows O_is_row_below O_is_turned_right O_local_weights hr) (b_rises_at T)
theorem len_rises_there : ∀ svs post, pr_rises_there K w svs post → svs.length = 2 := by
  intro svs post h
  unfold pr_rises_there at h
  first
    | (obtain ⟨rfl, _⟩ := h; rfl)
    | (obtain ⟨_, rfl, _⟩ := h; rfl)
    | (obtain ⟨_, _, rfl, _⟩ := h; rfl)
    | (obtain ⟨_, _, _, rfl, _⟩ := h; rfl)
    | (obtain ⟨_, _, _, _, rfl, _⟩ := h; rfl)
    | (obtain ⟨_, _, _, _, _, rfl, _⟩ := h; rfl)
    | (obtain ⟨_, _, _, _, _, _, rfl, _⟩ := h; rfl)
theorem ok_rises_there (T : Tx K mg) (F : ∃ fd, FunD K "rises_there" "rises_there" (defArgs s_rises_there) (defBody s_rises_there) (defScope s_rises_there) [] [] (He.ga K "rises_there") fd) (gl : mg "rises_there" = some (.ref (He.ga K "rises_there"))) (O_rises_at : OkF P w K mg base "rises_at" (He.ga K "rises_at") ["model", "place", "flag", "flips"] 3 (pr_rises_at K w)) (O_tied_places : OkF P w K mg base "tied_places" (He.ga K "tied_places") ["model", "place"] 2 (pr_tied_places K w)) : OkF P w K mg base "rises_there" (He.ga K "rises_there") ["model", "flips"] 4 (pr_rises_there K w) :=
  okf_of (k := 3) F gl sc_rises_there (fun _ _ _ _ _ _ us hl => match us, hl with | [_, _], _ => rfl) len_rises_there (fun hr => ps_rises_there T O_rises_at O_tied_places hr) (b_rises_there T)
theorem len_rises : ∀ svs post, pr_rises K w svs post → svs.length = 2 := by
  intro svs post h
  unfold pr_rises at h
  first
    | (obtain ⟨rfl, _⟩ := h; rfl)
    | (obtain ⟨_, rfl, _⟩ := h; rfl)
    | (obtain ⟨_, _, rfl, _⟩ := h; rfl)
    | (obtain ⟨_, _, _, rfl, _⟩ := h; rfl)
    | (obtain ⟨_, _, _, _, rfl, _⟩ := h; rfl)
    | (obtain ⟨_, _, _, _, _, rfl, _⟩ := h; rfl)
    | (obtain ⟨_, _, _, _, _, _, rfl, _⟩ := h; rfl)
theorem ok_rises (T : Tx K mg) (F : ∃ fd, FunD K "rises" "rises" (defArgs s_rises) (defBody s_rises) (defScope s_rises) [] [] (He.ga K "rises") fd) (gl : mg "rises" = some (.ref (He.ga K "rises"))) (O_check_flips : OkF P w K mg base "check_flips" (He.ga K "check_flips") ["model", "flips"] 2 (pr_check_flips K w)) (O_rises_there : OkF P w K mg base "rises_there" (He.ga K "rises_there") ["model", "flips"] 4 (pr_rises_there K w)) : OkF P w K mg base "rises" (He.ga K "rises") ["model", "flips"] 5 (pr_rises K w) :=
  okf_of (k := 4) F gl sc_rises (fun _ _ _ _ _ _ us hl => match us, hl with | [_, _], _ => rfl) len_rises (fun hr => ps_rises T O_check_flips O_rises_there hr) (b_rises)
theorem len_ends_by : ∀ svs post, pr_ends_by K w svs post → svs.length = 2 := by
  intro svs post h
  unfold pr_ends_by at h
  first
    | (obtain ⟨rfl, _⟩ := h; rfl)
    | (obtain ⟨_, rfl, _⟩ := h; rfl)
    | (obtain ⟨_, _, rfl, _⟩ := h; rfl)
    | (obtain ⟨_, _, _, rfl, _⟩ := h; rfl)
    | (obtain ⟨_, _, _, _, rfl, _⟩ := h; rfl)
    | (obtain ⟨_, _, _, _, _, rfl, _⟩ := h; rfl)
    | (obtain ⟨_, _, _, _, _, _, rfl, _⟩ := h; rfl)
theorem ok_ends_by (T : Tx K mg) (F : ∃ fd, FunD K "ends_by" "ends_by" (defArgs s_ends_by) (defBody s_ends_by) (defScope s_ends_by) [] [] (He.ga K "ends_by") fd) (gl : mg "ends_by" = some (.ref (He.ga K "ends_by")))  : OkF P w K mg base "ends_by" (He.ga K "ends_by") ["model", "flips"] 1 (pr_ends_by K w) :=
  okf_of (k := 0) F gl sc_ends_by (fun _ _ _ _ _ _ us hl => match us, hl with | [_, _], _ => rfl) len_ends_by (fun hr => ps_ends_by T  hr) (b_ends_by T)
theorem len_do_ends_fit : ∀ svs post, pr_do_ends_fit K w svs post → svs.length = 2 := by
  intro svs post h
  unfold pr_do_ends_fit at h
  first
    | (obtain ⟨rfl, _⟩ := h; rfl)
    | (obtain ⟨_, rfl, _⟩ := h; rfl)
    | (obtain ⟨_, _, rfl, _⟩ := h; rfl)
    | (obtain ⟨_, _, _, rfl, _⟩ := h; rfl)
    | (obtain ⟨_, _, _, _, rfl, _⟩ := h; rfl)
    | (obtain ⟨_, _, _, _, _, rfl, _⟩ := h; rfl)
    | (obtain ⟨_, _, _, _, _, _, rfl, _⟩ := h; rfl)
theorem ok_do_ends_fit (T : Tx K mg) (F : ∃ fd, FunD K "do_ends_fit" "do_ends_fit" (defArgs s_do_ends_fit) (defBody s_do_ends_fit) (defScope s_do_ends_fit) [] [] (He.ga K "do_ends_fit") fd) (gl : mg "do_ends_fit" = some (.ref (He.ga K "do_ends_fit"))) (O_ends_by : OkF P w K mg base "ends_by" (He.ga K "ends_by") ["model", "flips"] 1 (pr_ends_by K w)) (O_weight_there : OkF P w K mg base "weight_there" (He.ga K "weight_there") ["model", "picture"] 1 (pr_weight_there K w)) : OkF P w K mg base "do_ends_fit" (He.ga K "do_ends_fit") ["model", "flips"] 2 (pr_do_ends_fit K w) :=
  okf_of (k := 1) F gl sc_do_ends_fit (fun _ _ _ _ _ _ us hl => match us, hl with | [_, _], _ => rfl) len_do_ends_fit (fun hr => ps_do_ends_fit T O_ends_by O_weight_there hr) (b_do_ends_fit T)
theorem len_ends_of : ∀ svs post, pr_ends_of K w svs post → svs.length = 2 := by
  intro svs post h
  unfold pr_ends_of at h
  first
    | (obtain ⟨rfl, _⟩ := h; rfl)
    | (obtain ⟨_, rfl, _⟩ := h; rfl)
    | (obtain ⟨_, _, rfl, _⟩ := h; rfl)
    | (obtain ⟨_, _, _, rfl, _⟩ := h; rfl)
    | (obtain ⟨_, _, _, _, rfl, _⟩ := h; rfl)
    | (obtain ⟨_, _, _, _, _, rfl, _⟩ := h; rfl)
    | (obtain ⟨_, _, _, _, _, _, rfl, _⟩ := h; rfl)
theorem ok_ends_of (T : Tx K mg) (F : ∃ fd, FunD K "ends_of" "ends_of" (defArgs s_ends_of) (defBody s_ends_of) (defScope s_ends_of) [] [] (He.ga K "ends_of") fd) (gl : mg "ends_of" = some (.ref (He.ga K "ends_of"))) (O_check_flips : OkF P w K mg base "check_flips" (He.ga K "check_flips") ["model", "flips"] 2 (pr_check_flips K w)) (O_do_ends_fit : OkF P w K mg base "do_ends_fit" (He.ga K "do_ends_fit") ["model", "flips"] 2 (pr_do_ends_fit K w)) (O_ends_by : OkF P w K mg base "ends_by" (He.ga K "ends_by") ["model", "flips"] 1 (pr_ends_by K w)) : OkF P w K mg base "ends_of" (He.ga K "ends_of") ["model", "flips"] 3 (pr_ends_of K w) :=
  okf_of (k := 2) F gl sc_ends_of (fun _ _ _ _ _ _ us hl => match us, hl with | [_, _], _ => rfl) len_ends_of (fun hr => ps_ends_of T O_check_flips O_do_ends_fit O_ends_by hr) (b_ends_of T)
theorem len_may_rise : ∀ svs post, pr_may_rise K w svs post → svs.length = 3 := by
  intro svs post h
  unfold pr_may_rise at h
  first
    | (obtain ⟨rfl, _⟩ := h; rfl)
    | (obtain ⟨_, rfl, _⟩ := h; rfl)
    | (obtain ⟨_, _, rfl, _⟩ := h; rfl)
    | (obtain ⟨_, _, _, rfl, _⟩ := h; rfl)
    | (obtain ⟨_, _, _, _, rfl, _⟩ := h; rfl)
    | (obtain ⟨_, _, _, _, _, rfl, _⟩ := h; rfl)
    | (obtain ⟨_, _, _, _, _, _, rfl, _⟩ := h; rfl)
theorem ok_may_rise (T : Tx K mg) (F : ∃ fd, FunD K "may_rise" "may_rise" (defArgs s_may_rise) (defBody s_may_rise) (defScope s_may_rise) [] [] (He.ga K "may_rise") fd) (gl : mg "may_rise" = some (.ref (He.ga K "may_rise"))) (O_rises_at : OkF P w K mg base "rises_at" (He.ga K "rises_at") ["model", "place", "flag", "flips"] 3 (pr_rises_at K w)) (O_tied_places : OkF P w K mg base "tied_places" (He.ga K "tied_places") ["model", "place"] 2 (pr_tied_places K w)) : OkF P w K mg base "may_rise" (He.ga K "may_rise") ["model", "begun", "known"] 4 (pr_may_rise K w) :=
  okf_of (k := 3) F gl sc_may_rise (fun _ _ _ _ _ _ us hl => match us, hl with | [_, _, _], _ => rfl) len_may_rise (fun hr => ps_may_rise T O_rises_at O_tied_places hr) (b_may_rise T)
theorem len_flips_for : ∀ svs post, pr_flips_for K w svs post → svs.length = 1 := by
  intro svs post h
  unfold pr_flips_for at h
  first
    | (obtain ⟨rfl, _⟩ := h; rfl)
    | (obtain ⟨_, rfl, _⟩ := h; rfl)
    | (obtain ⟨_, _, rfl, _⟩ := h; rfl)
    | (obtain ⟨_, _, _, rfl, _⟩ := h; rfl)
    | (obtain ⟨_, _, _, _, rfl, _⟩ := h; rfl)
    | (obtain ⟨_, _, _, _, _, rfl, _⟩ := h; rfl)
    | (obtain ⟨_, _, _, _, _, _, rfl, _⟩ := h; rfl)
theorem ok_flips_for (T : Tx K mg) (F : ∃ fd, FunD K "flips_for" "flips_for" (defArgs s_flips_for) (defBody s_flips_for) (defScope s_flips_for) [] [] (He.ga K "flips_for") fd) (gl : mg "flips_for" = some (.ref (He.ga K "flips_for"))) (O_do_ends_fit : OkF P w K mg base "do_ends_fit" (He.ga K "do_ends_fit") ["model", "flips"] 2 (pr_do_ends_fit K w)) (O_may_rise : OkF P w K mg base "may_rise" (He.ga K "may_rise") ["model", "begun", "known"] 4 (pr_may_rise K w)) : OkF P w K mg base "flips_for" (He.ga K "flips_for") ["model"] 5 (pr_flips_for K w) :=
  okf_of (k := 4) F gl sc_flips_for (fun _ _ _ _ _ _ us hl => match us, hl with | [_], _ => rfl) len_flips_for (fun hr => ps_flips_for T O_do_ends_fit O_may_rise hr) (b_flips_for T)
theorem len_law_hand : ∀ svs post, pr_law_hand K w svs post → svs.length = 1 := by
  intro svs post h
  unfold pr_law_hand at h
  first
    | (obtain ⟨rfl, _⟩ := h; rfl)
    | (obtain ⟨_, rfl, _⟩ := h; rfl)
    | (obtain ⟨_, _, rfl, _⟩ := h; rfl)
    | (obtain ⟨_, _, _, rfl, _⟩ := h; rfl)
    | (obtain ⟨_, _, _, _, rfl, _⟩ := h; rfl)
    | (obtain ⟨_, _, _, _, _, rfl, _⟩ := h; rfl)
    | (obtain ⟨_, _, _, _, _, _, rfl, _⟩ := h; rfl)
theorem ok_law_hand (T : Tx K mg) (F : ∃ fd, FunD K "_law_hand" "_law_hand" (defArgs s_law_hand) (defBody s_law_hand) (defScope s_law_hand) [] [] (He.ga K "_law_hand") fd) (gl : mg "_law_hand" = some (.ref (He.ga K "_law_hand")))  : OkF P w K mg base "_law_hand" (He.ga K "_law_hand") ["_law_script"] 1 (pr_law_hand K w) :=
  okf_of (k := 0) F gl sc_law_hand (fun _ _ _ _ _ _ us hl => match us, hl with | [_], _ => rfl) len_law_hand (fun hr => ps_law_hand T  hr) (b_law_hand)
theorem len_law_draw : ∀ svs post, pr_law_draw K w svs post → svs.length = 2 := by
  intro svs post h
  unfold pr_law_draw at h
  first
    | (obtain ⟨rfl, _⟩ := h; rfl)
    | (obtain ⟨_, rfl, _⟩ := h; rfl)
    | (obtain ⟨_, _, rfl, _⟩ := h; rfl)
    | (obtain ⟨_, _, _, rfl, _⟩ := h; rfl)
    | (obtain ⟨_, _, _, _, rfl, _⟩ := h; rfl)
    | (obtain ⟨_, _, _, _, _, rfl, _⟩ := h; rfl)
    | (obtain ⟨_, _, _, _, _, _, rfl, _⟩ := h; rfl)
theorem ok_law_draw (T : Tx K mg) (F : ∃ fd, FunD K "_law_draw" "_law_draw" (defArgs s_law_draw) (defBody s_law_draw) (defScope s_law_draw) [] [] (He.ga K "_law_draw") fd) (gl : mg "_law_draw" = some (.ref (He.ga K "_law_draw")))  : OkF P w K mg base "_law_draw" (He.ga K "_law_draw") ["_law_hand_here", "_law_many"] 1 (pr_law_draw K w) :=
  okf_of (k := 0) F gl sc_law_draw (fun _ _ _ _ _ _ us hl => match us, hl with | [_, _], _ => rfl) len_law_draw (fun hr => ps_law_draw T  hr) (b_law_draw)
theorem len_law_any : ∀ svs post, pr_law_any K w svs post → svs.length = 2 := by
  intro svs post h
  unfold pr_law_any at h
  first
    | (obtain ⟨rfl, _⟩ := h; rfl)
    | (obtain ⟨_, rfl, _⟩ := h; rfl)
    | (obtain ⟨_, _, rfl, _⟩ := h; rfl)
    | (obtain ⟨_, _, _, rfl, _⟩ := h; rfl)
    | (obtain ⟨_, _, _, _, rfl, _⟩ := h; rfl)
    | (obtain ⟨_, _, _, _, _, rfl, _⟩ := h; rfl)
    | (obtain ⟨_, _, _, _, _, _, rfl, _⟩ := h; rfl)
theorem ok_law_any (T : Tx K mg) (F : ∃ fd, FunD K "_law_any" "_law_any" (defArgs s_law_any) (defBody s_law_any) (defScope s_law_any) [] [] (He.ga K "_law_any") fd) (gl : mg "_law_any" = some (.ref (He.ga K "_law_any"))) (O_law_draw : OkF P w K mg base "_law_draw" (He.ga K "_law_draw") ["_law_hand_here", "_law_many"] 1 (pr_law_draw K w)) : OkF P w K mg base "_law_any" (He.ga K "_law_any") ["_law_hand_here", "_law_things"] 2 (pr_law_any K w) :=
  okf_of (k := 1) F gl sc_law_any (fun _ _ _ _ _ _ us hl => match us, hl with | [_, _], _ => rfl) len_law_any (fun hr => ps_law_any T O_law_draw hr) (b_law_any)
theorem len_law_near : ∀ svs post, pr_law_near K w svs post → svs.length = 2 := by
  intro svs post h
  unfold pr_law_near at h
  first
    | (obtain ⟨rfl, _⟩ := h; rfl)
    | (obtain ⟨_, rfl, _⟩ := h; rfl)
    | (obtain ⟨_, _, rfl, _⟩ := h; rfl)
    | (obtain ⟨_, _, _, rfl, _⟩ := h; rfl)
    | (obtain ⟨_, _, _, _, rfl, _⟩ := h; rfl)
    | (obtain ⟨_, _, _, _, _, rfl, _⟩ := h; rfl)
    | (obtain ⟨_, _, _, _, _, _, rfl, _⟩ := h; rfl)
theorem ok_law_near (T : Tx K mg) (F : ∃ fd, FunD K "_law_near" "_law_near" (defArgs s_law_near) (defBody s_law_near) (defScope s_law_near) [] [] (He.ga K "_law_near") fd) (gl : mg "_law_near" = some (.ref (He.ga K "_law_near")))  : OkF P w K mg base "_law_near" (He.ga K "_law_near") ["_law_model_here", "_law_place"] 1 (pr_law_near K w) :=
  okf_of (k := 0) F gl sc_law_near (fun _ _ _ _ _ _ us hl => match us, hl with | [_, _], _ => rfl) len_law_near (fun hr => ps_law_near T  hr) (b_law_near)
theorem len_law_local : ∀ svs post, pr_law_local K w svs post → svs.length = 3 := by
  intro svs post h
  unfold pr_law_local at h
  first
    | (obtain ⟨rfl, _⟩ := h; rfl)
    | (obtain ⟨_, rfl, _⟩ := h; rfl)
    | (obtain ⟨_, _, rfl, _⟩ := h; rfl)
    | (obtain ⟨_, _, _, rfl, _⟩ := h; rfl)
    | (obtain ⟨_, _, _, _, rfl, _⟩ := h; rfl)
    | (obtain ⟨_, _, _, _, _, rfl, _⟩ := h; rfl)
    | (obtain ⟨_, _, _, _, _, _, rfl, _⟩ := h; rfl)
theorem ok_law_local (T : Tx K mg) (F : ∃ fd, FunD K "_law_local" "_law_local" (defArgs s_law_local) (defBody s_law_local) (defScope s_law_local) [] [] (He.ga K "_law_local") fd) (gl : mg "_law_local" = some (.ref (He.ga K "_law_local")))  : OkF P w K mg base "_law_local" (He.ga K "_law_local") ["_law_model_here", "_law_place", "_law_seen"] 1 (pr_law_local K w) :=
  okf_of (k := 0) F gl sc_law_local (fun _ _ _ _ _ _ us hl => match us, hl with | [_, _, _], _ => rfl) len_law_local (fun hr => ps_law_local T  hr) (b_law_local)
theorem len_law_weight : ∀ svs post, pr_law_weight K w svs post → svs.length = 2 := by
  intro svs post h
  unfold pr_law_weight at h
  first
    | (obtain ⟨rfl, _⟩ := h; rfl)
    | (obtain ⟨_, rfl, _⟩ := h; rfl)
    | (obtain ⟨_, _, rfl, _⟩ := h; rfl)
    | (obtain ⟨_, _, _, rfl, _⟩ := h; rfl)
    | (obtain ⟨_, _, _, _, rfl, _⟩ := h; rfl)
    | (obtain ⟨_, _, _, _, _, rfl, _⟩ := h; rfl)
    | (obtain ⟨_, _, _, _, _, _, rfl, _⟩ := h; rfl)
theorem ok_law_weight (T : Tx K mg) (F : ∃ fd, FunD K "_law_weight" "_law_weight" (defArgs s_law_weight) (defBody s_law_weight) (defScope s_law_weight) [] [] (He.ga K "_law_weight") fd) (gl : mg "_law_weight" = some (.ref (He.ga K "_law_weight")))  : OkF P w K mg base "_law_weight" (He.ga K "_law_weight") ["_law_model_here", "_law_picture"] 1 (pr_law_weight K w) :=
  okf_of (k := 0) F gl sc_law_weight (fun _ _ _ _ _ _ us hl => match us, hl with | [_, _], _ => rfl) len_law_weight (fun hr => ps_law_weight T  hr) (b_law_weight)
theorem len_law_tuples : ∀ svs post, pr_law_tuples K w svs post → svs.length = 1 := by
  intro svs post h
  unfold pr_law_tuples at h
  first
    | (obtain ⟨rfl, _⟩ := h; rfl)
    | (obtain ⟨_, rfl, _⟩ := h; rfl)
    | (obtain ⟨_, _, rfl, _⟩ := h; rfl)
    | (obtain ⟨_, _, _, rfl, _⟩ := h; rfl)
    | (obtain ⟨_, _, _, _, rfl, _⟩ := h; rfl)
    | (obtain ⟨_, _, _, _, _, rfl, _⟩ := h; rfl)
    | (obtain ⟨_, _, _, _, _, _, rfl, _⟩ := h; rfl)
theorem ok_law_tuples (T : Tx K mg) (F : ∃ fd, FunD K "_law_tuples" "_law_tuples" (defArgs s_law_tuples) (defBody s_law_tuples) (defScope s_law_tuples) [] [] (He.ga K "_law_tuples") fd) (gl : mg "_law_tuples" = some (.ref (He.ga K "_law_tuples")))  : OkF P w K mg base "_law_tuples" (He.ga K "_law_tuples") ["_law_rows"] 1 (pr_law_tuples K w) :=
  okf_of (k := 0) F gl sc_law_tuples (fun _ _ _ _ _ _ us hl => match us, hl with | [_], _ => rfl) len_law_tuples (fun hr => ps_law_tuples T  hr) (b_law_tuples)
theorem len_law_pairs : ∀ svs post, pr_law_pairs K w svs post → svs.length = 2 := by
  intro svs post h
  unfold pr_law_pairs at h
  first
    | (obtain ⟨rfl, _⟩ := h; rfl)
    | (obtain ⟨_, rfl, _⟩ := h; rfl)
    | (obtain ⟨_, _, rfl, _⟩ := h; rfl)
    | (obtain ⟨_, _, _, rfl, _⟩ := h; rfl)
    | (obtain ⟨_, _, _, _, rfl, _⟩ := h; rfl)
    | (obtain ⟨_, _, _, _, _, rfl, _⟩ := h; rfl)
    | (obtain ⟨_, _, _, _, _, _, rfl, _⟩ := h; rfl)
theorem ok_law_pairs (T : Tx K mg) (F : ∃ fd, FunD K "_law_pairs" "_law_pairs" (defArgs s_law_pairs) (defBody s_law_pairs) (defScope s_law_pairs) [] [] (He.ga K "_law_pairs") fd) (gl : mg "_law_pairs" = some (.ref (He.ga K "_law_pairs"))) (O_law_draw : OkF P w K mg base "_law_draw" (He.ga K "_law_draw") ["_law_hand_here", "_law_many"] 1 (pr_law_draw K w)) : OkF P w K mg base "_law_pairs" (He.ga K "_law_pairs") ["_law_hand_here", "_law_many"] 2 (pr_law_pairs K w) :=
  okf_of (k := 1) F gl sc_law_pairs (fun _ _ _ _ _ _ us hl => match us, hl with | [_, _], _ => rfl) len_law_pairs (fun hr => ps_law_pairs T O_law_draw hr) (b_law_pairs)
theorem len_law_stacks : ∀ svs post, pr_law_stacks K w svs post → svs.length = 3 := by
  intro svs post h
  unfold pr_law_stacks at h
  first
    | (obtain ⟨rfl, _⟩ := h; rfl)
    | (obtain ⟨_, rfl, _⟩ := h; rfl)
    | (obtain ⟨_, _, rfl, _⟩ := h; rfl)
    | (obtain ⟨_, _, _, rfl, _⟩ := h; rfl)
    | (obtain ⟨_, _, _, _, rfl, _⟩ := h; rfl)
    | (obtain ⟨_, _, _, _, _, rfl, _⟩ := h; rfl)
    | (obtain ⟨_, _, _, _, _, _, rfl, _⟩ := h; rfl)
theorem ok_law_stacks (T : Tx K mg) (F : ∃ fd, FunD K "_law_stacks" "_law_stacks" (defArgs s_law_stacks) (defBody s_law_stacks) (defScope s_law_stacks) [] [] (He.ga K "_law_stacks") fd) (gl : mg "_law_stacks" = some (.ref (He.ga K "_law_stacks")))  : OkF P w K mg base "_law_stacks" (He.ga K "_law_stacks") ["_law_rows", "_law_columns", "_law_most"] 1 (pr_law_stacks K w) :=
  okf_of (k := 0) F gl sc_law_stacks (fun _ _ _ _ _ _ us hl => match us, hl with | [_, _, _], _ => rfl) len_law_stacks (fun hr => ps_law_stacks T  hr) (b_law_stacks)
theorem len_law_table : ∀ svs post, pr_law_table K w svs post → svs.length = 3 := by
  intro svs post h
  unfold pr_law_table at h
  first
    | (obtain ⟨rfl, _⟩ := h; rfl)
    | (obtain ⟨_, rfl, _⟩ := h; rfl)
    | (obtain ⟨_, _, rfl, _⟩ := h; rfl)
    | (obtain ⟨_, _, _, rfl, _⟩ := h; rfl)
    | (obtain ⟨_, _, _, _, rfl, _⟩ := h; rfl)
    | (obtain ⟨_, _, _, _, _, rfl, _⟩ := h; rfl)
    | (obtain ⟨_, _, _, _, _, _, rfl, _⟩ := h; rfl)
theorem ok_law_table (T : Tx K mg) (F : ∃ fd, FunD K "_law_table" "_law_table" (defArgs s_law_table) (defBody s_law_table) (defScope s_law_table) [] [] (He.ga K "_law_table") fd) (gl : mg "_law_table" = some (.ref (He.ga K "_law_table"))) (O_law_any : OkF P w K mg base "_law_any" (He.ga K "_law_any") ["_law_hand_here", "_law_things"] 2 (pr_law_any K w)) : OkF P w K mg base "_law_table" (He.ga K "_law_table") ["_law_hand_here", "_law_levels", "_law_kind"] 3 (pr_law_table K w) :=
  okf_of (k := 2) F gl sc_law_table (fun _ _ _ _ _ _ us hl => match us, hl with | [_, _, _], _ => rfl) len_law_table (fun hr => ps_law_table T O_law_any hr) (b_law_table)
theorem len_law_model : ∀ svs post, pr_law_model K w svs post → svs.length = 1 := by
  intro svs post h
  unfold pr_law_model at h
  first
    | (obtain ⟨rfl, _⟩ := h; rfl)
    | (obtain ⟨_, rfl, _⟩ := h; rfl)
    | (obtain ⟨_, _, rfl, _⟩ := h; rfl)
    | (obtain ⟨_, _, _, rfl, _⟩ := h; rfl)
    | (obtain ⟨_, _, _, _, rfl, _⟩ := h; rfl)
    | (obtain ⟨_, _, _, _, _, rfl, _⟩ := h; rfl)
    | (obtain ⟨_, _, _, _, _, _, rfl, _⟩ := h; rfl)
theorem ok_law_model (T : Tx K mg) (F : ∃ fd, FunD K "_law_model" "_law_model" (defArgs s_law_model) (defBody s_law_model) (defScope s_law_model) [] [] (He.ga K "_law_model") fd) (gl : mg "_law_model" = some (.ref (He.ga K "_law_model"))) (O_law_any : OkF P w K mg base "_law_any" (He.ga K "_law_any") ["_law_hand_here", "_law_things"] 2 (pr_law_any K w)) (O_law_draw : OkF P w K mg base "_law_draw" (He.ga K "_law_draw") ["_law_hand_here", "_law_many"] 1 (pr_law_draw K w)) (O_law_pairs : OkF P w K mg base "_law_pairs" (He.ga K "_law_pairs") ["_law_hand_here", "_law_many"] 2 (pr_law_pairs K w)) (O_law_stacks : OkF P w K mg base "_law_stacks" (He.ga K "_law_stacks") ["_law_rows", "_law_columns", "_law_most"] 1 (pr_law_stacks K w)) (O_law_table : OkF P w K mg base "_law_table" (He.ga K "_law_table") ["_law_hand_here", "_law_levels", "_law_kind"] 3 (pr_law_table K w)) : OkF P w K mg base "_law_model" (He.ga K "_law_model") ["_law_hand_here"] 4 (pr_law_model K w) :=
  okf_of (k := 3) F gl sc_law_model (fun _ _ _ _ _ _ us hl => match us, hl with | [_], _ => rfl) len_law_model (fun hr => ps_law_model T O_law_any O_law_draw O_law_pairs O_law_stacks O_law_table hr) (b_law_model)
theorem len_law_wide : ∀ svs post, pr_law_wide K w svs post → svs.length = 3 := by
  intro svs post h
  unfold pr_law_wide at h
  first
    | (obtain ⟨rfl, _⟩ := h; rfl)
    | (obtain ⟨_, rfl, _⟩ := h; rfl)
    | (obtain ⟨_, _, rfl, _⟩ := h; rfl)
    | (obtain ⟨_, _, _, rfl, _⟩ := h; rfl)
    | (obtain ⟨_, _, _, _, rfl, _⟩ := h; rfl)
    | (obtain ⟨_, _, _, _, _, rfl, _⟩ := h; rfl)
    | (obtain ⟨_, _, _, _, _, _, rfl, _⟩ := h; rfl)
theorem ok_law_wide (T : Tx K mg) (F : ∃ fd, FunD K "_law_wide" "_law_wide" (defArgs s_law_wide) (defBody s_law_wide) (defScope s_law_wide) [] [] (He.ga K "_law_wide") fd) (gl : mg "_law_wide" = some (.ref (He.ga K "_law_wide"))) (O_law_any : OkF P w K mg base "_law_any" (He.ga K "_law_any") ["_law_hand_here", "_law_things"] 2 (pr_law_any K w)) (O_law_draw : OkF P w K mg base "_law_draw" (He.ga K "_law_draw") ["_law_hand_here", "_law_many"] 1 (pr_law_draw K w)) (O_law_table : OkF P w K mg base "_law_table" (He.ga K "_law_table") ["_law_hand_here", "_law_levels", "_law_kind"] 3 (pr_law_table K w)) : OkF P w K mg base "_law_wide" (He.ga K "_law_wide") ["_law_hand_here", "_law_many", "_law_levels"] 4 (pr_law_wide K w) :=
  okf_of (k := 3) F gl sc_law_wide (fun _ _ _ _ _ _ us hl => match us, hl with | [_, _, _], _ => rfl) len_law_wide (fun hr => ps_law_wide T O_law_any O_law_draw O_law_table hr) (b_law_wide)
theorem len_law_is_under : ∀ svs post, pr_law_is_under K w svs post → svs.length = 3 := by
  intro svs post h
  unfold pr_law_is_under at h
  first
    | (obtain ⟨rfl, _⟩ := h; rfl)
    | (obtain ⟨_, rfl, _⟩ := h; rfl)
    | (obtain ⟨_, _, rfl, _⟩ := h; rfl)
    | (obtain ⟨_, _, _, rfl, _⟩ := h; rfl)
    | (obtain ⟨_, _, _, _, rfl, _⟩ := h; rfl)
    | (obtain ⟨_, _, _, _, _, rfl, _⟩ := h; rfl)
    | (obtain ⟨_, _, _, _, _, _, rfl, _⟩ := h; rfl)
theorem ok_law_is_under (T : Tx K mg) (F : ∃ fd, FunD K "_law_is_under" "_law_is_under" (defArgs s_law_is_under) (defBody s_law_is_under) (defScope s_law_is_under) [] [] (He.ga K "_law_is_under") fd) (gl : mg "_law_is_under" = some (.ref (He.ga K "_law_is_under")))  : OkF P w K mg base "_law_is_under" (He.ga K "_law_is_under") ["_law_flips", "_law_one", "_law_other"] 1 (pr_law_is_under K w) :=
  okf_of (k := 0) F gl sc_law_is_under (fun _ _ _ _ _ _ us hl => match us, hl with | [_, _, _], _ => rfl) len_law_is_under (fun hr => ps_law_is_under T  hr) (b_law_is_under)
theorem len_law_rises_at : ∀ svs post, pr_law_rises_at K w svs post → svs.length = 3 := by
  intro svs post h
  unfold pr_law_rises_at at h
  first
    | (obtain ⟨rfl, _⟩ := h; rfl)
    | (obtain ⟨_, rfl, _⟩ := h; rfl)
    | (obtain ⟨_, _, rfl, _⟩ := h; rfl)
    | (obtain ⟨_, _, _, rfl, _⟩ := h; rfl)
    | (obtain ⟨_, _, _, _, rfl, _⟩ := h; rfl)
    | (obtain ⟨_, _, _, _, _, rfl, _⟩ := h; rfl)
    | (obtain ⟨_, _, _, _, _, _, rfl, _⟩ := h; rfl)
theorem ok_law_rises_at (T : Tx K mg) (F : ∃ fd, FunD K "_law_rises_at" "_law_rises_at" (defArgs s_law_rises_at) (defBody s_law_rises_at) (defScope s_law_rises_at) [] [] (He.ga K "_law_rises_at") fd) (gl : mg "_law_rises_at" = some (.ref (He.ga K "_law_rises_at"))) (O_law_is_under : OkF P w K mg base "_law_is_under" (He.ga K "_law_is_under") ["_law_flips", "_law_one", "_law_other"] 1 (pr_law_is_under K w)) (O_law_local : OkF P w K mg base "_law_local" (He.ga K "_law_local") ["_law_model_here", "_law_place", "_law_seen"] 1 (pr_law_local K w)) (O_law_near : OkF P w K mg base "_law_near" (He.ga K "_law_near") ["_law_model_here", "_law_place"] 1 (pr_law_near K w)) (O_law_tuples : OkF P w K mg base "_law_tuples" (He.ga K "_law_tuples") ["_law_rows"] 1 (pr_law_tuples K w)) : OkF P w K mg base "_law_rises_at" (He.ga K "_law_rises_at") ["_law_model_here", "_law_flips", "_law_place"] 2 (pr_law_rises_at K w) :=
  okf_of (k := 1) F gl sc_law_rises_at (fun _ _ _ _ _ _ us hl => match us, hl with | [_, _, _], _ => rfl) len_law_rises_at (fun hr => ps_law_rises_at T O_law_is_under O_law_local O_law_near O_law_tuples hr) (b_law_rises_at)
theorem len_law_rises : ∀ svs post, pr_law_rises K w svs post → svs.length = 2 := by
  intro svs post h
  unfold pr_law_rises at h
  first
    | (obtain ⟨rfl, _⟩ := h; rfl)
    | (obtain ⟨_, rfl, _⟩ := h; rfl)
    | (obtain ⟨_, _, rfl, _⟩ := h; rfl)
    | (obtain ⟨_, _, _, rfl, _⟩ := h; rfl)
    | (obtain ⟨_, _, _, _, rfl, _⟩ := h; rfl)
    | (obtain ⟨_, _, _, _, _, rfl, _⟩ := h; rfl)
    | (obtain ⟨_, _, _, _, _, _, rfl, _⟩ := h; rfl)
theorem ok_law_rises (T : Tx K mg) (F : ∃ fd, FunD K "_law_rises" "_law_rises" (defArgs s_law_rises) (defBody s_law_rises) (defScope s_law_rises) [] [] (He.ga K "_law_rises") fd) (gl : mg "_law_rises" = some (.ref (He.ga K "_law_rises"))) (O_law_rises_at : OkF P w K mg base "_law_rises_at" (He.ga K "_law_rises_at") ["_law_model_here", "_law_flips", "_law_place"] 2 (pr_law_rises_at K w)) : OkF P w K mg base "_law_rises" (He.ga K "_law_rises") ["_law_model_here", "_law_flips"] 3 (pr_law_rises K w) :=
  okf_of (k := 2) F gl sc_law_rises (fun _ _ _ _ _ _ us hl => match us, hl with | [_, _], _ => rfl) len_law_rises (fun hr => ps_law_rises T O_law_rises_at hr) (b_law_rises)
theorem len_law_ends : ∀ svs post, pr_law_ends K w svs post → svs.length = 2 := by
  intro svs post h
  unfold pr_law_ends at h
  first
    | (obtain ⟨rfl, _⟩ := h; rfl)
    | (obtain ⟨_, rfl, _⟩ := h; rfl)
    | (obtain ⟨_, _, rfl, _⟩ := h; rfl)
    | (obtain ⟨_, _, _, rfl, _⟩ := h; rfl)
    | (obtain ⟨_, _, _, _, rfl, _⟩ := h; rfl)
    | (obtain ⟨_, _, _, _, _, rfl, _⟩ := h; rfl)
    | (obtain ⟨_, _, _, _, _, _, rfl, _⟩ := h; rfl)
theorem ok_law_ends (T : Tx K mg) (F : ∃ fd, FunD K "_law_ends" "_law_ends" (defArgs s_law_ends) (defBody s_law_ends) (defScope s_law_ends) [] [] (He.ga K "_law_ends") fd) (gl : mg "_law_ends" = some (.ref (He.ga K "_law_ends")))  : OkF P w K mg base "_law_ends" (He.ga K "_law_ends") ["_law_model_here", "_law_flips"] 1 (pr_law_ends K w) :=
  okf_of (k := 0) F gl sc_law_ends (fun _ _ _ _ _ _ us hl => match us, hl with | [_, _], _ => rfl) len_law_ends (fun hr => ps_law_ends T  hr) (b_law_ends)
theorem len_law_flips_for : ∀ svs post, pr_law_flips_for K w svs post → svs.length = 1 := by
  intro svs post h
  unfold pr_law_flips_for at h
  first
    | (obtain ⟨rfl, _⟩ := h; rfl)
    | (obtain ⟨_, rfl, _⟩ := h; rfl)
    | (obtain ⟨_, _, rfl, _⟩ := h; rfl)
    | (obtain ⟨_, _, _, rfl, _⟩ := h; rfl)
    | (obtain ⟨_, _, _, _, rfl, _⟩ := h; rfl)
    | (obtain ⟨_, _, _, _, _, rfl, _⟩ := h; rfl)
    | (obtain ⟨_, _, _, _, _, _, rfl, _⟩ := h; rfl)
theorem ok_law_flips_for (T : Tx K mg) (F : ∃ fd, FunD K "_law_flips_for" "_law_flips_for" (defArgs s_law_flips_for) (defBody s_law_flips_for) (defScope s_law_flips_for) [] [] (He.ga K "_law_flips_for") fd) (gl : mg "_law_flips_for" = some (.ref (He.ga K "_law_flips_for"))) (O_law_ends : OkF P w K mg base "_law_ends" (He.ga K "_law_ends") ["_law_model_here", "_law_flips"] 1 (pr_law_ends K w)) (O_law_rises : OkF P w K mg base "_law_rises" (He.ga K "_law_rises") ["_law_model_here", "_law_flips"] 3 (pr_law_rises K w)) (O_law_tuples : OkF P w K mg base "_law_tuples" (He.ga K "_law_tuples") ["_law_rows"] 1 (pr_law_tuples K w)) (O_law_weight : OkF P w K mg base "_law_weight" (He.ga K "_law_weight") ["_law_model_here", "_law_picture"] 1 (pr_law_weight K w)) : OkF P w K mg base "_law_flips_for" (He.ga K "_law_flips_for") ["_law_model_here"] 4 (pr_law_flips_for K w) :=
  okf_of (k := 3) F gl sc_law_flips_for (fun _ _ _ _ _ _ us hl => match us, hl with | [_], _ => rfl) len_law_flips_for (fun hr => ps_law_flips_for T O_law_ends O_law_rises O_law_tuples O_law_weight hr) (b_law_flips_for)
theorem len_law_packed : ∀ svs post, pr_law_packed K w svs post → svs.length = 1 := by
  intro svs post h
  unfold pr_law_packed at h
  first
    | (obtain ⟨rfl, _⟩ := h; rfl)
    | (obtain ⟨_, rfl, _⟩ := h; rfl)
    | (obtain ⟨_, _, rfl, _⟩ := h; rfl)
    | (obtain ⟨_, _, _, rfl, _⟩ := h; rfl)
    | (obtain ⟨_, _, _, _, rfl, _⟩ := h; rfl)
    | (obtain ⟨_, _, _, _, _, rfl, _⟩ := h; rfl)
    | (obtain ⟨_, _, _, _, _, _, rfl, _⟩ := h; rfl)
theorem ok_law_packed (T : Tx K mg) (F : ∃ fd, FunD K "_law_packed" "_law_packed" (defArgs s_law_packed) (defBody s_law_packed) (defScope s_law_packed) [] [] (He.ga K "_law_packed") fd) (gl : mg "_law_packed" = some (.ref (He.ga K "_law_packed"))) (O_Model_init : OkI P w K mg base (He.ga K "Model") (He.ma K (He.ga K "Model") "__init__") ["self", "many", "levels", "weights", "ties"] 6) : OkF P w K mg base "_law_packed" (He.ga K "_law_packed") ["_law_model_here"] 8 (pr_law_packed K w) :=
  okf_of (k := 7) F gl sc_law_packed (fun _ _ _ _ _ _ us hl => match us, hl with | [_], _ => rfl) len_law_packed (fun hr => ps_law_packed T O_Model_init hr) (b_law_packed)
theorem len_law_flag : ∀ svs post, pr_law_flag K w svs post → svs.length = 2 := by
  intro svs post h
  unfold pr_law_flag at h
  first
    | (obtain ⟨rfl, _⟩ := h; rfl)
    | (obtain ⟨_, rfl, _⟩ := h; rfl)
    | (obtain ⟨_, _, rfl, _⟩ := h; rfl)
    | (obtain ⟨_, _, _, rfl, _⟩ := h; rfl)
    | (obtain ⟨_, _, _, _, rfl, _⟩ := h; rfl)
    | (obtain ⟨_, _, _, _, _, rfl, _⟩ := h; rfl)
    | (obtain ⟨_, _, _, _, _, _, rfl, _⟩ := h; rfl)
theorem ok_law_flag (T : Tx K mg) (F : ∃ fd, FunD K "_law_flag" "_law_flag" (defArgs s_law_flag) (defBody s_law_flag) (defScope s_law_flag) [] [] (He.ga K "_law_flag") fd) (gl : mg "_law_flag" = some (.ref (He.ga K "_law_flag")))  : OkF P w K mg base "_law_flag" (He.ga K "_law_flag") ["_law_flag_here", "_law_due"] 1 (pr_law_flag K w) :=
  okf_of (k := 0) F gl sc_law_flag (fun _ _ _ _ _ _ us hl => match us, hl with | [_, _], _ => rfl) len_law_flag (fun hr => ps_law_flag T  hr) (b_law_flag)
theorem len_law_is_drawn_right : ∀ svs post, pr_law_is_drawn_right K w svs post → svs.length = 1 := by
  intro svs post h
  unfold pr_law_is_drawn_right at h
  first
    | (obtain ⟨rfl, _⟩ := h; rfl)
    | (obtain ⟨_, rfl, _⟩ := h; rfl)
    | (obtain ⟨_, _, rfl, _⟩ := h; rfl)
    | (obtain ⟨_, _, _, rfl, _⟩ := h; rfl)
    | (obtain ⟨_, _, _, _, rfl, _⟩ := h; rfl)
    | (obtain ⟨_, _, _, _, _, rfl, _⟩ := h; rfl)
    | (obtain ⟨_, _, _, _, _, _, rfl, _⟩ := h; rfl)
theorem ok_law_is_drawn_right (T : Tx K mg) (F : ∃ fd, FunD K "_law_is_drawn_right" "_law_is_drawn_right" (defArgs s_law_is_drawn_right) (defBody s_law_is_drawn_right) (defScope s_law_is_drawn_right) [] [] (He.ga K "_law_is_drawn_right") fd) (gl : mg "_law_is_drawn_right" = some (.ref (He.ga K "_law_is_drawn_right"))) (O_law_any : OkF P w K mg base "_law_any" (He.ga K "_law_any") ["_law_hand_here", "_law_things"] 2 (pr_law_any K w)) (O_law_draw : OkF P w K mg base "_law_draw" (He.ga K "_law_draw") ["_law_hand_here", "_law_many"] 1 (pr_law_draw K w)) (O_law_ends : OkF P w K mg base "_law_ends" (He.ga K "_law_ends") ["_law_model_here", "_law_flips"] 1 (pr_law_ends K w)) (O_law_flag : OkF P w K mg base "_law_flag" (He.ga K "_law_flag") ["_law_flag_here", "_law_due"] 1 (pr_law_flag K w)) (O_law_flips_for : OkF P w K mg base "_law_flips_for" (He.ga K "_law_flips_for") ["_law_model_here"] 4 (pr_law_flips_for K w)) (O_law_is_under : OkF P w K mg base "_law_is_under" (He.ga K "_law_is_under") ["_law_flips", "_law_one", "_law_other"] 1 (pr_law_is_under K w)) (O_law_model : OkF P w K mg base "_law_model" (He.ga K "_law_model") ["_law_hand_here"] 4 (pr_law_model K w)) (O_law_packed : OkF P w K mg base "_law_packed" (He.ga K "_law_packed") ["_law_model_here"] 8 (pr_law_packed K w)) (O_law_rises : OkF P w K mg base "_law_rises" (He.ga K "_law_rises") ["_law_model_here", "_law_flips"] 3 (pr_law_rises K w)) (O_law_weight : OkF P w K mg base "_law_weight" (He.ga K "_law_weight") ["_law_model_here", "_law_picture"] 1 (pr_law_weight K w)) (O_ends_of : OkF P w K mg base "ends_of" (He.ga K "ends_of") ["model", "flips"] 3 (pr_ends_of K w)) (O_flips_for : OkF P w K mg base "flips_for" (He.ga K "flips_for") ["model"] 5 (pr_flips_for K w)) (O_is_below : OkF P w K mg base "is_below" (He.ga K "is_below") ["model", "flips", "one", "other"] 4 (pr_is_below K w)) (O_rises : OkF P w K mg base "rises" (He.ga K "rises") ["model", "flips"] 5 (pr_rises K w)) : OkF P w K mg base "_law_is_drawn_right" (He.ga K "_law_is_drawn_right") ["_law_hand_here"] 9 (pr_law_is_drawn_right K w) :=
  okf_of (k := 8) F gl sc_law_is_drawn_right (fun _ _ _ _ _ _ us hl => match us, hl with | [_], _ => rfl) len_law_is_drawn_right (fun hr => ps_law_is_drawn_right T O_law_any O_law_draw O_law_ends O_law_flag O_law_flips_for O_law_is_under O_law_model O_law_packed O_law_rises O_law_weight O_ends_of O_flips_for O_is_below O_rises hr) (b_law_is_drawn_right)
theorem len_law_tree : ∀ svs post, pr_law_tree K w svs post → svs.length = 2 := by
  intro svs post h
  unfold pr_law_tree at h
  first
    | (obtain ⟨rfl, _⟩ := h; rfl)
    | (obtain ⟨_, rfl, _⟩ := h; rfl)
    | (obtain ⟨_, _, rfl, _⟩ := h; rfl)
    | (obtain ⟨_, _, _, rfl, _⟩ := h; rfl)
    | (obtain ⟨_, _, _, _, rfl, _⟩ := h; rfl)
    | (obtain ⟨_, _, _, _, _, rfl, _⟩ := h; rfl)
    | (obtain ⟨_, _, _, _, _, _, rfl, _⟩ := h; rfl)
theorem ok_law_tree (T : Tx K mg) (F : ∃ fd, FunD K "_law_tree" "_law_tree" (defArgs s_law_tree) (defBody s_law_tree) (defScope s_law_tree) [] [] (He.ga K "_law_tree") fd) (gl : mg "_law_tree" = some (.ref (He.ga K "_law_tree"))) (O_law_any : OkF P w K mg base "_law_any" (He.ga K "_law_any") ["_law_hand_here", "_law_things"] 2 (pr_law_any K w)) : OkF P w K mg base "_law_tree" (He.ga K "_law_tree") ["_law_hand_here", "_law_many"] 3 (pr_law_tree K w) :=
  okf_of (k := 2) F gl sc_law_tree (fun _ _ _ _ _ _ us hl => match us, hl with | [_, _], _ => rfl) len_law_tree (fun hr => ps_law_tree T O_law_any hr) (b_law_tree)
theorem len_law_is_hand_right : ∀ svs post, pr_law_is_hand_right K w svs post → svs.length = 1 := by
  intro svs post h
  unfold pr_law_is_hand_right at h
  first
    | (obtain ⟨rfl, _⟩ := h; rfl)
    | (obtain ⟨_, rfl, _⟩ := h; rfl)
    | (obtain ⟨_, _, rfl, _⟩ := h; rfl)
    | (obtain ⟨_, _, _, rfl, _⟩ := h; rfl)
    | (obtain ⟨_, _, _, _, rfl, _⟩ := h; rfl)
    | (obtain ⟨_, _, _, _, _, rfl, _⟩ := h; rfl)
    | (obtain ⟨_, _, _, _, _, _, rfl, _⟩ := h; rfl)
theorem ok_law_is_hand_right (T : Tx K mg) (F : ∃ fd, FunD K "_law_is_hand_right" "_law_is_hand_right" (defArgs s_law_is_hand_right) (defBody s_law_is_hand_right) (defScope s_law_is_hand_right) [] [] (He.ga K "_law_is_hand_right") fd) (gl : mg "_law_is_hand_right" = some (.ref (He.ga K "_law_is_hand_right"))) (O_law_any : OkF P w K mg base "_law_any" (He.ga K "_law_any") ["_law_hand_here", "_law_things"] 2 (pr_law_any K w)) (O_law_draw : OkF P w K mg base "_law_draw" (He.ga K "_law_draw") ["_law_hand_here", "_law_many"] 1 (pr_law_draw K w)) (O_law_tree : OkF P w K mg base "_law_tree" (He.ga K "_law_tree") ["_law_hand_here", "_law_many"] 3 (pr_law_tree K w)) (O_ends_of : OkF P w K mg base "ends_of" (He.ga K "ends_of") ["model", "flips"] 3 (pr_ends_of K w)) (O_flips_for : OkF P w K mg base "flips_for" (He.ga K "flips_for") ["model"] 5 (pr_flips_for K w)) (O_sets_apart : OkF P w K mg base "sets_apart" (He.ga K "sets_apart") ["many", "pairs", "number"] 9 (pr_sets_apart K w)) (O_spins : OkF P w K mg base "spins" (He.ga K "spins") ["many", "pairs", "same", "other"] 9 (pr_spins K w)) (O_stacks : OkF P w K mg base "stacks" (He.ga K "stacks") ["rows", "columns", "most"] 9 (pr_stacks K w)) : OkF P w K mg base "_law_is_hand_right" (He.ga K "_law_is_hand_right") ["_law_hand_here"] 10 (pr_law_is_hand_right K w) :=
  okf_of (k := 9) F gl sc_law_is_hand_right (fun _ _ _ _ _ _ us hl => match us, hl with | [_], _ => rfl) len_law_is_hand_right (fun hr => ps_law_is_hand_right T O_law_any O_law_draw O_law_tree O_ends_of O_flips_for O_sets_apart O_spins O_stacks hr) (b_law_is_hand_right)
theorem len_law_known : ∀ svs post, pr_law_known K w svs post → svs.length = 1 := by
  intro svs post h
  unfold pr_law_known at h
  first
    | (obtain ⟨rfl, _⟩ := h; rfl)
    | (obtain ⟨_, rfl, _⟩ := h; rfl)
    | (obtain ⟨_, _, rfl, _⟩ := h; rfl)
    | (obtain ⟨_, _, _, rfl, _⟩ := h; rfl)
    | (obtain ⟨_, _, _, _, rfl, _⟩ := h; rfl)
    | (obtain ⟨_, _, _, _, _, rfl, _⟩ := h; rfl)
    | (obtain ⟨_, _, _, _, _, _, rfl, _⟩ := h; rfl)
theorem ok_law_known (T : Tx K mg) (F : ∃ fd, FunD K "_law_known" "_law_known" (defArgs s_law_known) (defBody s_law_known) (defScope s_law_known) [] [] (He.ga K "_law_known") fd) (gl : mg "_law_known" = some (.ref (He.ga K "_law_known"))) (O_law_near : OkF P w K mg base "_law_near" (He.ga K "_law_near") ["_law_model_here", "_law_place"] 1 (pr_law_near K w)) (O_law_rises_at : OkF P w K mg base "_law_rises_at" (He.ga K "_law_rises_at") ["_law_model_here", "_law_flips", "_law_place"] 2 (pr_law_rises_at K w)) (O_law_tuples : OkF P w K mg base "_law_tuples" (He.ga K "_law_tuples") ["_law_rows"] 1 (pr_law_tuples K w)) : OkF P w K mg base "_law_known" (He.ga K "_law_known") ["_law_model_here"] 3 (pr_law_known K w) :=
  okf_of (k := 2) F gl sc_law_known (fun _ _ _ _ _ _ us hl => match us, hl with | [_], _ => rfl) len_law_known (fun hr => ps_law_known T O_law_near O_law_rises_at O_law_tuples hr) (b_law_known)
theorem len_law_is_known : ∀ svs post, pr_law_is_known K w svs post → svs.length = 2 := by
  intro svs post h
  unfold pr_law_is_known at h
  first
    | (obtain ⟨rfl, _⟩ := h; rfl)
    | (obtain ⟨_, rfl, _⟩ := h; rfl)
    | (obtain ⟨_, _, rfl, _⟩ := h; rfl)
    | (obtain ⟨_, _, _, rfl, _⟩ := h; rfl)
    | (obtain ⟨_, _, _, _, rfl, _⟩ := h; rfl)
    | (obtain ⟨_, _, _, _, _, rfl, _⟩ := h; rfl)
    | (obtain ⟨_, _, _, _, _, _, rfl, _⟩ := h; rfl)
theorem ok_law_is_known (T : Tx K mg) (F : ∃ fd, FunD K "_law_is_known" "_law_is_known" (defArgs s_law_is_known) (defBody s_law_is_known) (defScope s_law_is_known) [] [] (He.ga K "_law_is_known") fd) (gl : mg "_law_is_known" = some (.ref (He.ga K "_law_is_known")))  : OkF P w K mg base "_law_is_known" (He.ga K "_law_is_known") ["_law_known_here", "_law_flips"] 1 (pr_law_is_known K w) :=
  okf_of (k := 0) F gl sc_law_is_known (fun _ _ _ _ _ _ us hl => match us, hl with | [_, _], _ => rfl) len_law_is_known (fun hr => ps_law_is_known T  hr) (b_law_is_known)
theorem len_law_is_wide_right : ∀ svs post, pr_law_is_wide_right K w svs post → svs.length = 1 := by
  intro svs post h
  unfold pr_law_is_wide_right at h
  first
    | (obtain ⟨rfl, _⟩ := h; rfl)
    | (obtain ⟨_, rfl, _⟩ := h; rfl)
    | (obtain ⟨_, _, rfl, _⟩ := h; rfl)
    | (obtain ⟨_, _, _, rfl, _⟩ := h; rfl)
    | (obtain ⟨_, _, _, _, rfl, _⟩ := h; rfl)
    | (obtain ⟨_, _, _, _, _, rfl, _⟩ := h; rfl)
    | (obtain ⟨_, _, _, _, _, _, rfl, _⟩ := h; rfl)
theorem ok_law_is_wide_right (T : Tx K mg) (F : ∃ fd, FunD K "_law_is_wide_right" "_law_is_wide_right" (defArgs s_law_is_wide_right) (defBody s_law_is_wide_right) (defScope s_law_is_wide_right) [] [] (He.ga K "_law_is_wide_right") fd) (gl : mg "_law_is_wide_right" = some (.ref (He.ga K "_law_is_wide_right"))) (O_law_any : OkF P w K mg base "_law_any" (He.ga K "_law_any") ["_law_hand_here", "_law_things"] 2 (pr_law_any K w)) (O_law_draw : OkF P w K mg base "_law_draw" (He.ga K "_law_draw") ["_law_hand_here", "_law_many"] 1 (pr_law_draw K w)) (O_law_ends : OkF P w K mg base "_law_ends" (He.ga K "_law_ends") ["_law_model_here", "_law_flips"] 1 (pr_law_ends K w)) (O_law_flag : OkF P w K mg base "_law_flag" (He.ga K "_law_flag") ["_law_flag_here", "_law_due"] 1 (pr_law_flag K w)) (O_law_is_known : OkF P w K mg base "_law_is_known" (He.ga K "_law_is_known") ["_law_known_here", "_law_flips"] 1 (pr_law_is_known K w)) (O_law_known : OkF P w K mg base "_law_known" (He.ga K "_law_known") ["_law_model_here"] 3 (pr_law_known K w)) (O_law_packed : OkF P w K mg base "_law_packed" (He.ga K "_law_packed") ["_law_model_here"] 8 (pr_law_packed K w)) (O_law_tuples : OkF P w K mg base "_law_tuples" (He.ga K "_law_tuples") ["_law_rows"] 1 (pr_law_tuples K w)) (O_law_weight : OkF P w K mg base "_law_weight" (He.ga K "_law_weight") ["_law_model_here", "_law_picture"] 1 (pr_law_weight K w)) (O_law_wide : OkF P w K mg base "_law_wide" (He.ga K "_law_wide") ["_law_hand_here", "_law_many", "_law_levels"] 4 (pr_law_wide K w)) (O_ends_of : OkF P w K mg base "ends_of" (He.ga K "ends_of") ["model", "flips"] 3 (pr_ends_of K w)) (O_flips_for : OkF P w K mg base "flips_for" (He.ga K "flips_for") ["model"] 5 (pr_flips_for K w)) (O_rises : OkF P w K mg base "rises" (He.ga K "rises") ["model", "flips"] 5 (pr_rises K w)) : OkF P w K mg base "_law_is_wide_right" (He.ga K "_law_is_wide_right") ["_law_hand_here"] 9 (pr_law_is_wide_right K w) :=
  okf_of (k := 8) F gl sc_law_is_wide_right (fun _ _ _ _ _ _ us hl => match us, hl with | [_], _ => rfl) len_law_is_wide_right (fun hr => ps_law_is_wide_right T O_law_any O_law_draw O_law_ends O_law_flag O_law_is_known O_law_known O_law_packed O_law_tuples O_law_weight O_law_wide O_ends_of O_flips_for O_rises hr) (b_law_is_wide_right)
theorem ok_law {fd : FuncData} (T : Tx K mg) (F : FunD K "law" "law" (defArgs s_law) (defBody s_law) (defScope s_law) [] [] (He.ga K "law") fd) (O_law_draw : OkF P w K mg base "_law_draw" (He.ga K "_law_draw") ["_law_hand_here", "_law_many"] 1 (pr_law_draw K w)) (O_law_hand : OkF P w K mg base "_law_hand" (He.ga K "_law_hand") ["_law_script"] 1 (pr_law_hand K w)) (O_law_is_drawn_right : OkF P w K mg base "_law_is_drawn_right" (He.ga K "_law_is_drawn_right") ["_law_hand_here"] 9 (pr_law_is_drawn_right K w)) (O_law_is_hand_right : OkF P w K mg base "_law_is_hand_right" (He.ga K "_law_is_hand_right") ["_law_hand_here"] 10 (pr_law_is_hand_right K w)) (O_law_is_wide_right : OkF P w K mg base "_law_is_wide_right" (He.ga K "_law_is_wide_right") ["_law_hand_here"] 9 (pr_law_is_wide_right K w)) : FnOk P w K mg base CX0 11 (He.ga K "law") fd ["_law_script"] (spLaw K) :=
  F.ok sc_law (fun vs H Q E h => by
    obtain ⟨a, ns, rfl, _⟩ := h
    rfl) (fun cdv A outer s H vs Q E hr h => ⟨t_law K P w, (ps_law T O_law_draw O_law_hand O_law_is_drawn_right O_law_is_hand_right O_law_is_wide_right hr).nox, pure_law vs H Q E h⟩)
end
theorem tx_of {K : PySem.W.Frag} {h : Heap} {mg : Str → Option Value} (X : K.In h) (G : h.Ns mainGlobals mg) (c : He.SaysD fa fn K) : Tx K mg where
  b_abs := He.free_ok X G (c.fact 73 (f := .free "abs") rfl)
  b_all := He.free_ok X G (c.fact 60 (f := .free "all") rfl)
  b_any := He.free_ok X G (c.fact 61 (f := .free "any") rfl)
  b_bool := He.free_ok X G (c.fact 75 (f := .free "bool") rfl)
  b_dict := He.free_ok X G (c.fact 74 (f := .free "dict") rfl)
  b_enumerate := He.free_ok X G (c.fact 64 (f := .free "enumerate") rfl)
  b_int := He.free_ok X G (c.fact 72 (f := .free "int") rfl)
  b_isinstance := He.free_ok X G (c.fact 58 (f := .free "isinstance") rfl)
  b_len := He.free_ok X G (c.fact 59 (f := .free "len") rfl)
  b_list := He.free_ok X G (c.fact 66 (f := .free "list") rfl)
  b_max := He.free_ok X G (c.fact 68 (f := .free "max") rfl)
  b_min := He.free_ok X G (c.fact 69 (f := .free "min") rfl)
  b_range := He.free_ok X G (c.fact 62 (f := .free "range") rfl)
  b_set := He.free_ok X G (c.fact 71 (f := .free "set") rfl)
  b_sorted := He.free_ok X G (c.fact 70 (f := .free "sorted") rfl)
  b_sum := He.free_ok X G (c.fact 67 (f := .free "sum") rfl)
  b_tuple := He.free_ok X G (c.fact 65 (f := .free "tuple") rfl)
  b_zip := He.free_ok X G (c.fact 63 (f := .free "zip") rfl)
  k_MOST_PLACES := He.int_ok X G (c.fact 76 (f := .int "MOST_PLACES" 12) rfl)
  k_MOST_VALUES := He.int_ok X G (c.fact 77 (f := .int "MOST_VALUES" 4) rfl)
  k_MOST_WEIGHT := He.int_ok X G (c.fact 78 (f := .int "MOST_WEIGHT" 1000) rfl)
  k_MOST_TIES := He.int_ok X G (c.fact 79 (f := .int "MOST_TIES" 4) rfl)
  g_Model := He.glo_ok X G (c.fact 80 (f := .glo "Model") rfl)
  cls := He.cls_ok (c.fact 81 (f := .cls "Model") rfl)
  n_many := He.noat_ok (c.fact 83 (f := .noat "Model" "many") rfl)
  n_levels := He.noat_ok (c.fact 84 (f := .noat "Model" "levels") rfl)
  n_weights := He.noat_ok (c.fact 85 (f := .noat "Model" "weights") rfl)
  n_ties := He.noat_ok (c.fact 86 (f := .noat "Model" "ties") rfl)
  mkr := He.mkr_ok (c.fact 82 (f := .mkr "Model") rfl)
theorem all_ok {P : Program} {w : World} {K : PySem.W.Frag} {base h : Heap} {mg : Str → Option Value} {fd : FuncData} (X : K.In h) (G : h.Ns mainGlobals mg) (c : He.SaysD fa fn K) (F : FunD K "law" "law" (defArgs s_law) (defBody s_law) (defScope s_law) [] [] (He.ga K "law") fd) : FnOk P w K mg base CX0 11 (He.ga K "law") fd ["_law_script"] (spLaw K) := by
  have T := tx_of X G c
  have O_is_integer : OkF P w K mg base "is_integer" (He.ga K "is_integer") ["thing"] 1 (pr_is_integer K w) := ok_is_integer T (c.def_ 0 rfl) (He.glo_ok X G (c.fact 0 (f := .glo "is_integer") rfl)) 
  have O_is_within : OkF P w K mg base "is_within" (He.ga K "is_within") ["thing", "least", "most"] 2 (pr_is_within K w) := ok_is_within T (c.def_ 1 rfl) (He.glo_ok X G (c.fact 1 (f := .glo "is_within") rfl)) O_is_integer
  have O_is_rising : OkF P w K mg base "is_rising" (He.ga K "is_rising") ["things"] 1 (pr_is_rising K w) := ok_is_rising T (c.def_ 2 rfl) (He.glo_ok X G (c.fact 2 (f := .glo "is_rising") rfl)) 
  have O_are_weights : OkF P w K mg base "are_weights" (He.ga K "are_weights") ["thing", "many"] 3 (pr_are_weights K w) := ok_are_weights T (c.def_ 3 rfl) (He.glo_ok X G (c.fact 3 (f := .glo "are_weights") rfl)) O_is_within
  have O_are_all_weights : OkF P w K mg base "are_all_weights" (He.ga K "are_all_weights") ["thing", "many", "values"] 4 (pr_are_all_weights K w) := ok_are_all_weights T (c.def_ 4 rfl) (He.glo_ok X G (c.fact 4 (f := .glo "are_all_weights") rfl)) O_are_weights
  have O_is_pair_of_places : OkF P w K mg base "is_pair_of_places" (He.ga K "is_pair_of_places") ["thing", "many"] 3 (pr_is_pair_of_places K w) := ok_is_pair_of_places T (c.def_ 5 rfl) (He.glo_ok X G (c.fact 5 (f := .glo "is_pair_of_places") rfl)) O_is_within
  have O_is_tie : OkF P w K mg base "is_tie" (He.ga K "is_tie") ["thing", "many", "values"] 5 (pr_is_tie K w) := ok_is_tie T (c.def_ 6 rfl) (He.glo_ok X G (c.fact 6 (f := .glo "is_tie") rfl)) O_are_all_weights O_is_pair_of_places
  have O_ties_at : OkF P w K mg base "ties_at" (He.ga K "ties_at") ["ties", "place"] 1 (pr_ties_at K w) := ok_ties_at T (c.def_ 7 rfl) (He.glo_ok X G (c.fact 7 (f := .glo "ties_at") rfl)) 
  have O_Model_init : OkI P w K mg base (He.ga K "Model") (He.ma K (He.ga K "Model") "__init__") ["self", "many", "levels", "weights", "ties"] 6 := ok_Model_init T (c.def_ 58 rfl) O_are_all_weights O_is_tie O_is_within O_ties_at
  have O_is_picture : OkF P w K mg base "is_picture" (He.ga K "is_picture") ["model", "thing"] 3 (pr_is_picture K w) := ok_is_picture T (c.def_ 8 rfl) (He.glo_ok X G (c.fact 8 (f := .glo "is_picture") rfl)) O_is_within
  have O_weight_there : OkF P w K mg base "weight_there" (He.ga K "weight_there") ["model", "picture"] 1 (pr_weight_there K w) := ok_weight_there T (c.def_ 9 rfl) (He.glo_ok X G (c.fact 9 (f := .glo "weight_there") rfl)) 
  have O_check_pairs : OkF P w K mg base "check_pairs" (He.ga K "check_pairs") ["many", "pairs"] 4 (pr_check_pairs K w) := ok_check_pairs T (c.def_ 10 rfl) (He.glo_ok X G (c.fact 10 (f := .glo "check_pairs") rfl)) O_is_pair_of_places O_is_rising O_is_within
  have O_even_model : OkF P w K mg base "even_model" (He.ga K "even_model") ["many", "values", "row", "pairs", "table"] 8 (pr_even_model K w) := ok_even_model T (c.def_ 11 rfl) (He.glo_ok X G (c.fact 11 (f := .glo "even_model") rfl)) O_Model_init
  have O_spins : OkF P w K mg base "spins" (He.ga K "spins") ["many", "pairs", "same", "other"] 9 (pr_spins K w) := ok_spins T (c.def_ 12 rfl) (He.glo_ok X G (c.fact 12 (f := .glo "spins") rfl)) O_check_pairs O_even_model
  have O_sets_apart : OkF P w K mg base "sets_apart" (He.ga K "sets_apart") ["many", "pairs", "number"] 9 (pr_sets_apart K w) := ok_sets_apart T (c.def_ 13 rfl) (He.glo_ok X G (c.fact 13 (f := .glo "sets_apart") rfl)) O_check_pairs O_even_model
  have O_stacks : OkF P w K mg base "stacks" (He.ga K "stacks") ["rows", "columns", "most"] 9 (pr_stacks K w) := ok_stacks T (c.def_ 14 rfl) (He.glo_ok X G (c.fact 14 (f := .glo "stacks") rfl)) O_even_model O_is_within
  have O_tied_places : OkF P w K mg base "tied_places" (He.ga K "tied_places") ["model", "place"] 2 (pr_tied_places K w) := ok_tied_places T (c.def_ 15 rfl) (He.glo_ok X G (c.fact 15 (f := .glo "tied_places") rfl)) O_ties_at
  have O_local_weights : OkF P w K mg base "local_weights" (He.ga K "local_weights") ["model", "place", "values"] 2 (pr_local_weights K w) := ok_local_weights T (c.def_ 16 rfl) (He.glo_ok X G (c.fact 16 (f := .glo "local_weights") rfl)) O_ties_at
  have O_all_rows : OkF P w K mg base "all_rows" (He.ga K "all_rows") ["values", "many"] 1 (pr_all_rows K w) := ok_all_rows T (c.def_ 17 rfl) (He.glo_ok X G (c.fact 17 (f := .glo "all_rows") rfl)) 
  have O_are_flips : OkF P w K mg base "are_flips" (He.ga K "are_flips") ["model", "thing"] 1 (pr_are_flips K w) := ok_are_flips T (c.def_ 18 rfl) (He.glo_ok X G (c.fact 18 (f := .glo "are_flips") rfl)) 
  have O_check_flips : OkF P w K mg base "check_flips" (He.ga K "check_flips") ["model", "flips"] 2 (pr_check_flips K w) := ok_check_flips T (c.def_ 19 rfl) (He.glo_ok X G (c.fact 19 (f := .glo "check_flips") rfl)) O_are_flips
  have O_is_row_below : OkF P w K mg base "is_row_below" (He.ga K "is_row_below") ["flips", "one", "other"] 1 (pr_is_row_below K w) := ok_is_row_below T (c.def_ 20 rfl) (He.glo_ok X G (c.fact 20 (f := .glo "is_row_below") rfl)) 
  have O_is_below : OkF P w K mg base "is_below" (He.ga K "is_below") ["model", "flips", "one", "other"] 4 (pr_is_below K w) := ok_is_below T (c.def_ 21 rfl) (He.glo_ok X G (c.fact 21 (f := .glo "is_below") rfl)) O_check_flips O_is_picture O_is_row_below
  have O_added_up : OkF P w K mg base "added_up" (He.ga K "added_up") ["weights"] 1 (pr_added_up K w) := ok_added_up T (c.def_ 22 rfl) (He.glo_ok X G (c.fact 22 (f := .glo "added_up") rfl)) 
  have O_is_turned_right : OkF P w K mg base "is_turned_right" (He.ga K "is_turned_right") ["flag", "one", "other"] 1 (pr_is_turned_right K w) := ok_is_turned_right T (c.def_ 23 rfl) (He.glo_ok X G (c.fact 23 (f := .glo "is_turned_right") rfl)) 
  have O_rises_at : OkF P w K mg base "rises_at" (He.ga K "rises_at") ["model", "place", "flag", "flips"] 3 (pr_rises_at K w) := ok_rises_at T (c.def_ 24 rfl) (He.glo_ok X G (c.fact 24 (f := .glo "rises_at") rfl)) O_added_up O_all_rows O_is_row_below O_is_turned_right O_local_weights
  have O_rises_there : OkF P w K mg base "rises_there" (He.ga K "rises_there") ["model", "flips"] 4 (pr_rises_there K w) := ok_rises_there T (c.def_ 25 rfl) (He.glo_ok X G (c.fact 25 (f := .glo "rises_there") rfl)) O_rises_at O_tied_places
  have O_rises : OkF P w K mg base "rises" (He.ga K "rises") ["model", "flips"] 5 (pr_rises K w) := ok_rises T (c.def_ 26 rfl) (He.glo_ok X G (c.fact 26 (f := .glo "rises") rfl)) O_check_flips O_rises_there
  have O_ends_by : OkF P w K mg base "ends_by" (He.ga K "ends_by") ["model", "flips"] 1 (pr_ends_by K w) := ok_ends_by T (c.def_ 27 rfl) (He.glo_ok X G (c.fact 27 (f := .glo "ends_by") rfl)) 
  have O_do_ends_fit : OkF P w K mg base "do_ends_fit" (He.ga K "do_ends_fit") ["model", "flips"] 2 (pr_do_ends_fit K w) := ok_do_ends_fit T (c.def_ 28 rfl) (He.glo_ok X G (c.fact 28 (f := .glo "do_ends_fit") rfl)) O_ends_by O_weight_there
  have O_ends_of : OkF P w K mg base "ends_of" (He.ga K "ends_of") ["model", "flips"] 3 (pr_ends_of K w) := ok_ends_of T (c.def_ 29 rfl) (He.glo_ok X G (c.fact 29 (f := .glo "ends_of") rfl)) O_check_flips O_do_ends_fit O_ends_by
  have O_may_rise : OkF P w K mg base "may_rise" (He.ga K "may_rise") ["model", "begun", "known"] 4 (pr_may_rise K w) := ok_may_rise T (c.def_ 30 rfl) (He.glo_ok X G (c.fact 30 (f := .glo "may_rise") rfl)) O_rises_at O_tied_places
  have O_flips_for : OkF P w K mg base "flips_for" (He.ga K "flips_for") ["model"] 5 (pr_flips_for K w) := ok_flips_for T (c.def_ 31 rfl) (He.glo_ok X G (c.fact 31 (f := .glo "flips_for") rfl)) O_do_ends_fit O_may_rise
  have O_law_hand : OkF P w K mg base "_law_hand" (He.ga K "_law_hand") ["_law_script"] 1 (pr_law_hand K w) := ok_law_hand T (c.def_ 32 rfl) (He.glo_ok X G (c.fact 32 (f := .glo "_law_hand") rfl)) 
  have O_law_draw : OkF P w K mg base "_law_draw" (He.ga K "_law_draw") ["_law_hand_here", "_law_many"] 1 (pr_law_draw K w) := ok_law_draw T (c.def_ 33 rfl) (He.glo_ok X G (c.fact 33 (f := .glo "_law_draw") rfl)) 
  have O_law_any : OkF P w K mg base "_law_any" (He.ga K "_law_any") ["_law_hand_here", "_law_things"] 2 (pr_law_any K w) := ok_law_any T (c.def_ 34 rfl) (He.glo_ok X G (c.fact 34 (f := .glo "_law_any") rfl)) O_law_draw
  have O_law_near : OkF P w K mg base "_law_near" (He.ga K "_law_near") ["_law_model_here", "_law_place"] 1 (pr_law_near K w) := ok_law_near T (c.def_ 35 rfl) (He.glo_ok X G (c.fact 35 (f := .glo "_law_near") rfl)) 
  have O_law_local : OkF P w K mg base "_law_local" (He.ga K "_law_local") ["_law_model_here", "_law_place", "_law_seen"] 1 (pr_law_local K w) := ok_law_local T (c.def_ 36 rfl) (He.glo_ok X G (c.fact 36 (f := .glo "_law_local") rfl)) 
  have O_law_weight : OkF P w K mg base "_law_weight" (He.ga K "_law_weight") ["_law_model_here", "_law_picture"] 1 (pr_law_weight K w) := ok_law_weight T (c.def_ 37 rfl) (He.glo_ok X G (c.fact 37 (f := .glo "_law_weight") rfl)) 
  have O_law_tuples : OkF P w K mg base "_law_tuples" (He.ga K "_law_tuples") ["_law_rows"] 1 (pr_law_tuples K w) := ok_law_tuples T (c.def_ 38 rfl) (He.glo_ok X G (c.fact 38 (f := .glo "_law_tuples") rfl)) 
  have O_law_pairs : OkF P w K mg base "_law_pairs" (He.ga K "_law_pairs") ["_law_hand_here", "_law_many"] 2 (pr_law_pairs K w) := ok_law_pairs T (c.def_ 39 rfl) (He.glo_ok X G (c.fact 39 (f := .glo "_law_pairs") rfl)) O_law_draw
  have O_law_stacks : OkF P w K mg base "_law_stacks" (He.ga K "_law_stacks") ["_law_rows", "_law_columns", "_law_most"] 1 (pr_law_stacks K w) := ok_law_stacks T (c.def_ 40 rfl) (He.glo_ok X G (c.fact 40 (f := .glo "_law_stacks") rfl)) 
  have O_law_table : OkF P w K mg base "_law_table" (He.ga K "_law_table") ["_law_hand_here", "_law_levels", "_law_kind"] 3 (pr_law_table K w) := ok_law_table T (c.def_ 41 rfl) (He.glo_ok X G (c.fact 41 (f := .glo "_law_table") rfl)) O_law_any
  have O_law_model : OkF P w K mg base "_law_model" (He.ga K "_law_model") ["_law_hand_here"] 4 (pr_law_model K w) := ok_law_model T (c.def_ 42 rfl) (He.glo_ok X G (c.fact 42 (f := .glo "_law_model") rfl)) O_law_any O_law_draw O_law_pairs O_law_stacks O_law_table
  have O_law_wide : OkF P w K mg base "_law_wide" (He.ga K "_law_wide") ["_law_hand_here", "_law_many", "_law_levels"] 4 (pr_law_wide K w) := ok_law_wide T (c.def_ 43 rfl) (He.glo_ok X G (c.fact 43 (f := .glo "_law_wide") rfl)) O_law_any O_law_draw O_law_table
  have O_law_is_under : OkF P w K mg base "_law_is_under" (He.ga K "_law_is_under") ["_law_flips", "_law_one", "_law_other"] 1 (pr_law_is_under K w) := ok_law_is_under T (c.def_ 44 rfl) (He.glo_ok X G (c.fact 44 (f := .glo "_law_is_under") rfl)) 
  have O_law_rises_at : OkF P w K mg base "_law_rises_at" (He.ga K "_law_rises_at") ["_law_model_here", "_law_flips", "_law_place"] 2 (pr_law_rises_at K w) := ok_law_rises_at T (c.def_ 45 rfl) (He.glo_ok X G (c.fact 45 (f := .glo "_law_rises_at") rfl)) O_law_is_under O_law_local O_law_near O_law_tuples
  have O_law_rises : OkF P w K mg base "_law_rises" (He.ga K "_law_rises") ["_law_model_here", "_law_flips"] 3 (pr_law_rises K w) := ok_law_rises T (c.def_ 46 rfl) (He.glo_ok X G (c.fact 46 (f := .glo "_law_rises") rfl)) O_law_rises_at
  have O_law_ends : OkF P w K mg base "_law_ends" (He.ga K "_law_ends") ["_law_model_here", "_law_flips"] 1 (pr_law_ends K w) := ok_law_ends T (c.def_ 47 rfl) (He.glo_ok X G (c.fact 47 (f := .glo "_law_ends") rfl)) 
  have O_law_flips_for : OkF P w K mg base "_law_flips_for" (He.ga K "_law_flips_for") ["_law_model_here"] 4 (pr_law_flips_for K w) := ok_law_flips_for T (c.def_ 48 rfl) (He.glo_ok X G (c.fact 48 (f := .glo "_law_flips_for") rfl)) O_law_ends O_law_rises O_law_tuples O_law_weight
  have O_law_packed : OkF P w K mg base "_law_packed" (He.ga K "_law_packed") ["_law_model_here"] 8 (pr_law_packed K w) := ok_law_packed T (c.def_ 49 rfl) (He.glo_ok X G (c.fact 49 (f := .glo "_law_packed") rfl)) O_Model_init
  have O_law_flag : OkF P w K mg base "_law_flag" (He.ga K "_law_flag") ["_law_flag_here", "_law_due"] 1 (pr_law_flag K w) := ok_law_flag T (c.def_ 50 rfl) (He.glo_ok X G (c.fact 50 (f := .glo "_law_flag") rfl)) 
  have O_law_is_drawn_right : OkF P w K mg base "_law_is_drawn_right" (He.ga K "_law_is_drawn_right") ["_law_hand_here"] 9 (pr_law_is_drawn_right K w) := ok_law_is_drawn_right T (c.def_ 51 rfl) (He.glo_ok X G (c.fact 51 (f := .glo "_law_is_drawn_right") rfl)) O_law_any O_law_draw O_law_ends O_law_flag O_law_flips_for O_law_is_under O_law_model O_law_packed O_law_rises O_law_weight O_ends_of O_flips_for O_is_below O_rises
  have O_law_tree : OkF P w K mg base "_law_tree" (He.ga K "_law_tree") ["_law_hand_here", "_law_many"] 3 (pr_law_tree K w) := ok_law_tree T (c.def_ 52 rfl) (He.glo_ok X G (c.fact 52 (f := .glo "_law_tree") rfl)) O_law_any
  have O_law_is_hand_right : OkF P w K mg base "_law_is_hand_right" (He.ga K "_law_is_hand_right") ["_law_hand_here"] 10 (pr_law_is_hand_right K w) := ok_law_is_hand_right T (c.def_ 53 rfl) (He.glo_ok X G (c.fact 53 (f := .glo "_law_is_hand_right") rfl)) O_law_any O_law_draw O_law_tree O_ends_of O_flips_for O_sets_apart O_spins O_stacks
  have O_law_known : OkF P w K mg base "_law_known" (He.ga K "_law_known") ["_law_model_here"] 3 (pr_law_known K w) := ok_law_known T (c.def_ 54 rfl) (He.glo_ok X G (c.fact 54 (f := .glo "_law_known") rfl)) O_law_near O_law_rises_at O_law_tuples
  have O_law_is_known : OkF P w K mg base "_law_is_known" (He.ga K "_law_is_known") ["_law_known_here", "_law_flips"] 1 (pr_law_is_known K w) := ok_law_is_known T (c.def_ 55 rfl) (He.glo_ok X G (c.fact 55 (f := .glo "_law_is_known") rfl)) 
  have O_law_is_wide_right : OkF P w K mg base "_law_is_wide_right" (He.ga K "_law_is_wide_right") ["_law_hand_here"] 9 (pr_law_is_wide_right K w) := ok_law_is_wide_right T (c.def_ 56 rfl) (He.glo_ok X G (c.fact 56 (f := .glo "_law_is_wide_right") rfl)) O_law_any O_law_draw O_law_ends O_law_flag O_law_is_known O_law_known O_law_packed O_law_tuples O_law_weight O_law_wide O_ends_of O_flips_for O_rises
  exact ok_law T F O_law_draw O_law_hand O_law_is_drawn_right O_law_is_hand_right O_law_is_wide_right
theorem facts {P : Program} {w : World} {K : PySem.W.Frag} {h : Heap} {mg : Str → Option Value} {f : Addr} (X : K.In h) (G : h.Ns mainGlobals mg) (hfa : mg ("law" : Str) = some (.ref f)) (c : He.SaysD fa fn K) :
    ∃ fd : FuncData, (∀ (s : Shared) (v : Value), BindsTo s fd ⟨[v], []⟩ [("_law_script", v)]) ∧ ∀ base : Heap, K.In base → base.Ns mainGlobals mg → FnOk P w K mg base CX0 11 f fd ["_law_script"] (spLaw K) := by
  obtain ⟨fd, F⟩ := c.def_ 57 rfl
  have e := hfa.symm.trans (He.glo_ok X G (c.fact 57 (f := .glo "law") rfl))
  cases e
  have b := FunD.bindsA (ps := ["_law_script"]) F fun _ _ _ _ _ _ us hl => match us, hl with | [_], _ => rfl
  exact ⟨fd, fun s v => b s [v] rfl, fun base _ _ => all_ok X G c F⟩
end Ly
open PySem PySem.W PySem.Calls PyProof.Rows
theorem PySem.Challenge.cw_asifforever_k30_whole_rising_models_holds : PySem.Challenge.rw_asifforever_k30_whole_rising_models.Holds := by
  w_on; o_law
  refine HandSHeadRun.head_any (r := OpenLaw.row PySem.Challenge.rw_asifforever_k30_whole_rising_models) (q := view (OpenLaw.row PySem.Challenge.rw_asifforever_k30_whole_rising_models).prog [75]) (H := Ly.hk) (ob := Ly.ob) (M := 4000) (loose := Ly.lo) (d := HandSHeadRun.topDef (OpenLaw.row PySem.Challenge.rw_asifforever_k30_whole_rising_models).prog 75) (kwd := []) Ly.ob_eq
    (by kernel_rfl) (fun s => by kernel_rfl) Ly.run (by kernel_rfl) (by kernel_rfl) (by kernel_rfl) (by rfl) (by first | assumption | decide +kernel) (by decide +kernel) ⟨rfl, rfl, rfl, rfl, rfl, by decide +kernel⟩ ?hw ?hc
  case hw => w_witness2
  case hc =>
    refine L2.walk_ofE (l := PySem.Challenge.rw_asifforever_k30_whole_rising_models) (n := 63) (k := 11) (x := "_law_script") (CX := L2.CX0) rfl (by decide) (by kernel_rfl) ⟨rfl, by decide, by decide⟩ ?F (fun _ _ _ _ z => z)
    intro w mg fa h Y G hmg0
    obtain ⟨K, KX, c⟩ := Y
    have hmg : mg ("law" : PySem.Str) = some (.ref fa) := by
      have e : (HandSHeadRun.topDef (OpenLaw.row PySem.Challenge.rw_asifforever_k30_whole_rising_models).prog 75).name = ("law" : PySem.Str) := by kernel_rfl
      rw [← e]
      exact hmg0
    obtain ⟨fd, hb, hF⟩ := Ly.facts (P := (PySem.Challenge.rw_asifforever_k30_whole_rising_models).prog) (w := w) KX G hmg c
    exact ⟨K, fd, Ly.spLaw K, KX, hb, fun H a ns hl _ hS => ⟨a, ns, rfl, hl, hS, fun _ => rfl⟩, hF⟩
