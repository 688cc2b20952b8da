import PyProof.Rows.All
import HandS.Base
import HandS.Call
import HandS.List
import HandS.Comp
import HandS.Iter
import HandS.Words
import HandS.IsInst
import HandS.Zip
import HandS.Wide
import HandS.TupAny
import HandS.Deep
import HandS.Style
import HandS.Flow
import HandS.Evl
import HandS.SortInts
import HandS.More
import HandS.Text
import KE.GoesMore
import HandS.Ends
import KE.Datum
import PyProof.StrLawsRepr
import HandS.SortRule
import HandS.TupSets
import HandS.SetFor
import HandS.Strs
import KE.DatumOrd
import HandS.Exc
import HandS.ExcOwn
import HandS.ExcIs
import HandS.WordsExc
import KE.DataFind
import HandS.HotCalls
import HandS.Steps
import HandS.TupMul
import HandS.Dict
import HandS.Conv
import PyProof.EqKinds
import PyProof.FactsAll.dict
import PyProof.ListStr
import PyProof.StrOps2
import OpenK.AllK
import Wide.All
import Wide.FinOn
import PySem.Challenge.RW_guidesea_k73_jobs_and_rests_refused
set_option Elab.async false
set_option linter.all false
set_option maxRecDepth 100000
set_option maxHeartbeats 4000000
namespace G
open PySem PySem.Spec L2

/-! ### values, cells, results -/
inductive M where
  | d (x : PyData) | obj (k : Nat) | tup (xs : List M) | scr (ns : List Int) | ad (a : Addr)
inductive Cell where
  | dead | lst (xs : List PyData) | mix (xs : List M)
abbrev Hh := List Cell
abbrev Env := List (Option M)
inductive Out (α : Type) where
  | val (a : α) (h : Hh) | exc (c : String) (h : Hh)
abbrev Sm (α : Type) := Hh → Option (Out α)
def rt {α : Type} (a : α) : Sm α := fun h => some (.val a h)
def bnd {α β : Type} (x : Sm α) (f : α → Sm β) : Sm β := fun h => match x h with
  | some (.val a h') => f a h'
  | some (.exc c h') => some (.exc c h')
  | none => none
def opt {α : Type} (o : Option α) : Sm α := fun h => match o with
  | some a => some (.val a h)
  | none => none
structure Wd where
  ρ : Nat → Addr
  F : Hp
  H : Hp
  h : Hh

/-! ### what stands for what -/
def kInt (p : Int × Int) : Key × V := (.inl p.1, .int p.2)
def dInt (p : Int × Int) : PyData × PyData := (.int p.1, .int p.2)
mutual
def RD (F : Hp) : PyData → V → Prop
  | .none, v => v = .non
  | .bool b, v => v = .bl b
  | .int i, v => v = .int i
  | .str s, v => v = .str s
  | .list ds, v => ∃ a vs, v = .ref a ∧ F a = some (.lst vs) ∧ RDs F ds vs
  | .tuple ds, v => ∃ a vs, v = .ref a ∧ F a = some (.tup vs) ∧ RDs F ds vs
  | .dict kvs, v => ∃ a ps, v = .ref a ∧ F a = some (.dK ps) ∧ RKs F kvs ps
def RDs (F : Hp) : List PyData → List V → Prop
  | [], vs => vs = []
  | d :: ds, vs => ∃ v ws, vs = v :: ws ∧ RD F d v ∧ RDs F ds ws
def RKs (F : Hp) : List (PyData × PyData) → List (Key × V) → Prop
  | [], ps => ps = []
  | (k, d) :: kvs, ps => ∃ i v qs, k = .int i ∧ ps = (.inl i, v) :: qs ∧ RD F d v ∧ RKs F kvs qs
end
mutual
def RM (K : PySem.W.Frag) (ρ : Nat → Addr) (F : Hp) (n : Nat) : M → V → Prop
  | .d x, v => RD F x v
  | .obj k, v => k < n ∧ v = .ref (ρ k)
  | .tup ms, v => ∃ a vs, v = .ref a ∧ F a = some (.tup vs) ∧ RMs K ρ F n ms vs
  | .scr ns, v => ∃ a, v = .ref a ∧ SqL K F a (ns.map V.int)
  | .ad a, v => v = .ref a
def RMs (K : PySem.W.Frag) (ρ : Nat → Addr) (F : Hp) (n : Nat) : List M → List V → Prop
  | [], vs => vs = []
  | m :: ms, vs => ∃ v ws, vs = v :: ws ∧ RM K ρ F n m v ∧ RMs K ρ F n ms ws
end
def CellR (K : PySem.W.Frag) (ρ : Nat → Addr) (F : Hp) (n : Nat) : Cell → Option HO → Prop
  | .dead, _ => True
  | .lst xs, o => ∃ vs, o = some (.lst vs) ∧ RDs F xs vs
  | .mix xs, o => ∃ vs, o = some (.lst vs) ∧ RMs K ρ F n xs vs

mutual
theorem RD.mono {F F' : Hp} (e : Same F F') : ∀ (d : PyData) (v : V), RD F d v → RD F' d v
  | .none, v, h => by simpa only [RD] using h
  | .bool b, v, h => by simpa only [RD] using h
  | .int i, v, h => by simpa only [RD] using h
  | .str s, v, h => by simpa only [RD] using h
  | .list ds, v, h => by
    simp only [RD] at h ⊢
    obtain ⟨a, vs, h1, h2, h3⟩ := h
    exact ⟨a, vs, h1, e _ _ h2, RDs.mono e ds vs h3⟩
  | .tuple ds, v, h => by
    simp only [RD] at h ⊢
    obtain ⟨a, vs, h1, h2, h3⟩ := h
    exact ⟨a, vs, h1, e _ _ h2, RDs.mono e ds vs h3⟩
  | .dict kvs, v, h => by
    simp only [RD] at h ⊢
    obtain ⟨a, ps, h1, h2, h3⟩ := h
    exact ⟨a, ps, h1, e _ _ h2, RKs.mono e kvs ps h3⟩
theorem RDs.mono {F F' : Hp} (e : Same F F') : ∀ (ds : List PyData) (vs : List V), RDs F ds vs → RDs F' ds vs
  | [], vs, h => by simpa only [RDs] using h
  | d :: ds, vs, h => by
    simp only [RDs] at h ⊢
    obtain ⟨v, ws, h1, h2, h3⟩ := h
    exact ⟨v, ws, h1, RD.mono e d v h2, RDs.mono e ds ws h3⟩
theorem RKs.mono {F F' : Hp} (e : Same F F') : ∀ (kvs : List (PyData × PyData)) (ps : List (Key × V)), RKs F kvs ps → RKs F' kvs ps
  | [], ps, h => by simpa only [RKs] using h
  | (k, d) :: kvs, ps, h => by
    simp only [RKs] at h ⊢
    obtain ⟨i, v, qs, h1, h2, h3, h4⟩ := h
    exact ⟨i, v, qs, h1, h2, RD.mono e d v h3, RKs.mono e kvs qs h4⟩
end
mutual
theorem RM.mono {K : PySem.W.Frag} {ρ ρ' : Nat → Addr} {F F' : Hp} {n n' : Nat} (e : Same F F') (hn : n ≤ n') (hρ : ∀ k, k < n → ρ' k = ρ k) : ∀ (m : M) (v : V), RM K ρ F n m v → RM K ρ' F' n' m v
  | .d x, v, h => by
    simp only [RM] at h ⊢
    exact h.mono e
  | .obj k, v, h => by
    simp only [RM] at h ⊢
    exact ⟨Nat.lt_of_lt_of_le h.1 hn, by rw [hρ k h.1]; exact h.2⟩
  | .tup ms, v, h => by
    simp only [RM] at h ⊢
    obtain ⟨a, vs, h1, h2, h3⟩ := h
    exact ⟨a, vs, h1, e _ _ h2, RMs.mono e hn hρ ms vs h3⟩
  | .scr ns, v, h => by
    simp only [RM] at h ⊢
    obtain ⟨a, h1, h2⟩ := h
    exact ⟨a, h1, Same.seq e h2⟩
  | .ad a, v, h => by simpa only [RM] using h
theorem RMs.mono {K : PySem.W.Frag} {ρ ρ' : Nat → Addr} {F F' : Hp} {n n' : Nat} (e : Same F F') (hn : n ≤ n') (hρ : ∀ k, k < n → ρ' k = ρ k) : ∀ (ms : List M) (vs : List V), RMs K ρ F n ms vs → RMs K ρ' F' n' ms vs
  | [], vs, h => by simpa only [RMs] using h
  | m :: ms, vs, h => by
    simp only [RMs] at h ⊢
    obtain ⟨v, ws, h1, h2, h3⟩ := h
    exact ⟨v, ws, h1, RM.mono e hn hρ m v h2, RMs.mono e hn hρ ms ws h3⟩
end
theorem CellR.mono {K : PySem.W.Frag} {ρ ρ' : Nat → Addr} {F F' : Hp} {n n' : Nat} (e : Same F F') (hn : n ≤ n') (hρ : ∀ k, k < n → ρ' k = ρ k) : ∀ {c : Cell} {o : Option HO}, CellR K ρ F n c o → CellR K ρ' F' n' c o
  | .dead, _, _ => trivial
  | .lst xs, _, ⟨vs, h1, h2⟩ => ⟨vs, h1, RDs.mono e _ _ h2⟩
  | .mix xs, _, ⟨vs, h1, h2⟩ => ⟨vs, h1, RMs.mono e hn hρ _ _ h2⟩
theorem RDs.length {F : Hp} : ∀ {ds : List PyData} {vs : List V}, RDs F ds vs → vs.length = ds.length
  | [], vs, h => by simp only [RDs] at h; rw [h]; rfl
  | d :: ds, vs, h => by
    simp only [RDs] at h
    obtain ⟨v, ws, h1, h2, h3⟩ := h
    rw [h1, List.length_cons, List.length_cons, RDs.length h3]
theorem RMs.length {K : PySem.W.Frag} {ρ : Nat → Addr} {F : Hp} {n : Nat} : ∀ {ds : List M} {vs : List V}, RMs K ρ F n ds vs → vs.length = ds.length
  | [], vs, h => by simp only [RMs] at h; rw [h]; rfl
  | d :: ds, vs, h => by
    simp only [RMs] at h
    obtain ⟨v, ws, h1, h2, h3⟩ := h
    rw [h1, List.length_cons, List.length_cons, RMs.length h3]
theorem RMs.of_ds {K : PySem.W.Frag} {ρ : Nat → Addr} {F : Hp} {n : Nat} : ∀ {ds : List PyData} {vs : List V}, RDs F ds vs → RMs K ρ F n (ds.map M.d) vs
  | [], vs, h => by simpa only [RDs, List.map_nil, RMs] using h
  | d :: ds, vs, h => by
    simp only [RDs] at h
    obtain ⟨v, ws, h1, h2, h3⟩ := h
    simp only [List.map_cons, RMs]
    exact ⟨v, ws, h1, by simpa only [RM] using h2, RMs.of_ds h3⟩
theorem RMs.get {K : PySem.W.Frag} {ρ : Nat → Addr} {F : Hp} {n : Nat} : ∀ {ms : List M} {vs : List V} {i : Nat} {v : V}, RMs K ρ F n ms vs → vs[i]? = some v → ∃ m, ms[i]? = some m ∧ RM K ρ F n m v
  | [], vs, i, v, h, e => by simp only [RMs] at h; subst h; simp at e
  | m :: ms, vs, i, v, h, e => by
    simp only [RMs] at h
    obtain ⟨v0, ws, h1, h2, h3⟩ := h
    subst h1
    cases i with
    | zero => simp only [List.getElem?_cons_zero, Option.some.injEq] at e; subst e; exact ⟨m, rfl, h2⟩
    | succ i =>
      simp only [List.getElem?_cons_succ] at e
      obtain ⟨m', e1, e2⟩ := RMs.get h3 e
      exact ⟨m', by simpa using e1, e2⟩
theorem RMs.get' {K : PySem.W.Frag} {ρ : Nat → Addr} {F : Hp} {n : Nat} : ∀ {ms : List M} {vs : List V} {i : Nat} {m : M}, RMs K ρ F n ms vs → ms[i]? = some m → ∃ v, vs[i]? = some v ∧ RM K ρ F n m v
  | [], vs, i, v, h, e => by simp at e
  | m :: ms, vs, i, v, h, e => by
    simp only [RMs] at h
    obtain ⟨v0, ws, h1, h2, h3⟩ := h
    subst h1
    cases i with
    | zero => simp only [List.getElem?_cons_zero, Option.some.injEq] at e; subst e; exact ⟨v0, rfl, h2⟩
    | succ i =>
      simp only [List.getElem?_cons_succ] at e
      obtain ⟨m', e1, e2⟩ := RMs.get' h3 e
      exact ⟨m', by simpa using e1, e2⟩
theorem RMs.append {K : PySem.W.Frag} {ρ : Nat → Addr} {F : Hp} {n : Nat} : ∀ {ms ns : List M} {vs ws : List V}, RMs K ρ F n ms vs → RMs K ρ F n ns ws → RMs K ρ F n (ms ++ ns) (vs ++ ws)
  | [], ns, vs, ws, h, g => by simp only [RMs] at h; subst h; exact g
  | m :: ms, ns, vs, ws, h, g => by
    simp only [RMs] at h
    obtain ⟨v0, vs', h1, h2, h3⟩ := h
    subst h1
    simp only [List.cons_append, RMs]
    exact ⟨v0, vs' ++ ws, rfl, h2, RMs.append h3 g⟩

/-! ### the state and its steps -/
structure Wd.Ok (K : PySem.W.Frag) (W : Wd) : Prop where
  sub : Same W.F W.H
  al : ∀ k, k < W.h.length → W.H (W.ρ k) ≠ none
  cell : ∀ k c, W.h[k]? = some c → CellR K W.ρ W.F W.h.length c (W.H (W.ρ k))
  out : ∀ k c, W.h[k]? = some c → c ≠ .dead → W.F (W.ρ k) = none
  inj : ∀ j k c c', W.h[j]? = some c → W.h[k]? = some c' → c ≠ .dead → c' ≠ .dead → W.ρ j = W.ρ k → j = k
structure Step (W W' : Wd) : Prop where
  F : Same W.F W'.F
  ρ : ∀ k, k < W.h.length → W'.ρ k = W.ρ k
  n : W.h.length ≤ W'.h.length
  fr : ∀ a o, W.H a = some o → (∀ k, k < W.h.length → a ≠ W.ρ k) → W'.H a = some o
  dom : ∀ a, W'.H a = none → W.H a = none
  newc : ∀ k, W.h.length ≤ k → k < W'.h.length → W.H (W'.ρ k) = none
  newF : ∀ a o, W'.F a = some o → W.F a = some o ∨ W.H a = none ∨ ∃ k, k < W.h.length ∧ a = W.ρ k
theorem Step.refl (W : Wd) : Step W W := ⟨Same.refl _, fun _ _ => rfl, Nat.le_refl _, fun _ _ h _ => h, fun _ h => h, fun k h1 h2 => absurd h2 (Nat.not_lt.mpr h1), fun _ _ h => .inl h⟩
theorem Step.trans {W W1 W2 : Wd} (a : Step W W1) (b : Step W1 W2) : Step W W2 where
  F := Same.trans a.F b.F
  ρ := fun k h => (b.ρ k (Nat.lt_of_lt_of_le h a.n)).trans (a.ρ k h)
  n := Nat.le_trans a.n b.n
  fr := fun x o h nc => b.fr x o (a.fr x o h nc) fun k hk e => by
    by_cases hk' : k < W.h.length
    · exact nc k hk' (e.trans (a.ρ k hk'))
    · have := a.newc k (Nat.not_lt.mp hk') hk
      rw [← e, h] at this
      cases this
  dom := fun x h => a.dom x (b.dom x h)
  newc := fun k h1 h2 => by
    by_cases hk : k < W1.h.length
    · rw [b.ρ k hk]
      exact a.newc k h1 hk
    · exact a.dom _ (b.newc k (Nat.not_lt.mp hk) h2)
  newF := fun x o h => by
    rcases b.newF x o h with h | h | ⟨k, hk, e⟩
    · exact a.newF x o h
    · exact .inr (.inl (a.dom x h))
    · by_cases hk' : k < W.h.length
      · exact .inr (.inr ⟨k, hk', e.trans (a.ρ k hk')⟩)
      · exact .inr (.inl (by rw [e]; exact a.newc k (Nat.not_lt.mp hk') hk))

abbrev RV (K : PySem.W.Frag) (W : Wd) (m : M) (v : V) : Prop := RM K W.ρ W.F W.h.length m v
abbrev RVs (K : PySem.W.Frag) (W : Wd) (ms : List M) (vs : List V) : Prop := RMs K W.ρ W.F W.h.length ms vs
theorem RM.step {K : PySem.W.Frag} {W W' : Wd} {m : M} {v : V} (h : RV K W m v) (s : Step W W') : RV K W' m v := RM.mono s.F s.n s.ρ m v h
theorem RMs.step {K : PySem.W.Frag} {W W' : Wd} {m : List M} {v : List V} (h : RVs K W m v) (s : Step W W') : RVs K W' m v := RMs.mono s.F s.n s.ρ m v h
def ER (K : PySem.W.Frag) (W : Wd) (env : Env) (σ : St) : Prop := env.length = σ.length ∧ ∀ (i : Nat) (m : M), env[i]? = some (some m) → ∃ v, σ[i]? = some (some v) ∧ RV K W m v
theorem ER.step {K : PySem.W.Frag} {W W' : Wd} {env : Env} {σ : St} (h : ER K W env σ) (s : Step W W') : ER K W' env σ := ⟨h.1, fun i m e => let ⟨v, h1, h2⟩ := h.2 i m e; ⟨v, h1, RM.step h2 s⟩⟩
theorem ER.set {K : PySem.W.Frag} {W : Wd} {env : Env} {σ : St} (h : ER K W env σ) (i : Nat) {m : M} {v : V} (r : RV K W m v) : ER K W (env.set i (some m)) (σ.set i (some v)) := by
  refine ⟨by rw [List.length_set, List.length_set, h.1], fun j m' e => ?_⟩
  by_cases hj : j = i
  · subst hj
    have hl : j < env.length := by
      have := (List.getElem?_eq_some_iff.mp e).1
      rwa [List.length_set] at this
    rw [List.getElem?_set_self (h := by simpa using hl)] at e
    cases e
    exact ⟨v, List.getElem?_set_self (by rw [← h.1]; exact hl), r⟩
  · rw [List.getElem?_set_ne (Ne.symm hj)] at e
    rw [List.getElem?_set_ne (Ne.symm hj)]
    exact h.2 j m' e

/-! ### what follows from a result -/
abbrev XE := String → Hp → Prop
def PostG {α : Type} (K : PySem.W.Frag) (E : XE) (W : Wd) (o : Option (Out α)) (Q : α → Wd → Prop) : Prop := match o with
  | none => False
  | some (.val a h') => ∀ W', W'.h = h' → W'.Ok K → Step W W' → Q a W'
  | some (.exc c h') => ∀ W', W'.h = h' → W'.Ok K → Step W W' → E c W'.H
section
variable {α β : Type} {K : PySem.W.Frag} {E : XE} {W : Wd}
theorem PostG.bind {x : Sm α} {k : α → Sm β} {Q : β → Wd → Prop} (p : PostG K E W (bnd x k W.h) Q) : PostG K E W (x W.h) fun a W1 => PostG K E W1 (k a W1.h) Q := by
  unfold bnd at p
  cases e : x W.h with
  | none => rw [e] at p; exact p
  | some o =>
    rw [e] at p
    cases o with
    | exc c h' => exact p
    | val a h' =>
      intro W1 e1 ok1 s1
      subst e1
      have p' : PostG K E W (k a W1.h) Q := p
      cases e2 : k a W1.h with
      | none => rw [e2] at p'; exact p'
      | some o2 =>
        rw [e2] at p'
        cases o2 with
        | val b h2 => exact fun W2 z1 z2 z3 => p' W2 z1 z2 (s1.trans z3)
        | exc c h2 => exact fun W2 z1 z2 z3 => p' W2 z1 z2 (s1.trans z3)
theorem PostG.bindF {x : Sm α} {k : α → Sm β} {Q : β → Wd → Prop} {W0 : Wd} (s : Step W0 W) (p : PostG K E W0 (bnd x k W.h) Q) : PostG K E W (x W.h) fun a W1 => Step W0 W1 ∧ PostG K E W0 (k a W1.h) Q := by
  unfold bnd at p
  cases e : x W.h with
  | none => rw [e] at p; exact p
  | some o =>
    rw [e] at p
    cases o with
    | exc c h' => exact fun W1 e1 ok1 s1 => p W1 e1 ok1 (s.trans s1)
    | val a h' =>
      intro W1 e1 ok1 s1
      subst e1
      exact ⟨s.trans s1, p⟩
theorem PostG.retF {a : α} {Q : α → Wd → Prop} {W0 : Wd} (s : Step W0 W) (ok : W.Ok K) (p : PostG K E W0 (rt a W.h) Q) : Q a W := p W rfl ok s
theorem PostG.mono {o : Option (Out α)} {Q Q' : α → Wd → Prop} (p : PostG K E W o Q) (h : ∀ a W', W'.Ok K → Step W W' → Q a W' → Q' a W') : PostG K E W o Q' := by
  cases o with
  | none => exact p
  | some o =>
    cases o with
    | val a h' => exact fun W' e ok s => h a W' ok s (p W' e ok s)
    | exc c h' => exact p
theorem PostG.ret {a : α} {Q : α → Wd → Prop} (ok : W.Ok K) (p : PostG K E W (rt a W.h) Q) : Q a W := p W rfl ok (Step.refl W)
theorem PostG.opt {o : Option α} {Q : α → Wd → Prop} (ok : W.Ok K) (p : PostG K E W (opt o W.h) Q) : ∃ a, o = some a ∧ Q a W := by
  cases o with
  | none => exact p.elim
  | some a => exact ⟨a, rfl, p W rfl ok (Step.refl W)⟩
end

/-! ### the readings -/
abbrev ES := Env → Sm M
inductive Fl where | nx | rt (m : M) | bk | ct
abbrev SS := Env → Sm (Fl × Env)
def tM (K : PySem.W.Frag) (E : XE) (f : ES) : TE := fun σ H Q => ∃ W env, W.H = H ∧ W.Ok K ∧ ER K W env σ ∧ PostG K E W (f env W.h) fun m W' => ∀ v, RV K W' m v → Q v W'.H
/-- a new list -/
def tN (K : PySem.W.Frag) (E : XE) (f : Env → Sm (List M)) : TE := fun σ H Q => ∃ W env, W.H = H ∧ W.Ok K ∧ ER K W env σ ∧ PostG K E W (f env W.h) fun ms W' => ∀ p vs, W.H p = none → W'.F p = none → (∀ k, k < W'.h.length → W'.ρ k ≠ p) → W'.H p = some (.lst vs) → RVs K W' ms vs → Q (.ref p) W'.H
def tT (K : PySem.W.Frag) (E : XE) (f : Env → Sm Bool) : TT := fun σ H Q => ∃ W env, W.H = H ∧ W.Ok K ∧ ER K W env σ ∧ PostG K E W (f env W.h) fun b W' => Q b W'.H
def tA (K : PySem.W.Frag) (E : XE) (f : Env → Sm (List M)) : TA := fun σ H Q => ∃ W env, W.H = H ∧ W.Ok K ∧ ER K W env σ ∧ PostG K E W (f env W.h) fun ms W' => ∀ vs, RVs K W' ms vs → Q vs W'.H
def SEnd (K : PySem.W.Frag) (D : Ends) (p : Fl × Env) (W' : Wd) : Prop := match p with
  | (.nx, env') => ∀ σ', ER K W' env' σ' → D.nx σ' W'.H
  | (.rt m, _) => ∀ v, RV K W' m v → D.rt v W'.H
  | (.bk, env') => ∀ σ', ER K W' env' σ' → D.bk σ' W'.H
  | (.ct, env') => ∀ σ', ER K W' env' σ' → D.ct σ' W'.H
def tS (K : PySem.W.Frag) (E : XE) (g : SS) : TS := fun D σ H => ∃ W env, W.H = H ∧ W.Ok K ∧ ER K W env σ ∧ PostG K E W (g env W.h) (SEnd K D)
theorem PE.imp {X : Cx} {e : Expr} {t t' : TE} (h : PE X e t) (i : ∀ σ H Q, t' σ H Q → t σ H Q) : PE X e t' := ⟨fun pins s σ H Q I q => h.run pins s σ H Q I (i σ H Q q)⟩
theorem PT.imp {X : Cx} {e : Expr} {t t' : TT} (h : PT X e t) (i : ∀ σ H Q, t' σ H Q → t σ H Q) : PT X e t' := ⟨fun pins s σ H Q I q => h.run pins s σ H Q I (i σ H Q q)⟩
theorem PW.imp {X : Cx} {e : Expr} {t t' : TT} (h : PW X e t) (i : ∀ σ H Q, t' σ H Q → t σ H Q) : PW X e t' := ⟨fun wh pins s σ H Q I q => h.run wh pins s σ H Q I (i σ H Q q)⟩
theorem PA.imp {X : Cx} {e : List Expr} {t t' : TA} (h : PA X e t) (i : ∀ σ H Q, t' σ H Q → t σ H Q) : PA X e t' := ⟨fun pos pins s σ H Q I q => h.run pos pins s σ H Q I (i σ H Q q)⟩
theorem PS.imp {X : Cx} {e : Stmt} {t t' : TS} (h : PS X e t) (i : ∀ D σ H, t' D σ H → t D σ H) : PS X e t' := ⟨fun pins s σ H D I q => h.run pins s σ H D I (i D σ H q)⟩
theorem PSs.imp {X : Cx} {e : List Stmt} {t t' : TS} (h : PSs X e t) (i : ∀ D σ H, t' D σ H → t D σ H) : PSs X e t' := ⟨fun pins s σ H D I q => h.run pins s σ H D I (i D σ H q)⟩
end G

namespace G
open PySem PySem.Spec L2

def fail {α : Type} : Sm α := fun _ => none
abbrev LIM : Nat := 16777216
theorem lim_eq : LIM = sizeLine := by decide
section
variable {X : Cx} {E : XE} {pos : Pos} {a b c : Expr} {fa fb fc : ES}

/-! ### names, constants -/
def eVar (i : Nat) : ES := fun env => match env[i]? with
  | some (some m) => rt m
  | _ => fail
theorem p_var {e : Expr} {i : Nat} (h : PE X e (tVar i)) : PE X e (tM X.K E (eVar i)) := PE.imp h fun σ H Q ⟨W, env, hH, ok, er, p⟩ => by
  subst hH
  unfold eVar at p
  cases e1 : env[i]? with
  | none => rw [e1] at p; exact p.elim
  | some o =>
    cases o with
    | none => rw [e1] at p; exact p.elim
    | some m =>
      rw [e1] at p
      obtain ⟨v, h1, h2⟩ := er.2 i m e1
      exact ⟨v, h1, (PostG.ret ok p) v h2⟩
def eC (x : PyData) : ES := fun _ => rt (.d x)
theorem p_C {e : Expr} {v : V} {x : PyData} (h : PE X e (tC v)) (r : ∀ F, RD F x v) : PE X e (tM X.K E (eC x)) := PE.imp h fun σ H Q ⟨W, env, hH, ok, er, p⟩ => by
  subst hH
  exact PostG.ret ok p v (by simp only [RM]; exact r _)
theorem p_int {i : Int} {j pos} : PE X (.Constant (.int i) j pos) (tM X.K E (eC (.int i))) := p_C pe_int fun F => by simp only [RD]
theorem p_bl {i : Bool} {j pos} : PE X (.Constant (.bool i) j pos) (tM X.K E (eC (.bool i))) := p_C pe_bl fun F => by simp only [RD]
theorem p_non {j pos} : PE X (.Constant .none j pos) (tM X.K E (eC .none)) := p_C pe_non fun F => by simp only [RD]
theorem p_str {i : Str} {j pos} : PE X (.Constant (.str i) j pos) (tM X.K E (eC (.str i))) := p_C pe_str fun F => by simp only [RD]
/-- a module's int or text -/
theorem p_gint {x : Str} {i : Int} {t : Tok} {pos : Pos} (hg : Gl X x) (hm : X.mg x = some (.int i t)) (hd : (x == ("__debug__" : Str)) = false := by decide) : PE X (.Name x pos) (tM X.K E (eC (.int i))) := p_C (pe_glob (v := .int i) hg hm ⟨_, rfl⟩ hd) fun F => by simp only [RD]
theorem p_gstr {x : Str} {i : Str} {t : Tok} {pos : Pos} (hg : Gl X x) (hm : X.mg x = some (.str i t)) (hd : (x == ("__debug__" : Str)) = false := by decide) : PE X (.Name x pos) (tM X.K E (eC (.str i))) := p_C (pe_glob (v := .str i) hg hm ⟨_, rfl⟩ hd) fun F => by simp only [RD]

/-! ### two-place operations -/
abbrev Op2 := M → M → Sm M
def e2 (op : Op2) (fa fb : ES) : ES := fun env => bnd (fa env) fun x => bnd (fb env) fun y => op x y
abbrev QV (K : PySem.W.Frag) (Q : VK) : M → Wd → Prop := fun m W' => ∀ v, RV K W' m v → Q v W'.H
def J2 (K : PySem.W.Frag) (r : R2) (op : Op2) : Prop := ∀ (E : XE) (W : Wd) (x y : M) (v u : V) (Q : VK), W.Ok K → RV K W x v → RV K W y u → PostG K E W (op x y W.h) (QV K Q) → r v u W.H Q
theorem t_e2 {r : R2} {op : Op2} {K : PySem.W.Frag} (j : J2 K r op) : ∀ σ H Q, tM K E (e2 op fa fb) σ H Q → tOp r (tM K E fa) (tM K E fb) σ H Q := fun σ H Q ⟨W, env, hH, ok, er, p⟩ => by
  subst hH
  exact ⟨W, env, rfl, ok, er, (PostG.bind p).mono fun x W1 ok1 s1 p1 v rv => ⟨W1, env, rfl, ok1, er.step s1, (PostG.bind p1).mono fun y W2 ok2 s2 p2 u ru => j E W2 x y v u Q ok2 (RM.step rv s2) ru p2⟩⟩
theorem p_bin {o : Operator} {r : R2} {op : Op2} (ho : OpR X (binaryOp o) r) (j : J2 X.K r op) (ha : PE X a (tM X.K E fa)) (hb : PE X b (tM X.K E fb)) : PE X (.BinOp a o b pos) (tM X.K E (e2 op fa fb)) := PE.imp (pe_op ho ha hb) (t_e2 j)
theorem p_cmp {o : CmpOp} {r : R2} {op : Op2} (ho : OpR X (compareOp o) r) (j : J2 X.K r op) (ha : PE X a (tM X.K E fa)) (hb : PE X b (tM X.K E fb)) (hm : behindInMarks o b = false) : PE X (.Compare a [o] [b] pos) (tM X.K E (e2 op fa fb)) := PE.imp (pe_cmpR ho ha hb hm) (t_e2 j)
theorem p_ix {r : R2} {op : Op2} (ho : IxR X r) (j : J2 X.K r op) (ha : PE X a (tM X.K E fa)) (hb : PE X b (tM X.K E fb)) (hs : PlainIx b) : PE X (.Subscript a b pos) (tM X.K E (e2 op fa fb)) := PE.imp (pe_ix ho ha hb hs) (t_e2 j)

/-- a truth -/
def asB : M → Sm Bool
  | .d (.bool b) => rt b
  | _ => fail
def bO (f : ES) : Env → Sm Bool := fun env => bnd (f env) asB
theorem asB_ok {K : PySem.W.Frag} {W : Wd} {m : M} {v : V} {Q : Bool → Wd → Prop} (ok : W.Ok K) (r : RV K W m v) (p : PostG K E W (asB m W.h) Q) : ∃ k, v = .bl k ∧ Q k W := by
  cases m with
  | d x =>
    cases x with
    | bool b =>
      simp only [RM, RD] at r
      exact ⟨b, r, PostG.ret ok p⟩
    | _ => exact p.elim
  | _ => exact p.elim
theorem t_test {t : TE} {f : ES} {K : PySem.W.Frag} (i : ∀ σ H Q, tM K E f σ H Q → t σ H Q) : ∀ σ H Q, tT K E (bO f) σ H Q → tTest t σ H Q := fun σ H Q ⟨W, env, hH, ok, er, p⟩ => by
  subst hH
  refine i _ _ _ ⟨W, env, rfl, ok, er, (PostG.bind p).mono fun x W1 ok1 s1 p1 v rv => ?_⟩
  exact asB_ok ok1 rv p1
theorem t_tB {t : TE} {f : ES} {K : PySem.W.Frag} (i : ∀ σ H Q, tM K E f σ H Q → t σ H Q) : ∀ σ H Q, tT K E (bO f) σ H Q → tB t σ H Q := t_test i
theorem pt_cmp {o : CmpOp} {r : R2} {op : Op2} (ho : OpR X (compareOp o) r) (j : J2 X.K r op) (ha : PE X a (tM X.K E fa)) (hb : PE X b (tM X.K E fb)) (hm : behindInMarks o b = false) : PT X (.Compare a [o] [b] pos) (tT X.K E (bO (e2 op fa fb))) := PT.imp (pt_cmpR ho ha hb hm) (t_test (t_e2 j))
/-- an expression that is a truth, as a test -/
theorem pt_bo {f : ES} (h : PE X a (tM X.K E f)) (he : ∀ whole, isTrue a X.env whole = (do let v ← whole; standAt a.pos; holding [v] (truthy v)) := by intro _; rfl) : PT X a (tT X.K E (bO f)) := PT.imp (pt_val h he) (t_tB fun _ _ _ h => h)

/-- a op b op' c -/
def eCh (op op' : Op2) (fa fb fc : ES) : ES := fun env => bnd (fa env) fun x => bnd (fb env) fun y => bnd (op x y) fun z => bnd (asB z) fun k => if k = true then bnd (fc env) fun w => op' y w else rt (.d (.bool false))
theorem t_ch {r r' : R2} {op op' : Op2} {K : PySem.W.Frag} (j : J2 K r op) (j' : J2 K r' op') : ∀ σ H Q, tM K E (eCh op op' fa fb fc) σ H Q → tChain r r' (tM K E fa) (tM K E fb) (tM K E fc) σ H Q := fun σ H Q ⟨W, env, hH, ok, er, p⟩ => by
  subst hH
  refine ⟨W, env, rfl, ok, er, (PostG.bind p).mono fun x W1 ok1 s1 p1 v rv => ⟨W1, env, rfl, ok1, er.step s1, (PostG.bind p1).mono fun y W2 ok2 s2 p2 u ru => j E W2 x y v u _ ok2 (RM.step rv s2) ru ((PostG.bind p2).mono fun z W3 ok3 s3 p3 zv rz => ?_)⟩⟩
  obtain ⟨k, ez, p4⟩ := asB_ok ok3 rz (PostG.bind p3)
  refine ⟨k, ez, ?_⟩
  cases k with
  | false =>
    rw [if_neg Bool.false_ne_true] at p4 ⊢
    exact PostG.ret ok3 p4 _ (by simp only [RM, RD])
  | true =>
    rw [if_pos rfl] at p4 ⊢
    exact ⟨W3, env, rfl, ok3, er.step (s1.trans (s2.trans s3)), (PostG.bind p4).mono fun w W4 ok4 s4 p5 wv rw => j' E W4 y w u wv Q ok4 (RM.step ru (s3.trans s4)) rw p5⟩
theorem p_chain {o o' : CmpOp} {r r' : R2} {op op' : Op2} (ho : OpR X (compareOp o) r) (j : J2 X.K r op) (ho' : OpR X (compareOp o') r') (j' : J2 X.K r' op') (ha : PE X a (tM X.K E fa)) (hb : PE X b (tM X.K E fb)) (hc : PE X c (tM X.K E fc))
    (hm : lastMarks [o, o'] [b, c] = false := by with_unfolding_all rfl) : PE X (.Compare a [o, o'] [b, c] pos) (tM X.K E (eCh op op' fa fb fc)) := PE.imp (pe_chain ho ho' ha hb hc hm) (t_ch j j')
theorem pt_chainB {o o' : CmpOp} {r r' : R2} {op op' : Op2} (ho : OpR X (compareOp o) r) (j : J2 X.K r op) (ho' : OpR X (compareOp o') r') (j' : J2 X.K r' op') (ha : PE X a (tM X.K E fa)) (hb : PE X b (tM X.K E fb)) (hc : PE X c (tM X.K E fc))
    (hm : lastMarks [o, o'] [b, c] = false := by with_unfolding_all rfl) : PT X (.Compare a [o, o'] [b, c] pos) (tT X.K E (bO (eCh op op' fa fb fc))) := PT.imp (pt_chain ho ho' ha hb hc hm) (t_test (t_ch j j'))

/-! ### and, or, not -/
variable {ta tb : Env → Sm Bool} {rest : List Expr}
def bAnd (ta tb : Env → Sm Bool) : Env → Sm Bool := fun env => bnd (ta env) fun k => if k = true then tb env else rt false
def bOr (ta tb : Env → Sm Bool) : Env → Sm Bool := fun env => bnd (ta env) fun k => if k = true then rt true else tb env
def bNot (ta : Env → Sm Bool) : Env → Sm Bool := fun env => bnd (ta env) fun k => rt (!k)
theorem pw_And (ha : PT X a (tT X.K E ta)) (hb : PW X (.BoolOp .And (b :: rest) pos) (tT X.K E tb)) : PW X (.BoolOp .And (a :: b :: rest) pos) (tT X.K E (bAnd ta tb)) := PW.imp (pw_and ha hb) fun σ H Q ⟨W, env, hH, ok, er, p⟩ => by
  subst hH
  refine ⟨W, env, rfl, ok, er, (PostG.bind p).mono fun k W1 ok1 s1 p1 => ?_⟩
  cases k with
  | true => exact ⟨W1, env, rfl, ok1, er.step s1, p1⟩
  | false => exact PostG.ret ok1 p1
theorem pw_Or (ha : PT X a (tT X.K E ta)) (hb : PW X (.BoolOp .Or (b :: rest) pos) (tT X.K E tb)) : PW X (.BoolOp .Or (a :: b :: rest) pos) (tT X.K E (bOr ta tb)) := PW.imp (pw_or ha hb) fun σ H Q ⟨W, env, hH, ok, er, p⟩ => by
  subst hH
  refine ⟨W, env, rfl, ok, er, (PostG.bind p).mono fun k W1 ok1 s1 p1 => ?_⟩
  cases k with
  | true => exact PostG.ret ok1 p1
  | false => exact ⟨W1, env, rfl, ok1, er.step s1, p1⟩
theorem pt_Not (ha : PT X a (tT X.K E ta)) : PT X (.UnaryOp .Not a pos) (tT X.K E (bNot ta)) := PT.imp (pt_not ha) fun σ H Q ⟨W, env, hH, ok, er, p⟩ => by
  subst hH
  exact ⟨W, env, rfl, ok, er, (PostG.bind p).mono fun k W1 ok1 s1 p1 => PostG.ret ok1 p1⟩
/-- .. as values: all but the last a truth -/
def eAnd (fa fb : ES) : ES := fun env => bnd (fa env) fun x => bnd (asB x) fun k => if k = true then fb env else rt (.d (.bool false))
def eOr (fa fb : ES) : ES := fun env => bnd (fa env) fun x => bnd (asB x) fun k => if k = true then rt (.d (.bool true)) else fb env
def eNot (fa : ES) : ES := fun env => bnd (fa env) fun x => bnd (asB x) fun k => rt (.d (.bool (!k)))
theorem p_And (ha : PE X a (tM X.K E fa)) (hb : PE X (.BoolOp .And (b :: rest) pos) (tM X.K E fb)) : PE X (.BoolOp .And (a :: b :: rest) pos) (tM X.K E (eAnd fa fb)) := PE.imp (pe_and ha hb) fun σ H Q ⟨W, env, hH, ok, er, p⟩ => by
  subst hH
  refine ⟨W, env, rfl, ok, er, (PostG.bind p).mono fun x W1 ok1 s1 p1 v rv => ?_⟩
  obtain ⟨k, e, p2⟩ := asB_ok ok1 rv (PostG.bind p1)
  refine ⟨k, e, ?_⟩
  cases k with
  | true => exact ⟨W1, env, rfl, ok1, er.step s1, p2⟩
  | false => exact PostG.ret ok1 p2 _ (by simp only [RM, RD])
theorem p_Or (ha : PE X a (tM X.K E fa)) (hb : PE X (.BoolOp .Or (b :: rest) pos) (tM X.K E fb)) : PE X (.BoolOp .Or (a :: b :: rest) pos) (tM X.K E (eOr fa fb)) := PE.imp (pe_or ha hb) fun σ H Q ⟨W, env, hH, ok, er, p⟩ => by
  subst hH
  refine ⟨W, env, rfl, ok, er, (PostG.bind p).mono fun x W1 ok1 s1 p1 v rv => ?_⟩
  obtain ⟨k, e, p2⟩ := asB_ok ok1 rv (PostG.bind p1)
  refine ⟨k, e, ?_⟩
  cases k with
  | false => exact ⟨W1, env, rfl, ok1, er.step s1, p2⟩
  | true => exact PostG.ret ok1 p2 _ (by simp only [RM, RD])
theorem p_Not (ha : PE X a (tM X.K E fa)) : PE X (.UnaryOp .Not a pos) (tM X.K E (eNot fa)) := PE.imp (pe_not ha) fun σ H Q ⟨W, env, hH, ok, er, p⟩ => by
  subst hH
  refine ⟨W, env, rfl, ok, er, (PostG.bind p).mono fun x W1 ok1 s1 p1 v rv => ?_⟩
  obtain ⟨k, e, p2⟩ := asB_ok ok1 rv (PostG.bind p1)
  exact ⟨k, e, PostG.ret ok1 p2 _ (by simp only [RM, RD])⟩
/-- a if t else b -/
def eIf (t : Env → Sm Bool) (fa fb : ES) : ES := fun env => bnd (t env) fun k => if k = true then fa env else fb env
theorem p_If (hc : PT X c (tT X.K E ta)) (ha : PE X a (tM X.K E fa)) (hb : PE X b (tM X.K E fb)) : PE X (.IfExp c a b pos) (tM X.K E (eIf ta fa fb)) := PE.imp (pe_ifExp hc ha hb) fun σ H Q ⟨W, env, hH, ok, er, p⟩ => by
  subst hH
  refine ⟨W, env, rfl, ok, er, (PostG.bind p).mono fun k W1 ok1 s1 p1 => ?_⟩
  cases k with
  | true => exact ⟨W1, env, rfl, ok1, er.step s1, p1⟩
  | false => exact ⟨W1, env, rfl, ok1, er.step s1, p1⟩

/-! ### arguments, displays -/
variable {es : List Expr} {fs : Env → Sm (List M)}
def aNil : Env → Sm (List M) := fun _ => rt []
def aCons (f : ES) (fs : Env → Sm (List M)) : Env → Sm (List M) := fun env => bnd (f env) fun x => bnd (fs env) fun xs => rt (x :: xs)
theorem q_nil : PA X [] (tA X.K E aNil) := PA.imp pa_nil fun σ H Q ⟨W, env, hH, ok, er, p⟩ => by
  subst hH
  exact PostG.ret ok p [] (by simp only [RMs])
theorem q_cons (ha : PE X a (tM X.K E fa)) (hr : PA X es (tA X.K E fs)) (hs : starEach (a :: es) X.env = (false, eval a X.env) :: starEach es X.env := by rfl) : PA X (a :: es) (tA X.K E (aCons fa fs)) := PA.imp (pa_cons ha hr hs) fun σ H Q ⟨W, env, hH, ok, er, p⟩ => by
  subst hH
  refine ⟨W, env, rfl, ok, er, (PostG.bind p).mono fun x W1 ok1 s1 p1 v rv => ⟨W1, env, rfl, ok1, er.step s1, (PostG.bind p1).mono fun xs W2 ok2 s2 p2 vs rvs => ?_⟩⟩
  exact PostG.ret ok2 p2 (v :: vs) (by simp only [RMs]; exact ⟨v, vs, rfl, RM.step rv s2, rvs⟩)
end

/-! ### new objects -/
def asDs : List M → Option (List PyData)
  | [] => some []
  | .d x :: r => match asDs r with
    | some ds => some (x :: ds)
    | none => none
  | _ :: _ => none
theorem asDs_map : ∀ ds : List PyData, asDs (ds.map M.d) = some ds
  | [] => rfl
  | d :: ds => by
    show (match asDs (ds.map M.d) with | some ds => some (d :: ds) | none => none) = _
    rw [asDs_map ds]
theorem asDs_rel {K : PySem.W.Frag} {ρ : Nat → Addr} {F : Hp} {n : Nat} : ∀ {ms : List M} {ds : List PyData} {vs : List V}, asDs ms = some ds → RMs K ρ F n ms vs → RDs F ds vs
  | [], ds, vs, e, h => by
    cases e
    simpa only [RMs, RDs] using h
  | .d x :: r, ds, vs, e, h => by
    simp only [asDs] at e
    cases e1 : asDs r with
    | none => rw [e1] at e; cases e
    | some ds' =>
      rw [e1] at e
      cases e
      simp only [RMs, RM] at h
      obtain ⟨v, ws, h1, h2, h3⟩ := h
      simp only [RDs]
      exact ⟨v, ws, h1, h2, asDs_rel e1 h3⟩
  | .obj _ :: _, _, _, e, _ => by cases e
  | .tup _ :: _, _, _, e, _ => by cases e
  | .scr _ :: _, _, _, e, _ => by cases e
  | .ad _ :: _, _, _, e, _ => by cases e
def mkTup (ms : List M) : M := match asDs ms with
  | some ds => .d (.tuple ds)
  | none => .tup ms
section
variable {K : PySem.W.Frag} {W : Wd}
theorem upd_same_hp {F : Hp} {p : Addr} {o : HO} (h : F p = none) : Same F (upd F p o) := fun a x e => by
  rw [upd_ne (ne_of_none e h)]
  exact e
/-- what is known of W, with a new frozen object -/
def Wd.froz (W : Wd) (p : Addr) (o : HO) : Wd := { W with F := upd W.F p o, H := upd W.H p o }
theorem Wd.Ok.fp (ok : W.Ok K) {p : Addr} (h : W.H p = none) : W.F p = none := by
  cases e : W.F p with
  | none => rfl
  | some o => rw [ok.sub _ _ e] at h; cases h
theorem Wd.Ok.nec (ok : W.Ok K) {p : Addr} (h : W.H p = none) {k : Nat} (e : k < W.h.length) : W.ρ k ≠ p := fun z => ok.al k e (by rw [z]; exact h)
theorem lt_of_get {α : Type} {xs : List α} {k : Nat} {c : α} (e : xs[k]? = some c) : k < xs.length := (List.getElem?_eq_some_iff.mp e).1
theorem upd_some {H : Hp} {p a : Addr} {o : HO} (h : H a ≠ none) : upd H p o a ≠ none := by
  by_cases ha : a = p
  · rw [ha, upd_same]; exact fun z => nomatch z
  · rw [upd_ne ha]; exact h
theorem Wd.Ok.froz (ok : W.Ok K) {p : Addr} (o : HO) (h : W.H p = none) : (W.froz p o).Ok K := by
  refine ⟨fun a x e => ?_, fun k hk => upd_some (ok.al k hk), fun k c e => ?_, fun k c e hd => ?_, ok.inj⟩
  · by_cases ha : a = p
    · subst ha
      rw [show (W.froz a o).F a = some o from upd_same] at e
      rw [show (W.froz a o).H a = some o from upd_same]
      exact e
    · rw [show (W.froz p o).F a = W.F a from upd_ne ha] at e
      rw [show (W.froz p o).H a = W.H a from upd_ne ha]
      exact ok.sub a x e
  · have ne := ok.nec h (lt_of_get e)
    show CellR K W.ρ (upd W.F p o) W.h.length c (upd W.H p o (W.ρ k))
    rw [upd_ne ne]
    exact (ok.cell k c e).mono (upd_same_hp (ok.fp h)) (Nat.le_refl _) fun _ _ => rfl
  · show upd W.F p o (W.ρ k) = none
    rw [upd_ne (ok.nec h (lt_of_get e))]
    exact ok.out k c e hd
theorem Step.froz (ok : W.Ok K) {p : Addr} {o : HO} (h : W.H p = none) : Step W (W.froz p o) := by
  refine ⟨upd_same_hp (ok.fp h), fun _ _ => rfl, Nat.le_refl _, fun a x e _ => ?_, fun a e => ?_, fun k h1 h2 => absurd h2 (Nat.not_lt.mpr h1), fun a x e => ?_⟩
  · show upd W.H p o a = some x
    rw [upd_ne (ne_of_none e h)]
    exact e
  · by_cases ha : a = p
    · subst ha; exact h
    · rw [show (W.froz p o).H a = W.H a from upd_ne ha] at e
      exact e
  · by_cases ha : a = p
    · subst ha; exact .inr (.inl h)
    · rw [show (W.froz p o).F a = W.F a from upd_ne ha] at e
      exact .inl e
theorem mkTup_ok (ok : W.Ok K) {p : Addr} {ms : List M} {vs : List V} (h : W.H p = none) (r : RVs K W ms vs) : RV K (W.froz p (.tup vs)) (mkTup ms) (.ref p) := by
  have e1 : upd W.F p (.tup vs) p = some (.tup vs) := upd_same
  have r' := RMs.step r (Step.froz (o := .tup vs) ok h)
  unfold mkTup
  cases e : asDs ms with
  | some ds =>
    show RM K W.ρ (upd W.F p (.tup vs)) W.h.length (.d (.tuple ds)) (.ref p)
    simp only [RM, RD]
    exact ⟨p, vs, rfl, e1, asDs_rel e r'⟩
  | none =>
    show RM K W.ρ (upd W.F p (.tup vs)) W.h.length (.tup ms) (.ref p)
    simp only [RM]
    exact ⟨p, vs, rfl, e1, r'⟩
end
section
variable {X : Cx} {E : XE} {pos : Pos} {a b c : Expr} {fa fb fc : ES} {es : List Expr} {fs : Env → Sm (List M)}
def eTup (fs : Env → Sm (List M)) : ES := fun env => bnd (fs env) fun ms => if ms.length ≤ LIM then rt (mkTup ms) else fail
theorem p_tup {x1} (h : PA X es (tA X.K E fs)) : PE X (.Tuple es x1 pos) (tM X.K E (eTup fs)) := PE.imp (pe_tup h) fun σ H Q ⟨W, env, hH, ok, er, p⟩ => by
  subst hH
  refine ⟨W, env, rfl, ok, er, (PostG.bind p).mono fun ms W1 ok1 s1 p1 vs rvs => ?_⟩
  by_cases hl : ms.length ≤ LIM
  · rw [if_pos hl] at p1
    refine ⟨by rw [RMs.length rvs]; exact hl, fun q hq => ?_⟩
    exact p1 (W1.froz q (.tup vs)) rfl (ok1.froz _ hq) (Step.froz ok1 hq) _ (mkTup_ok ok1 hq rvs)
  · rw [if_neg hl] at p1
    exact p1.elim
/-- a new list by its items -/
def nLst (fs : Env → Sm (List M)) : Env → Sm (List M) := fun env => bnd (fs env) fun ms => if ms.length ≤ LIM then rt ms else fail
/-- what is known of W, with a new object that is not known -/
def Wd.more (W : Wd) (p : Addr) (o : HO) : Wd := { W with H := upd W.H p o }
theorem Wd.Ok.more {K : PySem.W.Frag} {W : Wd} (ok : W.Ok K) {p : Addr} (o : HO) (h : W.H p = none) : (W.more p o).Ok K := by
  refine ⟨fun a x e => ?_, fun k hk => upd_some (ok.al k hk), fun k c e => ?_, ok.out, ok.inj⟩
  · show upd W.H p o a = some x
    have := ok.sub a x e
    rw [upd_ne (ne_of_none this h)]
    exact this
  · show CellR K W.ρ W.F W.h.length c (upd W.H p o (W.ρ k))
    rw [upd_ne (ok.nec h (lt_of_get e))]
    exact ok.cell k c e
theorem Step.more {W : Wd} {p : Addr} {o : HO} (h : W.H p = none) : Step W (W.more p o) := by
  refine ⟨Same.refl _, fun _ _ => rfl, Nat.le_refl _, fun a x e _ => ?_, fun a e => ?_, fun k h1 h2 => absurd h2 (Nat.not_lt.mpr h1), fun a x e => .inl e⟩
  · show upd W.H p o a = some x
    rw [upd_ne (ne_of_none e h)]
    exact e
  · by_cases ha : a = p
    · subst ha; exact h
    · rw [show (W.more p o).H a = W.H a from upd_ne ha] at e
      exact e
end
end G

namespace G
open PySem PySem.Spec L2

/-! ### a new list, as it is wanted -/
section
variable {X : Cx} {E : XE} {K : PySem.W.Frag} {pos : Pos} {a b c : Expr} {fa fb fc : ES} {es : List Expr} {fs : Env → Sm (List M)}
theorem p_lst (h : PA X es (tA X.K E fs)) : PE X (.List es pos) (tN X.K E (nLst fs)) := PE.imp (pe_lst h) fun σ H Q ⟨W, env, hH, ok, er, p⟩ => by
  subst hH
  refine ⟨W, env, rfl, ok, er, (PostG.bindF (Step.refl W) p).mono fun ms W1 ok1 s1 ⟨s0, p1⟩ vs rvs => ?_⟩
  by_cases hl : ms.length ≤ LIM
  · rw [if_pos hl] at p1
    refine ⟨by rw [RMs.length rvs]; exact hl, fun q hq => ?_⟩
    exact p1 (W1.more q (.lst vs)) rfl (ok1.more _ hq) (s0.trans (Step.more hq)) q vs (s0.dom q hq) (ok1.fp hq) (fun k hk => ok1.nec hq hk) upd_same (RMs.step rvs (Step.more hq))
  · rw [if_neg hl] at p1
    exact p1.elim
/-- the list frozen -/
def eVal (f : Env → Sm (List M)) : ES := fun env => bnd (f env) fun ms => match asDs ms with
  | some ds => rt (.d (.list ds))
  | none => fail
def Wd.frz (W : Wd) (p : Addr) (o : HO) : Wd := { W with F := upd W.F p o }
theorem Wd.Ok.frz {W : Wd} (ok : W.Ok K) {p : Addr} {o : HO} (hF : W.F p = none) (h : W.H p = some o) (hc : ∀ k, k < W.h.length → W.ρ k ≠ p) : (W.frz p o).Ok K := by
  refine ⟨fun a x e => ?_, ok.al, fun k c e => (ok.cell k c e).mono (upd_same_hp hF) (Nat.le_refl _) fun _ _ => rfl, fun k c e hd => ?_, ok.inj⟩
  · by_cases ha : a = p
    · subst ha
      rw [show (W.frz a o).F a = some o from upd_same] at e
      cases e
      exact h
    · rw [show (W.frz p o).F a = W.F a from upd_ne ha] at e
      exact ok.sub a x e
  · show upd W.F p o (W.ρ k) = none
    rw [upd_ne (hc k (lt_of_get e))]
    exact ok.out k c e hd
theorem Step.frz {W W1 : Wd} (s : Step W W1) {p : Addr} {o : HO} (hF : W1.F p = none) (h : W.H p = none) : Step W (W1.frz p o) := by
  refine ⟨Same.trans s.F (upd_same_hp hF), s.ρ, s.n, s.fr, s.dom, s.newc, fun a x e => ?_⟩
  by_cases ha : a = p
  · subst ha; exact .inr (.inl h)
  · rw [show (W1.frz p o).F a = W1.F a from upd_ne ha] at e
    exact s.newF a x e
theorem RMs.frz {W : Wd} {ms : List M} {vs : List V} {p : Addr} {o : HO} (hF : W.F p = none) (r : RVs K W ms vs) : RVs K (W.frz p o) ms vs := RMs.mono (upd_same_hp hF) (Nat.le_refl _) (fun _ _ => rfl) _ _ r
theorem p_val {f : Env → Sm (List M)} (h : PE X a (tN X.K E f)) : PE X a (tM X.K E (eVal f)) := PE.imp h fun σ H Q ⟨W, env, hH, ok, er, p⟩ => by
  subst hH
  refine ⟨W, env, rfl, ok, er, (PostG.bindF (Step.refl W) p).mono fun ms W1 ok1 s1 ⟨s0, p1⟩ q vs h1 h2 h3 h4 rvs => ?_⟩
  cases e : asDs ms with
  | none => simp only [e] at p1; exact p1.elim
  | some ds =>
    simp only [e] at p1
    refine p1 (W1.frz q (.lst vs)) rfl (ok1.frz h2 h4 h3) (s0.frz h2 h1) _ ?_
    show RM X.K W1.ρ (upd W1.F q (.lst vs)) W1.h.length (.d (.list ds)) (.ref q)
    simp only [RM, RD]
    exact ⟨q, vs, rfl, upd_same, asDs_rel e (RMs.frz (o := .lst vs) h2 rvs)⟩
/-- the list a cell -/
def mkCell (ms : List M) : Cell := match asDs ms with
  | some ds => .lst ds
  | none => .mix ms
def eCell (f : Env → Sm (List M)) : ES := fun env => bnd (f env) fun ms h => some (.val (.obj h.length) (h ++ [mkCell ms]))
def Wd.cel (W : Wd) (p : Addr) (c : Cell) : Wd := { W with ρ := fun k => if k = W.h.length then p else W.ρ k, h := W.h ++ [c] }
theorem cel_ρ {W : Wd} {p : Addr} {c : Cell} {k : Nat} (h : k < W.h.length) : (W.cel p c).ρ k = W.ρ k := if_neg (Nat.ne_of_lt h)
theorem cel_n {W : Wd} {p : Addr} {c : Cell} : (W.cel p c).h.length = W.h.length + 1 := by
  show (W.h ++ [c]).length = _
  rw [List.length_append]; rfl
theorem Wd.Ok.cel {W : Wd} (ok : W.Ok K) {p : Addr} {c : Cell} (hF : W.F p = none) (h : CellR K W.ρ W.F W.h.length c (W.H p)) (hn : W.H p ≠ none) (hc : ∀ k, k < W.h.length → W.ρ k ≠ p) : (W.cel p c).Ok K := by
  have lt_or : ∀ k c', (W.cel p c).h[k]? = some c' → (k < W.h.length ∧ W.h[k]? = some c') ∨ (k = W.h.length ∧ c' = c) := fun k c' e => by
    have e' : (W.h ++ [c])[k]? = some c' := e
    by_cases hk : k < W.h.length
    · rw [List.getElem?_append_left hk] at e'
      exact .inl ⟨hk, e'⟩
    · have hl := lt_of_get e'
      rw [List.length_append, List.length_singleton] at hl
      have hk' : k = W.h.length := by omega
      subst hk'
      rw [List.getElem?_append_right (Nat.le_refl _), Nat.sub_self] at e'
      exact .inr ⟨rfl, (Option.some.inj e').symm⟩
  have at_n : (W.cel p c).ρ W.h.length = p := if_pos rfl
  refine ⟨ok.sub, fun k hk => ?_, fun k c' e => ?_, fun k c' e hd => ?_, fun j k c1 c2 e1 e2 d1 d2 z => ?_⟩
  · rw [cel_n] at hk
    by_cases hk' : k < W.h.length
    · rw [cel_ρ hk']; exact ok.al k hk'
    · rw [show k = W.h.length by omega, at_n]; exact hn
  · rcases lt_or k c' e with ⟨hk, e'⟩ | ⟨hk, e'⟩
    · rw [cel_ρ hk]
      exact (ok.cell k c' e').mono (Same.refl _) (by rw [cel_n]; omega) fun j hj => cel_ρ hj
    · rw [hk, at_n, e']
      exact h.mono (Same.refl _) (by rw [cel_n]; omega) fun j hj => cel_ρ hj
  · rcases lt_or k c' e with ⟨hk, e'⟩ | ⟨hk, e'⟩
    · rw [cel_ρ hk]; exact ok.out k c' e' hd
    · rw [hk, at_n]; exact hF
  · rcases lt_or j c1 e1 with ⟨hj, e1'⟩ | ⟨hj, e1'⟩ <;> rcases lt_or k c2 e2 with ⟨hk, e2'⟩ | ⟨hk, e2'⟩
    · rw [cel_ρ hj, cel_ρ hk] at z
      exact ok.inj j k c1 c2 e1' e2' d1 d2 z
    · rw [cel_ρ hj, hk, at_n] at z
      exact absurd z (hc j hj)
    · rw [cel_ρ hk, hj, at_n] at z
      exact absurd z.symm (hc k hk)
    · rw [hj, hk]
theorem Step.cel {W W1 : Wd} (s : Step W W1) {p : Addr} {c : Cell} (h : W.H p = none) : Step W (W1.cel p c) := by
  refine ⟨s.F, fun k hk => ?_, by rw [cel_n]; exact Nat.le_succ_of_le s.n, s.fr, s.dom, fun k h1 h2 => ?_, s.newF⟩
  · rw [cel_ρ (Nat.lt_of_lt_of_le hk s.n)]; exact s.ρ k hk
  · rw [cel_n] at h2
    by_cases hk : k < W1.h.length
    · rw [cel_ρ hk]; exact s.newc k h1 hk
    · rw [show k = W1.h.length by omega, show (W1.cel p c).ρ W1.h.length = p from if_pos rfl]; exact h
theorem mkCell_ok {ρ : Nat → Addr} {F : Hp} {n : Nat} {ms : List M} {vs : List V} {o : Option HO} (h : o = some (.lst vs)) (r : RMs K ρ F n ms vs) : CellR K ρ F n (mkCell ms) o := by
  unfold mkCell
  cases e : asDs ms with
  | some ds => exact ⟨vs, h, asDs_rel e r⟩
  | none => exact ⟨vs, h, r⟩
theorem p_cell {f : Env → Sm (List M)} (h : PE X a (tN X.K E f)) : PE X a (tM X.K E (eCell f)) := PE.imp h fun σ H Q ⟨W, env, hH, ok, er, p⟩ => by
  subst hH
  refine ⟨W, env, rfl, ok, er, (PostG.bindF (Step.refl W) p).mono fun ms W1 ok1 s1 ⟨s0, p1⟩ q vs h1 h2 h3 h4 rvs => ?_⟩
  refine p1 (W1.cel q (mkCell ms)) rfl (ok1.cel h2 (mkCell_ok h4 rvs) (by rw [h4]; exact fun z => nomatch z) h3) (s0.cel h1) _ ?_
  show RM X.K _ _ _ (.obj W1.h.length) (.ref q)
  simp only [RM]
  exact ⟨by rw [cel_n]; exact Nat.lt_succ_self _, by rw [show (W1.cel q (mkCell ms)).ρ W1.h.length = q from if_pos rfl]⟩
end

/-! ### targets -/
inductive Pat where | nm (i : Nat) | tu (ps : List Pat)
mutual
def Pat.asg : Pat → M → Env → Option Env
  | .nm i, m, env => some (env.set i (some m))
  | .tu ps, m, env => match m with
    | .d (.tuple xs) => Pat.asgs ps (xs.map M.d) env
    | .tup ms => Pat.asgs ps ms env
    | _ => none
def Pat.asgs : List Pat → List M → Env → Option Env
  | [], [], env => some env
  | p :: ps, m :: ms, env => match p.asg m env with
    | some env' => Pat.asgs ps ms env'
    | none => none
  | _, _, _ => none
end
mutual
def Pat.g (K : PySem.W.Frag) : Pat → TG
  | .nm i => gName i
  | .tu ps => gTup K ps.length (Pat.gs K ps)
def Pat.gs (K : PySem.W.Frag) : List Pat → TGs
  | [] => gNil
  | p :: ps => gCons (p.g K) (Pat.gs K ps)
end
mutual
def Pat.slots : Pat → List Nat
  | .nm i => [i]
  | .tu ps => Pat.slotss ps
def Pat.slotss : List Pat → List Nat
  | [] => []
  | p :: ps => p.slots ++ Pat.slotss ps
end
theorem wipe_set {σ : L2.St} {i : Nat} {x : Option V} : ∀ {vs : List Nat}, i ∈ vs → wipe (σ.set i x) vs = wipe σ vs
  | v :: vs, h => by
    unfold wipe
    by_cases hi : i ∈ vs
    · rw [wipe_set hi]
    · have e : i = v := by simpa [hi] using h
      subst e
      have : ∀ (ws : List Nat), wipe (σ.set i x) ws = (wipe σ ws).set i x ∨ wipe (σ.set i x) ws = wipe σ ws := fun ws => by
        induction ws with
        | nil => exact .inl rfl
        | cons w ws ih =>
          unfold wipe
          rcases ih with e | e
          · rw [e]
            by_cases hw : w = i
            · subst hw; right; rw [List.set_set]
            · left; exact List.set_comm _ _ (fun z => hw z.symm)
          · rw [e]; exact .inr rfl
      rcases this vs with e | e
      · rw [e, List.set_set]
      · rw [e]
section
variable {K : PySem.W.Frag} {W : Wd}
mutual
theorem Pat.ok (hok : W.Ok K) : ∀ (p : Pat) (m : M) (env env' : Env) (x : V) (σ : L2.St), p.asg m env = some env' → RV K W m x → ER K W env σ →
    ∃ σ', ER K W env' σ' ∧ (∀ vs, (∀ i ∈ p.slots, i ∈ vs) → wipe σ' vs = wipe σ vs) ∧ ∀ Q : L2.St → Hp → Prop, Q σ' W.H → p.g K x σ W.H Q
  | .nm i, m, env, env', x, σ, e, r, er => by
    simp only [Pat.asg, Option.some.injEq] at e
    subst e
    exact ⟨σ.set i (some x), er.set i r, fun vs h => wipe_set (h i (by simp only [Pat.slots, List.mem_singleton])), fun Q q => by simp only [Pat.g]; exact q⟩
  | .tu ps, m, env, env', x, σ, e, r, er => by
    have fin : ∀ (ms : List M) (a : Addr) (vs : List V), Pat.asgs ps ms env = some env' → x = .ref a → W.F a = some (.tup vs) → RVs K W ms vs →
        ∃ σ', ER K W env' σ' ∧ (∀ vs, (∀ i ∈ (Pat.tu ps).slots, i ∈ vs) → wipe σ' vs = wipe σ vs) ∧ ∀ Q : L2.St → Hp → Prop, Q σ' W.H → (Pat.tu ps).g K x σ W.H Q := fun ms a vs e1 e2 e3 rs => by
      obtain ⟨σ', h1, h2, h3, h4⟩ := Pat.oks hok ps ms env env' vs σ e1 rs er
      refine ⟨σ', h1, fun ws hw => h2 ws (by simpa only [Pat.slots] using hw), fun Q q => ?_⟩
      simp only [Pat.g]
      exact ⟨a, vs, e2, .inl (.inl (hok.sub _ _ e3)), h4, h3 Q q⟩
    cases m with
    | d y =>
      cases y with
      | tuple xs =>
        simp only [Pat.asg] at e
        simp only [RM, RD] at r
        obtain ⟨a, vs, e2, e3, rs⟩ := r
        exact fin _ a vs e e2 e3 (RMs.of_ds rs)
      | _ => simp only [Pat.asg] at e; cases e
    | tup ms =>
      simp only [Pat.asg] at e
      simp only [RM] at r
      obtain ⟨a, vs, e2, e3, rs⟩ := r
      exact fin _ a vs e e2 e3 rs
    | _ => simp only [Pat.asg] at e; cases e
theorem Pat.oks (hok : W.Ok K) : ∀ (ps : List Pat) (ms : List M) (env env' : Env) (xs : List V) (σ : L2.St), Pat.asgs ps ms env = some env' → RVs K W ms xs → ER K W env σ →
    ∃ σ', ER K W env' σ' ∧ (∀ vs, (∀ i ∈ Pat.slotss ps, i ∈ vs) → wipe σ' vs = wipe σ vs) ∧ (∀ Q : L2.St → Hp → Prop, Q σ' W.H → Pat.gs K ps xs σ W.H Q) ∧ xs.length = ps.length
  | [], ms, env, env', xs, σ, e, r, er => by
    cases ms with
    | cons m ms => simp only [Pat.asgs] at e; cases e
    | nil =>
      simp only [Pat.asgs, Option.some.injEq] at e
      subst e
      simp only [RMs] at r
      subst r
      exact ⟨σ, er, fun _ _ => rfl, fun Q q => by simp only [Pat.gs]; exact ⟨rfl, q⟩, rfl⟩
  | p :: ps, ms, env, env', xs, σ, e, r, er => by
    cases ms with
    | nil => simp only [Pat.asgs] at e; cases e
    | cons m ms =>
      simp only [Pat.asgs] at e
      cases e1 : p.asg m env with
      | none => rw [e1] at e; cases e
      | some env1 =>
        rw [e1] at e
        simp only [RMs] at r
        obtain ⟨v, ws, hx, r1, r2⟩ := r
        subst hx
        obtain ⟨σ1, h1, h2, h3⟩ := Pat.ok hok p m env env1 v σ e1 r1 er
        obtain ⟨σ2, g1, g2, g3, g4⟩ := Pat.oks hok ps ms env1 env' ws σ1 e r2 h1
        refine ⟨σ2, g1, fun vs hv => ?_, fun Q q => ?_, by rw [List.length_cons, List.length_cons, g4]⟩
        · simp only [Pat.slotss, List.mem_append] at hv
          rw [g2 vs fun i hi => hv i (.inr hi), h2 vs fun i hi => hv i (.inl hi)]
        · simp only [Pat.gs]
          exact ⟨v, ws, rfl, h3 _ (g3 Q q)⟩
end
end
section
variable {X : Cx} {pos : Pos}
theorem g_nm {i : Nat} {e : Expr} (h : PG X e (gName i)) : PG X e ((Pat.nm i).g X.K) := by simp only [Pat.g]; exact h
theorem gs_nil : PGs X [] (Pat.gs X.K []) := by simp only [Pat.gs]; exact pgs_nil
theorem gs_cons {e : Expr} {es : List Expr} {p : Pat} {ps : List Pat} (h1 : PG X e (p.g X.K)) (h2 : PGs X es (Pat.gs X.K ps))
    (hs : (assignEach (e :: es) X.env).map (·.2) = assign e X.env :: (assignEach es X.env).map (·.2) := by rfl) : PGs X (e :: es) (Pat.gs X.K (p :: ps)) := by simp only [Pat.gs]; exact pgs_cons h1 h2 hs
theorem g_tu {es : List Expr} {k : Nat} {ps : List Pat} (hc : X.calm = true) (h : PGs X es (Pat.gs X.K ps))
    (hn : (assignEach es X.env).length = ps.length := by rfl) (hst : (assignEach es X.env).findIdx? (·.1) = none := by rfl) : PG X (.Tuple es k pos) ((Pat.tu ps).g X.K) := by simp only [Pat.g]; exact pg_tup hc h hn hst
end

/-! ### what is walked -/
inductive SIt where | vals (xs : List M) | cell (k : Nat) | en (s : SIt) | zp (s t : SIt)
def cellMs : Option Cell → Option (List M)
  | some (.lst xs) => some (xs.map M.d)
  | some (.mix ms) => some ms
  | _ => none
def SIt.get : SIt → Nat → Hh → Option (Option M)
  | .vals xs, i, _ => some xs[i]?
  | .cell k, i, h => match cellMs h[k]? with
    | some ms => some ms[i]?
    | none => none
  | .en s, i, h => match s.get i h with
    | some (some m) => some (some (mkTup [.d (.int (i : Int)), m]))
    | o => o
  | .zp s t, i, h => match s.get i h, t.get i h with
    | some (some x), some (some y) => some (some (mkTup [x, y]))
    | some _, some _ => some none
    | _, _ => none
def SIt.cnt : SIt → Hh → Nat
  | .vals xs, _ => xs.length
  | .cell k, h => match cellMs h[k]? with
    | some ms => ms.length
    | none => 0
  | .en s, h => s.cnt h
  | .zp s t, h => min (s.cnt h) (t.cnt h)
def JOk (K : PySem.W.Frag) (W1 : Wd) (it : SIt) (J : It) : Prop := ∀ W2 : Wd, W2.Ok K → Step W1 W2 → ∀ i, (it.get i W2.h = some none → J.stop i W2.H) ∧
  ∀ m, it.get i W2.h = some (some m) → J.go i W2.H ∧ ∀ x H', J.yld i W2.H x H' → ∃ W3 : Wd, W3.H = H' ∧ W3.h = W2.h ∧ W3.Ok K ∧ Step W2 W3 ∧ RV K W3 m x
def tIt (K : PySem.W.Frag) (E : XE) (f : Env → Sm SIt) : TI := fun σ H R => ∃ W env, W.H = H ∧ W.Ok K ∧ ER K W env σ ∧ PostG K E W (f env W.h) fun it W1 => ∀ J, JOk K W1 it J → R J W1.H
theorem PI.imp {X : Cx} {tg e : Expr} {t t' : TI} (h : PI X tg e t) (i : ∀ σ H R, t' σ H R → t σ H R) : PI X tg e t' := ⟨fun pins s σ H R I q => h.run pins s σ H R I (i σ H R q)⟩

/-! ### for -/
def turnF (k : Env → Sm (Fl × Env)) (r : Fl × Env) : Sm (Fl × Env) := match r with
  | (.nx, e) => k e
  | (.ct, e) => k e
  | (.bk, e) => rt (.nx, e)
  | (.rt m, e) => rt (.rt m, e)
def forGo (it : SIt) (p : Pat) (body : SS) : Nat → Nat → Env → Sm (Fl × Env)
  | 0, _, _ => fail
  | f + 1, i, env => fun h => match it.get i h with
    | none => none
    | some none => some (.val (.nx, env) h)
    | some (some m) => match p.asg m env with
      | none => none
      | some env1 => bnd (body env1) (turnF (forGo it p body f (i + 1))) h
def sFor (itf : Env → Sm SIt) (p : Pat) (body : SS) : SS := fun env => bnd (itf env) fun it h => forGo it p body (it.cnt h + 1) 0 env h
section
variable {X : Cx} {E : XE} {pos : Pos}
theorem p_for {tg iter : Expr} {body : List Stmt} {itf : Env → Sm SIt} {p : Pat} {g : SS} (hp : PassesOwn (model X.prog X.w) X.A X.env X.xe) (hc : X.calm = true) (hi : PI X tg iter (tIt X.K E itf)) (hg : PG X tg (p.g X.K)) (hb : PSs X body (tS X.K E g))
    (hs : ∀ x, foldedSetIterable iter X.env x = pure x := by intro _; rfl) : PS X (.For tg iter body [] pos) (tS X.K E (sFor itf p g)) := PS.imp (ps_for hp hc hi hg hb hs) fun D σ H ⟨W, env, hH, ok, er, q⟩ => by
  subst hH
  refine ⟨W, env, rfl, ok, er, (PostG.bind q).mono fun it W1 ok1 s1 q1 J jok => ?_⟩
  refine ⟨fun i m σ H => ∃ W' env', W'.H = H ∧ W'.Ok X.K ∧ Step W1 W' ∧ ER X.K W' env' σ ∧ PostG X.K E W' (forGo it p g m i env' W'.h) (SEnd X.K D), ⟨_, W1, env, rfl, ok1, Step.refl _, er.step s1, q1⟩, ?_⟩
  rintro i m σ H ⟨W', env', rfl, ok', s', er', q'⟩
  obtain ⟨j1, j2⟩ := jok W' ok' s' i
  cases m with
  | zero => exact q'.elim
  | succ f =>
    simp only [forGo] at q'
    cases e1 : it.get i W'.h with
    | none => simp only [e1] at q'; exact q'.elim
    | some o =>
      cases o with
      | none =>
        simp only [e1] at q'
        exact .inl ⟨j1 e1, q' W' rfl ok' (Step.refl _) σ er'⟩
      | some m =>
        simp only [e1] at q'
        obtain ⟨go, yl⟩ := j2 m e1
        cases e2 : p.asg m env' with
        | none => simp only [e2] at q'; exact q'.elim
        | some env1 =>
          simp only [e2] at q'
          refine .inr ⟨go, fun σ' H' => ∃ W'' env'', W''.H = H' ∧ W''.Ok X.K ∧ Step W1 W'' ∧ ER X.K W'' env'' σ' ∧ PostG X.K E W'' (forGo it p g f (i + 1) env'' W''.h) (SEnd X.K D), fun σ' H' hw => ⟨f, Nat.lt_succ_self f, hw⟩, fun x H' y => ?_⟩
          obtain ⟨W3, rfl, eh, ok3, s3, rx⟩ := yl x H' y
          obtain ⟨σ3, er3, _, h3⟩ := Pat.ok ok3 p m env' env1 x σ e2 rx (er'.step s3)
          refine h3 _ ⟨W3, env1, rfl, ok3, er3, ?_⟩
          have q3 : PostG X.K E W3 (bnd (g env1) (turnF (forGo it p g f (i + 1))) W3.h) (SEnd X.K D) := by
            rw [eh]
            revert q'
            generalize bnd (g env1) _ W'.h = o
            intro q'
            cases o with
            | none => exact q'.elim
            | some o =>
              cases o with
              | val a h' => exact fun Wx z1 z2 z3 => q' Wx z1 z2 (s3.trans z3)
              | exc c h' => exact fun Wx z1 z2 z3 => q' Wx z1 z2 (s3.trans z3)
          refine (PostG.bind q3).mono fun r W4 ok4 s4 q4 => ?_
          obtain ⟨fl, env2⟩ := r
          cases fl with
          | nx => exact fun σ' er4 => ⟨W4, env2, rfl, ok4, s'.trans (s3.trans s4), er4, q4⟩
          | ct => exact fun σ' er4 => ⟨W4, env2, rfl, ok4, s'.trans (s3.trans s4), er4, q4⟩
          | bk => exact fun σ' er4 => (PostG.ret (E := E) (Q := SEnd X.K D) ok4 q4) σ' er4
          | rt m => exact fun v rv => (PostG.ret (E := E) (Q := SEnd X.K D) ok4 q4) v rv
end

/-! ### comprehensions -/
def nox {α : Type} (x : Sm α) : Sm α := fun h => match x h with
  | some (.val a h') => some (.val a h')
  | _ => none
theorem nox_ok {α : Type} {K : PySem.W.Frag} {E E' : XE} {W : Wd} {x : Sm α} {h : Hh} {Q : α → Wd → Prop} (p : PostG K E W (nox x h) Q) : PostG K E' W (x h) Q := by
  unfold nox at p
  cases e : x h with
  | none => rw [e] at p; exact p.elim
  | some o =>
    rw [e] at p
    cases o with
    | val a h' => exact p
    | exc c h' => exact p.elim
def wipeE (env : Env) : List Nat → Env
  | [] => env
  | v :: vs => (wipeE env vs).set v none
theorem ER.wipe {K : PySem.W.Frag} {W : Wd} {env : Env} {σ : L2.St} (h : ER K W env σ) : ∀ vs, ER K W (wipeE env vs) (L2.wipe σ vs)
  | [] => h
  | v :: vs => by
    obtain ⟨h1, h2⟩ := ER.wipe h vs
    unfold wipeE L2.wipe
    refine ⟨by rw [List.length_set, List.length_set, h1], fun i m e => ?_⟩
    by_cases hi : i = v
    · subst hi
      have hl := lt_of_get e
      rw [List.length_set] at hl
      rw [List.getElem?_set_self (h := by simpa using hl)] at e
      cases e
    · rw [List.getElem?_set_ne (Ne.symm hi)] at e
      rw [List.getElem?_set_ne (Ne.symm hi)]
      exact h2 i m e
theorem wipe_idem (σ : L2.St) (vs : List Nat) : wipe (wipe σ vs) vs = wipe σ vs := by
  have key : ∀ us : List Nat, (∀ u ∈ us, u ∈ vs) → wipe (wipe σ us) vs = wipe σ vs := fun us => by
    induction us with
    | nil => intro _; rfl
    | cons u us ih =>
      intro h
      rw [show wipe σ (u :: us) = (wipe σ us).set u none from rfl, wipe_set (h u (List.mem_cons_self ..))]
      exact ih fun w hw => h w (List.mem_cons_of_mem _ hw)
  exact key vs fun _ h => h
def compGo (it : SIt) (p : Pat) (tt : Env → Sm Bool) (el : ES) (env : Env) : Nat → Nat → List M → Sm (List M)
  | 0, _, _ => fail
  | f + 1, i, acc => fun h => match it.get i h with
    | none => none
    | some none => some (.val acc h)
    | some (some m) => match p.asg m env with
      | none => none
      | some env1 => bnd (nox (tt env1)) (fun b => if b = true then bnd (nox (el env1)) (fun y => compGo it p tt el env f (i + 1) (acc ++ [y])) else compGo it p tt el env f (i + 1) acc) h
def nComp (itf : Env → Sm SIt) (p : Pat) (tt : Env → Sm Bool) (el : ES) (vs : List Nat) : Env → Sm (List M) := fun env => bnd (itf env) fun it h => if it.cnt h < LIM then compGo it p tt el (wipeE env vs) (it.cnt h + 1) 0 [] h else none
def bYes : Env → Sm Bool := fun _ => rt true
abbrev XE0 : XE := fun _ _ => False
/-- the state with the list under way at D -/
def Wd.at (W : Wd) (p : Addr) (o : HO) : Wd := { W with H := upd W.H p o }
theorem Wd.Ok.at {K : PySem.W.Frag} {W : Wd} (ok : W.Ok K) {p : Addr} (o : HO) (hF : W.F p = none) (hc : ∀ k, k < W.h.length → W.ρ k ≠ p) : (W.at p o).Ok K := by
  refine ⟨fun a x e => ?_, fun k hk => upd_some (ok.al k hk), fun k c e => ?_, ok.out, ok.inj⟩
  · show upd W.H p o a = some x
    rw [upd_ne (fun z => by rw [z] at e; rw [show (W.at p o).F p = W.F p from rfl, hF] at e; cases e)]
    exact ok.sub a x e
  · show CellR K W.ρ W.F W.h.length c (upd W.H p o (W.ρ k))
    rw [upd_ne (hc k (lt_of_get e))]
    exact ok.cell k c e
theorem Step.at {W0 W : Wd} (s : Step W0 W) {p : Addr} {o : HO} (h : W0.H p = none) : Step W0 (W.at p o) := by
  refine ⟨s.F, s.ρ, s.n, fun a x e nc => ?_, fun a e => ?_, s.newc, s.newF⟩
  · show upd W.H p o a = some x
    rw [upd_ne (fun z => by rw [z, h] at e; cases e)]
    exact s.fr a x e nc
  · by_cases ha : a = p
    · rw [ha]; exact h
    · rw [show (W.at p o).H a = W.H a from upd_ne ha] at e
      exact s.dom a e
/-- D stays beside -/
structure Bes (W : Wd) (D : Addr) (vs : List V) : Prop where
  at_ : W.H D = some (.lst vs)
  fr : W.F D = none
  nc : ∀ k, k < W.h.length → W.ρ k ≠ D
theorem Bes.step {W W' : Wd} {D : Addr} {vs : List V} (b : Bes W D vs) (s : Step W W') : Bes W' D vs where
  at_ := s.fr D _ b.at_ fun k hk e => b.nc k hk e.symm
  fr := by
    cases e : W'.F D with
    | none => rfl
    | some o =>
      rcases s.newF D o e with h | h | ⟨k, hk, h⟩
      · rw [b.fr] at h; cases h
      · rw [b.at_] at h; cases h
      · exact absurd h.symm (b.nc k hk)
  nc := fun k hk => by
    by_cases hk' : k < W.h.length
    · rw [s.ρ k hk']; exact b.nc k hk'
    · intro e
      have := s.newc k (Nat.not_lt.mp hk') hk
      rw [e, b.at_] at this
      cases this
section
variable {X : Cx} {pos : Pos}
theorem t_lc {K : PySem.W.Frag} {E E0 : XE} {itf : Env → Sm SIt} {p : Pat} {tt : Env → Sm Bool} {el : ES} {vs : List Nat} (hv : ∀ i ∈ p.slots, i ∈ vs) : ∀ σ H Q, tN K E (nComp itf p tt el vs) σ H Q → tLc (tIt K E itf) (p.g K) (tT K E0 tt) (tM K E0 el) vs σ H Q := fun σ H Q ⟨W, env, hH, ok, er, q⟩ => by
  subst hH
  refine ⟨W, env, rfl, ok, er, (PostG.bind q).mono fun it W1 ok1 s1 q1 J jok D hD => ?_⟩
  by_cases hl : it.cnt W1.h < LIM
  · rw [if_pos hl] at q1
    have er1 := er.step s1
    refine ⟨fun i m H => ∃ (W' : Wd) (acc : List M) (us : List V), W'.H = H ∧ W'.Ok K ∧ Step W1 W' ∧ Bes W' D us ∧ RVs K W' acc us ∧ acc.length ≤ i ∧ i + m = it.cnt W1.h + 1 ∧
      PostG K E W1 (compGo it p tt el (wipeE env vs) m i acc W'.h) fun ms W' => ∀ p vs, W.H p = none → W'.F p = none → (∀ k, k < W'.h.length → W'.ρ k ≠ p) → W'.H p = some (.lst vs) → RVs K W' ms vs → Q (.ref p) W'.H,
      ⟨it.cnt W1.h + 1, W1.at D (.lst []), [], [], rfl, ok1.at _ (ok1.fp hD) (fun k hk => ok1.nec hD hk), (Step.refl W1).at hD, ⟨upd_same, ok1.fp hD, fun k hk => ok1.nec hD hk⟩, by simp only [RMs], Nat.zero_le _, Nat.zero_add _, q1⟩, ?_⟩
    rintro i m H ⟨W', acc, us, rfl, ok', s', bes, ra, hai, him, q'⟩
    obtain ⟨j1, j2⟩ := jok W' ok' s' i
    cases m with
    | zero => exact q'.elim
    | succ f =>
      simp only [compGo] at q'
      cases e1 : it.get i W'.h with
      | none => simp only [e1] at q'; exact q'.elim
      | some o =>
        cases o with
        | none =>
          simp only [e1] at q'
          exact .inl ⟨j1 e1, q' W' rfl ok' s' D us (s1.dom D hD) bes.fr bes.nc bes.at_ ra⟩
        | some m =>
          simp only [e1] at q'
          obtain ⟨go, yl⟩ := j2 m e1
          cases e2 : p.asg m (wipeE env vs) with
          | none => simp only [e2] at q'; exact q'.elim
          | some env1 =>
            simp only [e2] at q'
            refine .inr ⟨go, fun H' => ∃ (W'' : Wd) (acc : List M) (us : List V), W''.H = H' ∧ W''.Ok K ∧ Step W1 W'' ∧ Bes W'' D us ∧ RVs K W'' acc us ∧ acc.length ≤ i + 1 ∧ (i + 1) + f = it.cnt W1.h + 1 ∧
              PostG K E W1 (compGo it p tt el (wipeE env vs) f (i + 1) acc W''.h) fun ms W' => ∀ p vs, W.H p = none → W'.F p = none → (∀ k, k < W'.h.length → W'.ρ k ≠ p) → W'.H p = some (.lst vs) → RVs K W' ms vs → Q (.ref p) W'.H,
              fun H' hw => ⟨f, Nat.lt_succ_self f, hw⟩, fun x H' y => ?_⟩
            obtain ⟨W3, rfl, eh, ok3, s3, rx⟩ := yl x H' y
            obtain ⟨σ3, er3, w3, h3⟩ := Pat.ok ok3 p m (wipeE env vs) env1 x (wipe σ vs) e2 rx (((er1.step s').step s3).wipe vs)
            refine h3 _ ⟨(w3 vs hv).trans (wipe_idem σ vs), W3, env1, rfl, ok3, er3, ?_⟩
            rw [← eh] at q'
            refine (nox_ok (PostG.bindF (s'.trans s3) q')).mono fun b W4 ok4 s4 ⟨s04, q4⟩ => ?_
            cases b with
            | false =>
              rw [if_neg Bool.false_ne_true] at q4 ⊢
              exact ⟨W4, acc, us, rfl, ok4, s04, bes.step (s3.trans s4), RMs.step ra (s3.trans s4), by omega, by omega, q4⟩
            | true =>
              rw [if_pos rfl] at q4 ⊢
              refine ⟨W4, env1, rfl, ok4, er3.step s4, (nox_ok (PostG.bindF s04 q4)).mono fun y W5 ok5 s5 ⟨s05, q5⟩ v rv => ?_⟩
              have b5 := bes.step (s3.trans (s4.trans s5))
              have r5 := RMs.step ra (s3.trans (s4.trans s5))
              refine ⟨us, b5.at_, by rw [RMs.length r5, ← lim_eq]; omega, W5.at D (.lst (us ++ [v])), acc ++ [y], us ++ [v], rfl, ok5.at _ b5.fr b5.nc, s05.at hD, ⟨upd_same, b5.fr, b5.nc⟩, ?_, by rw [List.length_append, List.length_singleton]; omega, by omega, q5⟩
              exact RMs.append r5 (by simp only [RMs]; exact ⟨v, [], rfl, rv, rfl⟩)
  · rw [if_neg hl] at q1
    exact q1.elim
theorem ts_nil {E : XE} : PTs X [] (tT X.K E bYes) := ⟨fun pins s σ H Q I ⟨W, env, hH, ok, er, p⟩ => (pts_nil (X := X)).run pins s σ H Q I (by subst hH; exact PostG.ret ok p)⟩
theorem p_lc {E : XE} {elt tg iter : Expr} {ifs : List Expr} {scope : Scope} {own : List (Str × Nat)} {itf : Env → Sm SIt} {p : Pat} {tt : Env → Sm Bool} {el : ES} (hc : X.calm = true) (hN : X.N.Nodup) (hi : PI X tg iter (tIt X.K E itf)) (ok : BlkOk X.N X.env.scope scope own)
    (hg : ∀ (s : Shared) (H : Hp) (C : Addr) (cl : List (Str × Addr)) (fp : List Addr), PG (X.blk s H scope (compEnvC scope cl C X.env) fp) tg (p.g X.K)) (ht : ∀ (s : Shared) (H : Hp) (C : Addr) (cl : List (Str × Addr)) (fp : List Addr), PTs (X.blk s H scope (compEnvC scope cl C X.env) fp) ifs (tT X.K XE0 tt))
    (he : ∀ (s : Shared) (H : Hp) (C : Addr) (cl : List (Str × Addr)) (fp : List Addr), PE (X.blk s H scope (compEnvC scope cl C X.env) fp) elt (tM X.K XE0 el)) (hv : ∀ i ∈ p.slots, i ∈ own.map (·.2) := by decide) (hs : ∀ x, foldedSetIterable iter X.env x = pure x := by intro _; rfl) :
    PE X (.ListComp elt [⟨tg, iter, ifs, 0⟩] scope pos) (tN X.K E (nComp itf p tt el (own.map (·.2)))) := PE.imp (pe_lc hc hN hi ok hg ht he hs) (t_lc hv)
end
end G

namespace G
open PySem PySem.Spec L2 PySem.Calls
open PyProof.Rows (envOfC)

/-! ### statements -/
def sNil : SS := fun env => rt (.nx, env)
def sSeq (g1 g2 : SS) : SS := fun env => bnd (g1 env) fun r => match r with
  | (.nx, env') => g2 env'
  | x => rt x
def sSet (p : Pat) (f : ES) : SS := fun env => bnd (f env) fun m => match p.asg m env with
  | some env' => rt (.nx, env')
  | none => fail
def sPar (i j : Nat) (fs : Env → Sm (List M)) : SS := fun env => bnd (fs env) fun ms => match ms with
  | [x, y] => rt (.nx, (env.set i (some x)).set j (some y))
  | _ => fail
def sIf (t : Env → Sm Bool) (g1 g2 : SS) : SS := fun env => bnd (t env) fun k => if k = true then g1 env else g2 env
def sRet (f : ES) : SS := fun env => bnd (f env) fun m => rt (.rt m, env)
def sRetN : SS := fun env => rt (.rt (.d .none), env)
def sExp (f : ES) : SS := fun env => bnd (f env) fun _ => rt (.nx, env)
def sNever : SS := fun _ => fail
def sBreak : SS := fun env => rt (.bk, env)
def sCont : SS := fun env => rt (.ct, env)
section
variable {X : Cx} {E : XE} {pos : Pos} {st : Stmt} {rest : List Stmt} {e c : Expr} {g g1 g2 : SS} {f : ES} {p : Pat} {t : Env → Sm Bool} {fs : Env → Sm (List M)}
theorem ss_nil : PSs X [] (tS X.K E sNil) := PSs.imp pss_nil fun D σ H ⟨W, env, hH, ok, er, q⟩ => by
  subst hH
  exact PostG.ret ok q σ er
theorem ss_cons (h1 : PS X st (tS X.K E g1)) (h2 : PSs X rest (tS X.K E g2)) : PSs X (st :: rest) (tS X.K E (sSeq g1 g2)) := PSs.imp (pss_cons h1 h2) fun D σ H ⟨W, env, hH, ok, er, q⟩ => by
  subst hH
  refine ⟨W, env, rfl, ok, er, (PostG.bind q).mono fun r W1 ok1 s1 q1 => ?_⟩
  obtain ⟨fl, env'⟩ := r
  cases fl with
  | nx => exact fun σ' er' => ⟨W1, env', rfl, ok1, er', q1⟩
  | rt m => exact fun v rv => (PostG.ret (E := E) (Q := SEnd X.K D) ok1 q1) v rv
  | bk => exact fun v rv => (PostG.ret (E := E) (Q := SEnd X.K D) ok1 q1) v rv
  | ct => exact fun v rv => (PostG.ret (E := E) (Q := SEnd X.K D) ok1 q1) v rv
theorem ss_one (h1 : PS X st (tS X.K E g1)) : PSs X [st] (tS X.K E g1) := pss_one h1
theorem t_set {K : PySem.W.Frag} : ∀ D σ H, tS K E (sSet p f) D σ H → tAsg (tM K E f) (p.g K) D σ H := fun D σ H ⟨W, env, hH, ok, er, q⟩ => by
  subst hH
  refine ⟨W, env, rfl, ok, er, (PostG.bind q).mono fun m W1 ok1 s1 q1 v rv => ?_⟩
  cases e2 : p.asg m env with
  | none => simp only [e2] at q1; exact q1.elim
  | some env' =>
    simp only [e2] at q1
    obtain ⟨σ', er', _, h⟩ := Pat.ok ok1 p m env env' v σ e2 rv (er.step s1)
    exact h _ ((PostG.ret (E := E) (Q := SEnd K D) ok1 q1) σ' er')
theorem ss_set {i : Nat} {x : Str} {pos' : Pos} (hN : X.N.Nodup) (hi : X.N[i]? = some x) (hx : Loc X.env.scope x) (he : PE X e (tM X.K E f)) (hs : swapsWith e (some (.Name x pos')) pos.line X.env = pure false := by rfl) (hf : X.fn x = true ∨ X.env.scope.names.lookup x = some .local := by first | exact .inl rfl | exact .inr rfl | assumption) :
    PS X (.Assign [.Name x pos'] e pos) (tS X.K E (sSet (.nm i) f)) := PS.imp (ps_set hN hi hx he hs hf) fun D σ H h => by have := t_set D σ H h; simpa only [Pat.g] using this
theorem ss_asg {tg : Expr} (he : PE X e (tM X.K E f)) (hg : PG X tg (p.g X.K)) (hs : swapsWithSole [tg] e pos.line X.env = pure false := by rfl) (hw : swappedStores [tg] e X.env = pure none := by rfl)
    (h1 : (assignEach [tg] X.env).map (·.2) = [assign tg X.env] := by rfl) : PS X (.Assign [tg] e pos) (tS X.K E (sSet p f)) := PS.imp (ps_asg he hg hs hw h1) t_set
theorem ss_par {i j : Nat} {x y : Str} {a b : Expr} {px py pt : Pos} {kt k2 pt2} (hc : X.calm = true) (hN : X.N.Nodup) (hi : X.N[i]? = some x) (hj : X.N[j]? = some y) (hij : i ≠ j)
    (hx : X.env.scope.names.lookup x = some .local) (hy : X.env.scope.names.lookup y = some .local) (ha : PA X [a, b] (tA X.K E fs))
    (hw : swappedStores [.Tuple [.Name x px, .Name y py] kt pt] (.Tuple [a, b] k2 pt2) X.env = pure (some [x, y]))
    (hs : swapsWithSole [.Tuple [.Name x px, .Name y py] kt pt] (.Tuple [a, b] k2 pt2) pos.line X.env = pure false := by rfl) :
    PS X (.Assign [.Tuple [.Name x px, .Name y py] kt pt] (.Tuple [a, b] k2 pt2) pos) (tS X.K E (sPar i j fs)) := PS.imp (ps_par hc hN hi hj hij hx hy ha hw hs) fun D σ H ⟨W, env, hH, ok, er, q⟩ => by
  subst hH
  refine ⟨W, env, rfl, ok, er, (PostG.bind q).mono fun ms W1 ok1 s1 q1 vs rvs => ?_⟩
  match ms, q1, rvs with
  | [], q1, _ => exact q1.elim
  | [_], q1, _ => exact q1.elim
  | [m1, m2], q1, rvs =>
    simp only [RMs] at rvs
    obtain ⟨v, ws, h1, r1, v2, ws2, h2, r2, h3⟩ := rvs
    subst h3; subst h2; subst h1
    exact ⟨v, v2, rfl, (PostG.ret (E := E) (Q := SEnd X.K D) ok1 q1) _ (((er.step s1).set i r1).set j r2)⟩
  | _ :: _ :: _ :: _, q1, _ => exact q1.elim
theorem ss_if {a b : List Stmt} (hc : PT X c (tT X.K E t)) (ha : PSs X a (tS X.K E g1)) (hb : PSs X b (tS X.K E g2)) : PS X (.If c a b pos) (tS X.K E (sIf t g1 g2)) := PS.imp (ps_if hc ha hb) fun D σ H ⟨W, env, hH, ok, er, q⟩ => by
  subst hH
  refine ⟨W, env, rfl, ok, er, (PostG.bind q).mono fun k W1 ok1 s1 q1 => ?_⟩
  cases k with
  | true => exact ⟨W1, env, rfl, ok1, er.step s1, q1⟩
  | false => exact ⟨W1, env, rfl, ok1, er.step s1, q1⟩
theorem ss_ret (he : PE X e (tM X.K E f)) : PS X (.Return (some e) pos) (tS X.K E (sRet f)) := PS.imp (ps_ret he) fun D σ H ⟨W, env, hH, ok, er, q⟩ => by
  subst hH
  exact ⟨W, env, rfl, ok, er, (PostG.bind q).mono fun m W1 ok1 s1 q1 v rv => (PostG.ret (E := E) (Q := SEnd X.K D) ok1 q1) v rv⟩
theorem ss_retN : PS X (.Return none pos) (tS X.K E sRetN) := PS.imp ps_retN fun D σ H ⟨W, env, hH, ok, er, q⟩ => by
  subst hH
  exact (PostG.ret (E := E) (Q := SEnd X.K D) ok q) .non (by simp only [RM, RD])
theorem ss_exp (he : PE X e (tM X.K E f)) (hs : swapsWith e none pos.line X.env = pure false := by rfl) : PS X (.Expr e pos) (tS X.K E (sExp f)) := PS.imp (ps_expr he hs) fun D σ H ⟨W, env, hH, ok, er, q⟩ => by
  subst hH
  exact ⟨W, env, rfl, ok, er, (PostG.bind q).mono fun m W1 ok1 s1 q1 v rv => (PostG.ret (E := E) (Q := SEnd X.K D) ok1 q1) σ (er.step s1)⟩
theorem ss_never : PS X st (tS X.K E sNever) := PS.imp ps_never fun D σ H ⟨W, env, hH, ok, er, q⟩ => q
theorem ss_pass : PS X (.Pass pos) (tS X.K E sNil) := PS.imp ps_pass fun D σ H ⟨W, env, hH, ok, er, q⟩ => by
  subst hH
  exact PostG.ret ok q σ er
theorem ss_break : PS X (.Break pos) (tS X.K E sBreak) := PS.imp ps_break fun D σ H ⟨W, env, hH, ok, er, q⟩ => by
  subst hH
  exact PostG.ret ok q σ er
theorem ss_cont : PS X (.Continue pos) (tS X.K E sCont) := PS.imp ps_continue fun D σ H ⟨W, env, hH, ok, er, q⟩ => by
  subst hH
  exact PostG.ret ok q σ er
/-- name = [..] on one line -/
theorem ss_setLc {i : Nat} {y : Str} {py : Pos} {elt tg iter : Expr} {ifs : List Expr} {scope : Scope} {own : List (Str × Nat)} {spos : Pos} {itf : Env → Sm SIt} {tt : Env → Sm Bool} {el : ES} (lift : (Env → Sm (List M)) → ES)
    (hl : ∀ {f : Env → Sm (List M)} {σ H Q} , tM X.K E (lift f) σ H Q → tN X.K E f σ H Q) (hc : X.calm = true) (hN : X.N.Nodup) (hy : X.N[i]? = some y) (hyl : X.env.scope.names.lookup y = some .local)
    (hsw : swapsWith (.ListComp elt [⟨tg, iter, ifs, 0⟩] scope pos) (some (.Name y py)) spos.line X.env = pure true) (hi : PI X tg iter (tIt X.K E itf)) (ok : BlkOk X.N X.env.scope scope own)
    (hg : ∀ (s : Shared) (H : Hp) (C : Addr) (cl : List (Str × Addr)) (fp : List Addr), PG (X.blk s H scope (compEnvC scope cl C X.env) fp) tg (p.g X.K)) (ht : ∀ (s : Shared) (H : Hp) (C : Addr) (cl : List (Str × Addr)) (fp : List Addr), PTs (X.blk s H scope (compEnvC scope cl C X.env) fp) ifs (tT X.K XE0 tt))
    (he : ∀ (s : Shared) (H : Hp) (C : Addr) (cl : List (Str × Addr)) (fp : List Addr), PE (X.blk s H scope (compEnvC scope cl C X.env) fp) elt (tM X.K XE0 el)) (hv : ∀ i ∈ p.slots, i ∈ own.map (·.2) := by decide) (hs : ∀ x, foldedSetIterable iter X.env x = pure x := by intro _; rfl) :
    PS X (.Assign [.Name y py] (.ListComp elt [⟨tg, iter, ifs, 0⟩] scope pos) spos) (tS X.K E (sSet (.nm i) (lift (nComp itf p tt el (own.map (·.2)))))) :=
  PS.imp (ps_setLc hc hN hy hyl hsw hi ok hg ht he hs) fun D σ H h => by
    have h1 : tAsg (tM X.K E (lift (nComp itf p tt el (own.map (·.2))))) (gName i) D σ H := by have := t_set D σ H h; simpa only [Pat.g] using this
    exact t_lc hv _ _ _ (hl h1)
theorem l_val {f : Env → Sm (List M)} {K : PySem.W.Frag} {σ H Q} (q : tM K E (eVal f) σ H Q) : tN K E f σ H Q := by
  obtain ⟨W, env, hH, ok, er, p⟩ := q
  subst hH
  refine ⟨W, env, rfl, ok, er, (PostG.bindF (Step.refl W) p).mono fun ms W1 ok1 s1 ⟨s0, p1⟩ q vs h1 h2 h3 h4 rvs => ?_⟩
  cases e : asDs ms with
  | none => simp only [e] at p1; exact p1.elim
  | some ds =>
    simp only [e] at p1
    refine p1 (W1.frz q (.lst vs)) rfl (ok1.frz h2 h4 h3) (s0.frz h2 h1) _ ?_
    show RM K W1.ρ (upd W1.F q (.lst vs)) W1.h.length (.d (.list ds)) (.ref q)
    simp only [RM, RD]
    exact ⟨q, vs, rfl, upd_same, asDs_rel e (RMs.frz (o := .lst vs) h2 rvs)⟩
theorem l_cell {f : Env → Sm (List M)} {K : PySem.W.Frag} {σ H Q} (q : tM K E (eCell f) σ H Q) : tN K E f σ H Q := by
  obtain ⟨W, env, hH, ok, er, p⟩ := q
  subst hH
  refine ⟨W, env, rfl, ok, er, (PostG.bindF (Step.refl W) p).mono fun ms W1 ok1 s1 ⟨s0, p1⟩ q vs h1 h2 h3 h4 rvs => ?_⟩
  refine p1 (W1.cel q (mkCell ms)) rfl (ok1.cel h2 (mkCell_ok h4 rvs) (by rw [h4]; exact fun z => nomatch z) h3) (s0.cel h1) _ ?_
  show RM K _ _ _ (.obj W1.h.length) (.ref q)
  simp only [RM]
  exact ⟨by rw [cel_n]; exact Nat.lt_succ_self _, by rw [show (W1.cel q (mkCell ms)).ρ W1.h.length = q from if_pos rfl]⟩
end

/-! ### while -/
def whGo (t : Env → Sm Bool) (g : SS) : Nat → Env → Sm (Fl × Env)
  | 0, _ => fail
  | n + 1, env => bnd (t env) fun k => if k = true then bnd (g env) (turnF (whGo t g n)) else rt (.nx, env)
open Classical in
noncomputable def sWhile (t : Env → Sm Bool) (g : SS) : SS := fun env h => if hh : ∃ n, (whGo t g n env h).isSome = true then whGo t g hh.choose env h else none
theorem bnd_some {α β : Type} {x : Sm α} {k : α → Sm β} {h : Hh} {r : Out β} (e : bnd x k h = some r) : (∃ a h', x h = some (.val a h') ∧ k a h' = some r) ∨ ∃ c h', x h = some (.exc c h') ∧ r = .exc c h' := by
  unfold bnd at e
  cases e1 : x h with
  | none => rw [e1] at e; cases e
  | some o =>
    rw [e1] at e
    cases o with
    | val a h' => exact .inl ⟨a, h', rfl, e⟩
    | exc c h' => exact .inr ⟨c, h', rfl, (Option.some.inj e).symm⟩
theorem whGo_mono {t : Env → Sm Bool} {g : SS} : ∀ {n : Nat} {env : Env} {h : Hh} {r : Out (Fl × Env)}, whGo t g n env h = some r → ∀ {m : Nat}, n ≤ m → whGo t g m env h = some r
  | 0, _, _, _, e, _, _ => by cases e
  | n + 1, env, h, r, e, 0, hm => absurd hm (Nat.not_succ_le_zero _)
  | n + 1, env, h, r, e, m + 1, hm => by
    have hm' : n ≤ m := Nat.le_of_succ_le_succ hm
    simp only [whGo] at e ⊢
    rcases bnd_some e with ⟨k, h1, e1, e2⟩ | ⟨c, h1, e1, e2⟩
    · unfold bnd
      rw [e1]
      cases k with
      | false => exact e2
      | true =>
        simp only [if_true] at e2 ⊢
        rcases bnd_some e2 with ⟨x, h2, e3, e4⟩ | ⟨c, h2, e3, e4⟩
        · rw [e3]
          obtain ⟨fl, env2⟩ := x
          cases fl with
          | nx => exact whGo_mono e4 hm'
          | ct => exact whGo_mono e4 hm'
          | bk => exact e4
          | rt m => exact e4
        · rw [e3, e4]
    · unfold bnd
      rw [e1, e2]
theorem sWhile_of {t : Env → Sm Bool} {g : SS} {n : Nat} {env : Env} {h : Hh} {r : Out (Fl × Env)} (e : whGo t g n env h = some r) : sWhile t g env h = some r := by
  have hh : ∃ n, (whGo t g n env h).isSome = true := ⟨n, by rw [e]; rfl⟩
  unfold sWhile
  rw [dif_pos hh]
  obtain ⟨r', e'⟩ := Option.isSome_iff_exists.mp hh.choose_spec
  have a := whGo_mono e (Nat.le_max_left n hh.choose)
  have b := whGo_mono e' (Nat.le_max_right n hh.choose)
  rw [e', ← a, ← b]
section
variable {X : Cx} {E : XE} {pos : Pos}
theorem ss_while {c : Expr} {body : List Stmt} {t : Env → Sm Bool} {g : SS} (hp : PassesOwn (model X.prog X.w) X.A X.env X.xe) (hc : PT X c (tT X.K E t)) (hb : PSs X body (tS X.K E g)) : PS X (.While c body [] pos) (tS X.K E (sWhile t g)) := PS.imp (ps_while hp hc hb) fun D σ H ⟨W, env, hH, ok, er, q⟩ => by
  subst hH
  have hh : ∃ n, (whGo t g n env W.h).isSome = true := by
    by_cases hh : ∃ n, (whGo t g n env W.h).isSome = true
    · exact hh
    · unfold sWhile at q
      rw [dif_neg hh] at q
      exact q.elim
  unfold sWhile at q
  rw [dif_pos hh] at q
  refine ⟨fun m σ H => ∃ W' env', W'.H = H ∧ W'.Ok X.K ∧ ER X.K W' env' σ ∧ PostG X.K E W' (whGo t g m env' W'.h) (SEnd X.K D), ⟨_, W, env, rfl, ok, er, q⟩, ?_⟩
  rintro m σ H ⟨W', env', rfl, ok', er', q'⟩
  cases m with
  | zero => exact q'.elim
  | succ n =>
    simp only [whGo] at q'
    refine ⟨W', env', rfl, ok', er', (PostG.bind q').mono fun k W1 ok1 s1 q1 => ?_⟩
    cases k with
    | false =>
      rw [if_neg Bool.false_ne_true] at q1 ⊢
      exact (PostG.ret (E := E) (Q := SEnd X.K D) ok1 q1) σ (er'.step s1)
    | true =>
      rw [if_pos rfl] at q1 ⊢
      refine ⟨fun σ' H' => ∃ W'' env'', W''.H = H' ∧ W''.Ok X.K ∧ ER X.K W'' env'' σ' ∧ PostG X.K E W'' (whGo t g n env'' W''.h) (SEnd X.K D), fun σ' H' hw => ⟨n, Nat.lt_succ_self n, hw⟩, W1, env', rfl, ok1, er'.step s1, (PostG.bind q1).mono fun r W2 ok2 s2 q2 => ?_⟩
      obtain ⟨fl, env2⟩ := r
      cases fl with
      | nx => exact fun σ' er4 => ⟨W2, env2, rfl, ok2, er4, q2⟩
      | ct => exact fun σ' er4 => ⟨W2, env2, rfl, ok2, er4, q2⟩
      | bk => exact fun σ' er4 => (PostG.ret (E := E) (Q := SEnd X.K D) ok2 q2) σ' er4
      | rt m => exact fun v rv => (PostG.ret (E := E) (Q := SEnd X.K D) ok2 q2) v rv
end

/-! ### defs -/
abbrev Fn := List M → Sm M
structure FnG (P : Program) (w : World) (K : PySem.W.Frag) (mg : Str → Option Value) (base : Heap) (CX : CXT) (k : Nat) (f : Addr) (fd : FuncData) (ps : List Str) (sp : Sp) : Prop where
  len : ∀ vs H Q E, sp vs H Q E → vs.length = ps.length
  run : ∀ (A : Around) (outer : List PySem.Env) (s : Shared) (H : Hp) (args : Args) (us : List Value) (vs : List V) (Q : VK) (E : XK), Room k A → A.guards = some [] → Env0 P w K mg base A outer s H → BindsTo s fd args (ps.zip us) → Vals vs us → sp vs H Q E →
    codeAny (model P w) A (.call (.ref f) args) (CR CX outer P w H s Q E) s
section
variable {X : Cx} {CX : CXT} {k : Nat} {f C : Addr} {fd : FuncData} {ps : List Str} {sp : Sp} {E : XK} {x m : Str} {p pos apos : Pos} {e o : Expr} {es : List Expr} {ta : TE} {t : TA}
theorem run_fnG {pins : List (Addr × Obj)} {σ : L2.St} {H : Hp} {s : Shared} {Q : VK} {us : List Value} {vs : List V} (F : FnG X.prog X.w X.K X.mg X.base CX k f fd ps sp) (hr : Room k X.A) (hg : X.A.guards = some []) (hb : Binds X.K fd ps []) (hx : Passes CX X E)
    (I : Inv X pins σ H s) (r : Vals vs us) (h : sp vs H Q E) : wpAny (model X.prog X.w) X.A (call (.ref f) us) (EP X pins σ Q) X.xe s := by
  have hl : (us ++ []).length = ps.length := by rw [List.append_nil, ← r.length]; exact F.len _ _ _ _ h
  have hb' := hb s us I.kIn hl
  rw [List.append_nil] at hb'
  refine wpAny_call (codeAny_mono (F.run X.A X.stack s H ⟨us, []⟩ us vs Q E hr hg I.env0 hb' r h) fun r s' hq => ?_)
  cases r with
  | error e => exact hx pins σ H s e s' I hq
  | ok fl =>
    cases fl with
    | ret u => exact I.after hq
    | next => exact False.elim hq
    | brk => exact False.elim hq
    | cont => exact False.elim hq
theorem pe_callG (F : FnG X.prog X.w X.K X.mg X.base CX k f fd ps sp) (hr : Room k X.A) (hgd : X.A.guards = some []) (hg : Gl X x) (hm : X.mg x = some (.ref f)) (hk : PySem.W.keepIn X.K (.ref f) = true) (hb : Binds X.K fd ps []) (hx : Passes CX X E)
    (ha : PA X (e :: es) t) (hdb : (x == ("__debug__" : Str)) = false := by decide) (he : starEach (e :: es) X.env = (false, eval e X.env) :: starEach es X.env := by rfl) (hpl : (backTo pos (starEach es X.env)).any (·.1) = false := by rfl) :
    PE X (.Call (.Name x p) (e :: es) [] pos) (tCall sp [] E t) := by
  refine ⟨fun pins s σ H Q I h => ?_⟩
  refine wpAny_Call_Name_kw (ld_glob I hg hm ?_ hdb)
  refine PySem.W.callWith_K (h₀ := X.base) I.ok.mod.kin hk (thn (ha.run pos pins s σ H _ I h) fun us s1 ⟨vs, H1, I1, r, q⟩ => ⟨I1.kIn, ?_⟩) he hpl
  exact run_fnG F hr hgd hb hx I1 r (by simpa using q)
end
theorem fnG_of {CX : CXT} {P : Program} {w : World} {K : PySem.W.Frag} {mg : Str → Option Value} {base : Heap} {k : Nat} {f : Addr} {name qual : Str} {params : Arguments} {body : List Stmt} {scope : Scope} {dV kV doc pm cdv ct oc : Value} {an od : Option Addr}
    {osl : Array (Option Value)} {N ps : List Str} {sp : Sp} (lk : K.lookup f = some ⟨oc, od, .func (PySem.W.fnOf name qual params body scope dV kV doc pm an cdv ct), osl⟩) (hcd : PySem.W.codeIn K cdv qual = true) (S : FnScope N ps scope)
    (len : ∀ vs H Q E, sp vs H Q E → vs.length = ps.length)
    (hbody : ∀ (A : Around) (outer : List PySem.Env) (s : Shared) (H : Hp) (vs : List V) (Q : VK) (E : XK), Room k (A.deeper (envOfC qual scope s.heap.objs.size f cdv)) → (A.deeper (envOfC qual scope s.heap.objs.size f cdv)).guards = some [] → sp vs H Q E →
      ∃ t, PSs (cxOf CX P w K mg base N qual scope f cdv A outer s H E) body t ∧ t { nx := fun _ H' => Q .non H', rt := Q } (start N vs) H) :
    FnG P w K mg base CX (k + 1) f (PySem.W.fnOf name qual params body scope dV kV doc pm an cdv ct) ps sp := by
  refine ⟨len, fun A outer s H args us vs Q E hr hgd e0 hb r hsp => ?_⟩
  have hl := len _ _ _ _ hsp
  have KX : K.In s.heap := e0.mod.kin.keeps fun b o e => (e0.bs b o e).1
  have lim : s.heap.NoLimit := e0.mod.nolimit.keeps fun b o e => (e0.bs b o e).1
  have hkind : ∀ y ∈ ps.zip us, scope.names.lookup y.1 = some .local ∨ (scope.names.lookup y.1 = some .cell ∧ ((cellsFrom (s.heap.objs.size + 1) scope.names []).lookup y.1).isSome = true) := fun ⟨n, v⟩ hy => by
    rcases S.par n (List.of_mem_zip hy).1 with q | q
    · exact .inl q
    · exact .inr ⟨q, PySem.W.cellsFrom_some _ _ _ (.inl q)⟩
  refine codeAny_call_function hr.depth (KX _ _ lk) rfl S.co S.gen rfl (PySem.W.codeRec_of KX hcd) (hb _ _ _ _ ?_)
  refine PySem.wpAny_newFunctionEnv_cells S.kind hkind fun env he s1 x => ?_
  subst he
  refine ⟨lim.keeps x.toInCall.keep, codeAny_func ?_⟩
  obtain ⟨t, ht, hq⟩ := hbody A outer s H vs Q E (hr.deeper _) hgd hsp
  have I : Inv (cxOf CX P w K mg base N qual scope f cdv A outer s H E) [] (start N vs) H s1 := inv_start S hr.hd e0 hl r x
  refine wpAny_mono (ht.run [] s1 (start N vs) H _ I hq) (fun fl s' hs => ?_) fun e s' hs => hs
  have fin : ∀ {σ' : L2.St} {H' : Hp} {v : V} {u : Value}, Inv (cxOf CX P w K mg base N qual scope f cdv A outer s H E) [] σ' H' s' → RelV v u → Q v H' → CE outer P w H s Q u s' :=
    fun {σ' H' v u} J rv q => ⟨v, H', J.os, J.bare, J.base, J.hok, rv, q⟩
  cases fl with
  | ret u =>
    obtain ⟨v, σ', H', J, rv, q⟩ := hs
    exact fin J rv q
  | next =>
    obtain ⟨σ', H', J, q⟩ := hs
    exact fin (v := V.non) (u := Value.none) J rfl q
  | brk =>
    obtain ⟨_, _, _, q⟩ := hs
    exact False.elim q
  | cont =>
    obtain ⟨_, _, _, q⟩ := hs
    exact False.elim q

/-- the promise: what the def does is what f does; no exception leaves -/
def sp0 (K : PySem.W.Frag) (n : Nat) (f : Fn) : Sp := fun vs H Q _ => ∃ W ms, W.H = H ∧ W.Ok K ∧ RVs K W ms vs ∧ ms.length = n ∧ PostG K XE0 W (f ms W.h) (QV K Q)
/-- a def that can be called: where it stands, what it promises -/
structure Cal (P : Program) (w : World) (K : PySem.W.Frag) (mg : Str → Option Value) (base : Heap) (k : Nat) (x : Str) (ps : List Str) (f : Fn) : Prop where
  ex : ∃ (a : Addr) (fd : FuncData), mg x = some (.ref a) ∧ PySem.W.keepIn K (.ref a) = true ∧ Binds K fd ps [] ∧ FnG P w K mg base CX0 k a fd ps (sp0 K ps.length f)
def startE (n : Nat) (ms : List M) : Env := ms.map some ++ List.replicate (n - ms.length) none
/-- a def by its body: n slots -/
def mkFn (n : Nat) (g : SS) : Fn := fun ms => bnd (g (startE n ms)) fun r => match r with
  | (.rt m, _) => rt m
  | (.nx, _) => rt (.d .none)
  | _ => fail
def Cell.flat : Cell → Bool
  | .mix _ => false
  | _ => true
mutual
def M.low (n : Nat) : M → Bool
  | .d _ => true
  | .scr _ => true
  | .ad _ => true
  | .obj k => decide (k < n)
  | .tup ms => M.lows n ms
def M.lows (n : Nat) : List M → Bool
  | [] => true
  | m :: ms => m.low n && M.lows n ms
end
def Cell.low (n : Nat) : Cell → Bool
  | .mix ms => M.lows n ms
  | _ => true
def mkFnS (e n : Nat) (g : SS) : Fn := fun ms h => match mkFn n g ms h with
  | some (.val m h') => if h.length + e ≤ h'.length ∧ m.low (h.length + e) = true ∧ (h'.take (h.length + e)).all (Cell.low (h.length + e)) = true then some (.val m (h'.take (h.length + e))) else none
  | o => o
theorem ER.begin {K : PySem.W.Frag} {W : Wd} {ms : List M} {vs : List V} (N : List Str) (r : RVs K W ms vs) : ER K W (startE N.length ms) (L2.start N vs) := by
  have hl := RMs.length r
  refine ⟨by unfold startE L2.start; rw [List.length_append, List.length_append, List.length_map, List.length_map, List.length_replicate, List.length_replicate, hl], fun i m e => ?_⟩
  unfold startE at e
  unfold L2.start
  by_cases hi : i < ms.length
  · rw [List.getElem?_append_left (by simpa using hi), List.getElem?_map] at e
    rw [List.getElem?_append_left (by rw [List.length_map, hl]; exact hi), List.getElem?_map]
    cases e1 : ms[i]? with
    | none => rw [e1] at e; cases e
    | some m' =>
      rw [e1] at e
      cases e
      obtain ⟨v, h1, h2⟩ := RMs.get' r e1
      exact ⟨v, by rw [h1]; rfl, h2⟩
  · rw [List.getElem?_append_right (by simpa using hi), List.getElem?_replicate] at e
    split at e <;> cases e
theorem start_ends {K : PySem.W.Frag} {W : Wd} {g : SS} {N : List Str} {ms : List M} {vs : List V} {Q : VK} (ok : W.Ok K) (r : RVs K W ms vs) (p : PostG K XE0 W (mkFn N.length g ms W.h) (QV K Q)) : tS K XE0 g { nx := fun _ H' => Q .non H', rt := Q } (start N vs) W.H := by
  refine ⟨W, startE N.length ms, rfl, ok, ER.begin N r, (PostG.bind p).mono fun x W1 ok1 s1 q1 => ?_⟩
  obtain ⟨fl, env'⟩ := x
  cases fl with
  | nx => exact fun σ' _ => (PostG.ret (E := XE0) (Q := QV K Q) ok1 q1) .non (by simp only [RM, RD])
  | rt m => exact fun v rv => (PostG.ret (E := XE0) (Q := QV K Q) ok1 q1) v rv
  | bk => exact q1.elim
  | ct => exact q1.elim
mutual
theorem RM.low {K : PySem.W.Frag} {ρ : Nat → Addr} {F : Hp} {n n' : Nat} : ∀ (m : M) {v : V}, RM K ρ F n m v → m.low n' = true → RM K ρ F n' m v
  | .d x, v, h, l => by simpa only [RM] using h
  | .scr ns, v, h, l => by simpa only [RM] using h
  | .ad a, v, h, l => by simpa only [RM] using h
  | .obj k, v, h, l => by simp only [RM] at h ⊢; exact ⟨by simpa only [M.low, decide_eq_true_eq] using l, h.2⟩
  | .tup ms, v, h, l => by
    simp only [RM] at h ⊢
    obtain ⟨a, vs, h1, h2, h3⟩ := h
    exact ⟨a, vs, h1, h2, RMs.low ms h3 (by simpa only [M.low] using l)⟩
theorem RMs.low {K : PySem.W.Frag} {ρ : Nat → Addr} {F : Hp} {n n' : Nat} : ∀ (ms : List M) {vs : List V}, RMs K ρ F n ms vs → M.lows n' ms = true → RMs K ρ F n' ms vs
  | [], vs, h, l => by simpa only [RMs] using h
  | m :: ms, vs, h, l => by
    simp only [RMs] at h ⊢
    simp only [M.lows, Bool.and_eq_true] at l
    obtain ⟨v, ws, h1, h2, h3⟩ := h
    exact ⟨v, ws, h1, RM.low m h2 l.1, RMs.low ms h3 l.2⟩
end
theorem CellR.low {K : PySem.W.Frag} {ρ : Nat → Addr} {F : Hp} {n n' : Nat} {c : Cell} {o : Option HO} (h : CellR K ρ F n c o) (l : c.low n' = true) : CellR K ρ F n' c o := by
  cases c with
  | dead => trivial
  | lst xs => exact h
  | mix ms =>
    obtain ⟨vs, h1, h2⟩ := h
    exact ⟨vs, h1, RMs.low ms h2 l⟩
theorem take_get {α : Type} {xs : List α} {n k : Nat} {c : α} (e : (xs.take n)[k]? = some c) : xs[k]? = some c ∧ k < n := by
  rw [List.getElem?_take] at e
  split at e
  · exact ⟨e, by assumption⟩
  · cases e
theorem cut_ok {K : PySem.W.Frag} {W W1 : Wd} {e : Nat} (ok : W1.Ok K) (s : Step W W1) (hl : W.h.length + e ≤ W1.h.length) (hf : (W1.h.take (W.h.length + e)).all (Cell.low (W.h.length + e)) = true) :
    ({ W1 with h := W1.h.take (W.h.length + e) } : Wd).Ok K ∧ Step W { W1 with h := W1.h.take (W.h.length + e) } := by
  have hlen : (W1.h.take (W.h.length + e)).length = W.h.length + e := by rw [List.length_take]; omega
  refine ⟨⟨ok.sub, fun k hk => ok.al k ?_, fun k c ec => ?_, fun k c ec hd => ok.out k c (take_get ec).1 hd, fun j k c1 c2 e1 e2 d1 d2 z => ok.inj j k c1 c2 (take_get e1).1 (take_get e2).1 d1 d2 z⟩,
    ⟨s.F, s.ρ, by show W.h.length ≤ (W1.h.take _).length; rw [hlen]; omega, s.fr, s.dom, fun k h1 h2 => s.newc k h1 ?_, s.newF⟩⟩
  · have hk' : k < (W1.h.take (W.h.length + e)).length := hk
    rw [hlen] at hk'; omega
  · show CellR K W1.ρ W1.F (W1.h.take (W.h.length + e)).length c _
    rw [hlen]
    exact (ok.cell k c (take_get ec).1).low (List.all_eq_true.mp hf c (List.mem_of_getElem? ec))
  · have hk' : k < (W1.h.take (W.h.length + e)).length := h2
    rw [hlen] at hk'; omega
theorem cut_post {K : PySem.W.Frag} {W : Wd} {e n : Nat} {g : SS} {ms : List M} {Q : VK} (p : PostG K XE0 W (mkFnS e n g ms W.h) (QV K Q)) : PostG K XE0 W (mkFn n g ms W.h) (QV K Q) := by
  unfold mkFnS at p
  cases e1 : mkFn n g ms W.h with
  | none => rw [e1] at p; exact p
  | some o =>
    rw [e1] at p
    cases o with
    | exc c h' => exact p
    | val m h' =>
      simp only at p
      split at p
      · rename_i hc
        obtain ⟨c1, c2, c3⟩ := hc
        intro W1 eh ok1 s1 v rv
        subst eh
        obtain ⟨ok2, s2⟩ := cut_ok ok1 s1 c1 c3
        refine p { W1 with h := W1.h.take (W.h.length + e) } rfl ok2 s2 v ?_
        have hlen : (W1.h.take (W.h.length + e)).length = W.h.length + e := by rw [List.length_take]; omega
        show RM K W1.ρ W1.F (W1.h.take (W.h.length + e)).length m v
        rw [hlen]
        exact RM.low m rv c2
      · exact p.elim
section
variable {P : Program} {w : World} {K : PySem.W.Frag} {mg : Str → Option Value} {base : Heap}
/-- THE RULE for a def: its body by its rules -/
theorem fng_of {x qual : Str} {st : Stmt} {f : Addr} {fd : FuncData} {N ps : List Str} {k : Nat} {g : SS} (F : Fun K x qual st f fd) (S : FnScope N ps (defScope st))
    (hbody : ∀ (cdv : Value) (A : Around) (outer : List PySem.Env) (s : Shared) (H : Hp) (E : XK), Room k (A.deeper (envOfC qual (defScope st) s.heap.objs.size f cdv)) → (A.deeper (envOfC qual (defScope st) s.heap.objs.size f cdv)).guards = some [] →
      PSs (cxOf CX0 P w K mg base N qual (defScope st) f cdv A outer s H E).nox (defBody st) (tS K XE0 g)) : FnG P w K mg base CX0 (k + 1) f fd ps (sp0 K ps.length (mkFn N.length g)) := by
  obtain ⟨oc, od, kV, doc, pm, an, cdv, ct, osl, rfl, lk, hcd⟩ := F.ex
  refine fnG_of lk hcd S (fun vs H Q E ⟨W, ms, _, _, r, hl, _⟩ => by rw [RMs.length r, hl]) fun A outer s H vs Q E hr hgd ⟨W, ms, hH, ok, r, hl, p⟩ => ?_
  subst hH
  exact ⟨tS K XE0 g, (hbody cdv A outer s W.H E hr hgd).nox, start_ends ok r p⟩
theorem cal_of {x qual : Str} {st : Stmt} {f : Addr} {fd : FuncData} {N ps : List Str} {k : Nat} {g : SS} (F : Fun K x qual st f fd) (hm : mg x = some (.ref f)) (S : FnScope N ps (defScope st)) (hb : Binds K fd ps [])
    (hbody : ∀ (cdv : Value) (A : Around) (outer : List PySem.Env) (s : Shared) (H : Hp) (E : XK), Room k (A.deeper (envOfC qual (defScope st) s.heap.objs.size f cdv)) → (A.deeper (envOfC qual (defScope st) s.heap.objs.size f cdv)).guards = some [] →
      PSs (cxOf CX0 P w K mg base N qual (defScope st) f cdv A outer s H E).nox (defBody st) (tS K XE0 g)) : Cal P w K mg base (k + 1) x ps (mkFn N.length g) :=
  ⟨f, fd, hm, F.kp, hb, fng_of F S hbody⟩
theorem Cal.scoped {x : Str} {ps : List Str} {k n e : Nat} {g : SS} (C : Cal P w K mg base k x ps (mkFn n g)) : Cal P w K mg base k x ps (mkFnS e n g) := by
  obtain ⟨a, fd, h1, h2, h3, h4⟩ := C.ex
  refine ⟨a, fd, h1, h2, h3, ?_⟩
  have imp : ∀ vs H Q E, sp0 K ps.length (mkFnS e n g) vs H Q E → sp0 K ps.length (mkFn n g) vs H Q E := fun vs H Q E ⟨W, ms, hH, ok, r, hl, p⟩ => ⟨W, ms, hH, ok, r, hl, cut_post p⟩
  exact ⟨fun vs H Q E q => h4.len vs H Q E (imp _ _ _ _ q), fun A outer s H args us vs Q E hr hg he hb hv hs => h4.run A outer s H args us vs Q E hr hg he hb hv (imp _ _ _ _ hs)⟩
theorem Cal.mono {x : Str} {ps : List Str} {j k : Nat} {f : Fn} (C : Cal P w K mg base j x ps f) (h : j ≤ k) : Cal P w K mg base k x ps f := by
  obtain ⟨a, fd, h1, h2, h3, h4⟩ := C.ex
  exact ⟨a, fd, h1, h2, h3, h4.len, fun A outer s H args us vs Q E hr => h4.run A outer s H args us vs Q E (hr.mono h)⟩
/-- another word for what it does -/
theorem Cal.as {x : Str} {ps : List Str} {k : Nat} {f f' : Fn} (C : Cal P w K mg base k x ps f) (h : ∀ ms h r, ms.length = ps.length → f' ms h = some r → f ms h = some r) : Cal P w K mg base k x ps f' := by
  obtain ⟨a, fd, h1, h2, h3, h4⟩ := C.ex
  refine ⟨a, fd, h1, h2, h3, ?_⟩
  have imp : ∀ vs H Q E, sp0 K ps.length f' vs H Q E → sp0 K ps.length f vs H Q E := fun vs H Q E ⟨W, ms, hH, ok, r, hl, p⟩ => ⟨W, ms, hH, ok, r, hl, by
    cases e : f' ms W.h with
    | none => rw [e] at p; exact p.elim
    | some o => rw [h ms W.h o hl e]; rw [e] at p; exact p⟩
  exact ⟨fun vs H Q E q => h4.len vs H Q E (imp _ _ _ _ q), fun A outer s H args us vs Q E hr hg he hb hv hs => h4.run A outer s H args us vs Q E hr hg he hb hv (imp _ _ _ _ hs)⟩
end
def eCall (n : Nat) (f : Fn) (fs : Env → Sm (List M)) : ES := fun env => bnd (fs env) fun ms => if ms.length = n then nox (f ms) else fail
section
variable {X : Cx} {E : XE} {pos p : Pos} {e : Expr} {es : List Expr} {fs : Env → Sm (List M)}
theorem p_call {k k' : Nat} {x : Str} {ps : List Str} {f : Fn} (C : Cal X.prog X.w X.K X.mg X.base k' x ps f) (hr : Room k X.A) (hgd : X.A.guards = some []) (hk : k' ≤ k) (hg : Gl X x) (ha : PA X (e :: es) (tA X.K E fs))
    (hdb : (x == ("__debug__" : Str)) = false := by decide) (he : starEach (e :: es) X.env = (false, eval e X.env) :: starEach es X.env := by rfl) (hpl : (backTo pos (starEach es X.env)).any (·.1) = false := by rfl) :
    PE X (.Call (.Name x p) (e :: es) [] pos) (tM X.K E (eCall ps.length f fs)) := by
  obtain ⟨a, fd, h1, h2, h3, h4⟩ := C.ex
  refine PE.imp (pe_callG h4 (hr.mono hk) hgd hg h1 h2 h3 (pass0 (X := X)) ha hdb he hpl) fun σ H Q ⟨W, env, hH, ok, er, q⟩ => ?_
  subst hH
  refine ⟨W, env, rfl, ok, er, (PostG.bind q).mono fun ms W1 ok1 s1 q1 vs rvs => ?_⟩
  by_cases hl : ms.length = ps.length
  · rw [if_pos hl] at q1
    exact ⟨W1, ms, rfl, ok1, by rw [List.append_nil]; exact rvs, hl, nox_ok q1⟩
  · rw [if_neg hl] at q1
    exact q1.elim
end
end G

namespace G
open PySem PySem.Spec L2 PySem.Calls

/-! ### what a value is, read in the state -/
def lstM (h : Hh) : M → Option (List M)
  | .d (.list xs) => some (xs.map M.d)
  | .obj k => cellMs h[k]?
  | _ => none
def tupM : M → Option (List M)
  | .d (.tuple xs) => some (xs.map M.d)
  | .tup ms => some ms
  | _ => none
section
variable {K : PySem.W.Frag} {W : Wd}
theorem lstM_ok (ok : W.Ok K) {m : M} {v : V} {ms : List M} (r : RV K W m v) (e : lstM W.h m = some ms) : ∃ a vs, v = .ref a ∧ W.H a = some (.lst vs) ∧ RVs K W ms vs := by
  cases m with
  | d x =>
    cases x with
    | list xs =>
      simp only [lstM, Option.some.injEq] at e
      subst e
      simp only [RM, RD] at r
      obtain ⟨a, vs, h1, h2, h3⟩ := r
      exact ⟨a, vs, h1, ok.sub _ _ h2, RMs.of_ds h3⟩
    | _ => simp only [lstM] at e; cases e
  | obj k =>
    simp only [lstM] at e
    simp only [RM] at r
    cases ec : W.h[k]? with
    | none => rw [ec] at e; cases e
    | some c =>
      rw [ec] at e
      have hc := ok.cell k c ec
      cases c with
      | dead => cases e
      | lst xs =>
        simp only [cellMs, Option.some.injEq] at e
        subst e
        obtain ⟨vs, h1, h2⟩ := hc
        exact ⟨_, vs, r.2, h1, RMs.of_ds h2⟩
      | mix xs =>
        simp only [cellMs, Option.some.injEq] at e
        subst e
        obtain ⟨vs, h1, h2⟩ := hc
        exact ⟨_, vs, r.2, h1, h2⟩
  | _ => simp only [lstM] at e; cases e
theorem tupM_ok (ok : W.Ok K) {m : M} {v : V} {ms : List M} (r : RV K W m v) (e : tupM m = some ms) : ∃ a vs, v = .ref a ∧ W.F a = some (.tup vs) ∧ RVs K W ms vs := by
  cases m with
  | d x =>
    cases x with
    | tuple xs =>
      simp only [tupM, Option.some.injEq] at e
      subst e
      simp only [RM, RD] at r
      obtain ⟨a, vs, h1, h2, h3⟩ := r
      exact ⟨a, vs, h1, h2, RMs.of_ds h3⟩
    | _ => simp only [tupM] at e; cases e
  | tup xs =>
    simp only [tupM, Option.some.injEq] at e
    subst e
    simp only [RM] at r
    exact r
  | _ => simp only [tupM] at e; cases e
end
mutual
/-- data that stand at v; dicts of ints too -/
inductive Dq (K : PySem.W.Frag) (H : Hp) : V → PyData → Prop
  | non : Dq K H .non .none
  | bl (b : Bool) : Dq K H (.bl b) (.bool b)
  | int (i : Int) : Dq K H (.int i) (.int i)
  | str (x : Str) : Dq K H (.str x) (.str x)
  | lst {a : Addr} {xs : List V} {ds : List PyData} : SqL K H a xs → DqAll K H xs ds → Dq K H (.ref a) (.list ds)
  | tup {a : Addr} {xs : List V} {ds : List PyData} : SqT K H a xs → DqAll K H xs ds → Dq K H (.ref a) (.tuple ds)
  | dct {a : Addr} {ps : List (Key × V)} {kvs : List (PyData × PyData)} : H a = some (.dK ps) → DqK K H ps kvs → Dq K H (.ref a) (.dict kvs)
inductive DqAll (K : PySem.W.Frag) (H : Hp) : List V → List PyData → Prop
  | nil : DqAll K H [] []
  | cons {v : V} {vs : List V} {d : PyData} {ds : List PyData} : Dq K H v d → DqAll K H vs ds → DqAll K H (v :: vs) (d :: ds)
inductive DqK (K : PySem.W.Frag) (H : Hp) : List (Key × V) → List (PyData × PyData) → Prop
  | nil : DqK K H [] []
  | cons {i : Int} {v : V} {ps : List (Key × V)} {d : PyData} {kvs : List (PyData × PyData)} : Dq K H v d → DqK K H ps kvs → DqK K H ((.inl i, v) :: ps) ((.int i, d) :: kvs)
end
mutual
theorem Dq.dp {K : PySem.W.Frag} {H : Hp} : ∀ (d : PyData) (v : V), d.hasDict = false → Dq K H v d → Dp K H v d
  | .none, v, n, h => by cases h; exact .non
  | .bool b, v, n, h => by cases h; exact .bl b
  | .int i, v, n, h => by cases h; exact .int i
  | .str s, v, n, h => by cases h; exact .str s
  | .list ds, v, n, h => by
    cases h with
    | lst h1 h2 => exact .lst h1 (DqAll.dp ds _ (by simpa only [PyData.hasDict] using n) h2)
  | .tuple ds, v, n, h => by
    cases h with
    | tup h1 h2 => exact .tup h1 (DqAll.dp ds _ (by simpa only [PyData.hasDict] using n) h2)
  | .dict _, v, n, h => by simp only [PyData.hasDict] at n; cases n
theorem DqAll.dp {K : PySem.W.Frag} {H : Hp} : ∀ (ds : List PyData) (vs : List V), PyData.hasDictAll ds = false → DqAll K H vs ds → DpAll K H vs ds
  | [], vs, n, h => by cases h; exact .nil
  | d :: ds, vs, n, h => by
    simp only [PyData.hasDictAll, Bool.or_eq_false_iff] at n
    cases h with
    | cons h1 h2 => exact .cons (Dq.dp d _ n.1 h1) (DqAll.dp ds _ n.2 h2)
end
mutual
theorem RD.dq {K : PySem.W.Frag} {F H : Hp} (e : Same F H) : ∀ (d : PyData) (v : V), RD F d v → Dq K H v d
  | .none, v, h => by simp only [RD] at h; subst h; exact .non
  | .bool b, v, h => by simp only [RD] at h; subst h; exact .bl b
  | .int i, v, h => by simp only [RD] at h; subst h; exact .int i
  | .str s, v, h => by simp only [RD] at h; subst h; exact .str s
  | .list ds, v, h => by
    simp only [RD] at h
    obtain ⟨a, vs, h1, h2, h3⟩ := h
    subst h1
    exact .lst (SqL.of (e _ _ h2)) (RDs.dq e ds vs h3)
  | .tuple ds, v, h => by
    simp only [RD] at h
    obtain ⟨a, vs, h1, h2, h3⟩ := h
    subst h1
    exact .tup (SqT.of (e _ _ h2)) (RDs.dq e ds vs h3)
  | .dict kvs, v, h => by
    simp only [RD] at h
    obtain ⟨a, ps, h1, h2, h3⟩ := h
    subst h1
    exact .dct (e _ _ h2) (RKs.dq e kvs ps h3)
theorem RDs.dq {K : PySem.W.Frag} {F H : Hp} (e : Same F H) : ∀ (ds : List PyData) (vs : List V), RDs F ds vs → DqAll K H vs ds
  | [], vs, h => by simp only [RDs] at h; subst h; exact .nil
  | d :: ds, vs, h => by
    simp only [RDs] at h
    obtain ⟨v, ws, h1, h2, h3⟩ := h
    subst h1
    exact .cons (RD.dq e d v h2) (RDs.dq e ds ws h3)
theorem RKs.dq {K : PySem.W.Frag} {F H : Hp} (e : Same F H) : ∀ (kvs : List (PyData × PyData)) (ps : List (Key × V)), RKs F kvs ps → DqK K H ps kvs
  | [], ps, h => by simp only [RKs] at h; subst h; exact .nil
  | (k, d) :: kvs, ps, h => by
    simp only [RKs] at h
    obtain ⟨i, v, qs, h1, h2, h3, h4⟩ := h
    subst h1 h2
    exact .cons (RD.dq e d v h3) (RKs.dq e kvs qs h4)
end
mutual
def rsv0 (h : Hh) : M → Option PyData
  | .d x => some x
  | .obj k => match h[k]? with
    | some (.lst xs) => some (.list xs)
    | _ => none
  | .tup ms => match rsv0s h ms with
    | some ds => some (.tuple ds)
    | none => none
  | .scr _ => none
  | .ad _ => none
def rsv0s (h : Hh) : List M → Option (List PyData)
  | [] => some []
  | m :: ms => match rsv0 h m, rsv0s h ms with
    | some d, some ds => some (d :: ds)
    | _, _ => none
end
section
variable {K : PySem.W.Frag} {W : Wd}
mutual
theorem rsv0_ok (ok : W.Ok K) : ∀ (m : M) (v : V) (x : PyData), RV K W m v → rsv0 W.h m = some x → Dq K W.H v x
  | .d y, v, x, r, e => by
    simp only [rsv0, Option.some.injEq] at e
    subst e
    simp only [RM] at r
    exact RD.dq ok.sub _ _ r
  | .obj k, v, x, r, e => by
    simp only [RM] at r
    simp only [rsv0] at e
    cases ec : W.h[k]? with
    | none => simp only [ec] at e; cases e
    | some c =>
      simp only [ec] at e
      have hc := ok.cell k c ec
      cases c with
      | lst xs =>
        simp only [Option.some.injEq] at e
        subst e
        obtain ⟨vs, h1, h2⟩ := hc
        rw [r.2]
        exact .lst (SqL.of h1) (RDs.dq ok.sub _ _ h2)
      | _ => cases e
  | .tup ms, v, x, r, e => by
    simp only [RM] at r
    simp only [rsv0] at e
    obtain ⟨a, vs, h1, h2, h3⟩ := r
    cases er : rsv0s W.h ms with
    | none => simp only [er] at e; cases e
    | some ds =>
      simp only [er, Option.some.injEq] at e
      subst e
      subst h1
      exact .tup (SqT.of (ok.sub _ _ h2)) (rsv0s_ok ok ms vs ds h3 er)
  | .scr _, _, _, _, e => by simp only [rsv0] at e; cases e
  | .ad _, _, _, _, e => by simp only [rsv0] at e; cases e
theorem rsv0s_ok (ok : W.Ok K) : ∀ (ms : List M) (vs : List V) (xs : List PyData), RVs K W ms vs → rsv0s W.h ms = some xs → DqAll K W.H vs xs
  | [], vs, xs, r, e => by
    simp only [rsv0s, Option.some.injEq] at e
    subst e
    simp only [RMs] at r
    subst r
    exact .nil
  | m :: ms, vs, xs, r, e => by
    simp only [RMs] at r
    obtain ⟨v, ws, h1, h2, h3⟩ := r
    simp only [rsv0s] at e
    cases e1 : rsv0 W.h m with
    | none => simp only [e1] at e; cases e
    | some d =>
      cases e2 : rsv0s W.h ms with
      | none => simp only [e1, e2] at e; cases e
      | some ds =>
        simp only [e1, e2, Option.some.injEq] at e
        subst e
        subst h1
        exact .cons (rsv0_ok ok m v d h2 e1) (rsv0s_ok ok ms ws ds h3 e2)
end
end

mutual
def rsv (h : Hh) : M → Option PyData
  | .d x => some x
  | .obj k => match h[k]? with
    | some (.lst xs) => some (.list xs)
    | some (.mix ms) => match rsv0s h ms with
      | some ds => some (.list ds)
      | none => none
    | _ => none
  | .tup ms => match rsvs h ms with
    | some ds => some (.tuple ds)
    | none => none
  | .scr _ => none
  | .ad _ => none
def rsvs (h : Hh) : List M → Option (List PyData)
  | [] => some []
  | m :: ms => match rsv h m, rsvs h ms with
    | some d, some ds => some (d :: ds)
    | _, _ => none
end
section
variable {K : PySem.W.Frag} {W : Wd}
mutual
theorem rsv_ok (ok : W.Ok K) : ∀ (m : M) (v : V) (x : PyData), RV K W m v → rsv W.h m = some x → Dq K W.H v x
  | .d y, v, x, r, e => by
    simp only [rsv, Option.some.injEq] at e
    subst e
    simp only [RM] at r
    exact RD.dq ok.sub _ _ r
  | .obj k, v, x, r, e => by
    simp only [RM] at r
    simp only [rsv] at e
    cases ec : W.h[k]? with
    | none => simp only [ec] at e; cases e
    | some c =>
      simp only [ec] at e
      have hc := ok.cell k c ec
      cases c with
      | lst xs =>
        simp only [Option.some.injEq] at e
        subst e
        obtain ⟨vs, h1, h2⟩ := hc
        rw [r.2]
        exact .lst (SqL.of h1) (RDs.dq ok.sub _ _ h2)
      | mix ms =>
        simp only at e
        obtain ⟨vs, h1, h2⟩ := hc
        cases e2 : rsv0s W.h ms with
        | none => simp only [e2] at e; cases e
        | some ds =>
          simp only [e2, Option.some.injEq] at e
          subst e
          rw [r.2]
          exact .lst (SqL.of h1) (rsv0s_ok ok ms vs ds h2 e2)
      | dead => cases e
  | .tup ms, v, x, r, e => by
    simp only [RM] at r
    simp only [rsv] at e
    obtain ⟨a, vs, h1, h2, h3⟩ := r
    cases er : rsvs W.h ms with
    | none => simp only [er] at e; cases e
    | some ds =>
      simp only [er, Option.some.injEq] at e
      subst e
      subst h1
      exact .tup (SqT.of (ok.sub _ _ h2)) (rsvs_ok ok ms vs ds h3 er)
  | .scr _, _, _, _, e => by simp only [rsv] at e; cases e
  | .ad _, _, _, _, e => by simp only [rsv] at e; cases e
theorem rsvs_ok (ok : W.Ok K) : ∀ (ms : List M) (vs : List V) (xs : List PyData), RVs K W ms vs → rsvs W.h ms = some xs → DqAll K W.H vs xs
  | [], vs, xs, r, e => by
    simp only [rsvs, Option.some.injEq] at e
    subst e
    simp only [RMs] at r
    subst r
    exact .nil
  | m :: ms, vs, xs, r, e => by
    simp only [RMs] at r
    obtain ⟨v, ws, h1, h2, h3⟩ := r
    simp only [rsvs] at e
    cases e1 : rsv W.h m with
    | none => simp only [e1] at e; cases e
    | some d =>
      cases e2 : rsvs W.h ms with
      | none => simp only [e1, e2] at e; cases e
      | some ds =>
        simp only [e1, e2, Option.some.injEq] at e
        subst e
        subst h1
        exact .cons (rsv_ok ok m v d h2 e1) (rsvs_ok ok ms ws ds h3 e2)
end
end

section
variable {K : PySem.W.Frag} {W : Wd}
theorem rsv_dp (ok : W.Ok K) {m : M} {v : V} {x : PyData} (r : RV K W m v) (e : rsv W.h m = some x) (n : x.hasDict = false) : Dp K W.H v x := Dq.dp x v n (rsv_ok ok m v x r e)
theorem rsvs_dp (ok : W.Ok K) {ms : List M} {vs : List V} {xs : List PyData} (r : RVs K W ms vs) (e : rsvs W.h ms = some xs) (n : PyData.hasDictAll xs = false) : DpAll K W.H vs xs := DqAll.dp xs vs n (rsvs_ok ok ms vs xs r e)
end

/-! ### arithmetic -/
def opI (g : Int → Int → PyData) : Op2
  | .d (.int i), .d (.int j) => rt (.d (g i j))
  | _, _ => fail
def opIC (C : Int → Int → Bool) (g : Int → Int → PyData) : Op2
  | .d (.int i), .d (.int j) => if C i j = true then rt (.d (g i j)) else fail
  | _, _ => fail
theorem int_of {K : PySem.W.Frag} {W : Wd} {i : Int} {v : V} (r : RV K W (.d (.int i)) v) : v = .int i := by simpa only [RM, RD] using r
theorem str_of {K : PySem.W.Frag} {W : Wd} {i : Str} {v : V} (r : RV K W (.d (.str i)) v) : v = .str i := by simpa only [RM, RD] using r
theorem bl_of {K : PySem.W.Frag} {W : Wd} {i : Bool} {v : V} (r : RV K W (.d (.bool i)) v) : v = .bl i := by simpa only [RM, RD] using r
section
variable {K : PySem.W.Frag}
theorem j_I0 {gV : Int → Int → V} {g : Int → Int → PyData} (hg : ∀ F i j, RD F (g i j) (gV i j)) : J2 K (rI0 gV) (opI g) := fun E W x y v u Q ok r1 r2 p => by
  unfold opI at p
  split at p
  · rename_i i j
    exact ⟨i, j, int_of r1, int_of r2, PostG.ret ok p _ (by simp only [RM]; exact hg _ _ _)⟩
  · exact p.elim
theorem j_I {gV : Int → Int → V} {C : Int → Int → Prop} {c : Int → Int → Bool} {g : Int → Int → PyData} (hc : ∀ i j, c i j = true → C i j) (hg : ∀ F i j, RD F (g i j) (gV i j)) : J2 K (rI C gV) (opIC c g) := fun E W x y v u Q ok r1 r2 p => by
  unfold opIC at p
  split at p
  · rename_i i j
    split at p
    · rename_i h
      exact ⟨i, j, int_of r1, int_of r2, hc _ _ h, PostG.ret ok p _ (by simp only [RM]; exact hg _ _ _)⟩
    · exact p.elim
  · exact p.elim
theorem rd_int (F : Hp) (i : Int) : RD F (.int i) (.int i) := by simp only [RD]
theorem rd_bl (F : Hp) (i : Bool) : RD F (.bool i) (.bl i) := by simp only [RD]
def oSub : Op2 := opI fun i j => .int (i - j)
theorem j_sub : J2 K (rI0 fun i j => .int (i - j)) oSub := j_I0 fun F i j => rd_int F _
def mulC (i j : Int) : Bool := decide (i.natAbs < 18446744073709551616) || decide (j.natAbs < 18446744073709551616)
def oMul : Op2 := opIC mulC fun i j => .int (i * j)
theorem j_mul : J2 K (rI CMul fun i j => .int (i * j)) oMul := j_I (fun i j h => by
  unfold mulC at h
  unfold CMul
  simp only [Bool.or_eq_true, decide_eq_true_eq] at h
  rcases h with h | h
  · left; omega
  · right; omega) fun F i j => rd_int F _
def oMod : Op2 := opIC (fun _ j => decide (0 < j)) fun i j => .int (i % j)
theorem j_mod : J2 K (rI (fun _ j => 0 < j) fun i j => .int (i % j)) oMod := j_I (fun i j h => of_decide_eq_true h) fun F i j => rd_int F _
def oDiv : Op2 := opIC (fun _ j => decide (0 < j) && decide (j < 1329227995784915872903807060280344576)) fun i j => .int (i / j)
theorem j_div : J2 K (rI CDivW fun i j => .int (i / j)) oDiv := j_I (fun i j h => by
  simp only [Bool.and_eq_true, decide_eq_true_eq] at h
  exact wide_div (b := 120) h.1 (by omega) (by decide) (by decide)) fun F i j => rd_int F _
def oPow : Op2 := opIC (fun i j => decide (0 ≤ j) && decide (j ≤ 1000000) && decide (i.natAbs < 18446744073709551616)) fun i j => .int (i ^ j.toNat)
theorem j_pow : J2 K (rI CPow fun i j => .int (i ^ j.toNat)) oPow := j_I (fun i j h => by
  simp only [Bool.and_eq_true, decide_eq_true_eq] at h
  exact ⟨h.1.1, h.1.2, h.2⟩) fun F i j => rd_int F _
def oLt : Op2 := opI fun i j => .bool (decide (i < j))
def oLe : Op2 := opI fun i j => .bool (decide (i ≤ j))
def oGt : Op2 := opI fun i j => .bool (decide (j < i))
def oGe : Op2 := opI fun i j => .bool (decide (j ≤ i))
theorem j_lt : J2 K (rI0 fun i j => .bl (decide (i < j))) oLt := j_I0 fun F i j => rd_bl F _
theorem j_le : J2 K (rI0 fun i j => .bl (decide (i ≤ j))) oLe := j_I0 fun F i j => rd_bl F _
theorem j_gt : J2 K (rI0 fun i j => .bl (decide (j < i))) oGt := j_I0 fun F i j => rd_bl F _
theorem j_ge : J2 K (rI0 fun i j => .bl (decide (j ≤ i))) oGe := j_I0 fun F i j => rd_bl F _

/-! ### + -/
/-- a new list, frozen, by its items -/
def mkL (ms : List M) : Sm M := match asDs ms with
  | some ds => rt (.d (.list ds))
  | none => fail
def oAdd : Op2 := fun x y h => match x, y with
  | .d (.int i), .d (.int j) => some (.val (.d (.int (i + j))) h)
  | .d (.str a), .d (.str b) => if a.length + b.length ≤ LIM then some (.val (.d (.str (a ++ b))) h) else none
  | x, y => match tupM x, tupM y with
    | some xs, some ys => if xs.length + ys.length ≤ LIM then some (.val (mkTup (xs ++ ys)) h) else none
    | _, _ => match lstM h x, lstM h y with
      | some xs, some ys => if xs.length + ys.length ≤ LIM then mkL (xs ++ ys) h else none
      | _, _ => none
def rStrCat : R2 := fun x y H Q => ∃ i j, x = .str i ∧ y = .str j ∧ i.length + j.length ≤ sizeLine ∧ Q (.str (i ++ j)) H
def rAdd4 (K : PySem.W.Frag) : R2 := fun x y H Q => (rI0 (fun i j => .int (i + j)) x y H Q ∨ rStrCat x y H Q) ∨ (rCatA K x y H Q ∨ rCat x y H Q)
theorem op_add4 {X : Cx} : OpR X (binaryOp .Add) (rAdd4 X.K) := (op_add.or op_add_str).or (op_catA.or op_cat)
theorem mkL_fin {E : XE} {W : Wd} {ms : List M} {vs : List V} {Q : VK} (ok : W.Ok K) (r : RVs K W ms vs) (p : PostG K E W (mkL ms W.h) (QV K Q)) : ∀ q, W.H q = none → Q (.ref q) (upd W.H q (.lst vs)) := fun q hq => by
  unfold mkL at p
  cases e : asDs ms with
  | none => simp only [e] at p; exact p.elim
  | some ds =>
    simp only [e] at p
    refine p (W.froz q (.lst vs)) rfl (ok.froz _ hq) (Step.froz ok hq) _ ?_
    show RM K W.ρ (upd W.F q (.lst vs)) W.h.length (.d (.list ds)) (.ref q)
    simp only [RM, RD]
    exact ⟨q, vs, rfl, upd_same, asDs_rel e (RMs.step r (Step.froz (o := .lst vs) ok hq))⟩
theorem mkTup_fin {E : XE} {W : Wd} {ms : List M} {vs : List V} {Q : VK} (ok : W.Ok K) (r : RVs K W ms vs) (p : PostG K E W (some (.val (mkTup ms) W.h)) (QV K Q)) : ∀ q, W.H q = none → Q (.ref q) (upd W.H q (.tup vs)) := fun q hq =>
  p (W.froz q (.tup vs)) rfl (ok.froz _ hq) (Step.froz ok hq) _ (mkTup_ok ok hq r)
theorem asDs_append : ∀ {xs ys : List M}, asDs (xs ++ ys) = match asDs xs, asDs ys with
    | some a, some b => some (a ++ b)
    | _, _ => none
  | [], ys => by
    simp only [List.nil_append, asDs]
    cases asDs ys <;> rfl
  | .d x :: r, ys => by
    simp only [List.cons_append, asDs]
    rw [asDs_append (xs := r)]
    cases asDs r <;> cases asDs ys <;> rfl
  | .obj _ :: r, ys => by simp only [List.cons_append, asDs]
  | .tup _ :: r, ys => by simp only [List.cons_append, asDs]
  | .scr _ :: r, ys => by simp only [List.cons_append, asDs]
  | .ad _ :: r, ys => by simp only [List.cons_append, asDs]
theorem asDs_eq : ∀ {xs : List M} {ds : List PyData}, asDs xs = some ds → xs = ds.map M.d
  | [], ds, e => by cases e; rfl
  | .d x :: r, ds, e => by
    simp only [asDs] at e
    cases e1 : asDs r with
    | none => rw [e1] at e; cases e
    | some ds' => rw [e1] at e; cases e; rw [asDs_eq e1]; rfl
  | .obj _ :: r, ds, e => by cases e
  | .tup _ :: r, ds, e => by cases e
  | .scr _ :: r, ds, e => by cases e
  | .ad _ :: r, ds, e => by cases e
/-- a value that is a tuple is its items' -/
theorem tup_is {W : Wd} {m : M} {v : V} {ms : List M} (r : RV K W m v) (e : tupM m = some ms) : RV K W (mkTup ms) v := by
  cases m with
  | d x =>
    cases x with
    | tuple xs =>
      simp only [tupM, Option.some.injEq] at e
      subst e
      unfold mkTup
      rw [asDs_map]
      exact r
    | _ => simp only [tupM] at e; cases e
  | tup xs =>
    simp only [tupM, Option.some.injEq] at e
    subst e
    unfold mkTup
    cases e : asDs xs with
    | none => exact r
    | some ds =>
      simp only [RM] at r
      obtain ⟨a, vs, h1, h2, h3⟩ := r
      show RM K W.ρ W.F W.h.length (.d (.tuple ds)) v
      simp only [RM, RD]
      exact ⟨a, vs, h1, h2, asDs_rel e h3⟩
  | _ => simp only [tupM] at e; cases e
theorem j_add : J2 K (rAdd4 K) oAdd := fun E W x y v u Q ok r1 r2 p => by
  unfold oAdd at p
  split at p
  · rename_i i j
    exact .inl (.inl ⟨i, j, int_of r1, int_of r2, PostG.ret (a := M.d (.int (i + j))) ok p _ (by simp only [RM, RD])⟩)
  · rename_i a b
    split at p
    · rename_i hl
      exact .inl (.inr ⟨a, b, str_of r1, str_of r2, hl, PostG.ret (a := M.d (.str (a ++ b))) ok p _ (by simp only [RM, RD])⟩)
    · exact p.elim
  · split at p
    · rename_i xs ys ex ey
      split at p
      · rename_i hl
        obtain ⟨a, vs, h1, h2, h3⟩ := tupM_ok ok r1 ex
        obtain ⟨b, us, g1, g2, g3⟩ := tupM_ok ok r2 ey
        have l1 := RMs.length h3
        have l2 := RMs.length g3
        subst h1; subst g1
        refine .inr (.inl ⟨a, b, vs, us, rfl, rfl, SqT.of (ok.sub _ _ h2), SqT.of (ok.sub _ _ g2), by rw [l1, l2]; exact hl, fun hv => ?_, fun hv hu => ?_, fun hv hu q hq => mkTup_fin ok (RMs.append h3 g3) p q hq⟩)
        · have ex0 : xs = [] := List.length_eq_zero_iff.mp (by rw [← l1, hv]; rfl)
          subst ex0
          exact p W rfl ok (Step.refl W) _ (tup_is r2 (by simpa using ey))
        · have ey0 : ys = [] := List.length_eq_zero_iff.mp (by rw [← l2, hu]; rfl)
          subst ey0
          exact p W rfl ok (Step.refl W) _ (tup_is r1 (by simpa using ex))
      · exact p.elim
    · split at p
      · rename_i xs ys ex ey
        split at p
        · rename_i hl
          obtain ⟨a, vs, h1, h2, h3⟩ := lstM_ok ok r1 ex
          obtain ⟨b, us, g1, g2, g3⟩ := lstM_ok ok r2 ey
          exact .inr (.inr ⟨a, b, vs, us, h1, g1, h2, g2, by rw [RMs.length h3, RMs.length g3]; exact hl, mkL_fin ok (RMs.append h3 g3) p⟩)
        · exact p.elim
      · exact p.elim

/-! ### == -/
def shal (d e : PyData) : Bool := (decide (d.depth ≤ 60) || decide (e.depth ≤ 60)) && (d.canLay0 && e.canLay0)
/-- a tuple with the empty one, a list with the empty one: whatever is in it -/
def empE : PyData → PyData → Option Bool
  | .tuple xs, .tuple [] => some xs.isEmpty
  | .list xs, .list [] => some xs.isEmpty
  | _, _ => none
def eqD (h : Hh) (x y : M) : Option Bool := match x, y with
  | .d (.str a), .d (.str b) => some (a == b)
  | _, _ => match rsv h x, rsv h y with
    | some d, some e => if shal d e = true then some (PyData.eqv d e) else empE d e
    | _, _ => none
def oEq : Op2 := fun x y h => match eqD h x y with
  | some k => some (.val (.d (.bool k)) h)
  | none => none
def oNe : Op2 := fun x y h => match eqD h x y with
  | some k => some (.val (.d (.bool (!k))) h)
  | none => none
def EqD (K : PySem.W.Frag) (H : Hp) (x y : V) (k : Bool) : Prop := (∃ a b, x = .str a ∧ y = .str b ∧ k = (a == b)) ∨ ∃ d e, Dp K H x d ∧ Dp K H y e ∧ d.canLay0 = true ∧ e.canLay0 = true ∧ min d.depth e.depth ≤ 60 ∧ k = PyData.eqv d e
def EqE (K : PySem.W.Frag) (H : Hp) (x y : V) (k : Bool) : Prop := ∃ a b xs, x = .ref a ∧ y = .ref b ∧ ((SqT K H a xs ∧ SqT K H b []) ∨ (SqL K H a xs ∧ SqL K H b [])) ∧ k = xs.isEmpty
theorem EqE.rc {X : Cx} {pins : List (Addr × Obj)} {s : Shared} {σ : St} {H : Hp} {x y : V} {v u : Value} {k : Bool} (hu : X.A.units < cLine) (I : Inv X pins σ H s) (rx : RelV x v) (ry : RelV y u) (h : EqE X.K H x y k) : SeqAt.RcAt X.A s v u k ∧ SeqAt.RcNeAt X.A s v u (!k) := by
  obtain ⟨a, b, xs, rfl, rfl, ⟨h1, h2⟩ | ⟨h1, h2⟩, rfl⟩ := h
  · cases rx
    cases ry
    obtain ⟨its, r1, ⟨o, ho, hc, n, hd⟩, _⟩ := I.tuple h1
    obtain ⟨jts, r2, ⟨o2, ho2, hc2, n2, hd2⟩, _⟩ := I.tuple h2
    cases r2
    have z1 : s.heap.IsTuple a its.toArray := ⟨o, ho, hc, n, hd⟩
    have z2 : s.heap.IsTuple b ([] : List Value).toArray := ⟨o2, ho2, hc2, n2, hd2⟩
    have l1 : its.length = xs.length := (Vals.length r1).symm
    have e : ((List.range (min its.toArray.size ([] : List Value).toArray.size)).all (fun _ => true) && its.toArray.size == ([] : List Value).toArray.size) = xs.isEmpty := by
      cases xs with
      | nil => have : its = [] := List.length_eq_zero_iff.mp l1; subst this; rfl
      | cons x xs => cases its with
        | nil => cases l1
        | cons i its => simp
    rw [← e]
    exact ⟨SeqAt.RcAt.tuples z1 z2 hu fun j _ h => absurd h (Nat.not_lt_zero _), SeqAt.RcNeAt.tuples z1 z2 hu fun j _ h => absurd h (Nat.not_lt_zero _)⟩
  · cases rx
    cases ry
    obtain ⟨its, r1, ⟨o, n, ho, hc, _, hd⟩, _⟩ := I.list h1
    obtain ⟨jts, r2, ⟨o2, n2, ho2, hc2, _, hd2⟩, _⟩ := I.list h2
    cases r2
    have z1 : s.heap.IsList a its.toArray := ⟨o, ho, hc, n, hd⟩
    have z2 : s.heap.IsList b ([] : List Value).toArray := ⟨o2, ho2, hc2, n2, hd2⟩
    have l1 : its.length = xs.length := (Vals.length r1).symm
    cases xs with
    | nil =>
      have : its = [] := List.length_eq_zero_iff.mp l1
      subst this
      exact ⟨SeqAt.RcAt.lists (e := fun _ => true) z1 z2 rfl hu fun j _ h => absurd h (Nat.not_lt_zero _), SeqAt.RcNeAt.lists (e := fun _ => true) z1 z2 rfl hu fun j _ h => absurd h (Nat.not_lt_zero _)⟩
    | cons x xs => cases its with
      | nil => cases l1
      | cons i its => exact ⟨SeqAt.RcAt.lists_lengths z1 z2 (by simp) hu, SeqAt.RcNeAt.lists_lengths z1 z2 (by simp) hu⟩
def rEqM (K : PySem.W.Frag) (neg : Bool) : R2 := fun x y H Q => ∃ k, (EqD K H x y k ∨ EqE K H x y k) ∧ Q (.bl (if neg = true then !k else k)) H
theorem op_eqM {X : Cx} (hu : X.A.units + 64 < cLine) : OpR X (compareOp .Eq) (rEqM X.K false) := by
  intro pins s σ H x y v u Q I rx ry h
  obtain ⟨k, (⟨a, b, rfl, rfl, rfl⟩ | ⟨d, e, hd, he, sd, se, hm, rfl⟩) | hE, q⟩ := h
  · exact op_eq pins s σ H _ _ v u Q I rx ry ⟨rfl, by rw [dec_str]; exact q⟩
  · obtain ⟨as, r1⟩ := Dp.reads I d x v hd rx
    obtain ⟨bs, r2⟩ := Dp.reads I e y u he ry
    exact SeqAt.compareEq_reads r1 r2 sd se (by omega) ⟨.bl _, H, I, rfl, q⟩
  · exact (hE.rc (by omega) I rx ry).1 _ _ _ _ ⟨.bl _, H, I, rfl, q⟩
theorem op_neM {X : Cx} (hu : X.A.units + 64 < cLine) : OpR X (compareOp .NotEq) (rEqM X.K true) := by
  intro pins s σ H x y v u Q I rx ry h
  obtain ⟨k, (⟨a, b, rfl, rfl, rfl⟩ | ⟨d, e, hd, he, sd, se, hm, rfl⟩) | hE, q⟩ := h
  · exact op_ne pins s σ H _ _ v u Q I rx ry ⟨rfl, by rw [dec_str]; exact q⟩
  · obtain ⟨as, r1⟩ := Dp.reads I d x v hd rx
    obtain ⟨bs, r2⟩ := Dp.reads I e y u he ry
    exact SeqAt.compareNe_reads r1 r2 sd se (by omega) ⟨.bl _, H, I, rfl, q⟩
  · exact (hE.rc (by omega) I rx ry).2 _ _ _ _ ⟨.bl _, H, I, rfl, q⟩
theorem shal_min {d e : PyData} (h : shal d e = true) : min d.depth e.depth ≤ 60 ∧ d.canLay0 = true ∧ e.canLay0 = true := by
  unfold shal at h
  simp only [Bool.and_eq_true, Bool.or_eq_true, decide_eq_true_eq] at h
  exact ⟨by omega, h.2⟩
theorem empE_ok {W : Wd} {x y : M} {v u : V} {d e : PyData} {k : Bool} (r1 : Dq K W.H v d) (r2 : Dq K W.H u e) (h : empE d e = some k) : EqE K W.H v u k := by
  unfold empE at h
  split at h
  · cases h
    cases r1 with
    | tup h1 h2 => cases r2 with
      | tup g1 g2 =>
        cases g2
        exact ⟨_, _, _, rfl, rfl, .inl ⟨h1, g1⟩, by cases h2 <;> rfl⟩
  · cases h
    cases r1 with
    | lst h1 h2 => cases r2 with
      | lst g1 g2 =>
        cases g2
        exact ⟨_, _, _, rfl, rfl, .inr ⟨h1, g1⟩, by cases h2 <;> rfl⟩
  · cases h
theorem eqD_ok {W : Wd} {x y : M} {v u : V} {k : Bool} (ok : W.Ok K) (r1 : RV K W x v) (r2 : RV K W y u) (e : eqD W.h x y = some k) : EqD K W.H v u k ∨ EqE K W.H v u k := by
  have gen : ∀ {o : Option Bool}, o = (match rsv W.h x, rsv W.h y with
      | some d, some e => if shal d e = true then some (PyData.eqv d e) else empE d e
      | _, _ => none) → o = some k → EqD K W.H v u k ∨ EqE K W.H v u k := fun {o} ho hk => by
    rw [ho] at hk
    cases e1 : rsv W.h x with
    | none => simp only [e1] at hk; cases hk
    | some d =>
      cases e2 : rsv W.h y with
      | none => simp only [e1, e2] at hk; cases hk
      | some e' =>
        simp only [e1, e2] at hk
        by_cases hs : shal d e' = true
        · rw [if_pos hs] at hk
          cases hk
          obtain ⟨h1, h2, h3⟩ := shal_min hs
          exact .inl (.inr ⟨d, e', rsv_dp ok r1 e1 (PyData.hasDict_of_canLay d h2), rsv_dp ok r2 e2 (PyData.hasDict_of_canLay e' h3), h2, h3, h1, rfl⟩)
        · rw [if_neg hs] at hk
          exact .inr (empE_ok (x := x) (y := y) (rsv_ok ok x v d r1 e1) (rsv_ok ok y u e' r2 e2) hk)
  unfold eqD at e
  split at e
  · rename_i a b
    cases e
    exact .inl (.inl ⟨a, b, str_of r1, str_of r2, rfl⟩)
  · exact gen rfl e
theorem j_eq : J2 K (rEqM K false) oEq := fun E W x y v u Q ok r1 r2 p => by
  unfold oEq at p
  cases e : eqD W.h x y with
  | none => simp only [e] at p; exact p.elim
  | some k =>
    simp only [e] at p
    exact ⟨k, eqD_ok ok r1 r2 e, PostG.ret (a := M.d (.bool k)) ok p _ (by simp only [RM, RD]; rfl)⟩
theorem j_ne : J2 K (rEqM K true) oNe := fun E W x y v u Q ok r1 r2 p => by
  unfold oNe at p
  cases e : eqD W.h x y with
  | none => simp only [e] at p; exact p.elim
  | some k =>
    simp only [e] at p
    exact ⟨k, eqD_ok ok r1 r2 e, PostG.ret (a := M.d (.bool (!k))) ok p _ (by simp only [RM, RD]; rfl)⟩

/-! ### x[i] -/
def chr1 (c : Nat) : M := .d (.str ⟨#[c]⟩)
def oIx : Op2 := fun x y h => match y with
  | .d (.int i) => match x with
    | .d (.str z) => if z.length ≤ LIM then opt ((atI z.cps.toList i).map chr1) h else none
    | _ => match tupM x with
      | some ms => opt (atI ms i) h
      | none => match lstM h x with
        | some ms => opt (atI ms i) h
        | none => none
  | _ => none
theorem atI_rel {W : Wd} {ms : List M} {vs : List V} {i : Int} {m : M} (r : RVs K W ms vs) (e : atI ms i = some m) : ∃ v, atI vs i = some v ∧ RV K W m v := by
  unfold atI at e ⊢
  rw [RMs.length r]
  cases e1 : ixN ms.length i with
  | none => rw [e1] at e; cases e
  | some j =>
    rw [e1] at e
    exact RMs.get' r e
theorem j_ix : J2 K (rIx K) oIx := fun E W x y v u Q ok r1 r2 p => by
  unfold oIx at p
  split at p
  · rename_i i
    have hi := int_of r2
    split at p
    · rename_i z
      split at p
      · rename_i hl
        obtain ⟨a, e, q⟩ := PostG.opt ok p
        cases e1 : atI z.cps.toList i with
        | none => rw [e1] at e; cases e
        | some c =>
          rw [e1] at e
          cases e
          exact .inr (.inr ⟨z, i, c, str_of r1, hi, hl, e1, q _ (by unfold chr1; simp only [RM, RD])⟩)
      · exact p.elim
    · split at p
      · rename_i ms e
        obtain ⟨m, e1, q⟩ := PostG.opt ok p
        obtain ⟨a, vs, h1, h2, h3⟩ := tupM_ok ok r1 e
        obtain ⟨v', e2, r⟩ := atI_rel h3 e1
        exact .inr (.inl ⟨a, vs, i, v', h1, hi, SqT.of (ok.sub _ _ h2), e2, q v' r⟩)
      · split at p
        · rename_i ms e
          obtain ⟨m, e1, q⟩ := PostG.opt ok p
          obtain ⟨a, vs, h1, h2, h3⟩ := lstM_ok ok r1 e
          obtain ⟨v', e2, r⟩ := atI_rel h3 e1
          exact .inl ⟨a, vs, i, v', h1, hi, SqL.of h2, e2, q v' r⟩
        · exact p.elim
  · exact p.elim
end
/-- the script's item -/
def oIxS : Op2
  | .scr ns, .d (.int i) => opt ((atI ns i).map fun n => .d (.int n))
  | _, _ => fail
theorem atI_map {α β : Type} {f : α → β} {xs : List α} {i : Int} : atI (xs.map f) i = (atI xs i).map f := by
  unfold atI
  rw [List.length_map]
  cases ixN xs.length i with
  | none => rfl
  | some j => exact List.getElem?_map ..
theorem j_ixS {K : PySem.W.Frag} : J2 K (rIx K) oIxS := fun E W x y v u Q ok r1 r2 p => by
  unfold oIxS at p
  split at p
  · rename_i ns i
    obtain ⟨m, e1, q⟩ := PostG.opt ok p
    simp only [RM] at r1
    obtain ⟨a, h1, h2⟩ := r1
    cases e2 : atI ns i with
    | none => rw [e2] at e1; cases e1
    | some n =>
      rw [e2] at e1
      cases e1
      exact .inl ⟨a, _, i, .int n, h1, int_of r2, Evl.ex_l ok.sub h2, by rw [atI_map, e2]; rfl, q _ (by simp only [RM, RD])⟩
  · exact p.elim
end G

namespace G
open PySem PySem.Spec L2 PySem.Calls

/-! ### in, not in -/
def seqM (h : Hh) (m : M) : Option (Bool × List M) := match tupM m with
  | some ms => some (true, ms)
  | none => match lstM h m with
    | some ms => some (false, ms)
    | none => none
def inD (h : Hh) (x y : M) : Option Bool := match rsv h x, seqM h y with
  | some d, some (_, ms) => match rsvs h ms with
    | some ds => if (decide (d.depth ≤ 60) && (d.canLay0 && PyData.canLayAll0 ds)) = true then some (ds.any fun z => PyData.eqv z d) else none
    | none => none
  | _, _ => none
def oIn : Op2 := fun x y h => match inD h x y with
  | some k => some (.val (.d (.bool k)) h)
  | none => none
def oNotIn : Op2 := fun x y h => match inD h x y with
  | some k => some (.val (.d (.bool (!k))) h)
  | none => none
def rInM (K : PySem.W.Frag) (neg : Bool) : R2 := fun x y H Q => ∃ d ds, Dp K H x d ∧ (Dp K H y (.list ds) ∨ Dp K H y (.tuple ds)) ∧ d.canLay0 = true ∧ PyData.canLayAll0 ds = true ∧ d.depth ≤ 60 ∧ Q (.bl (if neg = true then !(ds.any fun z => PyData.eqv z d) else ds.any fun z => PyData.eqv z d)) H
section
variable {X : Cx}
theorem op_inM (hu : X.A.units + 64 < cLine) : OpR X (compareOp .In) (rInM X.K false) := by
  intro pins s σ H x y v u Q I rx ry h
  obtain ⟨d, ds, hd, he | he, sd, se, hm, q⟩ := h
  · obtain ⟨as, r1⟩ := Dp.reads I d x v hd rx
    obtain ⟨bs, r2⟩ := Dp.reads I (.list ds) y u he ry
    exact SeqAt.in_list_reads r2 r1 se sd (by omega) ⟨.bl _, H, I, rfl, q⟩
  · obtain ⟨as, r1⟩ := Dp.reads I d x v hd rx
    obtain ⟨bs, r2⟩ := Dp.reads I (.tuple ds) y u he ry
    exact SeqAt.in_tuple_reads r2 r1 se sd (by omega) ⟨.bl _, H, I, rfl, q⟩
theorem op_notInM (hu : X.A.units + 64 < cLine) : OpR X (compareOp .NotIn) (rInM X.K true) := by
  intro pins s σ H x y v u Q I rx ry h
  obtain ⟨d, ds, hd, he | he, sd, se, hm, q⟩ := h
  · obtain ⟨as, r1⟩ := Dp.reads I d x v hd rx
    obtain ⟨bs, r2⟩ := Dp.reads I (.list ds) y u he ry
    exact SeqAt.notIn_list_reads r2 r1 se sd (by omega) ⟨.bl _, H, I, rfl, q⟩
  · obtain ⟨as, r1⟩ := Dp.reads I d x v hd rx
    obtain ⟨bs, r2⟩ := Dp.reads I (.tuple ds) y u he ry
    exact SeqAt.notIn_tuple_reads r2 r1 se sd (by omega) ⟨.bl _, H, I, rfl, q⟩
end
section
variable {K : PySem.W.Frag}
theorem inD_ok {W : Wd} {x y : M} {v u : V} {k : Bool} (ok : W.Ok K) (r1 : RV K W x v) (r2 : RV K W y u) (e : inD W.h x y = some k) :
    ∃ d ds, Dp K W.H v d ∧ (Dp K W.H u (.list ds) ∨ Dp K W.H u (.tuple ds)) ∧ d.canLay0 = true ∧ PyData.canLayAll0 ds = true ∧ d.depth ≤ 60 ∧ k = ds.any fun z => PyData.eqv z d := by
  unfold inD at e
  cases e1 : rsv W.h x with
  | none => simp only [e1] at e; cases e
  | some d =>
    unfold seqM at e
    cases e2 : tupM y with
    | some ms =>
      simp only [e1, e2] at e
      cases e3 : rsvs W.h ms with
      | none => simp only [e3] at e; cases e
      | some ds =>
        simp only [e3] at e
        split at e
        · rename_i hs
          simp only [Bool.and_eq_true, decide_eq_true_eq] at hs
          cases e
          obtain ⟨a, vs, h1, h2, h3⟩ := tupM_ok ok r2 e2
          subst h1
          exact ⟨d, ds, rsv_dp ok r1 e1 (PyData.hasDict_of_canLay d hs.2.1), .inr (.tup (SqT.of (ok.sub _ _ h2)) (rsvs_dp ok h3 e3 (PyData.hasDictAll_of_canLayAll ds hs.2.2))), hs.2.1, hs.2.2, hs.1, rfl⟩
        · cases e
    | none =>
      cases e4 : lstM W.h y with
      | none => simp only [e1, e2, e4] at e; cases e
      | some ms =>
        simp only [e1, e2, e4] at e
        cases e3 : rsvs W.h ms with
        | none => simp only [e3] at e; cases e
        | some ds =>
          simp only [e3] at e
          split at e
          · rename_i hs
            simp only [Bool.and_eq_true, decide_eq_true_eq] at hs
            cases e
            obtain ⟨a, vs, h1, h2, h3⟩ := lstM_ok ok r2 e4
            subst h1
            exact ⟨d, ds, rsv_dp ok r1 e1 (PyData.hasDict_of_canLay d hs.2.1), .inl (.lst (SqL.of h2) (rsvs_dp ok h3 e3 (PyData.hasDictAll_of_canLayAll ds hs.2.2))), hs.2.1, hs.2.2, hs.1, rfl⟩
          · cases e
theorem j_in : J2 K (rInM K false) oIn := fun E W x y v u Q ok r1 r2 p => by
  unfold oIn at p
  cases e : inD W.h x y with
  | none => simp only [e] at p; exact p.elim
  | some k =>
    simp only [e] at p
    obtain ⟨d, ds, h1, h2, h3, h4, h5, h6⟩ := inD_ok ok r1 r2 e
    subst h6
    exact ⟨d, ds, h1, h2, h3, h4, h5, PostG.ret (a := M.d (.bool _)) ok p _ (by simp only [RM, RD]; rfl)⟩
theorem j_notIn : J2 K (rInM K true) oNotIn := fun E W x y v u Q ok r1 r2 p => by
  unfold oNotIn at p
  cases e : inD W.h x y with
  | none => simp only [e] at p; exact p.elim
  | some k =>
    simp only [e] at p
    obtain ⟨d, ds, h1, h2, h3, h4, h5, h6⟩ := inD_ok ok r1 r2 e
    subst h6
    exact ⟨d, ds, h1, h2, h3, h4, h5, PostG.ret (a := M.d (.bool (!_))) ok p _ (by simp only [RM, RD]; rfl)⟩
/-- is None, is not None; is True .. -/
def isNone : M → Bool
  | .d .none => true
  | _ => false
def oIsN : Op2 := fun x y => match y with
  | .d .none => rt (.d (.bool (isNone x)))
  | _ => fail
def oNotN : Op2 := fun x y => match y with
  | .d .none => rt (.d (.bool (!isNone x)))
  | _ => fail
theorem isNone_ok {W : Wd} {x : M} {v : V} (r : RV K W x v) : decide (v = .non) = isNone x := by
  cases x with
  | d y =>
    cases y with
    | none => simp only [RM, RD] at r; subst r; rfl
    | bool b => simp only [RM, RD] at r; subst r; rfl
    | int b => simp only [RM, RD] at r; subst r; rfl
    | str b => simp only [RM, RD] at r; subst r; rfl
    | list b => simp only [RM, RD] at r; obtain ⟨a, vs, h, _⟩ := r; subst h; rfl
    | tuple b => simp only [RM, RD] at r; obtain ⟨a, vs, h, _⟩ := r; subst h; rfl
    | dict b => simp only [RM, RD] at r; obtain ⟨a, ps, h, _⟩ := r; subst h; rfl
  | obj k => simp only [RM] at r; rw [r.2]; rfl
  | tup ms => simp only [RM] at r; obtain ⟨a, vs, h, _⟩ := r; subst h; rfl
  | scr ns => simp only [RM] at r; obtain ⟨a, h, _⟩ := r; subst h; rfl
  | ad a => simp only [RM] at r; subst r; rfl
theorem j_isN : J2 K (fun x y H Q => y = .non ∧ Q (.bl (decide (x = .non))) H) oIsN := fun E W x y v u Q ok r1 r2 p => by
  unfold oIsN at p
  split at p
  · simp only [RM, RD] at r2
    exact ⟨r2, PostG.ret ok p _ (by simp only [RM, RD]; rw [isNone_ok r1])⟩
  · exact p.elim
theorem j_notN : J2 K (fun x y H Q => y = .non ∧ Q (.bl (!decide (x = .non))) H) oNotN := fun E W x y v u Q ok r1 r2 p => by
  unfold oNotN at p
  split at p
  · simp only [RM, RD] at r2
    exact ⟨r2, PostG.ret ok p _ (by simp only [RM, RD]; rw [isNone_ok r1])⟩
  · exact p.elim
def oIsB : Op2
  | .d (.bool a), .d (.bool b) => rt (.d (.bool (decide (a = b))))
  | _, _ => fail
def oNotB : Op2
  | .d (.bool a), .d (.bool b) => rt (.d (.bool (!decide (a = b))))
  | _, _ => fail
theorem j_isB : J2 K rIsB oIsB := fun E W x y v u Q ok r1 r2 p => by
  unfold oIsB at p
  split at p
  · exact ⟨_, _, bl_of r1, bl_of r2, PostG.ret ok p _ (by simp only [RM, RD])⟩
  · exact p.elim
theorem j_notB : J2 K rNotB oNotB := fun E W x y v u Q ok r1 r2 p => by
  unfold oNotB at p
  split at p
  · exact ⟨_, _, bl_of r1, bl_of r2, PostG.ret ok p _ (by simp only [RM, RD])⟩
  · exact p.elim
/-- tuples of whole numbers -/
def intsD : List PyData → Option (List Int)
  | [] => some []
  | .int i :: r => match intsD r with
    | some ns => some (i :: ns)
    | none => none
  | _ :: _ => none
theorem intsD_map : ∀ ns : List Int, intsD (ns.map PyData.int) = some ns
  | [] => rfl
  | n :: ns => by simp only [List.map_cons, intsD, intsD_map ns]
theorem intsD_rel {F : Hp} : ∀ {ds : List PyData} {ns : List Int} {vs : List V}, intsD ds = some ns → RDs F ds vs → vs = ns.map V.int
  | [], ns, vs, e, r => by cases e; simp only [RDs] at r; rw [r]; rfl
  | .int i :: ds, ns, vs, e, r => by
    simp only [intsD] at e
    cases e1 : intsD ds with
    | none => rw [e1] at e; cases e
    | some ms =>
      rw [e1] at e
      cases e
      simp only [RDs, RD] at r
      obtain ⟨v, ws, h1, h2, h3⟩ := r
      rw [h1, h2, intsD_rel e1 h3]; rfl
  | .none :: _, _, _, e, _ => by cases e
  | .bool _ :: _, _, _, e, _ => by cases e
  | .str _ :: _, _, _, e, _ => by cases e
  | .list _ :: _, _, _, e, _ => by cases e
  | .tuple _ :: _, _, _, e, _ => by cases e
  | .dict _ :: _, _, _, e, _ => by cases e
def tupI : M → Option (List Int)
  | .d (.tuple xs) => intsD xs
  | _ => none
def oLtT : Op2 := fun x y => match tupI x, tupI y with
  | some ns, some ms => rt (.d (.bool (HT.lexLt ns ms)))
  | _, _ => oLt x y
theorem tupI_ok {W : Wd} {x : M} {v : V} {ns : List Int} (ok : W.Ok K) (r : RV K W x v) (e : tupI x = some ns) : ∃ a, v = .ref a ∧ SqT K W.H a (ns.map V.int) := by
  cases x with
  | d y =>
    cases y with
    | tuple xs =>
      simp only [tupI] at e
      simp only [RM, RD] at r
      obtain ⟨a, vs, h1, h2, h3⟩ := r
      have z := intsD_rel e h3
      subst z
      exact ⟨a, h1, SqT.of (ok.sub _ _ h2)⟩
    | _ => cases e
  | _ => cases e
theorem j_ltT : J2 K (fun x y H Q => rLtT K x y H Q ∨ rI0 (fun i j => .bl (decide (i < j))) x y H Q) oLtT := fun E W x y v u Q ok r1 r2 p => by
  unfold oLtT at p
  cases e1 : tupI x with
  | none => simp only [e1] at p; exact .inr (j_lt E W x y v u Q ok r1 r2 p)
  | some ns =>
    cases e2 : tupI y with
    | none => simp only [e1, e2] at p; exact .inr (j_lt E W x y v u Q ok r1 r2 p)
    | some ms =>
      simp only [e1, e2] at p
      obtain ⟨a, h1, h2⟩ := tupI_ok ok r1 e1
      obtain ⟨b, g1, g2⟩ := tupI_ok ok r2 e2
      exact .inl ⟨a, b, ns, ms, h1, g1, h2, g2, PostG.ret ok p _ (by simp only [RM, RD])⟩
end

/-! ### slices -/
def cutG {α : Type} (xs : List α) (lo hi : Option Int) : List α := (xs.drop (HT.sIx xs.length 0 lo)).take (HT.sIx xs.length xs.length hi - HT.sIx xs.length 0 lo)
theorem RMs.drop {K : PySem.W.Frag} {ρ : Nat → Addr} {F : Hp} {n : Nat} : ∀ {ms : List M} {vs : List V} (k : Nat), RMs K ρ F n ms vs → RMs K ρ F n (ms.drop k) (vs.drop k)
  | ms, vs, 0, r => r
  | [], vs, k + 1, r => by simp only [RMs] at r; subst r; simp only [List.drop_nil, RMs]
  | m :: ms, vs, k + 1, r => by
    simp only [RMs] at r
    obtain ⟨v, ws, h1, h2, h3⟩ := r
    subst h1
    exact RMs.drop k h3
theorem RMs.take {K : PySem.W.Frag} {ρ : Nat → Addr} {F : Hp} {n : Nat} : ∀ {ms : List M} {vs : List V} (k : Nat), RMs K ρ F n ms vs → RMs K ρ F n (ms.take k) (vs.take k)
  | ms, vs, 0, r => by simp only [List.take_zero, RMs]
  | [], vs, k + 1, r => by simp only [RMs] at r; subst r; simp only [List.take_nil, RMs]
  | m :: ms, vs, k + 1, r => by
    simp only [RMs] at r
    obtain ⟨v, ws, h1, h2, h3⟩ := r
    subst h1
    simp only [List.take_succ_cons, RMs]
    exact ⟨v, ws.take k, rfl, h2, RMs.take k h3⟩
theorem RMs.cut {K : PySem.W.Frag} {W : Wd} {ms : List M} {vs : List V} (lo hi : Option Int) (r : RVs K W ms vs) : RVs K W (cutG ms lo hi) (cutV vs lo hi) := by
  unfold cutG cutV
  rw [RMs.length r]
  exact (r.drop _).take _
def asI : M → Sm Int
  | .d (.int i) => rt i
  | _ => fail
def oPart : Option ES → Env → Sm (Option Int)
  | none, _ => rt none
  | some f, env => bnd (f env) fun m => bnd (asI m) fun i => rt (some i)
theorem asI_ok {K : PySem.W.Frag} {E : XE} {W : Wd} {m : M} {v : V} {Q : Int → Wd → Prop} (ok : W.Ok K) (r : RV K W m v) (p : PostG K E W (asI m W.h) Q) : ∃ k, v = .int k ∧ Q k W := by
  cases m with
  | d x =>
    cases x with
    | int b => exact ⟨b, int_of r, PostG.ret ok p⟩
    | _ => exact p.elim
  | _ => exact p.elim
def cutS' (x : M) (lo hi : Option Int) : Sm M := fun h => match x with
  | .d (.str z) => if z.length ≤ LIM then some (.val (.d (.str (cutS z lo hi))) h) else none
  | _ => match tupM x with
    | some ms => some (.val (mkTup (cutG ms lo hi)) h)
    | none => match lstM h x with
      | some ms => mkL (cutG ms lo hi) h
      | none => none
def eSl (f : ES) (lo hi : Option ES) : ES := fun env => bnd (f env) fun x => bnd (oPart lo env) fun l => bnd (oPart hi env) fun u => cutS' x l u
def rSl3 (K : PySem.W.Frag) : V → Option Int → Option Int → Hp → VK → Prop := fun x lo hi H Q => rSlS x lo hi H Q ∨ rSlA K x lo hi H Q ∨ rSlL K x lo hi H Q
theorem sl3 {X : Cx} : SlR X (rSl3 X.K) := sl_str.or (sl_tupA.or sl_list)
section
variable {K : PySem.W.Frag} {E : XE}
theorem cut_whole {α : Type} {xs : List α} {lo hi : Option Int} (h : HT.sIx xs.length 0 lo = 0 ∧ HT.sIx xs.length xs.length hi = xs.length) : cutG xs lo hi = xs := by
  unfold cutG
  rw [h.1, h.2, List.drop_zero, Nat.sub_zero, List.take_length]
theorem cutS'_ok {W : Wd} {x : M} {v : V} {lo hi : Option Int} {Q : VK} (ok : W.Ok K) (r : RV K W x v) (p : PostG K E W (cutS' x lo hi W.h) (QV K Q)) : rSl3 K v lo hi W.H Q := by
  unfold cutS' at p
  split at p
  · rename_i z
    split at p
    · rename_i hl
      exact .inl ⟨z, str_of r, hl, PostG.ret (a := M.d (.str (cutS z lo hi))) ok p _ (by simp only [RM, RD])⟩
    · exact p.elim
  · split at p
    · rename_i ms e
      obtain ⟨a, vs, h1, h2, h3⟩ := tupM_ok ok r e
      refine .inr (.inl ⟨a, vs, h1, SqT.of (ok.sub _ _ h2), fun hw => ?_, fun _ => mkTup_fin ok (RMs.cut lo hi h3) p⟩)
      rw [RMs.length h3] at hw
      rw [cut_whole hw] at p
      have := p W rfl ok (Step.refl W) _ (tup_is r e)
      rw [h1] at this
      exact this
    · split at p
      · rename_i ms e
        obtain ⟨a, vs, h1, h2, h3⟩ := lstM_ok ok r e
        exact .inr (.inr ⟨a, vs, h1, SqL.of h2, mkL_fin ok (RMs.cut lo hi h3) p⟩)
      · exact p.elim
/-- an optional part -/
def tO (K : PySem.W.Frag) (E : XE) (f : Option ES) : TO := fun σ H Q => ∃ W env, W.H = H ∧ W.Ok K ∧ ER K W env σ ∧ PostG K E W (oPart f env W.h) fun o W' => Q o W'.H
end
section
variable {X : Cx} {E : XE} {pos p2 : Pos} {e : Expr} {f : ES}
theorem PO.imp {e : Option Expr} {t t' : TO} (h : PO X e t) (i : ∀ σ H Q, t' σ H Q → t σ H Q) : PO X e t' := ⟨fun pins s σ H Q I q => h.run pins s σ H Q I (i σ H Q q)⟩
theorem o_none : PO X none (tO X.K E none) := PO.imp po_none fun σ H Q ⟨W, env, hH, ok, er, p⟩ => by
  subst hH
  exact PostG.ret ok p
theorem o_some (h : PE X e (tM X.K E f)) : PO X (some e) (tO X.K E (some f)) := PO.imp (po_some h) fun σ H Q ⟨W, env, hH, ok, er, p⟩ => by
  subst hH
  refine ⟨W, env, rfl, ok, er, (PostG.bind p).mono fun m W1 ok1 s1 p1 v rv => ?_⟩
  obtain ⟨i, e1, p2⟩ := asI_ok ok1 rv (PostG.bind p1)
  exact ⟨i, e1, PostG.ret ok1 p2⟩
theorem p_slice {lo hi : Option Expr} {fl fh : Option ES} (he : PE X e (tM X.K E f)) (hl : PO X lo (tO X.K E fl)) (hu : PO X hi (tO X.K E fh)) : PE X (.Subscript e (.Slice lo hi none p2) pos) (tM X.K E (eSl f fl fh)) :=
  PE.imp (pe_slice sl3 he hl hu) fun σ H Q ⟨W, env, hH, ok, er, p⟩ => by
    subst hH
    refine ⟨W, env, rfl, ok, er, (PostG.bind p).mono fun x W1 ok1 s1 p1 v rv => ⟨W1, env, rfl, ok1, er.step s1, (PostG.bind p1).mono fun l W2 ok2 s2 p2 => ⟨W2, env, rfl, ok2, (er.step s1).step s2, (PostG.bind p2).mono fun u W3 ok3 s3 p3 => ?_⟩⟩⟩
    exact cutS'_ok ok3 (RM.step rv (s2.trans s3)) p3
/-- x[::-1] of a list -/
def revM (x : M) : Sm M := fun h => match lstM h x with
  | some ms => mkL ms.reverse h
  | none => none
def eRev (f : ES) : ES := fun env => bnd (f env) revM
theorem RMs.reverse {K : PySem.W.Frag} {ρ : Nat → Addr} {F : Hp} {n : Nat} : ∀ {ms : List M} {vs : List V}, RMs K ρ F n ms vs → RMs K ρ F n ms.reverse vs.reverse
  | [], vs, r => by simp only [RMs] at r; subst r; simp only [List.reverse_nil, RMs]
  | m :: ms, vs, r => by
    simp only [RMs] at r
    obtain ⟨v, ws, h1, h2, h3⟩ := r
    subst h1
    rw [List.reverse_cons, List.reverse_cons]
    exact (RMs.reverse h3).append (by simp only [RMs]; exact ⟨v, [], rfl, h2, rfl⟩)
theorem p_rev {k : Nat} {q1 q2 q3 : Pos} (he : PE X e (tM X.K E f)) : PE X (.Subscript e (.Slice none none (some (.UnaryOp .USub (.Constant (.int 1) k q1) q2)) q3) pos) (tM X.K E (eRev f)) := PE.imp (pe_revL he) fun σ H Q ⟨W, env, hH, ok, er, p⟩ => by
  subst hH
  refine ⟨W, env, rfl, ok, er, (PostG.bind p).mono fun x W1 ok1 s1 p1 v rv => ?_⟩
  unfold revM at p1
  split at p1
  · rename_i ms e
    obtain ⟨a, vs, h1, h2, h3⟩ := lstM_ok ok1 rv e
    exact ⟨a, vs, h1, SqL.of h2, mkL_fin ok1 (RMs.reverse h3) p1⟩
  · exact p1.elim
/-- -x -/
def eNeg (f : ES) : ES := fun env => bnd (f env) fun m => bnd (asI m) fun i => rt (.d (.int (-i)))
theorem p_neg {a : Expr} (he : PE X a (tM X.K E f)) : PE X (.UnaryOp .USub a pos) (tM X.K E (eNeg f)) := PE.imp (pe_un un_neg he) fun σ H Q ⟨W, env, hH, ok, er, p⟩ => by
  subst hH
  refine ⟨W, env, rfl, ok, er, (PostG.bind p).mono fun m W1 ok1 s1 p1 v rv => ?_⟩
  obtain ⟨i, e1, p2⟩ := asI_ok ok1 rv (PostG.bind p1)
  exact ⟨i, e1, PostG.ret ok1 p2 _ (by simp only [RM, RD])⟩
end

/-! ### built-ins -/
abbrev OpN := List M → Sm M
def eB (op : OpN) (fs : Env → Sm (List M)) : ES := fun env => bnd (fs env) op
def JC (K : PySem.W.Frag) (r : List V → Hp → VK → Prop) (op : OpN) : Prop := ∀ (E : XE) (W : Wd) (xs : List M) (vs : List V) (Q : VK), W.Ok K → RVs K W xs vs → PostG K E W (op xs W.h) (QV K Q) → r vs W.H Q
section
variable {X : Cx} {E : XE} {pos p : Pos} {x : Str} {e : Expr} {es : List Expr} {fs : Env → Sm (List M)} {id T : String} {r : List V → Hp → VK → Prop} {op : OpN}
theorem t_B {K : PySem.W.Frag} (j : JC K r op) : ∀ σ H Q, tM K E (eB op fs) σ H Q → tCB r (tA K E fs) σ H Q := fun σ H Q ⟨W, env, hH, ok, er, p⟩ => by
  subst hH
  exact ⟨W, env, rfl, ok, er, (PostG.bind p).mono fun ms W1 ok1 s1 p1 vs rvs => j E W1 ms vs Q ok1 rvs p1⟩
theorem p_B (hc : CallR X (.builtin id) r) (j : JC X.K r op) (hg : Gl X x) (hm : X.mg x = none) (hv : bootBuiltins x = some (.builtin id)) (ha : PA X (e :: es) (tA X.K E fs)) (hn : x ≠ "__name__" := by decide) (hdb : (x == ("__debug__" : Str)) = false := by decide)
    (he : starEach (e :: es) X.env = (false, eval e X.env) :: starEach es X.env := by rfl) (hpl : (backTo pos (starEach es X.env)).any (·.1) = false := by rfl) : PE X (.Call (.Name x p) (e :: es) [] pos) (tM X.K E (eB op fs)) := PE.imp (pe_callB hc hg hm hv ha hn hdb he hpl) (t_B j)
theorem p_Ty (hc : CallR X (.type T) r) (j : JC X.K r op) (hg : Gl X x) (hm : X.mg x = none) (hv : bootBuiltins x = some (.type T)) (ha : PA X (e :: es) (tA X.K E fs)) (hn : x ≠ "__name__" := by decide) (hdb : (x == ("__debug__" : Str)) = false := by decide)
    (he : starEach (e :: es) X.env = (false, eval e X.env) :: starEach es X.env := by rfl) (hpl : (backTo pos (starEach es X.env)).any (·.1) = false := by rfl) : PE X (.Call (.Name x p) (e :: es) [] pos) (tM X.K E (eB op fs)) := PE.imp (pe_callTy hc hg hm hv ha hn hdb he hpl) (t_B j)
end
theorem RMs.one {K : PySem.W.Frag} {ρ : Nat → Addr} {F : Hp} {n : Nat} {m : M} {vs : List V} (r : RMs K ρ F n [m] vs) : ∃ v, vs = [v] ∧ RM K ρ F n m v := by
  simp only [RMs] at r
  obtain ⟨v, ws, h1, h2, h3⟩ := r
  subst h3
  exact ⟨v, h1, h2⟩
theorem RMs.two {K : PySem.W.Frag} {ρ : Nat → Addr} {F : Hp} {n : Nat} {m m' : M} {vs : List V} (r : RMs K ρ F n [m, m'] vs) : ∃ v v', vs = [v, v'] ∧ RM K ρ F n m v ∧ RM K ρ F n m' v' := by
  simp only [RMs] at r
  obtain ⟨v, ws, h1, h2, v', ws', h3, h4, h5⟩ := r
  subst h5; subst h3
  exact ⟨v, v', h1, h2, h4⟩
section
variable {K : PySem.W.Frag}
def lenM (h : Hh) : M → Option Nat
  | .d (.str z) => if z.length ≤ LIM then some z.length else none
  | .scr ns => some ns.length
  | m => match tupM m with
    | some ms => some ms.length
    | none => match lstM h m with
      | some ms => some ms.length
      | none => none
def nLen : OpN := fun xs h => match xs with
  | [m] => match lenM h m with
    | some n => some (.val (.d (.int (n : Int))) h)
    | none => none
  | _ => none
theorem lenM_ok {W : Wd} {m : M} {v : V} {n : Nat} (ok : W.Ok K) (r : RV K W m v) (e : lenM W.h m = some n) : LenV K v W.H n := by
  unfold lenM at e
  split at e
  · rename_i z
    split at e
    · rename_i hl
      cases e
      rw [str_of r]
      exact ⟨hl, rfl⟩
    · cases e
  · rename_i ns
    cases e
    simp only [RM] at r
    obtain ⟨a, h1, h2⟩ := r
    rw [h1]
    exact .inl ⟨_, Evl.ex_l ok.sub h2, by rw [List.length_map]⟩
  · split at e
    · rename_i ms e1
      cases e
      obtain ⟨a, vs, h1, h2, h3⟩ := tupM_ok ok r e1
      rw [h1]
      exact .inr ⟨vs, SqT.of (ok.sub _ _ h2), (RMs.length h3).symm⟩
    · split at e
      · rename_i ms e1
        cases e
        obtain ⟨a, vs, h1, h2, h3⟩ := lstM_ok ok r e1
        rw [h1]
        exact .inl ⟨vs, SqL.of h2, (RMs.length h3).symm⟩
      · cases e
theorem jc_len : JC K (fun xs H Q => ∃ x n, xs = [x] ∧ LenV K x H n ∧ Q (.int n) H) nLen := fun E W xs vs Q ok r p => by
  unfold nLen at p
  split at p
  · rename_i m
    split at p
    · rename_i n e
      obtain ⟨v, h1, h2⟩ := RMs.one r
      exact ⟨v, n, h1, lenM_ok ok h2 e, PostG.ret (a := M.d (.int (n : Int))) ok p _ (by simp only [RM, RD])⟩
    · exact p.elim
  · exact p.elim
def nAbs : OpN
  | [.d (.int i)] => rt (.d (.int (if i < 0 then -i else i)))
  | _ => fail
theorem jc_abs : JC K (fun xs H Q => ∃ i, xs = [.int i] ∧ Q (.int (if i < 0 then -i else i)) H) nAbs := fun E W xs vs Q ok r p => by
  unfold nAbs at p
  split at p
  · rename_i i
    obtain ⟨v, h1, h2⟩ := RMs.one r
    exact ⟨i, by rw [h1, int_of h2], PostG.ret ok p _ (by simp only [RM, RD])⟩
  · exact p.elim
def nMax2 : OpN
  | [.d (.int i), .d (.int j)] => rt (.d (.int (if j > i then j else i)))
  | _ => fail
def nMin2 : OpN
  | [.d (.int i), .d (.int j)] => rt (.d (.int (if j < i then j else i)))
  | _ => fail
theorem jc_max2 : JC K (fun xs H Q => ∃ i j, xs = [.int i, .int j] ∧ Q (.int (if j > i then j else i)) H) nMax2 := fun E W xs vs Q ok r p => by
  unfold nMax2 at p
  split at p
  · rename_i i j
    obtain ⟨v, v', h1, h2, h3⟩ := RMs.two r
    exact ⟨i, j, by rw [h1, int_of h2, int_of h3], PostG.ret ok p _ (by simp only [RM, RD])⟩
  · exact p.elim
theorem jc_min2 : JC K (fun xs H Q => ∃ i j, xs = [.int i, .int j] ∧ Q (.int (if j < i then j else i)) H) nMin2 := fun E W xs vs Q ok r p => by
  unfold nMin2 at p
  split at p
  · rename_i i j
    obtain ⟨v, v', h1, h2, h3⟩ := RMs.two r
    exact ⟨i, j, by rw [h1, int_of h2, int_of h3], PostG.ret ok p _ (by simp only [RM, RD])⟩
  · exact p.elim
/-- a list of truths, of whole numbers -/
def blsM : List M → Option (List Bool)
  | [] => some []
  | .d (.bool b) :: r => match blsM r with
    | some bs => some (b :: bs)
    | none => none
  | _ :: _ => none
theorem blsM_map : ∀ bs : List Bool, blsM (bs.map fun b => M.d (.bool b)) = some bs
  | [] => rfl
  | b :: bs => by simp only [List.map_cons, blsM, blsM_map bs]
theorem blsM_rel {W : Wd} : ∀ {ms : List M} {bs : List Bool} {vs : List V}, blsM ms = some bs → RVs K W ms vs → vs = bs.map V.bl
  | [], bs, vs, e, r => by cases e; simp only [RMs] at r; rw [r]; rfl
  | m :: ms, bs, vs, e, r => by
    simp only [RMs] at r
    obtain ⟨v, ws, h1, h2, h3⟩ := r
    cases m with
    | d x =>
      cases x with
      | bool b =>
        simp only [blsM] at e
        cases e1 : blsM ms with
        | none => rw [e1] at e; cases e
        | some cs => rw [e1] at e; cases e; rw [h1, bl_of h2, blsM_rel e1 h3]; rfl
      | _ => cases e
    | _ => cases e
def intsM : List M → Option (List Int)
  | [] => some []
  | .d (.int b) :: r => match intsM r with
    | some bs => some (b :: bs)
    | none => none
  | _ :: _ => none
theorem intsM_map : ∀ bs : List Int, intsM (bs.map fun b => M.d (.int b)) = some bs
  | [] => rfl
  | b :: bs => by simp only [List.map_cons, intsM, intsM_map bs]
theorem intsM_rel {W : Wd} : ∀ {ms : List M} {bs : List Int} {vs : List V}, intsM ms = some bs → RVs K W ms vs → vs = bs.map V.int
  | [], bs, vs, e, r => by cases e; simp only [RMs] at r; rw [r]; rfl
  | m :: ms, bs, vs, e, r => by
    simp only [RMs] at r
    obtain ⟨v, ws, h1, h2, h3⟩ := r
    cases m with
    | d x =>
      cases x with
      | int b =>
        simp only [intsM] at e
        cases e1 : intsM ms with
        | none => rw [e1] at e; cases e
        | some cs => rw [e1] at e; cases e; rw [h1, int_of h2, intsM_rel e1 h3]; rfl
      | _ => cases e
    | _ => cases e
def nAll : OpN := fun xs h => match xs with
  | [m] => match (lstM h m).bind blsM with
    | some bs => some (.val (.d (.bool (bs.all id))) h)
    | none => none
  | _ => none
def nAny : OpN := fun xs h => match xs with
  | [m] => match (lstM h m).bind blsM with
    | some bs => some (.val (.d (.bool (bs.any id))) h)
    | none => none
  | _ => none
theorem jc_all : JC K (rAll K) nAll := fun E W xs vs Q ok r p => by
  unfold nAll at p
  split at p
  · rename_i m
    split at p
    · rename_i bs e
      obtain ⟨v, h1, h2⟩ := RMs.one r
      obtain ⟨ms, e1, e2⟩ := Option.bind_eq_some_iff.mp e
      obtain ⟨a, us, g1, g2, g3⟩ := lstM_ok ok h2 e1
      have z := blsM_rel e2 g3
      subst z
      exact ⟨a, bs, by rw [h1, g1], SqL.of g2, PostG.ret (a := M.d (.bool (bs.all id))) ok p _ (by simp only [RM, RD])⟩
    · exact p.elim
  · exact p.elim
theorem jc_any : JC K (rAny K) nAny := fun E W xs vs Q ok r p => by
  unfold nAny at p
  split at p
  · rename_i m
    split at p
    · rename_i bs e
      obtain ⟨v, h1, h2⟩ := RMs.one r
      obtain ⟨ms, e1, e2⟩ := Option.bind_eq_some_iff.mp e
      obtain ⟨a, us, g1, g2, g3⟩ := lstM_ok ok h2 e1
      have z := blsM_rel e2 g3
      subst z
      exact ⟨a, bs, by rw [h1, g1], SqL.of g2, PostG.ret (a := M.d (.bool (bs.any id))) ok p _ (by simp only [RM, RD])⟩
    · exact p.elim
  · exact p.elim
def nInt : OpN
  | [.d (.int i)] => rt (.d (.int i))
  | [.d (.bool k)] => rt (.d (.int (if k then 1 else 0)))
  | _ => fail
theorem jc_int : JC K (fun xs H Q => (∃ i, xs = [.int i] ∧ Q (.int i) H) ∨ ∃ k, xs = [.bl k] ∧ Q (.int (if k then 1 else 0)) H) nInt := fun E W xs vs Q ok r p => by
  unfold nInt at p
  split at p
  · rename_i i
    obtain ⟨v, h1, h2⟩ := RMs.one r
    exact .inl ⟨i, by rw [h1, int_of h2], PostG.ret ok p _ (by simp only [RM, RD])⟩
  · rename_i k
    obtain ⟨v, h1, h2⟩ := RMs.one r
    exact .inr ⟨k, by rw [h1, bl_of h2], PostG.ret ok p _ (by simp only [RM, RD])⟩
  · exact p.elim
/-- tuple(..) -/
def nTup : OpN := fun xs h => match xs with
  | [m] => match tupM m with
    | some _ => some (.val m h)
    | none => match lstM h m with
      | some ms => some (.val (mkTup ms) h)
      | none => none
  | _ => none
theorem jc_tup : JC K (fun xs H Q => ∃ p ys, xs = [.ref p] ∧ ((SqL K H p ys ∧ ∀ l, H l = none → Q (.ref l) (upd H l (.tup ys))) ∨ (SqT K H p ys ∧ Q (.ref p) H))) nTup := fun E W xs vs Q ok r p => by
  unfold nTup at p
  split at p
  · rename_i m
    obtain ⟨v, h1, h2⟩ := RMs.one r
    split at p
    · rename_i ms e
      obtain ⟨a, us, g1, g2, g3⟩ := tupM_ok ok h2 e
      subst g1
      exact ⟨a, us, h1, .inr ⟨SqT.of (ok.sub _ _ g2), p W rfl ok (Step.refl W) _ h2⟩⟩
    · split at p
      · rename_i ms e
        obtain ⟨a, us, g1, g2, g3⟩ := lstM_ok ok h2 e
        subst g1
        exact ⟨a, us, h1, .inl ⟨SqL.of g2, mkTup_fin ok g3 p⟩⟩
      · exact p.elim
  · exact p.elim
/-- repr(..) -/
def shwC (d : PyData) : Bool := d.showable && (decide (d.shown.length ≤ LIM) && decide (d.depth ≤ 60))
def nRepr : OpN := fun xs h => match xs with
  | [m] => match rsv h m with
    | some d => if shwC d = true then some (.val (.d (.str d.shown)) h) else none
    | none => none
  | _ => none
def rReprM (K : PySem.W.Frag) : List V → Hp → VK → Prop := fun xs H Q => ∃ x d, xs = [x] ∧ Dq K H x d ∧ d.showable = true ∧ d.shown.length ≤ sizeLine ∧ d.depth ≤ 60 ∧ Q (.str d.shown) H
/-- what is shown of data, dicts of ints among them -/
structure Shn (P : Program) (w : World) (h : Heap) (u : Value) (d : PyData) (as bs : List Addr) : Prop where
  rd : Reads h u d as
  few : ReadAtMost h d.depth bs
  shw : ReprK P w bs h d.depth u d.shown
structure ShnL (P : Program) (w : World) (h : Heap) (us : List Value) (ds : List PyData) (as bs : List Addr) : Prop where
  rd : ReadsAll h us ds as
  few : ReadAtMost h (PyData.depthAll ds) bs
  shw : ReprAllK P w bs h (PyData.depthAll ds) us (PyData.shownAll ds)
theorem few_nil {h : Heap} {n : Nat} : ReadAtMost h n [] := fun b hb => by cases hb
theorem shnl_cons {P : Program} {w : World} {h : Heap} {u : Value} {us : List Value} {d : PyData} {ds : List PyData} {as bs as' bs' : List Addr} (x : Shn P w h u d as bs) (y : ShnL P w h us ds as' bs') : ShnL P w h (u :: us) (d :: ds) (as ++ as') (bs ++ bs') := by
  refine ⟨.cons x.rd y.rd, ?_, ?_⟩
  · rw [PyData.depthAll]
    exact (x.few.mono (Nat.le_max_left _ _)).append (y.few.mono (Nat.le_max_right _ _))
  · rw [PyData.depthAll, PyData.shownAll]
    have s1 := (x.shw.more (as' := bs ++ bs') fun b hb => List.mem_append.mpr (.inl hb)).level_le (Nat.le_max_left d.depth (PyData.depthAll ds))
    exact .cons s1 (y.shw.more_le (fun b hb => List.mem_append.mpr (.inr hb)) (Nat.le_max_right _ _))
structure ShnK (P : Program) (w : World) (h : Heap) (es : List DictEntry) (kvs : List (PyData × PyData)) (as bs : List Addr) : Prop where
  rk : ReadsAll h (es.map (·.key)) (kvs.map (·.1)) []
  rv : ReadsAll h (es.map (·.val)) (kvs.map (·.2)) as
  few : ReadAtMost h (PyData.depthKv kvs) bs
  shw : ReprEntriesK P w bs h (PyData.depthKv kvs) es (PyData.shownKv kvs)
theorem entries_more {P : Program} {w : World} {h : Heap} {as as' : List Addr} {d d' : Nat} (hs : ∀ b ∈ as, b ∈ as') (hd : d ≤ d') : ∀ {es : List DictEntry} {ts : List Str}, ReprEntriesK P w as h d es ts → ReprEntriesK P w as' h d' es ts
  | _, _, .nil => .nil
  | _, _, .cons k v r => .cons ((k.more hs).level_le hd) ((v.more hs).level_le hd) (entries_more hs hd r)
section
variable {X : Cx} {pins : List (Addr × Obj)} {σ : St} {H : Hp} {s : Shared}
mutual
theorem Dq.shn (I : Inv X pins σ H s) : ∀ (d : PyData) (v : V) (u : Value), Dq X.K H v d → RelV v u → d.showable = true → d.shown.length ≤ sizeLine → ∃ as bs, Shn X.prog X.w s.heap u d as bs
  | .none, _, _, q, r, _, _ => by
    cases q; cases r
    exact ⟨[], [], .none, few_nil, .of_is ReprIs.none _ _ _⟩
  | .bool b, _, _, q, r, _, _ => by
    cases q; cases r
    refine ⟨[], [], .bool b, few_nil, ?_⟩
    rw [PyData.shown]
    exact .of_is (ReprIs.bool b) _ _ _
  | .int i, _, _, q, r, hs, _ => by
    cases q
    obtain ⟨t, rfl⟩ := r
    refine ⟨[], [], .int i t, few_nil, ?_⟩
    rw [PyData.shown]
    rw [PyData.showable, decide_eq_true_eq] at hs
    exact .of_is (ReprIs.int t hs) _ _ _
  | .str x, _, _, q, r, _, hz => by
    cases q
    obtain ⟨t, rfl⟩ := r
    refine ⟨[], [], .str x t, few_nil, ?_⟩
    rw [PyData.shown] at hz ⊢
    exact .of_is (ReprIs.str x t hz) _ _ _
  | .list ds, _, _, q, r, hs, hz => by
    cases q with
    | lst q1 q2 =>
      cases r
      obtain ⟨its, rv, ⟨o, n, ho, hc, _, hd⟩, _⟩ := I.list q1
      rw [PyData.shown] at hz
      rw [PyData.showable] at hs
      obtain ⟨as, bs, z⟩ := DqAll.shn I ds _ its q2 rv hs fun t ht => Nat.le_trans (listText_mem_le ht) hz
      have rd := Reads.list ho hc hd (a := _) (vs := its.toArray) z.rd
      have out := not_mem_of_deeper rd (by rw [PyData.depth]; exact Nat.lt_succ_self _) z.few
      refine ⟨_, _, rd, ReadAtMost.cons rd (by rw [PyData.depth]; exact Nat.le_succ _) z.few, ?_⟩
      rw [PyData.depth, PyData.shown]
      have hk := z.shw
      cases its with
      | nil =>
        cases ds with
        | nil => exact ReprK.listEmpty ho hc hd
        | cons _ _ => cases hk
      | cons y l => exact ReprK.list ho hc hd out (by rw [hk.length_eq]; rfl) fun i y e => hk.item i y (by simpa using e)
  | .tuple ds, _, _, q, r, hs, hz => by
    cases q with
    | tup q1 q2 =>
      cases r
      obtain ⟨its, rv, ⟨o, ho, hc, n, hd⟩, _⟩ := I.tuple q1
      rw [PyData.shown] at hz
      rw [PyData.showable] at hs
      obtain ⟨as, bs, z⟩ := DqAll.shn I ds _ its q2 rv hs fun t ht => Nat.le_trans (tupleText_mem_le ht) hz
      have rd := Reads.tuple ho hc hd (a := _) (vs := its.toArray) z.rd
      have out := not_mem_of_deeper rd (by rw [PyData.depth]; exact Nat.lt_succ_self _) z.few
      refine ⟨_, _, rd, ReadAtMost.cons rd (by rw [PyData.depth]; exact Nat.le_succ _) z.few, ?_⟩
      rw [PyData.depth, PyData.shown]
      exact ReprK.tuple ho hc hd out z.shw
  | .dict kvs, _, _, q, r, hs, hz => by
    cases q with
    | dct q1 q2 =>
      cases r
      obtain ⟨_, low, vs, rel, o, es, ep, ho, hx, hd, _, pr, _⟩ := dk_of I.hok q1
      rw [PyData.shown] at hz
      rw [PyData.showable] at hs
      obtain ⟨as, bs, z⟩ := DqK.shn I kvs _ vs es.toList q2 rel pr hs fun t ht => Nat.le_trans (dictText_mem_le ht) hz
      have rd := Reads.dict ho hx.1 hd z.rk z.rv
      have out := not_mem_of_deeper rd (by rw [PyData.depth]; exact Nat.lt_succ_self _) z.few
      refine ⟨_, _, rd, ReadAtMost.cons rd (by rw [PyData.depth]; exact Nat.le_succ _) z.few, ?_⟩
      rw [PyData.depth, PyData.shown]
      exact ReprK.dict ho hx.1 hd low out z.shw
theorem DqK.shn (I : Inv X pins σ H s) : ∀ (kvs : List (PyData × PyData)) (ps : List (Key × V)) (vs : List (Key × Value)) (es : List DictEntry), DqK X.K H ps kvs → KV ps vs → Pairs (mixKind X.prog X.w) es vs → PyData.showableKv kvs = true → (∀ t ∈ PyData.shownKv kvs, t.length ≤ sizeLine) → ∃ as bs, ShnK X.prog X.w s.heap es kvs as bs
  | [], _, _, _, q, r, pr, _, _ => by
    cases q
    cases r
    cases pr
    exact ⟨[], [], .nil, .nil, few_nil, .nil⟩
  | (k, d) :: kvs, _, _, _, q, r, pr, hs, hz => by
    cases q with
    | cons q1 q2 =>
      rename_i i v ps
      cases r with
      | cons r1 r2 =>
        cases pr with
        | cons p1 p2 p3 =>
          rename_i kv vs e es
          obtain ⟨key, val⟩ := kv
          obtain ⟨rk, rv⟩ := r1
          cases rk
          have hs' : (PyData.showable (.int i) = true ∧ d.showable = true) ∧ PyData.showableKv kvs = true := by simpa [PyData.showableKv] using hs
          rw [PyData.shownKv] at hz
          have hz1 := hz _ (List.mem_cons_self ..)
          have hzd : d.shown.length ≤ sizeLine := by
            rw [strLen_append] at hz1
            omega
          have p1' : keyIs (.inl i) e.key = true := p1
          rcases keyIs_shape p1' with ⟨i', t', e1, e2⟩ | ⟨x, t', e1, e2⟩
          · cases e1
            have p2' : e.val = val := p2
            obtain ⟨as, bs, x⟩ := Dq.shn I d _ val q1 rv hs'.1.2 hzd
            obtain ⟨as', bs', y⟩ := DqK.shn I kvs _ _ _ q2 r2 p3 hs'.2 fun t ht => hz t (List.mem_cons_of_mem _ ht)
            have dep : PyData.depthKv ((.int i, d) :: kvs) = max (max (PyData.depth (.int i)) d.depth) (PyData.depthKv kvs) := by rw [PyData.depthKv]
            refine ⟨as ++ as', bs ++ bs', ?_, ?_, ?_, ?_⟩
            · rw [List.map_cons, List.map_cons, e2]
              exact ReadsAll.cons (Reads.int _ _) y.rk
            · rw [List.map_cons, List.map_cons, p2']
              exact ReadsAll.cons x.rd y.rv
            · rw [dep]
              exact (x.few.mono (by omega)).append (y.few.mono (by omega))
            · rw [dep, PyData.shownKv]
              refine .cons ?_ ?_ (entries_more (fun b hb => List.mem_append.mpr (.inr hb)) (by omega) y.shw)
              · rw [e2, PyData.shown]
                have hi := hs'.1.1
                rw [PyData.showable, decide_eq_true_eq] at hi
                exact .of_is (ReprIs.int _ hi) _ _ _
              · rw [p2']
                exact (x.shw.more fun b hb => List.mem_append.mpr (.inl hb)).level_le (by omega)
          · cases e1
theorem DqAll.shn (I : Inv X pins σ H s) : ∀ (ds : List PyData) (vs : List V) (us : List Value), DqAll X.K H vs ds → Vals vs us → PyData.showableAll ds = true → (∀ t ∈ PyData.shownAll ds, t.length ≤ sizeLine) → ∃ as bs, ShnL X.prog X.w s.heap us ds as bs
  | [], _, _, q, r, _, _ => by
    cases q; cases r
    exact ⟨[], [], .nil, few_nil, .nil⟩
  | d :: ds, _, _, q, r, hs, hz => by
    cases q with
    | cons q1 q2 =>
      cases r with
      | cons r1 r2 =>
        rw [PyData.showableAll, Bool.and_eq_true] at hs
        rw [PyData.shownAll] at hz
        obtain ⟨as, bs, x⟩ := Dq.shn I d _ _ q1 r1 hs.1 (hz _ (List.mem_cons_self ..))
        obtain ⟨as', bs', y⟩ := DqAll.shn I ds _ _ q2 r2 hs.2 fun t ht => hz t (List.mem_cons_of_mem _ ht)
        exact ⟨_, _, shnl_cons x y⟩
end
end
theorem call_reprM {X : Cx} (hgd : X.A.guards = some []) (hu : X.A.units + 64 < cLine) : CallR X (.builtin "repr") (rReprM X.K) := by
  intro pins s σ H xs us Q I r h
  obtain ⟨x, d, ex, hd, h1, h2, h3, q⟩ := h
  subst ex
  obtain ⟨u, eu, rx⟩ := vals1 r
  subst eu
  have room1 : X.A.in1.units < cLine := by show X.A.units + 1 < cLine; omega
  cases hd with
  | non =>
    obtain rfl : u = Value.none := rx
    simp only [PyData.shown] at q
    exact PySem.P.repr_of_none ⟨.str _, H, I.tok _, ⟨_, rfl⟩, q⟩
  | bl b =>
    obtain rfl : u = Value.bool b := rx
    simp only [PyData.shown] at q
    exact PySem.P.repr_of_bool ⟨.str _, H, I.tok _, ⟨_, rfl⟩, q⟩
  | int i =>
    obtain ⟨t, rfl⟩ := rx
    simp only [PyData.shown] at q
    exact PySem.P.repr_of_int (by simpa [PyData.showable] using h1) ⟨.str _, H, I.tok _, ⟨_, rfl⟩, q⟩
  | str z =>
    obtain ⟨t, rfl⟩ := rx
    simp only [PyData.shown] at q h2
    exact PySem.P.repr_of_str ⟨.str _, H, I.tok _, ⟨_, rfl⟩, q⟩ h2
  | @lst a xs ds q1 q2 =>
    cases rx
    obtain ⟨its, rv, ⟨o, n, ho, hc, _, hd⟩, _⟩ := I.list q1
    rw [PyData.shown] at h2 q
    rw [PyData.showable] at h1
    rw [PyData.depth] at h3
    obtain ⟨as, bs, z⟩ := DqAll.shn I ds _ its q2 rv h1 fun t ht => Nat.le_trans (listText_mem_le ht) h2
    have rd := Reads.list ho hc hd (a := a) (vs := its.toArray) z.rd
    have out := not_mem_of_deeper rd (by rw [PyData.depth]; exact Nat.lt_succ_self _) z.few
    refine call_repr_slot (T := "list") (idr := "list.__repr__") (by omega) ⟨o, ho, hc⟩ F.slot_list_repr.toG ?_
    have hk := z.shw
    have fin : ∀ (h' : Heap) (u tk : Nat), (∀ b o, s.heap.get? b = some o → h'.get? b = some o) → ∃ x t, Value.str (listText (PyData.shownAll ds)) u = .str x t ∧ ∃ v H', Inv X pins σ H' { s with heap := h', toks := tk } ∧ RelV v (Value.str (listText (PyData.shownAll ds)) u) ∧ Q v H' := fun h' u tk hkeep => ⟨_, _, rfl, .str _, H, I.kept (h' := h') (t' := tk) hkeep, ⟨u, rfl⟩, q⟩
    cases its with
    | nil =>
      cases ds with
      | nil => exact call_list_repr_empty ⟨o, ho, hc⟩ ho hd (fin s.heap _ _ fun _ _ e => e)
      | cons _ _ => cases hk
    | cons y l => exact call_list_reprK ho hc hd out (by rw [hk.length_eq]; rfl) (fun i y e => hk.item i y (by simpa using e)) hgd (fun b _ => Clear.nil b) (by show X.A.units + 1 + _ < _; omega) (fun _ _ e => e) fin h2
  | @tup a xs ds q1 q2 =>
    cases rx
    obtain ⟨its, rv, ⟨o, ho, hc, n, hd⟩, _⟩ := I.tuple q1
    rw [PyData.shown] at h2 q
    rw [PyData.showable] at h1
    rw [PyData.depth] at h3
    obtain ⟨as, bs, z⟩ := DqAll.shn I ds _ its q2 rv h1 fun t ht => Nat.le_trans (tupleText_mem_le ht) h2
    have rd := Reads.tuple ho hc hd (a := a) (vs := its.toArray) z.rd
    have out := not_mem_of_deeper rd (by rw [PyData.depth]; exact Nat.lt_succ_self _) z.few
    refine call_repr_slot (T := "tuple") (idr := "tuple.__repr__") (by omega) ⟨o, ho, hc⟩ F.slot_tuple_repr ?_
    exact call_tuple_reprK ho hc hd out z.shw hgd (fun b _ => Clear.nil b) (by show X.A.units + 1 + _ < _; omega) (fun _ _ e => e) (fun h' u tk hkeep => ⟨_, _, rfl, .str _, H, I.kept (h' := h') (t' := tk) hkeep, ⟨u, rfl⟩, q⟩) h2
  | @dct a ps kvs q1 q2 =>
    cases rx
    obtain ⟨_, low, vs, rel, o, es, ep, ho, hx, hd, _, pr, _⟩ := dk_of I.hok q1
    rw [PyData.shown] at h2 q
    rw [PyData.showable] at h1
    rw [PyData.depth] at h3
    obtain ⟨as, bs, z⟩ := DqK.shn I kvs _ vs es.toList q2 rel pr h1 fun t ht => Nat.le_trans (dictText_mem_le ht) h2
    have rd := Reads.dict ho hx.1 hd (a := a) z.rk z.rv
    have out := not_mem_of_deeper rd (by rw [PyData.depth]; exact Nat.lt_succ_self _) z.few
    refine call_repr_slot (T := "dict") (idr := "dict.__repr__") (by omega) ⟨o, ho, hx.1⟩ F.slot_dict_repr ?_
    exact call_dict_reprK ho hx.1 hd low out z.shw hgd (fun b _ => Clear.nil b) (by show X.A.units + 1 + _ < _; omega) (fun _ _ e => e) (fun h' u tk hkeep => ⟨_, _, rfl, .str _, H, I.kept (h' := h') (t' := tk) hkeep, ⟨u, rfl⟩, q⟩) h2
theorem jc_repr : JC K (rReprM K) nRepr := fun E W xs vs Q ok r p => by
  unfold nRepr at p
  split at p
  · rename_i m
    split at p
    · rename_i d e
      split at p
      · rename_i hs
        unfold shwC at hs
        simp only [Bool.and_eq_true, decide_eq_true_eq, Bool.not_eq_true'] at hs
        obtain ⟨v, h1, h2⟩ := RMs.one r
        exact ⟨v, d, h1, rsv_ok ok m v d h2 e, hs.1, hs.2.1, hs.2.2, PostG.ret (a := M.d (.str d.shown)) ok p _ (by simp only [RM, RD])⟩
      · exact p.elim
    · exact p.elim
  · exact p.elim
end
/-! ### isinstance -/
def tyN : Hh → M → Option String
  | _, .d .none => some "NoneType"
  | _, .d (.bool _) => some "bool"
  | _, .d (.int _) => some "int"
  | _, .d (.str _) => some "str"
  | _, .d (.list _) => some "list"
  | _, .d (.tuple _) => some "tuple"
  | _, .d (.dict _) => some "dict"
  | _, .tup _ => some "tuple"
  | h, .obj k => match cellMs h[k]? with
    | some _ => some "list"
    | none => none
  | _, _ => none
def isiB (a b : String) : Bool := a == b || (a == "bool" && b == "int")
def eIsi (T : String) (f : ES) : ES := fun env => bnd (f env) fun m h => match tyN h m with
  | some a => some (.val (.d (.bool (isiB a T))) h)
  | none => none
def KitOk (T : String) : Prop := kitB "NoneType" T = some (isiB "NoneType" T) ∧ kitB "bool" T = some (isiB "bool" T) ∧ kitB "int" T = some (isiB "int" T) ∧ kitB "str" T = some (isiB "str" T) ∧ kitB "list" T = some (isiB "list" T) ∧ kitB "tuple" T = some (isiB "tuple" T) ∧ kitB "dict" T = some (isiB "dict" T)
theorem kit_int : KitOk "int" := by unfold KitOk; decide +kernel
theorem kit_bool : KitOk "bool" := by unfold KitOk; decide +kernel
theorem kit_str : KitOk "str" := by unfold KitOk; decide +kernel
theorem kit_list : KitOk "list" := by unfold KitOk; decide +kernel
theorem kit_tuple : KitOk "tuple" := by unfold KitOk; decide +kernel
theorem kit_dict : KitOk "dict" := by unfold KitOk; decide +kernel
section
variable {X : Cx} {E : XE} {pos p q : Pos} {e : Expr} {f : ES}
theorem tyN_ok {K : PySem.W.Frag} {W : Wd} {m : M} {v : V} {a T : String} (kt : KitOk T) (ok : W.Ok K) (r : RV K W m v) (e : tyN W.h m = some a) : ∃ t, TyX K W.H v t ∧ PySem.W.kitOne K t (.type T) = some (isiB a T) := by
  obtain ⟨k1, k2, k3, k4, k5, k6, k7⟩ := kt
  cases m with
  | d x =>
    cases x with
    | none => cases e; simp only [RM, RD] at r; subst r; exact ⟨_, .base .non, kit_ty k1⟩
    | bool b => cases e; rw [bl_of r]; exact ⟨_, .base (.bl b), kit_ty k2⟩
    | int b => cases e; rw [int_of r]; exact ⟨_, .base (.int b), kit_ty k3⟩
    | str b => cases e; rw [str_of r]; exact ⟨_, .base (.str b), kit_ty k4⟩
    | list xs => cases e; simp only [RM, RD] at r; obtain ⟨a, vs, h1, h2, h3⟩ := r; subst h1; exact ⟨_, .base (.lst (ok.sub _ _ h2)), kit_ty k5⟩
    | tuple xs => cases e; simp only [RM, RD] at r; obtain ⟨a, vs, h1, h2, h3⟩ := r; subst h1; exact ⟨_, .base (.tup (ok.sub _ _ h2)), kit_ty k6⟩
    | dict _ => cases e; simp only [RM, RD] at r; obtain ⟨a, ps, h1, h2, h3⟩ := r; subst h1; exact ⟨_, .base (.dK (ok.sub _ _ h2)), kit_ty k7⟩
  | tup ms => cases e; simp only [RM] at r; obtain ⟨a, vs, h1, h2, h3⟩ := r; subst h1; exact ⟨_, .base (.tup (ok.sub _ _ h2)), kit_ty k6⟩
  | obj k =>
    simp only [tyN] at e
    split at e
    · rename_i ms em
      cases e
      obtain ⟨b, vs, h1, h2, h3⟩ := lstM_ok (m := .obj k) ok r em
      subst h1
      exact ⟨_, .base (.lst h2), kit_ty k5⟩
    · cases e
  | scr ns => cases e
  | ad a => cases e
theorem p_isi {T : String} {x : Str} (kt : KitOk T) (hg : Gl X "isinstance") (hm : X.mg "isinstance" = none) (hgT : Gl X x) (hmT : X.mg x = none) (hT : bootBuiltins x = some (.type T)) (he : PE X e (tM X.K E f))
    (hn : x ≠ "__name__" := by decide) (hd : (x == ("__debug__" : Str)) = false := by decide) (h1 : starEach [e, .Name x q] X.env = (false, eval e X.env) :: starEach [.Name x q] X.env := by rfl) (h2 : starEach [.Name x q] X.env = [(false, eval (.Name x q) X.env)] := by rfl) (hpl : (backTo pos (starEach [.Name x q] X.env)).any (·.1) = false := by rfl) :
    PE X (.Call (.Name "isinstance" p) [e, .Name x q] [] pos) (tM X.K E (eIsi T f)) := by
  have b : PE X (.Name x q) (tC (.ty T)) := pe_bltn hgT hmT hT rfl hn hd
  refine PE.imp (pe_callB call_isi hg hm PyProof.Rows.boot_isinstance (pa_cons he (pa_cons b pa_nil h2) h1) (by decide) (by decide) h1 hpl) fun σ H Q ⟨W, env, hH, ok, er, p⟩ => ?_
  subst hH
  refine ⟨W, env, rfl, ok, er, (PostG.bind p).mono fun m W1 ok1 s1 p1 v rv => ?_⟩
  split at p1
  · rename_i a ea
    obtain ⟨t, z1, z2⟩ := tyN_ok kt ok1 rv ea
    exact ⟨v, .ty T, t, .type T, _, rfl, .ty T, z1, z2, PostG.ret (a := M.d (.bool (isiB a T))) ok1 p1 _ (by simp only [RM, RD])⟩
  · exact p1.elim
end

/-! ### lists changed -/
def apd (x m : M) : Sm M := fun h => match x, m with
  | .obj k, .d y => match h[k]? with
    | some (.lst xs) => if xs.length < LIM then some (.val (.d .none) (h.set k (.lst (xs ++ [y])))) else none
    | _ => none
  | _, _ => none
def chkL (x : M) : Sm Unit := fun h => match lstM h x with
  | some _ => some (.val () h)
  | none => none
theorem chkL_ok {K : PySem.W.Frag} {E : XE} {W : Wd} {x : M} {v : V} {Q : Unit → Wd → Prop} (ok : W.Ok K) (r : RV K W x v) (p : PostG K E W (chkL x W.h) Q) : tyV K "list" v W.H ∧ Q () W := by
  unfold chkL at p
  split at p
  · rename_i ms e
    obtain ⟨a, vs, h1, h2, h3⟩ := lstM_ok ok r e
    subst h1
    exact ⟨.inl ⟨rfl, vs, SqL.of h2⟩, p W rfl ok (Step.refl W)⟩
  · exact p.elim
def eApp (fo f : ES) : ES := fun env => bnd (fo env) fun x => bnd (chkL x) fun _ => bnd (f env) fun m => apd x m
def Wd.wr (W : Wd) (k : Nat) (c : Cell) (o : HO) : Wd := { W with H := upd W.H (W.ρ k) o, h := W.h.set k c }
section
variable {K : PySem.W.Frag} {W : Wd}
theorem Wd.Ok.wr (ok : W.Ok K) {k : Nat} {c0 c : Cell} {o : HO} (h0 : W.h[k]? = some c0) (hd : c0 ≠ .dead) (hc : CellR K W.ρ W.F W.h.length c (some o)) : (W.wr k c o).Ok K := by
  have hk := lt_of_get h0
  have hF := ok.out k c0 h0 hd
  have get : ∀ j c', (W.h.set k c)[j]? = some c' → (j = k ∧ c' = c) ∨ (j ≠ k ∧ W.h[j]? = some c') := fun j c' e => by
    by_cases hj : j = k
    · subst hj
      rw [List.getElem?_set_self (h := hk)] at e
      exact .inl ⟨rfl, (Option.some.inj e).symm⟩
    · rw [List.getElem?_set_ne (Ne.symm hj)] at e
      exact .inr ⟨hj, e⟩
  have live : ∀ j c', W.h[j]? = some c' → c' ≠ .dead → j ≠ k → W.ρ j ≠ W.ρ k := fun j c' e hd' hj z => hj (ok.inj j k c' c0 e h0 hd' hd z)
  refine ⟨fun a x e => ?_, fun j hj => upd_some (ok.al j (by simpa [Wd.wr] using hj)), fun j c' e => ?_, fun j c' e hd' => ?_, fun i j c1 c2 e1 e2 d1 d2 z => ?_⟩
  · show upd W.H (W.ρ k) o a = some x
    rw [upd_ne (fun z => by rw [z] at e; rw [show (W.wr k c o).F (W.ρ k) = W.F (W.ρ k) from rfl, hF] at e; cases e)]
    exact ok.sub a x e
  · show CellR K W.ρ W.F (W.h.set k c).length c' (upd W.H (W.ρ k) o (W.ρ j))
    rw [List.length_set]
    rcases get j c' e with ⟨e1, e2⟩ | ⟨e1, e2⟩
    · subst e1; subst e2
      rw [upd_same]
      exact hc
    · by_cases hd' : c' = .dead
      · subst hd'; trivial
      · rw [upd_ne (live j c' e2 hd' e1)]
        exact ok.cell j c' e2
  · rcases get j c' e with ⟨e1, e2⟩ | ⟨e1, e2⟩
    · subst e1; exact hF
    · exact ok.out j c' e2 hd'
  · rcases get i c1 e1 with ⟨a1, a2⟩ | ⟨a1, a2⟩ <;> rcases get j c2 e2 with ⟨b1, b2⟩ | ⟨b1, b2⟩
    · rw [a1, b1]
    · exact absurd z.symm (by rw [a1]; exact live j c2 b2 d2 b1)
    · exact absurd z (by rw [b1]; exact live i c1 a2 d1 a1)
    · exact ok.inj i j c1 c2 a2 b2 d1 d2 z
theorem Step.wr (ok : W.Ok K) {k : Nat} {c0 c : Cell} {o : HO} (h0 : W.h[k]? = some c0) (hd : c0 ≠ .dead) : Step W (W.wr k c o) := by
  have hk := lt_of_get h0
  refine ⟨Same.refl _, fun _ _ => rfl, by show W.h.length ≤ (W.h.set k c).length; rw [List.length_set]; exact Nat.le_refl _, fun a x e nc => ?_, fun a e => ?_, fun j h1 h2 => ?_, fun a x e => .inl e⟩
  · show upd W.H (W.ρ k) o a = some x
    rw [upd_ne (nc k hk)]
    exact e
  · by_cases ha : a = W.ρ k
    · rw [show (W.wr k c o).H a = upd W.H (W.ρ k) o a from rfl, ha, upd_same] at e; cases e
    · rw [show (W.wr k c o).H a = upd W.H (W.ρ k) o a from rfl, upd_ne ha] at e; exact e
  · have h2' : j < (W.h.set k c).length := h2
    rw [List.length_set] at h2'
    exact absurd h2' (Nat.not_lt.mpr h1)
theorem RDs.append {F : Hp} : ∀ {xs ys : List PyData} {vs ws : List V}, RDs F xs vs → RDs F ys ws → RDs F (xs ++ ys) (vs ++ ws)
  | [], ys, vs, ws, h, g => by simp only [RDs] at h; subst h; exact g
  | d :: ds, ys, vs, ws, h, g => by
    simp only [RDs] at h
    obtain ⟨v, us, h1, h2, h3⟩ := h
    subst h1
    simp only [List.cons_append, RDs]
    exact ⟨v, us ++ ws, rfl, h2, RDs.append h3 g⟩
end
section
variable {X : Cx} {E : XE} {pos apos : Pos} {o e : Expr} {fo f : ES}
theorem p_append (ho : PE X o (tM X.K E fo)) (he : PE X e (tM X.K E f)) (hbase : attributeBase o "append" X.env (eval o X.env) = eval o X.env := by rfl)
    (hfew : ((backTo pos (starEach [e] X.env)).all (fun x => !x.1) && (backToKw pos (keywordEach [] X.env)).all (fun x => x.1.isSome) && decide ([e].length + ([] : List Keyword).length + (if ([] : List Keyword).isEmpty then 0 else 1) < 30)) = true := by rfl)
    (hline : (apos.endLine == pos.line) = true := by rfl) (hs : starEach [e] X.env = (false, eval e X.env) :: starEach [] X.env := by rfl) (hplain : (backTo pos (starEach [] X.env)).any (·.1) = false := by rfl) :
    PE X (.Call (.Attribute o "append" apos) [e] [] pos) (tM X.K E (eApp fo f)) := PE.imp (pe_bm PySem.F.plainAttrs_list PySem.F.slot_list_append PySem.F.type_list_append mt_append ho (pa_cons he pa_nil hs) hbase hfew hline hs hplain) fun σ H Q ⟨W, env, hH, ok, er, p⟩ => by
  subst hH
  refine ⟨W, env, rfl, ok, er, (PostG.bind p).mono fun x W1 ok1 s1 p1 v rv => ?_⟩
  obtain ⟨ty, p1'⟩ := chkL_ok ok1 rv (PostG.bind p1)
  refine ⟨ty, W1, env, rfl, ok1, er.step s1, (PostG.bind p1').mono fun m W2 ok2 s2 p2 u ru => ?_⟩
  · unfold apd at p2
    split at p2
    · rename_i k y
      split at p2
      · rename_i xs ec
        split at p2
        · rename_i hl
          have rk := RM.step rv s2
          simp only [RM] at rk ru
          obtain ⟨vs, h1, h2⟩ := ok2.cell k _ ec
          have hlen := RDs.length h2
          have hne : Cell.lst xs ≠ .dead := fun z => nomatch z
          refine ⟨W2.ρ k, vs, u, rk.2, rfl, h1, by rw [hlen]; exact hl, p2 (W2.wr k (.lst (xs ++ [y])) (.lst (vs ++ [u]))) rfl (ok2.wr ec hne ⟨_, rfl, RDs.append h2 (by simp only [RDs]; exact ⟨u, [], rfl, ru, rfl⟩)⟩) (Step.wr ok2 ec hne) _ (by simp only [RM, RD])⟩
        · exact p2.elim
      · exact p2.elim
    · exact p2.elim
end
end G

/-! enumerate of a tuple -/
namespace G
open PySem PySem.Spec PySem.AutoSeq1 PySem.F PyProof.Rows
theorem meets_enumerate_newT (l : Addr) (items : Array Value) (n : Nat) (dct : Option Addr) (sl : Array (Option Value)) :
    Meets (Builtin.«enumerate.__new__» ⟨[.type "enumerate", .ref l], []⟩) (fun _ R s => s.heap.get? l = some { cls := .type "tuple", dict := dct, data := .seq items n, slots := sl } ∧
      R (.ok (.ret (.ref (s.heap.push { cls := .type "tuple_iterator", data := .fields #[.ref l, .int 0 0] }).objs.size)))
        { s with heap := (s.heap.push { cls := .type "tuple_iterator", data := .fields #[.ref l, .int 0 0] }).push { cls := .type "enumerate", data := .fields #[.none, .bool false, .ref s.heap.objs.size, rawInt 0, .none, .none] } }) :=
  .of_wp fun prog w A R s h => by
    obtain ⟨hp, g, d, tk, os⟩ := s; obtain ⟨hl, h⟩ := h
    have hsub := sub_enumerate
    have hL : Heap.IsTuple (Shared.heap ⟨hp, g, d, tk, os⟩) l items := ⟨_, hl, rfl, n, rfl⟩
    wp_walk using wpAny_loadPart' hl
    refine wpAny_stack_any fun st => wpAny_pure ?_
    split
    · rename_i c _ _ _ _ _
      cases (c == Value.type "enumerate")
      · wp_walk using wpAny_loadPart' hl, wpAny_pyIter_tuple hL
        exact ⟨_, rfl, h⟩
      · wp_walk using wpAny_loadPart' hl, wpAny_pyIter_tuple hL
        exact ⟨_, rfl, h⟩
    · wp_walk using wpAny_loadPart' hl, wpAny_pyIter_tuple hL
      exact ⟨_, rfl, h⟩
theorem call_enumerate_tuple {prog : Program} {w : World} {A : Around} {E : Value → Shared → Prop} {s : Shared} {l : Addr} {items : Array Value} {Q : Value → Shared → Prop} (hL : s.heap.IsTuple l items)
    (h : ∀ h', IsEnum h' (s.heap.objs.size + 1) s.heap.objs.size 0 .none → h'.IsTupleIter s.heap.objs.size l 0 → h'.objs.size = s.heap.objs.size + 2 →
      (∀ b o, s.heap.get? b = some o → h'.get? b = some o) → Q (.ref (s.heap.objs.size + 1)) { s with heap := h' }) :
    wpAny (model prog w) A (call (.type "enumerate") [.ref l]) Q E s := by
  obtain ⟨⟨c, dct, dt, sl⟩, hl, hc, n, hd⟩ := hL
  replace hc : c = .type "tuple" := hc
  replace hd : dt = .seq items n := hd
  subst hc hd
  refine callType_new F.called_enumerate (by decide) (F.typeCall_enumerate_1 _) (F.newCall_enumerate_1 _) (fun obj => F.args_object_init_2 obj _) F.entry_enumerate_new
    (meets_enumerate_newT l items n dct sl) ⟨hl, ?_⟩
  have hz : (s.heap.push { cls := .type "tuple_iterator", data := .fields #[.ref l, .int 0 0] }).objs.size = s.heap.objs.size + 1 := Heap.size_push ..
  show _ ∧ _
  rw [hz]
  have he : IsEnum ((s.heap.push { cls := .type "tuple_iterator", data := .fields #[.ref l, .int 0 0] }).push
      { cls := .type "enumerate", data := .fields #[.none, .bool false, .ref s.heap.objs.size, rawInt 0, .none, .none] }) (s.heap.objs.size + 1) s.heap.objs.size 0 .none := by
    have := Heap.get?_push_size (s.heap.push { cls := .type "tuple_iterator", data := .fields #[.ref l, .int 0 0] })
      (o := { cls := .type "enumerate", data := .fields #[.none, .bool false, .ref s.heap.objs.size, rawInt 0, .none, .none] }) rfl
    rw [hz] at this; exact this
  have hi : Heap.get? (s.heap.push { cls := .type "tuple_iterator", data := .fields #[.ref l, .int 0 0] }) s.heap.objs.size = some { cls := .type "tuple_iterator", data := .fields #[.ref l, .int 0 0] } := Heap.get?_push_size _ rfl
  exact ⟨⟨_, he, rfl⟩, h _ he ⟨_, Heap.get?_push_of_some _ hi, rfl, rfl⟩ (by rw [Heap.size_push, hz]) fun b o x => Heap.get?_push_of_some _ (Heap.get?_push_of_some _ x)⟩
end G
namespace G
open PySem PySem.Spec PyProof.Rows L2
def IteT (K : PySem.W.Frag) (a : Addr) : It :=
  ⟨fun i H => ∃ (xs : List V) (x : V), SqT K H a xs ∧ xs[i]? = some x, fun i H v H' => ∃ T x, v = .ref T ∧ H T = none ∧ H' = upd H T (.tup [.int (i : Nat), x]) ∧ ∀ xs, SqT K H a xs → xs[i]? = some x, fun i H => ∃ xs : List V, SqT K H a xs ∧ xs.length ≤ i⟩
theorem turn_enumT {P : Program} {w : World} {K : PySem.W.Frag} {elts : List Expr} {kk : Nat} {tpos : Pos} (a e it : Addr) :
    Turn P w K (.Tuple elts kk tpos) (IteT K a) [e, it] e (fun i h => (∃ old, IsEnum h e it ((i : Nat) : Int) old) ∧ h.IsTupleIter it a i ∧ e ≠ it ∧ a ≠ it ∧ a ≠ e) where
  mem := by simp
  obj := fun i h st b hb => by
    obtain ⟨⟨old, he⟩, ⟨o, ho, hc, hd⟩, _⟩ := st
    have e' : b = e ∨ b = it := by simpa using hb
    rcases e' with z | z
    · rw [z]; exact ⟨_, he, fun v q => nomatch q⟩
    · rw [z]; exact ⟨o, ho, fun v q => by rw [hd] at q; cases q⟩
  keep := fun i h h' st k => let ⟨⟨old, he⟩, hi, hne⟩ := st; ⟨⟨old, k e (by simp) _ he⟩, hi.at fun o q => k it (by simp) o q, hne⟩
  item := by
    intro X hP hw hK hc i pins s σ H E I hf st hg
    subst hP hw hK
    obtain ⟨⟨old, he⟩, hit, hne, hai, hae⟩ := st
    obtain ⟨xs, x, hq, hx⟩ := hg
    obtain ⟨its, rv, p, hz⟩ := I.tuple hq
    obtain ⟨u, hu, ru⟩ := rv.get hx
    have hel : e < s.heap.objs.size := Heap.lt_size he
    have hil : it < s.heap.objs.size := by obtain ⟨_, q, _⟩ := hit; exact Heap.lt_size q
    have hlt : i < its.toArray.size := by
      have := (List.getElem?_eq_some_iff.mp hu).1
      simpa using this
    have D := Draws.tuple (prog := X.prog) (w := X.w) (A := X.A.in1) (I.ok.hd hc) it a hai its.toArray
    refine wpAny_pyNext_enum_itemD D he ⟨hit, p⟩ hlt hne (by simp only [List.mem_cons, List.not_mem_nil, or_false, not_or]; exact ⟨hne, fun z => hae z.symm⟩) fun x' h' tk hx' ho hst hT hsz hk => ?_
    have ex : x' = u := by
      rw [show its.toArray[i]? = its[i]? by simp, hu] at hx'
      exact (Option.some.inj hx').symm
    subst ex
    refine ⟨_, rfl, wpAny_letOwnedTupleGo_enum (s := { s with heap := h', toks := tk + 1 }) ho fun h'' he' sb => ?_⟩
    have hT2 : h''.get? s.heap.objs.size = some { cls := .type "tuple", data := .seq #[.int i tk, x'] } := (sb.2 _ (Nat.ne_of_gt hel)).trans hT
    have new : ObjOk X.prog X.w (upd H s.heap.objs.size (.tup [.int (i : Nat), x])) h'' s.heap.objs.size (.tup [.int (i : Nat), x]) :=
      ⟨by show 2 ≤ sizeLine; decide, [.int i tk, x'], .cons ⟨_, rfl⟩ (.cons ru .nil), ⟨_, hT2, rfl, _, rfl⟩⟩
    have I1 : Inv X pins σ (upd H s.heap.objs.size (.tup [.int (i : Nat), x])) { s with heap := h'', toks := tk + 1 } :=
      I.turnedNew (ch := [e, it]) (fun b ob hb q => (sb.2 b (fun z => hb (by simp [z]))).trans (hk b ob (fun z => hb (by simp [z])) (fun z => hb (by simp [z])) q)) hf (Nat.le_refl _) new
    refine ⟨.ref s.heap.objs.size, _, I1, rfl, ⟨_, x, rfl, I.hok.fresh (Nat.le_refl _), rfl, fun ys hy => by rw [I.tuple_inj hy hq]; exact hx⟩, ⟨⟨x', ?_⟩, hst.1.at fun o q => (sb.2 it (Ne.symm hne)).trans q, hne, hai, hae⟩, fun b hb => ?_⟩
    · have e1 : ((i + 1 : Nat) : Int) = (i : Int) + 1 := by omega
      rw [e1]; exact he'
    · have hb' : b < s.heap.objs.size := by
        have e' : b = e ∨ b = it := by simpa using hb
        rcases e' with z | z
        · rw [z]; exact hel
        · rw [z]; exact hil
      rw [upd_ne (Nat.ne_of_lt hb')]
      exact (hf b hb).1
  done := by
    intro X hP hw hK hc i pins s σ H E I hf st hg
    subst hP hw hK
    obtain ⟨⟨old, he⟩, hit, hne, hai, hae⟩ := st
    obtain ⟨xs, hq, hx⟩ := hg
    obtain ⟨its, rv, p, hz⟩ := I.tuple hq
    obtain ⟨f0, f1, f2, f3, f4, f5⟩ := hf it (by simp)
    have hl := rv.length
    unfold pyNext
    have hT : s.TypeIs (.ref e) "enumerate" := ⟨_, he, rfl⟩
    refine wpAny_bind (wpAny_attempt (wpAny_callSpecial?_slot (name := Str.ofString "__next__") hT F.slot_enumerate_next
      (wpAny_call_entry F.slot_enumerate_next hT F.entry_enumerate_next ?_ (F.args_enumerate_next_1 _))))
    show wpAny _ _ (field (.ref e) 2 >>= _) _ _ _
    refine wpAny_bind (wpAny_field he rfl (x := .ref it) rfl ?_)
    refine wpAny_bind (wpAny_nextOf_tuple_end (A := X.A.in1) (I.ok.hd hc) hit p (by simp; omega) fun h' x he' hx' => ?_)
    obtain ⟨o, ho, hc'⟩ := hx'
    refine wpAny_bind (wpAny_isInstance (T := "StopIteration") (b := true) ⟨o, ho, hc'⟩ isSubtype_stop ?_)
    exact wpAny_pure ⟨rfl, I.turned (t' := s.toks) (fun b o hb q => he' b o hb q) f0 f1 f3 f4 f5⟩
  self := fun A i s Q E st h => let ⟨⟨_, he⟩, _⟩ := st; wpAny_pyIter_enum he h
def iEnumB (K : PySem.W.Frag) (ta : TA) : TI := fun σ H R => ta σ H fun vs H1 => ∃ a xs, vs = [.ref a] ∧ ((SqL K H1 a xs ∧ R (Ite K a) H1) ∨ (SqT K H1 a xs ∧ R (IteT K a) H1))
theorem pi_enumB {X : Cx} {e : Expr} {ta : TA} {p pos tpos : Pos} {elts : List Expr} {kk : Nat} (hg : Gl X "enumerate") (hm : X.mg "enumerate" = none) (ha : PA X [e] ta) (hs : starEach [e] X.env = [(false, eval e X.env)] := by rfl) :
    PI X (.Tuple elts kk tpos) (.Call (.Name "enumerate" p) [e] [] pos) (iEnumB X.K ta) := by
  refine ⟨fun pins s σ H R I h => ?_⟩
  refine Call_ (ld_blt I hg hm boot_enumerate (PyProof.Rows.callWith_type1 (thn (ha.run pos pins s σ H _ I h) fun us s1 ⟨vs, H1, I1, r1, q1⟩ => ?_) hs rfl))
  obtain ⟨a, xs, ex, q⟩ := q1
  subst ex
  cases r1 with
  | cons r rr =>
    cases rr
    cases r
    have fresh : ∀ b ∈ [s1.heap.objs.size + 1, s1.heap.objs.size], FpOk X pins H1 b := fun b hb => by
      have e' : b = s1.heap.objs.size + 1 ∨ b = s1.heap.objs.size := by simpa using hb
      have hle : s1.heap.objs.size ≤ b := by
        rcases e' with z | z
        · rw [z]; exact Nat.le_add_right _ _
        · rw [z]; exact Nat.le_refl _
      exact I1.fpOk hle (I1.hok.fresh hle)
    rcases q with ⟨hq, q⟩ | ⟨hq, q⟩
    · obtain ⟨its, rv, p', hz⟩ := I1.list hq
      refine call_enumerate_list p'.isList fun h' he hit hsz hk => wpAny_pyIter_enum he ?_
      have I2 : Inv X pins σ H1 { s1 with heap := h' } := I1.kept (t' := s1.toks) hk
      exact ⟨s1.heap.objs.size + 1, [s1.heap.objs.size + 1, s1.heap.objs.size], _, _, H1, rfl, I2, turn_enum a (s1.heap.objs.size + 1) s1.heap.objs.size, ⟨⟨.none, he⟩, hit, Nat.succ_ne_self _⟩, fresh, q⟩
    · obtain ⟨its, rv, p', hz⟩ := I1.tuple hq
      have hal : a < s1.heap.objs.size := p'.lt
      refine call_enumerate_tuple (show s1.heap.IsTuple a its.toArray from p') fun h' he hit hsz hk => wpAny_pyIter_enum he ?_
      have I2 : Inv X pins σ H1 { s1 with heap := h' } := I1.kept (t' := s1.toks) hk
      exact ⟨s1.heap.objs.size + 1, [s1.heap.objs.size + 1, s1.heap.objs.size], _, _, H1, rfl, I2, turn_enumT a (s1.heap.objs.size + 1) s1.heap.objs.size, ⟨⟨.none, he⟩, hit, Nat.succ_ne_self _, Nat.ne_of_lt hal, Nat.ne_of_lt (Nat.lt_succ_of_lt hal)⟩, fresh, q⟩
/-- over a list or a tuple -/
def iSeq (K : PySem.W.Frag) (tl : TE) : TI := fun σ H R => tl σ H fun x H1 => ∃ a, x = .ref a ∧ (((∃ xs, SqL K H1 a xs) ∧ R (Itl K a) H1) ∨ ((∃ xs, SqT K H1 a xs) ∧ R (Itt K a) H1))
theorem pi_seq {X : Cx} {tg l : Expr} {tl : TE} (hl : PE X l tl) : PI X tg l (iSeq X.K tl) := by
  refine ⟨fun pins s σ H R I h => ?_⟩
  refine thn (hl.run pins s σ H _ I h) fun v s1 ⟨x, H1, I1, r1, q1⟩ => ?_
  obtain ⟨a, e, q⟩ := q1
  subst e
  cases r1
  rcases q with ⟨⟨xs, hq⟩, q⟩ | ⟨⟨xs, hq⟩, q⟩
  · obtain ⟨its, rv, p, hz⟩ := I1.list hq
    refine wpAny_pyIter_list p.isList ?_
    refine ⟨s1.heap.objs.size, [s1.heap.objs.size], _, _, H1, rfl, I1.kept (t' := s1.toks) fun b o e => Heap.get?_push_of_some _ e, turn_list a _, ⟨_, Heap.get?_push_size _ rfl, rfl, rfl⟩, fun b hb => ?_, q⟩
    have e : b = s1.heap.objs.size := by simpa using hb
    subst e
    exact I1.fpOk (Nat.le_refl _) (I1.hok.fresh (Nat.le_refl _))
  · obtain ⟨its, rv, p, hz⟩ := I1.tuple hq
    refine wpAny_pyIter_tuple (show s1.heap.IsTuple a its.toArray from p) ?_
    refine ⟨s1.heap.objs.size, [s1.heap.objs.size], _, _, H1, rfl, I1.kept (t' := s1.toks) fun b o e => Heap.get?_push_of_some _ e, turn_tuple a _, ⟨_, Heap.get?_push_size _ rfl, rfl, rfl⟩, fun b hb => ?_, q⟩
    have e : b = s1.heap.objs.size := by simpa using hb
    subst e
    exact I1.fpOk (Nat.le_refl _) (I1.hok.fresh (Nat.le_refl _))
end G
namespace G
open PySem PySem.Spec L2
def SqB (t : Bool) (K : PySem.W.Frag) (H : Hp) (a : Addr) (xs : List V) : Prop := if t = true then SqT K H a xs else SqL K H a xs
structure SOk (K : PySem.W.Frag) (W1 : Wd) (s : SIt) (a : Addr) (t : Bool) : Prop where
  stop : ∀ W2 : Wd, W2.Ok K → Step W1 W2 → ∀ i, s.get i W2.h = some none → ∃ xs, SqB t K W2.H a xs ∧ xs.length ≤ i
  item : ∀ W2 : Wd, W2.Ok K → Step W1 W2 → ∀ i m, s.get i W2.h = some (some m) → ∃ xs x, SqB t K W2.H a xs ∧ xs[i]? = some x ∧ RV K W2 m x
  now : ∃ xs, SqB t K W1.H a xs
def itM (m : M) : Sm SIt := fun h => match tupM m with
  | some ms => some (.val (.vals ms) h)
  | none => match m with
    | .d (.list xs) => some (.val (.vals (xs.map M.d)) h)
    | .obj k => match cellMs h[k]? with
      | some _ => some (.val (.cell k) h)
      | none => none
    | _ => none
section
variable {K : PySem.W.Frag} {E : XE} {W : Wd}
theorem vals_stop {ms : List M} {i : Nat} {h : Hh} (e : (SIt.vals ms).get i h = some none) : ms.length ≤ i := by
  simp only [SIt.get, Option.some.injEq] at e
  exact List.getElem?_eq_none_iff.mp e
theorem itM_ok {m : M} {v : V} {Q : SIt → Wd → Prop} (ok : W.Ok K) (r : RV K W m v) (p : PostG K E W (itM m W.h) Q) : ∃ a t s, v = .ref a ∧ SOk K W s a t ∧ Q s W := by
  unfold itM at p
  split at p
  · rename_i ms e
    obtain ⟨a, vs, h1, h2, h3⟩ := tupM_ok ok r e
    refine ⟨a, true, .vals ms, h1, ⟨fun W2 ok2 s2 i e2 => ⟨vs, SqT.of (ok2.sub _ _ (s2.F _ _ h2)), by rw [RMs.length h3]; exact vals_stop e2⟩, fun W2 ok2 s2 i m e2 => ?_, ⟨vs, SqT.of (ok.sub _ _ h2)⟩⟩, p W rfl ok (Step.refl W)⟩
    simp only [SIt.get, Option.some.injEq] at e2
    obtain ⟨x, e3, e4⟩ := RMs.get' (RMs.step h3 s2) e2
    exact ⟨vs, x, SqT.of (ok2.sub _ _ (s2.F _ _ h2)), e3, e4⟩
  · split at p
    · rename_i xs _
      simp only [RM, RD] at r
      obtain ⟨a, vs, h1, h2, h3⟩ := r
      have h3' : RVs K W (xs.map M.d) vs := RMs.of_ds h3
      refine ⟨a, false, .vals (xs.map M.d), h1, ⟨fun W2 ok2 s2 i e2 => ⟨vs, SqL.of (ok2.sub _ _ (s2.F _ _ h2)), by rw [RMs.length h3']; exact vals_stop e2⟩, fun W2 ok2 s2 i m e2 => ?_, ⟨vs, SqL.of (ok.sub _ _ h2)⟩⟩, p W rfl ok (Step.refl W)⟩
      simp only [SIt.get, Option.some.injEq] at e2
      obtain ⟨x, e3, e4⟩ := RMs.get' (RMs.step h3' s2) e2
      exact ⟨vs, x, SqL.of (ok2.sub _ _ (s2.F _ _ h2)), e3, e4⟩
    · rename_i k _
      split at p
      · rename_i ms e
        have rk := r
        simp only [RM] at rk
        have cellAt : ∀ W2 : Wd, W2.Ok K → Step W W2 → ∀ ms2, cellMs W2.h[k]? = some ms2 → ∃ vs, SqL K W2.H (W.ρ k) vs ∧ RVs K W2 ms2 vs := fun W2 ok2 s2 ms2 e2 => by
          obtain ⟨a, vs, h1, h2, h3⟩ := lstM_ok (m := .obj k) ok2 (RM.step r s2) e2
          have r2 := RM.step r s2
          simp only [RM] at r2
          rw [rk.2] at h1
          cases h1
          exact ⟨vs, SqL.of h2, h3⟩
        refine ⟨W.ρ k, false, .cell k, rk.2, ⟨fun W2 ok2 s2 i e2 => ?_, fun W2 ok2 s2 i m e2 => ?_, ?_⟩, p W rfl ok (Step.refl W)⟩
        · simp only [SIt.get] at e2
          cases ec : cellMs W2.h[k]? with
          | none => rw [ec] at e2; cases e2
          | some ms2 =>
            rw [ec] at e2
            simp only [Option.some.injEq] at e2
            obtain ⟨vs, q1, q2⟩ := cellAt W2 ok2 s2 ms2 ec
            exact ⟨vs, q1, by rw [RMs.length q2]; exact List.getElem?_eq_none_iff.mp e2⟩
        · simp only [SIt.get] at e2
          cases ec : cellMs W2.h[k]? with
          | none => rw [ec] at e2; cases e2
          | some ms2 =>
            rw [ec] at e2
            simp only [Option.some.injEq] at e2
            obtain ⟨vs, q1, q2⟩ := cellAt W2 ok2 s2 ms2 ec
            obtain ⟨x, e3, e4⟩ := RMs.get' q2 e2
            exact ⟨vs, x, q1, e3, e4⟩
        · obtain ⟨vs, q1, q2⟩ := cellAt W ok (Step.refl W) ms e
          exact ⟨vs, q1⟩
      · exact p.elim
    · exact p.elim
theorem jok_seq {s : SIt} {a : Addr} {t : Bool} (o : SOk K W s a t) : JOk K W s (if t = true then Itt K a else Itl K a) := fun W2 ok2 s2 i => by
  cases t with
  | true =>
    refine ⟨fun e => o.stop W2 ok2 s2 i e, fun m e => ?_⟩
    obtain ⟨xs, x, h1, h2, h3⟩ := o.item W2 ok2 s2 i m e
    refine ⟨⟨xs, x, h1, h2⟩, fun y H' hy => ?_⟩
    obtain ⟨e1, e2⟩ := hy
    have := e2 xs h1
    rw [h2] at this
    cases this
    exact ⟨W2, e1.symm, rfl, ok2, Step.refl _, h3⟩
  | false =>
    refine ⟨fun e => o.stop W2 ok2 s2 i e, fun m e => ?_⟩
    obtain ⟨xs, x, h1, h2, h3⟩ := o.item W2 ok2 s2 i m e
    refine ⟨⟨xs, x, h1, h2⟩, fun y H' hy => ?_⟩
    obtain ⟨e1, e2⟩ := hy
    have := e2 xs h1
    rw [h2] at this
    cases this
    exact ⟨W2, e1.symm, rfl, ok2, Step.refl _, h3⟩
theorem pair_new {W2 : Wd} (ok2 : W2.Ok K) {T : Addr} {m1 m2 : M} {x y : V} (hT : W2.H T = none) (r1 : RV K W2 m1 x) (r2 : RV K W2 m2 y) : ∃ W3 : Wd, W3.H = upd W2.H T (.tup [x, y]) ∧ W3.h = W2.h ∧ W3.Ok K ∧ Step W2 W3 ∧ RV K W3 (mkTup [m1, m2]) (.ref T) :=
  ⟨W2.froz T (.tup [x, y]), rfl, rfl, ok2.froz _ hT, Step.froz ok2 hT, mkTup_ok ok2 hT (by simp only [RMs]; exact ⟨x, [y], rfl, r1, y, [], rfl, r2, rfl⟩)⟩
theorem en_stop {s : SIt} {i : Nat} {h : Hh} (e : (SIt.en s).get i h = some none) : s.get i h = some none := by
  simp only [SIt.get] at e
  split at e
  · cases e
  · exact e
theorem en_item {s : SIt} {i : Nat} {h : Hh} {m : M} (e : (SIt.en s).get i h = some (some m)) : ∃ m', s.get i h = some (some m') ∧ m = mkTup [.d (.int (i : Int)), m'] := by
  simp only [SIt.get] at e
  split at e
  · rename_i m' e'
    cases e
    exact ⟨m', e', rfl⟩
  · rename_i hn
    exact absurd e (fun z => hn _ z)
theorem jok_en {s : SIt} {a : Addr} {t : Bool} (o : SOk K W s a t) : JOk K W (.en s) (if t = true then IteT K a else Ite K a) := fun W2 ok2 s2 i => by
  cases t with
  | true =>
    refine ⟨fun e => o.stop W2 ok2 s2 i (en_stop e), fun m e => ?_⟩
    obtain ⟨m', e1, e2⟩ := en_item e
    subst e2
    obtain ⟨xs, x, h1, h2, h3⟩ := o.item W2 ok2 s2 i m' e1
    refine ⟨⟨xs, x, h1, h2⟩, fun y H' ⟨T, x', y1, y2, y3, y4⟩ => ?_⟩
    have := y4 xs h1
    rw [h2] at this
    cases this
    subst y1; subst y3
    exact pair_new ok2 y2 (by simp only [RM, RD]) h3
  | false =>
    refine ⟨fun e => o.stop W2 ok2 s2 i (en_stop e), fun m e => ?_⟩
    obtain ⟨m', e1, e2⟩ := en_item e
    subst e2
    obtain ⟨xs, x, h1, h2, h3⟩ := o.item W2 ok2 s2 i m' e1
    refine ⟨⟨xs, x, h1, h2⟩, fun y H' ⟨T, x', y1, y2, y3, y4⟩ => ?_⟩
    have := y4 xs h1
    rw [h2] at this
    cases this
    subst y1; subst y3
    exact pair_new ok2 y2 (by simp only [RM, RD]) h3
end
def iSeqF (f : ES) : Env → Sm SIt := fun env => bnd (f env) itM
def iEnF (f : ES) : Env → Sm SIt := fun env => bnd (f env) fun m => bnd (itM m) fun s => rt (.en s)
section
variable {X : Cx} {E : XE} {pos p tpos : Pos} {tg e e2 : Expr} {f f2 : ES} {fs : Env → Sm (List M)} {elts : List Expr} {kk : Nat}
theorem i_seq (he : PE X e (tM X.K E f)) : PI X tg e (tIt X.K E (iSeqF f)) := PI.imp (pi_seq he) fun σ H R ⟨W, env, hH, ok, er, q⟩ => by
  subst hH
  refine ⟨W, env, rfl, ok, er, (PostG.bind q).mono fun m W1 ok1 s1 q1 v rv => ?_⟩
  obtain ⟨a, t, s, h1, o, q2⟩ := itM_ok ok1 rv q1
  refine ⟨a, h1, ?_⟩
  have j := jok_seq o
  have nw := o.now
  cases t with
  | true => exact .inr ⟨nw, q2 _ j⟩
  | false => exact .inl ⟨nw, q2 _ j⟩
theorem i_enum (hg : Gl X "enumerate") (hm : X.mg "enumerate" = none) (he : PE X e (tM X.K E f)) (hs : starEach [e] X.env = [(false, eval e X.env)] := by rfl) :
    PI X (.Tuple elts kk tpos) (.Call (.Name "enumerate" p) [e] [] pos) (tIt X.K E (iEnF f)) := PI.imp (pi_enumB hg hm (pa_cons he pa_nil hs) hs) fun σ H R ⟨W, env, hH, ok, er, q⟩ => by
  subst hH
  refine ⟨W, env, rfl, ok, er, (PostG.bind q).mono fun m W1 ok1 s1 q1 v rv => ?_⟩
  obtain ⟨a, t, s, h1, o, q2⟩ := itM_ok ok1 rv (PostG.bind q1)
  subst h1
  obtain ⟨xs, nw⟩ := o.now
  have j := jok_en o
  have q3 := PostG.ret (E := E) ok1 q2
  refine ⟨a, xs, rfl, ?_⟩
  cases t with
  | true => exact .inr ⟨nw, q3 _ j⟩
  | false => exact .inl ⟨nw, q3 _ j⟩
/-- range -/
def rngM (lo n : Int) : SIt := .vals ((List.range (n - lo).toNat).map fun (i : Nat) => M.d (.int (lo + (i : Int))))
def rngOk (i : Int) : Bool := decide (-4611686018427387904 ≤ i) && decide (i < 4611686018427387904)
def iRng : OpN → Env → Sm SIt := fun _ _ => fail
def rng1 (xs : List M) : Sm SIt := match xs with
  | [.d (.int n)] => if rngOk n = true then rt (rngM 0 n) else fail
  | _ => fail
def rng2 (xs : List M) : Sm SIt := match xs with
  | [.d (.int l), .d (.int n)] => if (rngOk l && rngOk n) = true then rt (rngM l n) else fail
  | _ => fail
def iRng1F (fs : Env → Sm (List M)) : Env → Sm SIt := fun env => bnd (fs env) rng1
def iRng2F (fs : Env → Sm (List M)) : Env → Sm SIt := fun env => bnd (fs env) rng2
theorem jok_rng {K : PySem.W.Frag} {W : Wd} (lo n : Int) : JOk K W (rngM lo n) (Itr lo (n - lo).toNat) := fun W2 ok2 s2 i => by
  unfold rngM
  refine ⟨fun e => ?_, fun m e => ?_⟩
  · have := vals_stop e
    rw [List.length_map, List.length_range] at this
    exact this
  · simp only [SIt.get, Option.some.injEq] at e
    rw [List.getElem?_map] at e
    by_cases hi : i < (n - lo).toNat
    · rw [List.getElem?_range hi] at e
      cases e
      refine ⟨hi, fun x H' hy => ?_⟩
      obtain ⟨e1, e2⟩ := hy
      exact ⟨W2, e1.symm, rfl, ok2, Step.refl _, by rw [e2]; simp only [RM, RD]⟩
    · rw [List.getElem?_eq_none (by rw [List.length_range]; omega)] at e
      cases e
theorem i_rng1 {a : Expr} (hg : Gl X "range") (hm : X.mg "range" = none) (ha : PA X [a] (tA X.K E fs)) (hs : starEach [a] X.env = [(false, eval a X.env)] := by rfl) : PI X tg (.Call (.Name "range" p) [a] [] pos) (tIt X.K E (iRng1F fs)) := PI.imp (pi_range1 hg hm ha hs) fun σ H R ⟨W, env, hH, ok, er, q⟩ => by
  subst hH
  refine ⟨W, env, rfl, ok, er, (PostG.bind q).mono fun ms W1 ok1 s1 q1 vs rvs => ?_⟩
  unfold rng1 at q1
  split at q1
  · rename_i n
    obtain ⟨v, h1, h2⟩ := RMs.one rvs
    split at q1
    · rename_i hr
      unfold rngOk at hr
      simp only [Bool.and_eq_true, decide_eq_true_eq] at hr
      have q2 := PostG.ret (E := E) ok1 q1
      refine ⟨n, by rw [h1, int_of h2], by omega, by omega, ?_⟩
      have := q2 (Itr 0 n.toNat) (by have := jok_rng (K := X.K) (W := W1) 0 n; rw [Int.sub_zero] at this; exact this)
      exact this
    · exact q1.elim
  · exact q1.elim
theorem i_rng2 {a b : Expr} (hg : Gl X "range") (hm : X.mg "range" = none) (ha : PA X [a, b] (tA X.K E fs)) (hs : starEach [a, b] X.env = [(false, eval a X.env), (false, eval b X.env)] := by rfl) (hs2 : starEach [b] X.env = [(false, eval b X.env)] := by rfl) : PI X tg (.Call (.Name "range" p) [a, b] [] pos) (tIt X.K E (iRng2F fs)) := PI.imp (pi_range2 hg hm ha hs hs2) fun σ H R ⟨W, env, hH, ok, er, q⟩ => by
  subst hH
  refine ⟨W, env, rfl, ok, er, (PostG.bind q).mono fun ms W1 ok1 s1 q1 vs rvs => ?_⟩
  unfold rng2 at q1
  split at q1
  · rename_i l n
    obtain ⟨v, v', h1, h2, h3⟩ := RMs.two rvs
    split at q1
    · rename_i hr
      unfold rngOk at hr
      simp only [Bool.and_eq_true, decide_eq_true_eq] at hr
      have q2 := PostG.ret (E := E) ok1 q1
      exact ⟨l, n, by rw [h1, int_of h2, int_of h3], by omega, q2 _ (jok_rng l n)⟩
    · exact q1.elim
  · exact q1.elim

/-! ### x[i] = e, x.extend(e), the list frozen -/
def setD (x i m : M) : Sm Unit := fun h => match x, i, m with
  | .obj k, .d (.int j), .d y => match h[k]? with
    | some (.lst xs) => match ixN xs.length j with
      | some n => some (.val () (h.set k (.lst (xs.set n y))))
      | none => none
    | _ => none
  | _, _, _ => none
def sSetIx (fo fi f : ES) : SS := fun env => bnd (f env) fun m => bnd (fo env) fun x => bnd (fi env) fun i => bnd (setD x i m) fun _ => rt (.nx, env)
theorem RDs.set {F : Hp} : ∀ {xs : List PyData} {vs : List V} {n : Nat} {y : PyData} {v : V}, RDs F xs vs → RD F y v → RDs F (xs.set n y) (vs.set n v)
  | [], vs, n, y, v, h, r => by simp only [RDs] at h; subst h; simp only [List.set_nil, RDs]
  | d :: ds, vs, 0, y, v, h, r => by
    simp only [RDs] at h
    obtain ⟨u, us, h1, h2, h3⟩ := h
    subst h1
    simp only [List.set_cons_zero, RDs]
    exact ⟨v, us, rfl, r, h3⟩
  | d :: ds, vs, n + 1, y, v, h, r => by
    simp only [RDs] at h
    obtain ⟨u, us, h1, h2, h3⟩ := h
    subst h1
    simp only [List.set_cons_succ, RDs]
    exact ⟨u, us.set n v, rfl, h2, RDs.set h3 r⟩
theorem ss_setIx {o i a : Expr} {fo fi : ES} {tp : Pos} (ha : PE X a (tM X.K E f)) (ho : PE X o (tM X.K E fo)) (hi : PE X i (tM X.K E fi))
    (h1 : ∀ v, assign (.Subscript o i tp) X.env v = (do
      let ov ← holding [v] (eval o X.env)
      let iv ← holding [v, ov] (eval i X.env)
      standAt tp
      holding [v, ov, iv] (setItem ov iv v)
      release [v, ov, iv] []) := by intro _; rfl) (hs : swapsWithSole [.Subscript o i tp] a pos.line X.env = pure false := by rfl) (hw : swappedStores [.Subscript o i tp] a X.env = pure none := by rfl)
    (h2 : (assignEach [.Subscript o i tp] X.env).map (·.2) = [assign (.Subscript o i tp) X.env] := by rfl) : PS X (.Assign [.Subscript o i tp] a pos) (tS X.K E (sSetIx fo fi f)) := PS.imp (ps_asg ha (pg_sub ho hi set_list h1) hs hw h2) fun D σ H ⟨W, env, hH, ok, er, q⟩ => by
  subst hH
  refine ⟨W, env, rfl, ok, er, (PostG.bind q).mono fun m W1 ok1 s1 q1 v rv => ⟨W1, env, rfl, ok1, er.step s1, (PostG.bind q1).mono fun x W2 ok2 s2 q2 u ru => ⟨W2, env, rfl, ok2, (er.step s1).step s2, (PostG.bind q2).mono fun j W3 ok3 s3 q3 w rw' => ?_⟩⟩⟩
  have q4 := PostG.bind q3
  unfold setD at q4
  split at q4
  · rename_i k j y
    split at q4
    · rename_i xs ec
      split at q4
      · rename_i n en
        have rk := RM.step ru s3
        have ry := RM.step rv (s2.trans s3)
        simp only [RM] at rk ry
        obtain ⟨vs, g1, g2⟩ := ok3.cell k _ ec
        have hlen := RDs.length g2
        have hne : Cell.lst xs ≠ .dead := fun z => nomatch z
        have okw := ok3.wr ec hne (c := .lst (xs.set n y)) (o := .lst (vs.set n v)) ⟨_, rfl, RDs.set g2 ry⟩
        have q5 := q4 (W3.wr k (.lst (xs.set n y)) (.lst (vs.set n v))) rfl okw (Step.wr ok3 ec hne)
        exact ⟨W3.ρ k, vs, j, n, rk.2, int_of rw', g1, by rw [hlen]; exact en, (PostG.ret (E := E) (Q := SEnd X.K D) okw q5) σ (((er.step s1).step (s2.trans s3)).step (Step.wr ok3 ec hne))⟩
      · exact q4.elim
    · exact q4.elim
  · exact q4.elim
def extD (x y : M) : Sm M := fun h => match x with
  | .obj k => match h[k]?, (lstM h y).bind asDs with
    | some (.lst xs), some ys => if xs.length + ys.length ≤ LIM then some (.val (.d .none) (h.set k (.lst (xs ++ ys)))) else none
    | _, _ => none
  | _ => none
def eExt (fo f : ES) : ES := fun env => bnd (fo env) fun x => bnd (chkL x) fun _ => bnd (f env) fun m => extD x m
theorem p_extend {o : Expr} {fo : ES} {apos : Pos} (ho : PE X o (tM X.K E fo)) (he : PE X e (tM X.K E f)) (hbase : attributeBase o "extend" X.env (eval o X.env) = eval o X.env := by rfl)
    (hfew : ((backTo pos (starEach [e] X.env)).all (fun x => !x.1) && (backToKw pos (keywordEach [] X.env)).all (fun x => x.1.isSome) && decide ([e].length + ([] : List Keyword).length + (if ([] : List Keyword).isEmpty then 0 else 1) < 30)) = true := by rfl)
    (hline : (apos.endLine == pos.line) = true := by rfl) (hs : starEach [e] X.env = (false, eval e X.env) :: starEach [] X.env := by rfl) (hplain : (backTo pos (starEach [] X.env)).any (·.1) = false := by rfl) :
    PE X (.Call (.Attribute o "extend" apos) [e] [] pos) (tM X.K E (eExt fo f)) := PE.imp (pe_bm PySem.F.plainAttrs_list PySem.F.slot_list_extend PySem.F.type_list_extend mt_extend ho (pa_cons he pa_nil hs) hbase hfew hline hs hplain) fun σ H Q ⟨W, env, hH, ok, er, p⟩ => by
  subst hH
  refine ⟨W, env, rfl, ok, er, (PostG.bind p).mono fun x W1 ok1 s1 p1 v rv => ?_⟩
  obtain ⟨ty, p1'⟩ := chkL_ok ok1 rv (PostG.bind p1)
  refine ⟨ty, W1, env, rfl, ok1, er.step s1, (PostG.bind p1').mono fun m W2 ok2 s2 p2 u ru => ?_⟩
  unfold extD at p2
  split at p2
  · rename_i k
    split at p2
    · rename_i xs ys ec ey
      split at p2
      · rename_i hl
        have rk := RM.step rv s2
        simp only [RM] at rk
        obtain ⟨vs, h1, h2⟩ := ok2.cell k _ ec
        obtain ⟨ms, e1, e2⟩ := Option.bind_eq_some_iff.mp ey
        obtain ⟨b, us, g1, g2, g3⟩ := lstM_ok ok2 ru e1
        have g4 := asDs_rel e2 g3
        have hne : Cell.lst xs ≠ .dead := fun z => nomatch z
        exact ⟨W2.ρ k, b, vs, us, rk.2, by rw [g1], h1, g2, by rw [RDs.length h2, RDs.length g4]; exact hl, p2 (W2.wr k (.lst (xs ++ ys)) (.lst (vs ++ us))) rfl (ok2.wr ec hne ⟨_, rfl, RDs.append h2 g4⟩) (Step.wr ok2 ec hne) _ (by simp only [RM, RD])⟩
      · exact p2.elim
    · exact p2.elim
  · exact p2.elim
/-- a cell's list, to be changed no more -/
def frzM (m : M) : Sm M := fun h => match m with
  | .obj k => match h[k]? with
    | some (.lst xs) => some (.val (.d (.list xs)) (h.set k .dead))
    | _ => none
  | m => some (.val m h)
def eFrz (f : ES) : ES := fun env => bnd (f env) frzM
def Wd.fz (W : Wd) (k : Nat) (o : HO) : Wd := { W with F := upd W.F (W.ρ k) o, h := W.h.set k .dead }
theorem Wd.Ok.fz {K : PySem.W.Frag} {W : Wd} (ok : W.Ok K) {k : Nat} {xs : List PyData} {vs : List V} (h0 : W.h[k]? = some (.lst xs)) (hH : W.H (W.ρ k) = some (.lst vs)) : (W.fz k (.lst vs)).Ok K ∧ Step W (W.fz k (.lst vs)) := by
  have hk := lt_of_get h0
  have hne : Cell.lst xs ≠ .dead := fun z => nomatch z
  have hF := ok.out k _ h0 hne
  have get : ∀ j c', (W.h.set k Cell.dead)[j]? = some c' → (j = k ∧ c' = Cell.dead) ∨ (j ≠ k ∧ W.h[j]? = some c') := fun j c' e => by
    by_cases hj : j = k
    · subst hj
      rw [List.getElem?_set_self (h := hk)] at e
      exact .inl ⟨rfl, (Option.some.inj e).symm⟩
    · rw [List.getElem?_set_ne (Ne.symm hj)] at e
      exact .inr ⟨hj, e⟩
  refine ⟨⟨fun a x e => ?_, fun j hj => ok.al j (by simpa [Wd.fz] using hj), fun j c' e => ?_, fun j c' e hd' => ?_, fun i j c1 c2 e1 e2 d1 d2 z => ?_⟩,
    ⟨upd_same_hp hF, fun _ _ => rfl, by show W.h.length ≤ (W.h.set k _).length; rw [List.length_set]; exact Nat.le_refl _, fun a x e _ => e, fun a e => e, fun j h1 h2 => ?_, fun a x e => ?_⟩⟩
  · by_cases ha : a = W.ρ k
    · rw [show (W.fz k (.lst vs)).F a = upd W.F (W.ρ k) (.lst vs) a from rfl, ha, upd_same] at e
      cases e
      rw [ha]; exact hH
    · rw [show (W.fz k (.lst vs)).F a = upd W.F (W.ρ k) (.lst vs) a from rfl, upd_ne ha] at e
      exact ok.sub a x e
  · show CellR K W.ρ (upd W.F (W.ρ k) (.lst vs)) (W.h.set k Cell.dead).length c' (W.H (W.ρ j))
    rcases get j c' e with ⟨e1, e2⟩ | ⟨e1, e2⟩
    · subst e2; trivial
    · exact (ok.cell j c' e2).mono (upd_same_hp hF) (by rw [List.length_set]; exact Nat.le_refl _) fun _ _ => rfl
  · rcases get j c' e with ⟨e1, e2⟩ | ⟨e1, e2⟩
    · exact absurd e2 hd'
    · show upd W.F (W.ρ k) (.lst vs) (W.ρ j) = none
      rw [upd_ne (fun z => e1 (ok.inj j k c' _ e2 h0 hd' hne z))]
      exact ok.out j c' e2 hd'
  · rcases get i c1 e1 with ⟨a1, a2⟩ | ⟨a1, a2⟩
    · exact absurd a2 d1
    · rcases get j c2 e2 with ⟨b1, b2⟩ | ⟨b1, b2⟩
      · exact absurd b2 d2
      · exact ok.inj i j c1 c2 a2 b2 d1 d2 z
  · have h2' : j < (W.h.set k Cell.dead).length := h2
    rw [List.length_set] at h2'
    exact absurd h2' (Nat.not_lt.mpr h1)
  · by_cases ha : a = W.ρ k
    · exact .inr (.inr ⟨k, hk, ha⟩)
    · rw [show (W.fz k (.lst vs)).F a = upd W.F (W.ρ k) (.lst vs) a from rfl, upd_ne ha] at e
      exact .inl e
theorem p_frz (h : PE X e (tM X.K E f)) : PE X e (tM X.K E (eFrz f)) := PE.imp h fun σ H Q ⟨W, env, hH, ok, er, p⟩ => by
  subst hH
  refine ⟨W, env, rfl, ok, er, (PostG.bindF (Step.refl W) p).mono fun m W1 ok1 s1 ⟨s0, p1⟩ v rv => ?_⟩
  have other : frzM m W1.h = some (.val m W1.h) → Q v W1.H := fun z => by rw [z] at p1; exact p1 W1 rfl ok1 s0 v rv
  cases m with
  | obj k =>
    unfold frzM at p1
    simp only at p1
    split at p1
    · rename_i xs ec
      obtain ⟨vs, h1, h2⟩ := ok1.cell k _ ec
      obtain ⟨okf, sf⟩ := ok1.fz ec h1
      simp only [RM] at rv
      refine p1 (W1.fz k (.lst vs)) rfl okf (s0.trans sf) v ?_
      show RM X.K W1.ρ (upd W1.F (W1.ρ k) (.lst vs)) (W1.h.set k Cell.dead).length (.d (.list xs)) v
      simp only [RM, RD]
      exact ⟨W1.ρ k, vs, rv.2, upd_same, RDs.mono sf.F _ _ h2⟩
    · exact p1.elim
  | d y => exact other rfl
  | tup ms => exact other rfl
  | scr ns => exact other rfl
  | ad a => exact other rfl
end

open PyProof.Rows (IntsAre AllBare)
/-! ### the law -/
theorem law_callG {P : Program} {w : World} {K : PySem.W.Frag} {mg mb : Str → Option Value} {k : Nat} {fa a : Addr} {fd : FuncData} {x : Str} {sp : Sp} {s₁ : Shared} {vs : List Value} {ns : List Int}
    (KX : K.In s₁.heap) (hns : s₁.heap.Ns mainGlobals mg) (hb : s₁.heap.Ns builtinsNs mb) (hbb : ∀ x : Str, x ≠ "__name__" → mb x = bootBuiltins x) (hlim : s₁.heap.NoLimit) (hg : s₁.gens = #[])
    (ha : s₁.heap.get? a = some { cls := .type "list", data := .seq vs.toArray }) (hi : IntsAre vs ns) (hl : ns.length ≤ sizeLine) (hr : Room k callerA)
    (F : ∀ base : Heap, K.In base → base.Ns mainGlobals mg → FnG P w K mg base CX0 k fa fd [x] sp) (hbind : ∀ (s : Shared) (u : Value), BindsTo s fd ⟨[u], []⟩ [(x, u)])
    (hsp : ∀ H : Hp, Only H → SqL K H a (ns.map V.int) → sp [.ref a] H (fun v _ => v = .bl true) fun _ _ _ => False) :
    codeAny (model P w) callerA (.call (.ref fa) ⟨[.ref a], []⟩) (fun r s' => r = .ok (.ret (.bool true)) ∧ OldK s₁.heap s'.heap ∧ s'.os = s₁.os ∧ AllBare s'.gens) s₁ := by
  have rv := vals_ints hi
  have lenV := hi.length
  have core : ∀ H : Hp, Only H → SqL K H a (ns.map V.int) → HOk P w H s₁.heap → (∀ b, H b ≠ none → b = a) → (H a ≠ none → K.lookup a = none) →
      codeAny (model P w) callerA (.call (.ref fa) ⟨[.ref a], []⟩) (fun r s' => r = .ok (.ret (.bool true)) ∧ OldK s₁.heap s'.heap ∧ s'.os = s₁.os ∧ AllBare s'.gens) s₁ := by
    intro H hO hS hok hA hK
    have base_of : ∀ {b : Addr} {o : Obj}, s₁.heap.get? b = some o → H b = none → (hidT s₁.heap H).get? b = some o := fun e n => hidT_get e n
    have noA : ∀ {b : Addr} {o : Obj} {es : Array DictEntry} {ep : Nat}, s₁.heap.get? b = some o → o.data = .dict es ep → H b = none := fun {b o es ep} e d => by
      cases q : H b with
      | none => rfl
      | some u =>
        have e' : b = a := hA b (by rw [q]; simp)
        subst e'
        rw [ha] at e; cases e
        have d' : Data.seq vs.toArray _ = Data.dict es ep := d
        cases d'
    have nsK : ∀ {b : Addr} {m : Str → Option Value}, s₁.heap.Ns b m → (hidT s₁.heap H).Ns b m := fun {b m} ⟨o, es, ep, e, d, r⟩ => ⟨o, es, ep, base_of e (noA e d), d, r⟩
    have hKb : K.In (hidT s₁.heap H) := fun b o e => base_of (KX b o e) (by
      cases q : H b with
      | none => rfl
      | some u =>
        have e' : b = a := hA b (by rw [q]; simp)
        subst e'
        rw [hK (by rw [q]; simp)] at e; cases e)
    have hM : Mod K mg (hidT s₁.heap H) := ⟨hKb, nsK hns, ⟨mb, nsK hb, hbb⟩, let ⟨mc, h1, h2⟩ := hlim; ⟨mc, nsK h1, h2⟩⟩
    have e0 : Env0 P w K mg (hidT s₁.heap H) callerA [] s₁ H := ⟨rfl, hM, fun b o e => of_hidT e, Nat.le_of_eq (hidT_size _ _), trivial, fun b hb => absurd (show b ∈ ([] : List Addr) from hb) (by simp), hok, .of_eq hg⟩
    refine codeAny_mono ((F _ hKb (nsK hns)).run callerA [] s₁ H ⟨[.ref a], []⟩ [.ref a] [.ref a] _ _ hr rfl e0 (hbind s₁ (.ref a)) (.cons rfl .nil) (hsp H hO hS)) fun r s' h => ?_
    cases r with
    | error e => exact False.elim h
    | ok fl =>
      cases fl with
      | next => exact False.elim h
      | brk => exact False.elim h
      | cont => exact False.elim h
      | ret u =>
        obtain ⟨v, H', os, bare, un, hok', r', q⟩ := h
        have q' : v = .bl true := q
        subst q'
        obtain rfl : u = Value.bool true := r'
        refine ⟨rfl, OldK.of_keep fun b o e => ?_, os, bare⟩
        cases q : H b with
        | none => exact un.keep b o e q (by intro z; exact absurd (show b ∈ ([] : List Addr) from z) (by simp)) (by simp)
        | some u =>
          rcases hO b with z | ⟨ob, xs, z⟩
          · rw [q] at z; cases z
          · have z2 := un.frzs b ob _ z
            obtain ⟨e1, _⟩ := hok b _ z
            obtain ⟨e2, _⟩ := hok' b _ z2
            rw [e] at e1; cases e1
            exact e2
  cases hk : K.lookup a with
  | some o =>
    have e := KX a o hk
    rw [ha] at e
    cases e
    refine core (fun _ => none) (fun _ => .inl rfl) (.inr ⟨_, vs.toArray, _, hk, rfl, rfl, rfl, by rw [List.size_toArray, lenV]; exact hl, by simpa using rv⟩) (fun b u z => by have z' : (none : Option HO) = some u := z; cases z') (fun b z => absurd rfl z) fun z => absurd rfl z
  | none =>
    refine core (fun b => if b = a then some (.frz { cls := .type "list", data := .seq vs.toArray } (.lst (ns.map V.int))) else none) (fun b => ?_) (.inl (.inr ⟨{ cls := .type "list", data := .seq vs.toArray }, if_pos rfl⟩)) (fun b u z => ?_) (fun b z => ?_) fun _ => hk
    · by_cases hb : b = a
      · exact .inr ⟨_, _, if_pos hb⟩
      · exact .inl (if_neg hb)
    · by_cases hb : b = a
      · have z' := (if_pos hb).symm.trans z
        cases z'
        subst hb
        exact ⟨ha, by rw [List.length_map]; exact hl, vs, _, rv, ha⟩
      · have z' := (if_neg hb).symm.trans z
        cases z'
    · by_cases hb : b = a
      · exact hb
      · exact absurd (if_neg hb) z
/-- what the law's run gives, at each script -/
theorem law_says {K : PySem.W.Frag} {f : Fn} {ns : List Int} (h : f [.scr ns] [] = some (.val (.d (.bool true)) [])) : ∀ H : Hp, Only H → ∀ a, SqL K H a (ns.map V.int) → sp0 K 1 f [.ref a] H (fun v _ => v = .bl true) fun _ _ _ => False := fun H hO a hS => by
  refine ⟨⟨fun _ => 0, H, H, []⟩, [.scr ns], rfl, ⟨Same.refl _, fun k hk => absurd hk (Nat.not_lt_zero _), fun k c e => (by cases e), fun k c e => (by cases e), fun j k c c' e => (by cases e)⟩, by simp only [RMs, RM]; exact ⟨.ref a, [], rfl, ⟨a, rfl, hS⟩, rfl⟩, rfl, ?_⟩
  rw [show f [.scr ns] (Wd.h ⟨fun _ => 0, H, H, []⟩) = some (.val (.d (.bool true)) []) from h]
  exact fun W' _ _ _ v rv => bl_of rv
/-- behind it: some lists may be left -/
theorem law_says' {K : PySem.W.Frag} {f : Fn} {ns : List Int} {h' : Hh} (h : f [.scr ns] [] = some (.val (.d (.bool true)) h')) : ∀ H : Hp, Only H → ∀ a, SqL K H a (ns.map V.int) → sp0 K 1 f [.ref a] H (fun v _ => v = .bl true) fun _ _ _ => False := fun H hO a hS => by
  refine ⟨⟨fun _ => 0, H, H, []⟩, [.scr ns], rfl, ⟨Same.refl _, fun k hk => absurd hk (Nat.not_lt_zero _), fun k c e => (by cases e), fun k c e => (by cases e), fun j k c c' e => (by cases e)⟩, by simp only [RMs, RM]; exact ⟨.ref a, [], rfl, ⟨a, rfl, hS⟩, rfl⟩, rfl, ?_⟩
  rw [show f [.scr ns] (Wd.h ⟨fun _ => 0, H, H, []⟩) = some (.val (.d (.bool true)) h') from h]
  exact fun W' _ _ _ v rv => bl_of rv
theorem walk_ofG {l : PySem.W.OpenLaw} {n k : Nat} {q : Program} {loose : List Str} {XP : (Str → Option Value) → Heap → Prop} {YP : World → Heap → Prop} {d : DefRec} {K : Params → PySem.W.Frag} {sp : World → Sp} {x : Str}
    (hn : l.most = some n) (hn2 : n ≤ sizeLine) (hdf : d.params.defaults = []) (hr : Room k callerA)
    (hY : ∀ (w : World) (h : Heap), YP w h → (K w.params).In h)
    (F : ∀ (w : World) (mg : Str → Option Value) (fa : Addr) (h : Heap), (K w.params).In h → h.Ns mainGlobals mg → mg d.name = some (.ref fa) →
      ∃ fd : FuncData, (∀ (s : Shared) (u : Value), BindsTo s fd ⟨[u], []⟩ [(x, u)]) ∧
        ∀ base : Heap, (K w.params).In base → base.Ns mainGlobals mg → FnG l.prog w (K w.params) mg base CX0 k fa fd [x] (sp w))
    (hsp : ∀ (w : World) (H : Hp) (a : Addr) (ns : List Int), ns.length ≤ n → Only H → SqL (K w.params) H a (ns.map V.int) → sp w [.ref a] H (fun v _ => v = .bl true) fun _ _ _ => False) :
    PySem.W.WalkO q loose XP YP l.row.toRowW d [] (fun f vs => PySem.call f vs) := by
  refine Att.attach_call hn hdf fun w s₀ s₁ mg mb fa o pm cd doc a vs ns G Y ho hd hcd hmg hobj hints hlen hg => ?_
  have KX := hY w _ Y
  obtain ⟨fd, hb, hF⟩ := F w mg fa _ KX G.T.g hmg
  exact law_callG KX G.T.g G.T.b G.T.builtins G.T.nolimit hg hobj hints (Nat.le_trans hlen hn2) hr hF hb fun H hO hS => hsp w H a ns hlen hO hS
end G

/-! plain laws about mirrors: no program in sight -/
namespace G
open PySem PySem.Spec L2

theorem bnd_rt {α β : Type} (a : α) (k : α → Sm β) : bnd (rt a) k = k a := rfl
theorem nox_rt {α : Type} (a : α) : nox (rt a) = rt a := rfl
theorem bnd_assoc {α β γ : Type} (x : Sm α) (k : α → Sm β) (l : β → Sm γ) : bnd (bnd x k) l = bnd x fun a => bnd (k a) l := by
  funext h
  unfold bnd
  cases x h with
  | none => rfl
  | some o => cases o <;> rfl
theorem bnd_val {α β : Type} {x : Sm α} {k : α → Sm β} {h h' : Hh} {a : α} (e : x h = some (.val a h')) : bnd x k h = k a h' := by
  unfold bnd
  rw [e]
theorem nox_val {α : Type} {x : Sm α} {h h' : Hh} {a : α} (e : x h = some (.val a h')) : nox x h = some (.val a h') := by
  unfold nox
  rw [e]
theorem var_rt {i : Nat} {env : Env} {m : M} (e : env[i]? = some (some m)) : eVar i env = rt m := by
  unfold eVar
  rw [e]
theorem rt_eq {α : Type} (a : α) (h : Hh) : rt a h = some (.val a h) := rfl
theorem ite_rt {α : Type} {c : Prop} [Decidable c] {a b : α} : (if c then rt a else rt b : Sm α) = rt (if c then a else b) := by split <;> rfl

/-! ### loops -/
def forL (p : Pat) (body : SS) : List M → Env → Sm (Fl × Env)
  | [], env => rt (.nx, env)
  | m :: ms, env => match p.asg m env with
    | none => fail
    | some env1 => bnd (body env1) (turnF (forL p body ms))
theorem forGo_vals {p : Pat} {body : SS} (xs : List M) : ∀ (f i : Nat) (env : Env), xs.length < i + f → i ≤ xs.length → forGo (.vals xs) p body f i env = forL p body (xs.drop i) env
  | 0, i, env, h1, h2 => absurd h1 (by omega)
  | f + 1, i, env, h1, h2 => by
    funext h
    by_cases hi : i < xs.length
    · have hg : (SIt.vals xs).get i h = some (some xs[i]) := by simp only [SIt.get]; rw [List.getElem?_eq_getElem hi]
      rw [List.drop_eq_getElem_cons hi]
      simp only [forGo, forL, hg]
      cases e : p.asg xs[i] env with
      | none => rfl
      | some env1 =>
        have ih : forGo (.vals xs) p body f (i + 1) = forL p body (xs.drop (i + 1)) := funext fun env2 => forGo_vals (p := p) (body := body) xs f (i + 1) env2 (by omega) (by omega)
        simp only [ih]
    · have hg : (SIt.vals xs).get i h = some none := by simp only [SIt.get]; rw [List.getElem?_eq_none (by omega)]
      rw [List.drop_eq_nil_of_le (by omega)]
      simp only [forGo, forL, hg]
      rfl
theorem for_vals {itf : Env → Sm SIt} {p : Pat} {body : SS} {env : Env} {xs : List M} {h h' : Hh} (e : itf env h = some (.val (.vals xs) h')) : sFor itf p body env h = forL p body xs env h' := by
  unfold sFor
  rw [bnd_val e]
  show forGo (.vals xs) p body (xs.length + 1) 0 env h' = _
  rw [forGo_vals xs _ 0 env (by omega) (by omega), List.drop_zero]
theorem for_rt {itf : Env → Sm SIt} {p : Pat} {body : SS} {env : Env} {xs : List M} (e : itf env = rt (.vals xs)) : sFor itf p body env = forL p body xs env := by
  funext h
  exact for_vals (by rw [e]; rfl)
/-- a loop that goes through -/
theorem forL_inv (I : Env → Hh → Prop) {p : Pat} {body : SS} : ∀ {xs : List M} {env : Env} {h : Hh}, I env h →
    (∀ m ∈ xs, ∀ env h, I env h → ∃ env1 env2 h2, p.asg m env = some env1 ∧ body env1 h = some (.val (.nx, env2) h2) ∧ I env2 h2) → ∃ env' h', forL p body xs env h = some (.val (.nx, env') h') ∧ I env' h'
  | [], env, h, i, _ => ⟨env, h, rfl, i⟩
  | m :: ms, env, h, i, st => by
    obtain ⟨env1, env2, h2, e1, e2, i2⟩ := st m (List.mem_cons_self ..) env h i
    obtain ⟨env', h', e3, i3⟩ := forL_inv I i2 fun x hx => st x (List.mem_cons_of_mem _ hx)
    refine ⟨env', h', ?_, i3⟩
    simp only [forL, e1]
    rw [bnd_val e2]
    exact e3
/-- with the turn's number -/
theorem forL_invN (I : Nat → Env → Hh → Prop) {p : Pat} {body : SS} : ∀ {xs : List M} {k : Nat} {env : Env} {h : Hh}, I k env h →
    (∀ i m, xs[i]? = some m → ∀ env h, I (k + i) env h → ∃ env1 env2 h2, p.asg m env = some env1 ∧ body env1 h = some (.val (.nx, env2) h2) ∧ I (k + i + 1) env2 h2) → ∃ env' h', forL p body xs env h = some (.val (.nx, env') h') ∧ I (k + xs.length) env' h'
  | [], k, env, h, i, _ => ⟨env, h, rfl, i⟩
  | m :: ms, k, env, h, i, st => by
    obtain ⟨env1, env2, h2, e1, e2, i2⟩ := st 0 m rfl env h i
    obtain ⟨env', h', e3, i3⟩ := forL_invN I (k := k + 1) i2 fun j x hx env h hi => by
      have := st (j + 1) x (by simpa using hx) env h (by rw [show k + (j + 1) = k + 1 + j by omega]; exact hi)
      rw [show k + (j + 1) + 1 = k + 1 + j + 1 by omega] at this
      exact this
    refine ⟨env', h', ?_, by rw [List.length_cons, show k + (ms.length + 1) = k + 1 + ms.length by omega]; exact i3⟩
    simp only [forL, e1]
    rw [bnd_val e2]
    exact e3

/-! ### comprehensions -/
def compL (p : Pat) (tt : Env → Sm Bool) (el : ES) (env : Env) : List M → List M → Sm (List M)
  | [], acc => rt acc
  | m :: ms, acc => match p.asg m env with
    | none => fail
    | some env1 => bnd (nox (tt env1)) fun b => if b = true then bnd (nox (el env1)) fun y => compL p tt el env ms (acc ++ [y]) else compL p tt el env ms acc
theorem compGo_vals {p : Pat} {tt : Env → Sm Bool} {el : ES} {env : Env} (xs : List M) : ∀ (f i : Nat) (acc : List M), xs.length < i + f → i ≤ xs.length → compGo (.vals xs) p tt el env f i acc = compL p tt el env (xs.drop i) acc
  | 0, i, acc, h1, h2 => absurd h1 (by omega)
  | f + 1, i, acc, h1, h2 => by
    funext h
    by_cases hi : i < xs.length
    · have hg : (SIt.vals xs).get i h = some (some xs[i]) := by simp only [SIt.get]; rw [List.getElem?_eq_getElem hi]
      rw [List.drop_eq_getElem_cons hi]
      simp only [compGo, compL, hg]
      cases e : p.asg xs[i] env with
      | none => rfl
      | some env1 =>
        have ih := fun acc => compGo_vals (p := p) (tt := tt) (el := el) (env := env) xs f (i + 1) acc (by omega) (by omega)
        simp only [ih]
    · have hg : (SIt.vals xs).get i h = some none := by simp only [SIt.get]; rw [List.getElem?_eq_none (by omega)]
      rw [List.drop_eq_nil_of_le (by omega)]
      simp only [compGo, compL, hg]
      rfl
theorem comp_vals {itf : Env → Sm SIt} {p : Pat} {tt : Env → Sm Bool} {el : ES} {vs : List Nat} {env : Env} {xs : List M} {h h' : Hh} (e : itf env h = some (.val (.vals xs) h')) (hl : xs.length < LIM) :
    nComp itf p tt el vs env h = compL p tt el (wipeE env vs) xs [] h' := by
  unfold nComp
  rw [bnd_val e]
  show (if xs.length < LIM then compGo (.vals xs) p tt el (wipeE env vs) (xs.length + 1) 0 [] h' else none) = _
  rw [if_pos hl, compGo_vals xs _ 0 [] (by omega) (by omega), List.drop_zero]
theorem comp_rt {itf : Env → Sm SIt} {p : Pat} {tt : Env → Sm Bool} {el : ES} {vs : List Nat} {env : Env} {xs : List M} (e : itf env = rt (.vals xs)) (hl : xs.length < LIM) :
    nComp itf p tt el vs env = compL p tt el (wipeE env vs) xs [] := by
  funext h
  exact comp_vals (by rw [e]; rfl) hl
/-- items that are reckoned without a trace -/
theorem compL_pure {p : Pat} {tt : Env → Sm Bool} {el : ES} {env : Env} (t : M → Bool) (g : M → M) : ∀ {xs : List M} {acc : List M}, (∀ m ∈ xs, ∃ env1, p.asg m env = some env1 ∧ tt env1 = rt (t m) ∧ (t m = true → el env1 = rt (g m))) →
    compL p tt el env xs acc = rt (acc ++ (xs.filter t).map g)
  | [], acc, _ => by simp only [compL, List.filter_nil, List.map_nil, List.append_nil]
  | m :: ms, acc, st => by
    obtain ⟨env1, e1, e2, e3⟩ := st m (List.mem_cons_self ..)
    have ih := fun acc => compL_pure (p := p) (tt := tt) (el := el) (env := env) t g (xs := ms) (acc := acc) fun x hx => st x (List.mem_cons_of_mem _ hx)
    simp only [compL, e1, e2, nox_rt, bnd_rt]
    cases ht : t m with
    | false => simp only [Bool.false_eq_true, if_false, ih, List.filter_cons, ht]
    | true => simp only [if_true, e3 ht, nox_rt, bnd_rt, ih, List.filter_cons, ht, List.map_cons, List.append_assoc, List.singleton_append]
/-- .. over a heap that stays -/
theorem compL_at {p : Pat} {tt : Env → Sm Bool} {el : ES} {env : Env} {h : Hh} (t : M → Bool) (g : M → M) : ∀ {xs : List M} {acc : List M}, (∀ m ∈ xs, ∃ env1, p.asg m env = some env1 ∧ tt env1 h = some (.val (t m) h) ∧ (t m = true → el env1 h = some (.val (g m) h))) →
    compL p tt el env xs acc h = some (.val (acc ++ (xs.filter t).map g) h)
  | [], acc, _ => by simp only [compL, List.filter_nil, List.map_nil, List.append_nil]; rfl
  | m :: ms, acc, st => by
    obtain ⟨env1, e1, e2, e3⟩ := st m (List.mem_cons_self ..)
    have ih := fun acc => compL_at (p := p) (tt := tt) (el := el) (env := env) (h := h) t g (xs := ms) (acc := acc) fun x hx => st x (List.mem_cons_of_mem _ hx)
    simp only [compL, e1]
    rw [bnd_val (nox_val e2)]
    cases ht : t m with
    | false => simp only [Bool.false_eq_true, if_false, ih, List.filter_cons, ht]
    | true =>
      simp only [if_true]
      rw [bnd_val (nox_val (e3 ht)), ih]
      simp only [List.filter_cons, ht, if_true, List.map_cons, List.append_assoc, List.singleton_append]
/-- items drawn one behind the other -/
theorem compL_inv (I : Hh → Prop) (P : M → Prop) {p : Pat} {el : ES} {env : Env} : ∀ {xs : List M} {acc : List M} {h : Hh}, I h → (∀ m ∈ acc, P m) →
    (∀ m ∈ xs, ∀ h, I h → ∃ env1 y h2, p.asg m env = some env1 ∧ el env1 h = some (.val y h2) ∧ P y ∧ I h2) → ∃ ys h', compL p bYes el env xs acc h = some (.val ys h') ∧ I h' ∧ (∀ m ∈ ys, P m) ∧ ys.length = acc.length + xs.length
  | [], acc, h, i, pa, _ => ⟨acc, h, rfl, i, pa, rfl⟩
  | m :: ms, acc, h, i, pa, st => by
    obtain ⟨env1, y, h2, e1, e2, py, i2⟩ := st m (List.mem_cons_self ..) h i
    obtain ⟨ys, h', e3, i3, p3, l3⟩ := compL_inv I P (p := p) (el := el) (env := env) (xs := ms) (acc := acc ++ [y]) i2 (fun x hx => by
      rcases List.mem_append.mp hx with q | q
      · exact pa x q
      · rw [List.mem_singleton.mp q]; exact py) fun x hx => st x (List.mem_cons_of_mem _ hx)
    refine ⟨ys, h', ?_, i3, p3, by rw [l3, List.length_append, List.length_singleton, List.length_cons]; omega⟩
    simp only [compL, e1]
    rw [bnd_val (a := true) (h' := h) (nox_val rfl), if_pos rfl, bnd_val (nox_val e2)]
    exact e3

/-! ### the pot -/
theorem M.low_mono {n n' : Nat} (h : n ≤ n') : ∀ m : M, m.low n = true → m.low n' = true := by
  intro m
  exact M.rec (motive_1 := fun m => m.low n = true → m.low n' = true) (motive_2 := fun ms => M.lows n ms = true → M.lows n' ms = true)
    (fun _ _ => rfl) (fun k l => by simp only [M.low, decide_eq_true_eq] at l ⊢; omega) (fun ms ih l => by simp only [M.low] at l ⊢; exact ih l) (fun _ _ => rfl) (fun _ _ => rfl) (fun _ => rfl)
    (fun m ms h1 h2 l => by simp only [M.lows, Bool.and_eq_true] at l ⊢; exact ⟨h1 l.1, h2 l.2⟩) m
theorem M.lows_mono {n n' : Nat} (h : n ≤ n') : ∀ ms : List M, M.lows n ms = true → M.lows n' ms = true
  | [], _ => rfl
  | m :: ms, l => by
    simp only [M.lows, Bool.and_eq_true] at l ⊢
    exact ⟨M.low_mono h m l.1, M.lows_mono h ms l.2⟩
theorem Cell.low_mono {n n' : Nat} (h : n ≤ n') {c : Cell} (l : c.low n = true) : c.low n' = true := by
  cases c with
  | mix ms => exact M.lows_mono h ms l
  | _ => rfl
theorem Cell.flat_low {n : Nat} {c : Cell} (l : c.flat = true) : c.low n = true := by
  cases c with
  | mix ms => cases l
  | _ => rfl
def flatH (h : Hh) : Prop := h.all (Cell.low h.length) = true
def flatX (h : Hh) : Prop := h.all Cell.flat = true
structure PotAt (kp : Nat) (h : Hh) : Prop where
  pot : ∃ p, h[kp]? = some (.lst [.int p])
  flat : flatH h
theorem flatH_iff {h : Hh} : flatH h ↔ ∀ c ∈ h, c.low h.length = true := by unfold flatH; rw [List.all_eq_true]
theorem flat_setL {h : Hh} {k : Nat} {c : Cell} (f : flatH h) (hc : c.low h.length = true) : flatH (h.set k c) := by
  rw [flatH_iff] at f ⊢
  rw [List.length_set]
  intro x hx
  rcases List.mem_or_eq_of_mem_set hx with q | q
  · exact f x q
  · rw [q]; exact hc
theorem flat_set {h : Hh} {k : Nat} {c : Cell} (f : flatH h) (hc : c.flat = true) : flatH (h.set k c) := flat_setL f (Cell.flat_low hc)
theorem flat_append {h g : Hh} (f : flatH h) (f' : flatX g) : flatH (h ++ g) := by
  rw [flatH_iff] at f ⊢
  intro c hc
  rcases List.mem_append.mp hc with q | q
  · exact Cell.low_mono (by rw [List.length_append]; omega) (f c q)
  · exact Cell.flat_low (List.all_eq_true.mp f' c q)
theorem flat_snoc {h : Hh} {c : Cell} (f : flatH h) (hc : c.low (h.length + 1) = true) : flatH (h ++ [c]) := by
  rw [flatH_iff] at f ⊢
  rw [List.length_append]
  intro d hd
  rcases List.mem_append.mp hd with q | q
  · exact Cell.low_mono (Nat.le_add_right _ _) (f d q)
  · rw [List.mem_singleton.mp q]; exact hc
theorem flat_one {xs : List PyData} : flatX [.lst xs] := rfl
theorem flat_nil : flatH [] := rfl
theorem PotAt.lt {kp : Nat} {h : Hh} (p : PotAt kp h) : kp < h.length := let ⟨_, e⟩ := p.pot; lt_of_get e
theorem PotAt.set {kp : Nat} {h : Hh} (p : PotAt kp h) (c : Int) : PotAt kp (h.set kp (.lst [.int c])) :=
  ⟨⟨c, by rw [List.getElem?_set_self (h := p.lt)]⟩, flat_set p.flat rfl⟩
theorem PotAt.same {kp : Nat} {h : Hh} (p : PotAt kp h) : ∃ c, h = h.set kp (.lst [.int c]) := by
  obtain ⟨c, e⟩ := p.pot
  refine ⟨c, ?_⟩
  apply List.ext_getElem?
  intro i
  by_cases hi : i = kp
  · subst hi
    rw [e, List.getElem?_set_self (h := p.lt)]
  · rw [List.getElem?_set_ne (Ne.symm hi)]
theorem PotAt.app {kp : Nat} {h g : Hh} (p : PotAt kp h) (f : flatX g) : PotAt kp (h ++ g) :=
  ⟨let ⟨c, e⟩ := p.pot; ⟨c, by rw [List.getElem?_append_left p.lt]; exact e⟩, flat_append p.flat f⟩
/-- f gives something that is P, and draws from the pot alone -/
def Gen {α : Type} (kp : Nat) (f : Sm α) (P : α → Prop) : Prop := ∀ h, PotAt kp h → ∃ a c, f h = some (.val a (h.set kp (.lst [.int c]))) ∧ P a
section
variable {α β : Type} {kp : Nat} {P : α → Prop} {Q : β → Prop}
theorem Gen.rt {a : α} (p : P a) : Gen kp (rt a) P := fun h hp => by
  obtain ⟨c, e⟩ := hp.same
  exact ⟨a, c, by rw [← e]; rfl, p⟩
theorem Gen.bnd {x : Sm α} {k : α → Sm β} (g : Gen kp x P) (f : ∀ a, P a → Gen kp (k a) Q) : Gen kp (bnd x k) Q := fun h hp => by
  obtain ⟨a, c, e, pa⟩ := g h hp
  obtain ⟨b, c', e', pb⟩ := f a pa _ (hp.set c)
  exact ⟨b, c', by rw [bnd_val e, e', List.set_set], pb⟩
theorem Gen.nox {x : Sm α} (g : Gen kp x P) : Gen kp (nox x) P := fun h hp => by
  obtain ⟨a, c, e, pa⟩ := g h hp
  exact ⟨a, c, nox_val e, pa⟩
theorem Gen.mono {x : Sm α} {P' : α → Prop} (g : Gen kp x P) (i : ∀ a, P a → P' a) : Gen kp x P' := fun h hp => by
  obtain ⟨a, c, e, pa⟩ := g h hp
  exact ⟨a, c, e, i a pa⟩
theorem Gen.ite {b : Prop} [Decidable b] {x y : Sm α} (g1 : b → Gen kp x P) (g2 : ¬ b → Gen kp y P) : Gen kp (if b then x else y) P := by
  by_cases h : b
  · rw [if_pos h]; exact g1 h
  · rw [if_neg h]; exact g2 h
theorem Gen.call {n : Nat} {f : Fn} {fs : Env → Sm (List M)} {env : Env} {P : M → Prop} {A : List M → Prop} (ga : Gen kp (fs env) A) (hl : ∀ ms, A ms → ms.length = n) (gf : ∀ ms, A ms → Gen kp (f ms) P) : Gen kp (eCall n f fs env) P := by
  unfold eCall
  exact Gen.bnd ga fun ms hm => by rw [if_pos (hl ms hm)]; exact (gf ms hm).nox
end
/-- a whole number within bounds -/
def IntIn (lo hi : Int) (m : M) : Prop := ∃ i, m = .d (.int i) ∧ lo ≤ i ∧ i ≤ hi
theorem IntIn.mono {lo hi lo' hi' : Int} {m : M} (h : IntIn lo hi m) (h1 : lo' ≤ lo) (h2 : hi ≤ hi') : IntIn lo' hi' m := let ⟨i, e, a, b⟩ := h; ⟨i, e, by omega, by omega⟩
section
variable {kp : Nat} {env : Env}
theorem gen_var {i : Nat} {m : M} {P : M → Prop} (e : env[i]? = some (some m)) (p : P m) : Gen kp (eVar i env) P := by rw [var_rt e]; exact Gen.rt p
theorem gen_int {i : Int} : Gen kp (eC (.int i) env) (IntIn i i) := Gen.rt ⟨i, rfl, Int.le_refl _, Int.le_refl _⟩
theorem gen_add {f g : ES} {a b c d : Int} (hf : Gen kp (f env) (IntIn a b)) (hg : Gen kp (g env) (IntIn c d)) : Gen kp (e2 oAdd f g env) (IntIn (a + c) (b + d)) :=
  Gen.bnd hf fun x ⟨i, ex, h1, h2⟩ => Gen.bnd hg fun y ⟨j, ey, h3, h4⟩ => by
    subst ex ey
    exact Gen.rt (a := M.d (.int (i + j))) ⟨i + j, rfl, by omega, by omega⟩
theorem gen_sub {f g : ES} {a b c d : Int} (hf : Gen kp (f env) (IntIn a b)) (hg : Gen kp (g env) (IntIn c d)) : Gen kp (e2 oSub f g env) (IntIn (a - d) (b - c)) :=
  Gen.bnd hf fun x ⟨i, ex, h1, h2⟩ => Gen.bnd hg fun y ⟨j, ey, h3, h4⟩ => by
    subst ex ey
    exact Gen.rt (a := M.d (.int (i - j))) ⟨i - j, rfl, by omega, by omega⟩
theorem gen_nil : Gen kp (aNil env) fun ms => ms = [] := Gen.rt rfl
theorem gen_cons {f : ES} {fs : Env → Sm (List M)} {P : M → Prop} {A : List M → Prop} (hf : Gen kp (f env) P) (hs : Gen kp (fs env) A) : Gen kp (aCons f fs env) fun ms => ∃ x xs, ms = x :: xs ∧ P x ∧ A xs :=
  Gen.bnd hf fun x px => Gen.bnd hs fun xs pxs => Gen.rt ⟨x, xs, rfl, px, pxs⟩
/-- one of some -/
theorem atI_mem {xs : List M} {i : Int} (h0 : 0 ≤ i) (h1 : i < xs.length) : ∃ m, atI xs i = some m ∧ m ∈ xs := by
  obtain ⟨n, rfl⟩ : ∃ n : Nat, i = n := ⟨i.toNat, by omega⟩
  have hn : n < xs.length := by omega
  exact ⟨xs[n], atI_nat (List.getElem?_eq_getElem hn), List.getElem_mem hn⟩
theorem ds_of : ∀ {ms : List M}, (∀ m ∈ ms, ∃ x, m = M.d x) → ∃ ds, asDs ms = some ds
  | [], _ => ⟨[], rfl⟩
  | m :: ms, h => by
    obtain ⟨ds, e⟩ := ds_of fun x hx => h x (List.mem_cons_of_mem _ hx)
    obtain ⟨x, rfl⟩ := h m (List.mem_cons_self ..)
    exact ⟨x :: ds, by simp only [asDs, e]⟩
theorem gen_pick {fs : Env → Sm (List M)} {f : ES} {P : M → Prop} {n : Int} (hs : Gen kp (fs env) fun ms => ((ms.length : Int) = n ∧ n ≤ 1000) ∧ ∀ m ∈ ms, P m ∧ ∃ x, m = M.d x) (hf : Gen kp (f env) (IntIn 0 (n - 1))) : Gen kp (e2 oIx (eVal (nLst fs)) f env) P := by
  unfold e2 eVal nLst
  rw [bnd_assoc, bnd_assoc]
  refine Gen.bnd hs fun ms ⟨⟨hl, hn⟩, hp⟩ => ?_
  rw [if_pos (show ms.length ≤ LIM by show ms.length ≤ 16777216; omega), bnd_rt]
  obtain ⟨ds, e⟩ := ds_of fun m hm => (hp m hm).2
  have ems := asDs_eq e
  simp only [e, bnd_rt]
  refine Gen.bnd hf fun y ⟨i, ey, h0, h1⟩ => ?_
  subst ey
  obtain ⟨m, em, hm⟩ := atI_mem (xs := ms) h0 (by omega)
  have e3 : oIx (.d (.list ds)) (.d (.int i)) = rt m := by
    funext h
    show (match tupM (.d (.list ds)) with | some ms => opt (atI ms i) h | none => match lstM h (.d (.list ds)) with | some ms => opt (atI ms i) h | none => none) = _
    simp only [tupM, lstM, ← ems, em]
    rfl
  rw [e3]
  exact Gen.rt (hp m hm).1
end
/-! ### statements, defs -/
section
variable {env env' : Env} {h h' : Hh} {g1 g2 : SS} {m : M} {k : Bool} {t : Env → Sm Bool} {f : ES}
theorem seq_nx (e : g1 env h = some (.val (.nx, env') h')) : sSeq g1 g2 env h = g2 env' h' := by
  unfold sSeq
  rw [bnd_val e]
theorem seq_rt (e : g1 env h = some (.val (.rt m, env') h')) : sSeq g1 g2 env h = some (.val (.rt m, env') h') := by
  unfold sSeq
  rw [bnd_val e]
  rfl
theorem seq_nx' (e : g1 env = rt (.nx, env')) : sSeq g1 g2 env = g2 env' := by
  unfold sSeq
  rw [e, bnd_rt]
theorem seq_rt' (e : g1 env = rt (.rt m, env')) : sSeq g1 g2 env = rt (.rt m, env') := by
  unfold sSeq
  rw [e, bnd_rt]
theorem if_val (e : t env h = some (.val k h')) : sIf t g1 g2 env h = (if k = true then g1 env else g2 env) h' := by
  unfold sIf
  rw [bnd_val e]
theorem if_rt (e : t env = rt k) : sIf t g1 g2 env = if k = true then g1 env else g2 env := by
  unfold sIf
  rw [e, bnd_rt]
theorem if_T (e : t env = rt true) : sIf t g1 g2 env = g1 env := by rw [if_rt e, if_pos rfl]
theorem if_F (e : t env = rt false) : sIf t g1 g2 env = g2 env := by rw [if_rt e, if_neg Bool.false_ne_true]
theorem set_val {p : Pat} (e : f env h = some (.val m h')) (ep : p.asg m env = some env') : sSet p f env h = some (.val (.nx, env') h') := by
  unfold sSet
  rw [bnd_val e, ep]
  rfl
theorem set_rt {p : Pat} (e : f env = rt m) (ep : p.asg m env = some env') : sSet p f env = rt (.nx, env') := by
  unfold sSet
  rw [e, bnd_rt, ep]
theorem ret_val (e : f env h = some (.val m h')) : sRet f env h = some (.val (.rt m, env) h') := by
  unfold sRet
  rw [bnd_val e]
  rfl
theorem ret_rt (e : f env = rt m) : sRet f env = rt (.rt m, env) := by
  unfold sRet
  rw [e, bnd_rt]
theorem exp_val (e : f env h = some (.val m h')) : sExp f env h = some (.val (.nx, env) h') := by
  unfold sExp
  rw [bnd_val e]
  rfl
theorem exp_rt (e : f env = rt m) : sExp f env = rt (.nx, env) := by
  unfold sExp
  rw [e, bnd_rt]
theorem mkFn_val {n : Nat} {g : SS} {ms : List M} (e : g (startE n ms) h = some (.val (.rt m, env') h')) : mkFn n g ms h = some (.val m h') := by
  unfold mkFn
  rw [bnd_val e]
  rfl
theorem mkFn_nx {n : Nat} {g : SS} {ms : List M} (e : g (startE n ms) h = some (.val (.nx, env') h')) : mkFn n g ms h = some (.val (.d .none) h') := by
  unfold mkFn
  rw [bnd_val e]
  rfl
theorem mkFn_rt {n : Nat} {g : SS} {ms : List M} (e : g (startE n ms) = rt (.rt m, env')) : mkFn n g ms = rt m := by
  unfold mkFn
  rw [e, bnd_rt]
theorem mkFn_rtn {n : Nat} {g : SS} {ms : List M} (e : g (startE n ms) = rt (.nx, env')) : mkFn n g ms = rt (.d .none) := by
  unfold mkFn
  rw [e, bnd_rt]
theorem mkFnS_val {n e : Nat} {g : SS} {ms : List M} (e1 : mkFn n g ms h = some (.val m h')) (h1 : h.length + e ≤ h'.length) (h2 : m.low (h.length + e) = true) (h3 : flatH (h'.take (h.length + e))) : mkFnS e n g ms h = some (.val m (h'.take (h.length + e))) := by
  have hl : (h'.take (h.length + e)).length = h.length + e := by rw [List.length_take]; omega
  unfold flatH at h3
  rw [hl] at h3
  unfold mkFnS
  rw [e1]
  simp only
  rw [if_pos ⟨h1, h2, h3⟩]
/-- all that it has made for itself is let go -/
theorem mkFnS_0 {n : Nat} {g : SS} {ms : List M} {l : Hh} {x : PyData} (e1 : mkFn n g ms h = some (.val (.d x) (h' ++ l))) (hl : h'.length = h.length) (h3 : flatH h') : mkFnS 0 n g ms h = some (.val (.d x) h') := by
  have := mkFnS_val (e := 0) e1 (by rw [List.length_append, hl]; omega) rfl (by rw [Nat.add_zero, ← hl, List.take_left' rfl]; exact h3)
  rw [Nat.add_zero, ← hl, List.take_left' rfl] at this
  exact this
theorem mkFnS_1 {n : Nat} {g : SS} {ms : List M} {l : Hh} {c : List PyData} (e1 : mkFn n g ms h = some (.val (.obj h.length) (h' ++ (.lst c :: l)))) (hl : h'.length = h.length) (h3 : flatH h') : mkFnS 1 n g ms h = some (.val (.obj h.length) (h' ++ [.lst c])) := by
  have ht : (h' ++ (Cell.lst c :: l)).take (h.length + 1) = h' ++ [.lst c] := by
    rw [show h' ++ (Cell.lst c :: l) = (h' ++ [Cell.lst c]) ++ l by rw [List.append_assoc]; rfl, List.take_left']
    rw [List.length_append, hl]; rfl
  have := mkFnS_val (e := 1) e1 (by rw [List.length_append, List.length_cons, hl]; omega) (by simp only [M.low, decide_eq_true_eq]; exact Nat.lt_succ_self _) (by rw [ht]; exact flat_append h3 flat_one)
  rw [ht] at this
  exact this
theorem call_rt {n : Nat} {f : Fn} {fs : Env → Sm (List M)} {ms : List M} {r : M} (ea : fs env = rt ms) (hl : ms.length = n) (e : f ms = rt r) : eCall n f fs env = rt r := by
  unfold eCall
  rw [ea, bnd_rt, if_pos hl, e, nox_rt]
theorem call_val {n : Nat} {f : Fn} {fs : Env → Sm (List M)} {ms : List M} {r : M} (ea : fs env h = some (.val ms h')) (hl : ms.length = n) {h2 : Hh} (e : f ms h' = some (.val r h2)) : eCall n f fs env h = some (.val r h2) := by
  unfold eCall
  rw [bnd_val ea, if_pos hl, nox_val e]
end
/-! ### arithmetic -/
theorem atI_0 {α : Type} (x : α) (xs : List α) : atI (x :: xs) 0 = some x := by
  have := atI_nat (xs := x :: xs) (j := 0) (v := x) rfl
  simpa using this
theorem atI_1 {α : Type} (x y : α) (xs : List α) : atI (x :: y :: xs) 1 = some y := by
  have := atI_nat (xs := x :: y :: xs) (j := 1) (v := y) rfl
  simpa using this
theorem atI_2 {α : Type} (x y z : α) (xs : List α) : atI (x :: y :: z :: xs) 2 = some z := by
  have := atI_nat (xs := x :: y :: z :: xs) (j := 2) (v := z) rfl
  simpa using this
theorem atI_3 {α : Type} (x y z u : α) (xs : List α) : atI (x :: y :: z :: u :: xs) 3 = some u := by
  have := atI_nat (xs := x :: y :: z :: u :: xs) (j := 3) (v := u) rfl
  simpa using this
theorem ixN_0 {n : Nat} (h : 0 < n) : ixN n 0 = some 0 := by
  unfold ixN
  rw [if_pos (Int.le_refl 0), if_pos (by omega)]; rfl
theorem mul_r {i j : Int} (h : j.natAbs < 18446744073709551616) : oMul (.d (.int i)) (.d (.int j)) = rt (.d (.int (i * j))) := by
  simp only [oMul, opIC, mulC, decide_eq_true h, Bool.or_true, if_true]
theorem mul_l {i j : Int} (h : i.natAbs < 18446744073709551616) : oMul (.d (.int i)) (.d (.int j)) = rt (.d (.int (i * j))) := by
  simp only [oMul, opIC, mulC, decide_eq_true h, Bool.true_or, if_true]
theorem mod_p {i j : Int} (h : 0 < j) : oMod (.d (.int i)) (.d (.int j)) = rt (.d (.int (i % j))) := by
  simp only [oMod, opIC, decide_eq_true h, if_true]
theorem div_p {i j : Int} (h : 0 < j) (h' : j < 1329227995784915872903807060280344576) : oDiv (.d (.int i)) (.d (.int j)) = rt (.d (.int (i / j))) := by
  simp only [oDiv, opIC, decide_eq_true h, decide_eq_true h', Bool.and_self, if_true]
theorem add_i {i j : Int} : oAdd (.d (.int i)) (.d (.int j)) = rt (.d (.int (i + j))) := rfl
theorem sub_i {i j : Int} : oSub (.d (.int i)) (.d (.int j)) = rt (.d (.int (i - j))) := rfl
theorem ge_i {i j : Int} : oGe (.d (.int i)) (.d (.int j)) = rt (.d (.bool (decide (j ≤ i)))) := rfl
theorem gt_i {i j : Int} : oGt (.d (.int i)) (.d (.int j)) = rt (.d (.bool (decide (j < i)))) := rfl
theorem lt_i {i j : Int} : oLt (.d (.int i)) (.d (.int j)) = rt (.d (.bool (decide (i < j)))) := rfl
theorem le_i {i j : Int} : oLe (.d (.int i)) (.d (.int j)) = rt (.d (.bool (decide (i ≤ j)))) := rfl
theorem pow_18 : oPow (.d (.int 10)) (.d (.int 18)) = rt (.d (.int (10 ^ 18))) := rfl
theorem asB_b {b : Bool} : asB (.d (.bool b)) = rt b := rfl
theorem eq_int {i j : Int} : oEq (.d (.int i)) (.d (.int j)) = rt (.d (.bool (decide (i = j)))) := by
  funext h
  have : eqD h (.d (.int i)) (.d (.int j)) = some (decide (i = j)) := by
    simp only [eqD, rsv]
    rw [if_pos (by rfl)]
    simp only [PyData.eqv, Option.some.injEq]
    exact Bool.beq_eq_decide_eq i j
  simp only [oEq, this]
  rfl
theorem ne_int {i j : Int} : oNe (.d (.int i)) (.d (.int j)) = rt (.d (.bool (!decide (i = j)))) := by
  funext h
  have : eqD h (.d (.int i)) (.d (.int j)) = some (decide (i = j)) := by
    simp only [eqD, rsv]
    rw [if_pos (by rfl)]
    simp only [PyData.eqv, Option.some.injEq]
    exact Bool.beq_eq_decide_eq i j
  simp only [oNe, this]
  rfl
theorem ne_str {i j : Str} : oNe (.d (.str i)) (.d (.str j)) = rt (.d (.bool (!(i == j)))) := rfl
theorem eq_str {i j : Str} : oEq (.d (.str i)) (.d (.str j)) = rt (.d (.bool (i == j))) := rfl
/-- x[i] of a tuple, of a list, by value -/
theorem ix_tup {xs : List PyData} {i : Int} {x : PyData} (e : atI xs i = some x) : oIx (.d (.tuple xs)) (.d (.int i)) = rt (.d x) := by
  funext h
  simp only [oIx, tupM, atI_map, e, Option.map_some]
  rfl
theorem ix_lst {xs : List PyData} {i : Int} {x : PyData} (e : atI xs i = some x) : oIx (.d (.list xs)) (.d (.int i)) = rt (.d x) := by
  funext h
  simp only [oIx, tupM, lstM, atI_map, e, Option.map_some]
  rfl
theorem len_lst {xs : List PyData} : nLen [.d (.list xs)] = rt (.d (.int (xs.length : Int))) := by
  funext h
  simp only [nLen, lenM, tupM, lstM, List.length_map]
  rfl
theorem len_tup {xs : List PyData} : nLen [.d (.tuple xs)] = rt (.d (.int (xs.length : Int))) := by
  funext h
  simp only [nLen, lenM, tupM, List.length_map]
  rfl
theorem isi_d {T a : String} {f : ES} {env : Env} {x : PyData} (e : f env = rt (.d x)) (ht : ∀ h, tyN h (.d x) = some a) : eIsi T f env = rt (.d (.bool (isiB a T))) := by
  unfold eIsi
  rw [e, bnd_rt]
  funext h
  simp only [ht]
  rfl
theorem mkTup_ds (ds : List PyData) : mkTup (ds.map M.d) = .d (.tuple ds) := by
  unfold mkTup
  rw [asDs_map]
end G

/-! data: how long it is when shown; equal; lists by their items -/
namespace G
open PySem PySem.Spec L2 PySem.W
mutual
def szD : PyData → Nat
  | .none => 4
  | .bool _ => 5
  | .int _ => 1921
  | .str x => 10 * x.length + 2
  | .list xs => szL xs + 2
  | .tuple xs => szL xs + 3
  | .dict _ => 0
def szL : List PyData → Nat
  | [] => 0
  | x :: xs => szD x + 2 + szL xs
end
theorem piled_le_aux (x : Str) (ts : List Str) : piled (x :: ts) = x.length + 2 + piled ts := by simp [piled]
theorem listText_le (ts : List Str) : (listText ts).length ≤ piled ts + 2 := by
  cases ts with
  | nil => decide
  | cons t r =>
    have h := textFrom_length_pos r 1 (("[" : Str) ++ (if (0 : Nat) > 0 then ", " else "" : String) ++ t) (Nat.succ_pos 0)
    have e : (("[" : Str) ++ (if (0 : Nat) > 0 then ", " else "" : String) ++ t).length = 1 + t.length := by
      rw [strLen_append, strLen_append]; rfl
    show (textFrom 1 (("[" : Str) ++ (if (0 : Nat) > 0 then ", " else "" : String) ++ t) r ++ "]").length ≤ _
    rw [strLen_append, h, e, piled_le_aux, show (("]" : String) : Str).length = 1 from rfl]
    omega
theorem tupleText_le (ts : List Str) : (tupleText ts).length ≤ piled ts + 3 := by
  unfold tupleText
  rw [strLen_append, strLen_append]
  have e1 : ((("(" : String) : Str)).length = 1 := rfl
  have e3 : (((if ts.length == 1 then ",)" else ")" : String) : Str)).length ≤ 2 := by split <;> decide
  rw [e1]
  by_cases h : ts = []
  · subst h
    have : (Str.join ", " []).length = 0 := rfl
    omega
  · have := join_length_add ts h
    omega
mutual
theorem shown_le : ∀ d : PyData, d.showable = true → d.canLay0 = true → d.shown.length ≤ szD d
  | .none, _, _ => by simp only [PyData.shown, szD]; decide
  | .bool b, _, _ => by cases b <;> simp only [PyData.shown, szD] <;> decide
  | .int i, h, _ => by
    simp only [PyData.shown, szD]
    exact PyProof.Rows.int_text_len_1921 (by simpa [PyData.showable] using h)
  | .str x, _, h => by
    simp only [PyData.shown, szD]
    have h' : PyData.strOk x = true := by simpa [PyData.canLay0] using h
    have h'' : (x.cps.all fun c => decide (c < 0x110000)) = true := h'
    refine StrLaws.reprText_len x fun c hc => ?_
    have := Array.all_eq_true_iff_forall_mem.mp h'' c (by simpa using hc)
    have := of_decide_eq_true this
    omega
  | .list xs, h, l => by
    simp only [PyData.shown, szD]
    have := shownL_le xs (by simpa [PyData.showable] using h) (by simpa [PyData.canLay0] using l)
    have := listText_le (PyData.shownAll xs)
    omega
  | .tuple xs, h, l => by
    simp only [PyData.shown, szD]
    have := shownL_le xs (by simpa [PyData.showable] using h) (by simpa [PyData.canLay0] using l)
    have := tupleText_le (PyData.shownAll xs)
    omega
  | .dict _, _, l => nomatch l
theorem shownL_le : ∀ xs : List PyData, PyData.showableAll xs = true → PyData.canLayAll0 xs = true → piled (PyData.shownAll xs) ≤ szL xs
  | [], _, _ => Nat.le_refl _
  | x :: xs, h, l => by
    have h' : x.showable = true ∧ PyData.showableAll xs = true := by simpa [PyData.showableAll] using h
    have l' : x.canLay0 = true ∧ PyData.canLayAll0 xs = true := by simpa [PyData.canLayAll0] using l
    have a := shown_le x h'.1 l'.1
    have b := shownL_le xs h'.2 l'.2
    simp only [PyData.shownAll, szL, piled_le_aux]
    omega
end
/-- d is no deeper than k, shown with at most n signs -/
structure Sh (k n : Nat) (d : PyData) : Prop where
  lay : d.canLay0 = true
  shw : d.showable = true
  dep : d.depth ≤ k
  sz : szD d ≤ n
structure ShL (k n : Nat) (ds : List PyData) : Prop where
  lay : PyData.canLayAll0 ds = true
  shw : PyData.showableAll ds = true
  dep : PyData.depthAll ds ≤ k
  sz : szL ds ≤ n
theorem Sh.mono {k n k' n' : Nat} {d : PyData} (h : Sh k n d) (h1 : k ≤ k') (h2 : n ≤ n') : Sh k' n' d := ⟨h.lay, h.shw, Nat.le_trans h.dep h1, Nat.le_trans h.sz h2⟩
theorem sh_none : Sh 0 4 .none := ⟨rfl, rfl, Nat.le_refl _, Nat.le_refl _⟩
theorem sh_bool (b : Bool) : Sh 0 5 (.bool b) := ⟨rfl, rfl, Nat.le_refl _, Nat.le_refl _⟩
theorem log2_lt {n k : Nat} (h : n < 2 ^ k) (hk : 0 < k) : n.log2 < k := by
  by_cases h0 : n = 0
  · subst h0; exact hk
  · exact (Nat.log2_lt h0).mpr h
theorem sh_int {i : Int} (h : i.natAbs < 2 ^ 1920) : Sh 0 1921 (.int i) := ⟨rfl, by simp only [PyData.showable, decide_eq_true_eq]; exact log2_lt h (by decide), Nat.le_refl _, Nat.le_refl _⟩
theorem sh_str {x : Str} (h : PyData.strOk x = true) : Sh 0 (10 * x.length + 2) (.str x) := ⟨by simp only [PyData.canLay0]; exact h, rfl, Nat.le_refl _, Nat.le_refl _⟩
theorem shl_nil {k : Nat} : ShL k 0 [] := ⟨rfl, rfl, Nat.zero_le _, Nat.le_refl _⟩
theorem shl_cons {k n m : Nat} {d : PyData} {ds : List PyData} (h : Sh k n d) (hs : ShL k m ds) : ShL k (n + 2 + m) (d :: ds) :=
  ⟨by simp only [PyData.canLayAll0, h.lay, hs.lay, Bool.and_self], by simp only [PyData.showableAll, h.shw, hs.shw, Bool.and_self], by simp only [PyData.depthAll]; exact Nat.max_le.mpr ⟨h.dep, hs.dep⟩, by have := h.sz; have := hs.sz; simp only [szL]; omega⟩
theorem shl_all {k n : Nat} : ∀ {ds : List PyData}, (∀ d ∈ ds, Sh k n d) → ShL k ((n + 2) * ds.length) ds
  | [], _ => shl_nil
  | d :: ds, h => by
    have := shl_cons (h d (List.mem_cons_self ..)) (shl_all fun x hx => h x (List.mem_cons_of_mem _ hx))
    rw [List.length_cons, Nat.mul_succ, Nat.add_comm]
    exact this
theorem ShL.mono {k n k' n' : Nat} {d : List PyData} (h : ShL k n d) (h1 : k ≤ k') (h2 : n ≤ n') : ShL k' n' d := ⟨h.lay, h.shw, Nat.le_trans h.dep h1, Nat.le_trans h.sz h2⟩
theorem sh_list {k n : Nat} {ds : List PyData} (h : ShL k n ds) : Sh (k + 1) (n + 2) (.list ds) := ⟨by simp only [PyData.canLay0, h.lay], by simp only [PyData.showable, h.shw], by simp only [PyData.depth]; exact Nat.succ_le_succ h.dep, by simp only [szD]; exact Nat.add_le_add_right h.sz _⟩
theorem sh_tup {k n : Nat} {ds : List PyData} (h : ShL k n ds) : Sh (k + 1) (n + 3) (.tuple ds) := ⟨by simp only [PyData.canLay0, h.lay], by simp only [PyData.showable, h.shw], by simp only [PyData.depth]; exact Nat.succ_le_succ h.dep, by simp only [szD]; exact Nat.add_le_add_right h.sz _⟩
theorem sh_all {k n m N : Nat} {ds : List PyData} (h : ∀ d ∈ ds, Sh k n d) (hl : ds.length ≤ m) (hN : (n + 2) * m + 2 ≤ N) : Sh (k + 1) N (.list ds) :=
  (sh_list (shl_all h)).mono (Nat.le_refl _) (Nat.le_trans (Nat.add_le_add_right (Nat.mul_le_mul_left _ hl) _) hN)
theorem shw_of {k n : Nat} {d : PyData} (h : Sh k n d) (hk : k ≤ 60) (hn : n ≤ LIM) : shwC d = true := by
  unfold shwC
  rw [h.shw, decide_eq_true (Nat.le_trans (shown_le d h.shw h.lay) (Nat.le_trans h.sz hn)), decide_eq_true (Nat.le_trans h.dep hk)]
  rfl
theorem repr_at {k n : Nat} {m : M} {h : Hh} {d : PyData} (e : rsv h m = some d) (s : Sh k n d) (hk : k ≤ 60) (hn : n ≤ LIM) : nRepr [m] h = some (.val (.d (.str d.shown)) h) := by
  simp only [nRepr, e, shw_of s hk hn, if_true]
theorem repr_d {k n : Nat} {d : PyData} (s : Sh k n d) (hk : k ≤ 60) (hn : n ≤ LIM) : nRepr [.d d] = rt (.d (.str d.shown)) := funext fun h => repr_at rfl s hk hn
/-! with dicts in it -/
/-- d is no deeper than k, shown with at most n signs; dicts too -/
structure Sw (k n : Nat) (d : PyData) : Prop where
  shw : d.showable = true
  dep : d.depth ≤ k
  sz : d.shown.length ≤ n
structure SwL (k n : Nat) (ds : List PyData) : Prop where
  shw : PyData.showableAll ds = true
  dep : PyData.depthAll ds ≤ k
  sz : piled (PyData.shownAll ds) ≤ n
theorem Sw.mono {k n k' n' : Nat} {d : PyData} (h : Sw k n d) (h1 : k ≤ k') (h2 : n ≤ n') : Sw k' n' d := ⟨h.shw, Nat.le_trans h.dep h1, Nat.le_trans h.sz h2⟩
theorem SwL.mono {k n k' n' : Nat} {d : List PyData} (h : SwL k n d) (h1 : k ≤ k') (h2 : n ≤ n') : SwL k' n' d := ⟨h.shw, Nat.le_trans h.dep h1, Nat.le_trans h.sz h2⟩
theorem Sh.sw {k n : Nat} {d : PyData} (h : Sh k n d) : Sw k n d := ⟨h.shw, h.dep, Nat.le_trans (shown_le d h.shw h.lay) h.sz⟩
theorem ShL.sw {k n : Nat} {d : List PyData} (h : ShL k n d) : SwL k n d := ⟨h.shw, h.dep, Nat.le_trans (shownL_le d h.shw h.lay) h.sz⟩
theorem swl_nil {k : Nat} : SwL k 0 [] := ⟨rfl, Nat.zero_le _, Nat.le_refl _⟩
theorem swl_cons {k n m : Nat} {d : PyData} {ds : List PyData} (h : Sw k n d) (hs : SwL k m ds) : SwL k (n + 2 + m) (d :: ds) :=
  ⟨by simp only [PyData.showableAll, h.shw, hs.shw, Bool.and_self], by simp only [PyData.depthAll]; exact Nat.max_le.mpr ⟨h.dep, hs.dep⟩, by have := h.sz; have := hs.sz; simp only [PyData.shownAll, piled_le_aux]; omega⟩
theorem swl_all {k n : Nat} : ∀ {ds : List PyData}, (∀ d ∈ ds, Sw k n d) → SwL k ((n + 2) * ds.length) ds
  | [], _ => swl_nil
  | d :: ds, h => by
    have := swl_cons (h d (List.mem_cons_self ..)) (swl_all fun x hx => h x (List.mem_cons_of_mem _ hx))
    rw [List.length_cons, Nat.mul_succ, Nat.add_comm]
    exact this
theorem SwL.mem {k n : Nat} : ∀ {ds : List PyData}, SwL k n ds → ∀ d ∈ ds, Sw k n d
  | [], _, d, hd => by cases hd
  | x :: xs, h, d, hd => by
    obtain ⟨h1, h2, h3⟩ := h
    simp only [PyData.showableAll, Bool.and_eq_true] at h1
    simp only [PyData.depthAll] at h2
    simp only [PyData.shownAll, piled_le_aux] at h3
    have h4 := Nat.max_le.mp h2
    rcases List.mem_cons.mp hd with rfl | hd
    · exact ⟨h1.1, h4.1, by omega⟩
    · exact SwL.mem (ds := xs) ⟨h1.2, h4.2, by omega⟩ d hd
theorem sw_list {k n : Nat} {ds : List PyData} (h : SwL k n ds) : Sw (k + 1) (n + 2) (.list ds) := ⟨by simp only [PyData.showable, h.shw], by simp only [PyData.depth]; exact Nat.succ_le_succ h.dep, by simp only [PyData.shown]; exact Nat.le_trans (listText_le _) (Nat.add_le_add_right h.sz _)⟩
theorem sw_tup {k n : Nat} {ds : List PyData} (h : SwL k n ds) : Sw (k + 1) (n + 3) (.tuple ds) := ⟨by simp only [PyData.showable, h.shw], by simp only [PyData.depth]; exact Nat.succ_le_succ h.dep, by simp only [PyData.shown]; exact Nat.le_trans (tupleText_le _) (Nat.add_le_add_right h.sz _)⟩
theorem shw_ofW {k n : Nat} {d : PyData} (h : Sw k n d) (hk : k ≤ 60) (hn : n ≤ LIM) : shwC d = true := by
  unfold shwC
  rw [h.shw, decide_eq_true (Nat.le_trans h.sz hn), decide_eq_true (Nat.le_trans h.dep hk)]
  rfl
theorem repr_atW {k n : Nat} {m : M} {h : Hh} {d : PyData} (e : rsv h m = some d) (s : Sw k n d) (hk : k ≤ 60) (hn : n ≤ LIM) : nRepr [m] h = some (.val (.d (.str d.shown)) h) := by
  simp only [nRepr, e, shw_ofW s hk hn, if_true]
theorem repr_dW {k n : Nat} {d : PyData} (s : Sw k n d) (hk : k ≤ 60) (hn : n ≤ LIM) : nRepr [.d d] = rt (.d (.str d.shown)) := funext fun h => repr_atW rfl s hk hn
/-! equal -/
theorem eqv_r {d : PyData} (h : d.canLay0 = true) : PyData.eqv d d = true := PySem.SeqAt.eqv_refl d h
section
variable {α β : Type} [DecidableEq α] [Datum α] [DecidableEq β] [Datum β]
theorem eqD_of {h : Hh} {x y : M} {a b : α} (ex : rsv h x = some (Datum.toD a)) (ey : rsv h y = some (Datum.toD b)) (la : (Datum.toD a : PyData).canLay0 = true) (lb : (Datum.toD b : PyData).canLay0 = true) (hd : Datum.depth α ≤ 60) : eqD h x y = some (decide (a = b)) := by
  have sh : shal (Datum.toD a) (Datum.toD b) = true := by
    unfold shal
    rw [la, lb, decide_eq_true (Nat.le_trans (Datum.depth_le a) hd)]
    rfl
  unfold eqD
  split
  · next s t =>
    have e1 : PyData.str s = Datum.toD a := Option.some.inj ex
    have e2 : PyData.str t = Datum.toD b := Option.some.inj ey
    rw [← Datum.eqv, ← e1, ← e2]
    simp only [PyData.eqv]
  · rw [ex, ey]
    simp only [sh, if_true, Datum.eqv]
theorem eq_D {a b : α} (la : (Datum.toD a : PyData).canLay0 = true) (lb : (Datum.toD b : PyData).canLay0 = true) (hd : Datum.depth α ≤ 60) : oEq (.d (Datum.toD a)) (.d (Datum.toD b)) = rt (.d (.bool (decide (a = b)))) := by
  funext h
  simp only [oEq, eqD_of (h := h) (x := .d (Datum.toD a)) (y := .d (Datum.toD b)) rfl rfl la lb hd]
  rfl
theorem ne_D {a b : α} (la : (Datum.toD a : PyData).canLay0 = true) (lb : (Datum.toD b : PyData).canLay0 = true) (hd : Datum.depth α ≤ 60) : oNe (.d (Datum.toD a)) (.d (Datum.toD b)) = rt (.d (.bool (!decide (a = b)))) := by
  funext h
  simp only [oNe, eqD_of (h := h) (x := .d (Datum.toD a)) (y := .d (Datum.toD b)) rfl rfl la lb hd]
  rfl
theorem inD_of {h : Hh} {x y : M} {a : α} {ds : List α} {t : Bool} {ms : List M} (ex : rsv h x = some (Datum.toD a)) (ey : seqM h y = some (t, ms)) (em : rsvs h ms = some (ds.map Datum.toD)) (la : (Datum.toD a : PyData).canLay0 = true) (lb : PyData.canLayAll0 (ds.map Datum.toD) = true) (hd : Datum.depth α ≤ 60) :
    inD h x y = some (decide (a ∈ ds)) := by
  unfold inD
  rw [ex, ey]
  simp only [em, la, lb, Bool.and_self, Bool.and_true]
  rw [if_pos (decide_eq_true (Nat.le_trans (Datum.depth_le a) hd))]
  rw [List.any_map]
  congr 1
  rw [Bool.eq_iff_iff, List.any_eq_true, decide_eq_true_eq]
  refine ⟨fun ⟨z, hz, e⟩ => ?_, fun hz => ⟨a, hz, ?_⟩⟩
  · simp only [Function.comp_apply, Datum.eqv, decide_eq_true_eq] at e
    exact e ▸ hz
  · simp only [Function.comp_apply, Datum.eqv, decide_true]
theorem rsvs_ds (h : Hh) : ∀ ds : List PyData, rsvs h (ds.map M.d) = some ds
  | [] => rfl
  | d :: ds => by simp only [List.map_cons, rsvs, rsv, rsvs_ds h ds]
theorem in_D {a : α} {ds : List α} (la : (Datum.toD a : PyData).canLay0 = true) (lb : PyData.canLayAll0 (ds.map Datum.toD) = true) (hd : Datum.depth α ≤ 60) : oIn (.d (Datum.toD a)) (.d (.list (ds.map Datum.toD))) = rt (.d (.bool (decide (a ∈ ds)))) := by
  funext h
  simp only [oIn, inD_of (h := h) (x := .d (Datum.toD a)) (y := .d (.list (ds.map Datum.toD))) rfl rfl (rsvs_ds h _) la lb hd]
  rfl
end
theorem layB : ∀ bs : List Bool, PyData.canLayAll0 (bs.map PyData.bool) = true
  | [] => rfl
  | b :: bs => by simp only [List.map_cons, PyData.canLayAll0, PyData.canLay0, layB bs, Bool.and_self]
theorem in_bool {b : Bool} {bs : List Bool} : oIn (.d (.bool b)) (.d (.list (bs.map PyData.bool))) = rt (.d (.bool (decide (b ∈ bs)))) := in_D (α := Bool) (a := b) (ds := bs) rfl (layB bs) (by decide)
theorem eq_list {α : Type} [DecidableEq α] [Datum α] {xs ys : List α} (la : ∀ a : α, (Datum.toD a : PyData).canLay0 = true) (hd : Datum.depth α ≤ 59) : oEq (.d (.list (xs.map Datum.toD))) (.d (.list (ys.map Datum.toD))) = rt (.d (.bool (decide (xs = ys)))) := by
  have l : ∀ zs : List α, PyData.canLayAll0 (zs.map Datum.toD) = true := fun zs => by
    induction zs with
    | nil => rfl
    | cons z zs ih => rw [List.map_cons, PyData.canLayAll0, la z, ih]; rfl
  exact eq_D (α := List α) (a := xs) (b := ys) (by simp only [Datum.toD, PyData.canLay0]; exact l xs) (by simp only [Datum.toD, PyData.canLay0]; exact l ys) (by show Datum.depth α + 1 ≤ 60; omega)
theorem ne_list {α : Type} [DecidableEq α] [Datum α] {xs ys : List α} (la : ∀ a : α, (Datum.toD a : PyData).canLay0 = true) (hd : Datum.depth α ≤ 59) : oNe (.d (.list (xs.map Datum.toD))) (.d (.list (ys.map Datum.toD))) = rt (.d (.bool (!decide (xs = ys)))) := by
  have l : ∀ zs : List α, PyData.canLayAll0 (zs.map Datum.toD) = true := fun zs => by
    induction zs with
    | nil => rfl
    | cons z zs ih => rw [List.map_cons, PyData.canLayAll0, la z, ih]; rfl
  exact ne_D (α := List α) (a := xs) (b := ys) (by simp only [Datum.toD, PyData.canLay0]; exact l xs) (by simp only [Datum.toD, PyData.canLay0]; exact l ys) (by show Datum.depth α + 1 ≤ 60; omega)

/-! by items -/
theorem itM_l {xs : List PyData} : itM (.d (.list xs)) = rt (.vals (xs.map M.d)) := rfl
theorem itM_t {xs : List PyData} : itM (.d (.tuple xs)) = rt (.vals (xs.map M.d)) := rfl
theorem itM_tm {xs : List M} : itM (.tup xs) = rt (.vals xs) := rfl
theorem seqF_l {f : ES} {env : Env} {xs : List PyData} (e : f env = rt (.d (.list xs))) : iSeqF f env = rt (.vals (xs.map M.d)) := by unfold iSeqF; rw [e, bnd_rt, itM_l]
theorem seqF_t {f : ES} {env : Env} {xs : List PyData} (e : f env = rt (.d (.tuple xs))) : iSeqF f env = rt (.vals (xs.map M.d)) := by unfold iSeqF; rw [e, bnd_rt, itM_t]
def rngL (lo n : Int) : List Int := (List.range (n - lo).toNat).map fun (i : Nat) => lo + (i : Int)
theorem mem_rngL {lo n x : Int} : x ∈ rngL lo n ↔ lo ≤ x ∧ x < n := by
  unfold rngL
  rw [List.mem_map]
  constructor
  · rintro ⟨i, hi, rfl⟩
    have := List.mem_range.mp hi
    omega
  · rintro ⟨h1, h2⟩
    exact ⟨(x - lo).toNat, List.mem_range.mpr (by omega), by omega⟩
theorem len_rngL {lo n : Int} : (rngL lo n).length = (n - lo).toNat := by unfold rngL; rw [List.length_map, List.length_range]
theorem get_rngL {lo n : Int} {i : Nat} {x : Int} (h : (rngL lo n)[i]? = some x) : x = lo + (i : Int) := by
  unfold rngL at h
  rw [List.getElem?_map] at h
  cases e : (List.range (n - lo).toNat)[i]? with
  | none => rw [e] at h; cases h
  | some j =>
    rw [e] at h
    obtain ⟨_, e2⟩ := List.getElem?_eq_some_iff.mp e
    rw [List.getElem_range] at e2
    subst e2
    exact (Option.some.inj h).symm
theorem rngM_eq {lo n : Int} : rngM lo n = .vals ((rngL lo n).map fun i => M.d (.int i)) := by
  unfold rngM rngL
  rw [List.map_map]
  rfl
theorem rngOk_of {i : Int} (h : i.natAbs < 4611686018427387904) : rngOk i = true := by
  unfold rngOk
  rw [Bool.and_eq_true, decide_eq_true_eq, decide_eq_true_eq]
  omega
theorem rng1_rt {n : Int} (h : n.natAbs < 4611686018427387904) : rng1 [.d (.int n)] = rt (.vals ((rngL 0 n).map fun i => M.d (.int i))) := by
  unfold rng1
  simp only [rngOk_of h, if_true, rngM_eq]
theorem rng2_rt {l n : Int} (hl : l.natAbs < 4611686018427387904) (h : n.natAbs < 4611686018427387904) : rng2 [.d (.int l), .d (.int n)] = rt (.vals ((rngL l n).map fun i => M.d (.int i))) := by
  unfold rng2
  simp only [rngOk_of h, rngOk_of hl, Bool.and_self, if_true, rngM_eq]
theorem rng1F {fs : Env → Sm (List M)} {env : Env} {n : Int} (e : fs env = rt [.d (.int n)]) (h : n.natAbs < 4611686018427387904) : iRng1F fs env = rt (.vals ((rngL 0 n).map fun i => M.d (.int i))) := by
  unfold iRng1F
  rw [e, bnd_rt, rng1_rt h]
theorem rng2F {fs : Env → Sm (List M)} {env : Env} {l n : Int} (e : fs env = rt [.d (.int l), .d (.int n)]) (hl : l.natAbs < 4611686018427387904) (h : n.natAbs < 4611686018427387904) : iRng2F fs env = rt (.vals ((rngL l n).map fun i => M.d (.int i))) := by
  unfold iRng2F
  rw [e, bnd_rt, rng2_rt hl h]
theorem comp_map {α : Type} (inj : α → M) (t : α → Bool) (g : α → M) {itf : Env → Sm SIt} {p : Pat} {tt : Env → Sm Bool} {el : ES} {vs : List Nat} {env : Env} {ys : List α} (e : itf env = rt (.vals (ys.map inj))) (hl : ys.length < LIM)
    (st : ∀ a ∈ ys, ∃ env1, p.asg (inj a) (wipeE env vs) = some env1 ∧ tt env1 = rt (t a) ∧ (t a = true → el env1 = rt (g a))) : nComp itf p tt el vs env = rt ((ys.filter t).map g) := by
  rw [comp_rt e (by rw [List.length_map]; exact hl)]
  have key : ∀ (zs : List α) (acc : List M), (∀ a ∈ zs, a ∈ ys) → compL p tt el (wipeE env vs) (zs.map inj) acc = rt (acc ++ (zs.filter t).map g) := fun zs => by
    induction zs with
    | nil => intro acc _; simp only [List.map_nil, compL, List.filter_nil, List.append_nil]
    | cons z zs ih =>
      intro acc hz
      obtain ⟨env1, e1, e2, e3⟩ := st z (hz z (List.mem_cons_self ..))
      have ih := fun acc => ih acc fun a ha => hz a (List.mem_cons_of_mem _ ha)
      simp only [List.map_cons, compL, e1, e2, nox_rt, bnd_rt]
      cases ht : t z with
      | false => simp only [Bool.false_eq_true, if_false, ih, List.filter_cons, ht]
      | true => simp only [if_true, e3 ht, nox_rt, bnd_rt, ih, List.filter_cons, ht, List.map_cons, List.append_assoc, List.singleton_append]
  rw [key ys [] fun _ h => h, List.nil_append]
theorem filter_true {α : Type} (xs : List α) : xs.filter (fun _ => true) = xs := List.filter_eq_self.mpr fun _ _ => rfl
/-- [el for p in ys if tt], by value -/
theorem comp_val {α : Type} (inj : α → M) (t : α → Bool) (g : α → PyData) {itf : Env → Sm SIt} {p : Pat} {tt : Env → Sm Bool} {el : ES} {vs : List Nat} {env : Env} {ys : List α} (e : itf env = rt (.vals (ys.map inj))) (hl : ys.length < LIM)
    (st : ∀ a ∈ ys, ∃ env1, p.asg (inj a) (wipeE env vs) = some env1 ∧ tt env1 = rt (t a) ∧ (t a = true → el env1 = rt (.d (g a)))) : eVal (nComp itf p tt el vs) env = rt (.d (.list ((ys.filter t).map g))) := by
  unfold eVal
  rw [comp_map inj t (fun a => M.d (g a)) e hl st, bnd_rt]
  rw [show (ys.filter t).map (fun a => M.d (g a)) = ((ys.filter t).map g).map M.d by rw [List.map_map]; rfl, asDs_map]
theorem comp_valT {α : Type} (inj : α → M) (g : α → PyData) {itf : Env → Sm SIt} {p : Pat} {el : ES} {vs : List Nat} {env : Env} {ys : List α} (e : itf env = rt (.vals (ys.map inj))) (hl : ys.length < LIM)
    (st : ∀ a ∈ ys, ∃ env1, p.asg (inj a) (wipeE env vs) = some env1 ∧ el env1 = rt (.d (g a))) : eVal (nComp itf p bYes el vs) env = rt (.d (.list (ys.map g))) := by
  have := comp_val inj (fun _ => true) g (tt := bYes) e hl fun a ha => let ⟨x, h1, h2⟩ := st a ha; ⟨x, h1, rfl, fun _ => h2⟩
  rw [filter_true] at this
  exact this
theorem val_of {f : Env → Sm (List M)} {env : Env} {ds : List PyData} (e : f env = rt (ds.map M.d)) : eVal f env = rt (.d (.list ds)) := by
  unfold eVal
  rw [e, bnd_rt, asDs_map]
theorem cell_of {f : Env → Sm (List M)} {env : Env} {h h' : Hh} {ds : List PyData} (e : f env h = some (.val (ds.map M.d) h')) : eCell f env h = some (.val (.obj h'.length) (h' ++ [.lst ds])) := by
  unfold eCell
  rw [bnd_val e]
  simp only [mkCell, asDs_map]
theorem blsM_map' (bs : List Bool) : blsM ((bs.map PyData.bool).map M.d) = some bs := by rw [List.map_map]; exact blsM_map bs
theorem all_bs {bs : List Bool} : nAll [.d (.list (bs.map PyData.bool))] = rt (.d (.bool (bs.all id))) := by
  funext h
  simp only [nAll, lstM, Option.bind, blsM_map']
  rfl
theorem any_bs {bs : List Bool} : nAny [.d (.list (bs.map PyData.bool))] = rt (.d (.bool (bs.any id))) := by
  funext h
  simp only [nAny, lstM, Option.bind, blsM_map']
  rfl
/-! loops over what is given one by one -/
theorem forGo_get {s : SIt} {L : List M} (hs : ∀ i h, s.get i h = some L[i]?) {p : Pat} {body : SS} : ∀ (f i : Nat) (env : G.Env), L.length < i + f → i ≤ L.length → forGo s p body f i env = forL p body (L.drop i) env
  | 0, i, env, h1, h2 => absurd h1 (by omega)
  | f + 1, i, env, h1, h2 => by
    funext h
    have hg := hs i h
    by_cases hi : i < L.length
    · rw [List.getElem?_eq_getElem hi] at hg
      rw [List.drop_eq_getElem_cons hi]
      simp only [forGo, forL, hg]
      cases e : p.asg L[i] env with
      | none => rfl
      | some env1 =>
        have ih : forGo s p body f (i + 1) = forL p body (L.drop (i + 1)) := funext fun env2 => forGo_get hs f (i + 1) env2 (by omega) (by omega)
        simp only [ih]
    · rw [List.getElem?_eq_none (by omega)] at hg
      rw [List.drop_eq_nil_of_le (by omega)]
      simp only [forGo, forL, hg]
      rfl
theorem for_get {itf : G.Env → Sm SIt} {s : SIt} {L : List M} {p : Pat} {body : SS} {env : G.Env} {h h' : Hh} (e : itf env h = some (.val s h')) (hs : ∀ i h, s.get i h = some L[i]?) (hc : ∀ h, s.cnt h = L.length) : sFor itf p body env h = forL p body L env h' := by
  unfold sFor
  rw [bnd_val e]
  simp only [hc]
  rw [forGo_get hs _ 0 env (by omega) (by omega), List.drop_zero]
def enL (xs : List M) : List M := xs.zipIdx.map fun p => mkTup [.d (.int (p.2 : Int)), p.1]
theorem en_get {xs : List M} (i : Nat) (h : Hh) : (SIt.en (.vals xs)).get i h = some (enL xs)[i]? := by
  simp only [SIt.get, enL, List.getElem?_map, List.getElem?_zipIdx]
  cases xs[i]? with
  | none => rfl
  | some m => simp only [Option.map_some, Nat.zero_add]
theorem en_cnt {xs : List M} (h : Hh) : (SIt.en (.vals xs)).cnt h = (enL xs).length := by
  simp only [SIt.cnt, enL, List.length_map, List.length_zipIdx]
theorem for_en {itf : G.Env → Sm SIt} {xs : List M} {p : Pat} {body : SS} {env : G.Env} {h h' : Hh} (e : itf env h = some (.val (.en (.vals xs)) h')) : sFor itf p body env h = forL p body (enL xs) env h' := for_get e en_get en_cnt
theorem en_at {xs : List M} {i : Nat} {m : M} (h : (enL xs)[i]? = some m) : ∃ x, xs[i]? = some x ∧ m = mkTup [.d (.int (i : Int)), x] := by
  simp only [enL, List.getElem?_map, List.getElem?_zipIdx] at h
  cases e : xs[i]? with
  | none => rw [e] at h; cases h
  | some x =>
    rw [e] at h
    simp only [Option.map_some, Nat.zero_add] at h
    exact ⟨x, rfl, (Option.some.inj h).symm⟩
theorem len_enL {xs : List M} : (enL xs).length = xs.length := by simp only [enL, List.length_map, List.length_zipIdx]
theorem enF_l {f : ES} {env : G.Env} {xs : List PyData} (e : f env = rt (.d (.list xs))) : iEnF f env = rt (.en (.vals (xs.map M.d))) := by unfold iEnF; rw [e, bnd_rt, itM_l, bnd_rt]
theorem ext_lst {k : Nat} {h : Hh} {xs ys : List PyData} (e : h[k]? = some (.lst xs)) (hl : xs.length + ys.length ≤ LIM) : extD (.obj k) (.d (.list ys)) h = some (.val (.d .none) (h.set k (.lst (xs ++ ys)))) := by
  simp only [extD, e, lstM, Option.bind, asDs_map, hl, if_true]
theorem ext_at {fo f : ES} {env : G.Env} {k : Nat} {h : Hh} {xs ys : List PyData} (eo : fo env = rt (.obj k)) (ef : f env = rt (.d (.list ys))) (e : h[k]? = some (.lst xs)) (hl : xs.length + ys.length ≤ LIM) : eExt fo f env h = some (.val (.d .none) (h.set k (.lst (xs ++ ys)))) := by
  unfold eExt
  rw [eo, bnd_rt, bnd_val (a := ()) (h' := h) (by simp only [chkL, lstM, e, cellMs]), ef, bnd_rt]
  exact ext_lst e hl
theorem app_at {fo f : ES} {env : G.Env} {k : Nat} {h h' : Hh} {xs ys : List PyData} {x : PyData} (eo : fo env = rt (.obj k)) (ec : h[k]? = some (.lst ys)) (ef : f env h = some (.val (.d x) h')) (e : h'[k]? = some (.lst xs)) (hl : xs.length < LIM) : eApp fo f env h = some (.val (.d .none) (h'.set k (.lst (xs ++ [x])))) := by
  unfold eApp
  rw [eo, bnd_rt, bnd_val (a := ()) (h' := h) (by simp only [chkL, lstM, ec, cellMs]), bnd_val ef]
  simp only [apd, e, hl, if_true]
theorem last_at {h : Hh} {c : Cell} : (h ++ [c])[h.length]? = some c := by rw [List.getElem?_append_right (Nat.le_refl _), Nat.sub_self]; rfl
theorem last_set {h : Hh} {c c' : Cell} : (h ++ [c]).set h.length c' = h ++ [c'] := by rw [List.set_append_right _ _ (Nat.le_refl _), Nat.sub_self]; rfl
theorem ix_cell {k : Nat} {h : Hh} {xs : List PyData} {i : Int} {x : PyData} (e : h[k]? = some (.lst xs)) (ei : atI xs i = some x) : oIx (.obj k) (.d (.int i)) h = some (.val (.d x) h) := by
  simp only [oIx, tupM, lstM, e, cellMs, atI_map, ei, Option.map_some]
  rfl
theorem rngL_succ {k : Nat} : rngL 0 ((k : Int) + 1) = rngL 0 k ++ [(k : Int)] := by
  unfold rngL
  rw [show ((k : Int) + 1 - 0).toNat = k + 1 by omega, show ((k : Int) - 0).toNat = k by omega, List.range_succ, List.map_append]
  simp
theorem atI_mapD {α β : Type} {f : α → β} {xs : List α} {i : Int} {x : α} (e : atI xs i = some x) : atI (xs.map f) i = some (f x) := by rw [atI_map, e]; rfl
end G

/-! more that a list is made of: list(x), sorted(x), [..] * n, sorted(set(x)); max, min -/
namespace G
open PySem PySem.Spec L2
section
variable {X : Cx} {E : XE} {pos p : Pos} {K : PySem.W.Frag}
/-- a new list of what op gives -/
def nB (op : Hh → List M → Option (List M)) (fs : Env → Sm (List M)) : Env → Sm (List M) := fun env => bnd (fs env) fun xs h => match op h xs with
  | some ms => some (.val ms h)
  | none => none
def JN (K : PySem.W.Frag) (r : List V → Hp → VK → Prop) (op : Hh → List M → Option (List M)) : Prop := ∀ (W : Wd) (xs : List M) (vs : List V) (ms : List M) (Q : VK), W.Ok K → RVs K W xs vs → op W.h xs = some ms →
  (∀ q us, W.H q = none → RVs K W ms us → Q (.ref q) (upd W.H q (.lst us))) → r vs W.H Q
theorem t_BN {fs : Env → Sm (List M)} {r : List V → Hp → VK → Prop} {op : Hh → List M → Option (List M)} (j : JN K r op) : ∀ σ H Q, tN K E (nB op fs) σ H Q → tCB r (tA K E fs) σ H Q := fun σ H Q ⟨W, env, hH, ok, er, p⟩ => by
  subst hH
  refine ⟨W, env, rfl, ok, er, (PostG.bindF (Step.refl W) p).mono fun xs W1 ok1 s1 ⟨s0, p1⟩ vs rvs => ?_⟩
  cases e : op W1.h xs with
  | none => simp only [e] at p1; exact p1.elim
  | some ms =>
    simp only [e] at p1
    refine j W1 xs vs ms Q ok1 rvs e fun q us hq rus => ?_
    exact p1 (W1.more q (.lst us)) rfl (ok1.more _ hq) (s0.trans (Step.more hq)) q us (s0.dom q hq) (ok1.fp hq) (fun k hk => ok1.nec hq hk) upd_same (RMs.step rus (Step.more hq))
theorem p_BN {id : String} {x : Str} {e : Expr} {es : List Expr} {fs : Env → Sm (List M)} {r : List V → Hp → VK → Prop} {op : Hh → List M → Option (List M)} (hc : CallR X (.builtin id) r) (j : JN X.K r op) (hg : Gl X x) (hm : X.mg x = none) (hv : bootBuiltins x = some (.builtin id)) (ha : PA X (e :: es) (tA X.K E fs)) (hn : x ≠ "__name__" := by decide) (hdb : (x == ("__debug__" : Str)) = false := by decide)
    (he : starEach (e :: es) X.env = (false, eval e X.env) :: starEach es X.env := by rfl) (hpl : (backTo pos (starEach es X.env)).any (·.1) = false := by rfl) : PE X (.Call (.Name x p) (e :: es) [] pos) (tN X.K E (nB op fs)) := PE.imp (pe_callB hc hg hm hv ha hn hdb he hpl) (t_BN j)
theorem p_TyN {T : String} {x : Str} {e : Expr} {es : List Expr} {fs : Env → Sm (List M)} {r : List V → Hp → VK → Prop} {op : Hh → List M → Option (List M)} (hc : CallR X (.type T) r) (j : JN X.K r op) (hg : Gl X x) (hm : X.mg x = none) (hv : bootBuiltins x = some (.type T)) (ha : PA X (e :: es) (tA X.K E fs)) (hn : x ≠ "__name__" := by decide) (hdb : (x == ("__debug__" : Str)) = false := by decide)
    (he : starEach (e :: es) X.env = (false, eval e X.env) :: starEach es X.env := by rfl) (hpl : (backTo pos (starEach es X.env)).any (·.1) = false := by rfl) : PE X (.Call (.Name x p) (e :: es) [] pos) (tN X.K E (nB op fs)) := PE.imp (pe_callTy hc hg hm hv ha hn hdb he hpl) (t_BN j)
end
section
variable {K : PySem.W.Frag}
theorem seqM_ok {W : Wd} (ok : W.Ok K) {m : M} {v : V} {t : Bool} {ms : List M} (r : RV K W m v) (e : seqM W.h m = some (t, ms)) : ∃ a vs, v = .ref a ∧ (SqL K W.H a vs ∨ SqT K W.H a vs) ∧ RVs K W ms vs := by
  unfold seqM at e
  split at e
  · rename_i ms' e1
    cases e
    obtain ⟨a, vs, h1, h2, h3⟩ := tupM_ok ok r e1
    exact ⟨a, vs, h1, .inr (SqT.of (ok.sub _ _ h2)), h3⟩
  · split at e
    · rename_i ms' e1
      cases e
      obtain ⟨a, vs, h1, h2, h3⟩ := lstM_ok ok r e1
      exact ⟨a, vs, h1, .inl (SqL.of h2), h3⟩
    · cases e
def opList : Hh → List M → Option (List M) := fun h xs => match xs with
  | [m] => match seqM h m with
    | some (_, ms) => some ms
    | none => none
  | _ => none
abbrev nList := nB opList
theorem jn_list : JN K (fun xs H Q => ∃ p ys, xs = [.ref p] ∧ (SqL K H p ys ∨ SqT K H p ys) ∧ ∀ l, H l = none → Q (.ref l) (upd H l (.lst ys))) opList := fun W xs vs ms Q ok r e q => by
  unfold opList at e
  split at e
  · rename_i m
    split at e
    · rename_i t ms' e1
      cases e
      obtain ⟨v, h1, h2⟩ := RMs.one r
      obtain ⟨a, us, g1, g2, g3⟩ := seqM_ok ok h2 e1
      exact ⟨a, us, by rw [h1, g1], g2, fun l hl => q l us hl g3⟩
    · cases e
  · cases e
/-! max, min -/
def maxI : List Int → Option Int
  | [] => none
  | x :: xs => some (xs.foldl max x)
def minI : List Int → Option Int
  | [] => none
  | x :: xs => some (xs.foldl min x)
theorem foldl_max : ∀ (xs : List Int) (x : Int), (∀ y ∈ xs, y ≤ xs.foldl max x) ∧ x ≤ xs.foldl max x ∧ (xs.foldl max x = x ∨ xs.foldl max x ∈ xs)
  | [], x => ⟨fun _ h => (List.not_mem_nil h).elim, Int.le_refl _, .inl rfl⟩
  | z :: zs, x => by
    obtain ⟨h1, h2, h3⟩ := foldl_max zs (max x z)
    simp only [List.foldl_cons]
    refine ⟨fun y hy => ?_, by omega, ?_⟩
    · rcases List.mem_cons.mp hy with rfl | hy
      · omega
      · exact h1 y hy
    · rcases h3 with h3 | h3
      · rw [h3]
        by_cases q : z ≤ x
        · left; omega
        · right; rw [show max x z = z by omega]; exact List.mem_cons_self ..
      · right; exact List.mem_cons_of_mem _ h3
theorem foldl_min : ∀ (xs : List Int) (x : Int), (∀ y ∈ xs, xs.foldl min x ≤ y) ∧ xs.foldl min x ≤ x ∧ (xs.foldl min x = x ∨ xs.foldl min x ∈ xs)
  | [], x => ⟨fun _ h => (List.not_mem_nil h).elim, Int.le_refl _, .inl rfl⟩
  | z :: zs, x => by
    obtain ⟨h1, h2, h3⟩ := foldl_min zs (min x z)
    simp only [List.foldl_cons]
    refine ⟨fun y hy => ?_, by omega, ?_⟩
    · rcases List.mem_cons.mp hy with rfl | hy
      · omega
      · exact h1 y hy
    · rcases h3 with h3 | h3
      · rw [h3]
        by_cases q : x ≤ z
        · left; omega
        · right; rw [show min x z = z by omega]; exact List.mem_cons_self ..
      · right; exact List.mem_cons_of_mem _ h3
theorem maxI_ok {ns : List Int} {m : Int} (e : maxI ns = some m) : m ∈ ns ∧ ∀ y ∈ ns, y ≤ m := by
  cases ns with
  | nil => cases e
  | cons x xs =>
    cases e
    obtain ⟨h1, h2, h3⟩ := foldl_max xs x
    refine ⟨?_, fun y hy => ?_⟩
    · rcases h3 with h | h
      · rw [h]; exact List.mem_cons_self ..
      · exact List.mem_cons_of_mem _ h
    · rcases List.mem_cons.mp hy with rfl | hy
      · exact h2
      · exact h1 y hy
theorem minI_ok {ns : List Int} {m : Int} (e : minI ns = some m) : m ∈ ns ∧ ∀ y ∈ ns, m ≤ y := by
  cases ns with
  | nil => cases e
  | cons x xs =>
    cases e
    obtain ⟨h1, h2, h3⟩ := foldl_min xs x
    refine ⟨?_, fun y hy => ?_⟩
    · rcases h3 with h | h
      · rw [h]; exact List.mem_cons_self ..
      · exact List.mem_cons_of_mem _ h
    · rcases List.mem_cons.mp hy with rfl | hy
      · exact h2
      · exact h1 y hy
def nMax : OpN := fun xs h => match xs with
  | [m] => match ((lstM h m).bind intsM).bind maxI with
    | some i => some (.val (.d (.int i)) h)
    | none => none
  | _ => none
def nMin : OpN := fun xs h => match xs with
  | [m] => match ((lstM h m).bind intsM).bind minI with
    | some i => some (.val (.d (.int i)) h)
    | none => none
  | _ => none
theorem jc_max : JC K (rMax K) nMax := fun E W xs vs Q ok r p => by
  unfold nMax at p
  split at p
  · rename_i m
    split at p
    · rename_i i e
      obtain ⟨v, h1, h2⟩ := RMs.one r
      obtain ⟨ns, e1, e2⟩ := Option.bind_eq_some_iff.mp e
      obtain ⟨ms, e0, e1⟩ := Option.bind_eq_some_iff.mp e1
      obtain ⟨a, us, g1, g2, g3⟩ := lstM_ok ok h2 e0
      have z := intsM_rel e1 g3
      subst z
      obtain ⟨k1, k2⟩ := maxI_ok e2
      refine ⟨a, ns, by rw [h1, g1], SqL.of g2, List.length_pos_of_mem k1, fun m hm hy => ?_⟩
      have : m = i := Int.le_antisymm (k2 m hm) (hy i k1)
      subst this
      exact PostG.ret (a := M.d (.int m)) ok p _ (by simp only [RM, RD])
    · exact p.elim
  · exact p.elim
theorem jc_min : JC K (rMin K) nMin := fun E W xs vs Q ok r p => by
  unfold nMin at p
  split at p
  · rename_i m
    split at p
    · rename_i i e
      obtain ⟨v, h1, h2⟩ := RMs.one r
      obtain ⟨ns, e1, e2⟩ := Option.bind_eq_some_iff.mp e
      obtain ⟨ms, e0, e1⟩ := Option.bind_eq_some_iff.mp e1
      obtain ⟨a, us, g1, g2, g3⟩ := lstM_ok ok h2 e0
      have z := intsM_rel e1 g3
      subst z
      obtain ⟨k1, k2⟩ := minI_ok e2
      refine ⟨a, ns, by rw [h1, g1], SqL.of g2, List.length_pos_of_mem k1, fun m hm hy => ?_⟩
      have : m = i := Int.le_antisymm (hy i k1) (k2 m hm)
      subst this
      exact PostG.ret (a := M.d (.int m)) ok p _ (by simp only [RM, RD])
    · exact p.elim
  · exact p.elim
/-! sorted -/
def sortI (ns : List Int) : List Int := ns.mergeSort fun a b => decide (a ≤ b)
theorem sortI_perm (ns : List Int) : (sortI ns).Perm ns := List.mergeSort_perm _ _
theorem sortI_le (ns : List Int) : (sortI ns).Pairwise (· ≤ ·) := by
  have := List.pairwise_mergeSort (le := fun a b : Int => decide (a ≤ b)) (fun a b c h1 h2 => by simp only [decide_eq_true_eq] at *; omega) (fun a b => by simp only [Bool.or_eq_true, decide_eq_true_eq]; omega) ns
  exact this.imp fun h => of_decide_eq_true h
theorem sorted_uniq {a b : List Int} (p : a.Perm b) (ha : a.Pairwise (· ≤ ·)) (hb : b.Pairwise (· ≤ ·)) : a = b :=
  p.eq_of_pairwise (fun x y _ _ h1 h2 => Int.le_antisymm h1 h2) ha hb
theorem sortI_uniq {a b : List Int} (p : a.Perm b) (ha : a.Pairwise (· ≤ ·)) : a = sortI b := sorted_uniq (p.trans (sortI_perm b).symm) ha (sortI_le b)
/-- a pair of whole numbers as data -/
def pairD : PyData → Option (Int × Int)
  | .tuple [.int i, .int j] => some (i, j)
  | _ => none
def pairsM : List M → Option (List (Int × Int))
  | [] => some []
  | .d x :: r => match pairD x, pairsM r with
    | some p, some ps => some (p :: ps)
    | _, _ => none
  | _ :: _ => none
def ppD (p : Int × Int) : PyData := .tuple [.int p.1, .int p.2]
theorem pairD_eq {x : PyData} {p : Int × Int} (e : pairD x = some p) : x = ppD p := by
  unfold pairD at e
  split at e
  · cases e; rfl
  · cases e
theorem pairsM_eq : ∀ {ms : List M} {ps : List (Int × Int)}, pairsM ms = some ps → ms = ps.map fun p => M.d (ppD p)
  | [], ps, e => by cases e; rfl
  | .d x :: r, ps, e => by
    simp only [pairsM] at e
    cases e1 : pairD x with
    | none => simp only [e1] at e; cases e
    | some p =>
      cases e2 : pairsM r with
      | none => simp only [e1, e2] at e; cases e
      | some qs =>
        simp only [e1, e2, Option.some.injEq] at e
        subst e
        rw [pairD_eq e1, pairsM_eq e2]; rfl
  | .obj _ :: _, _, e => by cases e
  | .tup _ :: _, _, e => by cases e
  | .scr _ :: _, _, e => by cases e
  | .ad _ :: _, _, e => by cases e
theorem pairsM_map : ∀ ps : List (Int × Int), pairsM (ps.map fun p => M.d (ppD p)) = some ps
  | [] => rfl
  | p :: ps => by
    have e : pairD (ppD p) = some p := rfl
    simp only [List.map_cons, pairsM, e, pairsM_map ps]
def lexP (p q : Int × Int) : Bool := decide (p.1 < q.1) || (decide (p.1 = q.1) && decide (p.2 ≤ q.2))
def sortP (ps : List (Int × Int)) : List (Int × Int) := ps.mergeSort lexP
theorem sortP_perm (ps : List (Int × Int)) : (sortP ps).Perm ps := List.mergeSort_perm _ _
theorem lexP_iff {p q : Int × Int} : lexP p q = true ↔ p.1 < q.1 ∨ (p.1 = q.1 ∧ p.2 ≤ q.2) := by
  unfold lexP
  simp only [Bool.or_eq_true, Bool.and_eq_true, decide_eq_true_eq]
theorem sortP_le (ps : List (Int × Int)) : (sortP ps).Pairwise fun p q => lexP p q = true :=
  List.pairwise_mergeSort (le := lexP) (fun a b c h1 h2 => by rw [lexP_iff] at *; omega) (fun a b => by rw [Bool.or_eq_true, lexP_iff, lexP_iff]; omega) ps
theorem sortP_uniq {a b : List (Int × Int)} (p : a.Perm b) (ha : a.Pairwise fun p q => lexP p q = true) : a = sortP b :=
  (p.trans (sortP_perm b).symm).eq_of_pairwise (fun x y _ _ h1 h2 => by
    rw [lexP_iff] at h1 h2
    exact Prod.ext (by omega) (by omega)) ha (sortP_le b)
def opSort : Hh → List M → Option (List M) := fun h xs => match xs with
  | [m] => match lstM h m with
    | some ms => match intsM ms with
      | some ns => some ((sortI ns).map fun i => M.d (.int i))
      | none => match pairsM ms with
        | some ps => some ((sortP ps).map fun p => M.d (ppD p))
        | none => none
    | none => none
  | _ => none
abbrev nSort := nB opSort
theorem ints_rms {W : Wd} : ∀ ns : List Int, RVs K W (ns.map fun i => M.d (.int i)) (ns.map V.int)
  | [] => by simp only [List.map_nil, RMs]
  | n :: ns => by
    simp only [List.map_cons, RMs]
    exact ⟨_, _, rfl, by simp only [RM, RD], ints_rms ns⟩

def kOf (F : Hp) : V → Int × Int := fun v => match v with
  | .ref a => match F a with
    | some (.tup [.int i, .int j]) => (i, j)
    | _ => (0, 0)
  | _ => (0, 0)
theorem pp_rel {W : Wd} {p : Int × Int} {v : V} (r : RV K W (.d (ppD p)) v) : ∃ t, v = .ref t ∧ W.F t = some (.tup [.int p.1, .int p.2]) := by
  simp only [RM, ppD, RD] at r
  obtain ⟨a, vs, h1, h2, h3⟩ := r
  simp only [RDs, RD] at h3
  obtain ⟨v1, w1, e1, rfl, v2, w2, e2, rfl, e3⟩ := h3
  subst e1 e2 e3
  exact ⟨a, h1, h2⟩
theorem pps_rel {W : Wd} : ∀ {ps : List (Int × Int)} {vs : List V}, RVs K W (ps.map fun p => M.d (ppD p)) vs → vs.map (kOf W.F) = ps ∧ ∀ v ∈ vs, ∃ t, v = .ref t ∧ W.F t = some (.tup [.int (kOf W.F v).1, .int (kOf W.F v).2])
  | [], vs, r => by
    simp only [List.map_nil, RMs] at r
    subst r
    exact ⟨rfl, fun _ h => nomatch h⟩
  | p :: ps, vs, r => by
    simp only [List.map_cons, RMs] at r
    obtain ⟨v, ws, rfl, h1, h2⟩ := r
    obtain ⟨t, rfl, ht⟩ := pp_rel h1
    obtain ⟨i1, i2⟩ := pps_rel h2
    have e : kOf W.F (.ref t) = p := by simp only [kOf, ht]
    refine ⟨by rw [List.map_cons, e, i1], fun v hv => ?_⟩
    rcases List.mem_cons.mp hv with rfl | hv
    · exact ⟨t, rfl, by rw [e]; exact ht⟩
    · exact i2 v hv
theorem rel_pps {W : Wd} : ∀ {vs : List V}, (∀ v ∈ vs, ∃ t, v = .ref t ∧ W.F t = some (.tup [.int (kOf W.F v).1, .int (kOf W.F v).2])) → RVs K W ((vs.map (kOf W.F)).map fun p => M.d (ppD p)) vs
  | [], _ => by simp only [List.map_nil, RMs]
  | v :: vs, h => by
    simp only [List.map_cons, RMs]
    obtain ⟨t, rfl, ht⟩ := h v (List.mem_cons_self ..)
    refine ⟨_, vs, rfl, ?_, rel_pps fun u hu => h u (List.mem_cons_of_mem _ hu)⟩
    simp only [RM, ppD, RD]
    refine ⟨t, _, rfl, ht, ?_⟩
    simp only [RDs, RD]
    exact ⟨_, _, rfl, rfl, _, _, rfl, rfl, rfl⟩
theorem jn_sort : JN K (fun xs H Q => rSortedI K xs H Q ∨ rSortedPO K xs H Q) opSort := fun W xs vs ms Q ok r e q => by
  unfold opSort at e
  split at e
  · rename_i m
    obtain ⟨v, h1, h2⟩ := RMs.one r
    split at e
    · rename_i ms' e1
      obtain ⟨a, us, g1, g2, g3⟩ := lstM_ok ok h2 e1
      split at e
      · rename_i ns e2
        cases e
        have z := intsM_rel e2 g3
        subst z
        refine .inl ⟨a, ns, by rw [h1, g1], SqL.of g2, fun ns' p hp hs hq => q p _ hq ?_⟩
        rw [sortI_uniq hp hs]
        exact ints_rms _
      · split at e
        · rename_i ps e2
          cases e
          have em := pairsM_eq e2
          subst em
          obtain ⟨k1, k2⟩ := pps_rel g3
          refine .inr ⟨a, us, kOf W.F, by rw [h1, g1], SqL.of g2, fun x hx => ?_, fun ys p hs hb hq => q p ys hq ?_⟩
          · obtain ⟨t, e, ht⟩ := k2 x hx
            exact ⟨t, e, ok.sub _ _ ht⟩
          · have pm : (ys.map (kOf W.F)).Perm ps := by
              rw [← k1]
              exact hb.perm.map _
            have le : (ys.map (kOf W.F)).Pairwise fun p q => lexP p q = true := List.pairwise_map.mpr (hs.imp fun {x y} h => by
              have := SrtO.lexB_no.mp h
              rw [lexP_iff]
              omega)
            rw [← sortP_uniq pm le]
            exact rel_pps fun v hv => k2 v (hb.perm.mem_iff.mp hv)
        · cases e
    · cases e
  · cases e
end
section
variable {X : Cx} {E : XE} {pos p : Pos} {e : Expr} {fs : Env → Sm (List M)}
theorem p_list (hg : Gl X "list") (hm : X.mg "list" = none) (ha : PA X [e] (tA X.K E fs)) (he : starEach [e] X.env = (false, eval e X.env) :: starEach [] X.env := by rfl) : PE X (.Call (.Name "list" p) [e] [] pos) (tN X.K E (nList fs)) :=
  p_TyN call_list_of jn_list hg hm PyProof.Rows.boot_list ha (he := he)
theorem p_sorted (hg : Gl X "sorted") (hm : X.mg "sorted" = none) (ha : PA X [e] (tA X.K E fs)) (he : starEach [e] X.env = (false, eval e X.env) :: starEach [] X.env := by rfl) : PE X (.Call (.Name "sorted" p) [e] [] pos) (tN X.K E (nSort fs)) :=
  p_BN (cr_sortedI.or cr_sortedPO) jn_sort hg hm PyProof.Rows.boot_sorted ha (he := he)
end
end G

/-! lists' own methods; truth of any value; sets of whole numbers; zip -/
namespace G
open PySem PySem.Spec L2
/-! ### methods -/
def eM (op : List M → List M → Option (M × List M)) (fo : ES) (fs : Env → Sm (List M)) : ES := fun env => bnd (fo env) fun x => bnd (chkL x) fun _ => bnd (fs env) fun as h => match x with
  | .obj k => match cellMs h[k]? with
    | some ms => match op ms as with
      | some (m, ms') => some (.val m (h.set k (mkCell ms')))
      | none => none
    | none => none
  | _ => none
def JL (K : PySem.W.Frag) (r : V → List V → Hp → VK → Prop) (op : List M → List M → Option (M × List M)) : Prop := ∀ (W : Wd) (ms as : List M) (l : Addr) (xs vs : List V) (m : M) (ms' : List M) (Q : VK), W.Ok K → RVs K W ms xs → RVs K W as vs → W.H l = some (.lst xs) →
  op ms as = some (m, ms') → (∀ xs' v, RVs K W ms' xs' → RV K W m v → Q v (upd W.H l (.lst xs'))) → r (.ref l) vs W.H Q
theorem cellMs_ok {K : PySem.W.Frag} {W : Wd} (ok : W.Ok K) {k : Nat} {ms : List M} (e : cellMs W.h[k]? = some ms) : ∃ c vs, W.h[k]? = some c ∧ c ≠ .dead ∧ W.H (W.ρ k) = some (.lst vs) ∧ RVs K W ms vs := by
  cases ec : W.h[k]? with
  | none => rw [ec] at e; cases e
  | some c =>
    rw [ec] at e
    have hc := ok.cell k c ec
    cases c with
    | dead => cases e
    | lst xs =>
      cases e
      obtain ⟨vs, h1, h2⟩ := hc
      exact ⟨_, vs, rfl, (fun z => nomatch z), h1, RMs.of_ds h2⟩
    | mix xs =>
      cases e
      obtain ⟨vs, h1, h2⟩ := hc
      exact ⟨_, vs, rfl, (fun z => nomatch z), h1, h2⟩
theorem t_M {K : PySem.W.Frag} {E : XE} {r : V → List V → Hp → VK → Prop} {op : List M → List M → Option (M × List M)} {fo : ES} {fs : Env → Sm (List M)} (j : JL K r op) : ∀ σ H Q, tM K E (eM op fo fs) σ H Q → tBM K "list" r (tM K E fo) (tA K E fs) σ H Q := fun σ H Q ⟨W, env, hH, ok, er, p⟩ => by
  subst hH
  refine ⟨W, env, rfl, ok, er, (PostG.bind p).mono fun x W1 ok1 s1 p1 v rv => ?_⟩
  obtain ⟨ty, p1'⟩ := chkL_ok ok1 rv (PostG.bind p1)
  refine ⟨ty, W1, env, rfl, ok1, er.step s1, (PostG.bind p1').mono fun as W2 ok2 s2 p2 us rus => ?_⟩
  cases x with
  | obj k =>
    simp only at p2
    cases ec : cellMs W2.h[k]? with
    | none => simp only [ec] at p2; exact p2.elim
    | some ms =>
      simp only [ec] at p2
      cases eo : op ms as with
      | none => simp only [eo] at p2; exact p2.elim
      | some z =>
        obtain ⟨m, ms'⟩ := z
        simp only [eo] at p2
        obtain ⟨c, xs, ec2, hne, hH, rxs⟩ := cellMs_ok ok2 ec
        have rk := RM.step rv s2
        simp only [RM] at rk
        rw [rk.2]
        refine j W2 ms as (W2.ρ k) xs us m ms' Q ok2 rxs rus hH eo fun xs' v rxs' rm => ?_
        exact p2 (W2.wr k (mkCell ms') (.lst xs')) rfl (ok2.wr ec2 hne (mkCell_ok rfl rxs')) (Step.wr ok2 ec2 hne) _ (RM.step rm (Step.wr (c := mkCell ms') (o := .lst xs') ok2 ec2 hne))
  | _ => exact p2.elim
section
variable {K : PySem.W.Frag}
theorem RMs.getM {ρ : Nat → Addr} {F : Hp} {n : Nat} : ∀ {ms : List M} {vs : List V} {i : Nat} {m : M}, RMs K ρ F n ms vs → ms[i]? = some m → ∃ v, vs[i]? = some v ∧ RM K ρ F n m v
  | [], vs, i, m, r, e => by cases e
  | x :: xs, vs, i, m, r, e => by
    simp only [RMs] at r
    obtain ⟨v, ws, rfl, h1, h2⟩ := r
    cases i with
    | zero => cases e; exact ⟨v, rfl, h1⟩
    | succ i => exact RMs.getM (i := i) h2 e
theorem RMs.erase {ρ : Nat → Addr} {F : Hp} {n : Nat} : ∀ {ms : List M} {vs : List V} (i : Nat), RMs K ρ F n ms vs → RMs K ρ F n (ms.eraseIdx i) (vs.eraseIdx i)
  | [], vs, i, r => by simp only [RMs] at r; subst r; simp only [List.eraseIdx_nil, RMs]
  | x :: xs, vs, i, r => by
    simp only [RMs] at r
    obtain ⟨v, ws, rfl, h1, h2⟩ := r
    cases i with
    | zero => exact h2
    | succ i =>
      simp only [List.eraseIdx_cons_succ, RMs]
      exact ⟨v, _, rfl, h1, RMs.erase i h2⟩
/-- xs.pop(i) -/
def lPopAt (ms as : List M) : Option (M × List M) := match as with
  | [.d (.int i)] => if decide (-4611686018427387904 ≤ i) && decide (i < 4611686018427387904) then match seqIndex? i ms.length with
    | some k => match ms[k]? with
      | some m => some (m, ms.eraseIdx k)
      | none => none
    | none => none
  else none
  | _ => none
theorem jl_popAt : JL K rPopAt lPopAt := fun W ms as l xs vs m ms' Q ok rxs rvs hH e q => by
  unfold lPopAt at e
  split at e
  · rename_i i
    split at e
    · rename_i hi
      simp only [Bool.and_eq_true, decide_eq_true_eq] at hi
      split at e
      · rename_i k ek
        split at e
        · rename_i m' em
          cases e
          obtain ⟨v, h1, h2⟩ := RMs.one rvs
          obtain ⟨y, g1, g2⟩ := RMs.getM rxs em
          refine ⟨l, xs, i, k, y, rfl, by rw [h1, int_of h2], hH, by omega, by omega, by rw [RMs.length rxs]; exact ek, g1, q _ _ (RMs.erase k rxs) g2⟩
        · cases e
      · cases e
    · cases e
  · cases e
/-- xs.pop() -/
def lPop (ms as : List M) : Option (M × List M) := match as with
  | [] => match ms[ms.length - 1]? with
    | some m => some (m, ms.dropLast)
    | none => none
  | _ => none
theorem RMs.dropLast {ρ : Nat → Addr} {F : Hp} {n : Nat} {ms : List M} {vs : List V} (r : RMs K ρ F n ms vs) : RMs K ρ F n ms.dropLast vs.dropLast := by
  rw [List.dropLast_eq_take, List.dropLast_eq_take, RMs.length r]
  exact RMs.take _ r
/-- xs.insert(i, x) -/
def lIns (ms as : List M) : Option (M × List M) := match as with
  | [.d (.int i), m] => if (decide (0 ≤ i) && decide (i < 4611686018427387904) && decide (ms.length < LIM)) = true then some (.d .none, ms.take i.toNat ++ [m] ++ ms.drop i.toNat) else none
  | _ => none
theorem jl_ins : JL K (fun x vs H Q => ∃ (l : Addr) (xs : List V) (i : Int) (y : V), x = .ref l ∧ vs = [.int i, y] ∧ H l = some (.lst xs) ∧ xs.length < sizeLine ∧ 0 ≤ i ∧ i < 2 ^ 63 ∧
    Q .non (upd H l (.lst (xs.take i.toNat ++ [y] ++ xs.drop i.toNat)))) lIns := fun W ms as l xs vs m ms' Q ok rxs rvs hH e q => by
  unfold lIns at e
  split at e
  · rename_i i m'
    split at e
    · rename_i hi
      simp only [Bool.and_eq_true, decide_eq_true_eq] at hi
      cases e
      obtain ⟨v, u, h1, h2, h3⟩ := RMs.two rvs
      refine ⟨l, xs, i, u, rfl, by rw [h1, int_of h2], hH, by rw [RMs.length rxs]; exact hi.2, hi.1.1, by omega, q _ _ (RMs.append (RMs.append (RMs.take _ rxs) (by simp only [RMs]; exact ⟨u, [], rfl, h3, rfl⟩)) (RMs.drop _ rxs)) (by simp only [RM, RD])⟩
    · cases e
  · cases e
/-- xs.append(x), x any value -/
def lApp (ms as : List M) : Option (M × List M) := match as with
  | [m] => if ms.length < LIM then some (.d .none, ms ++ [m]) else none
  | _ => none
theorem jl_app : JL K rAppend lApp := fun W ms as l xs vs m ms' Q ok rxs rvs hH e q => by
  unfold lApp at e
  split at e
  · rename_i m'
    split at e
    · rename_i hi
      cases e
      obtain ⟨v, h1, h2⟩ := RMs.one rvs
      refine ⟨l, xs, v, rfl, h1, hH, by rw [RMs.length rxs]; exact hi, q _ _ (RMs.append rxs (by simp only [RMs]; exact ⟨v, [], rfl, h2, rfl⟩)) (by simp only [RM, RD])⟩
    · cases e
  · cases e
end
section
variable {X : Cx} {E : XE} {pos apos : Pos} {o e e2 : Expr} {fo f f2 : ES}
theorem p_popAt (ho : PE X o (tM X.K E fo)) (he : PE X e (tM X.K E f)) (hbase : attributeBase o "pop" X.env (eval o X.env) = eval o X.env := by rfl)
    (hfew : ((backTo pos (starEach [e] X.env)).all (fun x => !x.1) && (backToKw pos (keywordEach [] X.env)).all (fun x => x.1.isSome) && decide ([e].length + ([] : List Keyword).length + (if ([] : List Keyword).isEmpty then 0 else 1) < 30)) = true := by rfl)
    (hline : (apos.endLine == pos.line) = true := by rfl) (hs : starEach [e] X.env = (false, eval e X.env) :: starEach [] X.env := by rfl) (hplain : (backTo pos (starEach [] X.env)).any (·.1) = false := by rfl) :
    PE X (.Call (.Attribute o "pop" apos) [e] [] pos) (tM X.K E (eM lPopAt fo (aCons f aNil))) := PE.imp (pe_bm PySem.F.plainAttrs_list PySem.F.slot_list_pop PySem.F.type_list_pop mt_popAt ho (q_cons he q_nil hs) hbase hfew hline hs hplain) (t_M jl_popAt)
theorem p_appM (ho : PE X o (tM X.K E fo)) (he : PE X e (tM X.K E f)) (hbase : attributeBase o "append" X.env (eval o X.env) = eval o X.env := by rfl)
    (hfew : ((backTo pos (starEach [e] X.env)).all (fun x => !x.1) && (backToKw pos (keywordEach [] X.env)).all (fun x => x.1.isSome) && decide ([e].length + ([] : List Keyword).length + (if ([] : List Keyword).isEmpty then 0 else 1) < 30)) = true := by rfl)
    (hline : (apos.endLine == pos.line) = true := by rfl) (hs : starEach [e] X.env = (false, eval e X.env) :: starEach [] X.env := by rfl) (hplain : (backTo pos (starEach [] X.env)).any (·.1) = false := by rfl) :
    PE X (.Call (.Attribute o "append" apos) [e] [] pos) (tM X.K E (eM lApp fo (aCons f aNil))) := PE.imp (pe_bm PySem.F.plainAttrs_list PySem.F.slot_list_append PySem.F.type_list_append mt_append ho (q_cons he q_nil hs) hbase hfew hline hs hplain) (t_M jl_app)
theorem p_insert (ho : PE X o (tM X.K E fo)) (he : PE X e (tM X.K E f)) (he2 : PE X e2 (tM X.K E f2)) (hbase : attributeBase o "insert" X.env (eval o X.env) = eval o X.env := by rfl)
    (hfew : ((backTo pos (starEach [e, e2] X.env)).all (fun x => !x.1) && (backToKw pos (keywordEach [] X.env)).all (fun x => x.1.isSome) && decide ([e, e2].length + ([] : List Keyword).length + (if ([] : List Keyword).isEmpty then 0 else 1) < 30)) = true := by rfl)
    (hline : (apos.endLine == pos.line) = true := by rfl) (hs2 : starEach [e2] X.env = (false, eval e2 X.env) :: starEach [] X.env := by rfl) (hs : starEach [e, e2] X.env = (false, eval e X.env) :: starEach [e2] X.env := by rfl) (hplain : (backTo pos (starEach [e2] X.env)).any (·.1) = false := by rfl) :
    PE X (.Call (.Attribute o "insert" apos) [e, e2] [] pos) (tM X.K E (eM lIns fo (aCons f (aCons f2 aNil)))) := PE.imp (pe_bm PySem.F.plainAttrs_list PySem.F.slot_list_insert PySem.F.type_list_insert mt_insert ho (q_cons he (q_cons he2 q_nil hs2) hs) hbase hfew hline hs hplain) (t_M jl_ins)
end
/-! ### truth -/
def truM (h : Hh) (m : M) : Option Bool := match m with
  | .d .none => some false
  | .d (.bool b) => some b
  | .d (.int i) => some (i != 0)
  | .d (.str z) => if z.length ≤ LIM then some ((z.length : Int) != 0) else none
  | m => match seqM h m with
    | some (_, ms) => some (!ms.isEmpty)
    | none => none
def bTr (f : ES) : Env → Sm Bool := fun env => bnd (f env) fun m h => match truM h m with
  | some k => some (.val k h)
  | none => none
theorem RMs.isEmpty {K : PySem.W.Frag} {ρ : Nat → Addr} {F : Hp} {n : Nat} {ms : List M} {vs : List V} (r : RMs K ρ F n ms vs) : vs.isEmpty = ms.isEmpty := by
  have := RMs.length r
  cases ms <;> cases vs <;> simp_all
theorem truM_ok {K : PySem.W.Frag} {W : Wd} {m : M} {v : V} {k : Bool} (ok : W.Ok K) (r : RV K W m v) (e : truM W.h m = some k) : TruV K v W.H k := by
  have gen : ∀ {o : Option Bool}, o = (match seqM W.h m with
      | some (_, ms) => some (!ms.isEmpty)
      | none => none) → o = some k → TruV K v W.H k := fun {o} ho hk => by
    rw [ho] at hk
    cases es : seqM W.h m with
    | none => simp only [es] at hk; cases hk
    | some z =>
      obtain ⟨t, ms⟩ := z
      simp only [es] at hk
      cases hk
      obtain ⟨a, vs, h1, h2, h3⟩ := seqM_ok ok r es
      subst h1
      rcases h2 with h2 | h2
      · exact .inl ⟨vs, h2, by rw [RMs.isEmpty h3]⟩
      · exact .inr (.inl ⟨vs, h2, by rw [RMs.isEmpty h3]⟩)
  unfold truM at e
  split at e
  · cases e
    have : v = .non := by simpa only [RM, RD] using r
    subst this
    rfl
  · cases e
    rw [bl_of r]
    rfl
  · cases e
    rw [int_of r]
    rfl
  · split at e
    · rename_i hz
      cases e
      rw [str_of r]
      exact ⟨hz, rfl⟩
    · cases e
  · exact gen rfl e
section
variable {X : Cx} {E : XE} {pos : Pos} {a b : Expr} {f g : ES} {rest : List Expr}
theorem pt_tr (ha : PE X a (tM X.K E f)) (he : ∀ whole, isTrue a X.env whole = (do let v ← whole; standAt a.pos; holding [v] (truthy v)) := by intro _; rfl) : PT X a (tT X.K E (bTr f)) := PT.imp (pt_truth ha he) fun σ H Q ⟨W, env, hH, ok, er, p⟩ => by
  subst hH
  refine ⟨W, env, rfl, ok, er, (PostG.bind p).mono fun m W1 ok1 s1 p1 v rv => ?_⟩
  cases e : truM W1.h m with
  | none => simp only [e] at p1; exact p1.elim
  | some k =>
    simp only [e] at p1
    exact ⟨k, truM_ok ok1 rv e, p1 W1 rfl ok1 (Step.refl W1)⟩
def eOrT (f g : ES) : ES := fun env => bnd (f env) fun m => bnd (fun h => match truM h m with
  | some k => some (.val k h)
  | none => none) fun k => if k = true then rt m else g env
theorem p_OrT (ha : PE X a (tM X.K E f)) (hb : PE X (.BoolOp .Or (b :: rest) pos) (tM X.K E g)) : PE X (.BoolOp .Or (a :: b :: rest) pos) (tM X.K E (eOrT f g)) := PE.imp (pe_orT ha hb) fun σ H Q ⟨W, env, hH, ok, er, p⟩ => by
  subst hH
  refine ⟨W, env, rfl, ok, er, (PostG.bind p).mono fun m W1 ok1 s1 p1 v rv => ?_⟩
  have p1 := PostG.bind p1
  cases e : truM W1.h m with
  | none => simp only [e] at p1; exact p1.elim
  | some k =>
    simp only [e] at p1
    have p2 := p1 W1 rfl ok1 (Step.refl W1)
    refine ⟨k, truM_ok ok1 rv e, ?_⟩
    cases k with
    | true =>
      rw [if_pos rfl] at p2 ⊢
      exact PostG.ret ok1 p2 _ rv
    | false =>
      rw [if_neg Bool.false_ne_true] at p2 ⊢
      exact ⟨W1, env, rfl, ok1, er.step s1, p2⟩
end
end G

/-! sorted(set(t)) of a tuple of whole numbers; len(set(x)) -/
namespace G
open PySem PySem.Spec L2 PySem.W PyProof.Rows
def ddI : List Int → List Int
  | [] => []
  | x :: xs => if x ∈ ddI xs then ddI xs else x :: ddI xs
theorem mem_ddI {k : Int} : ∀ {xs : List Int}, k ∈ ddI xs ↔ k ∈ xs
  | [] => Iff.rfl
  | x :: xs => by
    simp only [ddI]
    split
    · rename_i h
      rw [mem_ddI, List.mem_cons]
      refine ⟨.inr, fun h2 => ?_⟩
      rcases h2 with rfl | h2
      · exact mem_ddI.mp h
      · exact h2
    · rw [List.mem_cons, List.mem_cons, mem_ddI]
theorem nodup_ddI : ∀ xs : List Int, (ddI xs).Nodup
  | [] => List.nodup_nil
  | x :: xs => by
    simp only [ddI]
    split
    · exact nodup_ddI xs
    · rename_i h
      exact List.nodup_cons.mpr ⟨h, nodup_ddI xs⟩
def sortSet (ns : List Int) : List Int := sortI (ddI ns)
theorem mem_sortSet {k : Int} {ns : List Int} : k ∈ sortSet ns ↔ k ∈ ns := by
  unfold sortSet
  rw [(sortI_perm _).mem_iff, mem_ddI]
theorem lt_sortSet (ns : List Int) : (sortSet ns).Pairwise (· < ·) :=
  lt_of_le_nodup _ (sortI_le _) ((sortI_perm _).nodup_iff.mpr (nodup_ddI ns))
theorem perm_of_mem {a b : List Int} (ha : a.Nodup) (hb : b.Nodup) (h : ∀ k, k ∈ a ↔ k ∈ b) : a.Perm b := (List.perm_ext_iff_of_nodup ha hb).mpr h
theorem lt_nodup {a : List Int} (h : a.Pairwise (· < ·)) : a.Nodup := h.imp fun {x y} hxy e => by omega
theorem sortSet_uniq {a ns : List Int} (h : a.Pairwise (· < ·)) (m : ∀ k, k ∈ a ↔ k ∈ ns) : a = sortSet ns :=
  sorted_uniq (perm_of_mem (lt_nodup h) (lt_nodup (lt_sortSet ns)) fun k => by rw [m, mem_sortSet]) (h.imp fun h => Int.le_of_lt h) ((lt_sortSet ns).imp fun h => Int.le_of_lt h)
section
variable {X : Cx}
def tSortSet (K : PySem.W.Frag) (ta : TE) : TE := fun σ H Q => ta σ H fun x H1 => ∃ (l : Addr) (ns : List Int), x = .ref l ∧ SqT K H1 l (ns.map V.int) ∧ ns.length < 64 ∧
  ∀ (ns' : List Int) (r : Addr), ns'.Pairwise (· < ·) → (∀ k, k ∈ ns' ↔ k ∈ ns) → H1 r = none → Q (.ref r) (upd H1 r (.lst (ns'.map V.int)))
theorem pe_sortSet {a : Expr} {ta : TE} {p p2 q pos : Pos} (hc : X.calm = true) (hg : Gl X "sorted") (hm : X.mg "sorted" = none) (hg2 : Gl X "set") (hm2 : X.mg "set" = none) (ha : PE X a ta)
    (na : starEach [a] X.env = (false, eval a X.env) :: starEach [] X.env := by rfl) : PE X (.Call (.Name "sorted" p) [.Call (.Name "set" p2) [a] [] q] [] pos) (tSortSet X.K ta) := by
  refine ⟨fun pins s σ H Q I h => ?_⟩
  refine Call_ (ld_blt I hg hm PyProof.Rows.boot_sorted ?_)
  refine PyProof.Rows.callWith_builtin1 (PyProof.Rows.args_cons ?_ rfl) rfl rfl
  refine Call_ (ld_blt I hg2 hm2 PyProof.Rows.boot_set ?_)
  refine PyProof.Rows.callWith_type1 (PyProof.Rows.args_cons (thn (ha.run pins s σ H _ I h) fun v s1 ⟨x, H1, I1, r1, q1⟩ => PyProof.Rows.args_nil ?_) na) na rfl
  obtain ⟨l, ns, rfl, hq, h1, q1⟩ := q1
  cases r1
  obtain ⟨its, rv, pt, hz⟩ := I1.tuple hq
  have hd := I1.ok.hd hc
  refine call_set_tupI ns hd (show s1.heap.IsTuple l its.toArray from pt) (ints_of_vals rv) (by unfold scanBound; omega) fun h' tk c R1 hcn k => ?_
  refine PyProof.Rows.args_nil ?_
  have I2 : Inv X pins σ H1 { s1 with heap := h', toks := tk } := I1.kept k
  refine sorted_set R1 hd (by omega) fun s' r out cc ns2 k2 g2 o2 hp hget hI hlt hmem hlen => ?_
  have hlen2 : (ns2.map V.int).length ≤ sizeLine := by rw [List.length_map, hlen, sizeLine_eq]; omega
  have hn : H1 r = none := I2.hok.fresh hp
  have J : Inv X pins σ (upd H1 r (.lst (ns2.map V.int))) { s1 with heap := s'.heap, gens := s'.gens, drawn := s'.drawn, toks := s'.toks } :=
    Inv.call (s := { s1 with heap := h', toks := tk }) (ch := []) I2 (Un.laid k2 hp hn) (I2.hok.laid k2 hp ⟨hlen2, out.toList, cc, vals_of_ints hI, hget⟩) (by rw [g2]; exact I2.bare) (fun _ z => nomatch z)
  have e : s' = { s1 with heap := s'.heap, gens := s'.gens, drawn := s'.drawn, toks := s'.toks } := by
    cases s'
    cases s1
    cases o2
    rfl
  rw [e]
  exact ⟨.ref r, _, J, rfl, q1 ns2 r hlt (fun j => by rw [hmem, decide_eq_true_eq]) hn⟩
def tLenSet2 (K : PySem.W.Frag) (ta : TE) : TE := fun σ H Q => ta σ H fun x H1 => ∃ (l : Addr) (ns : List Int), x = V.ref l ∧ SqL K H1 l (ns.map V.int) ∧ ns.length < 4000 ∧ Q (.int (ddI ns).length) H1
theorem step_mem {a : List Int} {v k : Int} : k ∈ PyProof.Rows.step_dedup a v ↔ k ∈ a ∨ k = v := by
  have := PyProof.Rows.step_any a v k
  rw [Bool.eq_iff_iff] at this
  simpa using this
theorem step_nodup {a : List Int} {v : Int} (h : a.Nodup) : (PyProof.Rows.step_dedup a v).Nodup := by
  unfold PyProof.Rows.step_dedup
  split
  · exact h
  · rename_i q
    refine List.nodup_append.mpr ⟨h, by simp, fun x hx y hy e => ?_⟩
    rw [List.mem_singleton] at hy
    subst hy
    subst e
    exact q (List.any_eq_true.mpr ⟨_, hx, by simp⟩)
theorem fold_dd : ∀ (ns acc : List Int), acc.Nodup → (ns.foldl PyProof.Rows.step_dedup acc).Nodup ∧ ∀ k, k ∈ ns.foldl PyProof.Rows.step_dedup acc ↔ k ∈ acc ∨ k ∈ ns
  | [], acc, h => ⟨h, fun k => by simp⟩
  | n :: ns, acc, h => by
    obtain ⟨h1, h2⟩ := fold_dd ns _ (step_nodup (v := n) h)
    refine ⟨h1, fun k => ?_⟩
    rw [List.foldl_cons, h2, step_mem, List.mem_cons, or_assoc]
theorem firstMet_ns (ns : List Int) : PyProof.Rows.firstMet (fun i => ns.getD i 0) ns.length = ns.foldl PyProof.Rows.step_dedup [] := by
  unfold PyProof.Rows.firstMet
  congr 1
  apply List.ext_getElem
  · simp
  · intro i h1 h2
    simp [List.getElem?_eq_getElem h2]
theorem firstMet_len (ns : List Int) : (PyProof.Rows.firstMet (fun i => ns.getD i 0) ns.length).length = (ddI ns).length := by
  rw [firstMet_ns]
  obtain ⟨h1, h2⟩ := fold_dd ns [] List.nodup_nil
  exact (perm_of_mem h1 (nodup_ddI ns) fun k => by rw [h2, mem_ddI]; simp).length_eq
theorem pe_lenSet2 {a : Expr} {ta : TE} {p p2 q pos : Pos} (hc : X.calm = true) (hg : Gl X "len") (hm : X.mg "len" = none) (hg2 : Gl X "set") (hm2 : X.mg "set" = none) (ha : PE X a ta)
    (na : starEach [a] X.env = (false, eval a X.env) :: starEach [] X.env := by rfl) : PE X (.Call (.Name "len" p) [.Call (.Name "set" p2) [a] [] q] [] pos) (tLenSet2 X.K ta) := by
  refine ⟨fun pins s σ H Q I h => ?_⟩
  refine Call_ (ld_blt I hg hm PySem.boot_len ?_)
  refine PyProof.Rows.callWith_builtin1 (PyProof.Rows.args_cons ?_ rfl) rfl rfl
  refine Call_ (ld_blt I hg2 hm2 PyProof.Rows.boot_set ?_)
  refine PyProof.Rows.callWith_type1 (PyProof.Rows.args_cons (thn (ha.run pins s σ H _ I h) fun v s1 ⟨x, H1, I1, r1, q1⟩ => PyProof.Rows.args_nil ?_) na) na rfl
  obtain ⟨l, ns, rfl, hq, h1, q1⟩ := q1
  cases r1
  obtain ⟨its, r, pl, hz⟩ := I1.list hq
  have hl : its.toArray.size = ns.length := by rw [List.size_toArray, ← r.length, List.length_map]
  refine call_set_list (I1.ok.hd hc) pl.isList (ns := ns) (by simpa using r.ints) (by unfold scanBound; omega) fun h' tk hS hk => ?_
  rw [hl] at hS
  have hN := firstMet_len ns
  refine PyProof.Rows.args_nil ?_
  obtain ⟨o, es, ep, t, ho, hex, hd, _, _, _, hf, hn⟩ := hS
  have I2 : Inv X pins σ H1 { s1 with heap := h', toks := tk } := I1.kept fun b o e => hk b o (Heap.lt_size e) e
  have hb : (ddI ns).length ≤ ns.length := by
    rw [← hN]
    exact PyProof.Rows.firstMet_length_le _ _
  refine call_len_set ho hex hd hf (by rw [hn] <;> omega) ⟨.int (ddI ns).length, H1, I2.tok _, ⟨_, by rw [hn, hN]⟩, q1⟩
end
section
variable {X : Cx} {E : XE} {pos p p2 q : Pos} {e : Expr} {f : ES}
def nSortSet (f : ES) : Env → Sm (List M) := fun env => bnd (f env) fun m h => match (tupM m).bind intsM with
  | some ns => if ns.length < 64 then some (.val ((sortSet ns).map fun i => M.d (.int i)) h) else none
  | none => none
theorem p_sortset (hc : X.calm = true) (hg : Gl X "sorted") (hm : X.mg "sorted" = none) (hg2 : Gl X "set") (hm2 : X.mg "set" = none) (ha : PE X e (tM X.K E f))
    (na : starEach [e] X.env = (false, eval e X.env) :: starEach [] X.env := by rfl) : PE X (.Call (.Name "sorted" p) [.Call (.Name "set" p2) [e] [] q] [] pos) (tN X.K E (nSortSet f)) := PE.imp (pe_sortSet hc hg hm hg2 hm2 ha na) fun σ H Q ⟨W, env, hH, ok, er, p⟩ => by
  subst hH
  refine ⟨W, env, rfl, ok, er, (PostG.bindF (Step.refl W) p).mono fun m W1 ok1 s1 ⟨s0, p1⟩ v rv => ?_⟩
  cases en : (tupM m).bind intsM with
  | none => simp only [en] at p1; exact p1.elim
  | some ns =>
    simp only [en] at p1
    by_cases hl : ns.length < 64
    · rw [if_pos hl] at p1
      obtain ⟨ms, e0, e1⟩ := Option.bind_eq_some_iff.mp en
      obtain ⟨a, us, g1, g2, g3⟩ := tupM_ok ok1 rv e0
      have z := intsM_rel e1 g3
      subst z
      refine ⟨a, ns, g1, SqT.of (ok1.sub _ _ g2), hl, fun ns' r hs hm' hq => ?_⟩
      rw [sortSet_uniq hs hm']
      have rus := ints_rms (K := X.K) (W := W1) (sortSet ns)
      exact p1 (W1.more r (.lst ((sortSet ns).map V.int))) rfl (ok1.more _ hq) (s0.trans (Step.more hq)) r _ (s0.dom r hq) (ok1.fp hq) (fun k hk => ok1.nec hq hk) upd_same (RMs.step rus (Step.more hq))
    · rw [if_neg hl] at p1; exact p1.elim
def eLenSet (f : ES) : ES := fun env => bnd (f env) fun m h => match (lstM h m).bind intsM with
  | some ns => if ns.length < 4000 then some (.val (.d (.int (ddI ns).length)) h) else none
  | none => none
theorem p_lenset (hc : X.calm = true) (hg : Gl X "len") (hm : X.mg "len" = none) (hg2 : Gl X "set") (hm2 : X.mg "set" = none) (ha : PE X e (tM X.K E f))
    (na : starEach [e] X.env = (false, eval e X.env) :: starEach [] X.env := by rfl) : PE X (.Call (.Name "len" p) [.Call (.Name "set" p2) [e] [] q] [] pos) (tM X.K E (eLenSet f)) := PE.imp (pe_lenSet2 hc hg hm hg2 hm2 ha na) fun σ H Q ⟨W, env, hH, ok, er, p⟩ => by
  subst hH
  refine ⟨W, env, rfl, ok, er, (PostG.bind p).mono fun m W1 ok1 s1 p1 v rv => ?_⟩
  cases en : (lstM W1.h m).bind intsM with
  | none => simp only [en] at p1; exact p1.elim
  | some ns =>
    simp only [en] at p1
    by_cases hl : ns.length < 4000
    · rw [if_pos hl] at p1
      obtain ⟨ms, e0, e1⟩ := Option.bind_eq_some_iff.mp en
      obtain ⟨a, us, g1, g2, g3⟩ := lstM_ok ok1 rv e0
      have z := intsM_rel e1 g3
      subst z
      exact ⟨a, ns, g1, SqL.of g2, hl, PostG.ret (a := M.d (.int (ddI ns).length)) ok1 p1 _ (by simp only [RM, RD])⟩
    · rw [if_neg hl] at p1; exact p1.elim
end
/-! ### [..] * n -/
section
variable {X : Cx} {E : XE} {pos : Pos} {a b : Expr} {fa fb : ES} {K : PySem.W.Frag}
def opRep (h : Hh) (x y : M) : Option (List M) := match y with
  | .d (.int k) => match lstM h x with
    | some ms => if (decide (-4611686018427387904 ≤ k) && decide (k < 4611686018427387904) && decide (ms.length * k.toNat ≤ LIM)) = true then some (List.replicate k.toNat ms).flatten else none
    | none => none
  | _ => none
def nRep (fa fb : ES) : Env → Sm (List M) := fun env => bnd (fa env) fun x => bnd (fb env) fun y h => match opRep h x y with
  | some ms => some (.val ms h)
  | none => none
theorem RMs.rep {W : Wd} {ms : List M} {vs : List V} (r : RVs K W ms vs) : ∀ n : Nat, RVs K W (List.replicate n ms).flatten (List.replicate n vs).flatten
  | 0 => by simp only [List.replicate_zero, List.flatten_nil, RMs]
  | n + 1 => by
    rw [List.replicate_succ, List.replicate_succ, List.flatten_cons, List.flatten_cons]
    exact RMs.append r (RMs.rep r n)
theorem p_rep (ha : PE X a (tM X.K E fa)) (hb : PE X b (tM X.K E fb)) : PE X (.BinOp a .Mult b pos) (tN X.K E (nRep fa fb)) := PE.imp (pe_op op_rep ha hb) fun σ H Q ⟨W, env, hH, ok, er, p⟩ => by
  subst hH
  refine ⟨W, env, rfl, ok, er, (PostG.bindF (Step.refl W) p).mono fun x W1 ok1 s1 ⟨s0, p1⟩ v rv => ?_⟩
  refine ⟨W1, env, rfl, ok1, er.step s1, (PostG.bindF s0 p1).mono fun y W2 ok2 s2 ⟨s02, p2⟩ u ru => ?_⟩
  cases en : opRep W2.h x y with
  | none => simp only [en] at p2; exact p2.elim
  | some ms =>
    simp only [en] at p2
    have key : ∃ k, y = .d (.int k) := by
      unfold opRep at en
      split at en
      · exact ⟨_, rfl⟩
      · cases en
    obtain ⟨k, rfl⟩ := key
    simp only [opRep] at en
    cases e0 : lstM W2.h x with
    | none => simp only [e0] at en; cases en
    | some ms0 =>
      simp only [e0] at en
      split at en
      · rename_i hc
        cases en
        simp only [Bool.and_eq_true, decide_eq_true_eq] at hc
        obtain ⟨l, xs, g1, g2, g3⟩ := lstM_ok ok2 (RM.step rv s2) e0
        refine ⟨l, k, xs, g1, int_of ru, g2, by omega, by omega, by rw [RMs.length g3]; exact hc.2, fun q hq => ?_⟩
        exact p2 (W2.more q _) rfl (ok2.more _ hq) (s02.trans (Step.more hq)) q _ (s02.dom q hq) (ok2.fp hq) (fun k hk => ok2.nec hq hk) upd_same (RMs.step (RMs.rep g3 _) (Step.more hq))
      · cases en
end
end G

/-! drawing from the pot: more rules; lists and tuples of things that are drawn -/
namespace G
open PySem PySem.Spec L2 PySem.W
section
variable {kp : Nat} {env : G.Env}
theorem gen_intW {i a b : Int} (h1 : a ≤ i) (h2 : i ≤ b) : Gen kp (eC (.int i) env) (IntIn a b) := Gen.rt ⟨i, rfl, h1, h2⟩
def AllIn (k : Nat) (a b : Int) (ms : List M) : Prop := ms.length = k ∧ ∀ m ∈ ms, IntIn a b m
theorem gen_nilI {a b : Int} : Gen kp (aNil env) (AllIn 0 a b) := Gen.rt ⟨rfl, fun _ h => nomatch h⟩
theorem gen_consI {f : ES} {fs : G.Env → Sm (List M)} {k : Nat} {a b : Int} (hf : Gen kp (f env) (IntIn a b)) (hs : Gen kp (fs env) (AllIn k a b)) : Gen kp (aCons f fs env) (AllIn (k + 1) a b) :=
  Gen.bnd hf fun x px => Gen.bnd hs fun xs pxs => Gen.rt ⟨by rw [List.length_cons, pxs.1], fun m hm => by
    rcases List.mem_cons.mp hm with rfl | hm
    · exact px
    · exact pxs.2 m hm⟩
theorem gen_pickI {fs : G.Env → Sm (List M)} {f : ES} {k : Nat} {a b c d : Int} (hs : Gen kp (fs env) (AllIn k a b)) (hf : Gen kp (f env) (IntIn c d)) (hc : 0 ≤ c) (hd : d < k) (hk : k ≤ 1000) : Gen kp (e2 oIx (eVal (nLst fs)) f env) (IntIn a b) := by
  refine gen_pick (n := k) (hs.mono fun ms h => ⟨⟨by rw [h.1], by omega⟩, fun m hm => ⟨h.2 m hm, let ⟨i, e, _⟩ := h.2 m hm; ⟨_, e⟩⟩⟩) (hf.mono fun m h => h.mono hc (by omega))
theorem Gen.all {α : Type} {x : Sm α} {P : α → Prop} {a : α} (e : x = G.rt a) (p : P a) : Gen kp x P := by rw [e]; exact Gen.rt p
/-- data of a kind -/
def Is {α : Type} (enc : α → PyData) (ok : α → Prop) (m : M) : Prop := ∃ x, m = M.d (enc x) ∧ ok x
def Are {α : Type} (enc : α → PyData) (ok : α → Prop) (lo hi : Int) (ms : List M) : Prop := ∃ xs : List α, ms = xs.map (fun x => M.d (enc x)) ∧ (∀ x ∈ xs, ok x) ∧ lo ≤ (xs.length : Int) ∧ (xs.length : Int) ≤ hi
theorem are_of {α : Type} {enc : α → PyData} {ok : α → Prop} : ∀ {ms : List M}, (∀ m ∈ ms, Is enc ok m) → ∃ xs : List α, ms = xs.map (fun x => M.d (enc x)) ∧ ∀ x ∈ xs, ok x
  | [], _ => ⟨[], rfl, fun _ h => nomatch h⟩
  | m :: ms, h => by
    obtain ⟨x, rfl, px⟩ := h m (List.mem_cons_self ..)
    obtain ⟨xs, rfl, pxs⟩ := are_of fun y hy => h y (List.mem_cons_of_mem _ hy)
    refine ⟨x :: xs, rfl, fun y hy => ?_⟩
    rcases List.mem_cons.mp hy with rfl | hy
    · exact px
    · exact pxs y hy
theorem int_is {a b : Int} {m : M} (h : IntIn a b m) : Is PyData.int (fun i => a ≤ i ∧ i ≤ b) m := let ⟨i, e, h1, h2⟩ := h; ⟨i, e, h1, h2⟩
/-- [el for x in range(f)] -/
theorem gen_comp {f el : ES} {i : Nat} {a b : Int} {P : M → Prop} (hf : Gen kp (f env) (IntIn a b)) (ha : 0 ≤ a) (hb : b < 1000000) (he : ∀ m, Gen kp (el ((wipeE env [i]).set i (some m))) P) :
    Gen kp (nComp (iRng1F (aCons f aNil)) (.nm i) bYes el [i] env) (fun ms => (∀ m ∈ ms, P m) ∧ a ≤ (ms.length : Int) ∧ (ms.length : Int) ≤ b) := fun h hp => by
  obtain ⟨_, c, e, ⟨n, rfl, h1, h2⟩⟩ := hf h hp
  have eit : iRng1F (aCons f aNil) env h = some (.val (.vals ((rngL 0 n).map fun i => M.d (.int i))) (h.set kp (.lst [.int c]))) := by
    unfold iRng1F
    simp only [aCons, aNil]
    rw [bnd_assoc, bnd_val e]
    simp only [bnd_rt, rng1_rt (show n.natAbs < 4611686018427387904 by omega)]
    rfl
  rw [comp_vals eit (by rw [List.length_map, len_rngL]; show _ < 16777216; omega)]
  have hp1 := hp.set c
  obtain ⟨ys, h', e2, ⟨c', e3⟩, e4, e5⟩ := compL_inv (fun h' => ∃ c, h' = h.set kp (.lst [.int c])) P (p := .nm i) (el := el) (env := wipeE env [i]) (xs := (rngL 0 n).map fun i => M.d (.int i)) (acc := []) (h := h.set kp (.lst [.int c])) ⟨c, rfl⟩ (fun _ h => nomatch h) (by
    rintro m hm h1 ⟨c1, rfl⟩
    obtain ⟨y, c2, e6, py⟩ := he m _ (hp.set c1)
    exact ⟨_, y, _, rfl, e6, py, c2, by rw [List.set_set]⟩)
  subst e3
  refine ⟨ys, c', e2, e4, ?_⟩
  rw [e5, List.length_map, len_rngL, List.length_nil]
  omega
/-- tuple([..]) of what is drawn -/
theorem gen_tupL {α : Type} {enc : α → PyData} {ok : α → Prop} {f : G.Env → Sm (List M)} {a b : Int} (hf : Gen kp (f env) (fun ms => (∀ m ∈ ms, Is enc ok m) ∧ a ≤ (ms.length : Int) ∧ (ms.length : Int) ≤ b)) :
    Gen kp (eB nTup (aCons (eVal f) aNil) env) (fun m => ∃ xs : List α, m = .d (.tuple (xs.map enc)) ∧ (∀ x ∈ xs, ok x) ∧ a ≤ (xs.length : Int) ∧ (xs.length : Int) ≤ b) := by
  unfold eB aCons aNil eVal
  simp only [bnd_assoc]
  refine Gen.bnd hf fun ms ⟨h1, h2, h3⟩ => ?_
  obtain ⟨xs, rfl, px⟩ := are_of h1
  rw [List.length_map] at h2 h3
  have e : asDs (xs.map fun x => M.d (enc x)) = some (xs.map enc) := by
    rw [show (xs.map fun x => M.d (enc x)) = (xs.map enc).map M.d by rw [List.map_map]; rfl, asDs_map]
  simp only [e, bnd_rt]
  refine Gen.all (a := .d (.tuple (xs.map enc))) ?_ ⟨xs, rfl, px, h2, h3⟩
  funext h
  simp only [nTup, tupM, lstM, mkTup_ds]
  rfl
theorem mkTup_d (ds : List PyData) : mkTup (ds.map M.d) = .d (.tuple ds) := mkTup_ds ds
/-- a tuple of data -/
theorem gen_tup {fs : G.Env → Sm (List M)} {P : List PyData → Prop} (hs : Gen kp (fs env) (fun ms => ∃ ds, ms = ds.map M.d ∧ ds.length ≤ 1000 ∧ P ds)) : Gen kp (eTup fs env) (fun m => ∃ ds, m = .d (.tuple ds) ∧ P ds) := by
  unfold eTup
  refine Gen.bnd hs fun ms ⟨ds, e, hl, p⟩ => ?_
  subst e
  rw [if_pos (by rw [List.length_map]; show _ ≤ 16777216; omega), mkTup_ds]
  exact Gen.rt ⟨ds, rfl, p⟩
/-- each of the parts, as data -/
theorem gen_nilD {P : List PyData → Prop} (p : P []) : Gen kp (aNil env) (fun ms => ∃ ds, ms = ds.map M.d ∧ ds.length ≤ 0 ∧ P ds) := Gen.rt ⟨[], rfl, Nat.le_refl _, p⟩
theorem gen_consD {f : ES} {fs : G.Env → Sm (List M)} {A : PyData → Prop} {B : PyData → List PyData → Prop} {k : Nat} (hf : Gen kp (f env) (fun m => ∃ x, m = .d x ∧ A x)) (hs : ∀ x, A x → Gen kp (fs env) (fun ms => ∃ ds, ms = ds.map M.d ∧ ds.length ≤ k ∧ B x ds)) :
    Gen kp (aCons f fs env) (fun ms => ∃ ds, ms = ds.map M.d ∧ ds.length ≤ k + 1 ∧ ∃ x xs, ds = x :: xs ∧ A x ∧ B x xs) :=
  Gen.bnd hf fun m ⟨x, e, px⟩ => Gen.bnd (hs x px) fun ms ⟨ds, e2, hl, pd⟩ => by
    subst e e2
    exact Gen.rt ⟨x :: ds, rfl, by rw [List.length_cons]; omega, x, ds, rfl, px, pd⟩
theorem IntIn.dat {a b : Int} {m : M} (h : IntIn a b m) : ∃ x, m = .d x ∧ ∃ i, x = .int i ∧ a ≤ i ∧ i ≤ b := let ⟨i, e, h1, h2⟩ := h; ⟨_, e, i, rfl, h1, h2⟩
theorem gen_dat {f : ES} {a b : Int} (h : Gen kp (f env) (IntIn a b)) : Gen kp (f env) (fun m => ∃ x, m = .d x ∧ ∃ i, x = .int i ∧ a ≤ i ∧ i ≤ b) := h.mono fun _ h => h.dat
theorem gen_varD {i : Nat} {x : PyData} {A : PyData → Prop} (e : env[i]? = some (some (.d x))) (p : A x) : Gen kp (eVar i env) (fun m => ∃ x, m = .d x ∧ A x) := by rw [var_rt e]; exact Gen.rt ⟨x, rfl, p⟩
/-- int(a truth) -/
theorem gen_intB {f : ES} (h : Gen kp (f env) (fun m => ∃ b, m = .d (.bool b))) : Gen kp (eB nInt (aCons f aNil) env) (IntIn 0 1) := by
  unfold eB aCons aNil
  simp only [bnd_assoc]
  refine Gen.bnd h fun m ⟨b, e⟩ => ?_
  subst e
  cases b
  · exact Gen.rt (a := M.d (.int 0)) ⟨0, rfl, by decide, by decide⟩
  · exact Gen.rt (a := M.d (.int 1)) ⟨1, rfl, by decide, by decide⟩
theorem gen_cmp {op : Op2} {f g : ES} {a b c d : Int} (hf : Gen kp (f env) (IntIn a b)) (hg : Gen kp (g env) (IntIn c d)) (ho : ∀ i j : Int, ∃ k, op (.d (.int i)) (.d (.int j)) = rt (.d (.bool k))) : Gen kp (e2 op f g env) (fun m => ∃ b, m = .d (.bool b)) :=
  Gen.bnd hf fun x ⟨i, ex, _⟩ => Gen.bnd hg fun y ⟨j, ey, _⟩ => by
    subst ex ey
    obtain ⟨k, e⟩ := ho i j
    rw [e]
    exact Gen.rt ⟨k, rfl⟩
theorem gen_bO {f : ES} (h : Gen kp (f env) (fun m => ∃ b, m = .d (.bool b))) : Gen kp (bO f env) (fun _ => True) := Gen.bnd h fun m ⟨b, e⟩ => by subst e; exact Gen.rt trivial
theorem cmp_gt (i j : Int) : ∃ k, oGt (.d (.int i)) (.d (.int j)) = rt (.d (.bool k)) := ⟨_, rfl⟩
theorem cmp_eq (i j : Int) : ∃ k, oEq (.d (.int i)) (.d (.int j)) = rt (.d (.bool k)) := ⟨_, eq_int⟩
/-- a sublist by drawn truths: [x for x in range(n) if t] -/
theorem gen_compSub {f : ES} {tt : G.Env → Sm Bool} {i : Nat} {n : Int} (hf : f env = rt (.d (.int n))) (h0 : 0 ≤ n) (hb : n < 1000000) (hi : i < env.length) (ht : ∀ m, Gen kp (tt ((wipeE env [i]).set i (some m))) fun _ => True) :
    Gen kp (nComp (iRng1F (aCons f aNil)) (.nm i) tt (eVar i) [i] env) (fun ms => ∃ xs : List Int, ms = xs.map (fun i => M.d (.int i)) ∧ xs.Sublist (rngL 0 n)) := fun h hp => by
  have eit : iRng1F (aCons f aNil) env h = some (.val (.vals ((rngL 0 n).map fun i => M.d (.int i))) h) := congrFun (rng1F (by simp only [aCons, aNil, hf, bnd_rt]) (by omega)) h
  rw [comp_vals eit (by rw [List.length_map, len_rngL]; show _ < 16777216; omega)]
  have key : ∀ (zs : List Int) (acc : List M) (h : Hh), PotAt kp h → ∃ (xs : List Int) (c : Int), compL (.nm i) tt (eVar i) (wipeE env [i]) (zs.map fun i => M.d (.int i)) acc h = some (.val (acc ++ xs.map fun i => M.d (.int i)) (h.set kp (.lst [.int c]))) ∧ xs.Sublist zs := fun zs => by
    induction zs with
    | nil =>
      intro acc h hp
      obtain ⟨c, e⟩ := hp.same
      exact ⟨[], c, by rw [← e, List.map_nil, List.append_nil]; rfl, List.Sublist.refl _⟩
    | cons z zs ih =>
      intro acc h hp
      obtain ⟨b, c, e, _⟩ := ht (.d (.int z)) h hp
      have hv : eVar i ((wipeE env [i]).set i (some (.d (.int z)))) = rt (.d (.int z)) := by
        refine var_rt ?_
        rw [List.getElem?_set_self (by simp only [wipeE, List.length_set]; exact hi)]
      simp only [List.map_cons, compL, Pat.asg]
      rw [bnd_val (nox_val e)]
      cases b with
      | false =>
        obtain ⟨xs, c2, e2, s2⟩ := ih acc _ (hp.set c)
        refine ⟨xs, c2, ?_, s2.cons _⟩
        rw [if_neg Bool.false_ne_true, e2, List.set_set]
      | true =>
        obtain ⟨xs, c2, e2, s2⟩ := ih (acc ++ [.d (.int z)]) _ (hp.set c)
        refine ⟨z :: xs, c2, ?_, s2.cons₂ _⟩
        rw [if_pos rfl, hv, nox_rt, bnd_rt, e2, List.set_set, List.append_assoc]
        rfl
  obtain ⟨xs, c, e, s⟩ := key (rngL 0 n) [] h hp
  exact ⟨_, c, e, xs, rfl, s⟩
/-- a def that draws -/
theorem gen_fn {n : Nat} {g : SS} {ms : List M} {P : M → Prop} (h : Gen kp (g (startE n ms)) fun r => ∃ m, r.1 = .rt m ∧ P m) : Gen kp (mkFn n g ms) P := by
  unfold mkFn
  refine Gen.bnd h fun r ⟨m, e, p⟩ => ?_
  obtain ⟨fl, env⟩ := r
  simp only at e
  subst e
  exact Gen.rt p
theorem gen_ret {f : ES} {P : M → Prop} (h : Gen kp (f env) P) : Gen kp (sRet f env) fun r => ∃ m, r.1 = .rt m ∧ P m := Gen.bnd h fun m p => Gen.rt ⟨m, rfl, p⟩
theorem gen_set {i : Nat} {f : ES} {g : SS} {P : M → Prop} {R : Fl × G.Env → Prop} (h : Gen kp (f env) P) (k : ∀ m, P m → Gen kp (g (env.set i (some m))) R) : Gen kp (sSeq (sSet (.nm i) f) g env) R := by
  unfold sSeq sSet
  rw [bnd_assoc]
  exact Gen.bnd h fun m p => k m p
end
theorem atI_last {α : Type} {xs : List α} {x : α} : atI (xs ++ [x]) (-1) = some x := by
  have hl : (xs ++ [x]).length = xs.length + 1 := by rw [List.length_append]; rfl
  have e : ixN (xs ++ [x]).length (-1) = some xs.length := by
    unfold ixN
    rw [hl, if_neg (by decide), if_pos (by omega)]
    congr 1
    omega
  unfold atI
  rw [e]
  show (xs ++ [x])[xs.length]? = some x
  rw [List.getElem?_append_right (Nat.le_refl _), Nat.sub_self]
  rfl
end G

/-! comprehensions and loops over what is given one by one, over cells; more data -/
namespace G
open PySem PySem.Spec L2 PySem.W
theorem compGo_get {s : SIt} {L : List M} (hs : ∀ i h, s.get i h = some L[i]?) {p : Pat} {tt : G.Env → Sm Bool} {el : ES} {env : G.Env} : ∀ (f i : Nat) (acc : List M), L.length < i + f → i ≤ L.length → compGo s p tt el env f i acc = compL p tt el env (L.drop i) acc
  | 0, i, acc, h1, h2 => absurd h1 (by omega)
  | f + 1, i, acc, h1, h2 => by
    funext h
    have hg := hs i h
    by_cases hi : i < L.length
    · rw [List.getElem?_eq_getElem hi] at hg
      rw [List.drop_eq_getElem_cons hi]
      simp only [compGo, compL, hg]
      cases e : p.asg L[i] env with
      | none => rfl
      | some env1 =>
        have ih := fun acc => compGo_get hs (p := p) (tt := tt) (el := el) (env := env) f (i + 1) acc (by omega) (by omega)
        simp only [ih]
    · rw [List.getElem?_eq_none (by omega)] at hg
      rw [List.drop_eq_nil_of_le (by omega)]
      simp only [compGo, compL, hg]
      rfl
theorem comp_get {itf : G.Env → Sm SIt} {s : SIt} {L : List M} {p : Pat} {tt : G.Env → Sm Bool} {el : ES} {vs : List Nat} {env : G.Env} {h h' : Hh} (e : itf env h = some (.val s h')) (hs : ∀ i h, s.get i h = some L[i]?) (hc : ∀ h, s.cnt h = L.length) (hl : L.length < LIM) : nComp itf p tt el vs env h = compL p tt el (wipeE env vs) L [] h' := by
  unfold nComp
  rw [bnd_val e]
  simp only [hc]
  rw [if_pos hl, compGo_get hs _ 0 [] (by omega) (by omega), List.drop_zero]
theorem compL_map {α : Type} (inj : α → M) (t : α → Bool) (g : α → M) {p : Pat} {tt : G.Env → Sm Bool} {el : ES} {env : G.Env} : ∀ (zs : List α) (acc : List M), (∀ a ∈ zs, ∃ env1, p.asg (inj a) env = some env1 ∧ tt env1 = rt (t a) ∧ (t a = true → el env1 = rt (g a))) → compL p tt el env (zs.map inj) acc = rt (acc ++ (zs.filter t).map g)
  | [], acc, _ => by simp only [List.map_nil, compL, List.filter_nil, List.append_nil]
  | z :: zs, acc, st => by
    obtain ⟨env1, e1, e2, e3⟩ := st z (List.mem_cons_self ..)
    have ih := fun acc => compL_map inj t g (p := p) (tt := tt) (el := el) (env := env) zs acc fun a ha => st a (List.mem_cons_of_mem _ ha)
    simp only [List.map_cons, compL, e1, e2, nox_rt, bnd_rt]
    cases ht : t z with
    | false => simp only [Bool.false_eq_true, if_false, ih, List.filter_cons, ht]
    | true => simp only [if_true, e3 ht, nox_rt, bnd_rt, ih, List.filter_cons, ht, List.map_cons, List.append_assoc, List.singleton_append]
/-- [el for i, x in enumerate(f) if tt] -/
theorem comp_enum {α : Type} {enc : α → PyData} (t : α × Nat → Bool) (g : α × Nat → M) {itf : G.Env → Sm SIt} {p : Pat} {tt : G.Env → Sm Bool} {el : ES} {vs : List Nat} {env : G.Env} {xs : List α} (e : itf env = rt (.en (.vals ((xs.map enc).map M.d)))) (hl : xs.length < LIM)
    (st : ∀ a ∈ xs.zipIdx, ∃ env1, p.asg (.d (.tuple [.int (a.2 : Int), enc a.1])) (wipeE env vs) = some env1 ∧ tt env1 = rt (t a) ∧ (t a = true → el env1 = rt (g a))) : nComp itf p tt el vs env = rt ((xs.zipIdx.filter t).map g) := by
  funext h
  have eL : enL ((xs.map enc).map M.d) = xs.zipIdx.map fun a => M.d (.tuple [.int (a.2 : Int), enc a.1]) := by
    unfold enL
    rw [List.zipIdx_map, List.zipIdx_map, List.map_map, List.map_map]
    rfl
  rw [comp_get (congrFun e h) en_get en_cnt (by rw [len_enL, List.length_map, List.length_map]; exact hl), eL, compL_map _ t g _ _ st, List.nil_append]
theorem enF_t {f : ES} {env : G.Env} {xs : List PyData} (e : f env = rt (.d (.tuple xs))) : iEnF f env = rt (.en (.vals (xs.map M.d))) := by unfold iEnF; rw [e, bnd_rt, itM_t, bnd_rt]
theorem layI : ∀ ns : List Int, PyData.canLayAll0 (ns.map PyData.int) = true
  | [] => rfl
  | n :: ns => by simp only [List.map_cons, PyData.canLayAll0, PyData.canLay0, layI ns, Bool.and_self]
theorem in_T {a : Int} {ds : List Int} : oIn (.d (.int a)) (.d (.tuple (ds.map PyData.int))) = rt (.d (.bool (decide (a ∈ ds)))) := by
  funext h
  simp only [oIn, inD_of (α := Int) (a := a) (ds := ds) (h := h) (x := .d (.int a)) (y := .d (.tuple (ds.map PyData.int))) rfl rfl (rsvs_ds h _) rfl (layI ds) (by decide)]
  rfl
theorem in_L {a : Int} {ds : List Int} : oIn (.d (.int a)) (.d (.list (ds.map PyData.int))) = rt (.d (.bool (decide (a ∈ ds)))) := in_D (α := Int) (a := a) (ds := ds) rfl (layI ds) (by decide)
theorem notin_L {a : Int} {ds : List Int} : oNotIn (.d (.int a)) (.d (.list (ds.map PyData.int))) = rt (.d (.bool (!decide (a ∈ ds)))) := by
  funext h
  simp only [oNotIn, inD_of (α := Int) (a := a) (ds := ds) (h := h) (x := .d (.int a)) (y := .d (.list (ds.map PyData.int))) rfl rfl (rsvs_ds h _) rfl (layI ds) (by decide)]
  rfl
theorem notin_T {a : Int} {ds : List Int} : oNotIn (.d (.int a)) (.d (.tuple (ds.map PyData.int))) = rt (.d (.bool (!decide (a ∈ ds)))) := by
  funext h
  simp only [oNotIn, inD_of (α := Int) (a := a) (ds := ds) (h := h) (x := .d (.int a)) (y := .d (.tuple (ds.map PyData.int))) rfl rfl (rsvs_ds h _) rfl (layI ds) (by decide)]
  rfl
/-- a list of new lists -/
def objs (n : Nat) (k : Nat) : List M := (List.range k).map fun i => M.obj (n + i)
theorem compL_cells {α : Type} (inj : α → M) (r : α → List PyData) {p : Pat} {el : ES} {env : G.Env} : ∀ (zs : List α) (acc : List M) (h : Hh), flatH h → (∀ a ∈ zs, ∀ h, flatH h → ∃ env1, p.asg (inj a) env = some env1 ∧ el env1 h = some (.val (.obj h.length) (h ++ [.lst (r a)]))) →
    compL p bYes el env (zs.map inj) acc h = some (.val (acc ++ objs h.length zs.length) (h ++ zs.map fun a => .lst (r a)))
  | [], acc, h, _, _ => by simp only [List.map_nil, compL, objs, List.length_nil, List.range_zero, List.append_nil]; rfl
  | z :: zs, acc, h, hf, st => by
    obtain ⟨env1, e1, e2⟩ := st z (List.mem_cons_self ..) h hf
    have ih := compL_cells inj r (p := p) (el := el) (env := env) zs (acc ++ [.obj h.length]) (h ++ [.lst (r z)]) (flat_append hf flat_one) fun a ha => st a (List.mem_cons_of_mem _ ha)
    simp only [List.map_cons, compL, e1]
    rw [bnd_val (a := true) (h' := h) (nox_val rfl), if_pos rfl, bnd_val (nox_val e2), ih]
    have : objs h.length (z :: zs).length = .obj h.length :: objs (h ++ [Cell.lst (r z)]).length zs.length := by
      unfold objs
      rw [List.length_cons, List.range_succ_eq_map, List.map_cons, List.map_map, List.length_append]
      congr 1
      exact List.map_congr_left fun i _ => by show M.obj (h.length + (i + 1)) = M.obj (h.length + 1 + i); congr 1; omega
    rw [this, List.append_assoc, List.append_assoc]
    rfl
/-- a loop over a list that stays as it is while it is gone through -/
theorem for_cellN (I : Nat → G.Env → Hh → Prop) {k : Nat} {ms : List M} {itf : G.Env → Sm SIt} {p : Pat} {body : SS} {env : G.Env} {h : Hh} (e : itf env h = some (.val (.cell k) h)) (hI : ∀ j env h, I j env h → cellMs h[k]? = some ms) (i0 : I 0 env h)
    (st : ∀ i m, ms[i]? = some m → ∀ env h, I i env h → ∃ env1 env2 h2, p.asg m env = some env1 ∧ body env1 h = some (.val (.nx, env2) h2) ∧ I (i + 1) env2 h2) : ∃ env' h', sFor itf p body env h = some (.val (.nx, env') h') ∧ I ms.length env' h' := by
  have key : ∀ (f i : Nat) (env : G.Env) (h : Hh), I i env h → ms.length < i + f → i ≤ ms.length → ∃ env' h', forGo (.cell k) p body f i env h = some (.val (.nx, env') h') ∧ I ms.length env' h' := fun f => by
    induction f with
    | zero => intro i env h _ h1 h2; omega
    | succ f ih =>
      intro i env h hi h1 h2
      have hg : (SIt.cell k).get i h = some ms[i]? := by simp only [SIt.get, hI i env h hi]
      by_cases hlt : i < ms.length
      · rw [List.getElem?_eq_getElem hlt] at hg
        obtain ⟨env1, env2, h3, e1, e2, i2⟩ := st i ms[i] (List.getElem?_eq_getElem hlt) env h hi
        obtain ⟨env', h', e3, i3⟩ := ih (i + 1) env2 h3 i2 (by omega) (by omega)
        refine ⟨env', h', ?_, i3⟩
        simp only [forGo, hg, e1]
        rw [bnd_val e2]
        exact e3
      · rw [List.getElem?_eq_none (by omega)] at hg
        have hi : I ms.length env h := by rw [show ms.length = i by omega]; exact hi
        exact ⟨env, h, by simp only [forGo, hg], hi⟩
  obtain ⟨env', h', e2, i2⟩ := key (ms.length + 1) 0 env h i0 (by omega) (Nat.zero_le _)
  refine ⟨env', h', ?_, i2⟩
  unfold sFor
  rw [bnd_val e]
  have : (SIt.cell k).cnt h = ms.length := by simp only [SIt.cnt, hI 0 env h i0]
  simp only [this]
  exact e2
theorem eM_at {op : List M → List M → Option (M × List M)} {fo : ES} {fs : G.Env → Sm (List M)} {env : G.Env} {k : Nat} {h h' : Hh} {ms0 ms as ms' : List M} {m : M} (eo : fo env = rt (.obj k)) (ec : cellMs h[k]? = some ms0) (ea : fs env h = some (.val as h')) (em : cellMs h'[k]? = some ms) (e : op ms as = some (m, ms')) : eM op fo fs env h = some (.val m (h'.set k (mkCell ms'))) := by
  unfold eM
  rw [eo, bnd_rt, bnd_val (a := ()) (h' := h) (by simp only [chkL, lstM, ec]), bnd_val ea]
  simp only [em, e]
theorem cell_rt {f : G.Env → Sm (List M)} {env : G.Env} {h : Hh} {ds : List PyData} (e : f env = rt (ds.map M.d)) : eCell f env h = some (.val (.obj h.length) (h ++ [.lst ds])) := cell_of (by rw [e]; rfl)
theorem ins0 {ms : List M} {m : M} (h : ms.length < 16777216) : lIns ms [.d (.int 0), m] = some (.d .none, m :: ms) := by
  show (if (decide ((0 : Int) ≤ 0) && decide ((0 : Int) < 4611686018427387904) && decide (ms.length < LIM)) = true then some (M.d .none, ms.take (0 : Int).toNat ++ [m] ++ ms.drop (0 : Int).toNat) else none) = _
  rw [if_pos (by rw [show decide (ms.length < LIM) = true from decide_eq_true h]; rfl)]
  rfl
theorem app1 {ms : List M} {m : M} (h : ms.length < 16777216) : lApp ms [m] = some (.d .none, ms ++ [m]) := by
  show (if ms.length < LIM then some (M.d .none, ms ++ [m]) else none) = _
  rw [if_pos h]
theorem mkCell_ds (ds : List PyData) : mkCell (ds.map M.d) = .lst ds := by unfold mkCell; rw [asDs_map]
theorem par_at {i j : Nat} {f g : ES} {env : G.Env} {h h1 h2 : Hh} {x y : M} (e1 : f env h = some (.val x h1)) (e2 : g env h1 = some (.val y h2)) : sPar i j (aCons f (aCons g aNil)) env h = some (.val (.nx, (env.set i (some x)).set j (some y)) h2) := by
  unfold sPar
  simp only [aCons, aNil]
  rw [bnd_assoc, bnd_val e1, bnd_assoc, bnd_assoc, bnd_val e2]
  rfl
/-- the same over a heap that stays -/
theorem comp_enum_at {α : Type} {enc : α → PyData} (t : α × Nat → Bool) (g : α × Nat → M) {itf : G.Env → Sm SIt} {p : Pat} {tt : G.Env → Sm Bool} {el : ES} {vs : List Nat} {env : G.Env} {xs : List α} {h : Hh} (e : itf env = rt (.en (.vals ((xs.map enc).map M.d)))) (hl : xs.length < LIM)
    (st : ∀ a ∈ xs.zipIdx, ∃ env1, p.asg (.d (.tuple [.int (a.2 : Int), enc a.1])) (wipeE env vs) = some env1 ∧ tt env1 h = some (.val (t a) h) ∧ (t a = true → el env1 h = some (.val (g a) h))) : nComp itf p tt el vs env h = some (.val ((xs.zipIdx.filter t).map g) h) := by
  have eL : enL ((xs.map enc).map M.d) = xs.zipIdx.map fun a => M.d (.tuple [.int (a.2 : Int), enc a.1]) := by
    unfold enL
    rw [List.zipIdx_map, List.zipIdx_map, List.map_map, List.map_map]
    rfl
  rw [comp_get (congrFun e h) en_get en_cnt (by rw [len_enL, List.length_map, List.length_map]; exact hl), eL]
  have key : ∀ (zs : List (α × Nat)) (acc : List M), (∀ a ∈ zs, a ∈ xs.zipIdx) → compL p tt el (wipeE env vs) (zs.map fun a => M.d (.tuple [.int (a.2 : Int), enc a.1])) acc h = some (.val (acc ++ (zs.filter t).map g) h) := fun zs => by
    induction zs with
    | nil => intro acc _; simp only [List.map_nil, compL, List.filter_nil, List.append_nil]; rfl
    | cons z zs ih =>
      intro acc hz
      obtain ⟨env1, e1, e2, e3⟩ := st z (hz z (List.mem_cons_self ..))
      have ih := fun acc => ih acc fun a ha => hz a (List.mem_cons_of_mem _ ha)
      simp only [List.map_cons, compL, e1]
      rw [bnd_val (nox_val e2)]
      cases ht : t z with
      | false => simp only [Bool.false_eq_true, if_false, ih, List.filter_cons, ht]
      | true =>
        simp only [if_true]
        rw [bnd_val (nox_val (e3 ht)), ih]
        simp only [List.filter_cons, ht, if_true, List.map_cons, List.append_assoc, List.singleton_append]
  rw [key _ [] fun _ h => h, List.nil_append]
theorem val_at {f : G.Env → Sm (List M)} {env : G.Env} {h h' : Hh} {ds : List PyData} (e : f env h = some (.val (ds.map M.d) h')) : eVal f env h = some (.val (.d (.list ds)) h') := by
  unfold eVal
  rw [bnd_val e, asDs_map]
  rfl
theorem setIx_at {fo fi f : ES} {env : G.Env} {k n : Nat} {i : Int} {h h1 : Hh} {x : PyData} {xs : List PyData} (ef : f env h = some (.val (.d x) h1)) (eo : fo env = rt (.obj k)) (ei : fi env = rt (.d (.int i))) (hk : h1[k]? = some (.lst xs)) (hn : ixN xs.length i = some n) : sSetIx fo fi f env h = some (.val (.nx, env) (h1.set k (.lst (xs.set n x)))) := by
  unfold sSetIx
  rw [bnd_val ef, eo, bnd_rt, ei, bnd_rt]
  have : setD (.obj k) (.d (.int i)) (.d x) h1 = some (.val () (h1.set k (.lst (xs.set n x)))) := by simp only [setD, hk, hn]
  rw [bnd_val this]
  rfl
theorem ixN_nat {n i : Nat} (h : i < n) : ixN n (i : Int) = some i := by
  unfold ixN
  rw [if_pos (by omega), if_pos (by omega)]
  rfl
theorem minI_is {L : List Int} {m : Int} (h1 : m ∈ L) (h2 : ∀ y ∈ L, m ≤ y) : minI L = some m := by
  cases e : minI L with
  | none =>
    cases L with
    | nil => cases h1
    | cons a l => cases e
  | some k =>
    obtain ⟨k1, k2⟩ := minI_ok e
    rw [show k = m from Int.le_antisymm (k2 m h1) (h2 k k1)]
theorem maxI_is {L : List Int} {m : Int} (h1 : m ∈ L) (h2 : ∀ y ∈ L, y ≤ m) : maxI L = some m := by
  cases e : maxI L with
  | none =>
    cases L with
    | nil => cases h1
    | cons a l => cases e
  | some k =>
    obtain ⟨k1, k2⟩ := maxI_ok e
    rw [show k = m from Int.le_antisymm (h2 k k1) (k2 m h1)]
theorem min_L {L : List Int} {m : Int} (e : minI L = some m) : nMin [.d (.list (L.map PyData.int))] = rt (.d (.int m)) := by
  funext h
  have it : intsM ((L.map PyData.int).map M.d) = some L := by rw [List.map_map]; exact intsM_map _
  simp only [nMin, lstM, Option.bind, it, e]
  rfl
theorem max_L {L : List Int} {m : Int} (e : maxI L = some m) : nMax [.d (.list (L.map PyData.int))] = rt (.d (.int m)) := by
  funext h
  have it : intsM ((L.map PyData.int).map M.d) = some L := by rw [List.map_map]; exact intsM_map _
  simp only [nMax, lstM, Option.bind, it, e]
  rfl
end G

/-! small words for looks and draws -/
namespace G
open PySem PySem.Spec L2 PySem.W
theorem bO_rt {f : ES} {env : G.Env} {b : Bool} (h : f env = rt (.d (.bool b))) : bO f env = rt b := by unfold bO; rw [h, bnd_rt]; rfl
theorem bNot_rt {f : G.Env → Sm Bool} {env : G.Env} {b : Bool} (h : f env = rt b) : bNot f env = rt (!b) := by unfold bNot; rw [h, bnd_rt]
theorem bOr_f {f g : G.Env → Sm Bool} {env : G.Env} {b : Bool} (h : f env = rt false) (h2 : g env = rt b) : bOr f g env = rt b := by unfold bOr; rw [h, bnd_rt, if_neg Bool.false_ne_true, h2]
theorem bAnd_t {f g : G.Env → Sm Bool} {env : G.Env} {b : Bool} (h : f env = rt true) (h2 : g env = rt b) : bAnd f g env = rt b := by unfold bAnd; rw [h, bnd_rt, if_pos rfl, h2]
theorem eAnd_t {f g : ES} {env : G.Env} {m : M} (h : f env = rt (.d (.bool true))) (h2 : g env = rt m) : eAnd f g env = rt m := by unfold eAnd; rw [h, bnd_rt, asB_b, bnd_rt, if_pos rfl, h2]
theorem len_is {f : ES} {env : G.Env} {xs : List PyData} (h : f env = rt (.d (.tuple xs))) : eB nLen (aCons f aNil) env = rt (.d (.int (xs.length : Int))) := by
  simp only [eB, aCons, aNil, h, bnd_rt, len_tup]
theorem isi_t {f : ES} {env : G.Env} {xs : List PyData} (h : f env = rt (.d (.tuple xs))) : eIsi "tuple" f env = rt (.d (.bool true)) := isi_d (a := "tuple") h fun _ => rfl
theorem ix_is {f g : ES} {env : G.Env} {xs : List PyData} {i : Int} {x : PyData} (h : f env = rt (.d (.tuple xs))) (h2 : g env = rt (.d (.int i))) (e : atI xs i = some x) : e2 oIx f g env = rt (.d x) := by
  simp only [e2, h, h2, bnd_rt, ix_tup e]
theorem ne_is {f g : ES} {env : G.Env} {i j : Int} (h : f env = rt (.d (.int i))) (h2 : g env = rt (.d (.int j))) : e2 oNe f g env = rt (.d (.bool (!decide (i = j)))) := by simp only [e2, h, h2, bnd_rt, ne_int]
/-- all([t for x in f]) where each is so -/
theorem all_is {α : Type} {enc : α → PyData} {f el : ES} {i : Nat} {env : G.Env} {xs : List α} (h : f env = rt (.d (.tuple (xs.map enc)))) (hl : xs.length < 1000000) (he : ∀ x ∈ xs, el ((wipeE env [i]).set i (some (.d (enc x)))) = rt (.d (.bool true))) :
    eB nAll (aCons (eVal (nComp (iSeqF f) (.nm i) bYes el [i])) aNil) env = rt (.d (.bool true)) := by
  have hv := comp_valT (fun x => M.d (enc x)) (fun _ => PyData.bool true) (itf := iSeqF f) (vs := [i]) (p := .nm i) (el := el) (env := env) (ys := xs) (by rw [seqF_t h, List.map_map]; rfl) (by show _ < 16777216; omega) fun x hx => ⟨_, rfl, he x hx⟩
  rw [show (xs.map fun _ => PyData.bool true) = (xs.map fun _ => true).map PyData.bool by rw [List.map_map]; rfl] at hv
  simp only [eB, aCons, aNil, hv, bnd_rt, all_bs]
  rw [show ((xs.map fun _ => true).all id) = true by simp]
theorem le3_is {f : ES} {env : G.Env} {n lo hi : Int} (h : f env = rt (.d (.int n))) (h1 : lo ≤ n) (h2 : n ≤ hi) : eCh oLe oLe (eC (.int lo)) f (eC (.int hi)) env = rt (.d (.bool true)) := by
  simp only [eCh, eC, h, bnd_rt, le_i, asB_b, decide_eq_true h1, decide_eq_true h2, if_true]
theorem call1 {f : Fn} {g : ES} {env : G.Env} {x : PyData} {r : M} (hg : g env = rt (.d x)) (hf : f [.d x] = rt r) : eCall 1 f (aCons g aNil) env = rt r := call_rt (ms := [.d x]) (by simp only [aCons, aNil, hg, bnd_rt]) rfl hf
theorem call2 {f : Fn} {g k : ES} {env : G.Env} {x y : PyData} {r : M} (hg : g env = rt (.d x)) (hk : k env = rt (.d y)) (hf : f [.d x, .d y] = rt r) : eCall 2 f (aCons g (aCons k aNil)) env = rt r := call_rt (ms := [.d x, .d y]) (by simp only [aCons, aNil, hg, hk, bnd_rt]) rfl hf
theorem gt_is {f g : ES} {env : G.Env} {i j : Int} (h : f env = rt (.d (.int i))) (h2 : g env = rt (.d (.int j))) : e2 oGt f g env = rt (.d (.bool (decide (j < i)))) := by simp only [e2, h, h2, bnd_rt, gt_i]
theorem lt_is {f g : ES} {env : G.Env} {i j : Int} (h : f env = rt (.d (.int i))) (h2 : g env = rt (.d (.int j))) : e2 oLt f g env = rt (.d (.bool (decide (i < j)))) := by simp only [e2, h, h2, bnd_rt, lt_i]
theorem le_is {f g : ES} {env : G.Env} {i j : Int} (h : f env = rt (.d (.int i))) (h2 : g env = rt (.d (.int j))) : e2 oLe f g env = rt (.d (.bool (decide (i ≤ j)))) := by simp only [e2, h, h2, bnd_rt, le_i]
theorem eq_is {f g : ES} {env : G.Env} {i j : Int} (h : f env = rt (.d (.int i))) (h2 : g env = rt (.d (.int j))) : e2 oEq f g env = rt (.d (.bool (decide (i = j)))) := by simp only [e2, h, h2, bnd_rt, eq_int]
theorem sub_is {f g : ES} {env : G.Env} {i j : Int} (h : f env = rt (.d (.int i))) (h2 : g env = rt (.d (.int j))) : e2 oSub f g env = rt (.d (.int (i - j))) := by simp only [e2, h, h2, bnd_rt, sub_i]
theorem add_is {f g : ES} {env : G.Env} {i j : Int} (h : f env = rt (.d (.int i))) (h2 : g env = rt (.d (.int j))) : e2 oAdd f g env = rt (.d (.int (i + j))) := by simp only [e2, h, h2, bnd_rt, add_i]
theorem if_nil {t : G.Env → Sm Bool} {g : SS} {env : G.Env} (h : t env = rt false) : sIf t g sNil env = rt (.nx, env) := by rw [if_F h]; rfl
theorem call1_gen {kp n : Nat} {f : Fn} {env : G.Env} {i : Nat} {P : M → Prop} (e : env[i]? = some (some (.obj kp))) (h : Gen kp (f [.obj kp]) P) : Gen kp (eCall 1 f (aCons (eVar i) aNil) env) P :=
  Gen.call (A := fun ms => ms = [.obj kp]) (Gen.bnd (gen_var (P := fun m => m = .obj kp) e rfl) fun m hm => by subst hm; exact Gen.rt rfl) (fun ms h => by rw [h]; rfl) fun ms e => by subst e; exact h
theorem call2_gen {kp : Nat} {f : Fn} {g : ES} {env : G.Env} {i : Nat} {P A : M → Prop} (e : env[i]? = some (some (.obj kp))) (hg : Gen kp (g env) A) (h : ∀ m, A m → Gen kp (f [.obj kp, m]) P) : Gen kp (eCall 2 f (aCons (eVar i) (aCons g aNil)) env) P :=
  Gen.call (A := fun ms => ∃ m, ms = [.obj kp, m] ∧ A m) (Gen.bnd (gen_var (P := fun m => m = .obj kp) e rfl) fun m hm => by
    subst hm
    exact Gen.bnd (Gen.bnd hg fun m hm => Gen.rt (P := fun ms => ∃ m, ms = [m] ∧ A m) ⟨m, rfl, hm⟩) fun ms ⟨m, e, hm⟩ => by subst e; exact Gen.rt ⟨m, rfl, hm⟩) (fun ms ⟨m, e, _⟩ => by rw [e]; rfl) fun ms ⟨m, e, hm⟩ => by subst e; exact h m hm
theorem Gen.val {kp : Nat} {f : G.Env → Sm (List M)} {env : G.Env} {P : List PyData → Prop} (h : Gen kp (f env) fun ms => ∃ ds, ms = ds.map M.d ∧ P ds) : Gen kp (eVal f env) fun m => ∃ ds, m = .d (.list ds) ∧ P ds := by
  unfold eVal
  refine Gen.bnd h fun ms ⟨ds, e, p⟩ => ?_
  subst e
  rw [asDs_map]
  exact G.Gen.rt ⟨ds, rfl, p⟩
theorem pw_rngL {lo n : Int} : (rngL lo n).Pairwise (· < ·) := by
  unfold rngL
  exact List.pairwise_map.mpr (List.pairwise_lt_range.imp fun {a b} h => by omega)
/-- x[i], x a tuple of things, i drawn -/
theorem gen_ixT {α : Type} {enc : α → PyData} {kp : Nat} {env : G.Env} {f g : ES} {xs : List α} (hf : f env = rt (.d (.tuple (xs.map enc)))) (hg : Gen kp (g env) (IntIn 0 (xs.length - 1))) : Gen kp (e2 oIx f g env) (Is enc (· ∈ xs)) := by
  unfold e2
  rw [hf, bnd_rt]
  refine Gen.bnd hg fun m ⟨i, e, h0, h1⟩ => ?_
  subst e
  obtain ⟨x, ex, hx⟩ : ∃ x, atI xs i = some x ∧ x ∈ xs := by
    obtain ⟨n, rfl⟩ : ∃ n : Nat, i = n := ⟨i.toNat, by omega⟩
    have hn : n < xs.length := by omega
    exact ⟨xs[n], atI_nat (List.getElem?_eq_getElem hn), List.getElem_mem hn⟩
  rw [ix_tup (atI_mapD ex)]
  exact Gen.rt ⟨x, rfl, hx⟩
theorem sh_sm {i : Int} (h : i.natAbs < 2 ^ 64) : Sh 0 1921 (.int i) := sh_int (Nat.lt_of_lt_of_le h (Nat.pow_le_pow_right (by decide) (by decide)))
theorem sh_tupAll {k n m N : Nat} {ds : List PyData} (h : ∀ d ∈ ds, Sh k n d) (hl : ds.length ≤ m) (hN : (n + 2) * m + 3 ≤ N) : Sh (k + 1) N (.tuple ds) :=
  (sh_tup (shl_all h)).mono (Nat.le_refl _) (Nat.le_trans (Nat.add_le_add_right (Nat.mul_le_mul_left _ hl) _) hN)
end G

/-! max of a list or a tuple of whole numbers -/
namespace G
open PySem PySem.Spec L2 PySem.W PyProof.Rows
theorem maxOf_spec : ∀ (xs : List Int) (x : Int), (maxOf x xs = x ∨ maxOf x xs ∈ xs) ∧ x ≤ maxOf x xs ∧ ∀ y ∈ xs, y ≤ maxOf x xs
  | [], x => ⟨.inl rfl, Int.le_refl _, fun _ h => nomatch h⟩
  | z :: zs, x => by
    have e : maxOf x (z :: zs) = maxOf (if x < z then z else x) zs := by
      show (z :: zs).foldl (fun a y => if DatumOrd.lt a y = true then y else a) x = _
      rw [List.foldl_cons]
      have : (if DatumOrd.lt x z = true then z else x) = if x < z then z else x := by
        have : (DatumOrd.lt x z : Bool) = decide (x < z) := rfl
        rw [this]
        by_cases q : x < z <;> simp [q]
      rw [this]
      rfl
    obtain ⟨h1, h2, h3⟩ := maxOf_spec zs (if x < z then z else x)
    rw [e]
    refine ⟨?_, ?_, fun y hy => ?_⟩
    · rcases h1 with h1 | h1
      · rw [h1]
        by_cases q : x < z
        · rw [if_pos q]; exact .inr (List.mem_cons_self ..)
        · rw [if_neg q]; exact .inl rfl
      · exact .inr (List.mem_cons_of_mem _ h1)
    · by_cases q : x < z
      · rw [if_pos q] at h2 ⊢; omega
      · rw [if_neg q] at h2 ⊢; exact h2
    · rcases List.mem_cons.mp hy with rfl | hy
      · by_cases q : x < y
        · rw [if_pos q] at h2 ⊢; exact h2
        · rw [if_neg q] at h2 ⊢; omega
      · exact h3 y hy
def rMaxT (K : PySem.W.Frag) : List V → Hp → VK → Prop := fun vs H Q => ∃ (a : Addr) (n : Int) (ns : List Int), vs = [V.ref a] ∧ SqT K H a ((n :: ns).map V.int) ∧ ∀ m, m ∈ n :: ns → (∀ y, y ∈ n :: ns → y ≤ m) → Q (.int m) H
theorem cr_maxT {X : Cx} (hc : X.calm = true) (hu : X.A.units + 64 < cLine) : CallR X (.builtin "max") (rMaxT X.K) := by
  intro pins s σ H vs us Q I r h
  obtain ⟨a, n, ns, rfl, hs, q⟩ := h
  obtain ⟨its, rv, hl, hz⟩ := I.tuple hs
  rw [Vals.ref1 r]
  have hi := ints_of_vals rv
  refine max_tuple_datum (α := Int) (I.ok.hd hc) (show s.heap.IsTuple a its.toArray from hl) (x := n) (xs := ns) (HoldAll.of_ints hi) (by show X.A.units + 1 + 0 < cLine; omega) fun i v h' tk hv hh hk => ?_
  obtain ⟨k1, k2, k3⟩ := maxOf_spec ns n
  have hm : maxOf n ns ∈ n :: ns := by
    rcases k1 with k1 | k1
    · rw [k1]; exact List.mem_cons_self ..
    · exact List.mem_cons_of_mem _ k1
  have hv' : ∃ t, v = .int (maxOf n ns) t := by
    obtain ⟨as, rd⟩ := hh
    cases rd
    exact ⟨_, rfl⟩
  obtain ⟨t, rfl⟩ := hv'
  exact ⟨.int _, H, I.kept hk, ⟨_, rfl⟩, q _ hm fun y hy => by
    rcases List.mem_cons.mp hy with rfl | hy
    · exact k2
    · exact k3 y hy⟩
/-- max of either -/
def nMaxS : OpN := fun xs h => match xs with
  | [m] => match ((seqM h m).bind fun z => intsM z.2).bind maxI with
    | some i => some (.val (.d (.int i)) h)
    | none => none
  | _ => none
theorem seqM_ok2 {K : PySem.W.Frag} {W : Wd} (ok : W.Ok K) {m : M} {v : V} {t : Bool} {ms : List M} (r : RV K W m v) (e : seqM W.h m = some (t, ms)) : ∃ a vs, v = .ref a ∧ (SqL K W.H a vs ∨ SqT K W.H a vs) ∧ RVs K W ms vs := seqM_ok ok r e
theorem jc_maxS {K : PySem.W.Frag} : JC K (fun xs H Q => rMax K xs H Q ∨ rMaxT K xs H Q) nMaxS := fun E W xs vs Q ok r p => by
  unfold nMaxS at p
  split at p
  · rename_i m
    split at p
    · rename_i i e
      obtain ⟨v, h1, h2⟩ := RMs.one r
      obtain ⟨ns, e1, e2⟩ := Option.bind_eq_some_iff.mp e
      obtain ⟨⟨t, ms⟩, e0, e1⟩ := Option.bind_eq_some_iff.mp e1
      obtain ⟨a, us, g1, g2, g3⟩ := seqM_ok ok h2 e0
      have z := intsM_rel e1 g3
      subst z
      obtain ⟨k1, k2⟩ := maxI_ok e2
      have fin : ∀ m, m ∈ ns → (∀ y, y ∈ ns → y ≤ m) → Q (.int m) W.H := fun m hm hy => by
        have : m = i := Int.le_antisymm (k2 m hm) (hy i k1)
        subst this
        exact PostG.ret (a := M.d (.int m)) ok p _ (by simp only [RM, RD])
      rcases g2 with g2 | g2
      · exact .inl ⟨a, ns, by rw [h1, g1], g2, List.length_pos_of_mem k1, fin⟩
      · cases ns with
        | nil => cases k1
        | cons n ns => exact .inr ⟨a, n, ns, by rw [h1, g1], g2, fin⟩
    · exact p.elim
  · exact p.elim
end G

/-! targets that are items: a[i], b[j] = .. -/
namespace G
open PySem PySem.Spec L2
/-- a target that writes -/
def tGt (K : PySem.W.Frag) (E : XE) (g : M → G.Env → Sm G.Env) : TG := fun v σ H Q => ∃ W env m, W.H = H ∧ W.Ok K ∧ ER K W env σ ∧ RV K W m v ∧ PostG K E W (g m env W.h) fun env' W' => ∀ σ', ER K W' env' σ' → Q σ' W'.H
def tGts (K : PySem.W.Frag) (E : XE) (g : List M → G.Env → Sm G.Env) : TGs := fun vs σ H Q => ∃ W env ms, W.H = H ∧ W.Ok K ∧ ER K W env σ ∧ RVs K W ms vs ∧ PostG K E W (g ms env W.h) fun env' W' => ∀ σ', ER K W' env' σ' → Q σ' W'.H
theorem PG.imp {X : Cx} {e : Expr} {t t' : TG} (h : PG X e t) (i : ∀ v σ H Q, t' v σ H Q → t v σ H Q) : PG X e t' := ⟨fun pins s σ H v u Q I r q => h.run pins s σ H v u Q I r (i v σ H Q q)⟩
theorem PGs.imp {X : Cx} {e : List Expr} {t t' : TGs} (h : PGs X e t) (i : ∀ v σ H Q, t' v σ H Q → t v σ H Q) : PGs X e t' := ⟨fun pins s σ H v u Q I r q => h.run pins s σ H v u Q I r (i v σ H Q q)⟩
def gtSub (fo fi : ES) : M → G.Env → Sm G.Env := fun m env => bnd (fo env) fun x => bnd (fi env) fun i => bnd (setD x i m) fun _ => rt env
def gtNil : List M → G.Env → Sm G.Env
  | [], env => rt env
  | _, _ => fail
def gtCons (g : M → G.Env → Sm G.Env) (gs : List M → G.Env → Sm G.Env) : List M → G.Env → Sm G.Env
  | m :: ms, env => bnd (g m env) fun env' => gs ms env'
  | _, _ => fail
def gtTup (gs : List M → G.Env → Sm G.Env) (n : Nat) : M → G.Env → Sm G.Env := fun m env => match tupM m with
  | some ms => if ms.length = n then gs ms env else fail
  | none => fail
section
variable {X : Cx} {E : XE}
theorem t_gtSub {K : PySem.W.Frag} {fo fi : ES} : ∀ v σ H Q, tGt K E (gtSub fo fi) v σ H Q → gSub (tM K E fo) (tM K E fi) rSetL v σ H Q := fun v σ H Q ⟨W, env, m, hH, ok, er, rm, q⟩ => by
  subst hH
  refine ⟨W, env, rfl, ok, er, (PostG.bind q).mono fun x W2 ok2 s2 q2 u ru => ⟨W2, env, rfl, ok2, er.step s2, (PostG.bind q2).mono fun j W3 ok3 s3 q3 w rw' => ?_⟩⟩
  have q4 := PostG.bind q3
  unfold setD at q4
  split at q4
  · rename_i k j y
    split at q4
    · rename_i xs ec
      split at q4
      · rename_i n en
        have rk := RM.step ru s3
        have ry := RM.step rm (s2.trans s3)
        simp only [RM] at rk ry
        obtain ⟨vs, g1, g2⟩ := ok3.cell k _ ec
        have hlen := RDs.length g2
        have hne : Cell.lst xs ≠ .dead := fun z => nomatch z
        have okw := ok3.wr ec hne (c := .lst (xs.set n y)) (o := .lst (vs.set n v)) ⟨_, rfl, RDs.set g2 ry⟩
        have q5 := q4 (W3.wr k (.lst (xs.set n y)) (.lst (vs.set n v))) rfl okw (Step.wr ok3 ec hne)
        exact ⟨W3.ρ k, vs, j, n, rk.2, int_of rw', g1, by rw [hlen]; exact en, (PostG.ret (E := E) okw q5) σ ((er.step (s2.trans s3)).step (Step.wr ok3 ec hne))⟩
      · exact q4.elim
    · exact q4.elim
  · exact q4.elim
theorem gt_sub {o i : Expr} {fo fi : ES} {pos : Pos} (ho : PE X o (tM X.K E fo)) (hi : PE X i (tM X.K E fi))
    (ha : ∀ v, assign (.Subscript o i pos) X.env v = (do
      let ov ← holding [v] (eval o X.env)
      let iv ← holding [v, ov] (eval i X.env)
      standAt pos
      holding [v, ov, iv] (setItem ov iv v)
      release [v, ov, iv] []) := by intro _; rfl) : PG X (.Subscript o i pos) (tGt X.K E (gtSub fo fi)) := PG.imp (pg_sub ho hi set_list ha) t_gtSub
theorem gts_nil : PGs X [] (tGts X.K E gtNil) := PGs.imp pgs_nil fun vs σ H Q ⟨W, env, ms, hH, ok, er, rm, q⟩ => by
  subst hH
  cases ms with
  | nil =>
    simp only [RMs] at rm
    exact ⟨rm, (PostG.ret ok q) σ er⟩
  | cons m ms => exact q.elim
theorem gts_cons {e : Expr} {es : List Expr} {g : M → G.Env → Sm G.Env} {gs : List M → G.Env → Sm G.Env} (h1 : PG X e (tGt X.K E g)) (h2 : PGs X es (tGts X.K E gs))
    (hs : (assignEach (e :: es) X.env).map (·.2) = assign e X.env :: (assignEach es X.env).map (·.2) := by rfl) : PGs X (e :: es) (tGts X.K E (gtCons g gs)) := PGs.imp (pgs_cons h1 h2 hs) fun vs σ H Q ⟨W, env, ms, hH, ok, er, rm, q⟩ => by
  subst hH
  cases ms with
  | nil => exact q.elim
  | cons m ms =>
    simp only [RMs] at rm
    obtain ⟨v, ws, rfl, r1, r2⟩ := rm
    refine ⟨v, ws, rfl, W, env, m, rfl, ok, er, r1, (PostG.bind q).mono fun env' W1 ok1 s1 q1 σ' er' => ?_⟩
    exact ⟨W1, env', ms, rfl, ok1, er', RMs.step r2 s1, q1⟩
theorem gt_tup {es : List Expr} {k n : Nat} {pos : Pos} {gs : List M → G.Env → Sm G.Env} (hc : X.calm = true) (h : PGs X es (tGts X.K E gs))
    (hn : (assignEach es X.env).length = n := by rfl) (hst : (assignEach es X.env).findIdx? (·.1) = none := by rfl) : PG X (.Tuple es k pos) (tGt X.K E (gtTup gs n)) := PG.imp (pg_tup hc h hn hst) fun v σ H Q ⟨W, env, m, hH, ok, er, rm, q⟩ => by
  subst hH
  unfold gtTup at q
  cases e : tupM m with
  | none => simp only [e] at q; exact q.elim
  | some ms =>
    simp only [e] at q
    by_cases hl : ms.length = n
    · rw [if_pos hl] at q
      obtain ⟨a, vs, h1, h2, h3⟩ := tupM_ok ok rm e
      exact ⟨a, vs, h1, SqT.of (ok.sub _ _ h2), by rw [RMs.length h3]; exact hl, W, env, ms, rfl, ok, er, h3, q⟩
    · rw [if_neg hl] at q
      exact q.elim
def sAsg (g : M → G.Env → Sm G.Env) (f : ES) : SS := fun env => bnd (f env) fun m => bnd (g m env) fun env' => rt (.nx, env')
theorem ss_asgT {tg e : Expr} {pos : Pos} {f : ES} {g : M → G.Env → Sm G.Env} (he : PE X e (tM X.K E f)) (hg : PG X tg (tGt X.K E g)) (hs : swapsWithSole [tg] e pos.line X.env = pure false := by rfl) (hw : swappedStores [tg] e X.env = pure none := by rfl)
    (h1 : (assignEach [tg] X.env).map (·.2) = [assign tg X.env] := by rfl) : PS X (.Assign [tg] e pos) (tS X.K E (sAsg g f)) := PS.imp (ps_asg he hg hs hw h1) fun D σ H ⟨W, env, hH, ok, er, q⟩ => by
  subst hH
  refine ⟨W, env, rfl, ok, er, (PostG.bind q).mono fun m W1 ok1 s1 q1 v rv => ?_⟩
  exact ⟨W1, env, m, rfl, ok1, er.step s1, rv, (PostG.bind q1).mono fun env' W2 ok2 s2 q2 σ' er' => (PostG.ret (Q := SEnd X.K D) ok2 q2) σ' er'⟩
end
end G

/-! one list more beside the pot -/
namespace G
open PySem PySem.Spec L2 PySem.W
def lsO : Option (List PyData) → Cell
  | some ds => .lst ds
  | none => .dead
def St (h : Hh) (kp : Nat) (c : Int) (o : Option (List PyData)) : Hh := h.set kp (.lst [.int c]) ++ [lsO o]
section
variable {h : Hh} {kp : Nat} {c c' : Int} {o o' : Option (List PyData)}
theorem St.pot (hp : PotAt kp h) : PotAt kp (St h kp c o) := (hp.set c).app (by cases o <;> rfl)
theorem St.set (hp : PotAt kp h) : (St h kp c o).set kp (.lst [.int c']) = St h kp c' o := by
  unfold St
  rw [List.set_append_left _ _ (by rw [List.length_set]; exact hp.lt), List.set_set]
theorem St.at_ : (St h kp c o)[h.length]? = some (lsO o) := by
  have := last_at (h := h.set kp (.lst [.int c])) (c := lsO o)
  rwa [List.length_set] at this
theorem St.put : (St h kp c o).set h.length (lsO o') = St h kp c o' := by
  have := last_set (h := h.set kp (.lst [.int c])) (c := lsO o) (c' := lsO o')
  rwa [List.length_set] at this
theorem St.begin (hp : PotAt kp h) : ∃ c, h ++ [lsO o] = St h kp c o := by
  obtain ⟨c, e⟩ := hp.same
  exact ⟨c, by unfold St; rw [← e]⟩
end
theorem one_rt {f : ES} {env : G.Env} {m : M} (e : f env = rt m) : aCons f aNil env = rt [m] := by
  unfold aCons aNil
  rw [e]
  rfl
theorem for_enrt {itf : G.Env → Sm SIt} {xs : List M} {p : Pat} {body : SS} {env : G.Env} (e : itf env = rt (.en (.vals xs))) : sFor itf p body env = forL p body (enL xs) env := by
  funext h
  exact for_en (by rw [e]; rfl)
/-- x does what Q says, where the pot stands at kp and one list is the last cell -/
def Two {α : Type} (kp : Nat) (h : Hh) (o : Option (List PyData)) (x : Sm α) (Q : α → Option (List PyData) → Prop) : Prop := ∀ c, ∃ a c' o', x (St h kp c o) = some (.val a (St h kp c' o')) ∧ Q a o'
/-- .. and the list stays -/
abbrev Dr {α : Type} (kp : Nat) (h : Hh) (o : Option (List PyData)) (x : Sm α) (P : α → Prop) : Prop := Two kp h o x fun a o' => o' = o ∧ P a
section
variable {α β : Type} {kp : Nat} {h : Hh} {o : Option (List PyData)}
theorem Two.rt {a : α} {Q : α → Option (List PyData) → Prop} (q : Q a o) : Two kp h o (rt a) Q := fun c => ⟨a, c, o, rfl, q⟩
theorem Two.all {x : Sm α} {a : α} {Q : α → Option (List PyData) → Prop} (e : x = G.rt a) (q : Q a o) : Two kp h o x Q := by rw [e]; exact Two.rt q
theorem Two.get {x : Sm α} {a : α} {o' : Option (List PyData)} {Q : α → Option (List PyData) → Prop} (e : ∀ c, x (St h kp c o) = some (.val a (St h kp c o'))) (q : Q a o') : Two kp h o x Q := fun c => ⟨a, c, o', e c, q⟩
theorem Two.bnd {x : Sm α} {k : α → Sm β} {P : α → Option (List PyData) → Prop} {Q : β → Option (List PyData) → Prop} (g : Two kp h o x P) (f : ∀ a o', P a o' → Two kp h o' (k a) Q) : Two kp h o (bnd x k) Q := fun c => by
  obtain ⟨a, c1, o1, e, p⟩ := g c
  obtain ⟨b, c2, o2, e2, q⟩ := f a o1 p c1
  exact ⟨b, c2, o2, by rw [bnd_val e, e2], q⟩
theorem Two.mono {x : Sm α} {P Q : α → Option (List PyData) → Prop} (g : Two kp h o x P) (i : ∀ a o', P a o' → Q a o') : Two kp h o x Q := fun c => by
  obtain ⟨a, c1, o1, e, p⟩ := g c
  exact ⟨a, c1, o1, e, i _ _ p⟩
theorem Two.nox {x : Sm α} {Q : α → Option (List PyData) → Prop} (g : Two kp h o x Q) : Two kp h o (nox x) Q := fun c => by
  obtain ⟨a, c1, o1, e, p⟩ := g c
  exact ⟨a, c1, o1, nox_val e, p⟩
theorem Dr.gen {x : Sm α} {P : α → Prop} (hp : PotAt kp h) (g : Gen kp x P) : Dr kp h o x P := fun c => by
  obtain ⟨a, c', e, p⟩ := g (St h kp c o) (St.pot hp)
  exact ⟨a, c', o, by rw [e, St.set hp], rfl, p⟩
theorem Dr.bnd {x : Sm α} {k : α → Sm β} {P : α → Prop} {Q : β → Option (List PyData) → Prop} (g : Dr kp h o x P) (f : ∀ a, P a → Two kp h o (k a) Q) : Two kp h o (bnd x k) Q := Two.bnd g fun a o' ⟨e, p⟩ => by
  subst e
  exact f a p
theorem Dr.mono {x : Sm α} {P Q : α → Prop} (g : Dr kp h o x P) (i : ∀ a, P a → Q a) : Dr kp h o x Q := Two.mono g fun a _ ⟨e, p⟩ => ⟨e, i a p⟩
theorem Two.ite {b : Prop} [Decidable b] {x y : Sm α} {Q : α → Option (List PyData) → Prop} (g1 : b → Two kp h o x Q) (g2 : ¬ b → Two kp h o y Q) : Two kp h o (if b then x else y) Q := by
  by_cases q : b
  · rw [if_pos q]; exact g1 q
  · rw [if_neg q]; exact g2 q
/-! ### values -/
variable {env : G.Env}
theorem dr_var {i : Nat} {m : M} {P : M → Prop} (e : env[i]? = some (some m)) (p : P m) : Dr kp h o (eVar i env) P := by rw [var_rt e]; exact Two.rt ⟨rfl, p⟩
theorem dr_e2 {op : Op2} {f g : ES} {A B P : M → Prop} (hf : Dr kp h o (f env) A) (hg : Dr kp h o (g env) B) (ho : ∀ x y, A x → B y → Dr kp h o (op x y) P) : Dr kp h o (e2 op f g env) P :=
  Dr.bnd hf fun x px => Dr.bnd hg fun y py => ho x y px py
theorem dr_add {f g : ES} {a b c d : Int} (hf : Dr kp h o (f env) (IntIn a b)) (hg : Dr kp h o (g env) (IntIn c d)) : Dr kp h o (e2 oAdd f g env) (IntIn (a + c) (b + d)) :=
  dr_e2 hf hg fun x y ⟨i, ex, h1, h2⟩ ⟨j, ey, h3, h4⟩ => by
    subst ex ey
    exact Two.all (a := M.d (.int (i + j))) rfl ⟨rfl, i + j, rfl, by omega, by omega⟩
theorem dr_sub {f g : ES} {a b c d : Int} (hf : Dr kp h o (f env) (IntIn a b)) (hg : Dr kp h o (g env) (IntIn c d)) : Dr kp h o (e2 oSub f g env) (IntIn (a - d) (b - c)) :=
  dr_e2 hf hg fun x y ⟨i, ex, h1, h2⟩ ⟨j, ey, h3, h4⟩ => by
    subst ex ey
    exact Two.all (a := M.d (.int (i - j))) rfl ⟨rfl, i - j, rfl, by omega, by omega⟩
theorem dr_eqI {f g : ES} {a b c d : Int} (hf : Dr kp h o (f env) (IntIn a b)) (hg : Dr kp h o (g env) (IntIn c d)) : Dr kp h o (e2 oEq f g env) (fun m => ∃ k : Bool, m = .d (.bool k) ∧ True) :=
  dr_e2 hf hg fun x y ⟨i, ex, h1, h2⟩ ⟨j, ey, h3, h4⟩ => by
    subst ex ey
    exact Two.all eq_int ⟨rfl, _, rfl, trivial⟩
theorem dr_nil : Dr kp h o (aNil env) (fun ms => ms = []) := Two.rt ⟨rfl, rfl⟩
theorem dr_cons {f : ES} {fs : G.Env → Sm (List M)} {P : M → Prop} {A : List M → Prop} (hf : Dr kp h o (f env) P) (hs : Dr kp h o (fs env) A) : Dr kp h o (aCons f fs env) fun ms => ∃ x xs, ms = x :: xs ∧ P x ∧ A xs :=
  Dr.bnd hf fun x px => Dr.bnd hs fun xs pxs => Two.rt ⟨rfl, x, xs, rfl, px, pxs⟩
theorem dr_nilI {a b : Int} : Dr kp h o (aNil env) (AllIn 0 a b) := Two.rt ⟨rfl, rfl, fun _ h => nomatch h⟩
theorem dr_consI {f : ES} {fs : G.Env → Sm (List M)} {k : Nat} {a b a' b' : Int} (hf : Dr kp h o (f env) (IntIn a' b')) (hs : Dr kp h o (fs env) (AllIn k a b)) (h1 : a ≤ a') (h2 : b' ≤ b) : Dr kp h o (aCons f fs env) (AllIn (k + 1) a b) :=
  Dr.bnd hf fun x px => Dr.bnd hs fun xs pxs => Two.rt ⟨rfl, by rw [List.length_cons, pxs.1], fun m hm => by
    rcases List.mem_cons.mp hm with rfl | hm
    · exact px.mono h1 h2
    · exact pxs.2 m hm⟩
theorem dr_pickI {fs : G.Env → Sm (List M)} {f : ES} {k : Nat} {a b c d : Int} (hs : Dr kp h o (fs env) (AllIn k a b)) (hf : Dr kp h o (f env) (IntIn c d)) (hc : 0 ≤ c) (hd : d < k) (hk : k ≤ 1000) : Dr kp h o (e2 oIx (eVal (nLst fs)) f env) (IntIn a b) := by
  unfold e2 eVal nLst
  rw [bnd_assoc, bnd_assoc]
  refine Dr.bnd hs fun ms ⟨hl, hp⟩ => ?_
  rw [if_pos (show ms.length ≤ LIM by show ms.length ≤ 16777216; omega), bnd_rt]
  obtain ⟨ds, e⟩ := ds_of fun m hm => let ⟨i, e, _⟩ := hp m hm; (⟨_, e⟩ : ∃ x, m = M.d x)
  have ems := asDs_eq e
  simp only [e, bnd_rt]
  refine Dr.bnd hf fun y ⟨i, ey, h0, h1⟩ => ?_
  subst ey
  obtain ⟨m, em, hm⟩ := atI_mem (xs := ms) (i := i) (by omega) (by omega)
  have e3 : oIx (.d (.list ds)) (.d (.int i)) = G.rt m := by
    funext h
    show (match tupM (.d (.list ds)) with | some ms => opt (atI ms i) h | none => match lstM h (.d (.list ds)) with | some ms => opt (atI ms i) h | none => none) = _
    simp only [tupM, lstM, ← ems, em]
    rfl
  rw [e3]
  exact Two.rt ⟨rfl, hp m hm⟩
/-- a tuple of three whole numbers -/
def EntB (B : Int) (x : PyData) : Prop := ∃ a b c : Int, x = .tuple [.int a, .int b, .int c] ∧ (-B ≤ a ∧ a ≤ B) ∧ (-B ≤ b ∧ b ≤ B) ∧ -B ≤ c ∧ c ≤ B
theorem EntB.mono {B B' : Int} {x : PyData} (e : EntB B x) (i : B ≤ B') : EntB B' x := let ⟨a, b, c, h, h1, h2, h3⟩ := e; ⟨a, b, c, h, by omega, by omega, by omega⟩
theorem dr_ent {f1 f2 f3 : ES} {B a b a' b' a'' b'' : Int} (h1 : Dr kp h o (f1 env) (IntIn a b)) (h2 : Dr kp h o (f2 env) (IntIn a' b')) (h3 : Dr kp h o (f3 env) (IntIn a'' b''))
    (hB : -B ≤ a ∧ b ≤ B ∧ -B ≤ a' ∧ b' ≤ B ∧ -B ≤ a'' ∧ b'' ≤ B) : Dr kp h o (eTup (aCons f1 (aCons f2 (aCons f3 aNil))) env) (fun m => ∃ x, m = .d x ∧ EntB B x) := by
  unfold eTup
  refine Dr.bnd (dr_cons h1 (dr_cons h2 (dr_cons h3 dr_nil))) ?_
  rintro ms ⟨_, _, rfl, ⟨i, rfl, i1, i2⟩, _, _, rfl, ⟨j, rfl, j1, j2⟩, _, _, rfl, ⟨k, rfl, k1, k2⟩, rfl⟩
  refine Two.all (a := M.d (.tuple [.int i, .int j, .int k])) rfl ⟨rfl, _, rfl, i, j, k, rfl, ⟨by omega, by omega⟩, ⟨by omega, by omega⟩, by omega, by omega⟩
theorem dr_bO {f : ES} {B : Bool → Prop} (g : Dr kp h o (f env) (fun m => ∃ k : Bool, m = .d (.bool k) ∧ B k)) : Dr kp h o (bO f env) B := Dr.bnd g fun m ⟨k, e, b⟩ => by subst e; exact Two.rt ⟨rfl, b⟩
theorem dr_bOr {f g : G.Env → Sm Bool} {A B : Bool → Prop} (hf : Dr kp h o (f env) A) (hg : Dr kp h o (g env) B) : Dr kp h o (bOr f g env) (fun b => b = false → A false ∧ B false) := Dr.bnd hf fun a pa => by
  cases a with
  | true => rw [if_pos rfl]; exact Two.rt ⟨rfl, fun h => Bool.noConfusion h⟩
  | false => rw [if_neg Bool.false_ne_true]; exact Dr.mono hg fun b pb e => ⟨pa, by rw [← e]; exact pb⟩
theorem dr_bAnd {f g : G.Env → Sm Bool} {A B : Bool → Prop} (hf : Dr kp h o (f env) A) (hg : A true → Dr kp h o (g env) B) : Dr kp h o (bAnd f g env) (fun b => b = true → A true ∧ B true) := Dr.bnd hf fun a pa => by
  cases a with
  | true => rw [if_pos rfl]; exact Dr.mono (hg pa) fun b pb e => ⟨pa, by rw [← e]; exact pb⟩
  | false => rw [if_neg Bool.false_ne_true]; exact Two.rt ⟨rfl, fun h => Bool.noConfusion h⟩
theorem dr_eqC {f : ES} {i j : Int} (hf : f env = G.rt (.d (.int i))) : Dr kp h o (e2 oEq f (eC (.int j)) env) (fun m => ∃ k : Bool, m = .d (.bool k) ∧ (k = false → i ≠ j)) := by
  have : e2 oEq f (eC (.int j)) env = G.rt (.d (.bool (decide (i = j)))) := eq_is hf rfl
  exact Two.all this ⟨rfl, _, rfl, fun h => of_decide_eq_false h⟩
theorem dr_setD {ds : List PyData} {j : Int} {x : PyData} (h0 : 0 ≤ j) (h1 : j < (ds.length : Int)) : Two kp h (some ds) (setD (.obj h.length) (.d (.int j)) (.d x)) (fun _ o' => o' = some (ds.set j.toNat x)) := by
  refine Two.get (a := ()) (o' := some (ds.set j.toNat x)) (fun c => ?_) rfl
  have en : ixN ds.length j = some j.toNat := by
    unfold ixN
    rw [if_pos h0, if_pos (by omega)]
  simp only [setD, St.at_, lsO, en]
  exact congrArg (fun z => some (Out.val () z)) (St.put (o := some ds) (o' := some (ds.set j.toNat x)))
/-- a slice of the list -/
theorem dr_sl {ds : List PyData} {i : Nat} {lo hi : Option ES} {l u : Option Int} (e : env[i]? = some (some (.obj h.length))) (hlo : oPart lo env = G.rt l) (hhi : oPart hi env = G.rt u) : Dr kp h (some ds) (eSl (eVar i) lo hi env) (fun m => m = .d (.list (cutG ds l u))) := by
  unfold eSl
  rw [var_rt e, bnd_rt, hlo, bnd_rt, hhi, bnd_rt]
  refine Two.get (a := M.d (.list (cutG ds l u))) (fun c => ?_) ⟨rfl, rfl⟩
  have ec : cutG (ds.map M.d) l u = (cutG ds l u).map M.d := by
    unfold cutG
    rw [List.length_map, List.map_take, List.map_drop]
  simp only [cutS', tupM, lstM, St.at_, lsO, cellMs, ec, mkL, asDs_map]
  rfl
theorem cutG_lo {ds : List PyData} {n : Nat} (hn : n ≤ ds.length) : cutG ds none (some (n : Int)) = ds.take n := by
  unfold cutG
  have e1 : HT.sIx ds.length 0 none = 0 := rfl
  have e2 : HT.sIx ds.length ds.length (some (n : Int)) = min n ds.length := by
    unfold HT.sIx
    simp only
    rw [if_neg (by omega), Int.toNat_natCast]
  rw [e1, List.drop_zero, Nat.sub_zero, e2, Nat.min_eq_left hn]
theorem cutG_hi {ds : List PyData} {n : Nat} (hn : n ≤ ds.length) : cutG ds (some (n : Int)) none = ds.drop n := by
  unfold cutG
  have e1 : HT.sIx ds.length ds.length none = ds.length := rfl
  have e2 : HT.sIx ds.length 0 (some (n : Int)) = min n ds.length := by
    unfold HT.sIx
    simp only
    rw [if_neg (by omega), Int.toNat_natCast]
  rw [e1, e2, Nat.min_eq_left hn, List.take_of_length_le (by rw [List.length_drop]; omega)]
theorem oPart_int {f : ES} {i : Int} (e : f env = G.rt (.d (.int i))) : oPart (some f) env = G.rt (some i) := by
  show bnd (f env) _ = _
  rw [e]
  rfl
theorem evComp {itf : G.Env → Sm SIt} {p : Pat} {tt : G.Env → Sm Bool} {el : ES} {vs : List Nat} : eVal (nComp itf p tt el vs) env = bnd (itf env) fun it => eVal (nComp (fun _ => G.rt it) p tt el vs) env := by
  unfold eVal nComp
  rw [bnd_assoc]
  rfl
theorem dr_cat {f g : ES} {xs : List PyData} {P : List PyData → Prop} (hf : Dr kp h o (f env) (fun m => m = .d (.list xs))) (hg : Dr kp h o (g env) (fun m => ∃ ys, m = .d (.list ys) ∧ P ys)) (hl : ∀ ys, P ys → xs.length + ys.length ≤ 16777216) : Dr kp h o (e2 oAdd f g env) (fun m => ∃ ys, m = .d (.list (xs ++ ys)) ∧ P ys) :=
  dr_e2 hf hg fun x y ex ⟨ys, ey, py⟩ => by
    subst ex ey
    refine Two.all (a := M.d (.list (xs ++ ys))) ?_ ⟨rfl, ys, rfl, py⟩
    funext h
    have hl := hl ys py
    have h2 : (xs.map M.d).length + (ys.map M.d).length ≤ LIM := by rw [List.length_map, List.length_map]; exact hl
    simp only [oAdd, tupM, lstM, if_pos h2, ← List.map_append, mkL, asDs_map]
/-- the list's items, its length -/
theorem dr_ixC {ds : List PyData} {i : Nat} {f : ES} {a b : Int} (e : env[i]? = some (some (.obj h.length))) (hf : Dr kp h (some ds) (f env) (IntIn a b)) (h0 : 0 ≤ a) (h1 : b < (ds.length : Int)) : Dr kp h (some ds) (e2 oIx (eVar i) f env) (fun m => ∃ x, m = .d x ∧ x ∈ ds) :=
  dr_e2 (A := fun m => m = .obj h.length) (dr_var e rfl) hf fun x y ex ⟨j, ey, h2, h3⟩ => by
    subst ex ey
    obtain ⟨m, em, hm⟩ := atI_mem (xs := ds.map M.d) (i := j) (by omega) (by rw [List.length_map]; omega)
    obtain ⟨d, hd, rfl⟩ := List.mem_map.mp hm
    refine Two.get (a := M.d d) (fun c => ?_) ⟨rfl, d, rfl, hd⟩
    simp only [oIx, tupM, lstM, St.at_, lsO, cellMs, em]
    rfl
theorem dr_lenC {ds : List PyData} {i : Nat} (e : env[i]? = some (some (.obj h.length))) : Dr kp h (some ds) (eB nLen (aCons (eVar i) aNil) env) (fun m => m = .d (.int (ds.length : Int))) := by
  unfold eB aCons aNil
  rw [var_rt e]
  simp only [bnd_rt]
  refine Two.get (a := M.d (.int (ds.length : Int))) (fun c => ?_) ⟨rfl, rfl⟩
  simp only [nLen, lenM, tupM, lstM, St.at_, lsO, cellMs, List.length_map]
theorem dr_itm {f : ES} {i : Int} {B : Int} (hf : Dr kp h o (f env) (fun m => ∃ x, m = .d x ∧ EntB B x)) (hi : i = 0 ∨ i = 1 ∨ i = 2) : Dr kp h o (e2 oIx f (eC (.int i)) env) (IntIn (-B) B) :=
  dr_e2 hf (B := fun m => m = .d (.int i)) (Two.rt ⟨rfl, rfl⟩) fun x y ⟨d, ex, a, b, c, ed, h1, h2, h3⟩ ey => by
    subst ex ey ed
    rcases hi with rfl | rfl | rfl
    · exact Two.all (a := M.d (.int a)) rfl ⟨rfl, a, rfl, h1.1, h1.2⟩
    · exact Two.all (a := M.d (.int b)) rfl ⟨rfl, b, rfl, h2.1, h2.2⟩
    · exact Two.all (a := M.d (.int c)) rfl ⟨rfl, c, rfl, h3.1, h3.2⟩
/-! ### statements -/
variable {R : Fl × G.Env → Option (List PyData) → Prop} {g g1 g2 : SS}
theorem two_at {env' : G.Env} (t : Two kp h o (g env') R) (e : env = env' := by rfl) : Two kp h o (g env) R := by rw [e]; exact t
theorem two_set {i : Nat} {f : ES} {P : M → Prop} (hf : Dr kp h o (f env) P) (k : ∀ m, P m → Two kp h o (g (env.set i (some m))) R) : Two kp h o (sSeq (sSet (.nm i) f) g env) R := by
  unfold sSeq sSet
  rw [bnd_assoc]
  exact Dr.bnd hf fun m p => k m p
theorem two_setE {i : Nat} {f : ES} {P : M → Prop} (hf : Dr kp h o (f env) P) (k : ∀ m, P m → R (.nx, env.set i (some m)) o) : Two kp h o (sSet (.nm i) f env) R := by
  unfold sSet
  exact Dr.bnd hf fun m p => Two.rt (k m p)
theorem two_par {i j : Nat} {f1 f2 : ES} {A B : M → Prop} (h1 : Dr kp h o (f1 env) A) (h2 : Dr kp h o (f2 env) B) (k : ∀ x y, A x → B y → Two kp h o (g ((env.set i (some x)).set j (some y))) R) : Two kp h o (sSeq (sPar i j (aCons f1 (aCons f2 aNil))) g env) R := by
  unfold sSeq sPar
  rw [bnd_assoc]
  refine Dr.bnd (dr_cons h1 (dr_cons h2 dr_nil)) ?_
  rintro ms ⟨x, _, rfl, px, y, _, rfl, py, rfl⟩
  exact k x y px py
theorem two_nx {A : G.Env → Option (List PyData) → Prop} (h1 : Two kp h o (g1 env) fun r o' => r.1 = .nx ∧ A r.2 o') (k : ∀ env' o', A env' o' → Two kp h o' (g2 env') R) : Two kp h o (sSeq g1 g2 env) R := by
  unfold sSeq
  refine Two.bnd h1 ?_
  rintro ⟨fl, env'⟩ o' ⟨rfl, a⟩
  exact k env' o' a
theorem two_setP {p : Pat} {f : ES} {P : M → Prop} (hf : Dr kp h o (f env) P) (k : ∀ m, P m → ∃ env', p.asg m env = some env' ∧ Two kp h o (g env') R) : Two kp h o (sSeq (sSet p f) g env) R := by
  unfold sSeq sSet
  rw [bnd_assoc]
  refine Dr.bnd hf fun m q => ?_
  obtain ⟨env', e, t⟩ := k m q
  rw [e]
  exact t
theorem two_if {t : G.Env → Sm Bool} {B : Bool → Prop} (ht : Dr kp h o (t env) B) (h1 : B true → Two kp h o (g1 env) R) (h2 : B false → Two kp h o (g2 env) R) : Two kp h o (sIf t g1 g2 env) R := by
  unfold sIf
  refine Dr.bnd ht fun b pb => ?_
  cases b with
  | true => rw [if_pos rfl]; exact h1 pb
  | false => rw [if_neg Bool.false_ne_true]; exact h2 pb
theorem two_ifS {t : G.Env → Sm Bool} {B : Bool → Prop} (ht : Dr kp h o (t env) B) (h1 : B true → Two kp h o (g1 env) R) (hr : ∀ r o', R r o' → r.1 ≠ .nx) (h2 : B false → Two kp h o (g2 env) R) : Two kp h o (sSeq (sIf t g1 sNil) g2 env) R := by
  unfold sSeq sIf
  rw [bnd_assoc]
  refine Dr.bnd ht fun b pb => ?_
  cases b with
  | true =>
    rw [if_pos rfl]
    refine Two.bnd (h1 pb) ?_
    rintro ⟨fl, env'⟩ o' q
    have := hr _ _ q
    cases fl with
    | nx => exact absurd rfl this
    | _ => exact Two.rt q
  | false =>
    rw [if_neg Bool.false_ne_true]
    exact h2 pb
theorem two_app {ds : List PyData} {i : Nat} {f : ES} {P : PyData → Prop} (e : env[i]? = some (some (.obj h.length))) (hl : ds.length < 16777216) (hf : Dr kp h (some ds) (f env) (fun m => ∃ x, m = .d x ∧ P x)) (k : ∀ x, P x → R (.nx, env) (some (ds ++ [x]))) : Two kp h (some ds) (sExp (eApp (eVar i) f) env) R := by
  unfold sExp eApp
  rw [var_rt e]
  simp only [bnd_rt, bnd_assoc]
  refine Dr.bnd (P := fun _ => True) (Two.get (a := ()) (fun c => by simp only [chkL, lstM, St.at_, lsO, cellMs]) ⟨rfl, trivial⟩) fun _ _ => ?_
  refine Dr.bnd hf fun m ⟨x, em, px⟩ => ?_
  subst em
  refine Two.bnd (P := fun _ o' => o' = some (ds ++ [x])) (Two.get (a := M.d .none) (o' := some (ds ++ [x])) (fun c => ?_) rfl) fun _ o' eo => ?_
  · simp only [apd, St.at_, lsO]
    rw [if_pos (show ds.length < LIM from hl)]
    exact congrArg (fun z => some (Out.val (M.d .none) z)) (St.put (o := some ds) (o' := some (ds ++ [x])))
  · subst eo
    exact Two.rt (k x px)
theorem two_setIx {ds : List PyData} {i : Nat} {fi f : ES} {P : PyData → Prop} {j : Int} (e : env[i]? = some (some (.obj h.length))) (hf : Dr kp h (some ds) (f env) (fun m => ∃ x, m = .d x ∧ P x)) (hi : fi env = G.rt (.d (.int j))) (h0 : 0 ≤ j) (h1 : j < (ds.length : Int)) (k : ∀ x, P x → R (.nx, env) (some (ds.set j.toNat x))) : Two kp h (some ds) (sSetIx (eVar i) fi f env) R := by
  unfold sSetIx
  refine Dr.bnd hf fun m ⟨x, em, px⟩ => ?_
  subst em
  rw [var_rt e, bnd_rt, hi, bnd_rt]
  refine Two.bnd (P := fun _ o' => o' = some (ds.set j.toNat x)) (Two.get (a := ()) (o' := some (ds.set j.toNat x)) (fun c => ?_) rfl) fun _ o' eo => ?_
  · have en : ixN ds.length j = some j.toNat := by
      unfold ixN
      rw [if_pos h0, if_pos (by omega)]
    simp only [setD, St.at_, lsO, en]
    exact congrArg (fun z => some (Out.val () z)) (St.put (o := some ds) (o' := some (ds.set j.toNat x)))
  · subst eo
    exact Two.rt (k x px)
theorem two_asg2 {ds : List PyData} {i : Nat} {fi fj f : ES} {P : PyData → Prop} {a b : Int} (e : env[i]? = some (some (.obj h.length))) (hf : Dr kp h (some ds) (f env) (fun m => ∃ x y, m = .d (.tuple [x, y]) ∧ P x ∧ P y)) (hi : fi env = G.rt (.d (.int a))) (hj : fj env = G.rt (.d (.int b))) (a0 : 0 ≤ a) (a1 : a < (ds.length : Int)) (b0 : 0 ≤ b) (b1 : b < (ds.length : Int))
    (k : ∀ x y, P x → P y → R (.nx, env) (some ((ds.set a.toNat x).set b.toNat y))) : Two kp h (some ds) (sAsg (gtTup (gtCons (gtSub (eVar i) fi) (gtCons (gtSub (eVar i) fj) gtNil)) 2) f env) R := by
  unfold sAsg
  refine Dr.bnd hf fun m ⟨x, y, em, px, py⟩ => ?_
  subst em
  have eg : gtTup (gtCons (gtSub (eVar i) fi) (gtCons (gtSub (eVar i) fj) gtNil)) 2 (.d (.tuple [x, y])) env = bnd (setD (.obj h.length) (.d (.int a)) (.d x)) fun _ => bnd (setD (.obj h.length) (.d (.int b)) (.d y)) fun _ => G.rt env := by
    show bnd (bnd (eVar i env) fun x1 => bnd (fi env) fun i1 => bnd (setD x1 i1 (.d x)) fun _ => G.rt env) (fun env' => bnd (bnd (eVar i env') fun x1 => bnd (fj env') fun i1 => bnd (setD x1 i1 (.d y)) fun _ => G.rt env') fun env'' => G.rt env'') = _
    rw [var_rt e, bnd_rt, hi, bnd_rt, bnd_assoc]
    refine congrArg (bnd _) (funext fun _ => ?_)
    rw [bnd_rt, var_rt e, bnd_rt, hj, bnd_rt, bnd_assoc]
    rfl
  rw [eg, bnd_assoc]
  refine Two.bnd (dr_setD a0 a1) fun _ o' eo => ?_
  subst eo
  rw [bnd_assoc]
  refine Two.bnd (dr_setD b0 (by rw [List.length_set]; exact b1)) fun _ o' eo => ?_
  subst eo
  exact Two.rt (k x y px py)
theorem asDs_maps {ds : List PyData} : asDs (ds.map M.d) = some ds := asDs_map _
theorem two_eM {ds : List PyData} {i : Nat} {op : List M → List M → Option (M × List M)} {fs : G.Env → Sm (List M)} {P : List M → Prop} (e : env[i]? = some (some (.obj h.length))) (hf : Dr kp h (some ds) (fs env) P) (ho : ∀ as, P as → ∃ m ds', op (ds.map M.d) as = some (m, ds'.map M.d) ∧ R (.nx, env) (some ds')) : Two kp h (some ds) (sExp (eM op (eVar i) fs) env) R := by
  unfold sExp eM
  rw [var_rt e]
  simp only [bnd_rt, bnd_assoc]
  refine Dr.bnd (P := fun _ => True) (Two.get (a := ()) (fun c => by simp only [chkL, lstM, St.at_, lsO, cellMs]) ⟨rfl, trivial⟩) fun _ _ => ?_
  refine Dr.bnd hf fun as pa => ?_
  obtain ⟨m, ds', eo, r⟩ := ho as pa
  refine Two.bnd (P := fun _ o' => o' = some ds') (Two.get (a := m) (o' := some ds') (fun c => ?_) rfl) fun _ o' e => ?_
  · simp only [St.at_, lsO, cellMs, eo]
    refine congrArg (fun z => some (Out.val m z)) ?_
    have : mkCell (ds'.map M.d) = lsO (some ds') := by
      unfold mkCell
      rw [asDs_maps]
      rfl
    rw [this]
    exact St.put (o := some ds) (o' := some ds')
  · subst e
    exact Two.rt r
theorem two_frz {ds : List PyData} {i : Nat} (e : env[i]? = some (some (.obj h.length))) (k : R (.rt (.d (.list ds)), env) none) : Two kp h (some ds) (sRet (eFrz (eVar i)) env) R := by
  unfold sRet eFrz
  rw [var_rt e, bnd_rt]
  refine Two.bnd (P := fun m o' => m = .d (.list ds) ∧ o' = none) (Two.get (a := M.d (.list ds)) (o' := none) (fun c => ?_) ⟨rfl, rfl⟩) fun m o' ⟨e1, e2⟩ => ?_
  · simp only [frzM, St.at_, lsO]
    exact congrArg (fun z => some (Out.val (M.d (.list ds)) z)) (St.put (o := some ds) (o' := none))
  · subst e1 e2
    exact Two.rt k
theorem two_frzD {x : PyData} {i : Nat} (e : env[i]? = some (some (.d x))) (k : R (.rt (.d x), env) o) : Two kp h o (sRet (eFrz (eVar i)) env) R := by
  unfold sRet eFrz
  rw [var_rt e, bnd_rt]
  exact Two.rt k
/-- a walk -/
theorem two_forL (I : Nat → G.Env → Option (List PyData) → Prop) {p : Pat} {body : SS} : ∀ {xs : List M} {k : Nat} {env : G.Env} {o : Option (List PyData)}, I k env o →
    (∀ i m, xs[i]? = some m → ∀ env o, I (k + i) env o → ∃ env1, p.asg m env = some env1 ∧ Two kp h o (body env1) fun r o' => r.1 = .nx ∧ I (k + i + 1) r.2 o') → Two kp h o (forL p body xs env) fun r o' => r.1 = .nx ∧ I (k + xs.length) r.2 o'
  | [], k, env, o, i, _ => Two.rt ⟨rfl, i⟩
  | m :: ms, k, env, o, i, st => by
    obtain ⟨env1, e1, t⟩ := st 0 m rfl env o i
    simp only [forL, e1]
    refine Two.bnd t ?_
    rintro ⟨fl, env2⟩ o' ⟨rfl, i2⟩
    have := two_forL I (xs := ms) (k := k + 1) i2 fun j x hx env o hi => by
      have := st (j + 1) x (by simpa using hx) env o (by rw [show k + (j + 1) = k + 1 + j by omega]; exact hi)
      rw [show k + (j + 1) + 1 = k + 1 + j + 1 by omega] at this
      exact this
    rw [List.length_cons, show k + (ms.length + 1) = k + 1 + ms.length by omega]
    exact this
theorem two_for {I : Nat → G.Env → Option (List PyData) → Prop} {itf : G.Env → Sm SIt} {p : Pat} {body : SS} {X : List M → Prop} (hi : Dr kp h o (itf env) fun it => ∃ xs, it = .vals xs ∧ X xs) (h0 : I 0 env o)
    (st : ∀ xs, X xs → ∀ i m, xs[i]? = some m → ∀ env o, I i env o → ∃ env1, p.asg m env = some env1 ∧ Two kp h o (body env1) fun r o' => r.1 = .nx ∧ I (i + 1) r.2 o') : Two kp h o (sFor itf p body env) fun r o' => r.1 = .nx ∧ ∃ xs, X xs ∧ I xs.length r.2 o' := fun c => by
  obtain ⟨it, c1, o1, e, rfl, xs, rfl, px⟩ := hi c
  obtain ⟨r, c2, o2, e2, p1, p2⟩ := two_forL (kp := kp) (h := h) I (p := p) (body := body) (xs := xs) (k := 0) h0 (fun i m hm env o hI => by
    rw [Nat.zero_add] at hI ⊢
    exact st xs px i m hm env o hI) c1
  rw [Nat.zero_add] at p2
  exact ⟨r, c2, o2, by rw [for_vals e, e2], p1, xs, px, p2⟩
/-- a def with one list of its own -/
theorem gen_mkS {n : Nat} {ms : List M} {P : M → Prop} (H : ∀ h, PotAt kp h → ∃ c env0 o, g1 (startE n ms) h = some (.val (.nx, env0) (St h kp c o)) ∧ Two kp h o (g2 env0) fun r _ => ∃ x, r.1 = .rt (.d x) ∧ P (.d x)) : Gen kp (mkFnS 0 n (sSeq g1 g2) ms) P := fun h hp => by
  obtain ⟨c, env0, o, e, t⟩ := H h hp
  obtain ⟨⟨fl, env1⟩, c', o', e2, x, e3, p⟩ := t c
  have e3 : fl = .rt (.d x) := e3
  subst e3
  refine ⟨.d x, c', ?_, p⟩
  exact mkFnS_0 (l := [lsO o']) (mkFn_val (env' := env1) ((seq_nx e).trans e2)) (by rw [List.length_set]) (hp.set c').flat
theorem par_cell {i j : Nat} {f1 f2 : ES} {ds : List PyData} {P : M → Prop} (hp : PotAt kp h) (e : f1 env h = some (.val (.obj h.length) (h ++ [.lst ds]))) (hg : Gen kp (f2 env) P) : ∃ c m, sPar i j (aCons f1 (aCons f2 aNil)) env h = some (.val (.nx, (env.set i (some (.obj h.length))).set j (some m)) (St h kp c (some ds))) ∧ P m := by
  obtain ⟨c0, e0⟩ := St.begin (o := some ds) hp
  obtain ⟨m, c, o', e1, rfl, p⟩ := Dr.gen (o := some ds) hp hg c0
  refine ⟨c, m, ?_, p⟩
  unfold sPar
  simp only [aCons, aNil]
  rw [bnd_assoc, bnd_val e, show h ++ [Cell.lst ds] = St h kp c0 (some ds) from e0, bnd_assoc, bnd_assoc, bnd_val e1]
  rfl
/-- the list against [] -/
theorem dr_eqNil {ds : List PyData} {i : Nat} (e : env[i]? = some (some (.obj h.length))) (la : PyData.canLayAll0 ds = true) : Dr kp h (some ds) (e2 oEq (eVar i) (eVal (nLst aNil)) env) (fun m => ∃ k : Bool, m = .d (.bool k) ∧ (k = false → ds ≠ [])) := by
  have en : eVal (nLst aNil) env = G.rt (.d (.list [])) := rfl
  unfold e2
  rw [var_rt e, bnd_rt, en, bnd_rt]
  refine Two.get (a := M.d (.bool ds.isEmpty)) (o' := some ds) (fun c => ?_) ⟨rfl, _, rfl, fun h2 h3 => by rw [h3] at h2; exact Bool.noConfusion h2⟩
  have l1 : (PyData.list ds).canLay0 = true := la
  have l2 : (PyData.list []).canLay0 = true := rfl
  have d2 : decide ((PyData.list []).depth ≤ 60) = true := rfl
  have ev : PyData.eqv (.list ds) (.list []) = ds.isEmpty := by cases ds <;> rfl
  simp only [oEq, eqD, rsv, St.at_, lsO, shal, l1, l2, d2, Bool.or_true, Bool.and_true, if_true, ev]
end
theorem lay_ents {B : Int} : ∀ {ds : List PyData}, (∀ x ∈ ds, EntB B x) → PyData.canLayAll0 ds = true
  | [], _ => rfl
  | x :: ds, hx => by
    obtain ⟨a, b, c, rfl, _⟩ := hx x (List.mem_cons_self ..)
    have := lay_ents fun y hy => hx y (List.mem_cons_of_mem _ hy)
    simp only [PyData.canLayAll0, this, Bool.and_true]
    rfl
end G

/-! exceptions of own classes -/
namespace G
open PySem PySem.Spec L2 PyProof.Rows
/-- what leaves, by its class' name -/
def WofE (mg : Str → Option Value) (E : G.XE) : WX := fun cls d _ H => ∃ c : String, mg (Str.ofString c) = some cls ∧ d = none ∧ E c H
def EofXK (mg : Str → Option Value) (E : XK) : G.XE := fun c H => ∀ cls, mg (Str.ofString c) = some cls → E cls none H
/-- raise c(..) -/
def exc1 {α : Type} (c : String) : Sm α := fun h => some (.exc c h)
def sRaise (c : String) (f : ES) : SS := fun env => bnd (f env) fun _ => exc1 c
theorem PostG.mono' {α : Type} {K : PySem.W.Frag} {E E' : G.XE} {W : Wd} {o : Option (Out α)} {Q : α → Wd → Prop} (p : PostG K E W o Q) (i : ∀ c H, E c H → E' c H) : PostG K E' W o Q := by
  cases o with
  | none => exact p
  | some o =>
    cases o with
    | val a h' => exact p
    | exc c h' => exact fun W' e ok s => i _ _ (p W' e ok s)
/-- the chain of ValueError -/
def bmV : List Value := [.type "ValueError", .type "Exception", .type "BaseException", .type "object"]
structure ExcOk (K : PySem.W.Frag) (C : Addr) : Prop where
  ex : PySem.W.excIn K C bmV "ValueError.__new__" = true
  kp : PySem.W.keepIn K (.ref C) = true
  s1 : PySem.W.subIn K (.ref C) (.type "BaseException") = some true
  t1 : PySem.W.typeIn K (.ref C) = some (.type "type")
section
variable {X : Cx} {E : G.XE}
/-- X(e), e one value -/
theorem pmk_ownE {x : Str} {C : Addr} {a : Expr} {ta : TA} {p pos : Pos} (K1 : ExcOk X.K C) (gC : X.mg x = some (.ref C)) (hg : Gl X x) (ha : PA X [a] ta)
    (hdb : (x == ("__debug__" : Str)) = false := by decide) (he : starEach (a :: []) X.env = (false, eval a X.env) :: starEach [] X.env := by rfl) (hpl : (backTo pos (starEach [] X.env)).any (·.1) = false := by rfl) :
    PMk X (.Call (.Name x p) [a] [] pos) (fun σ H Q => ta σ H fun vs H1 => vs.length = 1 ∧ Q (.ref C) none H1) := by
  intro pins s σ H Q I h
  refine wpAny_Call_Name_kw (ld_glob I hg gC ?_ hdb)
  refine PySem.W.callWith_K (h₀ := X.base) I.ok.mod.kin K1.kp (thn (ha.run pos pins s σ H _ I h) fun us s1 hh => ?_) he hpl
  obtain ⟨vs, H1, I1, r1, hl, q⟩ := hh
  refine ⟨I1.kIn, ?_⟩
  have hl2 : us.length = 1 := by rw [← r1.length]; exact hl
  match us, hl2 with
  | [u], _ =>
    show wpAny _ _ (call (.ref C) [u]) _ _ _
    obtain ⟨bm, N, nm, qn, bs, hdct, sn, sub, ab, col, dd, k0, k1, k2, k3, k5, mN, hC, hN, hni, T⟩ := exc_obj I1.kIn K1.ex
    refine wpAny_call_exc_subT PySem.F.excBase_ValueError T hC hN hni (fun h' e hm => ?_) (by show 1 ≤ sizeLine; rw [sizeLine_eq]; omega)
    exact mk_of I1 hm (raises_own K1.s1 K1.t1) q (I1.hok.gone hm.new)
theorem s_raise {c : String} {C : Addr} {f : ES} {a : Expr} {p pos pos' : Pos} (hc : X.calm = true) (tk : Takes X (WofE X.mg E)) (K1 : ExcOk X.K C) (gC : X.mg (Str.ofString c) = some (.ref C)) (hg : Gl X (Str.ofString c)) (ha : PE X a (tM X.K E f))
    (hdb : ((Str.ofString c) == ("__debug__" : Str)) = false := by decide +kernel) (he : starEach (a :: []) X.env = (false, eval a X.env) :: starEach [] X.env := by rfl) (hpl : (backTo pos (starEach [] X.env)).any (·.1) = false := by rfl) :
    PS X (.Raise (some (.Call (.Name (Str.ofString c) p) [a] [] pos)) none pos') (tS X.K E (sRaise c f)) := by
  refine PS.imp (ps_raise hc tk (pmk_ownE (ta := tCons (tM X.K E f) tNil) K1 gC hg (pa_cons ha pa_nil he) hdb he hpl)) fun D σ H ⟨W, env, hH, ok, er, q⟩ => ?_
  subst hH
  refine ⟨W, env, rfl, ok, er, (PostG.bind q).mono fun m W1 ok1 s1 q1 v rv => ⟨rfl, c, gC, rfl, ?_⟩⟩
  exact q1 W1 rfl ok1 (Step.refl W1)
end
/-- the promise of a def that may let out an exception -/
def spX (K : PySem.W.Frag) (mg : Str → Option Value) (n : Nat) (f : Fn) : Sp := fun vs H Q E => ∃ W ms, W.H = H ∧ W.Ok K ∧ RVs K W ms vs ∧ ms.length = n ∧ PostG K (EofXK mg E) W (f ms W.h) (QV K Q)
structure CalX (P : Program) (w : World) (K : PySem.W.Frag) (mg : Str → Option Value) (base : Heap) (k : Nat) (x : Str) (ps : List Str) (f : Fn) : Prop where
  ex : ∃ (a : Addr) (fd : FuncData), mg x = some (.ref a) ∧ PySem.W.keepIn K (.ref a) = true ∧ Binds K fd ps [] ∧ FnG P w K mg base (L2.CX P w) k a fd ps (spX K mg ps.length f)
section
variable {P : Program} {w : World} {K : PySem.W.Frag} {mg : Str → Option Value} {base : Heap}
theorem start_endsE {E : G.XE} {W : Wd} {g : SS} {N : List Str} {ms : List M} {vs : List V} {Q : VK} (ok : W.Ok K) (r : RVs K W ms vs) (p : PostG K E W (mkFn N.length g ms W.h) (QV K Q)) : tS K E g { nx := fun _ H' => Q .non H', rt := Q } (start N vs) W.H :=
  ⟨W, startE N.length ms, rfl, ok, ER.begin N r, (PostG.bind p).mono fun x W1 ok1 s1 q1 => match x, q1 with
    | (.nx, _), q1 => fun σ' _ => (PostG.ret (E := E) (Q := QV K Q) ok1 q1) .non (by simp only [RM, RD])
    | (.rt m, _), q1 => fun v rv => (PostG.ret (E := E) (Q := QV K Q) ok1 q1) v rv
    | (.bk, _), q1 => False.elim q1
    | (.ct, _), q1 => False.elim q1⟩
/-- a def that may raise, by its body -/
theorem calX_of {x qual : Str} {st : Stmt} {f : Addr} {fd : FuncData} {N ps : List Str} {k : Nat} {g : SS} (F : Fun K x qual st f fd) (hm : mg x = some (.ref f)) (S : FnScope N ps (defScope st)) (hb : Binds K fd ps [])
    (hbody : ∀ (E : G.XE) (cdv : Value) (A : Around) (outer : List PySem.Env) (s : Shared) (H : Hp) (Ex : XK), Room k (A.deeper (envOfC qual (defScope st) s.heap.objs.size f cdv)) → (A.deeper (envOfC qual (defScope st) s.heap.objs.size f cdv)).guards = some [] →
      Takes (cxOf (L2.CX P w) P w K mg base N qual (defScope st) f cdv A outer s H Ex) (WofE mg E) → PassesOwn (model P w) (A.deeper (envOfC qual (defScope st) s.heap.objs.size f cdv)) (envOfC qual (defScope st) s.heap.objs.size f cdv) (cxOf (L2.CX P w) P w K mg base N qual (defScope st) f cdv A outer s H Ex).xe →
      PSs (cxOf (L2.CX P w) P w K mg base N qual (defScope st) f cdv A outer s H Ex) (defBody st) (tS K E g)) : CalX P w K mg base (k + 1) x ps (mkFn N.length g) := by
  refine ⟨f, fd, hm, F.kp, hb, ?_⟩
  obtain ⟨oc, od, kV, doc, pm, an, cdv, ct, osl, rfl, lk, hcd⟩ := F.ex
  refine fnG_of lk hcd S (fun vs H Q E ⟨W, ms, _, _, r, hl, _⟩ => by rw [RMs.length r, hl]) fun A outer s H vs Q Ex hr hgd ⟨W, ms, hH, ok, r, hl, p⟩ => ?_
  subst hH
  have tk : Takes (cxOf (L2.CX P w) P w K mg base N qual (defScope st) f cdv A outer s W.H Ex) (fun cls d _ H => Ex cls d H) := takes_of rfl rfl rfl rfl
  exact ⟨tS K (EofXK mg Ex) g, hbody (EofXK mg Ex) cdv A outer s W.H Ex hr hgd (tk.imp fun cls d σ H ⟨c, e1, e2, e3⟩ => by rw [e2]; exact e3 cls e1) (passes_of rfl), start_endsE ok r p⟩
theorem CalX.mono {x : Str} {ps : List Str} {j k : Nat} {f : Fn} (C : CalX P w K mg base j x ps f) (h : j ≤ k) : CalX P w K mg base k x ps f := by
  obtain ⟨a, fd, h1, h2, h3, h4⟩ := C.ex
  exact ⟨a, fd, h1, h2, h3, h4.len, fun A outer s H args us vs Q E hr => h4.run A outer s H args us vs Q E (hr.mono h)⟩
end
def eCallX (n : Nat) (f : Fn) (fs : G.Env → Sm (List M)) : ES := fun env => bnd (fs env) fun ms => if ms.length = n then f ms else fail
section
variable {X : Cx} {E : G.XE} {pos p : Pos} {e : Expr} {es : List Expr} {fs : G.Env → Sm (List M)}
theorem p_callX {k k' : Nat} {x : Str} {ps : List Str} {f : Fn} (C : CalX X.prog X.w X.K X.mg X.base k' x ps f) (tk : Takes X (WofE X.mg E)) (hr : Room k X.A) (hgd : X.A.guards = some []) (hk : k' ≤ k) (hg : Gl X x) (ha : PA X (e :: es) (tA X.K E fs))
    (hdb : (x == ("__debug__" : Str)) = false := by decide) (he : starEach (e :: es) X.env = (false, eval e X.env) :: starEach es X.env := by rfl) (hpl : (backTo pos (starEach es X.env)).any (·.1) = false := by rfl) :
    PE X (.Call (.Name x p) (e :: es) [] pos) (tM X.K E (eCallX ps.length f fs)) := by
  obtain ⟨a, fd, h1, h2, h3, h4⟩ := C.ex
  refine PE.imp (pe_callG (E := fun cls d H => ∃ c : String, X.mg (Str.ofString c) = some cls ∧ d = none ∧ E c H) h4 (hr.mono hk) hgd hg h1 h2 h3 (passes_call tk fun cls d σ H h => h) ha hdb he hpl) fun σ H Q ⟨W, env, hH, ok, er, q⟩ => ?_
  subst hH
  refine ⟨W, env, rfl, ok, er, (PostG.bind q).mono fun ms W1 ok1 s1 q1 vs rvs => ?_⟩
  by_cases hl : ms.length = ps.length
  · rw [if_pos hl] at q1
    exact ⟨W1, ms, rfl, ok1, by rw [List.append_nil]; exact rvs, hl, q1.mono' fun c H h cls hc => ⟨c, hc, rfl, h⟩⟩
  · rw [if_neg hl] at q1
    exact q1.elim
/-- .. where it lets none out -/
theorem p_callXN {k k' : Nat} {x : Str} {ps : List Str} {f : Fn} (C : CalX X.prog X.w X.K X.mg X.base k' x ps f) (hr : Room k X.A) (hgd : X.A.guards = some []) (hk : k' ≤ k) (hg : Gl X x) (ha : PA X (e :: es) (tA X.K E fs))
    (hdb : (x == ("__debug__" : Str)) = false := by decide) (he : starEach (e :: es) X.env = (false, eval e X.env) :: starEach es X.env := by rfl) (hpl : (backTo pos (starEach es X.env)).any (·.1) = false := by rfl) :
    PE X (.Call (.Name x p) (e :: es) [] pos) (tM X.K E (eCall ps.length f fs)) := by
  obtain ⟨a, fd, h1, h2, h3, h4⟩ := C.ex
  refine PE.imp (pe_callG (E := E0) h4 (hr.mono hk) hgd hg h1 h2 h3 passL ha hdb he hpl) fun σ H Q ⟨W, env, hH, ok, er, q⟩ => ?_
  subst hH
  refine ⟨W, env, rfl, ok, er, (PostG.bind q).mono fun ms W1 ok1 s1 q1 vs rvs => ?_⟩
  by_cases hl : ms.length = ps.length
  · rw [if_pos hl] at q1
    exact ⟨W1, ms, rfl, ok1, by rw [List.append_nil]; exact rvs, hl, nox_ok q1⟩
  · rw [if_neg hl] at q1
    exact q1.elim
end
end G

/-! an exception caught, handed to a def that tells its class -/
namespace L2H
theorem RoomH.units {k : Nat} {A : PySem.Around} (r : RoomH k A) : A.units + 64 < PySem.cLine := by have := r.un; omega
theorem RoomH.units0 {k : Nat} {A : PySem.Around} (r : RoomH k A) : A.units < PySem.cLine := by have := r.un; omega
theorem RoomH.u65 {k : Nat} {A : PySem.Around} (r : RoomH k A) : A.units + 65 < PySem.cLine := by have := r.un; omega
end L2H
namespace L2
theorem Room.u65 {k : Nat} {A : PySem.Around} (r : Room k A) : A.units + 65 < PySem.cLine := by have := r.un; omega
end L2
namespace G
open PySem PySem.Spec L2 PyProof.Rows
open L2H (cxH inv_startH RoomH PinOk)
/-- a def that is called with the exception at p -/
structure FnW (P : Program) (w : World) (K : PySem.W.Frag) (mg : Str → Option Value) (base : Heap) (k : Nat) (f : Addr) (fd : FuncData) (ps : List Str) (sp : Addr × Obj → Sp) : Prop where
  run : ∀ (A : Around) (outer : List PySem.Env) (s : Shared) (H : Hp) (args : Args) (us : List Value) (vs : List V) (Q : VK) (E : XK) (p : Addr × Obj), RoomH k A → A.guards = some [] → PinOk outer H s p → Env0 P w K mg base A outer s H → BindsTo s fd args (ps.zip us) → Vals vs us → vs.length = ps.length → sp p vs H Q E →
    codeAny (model P w) A (.call (.ref f) args) (CR CX0 outer P w H s Q E) s
section
variable {P : Program} {w : World} {K : PySem.W.Frag} {mg : Str → Option Value} {base : Heap}
theorem fnW_of {k : Nat} {f : Addr} {name qual : Str} {params : Arguments} {body : List Stmt} {scope : Scope} {dV kV doc pm cdv ct oc : Value} {an od : Option Addr}
    {osl : Array (Option Value)} {N ps : List Str} {sp : Addr × Obj → Sp} (lk : K.lookup f = some ⟨oc, od, .func (PySem.W.fnOf name qual params body scope dV kV doc pm an cdv ct), osl⟩) (hcd : PySem.W.codeIn K cdv qual = true) (S : FnScope N ps scope)
    (hbody : ∀ (A : Around) (outer : List PySem.Env) (s : Shared) (H : Hp) (vs : List V) (Q : VK) (E : XK) (p : Addr × Obj), RoomH k (A.deeper (envOfC qual scope s.heap.objs.size f cdv)) → (A.deeper (envOfC qual scope s.heap.objs.size f cdv)).guards = some [] → sp p vs H Q E →
      ∃ t, PSs (cxH CX0 P w K mg base N qual scope f cdv A outer s H E p).nox body t ∧ t { nx := fun _ H' => Q .non H', rt := Q } (start N vs) H) :
    FnW P w K mg base (k + 1) f (PySem.W.fnOf name qual params body scope dV kV doc pm an cdv ct) ps sp := by
  refine ⟨fun A outer s H args us vs Q E p hr hgd hpin e0 hb r hl hsp => ?_⟩
  have kept : ∀ b o, base.get? b = some o → s.heap.get? b = some o := fun b o e => (e0.bs b o e).1
  have hkind : ∀ y ∈ ps.zip us, scope.names.lookup y.1 = some .local ∨ (scope.names.lookup y.1 = some .cell ∧ ((cellsFrom (s.heap.objs.size + 1) scope.names []).lookup y.1).isSome = true) := by
    rintro ⟨n, v⟩ hy
    have hn := List.of_mem_zip hy
    cases S.par n hn.1 with
    | inl q => exact .inl q
    | inr q => exact .inr ⟨q, PySem.W.cellsFrom_some _ _ _ (.inl q)⟩
  have room := hr.depth
  refine codeAny_call_function room ((e0.mod.kin.keeps kept) _ _ lk) rfl S.co S.gen rfl (PySem.W.codeRec_of (e0.mod.kin.keeps kept) hcd) (hb _ _ _ _ (PySem.wpAny_newFunctionEnv_cells S.kind hkind fun env he s1 x => ?_))
  subst he
  refine ⟨(e0.mod.nolimit.keeps kept).keeps x.toInCall.keep, codeAny_func ?_⟩
  obtain ⟨t, ht, hq⟩ := hbody A outer s H vs Q E p (hr.deeper _) hgd hsp
  have I := inv_startH (CX := CX0) (qual := qual) (f := f) (cd := cdv) (E := E) S hpin e0 hl r x
  have fin : ∀ {σ' : L2.St} {H' : Hp} {v : V} {u : Value} {s' : Shared}, Inv (cxH CX0 P w K mg base N qual scope f cdv A outer s H E p) [] σ' H' s' → RelV v u → Q v H' → CE outer P w H s Q u s' := fun J rv q => ⟨_, _, J.os, J.bare, J.base, J.hok, rv, q⟩
  refine wpAny_mono (ht.nox.run [] s1 (start N vs) H _ I hq) (fun fl s' hs => ?_) fun e s' hs => hs
  match fl, hs with
  | .ret u, ⟨v, σ', H', J, rv, q⟩ => exact fin J rv q
  | .next, ⟨σ', H', J, q⟩ => exact fin (v := V.non) (u := Value.none) J rfl q
  | .brk, ⟨_, _, _, q⟩ => exact q.elim
  | .cont, ⟨_, _, _, q⟩ => exact q.elim
/-- the def that tells words: where it stands; of an exception of the class named c it tells word c -/
def spW (K : PySem.W.Frag) (mg : Str → Option Value) (word : String → Option M) : Addr × Obj → Sp := fun p vs H Q _ => vs = [.ref p.1] ∧ ∃ (c : String) (C : Addr) (m : M) (W : Wd), mg (Str.ofString c) = some (.ref C) ∧ Zc (.ref C) none p.2 ∧ (∃ us, p.2.data = .fields us) ∧ word c = some m ∧ W.H = H ∧ W.Ok K ∧ ∀ W', W'.h = W.h → W'.Ok K → Step W W' → ∀ v, RV K W' m v → Q v W'.H
structure WordOk (P : Program) (w : World) (K : PySem.W.Frag) (mg : Str → Option Value) (base : Heap) (k : Nat) (x : Str) (word : String → Option M) : Prop where
  ex : ∃ (f : Addr) (fd : FuncData) (y : Str), mg x = some (.ref f) ∧ PySem.W.keepIn K (.ref f) = true ∧ Binds K fd [y] [] ∧ FnW P w K mg base k f fd [y] (spW K mg word)
/-- .. by its body, at each class -/
theorem word_of {x qual : Str} {st : Stmt} {f : Addr} {fd : FuncData} {N : List Str} {y : Str} {k : Nat} {word : String → Option M} {g : Addr → String → SS} (F : Fun K x qual st f fd) (hm : mg x = some (.ref f)) (S : FnScope N [y] (defScope st)) (hb : Binds K fd [y] [])
    (hw : ∀ c m, word c = some m → ∀ a, mkFn N.length (g a c) [.ad a] = rt m)
    (hbody : ∀ (c : String) (C : Addr) (m : M) (cdv : Value) (A : Around) (outer : List PySem.Env) (s : Shared) (H : Hp) (E : XK) (p : Addr × Obj), word c = some m → mg (Str.ofString c) = some (.ref C) → Zc (.ref C) none p.2 → (∃ us, p.2.data = .fields us) → RoomH k (A.deeper (envOfC qual (defScope st) s.heap.objs.size f cdv)) → (A.deeper (envOfC qual (defScope st) s.heap.objs.size f cdv)).guards = some [] →
      PSs (cxH CX0 P w K mg base N qual (defScope st) f cdv A outer s H E p).nox (defBody st) (tS K XE0 (g p.1 c))) : WordOk P w K mg base (k + 1) x word := by
  refine ⟨f, fd, y, hm, F.kp, hb, ?_⟩
  obtain ⟨oc, od, kV, doc, pm, an, cdv, ct, osl, rfl, lk, hcd⟩ := F.ex
  refine fnW_of lk hcd S fun A outer s H vs Q E p hr hgd ⟨ev, c, C, m, W, hc, hz, hf, hwd, hH, ok, q⟩ => ?_
  subst hH ev
  refine ⟨_, hbody c C m cdv A outer s W.H E p hwd hc hz hf hr hgd, start_ends (ms := [.ad p.1]) ok ⟨.ref p.1, [], rfl, rfl, rfl⟩ ?_⟩
  rw [hw c m hwd p.1]
  exact fun W' e1 e2 e3 v rv => q W' e1 e2 e3 v rv
end
section
variable {X : Cx} {word : String → Option M}
/-- return word(e), in the suite -/
def tsW (K : PySem.W.Frag) (mg : Str → Option Value) (word : String → Option M) (i : Nat) : Addr → Value → Option Addr → TS := fun a cls d D σ H => d = none ∧ σ[i]? = some (some (.ref a)) ∧ ∃ (c : String) (C : Addr) (m : M) (W : Wd), mg (Str.ofString c) = some (.ref C) ∧ cls = .ref C ∧ word c = some m ∧ W.H = H ∧ W.Ok K ∧ ∀ W', W'.h = W.h → W'.Ok K → Step W W' → ∀ v, RV K W' m v → D.rt v W'.H
theorem ss_word {k k' : Nat} {x n : Str} {i : Nat} {a : Addr} {oe : Obj} {cls : Value} {d : Option Addr} {pn : List (Addr × Obj)} {p q cpos pos : Pos} (Wk : WordOk X.prog X.w X.K X.mg X.base k' x word) (hk : k' ≤ k) (hr : RoomH k X.A) (hgd : X.A.guards = some []) (hz : Zc cls d oe) (hf : ∃ vs, oe.data = .fields vs) (hg : Gl X x) (hs : X.stack = X.env :: X.outer) (hfr : X.env.frame = some X.env.locals)
    (hv : PE (X.suite a ((a, oe) :: pn)) (.Name n q) (tVar i)) (hdb : (x == ("__debug__" : Str)) = false := by decide) (he : starEach [.Name n q] X.env = (false, eval (.Name n q) X.env) :: starEach [] X.env := by rfl) (hpl : (backTo cpos (starEach [] X.env)).any (·.1) = false := by rfl) :
    PSs (X.suite a ((a, oe) :: pn)) [.Return (some (.Call (.Name x p) [.Name n q] [] cpos)) pos] (tsW X.K X.mg word i a cls d) := by
  obtain ⟨f, fd, y, h1, h2, h3, h4⟩ := Wk.ex
  have ha : PA (X.suite a ((a, oe) :: pn)) [.Name n q] (tCons (tVar i) tNil) := pa_cons hv pa_nil he
  have pe : PE (X.suite a ((a, oe) :: pn)) (.Call (.Name x p) [.Name n q] [] cpos) (fun σ H Q => σ[i]? = some (some (.ref a)) ∧ spW X.K X.mg word (a, oe) [.ref a] H Q E0) := by
    refine ⟨fun pins s σ H Q I h => ?_⟩
    refine wpAny_Call_Name_kw (ld_glob I hg h1 ?_ hdb)
    refine PySem.W.callWith_K (h₀ := X.base) I.ok.mod.kin h2 (thn (ha.run cpos pins s σ H (fun vs H1 => vs = [V.ref a] ∧ H1 = H) I ⟨_, h.1, rfl, rfl⟩) fun us s1 hh => ?_) he hpl
    obtain ⟨vs, H1, I1, r, ev, eH⟩ := hh
    subst ev eH
    refine ⟨I1.kIn, ?_⟩
    have P1 := I1.pin (a, oe) (List.mem_append_left _ List.mem_cons_self)
    have hpin : PinOk X.stack H1 s1 (a, oe) := ⟨P1.1, P1.2.1, fun hm => (List.mem_cons.mp (I1.stkSub a hm)).elim P1.2.2.1 P1.2.2.2.1, P1.2.2.2.2⟩
    have hl : (us ++ []).length = [y].length := by rw [List.append_nil, ← r.length]; rfl
    have hb := h3 s1 us I1.kIn hl
    rw [List.append_nil] at hb
    refine wpAny_call (codeAny_mono (h4.run (X.suite a ((a, oe) :: pn)).A X.stack s1 H1 ⟨us, []⟩ us [.ref a] Q E0 (a, oe) ⟨(hr.mono hk).dp, (hr.mono hk).un⟩ hgd hpin I1.env0 hb r rfl h.2) fun r s' hq => ?_)
    match r, hq with
    | .error e, hq => exact False.elim hq
    | .ok (.ret u), hq => exact I1.after hq
    | .ok .next, hq => exact False.elim hq
    | .ok .brk, hq => exact False.elim hq
    | .ok .cont, hq => exact False.elim hq
  refine PSs.imp (pss_one (ps_ret pe)) fun D σ H ⟨ed, e1, c, C, m, W, hc, ec, hwd, hH, ok, q⟩ => ?_
  subst ec ed
  exact ⟨e1, rfl, c, C, m, W, hc, hz, hf, hwd, hH, ok, q⟩
theorem takes_len {W W' : WX} (t : Takes X W) (h : ∀ c d σ H, σ.length = X.N.length → W' c d σ H → W c d σ H) : Takes X W' := fun u s' ⟨a, B, sI, pins, σ, H, cls, d, e, I, nb, up, sky, na, os, ag, w⟩ =>
  t u s' ⟨a, B, sI, pins, σ, H, cls, d, e, I, nb, up, sky, na, os, ag, h _ _ _ _ I.len w⟩
def EW (mg : Str → Option Value) (n : Nat) (W : WX) : G.XE := fun c H => ∀ cls σ, σ.length = n → mg (Str.ofString c) = some cls → W cls none σ H
/-- try: .. except C as e: return word(e) -/
def sTryW (word : String → Option M) (g : SS) : SS := fun env h => match g env h with
  | some (.exc c h') => match word c with
    | some m => some (.val (.rt m, env) h')
    | none => none
  | o => o
theorem s_tryW {E : G.XE} {k k' : Nat} {x y n : Str} {gv : Value} {i : Nat} {body : List Stmt} {g : SS} {np p q cpos rpos pos' pos : Pos} (Wk : WordOk X.prog X.w X.K X.mg X.base k' x word) (hk : k' ≤ k) (hr : RoomH k X.A) (hgd : X.A.guards = some []) (hg : Gl X x) (hs : X.stack = X.env :: X.outer) (hf : X.env.frame = some X.env.locals) (hN : X.N.Nodup) (hi : X.N[i]? = some n) (hln : X.env.kindOf n = some .local) (hc : Names X y gv)
    (hx : ∀ c cls m, word c = some m → X.mg (Str.ofString c) = some cls → ∃ C, cls = .ref C ∧ PySem.W.exmOne X.K cls gv = some true)
    (hb : ∀ (E' : G.XE) (pn : List (Addr × Obj)) (xe : Value → Shared → Prop), Takes (X.tr pn xe) (WofE X.mg E') → PassesOwn (model X.prog X.w) X.A X.env xe → PSs (X.tr pn xe) body (tS X.K E' g))
    (hv : ∀ (a : Addr) (pn : List (Addr × Obj)), PE (X.suite a pn) (.Name n q) (tVar i)) (hdb : (x == ("__debug__" : Str)) = false := by decide) (he : starEach [.Name n q] X.env = (false, eval (.Name n q) X.env) :: starEach [] X.env := by rfl) (hpl : (backTo cpos (starEach [] X.env)).any (·.1) = false := by rfl) :
    PS X (.Try body [.ExceptHandler (some (.Name y np)) (some n) [.Return (some (.Call (.Name x p) [.Name n q] [] cpos)) rpos] pos'] [] [] pos) (tS X.K E (sTryW word g)) := by
  refine PS.imp (ps_try_as (tb := fun W => tS X.K (EW X.mg X.N.length W) g) (ts := tsW X.K X.mg word i) (Wout := fun _ _ _ _ => False) hs hf hN hi hln hc takes0 (fun W pn xe tk po => hb _ pn xe (takes_len tk fun cls d σ H hl ⟨c, e1, e2, e3⟩ => by rw [e2]; exact e3 cls σ hl e1) po)
    (fun a oe cls d pn hz hfd => ss_word Wk hk hr hgd hz hfd hg hs hf (hv a _) hdb he hpl)) fun D σ H ⟨W, env, hH, ok, er, r⟩ => ?_
  subst hH
  refine ⟨W, env, rfl, ok, er, ?_⟩
  unfold sTryW at r
  cases e : g env W.h with
  | none => rw [e] at r; exact r
  | some o =>
    rw [e] at r
    cases o with
    | val z h' => exact r
    | exc c h' =>
      simp only at r
      cases hw : word c with
      | none => rw [hw] at r; exact r.elim
      | some m =>
        rw [hw] at r
        intro W' e1 ok1 s1 cls σ' hl hcl
        obtain ⟨C, rfl, hx1⟩ := hx c cls m hw hcl
        refine ⟨true, hx1, fun _ a na => ⟨rfl, ?_, c, C, m, W', hcl, rfl, hw, rfl, ok1, fun W'' e2 ok2 s2 v rv => r W'' (e2.trans e1) ok2 (s1.trans s2) v rv⟩, fun z => Bool.noConfusion z⟩
        have hlt : i < σ'.length := by rw [hl]; exact (List.getElem?_eq_some_iff.mp hi).1
        rw [List.getElem?_set_self hlt]
/-! ### isinstance(e, C), e the exception that is pinned -/
theorem call_isW {a D : Addr} {oe : Obj} (C : ExcC X.K D) (hz : Zc (.ref D) none oe) (hf : ∃ vs, oe.data = .fields vs) (hp : (a, oe) ∈ X.pn) : CallR X (.builtin "isinstance") (rIsE X.K D a) := by
  rintro pins s σ H xs us Q I r ⟨c, cv, b, rfl, hcv, e, q⟩
  obtain ⟨u1, u2, rfl, r1, r2⟩ := Vals.two r
  obtain rfl : u1 = Value.ref a := r1
  obtain rfl := hcv _ r2
  have P1 := (I.pin (a, oe) (List.mem_append_left _ hp)).1
  obtain ⟨vs, hv⟩ := hf
  have J : PySem.W.InstAt s.heap a oe D none := ⟨P1, hz.1, by unfold PySem.W.notCls; rw [hv] <;> rfl, by rw [hz.2]; trivial⟩
  exact PySem.W.kia_one (PySem.W.handS_kitx_exc C.hg C.hk C.hs C.hd C.ha C.hn C.ht C.hm) I.kIn J e (fun z => nomatch z) fun tk => ⟨.bl b, H, I.kept (t' := tk) fun _ _ z => z, rfl, q⟩
def eIsW (a : Addr) (i : Nat) (b : Bool) : ES := fun env => match env[i]? with
  | some (some (.ad a')) => if a' = a then rt (.d (.bool b)) else fail
  | _ => fail
theorem p_isW {E : G.XE} {n y : Str} {i : Nat} {a D : Addr} {oe : Obj} {c : V} {cv : Value} {b : Bool} {p q q2 pos : Pos} (C : ExcC X.K D) (hz : Zc (.ref D) none oe) (hf : ∃ vs, oe.data = .fields vs) (hp : (a, oe) ∈ X.pn) (hg : Gl X "isinstance") (hm : X.mg "isinstance" = none) (hv : PE X (.Name n q) (tVar i)) (hcl : PE X (.Name y q2) (tC c)) (hcv : ∀ u, RelV c u → u = cv) (hk : PySem.W.kitOne X.K (.ref D) cv = some b)
    (h1 : starEach [.Name n q, .Name y q2] X.env = (false, eval (.Name n q) X.env) :: starEach [.Name y q2] X.env := by rfl) (h2 : starEach [.Name y q2] X.env = [(false, eval (.Name y q2) X.env)] := by rfl) (hpl : (backTo pos (starEach [.Name y q2] X.env)).any (·.1) = false := by rfl) :
    PE X (.Call (.Name "isinstance" p) [.Name n q, .Name y q2] [] pos) (tM X.K E (eIsW a i b)) := by
  refine PE.imp (pe_callB (call_isW C hz hf hp) hg hm PyProof.Rows.boot_isinstance (pa_cons hv (pa_cons hcl pa_nil h2) h1) (by decide) (by decide) h1 hpl) fun σ H Q ⟨W, env, hH, ok, er, r⟩ => ?_
  subst hH
  unfold eIsW at r
  cases e : env[i]? with
  | none => rw [e] at r; exact r.elim
  | some o =>
    cases o with
    | none => rw [e] at r; exact r.elim
    | some m =>
      rw [e] at r
      cases m with
      | ad a' =>
        simp only at r
        by_cases ha : a' = a
        · subst ha
          rw [if_pos rfl] at r
          obtain ⟨v, e1, e2⟩ := er.2 i _ e
          obtain rfl : v = V.ref a' := e2
          exact ⟨_, e1, c, cv, b, rfl, hcv, hk, (PostG.ret (E := E) (Q := fun m W' => ∀ v, RV X.K W' m v → Q v W'.H) (a := M.d (.bool b)) ok r) _ (by simp only [RM, RD])⟩
        · rw [if_neg ha] at r
          exact r.elim
      | _ => exact r.elim
end
end G

/-! list.count, list.index -/
namespace G
open PySem PySem.Spec L2 PyProof.Rows
def eLm (op : Hh → M → M → Option M) (fo fe : ES) : ES := fun env => bnd (fo env) fun x => bnd (chkL x) fun _ => bnd (fe env) fun y h => match op h x y with
  | some m => some (.val m h)
  | none => none
def JLm (K : PySem.W.Frag) (r : V → List V → Hp → VK → Prop) (op : Hh → M → M → Option M) : Prop := ∀ (W : Wd) (x y m : M) (v u : V) (Q : VK), W.Ok K → RV K W x v → RV K W y u → op W.h x y = some m → (∀ w, RV K W m w → Q w W.H) → r v [u] W.H Q
theorem t_Lm {K : PySem.W.Frag} {E : G.XE} {r : V → List V → Hp → VK → Prop} {op : Hh → M → M → Option M} {fo fe : ES} (j : JLm K r op) : ∀ σ H Q, tM K E (eLm op fo fe) σ H Q → tBM K "list" r (tM K E fo) (tA K E (aCons fe aNil)) σ H Q := fun σ H Q ⟨W, env, hH, ok, er, p⟩ => by
  subst hH
  refine ⟨W, env, rfl, ok, er, (PostG.bind p).mono fun x W1 ok1 s1 p1 v rv => ?_⟩
  obtain ⟨ty, p1'⟩ := chkL_ok ok1 rv (PostG.bind p1)
  refine ⟨ty, W1, env, rfl, ok1, er.step s1, ?_⟩
  have p2 := PostG.bind p1'
  unfold aCons aNil
  cases e : fe env W1.h with
  | none => rw [e] at p2; exact p2.elim
  | some o =>
    rw [e] at p2
    cases o with
    | exc c h' =>
      have : bnd (fe env) (fun x => bnd (rt []) fun xs => rt (x :: xs)) W1.h = some (.exc c h') := by unfold bnd; rw [e]
      rw [this]
      exact p2
    | val y h' =>
      have : bnd (fe env) (fun x => bnd (rt []) fun xs => rt (x :: xs)) W1.h = some (.val [y] h') := by
        unfold bnd
        rw [e]
        rfl
      rw [this]
      intro W2 eh ok2 s2 vs rvs
      have p3 := p2 W2 eh ok2 s2
      obtain ⟨u, e1, ru⟩ := RMs.one rvs
      subst e1
      simp only at p3
      cases eo : op W2.h x y with
      | none => rw [eo] at p3; exact p3.elim
      | some m =>
        rw [eo] at p3
        exact j W2 x y m v u Q ok2 (RM.step rv s2) ru eo fun w rw' => p3 W2 rfl ok2 (Step.refl W2) w rw'
/-! ### count -/
def opCount (h : Hh) (x y : M) : Option M := match rsv h x, rsv h y with
  | some (.list ds), some d => if (PyData.plainAll ds && (d.plain && decide (d.depth ≤ 60))) = true then some (.d (.int ((ds.countP fun z => PyData.eqv z d : Nat) : Int))) else none
  | _, _ => none
mutual
theorem noDict_of_plain : ∀ d : PyData, d.plain = true → d.hasDict = false
  | .none, _ => rfl
  | .bool _, _ => rfl
  | .int _, _ => rfl
  | .str _, _ => rfl
  | .list xs, h => by rw [PyData.hasDict]; exact noDictL_of_plain xs (by simpa only [PyData.plain] using h)
  | .tuple xs, h => by rw [PyData.hasDict]; exact noDictL_of_plain xs (by simpa only [PyData.plain] using h)
  | .dict _, h => by simp only [PyData.plain] at h; cases h
theorem noDictL_of_plain : ∀ ds : List PyData, PyData.plainAll ds = true → PyData.hasDictAll ds = false
  | [], _ => rfl
  | d :: ds, h => by
    simp only [PyData.plainAll, Bool.and_eq_true] at h
    rw [PyData.hasDictAll, noDict_of_plain d h.1, noDictL_of_plain ds h.2]; rfl
end
def rCountD (K : PySem.W.Frag) : V → List V → Hp → VK → Prop := fun x xs H Q => ∃ (a : Addr) (y : V) (d : PyData) (ds : List PyData), x = V.ref a ∧ xs = [y] ∧ Dp K H (V.ref a) (.list ds) ∧ Dp K H y d ∧ PyData.plainAll ds = true ∧ d.plain = true ∧ d.depth ≤ 60 ∧ Q (.int ((ds.countP fun z => PyData.eqv z d : Nat) : Int)) H
theorem dp_list_ref {K : PySem.W.Frag} {H : Hp} {v : V} {ds : List PyData} (h : Dp K H v (.list ds)) : ∃ a, v = .ref a := by cases h; exact ⟨_, rfl⟩
theorem mt_countD {X : Cx} (hu : X.A.units + 65 < cLine) : MtR X "list.count" (rCountD X.K) := by
  rintro pins s σ H x xs v us Q I rx rxs ⟨a, y, d, ds, rfl, rfl, hl, hy, pl, pd, dd, q⟩
  obtain rfl : v = Value.ref a := rx
  obtain ⟨uy, rfl, ry⟩ := Vals.one rxs
  obtain ⟨bs, r1⟩ := Dp.reads I d y uy hy ry
  cases hl with
  | lst hs ha =>
    obtain ⟨its, rv, ph, hlen⟩ := I.list hs
    obtain ⟨as, h4⟩ := Dp.readsAll I ds _ its ha rv
    refine PySem.SeqAt.count_list_data (vs := its.toArray) ph.isList h4 r1 pl pd ?_ ⟨.int _, H, I.tok _, ⟨_, rfl⟩, q⟩
    have := Nat.min_le_right (PyData.depthAll ds) d.depth
    omega
theorem jl_count {K : PySem.W.Frag} : JLm K (rCountD K) opCount := fun W x y m v u Q ok r1 r2 e q => by
  unfold opCount at e
  cases e1 : rsv W.h x with
  | none => rw [e1] at e; cases e
  | some dx =>
    cases e2 : rsv W.h y with
    | none => rw [e1, e2] at e; cases dx <;> cases e
    | some d =>
      rw [e1, e2] at e
      cases dx with
      | list ds =>
        simp only at e
        split at e
        · rename_i hc
          simp only [Bool.and_eq_true, decide_eq_true_eq] at hc
          cases e
          have d1 := rsv_dp ok r1 e1 (by rw [PyData.hasDict]; exact noDictL_of_plain ds hc.1)
          obtain ⟨a, rfl⟩ := dp_list_ref d1
          exact ⟨a, u, d, ds, rfl, rfl, d1, rsv_dp ok r2 e2 (noDict_of_plain d hc.2.1), hc.1, hc.2.1, hc.2.2, q _ (by simp only [RM, RD])⟩
        · cases e
      | _ => cases e
/-! ### index -/
def opIndex (h : Hh) (x y : M) : Option M := match rsv h x, rsv h y with
  | some (.list ds), some d => if (SeqAt.shaped (.list ds) && SeqAt.shaped d) = true then (ds.findIdx? fun z => PyData.eqv z d).map fun j => .d (.int (j : Int)) else none
  | _, _ => none
theorem jl_index {K : PySem.W.Frag} : JLm K (rIndexD K) opIndex := fun W x y m v u Q ok r1 r2 e q => by
  unfold opIndex at e
  cases e1 : rsv W.h x with
  | none => rw [e1] at e; cases e
  | some dx =>
    cases e2 : rsv W.h y with
    | none => rw [e1, e2] at e; cases dx <;> cases e
    | some d =>
      rw [e1, e2] at e
      cases dx with
      | list ds =>
        simp only at e
        split at e
        · rename_i hc
          simp only [Bool.and_eq_true] at hc
          cases hj : ds.findIdx? fun z => PyData.eqv z d with
          | none => rw [hj] at e; cases e
          | some j =>
            rw [hj] at e
            cases e
            have d1 := rsv_dp ok r1 e1 (PyData.hasDict_of_canLay _ (SeqAt.canLay_of_shaped hc.1))
            obtain ⟨a, rfl⟩ := dp_list_ref d1
            obtain ⟨h1, h2, h3⟩ := List.findIdx?_eq_some_iff_getElem.mp hj
            refine ⟨a, u, d, ds, j, ds[j], rfl, rfl, d1, rsv_dp ok r2 e2 (PyData.hasDict_of_canLay _ (SeqAt.canLay_of_shaped hc.2)), hc.1, hc.2, List.getElem?_eq_getElem h1, h2, fun k z hk hz => ?_, q _ (by simp only [RM, RD])⟩
            obtain ⟨hk2, rfl⟩ := List.getElem?_eq_some_iff.mp hz
            have := h3 k hk
            simpa using this
        · cases e
      | _ => cases e
section
variable {X : Cx} {E : G.XE} {pos apos : Pos} {o e : Expr} {fo f : ES}
theorem p_lcount (hu : X.A.units + 65 < cLine) (ho : PE X o (tM X.K E fo)) (he : PE X e (tM X.K E f)) (hbase : attributeBase o "count" X.env (eval o X.env) = eval o X.env := by rfl)
    (hfew : ((backTo pos (starEach [e] X.env)).all (fun x => !x.1) && (backToKw pos (keywordEach [] X.env)).all (fun x => x.1.isSome) && decide ([e].length + ([] : List Keyword).length + (if ([] : List Keyword).isEmpty then 0 else 1) < 30)) = true := by rfl)
    (hline : (apos.endLine == pos.line) = true := by rfl) (hs : starEach [e] X.env = (false, eval e X.env) :: starEach [] X.env := by rfl) (hplain : (backTo pos (starEach [] X.env)).any (·.1) = false := by rfl) :
    PE X (.Call (.Attribute o "count" apos) [e] [] pos) (tM X.K E (eLm opCount fo f)) := PE.imp (pe_bm PySem.F.plainAttrs_list PySem.F.slot_list_count PySem.F.type_list_count (mt_countD hu) ho (q_cons he q_nil hs) hbase hfew hline hs hplain) (t_Lm jl_count)
theorem p_lindex (hu : X.A.units + 65 < cLine) (ho : PE X o (tM X.K E fo)) (he : PE X e (tM X.K E f)) (hbase : attributeBase o "index" X.env (eval o X.env) = eval o X.env := by rfl)
    (hfew : ((backTo pos (starEach [e] X.env)).all (fun x => !x.1) && (backToKw pos (keywordEach [] X.env)).all (fun x => x.1.isSome) && decide ([e].length + ([] : List Keyword).length + (if ([] : List Keyword).isEmpty then 0 else 1) < 30)) = true := by rfl)
    (hline : (apos.endLine == pos.line) = true := by rfl) (hs : starEach [e] X.env = (false, eval e X.env) :: starEach [] X.env := by rfl) (hplain : (backTo pos (starEach [] X.env)).any (·.1) = false := by rfl) :
    PE X (.Call (.Attribute o "index" apos) [e] [] pos) (tM X.K E (eLm opIndex fo f)) := PE.imp (pe_bm PySem.F.plainAttrs_list PySem.F.slot_list_index PySem.F.type_list_index (mt_indexD hu) ho (q_cons he q_nil hs) hbase hfew hline hs hplain) (t_Lm jl_index)
end
end G

/-! join of texts; the table of the classes of error -/
namespace G
open PySem PySem.Spec L2 PyProof.Rows
def strsD : List PyData → Option (List Str)
  | [] => some []
  | .str z :: r => match strsD r with
    | some zs => some (z :: zs)
    | none => none
  | _ :: _ => none
theorem strsD_dp {K : PySem.W.Frag} {H : Hp} : ∀ {ds : List PyData} {zs : List Str} {vs : List V}, strsD ds = some zs → DpAll K H vs ds → vs = zs.map V.str
  | [], zs, vs, e, h => by cases e; cases h; rfl
  | .str z :: r, zs, vs, e, h => by
    simp only [strsD] at e
    cases e1 : strsD r with
    | none => rw [e1] at e; cases e
    | some ys =>
      rw [e1] at e
      cases e
      cases h with
      | cons h1 h2 =>
        cases h1
        rw [strsD_dp e1 h2]
        rfl
  | .none :: _, _, _, e, _ => by cases e
  | .bool _ :: _, _, _, e, _ => by cases e
  | .int _ :: _, _, _, e, _ => by cases e
  | .list _ :: _, _, _, e, _ => by cases e
  | .tuple _ :: _, _, _, e, _ => by cases e
  | .dict _ :: _, _, _, e, _ => by cases e
theorem strsD_noDict : ∀ {ds : List PyData} {zs : List Str}, strsD ds = some zs → PyData.hasDictAll ds = false
  | [], _, _ => rfl
  | .str a :: ds, zs, h => by
    simp only [strsD] at h
    cases e : strsD ds with
    | none => simp only [e] at h; cases h
    | some ws => rw [PyData.hasDictAll, strsD_noDict e]; rfl
  | .none :: _, _, h => by cases h
  | .bool _ :: _, _, h => by cases h
  | .int _ :: _, _, h => by cases h
  | .list _ :: _, _, h => by cases h
  | .tuple _ :: _, _, h => by cases h
  | .dict _ :: _, _, h => by cases h
def chkStr (x : M) : Sm Str := match x with
  | .d (.str a) => rt a
  | _ => fail
def joinD (h : Hh) (a : Str) (y : M) : Option M := match (match rsv h y with | some (.list ds) => strsD ds | some (.tuple ds) => strsD ds | _ => none) with
  | some zs => if (zs.map (·.length)).sum + zs.length * a.length ≤ 16777216 then some (.d (.str (Txt.join a zs))) else none
  | none => none
def eJoin (fo fe : ES) : ES := fun env => bnd (fo env) fun x => bnd (chkStr x) fun a => bnd (fe env) fun y h => match joinD h a y with
  | some m => some (.val m h)
  | none => none
section
variable {X : Cx} {E : G.XE} {pos apos : Pos} {o e : Expr} {fo f : ES}
theorem p_join (ho : PE X o (tM X.K E fo)) (he : PE X e (tM X.K E f)) (hs : starEach [e] X.env = [(false, eval e X.env)] := by rfl) (hbase : attributeBase o "join" X.env (eval o X.env) = eval o X.env := by rfl) (hline : (apos.endLine == pos.line) = true := by rfl) :
    PE X (.Call (.Attribute o "join" apos) [e] [] pos) (tM X.K E (eJoin fo f)) := PE.imp (pe_join ho he hs hbase hline) fun σ H Q ⟨W, env, hH, ok, er, p⟩ => by
  subst hH
  refine ⟨W, env, rfl, ok, er, (PostG.bind p).mono fun x W1 ok1 s1 p1 v rv => ?_⟩
  unfold chkStr at p1
  split at p1
  · rename_i a
    have ev := str_of rv
    subst ev
    refine ⟨⟨a, rfl⟩, W1, env, rfl, ok1, er.step s1, (PostG.bind (show PostG X.K E W1 (bnd (f env) _ W1.h) _ from p1)).mono fun y W2 ok2 s2 p2 u ru => ?_⟩
    cases ej : joinD W2.h a y with
    | none => simp only [ej] at p2; exact p2.elim
    | some m =>
      simp only [ej] at p2
      unfold joinD at ej
      have fin : ∀ (p : Addr) (zs : List Str), u = V.ref p → (SqL X.K W2.H p (zs.map V.str) ∨ SqT X.K W2.H p (zs.map V.str)) → (if (zs.map (·.length)).sum + zs.length * a.length ≤ 16777216 then some (M.d (.str (Txt.join a zs))) else none) = some m →
          ∃ a' p ys, V.str a = V.str a' ∧ [u] = [V.ref p] ∧ (SqL X.K W2.H p (ys.map V.str) ∨ SqT X.K W2.H p (ys.map V.str)) ∧ (ys.map (·.length)).sum + ys.length * a'.length ≤ 16777216 ∧ Q (.str (Txt.join a' ys)) W2.H := fun p zs eu hq eif => by
        split at eif
        · rename_i hc
          cases eif
          exact ⟨a, p, zs, rfl, by rw [eu], hq, hc, p2 W2 rfl ok2 (Step.refl W2) _ (by simp only [RM, RD])⟩
        · cases eif
      cases ey : rsv W2.h y with
      | none => simp only [ey] at ej; cases ej
      | some d =>
        have dq := rsv_ok ok2 y u _ ru ey
        have dp : ∀ zs ds, strsD ds = some zs → (d = .list ds ∨ d = .tuple ds) → Dp X.K W2.H u d := fun zs ds es ed => Dq.dp d u (by rcases ed with rfl | rfl <;> (rw [PyData.hasDict]; exact strsD_noDict es)) dq
        cases d with
        | list ds =>
          simp only [ey] at ej
          cases es : strsD ds with
          | none => simp only [es] at ej; cases ej
          | some zs =>
            simp only [es] at ej
            cases dp zs ds es (.inl rfl) with
            | lst hs ha => exact fin _ zs rfl (.inl (by rw [← strsD_dp es ha]; exact hs)) ej
        | tuple ds =>
          simp only [ey] at ej
          cases es : strsD ds with
          | none => simp only [es] at ej; cases ej
          | some zs =>
            simp only [es] at ej
            cases dp zs ds es (.inr rfl) with
            | tup hs ha => exact fin _ zs rfl (.inr (by rw [← strsD_dp es ha]; exact hs)) ej
        | _ => simp only [ey] at ej; cases ej
  · exact p1.elim
end
/-! ### the classes -/
/-- what is asked of K, of the classes at Cs and their base at Cg -/
def clsChk (K : PySem.W.Frag) (C : Addr) : Bool := PySem.W.excIn K C bmV "ValueError.__new__" && (PySem.W.keepIn K (.ref C) && ((PySem.W.subIn K (.ref C) (.type "BaseException") == some true) && ((PySem.W.typeIn K (.ref C) == some (.type "type")) &&
  ((PySem.W.findIn K (.ref C) "__getattribute__" == some (some (.builtin "BaseException.__getattribute__"))) && ((PySem.W.findIn K (.ref C) "__getattr__" == some none) && (PySem.W.hasDictIn K C && ((PySem.W.findIn K (.ref C) "__class__" == some (some (.builtin "object.__class__"))) &&
  ((PySem.W.specialIn K (.builtin "object.__class__") "__get__" == some (some (.builtin "getset_descriptor.__get__"))) && ((PySem.W.takesIn K (.builtin "object.__class__") == some true) && (PySem.W.mroIn K C (.type "object") == some true))))))))))
def tabChk (K : PySem.W.Frag) (Cs : List Addr) (Cg : Addr) : Bool := Cs.zipIdx.all fun p => clsChk K p.1 && ((PySem.W.exmOne K (.ref p.1) (.ref Cg) == some true) && ((PySem.W.kitOne K (.ref p.1) (.type "ValueError") == some true) && Cs.zipIdx.all fun q => PySem.W.kitOne K (.ref p.1) (.ref q.1) == some (decide (p.2 = q.2))))
structure ClsTab (K : PySem.W.Frag) (mg : Str → Option Value) (names : List String) : Prop where
  base : ∃ G, mg "GuideError" = some (.ref G) ∧ ∀ (i : Nat) (c : String), names[i]? = some c → ∃ C, mg (Str.ofString c) = some (.ref C) ∧ PySem.W.exmOne K (.ref C) (.ref G) = some true
  ok : ∀ (i : Nat) (c : String), names[i]? = some c → ∃ C, mg (Str.ofString c) = some (.ref C) ∧ ExcOk K C ∧ ExcC K C ∧ PySem.W.kitOne K (.ref C) (.type "ValueError") = some true ∧ ∀ (j : Nat) (d : String), names[j]? = some d → ∃ D, mg (Str.ofString d) = some (.ref D) ∧ PySem.W.kitOne K (.ref C) (.ref D) = some (decide (i = j))
theorem clsChk_ok {K : PySem.W.Frag} {C : Addr} (h : clsChk K C = true) : ExcOk K C ∧ ExcC K C := by
  unfold clsChk at h
  simp only [Bool.and_eq_true, beq_iff_eq] at h
  obtain ⟨h1, h2, h3, h4, h5, h6, h7, h8, h9, h10, h11⟩ := h
  exact ⟨⟨h1, h2, h3, h4⟩, ⟨h5, h6, h3, h7, h8, h9, h10, h11⟩⟩
theorem clsTab_of {K : PySem.W.Frag} {mg : Str → Option Value} {names : List String} {Cs : List Addr} {Cg : Addr} (hg : mg "GuideError" = some (.ref Cg)) (hm : names.map (fun c => mg (Str.ofString c)) = Cs.map fun C => some (.ref C)) (h : tabChk K Cs Cg = true) : ClsTab K mg names := by
  have get : ∀ (i : Nat) (c : String), names[i]? = some c → ∃ C, Cs[i]? = some C ∧ mg (Str.ofString c) = some (.ref C) := fun i c e => by
    have e1 := congrArg (fun l => l[i]?) hm
    simp only [List.getElem?_map, e, Option.map_some] at e1
    cases e2 : Cs[i]? with
    | none => rw [e2] at e1; cases e1
    | some C => rw [e2] at e1; exact ⟨C, rfl, Option.some.inj e1⟩
  have zip : ∀ (i : Nat) (C : Addr), Cs[i]? = some C → (C, i) ∈ Cs.zipIdx := fun i C e => by
    refine List.mem_of_getElem? (i := i) ?_
    rw [List.getElem?_zipIdx, e]
    simp
  unfold tabChk at h
  rw [List.all_eq_true] at h
  refine ⟨⟨Cg, hg, fun i c e => ?_⟩, fun i c e => ?_⟩
  · obtain ⟨C, e1, e2⟩ := get i c e
    have := h _ (zip i C e1)
    simp only [Bool.and_eq_true, beq_iff_eq] at this
    exact ⟨C, e2, this.2.1⟩
  · obtain ⟨C, e1, e2⟩ := get i c e
    have := h _ (zip i C e1)
    simp only [Bool.and_eq_true, beq_iff_eq] at this
    obtain ⟨k1, k2⟩ := clsChk_ok this.1
    refine ⟨C, e2, k1, k2, this.2.2.1, fun j d ed => ?_⟩
    obtain ⟨D, e3, e4⟩ := get j d ed
    have q := List.all_eq_true.mp this.2.2.2 _ (zip j D e3)
    exact ⟨D, e4, by simpa using q⟩
/-! ### words by class -/
def exW (names : List String) (words : List Str) (c : String) : Option M := match names.findIdx? (· == c) with
  | some i => (words[i]?).map fun w => M.d (.str w)
  | none => none
theorem exW_idx {names : List String} {words : List Str} {c : String} {m : M} (h : exW names words c = some m) : ∃ i w, names.findIdx? (· == c) = some i ∧ names[i]? = some c ∧ words[i]? = some w ∧ m = M.d (.str w) := by
  unfold exW at h
  cases e : names.findIdx? (· == c) with
  | none => rw [e] at h; cases h
  | some i =>
    rw [e] at h
    cases e2 : words[i]? with
    | none => simp only [e2] at h; cases h
    | some w =>
      simp only [e2] at h
      obtain ⟨h1, h2, _⟩ := List.findIdx?_eq_some_iff_getElem.mp e
      refine ⟨i, w, rfl, ?_, e2, (Option.some.inj h).symm⟩
      rw [List.getElem?_eq_getElem h1, beq_iff_eq.mp h2]
theorem ex_hx {K : PySem.W.Frag} {mg : Str → Option Value} {names : List String} {words : List Str} {G : Addr} (hb : ∀ (i : Nat) (c : String), names[i]? = some c → ∃ C, mg (Str.ofString c) = some (.ref C) ∧ PySem.W.exmOne K (.ref C) (.ref G) = some true) :
    ∀ c cls m, exW names words c = some m → mg (Str.ofString c) = some cls → ∃ C, cls = .ref C ∧ PySem.W.exmOne K cls (.ref G) = some true := fun c cls m hw hc => by
  obtain ⟨i, w, _, h2, _⟩ := exW_idx hw
  obtain ⟨C, e1, e2⟩ := hb i c h2
  rw [e1] at hc
  cases hc
  exact ⟨C, rfl, e2⟩
theorem isW_at (a : Addr) (v1 v2 : Option M) (b : Bool) : eIsW a 0 b [some (.ad a), v1, v2] = rt (.d (.bool b)) := by
  unfold eIsW
  simp only [List.getElem?_cons_zero, if_true]
theorem bl4 {f1 f2 f3 f4 : ES} {env : G.Env} {b1 b2 b3 b4 : Bool} (h1 : f1 env = rt (.d (.bool b1))) (h2 : f2 env = rt (.d (.bool b2))) (h3 : f3 env = rt (.d (.bool b3))) (h4 : f4 env = rt (.d (.bool b4))) : eVal (nLst (aCons f1 (aCons f2 (aCons f3 (aCons f4 aNil))))) env = rt (.d (.list [.bool b1, .bool b2, .bool b3, .bool b4])) := by
  unfold eVal nLst aCons aNil
  simp only [h1, h2, h3, h4, bnd_rt]
  rfl
theorem addL {f g : ES} {env : G.Env} {xs ys : List PyData} (h1 : f env = rt (.d (.list xs))) (h2 : g env = rt (.d (.list ys))) (h : xs.length + ys.length ≤ 16777216) : e2 oAdd f g env = rt (.d (.list (xs ++ ys))) := by
  unfold e2
  rw [h1, bnd_rt, h2, bnd_rt]
  funext hh
  have h2 : (xs.map M.d).length + (ys.map M.d).length ≤ LIM := by rw [List.length_map, List.length_map]; exact h
  simp only [oAdd, tupM, lstM, if_pos h2, ← List.map_append, mkL, asDs_map]
/-! ### a def with lists of its own that may raise -/
section
variable {P : Program} {w : World} {K : PySem.W.Frag} {mg : Str → Option Value} {base : Heap}
theorem cut_postE {E : G.XE} {W : Wd} {e n : Nat} {g : SS} {ms : List M} {Q : VK} (p : PostG K E W (mkFnS e n g ms W.h) (QV K Q)) : PostG K E W (mkFn n g ms W.h) (QV K Q) := by
  unfold mkFnS at p
  cases e1 : mkFn n g ms W.h with
  | none => rw [e1] at p; exact p
  | some o =>
    rw [e1] at p
    cases o with
    | exc c h' => exact p
    | val m h' =>
      simp only at p
      by_cases hc : W.h.length + e ≤ h'.length ∧ m.low (W.h.length + e) = true ∧ (h'.take (W.h.length + e)).all (Cell.low (W.h.length + e)) = true
      · rw [if_pos hc] at p
        intro W1 eh ok1 s1 v rv
        subst eh
        obtain ⟨ok2, s2⟩ := cut_ok ok1 s1 hc.1 hc.2.2
        refine p { W1 with h := W1.h.take (W.h.length + e) } rfl ok2 s2 v ?_
        have hlen : (W1.h.take (W.h.length + e)).length = W.h.length + e := by rw [List.length_take]; have := hc.1; omega
        show RM K W1.ρ W1.F (W1.h.take (W.h.length + e)).length m v
        rw [hlen]
        exact RM.low m rv hc.2.1
      · rw [if_neg hc] at p
        exact p.elim
theorem CalX.scoped {x : Str} {ps : List Str} {k n e : Nat} {g : SS} (C : CalX P w K mg base k x ps (mkFn n g)) : CalX P w K mg base k x ps (mkFnS e n g) := by
  obtain ⟨a, fd, h1, h2, h3, h4⟩ := C.ex
  have imp : ∀ vs H Q E, spX K mg ps.length (mkFnS e n g) vs H Q E → spX K mg ps.length (mkFn n g) vs H Q E := fun vs H Q E ⟨W, ms, hH, ok, r, hl, p⟩ => ⟨W, ms, hH, ok, r, hl, cut_postE p⟩
  exact ⟨a, fd, h1, h2, h3, ⟨fun vs H Q E q => h4.len vs H Q E (imp _ _ _ _ q), fun A outer s H args us vs Q E hr hg he hb hv hs => h4.run A outer s H args us vs Q E hr hg he hb hv (imp _ _ _ _ hs)⟩⟩
end
end G

/-! texts: str(n), int(text), split, signs walked, a sign in a text -/
namespace G
open PySem PySem.Spec L2 PyProof.Rows
def nStrI : OpN
  | [.d (.int i)] => if i.natAbs.log2 < 1920 then rt (.d (.str (Str.ofString (toString i)))) else fail
  | _ => fail
theorem jc_strI {K : PySem.W.Frag} : JC K (fun xs H Q => ∃ i : Int, xs = [.int i] ∧ i.natAbs.log2 < 1920 ∧ Q (.str (toString i)) H) nStrI := fun E W xs vs Q ok r p => by
  unfold nStrI at p
  split at p
  · rename_i i
    obtain ⟨v, h1, h2⟩ := RMs.one r
    by_cases hc : i.natAbs.log2 < 1920
    · rw [if_pos hc] at p
      exact ⟨i, by rw [h1, int_of h2], hc, PostG.ret ok p _ (by simp only [RM, RD])⟩
    · rw [if_neg hc] at p
      exact p.elim
  · exact p.elim
def nIntS : OpN
  | [.d (.str a)] => match PySem.intText? a with
    | some n => if a.length ≤ 640 then rt (.d (.int n)) else fail
    | none => fail
  | _ => fail
theorem jc_intS {K : PySem.W.Frag} : JC K (fun xs H Q => ∃ a n, xs = [.str a] ∧ PySem.intText? a = some n ∧ a.length ≤ 640 ∧ Q (.int n) H) nIntS := fun E W xs vs Q ok r p => by
  unfold nIntS at p
  split at p
  · rename_i a
    obtain ⟨v, h1, h2⟩ := RMs.one r
    cases en : PySem.intText? a with
    | none => rw [en] at p; exact p.elim
    | some n =>
      rw [en] at p
      simp only at p
      by_cases hc : a.length ≤ 640
      · rw [if_pos hc] at p
        exact ⟨a, n, by rw [h1, str_of h2], en, hc, PostG.ret ok p _ (by simp only [RM, RD])⟩
      · rw [if_neg hc] at p
        exact p.elim
  · exact p.elim
def splitM (a : Str) (y : M) : Sm (List M) := match y with
  | .d (.str b) => if (b.length == 0) = false ∧ a.length + 2 ≤ 16777216 then rt ((Txt.split a b).map fun z => M.d (.str z)) else fail
  | _ => fail
def nSplit (fo fe : ES) : G.Env → Sm (List M) := fun env => bnd (fo env) fun x => bnd (chkStr x) fun a => bnd (fe env) fun y => splitM a y
theorem RMs.strs {K : PySem.W.Frag} {ρ : Nat → Addr} {F : Hp} {n : Nat} : ∀ zs : List Str, RMs K ρ F n (zs.map fun z => M.d (.str z)) (zs.map V.str)
  | [] => by simp only [List.map_nil, RMs]
  | z :: zs => by
    simp only [List.map_cons, RMs]
    exact ⟨_, _, rfl, by simp only [RM, RD], RMs.strs zs⟩
section
variable {X : Cx} {E : G.XE} {pos apos : Pos} {o e tg : Expr} {fo f : ES}
theorem p_split (ho : PE X o (tM X.K E fo)) (he : PE X e (tM X.K E f)) (hs : starEach [e] X.env = [(false, eval e X.env)] := by rfl) (hbase : attributeBase o "split" X.env (eval o X.env) = eval o X.env := by rfl) (hline : (apos.endLine == pos.line) = true := by rfl) :
    PE X (.Call (.Attribute o "split" apos) [e] [] pos) (tN X.K E (nSplit fo f)) := PE.imp (pe_split ho he hs hbase hline) fun σ H Q ⟨W, env, hH, ok, er, p⟩ => by
  subst hH
  refine ⟨W, env, rfl, ok, er, (PostG.bindF (Step.refl W) p).mono fun x W1 ok1 s1 ⟨s0, p1⟩ v rv => ?_⟩
  have isS : ∃ a, x = .d (.str a) := by
    unfold chkStr at p1
    split at p1
    · exact ⟨_, rfl⟩
    · exact p1.elim
  obtain ⟨a, rfl⟩ := isS
  · have ev := str_of rv
    subst ev
    refine ⟨⟨a, rfl⟩, W1, env, rfl, ok1, er.step s1, (PostG.bindF s0 (show PostG X.K E W (bnd (f env) (fun y => splitM a y) W1.h) _ from p1)).mono fun y W2 ok2 s2 ⟨s02, p2⟩ u ru => ?_⟩
    have isB : ∃ b, y = .d (.str b) := by
      unfold splitM at p2
      split at p2
      · exact ⟨_, rfl⟩
      · exact p2.elim
    obtain ⟨b, rfl⟩ := isB
    have eu := str_of ru
    subst eu
    have p2 : PostG X.K E W ((if (b.length == 0) = false ∧ a.length + 2 ≤ 16777216 then rt ((Txt.split a b).map fun z => M.d (.str z)) else fail) W2.h) _ := p2
    by_cases hc : (b.length == 0) = false ∧ a.length + 2 ≤ 16777216
    · rw [if_pos hc] at p2
      refine ⟨a, b, rfl, rfl, hc.1, hc.2, fun q hq => ?_⟩
      exact p2 (W2.more q (.lst ((Txt.split a b).map V.str))) rfl (ok2.more _ hq) (s02.trans (Step.more hq)) q _ (s02.dom q hq) (ok2.fp hq) (fun k hk => ok2.nec hq hk) upd_same (RMs.strs _)
    · rw [if_neg hc] at p2
      exact p2.elim
/-- the signs of a text, one by one -/
def iStrF (f : ES) : G.Env → Sm SIt := fun env => bnd (f env) fun x => bnd (chkStr x) fun a => rt (.vals (a.cps.toList.map fun c => M.d (.str ⟨#[c]⟩)))
theorem i_str (he : PE X e (tM X.K E f)) : PI X tg e (tIt X.K E (iStrF f)) := PI.imp (pi_str he) fun σ H R ⟨W, env, hH, ok, er, q⟩ => by
  subst hH
  refine ⟨W, env, rfl, ok, er, (PostG.bind q).mono fun x W1 ok1 s1 q1 v rv => ?_⟩
  unfold chkStr at q1
  split at q1
  · rename_i a
    have ev := str_of rv
    subst ev
    refine ⟨a, rfl, (PostG.ret (E := E) (a := SIt.vals _) ok1 q1) (Its a) fun W2 ok2 s2 i => ⟨fun e => ?_, fun m e => ?_⟩⟩
    · simp only [SIt.get, Option.some.injEq] at e
      show a.cps.size ≤ i
      have := List.getElem?_eq_none_iff.mp e
      rw [List.length_map, Array.length_toList] at this
      exact this
    · simp only [SIt.get, Option.some.injEq] at e
      rw [List.getElem?_map] at e
      obtain ⟨c, hc, rfl⟩ := Option.map_eq_some_iff.mp e
      rw [Array.getElem?_toList] at hc
      refine ⟨(Array.getElem?_eq_some_iff.mp hc).1, fun y H' hy => ?_⟩
      obtain ⟨e1, c', hc', rfl⟩ := hy
      rw [hc] at hc'
      cases hc'
      exact ⟨W2, e1.symm, rfl, ok2, Step.refl _, by simp only [RV, RM, RD]⟩
  · exact q1.elim
end
def oInS : Op2 := fun x y => match x, y with
  | .d (.str x), .d (.str z) => match x.cps.toList with
    | [c] => rt (.d (.bool (decide (c ∈ z.cps.toList))))
    | _ => fail
  | _, _ => fail
theorem j_inS {K : PySem.W.Frag} : J2 K rInS oInS := fun E W x y v u Q ok r1 r2 p => by
  unfold oInS at p
  split at p
  · rename_i x z
    have ev := str_of r1
    have eu := str_of r2
    subst ev eu
    obtain ⟨⟨l⟩⟩ := x
    match l, p with
    | [c], p =>
      unfold rInS
      exact ⟨c, z, rfl, rfl, PostG.ret ok p _ (by simp only [RM, RD])⟩
    | [], p => exact p.elim
    | _ :: _ :: _, p => exact p.elim
  · exact p.elim
end G

/-! dicts of ints as values; a def that calls itself; tuple * int; a + b to a new list -/
namespace G
open PySem PySem.Spec L2 PyProof.Rows
section
variable {X : Cx} {E : G.XE} {pos : Pos}
theorem p_dct0 : PE X (.Dict [] [] pos) (tM X.K E (eC (.dict []))) := PE.imp pe_dnewK fun σ H Q ⟨W, env, hH, ok, er, p⟩ => by
  subst hH
  intro q hq
  refine p (W.froz q (.dK [])) rfl (ok.froz _ hq) (Step.froz ok hq) _ ?_
  show RM X.K W.ρ (upd W.F q (.dK [])) W.h.length (.d (.dict [])) (.ref q)
  simp only [RM, RD, RKs]
  exact ⟨q, [], rfl, upd_same, rfl⟩
theorem p_dct1 {i j : Int} {ti tj : Pos} {bi bj} : PE X (.Dict [some (.Constant (.int i) bi ti)] [.Constant (.int j) bj tj] pos) (tM X.K E (eC (.dict [(.int i, .int j)]))) :=
  PE.imp (pe_disp (pps_cons (pe_int (j := bi) (pos := ti)) (pe_int (j := bj) (pos := tj)) pps_nil) rfl rfl (by simp) (by simp)) fun σ H Q ⟨W, env, hH, ok, er, p⟩ => by
  subst hH
  intro q hq
  refine ⟨upd_same, [(.inl i, .int j)], rfl, by simp, ?_⟩
  have e : upd (upd W.H q (.dK [])) q (.dK (mergeK [] [(.inl i, .int j)])) = upd W.H q (.dK [kInt (i, j)]) := by rw [upd_upd]; rfl
  rw [e]
  refine p (W.froz q (.dK [kInt (i, j)])) rfl (ok.froz _ hq) (Step.froz ok hq) _ ?_
  show RM X.K W.ρ (upd W.F q (.dK [kInt (i, j)])) W.h.length (.d (.dict [(.int i, .int j)])) (.ref q)
  simp only [RM, RD, RKs]
  exact ⟨q, [kInt (i, j)], rfl, upd_same, i, .int j, [], rfl, rfl, rfl, rfl⟩
end
/-! ### a + b, a new list to be a cell -/
section
variable {X : Cx} {E : G.XE} {pos : Pos} {a b : Expr} {fa fb : ES} {K : PySem.W.Frag}
def opCat (h : Hh) (x y : M) : Option (List M) := match lstM h x, lstM h y with
  | some xs, some ys => if xs.length + ys.length ≤ LIM then some (xs ++ ys) else none
  | _, _ => none
def nCat (fa fb : ES) : Env → Sm (List M) := fun env => bnd (fa env) fun x => bnd (fb env) fun y h => match opCat h x y with
  | some ms => some (.val ms h)
  | none => none
theorem p_cat (ha : PE X a (tM X.K E fa)) (hb : PE X b (tM X.K E fb)) : PE X (.BinOp a .Add b pos) (tN X.K E (nCat fa fb)) := PE.imp (pe_op op_cat ha hb) fun σ H Q ⟨W, env, hH, ok, er, p⟩ => by
  subst hH
  refine ⟨W, env, rfl, ok, er, (PostG.bindF (Step.refl W) p).mono fun x W1 ok1 s1 ⟨s0, p1⟩ v rv => ?_⟩
  refine ⟨W1, env, rfl, ok1, er.step s1, (PostG.bindF s0 p1).mono fun y W2 ok2 s2 ⟨s02, p2⟩ u ru => ?_⟩
  cases en : opCat W2.h x y with
  | none => simp only [en] at p2; exact p2.elim
  | some ms =>
    simp only [en] at p2
    unfold opCat at en
    cases e1 : lstM W2.h x with
    | none => simp only [e1] at en; cases en
    | some xs =>
      cases e2 : lstM W2.h y with
      | none => simp only [e1, e2] at en; cases en
      | some ys =>
        simp only [e1, e2] at en
        split at en
        · rename_i hl
          cases en
          obtain ⟨l, vs, g1, g2, g3⟩ := lstM_ok ok2 (RM.step rv s2) e1
          obtain ⟨l', us, k1, k2, k3⟩ := lstM_ok ok2 ru e2
          refine ⟨l, l', vs, us, g1, k1, g2, k2, by rw [RMs.length g3, RMs.length k3]; exact hl, fun q hq => ?_⟩
          exact p2 (W2.more q _) rfl (ok2.more _ hq) (s02.trans (Step.more hq)) q _ (s02.dom q hq) (ok2.fp hq) (fun k hk => ok2.nec hq hk) upd_same (RMs.step (RMs.append g3 k3) (Step.more hq))
        · cases en
/-! ### tuple * int -/
def oMulT : Op2 := fun x y h => match tupM x, y with
  | some ms, .d (.int k) => if (decide (ms.length ≠ 0) && (decide (2 ≤ k) && (decide (k ≤ 1000) && decide (ms.length ≤ 1000)))) = true then some (.val (mkTup (List.replicate k.toNat ms).flatten) h) else none
  | none, _ => oMul x y h
  | _, _ => none
theorem j_mulT : J2 K (fun x y H Q => rI CMul (fun i j => .int (i * j)) x y H Q ∨ rRepT K x y H Q) oMulT := fun E W x y v u Q ok r1 r2 p => by
  unfold oMulT at p
  cases e : tupM x with
  | none => simp only [e] at p; exact .inl (j_mul E W x y v u Q ok r1 r2 p)
  | some ms =>
    simp only [e] at p
    split at p
    · rename_i ms' k eq1
      cases eq1
      split at p
      · rename_i hc
        simp only [Bool.and_eq_true, decide_eq_true_eq] at hc
        obtain ⟨a, vs, g1, g2, g3⟩ := tupM_ok ok r1 e
        have hl := RMs.length g3
        refine .inr ⟨a, k, vs, g1, int_of r2, SqT.of (ok.sub _ _ g2), fun z => ?_, hc.2.1, hc.2.2.1, by rw [hl]; exact hc.2.2.2, fun q hq => mkTup_fin ok (RMs.rep g3 k.toNat) p q hq⟩
        rw [z] at hl
        exact hc.1 hl.symm
      · exact p.elim
    · rename_i e'; cases e'
    · exact p.elim
theorem op_mulT {X : Cx} : OpR X (binaryOp .Mult) (fun x y H Q => rI CMul (fun i j => .int (i * j)) x y H Q ∨ rRepT X.K x y H Q) := op_mul.or op_repT
end
/-! ### a def that calls itself: so many levels of it -/
section
variable {P : Program} {w : World} {K : PySem.W.Frag} {mg : Str → Option Value} {base : Heap}
theorem cal_fail {x qual : Str} {st : Stmt} {f : Addr} {fd : FuncData} {ps : List Str} {k : Nat} (F : Fun K x qual st f fd) (hm : mg x = some (.ref f)) (hb : Binds K fd ps []) : Cal P w K mg base k x ps (fun _ => fail) :=
  ⟨f, fd, hm, F.kp, hb, ⟨fun vs H Q E ⟨W, ms, _, _, _, _, p⟩ => p.elim, fun A outer s H args us vs Q E hr hg he hbd hv ⟨W, ms, _, _, _, _, p⟩ => p.elim⟩⟩
theorem Cal.any {x : Str} {ps : List Str} {k : Nat} {f : Fn} (C : Cal P w K mg base k x ps f) {P' : Program} {w' : World} {K' : PySem.W.Frag} {mg' : Str → Option Value} {base' : Heap} (h1 : P' = P) (h2 : w' = w) (h3 : K' = K) (h4 : mg' = mg) (h5 : base' = base) : Cal P' w' K' mg' base' k x ps f := by
  subst h1 h2 h3 h4 h5
  exact C
/-- f of itself, n levels deep -/
def recFn (f : Fn → Fn) : Nat → Fn
  | 0 => fun _ => fail
  | n + 1 => f (recFn f n)
theorem cal_rec {x : Str} {ps : List Str} {k : Nat} {f : Fn → Fn} (h0 : Cal P w K mg base k x ps (fun _ => fail)) (hs : ∀ (j : Nat) (g : Fn), k ≤ j → Cal P w K mg base j x ps g → Cal P w K mg base (j + 1) x ps (f g)) : ∀ n, Cal P w K mg base (k + n) x ps (recFn f n)
  | 0 => h0
  | n + 1 => hs (k + n) (recFn f n) (Nat.le_add_right _ _) (cal_rec h0 hs n)
end
end G

/-! lists beside the pot -/
namespace G
open PySem PySem.Spec L2 PySem.W
abbrev Ls := List (Option (List PyData))
def Mt (h : Hh) (kp : Nat) (c : Int) (es : Ls) : Hh := h.set kp (.lst [.int c]) ++ es.map lsO
theorem flat_lsO (es : Ls) : flatX (es.map lsO) := by
  unfold flatX
  rw [List.all_eq_true]
  intro c hc
  obtain ⟨o, _, rfl⟩ := List.mem_map.mp hc
  cases o <;> rfl
section
variable {h : Hh} {kp : Nat} {c c' : Int} {es : Ls}
theorem Mt.pot (hp : PotAt kp h) : PotAt kp (Mt h kp c es) := (hp.set c).app (flat_lsO es)
theorem Mt.set (hp : PotAt kp h) : (Mt h kp c es).set kp (.lst [.int c']) = Mt h kp c' es := by
  unfold Mt
  rw [List.set_append_left _ _ (by rw [List.length_set]; exact hp.lt), List.set_set]
theorem Mt.at_ {j : Nat} : (Mt h kp c es)[h.length + j]? = (es[j]?).map lsO := by
  unfold Mt
  rw [List.getElem?_append_right (by rw [List.length_set]; omega), List.length_set, Nat.add_sub_cancel_left, List.getElem?_map]
theorem Mt.put {j : Nat} {o : Option (List PyData)} : (Mt h kp c es).set (h.length + j) (lsO o) = Mt h kp c (es.set j o) := by
  unfold Mt
  rw [List.set_append_right _ _ (by rw [List.length_set]; omega), List.length_set, Nat.add_sub_cancel_left, List.map_set]
theorem Mt.len : (Mt h kp c es).length = h.length + es.length := by unfold Mt; rw [List.length_append, List.length_set, List.length_map]
theorem Mt.snoc {o : Option (List PyData)} : Mt h kp c es ++ [lsO o] = Mt h kp c (es ++ [o]) := by unfold Mt; rw [List.map_append, List.append_assoc]; rfl
theorem Mt.begin (hp : PotAt kp h) : ∃ c, h = Mt h kp c [] := by
  obtain ⟨c, e⟩ := hp.same
  exact ⟨c, by unfold Mt; rw [List.map_nil, List.append_nil]; exact e⟩
theorem Mt.ls {j : Nat} {ds : List PyData} (e : es[j]? = some (some ds)) : (Mt h kp c es)[h.length + j]? = some (.lst ds) := by rw [Mt.at_, e]; rfl
end
/-- x does what Q says, where the pot stands at kp and lists stand behind h -/
def Mu {α : Type} (kp : Nat) (h : Hh) (es : Ls) (x : Sm α) (Q : α → Ls → Prop) : Prop := ∀ c, ∃ a c' es', x (Mt h kp c es) = some (.val a (Mt h kp c' es')) ∧ Q a es'
/-- .. and the lists stay -/
abbrev Mr {α : Type} (kp : Nat) (h : Hh) (es : Ls) (x : Sm α) (P : α → Prop) : Prop := Mu kp h es x fun a es' => es' = es ∧ P a
section
variable {α β : Type} {kp : Nat} {h : Hh} {es : Ls}
theorem Mu.rt {a : α} {Q : α → Ls → Prop} (q : Q a es) : Mu kp h es (rt a) Q := fun c => ⟨a, c, es, rfl, q⟩
theorem Mu.all {x : Sm α} {a : α} {Q : α → Ls → Prop} (e : x = G.rt a) (q : Q a es) : Mu kp h es x Q := by rw [e]; exact Mu.rt q
theorem Mu.get {x : Sm α} {a : α} {es' : Ls} {Q : α → Ls → Prop} (e : ∀ c, x (Mt h kp c es) = some (.val a (Mt h kp c es'))) (q : Q a es') : Mu kp h es x Q := fun c => ⟨a, c, es', e c, q⟩
theorem Mu.bnd {x : Sm α} {k : α → Sm β} {P : α → Ls → Prop} {Q : β → Ls → Prop} (g : Mu kp h es x P) (f : ∀ a es', P a es' → Mu kp h es' (k a) Q) : Mu kp h es (bnd x k) Q := fun c => by
  obtain ⟨a, c1, o1, e, p⟩ := g c
  obtain ⟨b, c2, o2, e2, q⟩ := f a o1 p c1
  exact ⟨b, c2, o2, by rw [bnd_val e, e2], q⟩
theorem Mu.mono {x : Sm α} {P Q : α → Ls → Prop} (g : Mu kp h es x P) (i : ∀ a es', P a es' → Q a es') : Mu kp h es x Q := fun c => by
  obtain ⟨a, c1, o1, e, p⟩ := g c
  exact ⟨a, c1, o1, e, i _ _ p⟩
theorem Mu.nox {x : Sm α} {Q : α → Ls → Prop} (g : Mu kp h es x Q) : Mu kp h es (nox x) Q := fun c => by
  obtain ⟨a, c1, o1, e, p⟩ := g c
  exact ⟨a, c1, o1, nox_val e, p⟩
theorem Mr.gen {x : Sm α} {P : α → Prop} (hp : PotAt kp h) (g : Gen kp x P) : Mr kp h es x P := fun c => by
  obtain ⟨a, c', e, p⟩ := g (Mt h kp c es) (Mt.pot hp)
  exact ⟨a, c', es, by rw [e, Mt.set hp], rfl, p⟩
theorem Mr.bnd {x : Sm α} {k : α → Sm β} {P : α → Prop} {Q : β → Ls → Prop} (g : Mr kp h es x P) (f : ∀ a, P a → Mu kp h es (k a) Q) : Mu kp h es (bnd x k) Q := Mu.bnd g fun a o' ⟨e, p⟩ => by
  subst e
  exact f a p
theorem Mr.mono {x : Sm α} {P Q : α → Prop} (g : Mr kp h es x P) (i : ∀ a, P a → Q a) : Mr kp h es x Q := Mu.mono g fun a _ ⟨e, p⟩ => ⟨e, i a p⟩
/-! ### values -/
variable {env : G.Env}
theorem mr_var {i : Nat} {m : M} {P : M → Prop} (e : env[i]? = some (some m)) (p : P m) : Mr kp h es (eVar i env) P := by rw [var_rt e]; exact Mu.rt ⟨rfl, p⟩
theorem mr_e2 {op : Op2} {f g : ES} {A B P : M → Prop} (hf : Mr kp h es (f env) A) (hg : Mr kp h es (g env) B) (ho : ∀ x y, A x → B y → Mr kp h es (op x y) P) : Mr kp h es (e2 op f g env) P :=
  Mr.bnd hf fun x px => Mr.bnd hg fun y py => ho x y px py
theorem mr_nil : Mr kp h es (aNil env) (fun ms => ms = []) := Mu.rt ⟨rfl, rfl⟩
theorem mr_cons {f : ES} {fs : G.Env → Sm (List M)} {P : M → Prop} {A : List M → Prop} (hf : Mr kp h es (f env) P) (hs : Mr kp h es (fs env) A) : Mr kp h es (aCons f fs env) fun ms => ∃ x xs, ms = x :: xs ∧ P x ∧ A xs :=
  Mr.bnd hf fun x px => Mr.bnd hs fun xs pxs => Mu.rt ⟨rfl, x, xs, rfl, px, pxs⟩
/-- data of a kind, any -/
abbrev DatM (P : PyData → Prop) (m : M) : Prop := ∃ x, m = M.d x ∧ P x
abbrev DatL (P : List PyData → Prop) (ms : List M) : Prop := ∃ ds, ms = ds.map M.d ∧ P ds
theorem mr_nilD {P : List PyData → Prop} (p : P []) : Mr kp h es (aNil env) (DatL P) := Mu.rt ⟨rfl, [], rfl, p⟩
theorem mr_consD {f : ES} {fs : G.Env → Sm (List M)} {A : PyData → Prop} {B P : List PyData → Prop} (hf : Mr kp h es (f env) (DatM A)) (hs : Mr kp h es (fs env) (DatL B)) (k : ∀ x xs, A x → B xs → P (x :: xs)) : Mr kp h es (aCons f fs env) (DatL P) :=
  Mr.bnd hf fun m ⟨x, e, px⟩ => Mr.bnd hs fun ms ⟨xs, e2, pxs⟩ => by
    subst e e2
    exact Mu.rt ⟨rfl, x :: xs, rfl, k x xs px pxs⟩
theorem mr_lst {fs : G.Env → Sm (List M)} {P : List PyData → Prop} (hs : Mr kp h es (fs env) (DatL fun ds => ds.length ≤ 16777216 ∧ P ds)) : Mr kp h es (nLst fs env) (DatL P) := Mr.bnd hs fun ms ⟨ds, e, hl, p⟩ => by
  subst e
  rw [if_pos (show (ds.map M.d).length ≤ LIM by rw [List.length_map]; exact hl)]
  exact Mu.rt ⟨rfl, ds, rfl, p⟩
theorem mr_val {f : G.Env → Sm (List M)} {P : List PyData → Prop} (hf : Mr kp h es (f env) (DatL P)) : Mr kp h es (eVal f env) (fun m => ∃ ds, m = .d (.list ds) ∧ P ds) := Mr.bnd hf fun ms ⟨ds, e, p⟩ => by
  subst e
  rw [asDs_map]
  exact Mu.rt ⟨rfl, ds, rfl, p⟩
/-- a new list -/
theorem mu_cell {f : G.Env → Sm (List M)} {P : List PyData → Prop} {Q : M → Ls → Prop} (hf : Mr kp h es (f env) (DatL P)) (k : ∀ ds, P ds → Q (.obj (h.length + es.length)) (es ++ [some ds])) : Mu kp h es (eCell f env) Q := Mr.bnd hf fun ms ⟨ds, e, p⟩ => by
  subst e
  refine Mu.get (a := .obj (h.length + es.length)) (es' := es ++ [some ds]) (fun c => ?_) (k ds p)
  rw [mkCell_ds, show Cell.lst ds = lsO (some ds) from rfl, Mt.snoc, Mt.len]
/-- an own list as it stands -/
theorem lst_own {c : Int} {j : Nat} {ds : List PyData} (e : es[j]? = some (some ds)) : lstM (Mt h kp c es) (.obj (h.length + j)) = some (ds.map M.d) := by
  simp only [lstM, Mt.ls e, cellMs]
theorem lst_d {hh : Hh} {ds : List PyData} : lstM hh (.d (.list ds)) = some (ds.map M.d) := rfl
/-- what may stand for a list of data: an own list or a plain one -/
def LsM (h : Hh) (es : Ls) (m : M) (ds : List PyData) : Prop := (∃ j, m = .obj (h.length + j) ∧ es[j]? = some (some ds)) ∨ m = .d (.list ds)
theorem LsM.lst {c : Int} {m : M} {ds : List PyData} (l : LsM h es m ds) : lstM (Mt h kp c es) m = some (ds.map M.d) := by
  rcases l with ⟨j, rfl, e⟩ | rfl
  · exact lst_own e
  · rfl
theorem LsM.tup {m : M} {ds : List PyData} (l : LsM h es m ds) : tupM m = none := by
  rcases l with ⟨j, rfl, e⟩ | rfl <;> rfl
theorem mr_cat {f g : ES} {A B P : List PyData → Prop} (hf : Mr kp h es (f env) (fun m => ∃ ds, LsM h es m ds ∧ A ds)) (hg : Mr kp h es (g env) (fun m => ∃ ds, LsM h es m ds ∧ B ds)) (k : ∀ xs ys, A xs → B ys → xs.length + ys.length ≤ 16777216 ∧ P (xs ++ ys)) : Mr kp h es (nCat f g env) (DatL P) :=
  Mr.bnd hf fun x ⟨xs, lx, px⟩ => Mr.bnd hg fun y ⟨ys, ly, py⟩ => by
    obtain ⟨hl, p⟩ := k xs ys px py
    refine Mu.get (a := (xs ++ ys).map M.d) (es' := es) (fun c => ?_) ⟨rfl, xs ++ ys, rfl, p⟩
    simp only [opCat, lx.lst, ly.lst, List.length_map]
    rw [if_pos (show xs.length + ys.length ≤ LIM from hl), List.map_append]
/-- a + b, frozen -/
theorem mr_addL {f g : ES} {A B P : List PyData → Prop} (hf : Mr kp h es (f env) (fun m => ∃ ds, LsM h es m ds ∧ A ds)) (hg : Mr kp h es (g env) (fun m => ∃ ds, LsM h es m ds ∧ B ds)) (k : ∀ xs ys, A xs → B ys → xs.length + ys.length ≤ 16777216 ∧ P (xs ++ ys)) : Mr kp h es (e2 oAdd f g env) (fun m => ∃ ds, m = .d (.list ds) ∧ P ds) :=
  Mr.bnd hf fun x ⟨xs, lx, px⟩ => Mr.bnd hg fun y ⟨ys, ly, py⟩ => by
    obtain ⟨hl, p⟩ := k xs ys px py
    refine Mu.get (a := M.d (.list (xs ++ ys))) (es' := es) (fun c => ?_) ⟨rfl, xs ++ ys, rfl, p⟩
    have e1 := lx.lst (h := h) (es := es) (kp := kp) (c := c)
    have e2 := ly.lst (h := h) (es := es) (kp := kp) (c := c)
    have gen : ∀ o : Option (Out M), o = (match tupM x, tupM y with
        | some xs, some ys => if xs.length + ys.length ≤ LIM then some (.val (mkTup (xs ++ ys)) (Mt h kp c es)) else none
        | _, _ => match lstM (Mt h kp c es) x, lstM (Mt h kp c es) y with
          | some xs, some ys => if xs.length + ys.length ≤ LIM then mkL (xs ++ ys) (Mt h kp c es) else none
          | _, _ => none) → o = some (.val (M.d (.list (xs ++ ys))) (Mt h kp c es)) := fun o ho => by
      rw [ho]
      simp only [lx.tup, e1, e2, List.length_map]
      rw [if_pos (show xs.length + ys.length ≤ LIM from hl), ← List.map_append]
      unfold mkL
      rw [asDs_map]
      rfl
    refine gen _ ?_
    unfold oAdd
    split
    · rcases lx with ⟨j, q, _⟩ | q <;> cases q
    · rcases lx with ⟨j, q, _⟩ | q <;> cases q
    · rfl
/-! ### statements -/
variable {R : Fl × G.Env → Ls → Prop} {g g1 g2 : SS}
theorem mu_at {env' : G.Env} (t : Mu kp h es (g env') R) (e : env = env' := by rfl) : Mu kp h es (g env) R := by rw [e]; exact t
theorem mu_setM {i : Nat} {f : ES} {P : M → Ls → Prop} (hf : Mu kp h es (f env) P) (k : ∀ m es', P m es' → Mu kp h es' (g (env.set i (some m))) R) : Mu kp h es (sSeq (sSet (.nm i) f) g env) R := by
  unfold sSeq sSet
  rw [bnd_assoc]
  exact Mu.bnd hf fun m es' p => k m es' p
theorem mu_set {i : Nat} {f : ES} {P : M → Prop} (hf : Mr kp h es (f env) P) (k : ∀ m, P m → Mu kp h es (g (env.set i (some m))) R) : Mu kp h es (sSeq (sSet (.nm i) f) g env) R := by
  unfold sSeq sSet
  rw [bnd_assoc]
  exact Mr.bnd hf fun m p => k m p
theorem mu_setE {i : Nat} {f : ES} {P : M → Prop} (hf : Mr kp h es (f env) P) (k : ∀ m, P m → R (.nx, env.set i (some m)) es) : Mu kp h es (sSet (.nm i) f env) R := by
  unfold sSet
  exact Mr.bnd hf fun m p => Mu.rt (k m p)
theorem mu_setP {p : Pat} {f : ES} {P : M → Prop} (hf : Mr kp h es (f env) P) (k : ∀ m, P m → ∃ env', p.asg m env = some env' ∧ Mu kp h es (g env') R) : Mu kp h es (sSeq (sSet p f) g env) R := by
  unfold sSeq sSet
  rw [bnd_assoc]
  refine Mr.bnd hf fun m q => ?_
  obtain ⟨env', e, t⟩ := k m q
  rw [e]
  exact t
theorem mu_nx {A : G.Env → Ls → Prop} (h1 : Mu kp h es (g1 env) fun r o' => r.1 = .nx ∧ A r.2 o') (k : ∀ env' o', A env' o' → Mu kp h o' (g2 env') R) : Mu kp h es (sSeq g1 g2 env) R := by
  unfold sSeq
  refine Mu.bnd h1 ?_
  rintro ⟨fl, env'⟩ o' ⟨rfl, a⟩
  exact k env' o' a
theorem mu_if {t : G.Env → Sm Bool} {B : Bool → Prop} (ht : Mr kp h es (t env) B) (h1 : B true → Mu kp h es (g1 env) R) (h2 : B false → Mu kp h es (g2 env) R) : Mu kp h es (sIf t g1 g2 env) R := by
  unfold sIf
  refine Mr.bnd ht fun b pb => ?_
  cases b with
  | true => rw [if_pos rfl]; exact h1 pb
  | false => rw [if_neg Bool.false_ne_true]; exact h2 pb
/-- a test that is false, behind which the def goes on -/
theorem mu_ifF {t : G.Env → Sm Bool} (ht : Mr kp h es (t env) (· = false)) (k : Mu kp h es (g2 env) R) : Mu kp h es (sSeq (sIf t g1 sNil) g2 env) R := by
  unfold sSeq sIf
  rw [bnd_assoc]
  refine Mr.bnd ht fun b pb => ?_
  subst pb
  rw [if_neg Bool.false_ne_true]
  exact k
theorem mu_ifN {t : G.Env → Sm Bool} (ht : Mr kp h es (t env) (· = false)) (k : R (.nx, env) es) : Mu kp h es (sIf t g1 sNil env) R := mu_if (B := (· = false)) ht (fun h => Bool.noConfusion h) fun _ => Mu.rt k
/-- one that may return -/
theorem mu_ifR {t : G.Env → Sm Bool} {B : Bool → Prop} (ht : Mr kp h es (t env) B) (h1 : B true → Mu kp h es (g1 env) R) (hr : ∀ r o', R r o' → r.1 ≠ .nx) (h2 : B false → Mu kp h es (g2 env) R) : Mu kp h es (sSeq (sIf t g1 sNil) g2 env) R := by
  unfold sSeq sIf
  rw [bnd_assoc]
  refine Mr.bnd ht fun b pb => ?_
  cases b with
  | true =>
    rw [if_pos rfl]
    refine Mu.bnd (h1 pb) ?_
    rintro ⟨fl, env'⟩ o' q
    have := hr _ _ q
    cases fl with
    | nx => exact absurd rfl this
    | _ => exact Mu.rt q
  | false =>
    rw [if_neg Bool.false_ne_true]
    exact h2 pb
theorem mu_ret {f : ES} {P : M → Prop} (hf : Mr kp h es (f env) P) (k : ∀ m, P m → R (.rt m, env) es) : Mu kp h es (sRet f env) R := by
  unfold sRet
  exact Mr.bnd hf fun m p => Mu.rt (k m p)
theorem mu_app {ds : List PyData} {i j : Nat} {f : ES} {P : PyData → Prop} (e : env[i]? = some (some (.obj (h.length + j)))) (ej : es[j]? = some (some ds)) (hl : ds.length < 16777216) (hf : Mr kp h es (f env) (DatM P)) (k : ∀ x, P x → R (.nx, env) (es.set j (some (ds ++ [x])))) : Mu kp h es (sExp (eApp (eVar i) f) env) R := by
  unfold sExp eApp
  rw [var_rt e]
  simp only [bnd_rt, bnd_assoc]
  refine Mr.bnd (P := fun _ => True) (Mu.get (a := ()) (fun c => by simp only [chkL, lst_own ej]) ⟨rfl, trivial⟩) fun _ _ => ?_
  refine Mr.bnd hf fun m ⟨x, em, px⟩ => ?_
  subst em
  refine Mu.bnd (P := fun _ o' => o' = es.set j (some (ds ++ [x]))) (Mu.get (a := M.d .none) (es' := es.set j (some (ds ++ [x]))) (fun c => ?_) rfl) fun _ o' eo => ?_
  · simp only [apd, Mt.ls ej]
    rw [if_pos (show ds.length < LIM from hl)]
    exact congrArg (fun z => some (Out.val (M.d .none) z)) (Mt.put (o := some (ds ++ [x])))
  · subst eo
    exact Mu.rt (k x px)
/-- a walk over what stays -/
theorem mu_forL (I : Nat → G.Env → Ls → Prop) {p : Pat} {body : SS} : ∀ {xs : List M} {k : Nat} {env : G.Env} {es : Ls}, I k env es →
    (∀ i m, xs[i]? = some m → ∀ env o, I (k + i) env o → ∃ env1, p.asg m env = some env1 ∧ Mu kp h o (body env1) fun r o' => r.1 = .nx ∧ I (k + i + 1) r.2 o') → Mu kp h es (forL p body xs env) fun r o' => r.1 = .nx ∧ I (k + xs.length) r.2 o'
  | [], k, env, o, i, _ => Mu.rt ⟨rfl, i⟩
  | m :: ms, k, env, o, i, st => by
    obtain ⟨env1, e1, t⟩ := st 0 m rfl env o i
    simp only [forL, e1]
    refine Mu.bnd t ?_
    rintro ⟨fl, env2⟩ o' ⟨rfl, i2⟩
    have := mu_forL I (xs := ms) (k := k + 1) i2 fun j x hx env o hi => by
      have := st (j + 1) x (by simpa using hx) env o (by rw [show k + (j + 1) = k + 1 + j by omega]; exact hi)
      rw [show k + (j + 1) + 1 = k + 1 + j + 1 by omega] at this
      exact this
    rw [List.length_cons, show k + (ms.length + 1) = k + 1 + ms.length by omega]
    exact this
theorem mu_for {I : Nat → G.Env → Ls → Prop} {itf : G.Env → Sm SIt} {p : Pat} {body : SS} {X : List M → Prop} (hi : Mr kp h es (itf env) fun it => ∃ xs, it = .vals xs ∧ X xs) (h0 : I 0 env es)
    (st : ∀ xs, X xs → ∀ i m, xs[i]? = some m → ∀ env o, I i env o → ∃ env1, p.asg m env = some env1 ∧ Mu kp h o (body env1) fun r o' => r.1 = .nx ∧ I (i + 1) r.2 o') : Mu kp h es (sFor itf p body env) fun r o' => r.1 = .nx ∧ ∃ xs, X xs ∧ I xs.length r.2 o' := fun c => by
  obtain ⟨it, c1, o1, e, rfl, xs, rfl, px⟩ := hi c
  obtain ⟨r, c2, o2, e2, p1, p2⟩ := mu_forL (kp := kp) (h := h) I (p := p) (body := body) (xs := xs) (k := 0) h0 (fun i m hm env o hI => by
    rw [Nat.zero_add] at hI ⊢
    exact st xs px i m hm env o hI) c1
  rw [Nat.zero_add] at p2
  exact ⟨r, c2, o2, by rw [for_vals e, e2], p1, xs, px, p2⟩
/-- a walk over an own list, which stays -/
theorem mu_forO (I : Nat → G.Env → Ls → Prop) {j i : Nat} {ds : List PyData} {p : Pat} {body : SS} (e : env[i]? = some (some (.obj (h.length + j)))) (h0 : I 0 env es) (hI : ∀ k env es, I k env es → es[j]? = some (some ds))
    (st : ∀ k x, ds[k]? = some x → ∀ env o, I k env o → ∃ env1, p.asg (.d x) env = some env1 ∧ Mu kp h o (body env1) fun r o' => r.1 = .nx ∧ I (k + 1) r.2 o') : Mu kp h es (sFor (iSeqF (eVar i)) p body env) fun r o' => r.1 = .nx ∧ I ds.length r.2 o' := fun c => by
  have eit : iSeqF (eVar i) env (Mt h kp c es) = some (.val (.cell (h.length + j)) (Mt h kp c es)) := by
    unfold iSeqF
    rw [var_rt e, bnd_rt]
    simp only [itM, Mt.ls (hI 0 env es h0), cellMs, tupM]
  obtain ⟨env', h', e1, c', es', e2, q⟩ := for_cellN (fun k env hh => ∃ c' es', hh = Mt h kp c' es' ∧ I k env es') (k := h.length + j) (ms := ds.map M.d) (p := p) (body := body) eit (fun k env hh ⟨c', es', e, q⟩ => by
    subst e
    simp only [Mt.ls (hI k env es' q), cellMs]) ⟨c, es, rfl, h0⟩ fun k m hm env hh ⟨c', es', e, q⟩ => by
      subst e
      rw [List.getElem?_map] at hm
      cases hx : ds[k]? with
      | none => rw [hx] at hm; cases hm
      | some x =>
        rw [hx] at hm
        cases hm
        obtain ⟨env1, a1, t⟩ := st k x hx env es' q
        obtain ⟨⟨fl, env2⟩, c2, es2, e2, rfl, q2⟩ := t c'
        exact ⟨env1, env2, _, a1, e2, c2, es2, rfl, q2⟩
  subst e2
  rw [List.length_map] at q
  exact ⟨(.nx, env'), c', es', e1, rfl, q⟩
/-- a def with lists of its own -/
theorem gen_mu {n : Nat} {ms : List M} {P : M → Prop} {g : SS} (H : ∀ h, PotAt kp h → Mu kp h [] (g (startE n ms)) fun r _ => ∃ x, r.1 = .rt (.d x) ∧ P (.d x)) : Gen kp (mkFnS 0 n g ms) P := fun h hp => by
  obtain ⟨c, e⟩ := Mt.begin hp
  obtain ⟨⟨fl, env1⟩, c', es', e2, x, e3, p⟩ := H h hp c
  have e3 : fl = .rt (.d x) := e3
  subst e3
  rw [← e] at e2
  exact ⟨.d x, c', mkFnS_0 (l := es'.map lsO) (mkFn_val (env' := env1) e2) (by rw [List.length_set]) (hp.set c').flat, p⟩
end
end G

/-! any data, bounded; looking at any data -/
namespace G
open PySem PySem.Spec L2 PySem.W
mutual
/-- whole numbers within B, plain texts -/
def okD (B : Nat) : PyData → Bool
  | .none => true
  | .bool _ => true
  | .int i => decide (i.natAbs ≤ B)
  | .str x => PyData.strOk x
  | .list xs => okL B xs
  | .tuple xs => okL B xs
  | .dict kvs => okK B kvs
def okL (B : Nat) : List PyData → Bool
  | [] => true
  | x :: xs => okD B x && okL B xs
def okK (B : Nat) : List (PyData × PyData) → Bool
  | [] => true
  | (k, v) :: r => okD B k && (okD B v && okK B r)
end
mutual
def zD : PyData → Nat
  | .none => 4
  | .bool _ => 5
  | .int _ => 1921
  | .str x => 10 * x.length + 2
  | .list xs => zL xs + 2
  | .tuple xs => zL xs + 3
  | .dict kvs => zK kvs + 2
def zL : List PyData → Nat
  | [] => 0
  | x :: xs => zD x + 2 + zL xs
def zK : List (PyData × PyData) → Nat
  | [] => 0
  | (k, v) :: r => zD k + zD v + 4 + zK r
end
theorem dictText_le (ts : List Str) : (dictText ts).length ≤ piled ts + 2 := by
  unfold dictText
  rw [strLen_append, strLen_append]
  have e1 : ((("{" : String) : Str)).length = 1 := rfl
  have e3 : ((("}" : String) : Str)).length = 1 := rfl
  rw [e1, e3]
  by_cases h : ts = []
  · subst h
    have : (Str.join ", " []).length = 0 := rfl
    omega
  · have := join_length_add ts h
    omega
mutual
theorem shows_D {B : Nat} (hB : B < 2 ^ 1920) : ∀ d : PyData, okD B d = true → d.showable = true ∧ d.shown.length ≤ zD d
  | .none, _ => ⟨rfl, by simp only [PyData.shown, zD]; decide⟩
  | .bool b, _ => ⟨rfl, by cases b <;> simp only [PyData.shown, zD] <;> decide⟩
  | .int i, h => by
    simp only [okD, decide_eq_true_eq] at h
    have hl : i.natAbs.log2 < 1920 := log2_lt (Nat.lt_of_le_of_lt h hB) (by decide)
    refine ⟨by simp only [PyData.showable, decide_eq_true_eq]; exact hl, ?_⟩
    simp only [PyData.shown, zD]
    exact PyProof.Rows.int_text_len_1921 hl
  | .str x, h => by
    refine ⟨rfl, ?_⟩
    simp only [PyData.shown, zD]
    simp only [okD] at h
    have h'' : (x.cps.all fun c => decide (c < 0x110000)) = true := h
    refine StrLaws.reprText_len x fun c hc => ?_
    have := Array.all_eq_true_iff_forall_mem.mp h'' c (by simpa using hc)
    have := of_decide_eq_true this
    omega
  | .list xs, h => by
    obtain ⟨h1, h2⟩ := shows_L hB xs (by simpa only [okD] using h)
    refine ⟨by simpa only [PyData.showable] using h1, ?_⟩
    simp only [PyData.shown, zD]
    have := listText_le (PyData.shownAll xs)
    omega
  | .tuple xs, h => by
    obtain ⟨h1, h2⟩ := shows_L hB xs (by simpa only [okD] using h)
    refine ⟨by simpa only [PyData.showable] using h1, ?_⟩
    simp only [PyData.shown, zD]
    have := tupleText_le (PyData.shownAll xs)
    omega
  | .dict kvs, h => by
    obtain ⟨h1, h2⟩ := shows_K hB kvs (by simpa only [okD] using h)
    refine ⟨by simpa only [PyData.showable] using h1, ?_⟩
    simp only [PyData.shown, zD]
    have := dictText_le (PyData.shownKv kvs)
    omega
theorem shows_L {B : Nat} (hB : B < 2 ^ 1920) : ∀ xs : List PyData, okL B xs = true → PyData.showableAll xs = true ∧ piled (PyData.shownAll xs) ≤ zL xs
  | [], _ => ⟨rfl, Nat.le_refl _⟩
  | x :: xs, h => by
    simp only [okL, Bool.and_eq_true] at h
    obtain ⟨a1, a2⟩ := shows_D hB x h.1
    obtain ⟨b1, b2⟩ := shows_L hB xs h.2
    refine ⟨by simp only [PyData.showableAll, a1, b1, Bool.and_self], ?_⟩
    simp only [PyData.shownAll, zL, piled_le_aux]
    omega
theorem shows_K {B : Nat} (hB : B < 2 ^ 1920) : ∀ kvs : List (PyData × PyData), okK B kvs = true → PyData.showableKv kvs = true ∧ piled (PyData.shownKv kvs) ≤ zK kvs
  | [], _ => ⟨rfl, Nat.le_refl _⟩
  | (k, v) :: r, h => by
    simp only [okK, Bool.and_eq_true] at h
    obtain ⟨a1, a2⟩ := shows_D hB k h.1
    obtain ⟨b1, b2⟩ := shows_D hB v h.2.1
    obtain ⟨c1, c2⟩ := shows_K hB r h.2.2
    refine ⟨by simp only [PyData.showableKv, a1, b1, c1, Bool.and_self], ?_⟩
    simp only [PyData.shownKv, zK, piled_le_aux]
    rw [strLen_append, strLen_append, show ((": " : String) : Str).length = 2 from rfl]
    omega
end
mutual
theorem okD_mono {B B' : Nat} (h : B ≤ B') : ∀ d, okD B d = true → okD B' d = true
  | .none, _ => rfl
  | .bool _, _ => rfl
  | .int i, e => by simp only [okD, decide_eq_true_eq] at e ⊢; omega
  | .str x, e => e
  | .list xs, e => okL_mono h xs e
  | .tuple xs, e => okL_mono h xs e
  | .dict kvs, e => okK_mono h kvs e
theorem okL_mono {B B' : Nat} (h : B ≤ B') : ∀ d, okL B d = true → okL B' d = true
  | [], _ => rfl
  | x :: xs, e => by
    simp only [okL, Bool.and_eq_true] at e ⊢
    exact ⟨okD_mono h x e.1, okL_mono h xs e.2⟩
theorem okK_mono {B B' : Nat} (h : B ≤ B') : ∀ d, okK B d = true → okK B' d = true
  | [], _ => rfl
  | (k, v) :: r, e => by
    simp only [okK, Bool.and_eq_true] at e ⊢
    exact ⟨okD_mono h k e.1, okD_mono h v e.2.1, okK_mono h r e.2.2⟩
end
structure Bd (B k n : Nat) (d : PyData) : Prop where
  ok : okD B d = true
  dep : d.depth ≤ k
  sz : zD d ≤ n
structure BdL (B k n : Nat) (ds : List PyData) : Prop where
  ok : okL B ds = true
  dep : PyData.depthAll ds ≤ k
  sz : zL ds ≤ n
theorem Bd.mono {B k n B' k' n' : Nat} {d : PyData} (h : Bd B k n d) (h0 : B ≤ B') (h1 : k ≤ k') (h2 : n ≤ n') : Bd B' k' n' d := ⟨okD_mono h0 d h.ok, Nat.le_trans h.dep h1, Nat.le_trans h.sz h2⟩
theorem BdL.mono {B k n B' k' n' : Nat} {d : List PyData} (h : BdL B k n d) (h0 : B ≤ B') (h1 : k ≤ k') (h2 : n ≤ n') : BdL B' k' n' d := ⟨okL_mono h0 d h.ok, Nat.le_trans h.dep h1, Nat.le_trans h.sz h2⟩
theorem Bd.sw {B k n : Nat} {d : PyData} (h : Bd B k n d) (hB : B < 2 ^ 1920) : Sw k n d := ⟨(shows_D hB d h.ok).1, h.dep, Nat.le_trans (shows_D hB d h.ok).2 h.sz⟩
theorem bd_int {B : Nat} {i : Int} (h : i.natAbs ≤ B) : Bd B 0 1921 (.int i) := ⟨by simp only [okD, decide_eq_true_eq]; exact h, Nat.le_refl _, Nat.le_refl _⟩
theorem bdl_nil {B k : Nat} : BdL B k 0 [] := ⟨rfl, Nat.zero_le _, Nat.le_refl _⟩
theorem bdl_cons {B k n m : Nat} {d : PyData} {ds : List PyData} (h : Bd B k n d) (hs : BdL B k m ds) : BdL B k (n + 2 + m) (d :: ds) :=
  ⟨by simp only [okL, h.ok, hs.ok, Bool.and_self], by simp only [PyData.depthAll]; exact Nat.max_le.mpr ⟨h.dep, hs.dep⟩, by have := h.sz; have := hs.sz; simp only [zL]; omega⟩
theorem bd_list {B k n : Nat} {ds : List PyData} (h : BdL B k n ds) : Bd B (k + 1) (n + 2) (.list ds) := ⟨h.ok, by simp only [PyData.depth]; exact Nat.succ_le_succ h.dep, by simp only [zD]; exact Nat.add_le_add_right h.sz _⟩
theorem bd_tup {B k n : Nat} {ds : List PyData} (h : BdL B k n ds) : Bd B (k + 1) (n + 3) (.tuple ds) := ⟨h.ok, by simp only [PyData.depth]; exact Nat.succ_le_succ h.dep, by simp only [zD]; exact Nat.add_le_add_right h.sz _⟩
theorem bdl_app {B k n m : Nat} : ∀ {xs ys : List PyData}, BdL B k n xs → BdL B k m ys → BdL B k (n + m) (xs ++ ys)
  | [], ys, _, hy => hy.mono (Nat.le_refl _) (Nat.le_refl _) (Nat.le_add_left _ _)
  | x :: xs, ys, hx, hy => by
    obtain ⟨h1, h2, h3⟩ := hx
    simp only [okL, Bool.and_eq_true] at h1
    simp only [PyData.depthAll] at h2
    simp only [zL] at h3
    have h4 := Nat.max_le.mp h2
    have r := bdl_app (xs := xs) (ys := ys) (n := n - (zD x + 2)) ⟨h1.2, h4.2, by omega⟩ hy
    have := bdl_cons (d := x) (n := zD x) ⟨h1.1, h4.1, Nat.le_refl _⟩ r
    exact this.mono (Nat.le_refl _) (Nat.le_refl _) (by omega)
theorem BdL.mem {B k n : Nat} : ∀ {ds : List PyData}, BdL B k n ds → ∀ d ∈ ds, Bd B k n d
  | [], _, d, hd => by cases hd
  | x :: xs, ⟨h1, h2, h3⟩, d, hd => by
    simp only [okL, Bool.and_eq_true] at h1
    simp only [PyData.depthAll] at h2
    simp only [zL] at h3
    have h4 := Nat.max_le.mp h2
    rcases List.mem_cons.mp hd with rfl | hd
    · exact ⟨h1.1, h4.1, by omega⟩
    · exact BdL.mem (ds := xs) ⟨h1.2, h4.2, by omega⟩ d hd
theorem BdL.drop {B k n : Nat} : ∀ {ds : List PyData} (i : Nat), BdL B k n ds → BdL B k n (ds.drop i)
  | ds, 0, h => h
  | [], i + 1, h => h
  | x :: xs, i + 1, ⟨h1, h2, h3⟩ => by
    simp only [okL, Bool.and_eq_true] at h1
    simp only [PyData.depthAll] at h2
    simp only [zL] at h3
    exact BdL.drop (ds := xs) i ⟨h1.2, (Nat.max_le.mp h2).2, by omega⟩
theorem BdL.take {B k n : Nat} : ∀ {ds : List PyData} (i : Nat), BdL B k n ds → BdL B k n (ds.take i)
  | ds, 0, h => bdl_nil.mono (Nat.le_refl _) (Nat.le_refl _) (Nat.zero_le _)
  | [], i + 1, h => h
  | x :: xs, i + 1, ⟨h1, h2, h3⟩ => by
    simp only [okL, Bool.and_eq_true] at h1
    simp only [PyData.depthAll] at h2
    simp only [zL] at h3
    have h4 := Nat.max_le.mp h2
    have r := BdL.take (ds := xs) (n := n - (zD x + 2)) i ⟨h1.2, h4.2, by omega⟩
    exact (bdl_cons (d := x) (n := zD x) ⟨h1.1, h4.1, Nat.le_refl _⟩ r).mono (Nat.le_refl _) (Nat.le_refl _) (by omega)
theorem BdL.cut {B k n : Nat} {ds : List PyData} (lo hi : Option Int) (h : BdL B k n ds) : BdL B k n (cutG ds lo hi) := (h.drop _).take _
/-- one of them exchanged -/
theorem BdL.exch {B B' k k' n m c : Nat} (hB : B ≤ B') (hk : k ≤ k') : ∀ {ds : List PyData} {i : Nat} {x y : PyData}, BdL B k n ds → ds[i]? = some x → Bd B' k' m y → m ≤ 3 * zD x + c → BdL B' k' (3 * n + c) (ds.take i ++ ([y] ++ ds.drop (i + 1)))
  | [], i, _, _, _, e, _, _ => by cases e
  | z :: ds, 0, x, y, ⟨h1, h2, h3⟩, e, hy, hm => by
    cases e
    simp only [okL, Bool.and_eq_true] at h1
    simp only [PyData.depthAll] at h2
    simp only [zL] at h3
    have h4 := Nat.max_le.mp h2
    have r : BdL B' k' (zL ds) ds := ⟨okL_mono hB _ h1.2, Nat.le_trans h4.2 hk, Nat.le_refl _⟩
    have := bdl_cons hy r
    rw [List.take_zero, List.nil_append, List.singleton_append, List.drop_succ_cons, List.drop_zero]
    exact this.mono (Nat.le_refl _) (Nat.le_refl _) (by omega)
  | z :: ds, i + 1, x, y, ⟨h1, h2, h3⟩, e, hy, hm => by
    simp only [okL, Bool.and_eq_true] at h1
    simp only [PyData.depthAll] at h2
    simp only [zL] at h3
    have h4 := Nat.max_le.mp h2
    have r := BdL.exch hB hk (ds := ds) (n := zL ds) (i := i) ⟨h1.2, h4.2, Nat.le_refl _⟩ (by simpa using e) hy hm
    have := bdl_cons (d := z) (n := zD z) ⟨okD_mono hB _ h1.1, Nat.le_trans h4.1 hk, Nat.le_refl _⟩ r
    rw [List.take_succ_cons, List.cons_append, List.drop_succ_cons]
    exact this.mono (Nat.le_refl _) (Nat.le_refl _) (by omega)
/-! ### looking -/
def tyD : PyData → String
  | .none => "NoneType"
  | .bool _ => "bool"
  | .int _ => "int"
  | .str _ => "str"
  | .list _ => "list"
  | .tuple _ => "tuple"
  | .dict _ => "dict"
theorem tyN_d {h : Hh} {x : PyData} : tyN h (.d x) = some (tyD x) := by cases x <;> rfl
section
variable {env : G.Env} {f g : ES} {x : PyData}
theorem isi_x {T : String} (h : f env = rt (.d x)) : eIsi T f env = rt (.d (.bool (isiB (tyD x) T))) := by
  unfold eIsi
  rw [h, bnd_rt]
  funext hh
  rw [tyN_d]
  rfl
def isTup : PyData → Bool
  | .tuple _ => true
  | _ => false
def isLst : PyData → Bool
  | .list _ => true
  | _ => false
def isInt : PyData → Bool
  | .int _ => true
  | _ => false
theorem isi_tup (h : f env = rt (.d x)) : eIsi "tuple" f env = rt (.d (.bool (isTup x))) := by
  rw [isi_x h]
  cases x <;> rfl
theorem isi_lst (h : f env = rt (.d x)) : eIsi "list" f env = rt (.d (.bool (isLst x))) := by
  rw [isi_x h]
  cases x <;> rfl
def wB (lo hi : Int) : PyData → Bool
  | .int i => decide (lo ≤ i) && decide (i ≤ hi)
  | _ => false
theorem eAnd_f {b : Bool} (h : f env = rt (.d (.bool false))) : eAnd f g env = rt (.d (.bool false)) := by unfold eAnd; rw [h, bnd_rt, asB_b, bnd_rt, if_neg Bool.false_ne_true]
/-- a and b, b asked only where a -/
theorem eAnd_c {a b : Bool} (h : f env = rt (.d (.bool a))) (h2 : a = true → g env = rt (.d (.bool b))) : eAnd f g env = rt (.d (.bool (a && b))) := by
  cases a with
  | true => exact eAnd_t h (h2 rfl)
  | false => unfold eAnd; rw [h, bnd_rt, asB_b, bnd_rt, if_neg Bool.false_ne_true]; rfl
theorem bOr_t {f g : G.Env → Sm Bool} (h : f env = rt true) : bOr f g env = rt true := by unfold bOr; rw [h, bnd_rt, if_pos rfl]
theorem bOr_c {f g : G.Env → Sm Bool} {a b : Bool} (h : f env = rt a) (h2 : a = false → g env = rt b) : bOr f g env = rt (a || b) := by
  cases a with
  | true => rw [bOr_t h]; rfl
  | false => rw [bOr_f h (h2 rfl)]; rfl
theorem bAnd_c {f g : G.Env → Sm Bool} {a b : Bool} (h : f env = rt a) (h2 : a = true → g env = rt b) : bAnd f g env = rt (a && b) := by
  cases a with
  | true => rw [bAnd_t h (h2 rfl)]; rfl
  | false => unfold bAnd; rw [h, bnd_rt, if_neg Bool.false_ne_true]; rfl
/-- a test that returns: if b: return x -/
theorem if_ret_t {t : G.Env → Sm Bool} {r f : ES} {g : SS} {m : M} {P : Fl × G.Env} (h : t env = rt true) (hr : r env = rt m) : sSeq (sIf t (sRet r) sNil) g env = rt (.rt m, env) := seq_rt' (by rw [if_T h]; exact ret_rt hr)
theorem le3_c {f : ES} {n lo hi : Int} (h : f env = rt (.d (.int n))) : eCh oLe oLe (eC (.int lo)) f (eC (.int hi)) env = rt (.d (.bool (decide (lo ≤ n) && decide (n ≤ hi)))) := by
  unfold eCh
  show bnd (eC _ env) _ = _
  simp only [eC, bnd_rt, h, le_i, asB_b]
  by_cases q : lo ≤ n
  · simp only [q, decide_true, Bool.true_and, asB_b, bnd_rt, if_true]
  · simp only [q, decide_false, Bool.false_and, asB_b, bnd_rt, if_false, Bool.false_eq_true]
/-- all([el for x in xs]) -/
theorem all_c {el : ES} {i : Nat} {xs : List PyData} (p : PyData → Bool) (h : f env = rt (.d (.tuple xs))) (hl : xs.length < 16777216) (he : ∀ x ∈ xs, el ((wipeE env [i]).set i (some (.d x))) = rt (.d (.bool (p x)))) :
    eB nAll (aCons (eVal (nComp (iSeqF f) (.nm i) bYes el [i])) aNil) env = rt (.d (.bool (xs.all p))) := by
  have hv := comp_valT (fun x => M.d x) (fun x => PyData.bool (p x)) (itf := iSeqF f) (vs := [i]) (p := .nm i) (el := el) (env := env) (ys := xs) (seqF_t h) hl fun x hx => ⟨_, rfl, he x hx⟩
  rw [show (xs.map fun x => PyData.bool (p x)) = (xs.map p).map PyData.bool by rw [List.map_map]; rfl] at hv
  simp only [eB, aCons, aNil, hv, bnd_rt, all_bs]
  rw [List.all_map]
  rfl
/-- [x for x in xs if t] -/
theorem filt_c {t : G.Env → Sm Bool} {i : Nat} {xs : List PyData} (p : PyData → Bool) (h : f env = rt (.d (.tuple xs))) (hl : xs.length < 16777216) (hi : i < env.length) (he : ∀ x ∈ xs, t ((wipeE env [i]).set i (some (.d x))) = rt (p x)) :
    eVal (nComp (iSeqF f) (.nm i) t (eVar i) [i]) env = rt (.d (.list (xs.filter p))) := by
  have := comp_val (fun x => M.d x) p (fun x => x) (itf := iSeqF f) (vs := [i]) (p := .nm i) (tt := t) (el := eVar i) (env := env) (ys := xs) (seqF_t h) hl fun x hx => ⟨_, rfl, he x hx, fun _ => by
    refine var_rt ?_
    have hl : i < (wipeE env [i]).length := by
      show i < (env.set i none).length
      rw [List.length_set]; exact hi
    rw [List.getElem?_set_self (h := hl)]⟩
  rw [this, List.map_id']
/-- .. != [] -/
theorem nil_ne {xs : List PyData} (h : f env = rt (.d (.list xs))) : e2 oNe f (eVal (nLst aNil)) env = rt (.d (.bool (!xs.isEmpty))) := by
  have en : eVal (nLst aNil) env = rt (.d (.list [])) := rfl
  unfold e2
  rw [h, bnd_rt, en, bnd_rt]
  funext hh
  have : eqD hh (.d (.list xs)) (.d (.list [])) = some xs.isEmpty := by
    simp only [eqD, rsv]
    split
    · cases xs <;> rfl
    · rfl
  simp only [oNe, this]
  rfl
theorem nil_eq {xs : List PyData} (h : f env = rt (.d (.list xs))) : e2 oEq f (eVal (nLst aNil)) env = rt (.d (.bool xs.isEmpty)) := by
  have en : eVal (nLst aNil) env = rt (.d (.list [])) := rfl
  unfold e2
  rw [h, bnd_rt, en, bnd_rt]
  funext hh
  have : eqD hh (.d (.list xs)) (.d (.list [])) = some xs.isEmpty := by
    simp only [eqD, rsv]
    split
    · cases xs <;> rfl
    · rfl
  simp only [oEq, this]
  rfl
theorem tnil_eq {xs : List PyData} (h : f env = rt (.d (.tuple xs))) : e2 oEq f (eTup aNil) env = rt (.d (.bool xs.isEmpty)) := by
  have en : eTup aNil env = rt (.d (.tuple [])) := rfl
  unfold e2
  rw [h, bnd_rt, en, bnd_rt]
  funext hh
  have : eqD hh (.d (.tuple xs)) (.d (.tuple [])) = some xs.isEmpty := by
    simp only [eqD, rsv]
    split
    · cases xs <;> rfl
    · rfl
  simp only [oEq, this]
  rfl
theorem slice_t {lo hi : Option ES} {l u : Option Int} {ds : List PyData} (h : f env = rt (.d (.tuple ds))) (hlo : oPart lo env = rt l) (hhi : oPart hi env = rt u) : eSl f lo hi env = rt (.d (.tuple (cutG ds l u))) := by
  unfold eSl
  rw [h, bnd_rt, hlo, bnd_rt, hhi, bnd_rt]
  funext hh
  have ec : cutG (ds.map M.d) l u = (cutG ds l u).map M.d := by
    unfold cutG
    rw [List.length_map, List.map_take, List.map_drop]
  simp only [cutS', tupM, ec, mkTup_ds]
  rfl
theorem add_t {xs ys : List PyData} (h1 : f env = rt (.d (.tuple xs))) (h2 : g env = rt (.d (.tuple ys))) (h : xs.length + ys.length ≤ 16777216) : e2 oAdd f g env = rt (.d (.tuple (xs ++ ys))) := by
  unfold e2
  rw [h1, bnd_rt, h2, bnd_rt]
  funext hh
  simp only [oAdd, tupM, List.length_map]
  rw [if_pos (show xs.length + ys.length ≤ LIM from h), ← List.map_append, mkTup_ds]
  rfl
theorem tup1_t {y : PyData} (h : f env = rt (.d y)) : eTup (aCons f aNil) env = rt (.d (.tuple [y])) := by
  unfold eTup
  rw [one_rt h, bnd_rt]
  rfl
end
end G

/-! zip; list(range(..)), tuple(range(..)) -/
namespace G
open PySem PySem.Spec L2 PySem.W
def zipM (x y : M) : Sm SIt := match tupM x, tupM y with
  | some xs, some ys => rt (.zp (.vals xs) (.vals ys))
  | none, none => match x, y with
    | .d (.list xs), .d (.list ys) => rt (.zp (.vals (xs.map M.d)) (.vals (ys.map M.d)))
    | _, _ => fail
  | _, _ => fail
def iZpF (f g : ES) : Env → Sm SIt := fun env => bnd (f env) fun x => bnd (g env) fun y => zipM x y
theorem zp_stop {xs ys : List M} {i : Nat} {h : Hh} (e : (SIt.zp (.vals xs) (.vals ys)).get i h = some none) : xs.length ≤ i ∨ ys.length ≤ i := by
  simp only [SIt.get] at e
  by_cases h1 : xs.length ≤ i
  · exact .inl h1
  · by_cases h2 : ys.length ≤ i
    · exact .inr h2
    · rw [List.getElem?_eq_getElem (by omega : i < xs.length), List.getElem?_eq_getElem (by omega : i < ys.length)] at e
      cases e
theorem zp_item {xs ys : List M} {i : Nat} {h : Hh} {m : M} (e : (SIt.zp (.vals xs) (.vals ys)).get i h = some (some m)) : ∃ x y, xs[i]? = some x ∧ ys[i]? = some y ∧ m = mkTup [x, y] := by
  simp only [SIt.get] at e
  cases h1 : xs[i]? with
  | none => rw [h1] at e; cases e
  | some x =>
    cases h2 : ys[i]? with
    | none => rw [h1, h2] at e; cases e
    | some y =>
      rw [h1, h2] at e
      cases e
      exact ⟨x, y, rfl, rfl, rfl⟩
section
variable {K : PySem.W.Frag} {W : Wd} {a b : Addr} {xs ys : List M} {vs us : List V}
theorem jok_zpT (f1 : W.F a = some (.tup vs)) (r1 : RVs K W xs vs) (f2 : W.F b = some (.tup us)) (r2 : RVs K W ys us) : JOk K W (.zp (.vals xs) (.vals ys)) (RZ.ItzT K a b) := fun W2 ok2 s2 i => by
  have q1 : SqT K W2.H a vs := SqT.of (ok2.sub _ _ (s2.F _ _ f1))
  have q2 : SqT K W2.H b us := SqT.of (ok2.sub _ _ (s2.F _ _ f2))
  have l1 := RMs.length r1
  have l2 := RMs.length r2
  refine ⟨fun e => ⟨vs, us, q1, q2, by have := zp_stop e; omega⟩, fun m e => ?_⟩
  obtain ⟨x, y, e1, e2, rfl⟩ := zp_item e
  obtain ⟨v, e3, e4⟩ := RMs.get' (RMs.step r1 s2) e1
  obtain ⟨u, e5, e6⟩ := RMs.get' (RMs.step r2 s2) e2
  refine ⟨⟨vs, us, v, u, q1, q2, e3, e5⟩, fun z H' ⟨T, x', y', y1, y2, y3, y4, y5⟩ => ?_⟩
  have p1 := y4 vs q1
  rw [e3] at p1
  cases p1
  have p2 := y5 us q2
  rw [e5] at p2
  cases p2
  subst y1 y3
  exact pair_new ok2 y2 e4 e6
theorem jok_zpL (f1 : W.F a = some (.lst vs)) (r1 : RVs K W xs vs) (f2 : W.F b = some (.lst us)) (r2 : RVs K W ys us) : JOk K W (.zp (.vals xs) (.vals ys)) (Itz K a b) := fun W2 ok2 s2 i => by
  have q1 : SqL K W2.H a vs := SqL.of (ok2.sub _ _ (s2.F _ _ f1))
  have q2 : SqL K W2.H b us := SqL.of (ok2.sub _ _ (s2.F _ _ f2))
  have l1 := RMs.length r1
  have l2 := RMs.length r2
  refine ⟨fun e => ⟨vs, us, q1, q2, by have := zp_stop e; omega⟩, fun m e => ?_⟩
  obtain ⟨x, y, e1, e2, rfl⟩ := zp_item e
  obtain ⟨v, e3, e4⟩ := RMs.get' (RMs.step r1 s2) e1
  obtain ⟨u, e5, e6⟩ := RMs.get' (RMs.step r2 s2) e2
  refine ⟨⟨vs, us, v, u, q1, q2, e3, e5⟩, fun z H' ⟨T, x', y', y1, y2, y3, y4, y5⟩ => ?_⟩
  have p1 := y4 vs q1
  rw [e3] at p1
  cases p1
  have p2 := y5 us q2
  rw [e5] at p2
  cases p2
  subst y1 y3
  exact pair_new ok2 y2 e4 e6
end
section
variable {X : Cx} {E : XE} {pos p tpos : Pos} {e e2 : Expr} {f f2 : ES} {elts : List Expr} {kk : Nat}
theorem i_zip (hg : Gl X "zip") (hm : X.mg "zip" = none) (he : PE X e (tM X.K E f)) (he2 : PE X e2 (tM X.K E f2)) (hs1 : starEach [e2] X.env = (false, eval e2 X.env) :: starEach [] X.env := by rfl) (hs : starEach [e, e2] X.env = (false, eval e X.env) :: starEach [e2] X.env := by rfl) (hpl : (backTo pos (starEach [e2] X.env)).any (·.1) = false := by rfl) :
    PI X (.Tuple elts kk tpos) (.Call (.Name "zip" p) [e, e2] [] pos) (tIt X.K E (iZpF f f2)) := PI.imp (RZ.pi_zipA hg hm (pa_cons he (pa_cons he2 pa_nil hs1) hs) hs hpl) fun σ H R ⟨W, env, hH, ok, er, q⟩ => by
  subst hH
  refine ⟨W, env, rfl, ok, er, (PostG.bind q).mono fun x W1 ok1 s1 q1 v rv => ⟨W1, env, rfl, ok1, er.step s1, (PostG.bind q1).mono fun y W2 ok2 s2 q2 u ru => ?_⟩⟩
  have rv2 := RM.step rv s2
  unfold zipM at q2
  cases e1 : tupM x with
  | some xs =>
    cases e3 : tupM y with
    | some ys =>
      simp only [e1, e3] at q2
      obtain ⟨a, vs, h1, h2, h3⟩ := tupM_ok ok2 rv2 e1
      obtain ⟨b, us, g1, g2, g3⟩ := tupM_ok ok2 ru e3
      subst h1 g1
      exact ⟨a, b, vs, us, rfl, .inr ⟨SqT.of (ok2.sub _ _ h2), SqT.of (ok2.sub _ _ g2), (PostG.ret ok2 q2) _ (jok_zpT h2 h3 g2 g3)⟩⟩
    | none => simp only [e1, e3] at q2; exact q2.elim
  | none =>
    cases e3 : tupM y with
    | some ys => simp only [e1, e3] at q2; exact q2.elim
    | none =>
      simp only [e1, e3] at q2
      split at q2
      · rename_i xs ys _ _
        simp only [RM, RD] at rv2 ru
        obtain ⟨a, vs, h1, h2, h3⟩ := rv2
        obtain ⟨b, us, g1, g2, g3⟩ := ru
        subst h1 g1
        exact ⟨a, b, vs, us, rfl, .inl ⟨SqL.of (ok2.sub _ _ h2), SqL.of (ok2.sub _ _ g2), (PostG.ret ok2 q2) _ (jok_zpL h2 (RMs.of_ds h3) g2 (RMs.of_ds g3))⟩⟩
      · exact q2.elim
/-! ### list(range(n)), tuple(range(n)) -/
def rgD (n : Int) : List PyData := (rngN n).map PyData.int
where rngN (n : Int) : List Int := (List.range n.toNat).map fun (i : Nat) => (i : Int)
def nRng (f : ES) : Env → Sm (List M) := fun env => bnd (f env) fun m => match m with
  | .d (.int n) => if (decide (0 ≤ n) && decide (n ≤ 16777216)) = true then rt ((rgD n).map M.d) else fail
  | _ => fail
def eTupRng (f : ES) : ES := fun env => bnd (f env) fun m => match m with
  | .d (.int n) => if (decide (0 ≤ n) && decide (n ≤ 16777216)) = true then rt (.d (.tuple (rgD n))) else fail
  | _ => fail
theorem rgV_rel {F : Hp} (n : Int) : RDs F (rgD n) (rgV 0 n) := by
  have key : ∀ l : List Nat, RDs F (l.map fun (i : Nat) => PyData.int (i : Int)) (l.map fun (i : Nat) => V.int (0 + (i : Int))) := fun l => by
    induction l with
    | nil => simp only [List.map_nil, RDs]
    | cons i l ih =>
      simp only [List.map_cons, RDs]
      exact ⟨_, _, rfl, by simp only [RD]; rw [Int.zero_add], ih⟩
  have := key (List.range (n - 0).toNat)
  unfold rgV rgD rgD.rngN
  rw [Int.sub_zero] at this ⊢
  rw [List.map_map]
  exact this
theorem p_listRng {q r : Pos} {e : Expr} (hc : X.calm = true) (hg : Gl X "list") (hm : X.mg "list" = none) (hg2 : Gl X "range") (hm2 : X.mg "range" = none) (he : PE X e (tM X.K E f)) (na : starEach [e] X.env = (false, eval e X.env) :: starEach [] X.env := by rfl)
    (na2 : starEach [.Call (.Name "range" q) [e] [] r] X.env = (false, eval (.Call (.Name "range" q) [e] [] r) X.env) :: starEach [] X.env := by rfl) : PE X (.Call (.Name "list" p) [.Call (.Name "range" q) [e] [] r] [] pos) (tN X.K E (nRng f)) :=
  PE.imp (pe_listRg hc hg hm (prg_1 hg2 hm2 he na) na2) fun σ H Q ⟨W, env, hH, ok, er, p⟩ => by
  subst hH
  refine ⟨W, env, rfl, ok, er, (PostG.bindF (Step.refl W) p).mono fun m W1 ok1 s1 ⟨s0, p1⟩ v rv => ?_⟩
  cases m with
  | d x => cases x with
    | int n =>
      have p1 := p1
      by_cases hn : (decide (0 ≤ n) && decide (n ≤ 16777216)) = true
      · simp only [hn, if_true] at p1
        simp only [Bool.and_eq_true, decide_eq_true_eq] at hn
        refine ⟨n, int_of rv, RgOk.of_le (by omega) hn.2 (by omega) hn.1, fun q hq => ?_⟩
        exact p1 (W1.more q _) rfl (ok1.more _ hq) (s0.trans (Step.more hq)) q _ (s0.dom q hq) (ok1.fp hq) (fun k hk => ok1.nec hq hk) upd_same (RMs.step (RMs.of_ds (rgV_rel n)) (Step.more hq))
      · simp only [hn, if_false] at p1; exact p1.elim
    | _ => exact p1.elim
  | _ => exact p1.elim
theorem p_tupRng {q r : Pos} {e : Expr} (hc : X.calm = true) (hg : Gl X "tuple") (hm : X.mg "tuple" = none) (hg2 : Gl X "range") (hm2 : X.mg "range" = none) (he : PE X e (tM X.K E f)) (na : starEach [e] X.env = (false, eval e X.env) :: starEach [] X.env := by rfl)
    (na2 : starEach [.Call (.Name "range" q) [e] [] r] X.env = (false, eval (.Call (.Name "range" q) [e] [] r) X.env) :: starEach [] X.env := by rfl) : PE X (.Call (.Name "tuple" p) [.Call (.Name "range" q) [e] [] r] [] pos) (tM X.K E (eTupRng f)) :=
  PE.imp (pe_tupRg hc hg hm (prg_1 hg2 hm2 he na) na2) fun σ H Q ⟨W, env, hH, ok, er, p⟩ => by
  subst hH
  refine ⟨W, env, rfl, ok, er, (PostG.bind p).mono fun m W1 ok1 s1 p1 v rv => ?_⟩
  cases m with
  | d x => cases x with
    | int n =>
      have p1 := p1
      by_cases hn : (decide (0 ≤ n) && decide (n ≤ 16777216)) = true
      · simp only [hn, if_true] at p1
        simp only [Bool.and_eq_true, decide_eq_true_eq] at hn
        refine ⟨n, int_of rv, RgOk.of_le (by omega) hn.2 (by omega) hn.1, fun q hq => ?_⟩
        refine p1 (W1.froz q (.tup (rgV 0 n))) rfl (ok1.froz _ hq) (Step.froz ok1 hq) _ ?_
        show RM X.K W1.ρ (upd W1.F q (.tup (rgV 0 n))) W1.h.length (.d (.tuple (rgD n))) (.ref q)
        simp only [RM, RD]
        exact ⟨q, _, rfl, upd_same, rgV_rel n⟩
      · simp only [hn, if_false] at p1; exact p1.elim
    | _ => exact p1.elim
  | _ => exact p1.elim
end
end G

/-! t[::-1] of a tuple -/
namespace G
open PySem PySem.Spec L2 PySem.W HT PyProof.Rows
section
variable {prog : Program} {w : World} {A : Around} {E : Value → Shared → Prop} {s : Shared}
theorem rev_pick (xs : Array Value) : ((List.range xs.size).filterMap fun (k : Nat) => xs[(((xs.size : Int) - 1) + (k : Int) * (-1)).toNat]?).toArray = xs.toList.reverse.toArray := by
  refine congrArg List.toArray ?_
  apply List.ext_getElem?
  intro i
  have e : ∀ (l : List Nat), (∀ k ∈ l, k < xs.size) → (l.filterMap fun (k : Nat) => xs[(((xs.size : Int) - 1) + (k : Int) * (-1)).toNat]?) = l.map fun k => xs.toList.getD (xs.size - 1 - k) .none := fun l => by
    induction l with
    | nil => intro _; rfl
    | cons k l ih =>
      intro h
      have hk := h k (List.mem_cons_self ..)
      have e1 : (((xs.size : Int) - 1) + (k : Int) * (-1)).toNat = xs.size - 1 - k := by omega
      have hl : xs.size - 1 - k < xs.size := by omega
      rw [List.filterMap_cons, e1, Array.getElem?_eq_getElem hl, List.map_cons, ih fun j hj => h j (List.mem_cons_of_mem _ hj)]
      simp only
      rw [List.getD_eq_getElem?_getD, Array.getElem?_toList, Array.getElem?_eq_getElem hl]
      rfl
  rw [e _ fun k hk => List.mem_range.mp hk, List.getElem?_map]
  by_cases hi : i < xs.size
  · rw [List.getElem?_range hi, List.getElem?_reverse (by rw [Array.length_toList]; exact hi), Array.length_toList, Option.map_some, List.getD_eq_getElem?_getD, Array.getElem?_toList, Array.getElem?_eq_getElem (by omega)]
    rfl
  · rw [List.getElem?_eq_none (by rw [List.length_range]; omega), List.getElem?_eq_none (by rw [List.length_reverse, Array.length_toList]; omega)]
    rfl
theorem getItem_tuple_rev {t sl : Addr} {items : Array Value} {tk : Tok} {Q : Value → Shared → Prop} (ht : IsTup s.heap t items) (hs : s.heap.IsSliceOf sl .none .none (.int (-1) tk))
    (h : Q (.ref s.heap.objs.size) { s with heap := s.heap.push { cls := .type "tuple", data := .seq items.toList.reverse.toArray } }) (hsz : items.size ≤ sizeLine) : wpAny (model prog w) A (getItem (.ref t) (.ref sl)) Q E s := by
  have fits : sizeOk (.seq items.toList.reverse.toArray) := by
    show items.toList.reverse.toArray.size ≤ sizeLine
    rw [List.size_toArray, List.length_reverse, Array.length_toList]
    exact hsz
  obtain ⟨os, hos, hcs, hds⟩ := id hs
  have hTs : s.TypeIs (.ref sl) "slice" := ⟨os, hos, hcs⟩
  unfold getItem
  try with_reducible refine wpAny_holding ?_
  first | refine wpAny_bind (wpAny_pure ?_) | skip
  refine wpAny_bind (wpAny_sequenceKey ht.typeIs (by decide) ?_)
  refine wpAny_bind (wpAny_callSpecial?_slot (name := Str.ofString "__getitem__") ht.typeIs PyProof.Rows.slot_tuple_getitem
    (wpAny_call_entry PyProof.Rows.slot_tuple_getitem ht.typeIs entry_tuple_getitem ?_ (args_tuple_getitem _ _)))
  show wpAny _ _ (Builtin.Tuple.tupleItemsOf (.ref t) >>= _) _ _ s
  refine wpAny_bind (tupleItemsOf_ ht ?_)
  refine wpAny_bind (wpAny_typeOf hTs ?_)
  rw [if_pos (by decide)]
  have key : ∀ {A : Around} {Q : Int × Int × Nat → Shared → Prop}, Q ((items.size : Int) - 1, -1, items.size) s → wpAny (model prog w) A (Builtin.Slice.sliceApplied (.ref sl) (pure (items.size : Int))) Q E s := fun {A Q} hq => by
    unfold Builtin.Slice.sliceApplied Builtin.Slice.sliceFields
    refine wpAny_bind (wpAny_bind (wpAny_field hos hds (x := .none) rfl (wpAny_bind (wpAny_field hos hds (x := .none) rfl (wpAny_bind (wpAny_field hos hds (x := .int (-1) tk) rfl (wpAny_pure ?_)))))))
    refine wpAny_bind (slicePart_int ?_)
    show wpAny _ _ (if ((-1 : Int) == 0) = true then _ else _) _ _ s
    rw [if_neg (by decide)]
    refine wpAny_bind (slicePart_none (wpAny_bind (slicePart_none (wpAny_bind (wpAny_pure ?_)))))
    have e : Builtin.Slice.sliceAdjust none none (-1) (items.size : Int) = ((items.size : Int) - 1, -1) := by
      unfold Builtin.Slice.sliceAdjust
      simp
    have e2 : Builtin.Slice.slicePlaces ((items.size : Int) - 1) (-1) (-1) = items.size := by
      unfold Builtin.Slice.slicePlaces
      simp
      omega
    show wpAny _ _ (match Builtin.Slice.sliceAdjust none none (-1) (items.size : Int) with | (lo, hi) => pure (lo, (-1 : Int), Builtin.Slice.slicePlaces lo hi (-1))) _ _ s
    rw [e]
    show wpAny _ _ (pure ((items.size : Int) - 1, (-1 : Int), Builtin.Slice.slicePlaces ((items.size : Int) - 1) (-1) (-1))) _ _ s
    rw [e2]
    exact wpAny_pure hq
  refine wpAny_bind (key ?_)
  have hno : ¬ (((items.size : Int) - 1 == 0 && (-1 : Int) == 1 && items.size == items.size) = true) := by
    rw [show ((-1 : Int) == 1) = false by decide, Bool.and_false, Bool.false_and]
    exact Bool.false_ne_true
  show wpAny _ _ (if ((items.size : Int) - 1 == 0 && (-1 : Int) == 1 && items.size == items.size) = true then _ else _) _ _ s
  rw [if_neg hno, rev_pick]
  first
    | exact wpAny_bind (m := Builtin.Tuple.tupleExact _) (wpAny_newObj_type (wpAny_pure ⟨_, rfl, wpAny_pure h⟩) fits)
    | exact wpAny_bind (m := Builtin.Tuple.tupleExact _) (wpAny_newObj_type (wpAny_bind (wpAny_pure (wpAny_pure ⟨_, rfl, wpAny_pure h⟩))) fits)
    | exact wpAny_bind (wpAny_bind (m := Builtin.Tuple.tupleExact _) (wpAny_newObj_type (wpAny_pure (wpAny_pure ⟨_, rfl, wpAny_pure h⟩)) fits))
    | exact wpAny_bind (wpAny_bind (m := Builtin.Tuple.tupleExact _) (wpAny_newObj_type (wpAny_pure ⟨_, rfl, wpAny_pure h⟩) fits))
end
/-! ### x[::-1], a list or a tuple -/
def tRevA (K : PySem.W.Frag) (te : TE) : TE := fun σ H Q => te σ H fun x H1 => ∃ a xs, x = .ref a ∧ ((SqL K H1 a xs ∧ ∀ p, H1 p = none → Q (.ref p) (upd H1 p (.lst xs.reverse))) ∨ (SqT K H1 a xs ∧ ∀ p, H1 p = none → Q (.ref p) (upd H1 p (.tup xs.reverse))))
section
variable {X : Cx}
theorem pe_revA {e : Expr} {te : TE} {k : Nat} {p1 p2 p3 pos : Pos} (he : PE X e te) : PE X (.Subscript e (.Slice none none (some (.UnaryOp .USub (.Constant (.int 1) k p1) p2)) p3) pos) (tRevA X.K te) := by
  refine ⟨fun pins s σ H Q I h => ?_⟩
  refine Subscript_ (thn (he.run pins s σ H _ I h) fun v s1 ⟨x, H1, I1, r1, q1⟩ => ?_)
  obtain ⟨a, xs, ex, hq⟩ := q1
  subst ex
  cases r1
  have step : PE X (.UnaryOp .USub (.Constant (.int 1) k p1) p2) (tUn (rU fun i => .int (-i)) (tC (.int 1))) := pe_un un_neg pe_int
  refine wpAny_Slice ?_
  rw [evalPart_none]
  refine wpAny_pure ?_
  refine wpAny_pure ?_
  rw [evalPart_some]
  refine thn (step.run pins s1 σ H1 (fun o H4 => o = .int (-1) ∧ H4 = H1) I1 ⟨1, rfl, rfl, rfl⟩) fun vs s4 ⟨o, H4, I4, ps, eo, e4⟩ => ?_
  subst eo e4
  obtain ⟨tk, rfl⟩ : ∃ t, vs = Value.int (-1) t := ps
  have I5 : Inv X pins σ H4 { s4 with heap := s4.heap.push { cls := .type "slice", data := .fields #[.none, .none, .int (-1) tk] } } := I4.kept (t' := s4.toks) fun b ob q => Heap.get?_push_of_some _ q
  show wpAny (model X.prog X.w) X.A (subscriptTail e (.Slice none none (some (.UnaryOp .USub (.Constant (.int 1) k p1) p2)) p3) (.ref a) (.ref s4.heap.objs.size)) (EP X pins σ Q) X.xe { s4 with heap := s4.heap.push { cls := .type "slice", data := .fields #[.none, .none, .int (-1) tk] } }
  rcases hq with ⟨hx, q⟩ | ⟨hx, q⟩
  · obtain ⟨its, r, ht, hz⟩ := I5.list hx
    have hlen := r.length
    refine tail_any (ops := [.ref a, .ref s4.heap.objs.size]) ht.isList.typeIs (PySem.slot_list_getitem.lookup) ?_ (by with_unfolding_all rfl)
    refine wpAny_getItem_list_slice ht.isList (Heap.IsSliceOf.new _ .none .none (.int (-1) tk)) .none .none (.int (-1) tk) (by decide) ?_ (by rw [List.size_toArray]; omega)
    rw [PySem.W.krv_pick]
    refine ⟨.ref _, _, I5.laid (t' := s4.toks) (o := .lst xs.reverse) (fun b ob q => Heap.get?_push_of_some _ q) (Nat.le_refl _) ?_, rfl, q _ (I5.hok.fresh (Nat.le_refl _))⟩
    exact ⟨by rw [List.length_reverse]; exact hz, _, 0, r.reverse, Heap.get?_push_size _ rfl⟩
  · obtain ⟨its, r, ht, hz⟩ := I5.tuple hx
    have hlen := r.length
    refine tail_any (ops := [.ref a, .ref s4.heap.objs.size]) ht.typeIs (PyProof.Rows.slot_tuple_getitem.lookup) ?_ (by with_unfolding_all rfl)
    refine getItem_tuple_rev ht (Heap.IsSliceOf.new _ .none .none (.int (-1) tk)) ?_ (by rw [List.size_toArray]; omega)
    refine ⟨.ref _, _, I5.laid (t' := s4.toks) (o := .tup xs.reverse) (fun b ob q => Heap.get?_push_of_some _ q) (Nat.le_refl _) ?_, rfl, q _ (I5.hok.fresh (Nat.le_refl _))⟩
    exact ⟨by rw [List.length_reverse]; exact hz, _, r.reverse, IsTup.new _ _⟩
end
def revA (x : M) : Sm M := fun h => match lstM h x with
  | some ms => mkL ms.reverse h
  | none => match tupM x with
    | some ms => some (.val (mkTup ms.reverse) h)
    | none => none
def eRevA (f : ES) : ES := fun env => bnd (f env) revA
theorem p_revA {X : Cx} {E : XE} {pos : Pos} {e : Expr} {f : ES} {k : Nat} {q1 q2 q3 : Pos} (he : PE X e (tM X.K E f)) : PE X (.Subscript e (.Slice none none (some (.UnaryOp .USub (.Constant (.int 1) k q1) q2)) q3) pos) (tM X.K E (eRevA f)) := PE.imp (pe_revA he) fun σ H Q ⟨W, env, hH, ok, er, p⟩ => by
  subst hH
  refine ⟨W, env, rfl, ok, er, (PostG.bind p).mono fun x W1 ok1 s1 p1 v rv => ?_⟩
  unfold revA at p1
  split at p1
  · rename_i ms e
    obtain ⟨a, vs, h1, h2, h3⟩ := lstM_ok ok1 rv e
    exact ⟨a, vs, h1, .inl ⟨SqL.of h2, mkL_fin ok1 (RMs.reverse h3) p1⟩⟩
  · split at p1
    · rename_i ms e
      obtain ⟨a, vs, h1, h2, h3⟩ := tupM_ok ok1 rv e
      exact ⟨a, vs, h1, .inr ⟨SqT.of (ok1.sub _ _ h2), mkTup_fin ok1 (RMs.reverse h3) p1⟩⟩
    · exact p1.elim
end G

/-! set(xs) of a list of ints; sorted(set(xs)) of a list -/
namespace G
open PySem PySem.Spec L2 PySem.W PyProof.Rows
/-- a set as it is made, with nothing in it -/
abbrev noneIn (w : World) : Obj := ⟨.type "set", none, .set #[] 0 (.fresh 0 0 (!w.params.followText "set-order")), #[]⟩
section
variable {P : Program} {w : World} {A : Around} {E : Value → Shared → Prop} {s : Shared}
theorem get_two {h : Heap} {o o2 x : Obj} {b : Addr} (e : h.get? b = some x) : ((h.push o).push o2).get? b = some x := Heap.get?_push_of_some _ (Heap.get?_push_of_some _ e)
theorem not_two {hp : Heap} {o : Obj} {l : Addr} (hl : l < hp.objs.size) : hp.objs.size ∉ [(hp.push o).objs.size, l] := by
  rw [Heap.size_push]
  intro h
  rcases List.mem_cons.mp h with h | h
  · exact Nat.ne_of_lt (Nat.lt_succ_self _) h
  · exact Nat.ne_of_gt hl (List.mem_singleton.mp h)
theorem set_of_list {l : Addr} {xs : Array Value} (ks : List Int) {Q : Value → Shared → Prop} (hA : A.handled = none) (lst : s.heap.IsList l xs) (hI : IntsAre xs.toList ks) (few : ks.length + 1 < scanBound)
    (fin : ∀ (hp : Heap) (tk n : Nat), SetR w hp s.heap.objs.size (fun j => decide (j ∈ ks)) n → n ≤ ks.length → (∀ b o, s.heap.get? b = some o → hp.get? b = some o) → Q (.ref s.heap.objs.size) { s with heap := hp, toks := tk }) :
    wpAny (model P w) A (call (.type "set") [.ref l]) Q E s := by
  have size : xs.size = ks.length := by have := IntsAre.length hI; rwa [Array.length_toList] at this
  obtain ⟨c, tl, hmro⟩ := F.called_set.mro
  have hmade := F.called_set.made; have hsub := F.called_set.sub
  refine wpAny_call (codeAny_of_tree (?_ : wpAny _ _ (callAny (.type "set") _) _ _ _))
  refine wpAny_pure (And.intro (Code.quiet_builtin _ (by decide +kernel)) (codeAny_builtin F.entry_type_call ?_))
  rw [Around.under_plain (weight_type_call_type "set" [Value.ref l] []) rfl]
  have h1 := F.called_set.notType; have h2 := F.called_set.canCreate; have hct := F.typeCall_set_1 (.ref l)
  repeat (any_goals (first | assumption | wp_step))
  refine codeAny_mono (code_set_led1 (.ref l) (E := E) (Q₁ := fun r s1 => r = .ref s.heap.objs.size ∧ s1 = { s with heap := s.heap.push (noneIn w) }) (And.intro rfl rfl)) fun res s1 got => ?_
  match res, got with
  | .error _, got => exact got
  | .ok (.ret obj), ⟨ro, rs⟩ =>
    subst ro rs
    have hS : (s.heap.push (noneIn w)).get? s.heap.objs.size = some (noneIn w) := Heap.get?_push_size _ rfl
    have hT : Shared.TypeIs { s with heap := s.heap.push (noneIn w) } (.ref s.heap.objs.size) "set" := ⟨_, hS, rfl⟩
    have hli := F.called_set.init.lookup; have hbi := F.called_set.init.bind (.ref s.heap.objs.size)
    repeat (any_goals (first | assumption | wp_step))
    refine codeAny_mono (codeAny_call_builtin (R := wants (fun r s2 => r = .none ∧ ∃ hp tk n, s2 = { s with heap := hp, toks := tk } ∧ SetR w hp s.heap.objs.size (fun j => decide (j ∈ ks)) n ∧ n ≤ ks.length ∧ ∀ b o, s.heap.get? b = some o → hp.get? b = some o) E) F.called_set.init.plain F.entry_set_init (check_set_init_1 hT ?_)) fun res2 s2 got2 => ?_
    · obtain ⟨⟨ocls, odict, odata, oslots⟩, at_, hcl, nl, hdl⟩ := lst
      simp only at hcl hdl; subst hcl hdl
      have at1 : (s.heap.push (noneIn w)).get? l = some { cls := .type "list", dict := odict, data := .seq xs nl, slots := oslots } := Heap.get?_push_of_some _ at_
      have hsls := F.sub_list_set; have hslf := F.sub_list_frozenset
      have hne : (Value.type "list" == Value.type "dict") = false := by decide
      have lst1 : (s.heap.push (noneIn w)).IsList l xs := ⟨_, at1, rfl, nl, rfl⟩
      unfold Builtin.«set.__init__» noKeywords Builtin.Frozenset.updateFrom
      generalize hPI : pyIter = PI; wp_walk; subst hPI
      refine wpAny_pyIter_list lst1 (wpAny_bind (wpAny_runValue ?_))
      have low : l < s.heap.objs.size := Heap.lt_size at_
      have hA3 : A.in1.in1.in1.handled = none := by simp [hA]
      have apart : l ≠ (s.heap.push (noneIn w)).objs.size := by rw [Heap.size_push]; exact Nat.ne_of_lt (Nat.lt_succ_of_lt low)
      refine set_update_ints ((Walks.list hA3 _ l apart xs).toS) s.heap.objs.size (not_two low) ks size few (fun i v hv => ?_) (xs.size - 0) 0 _ (by omega) (Nat.zero_le _) (And.intro (Exists.intro _ (And.intro (Heap.get?_push_size _ rfl) (And.intro rfl rfl))) (lst1.push _)) ⟨0, Nat.le_refl 0, setR_new_at (Heap.get?_push_of_some _ hS)⟩ fun s3 n3 mv le3 R3 => ?_
      · have hi : i < ks.length := by rw [← size]; exact (Array.getElem?_eq_some_iff.mp hv).1
        obtain ⟨t, e⟩ := IntsAre.int_at hI i v (by rw [Array.getElem?_toList]; exact hv)
        exact ⟨ks[i], t, List.getElem?_eq_getElem hi, by rw [e, List.getD_eq_getElem?_getD, List.getElem?_eq_getElem hi] <;> rfl⟩
      · obtain ⟨hp3, g3, d3, tk3, os3⟩ := s3
        have eg : g3 = s.gens := mv.gens
        have ed : d3 = s.drawn := mv.drawn
        have eo : os3 = s.os := mv.os
        subst eg ed eo
        refine (wpAny_pure ?_ : wpAny _ _ _ _ _ _)
        show wpAny _ _ (ret Value.none) _ _ _
        rw [size] at le3
        refine wpAny_pure ⟨rfl, hp3, tk3, n3, rfl, R3, le3, fun b o e => mv.heap b o (fun hm => ?_) (get_two e)⟩
        have := Heap.lt_size e
        rcases List.mem_cons.mp hm with hm | hm
        · exact Nat.ne_of_lt this hm
        · rw [List.mem_singleton, Heap.size_push] at hm
          exact Nat.ne_of_lt (Nat.lt_succ_of_lt this) hm
    · match res2, got2 with
      | .error _, got2 => exact got2
      | .ok (.ret r), ⟨r0, hp, tk, n, e2, R2, le2, kp2⟩ =>
        subst r0 e2
        repeat (any_goals (first | assumption | wp_step))
        exact fin _ _ _ R2 le2 kp2
end
section
variable {X : Cx}
def tSortSetL (K : PySem.W.Frag) (ta : TE) : TE := fun σ H Q => ta σ H fun x H1 => ∃ (l : Addr) (ns : List Int), x = .ref l ∧ (SqT K H1 l (ns.map V.int) ∨ SqL K H1 l (ns.map V.int)) ∧ ns.length < 64 ∧
  ∀ (ns' : List Int) (r : Addr), ns'.Pairwise (· < ·) → (∀ k, k ∈ ns' ↔ k ∈ ns) → H1 r = none → Q (.ref r) (upd H1 r (.lst (ns'.map V.int)))
theorem pe_sortSetL {a : Expr} {ta : TE} {p p2 q pos : Pos} (hc : X.calm = true) (hg : Gl X "sorted") (hm : X.mg "sorted" = none) (hg2 : Gl X "set") (hm2 : X.mg "set" = none) (ha : PE X a ta)
    (na : starEach [a] X.env = (false, eval a X.env) :: starEach [] X.env := by rfl) : PE X (.Call (.Name "sorted" p) [.Call (.Name "set" p2) [a] [] q] [] pos) (tSortSetL X.K ta) := by
  refine ⟨fun pins s σ H Q I h => ?_⟩
  refine Call_ (ld_blt I hg hm PyProof.Rows.boot_sorted ?_)
  refine PyProof.Rows.callWith_builtin1 (PyProof.Rows.args_cons ?_ rfl) rfl rfl
  refine Call_ (ld_blt I hg2 hm2 PyProof.Rows.boot_set ?_)
  refine PyProof.Rows.callWith_type1 (PyProof.Rows.args_cons (thn (ha.run pins s σ H _ I h) fun v s1 ⟨x, H1, I1, r1, q1⟩ => PyProof.Rows.args_nil ?_) na) na rfl
  obtain ⟨l, ns, rfl, hq, h1, q1⟩ := q1
  cases r1
  have hd := I1.ok.hd hc
  rcases hq with hq | hq
  obtain ⟨its, rv, pt, hz⟩ := I1.tuple hq
  refine call_set_tupI ns hd (show s1.heap.IsTuple l its.toArray from pt) (ints_of_vals rv) (by unfold scanBound; omega) fun h' tk c R1 hcn k => ?_
  rotate_left
  obtain ⟨its, rv, pl, hz⟩ := I1.list hq
  refine set_of_list ns hd (show s1.heap.IsList l its.toArray from pl.isList) (ints_of_vals rv) (by unfold scanBound; omega) fun h' tk c R1 hcn k => ?_
  all_goals
    refine PyProof.Rows.args_nil ?_
    have I2 : Inv X pins σ H1 { s1 with heap := h', toks := tk } := I1.kept k
    refine sorted_set R1 hd (by omega) fun s' r out cc ns2 k2 g2 o2 hp hget hI hlt hmem hlen => ?_
    have hlen2 : (ns2.map V.int).length ≤ sizeLine := by rw [List.length_map, hlen, sizeLine_eq]; omega
    have hn : H1 r = none := I2.hok.fresh hp
    have J : Inv X pins σ (upd H1 r (.lst (ns2.map V.int))) { s1 with heap := s'.heap, gens := s'.gens, drawn := s'.drawn, toks := s'.toks } :=
      Inv.call (s := { s1 with heap := h', toks := tk }) (ch := []) I2 (Un.laid k2 hp hn) (I2.hok.laid k2 hp ⟨hlen2, out.toList, cc, vals_of_ints hI, hget⟩) (by rw [g2]; exact I2.bare) (fun _ z => nomatch z)
    have e : s' = { s1 with heap := s'.heap, gens := s'.gens, drawn := s'.drawn, toks := s'.toks } := by
      cases s'
      cases s1
      cases o2
      rfl
    rw [e]
    exact ⟨.ref r, _, J, rfl, q1 ns2 r hlt (fun j => by rw [hmem, decide_eq_true_eq]) hn⟩
end
section
variable {X : Cx} {E : XE} {pos p p2 q : Pos} {e : Expr} {f : ES}
/-- sorted(set(xs)) of a tuple or a list -/
def nSortSetL (f : ES) : Env → Sm (List M) := fun env => bnd (f env) fun m h => match ((match tupM m with | some ms => some ms | none => lstM h m) : Option (List M)).bind intsM with
  | some ns => if ns.length < 64 then some (.val ((sortSet ns).map fun i => M.d (.int i)) h) else none
  | none => none
theorem p_sortsetL (hc : X.calm = true) (hg : Gl X "sorted") (hm : X.mg "sorted" = none) (hg2 : Gl X "set") (hm2 : X.mg "set" = none) (ha : PE X e (tM X.K E f))
    (na : starEach [e] X.env = (false, eval e X.env) :: starEach [] X.env := by rfl) : PE X (.Call (.Name "sorted" p) [.Call (.Name "set" p2) [e] [] q] [] pos) (tN X.K E (nSortSetL f)) := PE.imp (pe_sortSetL hc hg hm hg2 hm2 ha na) fun σ H Q ⟨W, env, hH, ok, er, p⟩ => by
  subst hH
  refine ⟨W, env, rfl, ok, er, (PostG.bindF (Step.refl W) p).mono fun m W1 ok1 s1 ⟨s0, p1⟩ v rv => ?_⟩
  cases en : ((match tupM m with | some ms => some ms | none => lstM W1.h m) : Option (List M)).bind intsM with
  | none => simp only [en] at p1; exact p1.elim
  | some ns =>
    simp only [en] at p1
    by_cases hl : ns.length < 64
    · rw [if_pos hl] at p1
      obtain ⟨ms, e0, e1⟩ := Option.bind_eq_some_iff.mp en
      have : ∃ a us, v = .ref a ∧ (SqT X.K W1.H a us ∨ SqL X.K W1.H a us) ∧ RVs X.K W1 ms us := by
        cases et : tupM m with
        | some ms' =>
          rw [et] at e0
          cases e0
          obtain ⟨a, us, g1, g2, g3⟩ := tupM_ok ok1 rv et
          exact ⟨a, us, g1, .inl (SqT.of (ok1.sub _ _ g2)), g3⟩
        | none =>
          rw [et] at e0
          obtain ⟨a, us, g1, g2, g3⟩ := lstM_ok ok1 rv e0
          exact ⟨a, us, g1, .inr (SqL.of g2), g3⟩
      obtain ⟨a, us, g1, g2, g3⟩ := this
      have z := intsM_rel e1 g3
      subst z
      refine ⟨a, ns, g1, g2, hl, fun ns' r hs hm' hq => ?_⟩
      rw [sortSet_uniq hs hm']
      have rus := ints_rms (K := X.K) (W := W1) (sortSet ns)
      exact p1 (W1.more r (.lst ((sortSet ns).map V.int))) rfl (ok1.more _ hq) (s0.trans (Step.more hq)) r _ (s0.dom r hq) (ok1.fp hq) (fun k hk => ok1.nec hq hk) upd_same (RMs.step rus (Step.more hq))
    · rw [if_neg hl] at p1; exact p1.elim
end
/-! ### len(set(x)), a list or a tuple -/
section
variable {X : Cx}
def tLenSetB (K : PySem.W.Frag) (ta : TE) : TE := fun σ H Q => ta σ H fun x H1 => ∃ (l : Addr) (ns : List Int), x = V.ref l ∧ (SqT K H1 l (ns.map V.int) ∨ SqL K H1 l (ns.map V.int)) ∧ ns.length < 4000 ∧ Q (.int (ddI ns).length) H1
theorem setR_count {w : World} {h : Heap} {a : Addr} {ns : List Int} {c : Nat} (R : SetR w h a (fun j => decide (j ∈ ns)) c) : c = (ddI ns).length := by
  obtain ⟨o, es, ep, t, _, _, _, _, nd, mem, _, _, hn, _⟩ := R
  have p := perm_of_mem nd (nodup_ddI ns) fun k => by rw [← mem, mem_ddI, decide_eq_true_eq]
  rw [← p.length_eq, List.length_map, ← hn, Array.length_toList]
theorem pe_lenSetB {a : Expr} {ta : TE} {p p2 q pos : Pos} (hc : X.calm = true) (hg : Gl X "len") (hm : X.mg "len" = none) (hg2 : Gl X "set") (hm2 : X.mg "set" = none) (ha : PE X a ta)
    (na : starEach [a] X.env = (false, eval a X.env) :: starEach [] X.env := by rfl) : PE X (.Call (.Name "len" p) [.Call (.Name "set" p2) [a] [] q] [] pos) (tLenSetB X.K ta) := by
  refine ⟨fun pins s σ H Q I h => ?_⟩
  refine Call_ (ld_blt I hg hm PySem.boot_len ?_)
  refine PyProof.Rows.callWith_builtin1 (PyProof.Rows.args_cons ?_ rfl) rfl rfl
  refine Call_ (ld_blt I hg2 hm2 PyProof.Rows.boot_set ?_)
  refine PyProof.Rows.callWith_type1 (PyProof.Rows.args_cons (thn (ha.run pins s σ H _ I h) fun v s1 ⟨x, H1, I1, r1, q1⟩ => PyProof.Rows.args_nil ?_) na) na rfl
  obtain ⟨l, ns, rfl, hq, h1, q1⟩ := q1
  cases r1
  rcases hq with hq | hq
  obtain ⟨its, rv, pt, hz⟩ := I1.tuple hq
  refine call_set_tupI ns (I1.ok.hd hc) (show s1.heap.IsTuple l its.toArray from pt) (ints_of_vals rv) (by unfold scanBound; omega) fun h' tk c R1 hcn k => ?_
  rotate_left
  obtain ⟨its, rv, pl, hz⟩ := I1.list hq
  refine set_of_list ns (I1.ok.hd hc) (show s1.heap.IsList l its.toArray from pl.isList) (ints_of_vals rv) (by unfold scanBound; omega) fun h' tk c R1 hcn k => ?_
  all_goals
    have hN := setR_count R1
    obtain ⟨o, es, ep, t, ho, hex, hd, _, _, _, _, hf, hn, _⟩ := R1
    refine PyProof.Rows.args_nil ?_
    have I2 : Inv X pins σ H1 { s1 with heap := h', toks := tk } := I1.kept k
    exact call_len_set ho hex hd hf (by omega) ⟨.int (ddI ns).length, H1, I2.tok _, ⟨_, by rw [hn, hN]⟩, q1⟩
end
section
variable {X : Cx} {E : XE} {pos p p2 q : Pos} {e : Expr} {f : ES}
def eLenSetA (f : ES) : ES := fun env => bnd (f env) fun m h => match ((match tupM m with | some ms => some ms | none => lstM h m) : Option (List M)).bind intsM with
  | some ns => if ns.length < 4000 then some (.val (.d (.int (ddI ns).length)) h) else none
  | none => none
theorem p_lensetA (hc : X.calm = true) (hg : Gl X "len") (hm : X.mg "len" = none) (hg2 : Gl X "set") (hm2 : X.mg "set" = none) (ha : PE X e (tM X.K E f))
    (na : starEach [e] X.env = (false, eval e X.env) :: starEach [] X.env := by rfl) : PE X (.Call (.Name "len" p) [.Call (.Name "set" p2) [e] [] q] [] pos) (tM X.K E (eLenSetA f)) := PE.imp (pe_lenSetB hc hg hm hg2 hm2 ha na) fun σ H Q ⟨W, env, hH, ok, er, p⟩ => by
  subst hH
  refine ⟨W, env, rfl, ok, er, (PostG.bind p).mono fun m W1 ok1 s1 p1 v rv => ?_⟩
  cases en : ((match tupM m with | some ms => some ms | none => lstM W1.h m) : Option (List M)).bind intsM with
  | none => simp only [en] at p1; exact p1.elim
  | some ns =>
    simp only [en] at p1
    by_cases hl : ns.length < 4000
    · rw [if_pos hl] at p1
      obtain ⟨ms, e0, e1⟩ := Option.bind_eq_some_iff.mp en
      have : ∃ a us, v = .ref a ∧ (SqT X.K W1.H a us ∨ SqL X.K W1.H a us) ∧ RVs X.K W1 ms us := by
        cases et : tupM m with
        | some ms' =>
          rw [et] at e0
          cases e0
          obtain ⟨a, us, g1, g2, g3⟩ := tupM_ok ok1 rv et
          exact ⟨a, us, g1, .inl (SqT.of (ok1.sub _ _ g2)), g3⟩
        | none =>
          rw [et] at e0
          obtain ⟨a, us, g1, g2, g3⟩ := lstM_ok ok1 rv e0
          exact ⟨a, us, g1, .inr (SqL.of g2), g3⟩
      obtain ⟨a, us, g1, g2, g3⟩ := this
      have z := intsM_rel e1 g3
      subst z
      exact ⟨a, ns, g1, g2, hl, PostG.ret (a := M.d (.int (ddI ns).length)) ok1 p1 _ (by simp only [RM, RD])⟩
    · rw [if_neg hl] at p1; exact p1.elim
end
end G

/-! min of a list or a tuple of whole numbers -/
namespace G
open PySem PySem.Spec L2 PySem.W PyProof.Rows
theorem minOf_spec : ∀ (xs : List Int) (x : Int), (minOf x xs = x ∨ minOf x xs ∈ xs) ∧ minOf x xs ≤ x ∧ ∀ y ∈ xs, minOf x xs ≤ y
  | [], x => ⟨.inl rfl, Int.le_refl _, fun _ h => nomatch h⟩
  | z :: zs, x => by
    have e : minOf x (z :: zs) = minOf (if z < x then z else x) zs := by
      show (z :: zs).foldl (fun a y => if DatumOrd.lt y a = true then y else a) x = _
      rw [List.foldl_cons]
      have : (if DatumOrd.lt z x = true then z else x) = if z < x then z else x := by
        have : (DatumOrd.lt z x : Bool) = decide (z < x) := rfl
        rw [this]
        by_cases q : z < x <;> simp [q]
      rw [this]
      rfl
    obtain ⟨h1, h2, h3⟩ := minOf_spec zs (if z < x then z else x)
    rw [e]
    refine ⟨?_, ?_, fun y hy => ?_⟩
    · rcases h1 with h1 | h1
      · rw [h1]
        by_cases q : z < x
        · rw [if_pos q]; exact .inr (List.mem_cons_self ..)
        · rw [if_neg q]; exact .inl rfl
      · exact .inr (List.mem_cons_of_mem _ h1)
    · by_cases q : z < x
      · rw [if_pos q] at h2 ⊢; omega
      · rw [if_neg q] at h2 ⊢; exact h2
    · rcases List.mem_cons.mp hy with rfl | hy
      · by_cases q : y < x
        · rw [if_pos q] at h2 ⊢; exact h2
        · rw [if_neg q] at h2 ⊢; omega
      · exact h3 y hy
def rMinT (K : PySem.W.Frag) : List V → Hp → VK → Prop := fun vs H Q => ∃ (a : Addr) (n : Int) (ns : List Int), vs = [V.ref a] ∧ SqT K H a ((n :: ns).map V.int) ∧ ∀ m, m ∈ n :: ns → (∀ y, y ∈ n :: ns → m ≤ y) → Q (.int m) H
theorem cr_minT {X : Cx} (hc : X.calm = true) (hu : X.A.units + 64 < cLine) : CallR X (.builtin "min") (rMinT X.K) := by
  intro pins s σ H vs us Q I r h
  obtain ⟨a, n, ns, rfl, hs, q⟩ := h
  obtain ⟨its, rv, hl, hz⟩ := I.tuple hs
  rw [Vals.ref1 r]
  have hi := ints_of_vals rv
  refine min_tuple_datum (α := Int) (I.ok.hd hc) (show s.heap.IsTuple a its.toArray from hl) (x := n) (xs := ns) (HoldAll.of_ints hi) (by show X.A.units + 1 + 0 < cLine; omega) fun i v h' tk hv hh hk => ?_
  obtain ⟨k1, k2, k3⟩ := minOf_spec ns n
  have hm : minOf n ns ∈ n :: ns := by
    rcases k1 with k1 | k1
    · rw [k1]; exact List.mem_cons_self ..
    · exact List.mem_cons_of_mem _ k1
  have hv' : ∃ t, v = .int (minOf n ns) t := by
    obtain ⟨as, rd⟩ := hh
    cases rd
    exact ⟨_, rfl⟩
  obtain ⟨t, rfl⟩ := hv'
  exact ⟨.int _, H, I.kept hk, ⟨_, rfl⟩, q _ hm fun y hy => by
    rcases List.mem_cons.mp hy with rfl | hy
    · exact k2
    · exact k3 y hy⟩
def nMinS : OpN := fun xs h => match xs with
  | [m] => match ((seqM h m).bind fun z => intsM z.2).bind minI with
    | some i => some (.val (.d (.int i)) h)
    | none => none
  | _ => none
theorem jc_minS {K : PySem.W.Frag} : JC K (fun xs H Q => rMin K xs H Q ∨ rMinT K xs H Q) nMinS := fun E W xs vs Q ok r p => by
  unfold nMinS at p
  split at p
  · rename_i m
    split at p
    · rename_i i e
      obtain ⟨v, h1, h2⟩ := RMs.one r
      obtain ⟨ns, e1, e2⟩ := Option.bind_eq_some_iff.mp e
      obtain ⟨⟨t, ms⟩, e0, e1⟩ := Option.bind_eq_some_iff.mp e1
      obtain ⟨a, us, g1, g2, g3⟩ := seqM_ok ok h2 e0
      have z := intsM_rel e1 g3
      subst z
      obtain ⟨k1, k2⟩ := minI_ok e2
      have fin : ∀ m, m ∈ ns → (∀ y, y ∈ ns → m ≤ y) → Q (.int m) W.H := fun m hm hy => by
        have : m = i := Int.le_antisymm (hy i k1) (k2 m hm)
        subst this
        exact PostG.ret (a := M.d (.int m)) ok p _ (by simp only [RM, RD])
      rcases g2 with g2 | g2
      · exact .inl ⟨a, ns, by rw [h1, g1], g2, List.length_pos_of_mem k1, fin⟩
      · cases ns with
        | nil => cases k1
        | cons n ns => exact .inr ⟨a, n, ns, by rw [h1, g1], g2, fin⟩
    · exact p.elim
  · exact p.elim
end G

/-! x == "..", a dict too -/
namespace G
open PySem PySem.Spec L2 PySem.W PyProof.Rows
open AutoSeq1 (wpAny_loadPart')
theorem dict_no_str (l : Addr) (es : Array DictEntry) (ep : Nat) (dd : Option Addr) (sl : Array (Option Value)) (b : Str) (u : Tok) :
    Meets (Builtin.«dict.__eq__» ⟨[.ref l, .str b u], []⟩) fun _ R s => s.heap.get? l = some { cls := .type "dict", dict := dd, data := .dict es ep, slots := sl } ∧ R (.ok (.ret .notImplemented)) s :=
  .of_wp fun prog w A R s ⟨hl, h⟩ => by
    obtain ⟨hp, g, d, tk, os⟩ := s
    have f1 := F.sub_str_dict
    wp_walk using wpAny_loadPart' hl, wpAny_load hl
    exact ⟨_, rfl, h⟩
theorem str_no_dict (b : Str) (u : Tok) (l : Addr) (es : Array DictEntry) (ep : Nat) (dd : Option Addr) (sl : Array (Option Value)) :
    Meets (Builtin.«str.__eq__» ⟨[.str b u, .ref l], []⟩) fun _ R s => s.heap.get? l = some { cls := .type "dict", dict := dd, data := .dict es ep, slots := sl } ∧ R (.ok (.ret .notImplemented)) s :=
  .of_wp fun prog w A R s ⟨hl, h⟩ => by
    obtain ⟨hp, g, d, tk, os⟩ := s
    wp_walk using wpAny_loadPart' hl, wpAny_load hl
    exact ⟨_, rfl, h⟩
theorem rc_dict_str {A : Around} {s : Shared} {l : Addr} {o : Obj} {es : Array DictEntry} {ep : Nat} (b : Str) (u : Tok) (ho : s.heap.get? l = some o) (hx : o.ExactDict) (hd : o.data = .dict es ep) (hu : A.units < cLine) : SeqAt.RcAt A s (.ref l) (.str b u) false := fun prog w E Q h => by
  obtain ⟨cls, dd, data, sl⟩ := o
  have hc : cls = .type "dict" := hx.1
  simp only at hd
  subst hc hd
  refine SeqAt.rc_eq_decline_or (k := false) ⟨_, ho, rfl⟩ (typeIs_str s b u) (by decide) F.sub_str_dict F.slot_dict_eq F.slot_str_eq_refl ?_ ?_ (fun _ hq => wpAny_of_eq (rfl : isSame (.ref l) (.str b u) = pure false) hq) (.inr hu) h
  · exact fun _ hq => call_meets F.slot_dict_eq ⟨_, ho, rfl⟩ F.entry_dict_eq (F.args_dict_eq_2 _ _) (dict_no_str l es ep dd sl b u) ⟨ho, hq⟩
  · exact fun _ hq => call_meets F.slot_str_eq_refl (typeIs_str s b u) F.entry_str_eq (F.args_str_eq_2 _ _) (str_no_dict b u l es ep dd sl) ⟨ho, hq⟩
def rEqDS : R2 := fun x y H Q => ∃ a kvs z, x = .ref a ∧ H a = some (.dK kvs) ∧ y = .str z ∧ Q (.bl false) H
theorem op_eqDS {X : Cx} (hu : X.A.units + 64 < cLine) : OpR X (compareOp .Eq) rEqDS := by
  intro pins s σ H x y v u Q I rx ry h
  obtain ⟨a, kvs, z, rfl, hd, rfl, q⟩ := h
  cases rx
  obtain ⟨t, rfl⟩ := ry
  obtain ⟨_, _, vs, _, o, es, ep, ho, hx, hda, _⟩ := I.hok a _ hd
  exact rc_dict_str z t ho hx hda (by omega) _ _ _ _ ⟨.bl _, H, I, rfl, q⟩
/-- x == "..", of a dict no -/
def oEqT : Op2 := fun x y h => match x, y with
  | .d (.dict _), .d (.str _) => some (.val (.d (.bool false)) h)
  | _, _ => oEq x y h
theorem j_eqT {K : PySem.W.Frag} : J2 K (fun x y H Q => rEqM K false x y H Q ∨ rEqDS x y H Q) oEqT := fun E W x y v u Q ok r1 r2 p => by
  unfold oEqT at p
  split at p
  · simp only [RM, RD] at r1 r2
    obtain ⟨a, ps, rfl, f, _⟩ := r1
    exact .inr ⟨a, _, _, rfl, ok.sub _ _ f, r2, PostG.ret (a := M.d (.bool false)) ok p _ (by simp only [RM, RD])⟩
  · exact .inl (j_eq E W x y v u Q ok r1 r2 p)
end G

/-! list(text); text * int -/
namespace G
open PySem PySem.Spec L2 PySem.W PyProof.Rows
def charsD (z : Str) : List PyData := z.cps.toList.map fun c => .str ⟨#[c]⟩
theorem vals_chars : ∀ (cs : List Nat) (as : List Value), as.length = cs.length → (∀ (j : Nat) (v : Value), as[j]? = some v → ∃ c u, cs[j]? = some c ∧ v = .str ⟨#[c]⟩ u) → Vals (cs.map fun c => V.str ⟨#[c]⟩) as
  | [], [], _, _ => .nil
  | [], _ :: _, h, _ => by cases h
  | _ :: _, [], h, _ => by cases h
  | c :: cs, a :: as, h, hv => by
    refine .cons ?_ (vals_chars cs as (by simpa using h) fun j v e => hv (j + 1) v (by simpa using e))
    obtain ⟨c', u, e, rfl⟩ := hv 0 a rfl
    cases e
    exact ⟨u, rfl⟩
def rListS : List V → Hp → VK → Prop := fun xs H Q => ∃ z : Str, xs = [.str z] ∧ z.cps.size ≤ sizeLine ∧ ∀ l, H l = none → Q (.ref l) (upd H l (.lst (z.cps.toList.map fun c => V.str ⟨#[c]⟩)))
theorem call_listS {X : Cx} (hc : X.calm = true) : CallR X (.type "list") rListS := by
  intro pins s σ H xs us Q I r h
  obtain ⟨z, rfl, hz, q⟩ := h
  obtain ⟨u, rfl, t, rfl⟩ := vals1 r
  refine call_list_str (I.ok.hd hc) z t (fun h' tk acc' c' kp e hi => ?_) hz
  have rv : Vals (z.cps.toList.map fun c => V.str ⟨#[c]⟩) acc'.toList := by
    refine vals_chars _ _ (by rw [Array.length_toList, Array.length_toList]; exact hi.1) fun j v ev => ?_
    obtain ⟨c, w, e1, e2⟩ := hi.2 j v (by rw [← Array.getElem?_toList]; exact ev)
    exact ⟨c, w, by rw [Array.getElem?_toList]; exact e1, e2⟩
  refine ⟨.ref s.heap.objs.size, _, I.laid (t' := tk) kp (Nat.le_refl _) (show ObjOk X.prog X.w _ h' _ (.lst (z.cps.toList.map fun c => V.str ⟨#[c]⟩)) from ⟨by rw [List.length_map, Array.length_toList]; exact hz, acc'.toList, c', rv, by simpa using e⟩), rfl, q _ (I.hok.fresh (Nat.le_refl _))⟩
def opListS : Hh → List M → Option (List M) := fun h xs => match xs with
  | [.d (.str z)] => if z.cps.size ≤ LIM then some ((charsD z).map M.d) else none
  | xs => opList h xs
theorem rms_chars {K : PySem.W.Frag} {W : Wd} : ∀ cs : List Nat, RVs K W ((cs.map fun c => PyData.str ⟨#[c]⟩).map M.d) (cs.map fun c => V.str ⟨#[c]⟩)
  | [] => by simp only [List.map_nil, RMs]
  | c :: cs => by
    simp only [List.map_cons, RMs]
    exact ⟨_, _, rfl, by simp only [RM, RD], rms_chars cs⟩
theorem jn_listS {K : PySem.W.Frag} : JN K (fun xs H Q => (∃ p ys, xs = [.ref p] ∧ (SqL K H p ys ∨ SqT K H p ys) ∧ ∀ l, H l = none → Q (.ref l) (upd H l (.lst ys))) ∨ rListS xs H Q) opListS := fun W xs vs ms Q ok r e q => by
  unfold opListS at e
  split at e
  · rename_i z
    split at e
    · rename_i hz
      cases e
      obtain ⟨v, h1, h2⟩ := RMs.one r
      simp only [RM, RD] at h2
      subst h2
      exact .inr ⟨z, h1, hz, fun l hl => q l _ hl (rms_chars _)⟩
    · cases e
  · exact .inl (jn_list W xs vs ms Q ok r e q)
abbrev nListS := nB opListS
/-! ### text * int -/
def repS (z : Str) (k : Int) : Str := ⟨(List.replicate k.toNat z.cps).foldl (· ++ ·) #[]⟩
def rMulS : R2 := fun x y H Q => ∃ (z : Str) (k : Int), x = .str z ∧ y = .int k ∧ 2 ≤ k ∧ k ≤ 1000 ∧ 1 ≤ z.length ∧ z.length ≤ 1000 ∧ Q (.str (repS z k)) H
theorem op_mulS {X : Cx} : OpR X (binaryOp .Mult) rMulS := by
  intro pins s σ H x y v u Q I rx ry h
  obtain ⟨z, k, rfl, rfl, h2, h3, h1, h4, q⟩ := h
  obtain ⟨t, rfl⟩ := rx
  obtain ⟨t', rfl⟩ := ry
  have c0 : (k == 1 || z.length == 0) = false := by
    rw [Bool.or_eq_false_iff]
    exact ⟨beq_eq_false_iff_ne.mpr (by omega), beq_eq_false_iff_ne.mpr (by omega)⟩
  refine P.mul_str (by rw [decide_eq_false (by omega), decide_eq_false (by omega)]; rfl) (fun _ _ => ?_) (fun _ _ => ?_) ?_
  · have : (2 ^ 63 - 1) / 1000 ≤ (2 ^ 63 - 1) / k := by
      rw [Int.le_ediv_iff_mul_le (by omega)]
      have : (2 ^ 63 - 1) / 1000 * k ≤ (2 ^ 63 - 1) / 1000 * 1000 := Int.mul_le_mul_of_nonneg_left h3 (by decide)
      omega
    omega
  · have : z.length * k.toNat ≤ 1000 * 1000 := Nat.mul_le_mul h4 (by omega)
    unfold Builtin.Str.tooLong
    rw [sizeLine_eq]
    exact decide_eq_false (by omega)
  · rw [if_neg (by omega), c0, if_neg Bool.false_ne_true]
    refine ⟨?_, ⟨.str (repS z k), H, I.tok _, ⟨_, rfl⟩, q⟩⟩
    show (List.foldl (fun x1 x2 => x1 ++ x2) #[] (List.replicate k.toNat z.cps)).size ≤ sizeLine
    have e : ∀ (n : Nat) (acc : Array Nat), ((List.replicate n z.cps).foldl (· ++ ·) acc).size = acc.size + n * z.cps.size := fun n => by
      induction n with
      | zero => intro acc; simp
      | succ n ih =>
        intro acc
        rw [List.replicate_succ, List.foldl_cons, ih, Array.size_append, Nat.succ_mul]
        omega
    rw [e, sizeLine_eq]
    have h4' : z.cps.size ≤ 1000 := h4
    have : k.toNat * z.cps.size ≤ 1000 * 1000 := Nat.mul_le_mul (by omega) h4'
    simp
    omega
/-- * of a text, a tuple, a number -/
def oMulS : Op2 := fun x y h => match x, y with
  | .d (.str z), .d (.int k) => if (decide (2 ≤ k) && (decide (k ≤ 1000) && (decide (1 ≤ z.length) && decide (z.length ≤ 1000)))) = true then some (.val (.d (.str (repS z k))) h) else none
  | _, _ => oMulT x y h
theorem j_mulS {K : PySem.W.Frag} : J2 K (fun x y H Q => (rI CMul (fun i j => .int (i * j)) x y H Q ∨ rRepT K x y H Q) ∨ rMulS x y H Q) oMulS := fun E W x y v u Q ok r1 r2 p => by
  unfold oMulS at p
  split at p
  · rename_i z k
    split at p
    · rename_i hc
      simp only [Bool.and_eq_true, decide_eq_true_eq] at hc
      simp only [RM, RD] at r1 r2
      exact .inr ⟨z, k, r1, r2, hc.1, hc.2.1, hc.2.2.1, hc.2.2.2, PostG.ret (a := M.d (.str (repS z k))) ok p _ (by simp only [RM, RD])⟩
    · exact p.elim
  · exact .inl (j_mulT E W x y v u Q ok r1 r2 p)
section
variable {X : Cx} {E : G.XE} {pos p : Pos} {e : Expr} {fs : G.Env → Sm (List M)}
theorem p_listS (hc : X.calm = true) (hg : Gl X "list") (hm : X.mg "list" = none) (ha : PA X [e] (tA X.K E fs)) (he : starEach [e] X.env = (false, eval e X.env) :: starEach [] X.env := by rfl) : PE X (.Call (.Name "list" p) [e] [] pos) (tN X.K E (nListS fs)) :=
  p_TyN (call_list_of.or (call_listS hc)) jn_listS hg hm PyProof.Rows.boot_list ha (he := he)
end
end G

/-! [f, g][i](x, ..) -/
namespace G
open PySem PySem.Spec L2 PySem.W PyProof.Rows
theorem PostG.step {α : Type} {K : PySem.W.Frag} {E : G.XE} {W W2 : Wd} {o : Option (Out α)} {Q : α → Wd → Prop} (s : Step W W2) (p : PostG K E W o Q) : PostG K E W2 o Q := by
  cases o with
  | none => exact p
  | some o =>
    cases o with
    | val a h => exact fun W' e ok s' => p W' e ok (s.trans s')
    | exc c h => exact fun W' e ok s' => p W' e ok (s.trans s')
def selF (f g : Fn) : M → Option Fn
  | .d (.int i) => match ixN 2 i with
    | some 0 => some f
    | some 1 => some g
    | _ => none
  | _ => none
def eSelX (n : Nat) (f g : Fn) (fi : ES) (fs : Env → Sm (List M)) : ES := fun env => bnd (fi env) fun m => match selF f g m with
  | some fn => bnd (fs env) fun ms => if ms.length = n then fn ms else fail
  | none => fail
section
variable {X : Cx} {E : G.XE} {pos p1 p2 p3 p4 : Pos} {e ei : Expr} {es : List Expr} {fs : Env → Sm (List M)} {fi : ES}
theorem p_selX {n k k1 k2 : Nat} {x y : Str} {ps1 ps2 : List Str} {f g : Fn} (C1 : CalX X.prog X.w X.K X.mg X.base k1 x ps1 f) (C2 : CalX X.prog X.w X.K X.mg X.base k2 y ps2 g) (hn1 : ps1.length = n) (hn2 : ps2.length = n) (tk : Takes X (WofE X.mg E)) (hr : Room k X.A) (hgd : X.A.guards = some []) (hk1 : k1 ≤ k) (hk2 : k2 ≤ k) (hg1 : Gl X x) (hg2 : Gl X y)
    (hi : PE X ei (tM X.K E fi)) (hs : PlainIx ei) (ha : PA X (e :: es) (tA X.K E fs)) (hdb1 : (x == ("__debug__" : Str)) = false := by decide) (hdb2 : (y == ("__debug__" : Str)) = false := by decide)
    (hx : starEach [.Name x p1, .Name y p2] X.env = (false, eval (.Name x p1) X.env) :: starEach [.Name y p2] X.env := by rfl) (hy : starEach [.Name y p2] X.env = (false, eval (.Name y p2) X.env) :: starEach [] X.env := by rfl)
    (ht : eval (.Call (.Subscript (.List [.Name x p1, .Name y p2] p3) ei p4) (e :: es) [] pos) X.env = (do callWith pos (← eval (.Subscript (.List [.Name x p1, .Name y p2] p3) ei p4) X.env) [] (backTo pos (starEach (e :: es) X.env)) (backToKw pos (keywordEach [] X.env))) := by rfl)
    (he : starEach (e :: es) X.env = (false, eval e X.env) :: starEach es X.env := by rfl) (hpl : (backTo pos (starEach es X.env)).any (·.1) = false := by rfl) :
    PE X (.Call (.Subscript (.List [.Name x p1, .Name y p2] p3) ei p4) (e :: es) [] pos) (tM X.K E (eSelX n f g fi fs)) := by
  obtain ⟨a1, fd1, m1, kk1, b1, F1⟩ := C1.ex
  obtain ⟨a2, fd2, m2, kk2, b2, F2⟩ := C2.ex
  refine ⟨fun pins s σ H Q I h => ?_⟩
  obtain ⟨W, env, rfl, ok, er, q⟩ := h
  have hfe : PE X (.Subscript (.List [.Name x p1, .Name y p2] p3) ei p4) (tOp (rIxL X.K) (tLst (tCons (tC (.ref a1)) (tCons (tC (.ref a2)) tNil))) (tM X.K E fi)) :=
    pe_ix ix_list (pe_lst (pa_cons (pe_glob hg1 m1 rfl (hd := hdb1)) (pa_cons (pe_glob hg2 m2 rfl (hd := hdb2)) pa_nil hy) hx)) hi hs
  let Qf : VK := fun v H1 => ∃ (W1 : Wd) (a : Addr) (fd : FuncData) (ps : List Str) (j : Nat) (fn : Fn), v = .ref a ∧ W1.H = H1 ∧ W1.Ok X.K ∧ ER X.K W1 env σ ∧ keepIn X.K (.ref a) = true ∧ Binds X.K fd ps [] ∧ ps.length = n ∧ j ≤ k ∧
    FnG X.prog X.w X.K X.mg X.base (L2.CX X.prog X.w) j a fd ps (spX X.K X.mg ps.length fn) ∧ PostG X.K E W1 (bnd (fs env) (fun ms => if ms.length = n then fn ms else fail) W1.h) fun m W' => ∀ v, RV X.K W' m v → Q v W'.H
  refine Call_ (thn (hfe.run pins s σ W.H Qf I ?_) fun u s1 ⟨y', H1, I1, ry, W1, a, fd, ps, j, fn, ey, eH, ok1, er1, kk, bb, hn, hj, FF, q1⟩ => ?_) ht
  · -- the list is made, the place is reckoned
    refine ⟨show 2 ≤ sizeLine by rw [sizeLine_eq]; decide, fun p hp => ?_⟩
    have hok : (W.more p (.lst [.ref a1, .ref a2])).Ok X.K := ok.more _ hp
    refine ⟨W.more p (.lst [.ref a1, .ref a2]), env, rfl, hok, er.step (Step.more hp), (PostG.bindF (Step.more hp) q).mono fun m W1 ok1 s1 ⟨s0, q1⟩ v rv => ?_⟩
    have hW1 : W1.H p = some (.lst [.ref a1, .ref a2]) := s1.fr p _ upd_same fun k hk => (ok.nec hp hk).symm
    cases em : selF f g m with
    | none => simp only [em] at q1; exact q1.elim
    | some fn =>
      simp only [em] at q1
      unfold selF at em
      split at em
      · rename_i i
        simp only [RM, RD] at rv
        subst rv
        split at em
        · rename_i hx0
          cases em
          refine ⟨p, [.ref a1, .ref a2], _, .ref a1, rfl, rfl, SqL.of hW1, ?_, W1, a1, fd1, ps1, k1, f, rfl, rfl, ok1, er.step s0, kk1, b1, hn1, hk1, F1, q1.step s0⟩
          unfold L2.atI
          rw [show [V.ref a1, V.ref a2].length = 2 from rfl, hx0]
          rfl
        · rename_i hx1
          cases em
          refine ⟨p, [.ref a1, .ref a2], _, .ref a2, rfl, rfl, SqL.of hW1, ?_, W1, a2, fd2, ps2, k2, g, rfl, rfl, ok1, er.step s0, kk2, b2, hn2, hk2, F2, q1.step s0⟩
          unfold L2.atI
          rw [show [V.ref a1, V.ref a2].length = 2 from rfl, hx1]
          rfl
        · cases em
      · cases em
  · subst ey eH
    obtain rfl : u = Value.ref a := ry
    refine callWith_K (h₀ := X.base) I.ok.mod.kin kk (thn (ha.run pos pins s1 σ W1.H _ I1 ⟨W1, env, rfl, ok1, er1, (PostG.bind q1).mono fun ms W2 ok2 s2 q2 vs rvs => ?_⟩) fun us s2 ⟨vs, H2, I2, r, q2⟩ => ⟨I2.kIn, run_fnG FF (hr.mono hj) hgd bb (passes_call tk fun cls d σ H h => h) I2 r q2⟩) he hpl
    by_cases hl : ms.length = n
    · rw [if_pos hl] at q2
      exact ⟨W2, ms, rfl, ok2, rvs, by rw [hl, hn], q2.mono' fun c H h cls hc => ⟨c, hc, rfl, h⟩⟩
    · rw [if_neg hl] at q2
      exact q2.elim
end
end G

/-! list(range(a, b)) -/
namespace G
open PySem PySem.Spec L2 PySem.W PyProof.Rows HT
def rgD2 (a b : Int) : List PyData := (rngL a b).map PyData.int
def nRng2 (fa fb : ES) : Env → Sm (List M) := fun env => bnd (fa env) fun x => bnd (fb env) fun y => match x, y with
  | .d (.int a), .d (.int b) => if (decide (-1000000 ≤ a) && (decide (a ≤ b) && decide (b ≤ 1000000))) = true then rt ((rgD2 a b).map M.d) else fail
  | _, _ => fail
theorem rgV_rel2 {F : Hp} (a b : Int) : RDs F (rgD2 a b) (rgV a b) := by
  have key : ∀ l : List Nat, RDs F (l.map fun (i : Nat) => PyData.int (a + (i : Int))) (l.map fun (i : Nat) => V.int (a + (i : Int))) := fun l => by
    induction l with
    | nil => simp only [List.map_nil, RDs]
    | cons i l ih =>
      simp only [List.map_cons, RDs]
      exact ⟨_, _, rfl, by simp only [RD], ih⟩
  have := key (List.range (b - a).toNat)
  unfold rgV rgD2 rngL
  rw [List.map_map]
  exact this
section
variable {X : Cx} {E : G.XE} {pos p : Pos} {fa fb : ES}
theorem p_listRng2 {q r : Pos} {e1 e2 : Expr} (hc : X.calm = true) (hg : Gl X "list") (hm : X.mg "list" = none) (hg2 : Gl X "range") (hm2 : X.mg "range" = none) (h1 : PE X e1 (tM X.K E fa)) (h2 : PE X e2 (tM X.K E fb))
    (na1 : starEach [e1, e2] X.env = (false, eval e1 X.env) :: starEach [e2] X.env := by rfl) (na3 : starEach [e2] X.env = (false, eval e2 X.env) :: starEach [] X.env := by rfl)
    (na4 : (backTo r (starEach [e2] X.env)).any (·.1) = false := by rfl) (na2 : starEach [.Call (.Name "range" q) [e1, e2] [] r] X.env = (false, eval (.Call (.Name "range" q) [e1, e2] [] r) X.env) :: starEach [] X.env := by rfl) : PE X (.Call (.Name "list" p) [.Call (.Name "range" q) [e1, e2] [] r] [] pos) (tN X.K E (nRng2 fa fb)) :=
  PE.imp (pe_listRg hc hg hm (prg_2 hg2 hm2 h1 h2 na1 na3 na4) na2) fun σ H Q ⟨W, env, hH, ok, er, p⟩ => by
  subst hH
  refine ⟨W, env, rfl, ok, er, (PostG.bindF (Step.refl W) p).mono fun m W1 ok1 s1 ⟨s0, p1⟩ v rv => ?_⟩
  refine ⟨W1, env, rfl, ok1, er.step s1, (PostG.bindF s0 p1).mono fun m2 W2 ok2 s2 ⟨s02, p2⟩ v2 rv2 => ?_⟩
  cases m with
  | d x => cases x with
    | int i => cases m2 with
      | d y => cases y with
        | int j =>
          by_cases hn : (decide (-1000000 ≤ i) && (decide (i ≤ j) && decide (j ≤ 1000000))) = true
          · simp only [hn, if_true] at p2
            simp only [Bool.and_eq_true, decide_eq_true_eq] at hn
            refine ⟨i, j, int_of rv, int_of rv2, ⟨by omega, by omega, by omega, by omega, by omega⟩, fun q hq => ?_⟩
            exact p2 (W2.more q _) rfl (ok2.more _ hq) (s02.trans (Step.more hq)) q _ (s02.dom q hq) (ok2.fp hq) (fun k hk => ok2.nec hq hk) upd_same (RMs.step (RMs.of_ds (rgV_rel2 i j)) (Step.more hq))
          · simp only [hn, if_false] at p2; exact p2.elim
        | _ => exact p2.elim
      | _ => exact p2.elim
    | _ => exact p2.elim
  | _ => exact p2.elim
end
end G

/-! list.remove of a whole number -/
namespace G
open PySem PySem.Spec L2
def lRem (ms as : List M) : Option (M × List M) := match as, intsM ms with
  | [.d (.int k)], some ns => if k ∈ ns then some (.d .none, ms.eraseIdx (ns.idxOf k)) else none
  | _, _ => none
theorem idx_first {k : Int} : ∀ {ns : List Int}, k ∈ ns → ns[ns.idxOf k]? = some k ∧ ∀ m : Nat, m < ns.idxOf k → ns[m]? ≠ some k
  | [], h => by cases h
  | n :: ns, h => by
    by_cases e : n = k
    · subst e
      rw [List.idxOf_cons_self]
      exact ⟨rfl, fun m hm => absurd hm (Nat.not_lt_zero _)⟩
    · have hk : k ∈ ns := by
        rcases List.mem_cons.mp h with h | h
        · exact absurd h.symm e
        · exact h
      obtain ⟨h1, h2⟩ := idx_first hk
      rw [show (n :: ns).idxOf k = ns.idxOf k + 1 by rw [List.idxOf_cons, show (n == k) = false by simpa using e]; rfl]
      refine ⟨h1, fun m hm => ?_⟩
      cases m with
      | zero => intro q; cases q; exact e rfl
      | succ m => exact h2 m (by omega)
section
variable {K : PySem.W.Frag}
theorem jl_rem : JL K rRemI lRem := fun W ms as l xs vs m ms' Q ok rxs rvs hH e q => by
  unfold lRem at e
  split at e
  · rename_i k ns en
    split at e
    · rename_i hk
      cases e
      obtain ⟨v, h1, h2⟩ := RMs.one rvs
      have ex := intsM_rel en rxs
      subst ex
      obtain ⟨i1, i2⟩ := idx_first hk
      refine ⟨l, ns, k, ns.idxOf k, rfl, by rw [h1, int_of h2], hH, i1, i2, ?_⟩
      have := q _ .non (RMs.erase (ns.idxOf k) rxs) (by simp only [RM, RD])
      rwa [erase_mapI] at this
    · cases e
  · cases e
end
section
variable {X : Cx} {E : XE} {pos apos : Pos} {o e e2 : Expr} {fo f f2 : ES}
theorem p_remove (ho : PE X o (tM X.K E fo)) (he : PE X e (tM X.K E f)) (hbase : attributeBase o "remove" X.env (eval o X.env) = eval o X.env := by rfl)
    (hfew : ((backTo pos (starEach [e] X.env)).all (fun x => !x.1) && (backToKw pos (keywordEach [] X.env)).all (fun x => x.1.isSome) && decide ([e].length + ([] : List Keyword).length + (if ([] : List Keyword).isEmpty then 0 else 1) < 30)) = true := by rfl)
    (hline : (apos.endLine == pos.line) = true := by rfl) (hs : starEach [e] X.env = (false, eval e X.env) :: starEach [] X.env := by rfl) (hplain : (backTo pos (starEach [] X.env)).any (·.1) = false := by rfl) :
    PE X (.Call (.Attribute o "remove" apos) [e] [] pos) (tM X.K E (eM lRem fo (aCons f aNil))) := PE.imp (pe_bm PySem.F.plainAttrs_list PySem.F.slot_list_remove PySem.F.type_list_remove mt_remove ho (q_cons he q_nil hs) hbase hfew hline hs hplain) (t_M jl_rem)
end
end G

/-! sorted(set(xs)), however many -/
namespace G
open PySem PySem.Spec L2 PySem.W PyProof.Rows
section
variable {P : Program} {w : World} {A : Around} {E : Value → Shared → Prop} {s : Shared} {a : Addr}
theorem sorted_setN {S : Int → Bool} {n : Nat} {Q : Value → Shared → Prop} (R : SetR w s.heap a S n) (hh : A.handled = none)
    (hQ : ∀ s' p (out : Array Value) (c : Nat) (ns : List Int), (∀ b o, s.heap.get? b = some o → s'.heap.get? b = some o) → s'.gens = s.gens → s'.os = s.os → s.heap.objs.size ≤ p →
      s'.heap.get? p = some (seqObj "list" out c) → IntsAre out.toList ns → ns.Pairwise (· < ·) → (∀ k, k ∈ ns ↔ S k = true) → ns.length = n → Q (.ref p) s') :
    wpAny (model P w) A (call (.builtin "sorted") [.ref a]) Q E s := by
  obtain ⟨o, es, ep, t, ho, hx, hdt, good, nodup, mem, small, fits, num, ris, led⟩ := R
  have many : n < scanBound := by rw [← num]; exact small
  refine Calls.call_function_entry kind_sorted plain_sorted entry_sorted (args_sorted1 _) ?_
  unfold Builtin.«sorted»
  refine wpAny_bind (m := checkCount "sorted" 1 1 _) (wpAny_pure ?_)
  refine wpAny_bind (collect_set (A := A.in1) hh ⟨o, ho, hx.1, hdt⟩ fits small ris led fun s1 vs keep size1 gens1 os1 perm => ?_)
  have lenV : vs.length = n := by rw [perm.length_eq, List.length_map, Array.length_toList]; exact num
  have isInt : ∀ v ∈ vs, ∃ i tk, v = Value.int i tk := fun v hv => by
    obtain ⟨e, he, q⟩ := List.mem_map.mp (perm.mem_iff.mp hv)
    obtain ⟨k, tk, h1, _⟩ := good e he
    exact ⟨k, tk, by rw [← q]; exact h1⟩
  have hI : IntsAre vs (vs.map SrtO.iv) := SrtO.ints_iv isInt
  have keys : (vs.map SrtO.iv).Perm (es.toList.map keyOf) := by
    have q := perm.map SrtO.iv
    rw [List.map_map] at q
    exact q
  have okLine : vs.length ≤ sizeLine := by rw [lenV, sizeLine_eq]; unfold scanBound at many; omega
  refine wpAny_bind (wpAny_newList ?_ okLine)
  have hoL : (s1.heap.push (seqObj "list" vs.toArray 0)).get? s1.heap.objs.size = some (seqObj "list" vs.toArray 0) := Heap.get?_push_size _ rfl
  refine wpAny_bind (wpAny_holding (wpAny_call_entry slot_list_sort ⟨_, hoL, rfl⟩ entry_list_sort (SrtO.list_sort_ord SrtO.swo_int hoL okLine (fun h2 => SrtO.ints_sortable hI h2) fun out srt stb => ⟨_, rfl, ?_⟩) (args_list_sort _)))
  obtain ⟨o1, o2, o3⟩ := SrtO.ints_out hI srt stb
  obtain ⟨c, hc⟩ := sortedHeap_at (vs := vs) (out := out.toArray) hoL
  have all := o2.trans keys
  refine wpAny_pure ⟨_, rfl, hQ _ s1.heap.objs.size out.toArray c (out.map SrtO.iv) (fun b u e => ?_) gens1 os1 size1 hc (by rw [List.toList_toArray]; exact o1) (lt_of_le_nodup _ o3 (all.nodup_iff.mpr nodup)) (fun k => by rw [all.mem_iff, ← mem k]) ?_⟩
  · have q := keep b u e
    have lt := Heap.lt_size q
    show (sortedHeap (s1.heap.push (seqObj "list" vs.toArray 0)) s1.heap.objs.size vs out.toArray).get? b = some u
    rw [sortedHeap_old (Nat.ne_of_lt lt) (by rw [size_push']; exact Nat.lt_succ_of_lt lt)]
    exact Heap.get?_push_of_some _ q
  · rw [all.length_eq, List.length_map, Array.length_toList]; exact num
end
section
variable {X : Cx}
def tSortSetN (K : PySem.W.Frag) (ta : TE) : TE := fun σ H Q => ta σ H fun x H1 => ∃ (l : Addr) (ns : List Int), x = .ref l ∧ (SqT K H1 l (ns.map V.int) ∨ SqL K H1 l (ns.map V.int)) ∧ ns.length < 4000 ∧
  ∀ (ns' : List Int) (r : Addr), ns'.Pairwise (· < ·) → (∀ k, k ∈ ns' ↔ k ∈ ns) → H1 r = none → Q (.ref r) (upd H1 r (.lst (ns'.map V.int)))
theorem pe_sortSetN {a : Expr} {ta : TE} {p p2 q pos : Pos} (hc : X.calm = true) (hg : Gl X "sorted") (hm : X.mg "sorted" = none) (hg2 : Gl X "set") (hm2 : X.mg "set" = none) (ha : PE X a ta)
    (na : starEach [a] X.env = (false, eval a X.env) :: starEach [] X.env := by rfl) : PE X (.Call (.Name "sorted" p) [.Call (.Name "set" p2) [a] [] q] [] pos) (tSortSetN X.K ta) := by
  refine ⟨fun pins s σ H Q I h => ?_⟩
  refine Call_ (ld_blt I hg hm PyProof.Rows.boot_sorted ?_)
  refine PyProof.Rows.callWith_builtin1 (PyProof.Rows.args_cons ?_ rfl) rfl rfl
  refine Call_ (ld_blt I hg2 hm2 PyProof.Rows.boot_set ?_)
  refine PyProof.Rows.callWith_type1 (PyProof.Rows.args_cons (thn (ha.run pins s σ H _ I h) fun v s1 ⟨x, H1, I1, r1, q1⟩ => PyProof.Rows.args_nil ?_) na) na rfl
  obtain ⟨l, ns, rfl, hq, h1, q1⟩ := q1
  cases r1
  have hd := I1.ok.hd hc
  rcases hq with hq | hq
  obtain ⟨its, rv, pt, hz⟩ := I1.tuple hq
  refine call_set_tupI ns hd (show s1.heap.IsTuple l its.toArray from pt) (ints_of_vals rv) (by unfold scanBound; omega) fun h' tk c R1 hcn k => ?_
  rotate_left
  obtain ⟨its, rv, pl, hz⟩ := I1.list hq
  refine set_of_list ns hd (show s1.heap.IsList l its.toArray from pl.isList) (ints_of_vals rv) (by unfold scanBound; omega) fun h' tk c R1 hcn k => ?_
  all_goals
    refine PyProof.Rows.args_nil ?_
    have I2 : Inv X pins σ H1 { s1 with heap := h', toks := tk } := I1.kept k
    refine sorted_setN R1 hd fun s' r out cc ns2 k2 g2 o2 hp hget hI hlt hmem hlen => ?_
    have hlen2 : (ns2.map V.int).length ≤ sizeLine := by rw [List.length_map, hlen, sizeLine_eq]; omega
    have hn : H1 r = none := I2.hok.fresh hp
    have J : Inv X pins σ (upd H1 r (.lst (ns2.map V.int))) { s1 with heap := s'.heap, gens := s'.gens, drawn := s'.drawn, toks := s'.toks } :=
      Inv.call (s := { s1 with heap := h', toks := tk }) (ch := []) I2 (Un.laid k2 hp hn) (I2.hok.laid k2 hp ⟨hlen2, out.toList, cc, vals_of_ints hI, hget⟩) (by rw [g2]; exact I2.bare) (fun _ z => nomatch z)
    have e : s' = { s1 with heap := s'.heap, gens := s'.gens, drawn := s'.drawn, toks := s'.toks } := by
      cases s'
      cases s1
      cases o2
      rfl
    rw [e]
    exact ⟨.ref r, _, J, rfl, q1 ns2 r hlt (fun j => by rw [hmem, decide_eq_true_eq]) hn⟩
end
section
variable {X : Cx} {E : XE} {pos p p2 q : Pos} {e : Expr} {f : ES}
/-- sorted(set(xs)) of a tuple or a list -/
def nSortSetN (f : ES) : Env → Sm (List M) := fun env => bnd (f env) fun m h => match ((match tupM m with | some ms => some ms | none => lstM h m) : Option (List M)).bind intsM with
  | some ns => if ns.length < 4000 then some (.val ((sortSet ns).map fun i => M.d (.int i)) h) else none
  | none => none
theorem p_sortsetN (hc : X.calm = true) (hg : Gl X "sorted") (hm : X.mg "sorted" = none) (hg2 : Gl X "set") (hm2 : X.mg "set" = none) (ha : PE X e (tM X.K E f))
    (na : starEach [e] X.env = (false, eval e X.env) :: starEach [] X.env := by rfl) : PE X (.Call (.Name "sorted" p) [.Call (.Name "set" p2) [e] [] q] [] pos) (tN X.K E (nSortSetN f)) := PE.imp (pe_sortSetN hc hg hm hg2 hm2 ha na) fun σ H Q ⟨W, env, hH, ok, er, p⟩ => by
  subst hH
  refine ⟨W, env, rfl, ok, er, (PostG.bindF (Step.refl W) p).mono fun m W1 ok1 s1 ⟨s0, p1⟩ v rv => ?_⟩
  cases en : ((match tupM m with | some ms => some ms | none => lstM W1.h m) : Option (List M)).bind intsM with
  | none => simp only [en] at p1; exact p1.elim
  | some ns =>
    simp only [en] at p1
    by_cases hl : ns.length < 4000
    · rw [if_pos hl] at p1
      obtain ⟨ms, e0, e1⟩ := Option.bind_eq_some_iff.mp en
      have : ∃ a us, v = .ref a ∧ (SqT X.K W1.H a us ∨ SqL X.K W1.H a us) ∧ RVs X.K W1 ms us := by
        cases et : tupM m with
        | some ms' =>
          rw [et] at e0
          cases e0
          obtain ⟨a, us, g1, g2, g3⟩ := tupM_ok ok1 rv et
          exact ⟨a, us, g1, .inl (SqT.of (ok1.sub _ _ g2)), g3⟩
        | none =>
          rw [et] at e0
          obtain ⟨a, us, g1, g2, g3⟩ := lstM_ok ok1 rv e0
          exact ⟨a, us, g1, .inr (SqL.of g2), g3⟩
      obtain ⟨a, us, g1, g2, g3⟩ := this
      have z := intsM_rel e1 g3
      subst z
      refine ⟨a, ns, g1, g2, hl, fun ns' r hs hm' hq => ?_⟩
      rw [sortSet_uniq hs hm']
      have rus := ints_rms (K := X.K) (W := W1) (sortSet ns)
      exact p1 (W1.more r (.lst ((sortSet ns).map V.int))) rfl (ok1.more _ hq) (s0.trans (Step.more hq)) r _ (s0.dom r hq) (ok1.fp hq) (fun k hk => ok1.nec hq hk) upd_same (RMs.step rus (Step.more hq))
    · rw [if_neg hl] at p1; exact p1.elim
end
end G

/-! {i: x}, x a name -/
namespace G
open PySem PySem.Spec L2 PySem.W PyProof.Rows
def eDctN (i : Int) (f : ES) : ES := fun env => bnd (f env) fun m => match m with
  | .d x => rt (.d (.dict [(.int i, x)]))
  | _ => fail
section
variable {X : Cx} {E : G.XE} {pos : Pos} {e : Expr} {k : Nat}
theorem p_dctN {i : Int} {ti : Pos} {bi} (h : PE X e (tVar k)) : PE X (.Dict [some (.Constant (.int i) bi ti)] [e] pos) (tM X.K E (eDctN i (eVar k))) :=
  PE.imp (pe_disp (pps_cons (pe_int (j := bi) (pos := ti)) h pps_nil) rfl rfl (by simp) (by simp)) fun σ H Q ⟨W, env, hH, ok, er, p⟩ => by
  subst hH
  intro q hq
  unfold eDctN eVar at p
  cases e1 : env[k]? with
  | none => rw [e1] at p; exact p.elim
  | some o =>
    cases o with
    | none => rw [e1] at p; exact p.elim
    | some m =>
      rw [e1] at p
      obtain ⟨v, h1, h2⟩ := er.2 k m e1
      cases m with
      | d x =>
        refine ⟨v, h1, upd_same, [(.inl i, v)], rfl, by simp, ?_⟩
        have e : upd (upd W.H q (.dK [])) q (.dK (mergeK [] [(.inl i, v)])) = upd W.H q (.dK [(.inl i, v)]) := by rw [upd_upd]; rfl
        rw [e]
        have st : Step W (W.froz q (.dK [(.inl i, v)])) := Step.froz ok hq
        refine p (W.froz q (.dK [(.inl i, v)])) rfl (ok.froz _ hq) st _ ?_
        have h3 := RM.step h2 st
        simp only [RM] at h3
        show RM X.K W.ρ (upd W.F q (.dK [(.inl i, v)])) W.h.length (.d (.dict [(.int i, x)])) (.ref q)
        simp only [RM, RD, RKs]
        exact ⟨q, [(.inl i, v)], rfl, upd_same, i, v, [], rfl, rfl, h3, rfl⟩
      | _ => exact p.elim
end
/-! isinstance(x, (A, B)) -/
def eIsi2 (T S : String) (f : ES) : ES := fun env => bnd (f env) fun m h => match tyN h m with
  | some a => some (.val (.d (.bool (isiB a T || isiB a S))) h)
  | none => none
section
variable {X : Cx} {E : G.XE} {pos p q q2 q3 : Pos} {e : Expr} {f : ES}
theorem tyN_all {K : PySem.W.Frag} {W : Wd} {m : M} {v : V} {a : String} (ok : W.Ok K) (r : RV K W m v) (e : tyN W.h m = some a) : ∃ t, TyX K W.H v t ∧ ∀ T, KitOk T → PySem.W.kitOne K t (.type T) = some (isiB a T) := by
  cases m with
  | d x =>
    cases x with
    | none => cases e; simp only [RM, RD] at r; subst r; exact ⟨_, .base .non, fun T kt => kit_ty kt.1⟩
    | bool b => cases e; rw [bl_of r]; exact ⟨_, .base (.bl b), fun T kt => kit_ty kt.2.1⟩
    | int b => cases e; rw [int_of r]; exact ⟨_, .base (.int b), fun T kt => kit_ty kt.2.2.1⟩
    | str b => cases e; rw [str_of r]; exact ⟨_, .base (.str b), fun T kt => kit_ty kt.2.2.2.1⟩
    | list xs => cases e; simp only [RM, RD] at r; obtain ⟨a, vs, h1, h2, h3⟩ := r; subst h1; exact ⟨_, .base (.lst (ok.sub _ _ h2)), fun T kt => kit_ty kt.2.2.2.2.1⟩
    | tuple xs => cases e; simp only [RM, RD] at r; obtain ⟨a, vs, h1, h2, h3⟩ := r; subst h1; exact ⟨_, .base (.tup (ok.sub _ _ h2)), fun T kt => kit_ty kt.2.2.2.2.2.1⟩
    | dict _ => cases e; simp only [RM, RD] at r; obtain ⟨a, ps, h1, h2, h3⟩ := r; subst h1; exact ⟨_, .base (.dK (ok.sub _ _ h2)), fun T kt => kit_ty kt.2.2.2.2.2.2⟩
  | tup ms => cases e; simp only [RM] at r; obtain ⟨a, vs, h1, h2, h3⟩ := r; subst h1; exact ⟨_, .base (.tup (ok.sub _ _ h2)), fun T kt => kit_ty kt.2.2.2.2.2.1⟩
  | obj k =>
    simp only [tyN] at e
    split at e
    · rename_i ms em
      cases e
      obtain ⟨b, vs, h1, h2, h3⟩ := lstM_ok (m := .obj k) ok r em
      subst h1
      exact ⟨_, .base (.lst h2), fun T kt => kit_ty kt.2.2.2.2.1⟩
    · cases e
  | scr ns => cases e
  | ad a => cases e
theorem p_isi2 {T S : String} {x y : Str} {tk} (kt : KitOk T) (ks : KitOk S) (hg : Gl X "isinstance") (hm : X.mg "isinstance" = none) (hgT : Gl X x) (hmT : X.mg x = none) (hT : bootBuiltins x = some (.type T)) (hgS : Gl X y) (hmS : X.mg y = none) (hS : bootBuiltins y = some (.type S)) (he : PE X e (tM X.K E f))
    (hn : x ≠ "__name__" := by decide) (hd : (x == ("__debug__" : Str)) = false := by decide) (hn2 : y ≠ "__name__" := by decide) (hd2 : (y == ("__debug__" : Str)) = false := by decide)
    (h1 : starEach [e, .Tuple [.Name x q, .Name y q2] tk q3] X.env = (false, eval e X.env) :: starEach [.Tuple [.Name x q, .Name y q2] tk q3] X.env := by rfl) (h2 : starEach [.Tuple [.Name x q, .Name y q2] tk q3] X.env = (false, eval (.Tuple [.Name x q, .Name y q2] tk q3) X.env) :: starEach [] X.env := by rfl)
    (h3 : starEach [.Name x q, .Name y q2] X.env = (false, eval (.Name x q) X.env) :: starEach [.Name y q2] X.env := by rfl) (h4 : starEach [.Name y q2] X.env = (false, eval (.Name y q2) X.env) :: starEach [] X.env := by rfl) (hpl : (backTo pos (starEach [.Tuple [.Name x q, .Name y q2] tk q3] X.env)).any (·.1) = false := by rfl) :
    PE X (.Call (.Name "isinstance" p) [e, .Tuple [.Name x q, .Name y q2] tk q3] [] pos) (tM X.K E (eIsi2 T S f)) := by
  have b1 : PE X (.Name x q) (tC (.ty T)) := pe_bltn hgT hmT hT rfl hn hd
  have b2 : PE X (.Name y q2) (tC (.ty S)) := pe_bltn hgS hmS hS rfl hn2 hd2
  refine PE.imp (pe_callB call_isiT hg hm PyProof.Rows.boot_isinstance (pa_cons he (pa_cons (pe_tup (pa_cons b1 (pa_cons b2 pa_nil h4) h3)) pa_nil h2) h1) (by decide) (by decide) h1 hpl) fun σ H Q ⟨W, env, hH, ok, er, p⟩ => ?_
  subst hH
  refine ⟨W, env, rfl, ok, er, (PostG.bindF (Step.refl W) p).mono fun m W1 ok1 s1 ⟨s0, p1⟩ v rv => ?_⟩
  refine ⟨show 2 ≤ sizeLine by rw [sizeLine_eq]; decide, fun r hr => ?_⟩
  split at p1
  · rename_i a ea
    obtain ⟨t, z1, z2⟩ := tyN_all (ok1.more _ hr) (RM.step rv (Step.more hr)) (show tyN (W1.more r (.tup [.ty T, .ty S])).h m = some a from ea)
    refine ⟨v, r, [.ty T, .ty S], t, [.type T, .type S], isiB a T || isiB a S, rfl, upd_same, .cons (.ty T) (.cons (.ty S) .nil), z1, ?_, ?_⟩
    · refine kitAny_cons (z2 T kt) (fun h => ?_) fun h => by rw [h, Bool.true_or]
      refine kitAny_cons (z2 S ks) (fun h2 => ?_) fun h2 => by rw [h2, Bool.or_true]
      rw [h, h2]
      rfl
    · exact p1 (W1.more r (.tup [.ty T, .ty S])) rfl (ok1.more _ hr) (s0.trans (Step.more hr)) (.bl (isiB a T || isiB a S)) (by simp only [RM, RD])
  · exact p1.elim
end
end G

/-! the text -/
namespace Q
open PySem PySem.Spec L2 G
def topS (i : Nat) : Stmt := PySem.Challenge.pw_guidesea_k73_jobs_and_rests_refused.main.body.getD i (.Pass ⟨0, 0, 0, 0⟩)
abbrev s_is_whole : Stmt := topS 23
abbrev s_is_within : Stmt := topS 24
abbrev s_is_rising : Stmt := topS 26
abbrev s_are_numbers : Stmt := topS 27
abbrev s_is_job : Stmt := topS 32
abbrev s_check_jobs : Stmt := topS 33
abbrev s_meet : Stmt := topS 34
abbrev s_under_way : Stmt := topS 35
abbrev s_greedy : Stmt := topS 36
abbrev s_fewest : Stmt := topS 37
abbrev s_is_sharing : Stmt := topS 38
abbrev s_is_crush : Stmt := topS 39
abbrev s__law_cell_at : Stmt := topS 41
abbrev s__law_pot : Stmt := topS 42
abbrev s__law_take : Stmt := topS 43
abbrev s__law_whole : Stmt := topS 44
abbrev s__law_within : Stmt := topS 45
abbrev s__law_odd : Stmt := topS 46
abbrev s__law_word : Stmt := topS 47
abbrev s__law_jobs : Stmt := topS 48
abbrev s__law_are_jobs : Stmt := topS 49
abbrev s__law_told : Stmt := topS 50
abbrev s_law : Stmt := topS 51
structure Txt (K : PySem.W.Frag) (mg : Str → Option Value) : Prop where
  F_is_whole : ∃ a fd, mg "is_whole" = some (.ref a) ∧ Fun K "is_whole" "is_whole" s_is_whole a fd
  F_is_within : ∃ a fd, mg "is_within" = some (.ref a) ∧ Fun K "is_within" "is_within" s_is_within a fd
  F_is_rising : ∃ a fd, mg "is_rising" = some (.ref a) ∧ Fun K "is_rising" "is_rising" s_is_rising a fd
  F_are_numbers : ∃ a fd, mg "are_numbers" = some (.ref a) ∧ Fun K "are_numbers" "are_numbers" s_are_numbers a fd
  F_is_job : ∃ a fd, mg "is_job" = some (.ref a) ∧ Fun K "is_job" "is_job" s_is_job a fd
  F_check_jobs : ∃ a fd, mg "check_jobs" = some (.ref a) ∧ Fun K "check_jobs" "check_jobs" s_check_jobs a fd
  F_meet : ∃ a fd, mg "meet" = some (.ref a) ∧ Fun K "meet" "meet" s_meet a fd
  F_under_way : ∃ a fd, mg "under_way" = some (.ref a) ∧ Fun K "under_way" "under_way" s_under_way a fd
  F_greedy : ∃ a fd, mg "greedy" = some (.ref a) ∧ Fun K "greedy" "greedy" s_greedy a fd
  F_fewest : ∃ a fd, mg "fewest" = some (.ref a) ∧ Fun K "fewest" "fewest" s_fewest a fd
  F_is_sharing : ∃ a fd, mg "is_sharing" = some (.ref a) ∧ Fun K "is_sharing" "is_sharing" s_is_sharing a fd
  F_is_crush : ∃ a fd, mg "is_crush" = some (.ref a) ∧ Fun K "is_crush" "is_crush" s_is_crush a fd
  F__law_cell_at : ∃ a fd, mg "_law_cell_at" = some (.ref a) ∧ Fun K "_law_cell_at" "_law_cell_at" s__law_cell_at a fd
  F__law_pot : ∃ a fd, mg "_law_pot" = some (.ref a) ∧ Fun K "_law_pot" "_law_pot" s__law_pot a fd
  F__law_take : ∃ a fd, mg "_law_take" = some (.ref a) ∧ Fun K "_law_take" "_law_take" s__law_take a fd
  F__law_whole : ∃ a fd, mg "_law_whole" = some (.ref a) ∧ Fun K "_law_whole" "_law_whole" s__law_whole a fd
  F__law_within : ∃ a fd, mg "_law_within" = some (.ref a) ∧ Fun K "_law_within" "_law_within" s__law_within a fd
  F__law_odd : ∃ a fd, mg "_law_odd" = some (.ref a) ∧ Fun K "_law_odd" "_law_odd" s__law_odd a fd
  F__law_word : ∃ a fd, mg "_law_word" = some (.ref a) ∧ Fun K "_law_word" "_law_word" s__law_word a fd
  F__law_jobs : ∃ a fd, mg "_law_jobs" = some (.ref a) ∧ Fun K "_law_jobs" "_law_jobs" s__law_jobs a fd
  F__law_are_jobs : ∃ a fd, mg "_law_are_jobs" = some (.ref a) ∧ Fun K "_law_are_jobs" "_law_are_jobs" s__law_are_jobs a fd
  F__law_told : ∃ a fd, mg "_law_told" = some (.ref a) ∧ Fun K "_law_told" "_law_told" s__law_told a fd
  F_law : ∃ a fd, mg "law" = some (.ref a) ∧ Fun K "law" "law" s_law a fd
  k_MOST_END : ∃ t, mg "MOST_END" = some (.int 9999 t)
  k_MOST_JOBS : ∃ t, mg "MOST_JOBS" = some (.int 12 t)
  k_MOST_REST : ∃ t, mg "MOST_REST" = some (.int 200 t)
  n_ValueError : mg "ValueError" = none
  n_all : mg "all" = none
  n_any : mg "any" = none
  n_bool : mg "bool" = none
  n_enumerate : mg "enumerate" = none
  n_int : mg "int" = none
  n_isinstance : mg "isinstance" = none
  n_len : mg "len" = none
  n_list : mg "list" = none
  n_max : mg "max" = none
  n_min : mg "min" = none
  n_range : mg "range" = none
  n_repr : mg "repr" = none
  n_sorted : mg "sorted" = none
  n_tuple : mg "tuple" = none
  n_zip : mg "zip" = none
  cls : ClsTab K mg ["NoSea", "NoChannel", "NoMinute", "NoDraught", "NoCrew", "NoShips", "NoShip", "NoTurns", "NoGuide", "NoLog", "NoHails", "NoPace", "NoJobs", "NoRest", "NoWater", "NoText", "NoName", "TooMany", "NoDeed", "NoRow"]
noncomputable def b__law_whole : SS :=
  (sRet (eAnd (eIsi "int" (eVar 0)) (eNot (eIsi "bool" (eVar 0)))))
noncomputable def m__law_whole : Fn := mkFn 1 b__law_whole
noncomputable def b__law_within : SS :=
  (sRet (eAnd (eCall 1 m__law_whole (aCons (eVar 0) aNil)) (eCh oLe oLe (eVar 1) (eVar 0) (eVar 2))))
noncomputable def m__law_within : Fn := mkFn 3 b__law_within
noncomputable def b__law_are_jobs_1 : SS :=
  (sSeq (sIf (bOr (bNot (bO (eIsi "tuple" (eVar 1)))) (bOr (bO (e2 oNe (eB nLen (aCons (eVar 1) aNil)) (eC (.int 2)))) (bNot (bO (eB nAll (aCons (eVal (nComp (iSeqF (eVar 1)) (.nm 2) bYes (eCall 3 m__law_within (aCons (eVar 2) (aCons (eC (.int 0)) (aCons (eC (.int 9999)) aNil)))) [2])) aNil)))))) (sRet (eC (.bool false))) sNil)
  (sIf (bO (e2 oGe (e2 oIx (eVar 1) (eC (.int 0))) (e2 oIx (eVar 1) (eC (.int 1))))) (sRet (eC (.bool false))) sNil))
noncomputable def b__law_are_jobs : SS :=
  (sSeq (sIf (bOr (bNot (bO (eIsi "list" (eVar 0)))) (bO (e2 oGt (eB nLen (aCons (eVar 0) aNil)) (eC (.int 12))))) (sRet (eC (.bool false))) sNil)
  (sSeq (sFor (iSeqF (eVar 0)) (.nm 1) b__law_are_jobs_1)
  (sRet (eC (.bool true)))))
noncomputable def m__law_are_jobs : Fn := mkFn 3 b__law_are_jobs
noncomputable def b__law_cell_at : SS :=
  (sSeq (sIf (bO (e2 oLt (eVar 1) (eB nLen (aCons (eVar 0) aNil)))) (sRet (e2 oIxS (eVar 0) (eVar 1))) sNil)
  (sRet (eC (.int 0))))
noncomputable def m__law_cell_at : Fn := mkFn 2 b__law_cell_at
noncomputable def b__law_take : SS :=
  (sSeq (sSet (.nm 2) (e2 oMod (e2 oIx (eVar 0) (eC (.int 0))) (eVar 1)))
  (sSeq (sSetIx (eVar 0) (eC (.int 0)) (e2 oDiv (e2 oIx (eVar 0) (eC (.int 0))) (eVar 1)))
  (sRet (eVar 2))))
noncomputable def m__law_take : Fn := mkFn 3 b__law_take
noncomputable def b__law_jobs_1 : SS :=
  (sSeq (sSet (.nm 4) (eCall 2 m__law_take (aCons (eVar 0) (aCons (eVar 3) aNil))))
  (sSeq (sSet (.nm 5) (eTup (aCons (eVar 4) (aCons (e2 oAdd (e2 oAdd (eVar 4) (eC (.int 1))) (eCall 2 m__law_take (aCons (eVar 0) (aCons (e2 oIx (eVal (nLst (aCons (eC (.int 4)) (aCons (eC (.int 60)) (aCons (eC (.int 5000)) aNil))))) (eCall 2 m__law_take (aCons (eVar 0) (aCons (eC (.int 3)) aNil)))) aNil)))) aNil))))
  (sExp (eApp (eVar 2) (eIf (bAnd (bO (e2 oNe (eVar 2) (eVal (nLst aNil)))) (bO (e2 oEq (eCall 2 m__law_take (aCons (eVar 0) (aCons (eC (.int 8)) aNil))) (eC (.int 0))))) (e2 oIx (eVar 2) (eNeg (eC (.int 1)))) (eVar 5))))))
noncomputable def b__law_jobs : SS :=
  (sSeq (sPar 2 3 (aCons (eCell (nLst aNil)) (aCons (e2 oIx (eVal (nLst (aCons (eC (.int 12)) (aCons (eC (.int 90)) (aCons (eC (.int 4000)) aNil))))) (eCall 2 m__law_take (aCons (eVar 0) (aCons (eC (.int 3)) aNil)))) aNil)))
  (sSeq (sFor (iRng1F (aCons (eCall 2 m__law_take (aCons (eVar 0) (aCons (eC (.int 13)) aNil))) aNil)) (.nm 1) b__law_jobs_1)
  (sRet (eFrz (eVar 2)))))
noncomputable def m__law_jobs : Fn := mkFnS 0 6 b__law_jobs
noncomputable def b__law_odd : SS :=
  (sSeq (sSet (.nm 1) (eVal (nLst (aCons (eC .none) (aCons (eC (.bool true)) (aCons (eC (.bool false)) (aCons (eNeg (eC (.int 1))) (aCons (e2 oPow (eC (.int 10)) (eC (.int 30))) (aCons (eC (.str "")) (aCons (eC (.str "a")) (aCons (eC (.str "1")) (aCons (eTup aNil) (aCons (eVal (nLst aNil)) (aCons (eC (.dict [])) (aCons (eVal (nLst (aCons (eTup aNil) aNil))) (aCons (eTup (aCons (eTup aNil) aNil)) (aCons (eTup (aCons (eC (.int 0)) aNil)) (aCons (eVal (nLst (aCons (eC (.int 0)) aNil))) (aCons (eC (.dict [(.int 0, .int 1)])) (aCons (eTup (aCons (eC (.bool true)) (aCons (eC (.bool true)) aNil))) aNil))))))))))))))))))))
  (sRet (e2 oIx (eVar 1) (eCall 2 m__law_take (aCons (eVar 0) (aCons (eB nLen (aCons (eVar 1) aNil)) aNil))))))
noncomputable def m__law_odd : Fn := mkFn 2 b__law_odd
noncomputable def b__law_pot_c_1 : SS :=
  (sSeq (sSet (.nm 3) (e2 oMod (e2 oMul (e2 oAdd (e2 oAdd (e2 oMod (eVar 0) (eC (.int 2147483629))) (e2 oMul (eC (.int 7919)) (eVar 2))) (eC (.int 1))) (eC (.int 48271))) (eC (.int 2147483647))))
  (sSeq (sSet (.nm 3) (e2 oMod (e2 oAdd (e2 oAdd (e2 oMul (eVar 3) (eVar 3)) (e2 oMul (eC (.int 69621)) (eVar 2))) (eC (.int 7))) (eC (.int 2147483587))))
  (sSet (.nm 1) (e2 oAdd (e2 oMul (eVar 1) (eC (.int 2147483587))) (eVar 3)))))
noncomputable def b__law_pot_c : SS :=
  (sSeq (sIf (bO (e2 oGe (eVar 0) (e2 oPow (eC (.int 10)) (eC (.int 18))))) (sRet (eCell (nLst (aCons (e2 oSub (eVar 0) (e2 oPow (eC (.int 10)) (eC (.int 18)))) aNil)))) sNil)
  (sSeq (sSet (.nm 1) (eC (.int 0)))
  (sSeq (sFor (iRng1F (aCons (eC (.int 64)) aNil)) (.nm 2) b__law_pot_c_1)
  (sRet (eCell (nLst (aCons (eVar 1) aNil)))))))
noncomputable def m__law_pot_c : Fn := mkFnS 1 4 b__law_pot_c
def exNames : List String := ["NoSea", "NoChannel", "NoMinute", "NoDraught", "NoCrew", "NoShips", "NoShip", "NoTurns", "NoGuide", "NoLog", "NoHails", "NoPace", "NoJobs", "NoRest", "NoWater", "NoText", "NoName", "TooMany", "NoDeed", "NoRow"]
def exWords : List Str := ["sea", "channel", "minute", "draught", "crew", "ships", "ship", "turns", "guide", "log", "hails", "pace", "jobs", "rest", "water", "text", "name", "many", "deed", "row"]
def exWord : String → Option M := exW exNames exWords
noncomputable def b__law_word_t : SS :=
  (sSeq (sSet (.nm 2) (eVal (nLst (aCons (eC (.str "sea")) (aCons (eC (.str "channel")) (aCons (eC (.str "minute")) (aCons (eC (.str "draught")) (aCons (eC (.str "crew")) (aCons (eC (.str "ships")) (aCons (eC (.str "ship")) (aCons (eC (.str "turns")) (aCons (eC (.str "guide")) (aCons (eC (.str "log")) (aCons (eC (.str "hails")) (aCons (eC (.str "pace")) aNil)))))))))))))))
  (sRet (e2 oIx (e2 oAdd (eVar 2) (eVal (nLst (aCons (eC (.str "jobs")) (aCons (eC (.str "rest")) (aCons (eC (.str "water")) (aCons (eC (.str "text")) (aCons (eC (.str "name")) (aCons (eC (.str "many")) (aCons (eC (.str "deed")) (aCons (eC (.str "row")) aNil))))))))))) (eLm opIndex (eVar 1) (eC (.bool true))))))
noncomputable def b__law_word (a : Addr) (k : Nat) : SS :=
  (sSeq (sSet (.nm 1) (eVal (nLst (aCons (eIsW a 0 (decide (k = 0))) (aCons (eIsW a 0 (decide (k = 1))) (aCons (eIsW a 0 (decide (k = 2))) (aCons (eIsW a 0 (decide (k = 3))) aNil)))))))
  (sSeq (sSet (.nm 1) (e2 oAdd (eVar 1) (eVal (nLst (aCons (eIsW a 0 (decide (k = 4))) (aCons (eIsW a 0 (decide (k = 5))) (aCons (eIsW a 0 (decide (k = 6))) (aCons (eIsW a 0 (decide (k = 7))) aNil))))))))
  (sSeq (sSet (.nm 1) (e2 oAdd (eVar 1) (eVal (nLst (aCons (eIsW a 0 (decide (k = 8))) (aCons (eIsW a 0 (decide (k = 9))) (aCons (eIsW a 0 (decide (k = 10))) (aCons (eIsW a 0 (decide (k = 11))) aNil))))))))
  (sSeq (sSet (.nm 1) (e2 oAdd (eVar 1) (eVal (nLst (aCons (eIsW a 0 (decide (k = 12))) (aCons (eIsW a 0 (decide (k = 13))) (aCons (eIsW a 0 (decide (k = 14))) (aCons (eIsW a 0 (decide (k = 15))) aNil))))))))
  (sSeq (sSet (.nm 1) (e2 oAdd (eVar 1) (eVal (nLst (aCons (eIsW a 0 (decide (k = 16))) (aCons (eIsW a 0 (decide (k = 17))) (aCons (eIsW a 0 (decide (k = 18))) (aCons (eIsW a 0 (decide (k = 19))) aNil))))))))
  (sSeq (sIf (bOr (bO (e2 oNe (eLm opCount (eVar 1) (eC (.bool true))) (eC (.int 1)))) (bNot (bO (eIsW a 0 true)))) (sRet (eC (.str "other"))) sNil)
  b__law_word_t))))))
noncomputable def b_is_whole : SS :=
  (sRet (eAnd (eIsi "int" (eVar 0)) (eNot (eIsi "bool" (eVar 0)))))
noncomputable def m_is_whole : Fn := mkFn 1 b_is_whole
noncomputable def b_is_within : SS :=
  (sRet (eAnd (eCall 1 m_is_whole (aCons (eVar 0) aNil)) (eCh oLe oLe (eVar 1) (eVar 0) (eVar 2))))
noncomputable def m_is_within : Fn := mkFn 3 b_is_within
noncomputable def b_is_job : SS :=
  (sSeq (sIf (bOr (bNot (bO (eIsi "tuple" (eVar 0)))) (bOr (bO (e2 oNe (eB nLen (aCons (eVar 0) aNil)) (eC (.int 2)))) (bNot (bO (eB nAll (aCons (eVal (nComp (iSeqF (eVar 0)) (.nm 1) bYes (eCall 3 m_is_within (aCons (eVar 1) (aCons (eC (.int 0)) (aCons (eC (.int 9999)) aNil)))) [1])) aNil)))))) (sRet (eC (.bool false))) sNil)
  (sRet (e2 oLt (e2 oIx (eVar 0) (eC (.int 0))) (e2 oIx (eVar 0) (eC (.int 1))))))
noncomputable def m_is_job : Fn := mkFn 2 b_is_job
noncomputable def b_check_jobs : SS :=
  (sSeq (sIf (bOr (bNot (bO (eIsi "list" (eVar 0)))) (bOr (bO (e2 oGt (eB nLen (aCons (eVar 0) aNil)) (eC (.int 12)))) (bNot (bO (eB nAll (aCons (eVal (nComp (iSeqF (eVar 0)) (.nm 2) bYes (eCall 1 m_is_job (aCons (eVar 2) aNil)) [2])) aNil)))))) (sRaise "NoJobs" (eC (.str "no jobs"))) sNil)
  (sIf (bNot (bO (eCall 3 m_is_within (aCons (eVar 1) (aCons (eC (.int 0)) (aCons (eC (.int 200)) aNil)))))) (sRaise "NoRest" (eC (.str "no rest"))) sNil))
noncomputable def m_check_jobs : Fn := mkFn 3 b_check_jobs
noncomputable def b_meet : SS :=
  (sRet (eAnd (e2 oLt (e2 oIx (eVar 0) (eC (.int 0))) (e2 oAdd (e2 oIx (eVar 1) (eC (.int 1))) (eVar 2))) (e2 oLt (e2 oIx (eVar 1) (eC (.int 0))) (e2 oAdd (e2 oIx (eVar 0) (eC (.int 1))) (eVar 2)))))
noncomputable def m_meet : Fn := mkFn 3 b_meet
noncomputable def b_greedy_1 : SS :=
  (sSeq (sSet (.nm 5) (eVal (nComp (iEnF (eVar 0)) (.tu [(.nm 7), (.nm 6)]) (bAnd (bO (e2 oNotN (e2 oIx (eVar 2) (eVar 7)) (eC .none))) (bO (eCall 3 m_meet (aCons (eVar 6) (aCons (e2 oIx (eVar 0) (eVar 4)) (aCons (eVar 1) aNil)))))) (e2 oIx (eVar 2) (eVar 7)) [7, 6])))
  (sSetIx (eVar 2) (eVar 4) (eB nMin (aCons (eVal (nComp (iRng1F (aCons (eB nLen (aCons (eVar 0) aNil)) aNil)) (.nm 8) (bO (e2 oNotIn (eVar 8) (eVar 5))) (eVar 8) [8])) aNil))))
noncomputable def b_greedy : SS :=
  (sSeq (sSet (.nm 2) (eCell (nComp (iSeqF (eVar 0)) (.nm 6) bYes (eC .none) [6])))
  (sSeq (sFor (iSeqF (eVal (nSort (aCons (eVal (nComp (iEnF (eVar 0)) (.tu [(.nm 4), (.nm 6)]) bYes (eTup (aCons (e2 oIx (eVar 6) (eC (.int 0))) (aCons (eVar 4) aNil))) [4, 6])) aNil)))) (.tu [(.nm 3), (.nm 4)]) b_greedy_1)
  (sRet (eFrz (eVar 2)))))
noncomputable def m_greedy : Fn := mkFnS 0 9 b_greedy
noncomputable def b_under_way : SS :=
  (sRet (eVal (nComp (iEnF (eVar 0)) (.tu [(.nm 3), (.nm 4)]) (bO (eCh oLe oLt (e2 oIx (eVar 4) (eC (.int 0))) (eVar 2) (e2 oAdd (e2 oIx (eVar 4) (eC (.int 1))) (eVar 1)))) (eVar 3) [3, 4])))
noncomputable def m_under_way : Fn := mkFn 5 b_under_way
noncomputable def b_fewest : SS :=
  (sSeq (sExp (eCallX 2 m_check_jobs (aCons (eVar 0) (aCons (eVar 1) aNil))))
  (sSeq (sIf (bO (e2 oEq (eB nLen (aCons (eVar 0) aNil)) (eC (.int 0)))) (sRet (eTup (aCons (eC (.int 0)) (aCons (eVal (nLst aNil)) (aCons (eC .none) aNil))))) sNil)
  (sSeq (sSet (.nm 2) (eB nMax (aCons (eVal (nComp (iSeqF (eVar 0)) (.nm 4) bYes (eB nLen (aCons (eCall 3 m_under_way (aCons (eVar 0) (aCons (eVar 1) (aCons (e2 oIx (eVar 4) (eC (.int 0))) aNil)))) aNil)) [4])) aNil)))
  (sSeq (sSet (.nm 3) (eB nMin (aCons (eVal (nComp (iSeqF (eVar 0)) (.nm 4) (bO (e2 oEq (eB nLen (aCons (eCall 3 m_under_way (aCons (eVar 0) (aCons (eVar 1) (aCons (e2 oIx (eVar 4) (eC (.int 0))) aNil)))) aNil)) (eVar 2))) (e2 oIx (eVar 4) (eC (.int 0))) [4])) aNil)))
  (sRet (eTup (aCons (eVar 2) (aCons (eCall 2 m_greedy (aCons (eVar 0) (aCons (eVar 1) aNil))) (aCons (eTup (aCons (eVar 3) (aCons (eB nTup (aCons (eCall 3 m_under_way (aCons (eVar 0) (aCons (eVar 1) (aCons (eVar 3) aNil)))) aNil)) aNil))) aNil)))))))))
noncomputable def m_fewest : Fn := mkFn 5 b_fewest
noncomputable def b_is_rising : SS :=
  (sRet (eB nAll (aCons (eVal (nComp (iZpF (eVar 0) (eSl (eVar 0) (some (eC (.int 1))) none)) (.tu [(.nm 1), (.nm 2)]) bYes (e2 oLt (eVar 1) (eVar 2)) [1, 2])) aNil)))
noncomputable def m_is_rising : Fn := mkFn 3 b_is_rising
noncomputable def b_are_numbers : SS :=
  (sRet (eAnd (eIsi "tuple" (eVar 0)) (eAnd (eB nAll (aCons (eVal (nComp (iSeqF (eVar 0)) (.nm 1) bYes (eCall 1 m_is_whole (aCons (eVar 1) aNil)) [1])) aNil)) (eCall 1 m_is_rising (aCons (eVar 0) aNil)))))
noncomputable def m_are_numbers : Fn := mkFn 2 b_are_numbers
noncomputable def b_is_crush : SS :=
  (sSeq (sExp (eCallX 2 m_check_jobs (aCons (eVar 0) (aCons (eVar 1) aNil))))
  (sSeq (sIf (bOr (bNot (bO (eIsi "tuple" (eVar 2)))) (bOr (bO (e2 oNe (eB nLen (aCons (eVar 2) aNil)) (eC (.int 2)))) (bOr (bNot (bO (eCall 1 m_is_whole (aCons (e2 oIx (eVar 2) (eC (.int 0))) aNil)))) (bNot (bO (eCall 1 m_are_numbers (aCons (e2 oIx (eVar 2) (eC (.int 1))) aNil))))))) (sRet (eC (.bool false))) sNil)
  (sRet (eAnd (e2 oGt (eB nLen (aCons (e2 oIx (eVar 2) (eC (.int 1))) aNil)) (eC (.int 0))) (eB nAll (aCons (eVal (nComp (iSeqF (e2 oIx (eVar 2) (eC (.int 1)))) (.nm 3) bYes (e2 oIn (eVar 3) (eCall 3 m_under_way (aCons (eVar 0) (aCons (eVar 1) (aCons (e2 oIx (eVar 2) (eC (.int 0))) aNil))))) [3])) aNil))))))
noncomputable def m_is_crush : Fn := mkFn 4 b_is_crush
noncomputable def b_is_sharing_1 : SS :=
  (sIf (bO (eB nAny (aCons (eVal (nComp (iRng1F (aCons (eVar 3) aNil)) (.nm 5) bYes (eAnd (e2 oEq (e2 oIx (eVar 2) (eVar 3)) (e2 oIx (eVar 2) (eVar 5))) (eCall 3 m_meet (aCons (eVar 4) (aCons (e2 oIx (eVar 0) (eVar 5)) (aCons (eVar 1) aNil))))) [5])) aNil))) (sRet (eC (.bool false))) sNil)
noncomputable def b_is_sharing : SS :=
  (sSeq (sExp (eCallX 2 m_check_jobs (aCons (eVar 0) (aCons (eVar 1) aNil))))
  (sSeq (sIf (bOr (bNot (bO (eIsi "list" (eVar 2)))) (bOr (bO (e2 oNe (eB nLen (aCons (eVar 2) aNil)) (eB nLen (aCons (eVar 0) aNil)))) (bNot (bO (eB nAll (aCons (eVal (nComp (iSeqF (eVar 2)) (.nm 4) bYes (eCall 1 m_is_whole (aCons (eVar 4) aNil)) [4])) aNil)))))) (sRet (eC (.bool false))) sNil)
  (sSeq (sIf (bNot (bO (eB nAll (aCons (eVal (nComp (iSeqF (eVar 2)) (.nm 4) bYes (e2 oGe (eVar 4) (eC (.int 0))) [4])) aNil)))) (sRet (eC (.bool false))) sNil)
  (sSeq (sFor (iEnF (eVar 0)) (.tu [(.nm 3), (.nm 4)]) b_is_sharing_1)
  (sRet (eC (.bool true)))))))
noncomputable def m_is_sharing : Fn := mkFn 6 b_is_sharing
noncomputable def b__law_told : SS :=
  (sSeq (sTryW exWord (sSet (.nm 5) (eIf (bO (e2 oEq (eVar 0) (eC (.int 0)))) (eCallX 2 m_fewest (aCons (eVar 1) (aCons (eVar 2) aNil))) (eSelX 3 m_is_sharing m_is_crush (e2 oSub (eVar 0) (eC (.int 1))) (aCons (eVar 1) (aCons (eVar 2) (aCons (eVar 3) aNil)))))))
  (sRet (eIf (bO (eIsi2 "bool" "tuple" (eVar 5))) (eC (.str "")) (eC (.str "other")))))
noncomputable def m__law_told : Fn := mkFn 6 b__law_told
noncomputable def b_law_4 : SS :=
  (sSeq (sSet (.nm 14) (eC (.str "jobs")))
  (sSeq (sIf (bO (eCall 1 m__law_are_jobs (aCons (eVar 9) aNil))) (sSet (.nm 14) (eIf (bO (eCall 3 m__law_within (aCons (eVar 11) (aCons (eC (.int 0)) (aCons (eC (.int 200)) aNil))))) (eC (.str "")) (eC (.str "rest")))) sNil)
  (sSeq (sSet (.nm 15) (eVal (nComp (iRng1F (aCons (eC (.int 3)) aNil)) (.nm 16) bYes (eCall 4 m__law_told (aCons (eVar 16) (aCons (eVar 9) (aCons (eVar 11) (aCons (eVar 10) aNil))))) [16])))
  (sIf (bOr (bO (e2 oNe (eVar 15) (eVal (nRep (eVal (nLst (aCons (eVar 14) aNil))) (eC (.int 3)))))) (bO (e2 oNe (eB nRepr (aCons (eVar 9) aNil)) (eVar 13)))) (sRet (eC (.bool false))) sNil))))
noncomputable def b_law_3 : SS :=
  (sSeq (sPar 12 13 (aCons (e2 oIx (eVar 8) (eCall 2 m__law_take (aCons (eVar 2) (aCons (eC (.int 13)) aNil)))) (aCons (eB nRepr (aCons (eVar 9) aNil)) aNil)))
  (sSeq (sSet (.nm 10) (e2 oIx (eVal (nLst (aCons (eVal (nLst aNil)) (aCons (eTup (aCons (eC (.int 0)) (aCons (eTup (aCons (eC (.int 0)) aNil)) aNil))) (aCons (eC .none) (aCons (eCall 1 m__law_odd (aCons (eVar 2) aNil)) aNil)))))) (eCall 2 m__law_take (aCons (eVar 2) (aCons (eC (.int 4)) aNil)))))
  (sFor (iSeqF (eTup (aCons (eVar 12) (aCons (eC (.int 9)) aNil)))) (.nm 11) b_law_4)))
noncomputable def b_law_2 : SS :=
  (sExp (eApp (eVar 5) (eSl (e2 oAdd (e2 oAdd (eSl (eVar 3) none (some (eVar 4))) (eVal (nLst (aCons (eVar 7) aNil)))) (eSl (eVar 3) (some (e2 oAdd (eVar 4) (eC (.int 1)))) none)) none (some (eC (.int 12))))))
noncomputable def b_law_1 : SS :=
  (sSeq (sSet (.nm 2) (eCall 1 m__law_pot_c (aCons (eCall 2 m__law_cell_at (aCons (eVar 0) (aCons (eVar 1) aNil))) aNil)))
  (sSeq (sSet (.nm 3) (eCall 1 m__law_jobs (aCons (eVar 2) aNil)))
  (sSeq (sSet (.nm 4) (eCall 2 m__law_take (aCons (eVar 2) (aCons (e2 oAdd (eB nLen (aCons (eVar 3) aNil)) (eC (.int 1))) aNil))))
  (sSeq (sSet (.nm 5) (eCell (nLst (aCons (eVar 3) (aCons (eSl (eVal (nRep (eVar 3) (eC (.int 13)))) none (some (eC (.int 12)))) (aCons (eSl (e2 oAdd (eVal (nRep (eVar 3) (eC (.int 13)))) (eVal (nRep (eVal (nLst (aCons (eTup (aCons (eC (.int 0)) (aCons (eC (.int 1)) aNil))) aNil))) (eC (.int 13))))) none (some (eC (.int 13)))) (aCons (eB nTup (aCons (eVar 3) aNil)) (aCons (eDctN 0 (eVar 3)) (aCons (eCall 1 m__law_odd (aCons (eVar 2) aNil)) (aCons (eVal (nLst aNil)) aNil))))))))))
  (sSeq (sSet (.nm 6) (eVal (nLst (aCons (eTup (aCons (eC (.int 0)) (aCons (eC (.int 1)) aNil))) (aCons (eTup (aCons (eC (.int 9998)) (aCons (eC (.int 9999)) aNil))) (aCons (eTup (aCons (eC (.int 9999)) (aCons (eC (.int 9999)) aNil))) (aCons (eTup (aCons (eC (.int 9999)) (aCons (eC (.int 10000)) aNil))) (aCons (eTup (aCons (eNeg (eC (.int 1))) (aCons (eC (.int 3)) aNil))) (aCons (eTup (aCons (eC (.int 5)) (aCons (eC (.int 5)) aNil))) (aCons (eTup (aCons (eC (.int 6)) (aCons (eC (.int 5)) aNil))) (aCons (eTup (aCons (eC (.int 0)) (aCons (eC (.int 9999)) aNil))) (aCons (eTup (aCons (eC (.int 0)) (aCons (eC (.int 10000)) aNil))) aNil))))))))))))
  (sSeq (sSet (.nm 6) (e2 oAdd (eVar 6) (eVal (nLst (aCons (eTup (aCons (eC (.int 3)) aNil)) (aCons (eTup (aCons (eC (.int 3)) (aCons (eC (.int 4)) (aCons (eC (.int 5)) aNil)))) (aCons (eVal (nLst (aCons (eC (.int 3)) (aCons (eC (.int 4)) aNil)))) (aCons (eTup (aCons (eC (.bool true)) (aCons (eC (.int 4)) aNil))) (aCons (eTup (aCons (eC (.int 0)) (aCons (eC (.bool true)) aNil))) (aCons (eTup (aCons (eC .none) (aCons (eC (.int 4)) aNil))) (aCons (eTup (aCons (eC (.int 3)) (aCons (eC (.str "4")) aNil))) (aCons (eTup (aCons (eC (.int 3)) (aCons (e2 oPow (eC (.int 10)) (eC (.int 30))) aNil))) (aCons (eC .none) aNil)))))))))))))
  (sSeq (sFor (iSeqF (e2 oAdd (eVar 6) (eVal (nLst (aCons (eCall 1 m__law_odd (aCons (eVar 2) aNil)) aNil))))) (.nm 7) b_law_2)
  (sSeq (sSet (.nm 8) (eVal (nLst (aCons (eC (.int 0)) (aCons (eC (.int 1)) (aCons (eC (.int 200)) (aCons (eC (.int 201)) (aCons (eNeg (eC (.int 1))) (aCons (eC (.bool true)) (aCons (eC .none) (aCons (eC (.str "1")) (aCons (e2 oPow (eC (.int 10)) (eC (.int 30))) (aCons (eTup (aCons (eC (.int 1)) aNil)) (aCons (eVal (nLst (aCons (eC (.int 1)) aNil))) (aCons (e2 oAdd (eC (.int 1)) (eCall 2 m__law_take (aCons (eVar 2) (aCons (eC (.int 200)) aNil)))) (aCons (eCall 1 m__law_odd (aCons (eVar 2) aNil)) aNil))))))))))))))))
  (sFor (iSeqF (eVar 5)) (.nm 9) b_law_3)))))))))
noncomputable def b_law : SS :=
  (sSeq (sFor (iRng1F (aCons (eB nMax2 (aCons (eC (.int 1)) (aCons (eB nMin2 (aCons (eB nLen (aCons (eVar 0) aNil)) (aCons (eC (.int 8)) aNil))) aNil))) aNil)) (.nm 1) b_law_1)
  (sRet (eC (.bool true))))
noncomputable def m_law : Fn := mkFn 17 b_law
section
variable {P : Program} {w : World} {K : PySem.W.Frag} {mg : Str → Option Value} {base : Heap}
theorem sc__law_whole : FnScope ["_law_thing"] ["_law_thing"] (defScope s__law_whole) := ⟨rfl, rfl, rfl, by decide +kernel, rfl, by decide +kernel, by decide +kernel⟩
theorem c__law_whole (T : Txt K mg) : Cal P w K mg base 1 "_law_whole" ["_law_thing"] m__law_whole := by
  obtain ⟨f, fd, g, F⟩ := T.F__law_whole
  have S := sc__law_whole
  exact cal_of (N := ["_law_thing"]) F g S (F.binds fun _ _ _ _ _ _ us hl => match us, hl with | [_], _ => rfl) fun cdv A outer s H E hr hgd => (ss_one (ss_ret (p_And (p_isi (T := "int") kit_int rfl T.n_isinstance rfl T.n_int PyProof.Rows.boot_int (p_var (pv 0))) (pe_one (p_Not (p_isi (T := "bool") kit_bool rfl T.n_isinstance rfl T.n_bool PyProof.Rows.boot_bool (p_var (pv 0))))))))
theorem sc__law_within : FnScope ["_law_thing", "_law_low", "_law_high"] ["_law_thing", "_law_low", "_law_high"] (defScope s__law_within) := ⟨rfl, rfl, rfl, by decide +kernel, rfl, by decide +kernel, by decide +kernel⟩
theorem c__law_within (T : Txt K mg) : Cal P w K mg base 2 "_law_within" ["_law_thing", "_law_low", "_law_high"] m__law_within := by
  obtain ⟨f, fd, g, F⟩ := T.F__law_within
  have S := sc__law_within
  exact cal_of (N := ["_law_thing", "_law_low", "_law_high"]) F g S (F.binds fun _ _ _ _ _ _ us hl => match us, hl with | [_, _, _], _ => rfl) fun cdv A outer s H E hr hgd => (ss_one (ss_ret (p_And (p_call (c__law_whole T) hr hgd (by decide) rfl (q_cons (p_var (pv 0)) q_nil)) (pe_one (p_chain op_le j_le op_le j_le (p_var (pv 1)) (p_var (pv 0)) (p_var (pv 2)))))))
theorem sc__law_are_jobs : FnScope ["_law_thing", "_law_one", "_law_part"] ["_law_thing"] (defScope s__law_are_jobs) := ⟨rfl, rfl, rfl, by decide +kernel, rfl, by decide +kernel, by decide +kernel⟩
theorem c__law_are_jobs (T : Txt K mg) : Cal P w K mg base 3 "_law_are_jobs" ["_law_thing"] m__law_are_jobs := by
  obtain ⟨f, fd, g, F⟩ := T.F__law_are_jobs
  have S := sc__law_are_jobs
  exact cal_of (N := ["_law_thing", "_law_one", "_law_part"]) F g S (F.binds fun _ _ _ _ _ _ us hl => match us, hl with | [_], _ => rfl) fun cdv A outer s H E hr hgd => (ss_cons (ss_if (PW.pt (pw_Or (pt_Not (pt_bo (p_isi (T := "list") kit_list rfl T.n_isinstance rfl T.n_list PyProof.Rows.boot_list (p_var (pv 0))))) (pw_or1 (pt_cmp op_gt j_gt (p_B call_len jc_len rfl T.n_len PySem.boot_len (q_cons (p_var (pv 0)) q_nil)) p_int (nomark _))))) (ss_one (ss_ret p_bl)) ss_nil)
  (ss_cons (p_for PassesOwn.never rfl (i_seq (p_var (pv 0))) (g_nm (pg_name (i := 1) S.nd rfl (by first | exact .inl rfl | exact .inr rfl)))
  (ss_cons (ss_if (PW.pt (pw_Or (pt_Not (pt_bo (p_isi (T := "tuple") kit_tuple rfl T.n_isinstance rfl T.n_tuple PyProof.Rows.boot_tuple (p_var (pv 1))))) (pw_Or (pt_cmp (op_neM hr.units) j_ne (p_B call_len jc_len rfl T.n_len PySem.boot_len (q_cons (p_var (pv 1)) q_nil)) p_int (nomark _)) (pw_or1 (pt_Not (pt_bo (p_B (cr_all rfl) jc_all rfl T.n_all PyProof.Rows.boot_all (q_cons (p_val (p_lc (own := [("_law_part", 2)]) rfl S.nd (i_seq (p_var (pv 1))) (blkOk_by (by kernel_rfl)) (fun _ _ _ _ _ => (g_nm (pg_name (i := 2) S.nd rfl (by first | exact .inl rfl | exact .inr rfl)))) (fun _ _ _ _ _ => ts_nil) (fun _ _ _ _ _ => (p_call (c__law_within T) hr hgd (by decide) rfl (q_cons (p_var (pv 2)) (q_cons p_int (q_cons p_int q_nil))))))) q_nil)))))))) (ss_one (ss_ret p_bl)) ss_nil)
  (ss_one (ss_if (pt_cmp op_ge j_ge (p_ix ix_seq j_ix (p_var (pv 1)) p_int (fun _ _ => rfl)) (p_ix ix_seq j_ix (p_var (pv 1)) p_int (fun _ _ => rfl)) (nomark _)) (ss_one (ss_ret p_bl)) ss_nil))))
  (ss_one (ss_ret p_bl))))
theorem sc__law_cell_at : FnScope ["_law_script", "_law_k"] ["_law_script", "_law_k"] (defScope s__law_cell_at) := ⟨rfl, rfl, rfl, by decide +kernel, rfl, by decide +kernel, by decide +kernel⟩
theorem c__law_cell_at (T : Txt K mg) : Cal P w K mg base 1 "_law_cell_at" ["_law_script", "_law_k"] m__law_cell_at := by
  obtain ⟨f, fd, g, F⟩ := T.F__law_cell_at
  have S := sc__law_cell_at
  exact cal_of (N := ["_law_script", "_law_k"]) F g S (F.binds fun _ _ _ _ _ _ us hl => match us, hl with | [_, _], _ => rfl) fun cdv A outer s H E hr hgd => (ss_cons (ss_if (pt_cmp op_lt j_lt (p_var (pv 1)) (p_B call_len jc_len rfl T.n_len PySem.boot_len (q_cons (p_var (pv 0)) q_nil)) (nomark _)) (ss_one (ss_ret (p_ix ix_seq j_ixS (p_var (pv 0)) (p_var (pv 1)) (fun _ _ => rfl)))) ss_nil)
  (ss_one (ss_ret p_int)))
theorem sc__law_take : FnScope ["_law_pot_here", "_law_far", "_law_found"] ["_law_pot_here", "_law_far"] (defScope s__law_take) := ⟨rfl, rfl, rfl, by decide +kernel, rfl, by decide +kernel, by decide +kernel⟩
theorem c__law_take (T : Txt K mg) : Cal P w K mg base 1 "_law_take" ["_law_pot_here", "_law_far"] m__law_take := by
  obtain ⟨f, fd, g, F⟩ := T.F__law_take
  have S := sc__law_take
  exact cal_of (N := ["_law_pot_here", "_law_far", "_law_found"]) F g S (F.binds fun _ _ _ _ _ _ us hl => match us, hl with | [_, _], _ => rfl) fun cdv A outer s H E hr hgd => (ss_cons (ss_set (i := 2) S.nd rfl (.inl rfl) (p_bin op_mod j_mod (p_ix ix_seq j_ix (p_var (pv 0)) p_int (fun _ _ => rfl)) (p_var (pv 1))))
  (ss_cons (ss_setIx (p_bin op_fdivW j_div (p_ix ix_seq j_ix (p_var (pv 0)) p_int (fun _ _ => rfl)) (p_var (pv 1))) (p_var (pv 0)) p_int)
  (ss_one (ss_ret (p_var (pv 2))))))
theorem sc__law_jobs : FnScope ["_law_pot_here", "_law_turn", "_law_found", "_law_near", "_law_begin", "_law_job"] ["_law_pot_here"] (defScope s__law_jobs) := ⟨rfl, rfl, rfl, by decide +kernel, rfl, by decide +kernel, by decide +kernel⟩
theorem c__law_jobs (T : Txt K mg) : Cal P w K mg base 2 "_law_jobs" ["_law_pot_here"] m__law_jobs := by
  obtain ⟨f, fd, g, F⟩ := T.F__law_jobs
  have S := sc__law_jobs
  exact Cal.scoped (cal_of (N := ["_law_pot_here", "_law_turn", "_law_found", "_law_near", "_law_begin", "_law_job"]) F g S (F.binds fun _ _ _ _ _ _ us hl => match us, hl with | [_], _ => rfl) fun cdv A outer s H E hr hgd => (ss_cons (ss_par (i := 2) (j := 3) rfl S.nd rfl rfl (by decide) rfl rfl (q_cons (p_cell (p_lst q_nil)) (q_cons (p_ix ix_seq j_ix (p_val (p_lst (q_cons p_int (q_cons p_int (q_cons p_int q_nil))))) (p_call (c__law_take T) hr hgd (by decide) rfl (q_cons (p_var (pv 0)) (q_cons p_int q_nil))) (fun _ _ => rfl)) q_nil)) (by rfl))
  (ss_cons (p_for PassesOwn.never rfl (i_rng1 rfl T.n_range (q_cons (p_call (c__law_take T) hr hgd (by decide) rfl (q_cons (p_var (pv 0)) (q_cons p_int q_nil))) q_nil)) (g_nm (pg_name (i := 1) S.nd rfl (by first | exact .inl rfl | exact .inr rfl)))
  (ss_cons (ss_set (i := 4) S.nd rfl (.inl rfl) (p_call (c__law_take T) hr hgd (by decide) rfl (q_cons (p_var (pv 0)) (q_cons (p_var (pv 3)) q_nil))))
  (ss_cons (ss_set (i := 5) S.nd rfl (.inl rfl) (p_tup (q_cons (p_var (pv 4)) (q_cons (p_bin op_add4 j_add (p_bin op_add4 j_add (p_var (pv 4)) p_int) (p_call (c__law_take T) hr hgd (by decide) rfl (q_cons (p_var (pv 0)) (q_cons (p_ix ix_seq j_ix (p_val (p_lst (q_cons p_int (q_cons p_int (q_cons p_int q_nil))))) (p_call (c__law_take T) hr hgd (by decide) rfl (q_cons (p_var (pv 0)) (q_cons p_int q_nil))) (fun _ _ => rfl)) q_nil)))) q_nil))))
  (ss_one (ss_exp (p_append (p_var (pv 2)) (p_If (PW.pt (pw_And (pt_cmp (op_neM hr.units) j_ne (p_var (pv 2)) (p_val (p_lst q_nil)) (nomark _)) (pw_and1 (pt_cmp (op_eqM hr.units) j_eq (p_call (c__law_take T) hr hgd (by decide) rfl (q_cons (p_var (pv 0)) (q_cons p_int q_nil))) p_int (nomark _))))) (p_ix ix_seq j_ix (p_var (pv 2)) (p_neg p_int) (fun _ _ => rfl)) (p_var (pv 5)))))))))
  (ss_one (ss_ret (p_frz (p_var (pv 2))))))))
theorem sc__law_odd : FnScope ["_law_pot_here", "_law_some"] ["_law_pot_here"] (defScope s__law_odd) := ⟨rfl, rfl, rfl, by decide +kernel, rfl, by decide +kernel, by decide +kernel⟩
theorem c__law_odd (T : Txt K mg) : Cal P w K mg base 2 "_law_odd" ["_law_pot_here"] m__law_odd := by
  obtain ⟨f, fd, g, F⟩ := T.F__law_odd
  have S := sc__law_odd
  exact cal_of (N := ["_law_pot_here", "_law_some"]) F g S (F.binds fun _ _ _ _ _ _ us hl => match us, hl with | [_], _ => rfl) fun cdv A outer s H E hr hgd => (ss_cons (ss_set (i := 1) S.nd rfl (.inl rfl) (p_val (p_lst (q_cons p_non (q_cons p_bl (q_cons p_bl (q_cons (p_neg p_int) (q_cons (p_bin op_pow j_pow p_int p_int) (q_cons p_str (q_cons p_str (q_cons p_str (q_cons (p_tup q_nil) (q_cons (p_val (p_lst q_nil)) (q_cons p_dct0 (q_cons (p_val (p_lst (q_cons (p_tup q_nil) q_nil))) (q_cons (p_tup (q_cons (p_tup q_nil) q_nil)) (q_cons (p_tup (q_cons p_int q_nil)) (q_cons (p_val (p_lst (q_cons p_int q_nil))) (q_cons p_dct1 (q_cons (p_tup (q_cons p_bl (q_cons p_bl q_nil))) q_nil))))))))))))))))))))
  (ss_one (ss_ret (p_ix ix_seq j_ix (p_var (pv 1)) (p_call (c__law_take T) hr hgd (by decide) rfl (q_cons (p_var (pv 0)) (q_cons (p_B call_len jc_len rfl T.n_len PySem.boot_len (q_cons (p_var (pv 1)) q_nil)) q_nil))) (fun _ _ => rfl)))))
theorem sc__law_pot : FnScope ["_law_cell", "_law_number", "_law_j", "_law_more"] ["_law_cell"] (defScope s__law_pot) := ⟨rfl, rfl, rfl, by decide +kernel, rfl, by decide +kernel, by decide +kernel⟩
theorem c__law_pot_c (T : Txt K mg) : Cal P w K mg base 1 "_law_pot" ["_law_cell"] m__law_pot_c := by
  obtain ⟨f, fd, g, F⟩ := T.F__law_pot
  have S := sc__law_pot
  exact Cal.scoped (cal_of (N := ["_law_cell", "_law_number", "_law_j", "_law_more"]) F g S (F.binds fun _ _ _ _ _ _ us hl => match us, hl with | [_], _ => rfl) fun cdv A outer s H E hr hgd => (ss_cons (ss_if (pt_cmp op_ge j_ge (p_var (pv 0)) (p_bin op_pow j_pow p_int p_int) (nomark _)) (ss_one (ss_ret (p_cell (p_lst (q_cons (p_bin op_sub j_sub (p_var (pv 0)) (p_bin op_pow j_pow p_int p_int)) q_nil))))) ss_nil)
  (ss_cons (ss_set (i := 1) S.nd rfl (.inl rfl) p_int)
  (ss_cons (p_for PassesOwn.never rfl (i_rng1 rfl T.n_range (q_cons p_int q_nil)) (g_nm (pg_name (i := 2) S.nd rfl (by first | exact .inl rfl | exact .inr rfl)))
  (ss_cons (ss_set (i := 3) S.nd rfl (.inl rfl) (p_bin op_mod j_mod (p_bin op_mul j_mul (p_bin op_add4 j_add (p_bin op_add4 j_add (p_bin op_mod j_mod (p_var (pv 0)) p_int) (p_bin op_mul j_mul p_int (p_var (pv 2)))) p_int) p_int) p_int))
  (ss_cons (ss_set (i := 3) S.nd rfl (.inl rfl) (p_bin op_mod j_mod (p_bin op_add4 j_add (p_bin op_add4 j_add (p_bin op_mul j_mul (p_var (pv 3)) (p_var (pv 3))) (p_bin op_mul j_mul p_int (p_var (pv 2)))) p_int) p_int))
  (ss_one (ss_set (i := 1) S.nd rfl (.inl rfl) (p_bin op_add4 j_add (p_bin op_mul j_mul (p_var (pv 1)) p_int) (p_var (pv 3))))))))
  (ss_one (ss_ret (p_cell (p_lst (q_cons (p_var (pv 1)) q_nil)))))))))
theorem sc__law_word : FnScope ["_law_e", "_law_some", "_law_words"] ["_law_e"] (defScope s__law_word) := ⟨rfl, rfl, rfl, by decide +kernel, rfl, by decide +kernel, by decide +kernel⟩
abbrev wordE (a : Addr) (k : Nat) : G.Env := [some (.ad a), some (.d (.list [.bool (decide (k = 0)), .bool (decide (k = 1)), .bool (decide (k = 2)), .bool (decide (k = 3)), .bool (decide (k = 4)), .bool (decide (k = 5)), .bool (decide (k = 6)), .bool (decide (k = 7)), .bool (decide (k = 8)), .bool (decide (k = 9)), .bool (decide (k = 10)), .bool (decide (k = 11)), .bool (decide (k = 12)), .bool (decide (k = 13)), .bool (decide (k = 14)), .bool (decide (k = 15)), .bool (decide (k = 16)), .bool (decide (k = 17)), .bool (decide (k = 18)), .bool (decide (k = 19))])), none]
theorem word_one {a : Addr} {k : Nat} {w : Str} {env' : G.Env} (h1 : eLm opCount (eVar 1) (eC (.bool true)) (wordE a k) = rt (.d (.int 1))) (h2 : b__law_word_t (wordE a k) = rt (.rt (.d (.str w)), env')) : mkFn 3 (b__law_word a k) [.ad a] = rt (.d (.str w)) := by
  refine mkFn_rt (env' := env') (show b__law_word a k [some (.ad a), none, none] = _ from ?_)
  unfold b__law_word
  refine (seq_nx' (env' := [some (.ad a), some (.d (.list [.bool (decide (k = 0)), .bool (decide (k = 1)), .bool (decide (k = 2)), .bool (decide (k = 3))])), none]) (set_rt (p := .nm 1) (bl4 (isW_at ..) (isW_at ..) (isW_at ..) (isW_at ..)) rfl)).trans ?_
  refine (seq_nx' (env' := [some (.ad a), some (.d (.list [.bool (decide (k = 0)), .bool (decide (k = 1)), .bool (decide (k = 2)), .bool (decide (k = 3)), .bool (decide (k = 4)), .bool (decide (k = 5)), .bool (decide (k = 6)), .bool (decide (k = 7))])), none]) (set_rt (p := .nm 1) (addL (xs := [.bool (decide (k = 0)), .bool (decide (k = 1)), .bool (decide (k = 2)), .bool (decide (k = 3))]) rfl (bl4 (isW_at ..) (isW_at ..) (isW_at ..) (isW_at ..)) (by simp only [List.length_cons, List.length_nil]; omega)) rfl)).trans ?_
  refine (seq_nx' (env' := [some (.ad a), some (.d (.list [.bool (decide (k = 0)), .bool (decide (k = 1)), .bool (decide (k = 2)), .bool (decide (k = 3)), .bool (decide (k = 4)), .bool (decide (k = 5)), .bool (decide (k = 6)), .bool (decide (k = 7)), .bool (decide (k = 8)), .bool (decide (k = 9)), .bool (decide (k = 10)), .bool (decide (k = 11))])), none]) (set_rt (p := .nm 1) (addL (xs := [.bool (decide (k = 0)), .bool (decide (k = 1)), .bool (decide (k = 2)), .bool (decide (k = 3)), .bool (decide (k = 4)), .bool (decide (k = 5)), .bool (decide (k = 6)), .bool (decide (k = 7))]) rfl (bl4 (isW_at ..) (isW_at ..) (isW_at ..) (isW_at ..)) (by simp only [List.length_cons, List.length_nil]; omega)) rfl)).trans ?_
  refine (seq_nx' (env' := [some (.ad a), some (.d (.list [.bool (decide (k = 0)), .bool (decide (k = 1)), .bool (decide (k = 2)), .bool (decide (k = 3)), .bool (decide (k = 4)), .bool (decide (k = 5)), .bool (decide (k = 6)), .bool (decide (k = 7)), .bool (decide (k = 8)), .bool (decide (k = 9)), .bool (decide (k = 10)), .bool (decide (k = 11)), .bool (decide (k = 12)), .bool (decide (k = 13)), .bool (decide (k = 14)), .bool (decide (k = 15))])), none]) (set_rt (p := .nm 1) (addL (xs := [.bool (decide (k = 0)), .bool (decide (k = 1)), .bool (decide (k = 2)), .bool (decide (k = 3)), .bool (decide (k = 4)), .bool (decide (k = 5)), .bool (decide (k = 6)), .bool (decide (k = 7)), .bool (decide (k = 8)), .bool (decide (k = 9)), .bool (decide (k = 10)), .bool (decide (k = 11))]) rfl (bl4 (isW_at ..) (isW_at ..) (isW_at ..) (isW_at ..)) (by simp only [List.length_cons, List.length_nil]; omega)) rfl)).trans ?_
  refine (seq_nx' (env' := [some (.ad a), some (.d (.list [.bool (decide (k = 0)), .bool (decide (k = 1)), .bool (decide (k = 2)), .bool (decide (k = 3)), .bool (decide (k = 4)), .bool (decide (k = 5)), .bool (decide (k = 6)), .bool (decide (k = 7)), .bool (decide (k = 8)), .bool (decide (k = 9)), .bool (decide (k = 10)), .bool (decide (k = 11)), .bool (decide (k = 12)), .bool (decide (k = 13)), .bool (decide (k = 14)), .bool (decide (k = 15)), .bool (decide (k = 16)), .bool (decide (k = 17)), .bool (decide (k = 18)), .bool (decide (k = 19))])), none]) (set_rt (p := .nm 1) (addL (xs := [.bool (decide (k = 0)), .bool (decide (k = 1)), .bool (decide (k = 2)), .bool (decide (k = 3)), .bool (decide (k = 4)), .bool (decide (k = 5)), .bool (decide (k = 6)), .bool (decide (k = 7)), .bool (decide (k = 8)), .bool (decide (k = 9)), .bool (decide (k = 10)), .bool (decide (k = 11)), .bool (decide (k = 12)), .bool (decide (k = 13)), .bool (decide (k = 14)), .bool (decide (k = 15))]) rfl (bl4 (isW_at ..) (isW_at ..) (isW_at ..) (isW_at ..)) (by simp only [List.length_cons, List.length_nil]; omega)) rfl)).trans ?_
  refine (seq_nx' (if_nil (bOr_f (bO_rt (ne_is (j := 1) h1 rfl)) (bNot_rt (bO_rt (isW_at ..)))))).trans ?_
  exact h2
theorem word_all : ∀ (i : Nat) (w : Str), exWords[i]? = some w → ∀ a, mkFn 3 (b__law_word a i) [.ad a] = rt (.d (.str w))
  | 0, _, h, a => by cases h; exact word_one rfl rfl
  | 1, _, h, a => by cases h; exact word_one rfl rfl
  | 2, _, h, a => by cases h; exact word_one rfl rfl
  | 3, _, h, a => by cases h; exact word_one rfl rfl
  | 4, _, h, a => by cases h; exact word_one rfl rfl
  | 5, _, h, a => by cases h; exact word_one rfl rfl
  | 6, _, h, a => by cases h; exact word_one rfl rfl
  | 7, _, h, a => by cases h; exact word_one rfl rfl
  | 8, _, h, a => by cases h; exact word_one rfl rfl
  | 9, _, h, a => by cases h; exact word_one rfl rfl
  | 10, _, h, a => by cases h; exact word_one rfl rfl
  | 11, _, h, a => by cases h; exact word_one rfl rfl
  | 12, _, h, a => by cases h; exact word_one rfl rfl
  | 13, _, h, a => by cases h; exact word_one rfl rfl
  | 14, _, h, a => by cases h; exact word_one rfl rfl
  | 15, _, h, a => by cases h; exact word_one rfl rfl
  | 16, _, h, a => by cases h; exact word_one rfl rfl
  | 17, _, h, a => by cases h; exact word_one rfl rfl
  | 18, _, h, a => by cases h; exact word_one rfl rfl
  | 19, _, h, a => by cases h; exact word_one rfl rfl
  | n + 20, _, h, a => nomatch h
theorem w__law_word (T : Txt K mg) : WordOk P w K mg base 1 "_law_word" exWord := by
  obtain ⟨f, fd, g, F⟩ := T.F__law_word
  have S := sc__law_word
  refine word_of (N := ["_law_e", "_law_some", "_law_words"]) (g := fun a c => b__law_word a ((exNames.findIdx? (· == c)).getD 99)) F g S (F.binds fun _ _ _ _ _ _ us hl => match us, hl with | [_], _ => rfl) (fun c m hw a => ?_) fun c C m cdv A outer s H E p hwd hc hz hf hr hgd => ?_
  · obtain ⟨i, w, h1, h2, h3, rfl⟩ := exW_idx hw
    simp only [h1]
    exact word_all i w h3 a
  · obtain ⟨k, w, h1, h2, h3, rfl⟩ := exW_idx hwd
    obtain ⟨C', e1, k1, k2, k3, k4⟩ := T.cls.ok k c h2
    have e := hc.symm.trans e1
    cases e
    simp only [h1]
    exact (ss_cons (ss_set (i := 1) S.nd rfl (.inl rfl) (p_val (p_lst (q_cons (let ⟨D, hD, hk⟩ := k4 0 "NoSea" rfl; p_isW (i := 0) (c := .ref D) (cv := .ref D) k2 hz hf (List.mem_singleton.mpr rfl : (p.1, p.2) ∈ [p]) rfl T.n_isinstance (pv 0) (pe_glob (v := .ref D) rfl hD rfl) (fun _ h => h) hk) (q_cons (let ⟨D, hD, hk⟩ := k4 1 "NoChannel" rfl; p_isW (i := 0) (c := .ref D) (cv := .ref D) k2 hz hf (List.mem_singleton.mpr rfl : (p.1, p.2) ∈ [p]) rfl T.n_isinstance (pv 0) (pe_glob (v := .ref D) rfl hD rfl) (fun _ h => h) hk) (q_cons (let ⟨D, hD, hk⟩ := k4 2 "NoMinute" rfl; p_isW (i := 0) (c := .ref D) (cv := .ref D) k2 hz hf (List.mem_singleton.mpr rfl : (p.1, p.2) ∈ [p]) rfl T.n_isinstance (pv 0) (pe_glob (v := .ref D) rfl hD rfl) (fun _ h => h) hk) (q_cons (let ⟨D, hD, hk⟩ := k4 3 "NoDraught" rfl; p_isW (i := 0) (c := .ref D) (cv := .ref D) k2 hz hf (List.mem_singleton.mpr rfl : (p.1, p.2) ∈ [p]) rfl T.n_isinstance (pv 0) (pe_glob (v := .ref D) rfl hD rfl) (fun _ h => h) hk) q_nil)))))))
  (ss_cons (ss_set (i := 1) S.nd rfl (.inl rfl) (p_bin op_add4 j_add (p_var (pv 1)) (p_val (p_lst (q_cons (let ⟨D, hD, hk⟩ := k4 4 "NoCrew" rfl; p_isW (i := 0) (c := .ref D) (cv := .ref D) k2 hz hf (List.mem_singleton.mpr rfl : (p.1, p.2) ∈ [p]) rfl T.n_isinstance (pv 0) (pe_glob (v := .ref D) rfl hD rfl) (fun _ h => h) hk) (q_cons (let ⟨D, hD, hk⟩ := k4 5 "NoShips" rfl; p_isW (i := 0) (c := .ref D) (cv := .ref D) k2 hz hf (List.mem_singleton.mpr rfl : (p.1, p.2) ∈ [p]) rfl T.n_isinstance (pv 0) (pe_glob (v := .ref D) rfl hD rfl) (fun _ h => h) hk) (q_cons (let ⟨D, hD, hk⟩ := k4 6 "NoShip" rfl; p_isW (i := 0) (c := .ref D) (cv := .ref D) k2 hz hf (List.mem_singleton.mpr rfl : (p.1, p.2) ∈ [p]) rfl T.n_isinstance (pv 0) (pe_glob (v := .ref D) rfl hD rfl) (fun _ h => h) hk) (q_cons (let ⟨D, hD, hk⟩ := k4 7 "NoTurns" rfl; p_isW (i := 0) (c := .ref D) (cv := .ref D) k2 hz hf (List.mem_singleton.mpr rfl : (p.1, p.2) ∈ [p]) rfl T.n_isinstance (pv 0) (pe_glob (v := .ref D) rfl hD rfl) (fun _ h => h) hk) q_nil))))))))
  (ss_cons (ss_set (i := 1) S.nd rfl (.inl rfl) (p_bin op_add4 j_add (p_var (pv 1)) (p_val (p_lst (q_cons (let ⟨D, hD, hk⟩ := k4 8 "NoGuide" rfl; p_isW (i := 0) (c := .ref D) (cv := .ref D) k2 hz hf (List.mem_singleton.mpr rfl : (p.1, p.2) ∈ [p]) rfl T.n_isinstance (pv 0) (pe_glob (v := .ref D) rfl hD rfl) (fun _ h => h) hk) (q_cons (let ⟨D, hD, hk⟩ := k4 9 "NoLog" rfl; p_isW (i := 0) (c := .ref D) (cv := .ref D) k2 hz hf (List.mem_singleton.mpr rfl : (p.1, p.2) ∈ [p]) rfl T.n_isinstance (pv 0) (pe_glob (v := .ref D) rfl hD rfl) (fun _ h => h) hk) (q_cons (let ⟨D, hD, hk⟩ := k4 10 "NoHails" rfl; p_isW (i := 0) (c := .ref D) (cv := .ref D) k2 hz hf (List.mem_singleton.mpr rfl : (p.1, p.2) ∈ [p]) rfl T.n_isinstance (pv 0) (pe_glob (v := .ref D) rfl hD rfl) (fun _ h => h) hk) (q_cons (let ⟨D, hD, hk⟩ := k4 11 "NoPace" rfl; p_isW (i := 0) (c := .ref D) (cv := .ref D) k2 hz hf (List.mem_singleton.mpr rfl : (p.1, p.2) ∈ [p]) rfl T.n_isinstance (pv 0) (pe_glob (v := .ref D) rfl hD rfl) (fun _ h => h) hk) q_nil))))))))
  (ss_cons (ss_set (i := 1) S.nd rfl (.inl rfl) (p_bin op_add4 j_add (p_var (pv 1)) (p_val (p_lst (q_cons (let ⟨D, hD, hk⟩ := k4 12 "NoJobs" rfl; p_isW (i := 0) (c := .ref D) (cv := .ref D) k2 hz hf (List.mem_singleton.mpr rfl : (p.1, p.2) ∈ [p]) rfl T.n_isinstance (pv 0) (pe_glob (v := .ref D) rfl hD rfl) (fun _ h => h) hk) (q_cons (let ⟨D, hD, hk⟩ := k4 13 "NoRest" rfl; p_isW (i := 0) (c := .ref D) (cv := .ref D) k2 hz hf (List.mem_singleton.mpr rfl : (p.1, p.2) ∈ [p]) rfl T.n_isinstance (pv 0) (pe_glob (v := .ref D) rfl hD rfl) (fun _ h => h) hk) (q_cons (let ⟨D, hD, hk⟩ := k4 14 "NoWater" rfl; p_isW (i := 0) (c := .ref D) (cv := .ref D) k2 hz hf (List.mem_singleton.mpr rfl : (p.1, p.2) ∈ [p]) rfl T.n_isinstance (pv 0) (pe_glob (v := .ref D) rfl hD rfl) (fun _ h => h) hk) (q_cons (let ⟨D, hD, hk⟩ := k4 15 "NoText" rfl; p_isW (i := 0) (c := .ref D) (cv := .ref D) k2 hz hf (List.mem_singleton.mpr rfl : (p.1, p.2) ∈ [p]) rfl T.n_isinstance (pv 0) (pe_glob (v := .ref D) rfl hD rfl) (fun _ h => h) hk) q_nil))))))))
  (ss_cons (ss_set (i := 1) S.nd rfl (.inl rfl) (p_bin op_add4 j_add (p_var (pv 1)) (p_val (p_lst (q_cons (let ⟨D, hD, hk⟩ := k4 16 "NoName" rfl; p_isW (i := 0) (c := .ref D) (cv := .ref D) k2 hz hf (List.mem_singleton.mpr rfl : (p.1, p.2) ∈ [p]) rfl T.n_isinstance (pv 0) (pe_glob (v := .ref D) rfl hD rfl) (fun _ h => h) hk) (q_cons (let ⟨D, hD, hk⟩ := k4 17 "TooMany" rfl; p_isW (i := 0) (c := .ref D) (cv := .ref D) k2 hz hf (List.mem_singleton.mpr rfl : (p.1, p.2) ∈ [p]) rfl T.n_isinstance (pv 0) (pe_glob (v := .ref D) rfl hD rfl) (fun _ h => h) hk) (q_cons (let ⟨D, hD, hk⟩ := k4 18 "NoDeed" rfl; p_isW (i := 0) (c := .ref D) (cv := .ref D) k2 hz hf (List.mem_singleton.mpr rfl : (p.1, p.2) ∈ [p]) rfl T.n_isinstance (pv 0) (pe_glob (v := .ref D) rfl hD rfl) (fun _ h => h) hk) (q_cons (let ⟨D, hD, hk⟩ := k4 19 "NoRow" rfl; p_isW (i := 0) (c := .ref D) (cv := .ref D) k2 hz hf (List.mem_singleton.mpr rfl : (p.1, p.2) ∈ [p]) rfl T.n_isinstance (pv 0) (pe_glob (v := .ref D) rfl hD rfl) (fun _ h => h) hk) q_nil))))))))
  (ss_cons (ss_if (PW.pt (pw_Or (pt_cmp (op_neM hr.units) j_ne (p_lcount hr.u65 (p_var (pv 1)) p_bl) p_int (nomark _)) (pw_or1 (pt_Not (pt_bo (p_isW (i := 0) (c := .ty "ValueError") (cv := .type "ValueError") k2 hz hf (List.mem_singleton.mpr rfl : (p.1, p.2) ∈ [p]) rfl T.n_isinstance (pv 0) (pe_bltn (v := .ty "ValueError") rfl T.n_ValueError PyProof.Rows.Boot.«ValueError» rfl) (fun _ h => h) k3)))))) (ss_one (ss_ret p_str)) ss_nil)
  (ss_cons (ss_set (i := 2) S.nd rfl (.inl rfl) (p_val (p_lst (q_cons p_str (q_cons p_str (q_cons p_str (q_cons p_str (q_cons p_str (q_cons p_str (q_cons p_str (q_cons p_str (q_cons p_str (q_cons p_str (q_cons p_str (q_cons p_str q_nil)))))))))))))))
  (ss_one (ss_ret (p_ix ix_seq j_ix (p_bin op_add4 j_add (p_var (pv 2)) (p_val (p_lst (q_cons p_str (q_cons p_str (q_cons p_str (q_cons p_str (q_cons p_str (q_cons p_str (q_cons p_str (q_cons p_str q_nil))))))))))) (p_lindex hr.u65 (p_var (pv 1)) p_bl) (fun _ _ => rfl)))))))))))
theorem sc_is_whole : FnScope ["thing"] ["thing"] (defScope s_is_whole) := ⟨rfl, rfl, rfl, by decide +kernel, rfl, by decide +kernel, by decide +kernel⟩
theorem c_is_whole (T : Txt K mg) : Cal P w K mg base 1 "is_whole" ["thing"] m_is_whole := by
  obtain ⟨f, fd, g, F⟩ := T.F_is_whole
  have S := sc_is_whole
  exact cal_of (N := ["thing"]) F g S (F.binds fun _ _ _ _ _ _ us hl => match us, hl with | [_], _ => rfl) fun cdv A outer s H E hr hgd => (ss_one (ss_ret (p_And (p_isi (T := "int") kit_int rfl T.n_isinstance rfl T.n_int PyProof.Rows.boot_int (p_var (pv 0))) (pe_one (p_Not (p_isi (T := "bool") kit_bool rfl T.n_isinstance rfl T.n_bool PyProof.Rows.boot_bool (p_var (pv 0))))))))
theorem sc_is_within : FnScope ["thing", "low", "high"] ["thing", "low", "high"] (defScope s_is_within) := ⟨rfl, rfl, rfl, by decide +kernel, rfl, by decide +kernel, by decide +kernel⟩
theorem c_is_within (T : Txt K mg) : Cal P w K mg base 2 "is_within" ["thing", "low", "high"] m_is_within := by
  obtain ⟨f, fd, g, F⟩ := T.F_is_within
  have S := sc_is_within
  exact cal_of (N := ["thing", "low", "high"]) F g S (F.binds fun _ _ _ _ _ _ us hl => match us, hl with | [_, _, _], _ => rfl) fun cdv A outer s H E hr hgd => (ss_one (ss_ret (p_And (p_call (c_is_whole T) hr hgd (by decide) rfl (q_cons (p_var (pv 0)) q_nil)) (pe_one (p_chain op_le j_le op_le j_le (p_var (pv 1)) (p_var (pv 0)) (p_var (pv 2)))))))
theorem sc_is_job : FnScope ["thing", "one"] ["thing"] (defScope s_is_job) := ⟨rfl, rfl, rfl, by decide +kernel, rfl, by decide +kernel, by decide +kernel⟩
theorem c_is_job (T : Txt K mg) : Cal P w K mg base 3 "is_job" ["thing"] m_is_job := by
  obtain ⟨f, fd, g, F⟩ := T.F_is_job
  have S := sc_is_job
  exact cal_of (N := ["thing", "one"]) F g S (F.binds fun _ _ _ _ _ _ us hl => match us, hl with | [_], _ => rfl) fun cdv A outer s H E hr hgd => (ss_cons (ss_if (PW.pt (pw_Or (pt_Not (pt_bo (p_isi (T := "tuple") kit_tuple rfl T.n_isinstance rfl T.n_tuple PyProof.Rows.boot_tuple (p_var (pv 0))))) (pw_Or (pt_cmp (op_neM hr.units) j_ne (p_B call_len jc_len rfl T.n_len PySem.boot_len (q_cons (p_var (pv 0)) q_nil)) p_int (nomark _)) (pw_or1 (pt_Not (pt_bo (p_B (cr_all rfl) jc_all rfl T.n_all PyProof.Rows.boot_all (q_cons (p_val (p_lc (own := [("one", 1)]) rfl S.nd (i_seq (p_var (pv 0))) (blkOk_by (by kernel_rfl)) (fun _ _ _ _ _ => (g_nm (pg_name (i := 1) S.nd rfl (by first | exact .inl rfl | exact .inr rfl)))) (fun _ _ _ _ _ => ts_nil) (fun _ _ _ _ _ => (p_call (c_is_within T) hr hgd (by decide) rfl (q_cons (p_var (pv 1)) (q_cons p_int (q_cons (let ⟨_, h⟩ := T.k_MOST_END; p_gint rfl h) q_nil))))))) q_nil)))))))) (ss_one (ss_ret p_bl)) ss_nil)
  (ss_one (ss_ret (p_cmp op_lt j_lt (p_ix ix_seq j_ix (p_var (pv 0)) p_int (fun _ _ => rfl)) (p_ix ix_seq j_ix (p_var (pv 0)) p_int (fun _ _ => rfl)) (nomark _)))))
theorem sc_check_jobs : FnScope ["jobs", "rest", "one"] ["jobs", "rest"] (defScope s_check_jobs) := ⟨rfl, rfl, rfl, by decide +kernel, rfl, by decide +kernel, by decide +kernel⟩
theorem c_check_jobs (T : Txt K mg) : CalX P w K mg base 4 "check_jobs" ["jobs", "rest"] m_check_jobs := by
  obtain ⟨f, fd, g, F⟩ := T.F_check_jobs
  have S := sc_check_jobs
  exact calX_of (N := ["jobs", "rest", "one"]) F g S (F.binds fun _ _ _ _ _ _ us hl => match us, hl with | [_, _], _ => rfl) fun E cdv A outer s H Ex hr hgd tk po => (ss_cons (ss_if (PW.pt (pw_Or (pt_Not (pt_bo (p_isi (T := "list") kit_list rfl T.n_isinstance rfl T.n_list PyProof.Rows.boot_list (p_var (pv 0))))) (pw_Or (pt_cmp op_gt j_gt (p_B call_len jc_len rfl T.n_len PySem.boot_len (q_cons (p_var (pv 0)) q_nil)) (let ⟨_, h⟩ := T.k_MOST_JOBS; p_gint rfl h) (nomark _)) (pw_or1 (pt_Not (pt_bo (p_B (cr_all rfl) jc_all rfl T.n_all PyProof.Rows.boot_all (q_cons (p_val (p_lc (own := [("one", 2)]) rfl S.nd (i_seq (p_var (pv 0))) (blkOk_by (by kernel_rfl)) (fun _ _ _ _ _ => (g_nm (pg_name (i := 2) S.nd rfl (by first | exact .inl rfl | exact .inr rfl)))) (fun _ _ _ _ _ => ts_nil) (fun _ _ _ _ _ => (p_call (c_is_job T) hr hgd (by decide) rfl (q_cons (p_var (pv 2)) q_nil))))) q_nil)))))))) (ss_one (let ⟨_, h1, h2, _⟩ := T.cls.ok 12 "NoJobs" rfl; s_raise (c := "NoJobs") rfl tk h2 h1 rfl p_str)) ss_nil)
  (ss_one (ss_if (pt_Not (pt_bo (p_call (c_is_within T) hr hgd (by decide) rfl (q_cons (p_var (pv 1)) (q_cons p_int (q_cons (let ⟨_, h⟩ := T.k_MOST_REST; p_gint rfl h) q_nil)))))) (ss_one (let ⟨_, h1, h2, _⟩ := T.cls.ok 13 "NoRest" rfl; s_raise (c := "NoRest") rfl tk h2 h1 rfl p_str)) ss_nil)))
theorem sc_meet : FnScope ["one", "other", "rest"] ["one", "other", "rest"] (defScope s_meet) := ⟨rfl, rfl, rfl, by decide +kernel, rfl, by decide +kernel, by decide +kernel⟩
theorem c_meet (T : Txt K mg) : Cal P w K mg base 1 "meet" ["one", "other", "rest"] m_meet := by
  obtain ⟨f, fd, g, F⟩ := T.F_meet
  have S := sc_meet
  exact cal_of (N := ["one", "other", "rest"]) F g S (F.binds fun _ _ _ _ _ _ us hl => match us, hl with | [_, _, _], _ => rfl) fun cdv A outer s H E hr hgd => (ss_one (ss_ret (p_And (p_cmp op_lt j_lt (p_ix ix_seq j_ix (p_var (pv 0)) p_int (fun _ _ => rfl)) (p_bin op_add4 j_add (p_ix ix_seq j_ix (p_var (pv 1)) p_int (fun _ _ => rfl)) (p_var (pv 2))) (nomark _)) (pe_one (p_cmp op_lt j_lt (p_ix ix_seq j_ix (p_var (pv 1)) p_int (fun _ _ => rfl)) (p_bin op_add4 j_add (p_ix ix_seq j_ix (p_var (pv 0)) p_int (fun _ _ => rfl)) (p_var (pv 2))) (nomark _))))))
theorem sc_greedy : FnScope ["jobs", "rest", "found", "begin", "number", "taken", "job", "other", "one"] ["jobs", "rest"] (defScope s_greedy) := ⟨rfl, rfl, rfl, by decide +kernel, rfl, by decide +kernel, by decide +kernel⟩
theorem c_greedy (T : Txt K mg) : Cal P w K mg base 2 "greedy" ["jobs", "rest"] m_greedy := by
  obtain ⟨f, fd, g, F⟩ := T.F_greedy
  have S := sc_greedy
  exact Cal.scoped (cal_of (N := ["jobs", "rest", "found", "begin", "number", "taken", "job", "other", "one"]) F g S (F.binds fun _ _ _ _ _ _ us hl => match us, hl with | [_, _], _ => rfl) fun cdv A outer s H E hr hgd => (ss_cons (ss_set (i := 2) S.nd rfl (.inr rfl) (p_cell (p_lc (own := [("job", 6)]) rfl S.nd (i_seq (p_var (pv 0))) (blkOk_by (by kernel_rfl)) (fun _ _ _ _ _ => (g_nm (pg_name (i := 6) S.nd rfl (by first | exact .inl rfl | exact .inr rfl)))) (fun _ _ _ _ _ => ts_nil) (fun _ _ _ _ _ => p_non))))
  (ss_cons (p_for PassesOwn.never rfl (i_seq (p_val (p_sorted rfl T.n_sorted (q_cons (p_val (p_lc (own := [("number", 4), ("job", 6)]) rfl S.nd (i_enum rfl T.n_enumerate (p_var (pv 0))) (blkOk_by (by kernel_rfl)) (fun _ _ _ _ _ => (g_tu rfl (gs_cons (g_nm (pg_name (i := 4) S.nd rfl (by first | exact .inl rfl | exact .inr rfl))) (gs_cons (g_nm (pg_name (i := 6) S.nd rfl (by first | exact .inl rfl | exact .inr rfl))) gs_nil)))) (fun _ _ _ _ _ => ts_nil) (fun _ _ _ _ _ => (p_tup (q_cons (p_ix ix_seq j_ix (p_var (pv 6)) p_int (fun _ _ => rfl)) (q_cons (p_var (pv 4)) q_nil)))))) q_nil)))) (g_tu rfl (gs_cons (g_nm (pg_name (i := 3) S.nd rfl (by first | exact .inl rfl | exact .inr rfl))) (gs_cons (g_nm (pg_name (i := 4) S.nd rfl (by first | exact .inl rfl | exact .inr rfl))) gs_nil)))
  (ss_cons (ss_set (i := 5) S.nd rfl (.inr rfl) (p_val (p_lc (own := [("other", 7), ("job", 6)]) rfl S.nd (i_enum rfl T.n_enumerate (p_var (pv 0))) (blkOk_by (by kernel_rfl)) (fun _ _ _ _ _ => (g_tu rfl (gs_cons (g_nm (pg_name (i := 7) S.nd rfl (by first | exact .inl rfl | exact .inr rfl))) (gs_cons (g_nm (pg_name (i := 6) S.nd rfl (by first | exact .inl rfl | exact .inr rfl))) gs_nil)))) (fun _ _ _ _ _ => (pts_one (PW.pt (pw_And (pt_cmp op_notN j_notN (p_ix ix_seq j_ix (p_var (pv 2)) (p_var (pv 7)) (fun _ _ => rfl)) p_non (nomark _)) (pw_and1 (pt_bo (p_call (c_meet T) hr hgd (by decide) rfl (q_cons (p_var (pv 6)) (q_cons (p_ix ix_seq j_ix (p_var (pv 0)) (p_var (pv 4)) (fun _ _ => rfl)) (q_cons (p_var (pv 1)) q_nil)))))))))) (fun _ _ _ _ _ => (p_ix ix_seq j_ix (p_var (pv 2)) (p_var (pv 7)) (fun _ _ => rfl))))))
  (ss_one (ss_setIx (p_B (cr_min rfl) jc_min rfl T.n_min PyProof.Rows.boot_min (q_cons (p_val (p_lc (own := [("one", 8)]) rfl S.nd (i_rng1 rfl T.n_range (q_cons (p_B call_len jc_len rfl T.n_len PySem.boot_len (q_cons (p_var (pv 0)) q_nil)) q_nil)) (blkOk_by (by kernel_rfl)) (fun _ _ _ _ _ => (g_nm (pg_name (i := 8) S.nd rfl (by first | exact .inl rfl | exact .inr rfl)))) (fun _ _ _ _ _ => (pts_one (pt_cmp (op_notInM hr.units) j_notIn (p_var (pv 8)) (p_var (pv 5)) (by with_unfolding_all rfl)))) (fun _ _ _ _ _ => (p_var (pv 8))))) q_nil)) (p_var (pv 2)) (p_var (pv 4))))))
  (ss_one (ss_ret (p_frz (p_var (pv 2))))))))
theorem sc_under_way : FnScope ["jobs", "rest", "minute", "number", "job"] ["jobs", "rest", "minute"] (defScope s_under_way) := ⟨rfl, rfl, rfl, by decide +kernel, rfl, by decide +kernel, by decide +kernel⟩
theorem c_under_way (T : Txt K mg) : Cal P w K mg base 1 "under_way" ["jobs", "rest", "minute"] m_under_way := by
  obtain ⟨f, fd, g, F⟩ := T.F_under_way
  have S := sc_under_way
  exact cal_of (N := ["jobs", "rest", "minute", "number", "job"]) F g S (F.binds fun _ _ _ _ _ _ us hl => match us, hl with | [_, _, _], _ => rfl) fun cdv A outer s H E hr hgd => (ss_one (ss_ret (p_val (p_lc (own := [("number", 3), ("job", 4)]) rfl S.nd (i_enum rfl T.n_enumerate (p_var (pv 0))) (blkOk_by (by kernel_rfl)) (fun _ _ _ _ _ => (g_tu rfl (gs_cons (g_nm (pg_name (i := 3) S.nd rfl (by first | exact .inl rfl | exact .inr rfl))) (gs_cons (g_nm (pg_name (i := 4) S.nd rfl (by first | exact .inl rfl | exact .inr rfl))) gs_nil)))) (fun _ _ _ _ _ => (pts_one (pt_chainB op_le j_le op_lt j_lt (p_ix ix_seq j_ix (p_var (pv 4)) p_int (fun _ _ => rfl)) (p_var (pv 2)) (p_bin op_add4 j_add (p_ix ix_seq j_ix (p_var (pv 4)) p_int (fun _ _ => rfl)) (p_var (pv 1)))))) (fun _ _ _ _ _ => (p_var (pv 3)))))))
theorem sc_fewest : FnScope ["jobs", "rest", "many", "minute", "job"] ["jobs", "rest"] (defScope s_fewest) := ⟨rfl, rfl, rfl, by decide +kernel, rfl, by decide +kernel, by decide +kernel⟩
theorem c_fewest (T : Txt K mg) : CalX P w K mg base 5 "fewest" ["jobs", "rest"] m_fewest := by
  obtain ⟨f, fd, g, F⟩ := T.F_fewest
  have S := sc_fewest
  exact calX_of (N := ["jobs", "rest", "many", "minute", "job"]) F g S (F.binds fun _ _ _ _ _ _ us hl => match us, hl with | [_, _], _ => rfl) fun E cdv A outer s H Ex hr hgd tk po => (ss_cons (ss_exp (p_callX (c_check_jobs T) tk hr hgd (by decide) rfl (q_cons (p_var (pv 0)) (q_cons (p_var (pv 1)) q_nil))))
  (ss_cons (ss_if (pt_cmp (op_eqM hr.units) j_eq (p_B call_len jc_len rfl T.n_len PySem.boot_len (q_cons (p_var (pv 0)) q_nil)) p_int (nomark _)) (ss_one (ss_ret (p_tup (q_cons p_int (q_cons (p_val (p_lst q_nil)) (q_cons p_non q_nil)))))) ss_nil)
  (ss_cons (ss_set (i := 2) S.nd rfl (.inr rfl) (p_B (cr_max rfl) jc_max rfl T.n_max PyProof.Rows.boot_max (q_cons (p_val (p_lc (own := [("job", 4)]) rfl S.nd (i_seq (p_var (pv 0))) (blkOk_by (by kernel_rfl)) (fun _ _ _ _ _ => (g_nm (pg_name (i := 4) S.nd rfl (by first | exact .inl rfl | exact .inr rfl)))) (fun _ _ _ _ _ => ts_nil) (fun _ _ _ _ _ => (p_B call_len jc_len rfl T.n_len PySem.boot_len (q_cons (p_call (c_under_way T) hr hgd (by decide) rfl (q_cons (p_var (pv 0)) (q_cons (p_var (pv 1)) (q_cons (p_ix ix_seq j_ix (p_var (pv 4)) p_int (fun _ _ => rfl)) q_nil)))) q_nil))))) q_nil)))
  (ss_cons (ss_set (i := 3) S.nd rfl (.inl rfl) (p_B (cr_min rfl) jc_min rfl T.n_min PyProof.Rows.boot_min (q_cons (p_val (p_lc (own := [("job", 4)]) rfl S.nd (i_seq (p_var (pv 0))) (blkOk_by (by kernel_rfl)) (fun _ _ _ _ _ => (g_nm (pg_name (i := 4) S.nd rfl (by first | exact .inl rfl | exact .inr rfl)))) (fun _ _ _ _ _ => (pts_one (pt_cmp (op_eqM hr.units) j_eq (p_B call_len jc_len rfl T.n_len PySem.boot_len (q_cons (p_call (c_under_way T) hr hgd (by decide) rfl (q_cons (p_var (pv 0)) (q_cons (p_var (pv 1)) (q_cons (p_ix ix_seq j_ix (p_var (pv 4)) p_int (fun _ _ => rfl)) q_nil)))) q_nil)) (p_var (pv 2)) (nomark _)))) (fun _ _ _ _ _ => (p_ix ix_seq j_ix (p_var (pv 4)) p_int (fun _ _ => rfl))))) q_nil)))
  (ss_one (ss_ret (p_tup (q_cons (p_var (pv 2)) (q_cons (p_call (c_greedy T) hr hgd (by decide) rfl (q_cons (p_var (pv 0)) (q_cons (p_var (pv 1)) q_nil))) (q_cons (p_tup (q_cons (p_var (pv 3)) (q_cons (p_Ty call_tuple_of jc_tup rfl T.n_tuple PyProof.Rows.boot_tuple (q_cons (p_call (c_under_way T) hr hgd (by decide) rfl (q_cons (p_var (pv 0)) (q_cons (p_var (pv 1)) (q_cons (p_var (pv 3)) q_nil)))) q_nil)) q_nil))) q_nil))))))))))
theorem sc_is_rising : FnScope ["thing", "one", "other"] ["thing"] (defScope s_is_rising) := ⟨rfl, rfl, rfl, by decide +kernel, rfl, by decide +kernel, by decide +kernel⟩
theorem c_is_rising (T : Txt K mg) : Cal P w K mg base 1 "is_rising" ["thing"] m_is_rising := by
  obtain ⟨f, fd, g, F⟩ := T.F_is_rising
  have S := sc_is_rising
  exact cal_of (N := ["thing", "one", "other"]) F g S (F.binds fun _ _ _ _ _ _ us hl => match us, hl with | [_], _ => rfl) fun cdv A outer s H E hr hgd => (ss_one (ss_ret (p_B (cr_all rfl) jc_all rfl T.n_all PyProof.Rows.boot_all (q_cons (p_val (p_lc (own := [("one", 1), ("other", 2)]) rfl S.nd (i_zip rfl T.n_zip (p_var (pv 0)) (p_slice (p_var (pv 0)) (o_some p_int) o_none)) (blkOk_by (by kernel_rfl)) (fun _ _ _ _ _ => (g_tu rfl (gs_cons (g_nm (pg_name (i := 1) S.nd rfl (by first | exact .inl rfl | exact .inr rfl))) (gs_cons (g_nm (pg_name (i := 2) S.nd rfl (by first | exact .inl rfl | exact .inr rfl))) gs_nil)))) (fun _ _ _ _ _ => ts_nil) (fun _ _ _ _ _ => (p_cmp op_lt j_lt (p_var (pv 1)) (p_var (pv 2)) (nomark _))))) q_nil))))
theorem sc_are_numbers : FnScope ["thing", "one"] ["thing"] (defScope s_are_numbers) := ⟨rfl, rfl, rfl, by decide +kernel, rfl, by decide +kernel, by decide +kernel⟩
theorem c_are_numbers (T : Txt K mg) : Cal P w K mg base 2 "are_numbers" ["thing"] m_are_numbers := by
  obtain ⟨f, fd, g, F⟩ := T.F_are_numbers
  have S := sc_are_numbers
  exact cal_of (N := ["thing", "one"]) F g S (F.binds fun _ _ _ _ _ _ us hl => match us, hl with | [_], _ => rfl) fun cdv A outer s H E hr hgd => (ss_one (ss_ret (p_And (p_isi (T := "tuple") kit_tuple rfl T.n_isinstance rfl T.n_tuple PyProof.Rows.boot_tuple (p_var (pv 0))) (p_And (p_B (cr_all rfl) jc_all rfl T.n_all PyProof.Rows.boot_all (q_cons (p_val (p_lc (own := [("one", 1)]) rfl S.nd (i_seq (p_var (pv 0))) (blkOk_by (by kernel_rfl)) (fun _ _ _ _ _ => (g_nm (pg_name (i := 1) S.nd rfl (by first | exact .inl rfl | exact .inr rfl)))) (fun _ _ _ _ _ => ts_nil) (fun _ _ _ _ _ => (p_call (c_is_whole T) hr hgd (by decide) rfl (q_cons (p_var (pv 1)) q_nil))))) q_nil)) (pe_one (p_call (c_is_rising T) hr hgd (by decide) rfl (q_cons (p_var (pv 0)) q_nil)))))))
theorem sc_is_crush : FnScope ["jobs", "rest", "thing", "number"] ["jobs", "rest", "thing"] (defScope s_is_crush) := ⟨rfl, rfl, rfl, by decide +kernel, rfl, by decide +kernel, by decide +kernel⟩
theorem c_is_crush (T : Txt K mg) : CalX P w K mg base 5 "is_crush" ["jobs", "rest", "thing"] m_is_crush := by
  obtain ⟨f, fd, g, F⟩ := T.F_is_crush
  have S := sc_is_crush
  exact calX_of (N := ["jobs", "rest", "thing", "number"]) F g S (F.binds fun _ _ _ _ _ _ us hl => match us, hl with | [_, _, _], _ => rfl) fun E cdv A outer s H Ex hr hgd tk po => (ss_cons (ss_exp (p_callX (c_check_jobs T) tk hr hgd (by decide) rfl (q_cons (p_var (pv 0)) (q_cons (p_var (pv 1)) q_nil))))
  (ss_cons (ss_if (PW.pt (pw_Or (pt_Not (pt_bo (p_isi (T := "tuple") kit_tuple rfl T.n_isinstance rfl T.n_tuple PyProof.Rows.boot_tuple (p_var (pv 2))))) (pw_Or (pt_cmp (op_neM hr.units) j_ne (p_B call_len jc_len rfl T.n_len PySem.boot_len (q_cons (p_var (pv 2)) q_nil)) p_int (nomark _)) (pw_Or (pt_Not (pt_bo (p_call (c_is_whole T) hr hgd (by decide) rfl (q_cons (p_ix ix_seq j_ix (p_var (pv 2)) p_int (fun _ _ => rfl)) q_nil)))) (pw_or1 (pt_Not (pt_bo (p_call (c_are_numbers T) hr hgd (by decide) rfl (q_cons (p_ix ix_seq j_ix (p_var (pv 2)) p_int (fun _ _ => rfl)) q_nil))))))))) (ss_one (ss_ret p_bl)) ss_nil)
  (ss_one (ss_ret (p_And (p_cmp op_gt j_gt (p_B call_len jc_len rfl T.n_len PySem.boot_len (q_cons (p_ix ix_seq j_ix (p_var (pv 2)) p_int (fun _ _ => rfl)) q_nil)) p_int (nomark _)) (pe_one (p_B (cr_all rfl) jc_all rfl T.n_all PyProof.Rows.boot_all (q_cons (p_val (p_lc (own := [("number", 3)]) rfl S.nd (i_seq (p_ix ix_seq j_ix (p_var (pv 2)) p_int (fun _ _ => rfl))) (blkOk_by (by kernel_rfl)) (fun _ _ _ _ _ => (g_nm (pg_name (i := 3) S.nd rfl (by first | exact .inl rfl | exact .inr rfl)))) (fun _ _ _ _ _ => ts_nil) (fun _ _ _ _ _ => (p_cmp (op_inM hr.units) j_in (p_var (pv 3)) (p_call (c_under_way T) hr hgd (by decide) rfl (q_cons (p_var (pv 0)) (q_cons (p_var (pv 1)) (q_cons (p_ix ix_seq j_ix (p_var (pv 2)) p_int (fun _ _ => rfl)) q_nil)))) (by with_unfolding_all rfl))))) q_nil))))))))
theorem sc_is_sharing : FnScope ["jobs", "rest", "thing", "at", "one", "k"] ["jobs", "rest", "thing"] (defScope s_is_sharing) := ⟨rfl, rfl, rfl, by decide +kernel, rfl, by decide +kernel, by decide +kernel⟩
theorem c_is_sharing (T : Txt K mg) : CalX P w K mg base 5 "is_sharing" ["jobs", "rest", "thing"] m_is_sharing := by
  obtain ⟨f, fd, g, F⟩ := T.F_is_sharing
  have S := sc_is_sharing
  exact calX_of (N := ["jobs", "rest", "thing", "at", "one", "k"]) F g S (F.binds fun _ _ _ _ _ _ us hl => match us, hl with | [_, _, _], _ => rfl) fun E cdv A outer s H Ex hr hgd tk po => (ss_cons (ss_exp (p_callX (c_check_jobs T) tk hr hgd (by decide) rfl (q_cons (p_var (pv 0)) (q_cons (p_var (pv 1)) q_nil))))
  (ss_cons (ss_if (PW.pt (pw_Or (pt_Not (pt_bo (p_isi (T := "list") kit_list rfl T.n_isinstance rfl T.n_list PyProof.Rows.boot_list (p_var (pv 2))))) (pw_Or (pt_cmp (op_neM hr.units) j_ne (p_B call_len jc_len rfl T.n_len PySem.boot_len (q_cons (p_var (pv 2)) q_nil)) (p_B call_len jc_len rfl T.n_len PySem.boot_len (q_cons (p_var (pv 0)) q_nil)) (nomark _)) (pw_or1 (pt_Not (pt_bo (p_B (cr_all rfl) jc_all rfl T.n_all PyProof.Rows.boot_all (q_cons (p_val (p_lc (own := [("one", 4)]) rfl S.nd (i_seq (p_var (pv 2))) (blkOk_by (by kernel_rfl)) (fun _ _ _ _ _ => (g_nm (pg_name (i := 4) S.nd rfl (by first | exact .inl rfl | exact .inr rfl)))) (fun _ _ _ _ _ => ts_nil) (fun _ _ _ _ _ => (p_call (c_is_whole T) hr hgd (by decide) rfl (q_cons (p_var (pv 4)) q_nil))))) q_nil)))))))) (ss_one (ss_ret p_bl)) ss_nil)
  (ss_cons (ss_if (pt_Not (pt_bo (p_B (cr_all rfl) jc_all rfl T.n_all PyProof.Rows.boot_all (q_cons (p_val (p_lc (own := [("one", 4)]) rfl S.nd (i_seq (p_var (pv 2))) (blkOk_by (by kernel_rfl)) (fun _ _ _ _ _ => (g_nm (pg_name (i := 4) S.nd rfl (by first | exact .inl rfl | exact .inr rfl)))) (fun _ _ _ _ _ => ts_nil) (fun _ _ _ _ _ => (p_cmp op_ge j_ge (p_var (pv 4)) p_int (nomark _))))) q_nil)))) (ss_one (ss_ret p_bl)) ss_nil)
  (ss_cons (p_for po rfl (i_enum rfl T.n_enumerate (p_var (pv 0))) (g_tu rfl (gs_cons (g_nm (pg_name (i := 3) S.nd rfl (by first | exact .inl rfl | exact .inr rfl))) (gs_cons (g_nm (pg_name (i := 4) S.nd rfl (by first | exact .inl rfl | exact .inr rfl))) gs_nil)))
  (ss_one (ss_if (pt_bo (p_B (cr_any rfl) jc_any rfl T.n_any PyProof.Rows.boot_any (q_cons (p_val (p_lc (own := [("k", 5)]) rfl S.nd (i_rng1 rfl T.n_range (q_cons (p_var (pv 3)) q_nil)) (blkOk_by (by kernel_rfl)) (fun _ _ _ _ _ => (g_nm (pg_name (i := 5) S.nd rfl (by first | exact .inl rfl | exact .inr rfl)))) (fun _ _ _ _ _ => ts_nil) (fun _ _ _ _ _ => (p_And (p_cmp (op_eqM hr.units) j_eq (p_ix ix_seq j_ix (p_var (pv 2)) (p_var (pv 3)) (fun _ _ => rfl)) (p_ix ix_seq j_ix (p_var (pv 2)) (p_var (pv 5)) (fun _ _ => rfl)) (nomark _)) (pe_one (p_call (c_meet T) hr hgd (by decide) rfl (q_cons (p_var (pv 4)) (q_cons (p_ix ix_seq j_ix (p_var (pv 0)) (p_var (pv 5)) (fun _ _ => rfl)) (q_cons (p_var (pv 1)) q_nil))))))))) q_nil))) (ss_one (ss_ret p_bl)) ss_nil)))
  (ss_one (ss_ret p_bl))))))
theorem sc__law_told : FnScope ["_law_way", "_law_jobs_here", "_law_rest", "_law_thing", "_law_e", "_law_found"] ["_law_way", "_law_jobs_here", "_law_rest", "_law_thing"] (defScope s__law_told) := ⟨rfl, rfl, rfl, by decide +kernel, rfl, by decide +kernel, by decide +kernel⟩
theorem c__law_told (T : Txt K mg) : Cal P w K mg base 6 "_law_told" ["_law_way", "_law_jobs_here", "_law_rest", "_law_thing"] m__law_told := by
  obtain ⟨f, fd, g, F⟩ := T.F__law_told
  have S := sc__law_told
  exact cal_of (N := ["_law_way", "_law_jobs_here", "_law_rest", "_law_thing", "_law_e", "_law_found"]) F g S (F.binds fun _ _ _ _ _ _ us hl => match us, hl with | [_, _, _, _], _ => rfl) fun cdv A outer s H E hr hgd => (ss_cons (let ⟨_, hG, hx⟩ := T.cls.base; s_tryW (i := 4) (w__law_word T) (by decide) (L2H.roomH_of hr) hgd rfl rfl rfl S.nd rfl rfl ⟨rfl, by decide, .inl hG⟩ (ex_hx hx) (fun E' pn xe tk po => (ss_one (ss_set (i := 5) S.nd rfl (.inl rfl) (p_If (pt_cmp (op_eqM hr.units) j_eq (p_var (pv 0)) p_int (nomark _)) (p_callX (c_fewest T) tk hr hgd (by decide) rfl (q_cons (p_var (pv 1)) (q_cons (p_var (pv 2)) q_nil))) (p_selX (c_is_sharing T) (c_is_crush T) rfl rfl tk hr hgd (by decide) (by decide) rfl rfl (p_bin op_sub j_sub (p_var (pv 0)) p_int) (fun _ _ => rfl) (q_cons (p_var (pv 1)) (q_cons (p_var (pv 2)) (q_cons (p_var (pv 3)) q_nil)))))))) (fun a pn => pv 4))
  (ss_one (ss_ret (p_If (pt_bo (p_isi2 (T := "bool") (S := "tuple") kit_bool kit_tuple rfl T.n_isinstance rfl T.n_bool PyProof.Rows.boot_bool rfl T.n_tuple PyProof.Rows.boot_tuple (p_var (pv 5)))) p_str p_str))))
theorem sc_law : FnScope ["_law_script", "_law_k", "_law_pot_here", "_law_jobs_here", "_law_at", "_law_things", "_law_odds", "_law_odd_here", "_law_rests", "_law_thing", "_law_beside", "_law_some", "_law_rest", "_law_kept", "_law_due", "_law_words", "_law_way"] ["_law_script"] (defScope s_law) := ⟨rfl, rfl, rfl, by decide +kernel, rfl, by decide +kernel, by decide +kernel⟩
theorem g_law (T : Txt K mg) {f : Addr} {fd : FuncData} (F : Fun K "law" "law" s_law f fd) : FnG P w K mg base CX0 7 f fd ["_law_script"] (sp0 K 1 m_law) := by
  have S := sc_law
  exact fng_of (N := ["_law_script", "_law_k", "_law_pot_here", "_law_jobs_here", "_law_at", "_law_things", "_law_odds", "_law_odd_here", "_law_rests", "_law_thing", "_law_beside", "_law_some", "_law_rest", "_law_kept", "_law_due", "_law_words", "_law_way"]) F S fun cdv A outer s H E hr hgd => (ss_cons (p_for PassesOwn.never rfl (i_rng1 rfl T.n_range (q_cons (p_B (call_max2 rfl) jc_max2 rfl T.n_max PyProof.Rows.boot_max (q_cons p_int (q_cons (p_B (call_min2 rfl) jc_min2 rfl T.n_min PyProof.Rows.boot_min (q_cons (p_B call_len jc_len rfl T.n_len PySem.boot_len (q_cons (p_var (pv 0)) q_nil)) (q_cons p_int q_nil))) q_nil))) q_nil)) (g_nm (pg_name (i := 1) S.nd rfl (by first | exact .inl rfl | exact .inr rfl)))
  (ss_cons (ss_set (i := 2) S.nd rfl (.inl rfl) (p_call (c__law_pot_c T) hr hgd (by decide) rfl (q_cons (p_call (c__law_cell_at T) hr hgd (by decide) rfl (q_cons (p_var (pv 0)) (q_cons (p_var (pv 1)) q_nil))) q_nil)))
  (ss_cons (ss_set (i := 3) S.nd rfl (.inl rfl) (p_call (c__law_jobs T) hr hgd (by decide) rfl (q_cons (p_var (pv 2)) q_nil)))
  (ss_cons (ss_set (i := 4) S.nd rfl (.inl rfl) (p_call (c__law_take T) hr hgd (by decide) rfl (q_cons (p_var (pv 2)) (q_cons (p_bin op_add4 j_add (p_B call_len jc_len rfl T.n_len PySem.boot_len (q_cons (p_var (pv 3)) q_nil)) p_int) q_nil))))
  (ss_cons (ss_set (i := 5) S.nd rfl (.inl rfl) (p_cell (p_lst (q_cons (p_var (pv 3)) (q_cons (p_slice (p_val (p_rep (p_var (pv 3)) p_int)) o_none (o_some p_int)) (q_cons (p_slice (p_bin op_add4 j_add (p_val (p_rep (p_var (pv 3)) p_int)) (p_val (p_rep (p_val (p_lst (q_cons (p_tup (q_cons p_int (q_cons p_int q_nil))) q_nil))) p_int))) o_none (o_some p_int)) (q_cons (p_Ty call_tuple_of jc_tup rfl T.n_tuple PyProof.Rows.boot_tuple (q_cons (p_var (pv 3)) q_nil)) (q_cons (p_dctN (pv 3)) (q_cons (p_call (c__law_odd T) hr hgd (by decide) rfl (q_cons (p_var (pv 2)) q_nil)) (q_cons (p_val (p_lst q_nil)) q_nil))))))))))
  (ss_cons (ss_set (i := 6) S.nd rfl (.inl rfl) (p_val (p_lst (q_cons (p_tup (q_cons p_int (q_cons p_int q_nil))) (q_cons (p_tup (q_cons p_int (q_cons p_int q_nil))) (q_cons (p_tup (q_cons p_int (q_cons p_int q_nil))) (q_cons (p_tup (q_cons p_int (q_cons p_int q_nil))) (q_cons (p_tup (q_cons (p_neg p_int) (q_cons p_int q_nil))) (q_cons (p_tup (q_cons p_int (q_cons p_int q_nil))) (q_cons (p_tup (q_cons p_int (q_cons p_int q_nil))) (q_cons (p_tup (q_cons p_int (q_cons p_int q_nil))) (q_cons (p_tup (q_cons p_int (q_cons p_int q_nil))) q_nil))))))))))))
  (ss_cons (ss_set (i := 6) S.nd rfl (.inl rfl) (p_bin op_add4 j_add (p_var (pv 6)) (p_val (p_lst (q_cons (p_tup (q_cons p_int q_nil)) (q_cons (p_tup (q_cons p_int (q_cons p_int (q_cons p_int q_nil)))) (q_cons (p_val (p_lst (q_cons p_int (q_cons p_int q_nil)))) (q_cons (p_tup (q_cons p_bl (q_cons p_int q_nil))) (q_cons (p_tup (q_cons p_int (q_cons p_bl q_nil))) (q_cons (p_tup (q_cons p_non (q_cons p_int q_nil))) (q_cons (p_tup (q_cons p_int (q_cons p_str q_nil))) (q_cons (p_tup (q_cons p_int (q_cons (p_bin op_pow j_pow p_int p_int) q_nil))) (q_cons p_non q_nil)))))))))))))
  (ss_cons (p_for PassesOwn.never rfl (i_seq (p_bin op_add4 j_add (p_var (pv 6)) (p_val (p_lst (q_cons (p_call (c__law_odd T) hr hgd (by decide) rfl (q_cons (p_var (pv 2)) q_nil)) q_nil))))) (g_nm (pg_name (i := 7) S.nd rfl (by first | exact .inl rfl | exact .inr rfl)))
  (ss_one (ss_exp (p_append (p_var (pv 5)) (p_slice (p_bin op_add4 j_add (p_bin op_add4 j_add (p_slice (p_var (pv 3)) o_none (o_some (p_var (pv 4)))) (p_val (p_lst (q_cons (p_var (pv 7)) q_nil)))) (p_slice (p_var (pv 3)) (o_some (p_bin op_add4 j_add (p_var (pv 4)) p_int)) o_none)) o_none (o_some p_int))))))
  (ss_cons (ss_set (i := 8) S.nd rfl (.inl rfl) (p_val (p_lst (q_cons p_int (q_cons p_int (q_cons p_int (q_cons p_int (q_cons (p_neg p_int) (q_cons p_bl (q_cons p_non (q_cons p_str (q_cons (p_bin op_pow j_pow p_int p_int) (q_cons (p_tup (q_cons p_int q_nil)) (q_cons (p_val (p_lst (q_cons p_int q_nil))) (q_cons (p_bin op_add4 j_add p_int (p_call (c__law_take T) hr hgd (by decide) rfl (q_cons (p_var (pv 2)) (q_cons p_int q_nil)))) (q_cons (p_call (c__law_odd T) hr hgd (by decide) rfl (q_cons (p_var (pv 2)) q_nil)) q_nil))))))))))))))))
  (ss_one (p_for PassesOwn.never rfl (i_seq (p_var (pv 5))) (g_nm (pg_name (i := 9) S.nd rfl (by first | exact .inl rfl | exact .inr rfl)))
  (ss_cons (ss_par (i := 12) (j := 13) rfl S.nd rfl rfl (by decide) rfl rfl (q_cons (p_ix ix_seq j_ix (p_var (pv 8)) (p_call (c__law_take T) hr hgd (by decide) rfl (q_cons (p_var (pv 2)) (q_cons p_int q_nil))) (fun _ _ => rfl)) (q_cons (p_B (call_reprM hgd hr.units) jc_repr rfl T.n_repr PyProof.Rows.boot_repr (q_cons (p_var (pv 9)) q_nil)) q_nil)) (by rfl))
  (ss_cons (ss_set (i := 10) S.nd rfl (.inr rfl) (p_ix ix_seq j_ix (p_val (p_lst (q_cons (p_val (p_lst q_nil)) (q_cons (p_tup (q_cons p_int (q_cons (p_tup (q_cons p_int q_nil)) q_nil))) (q_cons p_non (q_cons (p_call (c__law_odd T) hr hgd (by decide) rfl (q_cons (p_var (pv 2)) q_nil)) q_nil)))))) (p_call (c__law_take T) hr hgd (by decide) rfl (q_cons (p_var (pv 2)) (q_cons p_int q_nil))) (fun _ _ => rfl)))
  (ss_one (p_for PassesOwn.never rfl (i_seq (p_tup (q_cons (p_var (pv 12)) (q_cons p_int q_nil)))) (g_nm (pg_name (i := 11) S.nd rfl (by first | exact .inl rfl | exact .inr rfl)))
  (ss_cons (ss_set (i := 14) S.nd rfl (.inl rfl) p_str)
  (ss_cons (ss_if (pt_bo (p_call (c__law_are_jobs T) hr hgd (by decide) rfl (q_cons (p_var (pv 9)) q_nil))) (ss_one (ss_set (i := 14) S.nd rfl (.inl rfl) (p_If (pt_bo (p_call (c__law_within T) hr hgd (by decide) rfl (q_cons (p_var (pv 11)) (q_cons p_int (q_cons p_int q_nil))))) p_str p_str))) ss_nil)
  (ss_cons (ss_setLc (i := 15) (own := [("_law_way", 16)]) eVal l_val rfl S.nd rfl rfl (sw_true rfl rfl rfl (by decide +kernel)) (i_rng1 rfl T.n_range (q_cons p_int q_nil)) (blkOk_by (by kernel_rfl)) (fun _ _ _ _ _ => (g_nm (pg_name (i := 16) S.nd rfl (by first | exact .inl rfl | exact .inr rfl)))) (fun _ _ _ _ _ => ts_nil) (fun _ _ _ _ _ => (p_call (c__law_told T) hr hgd (by decide) rfl (q_cons (p_var (pv 16)) (q_cons (p_var (pv 9)) (q_cons (p_var (pv 11)) (q_cons (p_var (pv 10)) q_nil)))))))
  (ss_one (ss_if (PW.pt (pw_Or (pt_cmp (op_neM hr.units) j_ne (p_var (pv 15)) (p_val (p_rep (p_val (p_lst (q_cons (p_var (pv 14)) q_nil))) p_int)) (nomark _)) (pw_or1 (pt_cmp (op_neM hr.units) j_ne (p_B (call_reprM hgd hr.units) jc_repr rfl T.n_repr PyProof.Rows.boot_repr (q_cons (p_var (pv 9)) q_nil)) (p_var (pv 13)) (nomark _))))) (ss_one (ss_ret p_bl)) ss_nil))))))))))))))))))))
  (ss_one (ss_ret p_bl)))
end
end Q
namespace Q
open PySem PySem.Spec L2 G
theorem txt_mk {K : PySem.W.Frag} {h : Heap} {mg : Str → Option Value} (X : K.In h) (G : h.Ns mainGlobals mg)
    {f0 : Addr} {od0 an0 : Option Addr} {sl0 : Array (Option Value)} {oc0 kV0 dc0 pm0 cd0 ct0 : Value} (a0 : PySem.W.nsIn K mainGlobals "is_whole" = some (some (.ref f0))) (l0 : K.lookup f0 = some ⟨oc0, od0, .func (PySem.W.fnOf "is_whole" "is_whole" (defArgs s_is_whole) (defBody s_is_whole) (defScope s_is_whole) .none kV0 dc0 pm0 an0 cd0 ct0), sl0⟩) (c0 : PySem.W.codeIn K cd0 "is_whole" = true) (k0 : PySem.W.keepIn K (.ref f0) = true)
    {f1 : Addr} {od1 an1 : Option Addr} {sl1 : Array (Option Value)} {oc1 kV1 dc1 pm1 cd1 ct1 : Value} (a1 : PySem.W.nsIn K mainGlobals "is_within" = some (some (.ref f1))) (l1 : K.lookup f1 = some ⟨oc1, od1, .func (PySem.W.fnOf "is_within" "is_within" (defArgs s_is_within) (defBody s_is_within) (defScope s_is_within) .none kV1 dc1 pm1 an1 cd1 ct1), sl1⟩) (c1 : PySem.W.codeIn K cd1 "is_within" = true) (k1 : PySem.W.keepIn K (.ref f1) = true)
    {f2 : Addr} {od2 an2 : Option Addr} {sl2 : Array (Option Value)} {oc2 kV2 dc2 pm2 cd2 ct2 : Value} (a2 : PySem.W.nsIn K mainGlobals "is_rising" = some (some (.ref f2))) (l2 : K.lookup f2 = some ⟨oc2, od2, .func (PySem.W.fnOf "is_rising" "is_rising" (defArgs s_is_rising) (defBody s_is_rising) (defScope s_is_rising) .none kV2 dc2 pm2 an2 cd2 ct2), sl2⟩) (c2 : PySem.W.codeIn K cd2 "is_rising" = true) (k2 : PySem.W.keepIn K (.ref f2) = true)
    {f3 : Addr} {od3 an3 : Option Addr} {sl3 : Array (Option Value)} {oc3 kV3 dc3 pm3 cd3 ct3 : Value} (a3 : PySem.W.nsIn K mainGlobals "are_numbers" = some (some (.ref f3))) (l3 : K.lookup f3 = some ⟨oc3, od3, .func (PySem.W.fnOf "are_numbers" "are_numbers" (defArgs s_are_numbers) (defBody s_are_numbers) (defScope s_are_numbers) .none kV3 dc3 pm3 an3 cd3 ct3), sl3⟩) (c3 : PySem.W.codeIn K cd3 "are_numbers" = true) (k3 : PySem.W.keepIn K (.ref f3) = true)
    {f4 : Addr} {od4 an4 : Option Addr} {sl4 : Array (Option Value)} {oc4 kV4 dc4 pm4 cd4 ct4 : Value} (a4 : PySem.W.nsIn K mainGlobals "is_job" = some (some (.ref f4))) (l4 : K.lookup f4 = some ⟨oc4, od4, .func (PySem.W.fnOf "is_job" "is_job" (defArgs s_is_job) (defBody s_is_job) (defScope s_is_job) .none kV4 dc4 pm4 an4 cd4 ct4), sl4⟩) (c4 : PySem.W.codeIn K cd4 "is_job" = true) (k4 : PySem.W.keepIn K (.ref f4) = true)
    {f5 : Addr} {od5 an5 : Option Addr} {sl5 : Array (Option Value)} {oc5 kV5 dc5 pm5 cd5 ct5 : Value} (a5 : PySem.W.nsIn K mainGlobals "check_jobs" = some (some (.ref f5))) (l5 : K.lookup f5 = some ⟨oc5, od5, .func (PySem.W.fnOf "check_jobs" "check_jobs" (defArgs s_check_jobs) (defBody s_check_jobs) (defScope s_check_jobs) .none kV5 dc5 pm5 an5 cd5 ct5), sl5⟩) (c5 : PySem.W.codeIn K cd5 "check_jobs" = true) (k5 : PySem.W.keepIn K (.ref f5) = true)
    {f6 : Addr} {od6 an6 : Option Addr} {sl6 : Array (Option Value)} {oc6 kV6 dc6 pm6 cd6 ct6 : Value} (a6 : PySem.W.nsIn K mainGlobals "meet" = some (some (.ref f6))) (l6 : K.lookup f6 = some ⟨oc6, od6, .func (PySem.W.fnOf "meet" "meet" (defArgs s_meet) (defBody s_meet) (defScope s_meet) .none kV6 dc6 pm6 an6 cd6 ct6), sl6⟩) (c6 : PySem.W.codeIn K cd6 "meet" = true) (k6 : PySem.W.keepIn K (.ref f6) = true)
    {f7 : Addr} {od7 an7 : Option Addr} {sl7 : Array (Option Value)} {oc7 kV7 dc7 pm7 cd7 ct7 : Value} (a7 : PySem.W.nsIn K mainGlobals "under_way" = some (some (.ref f7))) (l7 : K.lookup f7 = some ⟨oc7, od7, .func (PySem.W.fnOf "under_way" "under_way" (defArgs s_under_way) (defBody s_under_way) (defScope s_under_way) .none kV7 dc7 pm7 an7 cd7 ct7), sl7⟩) (c7 : PySem.W.codeIn K cd7 "under_way" = true) (k7 : PySem.W.keepIn K (.ref f7) = true)
    {f8 : Addr} {od8 an8 : Option Addr} {sl8 : Array (Option Value)} {oc8 kV8 dc8 pm8 cd8 ct8 : Value} (a8 : PySem.W.nsIn K mainGlobals "greedy" = some (some (.ref f8))) (l8 : K.lookup f8 = some ⟨oc8, od8, .func (PySem.W.fnOf "greedy" "greedy" (defArgs s_greedy) (defBody s_greedy) (defScope s_greedy) .none kV8 dc8 pm8 an8 cd8 ct8), sl8⟩) (c8 : PySem.W.codeIn K cd8 "greedy" = true) (k8 : PySem.W.keepIn K (.ref f8) = true)
    {f9 : Addr} {od9 an9 : Option Addr} {sl9 : Array (Option Value)} {oc9 kV9 dc9 pm9 cd9 ct9 : Value} (a9 : PySem.W.nsIn K mainGlobals "fewest" = some (some (.ref f9))) (l9 : K.lookup f9 = some ⟨oc9, od9, .func (PySem.W.fnOf "fewest" "fewest" (defArgs s_fewest) (defBody s_fewest) (defScope s_fewest) .none kV9 dc9 pm9 an9 cd9 ct9), sl9⟩) (c9 : PySem.W.codeIn K cd9 "fewest" = true) (k9 : PySem.W.keepIn K (.ref f9) = true)
    {f10 : Addr} {od10 an10 : Option Addr} {sl10 : Array (Option Value)} {oc10 kV10 dc10 pm10 cd10 ct10 : Value} (a10 : PySem.W.nsIn K mainGlobals "is_sharing" = some (some (.ref f10))) (l10 : K.lookup f10 = some ⟨oc10, od10, .func (PySem.W.fnOf "is_sharing" "is_sharing" (defArgs s_is_sharing) (defBody s_is_sharing) (defScope s_is_sharing) .none kV10 dc10 pm10 an10 cd10 ct10), sl10⟩) (c10 : PySem.W.codeIn K cd10 "is_sharing" = true) (k10 : PySem.W.keepIn K (.ref f10) = true)
    {f11 : Addr} {od11 an11 : Option Addr} {sl11 : Array (Option Value)} {oc11 kV11 dc11 pm11 cd11 ct11 : Value} (a11 : PySem.W.nsIn K mainGlobals "is_crush" = some (some (.ref f11))) (l11 : K.lookup f11 = some ⟨oc11, od11, .func (PySem.W.fnOf "is_crush" "is_crush" (defArgs s_is_crush) (defBody s_is_crush) (defScope s_is_crush) .none kV11 dc11 pm11 an11 cd11 ct11), sl11⟩) (c11 : PySem.W.codeIn K cd11 "is_crush" = true) (k11 : PySem.W.keepIn K (.ref f11) = true)
    {f12 : Addr} {od12 an12 : Option Addr} {sl12 : Array (Option Value)} {oc12 kV12 dc12 pm12 cd12 ct12 : Value} (a12 : PySem.W.nsIn K mainGlobals "_law_cell_at" = some (some (.ref f12))) (l12 : K.lookup f12 = some ⟨oc12, od12, .func (PySem.W.fnOf "_law_cell_at" "_law_cell_at" (defArgs s__law_cell_at) (defBody s__law_cell_at) (defScope s__law_cell_at) .none kV12 dc12 pm12 an12 cd12 ct12), sl12⟩) (c12 : PySem.W.codeIn K cd12 "_law_cell_at" = true) (k12 : PySem.W.keepIn K (.ref f12) = true)
    {f13 : Addr} {od13 an13 : Option Addr} {sl13 : Array (Option Value)} {oc13 kV13 dc13 pm13 cd13 ct13 : Value} (a13 : PySem.W.nsIn K mainGlobals "_law_pot" = some (some (.ref f13))) (l13 : K.lookup f13 = some ⟨oc13, od13, .func (PySem.W.fnOf "_law_pot" "_law_pot" (defArgs s__law_pot) (defBody s__law_pot) (defScope s__law_pot) .none kV13 dc13 pm13 an13 cd13 ct13), sl13⟩) (c13 : PySem.W.codeIn K cd13 "_law_pot" = true) (k13 : PySem.W.keepIn K (.ref f13) = true)
    {f14 : Addr} {od14 an14 : Option Addr} {sl14 : Array (Option Value)} {oc14 kV14 dc14 pm14 cd14 ct14 : Value} (a14 : PySem.W.nsIn K mainGlobals "_law_take" = some (some (.ref f14))) (l14 : K.lookup f14 = some ⟨oc14, od14, .func (PySem.W.fnOf "_law_take" "_law_take" (defArgs s__law_take) (defBody s__law_take) (defScope s__law_take) .none kV14 dc14 pm14 an14 cd14 ct14), sl14⟩) (c14 : PySem.W.codeIn K cd14 "_law_take" = true) (k14 : PySem.W.keepIn K (.ref f14) = true)
    {f15 : Addr} {od15 an15 : Option Addr} {sl15 : Array (Option Value)} {oc15 kV15 dc15 pm15 cd15 ct15 : Value} (a15 : PySem.W.nsIn K mainGlobals "_law_whole" = some (some (.ref f15))) (l15 : K.lookup f15 = some ⟨oc15, od15, .func (PySem.W.fnOf "_law_whole" "_law_whole" (defArgs s__law_whole) (defBody s__law_whole) (defScope s__law_whole) .none kV15 dc15 pm15 an15 cd15 ct15), sl15⟩) (c15 : PySem.W.codeIn K cd15 "_law_whole" = true) (k15 : PySem.W.keepIn K (.ref f15) = true)
    {f16 : Addr} {od16 an16 : Option Addr} {sl16 : Array (Option Value)} {oc16 kV16 dc16 pm16 cd16 ct16 : Value} (a16 : PySem.W.nsIn K mainGlobals "_law_within" = some (some (.ref f16))) (l16 : K.lookup f16 = some ⟨oc16, od16, .func (PySem.W.fnOf "_law_within" "_law_within" (defArgs s__law_within) (defBody s__law_within) (defScope s__law_within) .none kV16 dc16 pm16 an16 cd16 ct16), sl16⟩) (c16 : PySem.W.codeIn K cd16 "_law_within" = true) (k16 : PySem.W.keepIn K (.ref f16) = true)
    {f17 : Addr} {od17 an17 : Option Addr} {sl17 : Array (Option Value)} {oc17 kV17 dc17 pm17 cd17 ct17 : Value} (a17 : PySem.W.nsIn K mainGlobals "_law_odd" = some (some (.ref f17))) (l17 : K.lookup f17 = some ⟨oc17, od17, .func (PySem.W.fnOf "_law_odd" "_law_odd" (defArgs s__law_odd) (defBody s__law_odd) (defScope s__law_odd) .none kV17 dc17 pm17 an17 cd17 ct17), sl17⟩) (c17 : PySem.W.codeIn K cd17 "_law_odd" = true) (k17 : PySem.W.keepIn K (.ref f17) = true)
    {f18 : Addr} {od18 an18 : Option Addr} {sl18 : Array (Option Value)} {oc18 kV18 dc18 pm18 cd18 ct18 : Value} (a18 : PySem.W.nsIn K mainGlobals "_law_word" = some (some (.ref f18))) (l18 : K.lookup f18 = some ⟨oc18, od18, .func (PySem.W.fnOf "_law_word" "_law_word" (defArgs s__law_word) (defBody s__law_word) (defScope s__law_word) .none kV18 dc18 pm18 an18 cd18 ct18), sl18⟩) (c18 : PySem.W.codeIn K cd18 "_law_word" = true) (k18 : PySem.W.keepIn K (.ref f18) = true)
    {f19 : Addr} {od19 an19 : Option Addr} {sl19 : Array (Option Value)} {oc19 kV19 dc19 pm19 cd19 ct19 : Value} (a19 : PySem.W.nsIn K mainGlobals "_law_jobs" = some (some (.ref f19))) (l19 : K.lookup f19 = some ⟨oc19, od19, .func (PySem.W.fnOf "_law_jobs" "_law_jobs" (defArgs s__law_jobs) (defBody s__law_jobs) (defScope s__law_jobs) .none kV19 dc19 pm19 an19 cd19 ct19), sl19⟩) (c19 : PySem.W.codeIn K cd19 "_law_jobs" = true) (k19 : PySem.W.keepIn K (.ref f19) = true)
    {f20 : Addr} {od20 an20 : Option Addr} {sl20 : Array (Option Value)} {oc20 kV20 dc20 pm20 cd20 ct20 : Value} (a20 : PySem.W.nsIn K mainGlobals "_law_are_jobs" = some (some (.ref f20))) (l20 : K.lookup f20 = some ⟨oc20, od20, .func (PySem.W.fnOf "_law_are_jobs" "_law_are_jobs" (defArgs s__law_are_jobs) (defBody s__law_are_jobs) (defScope s__law_are_jobs) .none kV20 dc20 pm20 an20 cd20 ct20), sl20⟩) (c20 : PySem.W.codeIn K cd20 "_law_are_jobs" = true) (k20 : PySem.W.keepIn K (.ref f20) = true)
    {f21 : Addr} {od21 an21 : Option Addr} {sl21 : Array (Option Value)} {oc21 kV21 dc21 pm21 cd21 ct21 : Value} (a21 : PySem.W.nsIn K mainGlobals "_law_told" = some (some (.ref f21))) (l21 : K.lookup f21 = some ⟨oc21, od21, .func (PySem.W.fnOf "_law_told" "_law_told" (defArgs s__law_told) (defBody s__law_told) (defScope s__law_told) .none kV21 dc21 pm21 an21 cd21 ct21), sl21⟩) (c21 : PySem.W.codeIn K cd21 "_law_told" = true) (k21 : PySem.W.keepIn K (.ref f21) = true)
    {f22 : Addr} {od22 an22 : Option Addr} {sl22 : Array (Option Value)} {oc22 kV22 dc22 pm22 cd22 ct22 : Value} (a22 : PySem.W.nsIn K mainGlobals "law" = some (some (.ref f22))) (l22 : K.lookup f22 = some ⟨oc22, od22, .func (PySem.W.fnOf "law" "law" (defArgs s_law) (defBody s_law) (defScope s_law) .none kV22 dc22 pm22 an22 cd22 ct22), sl22⟩) (c22 : PySem.W.codeIn K cd22 "law" = true) (k22 : PySem.W.keepIn K (.ref f22) = true)
    {t0 : Tok} (u0 : PySem.W.nsIn K mainGlobals "MOST_END" = some (some (.int 9999 t0)))
    {t1 : Tok} (u1 : PySem.W.nsIn K mainGlobals "MOST_JOBS" = some (some (.int 12 t1)))
    {t2 : Tok} (u2 : PySem.W.nsIn K mainGlobals "MOST_REST" = some (some (.int 200 t2)))
    (z0 : PySem.W.nsIn K mainGlobals "ValueError" = some none)
    (z1 : PySem.W.nsIn K mainGlobals "all" = some none)
    (z2 : PySem.W.nsIn K mainGlobals "any" = some none)
    (z3 : PySem.W.nsIn K mainGlobals "bool" = some none)
    (z4 : PySem.W.nsIn K mainGlobals "enumerate" = some none)
    (z5 : PySem.W.nsIn K mainGlobals "int" = some none)
    (z6 : PySem.W.nsIn K mainGlobals "isinstance" = some none)
    (z7 : PySem.W.nsIn K mainGlobals "len" = some none)
    (z8 : PySem.W.nsIn K mainGlobals "list" = some none)
    (z9 : PySem.W.nsIn K mainGlobals "max" = some none)
    (z10 : PySem.W.nsIn K mainGlobals "min" = some none)
    (z11 : PySem.W.nsIn K mainGlobals "range" = some none)
    (z12 : PySem.W.nsIn K mainGlobals "repr" = some none)
    (z13 : PySem.W.nsIn K mainGlobals "sorted" = some none)
    (z14 : PySem.W.nsIn K mainGlobals "tuple" = some none)
    (z15 : PySem.W.nsIn K mainGlobals "zip" = some none)
    {q0 : Addr} (x0 : PySem.W.nsIn K mainGlobals "GuideError" = some (some (.ref q0)))
    {q1 : Addr} (x1 : PySem.W.nsIn K mainGlobals "NoSea" = some (some (.ref q1)))
    {q2 : Addr} (x2 : PySem.W.nsIn K mainGlobals "NoChannel" = some (some (.ref q2)))
    {q3 : Addr} (x3 : PySem.W.nsIn K mainGlobals "NoMinute" = some (some (.ref q3)))
    {q4 : Addr} (x4 : PySem.W.nsIn K mainGlobals "NoDraught" = some (some (.ref q4)))
    {q5 : Addr} (x5 : PySem.W.nsIn K mainGlobals "NoCrew" = some (some (.ref q5)))
    {q6 : Addr} (x6 : PySem.W.nsIn K mainGlobals "NoShips" = some (some (.ref q6)))
    {q7 : Addr} (x7 : PySem.W.nsIn K mainGlobals "NoShip" = some (some (.ref q7)))
    {q8 : Addr} (x8 : PySem.W.nsIn K mainGlobals "NoTurns" = some (some (.ref q8)))
    {q9 : Addr} (x9 : PySem.W.nsIn K mainGlobals "NoGuide" = some (some (.ref q9)))
    {q10 : Addr} (x10 : PySem.W.nsIn K mainGlobals "NoLog" = some (some (.ref q10)))
    {q11 : Addr} (x11 : PySem.W.nsIn K mainGlobals "NoHails" = some (some (.ref q11)))
    {q12 : Addr} (x12 : PySem.W.nsIn K mainGlobals "NoPace" = some (some (.ref q12)))
    {q13 : Addr} (x13 : PySem.W.nsIn K mainGlobals "NoJobs" = some (some (.ref q13)))
    {q14 : Addr} (x14 : PySem.W.nsIn K mainGlobals "NoRest" = some (some (.ref q14)))
    {q15 : Addr} (x15 : PySem.W.nsIn K mainGlobals "NoWater" = some (some (.ref q15)))
    {q16 : Addr} (x16 : PySem.W.nsIn K mainGlobals "NoText" = some (some (.ref q16)))
    {q17 : Addr} (x17 : PySem.W.nsIn K mainGlobals "NoName" = some (some (.ref q17)))
    {q18 : Addr} (x18 : PySem.W.nsIn K mainGlobals "TooMany" = some (some (.ref q18)))
    {q19 : Addr} (x19 : PySem.W.nsIn K mainGlobals "NoDeed" = some (some (.ref q19)))
    {q20 : Addr} (x20 : PySem.W.nsIn K mainGlobals "NoRow" = some (some (.ref q20)))
    (yt : tabChk K [q1, q2, q3, q4, q5, q6, q7, q8, q9, q10, q11, q12, q13, q14, q15, q16, q17, q18, q19, q20] q0 = true) : Txt K mg where
  F_is_whole := ⟨f0, _, PySem.W.mg_of X G a0, fun_mk (st := s_is_whole) l0 c0 k0⟩
  F_is_within := ⟨f1, _, PySem.W.mg_of X G a1, fun_mk (st := s_is_within) l1 c1 k1⟩
  F_is_rising := ⟨f2, _, PySem.W.mg_of X G a2, fun_mk (st := s_is_rising) l2 c2 k2⟩
  F_are_numbers := ⟨f3, _, PySem.W.mg_of X G a3, fun_mk (st := s_are_numbers) l3 c3 k3⟩
  F_is_job := ⟨f4, _, PySem.W.mg_of X G a4, fun_mk (st := s_is_job) l4 c4 k4⟩
  F_check_jobs := ⟨f5, _, PySem.W.mg_of X G a5, fun_mk (st := s_check_jobs) l5 c5 k5⟩
  F_meet := ⟨f6, _, PySem.W.mg_of X G a6, fun_mk (st := s_meet) l6 c6 k6⟩
  F_under_way := ⟨f7, _, PySem.W.mg_of X G a7, fun_mk (st := s_under_way) l7 c7 k7⟩
  F_greedy := ⟨f8, _, PySem.W.mg_of X G a8, fun_mk (st := s_greedy) l8 c8 k8⟩
  F_fewest := ⟨f9, _, PySem.W.mg_of X G a9, fun_mk (st := s_fewest) l9 c9 k9⟩
  F_is_sharing := ⟨f10, _, PySem.W.mg_of X G a10, fun_mk (st := s_is_sharing) l10 c10 k10⟩
  F_is_crush := ⟨f11, _, PySem.W.mg_of X G a11, fun_mk (st := s_is_crush) l11 c11 k11⟩
  F__law_cell_at := ⟨f12, _, PySem.W.mg_of X G a12, fun_mk (st := s__law_cell_at) l12 c12 k12⟩
  F__law_pot := ⟨f13, _, PySem.W.mg_of X G a13, fun_mk (st := s__law_pot) l13 c13 k13⟩
  F__law_take := ⟨f14, _, PySem.W.mg_of X G a14, fun_mk (st := s__law_take) l14 c14 k14⟩
  F__law_whole := ⟨f15, _, PySem.W.mg_of X G a15, fun_mk (st := s__law_whole) l15 c15 k15⟩
  F__law_within := ⟨f16, _, PySem.W.mg_of X G a16, fun_mk (st := s__law_within) l16 c16 k16⟩
  F__law_odd := ⟨f17, _, PySem.W.mg_of X G a17, fun_mk (st := s__law_odd) l17 c17 k17⟩
  F__law_word := ⟨f18, _, PySem.W.mg_of X G a18, fun_mk (st := s__law_word) l18 c18 k18⟩
  F__law_jobs := ⟨f19, _, PySem.W.mg_of X G a19, fun_mk (st := s__law_jobs) l19 c19 k19⟩
  F__law_are_jobs := ⟨f20, _, PySem.W.mg_of X G a20, fun_mk (st := s__law_are_jobs) l20 c20 k20⟩
  F__law_told := ⟨f21, _, PySem.W.mg_of X G a21, fun_mk (st := s__law_told) l21 c21 k21⟩
  F_law := ⟨f22, _, PySem.W.mg_of X G a22, fun_mk (st := s_law) l22 c22 k22⟩
  k_MOST_END := ⟨t0, PySem.W.mg_of X G u0⟩
  k_MOST_JOBS := ⟨t1, PySem.W.mg_of X G u1⟩
  k_MOST_REST := ⟨t2, PySem.W.mg_of X G u2⟩
  n_ValueError := PySem.W.mg_none_of X G z0
  n_all := PySem.W.mg_none_of X G z1
  n_any := PySem.W.mg_none_of X G z2
  n_bool := PySem.W.mg_none_of X G z3
  n_enumerate := PySem.W.mg_none_of X G z4
  n_int := PySem.W.mg_none_of X G z5
  n_isinstance := PySem.W.mg_none_of X G z6
  n_len := PySem.W.mg_none_of X G z7
  n_list := PySem.W.mg_none_of X G z8
  n_max := PySem.W.mg_none_of X G z9
  n_min := PySem.W.mg_none_of X G z10
  n_range := PySem.W.mg_none_of X G z11
  n_repr := PySem.W.mg_none_of X G z12
  n_sorted := PySem.W.mg_none_of X G z13
  n_tuple := PySem.W.mg_none_of X G z14
  n_zip := PySem.W.mg_none_of X G z15
  cls := clsTab_of (PySem.W.mg_of X G x0) (by simp only [List.map_cons, List.map_nil, PySem.W.mg_of X G x1, PySem.W.mg_of X G x2, PySem.W.mg_of X G x3, PySem.W.mg_of X G x4, PySem.W.mg_of X G x5, PySem.W.mg_of X G x6, PySem.W.mg_of X G x7, PySem.W.mg_of X G x8, PySem.W.mg_of X G x9, PySem.W.mg_of X G x10, PySem.W.mg_of X G x11, PySem.W.mg_of X G x12, PySem.W.mg_of X G x13, PySem.W.mg_of X G x14, PySem.W.mg_of X G x15, PySem.W.mg_of X G x16, PySem.W.mg_of X G x17, PySem.W.mg_of X G x18, PySem.W.mg_of X G x19, PySem.W.mg_of X G x20]) yt
theorem law_fn {P : Program} {w : World} {K : PySem.W.Frag} {mg : Str → Option Value} {fa : Addr} (T : Txt K mg) (hfa : mg "law" = some (.ref fa)) :
    ∃ fd : FuncData, (∀ (s : Shared) (v : Value), BindsTo s fd ⟨[v], []⟩ [("_law_script", v)]) ∧ ∀ base : Heap, K.In base → base.Ns mainGlobals mg → FnG P w K mg base CX0 7 fa fd ["_law_script"] (sp0 K 1 m_law) := by
  obtain ⟨f, fd, g, F⟩ := T.F_law
  have e := hfa.symm.trans g
  cases e
  refine ⟨fd, fun s v => ?_, fun base _ _ => g_law T F⟩
  obtain ⟨oc, od, kV, doc, pm, an, cdv, ct, osl, efd, lk, hcd⟩ := F.ex
  rw [efd]
  exact .of_eq rfl
end Q

/-! looking at what is right -/
namespace Q
open PySem PySem.Spec L2 G PySem.W
theorem within_ok {i lo hi : Int} : m_is_within [.d (.int i), .d (.int lo), .d (.int hi)] = rt (.d (.bool (decide (lo ≤ i) && decide (i ≤ hi)))) := by
  have w : m_is_whole [.d (.int i)] = rt (.d (.bool true)) := by
    refine mkFn_rt (env' := [some (.d (.int i))]) (ret_rt ?_)
    show eAnd _ _ [some (.d (.int i))] = _
    rfl
  refine mkFn_rt (env' := [some (.d (.int i)), some (.d (.int lo)), some (.d (.int hi))]) (ret_rt ?_)
  show eAnd _ _ [some (.d (.int i)), some (.d (.int lo)), some (.d (.int hi))] = _
  have w2 : eCall 1 m_is_whole (aCons (eVar 0) aNil) [some (.d (.int i)), some (.d (.int lo)), some (.d (.int hi))] = rt (.d (.bool true)) := call_rt (ms := [.d (.int i)]) rfl rfl w
  simp only [eAnd, w2, sSeq, sSet, sRet, sExp, sIf, sNil, e2, eB, eC, eVar, eTup, nLst, aCons, aNil, bO, bNot, bAnd, bOr, bYes, eAnd, eOr, eNot, eIf, eCh, asB_b, bnd_rt, nox_rt, List.getElem?_cons_zero, List.getElem?_cons_succ, List.set_cons_zero, List.set_cons_succ, Pat.asg, Pat.asgs, if_true, if_false, Bool.false_eq_true, Bool.not_true, Bool.not_false, wipeE, add_i, sub_i, ge_i, gt_i, lt_i, le_i, eq_int, ne_int, eq_str, ne_str, pow_18]
  by_cases h : lo ≤ i
  · simp only [h, decide_true, if_true, Bool.true_and]
  · simp only [h, decide_false, Bool.false_eq_true, if_false, Bool.false_and]
theorem within_t {i lo hi : Int} (h1 : lo ≤ i) (h2 : i ≤ hi) : m_is_within [.d (.int i), .d (.int lo), .d (.int hi)] = rt (.d (.bool true)) := by rw [within_ok, decide_eq_true h1, decide_eq_true h2]; rfl
/-- in the text: is_within(f, lo, hi) -/
theorem call_within {f g k : ES} {env : G.Env} {i lo hi : Int} (hf : f env = rt (.d (.int i))) (hg : g env = rt (.d (.int lo))) (hk : k env = rt (.d (.int hi))) (h1 : lo ≤ i) (h2 : i ≤ hi) : eCall 3 m_is_within (aCons f (aCons g (aCons k aNil))) env = rt (.d (.bool true)) :=
  call_rt (ms := [.d (.int i), .d (.int lo), .d (.int hi)]) (by simp only [aCons, aNil, hf, hg, hk, bnd_rt]) rfl (within_t h1 h2)
end Q

/-! what is looked at, whatever it is: the program's is_whole .. is_sea -/
namespace Q
open PySem PySem.Spec L2 G PySem.W
theorem if_ret_c {t : G.Env → Sm Bool} {r : ES} {g : SS} {env : G.Env} {m : M} {b : Bool} (h : t env = rt b) (hr : r env = rt m) : sSeq (sIf t (sRet r) sNil) g env = if b = true then rt (.rt m, env) else g env := by
  cases b with
  | true => rw [if_pos rfl]; exact seq_rt' (by rw [if_T h]; exact ret_rt hr)
  | false => rw [if_neg Bool.false_ne_true]; exact seq_nx' (if_nil h)
theorem whole_x (x : PyData) : m_is_whole [.d x] = rt (.d (.bool (isInt x))) := by cases x <;> rfl
theorem within_x {x : PyData} {lo hi : Int} : m_is_within [.d x, .d (.int lo), .d (.int hi)] = rt (.d (.bool (wB lo hi x))) := by
  cases x with
  | int i => exact within_ok
  | none => rfl
  | bool b => rfl
  | str b => rfl
  | list b => rfl
  | tuple b => rfl
  | dict b => rfl
theorem call_within_x {f : ES} {env : G.Env} {x : PyData} {lo hi : Int} (hf : f env = rt (.d x)) : eCall 3 m_is_within (aCons f (aCons (eC (.int lo)) (aCons (eC (.int hi)) aNil))) env = rt (.d (.bool (wB lo hi x))) :=
  call_rt (ms := [.d x, .d (.int lo), .d (.int hi)]) (by simp only [aCons, aNil, hf, eC, bnd_rt]) rfl within_x
theorem call_within_g {f g : ES} {env : G.Env} {x : PyData} {lo hi : Int} (hf : f env = rt (.d x)) (hg : g env = rt (.d (.int hi))) : eCall 3 m_is_within (aCons f (aCons (eC (.int lo)) (aCons g aNil))) env = rt (.d (.bool (wB lo hi x))) :=
  call_rt (ms := [.d x, .d (.int lo), .d (.int hi)]) (by simp only [aCons, aNil, hf, hg, eC, bnd_rt]) rfl within_x
theorem wB_int {lo hi : Int} {x : PyData} (h : wB lo hi x = true) : ∃ i, x = .int i ∧ lo ≤ i ∧ i ≤ hi := by
  cases x with
  | int i => simp only [wB, Bool.and_eq_true, decide_eq_true_eq] at h; exact ⟨i, rfl, h⟩
  | _ => cases h
theorem len3 {xs : List PyData} (h : xs.length = 3) : ∃ a b c, xs = [a, b, c] := by
  match xs, h with
  | [a, b, c], _ => exact ⟨a, b, c, rfl⟩
theorem len2 {xs : List PyData} (h : xs.length = 2) : ∃ a b, xs = [a, b] := by
  match xs, h with
  | [a, b], _ => exact ⟨a, b, rfl⟩
theorem len4 {xs : List PyData} (h : xs.length = 4) : ∃ a b c d, xs = [a, b, c, d] := by
  match xs, h with
  | [a, b, c, d], _ => exact ⟨a, b, c, d, rfl⟩
theorem len5 {xs : List PyData} (h : xs.length = 5) : ∃ a b c d e, xs = [a, b, c, d, e] := by
  match xs, h with
  | [a, b, c, d, e], _ => exact ⟨a, b, c, d, e, rfl⟩
/-- not so many things: .. or len(..) != n or .. -/
theorem not_many {f : ES} {g : G.Env → Sm Bool} {env : G.Env} {xs : List PyData} {n : Int} (v : f env = rt (.d (.tuple xs))) (h : (xs.length : Int) ≠ n) : bOr (bNot (bO (eIsi "tuple" f))) (bOr (bO (e2 oNe (eB nLen (aCons f aNil)) (eC (.int n)))) g) env = rt true := by
  refine (bOr_f (bNot_rt (bO_rt (isi_tup v))) (bOr_t (bO_rt ?_)))
  rw [ne_is (len_is v) rfl, decide_eq_false h]
  rfl
theorem not_many' {f : ES} {env : G.Env} {xs : List PyData} {n : Int} (v : f env = rt (.d (.tuple xs))) : bOr (bNot (bO (eIsi "tuple" f))) (bO (e2 oNe (eB nLen (aCons f aNil)) (eC (.int n)))) env = rt (!decide ((xs.length : Int) = n)) :=
  bOr_f (bNot_rt (bO_rt (isi_tup v))) (bO_rt (ne_is (len_is v) rfl))
end Q

/-! what the law's own small defs do -/
namespace Q
open PySem PySem.Spec L2 G
theorem take_ok {kp : Nat} {far : Int} (h0 : 0 < far) (h1 : far < 1329227995784915872903807060280344576) : Gen kp (m__law_take [.obj kp, .d (.int far)]) (IntIn 0 (far - 1)) := fun h hp => by
  obtain ⟨p, e⟩ := hp.pot
  refine ⟨.d (.int (p % far)), p / far, ?_, _, rfl, Int.emod_nonneg _ (by omega), by have := Int.emod_lt_of_pos p h0; omega⟩
  have ix : oIx (.obj kp) (.d (.int 0)) h = some (.val (.d (.int p)) h) := by
    simp only [oIx, tupM, lstM, e, cellMs, List.map_cons, List.map_nil, atI_0]
    rfl
  have hs : setD (.obj kp) (.d (.int 0)) (.d (.int (p / far))) h = some (.val () (h.set kp (.lst [.int (p / far)]))) := by
    simp only [setD, e]
    rw [show ([PyData.int p] : List PyData).length = 1 from rfl, ixN_0 (by omega)]
    rfl
  have v0 : ∀ m, eVar 0 [some (.obj kp), some (.d (.int far)), m] = rt (.obj kp) := fun _ => rfl
  have v1 : ∀ m, eVar 1 [some (.obj kp), some (.d (.int far)), m] = rt (.d (.int far)) := fun _ => rfl
  refine mkFn_val (env' := [some (.obj kp), some (.d (.int far)), some (.d (.int (p % far)))]) ?_
  show b__law_take [some (.obj kp), some (.d (.int far)), none] h = _
  unfold b__law_take
  have s1 : sSet (.nm 2) (e2 oMod (e2 oIx (eVar 0) (eC (.int 0))) (eVar 1)) [some (.obj kp), some (.d (.int far)), none] h = some (.val (.nx, [some (.obj kp), some (.d (.int far)), some (.d (.int (p % far)))]) h) := by
    simp only [sSet, e2, v0, v1, eC, bnd_rt]
    rw [bnd_assoc, bnd_val ix, mod_p h0, bnd_rt]
    rfl
  rw [seq_nx s1]
  have s2 : sSetIx (eVar 0) (eC (.int 0)) (e2 oDiv (e2 oIx (eVar 0) (eC (.int 0))) (eVar 1)) [some (.obj kp), some (.d (.int far)), some (.d (.int (p % far)))] h = some (.val (.nx, [some (.obj kp), some (.d (.int far)), some (.d (.int (p % far)))]) (h.set kp (.lst [.int (p / far)]))) := by
    simp only [sSetIx, e2, v0, v1, eC, bnd_rt]
    rw [bnd_assoc, bnd_val ix, div_p h0 h1, bnd_rt]
    rw [bnd_val hs]
    rfl
  rw [seq_nx s2]
  rfl
theorem potB_ok (cell a : Int) (b c : Option M) (i : Nat) (hi : i < 64) : ∃ a' b' c', b__law_pot_c_1 [some (.d (.int cell)), some (.d (.int a)), some (.d (.int (0 + (i : Int)))), c] = rt (.nx, [some (.d (.int cell)), some (.d (.int a')), b', c']) := by
  have hmore := Int.emod_lt_of_pos ((cell % 2147483629 + 7919 * (0 + (i : Int)) + 1) * 48271) (show (0 : Int) < 2147483647 by decide)
  have hmore0 := Int.emod_nonneg ((cell % 2147483629 + 7919 * (0 + (i : Int)) + 1) * 48271) (show (2147483647 : Int) ≠ 0 by decide)
  have m1 : (0 + (i : Int)).natAbs < 18446744073709551616 := by omega
  have m2 : ((cell % 2147483629 + 7919 * (0 + (i : Int)) + 1) * 48271 % 2147483647).natAbs < 18446744073709551616 := by omega
  apply Exists.intro
  apply Exists.intro
  apply Exists.intro
  · unfold b__law_pot_c_1
    simp only [sSeq, sSet, e2, eVar, eC, List.set_cons_succ, List.set_cons_zero, List.getElem?_cons_zero, List.getElem?_cons_succ, bnd_rt, mod_p (show (0 : Int) < 2147483629 by decide), mul_r m1, add_i, mul_r (show (48271 : Int).natAbs < 18446744073709551616 by decide), mod_p (show (0 : Int) < 2147483647 by decide), Pat.asg, mul_r m2, mod_p (show (0 : Int) < 2147483587 by decide), mul_r (show (2147483587 : Int).natAbs < 18446744073709551616 by decide)]
    rfl
theorem pot_ok (cell : Int) (h : Hh) (hf : flatH h) : ∃ p, m__law_pot_c [.d (.int cell)] h = some (.val (.obj h.length) (h ++ [.lst [.int p]])) := by
  have body : ∃ p env, b__law_pot_c [some (.d (.int cell)), none, none, none] h = some (.val (.rt (.obj h.length), env) (h ++ [.lst [.int p]])) := by
    unfold b__law_pot_c
    by_cases hc : (10 : Int) ^ 18 ≤ cell
    · refine ⟨cell - 10 ^ 18, [some (.d (.int cell)), none, none, none], ?_⟩
      have t : bO (e2 oGe (eVar 0) (e2 oPow (eC (.int 10)) (eC (.int 18)))) [some (.d (.int cell)), none, none, none] = rt true := by
        simp only [bO, e2, eVar, eC, List.getElem?_cons_zero, bnd_rt, pow_18, ge_i, asB_b, decide_eq_true hc]
      refine seq_rt ?_
      rw [if_T t]
      refine ret_val ?_
      simp only [eCell, nLst, aCons, aNil, e2, eVar, eC, List.getElem?_cons_zero, pow_18, sub_i, bnd_rt]
      rfl
    · have t : bO (e2 oGe (eVar 0) (e2 oPow (eC (.int 10)) (eC (.int 18)))) [some (.d (.int cell)), none, none, none] = rt false := by
        simp only [bO, e2, eVar, eC, List.getElem?_cons_zero, bnd_rt, pow_18, ge_i, asB_b, decide_eq_false hc]
      have r : iRng1F (aCons (eC (.int 64)) aNil) [some (.d (.int cell)), some (.d (.int 0)), none, none] = rt (rngM 0 64) := rfl
      obtain ⟨env', h', e, ⟨a, b, c, e2⟩, e3⟩ := forL_inv (fun env h' => (∃ a b c, env = [some (.d (.int cell)), some (.d (.int a)), b, c]) ∧ h' = h) (p := .nm 2) (body := b__law_pot_c_1)
        (xs := (List.range 64).map fun (i : Nat) => M.d (.int (0 + (i : Int)))) (env := [some (.d (.int cell)), some (.d (.int 0)), none, none]) (h := h) ⟨⟨0, none, none, rfl⟩, rfl⟩ (by
          rintro m hm env h1 ⟨⟨a, b, c, rfl⟩, rfl⟩
          obtain ⟨i, hi, rfl⟩ := List.mem_map.mp hm
          obtain ⟨a', b', c', e⟩ := potB_ok cell a b c i (List.mem_range.mp hi)
          exact ⟨_, _, h1, rfl, congrFun e h1, ⟨a', b', c', rfl⟩, rfl⟩)
      subst e2 e3
      refine ⟨a, [some (.d (.int cell)), some (.d (.int a)), b, c], ?_⟩
      rw [seq_nx (congrFun (if_F t) h')]
      rw [seq_nx (congrFun (set_rt (p := .nm 1) (f := eC (.int 0)) rfl rfl) h')]
      refine (seq_nx ((for_vals (h' := h') (xs := (List.range 64).map fun (i : Nat) => M.d (.int (0 + (i : Int)))) (congrFun r h')).trans e)).trans ?_
      rfl
  obtain ⟨p, env, e⟩ := body
  exact ⟨p, mkFnS_1 (l := []) (mkFn_val (n := 4) (g := b__law_pot_c) e) rfl hf⟩
/-- a whole number from the script, or nought -/
theorem cell_ok (ns : List Int) (k : Int) (h0 : 0 ≤ k) : ∃ c, m__law_cell_at [.scr ns, .d (.int k)] = rt (.d (.int c)) := by
  have e2 : eB nLen (aCons (eVar 0) aNil) [some (.scr ns), some (.d (.int k))] = rt (.d (.int (ns.length : Int))) := rfl
  by_cases hk : k < (ns.length : Int)
  · obtain ⟨n, rfl⟩ : ∃ n : Nat, k = n := ⟨k.toNat, by omega⟩
    have hn : n < ns.length := by omega
    have e1 : oIxS (.scr ns) (.d (.int n)) = rt (.d (.int ns[n])) := by
      simp only [oIxS, atI_nat (List.getElem?_eq_getElem hn), Option.map_some]
      rfl
    have e3 : bO (G.e2 oLt (eVar 1) (eB nLen (aCons (eVar 0) aNil))) [some (.scr ns), some (.d (.int n))] = rt true := by
      simp only [bO, G.e2, e2, eVar, List.getElem?_cons_succ, List.getElem?_cons_zero, bnd_rt, lt_i, asB_b, decide_eq_true hk]
    refine ⟨ns[n], mkFn_rt (env' := [some (.scr ns), some (.d (.int n))]) ?_⟩
    show b__law_cell_at [some (.scr ns), some (.d (.int n))] = _
    unfold b__law_cell_at
    refine seq_rt' ?_
    rw [if_T e3]
    exact ret_rt (by simp only [G.e2, eVar, List.getElem?_cons_succ, List.getElem?_cons_zero, bnd_rt, e1])
  · have e3 : bO (G.e2 oLt (eVar 1) (eB nLen (aCons (eVar 0) aNil))) [some (.scr ns), some (.d (.int k))] = rt false := by
      simp only [bO, G.e2, e2, eVar, List.getElem?_cons_succ, List.getElem?_cons_zero, bnd_rt, lt_i, asB_b, decide_eq_false hk]
    refine ⟨0, mkFn_rt (env' := [some (.scr ns), some (.d (.int k))]) ?_⟩
    show b__law_cell_at [some (.scr ns), some (.d (.int k))] = _
    unfold b__law_cell_at
    rw [seq_nx' (if_F e3)]
    exact ret_rt rfl
end Q

/-! drawing numbers -/
namespace Q
open PySem PySem.Spec L2 G PySem.W
theorem draw {kp i : Nat} {env : G.Env} {f : ES} {a b : Int} (e : env[i]? = some (some (.obj kp))) (hf : Gen kp (f env) (IntIn a b)) (ha : 1 ≤ a) (hb : b < 1329227995784915872903807060280344576) : Gen kp (eCall 2 m__law_take (aCons (eVar i) (aCons f aNil)) env) (IntIn 0 (b - 1)) := by
  refine Gen.call (A := fun ms => ∃ far : Int, ms = [.obj kp, .d (.int far)] ∧ a ≤ far ∧ far ≤ b) ?_ (fun ms ⟨far, e, _⟩ => by rw [e]; rfl) fun ms ⟨far, e, h1, h2⟩ => by
    subst e
    exact (take_ok (by omega) (by omega)).mono fun m h => h.mono (Int.le_refl _) (by omega)
  refine Gen.bnd (gen_var (P := fun m => m = .obj kp) e rfl) fun m hm => ?_
  subst hm
  refine Gen.bnd (Gen.bnd hf fun m ⟨far, e, h⟩ => ?_ : Gen kp (aCons f aNil env) fun ms => ∃ far : Int, ms = [.d (.int far)] ∧ a ≤ far ∧ far ≤ b) fun ms ⟨far, e, h⟩ => ?_
  · subst e
    exact Gen.rt ⟨far, rfl, h⟩
  · subst e
    exact Gen.rt ⟨far, rfl, h⟩
/-- .. of a plain number -/
theorem drawC {kp i : Nat} {env : G.Env} {n : Int} (e : env[i]? = some (some (.obj kp))) (ha : 1 ≤ n) (hb : n < 1329227995784915872903807060280344576) : Gen kp (eCall 2 m__law_take (aCons (eVar i) (aCons (eC (.int n)) aNil)) env) (IntIn 0 (n - 1)) := draw e gen_int ha hb
theorem pick2 {kp i : Nat} {env : G.Env} {x y a b : Int} (e : env[i]? = some (some (.obj kp))) (h : (a ≤ x ∧ x ≤ b) ∧ a ≤ y ∧ y ≤ b) : Gen kp (e2 oIx (eVal (nLst (aCons (eC (.int x)) (aCons (eC (.int y)) aNil)))) (eCall 2 m__law_take (aCons (eVar i) (aCons (eC (.int 2)) aNil))) env) (IntIn a b) :=
  gen_pickI (gen_consI (gen_intW h.1.1 h.1.2) (gen_consI (gen_intW h.2.1 h.2.2) gen_nilI)) (drawC e (by decide) (by decide)) (by decide) (by decide) (by decide)
theorem pick3 {kp i : Nat} {env : G.Env} {x y z a b : Int} (e : env[i]? = some (some (.obj kp))) (h : (a ≤ x ∧ x ≤ b) ∧ (a ≤ y ∧ y ≤ b) ∧ a ≤ z ∧ z ≤ b) : Gen kp (e2 oIx (eVal (nLst (aCons (eC (.int x)) (aCons (eC (.int y)) (aCons (eC (.int z)) aNil))))) (eCall 2 m__law_take (aCons (eVar i) (aCons (eC (.int 3)) aNil))) env) (IntIn a b) :=
  gen_pickI (gen_consI (gen_intW h.1.1 h.1.2) (gen_consI (gen_intW h.2.1.1 h.2.1.2) (gen_consI (gen_intW h.2.2.1 h.2.2.2) gen_nilI))) (drawC e (by decide) (by decide)) (by decide) (by decide) (by decide)
theorem pick4 {kp i : Nat} {env : G.Env} {x y z u a b : Int} (e : env[i]? = some (some (.obj kp))) (h : (a ≤ x ∧ x ≤ b) ∧ (a ≤ y ∧ y ≤ b) ∧ (a ≤ z ∧ z ≤ b) ∧ a ≤ u ∧ u ≤ b) : Gen kp (e2 oIx (eVal (nLst (aCons (eC (.int x)) (aCons (eC (.int y)) (aCons (eC (.int z)) (aCons (eC (.int u)) aNil)))))) (eCall 2 m__law_take (aCons (eVar i) (aCons (eC (.int 4)) aNil))) env) (IntIn a b) :=
  gen_pickI (gen_consI (gen_intW h.1.1 h.1.2) (gen_consI (gen_intW h.2.1.1 h.2.1.2) (gen_consI (gen_intW h.2.2.1.1 h.2.2.1.2) (gen_consI (gen_intW h.2.2.2.1 h.2.2.2.2) gen_nilI)))) (drawC e (by decide) (by decide)) (by decide) (by decide) (by decide)
end Q

/-! things that are odd; a part of a thing otherwise -/
namespace Q
open PySem PySem.Spec L2 G PySem.W
abbrev BIG : Nat := 10 ^ 31
def oddL : List PyData := [.none, .bool true, .bool false, .int (-1), .int (10 ^ 30), .str "", .str "a", .str "1", .tuple [], .list [], .dict [], .list [.tuple []], .tuple [.tuple []], .tuple [.int 0], .list [.int 0], .dict [(.int 0, .int 1)], .tuple [.bool true, .bool true]]
theorem odd_bd : ∀ x ∈ oddL, Bd BIG 2 4000 x := by
  intro x hx
  simp only [oddL, List.mem_cons, List.not_mem_nil, or_false] at hx
  rcases hx with h | h | h | h | h | h | h | h | h | h | h | h | h | h | h | h | h <;> subst h <;> exact ⟨by decide +kernel, by decide +kernel, by decide +kernel⟩
theorem atI_in {α : Type} {xs : List α} {i : Int} (h0 : 0 ≤ i) (h1 : i < (xs.length : Int)) : ∃ x, atI xs i = some x ∧ x ∈ xs := by
  obtain ⟨j, rfl⟩ : ∃ j : Nat, i = j := ⟨i.toNat, by omega⟩
  have hj : j < xs.length := by omega
  exact ⟨xs[j], atI_nat (List.getElem?_eq_getElem hj), List.getElem_mem hj⟩
theorem gen_pickD {kp : Nat} {env : G.Env} {fs f : ES} {ds : List PyData} {P : PyData → Prop} (hf : fs env = rt (.d (.list ds))) (hg : Gen kp (f env) (IntIn 0 (ds.length - 1))) (hp : ∀ x ∈ ds, P x) : Gen kp (e2 oIx fs f env) (DatM P) := by
  unfold e2
  rw [hf, bnd_rt]
  refine Gen.bnd hg fun m ⟨i, e, h0, h1⟩ => ?_
  subst e
  obtain ⟨x, ex, hx⟩ := atI_in (xs := ds) (i := i) h0 (by omega)
  have e3 : oIx (.d (.list ds)) (.d (.int i)) = G.rt (M.d x) := by
    funext h
    show (match tupM (.d (.list ds)) with | some ms => opt (atI ms i) h | none => match lstM h (.d (.list ds)) with | some ms => opt (atI ms i) h | none => none) = _
    simp only [tupM, lstM, atI_mapD ex]
    rfl
  rw [e3]
  exact Gen.rt ⟨x, rfl, hp x hx⟩
theorem odd_gen {kp : Nat} : Gen kp (m__law_odd [.obj kp]) (DatM (Bd BIG 2 4000)) := by
  refine gen_fn ?_
  show Gen kp (b__law_odd [some (.obj kp), none]) _
  unfold b__law_odd
  refine gen_set (P := fun m => m = .d (.list oddL)) (Gen.all (a := .d (.list oddL)) rfl rfl) ?_
  rintro _ rfl
  have e : eVar 1 ([some (.obj kp), none].set 1 (some (.d (.list oddL)))) = rt (.d (.list oddL)) := rfl
  refine gen_ret (gen_pickD e ?_ odd_bd)
  have := draw (kp := kp) (i := 0) (env := [some (.obj kp), some (.d (.list oddL))]) (f := eB nLen (aCons (eVar 1) aNil)) (a := 17) (b := 17) rfl (Gen.all (a := .d (.int 17)) rfl ⟨17, rfl, by decide, by decide⟩) (by decide) (by decide)
  exact this
/-- what a bent thing is bounded by -/
abbrev Bn (B k n : Nat) : PyData → Prop := Bd (B + 10000) (k + 2) (3 * n + 4100)
theorem add_int {kp : Nat} {env : G.Env} {f g : ES} {i a b : Int} (hf : f env = rt (.d (.int i))) (hg : Gen kp (g env) (IntIn a b)) : Gen kp (e2 oAdd f g env) (IntIn (i + a) (i + b)) := by
  unfold e2
  rw [hf, bnd_rt]
  refine Gen.bnd hg fun m ⟨j, e, h0, h1⟩ => ?_
  subst e
  exact Gen.all add_i ⟨i + j, rfl, by omega, by omega⟩
theorem gen_consM {kp : Nat} {env : G.Env} {f : ES} {fs : G.Env → Sm (List M)} {A : PyData → Prop} {P Q : List PyData → Prop} (hf : Gen kp (f env) (DatM A)) (hs : Gen kp (fs env) (DatL P)) (k : ∀ x xs, A x → P xs → Q (x :: xs)) : Gen kp (aCons f fs env) (DatL Q) :=
  Gen.bnd hf fun m ⟨x, e, px⟩ => Gen.bnd hs fun ms ⟨xs, e2, pxs⟩ => by
    subst e e2
    exact Gen.rt ⟨x :: xs, rfl, k x xs px pxs⟩
theorem gen_nilM {kp : Nat} {env : G.Env} {P : List PyData → Prop} (p : P []) : Gen kp (aNil env) (DatL P) := Gen.rt ⟨[], rfl, p⟩
theorem gen_pickG {kp : Nat} {env : G.Env} {fs : G.Env → Sm (List M)} {f : ES} {n : Nat} {P : PyData → Prop} (hs : Gen kp (fs env) (DatL fun ds => ds.length = n ∧ ∀ x ∈ ds, P x)) (hn : n ≤ 1000) (hg : Gen kp (f env) (IntIn 0 (n - 1))) : Gen kp (e2 oIx (eVal (nLst fs)) f env) (DatM P) := by
  unfold e2 eVal nLst
  rw [bnd_assoc, bnd_assoc]
  refine Gen.bnd hs fun ms ⟨ds, e, hl, hp⟩ => ?_
  subst e
  rw [if_pos (show (ds.map M.d).length ≤ LIM by rw [List.length_map]; show ds.length ≤ 16777216; omega), bnd_rt]
  simp only [asDs_map, bnd_rt]
  have := gen_pickD (kp := kp) (env := env) (fs := fun _ => rt (.d (.list ds))) (f := f) (ds := ds) (P := P) rfl (hg.mono fun m h => by rw [hl]; exact h) hp
  exact this
theorem gen_addT {kp : Nat} {env : G.Env} {f g : ES} {A B P : List PyData → Prop} (hf : Gen kp (f env) (fun m => ∃ xs, m = .d (.tuple xs) ∧ A xs)) (hg : Gen kp (g env) (fun m => ∃ xs, m = .d (.tuple xs) ∧ B xs)) (k : ∀ xs ys, A xs → B ys → xs.length + ys.length ≤ 16777216 ∧ P (xs ++ ys)) : Gen kp (e2 oAdd f g env) (fun m => ∃ xs, m = .d (.tuple xs) ∧ P xs) :=
  Gen.bnd hf fun m ⟨xs, e1, a⟩ => Gen.bnd hg fun m' ⟨ys, e2, b⟩ => by
    subst e1 e2
    obtain ⟨hl, p⟩ := k xs ys a b
    have := add_t (f := fun _ => rt (.d (.tuple xs))) (g := fun _ => rt (.d (.tuple ys))) (env := env) rfl rfl hl
    unfold e2 at this
    simp only [bnd_rt] at this
    exact Gen.all this ⟨xs ++ ys, rfl, p⟩
theorem zL_len : ∀ xs : List PyData, 2 * xs.length ≤ zL xs
  | [] => Nat.le_refl _
  | x :: xs => by
    have := zL_len xs
    simp only [List.length_cons, zL]
    omega
theorem _root_.G.BdL.len {B k n : Nat} {ds : List PyData} (h : BdL B k n ds) : 2 * ds.length ≤ n := Nat.le_trans (zL_len ds) h.sz
theorem bd_tupI {B k n : Nat} {xs : List PyData} (h : Bd B k n (.tuple xs)) : BdL B (k - 1) (n - 3) xs ∧ 1 ≤ k ∧ 3 ≤ n := by
  obtain ⟨h1, h2, h3⟩ := h
  simp only [PyData.depth] at h2
  simp only [zD] at h3
  exact ⟨⟨h1, by omega, by omega⟩, by omega, by omega⟩
theorem list_rt {f : ES} {env : G.Env} {xs : List PyData} (h : f env = rt (.d (.tuple xs))) : eVal (nList (aCons f aNil)) env = rt (.d (.list xs)) := by
  have e : nList (aCons f aNil) env = rt (xs.map M.d) := by
    unfold nList nB
    rw [one_rt h, bnd_rt]
    funext hh
    simp only [opList, seqM, tupM]
    rfl
  unfold eVal
  rw [e, bnd_rt, asDs_map]
theorem gen_ifR {kp : Nat} {t : G.Env → Sm Bool} {B : Bool → Prop} {g1 g2 : SS} {env : G.Env} {P : M → Prop} (ht : Gen kp (t env) B) (h1 : B true → Gen kp (g1 env) fun r => ∃ m, r.1 = .rt m ∧ P m) (h2 : B false → Gen kp (g2 env) fun r => ∃ m, r.1 = .rt m ∧ P m) :
    Gen kp (sSeq (sIf t g1 sNil) g2 env) fun r => ∃ m, r.1 = .rt m ∧ P m := by
  unfold sSeq sIf
  rw [bnd_assoc]
  refine Gen.bnd ht fun b pb => ?_
  cases b with
  | true =>
    rw [if_pos rfl]
    refine Gen.bnd (h1 pb) ?_
    rintro ⟨fl, env'⟩ ⟨m, e, p⟩
    have e : fl = .rt m := e
    subst e
    exact Gen.rt ⟨m, rfl, p⟩
  | false =>
    rw [if_neg Bool.false_ne_true]
    exact h2 pb
theorem gen_test {kp : Nat} {f g : ES} {env : G.Env} {op : Op2} {a b c d : Int} (hf : Gen kp (f env) (IntIn a b)) (hg : Gen kp (g env) (IntIn c d)) (ho : ∀ i j : Int, ∃ k, op (.d (.int i)) (.d (.int j)) = rt (.d (.bool k))) : Gen kp (bO (e2 op f g) env) (fun _ => True) := gen_bO (gen_cmp hf hg ho)
theorem gen_bAndT {kp : Nat} {f g : G.Env → Sm Bool} {env : G.Env} (hf : f env = rt true) (hg : Gen kp (g env) fun _ => True) : Gen kp (bAnd f g env) fun _ => True := by
  unfold bAnd
  rw [hf, bnd_rt, if_pos rfl]
  exact hg
theorem bAnd_f {f g : G.Env → Sm Bool} {env : G.Env} (hf : f env = rt false) : bAnd f g env = rt false := by
  unfold bAnd
  rw [hf, bnd_rt, if_neg Bool.false_ne_true]
end Q

/-! things put together without drawing: what they are bounded by; loops that may return -/
namespace Q
open PySem PySem.Spec L2 G PySem.W
/-- a thing / a tuple / things, bounded -/
def PB (f : ES) (env : G.Env) (k n : Nat) : Prop := ∃ y, f env = rt (.d y) ∧ Bd BIG k n y
def TB (f : ES) (env : G.Env) (k n : Nat) : Prop := ∃ xs, f env = rt (.d (.tuple xs)) ∧ BdL BIG k n xs
def AB (fs : G.Env → Sm (List M)) (env : G.Env) (k n m : Nat) : Prop := ∃ ds : List PyData, fs env = rt (ds.map M.d) ∧ BdL BIG k n ds ∧ ds.length = m
section
variable {env : G.Env} {f g : ES} {fs : G.Env → Sm (List M)} {k n k' n' m : Nat}
theorem PB.mono (h : PB f env k n) (h1 : k ≤ k') (h2 : n ≤ n') : PB f env k' n' := let ⟨y, e, b⟩ := h; ⟨y, e, b.mono (Nat.le_refl _) h1 h2⟩
theorem TB.pb (h : TB f env k n) : PB f env (k + 1) (n + 3) := let ⟨xs, e, b⟩ := h; ⟨_, e, bd_tup b⟩
theorem ab_nil : AB aNil env 0 0 0 := ⟨[], rfl, bdl_nil, rfl⟩
theorem ab_cons (h : PB f env k n) (hs : AB fs env k' n' m) : AB (aCons f fs) env (max k k') (n + 2 + n') (m + 1) := by
  obtain ⟨y, e, b⟩ := h
  obtain ⟨ds, e2, b2, hl⟩ := hs
  refine ⟨y :: ds, ?_, bdl_cons (b.mono (Nat.le_refl _) (Nat.le_max_left _ _) (Nat.le_refl _)) (b2.mono (Nat.le_refl _) (Nat.le_max_right _ _) (Nat.le_refl _)), by rw [List.length_cons, hl]⟩
  unfold aCons
  rw [e, bnd_rt, e2]
  rfl
theorem tb_tup (h : AB fs env k n m) (hm : m ≤ 1000) : TB (eTup fs) env k n := by
  obtain ⟨ds, e, b, hl⟩ := h
  refine ⟨ds, ?_, b⟩
  unfold eTup
  rw [e, bnd_rt]
  have : (if (ds.map M.d).length ≤ LIM then rt (mkTup (ds.map M.d)) else fail) = rt (.d (.tuple ds)) := by
    rw [if_pos (show (ds.map M.d).length ≤ LIM by rw [List.length_map]; show ds.length ≤ 16777216; omega), mkTup_ds]
  exact this
theorem tb_add (h : TB f env k n) (h2 : TB g env k' n') (hn : n + n' ≤ 33000000) : TB (e2 oAdd f g) env (max k k') (n + n') := by
  obtain ⟨xs, e, b⟩ := h
  obtain ⟨ys, e2, b2⟩ := h2
  refine ⟨xs ++ ys, add_t e e2 ?_, bdl_app (b.mono (Nat.le_refl _) (Nat.le_max_left _ _) (Nat.le_refl _)) (b2.mono (Nat.le_refl _) (Nat.le_max_right _ _) (Nat.le_refl _))⟩
  have := b.len
  have := b2.len
  omega
theorem tb_sl {lo hi : Option ES} {l u : Option Int} (h : TB f env k n) (hlo : oPart lo env = rt l) (hhi : oPart hi env = rt u) : TB (eSl f lo hi) env k n := by
  obtain ⟨xs, e, b⟩ := h
  exact ⟨_, slice_t e hlo hhi, b.cut l u⟩
theorem bdl_rep {xs : List PyData} {j : Nat} (b : BdL BIG k n xs) : BdL BIG k (j * n) (List.replicate j xs).flatten := by
  induction j with
  | zero => exact bdl_nil.mono (Nat.le_refl _) (Nat.le_refl _) (Nat.zero_le _)
  | succ j ih =>
    rw [List.replicate_succ, List.flatten_cons]
    exact (bdl_app b ih).mono (Nat.le_refl _) (Nat.le_refl _) (by rw [Nat.succ_mul]; omega)
theorem tb_rep {xs : List PyData} {j : Nat} (e : f env = rt (.d (.tuple xs))) (b : BdL BIG k n xs) (h0 : xs ≠ []) (h1 : xs.length ≤ 1000) (h2 : 2 ≤ j) (h3 : j ≤ 1000) : TB (e2 oMulT f (eC (.int (j : Int)))) env k (j * n) := by
  refine ⟨(List.replicate j xs).flatten, ?_, bdl_rep b⟩
  unfold e2
  rw [e, bnd_rt]
  show oMulT (.d (.tuple xs)) (.d (.int (j : Int))) = _
  funext hh
  simp only [oMulT, tupM, List.length_map, Int.toNat_natCast]
  rw [if_pos (by
    simp only [Bool.and_eq_true, decide_eq_true_eq]
    exact ⟨fun h => h0 (List.length_eq_zero_iff.mp h), by omega, by omega, h1⟩)]
  rw [show (List.replicate j (xs.map M.d)).flatten = ((List.replicate j xs).flatten).map M.d by rw [List.map_flatten, List.map_replicate], mkTup_ds]
  rfl
theorem pb_var {i : Nat} {x : PyData} (e : env[i]? = some (some (.d x))) (b : Bd BIG k n x) : PB (eVar i) env k n := ⟨x, var_rt e, b⟩
theorem tb_var {i : Nat} {xs : List PyData} (e : env[i]? = some (some (.d (.tuple xs)))) (b : BdL BIG k n xs) : TB (eVar i) env k n := ⟨xs, var_rt e, b⟩
theorem pb_int {i : Int} (h : i.natAbs ≤ BIG := by decide) : PB (eC (.int i)) env 0 1921 := ⟨_, rfl, bd_int h⟩
/-- a list of bounded things -/
def LB (fs : G.Env → Sm (List M)) (env : G.Env) (k n m : Nat) : Prop := ∃ ds : List PyData, fs env = rt (ds.map M.d) ∧ ds.length = m ∧ ∀ x ∈ ds, Bd BIG k n x
theorem LB.mono (h : LB fs env k n m) (h1 : k ≤ k') (h2 : n ≤ n') : LB fs env k' n' m := let ⟨ds, e, l, b⟩ := h; ⟨ds, e, l, fun x hx => (b x hx).mono (Nat.le_refl _) h1 h2⟩
/-- [el for x in xs], nothing drawn -/
theorem lb_comp {el : ES} {i : Nat} {itf : G.Env → Sm SIt} {xs : List PyData} (hi : itf env = rt (.vals (xs.map M.d))) (hl : xs.length < 1000000) (he : ∀ x ∈ xs, PB el ((wipeE env [i]).set i (some (.d x))) k n) : LB (nComp itf (.nm i) bYes el [i]) env k n xs.length := by
  have : ∀ x, ∃ y, x ∈ xs → el ((wipeE env [i]).set i (some (.d x))) = rt (.d y) ∧ Bd BIG k n y := fun x => by
    by_cases hx : x ∈ xs
    · obtain ⟨y, e, b⟩ := he x hx
      exact ⟨y, fun _ => ⟨e, b⟩⟩
    · exact ⟨.none, fun h => absurd h hx⟩
  obtain ⟨g, hg⟩ := Classical.axiomOfChoice this
  refine ⟨xs.map g, ?_, List.length_map _, fun y hy => ?_⟩
  · have := comp_map (fun x => M.d x) (fun _ => true) (fun x => M.d (g x)) (itf := itf) (vs := [i]) (p := .nm i) (tt := bYes) (el := el) (env := env) (ys := xs) hi (by show _ < 16777216; omega) fun x hx => ⟨_, rfl, rfl, fun _ => (hg x hx).1⟩
    rw [filter_true] at this
    rw [this, List.map_map]
    rfl
  · obtain ⟨x, hx, rfl⟩ := List.mem_map.mp hy
    exact (hg x hx).2
theorem lb_val (h : LB fs env k n m) : ∃ ds, eVal fs env = rt (.d (.list ds)) ∧ ds.length = m ∧ ∀ x ∈ ds, Bd BIG k n x := by
  obtain ⟨ds, e, l, b⟩ := h
  refine ⟨ds, ?_, l, b⟩
  unfold eVal
  rw [e, bnd_rt, asDs_map]
theorem seqL_rt {xs : List PyData} (h : f env = rt (.d (.list xs))) : iSeqF f env = rt (.vals (xs.map M.d)) := by
  unfold iSeqF
  rw [h, bnd_rt]
  rfl
end
theorem ge_is {f g : ES} {env : G.Env} {i j : Int} (h : f env = rt (.d (.int i))) (h2 : g env = rt (.d (.int j))) : e2 oGe f g env = rt (.d (.bool (decide (j ≤ i)))) := by simp only [e2, h, h2, bnd_rt, ge_i]
/-! ### a loop that may return -/
def runS {α σ : Type} (stp : σ → α → Option σ) : σ → List α → Option σ
  | c, [] => some c
  | c, a :: r => match stp c a with
    | none => none
    | some c' => runS stp c' r
def OptP {σ : Type} (o : Option σ) (A : Prop) (B : σ → Prop) : Prop := match o with
  | none => A
  | some c => B c
theorem forL_run {α σ : Type} (inj : α → M) (r : M) (stp : σ → α → Option σ) (I : σ → G.Env → Prop) {p : Pat} {body : SS} : ∀ (ys : List α) (c : σ) (env : G.Env), I c env →
    (∀ a ∈ ys, ∀ c env, I c env → ∃ env1 env2, p.asg (inj a) env = some env1 ∧ OptP (stp c a) (body env1 = rt (.rt r, env2)) fun c' => body env1 = rt (.nx, env2) ∧ I c' env2) →
    ∃ env', OptP (runS stp c ys) (forL p body (ys.map inj) env = rt (.rt r, env')) fun c' => forL p body (ys.map inj) env = rt (.nx, env') ∧ I c' env'
  | [], c, env, i, _ => ⟨env, rfl, i⟩
  | a :: ys, c, env, i, st => by
    obtain ⟨env1, env2, e1, e2⟩ := st a (List.mem_cons_self ..) c env i
    unfold runS
    cases hs : stp c a with
    | none =>
      rw [hs] at e2
      have e2 : body env1 = rt (.rt r, env2) := e2
      refine ⟨env2, ?_⟩
      show forL p body ((a :: ys).map inj) env = _
      rw [List.map_cons, forL, e1]
      simp only
      rw [e2, bnd_rt]
      rfl
    | some c' =>
      rw [hs] at e2
      have e2 : body env1 = rt (.nx, env2) ∧ I c' env2 := e2
      obtain ⟨env', e3⟩ := forL_run inj r stp I ys c' env2 e2.2 fun b hb => st b (List.mem_cons_of_mem _ hb)
      refine ⟨env', ?_⟩
      simp only
      have e4 : forL p body ((a :: ys).map inj) env = forL p body (ys.map inj) env2 := by
        rw [List.map_cons, forL, e1]
        simp only
        rw [e2.1, bnd_rt]
        rfl
      rw [e4]
      exact e3
theorem filter_not {α : Type} (p : α → Bool) : ∀ xs : List α, (xs.filter fun x => !p x).isEmpty = xs.all p
  | [] => rfl
  | x :: xs => by
    rw [List.filter_cons, List.all_cons]
    cases h : p x with
    | true => simp only [Bool.not_true, Bool.false_eq_true, if_false, Bool.true_and]; exact filter_not p xs
    | false => simp
end Q

/-! lists that are walked: all, any, pairs -/
namespace Q
open PySem PySem.Spec L2 G PySem.W
theorem filt_any {α β : Type} (q : α → Bool) (gg : α → β) : ∀ xs : List α, (!((xs.filter q).map gg).isEmpty) = xs.any q
  | [] => rfl
  | x :: xs => by
    rw [List.filter_cons, List.any_cons]
    cases hq : q x with
    | true => rfl
    | false => simp only [Bool.false_eq_true, if_false, Bool.false_or]; exact filt_any q gg xs
section
variable {env : G.Env} {f g el : ES} {i : Nat}
/-- all([el for x in xs]) over what is walked -/
theorem all_v {α : Type} (inj : α → M) {itf : G.Env → Sm SIt} {p : Pat} {vs : List Nat} {xs : List α} (q : α → Bool) (h : itf env = rt (.vals (xs.map inj))) (hl : xs.length < 16777216) (he : ∀ x ∈ xs, ∃ env1, p.asg (inj x) (wipeE env vs) = some env1 ∧ el env1 = rt (.d (.bool (q x)))) : eB nAll (aCons (eVal (nComp itf p bYes el vs)) aNil) env = rt (.d (.bool (xs.all q))) := by
  have hv := comp_valT inj (fun x => PyData.bool (q x)) (itf := itf) (vs := vs) (p := p) (el := el) (env := env) (ys := xs) h hl he
  rw [show (xs.map fun x => PyData.bool (q x)) = (xs.map q).map PyData.bool by rw [List.map_map]; rfl] at hv
  simp only [eB, aCons, aNil, hv, bnd_rt, all_bs]
  rw [List.all_map]
  rfl
theorem any_v {α : Type} (inj : α → M) {itf : G.Env → Sm SIt} {p : Pat} {vs : List Nat} {xs : List α} (q : α → Bool) (h : itf env = rt (.vals (xs.map inj))) (hl : xs.length < 16777216) (he : ∀ x ∈ xs, ∃ env1, p.asg (inj x) (wipeE env vs) = some env1 ∧ el env1 = rt (.d (.bool (q x)))) : eB nAny (aCons (eVal (nComp itf p bYes el vs)) aNil) env = rt (.d (.bool (xs.any q))) := by
  have hv := comp_valT inj (fun x => PyData.bool (q x)) (itf := itf) (vs := vs) (p := p) (el := el) (env := env) (ys := xs) h hl he
  rw [show (xs.map fun x => PyData.bool (q x)) = (xs.map q).map PyData.bool by rw [List.map_map]; rfl] at hv
  simp only [eB, aCons, aNil, hv, bnd_rt, any_bs]
  rw [List.any_map]
  rfl
/-- [el for x in xs if t] != [] -/
theorem some_v {α : Type} (inj : α → M) (gg : α → PyData) {itf : G.Env → Sm SIt} {p : Pat} {vs : List Nat} {t : G.Env → Sm Bool} {xs : List α} (q : α → Bool) (h : itf env = rt (.vals (xs.map inj))) (hl : xs.length < 16777216) (he : ∀ x ∈ xs, ∃ env1, p.asg (inj x) (wipeE env vs) = some env1 ∧ t env1 = rt (q x) ∧ (q x = true → el env1 = rt (.d (gg x)))) : e2 oNe (eVal (nComp itf p t el vs)) (eVal (nLst aNil)) env = rt (.d (.bool (xs.any q))) := by
  have hv := comp_val inj q gg (itf := itf) (vs := vs) (p := p) (tt := t) (el := el) (env := env) (ys := xs) h hl he
  rw [nil_ne hv, filt_any]
/-- [el for x in xs if t] == [] -/
theorem none_v {α : Type} (inj : α → M) (gg : α → PyData) {itf : G.Env → Sm SIt} {p : Pat} {vs : List Nat} {t : G.Env → Sm Bool} {xs : List α} (q : α → Bool) (h : itf env = rt (.vals (xs.map inj))) (hl : xs.length < 16777216) (he : ∀ x ∈ xs, ∃ env1, p.asg (inj x) (wipeE env vs) = some env1 ∧ t env1 = rt (q x) ∧ (q x = true → el env1 = rt (.d (gg x)))) : e2 oEq (eVal (nComp itf p t el vs)) (eVal (nLst aNil)) env = rt (.d (.bool (!xs.any q))) := by
  have hv := comp_val inj q gg (itf := itf) (vs := vs) (p := p) (tt := t) (el := el) (env := env) (ys := xs) h hl he
  rw [nil_eq hv]
  rw [← filt_any q gg xs, Bool.not_not]
theorem seqLl {xs : List PyData} (h : f env = rt (.d (.list xs))) : iSeqF f env = rt (.vals (xs.map M.d)) := by
  unfold iSeqF
  rw [h, bnd_rt]
  rfl
theorem inL_is {a : Int} {ds : List Int} (h : f env = rt (.d (.int a))) (h2 : g env = rt (.d (.list (ds.map PyData.int)))) : e2 oIn f g env = rt (.d (.bool (decide (a ∈ ds)))) := by simp only [e2, h, h2, bnd_rt, in_L]
theorem inT_is {a : Int} {ds : List Int} (h : f env = rt (.d (.int a))) (h2 : g env = rt (.d (.tuple (ds.map PyData.int)))) : e2 oIn f g env = rt (.d (.bool (decide (a ∈ ds)))) := by simp only [e2, h, h2, bnd_rt, in_T]
theorem notinL_is {a : Int} {ds : List Int} (h : f env = rt (.d (.int a))) (h2 : g env = rt (.d (.list (ds.map PyData.int)))) : e2 oNotIn f g env = rt (.d (.bool (!decide (a ∈ ds)))) := by simp only [e2, h, h2, bnd_rt, notin_L]
theorem notinT_is {a : Int} {ds : List Int} (h : f env = rt (.d (.int a))) (h2 : g env = rt (.d (.tuple (ds.map PyData.int)))) : e2 oNotIn f g env = rt (.d (.bool (!decide (a ∈ ds)))) := by simp only [e2, h, h2, bnd_rt, notin_T]
theorem eqL_is {a b : List Int} (h : f env = rt (.d (.list (a.map PyData.int)))) (h2 : g env = rt (.d (.list (b.map PyData.int)))) : e2 oEq f g env = rt (.d (.bool (decide (a = b)))) := by
  have e := eq_D (α := List Int) (a := a) (b := b) (by exact layI a) (by exact layI b) (by decide)
  unfold e2
  rw [h, bnd_rt, h2, bnd_rt]
  exact e
theorem sortT_rt' {ns : List Int} (h : f env = rt (.d (.tuple (ns.map PyData.int)))) (hl : ns.length < 64) : eVal (nSortSet f) env = rt (.d (.list ((sortSet ns).map PyData.int))) := by
  have e : nSortSet f env = rt ((sortSet ns).map fun i => M.d (.int i)) := by
    unfold nSortSet
    rw [h, bnd_rt]
    funext hh
    have : (tupM (M.d (.tuple (ns.map PyData.int)))).bind intsM = some ns := by
      show intsM ((ns.map PyData.int).map M.d) = some ns
      rw [List.map_map]
      exact intsM_map ns
    simp only [this]
    rw [if_pos hl]
    rfl
  unfold eVal
  rw [e, bnd_rt, show ((sortSet ns).map fun i => M.d (.int i)) = ((sortSet ns).map PyData.int).map M.d by rw [List.map_map]; rfl, asDs_map]
theorem len_L {xs : List PyData} (h : f env = rt (.d (.list xs))) : eB nLen (aCons f aNil) env = rt (.d (.int (xs.length : Int))) := by
  unfold eB
  rw [one_rt h, bnd_rt]
  funext hh
  show (match lenM hh (.d (.list xs)) with | some n => some (Out.val (M.d (.int (n : Int))) hh) | none => none) = _
  have : lenM hh (.d (.list xs)) = some xs.length := by simp [lenM, seqM, tupM, lstM]
  rw [this]
  rfl
theorem seqTt {xs : List PyData} (h : f env = rt (.d (.tuple xs))) : iSeqF f env = rt (.vals (xs.map M.d)) := seqF_t h
end
/-! ### rising -/
def riseB (ns : List Int) : Bool := (ns.zip (ns.drop 1)).all fun p => decide (p.1 < p.2)
theorem riseB_iff {ns : List Int} : riseB ns = true ↔ ∀ (i : Nat) (a b : Int), ns[i]? = some a → ns[i + 1]? = some b → a < b := by
  unfold riseB
  rw [List.all_eq_true]
  constructor
  · intro h i a b e1 e2
    have : (a, b) ∈ ns.zip (ns.drop 1) := by
      refine List.mem_of_getElem? (i := i) ?_
      rw [List.getElem?_zip_eq_some]
      exact ⟨e1, by rw [List.getElem?_drop, Nat.add_comm]; exact e2⟩
    have := h _ this
    simpa using this
  · rintro h ⟨a, b⟩ hm
    obtain ⟨i, e⟩ := List.getElem?_of_mem hm
    rw [List.getElem?_zip_eq_some] at e
    have e2 := e.2
    rw [List.getElem?_drop, Nat.add_comm] at e2
    have := h i a b e.1 e2
    simpa using this
theorem zp_get {xs ys : List M} (i : Nat) (h : Hh) : (SIt.zp (.vals xs) (.vals ys)).get i h = some (((xs.zip ys).map fun p => mkTup [p.1, p.2])[i]?) := by
  simp only [SIt.get, List.getElem?_map]
  cases e1 : xs[i]? with
  | none =>
    have : (xs.zip ys)[i]? = none := by
      rw [List.getElem?_eq_none_iff] at e1 ⊢
      rw [List.length_zip]; omega
    rw [this]
    cases ys[i]? <;> rfl
  | some x =>
    cases e2 : ys[i]? with
    | none =>
      have : (xs.zip ys)[i]? = none := by
        rw [List.getElem?_eq_none_iff] at e2 ⊢
        rw [List.length_zip]; omega
      rw [this]
      rfl
    | some y =>
      have : (xs.zip ys)[i]? = some (x, y) := List.getElem?_zip_eq_some.mpr ⟨e1, e2⟩
      rw [this]
      rfl
theorem zp_cnt {xs ys : List M} (h : Hh) : (SIt.zp (.vals xs) (.vals ys)).cnt h = ((xs.zip ys).map fun p => mkTup [p.1, p.2]).length := by
  simp only [SIt.cnt, List.length_map, List.length_zip]
theorem comp_at_get {itf : G.Env → Sm SIt} {s : SIt} {L : List M} {p : Pat} {tt : G.Env → Sm Bool} {el : ES} {vs : List Nat} {env : G.Env} (e : itf env = rt s) (hs : ∀ i h, s.get i h = some L[i]?) (hc : ∀ h, s.cnt h = L.length) (hl : L.length < 16777216) : nComp itf p tt el vs env = compL p tt el (wipeE env vs) L [] := by
  funext h
  exact comp_get (congrFun e h) hs hc hl
/-- all([one < other for one, other in zip(xs, xs[1:])]) of whole numbers -/
theorem rise_zip {f : ES} {env : G.Env} {ns : List Int} {a b : Nat} (h : f env = rt (.d (.tuple (ns.map PyData.int)))) (hl : ns.length < 16777216) (ha : a < env.length) (hb : b < env.length) (hab : a ≠ b) : eB nAll (aCons (eVal (nComp (iZpF f (eSl f (some (eC (.int 1))) none)) (.tu [(.nm a), (.nm b)]) bYes (e2 oLt (eVar a) (eVar b)) [a, b])) aNil) env = rt (.d (.bool (riseB ns))) := by
  have s1 : eSl f (some (eC (.int 1))) none env = rt (.d (.tuple (cutG (ns.map PyData.int) (some ((1 : Nat) : Int)) none))) := slice_t h (oPart_int (f := eC (.int 1)) rfl) rfl
  by_cases h0 : ns.length = 0
  · have e0 : ns = [] := List.length_eq_zero_iff.mp h0
    subst e0
    have ei : iZpF f (eSl f (some (eC (.int 1))) none) env = rt (.zp (.vals []) (.vals [])) := by
      unfold iZpF
      rw [h, bnd_rt, s1, bnd_rt]
      rfl
    have c := comp_at_get (p := .tu [(.nm a), (.nm b)]) (tt := bYes) (el := e2 oLt (eVar a) (eVar b)) (vs := [a, b]) ei zp_get zp_cnt (by simp)
    have hv : eVal (nComp (iZpF f (eSl f (some (eC (.int 1))) none)) (.tu [(.nm a), (.nm b)]) bYes (e2 oLt (eVar a) (eVar b)) [a, b]) env = rt (.d (.list [])) := by
      unfold eVal
      rw [c]
      rfl
    simp only [eB, aCons, aNil, hv, bnd_rt]
    rfl
  · rw [cutG_hi (n := 1) (by rw [List.length_map]; omega)] at s1
    have ei : iZpF f (eSl f (some (eC (.int 1))) none) env = rt (.zp (.vals ((ns.map PyData.int).map M.d)) (.vals (((ns.map PyData.int).drop 1).map M.d))) := by
      unfold iZpF
      rw [h, bnd_rt, s1, bnd_rt]
      rfl
    have eL : ((((ns.map PyData.int).map M.d).zip (((ns.map PyData.int).drop 1).map M.d)).map fun p => mkTup [p.1, p.2]) = (ns.zip (ns.drop 1)).map fun p => M.d (.tuple [.int p.1, .int p.2]) := by
      rw [List.map_map, ← List.map_drop, List.map_map, List.zip_map, List.map_map]
      rfl
    have c := comp_at_get (p := .tu [(.nm a), (.nm b)]) (tt := bYes) (el := e2 oLt (eVar a) (eVar b)) (vs := [a, b]) ei zp_get zp_cnt (by rw [eL, List.length_map, List.length_zip]; omega)
    rw [eL] at c
    have hw : (wipeE env [a, b]).length = env.length := by simp [wipeE]
    have c2 := compL_map (fun p : Int × Int => M.d (.tuple [.int p.1, .int p.2])) (fun _ => true) (fun p => M.d (.bool (decide (p.1 < p.2)))) (p := .tu [(.nm a), (.nm b)]) (tt := bYes) (el := e2 oLt (eVar a) (eVar b)) (env := wipeE env [a, b]) (ns.zip (ns.drop 1)) [] fun p hp => ⟨((wipeE env [a, b]).set a (some (.d (.int p.1)))).set b (some (.d (.int p.2))), rfl, rfl, fun _ => by
      refine lt_is (var_rt ?_) (var_rt ?_)
      · rw [List.getElem?_set_ne (Ne.symm hab), List.getElem?_set_self (h := by rw [hw]; exact ha)]
      · rw [List.getElem?_set_self (h := by rw [List.length_set, hw]; exact hb)]⟩
    rw [List.nil_append, filter_true] at c2
    have hv : eVal (nComp (iZpF f (eSl f (some (eC (.int 1))) none)) (.tu [(.nm a), (.nm b)]) bYes (e2 oLt (eVar a) (eVar b)) [a, b]) env = rt (.d (.list (((ns.zip (ns.drop 1)).map fun p => decide (p.1 < p.2)).map PyData.bool))) := by
      unfold eVal
      rw [c, c2, bnd_rt]
      rw [show ((ns.zip (ns.drop 1)).map fun p => M.d (.bool (decide (p.1 < p.2)))) = (((ns.zip (ns.drop 1)).map fun p => decide (p.1 < p.2)).map PyData.bool).map M.d by rw [List.map_map, List.map_map]; rfl, asDs_map]
    simp only [eB, aCons, aNil, hv, bnd_rt, all_bs]
    rw [List.all_map]
    rfl
/-- .. by places, the other way about -/
theorem rise_places {ns : List Int} (q : Int → Bool) (hq : ∀ (i : Nat) (a b : Int), ns[i]? = some a → ns[i + 1]? = some b → q ((i : Int) + 1) = decide (b ≤ a)) : (!(rngL 1 ns.length).any q) = riseB ns := by
  rw [Bool.eq_iff_iff, riseB_iff, Bool.not_eq_true', ← Bool.not_eq_true, List.any_eq_true]
  constructor
  · intro h i a b e1 e2
    obtain ⟨l2, _⟩ := List.getElem?_eq_some_iff.mp e2
    by_cases hab : a < b
    · exact hab
    · exact absurd ⟨(i : Int) + 1, mem_rngL.mpr ⟨by omega, by omega⟩, by rw [hq i a b e1 e2]; exact decide_eq_true (by omega)⟩ h
  · rintro h ⟨k, hk, hqk⟩
    rw [mem_rngL] at hk
    obtain ⟨i, rfl⟩ : ∃ i : Nat, k = (i : Int) + 1 := ⟨(k - 1).toNat, by omega⟩
    have l1 : i + 1 < ns.length := by omega
    have := h i _ _ (List.getElem?_eq_getElem (by omega)) (List.getElem?_eq_getElem l1)
    rw [hq i _ _ (List.getElem?_eq_getElem (by omega)) (List.getElem?_eq_getElem l1), decide_eq_true_eq] at hqk
    omega
theorem ints_of : ∀ {xs : List PyData}, xs.all isInt = true → ∃ ns : List Int, xs = ns.map PyData.int
  | [], _ => ⟨[], rfl⟩
  | x :: xs, h => by
    rw [List.all_cons, Bool.and_eq_true] at h
    obtain ⟨ns, rfl⟩ := ints_of h.2
    cases x with
    | int i => exact ⟨i :: ns, rfl⟩
    | _ => cases h.1
end Q

/-! what a suite returns; reckoning by the form -/
namespace Q
open PySem PySem.Spec L2 G PySem.W
/-- a suite ends with this answer -/
def Ret (x : Sm (Fl × G.Env)) (m : M) : Prop := ∃ env', x = rt (.rt m, env')
section
variable {env env' : G.Env} {f r : ES} {g g1 g2 : SS} {t : G.Env → Sm Bool} {m v : M} {p : Pat} {b : Bool}
theorem fn_ret {n : Nat} {ms : List M} (h : Ret (g (startE n ms)) m) : mkFn n g ms = rt m := let ⟨_, e⟩ := h; mkFn_rt e
theorem Ret.set (e : f env = rt m) (ep : p.asg m env = some env') (k : Ret (g env') v) : Ret (sSeq (sSet p f) g env) v := let ⟨e2, h⟩ := k; ⟨e2, (seq_nx' (set_rt e ep)).trans h⟩
theorem Ret.ifr (h : t env = rt b) (hr : b = true → r env = rt v) (k : b = false → Ret (g env) v) : Ret (sSeq (sIf t (sRet r) sNil) g env) v := by
  cases b with
  | true => exact ⟨env, seq_rt' (by rw [if_T h]; exact ret_rt (hr rfl))⟩
  | false => obtain ⟨e2, h2⟩ := k rfl; exact ⟨e2, (seq_nx' (if_nil h)).trans h2⟩
theorem Ret.cond (h : t env = rt b) (h1 : b = true → Ret (g1 env) v) (h2 : b = false → Ret (g2 env) v) : Ret (sIf t g1 g2 env) v := by
  cases b with
  | true => obtain ⟨e, h'⟩ := h1 rfl; exact ⟨e, by rw [if_T h]; exact h'⟩
  | false => obtain ⟨e, h'⟩ := h2 rfl; exact ⟨e, by rw [if_F h]; exact h'⟩
/-- .. if t: (what returns), else on -/
theorem Ret.ifR (h : t env = rt b) (h1 : b = true → Ret (g1 env) v) (k : b = false → Ret (g env) v) : Ret (sSeq (sIf t g1 sNil) g env) v := by
  cases b with
  | true => obtain ⟨e, h'⟩ := h1 rfl; exact ⟨e, seq_rt' (by rw [if_T h]; exact h')⟩
  | false => obtain ⟨e2, h2⟩ := k rfl; exact ⟨e2, (seq_nx' (if_nil h)).trans h2⟩
theorem Ret.nx (e : g1 env = rt (.nx, env')) (k : Ret (g env') v) : Ret (sSeq g1 g env) v := let ⟨e2, h⟩ := k; ⟨e2, (seq_nx' e).trans h⟩
theorem Ret.ret (e : f env = rt v) : Ret (sRet f env) v := ⟨env, ret_rt e⟩
theorem Ret.up (h : Ret (g1 env) v) : Ret (sSeq g1 g env) v := let ⟨e, h'⟩ := h; ⟨e, seq_rt' h'⟩
theorem Ret.to {x : Sm (Fl × G.Env)} (h : Ret x m) (e : m = v) : Ret x v := e ▸ h
theorem eAnd_x {g : ES} {a : Bool} {r : Bool} (h : f env = rt (.d (.bool a))) (h2 : a = true → g env = rt (.d (.bool r))) (e : a = false → r = false) : eAnd f g env = rt (.d (.bool r)) := by
  cases a with
  | true => rw [eAnd_c h h2, Bool.true_and]
  | false => rw [eAnd_f (b := false) h, e rfl]
theorem eC_rt {x : PyData} : eC x env = rt (.d x) := rfl
/-- [x for x in xs if not ..] != [] -/
theorem notall_c {i : Nat} {xs : List PyData} (q : PyData → Bool) (h : f env = rt (.d (.tuple xs))) (hl : xs.length < 16777216) (hi : i < env.length) (he : ∀ x ∈ xs, t ((wipeE env [i]).set i (some (.d x))) = rt (!q x)) : bO (e2 oNe (eVal (nComp (iSeqF f) (.nm i) t (eVar i) [i])) (eVal (nLst aNil))) env = rt (!xs.all q) := by
  refine bO_rt ?_
  rw [nil_ne (filt_c (fun x => !q x) h hl hi he), filter_not]
theorem isi_tup' {xs : List PyData} (h : f env = rt (.d (.tuple xs))) : eIsi "tuple" f env = rt (.d (.bool true)) := isi_tup h
theorem eqS_is {f g : ES} {a b : Str} (h : f env = rt (.d (.str a))) (h2 : g env = rt (.d (.str b))) : e2 oEq f g env = rt (.d (.bool (a == b))) := by simp only [e2, h, h2, bnd_rt, eq_str]
theorem neS_is {f g : ES} {a b : Str} (h : f env = rt (.d (.str a))) (h2 : g env = rt (.d (.str b))) : e2 oNe f g env = rt (.d (.bool (!(a == b)))) := by simp only [e2, h, h2, bnd_rt, ne_str]
theorem isi_lst' {xs : List PyData} (h : f env = rt (.d (.list xs))) : eIsi "list" f env = rt (.d (.bool true)) := isi_lst h
end
end Q
local macro_rules | `(tactic| decreasing_trivial_pre_omega) => `(tactic| (first | exact G.var_rt rfl))
local macro_rules | `(tactic| decreasing_trivial_pre_omega) => `(tactic| (first | (with_reducible apply Q.eqS_is; (focus decreasing_trivial_pre_omega); (focus decreasing_trivial_pre_omega))))
local macro_rules | `(tactic| decreasing_trivial_pre_omega) => `(tactic| (first | (with_reducible apply Q.neS_is; (focus decreasing_trivial_pre_omega); (focus decreasing_trivial_pre_omega))))
local macro_rules | `(tactic| decreasing_trivial_pre_omega) => `(tactic| (first | exact Q.eC_rt))
local macro_rules | `(tactic| decreasing_trivial_pre_omega) => `(tactic| (first | (with_reducible apply G.bO_rt; (focus decreasing_trivial_pre_omega))))
local macro_rules | `(tactic| decreasing_trivial_pre_omega) => `(tactic| (first | (with_reducible apply G.bNot_rt; (focus decreasing_trivial_pre_omega))))
local macro_rules | `(tactic| decreasing_trivial_pre_omega) => `(tactic| (first | (with_reducible apply G.bOr_c; (focus decreasing_trivial_pre_omega); (focus (intro _; decreasing_trivial_pre_omega)))))
local macro_rules | `(tactic| decreasing_trivial_pre_omega) => `(tactic| (first | (with_reducible apply G.bAnd_c; (focus decreasing_trivial_pre_omega); (focus (intro _; decreasing_trivial_pre_omega)))))
local macro_rules | `(tactic| decreasing_trivial_pre_omega) => `(tactic| (first | (with_reducible apply G.eAnd_c; (focus decreasing_trivial_pre_omega); (focus (intro _; decreasing_trivial_pre_omega)))))
local macro_rules | `(tactic| decreasing_trivial_pre_omega) => `(tactic| (first | (with_reducible apply G.add_is; (focus decreasing_trivial_pre_omega); (focus decreasing_trivial_pre_omega))))
local macro_rules | `(tactic| decreasing_trivial_pre_omega) => `(tactic| (first | (with_reducible apply G.sub_is; (focus decreasing_trivial_pre_omega); (focus decreasing_trivial_pre_omega))))
local macro_rules | `(tactic| decreasing_trivial_pre_omega) => `(tactic| (first | (with_reducible apply G.eq_is; (focus decreasing_trivial_pre_omega); (focus decreasing_trivial_pre_omega))))
local macro_rules | `(tactic| decreasing_trivial_pre_omega) => `(tactic| (first | (with_reducible apply G.ne_is; (focus decreasing_trivial_pre_omega); (focus decreasing_trivial_pre_omega))))
local macro_rules | `(tactic| decreasing_trivial_pre_omega) => `(tactic| (first | (with_reducible apply G.lt_is; (focus decreasing_trivial_pre_omega); (focus decreasing_trivial_pre_omega))))
local macro_rules | `(tactic| decreasing_trivial_pre_omega) => `(tactic| (first | (with_reducible apply G.le_is; (focus decreasing_trivial_pre_omega); (focus decreasing_trivial_pre_omega))))
local macro_rules | `(tactic| decreasing_trivial_pre_omega) => `(tactic| (first | (with_reducible apply G.gt_is; (focus decreasing_trivial_pre_omega); (focus decreasing_trivial_pre_omega))))
local macro_rules | `(tactic| decreasing_trivial_pre_omega) => `(tactic| (first | (with_reducible apply Q.ge_is; (focus decreasing_trivial_pre_omega); (focus decreasing_trivial_pre_omega))))
local macro_rules | `(tactic| decreasing_trivial_pre_omega) => `(tactic| (first | (with_reducible apply G.le3_c; (focus decreasing_trivial_pre_omega))))
local macro_rules | `(tactic| decreasing_trivial_pre_omega) => `(tactic| (first | (with_reducible apply Q.len_L; (focus decreasing_trivial_pre_omega))))
local macro_rules | `(tactic| decreasing_trivial_pre_omega) => `(tactic| (first | (with_reducible apply G.len_is; (focus decreasing_trivial_pre_omega))))
local macro_rules | `(tactic| decreasing_trivial_pre_omega) => `(tactic| (first | (with_reducible apply G.isi_x; (focus decreasing_trivial_pre_omega))))
local macro_rules | `(tactic| decreasing_trivial_pre_omega) => `(tactic| (first | (with_reducible apply G.isi_lst; (focus decreasing_trivial_pre_omega))))
local macro_rules | `(tactic| decreasing_trivial_pre_omega) => `(tactic| (first | (with_reducible apply G.isi_tup; (focus decreasing_trivial_pre_omega))))
local macro_rules | `(tactic| decreasing_trivial_pre_omega) => `(tactic| (first | (with_reducible apply Q.isi_lst'; (focus decreasing_trivial_pre_omega))))
local macro_rules | `(tactic| decreasing_trivial_pre_omega) => `(tactic| (first | (with_reducible apply Q.isi_tup'; (focus decreasing_trivial_pre_omega))))
local macro_rules | `(tactic| decreasing_trivial_pre_omega) => `(tactic| (first | (with_reducible apply G.tnil_eq; (focus decreasing_trivial_pre_omega))))
local macro_rules | `(tactic| decreasing_trivial_pre_omega) => `(tactic| (first | (with_reducible apply G.nil_eq; (focus decreasing_trivial_pre_omega))))
local macro_rules | `(tactic| decreasing_trivial_pre_omega) => `(tactic| (first | (with_reducible apply G.nil_ne; (focus decreasing_trivial_pre_omega))))
local macro_rules | `(tactic| decreasing_trivial_pre_omega) => `(tactic| (first | (with_reducible apply G.tup1_t; (focus decreasing_trivial_pre_omega))))
local macro_rules | `(tactic| decreasing_trivial_pre_omega) => `(tactic| (first | (with_reducible apply G.ix_is; (focus decreasing_trivial_pre_omega); (focus decreasing_trivial_pre_omega); (focus (first | exact G.atI_0 .. | exact G.atI_1 .. | exact G.atI_2 .. | exact G.atI_3 .. | assumption | rfl)))))
local macro_rules | `(tactic| decreasing_trivial_pre_omega) => `(tactic| (first | (with_reducible apply Q.call_within_g; (focus decreasing_trivial_pre_omega); (focus decreasing_trivial_pre_omega))))
local macro_rules | `(tactic| decreasing_trivial_pre_omega) => `(tactic| (first | (with_reducible apply Q.call_within_x; (focus decreasing_trivial_pre_omega))))

/-! what a def answers: a thing or an error -/
namespace Q
open PySem PySem.Spec L2 G PySem.W
inductive Ans where
  | ok (m : M)
  | ex (c : String)
def Ans.run : Ans → Sm M
  | .ok m => rt m
  | .ex c => exc1 c
/-- a suite ends with this answer -/
def An (x : Sm (Fl × G.Env)) : Ans → Prop
  | .ok m => Ret x m ∨ (m = .d .none ∧ ∃ env', x = rt (.nx, env'))
  | .ex c => x = exc1 c
section
variable {env env' : G.Env} {f r : ES} {g g1 g2 : SS} {fs : G.Env → Sm (List M)} {t : G.Env → Sm Bool} {m v : M} {p : Pat} {b : Bool} {c : String} {a a1 : Ans} {n : Nat} {ms : List M} {fn : Fn}
theorem exc_bnd {α β : Type} {k : α → Sm β} : bnd (exc1 c : Sm α) k = exc1 c := rfl
theorem mkFn_exc {n : Nat} {g : SS} {ms : List M} {c : String} (e : g (startE n ms) = exc1 c) : mkFn n g ms = exc1 c := by
  unfold mkFn
  rw [e]
  rfl
theorem fn_an {n : Nat} {ms : List M} (h : An (g (startE n ms)) a) : mkFn n g ms = a.run := by
  cases a with
  | ok m =>
    rcases h with h | ⟨rfl, env', h⟩
    · exact fn_ret h
    · exact mkFn_rtn h
  | ex c => exact mkFn_exc h
theorem An.of (h : Ret (g env) m) : An (g env) (.ok m) := .inl h
theorem An.seq (e : g1 env = rt (.nx, env')) (k : An (g env') a) : An (sSeq g1 g env) a := by
  cases a with
  | ok m =>
    rcases k with k | ⟨rfl, env2, k⟩
    · exact .inl (Ret.nx e k)
    · exact .inr ⟨rfl, env2, (seq_nx' e).trans k⟩
  | ex c => exact (seq_nx' e).trans k
theorem An.set (e : f env = rt m) (ep : p.asg m env = some env') (k : An (g env') a) : An (sSeq (sSet p f) g env) a := An.seq (set_rt e ep) k
theorem An.raise (h : f env = rt m) : An (sRaise c f env) (.ex c) := by
  show sRaise c f env = exc1 c
  unfold sRaise
  rw [h, bnd_rt]
/-- if t: raise .. -/
theorem An.ifx (h : t env = rt b) (hf : f env = rt m) (h1 : b = true → a = .ex c) (k : b = false → An (g env) a) : An (sSeq (sIf t (sRaise c f) sNil) g env) a := by
  cases b with
  | true =>
    rw [h1 rfl]
    show sSeq _ g env = exc1 c
    unfold sSeq
    rw [if_T h, show sRaise c f env = exc1 c from An.raise hf]
    rfl
  | false => exact An.seq (if_nil h) (k rfl)
/-- .. last of all -/
theorem An.ifxE (h : t env = rt b) (hf : f env = rt m) (h1 : b = true → a = .ex c) (k : b = false → a = .ok (.d .none)) : An (sIf t (sRaise c f) sNil env) a := by
  cases b with
  | true =>
    rw [h1 rfl]
    show sIf _ _ _ env = exc1 c
    rw [if_T h]
    exact An.raise hf
  | false => rw [k rfl]; exact .inr ⟨rfl, env, if_nil h⟩
theorem An.ifr (h : t env = rt b) (hr : b = true → r env = rt v ∧ a = .ok v) (k : b = false → An (g env) a) : An (sSeq (sIf t (sRet r) sNil) g env) a := by
  cases b with
  | true =>
    obtain ⟨e1, e2⟩ := hr rfl
    rw [e2]
    exact .inl ⟨env, seq_rt' (by rw [if_T h]; exact ret_rt e1)⟩
  | false => exact An.seq (if_nil h) (k rfl)
theorem callX_run (hs : fs env = rt ms) (hl : ms.length = n) (hf : fn ms = a.run) : eCallX n fn fs env = a.run := by
  unfold eCallX
  rw [hs, bnd_rt, if_pos hl, hf]
/-- a look that may raise, for itself -/
theorem An.chk (e : f env = a1.run) (h1 : ∀ c, a1 = .ex c → a = .ex c) (k : ∀ m, a1 = .ok m → An (g env) a) : An (sSeq (sExp f) g env) a := by
  cases a1 with
  | ok m => exact An.seq (exp_rt e) (k m rfl)
  | ex c =>
    rw [h1 c rfl]
    show sSeq (sExp f) g env = exc1 c
    unfold sSeq sExp
    rw [e]
    rfl
/-- what is returned may raise -/
theorem An.ret (e : f env = a.run) : An (sRet f env) a := by
  cases a with
  | ok m => exact .inl ⟨env, ret_rt e⟩
  | ex c =>
    show sRet f env = exc1 c
    unfold sRet
    rw [e]
    rfl
/-- by a word -/
def Ans.told (w : String → Option M) : Ans → Option M
  | .ok m => some m
  | .ex c => w c
theorem try_exc {w : String → Option M} (hb : g env = exc1 c) (hw : w c = some m) : sTryW w g env = rt (.rt m, env) := by
  funext h
  unfold sTryW
  rw [hb]
  show (match w c with | some m => some (Out.val (Fl.rt m, env) h) | none => none) = _
  rw [hw]
  rfl
theorem try_val {w : String → Option M} {x : Fl × G.Env} (hb : g env = rt x) : sTryW w g env = rt x := by
  funext h
  unfold sTryW
  rw [hb]
  rfl
theorem Ret.try_ {w : String → Option M} (e : f env = a.run) (hw : a.told w = some m) : Ret (sTryW w (sRet f) env) m := by
  cases a with
  | ok m' =>
    cases hw
    exact ⟨env, try_val (ret_rt e)⟩
  | ex c => exact ⟨env, try_exc (by unfold sRet; rw [e]; rfl) hw⟩
end
theorem word_w {c : String} {i : Nat} {w : Str} (h : exNames.findIdx? (· == c) = some i) (h2 : exWords[i]? = some w) : exWord c = some (.d (.str w)) := by
  unfold exWord exW
  rw [h]
  simp only [h2]
  rfl
end Q

/-! jobs, shared: the least number that none that meets it has, one behind the other -/
namespace Q
open PySem PySem.Spec L2 G PySem.W
theorem len_le_of_subset {α : Type} [DecidableEq α] : ∀ {a b : List α}, a.Nodup → (∀ x ∈ a, x ∈ b) → a.length ≤ b.length
  | [], _, _, _ => Nat.zero_le _
  | x :: a, b, n, s => by
    obtain ⟨n1, n2⟩ := List.nodup_cons.mp n
    have hx := s x (List.mem_cons_self ..)
    have := len_le_of_subset (b := b.erase x) n2 fun y hy => (List.mem_erase_of_ne (by intro e; subst e; exact n1 hy)).mpr (s y (List.mem_cons_of_mem _ hy))
    rw [List.length_erase_of_mem hx] at this
    have := List.length_pos_of_mem hx
    rw [List.length_cons]
    omega
/-- the least number that is not in l -/
def mexGo (l : List Nat) : Nat → Nat → Nat
  | 0, i => i
  | f + 1, i => if i ∈ l then mexGo l f (i + 1) else i
def mex (l : List Nat) : Nat := mexGo l l.length 0
theorem mexGo_spec (l : List Nat) : ∀ (f i : Nat), (∀ c < i, c ∈ l) → l.length ≤ i + f → (∀ c < mexGo l f i, c ∈ l) ∧ mexGo l f i ∉ l
  | 0, i, h, hl => by
    refine ⟨h, fun hi => ?_⟩
    have := len_le_of_subset (a := List.range (i + 1)) (b := l) List.nodup_range fun x hx => by
      have := List.mem_range.mp hx
      rcases Nat.lt_or_ge x i with q | q
      · exact h x q
      · have : x = i := by omega
        rw [this]; exact hi
    rw [List.length_range] at this
    omega
  | f + 1, i, h, hl => by
    simp only [mexGo]
    split
    · rename_i hi
      refine mexGo_spec l f (i + 1) (fun c hc => ?_) (by omega)
      rcases Nat.lt_or_ge c i with q | q
      · exact h c q
      · have : c = i := by omega
        rw [this]; exact hi
    · rename_i hi
      exact ⟨h, hi⟩
theorem mex_lt {l : List Nat} {c : Nat} (h : c < mex l) : c ∈ l := (mexGo_spec l l.length 0 (fun c hc => absurd hc (Nat.not_lt_zero c)) (by omega)).1 c h
theorem mex_not {l : List Nat} : mex l ∉ l := (mexGo_spec l l.length 0 (fun c hc => absurd hc (Nat.not_lt_zero c)) (by omega)).2
theorem mex_le {l : List Nat} : mex l ≤ l.length := by
  have := len_le_of_subset (a := List.range (mex l)) (b := l) List.nodup_range fun x hx => mex_lt (List.mem_range.mp hx)
  rwa [List.length_range] at this
theorem mex_uniq {l : List Nat} {m : Nat} (h1 : ∀ c < m, c ∈ l) (h2 : m ∉ l) : m = mex l := by
  rcases Nat.lt_trichotomy m (mex l) with q | q | q
  · exact absurd (mex_lt q) h2
  · exact q
  · exact absurd (h1 _ q) mex_not
abbrev Job := Int × Int
def meets (r : Int) (a b : Job) : Bool := decide (a.1 < b.2 + r) && decide (b.1 < a.2 + r)
def isUnder (r m : Int) (a : Job) : Bool := decide (a.1 ≤ m) && decide (m < a.2 + r)
def underZ (J : List Job) (r m : Int) : List (Job × Nat) := J.zipIdx.filter fun a => isUnder r m a.1
def under (J : List Job) (r m : Int) : List Nat := (underZ J r m).map (·.2)
def colAt (cs : List (Option Nat)) (i : Nat) : Option Nat := (cs[i]?).join
def takZ (J : List Job) (r : Int) (cs : List (Option Nat)) (x : Job) : List (Job × Nat) := J.zipIdx.filter fun a => (colAt cs a.2).isSome && meets r a.1 x
def taken (J : List Job) (r : Int) (cs : List (Option Nat)) (x : Job) : List Nat := (takZ J r cs x).map fun a => (colAt cs a.2).getD 0
def stepC (J : List Job) (r : Int) (cs : List (Option Nat)) (j : Nat) : List (Option Nat) := match J[j]? with
  | some x => cs.set j (some (mex (taken J r cs x)))
  | none => cs
structure Sharing (J : List Job) (r : Int) (P : List Nat) (cs : List (Option Nat)) : Prop where
  len : cs.length = J.length
  dom : ∀ k, (colAt cs k).isSome = true ↔ k ∈ P
  low : ∀ k ∈ P, ∀ x c, J[k]? = some x → colAt cs k = some c → c < (underZ J r x.1).length
  apart : ∀ k ∈ P, ∀ l ∈ P, k ≠ l → ∀ x y, J[k]? = some x → J[l]? = some y → meets r x y = true → colAt cs k ≠ colAt cs l
theorem mem_zip {J : List Job} {a : Job × Nat} (h : a ∈ J.zipIdx) : J[a.2]? = some a.1 := by
  obtain ⟨x, i⟩ := a
  exact List.mem_zipIdx_iff_getElem?.mp h
theorem zip_mem {J : List Job} {x : Job} {i : Nat} (h : J[i]? = some x) : (x, i) ∈ J.zipIdx := List.mem_zipIdx_iff_getElem?.mpr h
theorem filter_lt {α : Type} {p q : α → Bool} : ∀ {l : List α}, (∀ a ∈ l, p a = true → q a = true) → (∃ a ∈ l, q a = true ∧ p a = false) → (l.filter p).length < (l.filter q).length
  | [], _, ⟨a, h, _⟩ => nomatch h
  | b :: l, i, ⟨a, h, h1, h2⟩ => by
    have le : (l.filter p).length ≤ (l.filter q).length := by
      have : ∀ {l : List α}, (∀ a ∈ l, p a = true → q a = true) → (l.filter p).length ≤ (l.filter q).length := fun {l} => by
        induction l with
        | nil => intro _; exact Nat.le_refl _
        | cons c l ih =>
          intro i
          have ih := ih fun a ha => i a (List.mem_cons_of_mem _ ha)
          cases hp : p c with
          | true =>
            rw [List.filter_cons_of_pos hp, List.filter_cons_of_pos (i c (List.mem_cons_self ..) hp), List.length_cons, List.length_cons]
            omega
          | false =>
            rw [List.filter_cons_of_neg (by rw [hp]; exact Bool.false_ne_true)]
            cases hq : q c with
            | true => rw [List.filter_cons_of_pos hq, List.length_cons]; omega
            | false => rw [List.filter_cons_of_neg (by rw [hq]; exact Bool.false_ne_true)]; exact ih
      exact this fun a ha => i a (List.mem_cons_of_mem _ ha)
    rcases List.mem_cons.mp h with rfl | h
    · rw [List.filter_cons_of_neg (by rw [h2]; exact Bool.false_ne_true), List.filter_cons_of_pos h1, List.length_cons]
      omega
    · have ih := filter_lt (l := l) (fun a ha => i a (List.mem_cons_of_mem _ ha)) ⟨a, h, h1, h2⟩
      cases hp : p b with
      | true => rw [List.filter_cons_of_pos hp, List.filter_cons_of_pos (i b (List.mem_cons_self ..) hp), List.length_cons, List.length_cons]; omega
      | false =>
        rw [List.filter_cons_of_neg (by rw [hp]; exact Bool.false_ne_true)]
        cases hq : q b with
        | true => rw [List.filter_cons_of_pos hq, List.length_cons]; omega
        | false => rw [List.filter_cons_of_neg (by rw [hq]; exact Bool.false_ne_true)]; exact ih
theorem colAt_set {cs : List (Option Nat)} {j k c : Nat} (h : j < cs.length) : colAt (cs.set j (some c)) k = if k = j then some c else colAt cs k := by
  unfold colAt
  by_cases e : k = j
  · subst e
    rw [if_pos rfl, List.getElem?_set_self h]
    rfl
  · rw [if_neg e, List.getElem?_set_ne (Ne.symm e)]
structure OkJ (x : Job) : Prop where
  a : 0 ≤ x.1
  lt : x.1 < x.2
  b : x.2 ≤ 9999
theorem Sharing.step {J : List Job} {r : Int} {P : List Nat} {cs : List (Option Nat)} (S : Sharing J r P cs) (hr : 0 ≤ r) (ok : ∀ x ∈ J, OkJ x) {j : Nat} {x : Job} (hj : J[j]? = some x) (hn : j ∉ P) (hb : ∀ k ∈ P, ∀ y, J[k]? = some y → y.1 ≤ x.1) : Sharing J r (P ++ [j]) (stepC J r cs j) := by
  have hjl : j < J.length := (List.getElem?_eq_some_iff.mp hj).1
  have hjc : j < cs.length := by rw [S.len]; exact hjl
  have okx := ok x (List.mem_of_getElem? hj)
  have es : stepC J r cs j = cs.set j (some (mex (taken J r cs x))) := by unfold stepC; rw [hj]
  rw [es]
  have inTak : ∀ k ∈ P, ∀ y, J[k]? = some y → meets r y x = true → ∀ c, colAt cs k = some c → c ∈ taken J r cs x := fun k hk y hy hm c hc => by
    refine List.mem_map.mpr ⟨(y, k), List.mem_filter.mpr ⟨zip_mem hy, ?_⟩, ?_⟩
    · show ((colAt cs k).isSome && meets r y x) = true
      rw [hc, hm]; rfl
    · show (colAt cs k).getD 0 = c
      rw [hc]; rfl
  have sym : ∀ a b : Job, meets r a b = meets r b a := fun a b => by unfold meets; exact Bool.and_comm ..
  refine ⟨by rw [List.length_set]; exact S.len, fun k => ?_, fun k hk y c hy hc => ?_, fun k hk l hl hkl y z hy hz hm => ?_⟩
  · rw [colAt_set hjc, List.mem_append, List.mem_singleton, ← S.dom k]
    by_cases e : k = j
    · rw [if_pos e]; simp [e]
    · rw [if_neg e]; simp [e]
  · rw [colAt_set hjc] at hc
    by_cases e : k = j
    · subst e
      rw [if_pos rfl] at hc
      rw [hj] at hy
      cases hy
      cases hc
      refine Nat.lt_of_le_of_lt mex_le ?_
      unfold taken
      rw [List.length_map]
      refine filter_lt (fun a ha hp => ?_) ⟨(x, k), zip_mem hj, ?_, ?_⟩
      · rw [Bool.and_eq_true] at hp
        have hP := (S.dom a.2).mp hp.1
        have hle := hb a.2 hP a.1 (mem_zip ha)
        have hm := hp.2
        unfold meets at hm
        unfold isUnder
        simp only [Bool.and_eq_true, decide_eq_true_eq] at hm ⊢
        exact ⟨hle, hm.2⟩
      · unfold isUnder
        have := okx.lt
        simp only [Bool.and_eq_true, decide_eq_true_eq]
        omega
      · have : (colAt cs k).isSome = false := by
          cases q : (colAt cs k).isSome with
          | false => rfl
          | true => exact absurd ((S.dom k).mp q) hn
        rw [this]; rfl
    · rw [if_neg e] at hc
      rcases List.mem_append.mp hk with hk | hk
      · exact S.low k hk y c hy hc
      · exact absurd (List.mem_singleton.mp hk) e
  · rw [colAt_set hjc, colAt_set hjc]
    have hP : ∀ k, k ∈ P ++ [j] → k ≠ j → k ∈ P := fun k hk e => by
      rcases List.mem_append.mp hk with hk | hk
      · exact hk
      · exact absurd (List.mem_singleton.mp hk) e
    by_cases ek : k = j
    · subst ek
      rw [if_pos rfl, if_neg (Ne.symm hkl)]
      rw [hj] at hy
      cases hy
      intro e
      rw [sym] at hm
      exact mex_not (inTak l (hP l hl (Ne.symm hkl)) z hz hm _ e.symm)
    · rw [if_neg ek]
      by_cases el : l = j
      · subst el
        rw [if_pos rfl]
        rw [hj] at hz
        cases hz
        intro e
        exact mex_not (inTak k (hP k hk ek) y hy hm _ e)
      · rw [if_neg el]
        exact S.apart k (hP k hk ek) l (hP l hl el) hkl y z hy hz hm
theorem Sharing.all {J : List Job} {r : Int} (hr : 0 ≤ r) (ok : ∀ x ∈ J, OkJ x) : ∀ (ord P : List Nat) (cs : List (Option Nat)), Sharing J r P cs → (∀ j ∈ ord, j < J.length ∧ j ∉ P) → ord.Nodup → (∀ k ∈ P, ∀ j ∈ ord, ∀ y x, J[k]? = some y → J[j]? = some x → y.1 ≤ x.1) →
    ord.Pairwise (fun k j => ∀ y x, J[k]? = some y → J[j]? = some x → y.1 ≤ x.1) → Sharing J r (P ++ ord) (ord.foldl (stepC J r) cs)
  | [], P, cs, S, _, _, _, _ => by rw [List.append_nil]; exact S
  | j :: ord, P, cs, S, h1, h2, h3, h4 => by
    obtain ⟨n1, n2⟩ := List.nodup_cons.mp h2
    obtain ⟨p1, p2⟩ := List.pairwise_cons.mp h4
    have hj := h1 j (List.mem_cons_self ..)
    have S' := S.step hr ok (List.getElem?_eq_getElem hj.1) hj.2 fun k hk y hy => h3 k hk j (List.mem_cons_self ..) y _ hy (List.getElem?_eq_getElem hj.1)
    have := Sharing.all hr ok ord (P ++ [j]) (stepC J r cs j) S' (fun k hk => ⟨(h1 k (List.mem_cons_of_mem _ hk)).1, fun q => by
      rcases List.mem_append.mp q with q | q
      · exact (h1 k (List.mem_cons_of_mem _ hk)).2 q
      · rw [List.mem_singleton] at q; subst q; exact n1 hk⟩) n2 (fun k hk i hi y x hy hx => by
      rcases List.mem_append.mp hk with q | q
      · exact h3 k q i (List.mem_cons_of_mem _ hi) y x hy hx
      · rw [List.mem_singleton] at q; subst q; exact p1 i hi y x hy hx) p2
    rw [List.append_assoc] at this
    exact this

/-- the numbers of the jobs, by their begins, then by their numbers -/
def ordZ (J : List Job) : List (Int × Int) := sortP (J.zipIdx.map fun a => (a.1.1, (a.2 : Int)))
def ord (J : List Job) : List Nat := (ordZ J).map fun p => p.2.toNat
theorem ordZ_mem {J : List Job} {p : Int × Int} : p ∈ ordZ J ↔ ∃ (i : Nat) (x : Job), J[i]? = some x ∧ p = (x.1, (i : Int)) := by
  unfold ordZ
  rw [(sortP_perm _).mem_iff, List.mem_map]
  constructor
  · rintro ⟨a, ha, rfl⟩
    exact ⟨a.2, a.1, mem_zip ha, rfl⟩
  · rintro ⟨i, x, hx, rfl⟩
    exact ⟨(x, i), zip_mem hx, rfl⟩
theorem ord_perm (J : List Job) : (ord J).Perm (List.range J.length) := by
  unfold ord ordZ
  refine ((sortP_perm _).map _).trans ?_
  rw [List.map_map]
  have : (J.zipIdx.map ((fun p : Int × Int => p.2.toNat) ∘ fun a : Job × Nat => (a.1.1, (a.2 : Int)))) = List.range J.length := by
    apply List.ext_getElem
    · simp
    · intro i h1 h2
      simp
  rw [this]
theorem ord_mem {J : List Job} {j : Nat} : j ∈ ord J ↔ j < J.length := by rw [(ord_perm J).mem_iff, List.mem_range]
theorem ord_nodup (J : List Job) : (ord J).Nodup := (ord_perm J).nodup_iff.mpr List.nodup_range
theorem ord_up (J : List Job) : (ord J).Pairwise (fun k j => ∀ y x, J[k]? = some y → J[j]? = some x → y.1 ≤ x.1) := by
  unfold ord
  refine List.pairwise_map.mpr (List.Pairwise.imp_of_mem ?_ (sortP_le _))
  intro p q hp hq h y x hy hx
  obtain ⟨i, y', hy', rfl⟩ := ordZ_mem.mp hp
  obtain ⟨j, x', hx', rfl⟩ := ordZ_mem.mp hq
  rw [lexP_iff] at h
  simp only [Int.toNat_natCast] at hy hx
  rw [hy'] at hy
  rw [hx'] at hx
  cases hy
  cases hx
  rcases h with h | h
  · exact Int.le_of_lt h
  · exact Int.le_of_eq h.1
def cols (J : List Job) (r : Int) : List (Option Nat) := (ord J).foldl (stepC J r) (List.replicate J.length none)
theorem shared_all {J : List Job} {r : Int} (hr : 0 ≤ r) (ok : ∀ x ∈ J, OkJ x) : Sharing J r (ord J) (cols J r) := by
  have := Sharing.all hr ok (ord J) [] (List.replicate J.length none) ⟨List.length_replicate, fun k => by
    unfold colAt
    rw [List.getElem?_replicate]
    split <;> simp, (fun k hk => nomatch hk), (fun k hk => nomatch hk)⟩ (fun j hj => ⟨ord_mem.mp hj, List.not_mem_nil⟩) (ord_nodup J) (fun k hk => nomatch hk) (ord_up J)
  rwa [List.nil_append] at this
/-- the numbers themselves -/
def colsI (J : List Job) (r : Int) : List Int := (cols J r).map fun o => ((o.getD 0 : Nat) : Int)
theorem colAt_all {J : List Job} {r : Int} (hr : 0 ≤ r) (ok : ∀ x ∈ J, OkJ x) {k : Nat} (hk : k < J.length) : ∃ c, colAt (cols J r) k = some c ∧ (cols J r)[k]? = some (some c) := by
  have S := shared_all hr ok
  have h := (S.dom k).mpr (ord_mem.mpr hk)
  obtain ⟨c, hc⟩ := Option.isSome_iff_exists.mp h
  refine ⟨c, hc, ?_⟩
  unfold colAt at hc
  have hl : k < (cols J r).length := by rw [S.len]; exact hk
  rw [List.getElem?_eq_getElem hl] at hc ⊢
  rw [show ((some (cols J r)[k]).join) = (cols J r)[k] from rfl] at hc
  rw [hc]
theorem colsI_get {J : List Job} {r : Int} (hr : 0 ≤ r) (ok : ∀ x ∈ J, OkJ x) {c : Int} : c ∈ colsI J r ↔ ∃ (k : Nat) (n : Nat), k < J.length ∧ colAt (cols J r) k = some n ∧ c = (n : Int) := by
  have S := shared_all hr ok
  unfold colsI
  rw [List.mem_map]
  constructor
  · rintro ⟨o, ho, rfl⟩
    obtain ⟨k, hk, rfl⟩ := List.mem_iff_getElem.mp ho
    have hk' : k < J.length := by rw [← S.len]; exact hk
    obtain ⟨n, h1, h2⟩ := colAt_all hr ok hk'
    rw [List.getElem?_eq_getElem hk] at h2
    refine ⟨k, n, hk', h1, ?_⟩
    rw [Option.some.inj h2]
    rfl
  · rintro ⟨k, n, hk, h1, rfl⟩
    obtain ⟨n', h1', h2⟩ := colAt_all hr ok hk
    rw [h1] at h1'
    cases h1'
    exact ⟨some n, List.mem_of_getElem? h2, rfl⟩
/-- as many numbers as there are jobs under way at once -/
theorem many_cols {J : List Job} {r : Int} {many : Nat} (hr : 0 ≤ r) (ok : ∀ x ∈ J, OkJ x) (h1 : ∀ x ∈ J, (underZ J r x.1).length ≤ many) (h2 : ∃ x ∈ J, (underZ J r x.1).length = many) : (ddI (colsI J r)).length = many := by
  have S := shared_all hr ok
  refine Nat.le_antisymm ?_ ?_
  · have := len_le_of_subset (a := ddI (colsI J r)) (b := (List.range many).map fun i : Nat => (i : Int)) (nodup_ddI _) fun c hc => by
      obtain ⟨k, n, hk, e1, rfl⟩ := (colsI_get hr ok).mp (mem_ddI.mp hc)
      have hl := S.low k (ord_mem.mpr hk) _ n (List.getElem?_eq_getElem hk) e1
      have := h1 _ (List.getElem_mem hk)
      exact List.mem_map.mpr ⟨n, List.mem_range.mpr (by omega), rfl⟩
    rwa [List.length_map, List.length_range] at this
  · obtain ⟨x, hx, e⟩ := h2
    have hin : ∀ a ∈ underZ J r x.1, J[a.2]? = some a.1 ∧ a.2 < J.length ∧ isUnder r x.1 a.1 = true := fun a ha => by
      obtain ⟨m1, m2⟩ := List.mem_filter.mp ha
      have := mem_zip m1
      exact ⟨this, (List.getElem?_eq_some_iff.mp this).1, m2⟩
    have := len_le_of_subset (a := (underZ J r x.1).map fun a => (((colAt (cols J r) a.2).getD 0 : Nat) : Int)) (b := ddI (colsI J r)) (by
      unfold List.Nodup
      refine List.pairwise_map.mpr (List.Pairwise.imp_of_mem (R := fun a b => a.2 ≠ b.2) ?_ ?_)
      · intro a b ha hb hab he
        obtain ⟨a1, a2, a3⟩ := hin a ha
        obtain ⟨b1, b2, b3⟩ := hin b hb
        have hm : meets r a.1 b.1 = true := by
          unfold isUnder at a3 b3
          unfold meets
          simp only [Bool.and_eq_true, decide_eq_true_eq] at a3 b3 ⊢
          omega
        have ap := S.apart a.2 (ord_mem.mpr a2) b.2 (ord_mem.mpr b2) hab a.1 b.1 a1 b1 hm
        obtain ⟨c, c1, _⟩ := colAt_all hr ok a2
        obtain ⟨d, d1, _⟩ := colAt_all hr ok b2
        rw [c1, d1] at he ap
        have he : ((c : Nat) : Int) = (d : Nat) := he
        exact ap (by rw [show c = d by omega])
      · have : J.zipIdx.Pairwise (fun a b => a.2 ≠ b.2) := by
          rw [List.pairwise_iff_getElem]
          intro i j h1 h2 h3
          simp only [List.getElem_zipIdx]
          omega
        exact this.sublist List.filter_sublist) fun c hc => by
      obtain ⟨a, ha, rfl⟩ := List.mem_map.mp hc
      obtain ⟨a1, a2, a3⟩ := hin a ha
      obtain ⟨c, c1, _⟩ := colAt_all hr ok a2
      exact mem_ddI.mpr ((colsI_get hr ok).mpr ⟨a.2, c, a2, c1, by rw [c1]; rfl⟩)
    rwa [List.length_map, e] at this
end Q

/-! jobs: what the defs compute -/
namespace Q
open PySem PySem.Spec L2 G PySem.W
def jD (x : Job) : PyData := .tuple [.int x.1, .int x.2]
def jsD (J : List Job) : PyData := .list (J.map jD)
structure OkJs (J : List Job) : Prop where
  len : J.length ≤ 12
  all : ∀ x ∈ J, OkJ x
theorem ix_list {f g : ES} {env : G.Env} {xs : List PyData} {i : Int} {x : PyData} (h : f env = rt (.d (.list xs))) (h2 : g env = rt (.d (.int i))) (e : atI xs i = some x) : e2 oIx f g env = rt (.d x) := by
  simp only [e2, h, h2, bnd_rt, ix_lst e]
theorem meet_ok {r : Int} {x y : Job} : m_meet [.d (jD x), .d (jD y), .d (.int r)] = rt (.d (.bool (meets r x y))) := by
  refine mkFn_rt (env' := [some (.d (jD x)), some (.d (jD y)), some (.d (.int r))]) (ret_rt ?_)
  show eAnd _ _ [some (.d (jD x)), some (.d (jD y)), some (.d (.int r))] = _
  have a0 : e2 oIx (eVar 0) (eC (.int 0)) [some (.d (jD x)), some (.d (jD y)), some (.d (.int r))] = rt (.d (.int x.1)) := ix_is rfl rfl (atI_0 ..)
  have a1 : e2 oIx (eVar 0) (eC (.int 1)) [some (.d (jD x)), some (.d (jD y)), some (.d (.int r))] = rt (.d (.int x.2)) := ix_is rfl rfl (atI_1 ..)
  have b0 : e2 oIx (eVar 1) (eC (.int 0)) [some (.d (jD x)), some (.d (jD y)), some (.d (.int r))] = rt (.d (.int y.1)) := ix_is rfl rfl (atI_0 ..)
  have b1 : e2 oIx (eVar 1) (eC (.int 1)) [some (.d (jD x)), some (.d (jD y)), some (.d (.int r))] = rt (.d (.int y.2)) := ix_is rfl rfl (atI_1 ..)
  have l1 := lt_is a0 (add_is b1 (g := eVar 2) (j := r) rfl)
  have l2 := lt_is b0 (add_is a1 (g := eVar 2) (j := r) rfl)
  unfold meets
  simp only [eAnd, l1, bnd_rt, asB_b]
  by_cases q : x.1 < y.2 + r
  · rw [if_pos (decide_eq_true q), l2, decide_eq_true q, Bool.true_and]
  · rw [if_neg (by rw [decide_eq_false q]; exact Bool.false_ne_true), decide_eq_false q, Bool.false_and]
theorem enF_js {J : List Job} {env : G.Env} {i : Nat} (e : env[i]? = some (some (.d (jsD J)))) : iEnF (eVar i) env = rt (.en (.vals ((J.map jD).map M.d))) := enF_l (var_rt e)
theorem len_js {J : List Job} {env : G.Env} {i : Nat} (e : env[i]? = some (some (.d (jsD J)))) : eB nLen (aCons (eVar i) aNil) env = rt (.d (.int (J.length : Int))) := by
  have := len_lst (xs := J.map jD)
  rw [List.length_map] at this
  simp only [eB, aCons, aNil, var_rt e, bnd_rt]
  exact this
def underD (J : List Job) (r m : Int) : List PyData := (under J r m).map fun i : Nat => PyData.int (i : Int)
theorem under_map {J : List Job} {r m : Int} : (underZ J r m).map (fun a => M.d (.int (a.2 : Int))) = (underD J r m).map M.d := by
  unfold underD under
  rw [List.map_map, List.map_map]
  rfl
theorem under_len {J : List Job} {r m : Int} : (underD J r m).length = (underZ J r m).length := by unfold underD under; rw [List.length_map, List.length_map]
theorem under_way_ok {J : List Job} {r m : Int} (hl : J.length ≤ 12) : m_under_way [.d (jsD J), .d (.int r), .d (.int m)] = rt (.d (.list (underD J r m))) := by
  refine mkFn_rt (env' := [some (.d (jsD J)), some (.d (.int r)), some (.d (.int m)), none, none]) (ret_rt ?_)
  show eVal _ [some (.d (jsD J)), some (.d (.int r)), some (.d (.int m)), none, none] = _
  refine val_of ?_
  rw [comp_enum (enc := jD) (fun a => isUnder r m a.1) (fun a => M.d (.int (a.2 : Int))) (enF_js rfl) (by show _ < 16777216; omega) fun a ha => ⟨_, rfl, ?_, fun _ => rfl⟩]
  · exact congrArg rt under_map
  · simp only [wipeE, List.set_cons_succ, List.set_cons_zero]
    have a0 : e2 oIx (eVar 4) (eC (.int 0)) [some (.d (jsD J)), some (.d (.int r)), some (.d (.int m)), some (.d (.int (a.2 : Int))), some (.d (jD a.1))] = rt (.d (.int a.1.1)) := ix_is rfl rfl (atI_0 ..)
    have a1 : e2 oIx (eVar 4) (eC (.int 1)) [some (.d (jsD J)), some (.d (.int r)), some (.d (.int m)), some (.d (.int (a.2 : Int))), some (.d (jD a.1))] = rt (.d (.int a.1.2)) := ix_is rfl rfl (atI_1 ..)
    have s := add_is a1 (g := eVar 1) (j := r) rfl
    have v2 : eVar 2 [some (.d (jsD J)), some (.d (.int r)), some (.d (.int m)), some (.d (.int (a.2 : Int))), some (.d (jD a.1))] = rt (.d (.int m)) := rfl
    refine bO_rt ?_
    show eCh _ _ _ _ _ [some (.d (jsD J)), some (.d (.int r)), some (.d (.int m)), some (.d (.int (a.2 : Int))), some (.d (jD a.1))] = _
    unfold isUnder
    simp only [eCh, a0, v2, bnd_rt, le_i, asB_b, s]
    by_cases q : a.1.1 ≤ m
    · simp only [decide_eq_true q, if_true, lt_i, Bool.true_and]
    · simp only [decide_eq_false q, Bool.false_eq_true, if_false, Bool.false_and]
theorem is_job_t {x : Job} (h : OkJ x) : m_is_job [.d (jD x)] = rt (.d (.bool true)) := by
  have v : eVar 0 [some (.d (jD x)), none] = rt (.d (jD x)) := rfl
  refine mkFn_rt (env' := [some (.d (jD x)), none]) ?_
  show b_is_job [some (.d (jD x)), none] = _
  unfold b_is_job
  have al := all_is (el := eCall 3 m_is_within (aCons (eVar 1) (aCons (eC (.int 0)) (aCons (eC (.int 9999)) aNil)))) (i := 1) (enc := PyData.int) (xs := [x.1, x.2]) v (by show 2 < 1000000; decide) fun i hi => call_within (i := i) (lo := 0) (hi := 9999) rfl rfl rfl (by
    have := h.a; have := h.lt
    simp only [List.mem_cons, List.not_mem_nil, or_false] at hi
    omega) (by
    have := h.b; have := h.lt
    simp only [List.mem_cons, List.not_mem_nil, or_false] at hi
    omega)
  rw [seq_nx' (if_nil (bOr_f (bNot_rt (bO_rt (isi_t v))) (bOr_f (bO_rt (ne_is (j := 2) (len_is v) rfl)) (bNot_rt (bO_rt al)))))]
  refine ret_rt ?_
  have := lt_is (ix_is (g := eC (.int 0)) v rfl (atI_0 ..)) (ix_is (g := eC (.int 1)) v rfl (atI_1 ..))
  rw [decide_eq_true h.lt] at this
  exact this
theorem check_jobs_ok {J : List Job} {r : Int} (h : OkJs J) (r0 : 0 ≤ r) (r1 : r ≤ 200) : m_check_jobs [.d (jsD J), .d (.int r)] = rt (.d .none) := by
  have v : eVar 0 [some (.d (jsD J)), some (.d (.int r)), none] = rt (.d (jsD J)) := rfl
  have hl := len_js (i := 0) (J := J) (env := [some (.d (jsD J)), some (.d (.int r)), none]) rfl
  have g := gt_is (j := 12) (g := eC (.int 12)) hl rfl
  rw [decide_eq_false (by have := h.len; omega)] at g
  have al : eB nAll (aCons (eVal (nComp (iSeqF (eVar 0)) (.nm 2) bYes (eCall 1 m_is_job (aCons (eVar 2) aNil)) [2])) aNil) [some (.d (jsD J)), some (.d (.int r)), none] = rt (.d (.bool true)) := by
    have hv := comp_valT (fun x => M.d (jD x)) (fun _ => PyData.bool true) (itf := iSeqF (eVar 0)) (vs := [2]) (p := .nm 2) (el := eCall 1 m_is_job (aCons (eVar 2) aNil)) (env := [some (.d (jsD J)), some (.d (.int r)), none]) (ys := J) (by rw [seqF_l v, List.map_map]; rfl) (by have := h.len; show _ < 16777216; omega) fun x hx => ⟨_, rfl, call1 (x := jD x) rfl (is_job_t (h.all x hx))⟩
    rw [show (J.map fun _ => PyData.bool true) = (J.map fun _ => true).map PyData.bool by rw [List.map_map]; rfl] at hv
    simp only [eB, aCons, aNil, hv, bnd_rt, all_bs]
    rw [show ((J.map fun _ => true).all id) = true by simp]
  refine mkFn_rtn (env' := [some (.d (jsD J)), some (.d (.int r)), none]) ?_
  show b_check_jobs [some (.d (jsD J)), some (.d (.int r)), none] = _
  unfold b_check_jobs
  have il : eIsi "list" (eVar 0) [some (.d (jsD J)), some (.d (.int r)), none] = rt (.d (.bool true)) := isi_d (a := "list") v fun _ => rfl
  rw [seq_nx' (if_nil (bOr_f (bNot_rt (bO_rt il)) (bOr_f (bO_rt g) (bNot_rt (bO_rt al)))))]
  exact if_nil (bNot_rt (bO_rt (call_within (i := r) (lo := 0) (hi := 200) rfl rfl rfl r0 r1)))
/-- sorted([(job[0], number) ..]) -/
theorem sort_ord {J : List Job} {i a b : Nat} {env : G.Env} {itf : G.Env → Sm SIt} {p : Pat} {el : ES} {vs : List Nat} (hl : J.length ≤ 12) (e : itf env = rt (.en (.vals ((J.map jD).map M.d)))) (st : ∀ a ∈ J.zipIdx, ∃ env1, p.asg (.d (.tuple [.int (a.2 : Int), jD a.1])) (wipeE env vs) = some env1 ∧ el env1 = rt (.d (ppD (a.1.1, (a.2 : Int))))) :
    eVal (nSort (aCons (eVal (nComp itf p bYes el vs)) aNil)) env = rt (.d (.list ((ordZ J).map ppD))) := by
  have c : eVal (nComp itf p bYes el vs) env = rt (.d (.list ((J.zipIdx.map fun a => (a.1.1, (a.2 : Int))).map ppD))) := by
    refine val_of ?_
    rw [comp_enum (tt := bYes) (enc := jD) (fun _ => true) (fun a => M.d (ppD (a.1.1, (a.2 : Int)))) e (by show _ < 16777216; omega) fun a ha => let ⟨x, h1, h2⟩ := st a ha; ⟨x, h1, rfl, fun _ => h2⟩, filter_true, List.map_map, List.map_map]
    rfl
  refine val_of ?_
  funext h
  simp only [nSort, nB, aCons, aNil, c, bnd_rt]
  have e1 : lstM h (.d (.list ((J.zipIdx.map fun a => (a.1.1, (a.2 : Int))).map ppD))) = some ((J.zipIdx.map fun a => (a.1.1, (a.2 : Int))).map fun p => M.d (ppD p)) := by
    simp only [lstM]
    rw [List.map_map]
    rfl
  have e2 : opSort h [.d (.list ((J.zipIdx.map fun a => (a.1.1, (a.2 : Int))).map ppD))] = some (((ordZ J).map ppD).map M.d) := by
    simp only [opSort, e1]
    cases q : J.zipIdx.map fun a => (a.1.1, (a.2 : Int)) with
    | nil =>
      unfold ordZ
      rw [q]
      have z1 : G.sortI [] = [] := by simp [G.sortI]
      have z2 : sortP [] = [] := by simp [sortP]
      rw [z2]
      show some ((G.sortI []).map _) = _
      rw [z1]
      rfl
    | cons p ps =>
      have : intsM ((p :: ps).map fun p => M.d (ppD p)) = none := rfl
      rw [this]
      simp only [pairsM_map]
      unfold ordZ
      rw [q, List.map_map]
      rfl
  rw [e2]
  rfl

def oD : Option Nat → PyData
  | none => .none
  | some c => .int (c : Int)
theorem cs_at {cs : List (Option Nat)} {k : Nat} (h : k < cs.length) : atI (cs.map oD) (k : Int) = some (oD (colAt cs k)) := by
  rw [atI_map, atI_nat (List.getElem?_eq_getElem h)]
  unfold colAt
  rw [List.getElem?_eq_getElem h]
  rfl
theorem mex_ltJ {J : List Job} {r : Int} {cs : List (Option Nat)} {j : Nat} {x : Job} (hj : J[j]? = some x) (hn : colAt cs j = none) : mex (taken J r cs x) < J.length := by
  refine Nat.lt_of_le_of_lt mex_le ?_
  unfold taken
  rw [List.length_map]
  have := filter_lt (p := fun a : Job × Nat => (colAt cs a.2).isSome && meets r a.1 x) (q := fun _ => true) (l := J.zipIdx) (fun _ _ _ => rfl) ⟨(x, j), zip_mem hj, rfl, by simp only [hn]; rfl⟩
  rw [filter_true, List.length_zipIdx] at this
  exact this
theorem taken_map {J : List Job} {r : Int} {cs : List (Option Nat)} {x : Job} : (takZ J r cs x).map (fun a => M.d (oD (colAt cs a.2))) = ((taken J r cs x).map fun c : Nat => PyData.int (c : Int)).map M.d := by
  unfold taken
  rw [List.map_map, List.map_map]
  refine List.map_congr_left fun a ha => ?_
  have := (List.mem_filter.mp ha).2
  rw [Bool.and_eq_true] at this
  obtain ⟨c, hc⟩ := Option.isSome_iff_exists.mp this.1
  show M.d (oD (colAt cs a.2)) = M.d (.int (((colAt cs a.2).getD 0 : Nat) : Int))
  rw [hc]
  rfl
theorem mem_cast {l : List Nat} {c : Nat} : (c : Int) ∈ l.map (fun c : Nat => (c : Int)) ↔ c ∈ l := by
  rw [List.mem_map]
  exact ⟨fun ⟨d, hd, e⟩ => by rw [show c = d by omega]; exact hd, fun h => ⟨c, h, rfl⟩⟩
abbrev GE (J : List Job) (r : Int) (k : Nat) (v3 v4 v5 v6 v7 v8 : Option M) : G.Env := [some (.d (jsD J)), some (.d (.int r)), some (.obj k), v3, v4, v5, v6, v7, v8]
theorem greedy1_ok {J : List Job} {r : Int} {cs : List (Option Nat)} {h : Hh} {k j : Nat} {x : Job} {v3 v5 v6 v7 v8 : Option M} (hl : J.length ≤ 12) (hc : cs.length = J.length) (hk : h[k]? = some (.lst (cs.map oD))) (hj : J[j]? = some x) (hn : colAt cs j = none) :
    ∃ v5', b_greedy_1 (GE J r k v3 (some (.d (.int (j : Int)))) v5 v6 v7 v8) h = some (.val (.nx, GE J r k v3 (some (.d (.int (j : Int)))) v5' v6 v7 v8) (h.set k (.lst ((stepC J r cs j).map oD)))) := by
  have hjl : j < J.length := (List.getElem?_eq_some_iff.mp hj).1
  unfold b_greedy_1
  have c1 : eVal (nComp (iEnF (eVar 0)) (.tu [(.nm 7), (.nm 6)]) (bAnd (bO (e2 oNotN (e2 oIx (eVar 2) (eVar 7)) (eC .none))) (bO (eCall 3 m_meet (aCons (eVar 6) (aCons (e2 oIx (eVar 0) (eVar 4)) (aCons (eVar 1) aNil)))))) (e2 oIx (eVar 2) (eVar 7)) [7, 6]) (GE J r k v3 (some (.d (.int (j : Int)))) v5 v6 v7 v8) h = some (.val (.d (.list ((taken J r cs x).map fun c : Nat => PyData.int (c : Int)))) h) := by
    refine val_at ?_
    rw [comp_enum_at (enc := jD) (fun a => (colAt cs a.2).isSome && meets r a.1 x) (fun a => M.d (oD (colAt cs a.2))) (enF_js rfl) (by show _ < 16777216; omega) fun a ha => ?_]
    · exact congrArg (fun z => some (Out.val z h)) taken_map
    · have ha2 : a.2 < cs.length := by
        have := mem_zip ha
        rw [hc]
        exact (List.getElem?_eq_some_iff.mp this).1
      have ix : e2 oIx (eVar 2) (eVar 7) (GE J r k v3 (some (.d (.int (j : Int)))) v5 (some (.d (jD a.1))) (some (.d (.int (a.2 : Int)))) v8) h = some (.val (.d (oD (colAt cs a.2))) h) := by
        simp only [e2, eVar, List.getElem?_cons_zero, List.getElem?_cons_succ, bnd_rt]
        exact ix_cell hk (cs_at ha2)
      have jx : e2 oIx (eVar 0) (eVar 4) (GE J r k v3 (some (.d (.int (j : Int)))) v5 (some (.d (jD a.1))) (some (.d (.int (a.2 : Int)))) v8) = rt (.d (jD x)) := ix_list (xs := J.map jD) rfl rfl (atI_mapD (atI_nat hj))
      have mt : eCall 3 m_meet (aCons (eVar 6) (aCons (e2 oIx (eVar 0) (eVar 4)) (aCons (eVar 1) aNil))) (GE J r k v3 (some (.d (.int (j : Int)))) v5 (some (.d (jD a.1))) (some (.d (.int (a.2 : Int)))) v8) = rt (.d (.bool (meets r a.1 x))) := by
        refine call_rt (ms := [.d (jD a.1), .d (jD x), .d (.int r)]) ?_ rfl meet_ok
        rw [aCons, aCons, jx]
        rfl
      refine ⟨_, rfl, ?_, fun _ => ix⟩
      show bnd (bnd (bnd (e2 oIx (eVar 2) (eVar 7) (GE J r k v3 (some (.d (.int (j : Int)))) v5 (some (.d (jD a.1))) (some (.d (.int (a.2 : Int)))) v8)) _) _) _ h = _
      rw [bnd_assoc, bnd_assoc, bnd_val ix]
      simp only [eC, bnd_rt]
      cases q : colAt cs a.2 with
      | none => rfl
      | some c =>
        show (if true = true then bO (eCall 3 m_meet (aCons (eVar 6) (aCons (e2 oIx (eVar 0) (eVar 4)) (aCons (eVar 1) aNil)))) (GE J r k v3 (some (.d (.int (j : Int)))) v5 (some (.d (jD a.1))) (some (.d (.int (a.2 : Int)))) v8) else rt false) h = _
        rw [if_pos rfl, bO_rt mt]
        rfl
  refine ⟨some (.d (.list ((taken J r cs x).map fun c : Nat => PyData.int (c : Int)))), ?_⟩
  refine (seq_nx (set_val (p := .nm 5) c1 rfl)).trans ?_
  have c2 : eVal (nComp (iRng1F (aCons (eB nLen (aCons (eVar 0) aNil)) aNil)) (.nm 8) (bO (e2 oNotIn (eVar 8) (eVar 5))) (eVar 8) [8]) (GE J r k v3 (some (.d (.int (j : Int)))) (some (.d (.list ((taken J r cs x).map fun c : Nat => PyData.int (c : Int))))) v6 v7 v8) = rt (.d (.list (((rngL 0 J.length).filter fun i => !decide (i ∈ (taken J r cs x).map fun c : Nat => (c : Int))).map PyData.int))) := by
    refine comp_val (fun i => M.d (.int i)) (fun i => !decide (i ∈ (taken J r cs x).map fun c : Nat => (c : Int))) PyData.int (rng1F (n := J.length) (by rw [aCons, len_js (i := 0) (J := J) rfl]; rfl) (by omega)) (by rw [len_rngL]; show _ < 16777216; omega) fun i hi => ⟨_, rfl, ?_, fun _ => rfl⟩
    refine bO_rt ?_
    have := notin_L (a := i) (ds := (taken J r cs x).map fun c : Nat => (c : Int))
    rw [List.map_map] at this
    exact this
  have mm : minI ((rngL 0 J.length).filter fun i => !decide (i ∈ (taken J r cs x).map fun c : Nat => (c : Int))) = some ((mex (taken J r cs x) : Nat) : Int) := by
    have hlt := mex_ltJ (r := r) hj hn
    refine minI_is (List.mem_filter.mpr ⟨mem_rngL.mpr (by omega), ?_⟩) fun y hy => ?_
    · rw [Bool.not_eq_true', decide_eq_false_iff_not, mem_cast]
      exact mex_not
    · obtain ⟨h1, h2⟩ := List.mem_filter.mp hy
      rw [mem_rngL] at h1
      rw [Bool.not_eq_true', decide_eq_false_iff_not] at h2
      refine Int.not_lt.mp fun q => h2 ?_
      obtain ⟨n, rfl⟩ : ∃ n : Nat, y = n := ⟨y.toNat, by omega⟩
      rw [mem_cast]
      exact mex_lt (by omega)
  have c3 : eB nMin (aCons (eVal (nComp (iRng1F (aCons (eB nLen (aCons (eVar 0) aNil)) aNil)) (.nm 8) (bO (e2 oNotIn (eVar 8) (eVar 5))) (eVar 8) [8])) aNil) (GE J r k v3 (some (.d (.int (j : Int)))) (some (.d (.list ((taken J r cs x).map fun c : Nat => PyData.int (c : Int))))) v6 v7 v8) = rt (.d (.int ((mex (taken J r cs x) : Nat) : Int))) := by
    rw [eB, aCons, c2]
    exact min_L mm
  have st := setIx_at (fo := eVar 2) (fi := eVar 4) (i := (j : Int)) (congrFun c3 h) rfl rfl hk (ixN_nat (by rw [List.length_map, hc]; exact hjl))
  refine st.trans ?_
  have : (stepC J r cs j).map oD = (cs.map oD).set j (.int ((mex (taken J r cs x) : Nat) : Int)) := by
    unfold stepC
    rw [hj, List.map_set]
    rfl
  rw [this]

theorem shared_pre {J : List Job} {r : Int} (hr : 0 ≤ r) (ok : ∀ x ∈ J, OkJ x) (i : Nat) : Sharing J r ((ord J).take i) (((ord J).take i).foldl (stepC J r) (List.replicate J.length none)) := by
  have sub : ((ord J).take i).Sublist (ord J) := List.take_sublist _ _
  have := Sharing.all hr ok ((ord J).take i) [] (List.replicate J.length none) ⟨List.length_replicate, fun k => by
    unfold colAt
    rw [List.getElem?_replicate]
    split <;> simp, (fun k hk => nomatch hk), (fun k hk => nomatch hk)⟩ (fun j hj => ⟨ord_mem.mp (sub.subset hj), List.not_mem_nil⟩) ((ord_nodup J).sublist sub) (fun k hk => nomatch hk) ((ord_up J).sublist sub)
  rwa [List.nil_append] at this
theorem ord_len (J : List Job) : (ord J).length = J.length := by rw [(ord_perm J).length_eq, List.length_range]
theorem loop_ok {enc : Option Nat → PyData} {body : SS} {J : List Job} {r : Int} {h : Hh} {v3 v4 v5 v6 v7 v8 : Option M} (hr : 0 ≤ r) (ok : ∀ x ∈ J, OkJ x)
    (hb : ∀ (cs : List (Option Nat)) (h' : Hh) (j : Nat) (x : Job) (v3 v5 v6 v7 v8 : Option M), cs.length = J.length → h'[h.length]? = some (.lst (cs.map enc)) → J[j]? = some x → colAt cs j = none → ∃ v5' v6', body (GE J r h.length v3 (some (.d (.int (j : Int)))) v5 v6 v7 v8) h' = some (.val (.nx, GE J r h.length v3 (some (.d (.int (j : Int)))) v5' v6' v7 v8) (h'.set h.length (.lst ((stepC J r cs j).map enc))))) :
    ∃ w3 w4 w5 w6, forL (.tu [(.nm 3), (.nm 4)]) body (((ordZ J).map ppD).map M.d) (GE J r h.length v3 v4 v5 v6 v7 v8) (h ++ [.lst ((List.replicate J.length none).map enc)]) = some (.val (.nx, GE J r h.length w3 w4 w5 w6 v7 v8) (h ++ [.lst ((cols J r).map enc)])) := by
  obtain ⟨env', h', el, ⟨w3, w4, w5, w6, rfl⟩, rfl⟩ := forL_invN (fun i env h' => (∃ v3 v4 v5 v6, env = GE J r h.length v3 v4 v5 v6 v7 v8) ∧ h' = h ++ [.lst ((((ord J).take i).foldl (stepC J r) (List.replicate J.length none)).map enc)])
    (p := .tu [(.nm 3), (.nm 4)]) (body := body) (xs := ((ordZ J).map ppD).map M.d) (k := 0) (env := GE J r h.length v3 v4 v5 v6 v7 v8) (h := h ++ [.lst ((List.replicate J.length none).map enc)]) ⟨⟨_, _, _, _, rfl⟩, rfl⟩ (by
      rintro i m hm env h' ⟨⟨v3, v4, v5, v6, rfl⟩, rfl⟩
      rw [Nat.zero_add] at *
      rw [List.getElem?_map, List.getElem?_map] at hm
      cases hp : (ordZ J)[i]? with
      | none => rw [hp] at hm; cases hm
      | some p =>
        rw [hp] at hm
        cases hm
        obtain ⟨j, x, hx, rfl⟩ := ordZ_mem.mp (List.mem_of_getElem? hp)
        have oj : (ord J)[i]? = some j := by
          unfold ord
          rw [List.getElem?_map, hp]
          rfl
        have S := shared_pre hr ok i
        have nj : j ∉ (ord J).take i := fun q => by
          obtain ⟨a, ha, e⟩ := List.mem_iff_getElem.mp q
          rw [List.getElem_take] at e
          rw [List.length_take] at ha
          obtain ⟨hi, e2⟩ := List.getElem?_eq_some_iff.mp oj
          have := (List.pairwise_iff_getElem.mp (ord_nodup J)) a i (by omega) hi (by omega)
          exact this (by rw [e, e2])
        have cn : colAt (((ord J).take i).foldl (stepC J r) (List.replicate J.length none)) j = none := by
          cases q : colAt (((ord J).take i).foldl (stepC J r) (List.replicate J.length none)) j with
          | none => rfl
          | some c => exact absurd ((S.dom j).mp (by rw [q]; rfl)) nj
        obtain ⟨w5, w6, e⟩ := hb _ _ j x (some (.d (.int x.1))) v5 v6 v7 v8 S.len last_at hx cn
        rw [last_set] at e
        refine ⟨_, _, _, rfl, e, ⟨_, _, _, _, rfl⟩, ?_⟩
        rw [List.take_add_one, oj, List.foldl_append]
        rfl)
  refine ⟨w3, w4, w5, w6, ?_⟩
  rw [el, List.length_map, List.length_map, Nat.zero_add]
  have : (ordZ J).length = (ord J).length := by unfold ord; rw [List.length_map]
  rw [this, List.take_of_length_le (Nat.le_refl _)]
  rfl
theorem cols_map {J : List Job} {r : Int} {enc : Option Nat → PyData} (hr : 0 ≤ r) (ok : ∀ x ∈ J, OkJ x) (he : ∀ c : Nat, enc (some c) = .int (c : Int)) : (cols J r).map enc = (colsI J r).map PyData.int := by
  unfold colsI
  rw [List.map_map]
  refine List.map_congr_left fun o ho => ?_
  obtain ⟨k, hk, rfl⟩ := List.mem_iff_getElem.mp ho
  have S := shared_all hr ok
  obtain ⟨c, _, e⟩ := colAt_all hr ok (k := k) (by rw [← S.len]; exact hk)
  rw [List.getElem?_eq_getElem hk] at e
  rw [Option.some.inj e, he]
  rfl
theorem greedy_ok {J : List Job} {r : Int} {h : Hh} (hf : flatH h) (ok : OkJs J) (hr : 0 ≤ r) : m_greedy [.d (jsD J), .d (.int r)] h = some (.val (.d (.list ((colsI J r).map PyData.int))) h) := by
  have hl := ok.len
  obtain ⟨w3, w4, w5, w6, el⟩ := loop_ok (enc := oD) (body := b_greedy_1) (J := J) (r := r) (h := h) (v3 := none) (v4 := none) (v5 := none) (v6 := none) (v7 := none) (v8 := none) hr ok.all fun cs h' j x v3 v5 v6 v7 v8 hc hk hj hn => by
    obtain ⟨v5', e⟩ := greedy1_ok (r := r) (v3 := v3) (v5 := v5) (v6 := v6) (v7 := v7) (v8 := v8) hl hc hk hj hn
    exact ⟨v5', v6, e⟩
  refine mkFnS_0 (h' := h) (l := [.dead]) (mkFn_val (n := 9) (g := b_greedy) (env' := GE J r h.length w3 w4 w5 w6 none none) ?_) rfl hf
  show b_greedy [some (.d (jsD J)), some (.d (.int r)), none, none, none, none, none, none, none] h = _
  unfold b_greedy
  have c0 : eCell (nComp (iSeqF (eVar 0)) (.nm 6) bYes (eC .none) [6]) [some (.d (jsD J)), some (.d (.int r)), none, none, none, none, none, none, none] h = some (.val (.obj h.length) (h ++ [.lst ((List.replicate J.length none).map oD)])) := by
    refine cell_rt ?_
    rw [comp_map (tt := bYes) (fun x => M.d (jD x)) (fun _ => true) (fun _ => M.d .none) (ys := J) (by rw [seqF_l (f := eVar 0) (xs := J.map jD) rfl, List.map_map]; rfl) (by show _ < 16777216; omega) fun x hx => ⟨_, rfl, rfl, fun _ => rfl⟩, filter_true]
    congr 1
    apply List.ext_getElem
    · simp
    · intro i h1 h2
      simp [oD]
  refine (seq_nx (set_val (p := .nm 2) c0 rfl)).trans ?_
  have so := sort_ord (J := J) (i := 0) (a := 0) (b := 0) (env := GE J r h.length none none none none none none) (itf := iEnF (eVar 0)) (p := .tu [(.nm 4), (.nm 6)]) (el := eTup (aCons (e2 oIx (eVar 6) (eC (.int 0))) (aCons (eVar 4) aNil))) (vs := [4, 6]) hl (enF_js rfl) fun a ha => ⟨_, rfl, by
    have : e2 oIx (eVar 6) (eC (.int 0)) (GE J r h.length none (some (.d (.int (a.2 : Int)))) none (some (.d (jD a.1))) none none) = rt (.d (.int a.1.1)) := ix_is rfl rfl (atI_0 ..)
    show eTup _ (GE J r h.length none (some (.d (.int (a.2 : Int)))) none (some (.d (jD a.1))) none none) = _
    rw [eTup, aCons, this]
    rfl⟩
  refine (seq_nx ((for_vals (congrFun (seqF_l so) _)).trans el)).trans ?_
  rw [cols_map hr ok.all fun _ => rfl]
  refine ret_val ?_
  have v : eVar 2 (GE J r h.length w3 w4 w5 w6 none none) = rt (.obj h.length) := rfl
  unfold eFrz
  rw [v, bnd_rt]
  simp only [frzM, last_at, last_set]
def cnt (J : List Job) (r : Int) (x : Job) : Int := ((underZ J r x.1).length : Int)
structure Many (J : List Job) (r many minute : Int) : Prop where
  le : ∀ x ∈ J, cnt J r x ≤ many
  at_ : ∃ x ∈ J, cnt J r x = many ∧ x.1 = minute
  first : ∀ x ∈ J, cnt J r x = many → minute ≤ x.1
theorem many_ex {J : List Job} {r : Int} (h : J ≠ []) : ∃ many minute, Many J r many minute := by
  have e1 : ∃ m, maxI (J.map (cnt J r)) = some m := by
    cases J with
    | nil => exact absurd rfl h
    | cons a l => exact ⟨_, rfl⟩
  obtain ⟨m, em⟩ := e1
  obtain ⟨m1, m2⟩ := maxI_ok em
  obtain ⟨x, hx, ex⟩ := List.mem_map.mp m1
  have e2 : ∃ n, minI ((J.filter fun x => decide (cnt J r x = m)).map (·.1)) = some n := by
    cases q : (J.filter fun x => decide (cnt J r x = m)).map (·.1) with
    | nil =>
      have : x.1 ∈ (J.filter fun x => decide (cnt J r x = m)).map (·.1) := List.mem_map.mpr ⟨x, List.mem_filter.mpr ⟨hx, decide_eq_true ex⟩, rfl⟩
      rw [q] at this
      cases this
    | cons a l => exact ⟨_, rfl⟩
  obtain ⟨n, en⟩ := e2
  obtain ⟨n1, n2⟩ := minI_ok en
  obtain ⟨y, hy, ey⟩ := List.mem_map.mp n1
  obtain ⟨hy1, hy2⟩ := List.mem_filter.mp hy
  exact ⟨m, n, fun z hz => m2 _ (List.mem_map.mpr ⟨z, hz, rfl⟩), ⟨y, hy1, of_decide_eq_true hy2, ey⟩, fun z hz ez => n2 _ (List.mem_map.mpr ⟨z, List.mem_filter.mpr ⟨hz, decide_eq_true ez⟩, rfl⟩)⟩
end Q

/-! a loop that may return -/
namespace Q
open PySem PySem.Spec L2 G PySem.W
theorem forL_fold {α σ : Type} (inj : α → M) (stop : α → Bool) (r : M) (stp : σ → α → σ) (I : σ → G.Env → Prop) {p : Pat} {body : SS} : ∀ (ys : List α) (c : σ) (env : G.Env), I c env →
    (∀ a ∈ ys, ∀ c env, I c env → ∃ env1 env2, p.asg (inj a) env = some env1 ∧ body env1 = rt (if stop a = true then .rt r else .nx, env2) ∧ (stop a = false → I (stp c a) env2)) →
    ∃ env', forL p body (ys.map inj) env = rt (if ys.any stop = true then .rt r else .nx, env') ∧ (ys.any stop = false → I (ys.foldl stp c) env')
  | [], c, env, i, _ => ⟨env, rfl, fun _ => i⟩
  | a :: ys, c, env, i, st => by
    obtain ⟨env1, env2, e1, e2, i2⟩ := st a (List.mem_cons_self ..) c env i
    cases hs : stop a with
    | true =>
      rw [hs, if_pos rfl] at e2
      refine ⟨env2, ?_, fun h => ?_⟩
      · rw [List.map_cons, forL, e1]
        simp only
        rw [e2, bnd_rt, List.any_cons, hs, Bool.true_or, if_pos rfl]
        rfl
      · rw [List.any_cons, hs, Bool.true_or] at h
        exact Bool.noConfusion h
    | false =>
      rw [hs, if_neg Bool.false_ne_true] at e2
      obtain ⟨env', e3, i3⟩ := forL_fold inj stop r stp I ys (stp c a) env2 (i2 hs) fun b hb => st b (List.mem_cons_of_mem _ hb)
      refine ⟨env', ?_, fun h => ?_⟩
      · rw [List.map_cons, forL, e1]
        simp only
        rw [e2, bnd_rt, List.any_cons, hs, Bool.false_or]
        exact e3
      · rw [List.any_cons, hs, Bool.false_or] at h
        exact i3 h
end Q

/-! law k72: sharings and crushes looked at -/
namespace Q
open PySem PySem.Spec L2 G PySem.W
theorem callX2 {f : Fn} {g k : ES} {env : G.Env} {x y : PyData} {m : M} (hx : g env = rt (.d x)) (hy : k env = rt (.d y)) (e : f [.d x, .d y] = rt m) : eCallX 2 f (aCons g (aCons k aNil)) env = rt m := by
  simp only [eCallX, aCons, aNil, hx, hy, bnd_rt]
  exact e
def natB : PyData → Bool
  | .int i => decide (0 ≤ i)
  | _ => false
def toI : PyData → Int
  | .int i => i
  | _ => 0
def bad (ns : List Int) (J : List Job) (r : Int) (i : Nat) : Bool := (rngL 0 i).any fun k => decide (ns.getD k.toNat 0 = ns.getD i 0) && meets r (J.getD k.toNat (0, 0)) (J.getD i (0, 0))
def shB (J : List Job) (r : Int) : PyData → Bool
  | .list xs => decide (xs.length = J.length) && (xs.all natB && !(J.zipIdx.any fun a => bad (xs.map toI) J r a.2))
  | _ => false
theorem meets_comm {r : Int} {a b : Job} : meets r a b = meets r b a := by unfold meets; rw [Bool.and_comm]
theorem nats_of : ∀ {xs : List PyData}, xs.all natB = true → xs = (xs.map toI).map PyData.int
  | [], _ => rfl
  | x :: xs, h => by
    rw [List.all_cons, Bool.and_eq_true] at h
    have := nats_of h.2
    cases x with
    | int i => rw [List.map_cons, List.map_cons, ← this]; rfl
    | _ => cases h.1
theorem natB_split (x : PyData) : natB x = (isInt x && decide (0 ≤ toI x)) := by cases x <;> rfl
theorem all_split (xs : List PyData) : xs.all natB = (xs.all isInt && xs.all fun x => decide (0 ≤ toI x)) := by
  induction xs with
  | nil => rfl
  | cons x xs ih =>
    simp only [List.all_cons, ih, natB_split]
    cases isInt x <;> cases decide (0 ≤ toI x) <;> cases xs.all isInt <;> simp
section
variable {J : List Job} {r : Int} {xs : List PyData}
theorem at_job {k : Nat} (h : k < J.length) : atI (J.map jD) (k : Int) = some (jD (J.getD k (0, 0))) := by
  refine atI_mapD (atI_nat ?_)
  rw [List.getD_eq_getElem?_getD, List.getElem?_eq_getElem h]
  rfl
theorem at_num {ns : List Int} {k : Nat} (h : k < ns.length) : atI (ns.map PyData.int) (k : Int) = some (.int (ns.getD k 0)) := by
  refine atI_mapD (atI_nat ?_)
  rw [List.getD_eq_getElem?_getD, List.getElem?_eq_getElem h]
  rfl
theorem zip_at {a : Job × Nat} (h : a ∈ J.zipIdx) : a.2 < J.length ∧ J.getD a.2 (0, 0) = a.1 := by
  have := mem_zip h
  refine ⟨(List.getElem?_eq_some_iff.mp this).1, ?_⟩
  rw [List.getD_eq_getElem?_getD, this]
  rfl
/-- one turn of the program's walk -/
theorem sh_turn {ns : List Int} (hl : J.length ≤ 12) (hn : ns.length = J.length) {a : Job × Nat} (ha : a ∈ J.zipIdx) {v5 : Option M} : b_is_sharing_1 [some (.d (jsD J)), some (.d (.int r)), some (.d (.list (ns.map PyData.int))), some (.d (.int (a.2 : Int))), some (.d (jD a.1)), v5] = rt (if bad ns J r a.2 = true then .rt (.d (.bool false)) else .nx, [some (.d (jsD J)), some (.d (.int r)), some (.d (.list (ns.map PyData.int))), some (.d (.int (a.2 : Int))), some (.d (jD a.1)), v5]) := by
  obtain ⟨hi, hj⟩ := zip_at ha
  have t : bO (eB nAny (aCons (eVal (nComp (iRng1F (aCons (eVar 3) aNil)) (.nm 5) bYes (eAnd (e2 oEq (e2 oIx (eVar 2) (eVar 3)) (e2 oIx (eVar 2) (eVar 5))) (eCall 3 m_meet (aCons (eVar 4) (aCons (e2 oIx (eVar 0) (eVar 5)) (aCons (eVar 1) aNil))))) [5])) aNil)) [some (.d (jsD J)), some (.d (.int r)), some (.d (.list (ns.map PyData.int))), some (.d (.int (a.2 : Int))), some (.d (jD a.1)), v5] = rt (bad ns J r a.2) := by
    refine bO_rt ?_
    refine any_v (fun i : Int => M.d (.int i)) (fun k => decide (ns.getD k.toNat 0 = ns.getD a.2 0) && meets r (J.getD k.toNat (0, 0)) (J.getD a.2 (0, 0))) (rng1F (n := (a.2 : Int)) rfl (by omega)) (by rw [len_rngL]; omega) fun k hk => ?_
    rw [mem_rngL] at hk
    obtain ⟨i, rfl⟩ : ∃ i : Nat, k = i := ⟨k.toNat, by omega⟩
    refine ⟨[some (.d (jsD J)), some (.d (.int r)), some (.d (.list (ns.map PyData.int))), some (.d (.int (a.2 : Int))), some (.d (jD a.1)), some (.d (.int (i : Int)))], rfl, ?_⟩
    have x1 : e2 oIx (eVar 2) (eVar 3) [some (.d (jsD J)), some (.d (.int r)), some (.d (.list (ns.map PyData.int))), some (.d (.int (a.2 : Int))), some (.d (jD a.1)), some (.d (.int (i : Int)))] = rt (.d (.int (ns.getD a.2 0))) := ix_list rfl rfl (at_num (by omega))
    have x2 : e2 oIx (eVar 2) (eVar 5) [some (.d (jsD J)), some (.d (.int r)), some (.d (.list (ns.map PyData.int))), some (.d (.int (a.2 : Int))), some (.d (jD a.1)), some (.d (.int (i : Int)))] = rt (.d (.int (ns.getD i 0))) := ix_list rfl rfl (at_num (by omega))
    have x3 : e2 oIx (eVar 0) (eVar 5) [some (.d (jsD J)), some (.d (.int r)), some (.d (.list (ns.map PyData.int))), some (.d (.int (a.2 : Int))), some (.d (jD a.1)), some (.d (.int (i : Int)))] = rt (.d (jD (J.getD i (0, 0)))) := ix_list rfl rfl (at_job (by omega))
    have m : eCall 3 m_meet (aCons (eVar 4) (aCons (e2 oIx (eVar 0) (eVar 5)) (aCons (eVar 1) aNil))) [some (.d (jsD J)), some (.d (.int r)), some (.d (.list (ns.map PyData.int))), some (.d (.int (a.2 : Int))), some (.d (jD a.1)), some (.d (.int (i : Int)))] = rt (.d (.bool (meets r a.1 (J.getD i (0, 0))))) := call_rt (ms := [.d (jD a.1), .d (jD (J.getD i (0, 0))), .d (.int r)]) (by simp only [aCons, aNil, x3, bnd_rt]; rfl) rfl meet_ok
    have := eAnd_c (eq_is x1 x2) fun _ => m
    rw [this, Int.toNat_natCast, hj, meets_comm, decide_eq_decide.mpr (show ns.getD a.2 0 = ns.getD i 0 ↔ ns.getD i 0 = ns.getD a.2 0 from ⟨Eq.symm, Eq.symm⟩)]
  unfold b_is_sharing_1
  cases hb : bad ns J r a.2 with
  | true => rw [hb] at t; rw [if_T t]; exact ret_rt rfl
  | false => rw [hb] at t; exact if_nil t
theorem all_L {f el : ES} {env : G.Env} {i : Nat} (p : PyData → Bool) (h : f env = rt (.d (.list xs))) (hl : xs.length < 16777216) (he : ∀ x ∈ xs, el ((wipeE env [i]).set i (some (.d x))) = rt (.d (.bool (p x)))) :
    eB nAll (aCons (eVal (nComp (iSeqF f) (.nm i) bYes el [i])) aNil) env = rt (.d (.bool (xs.all p))) := all_v M.d p (seqLl h) hl fun x hx => ⟨_, rfl, he x hx⟩
theorem is_sharing_x (hJ : OkJs J) (r0 : 0 ≤ r) (r1 : r ≤ 200) (x : PyData) : m_is_sharing [.d (jsD J), .d (.int r), .d x] = rt (.d (.bool (shB J r x))) := by
  have key : ∃ env', b_is_sharing [some (.d (jsD J)), some (.d (.int r)), some (.d x), none, none, none] = rt (.rt (.d (.bool (shB J r x))), env') := by
    unfold b_is_sharing
    have s1 : sExp (eCallX 2 m_check_jobs (aCons (eVar 0) (aCons (eVar 1) aNil))) [some (.d (jsD J)), some (.d (.int r)), some (.d x), none, none, none] = rt (.nx, [some (.d (jsD J)), some (.d (.int r)), some (.d x), none, none, none]) := by
      unfold sExp
      rw [callX2 (f := m_check_jobs) (g := eVar 0) (k := eVar 1) (x := jsD J) (y := .int r) rfl rfl (check_jobs_ok hJ r0 r1), bnd_rt]
    rw [seq_nx' s1]
    have v : eVar 2 [some (.d (jsD J)), some (.d (.int r)), some (.d x), none, none, none] = rt (.d x) := rfl
    by_cases hx : isLst x = true
    · cases x with
      | list xs =>
        have lj : eB nLen (aCons (eVar 0) aNil) [some (.d (jsD J)), some (.d (.int r)), some (.d (.list xs)), none, none, none] = rt (.d (.int (J.length : Int))) := len_js rfl
        have lx : eB nLen (aCons (eVar 2) aNil) [some (.d (jsD J)), some (.d (.int r)), some (.d (.list xs)), none, none, none] = rt (.d (.int (xs.length : Int))) := len_L v
        have tl : bNot (bO (eIsi "list" (eVar 2))) [some (.d (jsD J)), some (.d (.int r)), some (.d (.list xs)), none, none, none] = rt false := bNot_rt (bO_rt (isi_lst v))
        by_cases hl : xs.length = J.length
        · have hjl := hJ.len
          have ta := bNot_rt (bO_rt (all_L isInt v (by omega) (i := 4) (el := eCall 1 m_is_whole (aCons (eVar 4) aNil)) fun y _ => call1 (g := eVar 4) rfl (whole_x y)))
          rw [if_ret_c (bOr_f tl (bOr_f (bO_rt (by rw [ne_is lx lj, decide_eq_true (by omega)]; rfl)) ta)) rfl]
          show ∃ env', _ = rt (Fl.rt (M.d (.bool (decide (xs.length = J.length) && (xs.all natB && !(J.zipIdx.any fun a => bad (xs.map toI) J r a.2))))), env')
          rw [decide_eq_true hl, Bool.true_and, all_split]
          cases hi : xs.all isInt with
          | false => exact ⟨_, rfl⟩
          | true =>
            rw [if_neg (by simp)]
            obtain ⟨ns, rfl⟩ := ints_of hi
            have hti : (ns.map PyData.int).map toI = ns := by rw [List.map_map]; exact List.map_id ns
            have tg := bNot_rt (bO_rt (all_v (env := [some (.d (jsD J)), some (.d (.int r)), some (.d (.list (ns.map PyData.int))), none, none, none]) (el := e2 oGe (eVar 4) (eC (.int 0))) (p := .nm 4) (vs := [4]) (fun i : Int => M.d (.int i)) (fun i => decide (0 ≤ i)) (itf := iSeqF (eVar 2)) (xs := ns) (by rw [seqLl v, List.map_map]; rfl) (by rw [List.length_map] at hl; omega) fun i _ => ⟨_, rfl, ge_is (j := 0) rfl rfl⟩))
            rw [if_ret_c tg rfl, hti]
            have eg : ((ns.map PyData.int).all fun x => decide (0 ≤ toI x)) = ns.all fun i => decide (0 ≤ i) := by rw [List.all_map]; rfl
            rw [eg]
            rw [List.length_map] at hl
            cases ns.all fun i => decide (0 ≤ i) with
            | false => exact ⟨_, rfl⟩
            | true =>
              rw [if_neg (by simp)]
              obtain ⟨env', e, _⟩ := forL_fold (fun a : Job × Nat => M.d (.tuple [.int (a.2 : Int), jD a.1])) (fun a => bad ns J r a.2) (.d (.bool false)) (fun (_ : Unit) _ => ()) (fun _ env => ∃ v3 v4, env = [some (.d (jsD J)), some (.d (.int r)), some (.d (.list (ns.map PyData.int))), v3, v4, none]) (p := .tu [(.nm 3), (.nm 4)]) (body := b_is_sharing_1) J.zipIdx () [some (.d (jsD J)), some (.d (.int r)), some (.d (.list (ns.map PyData.int))), none, none, none] ⟨none, none, rfl⟩ (by
                rintro a ha _ env ⟨v3, v4, rfl⟩
                exact ⟨[some (.d (jsD J)), some (.d (.int r)), some (.d (.list (ns.map PyData.int))), some (.d (.int (a.2 : Int))), some (.d (jD a.1)), none], _, rfl, sh_turn hjl hl ha, fun _ => ⟨_, _, rfl⟩⟩)
              have ef : sFor (iEnF (eVar 0)) (.tu [(.nm 3), (.nm 4)]) b_is_sharing_1 [some (.d (jsD J)), some (.d (.int r)), some (.d (.list (ns.map PyData.int))), none, none, none] = rt (if (J.zipIdx.any fun a => bad ns J r a.2) = true then .rt (.d (.bool false)) else .nx, env') := (for_enrt (enF_js rfl)).trans (by
                rw [show enL ((J.map jD).map M.d) = J.zipIdx.map fun a => M.d (.tuple [.int (a.2 : Int), jD a.1]) by
                  unfold enL
                  rw [List.zipIdx_map, List.zipIdx_map, List.map_map, List.map_map]
                  rfl]
                exact e)
              cases hb : J.zipIdx.any fun a => bad ns J r a.2 with
              | true =>
                rw [hb, if_pos rfl] at ef
                exact ⟨env', seq_rt' ef⟩
              | false =>
                rw [hb, if_neg Bool.false_ne_true] at ef
                rw [seq_nx' ef]
                exact ⟨env', ret_rt rfl⟩
        · rw [if_ret_c (bOr_f tl (bOr_t (bO_rt (by rw [ne_is lx lj, decide_eq_false (by omega)]; rfl)))) rfl]
          show ∃ env', _ = rt (Fl.rt (M.d (.bool (decide (xs.length = J.length) && (xs.all natB && !(J.zipIdx.any fun a => bad (xs.map toI) J r a.2))))), env')
          rw [decide_eq_false hl]
          exact ⟨_, rfl⟩
      | _ => cases hx
    · have tl : bNot (bO (eIsi "list" (eVar 2))) [some (.d (jsD J)), some (.d (.int r)), some (.d x), none, none, none] = rt true := by
        rw [bNot_rt (bO_rt (isi_lst v))]
        cases h : isLst x with
        | true => exact absurd h hx
        | false => rfl
      have hf : shB J r x = false := by cases x <;> first | rfl | exact absurd rfl hx
      rw [if_ret_c (bOr_t tl) rfl, hf]
      exact ⟨_, rfl⟩
  obtain ⟨env', e⟩ := key
  exact mkFn_rt (env' := env') e
end
end Q

/-! law k72: crushes looked at -/
namespace Q
open PySem PySem.Spec L2 G PySem.W
def numsB : PyData → Bool
  | .tuple ts => ts.all isInt && riseB (ts.map toI)
  | _ => false
def undI (J : List Job) (r m : Int) : List Int := (under J r m).map fun i : Nat => (i : Int)
def crB (J : List Job) (r : Int) : PyData → Bool
  | .tuple [.int m, .tuple ts] => (ts.all isInt && riseB (ts.map toI)) && (!ts.isEmpty && ts.all fun x => decide (toI x ∈ undI J r m))
  | _ => false
theorem toI_ints (ns : List Int) : (ns.map PyData.int).map toI = ns := by rw [List.map_map]; exact List.map_id ns
theorem are_numbers_x {x : PyData} (hl : ∀ ts, x = .tuple ts → ts.length < 16777216) : m_are_numbers [.d x] = rt (.d (.bool (numsB x))) := by
  refine mkFn_rt (env' := [some (.d x), none]) (ret_rt ?_)
  show eAnd _ _ [some (.d x), none] = _
  have v : eVar 0 [some (.d x), none] = rt (.d x) := rfl
  cases x with
  | tuple ts =>
    have hl := hl ts rfl
    show _ = rt (M.d (.bool (true && (ts.all isInt && riseB (ts.map toI)))))
    refine eAnd_c (isi_tup v) fun _ => eAnd_c (all_c isInt v hl fun y _ => call1 (g := eVar 1) rfl (whole_x y)) fun hi => ?_
    obtain ⟨ns, rfl⟩ := ints_of hi
    rw [toI_ints]
    refine call1 v ?_
    refine mkFn_rt (env' := [some (.d (.tuple (ns.map PyData.int))), none, none]) (ret_rt ?_)
    exact rise_zip (f := eVar 0) (a := 1) (b := 2) (env := [some (.d (.tuple (ns.map PyData.int))), none, none]) rfl (by rw [List.length_map] at hl; exact hl) (by simp) (by simp) (by decide)
  | none => rfl
  | bool _ => rfl
  | int _ => rfl
  | str _ => rfl
  | list _ => rfl
  | dict _ => rfl
theorem crB_len {J : List Job} {r : Int} {xs : List PyData} (h : xs.length ≠ 2) : crB J r (.tuple xs) = false := by
  unfold crB
  split
  · rename_i e
    cases e
    exact absurd rfl h
  · rfl
theorem undD_is {J : List Job} {r m : Int} : underD J r m = (undI J r m).map PyData.int := by unfold underD undI; rw [List.map_map]; rfl
theorem len_T0 {f : ES} {env : G.Env} {xs : List PyData} (h : f env = rt (.d (.tuple xs))) : e2 oGt (eB nLen (aCons f aNil)) (eC (.int 0)) env = rt (.d (.bool (!xs.isEmpty))) := by
  rw [gt_is (len_is h) rfl]
  cases xs with
  | nil => rfl
  | cons x xs =>
    have : decide ((0 : Int) < ((x :: xs).length : Int)) = true := decide_eq_true (by rw [List.length_cons]; omega)
    rw [this]
    rfl
section
variable {J : List Job} {r : Int}
theorem is_crush_x (hJ : OkJs J) (r0 : 0 ≤ r) (r1 : r ≤ 200) (x : PyData) (hz : ∀ a ts, x = .tuple [a, .tuple ts] → ts.length < 16777216) : m_is_crush [.d (jsD J), .d (.int r), .d x] = rt (.d (.bool (crB J r x))) := by
  have key : ∃ env', b_is_crush [some (.d (jsD J)), some (.d (.int r)), some (.d x), none] = rt (.rt (.d (.bool (crB J r x))), env') := by
    unfold b_is_crush
    have s1 : sExp (eCallX 2 m_check_jobs (aCons (eVar 0) (aCons (eVar 1) aNil))) [some (.d (jsD J)), some (.d (.int r)), some (.d x), none] = rt (.nx, [some (.d (jsD J)), some (.d (.int r)), some (.d x), none]) := by
      unfold sExp
      rw [callX2 (f := m_check_jobs) (g := eVar 0) (k := eVar 1) (x := jsD J) (y := .int r) rfl rfl (check_jobs_ok hJ r0 r1), bnd_rt]
    rw [seq_nx' s1]
    have v : eVar 2 [some (.d (jsD J)), some (.d (.int r)), some (.d x), none] = rt (.d x) := rfl
    by_cases hx : isTup x = true
    · cases x with
      | tuple xs =>
        by_cases hl : xs.length = 2
        · obtain ⟨m, t, rfl⟩ := len2 hl
          have i0 : e2 oIx (eVar 2) (eC (.int 0)) [some (.d (jsD J)), some (.d (.int r)), some (.d (.tuple [m, t])), none] = rt (.d m) := ix_is v rfl (atI_0 ..)
          have i1 : e2 oIx (eVar 2) (eC (.int 1)) [some (.d (jsD J)), some (.d (.int r)), some (.d (.tuple [m, t])), none] = rt (.d t) := ix_is v rfl (atI_1 ..)
          rw [if_ret_c (bOr_f (bNot_rt (bO_rt (isi_tup v))) (bOr_f (bO_rt (ne_is (j := 2) (len_is v) rfl)) (bOr_c (bNot_rt (bO_rt (call1 i0 (whole_x m)))) fun _ => bNot_rt (bO_rt (call1 i1 (are_numbers_x fun ts e => hz m ts (by rw [e]))))))) rfl]
          cases m with
          | int m =>
            cases t with
            | tuple ts =>
              have hts := hz (.int m) ts rfl
              show ∃ env', _ = rt (Fl.rt (M.d (.bool ((ts.all isInt && riseB (ts.map toI)) && (!ts.isEmpty && ts.all fun x => decide (toI x ∈ undI J r m))))), env')
              show ∃ env', (if (!true || !(ts.all isInt && riseB (ts.map toI))) = true then _ else _) = _
              cases hi : ts.all isInt with
              | false => exact ⟨_, rfl⟩
              | true =>
                cases hr : riseB (ts.map toI) with
                | false => exact ⟨_, rfl⟩
                | true =>
                  obtain ⟨ns, rfl⟩ := ints_of hi
                  have en : ((ns.map PyData.int).all fun x => decide (toI x ∈ undI J r m)) = ns.all fun i => decide (i ∈ undI J r m) := by rw [List.all_map]; rfl
                  rw [en]
                  refine ⟨_, ret_rt (m := M.d (.bool (!(ns.map PyData.int).isEmpty && ns.all fun i => decide (i ∈ undI J r m)))) ?_⟩
                  refine eAnd_c (len_T0 i1) fun _ => all_v (fun i : Int => M.d (.int i)) (fun i => decide (i ∈ undI J r m)) (p := .nm 3) (vs := [3]) (itf := iSeqF (e2 oIx (eVar 2) (eC (.int 1)))) (xs := ns) (by rw [seqTt i1, List.map_map]; rfl) (by rw [List.length_map] at hts; exact hts) fun i _ => ⟨[some (.d (jsD J)), some (.d (.int r)), some (.d (.tuple [.int m, .tuple (ns.map PyData.int)])), some (.d (.int i))], rfl, ?_⟩
                  have j0 : e2 oIx (eVar 2) (eC (.int 0)) [some (.d (jsD J)), some (.d (.int r)), some (.d (.tuple [.int m, .tuple (ns.map PyData.int)])), some (.d (.int i))] = rt (.d (.int m)) := ix_is rfl rfl (atI_0 ..)
                  have u : eCall 3 m_under_way (aCons (eVar 0) (aCons (eVar 1) (aCons (e2 oIx (eVar 2) (eC (.int 0))) aNil))) [some (.d (jsD J)), some (.d (.int r)), some (.d (.tuple [.int m, .tuple (ns.map PyData.int)])), some (.d (.int i))] = rt (.d (.list (underD J r m))) := call_rt (ms := [.d (jsD J), .d (.int r), .d (.int m)]) (by simp only [aCons, aNil, j0, bnd_rt]; rfl) rfl (under_way_ok hJ.len)
                  rw [undD_is] at u
                  exact inL_is rfl u
            | none => exact ⟨_, rfl⟩
            | bool _ => exact ⟨_, rfl⟩
            | int _ => exact ⟨_, rfl⟩
            | str _ => exact ⟨_, rfl⟩
            | list _ => exact ⟨_, rfl⟩
            | dict _ => exact ⟨_, rfl⟩
          | none => exact ⟨_, rfl⟩
          | bool _ => exact ⟨_, rfl⟩
          | tuple _ => exact ⟨_, rfl⟩
          | str _ => exact ⟨_, rfl⟩
          | list _ => exact ⟨_, rfl⟩
          | dict _ => exact ⟨_, rfl⟩
        · rw [if_ret_c (not_many (n := 2) v (by omega)) rfl, crB_len hl]
          exact ⟨_, rfl⟩
      | _ => cases hx
    · have tl : bNot (bO (eIsi "tuple" (eVar 2))) [some (.d (jsD J)), some (.d (.int r)), some (.d x), none] = rt true := by
        rw [bNot_rt (bO_rt (isi_tup v))]
        cases h : isTup x with
        | true => exact absurd h hx
        | false => rfl
      have hf : crB J r x = false := by cases x <;> first | rfl | exact absurd rfl hx
      rw [if_ret_c (bOr_t tl) rfl, hf]
      exact ⟨_, rfl⟩
  obtain ⟨env', e⟩ := key
  exact mkFn_rt (env' := env') e
end
end Q

/-! the fewest, of right jobs -/
namespace Q
open PySem PySem.Spec L2 G PySem.W
theorem fewest_ok {J : List Job} {r : Int} {h : Hh} (hf : flatH h) (ok : OkJs J) (r0 : 0 ≤ r) (r1 : r ≤ 200) (ne : J ≠ []) {many minute : Int} (M' : Many J r many minute) :
    m_fewest [.d (jsD J), .d (.int r)] h = some (.val (.d (.tuple [.int many, .list ((colsI J r).map PyData.int), .tuple [.int minute, .tuple (underD J r minute)]])) h) := by
  have hl := ok.len
  have len1 : 1 ≤ J.length := by
    cases J with
    | nil => exact absurd rfl ne
    | cons _ _ => rw [List.length_cons]; omega
  have body : b_fewest [some (.d (jsD J)), some (.d (.int r)), none, none, none] h = some (.val (.rt (.d (.tuple [.int many, .list ((colsI J r).map PyData.int), .tuple [.int minute, .tuple (underD J r minute)]])), [some (.d (jsD J)), some (.d (.int r)), some (.d (.int many)), some (.d (.int minute)), none]) h) := by
    unfold b_fewest
    refine (seq_nx (congrFun (exp_rt (callX2 (f := m_check_jobs) (x := jsD J) (y := .int r) rfl rfl (check_jobs_ok ok r0 r1))) h)).trans ?_
    have l0 := eq_is (j := 0) (g := eC (.int 0)) (len_js (J := J) (i := 0) (env := [some (.d (jsD J)), some (.d (.int r)), none, none, none]) rfl) rfl
    rw [decide_eq_false (by omega)] at l0
    refine (seq_nx (congrFun (if_nil (bO_rt l0)) h)).trans ?_
    have uw : ∀ (x : Job) (v2 v3 : Option M), eB nLen (aCons (eCall 3 m_under_way (aCons (eVar 0) (aCons (eVar 1) (aCons (e2 oIx (eVar 4) (eC (.int 0))) aNil)))) aNil) [some (.d (jsD J)), some (.d (.int r)), v2, v3, some (.d (jD x))] = rt (.d (.int (cnt J r x))) := fun x v2 v3 => by
      have i0 : e2 oIx (eVar 4) (eC (.int 0)) [some (.d (jsD J)), some (.d (.int r)), v2, v3, some (.d (jD x))] = rt (.d (.int x.1)) := ix_is rfl rfl (atI_0 ..)
      have c : eCall 3 m_under_way (aCons (eVar 0) (aCons (eVar 1) (aCons (e2 oIx (eVar 4) (eC (.int 0))) aNil))) [some (.d (jsD J)), some (.d (.int r)), v2, v3, some (.d (jD x))] = rt (.d (.list (underD J r x.1))) := by
        refine call_rt (ms := [.d (jsD J), .d (.int r), .d (.int x.1)]) ?_ rfl (under_way_ok hl)
        rw [aCons, aCons, aCons, i0]
        rfl
      rw [eB, aCons, c]
      simp only [aNil, bnd_rt, len_lst, under_len]
      rfl
    have e1 : eB nMax (aCons (eVal (nComp (iSeqF (eVar 0)) (.nm 4) bYes (eB nLen (aCons (eCall 3 m_under_way (aCons (eVar 0) (aCons (eVar 1) (aCons (e2 oIx (eVar 4) (eC (.int 0))) aNil)))) aNil)) [4])) aNil) [some (.d (jsD J)), some (.d (.int r)), none, none, none] = rt (.d (.int many)) := by
      have c : eVal (nComp (iSeqF (eVar 0)) (.nm 4) bYes (eB nLen (aCons (eCall 3 m_under_way (aCons (eVar 0) (aCons (eVar 1) (aCons (e2 oIx (eVar 4) (eC (.int 0))) aNil)))) aNil)) [4]) [some (.d (jsD J)), some (.d (.int r)), none, none, none] = rt (.d (.list ((J.map (cnt J r)).map PyData.int))) := by
        rw [List.map_map]
        exact comp_valT (fun x => M.d (jD x)) (fun x => PyData.int (cnt J r x)) (by rw [seqF_l (f := eVar 0) (xs := J.map jD) rfl, List.map_map]; rfl) (by show _ < 16777216; omega) fun x hx => ⟨_, rfl, uw x none none⟩
      rw [eB, aCons, c]
      refine max_L (maxI_is ?_ fun y hy => ?_)
      · obtain ⟨x, hx, ex, _⟩ := M'.at_
        exact List.mem_map.mpr ⟨x, hx, ex⟩
      · obtain ⟨x, hx, rfl⟩ := List.mem_map.mp hy
        exact M'.le x hx
    refine (seq_nx (congrFun (set_rt (p := .nm 2) e1 rfl) h)).trans ?_
    have e2' : eB nMin (aCons (eVal (nComp (iSeqF (eVar 0)) (.nm 4) (bO (e2 oEq (eB nLen (aCons (eCall 3 m_under_way (aCons (eVar 0) (aCons (eVar 1) (aCons (e2 oIx (eVar 4) (eC (.int 0))) aNil)))) aNil)) (eVar 2))) (e2 oIx (eVar 4) (eC (.int 0))) [4])) aNil) [some (.d (jsD J)), some (.d (.int r)), some (.d (.int many)), none, none] = rt (.d (.int minute)) := by
      have c : eVal (nComp (iSeqF (eVar 0)) (.nm 4) (bO (e2 oEq (eB nLen (aCons (eCall 3 m_under_way (aCons (eVar 0) (aCons (eVar 1) (aCons (e2 oIx (eVar 4) (eC (.int 0))) aNil)))) aNil)) (eVar 2))) (e2 oIx (eVar 4) (eC (.int 0))) [4]) [some (.d (jsD J)), some (.d (.int r)), some (.d (.int many)), none, none] = rt (.d (.list (((J.filter fun x => decide (cnt J r x = many)).map (·.1)).map PyData.int))) := by
        rw [List.map_map]
        exact comp_val (fun x => M.d (jD x)) (fun x => decide (cnt J r x = many)) (fun x => PyData.int x.1) (by rw [seqF_l (f := eVar 0) (xs := J.map jD) rfl, List.map_map]; rfl) (by show _ < 16777216; omega) fun x hx => ⟨_, rfl, bO_rt (eq_is (uw x _ none) rfl), fun _ => ix_is rfl rfl (atI_0 ..)⟩
      rw [eB, aCons, c]
      refine min_L (minI_is ?_ fun y hy => ?_)
      · obtain ⟨x, hx, ex, em⟩ := M'.at_
        exact List.mem_map.mpr ⟨x, List.mem_filter.mpr ⟨hx, decide_eq_true ex⟩, em⟩
      · obtain ⟨x, hx, rfl⟩ := List.mem_map.mp hy
        obtain ⟨h1, h2⟩ := List.mem_filter.mp hx
        exact M'.first x h1 (of_decide_eq_true h2)
    refine (seq_nx (congrFun (set_rt (p := .nm 3) e2' rfl) h)).trans ?_
    have cg : eCall 2 m_greedy (aCons (eVar 0) (aCons (eVar 1) aNil)) [some (.d (jsD J)), some (.d (.int r)), some (.d (.int many)), some (.d (.int minute)), none] h = _ := call_val (ms := [.d (jsD J), .d (.int r)]) (h' := h) rfl rfl (greedy_ok hf ok r0)
    have cu : eCall 3 m_under_way (aCons (eVar 0) (aCons (eVar 1) (aCons (eVar 3) aNil))) [some (.d (jsD J)), some (.d (.int r)), some (.d (.int many)), some (.d (.int minute)), none] = rt (.d (.list (underD J r minute))) := call_rt (ms := [.d (jsD J), .d (.int r), .d (.int minute)]) rfl rfl (under_way_ok hl)
    have ct : eB nTup (aCons (eCall 3 m_under_way (aCons (eVar 0) (aCons (eVar 1) (aCons (eVar 3) aNil)))) aNil) [some (.d (jsD J)), some (.d (.int r)), some (.d (.int many)), some (.d (.int minute)), none] = rt (.d (.tuple (underD J r minute))) := by
      rw [eB, aCons, cu]
      funext h
      simp only [aNil, bnd_rt, nTup, tupM, lstM, mkTup_ds]
      rfl
    refine ret_val ?_
    simp only [List.set_cons_succ, List.set_cons_zero]
    rw [eTup, aCons]
    show bnd (bnd (eVar 2 [some (.d (jsD J)), some (.d (.int r)), some (.d (.int many)), some (.d (.int minute)), none]) _) _ h = _
    have v2 : eVar 2 [some (.d (jsD J)), some (.d (.int r)), some (.d (.int many)), some (.d (.int minute)), none] = rt (.d (.int many)) := rfl
    have v3 : eVar 3 [some (.d (jsD J)), some (.d (.int r)), some (.d (.int many)), some (.d (.int minute)), none] = rt (.d (.int minute)) := rfl
    rw [v2, bnd_rt, aCons, bnd_assoc, bnd_assoc, bnd_val cg]
    have et : eTup (aCons (eVar 3) (aCons (eB nTup (aCons (eCall 3 m_under_way (aCons (eVar 0) (aCons (eVar 1) (aCons (eVar 3) aNil)))) aNil)) aNil)) [some (.d (jsD J)), some (.d (.int r)), some (.d (.int many)), some (.d (.int minute)), none] = rt (.d (.tuple [.int minute, .tuple (underD J r minute)])) := by
      rw [eTup, aCons, v3, bnd_rt, aCons, ct]
      rfl
    rw [aCons, et]
    rfl
  exact mkFn_val (n := 5) (g := b_fewest) (ms := [.d (jsD J), .d (.int r)]) body
end Q

/-! law k73: any thing looked at -/
namespace Q
open PySem PySem.Spec L2 G PySem.W
def jobB : PyData → Bool
  | .tuple [a, b] => [a, b].all (wB 0 9999) && decide (toI a < toI b)
  | _ => false
def jobsB : PyData → Bool
  | .list xs => decide (xs.length ≤ 12) && xs.all jobB
  | _ => false
theorem jobB_len {xs : List PyData} (h : xs.length ≠ 2) : jobB (.tuple xs) = false := by
  unfold jobB
  split
  · rename_i e
    cases e
    exact absurd rfl h
  · rfl
theorem jobB_no {x : PyData} (h : ¬ isTup x = true) : jobB x = false := by cases x <;> first | rfl | exact absurd rfl h
theorem jobsB_no {x : PyData} (h : ¬ isLst x = true) : jobsB x = false := by cases x <;> first | rfl | exact absurd rfl h
theorem not_b {b : Bool} (h : ¬ b = true) : b = false := by cases b <;> first | rfl | exact absurd rfl h
theorem two_ints {a b : PyData} (h : [a, b].all (wB 0 9999) = true) : ∃ i j : Int, a = .int i ∧ b = .int j := by
  simp only [List.all_cons, List.all_nil, Bool.and_true, Bool.and_eq_true] at h
  obtain ⟨i, rfl, _⟩ := wB_int h.1
  obtain ⟨j, rfl, _⟩ := wB_int h.2
  exact ⟨i, j, rfl, rfl⟩
theorem is_job_x (x : PyData) : m_is_job [.d x] = rt (.d (.bool (jobB x))) := by
  refine fn_ret (n := 2) (g := b_is_job) ?_
  show Ret (b_is_job [some (.d x), none]) _
  unfold b_is_job
  have v : eVar 0 [some (.d x), none] = rt (.d x) := rfl
  by_cases hx : isTup x = true
  · cases x with
    | tuple xs =>
      by_cases hl : xs.length = 2
      · obtain ⟨a, b, rfl⟩ := len2 hl
        have al := all_c (i := 1) (el := eCall 3 m_is_within (aCons (eVar 1) (aCons (eC (.int 0)) (aCons (eC (.int 9999)) aNil)))) (wB 0 9999) v (by show 2 < 16777216; decide) fun y _ => call_within_x (f := eVar 1) rfl
        show Ret _ (M.d (.bool ([a, b].all (wB 0 9999) && decide (toI a < toI b))))
        refine Ret.ifr (bOr_f (bNot_rt (bO_rt (isi_tup v))) (bOr_f (bO_rt (ne_is (j := 2) (len_is v) rfl)) (bNot_rt (bO_rt al)))) (fun hh => ?_) fun hh => ?_
        · rw [Bool.not_eq_true'] at hh
          rw [hh]
          rfl
        · rw [Bool.not_eq_false'] at hh
          rw [hh]
          obtain ⟨i, j, rfl, rfl⟩ := two_ints hh
          exact Ret.ret (lt_is (ix_is v rfl (atI_0 ..)) (ix_is v rfl (atI_1 ..)))
      · rw [jobB_len hl]
        exact Ret.ifr (b := true) (bOr_f (bNot_rt (bO_rt (isi_tup v))) (bOr_t (bO_rt (by rw [ne_is (j := 2) (len_is v) rfl, decide_eq_false (by omega)]; rfl)))) (fun _ => rfl) fun h => by cases h
    | _ => cases hx
  · rw [jobB_no hx]
    exact Ret.ifr (b := true) (bOr_t (by rw [bNot_rt (bO_rt (isi_tup v)), not_b hx]; rfl)) (fun _ => rfl) fun h => by cases h
def chkB (x r : PyData) : Ans := if jobsB x = true then (if wB 0 200 r = true then .ok (.d .none) else .ex "NoRest") else .ex "NoJobs"
theorem check_jobs_an (x r : PyData) : m_check_jobs [.d x, .d r] = (chkB x r).run := by
  refine fn_an (n := 3) (g := b_check_jobs) ?_
  show An (b_check_jobs [some (.d x), some (.d r), none]) _
  unfold b_check_jobs
  have v : eVar 0 [some (.d x), some (.d r), none] = rt (.d x) := rfl
  unfold chkB
  by_cases hx : isLst x = true
  · cases x with
    | list xs =>
      have lx : eB nLen (aCons (eVar 0) aNil) [some (.d (.list xs)), some (.d r), none] = rt (.d (.int (xs.length : Int))) := len_L v
      have lg := bO_rt (gt_is (j := 12) (g := eC (.int 12)) lx rfl)
      show An _ (if (decide (xs.length ≤ 12) && xs.all jobB) = true then (if wB 0 200 r = true then .ok (.d .none) else .ex "NoRest") else .ex "NoJobs")
      by_cases hl : xs.length ≤ 12
      · rw [decide_eq_false (by omega)] at lg
        rw [decide_eq_true hl, Bool.true_and]
        have al := all_L (i := 2) (el := eCall 1 m_is_job (aCons (eVar 2) aNil)) jobB v (by omega) fun y _ => call1 (g := eVar 2) rfl (is_job_x y)
        refine An.ifx (bOr_f (bNot_rt (bO_rt (isi_lst v))) (bOr_f lg (bNot_rt (bO_rt al)))) (m := .d (.str "no jobs")) rfl (fun hh => ?_) fun hh => ?_
        · rw [Bool.not_eq_true'] at hh
          rw [if_neg (by rw [hh]; exact Bool.false_ne_true)]
        · rw [Bool.not_eq_false'] at hh
          rw [if_pos hh]
          refine An.ifxE (bNot_rt (bO_rt (call_within_x (f := eVar 1) rfl))) (m := .d (.str "no rest")) rfl (fun hh => ?_) fun hh => ?_
          · rw [Bool.not_eq_true'] at hh
            rw [if_neg (by rw [hh]; exact Bool.false_ne_true)]
          · rw [Bool.not_eq_false'] at hh
            rw [if_pos hh]
      · rw [decide_eq_true (by omega)] at lg
        exact An.ifx (b := true) (bOr_f (bNot_rt (bO_rt (isi_lst v))) (bOr_t lg)) (m := .d (.str "no jobs")) rfl (fun _ => if_neg (by rw [decide_eq_false hl, Bool.false_and]; exact Bool.false_ne_true)) fun h => by cases h
    | _ => cases hx
  · exact An.ifx (b := true) (bOr_t (by rw [bNot_rt (bO_rt (isi_lst v)), not_b hx]; rfl)) (m := .d (.str "no jobs")) rfl (fun _ => if_neg (by rw [jobsB_no hx]; exact Bool.false_ne_true)) fun h => by cases h
theorem law_within_x {x : PyData} {lo hi : Int} : m__law_within [.d x, .d (.int lo), .d (.int hi)] = rt (.d (.bool (wB lo hi x))) := within_x
theorem call_lw_x {f : ES} {env : G.Env} {x : PyData} {lo hi : Int} (hf : f env = rt (.d x)) : eCall 3 m__law_within (aCons f (aCons (eC (.int lo)) (aCons (eC (.int hi)) aNil))) env = rt (.d (.bool (wB lo hi x))) :=
  call_rt (ms := [.d x, .d (.int lo), .d (.int hi)]) (by simp only [aCons, aNil, hf, eC, bnd_rt]) rfl law_within_x
/-- one turn of the law's own look -/
theorem are_jobs_turn {x y : PyData} {v2 : Option M} : b__law_are_jobs_1 [some (.d x), some (.d y), v2] = rt (if (!jobB y) = true then .rt (.d (.bool false)) else .nx, [some (.d x), some (.d y), v2]) := by
  unfold b__law_are_jobs_1
  have v : eVar 1 [some (.d x), some (.d y), v2] = rt (.d y) := rfl
  have stop : ∀ {t : G.Env → Sm Bool} {g : SS}, t [some (.d x), some (.d y), v2] = rt true → sSeq (sIf t (sRet (eC (.bool false))) sNil) g [some (.d x), some (.d y), v2] = rt (.rt (.d (.bool false)), [some (.d x), some (.d y), v2]) := fun e => seq_rt' (by rw [if_T e]; exact ret_rt rfl)
  by_cases hy : isTup y = true
  · cases y with
    | tuple xs =>
      by_cases hl : xs.length = 2
      · obtain ⟨a, b, rfl⟩ := len2 hl
        have al := all_c (i := 2) (el := eCall 3 m__law_within (aCons (eVar 2) (aCons (eC (.int 0)) (aCons (eC (.int 9999)) aNil)))) (wB 0 9999) v (by show 2 < 16777216; decide) fun y _ => call_lw_x (f := eVar 2) rfl
        have tt := bOr_f (bNot_rt (bO_rt (isi_tup v))) (bOr_f (bO_rt (ne_is (j := 2) (g := eC (.int 2)) (len_is v) rfl)) (bNot_rt (bO_rt al)))
        show _ = rt (if (!([a, b].all (wB 0 9999) && decide (toI a < toI b))) = true then Fl.rt (.d (.bool false)) else .nx, _)
        cases hh : [a, b].all (wB 0 9999) with
        | false => rw [hh] at tt; exact stop tt
        | true =>
          rw [hh] at tt
          rw [seq_nx' (if_nil tt)]
          obtain ⟨i, j, rfl, rfl⟩ := two_ints hh
          have g := bO_rt (ge_is (ix_is (g := eC (.int 0)) v rfl (atI_0 ..)) (ix_is (g := eC (.int 1)) v rfl (atI_1 ..)))
          show _ = rt (if (!(true && decide (i < j))) = true then Fl.rt (.d (.bool false)) else .nx, _)
          by_cases q : i < j
          · rw [decide_eq_false (by omega)] at g
            rw [decide_eq_true q]
            exact if_nil g
          · rw [decide_eq_true (by omega)] at g
            rw [decide_eq_false q, if_T g]
            exact ret_rt rfl
      · rw [jobB_len hl]
        exact stop (bOr_f (bNot_rt (bO_rt (isi_tup v))) (bOr_t (bO_rt (by rw [ne_is (j := 2) (len_is v) rfl, decide_eq_false (by omega)]; rfl))))
    | _ => cases hy
  · rw [jobB_no hy]
    exact stop (bOr_t (by rw [bNot_rt (bO_rt (isi_tup v)), not_b hy]; rfl))
theorem any_not {xs : List PyData} {p : PyData → Bool} : (xs.any fun x => !p x) = !(xs.all p) := by
  induction xs with
  | nil => rfl
  | cons x xs ih => rw [List.any_cons, List.all_cons, ih, Bool.not_and]
theorem are_jobs_x (x : PyData) : m__law_are_jobs [.d x] = rt (.d (.bool (jobsB x))) := by
  refine fn_ret (n := 3) (g := b__law_are_jobs) ?_
  show Ret (b__law_are_jobs [some (.d x), none, none]) _
  unfold b__law_are_jobs
  have v : eVar 0 [some (.d x), none, none] = rt (.d x) := rfl
  by_cases hx : isLst x = true
  · cases x with
    | list xs =>
      have lx : eB nLen (aCons (eVar 0) aNil) [some (.d (.list xs)), none, none] = rt (.d (.int (xs.length : Int))) := len_L v
      have lg := bO_rt (gt_is (j := 12) (g := eC (.int 12)) lx rfl)
      show Ret _ (M.d (.bool (decide (xs.length ≤ 12) && xs.all jobB)))
      by_cases hl : xs.length ≤ 12
      · rw [decide_eq_false (by omega)] at lg
        rw [decide_eq_true hl, Bool.true_and]
        refine Ret.ifr (b := false) (bOr_f (bNot_rt (bO_rt (isi_lst v))) lg) (fun h => by cases h) fun _ => ?_
        obtain ⟨env', e, _⟩ := forL_fold (fun y : PyData => M.d y) (fun y => !jobB y) (.d (.bool false)) (fun (_ : Unit) _ => ()) (fun _ env => ∃ v1 v2, env = [some (.d (.list xs)), v1, v2]) (p := .nm 1) (body := b__law_are_jobs_1) xs () [some (.d (.list xs)), none, none] ⟨none, none, rfl⟩ (by
          rintro a ha _ env ⟨v1, v2, rfl⟩
          exact ⟨[some (.d (.list xs)), some (.d a), v2], _, rfl, are_jobs_turn, fun _ => ⟨_, _, rfl⟩⟩)
        have ef : sFor (iSeqF (eVar 0)) (.nm 1) b__law_are_jobs_1 [some (.d (.list xs)), none, none] = rt (if (xs.any fun y => !jobB y) = true then Fl.rt (.d (.bool false)) else .nx, env') := (for_rt (seqLl v)).trans e
        rw [any_not] at ef
        cases hb : xs.all jobB with
        | true =>
          rw [hb] at ef
          exact Ret.nx ef (Ret.ret rfl)
        | false =>
          rw [hb] at ef
          exact Ret.up ⟨env', ef⟩
      · rw [decide_eq_true (by omega)] at lg
        rw [decide_eq_false hl, Bool.false_and]
        exact Ret.ifr (b := true) (bOr_f (bNot_rt (bO_rt (isi_lst v))) lg) (fun _ => rfl) fun h => by cases h
    | _ => cases hx
  · rw [jobsB_no hx]
    exact Ret.ifr (b := true) (bOr_t (by rw [bNot_rt (bO_rt (isi_lst v)), not_b hx]; rfl)) (fun _ => rfl) fun h => by cases h
end Q

/-! at one heap -/
namespace Q
open PySem PySem.Spec L2 G PySem.W
/-- what a suite returns, at one heap which stays -/
def RetH (h : Hh) (x : Sm (Fl × G.Env)) (m : M) : Prop := ∃ env', x h = some (.val (.rt m, env') h)
section
variable {h : Hh} {env env' : G.Env} {f r : ES} {g g1 g2 : SS} {t : G.Env → Sm Bool} {m v : M} {p : Pat} {b : Bool}
theorem RetH.of {x : Sm (Fl × G.Env)} (k : Ret x m) : RetH h x m := let ⟨e, k⟩ := k; ⟨e, by rw [k]; rfl⟩
theorem RetH.nx (e : g1 env = rt (.nx, env')) (k : RetH h (g env') v) : RetH h (sSeq g1 g env) v := let ⟨e2, k⟩ := k; ⟨e2, by rw [seq_nx' e]; exact k⟩
theorem RetH.set (e : f env = rt m) (ep : p.asg m env = some env') (k : RetH h (g env') v) : RetH h (sSeq (sSet p f) g env) v := RetH.nx (set_rt e ep) k
theorem RetH.ifr (e : t env = rt b) (hr : b = true → r env = rt v) (k : b = false → RetH h (g env) v) : RetH h (sSeq (sIf t (sRet r) sNil) g env) v := by
  cases b with
  | true => exact ⟨env, by rw [seq_rt' (by rw [if_T e]; exact ret_rt (hr rfl))]; rfl⟩
  | false => exact RetH.nx (if_nil e) (k rfl)
theorem RetH.ret (e : f env h = some (.val v h)) : RetH h (sRet f env) v := ⟨env, ret_val e⟩
theorem fn_retH {n : Nat} {ms : List M} (k : RetH h (g (startE n ms)) m) : mkFn n g ms h = some (.val m h) := let ⟨_, e⟩ := k; mkFn_val e
theorem and_H {f g : ES} {a b : Bool} (hf : f env h = some (.val (.d (.bool a)) h)) (hg : a = true → g env h = some (.val (.d (.bool b)) h)) : eAnd f g env h = some (.val (.d (.bool (a && b))) h) := by
  unfold eAnd
  rw [bnd_val hf, asB_b, bnd_rt]
  cases a with
  | true => rw [if_pos rfl, hg rfl, Bool.true_and]
  | false => rw [if_neg Bool.false_ne_true]; rfl
theorem e2_H {f g : ES} {op : Op2} {x y z : M} (hf : f env = rt x) (hg : g env h = some (.val y h)) (ho : op x y = rt z) : e2 op f g env h = some (.val z h) := by
  unfold e2
  rw [hf, bnd_rt, bnd_val hg, ho]
  rfl
end
theorem rise_of {ns : List Int} (h : ns.Pairwise (· < ·)) : riseB ns = true := riseB_iff.mpr fun i a b ha hb => by
  obtain ⟨l1, rfl⟩ := List.getElem?_eq_some_iff.mp ha
  obtain ⟨l2, rfl⟩ := List.getElem?_eq_some_iff.mp hb
  exact List.pairwise_iff_getElem.mp h i (i + 1) l1 l2 (Nat.lt_succ_self i)
end Q

/-! law k73: what is told -/
namespace Q
open PySem PySem.Spec L2 G PySem.W
theorem chk_c {x r : PyData} {c : String} (e : chkB x r = .ex c) : (c = "NoRest" ∧ jobsB x = true ∧ wB 0 200 r = false) ∨ (c = "NoJobs" ∧ jobsB x = false) := by
  unfold chkB at e
  cases h1 : jobsB x with
  | false => rw [h1, if_neg Bool.false_ne_true] at e; cases e; exact .inr ⟨rfl, rfl⟩
  | true =>
    rw [h1, if_pos rfl] at e
    cases h2 : wB 0 200 r with
    | false => rw [h2, if_neg Bool.false_ne_true] at e; cases e; exact .inl ⟨rfl, rfl, rfl⟩
    | true => rw [h2, if_pos rfl] at e; cases e
section
variable {x r : PyData} {c : String}
theorem an_ex {m : Fn} {n : Nat} {g : SS} {ms : List M} (h : g (startE n ms) = exc1 c) (e : m = mkFn n g) : m ms = (Ans.ex c).run := by rw [e]; exact mkFn_exc h
theorem few_ex (e : chkB x r = .ex c) : m_fewest [.d x, .d r] = exc1 c := by
  refine mkFn_exc (n := 5) (g := b_fewest) ?_
  show b_fewest [some (.d x), some (.d r), none, none, none] = exc1 c
  unfold b_fewest
  exact An.chk (a := .ex c) (callX_run (ms := [.d x, .d r]) rfl rfl (check_jobs_an x r)) (fun c' h => by rw [e] at h; cases h; rfl) fun m h => by rw [e] at h; cases h
theorem sha_ex {t : PyData} (e : chkB x r = .ex c) : m_is_sharing [.d x, .d r, .d t] = exc1 c := by
  refine mkFn_exc (n := 6) (g := b_is_sharing) ?_
  show b_is_sharing [some (.d x), some (.d r), some (.d t), none, none, none] = exc1 c
  unfold b_is_sharing
  exact An.chk (a := .ex c) (callX_run (ms := [.d x, .d r]) rfl rfl (check_jobs_an x r)) (fun c' h => by rw [e] at h; cases h; rfl) fun m h => by rw [e] at h; cases h
theorem cru_ex {t : PyData} (e : chkB x r = .ex c) : m_is_crush [.d x, .d r, .d t] = exc1 c := by
  refine mkFn_exc (n := 4) (g := b_is_crush) ?_
  show b_is_crush [some (.d x), some (.d r), some (.d t), none] = exc1 c
  unfold b_is_crush
  exact An.chk (a := .ex c) (callX_run (ms := [.d x, .d r]) rfl rfl (check_jobs_an x r)) (fun c' h => by rw [e] at h; cases h; rfl) fun m h => by rw [e] at h; cases h
end
theorem few_nil {r : Int} (r0 : 0 ≤ r) (r1 : r ≤ 200) : m_fewest [.d (jsD []), .d (.int r)] = rt (.d (.tuple [.int 0, .list [], .none])) := by
  refine fn_ret (n := 5) (g := b_fewest) ?_
  show Ret (b_fewest [some (.d (jsD [])), some (.d (.int r)), none, none, none]) _
  unfold b_fewest
  refine Ret.nx (exp_rt (callX2 (f := m_check_jobs) (x := jsD []) (y := .int r) rfl rfl (check_jobs_ok ⟨Nat.zero_le _, fun _ h => nomatch h⟩ r0 r1))) ?_
  exact Ret.ifr (b := true) (bO_rt (eq_is (j := 0) (g := eC (.int 0)) (len_js (J := []) (i := 0) (env := [some (.d (jsD [])), some (.d (.int r)), none, none, none]) rfl) rfl)) (fun _ => rfl) fun h => by cases h
/-- right jobs are jobs -/
theorem job_of {x : PyData} (h : jobB x = true) : ∃ p : Job, x = jD p ∧ OkJ p := by
  unfold jobB at h
  split at h
  · rw [Bool.and_eq_true] at h
    have h1 := h.1
    simp only [List.all_cons, List.all_nil, Bool.and_true, Bool.and_eq_true] at h1
    obtain ⟨i, rfl, i0, i1⟩ := wB_int h1.1
    obtain ⟨j, rfl, j0, j1⟩ := wB_int h1.2
    exact ⟨(i, j), rfl, i0, of_decide_eq_true h.2, j1⟩
  · cases h
theorem jobs_of' : ∀ {xs : List PyData}, xs.all jobB = true → ∃ J : List Job, xs = J.map jD ∧ ∀ p ∈ J, OkJ p
  | [], _ => ⟨[], rfl, fun _ h => nomatch h⟩
  | x :: xs, h => by
    rw [List.all_cons, Bool.and_eq_true] at h
    obtain ⟨p, rfl, hp⟩ := job_of h.1
    obtain ⟨J, rfl, hJ⟩ := jobs_of' h.2
    refine ⟨p :: J, rfl, fun q hq => ?_⟩
    rcases List.mem_cons.mp hq with rfl | hq
    · exact hp
    · exact hJ q hq
theorem jobs_right {x : PyData} (h : jobsB x = true) : ∃ J, x = jsD J ∧ OkJs J := by
  cases x with
  | list xs =>
    have h : (decide (xs.length ≤ 12) && xs.all jobB) = true := h
    rw [Bool.and_eq_true] at h
    obtain ⟨J, rfl, hJ⟩ := jobs_of' h.2
    have := of_decide_eq_true h.1
    rw [List.length_map] at this
    exact ⟨J, rfl, this, hJ⟩
  | _ => cases h
def dueW (x r : PyData) : Str := if jobsB x = true then (if wB 0 200 r = true then "" else "rest") else "jobs"
theorem try_valH {w : String → Option M} {g : SS} {env : G.Env} {h h' : Hh} {x : Fl × G.Env} (hb : g env h = some (.val x h')) : sTryW w g env h = some (.val x h') := by
  unfold sTryW
  rw [hb]
theorem wd_jobs : exWord "NoJobs" = some (.d (.str "jobs")) := word_w (i := 12) (by decide +kernel) rfl
theorem wd_rest : exWord "NoRest" = some (.d (.str "rest")) := word_w (i := 13) (by decide +kernel) rfl
theorem wd_due {x r : PyData} {c : String} (e : chkB x r = .ex c) : exWord c = some (.d (.str (dueW x r))) := by
  rcases chk_c e with ⟨rfl, h1, h2⟩ | ⟨rfl, h1⟩
  · unfold dueW; rw [h1, h2]; exact wd_rest
  · unfold dueW; rw [h1]; exact wd_jobs
section
variable {h : Hh} {env : G.Env} {x r t : PyData} {w : Int}
/-- what is asked for, by the way -/
theorem told_H (w0 : 0 ≤ w) (w2 : w < 3) (hf : flatH h) (ht : ∀ a ts, t = .tuple [a, .tuple ts] → ts.length < 16777216) : m__law_told [.d (.int w), .d x, .d r, .d t] h = some (.val (.d (.str (dueW x r))) h) := by
  refine fn_retH (n := 6) (g := b__law_told) ?_
  show RetH h (b__law_told [some (.d (.int w)), some (.d x), some (.d r), some (.d t), none, none]) _
  unfold b__law_told
  have q0 : bO (e2 oEq (eVar 0) (eC (.int 0))) [some (.d (.int w)), some (.d x), some (.d r), some (.d t), none, none] = rt (decide (w = 0)) := bO_rt (eq_is rfl rfl)
  have q1 : e2 oSub (eVar 0) (eC (.int 1)) [some (.d (.int w)), some (.d x), some (.d r), some (.d t), none, none] = rt (.d (.int (w - 1))) := sub_is rfl rfl
  have hw : w = 0 ∨ w = 1 ∨ w = 2 := by omega
  cases hc : chkB x r with
  | ex c =>
    have body : eIf (bO (e2 oEq (eVar 0) (eC (.int 0)))) (eCallX 2 m_fewest (aCons (eVar 1) (aCons (eVar 2) aNil))) (eSelX 3 m_is_sharing m_is_crush (e2 oSub (eVar 0) (eC (.int 1))) (aCons (eVar 1) (aCons (eVar 2) (aCons (eVar 3) aNil)))) [some (.d (.int w)), some (.d x), some (.d r), some (.d t), none, none] = exc1 c := by
      unfold eIf
      rw [q0, bnd_rt]
      rcases hw with rfl | rfl | rfl
      · exact callX_run (ms := [.d x, .d r]) (a := .ex c) rfl rfl (few_ex hc)
      · show eSelX 3 m_is_sharing m_is_crush _ _ _ = _
        unfold eSelX
        rw [q1, bnd_rt]
        exact sha_ex (t := t) hc
      · show eSelX 3 m_is_sharing m_is_crush _ _ _ = _
        unfold eSelX
        rw [q1, bnd_rt]
        exact cru_ex (t := t) hc
    refine RetH.of (Ret.up ⟨_, try_exc ?_ (wd_due hc)⟩)
    unfold sSet
    rw [body]
    rfl
  | ok m =>
    have hj : jobsB x = true ∧ wB 0 200 r = true := by
      unfold chkB at hc
      cases h1 : jobsB x with
      | false => rw [h1, if_neg Bool.false_ne_true] at hc; cases hc
      | true =>
        rw [h1, if_pos rfl] at hc
        cases h2 : wB 0 200 r with
        | false => rw [h2, if_neg Bool.false_ne_true] at hc; cases hc
        | true => exact ⟨rfl, rfl⟩
    obtain ⟨J, rfl, hJ⟩ := jobs_right hj.1
    obtain ⟨i, rfl, r0, r1⟩ := wB_int hj.2
    have body : ∃ y : PyData, ((match y with | .bool _ => true | _ => false) || isTup y) = true ∧ eIf (bO (e2 oEq (eVar 0) (eC (.int 0)))) (eCallX 2 m_fewest (aCons (eVar 1) (aCons (eVar 2) aNil))) (eSelX 3 m_is_sharing m_is_crush (e2 oSub (eVar 0) (eC (.int 1))) (aCons (eVar 1) (aCons (eVar 2) (aCons (eVar 3) aNil)))) [some (.d (.int w)), some (.d (jsD J)), some (.d (.int i)), some (.d t), none, none] h = some (.val (.d y) h) := by
      unfold eIf
      rw [q0, bnd_rt]
      rcases hw with rfl | rfl | rfl
      · by_cases ne : J = []
        · subst ne
          exact ⟨_, rfl, congrFun (callX2 (f := m_fewest) rfl rfl (few_nil r0 r1)) h⟩
        · obtain ⟨many, minute, M'⟩ := many_ex (r := i) ne
          exact ⟨_, rfl, fewest_ok hf hJ r0 r1 ne M'⟩
      · refine ⟨.bool (shB J i t), rfl, ?_⟩
        show eSelX 3 m_is_sharing m_is_crush _ _ _ h = _
        unfold eSelX
        rw [q1, bnd_rt]
        exact congrFun (is_sharing_x hJ r0 r1 t) h
      · refine ⟨.bool (crB J i t), rfl, ?_⟩
        show eSelX 3 m_is_sharing m_is_crush _ _ _ h = _
        unfold eSelX
        rw [q1, bnd_rt]
        exact congrFun (is_crush_x hJ r0 r1 t ht) h
    obtain ⟨y, hy, eb⟩ := body
    have es : sTryW exWord (sSet (.nm 5) (eIf (bO (e2 oEq (eVar 0) (eC (.int 0)))) (eCallX 2 m_fewest (aCons (eVar 1) (aCons (eVar 2) aNil))) (eSelX 3 m_is_sharing m_is_crush (e2 oSub (eVar 0) (eC (.int 1))) (aCons (eVar 1) (aCons (eVar 2) (aCons (eVar 3) aNil)))))) [some (.d (.int w)), some (.d (jsD J)), some (.d (.int i)), some (.d t), none, none] h = some (.val (.nx, [some (.d (.int w)), some (.d (jsD J)), some (.d (.int i)), some (.d t), none, some (.d y)]) h) := by
      refine try_valH ?_
      unfold sSet
      rw [bnd_val eb]
      rfl
    refine ⟨[some (.d (.int w)), some (.d (jsD J)), some (.d (.int i)), some (.d t), none, some (.d y)], (seq_nx es).trans ?_⟩
    have ed : dueW (jsD J) (.int i) = "" := by unfold dueW; rw [hj.1, hj.2]; rfl
    rw [ed]
    refine congrFun (ret_rt ?_) h
    cases y with
    | bool b => rfl
    | tuple ts => rfl
    | _ => cases hy
end
end Q

/-! the law's own loop over the cells -/
namespace Q
open PySem PySem.Spec L2 G PySem.W
theorem rest_ok {n : Nat} {rest : SS} (hr : ∀ (ns : List Int) (k : Int) (h : Hh) (kp : Nat) (vs : G.Env), 0 ≤ k → vs.length = n → PotAt kp h → Mu kp h [] (rest (some (.scr ns) :: some (.d (.int k)) :: some (.obj kp) :: vs)) fun r _ => r.1 = .nx ∧ ∃ vs' : G.Env, vs'.length = n ∧ r.2 = some (.scr ns) :: some (.d (.int k)) :: some (.obj kp) :: vs')
    {ns : List Int} {k : Int} {h : Hh} {v2 : Option M} {vs : G.Env} (hk : 0 ≤ k) (hl : vs.length = n) (hf : flatH h) :
    ∃ h' w2 vs', vs'.length = n ∧ sSeq (sSet (.nm 2) (eCall 1 m__law_pot_c (aCons (eCall 2 m__law_cell_at (aCons (eVar 0) (aCons (eVar 1) aNil))) aNil))) rest (some (.scr ns) :: some (.d (.int k)) :: v2 :: vs) h = some (.val (.nx, some (.scr ns) :: some (.d (.int k)) :: w2 :: vs') h') ∧ flatH h' := by
  obtain ⟨c, ec⟩ := cell_ok ns k hk
  obtain ⟨p, ep⟩ := pot_ok c h hf
  have hp : PotAt h.length (h ++ [.lst [.int p]]) := ⟨⟨p, last_at⟩, flat_append hf flat_one⟩
  have e1 : eCall 1 m__law_pot_c (aCons (eCall 2 m__law_cell_at (aCons (eVar 0) (aCons (eVar 1) aNil))) aNil) (some (.scr ns) :: some (.d (.int k)) :: v2 :: vs) h = some (.val (.obj h.length) (h ++ [.lst [.int p]])) := by
    have : eCall 2 m__law_cell_at (aCons (eVar 0) (aCons (eVar 1) aNil)) (some (.scr ns) :: some (.d (.int k)) :: v2 :: vs) = rt (.d (.int c)) := call_rt (ms := [.scr ns, .d (.int k)]) rfl rfl ec
    refine call_val (ms := [.d (.int c)]) (h' := h) ?_ rfl ep
    simp only [aCons, aNil, this, bnd_rt]
    rfl
  obtain ⟨c0, e0⟩ := Mt.begin hp
  obtain ⟨⟨fl, env'⟩, c', es', e2, rfl, vs', hl', e3⟩ := hr ns k _ _ vs hk hl hp c0
  rw [← e0] at e2
  have e3 : env' = _ := e3
  subst e3
  refine ⟨Mt (h ++ [.lst [.int p]]) h.length c' es', some (.obj h.length), vs', hl', ?_, (Mt.pot hp).flat⟩
  have es : sSet (.nm 2) (eCall 1 m__law_pot_c (aCons (eCall 2 m__law_cell_at (aCons (eVar 0) (aCons (eVar 1) aNil))) aNil)) (some (.scr ns) :: some (.d (.int k)) :: v2 :: vs) h = some (.val (.nx, some (.scr ns) :: some (.d (.int k)) :: some (.obj h.length) :: vs) (h ++ [.lst [.int p]])) := by
    unfold sSet
    rw [bnd_val e1]
    rfl
  exact (seq_nx es).trans e2
theorem law_by {n : Nat} {N : Int} {rest : SS} (h1 : 1 ≤ N) (h2 : N ≤ 64) (e1 : b_law_1 = sSeq (sSet (.nm 2) (eCall 1 m__law_pot_c (aCons (eCall 2 m__law_cell_at (aCons (eVar 0) (aCons (eVar 1) aNil))) aNil))) rest) (e0 : m_law = mkFn (n + 3) b_law)
    (eb : b_law = sSeq (sFor (iRng1F (aCons (eB nMax2 (aCons (eC (.int 1)) (aCons (eB nMin2 (aCons (eB nLen (aCons (eVar 0) aNil)) (aCons (eC (.int N)) aNil))) aNil))) aNil)) (.nm 1) b_law_1) (sRet (eC (.bool true))))
    (hr : ∀ (ns : List Int) (k : Int) (h : Hh) (kp : Nat) (vs : G.Env), 0 ≤ k → vs.length = n → PotAt kp h → Mu kp h [] (rest (some (.scr ns) :: some (.d (.int k)) :: some (.obj kp) :: vs)) fun r _ => r.1 = .nx ∧ ∃ vs' : G.Env, vs'.length = n ∧ r.2 = some (.scr ns) :: some (.d (.int k)) :: some (.obj kp) :: vs')
    (ns : List Int) (hl : ns.length ≤ 63) : ∀ {K : PySem.W.Frag}, ∀ H : Hp, Only H → ∀ a, SqL K H a (ns.map V.int) → sp0 K 1 m_law [.ref a] H (fun v _ => v = .bl true) fun _ _ _ => False := by
  intro K
  have key : ∃ h', m_law [.scr ns] [] = some (.val (.d (.bool true)) h') := by
    let v0 : G.Env := List.replicate n none
    have hv0 : v0.length = n := List.length_replicate
    have ef : iRng1F (aCons (eB nMax2 (aCons (eC (.int 1)) (aCons (eB nMin2 (aCons (eB nLen (aCons (eVar 0) aNil)) (aCons (eC (.int N)) aNil))) aNil))) aNil) (some (.scr ns) :: none :: none :: v0) = rt (.vals ((rngL 0 (if (if N < (ns.length : Int) then N else (ns.length : Int)) > 1 then (if N < (ns.length : Int) then N else (ns.length : Int)) else 1)).map fun i => M.d (.int i))) := by
      refine rng1F (n := (if (if N < (ns.length : Int) then N else (ns.length : Int)) > 1 then (if N < (ns.length : Int) then N else (ns.length : Int)) else 1)) rfl ?_
      split <;> split <;> omega
    obtain ⟨env', h', el, ⟨w1, w2, vs', hl', rfl⟩, hp'⟩ := forL_inv (fun env h' => (∃ w1 w2 vs, vs.length = n ∧ env = some (.scr ns) :: w1 :: w2 :: vs) ∧ flatH h')
      (p := .nm 1) (body := b_law_1) (xs := _) (env := some (.scr ns) :: none :: none :: v0) (h := []) ⟨⟨none, none, v0, hv0, rfl⟩, rfl⟩ (by
        rintro m hm env h1 ⟨⟨w1, w2, vs, hl1, rfl⟩, hf⟩
        obtain ⟨k, hk, rfl⟩ := List.mem_map.mp hm
        obtain ⟨h', w2', vs', hl2, e, hp'⟩ := rest_ok hr (ns := ns) (k := k) (v2 := w2) (mem_rngL.mp hk).1 hl1 hf
        rw [← e1] at e
        exact ⟨_, _, h', rfl, e, ⟨_, _, _, hl2, rfl⟩, hp'⟩)
    refine ⟨h', ?_⟩
    rw [e0]
    refine mkFn_val (n := n + 3) (g := b_law) (env' := some (.scr ns) :: w1 :: w2 :: vs') ?_
    have est : startE (n + 3) [.scr ns] = some (.scr ns) :: none :: none :: v0 := by
      unfold startE
      rw [show n + 3 - [M.scr ns].length = n + 2 by simp]
      rfl
    rw [est, eb]
    refine (seq_nx ((for_vals (congrFun ef [])).trans el)).trans ?_
    rfl
  obtain ⟨h', e⟩ := key
  exact law_says' e
end Q

/-! seas, crews, ships are bounded -/
namespace Q
open PySem PySem.Spec L2 G PySem.W
theorem bdl_map {α : Type} {enc : α → PyData} {k n m : Nat} : ∀ {xs : List α}, (∀ x ∈ xs, Bd BIG k n (enc x)) → xs.length ≤ m → BdL BIG k ((n + 2) * m) (xs.map enc)
  | [], _, _ => bdl_nil.mono (Nat.le_refl _) (Nat.le_refl _) (Nat.zero_le _)
  | x :: xs, h, hl => by
    rw [List.length_cons] at hl
    obtain ⟨m', rfl⟩ : ∃ m', m = m' + 1 := ⟨m - 1, by omega⟩
    have r := bdl_map (enc := enc) (m := m') (xs := xs) (fun y hy => h y (List.mem_cons_of_mem _ hy)) (by omega)
    rw [List.map_cons]
    exact (bdl_cons (h x (List.mem_cons_self ..)) r).mono (Nat.le_refl _) (Nat.le_refl _) (by rw [Nat.mul_succ]; omega)
theorem bdl_all {k n m : Nat} {xs : List PyData} (h : ∀ x ∈ xs, Bd BIG k n x) (hl : xs.length ≤ m) : BdL BIG k ((n + 2) * m) xs := by
  have := bdl_map (enc := id) h hl
  rwa [List.map_id] at this
theorem bd_sm {i : Int} (h : i.natAbs ≤ 1000000) : Bd BIG 0 1921 (.int i) := bd_int (Nat.le_trans h (by decide))
theorem in4 {a b c d : Int} {x : PyData} (hx : x ∈ [PyData.int a, .int b, .int c, .int d]) (hb : a.natAbs ≤ 2000 ∧ b.natAbs ≤ 2000 ∧ c.natAbs ≤ 2000 ∧ d.natAbs ≤ 2000) : ∃ i : Int, x = .int i ∧ i.natAbs ≤ 2000 := by
  simp only [List.mem_cons, List.not_mem_nil, or_false] at hx
  rcases hx with h | h | h | h <;> subst h
  · exact ⟨_, rfl, hb.1⟩
  · exact ⟨_, rfl, hb.2.1⟩
  · exact ⟨_, rfl, hb.2.2.1⟩
  · exact ⟨_, rfl, hb.2.2.2⟩
/-- so many bounded things at most -/
def Gd (m : Nat) (ds : List PyData) : Prop := ds.length ≤ m ∧ ∀ x ∈ ds, Bd BIG 10 500000 x
theorem Gd.app {m m' : Nat} {xs ys : List PyData} (h : Gd m xs) (h2 : Gd m' ys) : Gd (m + m') (xs ++ ys) := ⟨by rw [List.length_append]; have := h.1; have := h2.1; omega, fun x hx => by
  rcases List.mem_append.mp hx with hx | hx
  · exact h.2 x hx
  · exact h2.2 x hx⟩
theorem Gd.one {x : PyData} (h : Bd BIG 10 500000 x) : Gd 1 [x] := ⟨Nat.le_refl _, fun y hy => by rw [List.mem_singleton.mp hy]; exact h⟩
theorem LB.mr {kp : Nat} {h : Hh} {es : Ls} {f : G.Env → Sm (List M)} {env : G.Env} {k n m : Nat} (l : LB f env k n m) (h1 : k ≤ 10) (h2 : n ≤ 500000) : Mr kp h es (f env) (DatL (Gd m)) := by
  obtain ⟨ds, e, hl, b⟩ := l
  exact Mu.all e ⟨rfl, ds, rfl, Nat.le_of_eq hl, fun x hx => (b x hx).mono (Nat.le_refl _) h1 h2⟩
theorem LB.ls {kp : Nat} {h : Hh} {es : Ls} {f : G.Env → Sm (List M)} {env : G.Env} {k n m : Nat} (l : LB f env k n m) (h1 : k ≤ 10) (h2 : n ≤ 500000) : Mr kp h es (eVal f env) (fun m' => ∃ ds, LsM h es m' ds ∧ Gd m ds) := by
  obtain ⟨ds, e, hl, b⟩ := lb_val l
  exact Mu.all e ⟨rfl, ds, .inr rfl, Nat.le_of_eq hl, fun x hx => (b x hx).mono (Nat.le_refl _) h1 h2⟩
theorem own_ls {kp : Nat} {h : Hh} {es : Ls} {env : G.Env} {i j : Nat} {ds : List PyData} {m : Nat} (e : env[i]? = some (some (.obj (h.length + j)))) (ej : es[j]? = some (some ds)) (g : Gd m ds) : Mr kp h es (eVar i env) (fun m' => ∃ ds, LsM h es m' ds ∧ Gd m ds) :=
  mr_var e ⟨ds, .inl ⟨j, rfl, ej⟩, g⟩
theorem pb_dat {kp : Nat} {h : Hh} {es : Ls} {f : ES} {env : G.Env} {k n : Nat} (p : PB f env k n) (h1 : k ≤ 10) (h2 : n ≤ 500000) : Mr kp h es (f env) (DatM (Bd BIG 10 500000)) := by
  obtain ⟨y, e, b⟩ := p
  exact Mu.all e ⟨rfl, y, rfl, b.mono (Nat.le_refl _) h1 h2⟩
end Q

/-! drawing with lists of one's own: more rules -/
namespace Q
open PySem PySem.Spec L2 G PySem.W
section
variable {kp : Nat} {h : Hh} {es : Ls} {env : G.Env}
theorem gen_of_mr {α : Type} {x : Sm α} {P : α → Prop} (H : ∀ h, PotAt kp h → Mr kp h [] x P) : Gen kp x P := fun h hp => by
  obtain ⟨c, e⟩ := Mt.begin hp
  obtain ⟨a, c', es', e2, rfl, p⟩ := H h hp c
  rw [← e] at e2
  refine ⟨a, c', ?_, p⟩
  rw [e2]
  unfold Mt
  rw [List.map_nil, List.append_nil]
/-- a def without lists of its own -/
theorem gen_mu0 {n : Nat} {ms : List M} {P : M → Prop} {g : SS} (H : ∀ h, PotAt kp h → Mu kp h [] (g (startE n ms)) fun r es' => es' = [] ∧ ∃ m, r.1 = .rt m ∧ P m) : Gen kp (mkFn n g ms) P := gen_fn (gen_of_mr H)
theorem mr_compL {P : PyData → Prop} {p : Pat} {tt : G.Env → Sm Bool} {el : ES} : ∀ (xs : List M) (acc : List PyData), (∀ x ∈ acc, P x) → (∀ m ∈ xs, ∃ env1, p.asg m env = some env1 ∧ Mr kp h es (tt env1) (fun _ => True) ∧ Mr kp h es (el env1) (DatM P)) → Mr kp h es (compL p tt el env xs (acc.map M.d)) (DatL fun ds => ds.length ≤ acc.length + xs.length ∧ ∀ x ∈ ds, P x)
  | [], acc, ha, _ => Mu.rt ⟨rfl, acc, rfl, Nat.le_add_right _ _, ha⟩
  | m :: ms, acc, ha, st => by
    obtain ⟨env1, e1, t, e⟩ := st m (List.mem_cons_self ..)
    simp only [compL, e1]
    refine Mr.bnd (Mu.nox t) fun b _ => ?_
    cases b with
    | true =>
      rw [if_pos rfl]
      refine Mr.bnd (Mu.nox e) fun y ⟨x, ey, px⟩ => ?_
      subst ey
      rw [show acc.map M.d ++ [M.d x] = (acc ++ [x]).map M.d by rw [List.map_append]; rfl]
      refine Mr.mono (mr_compL ms (acc ++ [x]) (fun y hy => ?_) fun m hm => st m (List.mem_cons_of_mem _ hm)) fun r ⟨ds, e2, hl, hp⟩ => ⟨ds, e2, by rw [List.length_append, List.length_singleton] at hl; rw [List.length_cons]; omega, hp⟩
      rcases List.mem_append.mp hy with hy | hy
      · exact ha y hy
      · rw [List.mem_singleton.mp hy]; exact px
    | false =>
      rw [if_neg Bool.false_ne_true]
      exact Mr.mono (mr_compL ms acc ha fun m hm => st m (List.mem_cons_of_mem _ hm)) fun r ⟨ds, e2, hl, hp⟩ => ⟨ds, e2, by rw [List.length_cons]; omega, hp⟩
/-- [el for x in xs if t], what is drawn in it or read of the own lists -/
theorem mr_comp {P : PyData → Prop} {itf : G.Env → Sm SIt} {p : Pat} {tt : G.Env → Sm Bool} {el : ES} {vs : List Nat} {xs : List M} (hi : itf env = rt (.vals xs)) (hl : xs.length < 16777216) (st : ∀ m ∈ xs, ∃ env1, p.asg m (wipeE env vs) = some env1 ∧ Mr kp h es (tt env1) (fun _ => True) ∧ Mr kp h es (el env1) (DatM P)) : Mr kp h es (nComp itf p tt el vs env) (DatL fun ds => ds.length ≤ xs.length ∧ ∀ x ∈ ds, P x) := by
  rw [comp_rt hi hl]
  exact Mr.mono (mr_compL xs [] (fun _ h => by cases h) st) fun r ⟨ds, e, hl, hp⟩ => ⟨ds, e, by rw [List.length_nil, Nat.zero_add] at hl; exact hl, hp⟩
theorem mr_yes : Mr kp h es (bYes env) (fun _ => True) := Mu.rt ⟨rfl, trivial⟩
theorem mr_if {t : G.Env → Sm Bool} {f g : ES} {B : Bool → Prop} {P : M → Prop} (ht : Mr kp h es (t env) B) (hf : B true → Mr kp h es (f env) P) (hg : B false → Mr kp h es (g env) P) : Mr kp h es (eIf t f g env) P := by
  unfold eIf
  refine Mr.bnd ht fun b pb => ?_
  cases b with
  | true => rw [if_pos rfl]; exact hf pb
  | false => rw [if_neg Bool.false_ne_true]; exact hg pb
/-- an own list by place -/
theorem mr_ixO {i j : Nat} {f : ES} {ds : List PyData} {P : PyData → Prop} (e : env[i]? = some (some (.obj (h.length + j)))) (ej : es[j]? = some (some ds)) (hf : Mr kp h es (f env) (IntIn 0 (ds.length - 1))) (hp : ∀ x ∈ ds, P x) : Mr kp h es (e2 oIx (eVar i) f env) (DatM P) := by
  unfold e2
  rw [var_rt e, bnd_rt]
  refine Mr.bnd hf fun m ⟨k, em, h0, h1⟩ => ?_
  subst em
  obtain ⟨x, ex, hx⟩ := atI_in (xs := ds) (i := k) h0 (by omega)
  refine Mu.get (a := M.d x) (es' := es) (fun c => ?_) ⟨rfl, x, rfl, hp x hx⟩
  show (match tupM (.obj (h.length + j)) with | some ms => opt (atI ms k) (Mt h kp c es) | none => match lstM (Mt h kp c es) (.obj (h.length + j)) with | some ms => opt (atI ms k) (Mt h kp c es) | none => none) = _
  simp only [tupM, lst_own ej, atI_mapD ex]
  rfl
theorem mu_frz {i j : Nat} {ds : List PyData} {R : Fl × G.Env → Ls → Prop} (e : env[i]? = some (some (.obj (h.length + j)))) (ej : es[j]? = some (some ds)) (k : R (.rt (.d (.list ds)), env) (es.set j none)) : Mu kp h es (sRet (eFrz (eVar i)) env) R := by
  unfold sRet eFrz
  rw [var_rt e, bnd_rt]
  refine Mu.bnd (P := fun m es' => m = .d (.list ds) ∧ es' = es.set j none) (Mu.get (a := M.d (.list ds)) (es' := es.set j none) (fun c => ?_) ⟨rfl, rfl⟩) fun m es' ⟨e1, e2⟩ => ?_
  · simp only [frzM, Mt.ls ej]
    exact congrArg (fun z => some (Out.val (M.d (.list ds)) z)) (Mt.put (o := none))
  · subst e1 e2
    exact Mu.rt k
/-- a walk over what is numbered -/
theorem mu_forE {I : Nat → G.Env → Ls → Prop} {itf : G.Env → Sm SIt} {p : Pat} {body : SS} {xs : List M} (hi : itf env = rt (.en (.vals xs))) (h0 : I 0 env es)
    (st : ∀ i m, (enL xs)[i]? = some m → ∀ env o, I i env o → ∃ env1, p.asg m env = some env1 ∧ Mu kp h o (body env1) fun r o' => r.1 = .nx ∧ I (i + 1) r.2 o') : Mu kp h es (sFor itf p body env) fun r o' => r.1 = .nx ∧ I xs.length r.2 o' := by
  rw [for_enrt hi]
  have := mu_forL (kp := kp) (h := h) I (p := p) (body := body) (xs := enL xs) (k := 0) h0 fun i m hm env o hI => by
    rw [Nat.zero_add] at hI ⊢
    exact st i m hm env o hI
  rw [Nat.zero_add, len_enL] at this
  exact this
end
section
variable {env : G.Env} {f g : ES}
theorem cutL_map {ds : List PyData} {l u : Option Int} : cutG (ds.map M.d) l u = (cutG ds l u).map M.d := by
  unfold cutG
  rw [List.length_map, List.map_take, List.map_drop]
theorem slice_l {lo hi : Option ES} {l u : Option Int} {ds : List PyData} (h : f env = rt (.d (.list ds))) (hlo : oPart lo env = rt l) (hhi : oPart hi env = rt u) : eSl f lo hi env = rt (.d (.list (cutG ds l u))) := by
  unfold eSl
  rw [h, bnd_rt, hlo, bnd_rt, hhi, bnd_rt]
  funext hh
  simp only [cutS', tupM, lstM, cutL_map]
  unfold mkL
  rw [asDs_map]
theorem add_l {xs ys : List PyData} (h1 : f env = rt (.d (.list xs))) (h2 : g env = rt (.d (.list ys))) (h : xs.length + ys.length ≤ 16777216) : e2 oAdd f g env = rt (.d (.list (xs ++ ys))) := by
  unfold e2
  rw [h1, bnd_rt, h2, bnd_rt]
  funext hh
  simp only [oAdd, tupM, lstM, List.length_map]
  rw [if_pos (show xs.length + ys.length ≤ LIM from h), ← List.map_append]
  unfold mkL
  rw [asDs_map]
theorem tup_l {xs : List PyData} (h : f env = rt (.d (.list xs))) : eB nTup (aCons f aNil) env = rt (.d (.tuple xs)) := by
  unfold eB
  rw [one_rt h, bnd_rt]
  funext hh
  simp only [nTup, tupM, lstM, mkTup_ds]
  rfl
end
end Q

/-! repr, asked twice; so many bounded things -/
namespace Q
open PySem PySem.Spec L2 G PySem.W
theorem repr_is {f : ES} {env : G.Env} {x : PyData} {B k n : Nat} (h : f env = rt (.d x)) (b : Bd B k n x) (hB : B < 2 ^ 1920) (hk : k ≤ 60) (hn : n ≤ 16777216) : eB nRepr (aCons f aNil) env = rt (.d (.str x.shown)) := by
  unfold eB
  rw [one_rt h, bnd_rt]
  exact repr_dW (b.sw hB) hk hn
theorem repr_bool {f : ES} {env : G.Env} {b : Bool} (h : f env = rt (.d (.bool b))) : eB nRepr (aCons f aNil) env = rt (.d (.str (PyData.bool b).shown)) := repr_is (B := 0) (k := 0) (n := 5) h ⟨rfl, Nat.le_refl _, Nat.le_refl _⟩ (Nat.two_pow_pos _) (by decide) (by decide)
theorem ne_same {f g : ES} {env : G.Env} {a : Str} (h : f env = rt (.d (.str a))) (h2 : g env = rt (.d (.str a))) : bO (e2 oNe f g) env = rt false := by
  refine bO_rt ?_
  unfold e2
  rw [h, bnd_rt, h2, bnd_rt, ne_str]
  simp
abbrev B3 : Nat := BIG + 30000
theorem big_lt : B3 < 2 ^ 1920 := by
  refine Nat.lt_of_lt_of_le (show B3 < 2 ^ 128 by decide +kernel) (Nat.pow_le_pow_right (by decide) (by decide))
/-- so many things at most, as they are looked at -/
def Tg (m : Nat) (ds : List PyData) : Prop := ds.length ≤ m ∧ ∀ x ∈ ds, Bd B3 10 4000000 x
theorem Tg.app {m m' : Nat} {xs ys : List PyData} (h : Tg m xs) (h2 : Tg m' ys) : Tg (m + m') (xs ++ ys) := ⟨by rw [List.length_append]; have := h.1; have := h2.1; omega, fun x hx => by
  rcases List.mem_append.mp hx with hx | hx
  · exact h.2 x hx
  · exact h2.2 x hx⟩
theorem Tg.one {x : PyData} (h : Bd B3 10 4000000 x) : Tg 1 [x] := ⟨Nat.le_refl _, fun y hy => by rw [List.mem_singleton.mp hy]; exact h⟩
theorem Tg.nil : Tg 0 [] := ⟨Nat.le_refl _, fun y hy => by cases hy⟩
theorem Tg.cons {m : Nat} {x : PyData} {xs : List PyData} (h : Bd B3 10 4000000 x) (h2 : Tg m xs) : Tg (m + 1) (x :: xs) := by
  have := (Tg.one h).app h2
  rw [Nat.add_comm] at this
  exact this
/-- .. of a smaller bound -/
theorem Bd.up {B k n : Nat} {x : PyData} (b : Bd B k n x) (h0 : B ≤ B3) (h1 : k ≤ 10) (h2 : n ≤ 4000000) : Bd B3 10 4000000 x := b.mono h0 h1 h2
theorem BIG_le : BIG ≤ B3 := Nat.le_add_right _ _
theorem rng_mr {kp : Nat} {h : Hh} {es : Ls} {f : ES} {env : G.Env} {a b : Int} (hf : Mr kp h es (f env) (IntIn a b)) (ha : 0 ≤ a) (hb : b < 1000000) : Mr kp h es (iRng1F (aCons f aNil) env) fun it => ∃ xs, it = .vals xs ∧ (a ≤ (xs.length : Int) ∧ (xs.length : Int) ≤ b) := by
  unfold iRng1F aCons aNil
  simp only [bnd_assoc, bnd_rt]
  refine Mr.bnd hf fun m ⟨n, e, h1, h2⟩ => ?_
  subst e
  refine Mu.all (rng1_rt (show n.natAbs < 4611686018427387904 by omega)) ⟨rfl, _, rfl, ?_⟩
  rw [List.length_map, len_rngL]
  omega
theorem addI_mr {kp : Nat} {h : Hh} {es : Ls} {f : ES} {env : G.Env} {i a b : Int} (hf : Mr kp h es (f env) (IntIn a b)) : Mr kp h es (e2 oAdd (eC (.int i)) f env) (IntIn (i + a) (i + b)) := by
  unfold e2
  show Mr kp h es (bnd (rt (M.d (.int i))) _) _
  rw [bnd_rt]
  refine Mr.bnd hf fun m ⟨n, e, h1, h2⟩ => ?_
  subst e
  exact Mu.all add_i ⟨rfl, i + n, rfl, by omega, by omega⟩
end Q

/-! more rules for drawing: two at once; three handed in; a list by place -/
namespace Q
open PySem PySem.Spec L2 G PySem.W
section
variable {kp : Nat} {h : Hh} {es : Ls} {env : G.Env}
theorem mu_par {i j : Nat} {f1 f2 : ES} {g : SS} {A B : M → Prop} {R : Fl × G.Env → Ls → Prop} (h1 : Mr kp h es (f1 env) A) (h2 : Mr kp h es (f2 env) B) (k : ∀ x y, A x → B y → Mu kp h es (g ((env.set i (some x)).set j (some y))) R) : Mu kp h es (sSeq (sPar i j (aCons f1 (aCons f2 aNil))) g env) R := by
  unfold sSeq sPar
  rw [bnd_assoc]
  refine Mr.bnd (mr_cons h1 (mr_cons h2 mr_nil)) ?_
  rintro ms ⟨x, _, rfl, px, y, _, rfl, py, rfl⟩
  exact k x y px py
theorem seq_mr {f : ES} {P : List PyData → Prop} (hf : Mr kp h es (f env) (fun m => ∃ ds, m = .d (.list ds) ∧ P ds)) : Mr kp h es (iSeqF f env) (fun it => ∃ xs, it = .vals xs ∧ ∃ ds : List PyData, xs = ds.map M.d ∧ P ds) := by
  unfold iSeqF
  refine Mr.bnd hf fun m ⟨ds, e, p⟩ => ?_
  subst e
  exact Mu.all (a := .vals (ds.map M.d)) rfl ⟨rfl, _, rfl, ds, rfl, p⟩
end
/-- a call with the pot, what is known, and what is drawn -/
theorem call_pot {kp n : Nat} {f : Fn} {fs : G.Env → Sm (List M)} {env : G.Env} {i : Nat} {P : M → Prop} {A : List M → Prop} (e : env[i]? = some (some (.obj kp))) (hs : Gen kp (fs env) A) (hl : ∀ ms, A ms → ms.length + 1 = n) (hf : ∀ ms, A ms → Gen kp (f (.obj kp :: ms)) P) : Gen kp (eCall n f (aCons (eVar i) fs) env) P :=
  Gen.call (A := fun ms => ∃ ms', ms = .obj kp :: ms' ∧ A ms') (Gen.bnd (gen_var (P := fun m => m = .obj kp) e rfl) fun m hm => by
    subst hm
    exact Gen.bnd hs fun ms hm => Gen.rt ⟨ms, rfl, hm⟩) (fun ms ⟨m, e, hm⟩ => by rw [e]; exact hl m hm) fun ms ⟨m, e, hm⟩ => by subst e; exact hf m hm
/-- .. all of it known -/
theorem call_potK {kp n : Nat} {f : Fn} {fs : G.Env → Sm (List M)} {env : G.Env} {i : Nat} {P : M → Prop} {ms : List M} (e : env[i]? = some (some (.obj kp))) (hs : fs env = rt ms) (hl : ms.length + 1 = n) (hf : Gen kp (f (.obj kp :: ms)) P) : Gen kp (eCall n f (aCons (eVar i) fs) env) P :=
  call_pot (A := fun m => m = ms) e (Gen.all hs rfl) (fun m h => by rw [h]; exact hl) fun m h => by rw [h]; exact hf
theorem ixL_is {f g : ES} {env : G.Env} {xs : List PyData} {i : Int} {x : PyData} (h : f env = rt (.d (.list xs))) (h2 : g env = rt (.d (.int i))) (e : atI xs i = some x) : e2 oIx f g env = rt (.d x) := by simp only [e2, h, h2, bnd_rt, ix_lst e]
theorem mod_is {f g : ES} {env : G.Env} {i j : Int} (h : f env = rt (.d (.int i))) (h2 : g env = rt (.d (.int j))) (hj : 0 < j) : e2 oMod f g env = rt (.d (.int (i % j))) := by simp only [e2, h, h2, bnd_rt, mod_p hj]
/-- a loop over known things, all alike -/
theorem mu_forK {kp : Nat} {h : Hh} {es : Ls} {env : G.Env} {itf : G.Env → Sm SIt} {p : Pat} {body : SS} {xs : List M} (I : Nat → G.Env → Ls → Prop) (hi : itf env = rt (.vals xs)) (h0 : I 0 env es) (st : ∀ i m, xs[i]? = some m → ∀ env o, I i env o → ∃ env1, p.asg m env = some env1 ∧ Mu kp h o (body env1) fun r o' => r.1 = .nx ∧ I (i + 1) r.2 o') : Mu kp h es (sFor itf p body env) fun r o' => r.1 = .nx ∧ I xs.length r.2 o' := by
  refine (mu_for (I := I) (X := fun ys => ys = xs) (Mu.all hi ⟨rfl, _, rfl, rfl⟩) h0 ?_).mono ?_
  · rintro _ rfl; exact st
  · rintro r o' ⟨e, ys, rfl, hI⟩; exact ⟨e, hI⟩
end Q

/-! drawing by an own list's length; calls within a drawing -/
namespace Q
open PySem PySem.Spec L2 G PySem.W
section
variable {kp : Nat} {h : Hh} {es : Ls} {env : G.Env}
theorem mr_call {n : Nat} {f : Fn} {fs : G.Env → Sm (List M)} {A : List M → Prop} {P : M → Prop} (hs : Mr kp h es (fs env) A) (hl : ∀ ms, A ms → ms.length = n) (hf : ∀ ms, A ms → Mr kp h es (f ms) P) : Mr kp h es (eCall n f fs env) P := by
  unfold eCall
  refine Mr.bnd hs fun ms a => ?_
  rw [if_pos (hl ms a)]
  exact Mu.nox (hf ms a)
theorem mr_lenO {i j : Nat} {ds : List PyData} (e : env[i]? = some (some (.obj (h.length + j)))) (ej : es[j]? = some (some ds)) : Mr kp h es (eB nLen (aCons (eVar i) aNil) env) (IntIn ds.length ds.length) := by
  unfold eB
  rw [one_rt (var_rt e), bnd_rt]
  refine Mu.get (a := M.d (.int (ds.length : Int))) (es' := es) (fun c => ?_) ⟨rfl, _, rfl, Int.le_refl _, Int.le_refl _⟩
  show (match lenM (Mt h kp c es) (.obj (h.length + j)) with | some n => some (Out.val (M.d (.int (n : Int))) (Mt h kp c es)) | none => none) = _
  have : lenM (Mt h kp c es) (.obj (h.length + j)) = some ds.length := by simp [lenM, tupM, lst_own ej]
  rw [this]
theorem mr_draw {i : Nat} {f : ES} {a b : Int} (hp : PotAt kp h) (e : env[i]? = some (some (.obj kp))) (hf : Mr kp h es (f env) (IntIn a b)) (ha : 1 ≤ a) (hb : b < 1329227995784915872903807060280344576) : Mr kp h es (eCall 2 m__law_take (aCons (eVar i) (aCons f aNil)) env) (IntIn 0 (b - 1)) := by
  refine mr_call (A := fun ms => ∃ far : Int, ms = [.obj kp, .d (.int far)] ∧ a ≤ far ∧ far ≤ b) ?_ (fun ms ⟨far, e, _⟩ => by rw [e]; rfl) fun ms ⟨far, e, h1, h2⟩ => by
    subst e
    exact Mr.gen hp ((take_ok (by omega) (by omega)).mono fun m h => h.mono (Int.le_refl _) (by omega))
  refine Mr.mono (mr_cons (mr_var (P := fun m => m = .obj kp) e rfl) (mr_cons hf mr_nil)) ?_
  rintro ms ⟨x, _, rfl, rfl, y, _, rfl, ⟨far, rfl, h1, h2⟩, rfl⟩
  exact ⟨far, rfl, h1, h2⟩
theorem Gd.mono {m m' : Nat} {ds : List PyData} (g : Gd m ds) (h : m ≤ m') : Gd m' ds := ⟨Nat.le_trans g.1 h, g.2⟩
/-- a new list: an own one and more things -/
theorem mr_catG {i j : Nat} {ds : List PyData} {f : ES} {m n : Nat} (e : env[i]? = some (some (.obj (h.length + j)))) (ej : es[j]? = some (some ds)) (g : Gd m ds) (hf : Mr kp h es (f env) (fun m' => ∃ ds, m' = .d (.list ds) ∧ Gd n ds)) (hl : m + n ≤ 16777216) : Mr kp h es (nCat (eVar i) f env) (DatL (Gd (m + n))) :=
  mr_cat (own_ls e ej g) (Mr.mono hf fun m ⟨ds, e, g⟩ => ⟨ds, .inr e, g⟩) fun xs ys hx hy => ⟨by have := hx.1; have := hy.1; omega, hx.app hy⟩
theorem mr_nilG : Mr kp h es (aNil env) (DatL (Gd 0)) := mr_nilD ⟨Nat.le_refl _, fun _ h => by cases h⟩
theorem mr_consG {f : ES} {fs : G.Env → Sm (List M)} {n : Nat} (hf : Mr kp h es (f env) (DatM (Bd BIG 10 500000))) (hs : Mr kp h es (fs env) (DatL (Gd n))) : Mr kp h es (aCons f fs env) (DatL (Gd (n + 1))) :=
  mr_consD hf hs fun x xs px g => by
    have := (Gd.one px).app g
    rw [Nat.add_comm] at this
    exact this
theorem mr_lstG {fs : G.Env → Sm (List M)} {n : Nat} (hs : Mr kp h es (fs env) (DatL (Gd n))) (hn : n ≤ 1000 := by decide) : Mr kp h es (eVal (nLst fs) env) (fun m => ∃ ds, m = .d (.list ds) ∧ Gd n ds) :=
  mr_val (mr_lst (Mr.mono hs fun ms ⟨ds, e, g⟩ => ⟨ds, e, by have := g.1; omega, g⟩))
/-- bounded, by what comes out -/
theorem mr_bd {f : ES} {x : PyData} {k n : Nat} (e : f env = rt (.d x)) (b : Bd BIG k n x) (hk : k ≤ 10 := by decide) (hn : n ≤ 500000 := by decide) : Mr kp h es (f env) (DatM (Bd BIG 10 500000)) := Mu.all e ⟨rfl, x, rfl, b.mono (Nat.le_refl _) hk hn⟩
theorem mr_bdG {f : ES} {k n : Nat} (hp : PotAt kp h) (g : Gen kp (f env) (DatM (Bd BIG k n))) (hk : k ≤ 10 := by decide) (hn : n ≤ 500000 := by decide) : Mr kp h es (f env) (DatM (Bd BIG 10 500000)) := Mr.mono (Mr.gen hp g) fun m ⟨x, e, b⟩ => ⟨x, e, b.mono (Nat.le_refl _) hk hn⟩
/-- told by computing -/
theorem bd_dec {x : PyData} (h : (okD BIG x && (decide (x.depth ≤ 10) && decide (zD x ≤ 500000))) = true) : Bd BIG 10 500000 x := by
  simp only [Bool.and_eq_true, decide_eq_true_eq] at h
  exact ⟨h.1, h.2.1, h.2.2⟩
end
end Q

/-! lists whose members all hold something -/
namespace Q
open PySem PySem.Spec L2 G PySem.W
def Al (P : PyData → Prop) (n : Nat) (ds : List PyData) : Prop := ds.length ≤ n ∧ ∀ x ∈ ds, P x
theorem Al.app {P : PyData → Prop} {m n : Nat} {xs ys : List PyData} (h : Al P m xs) (h2 : Al P n ys) : Al P (m + n) (xs ++ ys) := ⟨by rw [List.length_append]; have := h.1; have := h2.1; omega, fun y hy => by
  rcases List.mem_append.mp hy with hy | hy
  · exact h.2 y hy
  · exact h2.2 y hy⟩
theorem Al.one {P : PyData → Prop} {x : PyData} (h : P x) : Al P 1 [x] := ⟨Nat.le_refl _, fun z hz => by rw [List.mem_singleton.mp hz]; exact h⟩
theorem Al.mono {P Q : PyData → Prop} {m n : Nat} {xs : List PyData} (h : Al P m xs) (hm : m ≤ n) (i : ∀ x, P x → Q x) : Al Q n xs := ⟨Nat.le_trans h.1 hm, fun x hx => i x (h.2 x hx)⟩
section
variable {kp : Nat} {h : Hh} {es : Ls} {env : G.Env} {P : PyData → Prop} {n m : Nat}
theorem al_nil : Mr kp h es (aNil env) (DatL (Al P 0)) := mr_nilD ⟨Nat.le_refl _, fun _ h => by cases h⟩
theorem al_cons {f : ES} {fs : G.Env → Sm (List M)} (hf : Mr kp h es (f env) (DatM P)) (hs : Mr kp h es (fs env) (DatL (Al P n))) : Mr kp h es (aCons f fs env) (DatL (Al P (n + 1))) :=
  mr_consD hf hs fun x xs px g => by
    have := (Al.one px).app g
    rw [Nat.add_comm] at this
    exact this
theorem al_lst {fs : G.Env → Sm (List M)} (hs : Mr kp h es (fs env) (DatL (Al P n))) (hn : n ≤ 1000 := by decide) : Mr kp h es (eVal (nLst fs) env) (fun m => ∃ ds, m = .d (.list ds) ∧ Al P n ds) :=
  mr_val (mr_lst (Mr.mono hs fun ms ⟨ds, e, g⟩ => ⟨ds, e, by have := g.1; omega, g⟩))
/-- .. with something in it -/
theorem al_lst1 {f : ES} {fs : G.Env → Sm (List M)} (hs : Mr kp h es (aCons f fs env) (DatL (Al P n))) (hn : n ≤ 1000 := by decide) : Mr kp h es (eVal (nLst (aCons f fs)) env) (fun m => ∃ ds, m = .d (.list ds) ∧ (Al P n ds ∧ 1 ≤ ds.length)) := by
  have hs' : Mr kp h es (aCons f fs env) (DatL fun ds => Al P n ds ∧ 1 ≤ ds.length) := by
    refine fun c => ?_
    obtain ⟨a, c', es', e, he, ds, ea, g⟩ := hs c
    refine ⟨a, c', es', e, he, ds, ea, g, ?_⟩
    have : ∀ {x : Sm (List M)} {hh h' : Hh}, aCons f (fun e => fs e) env hh = some (.val a h') → 1 ≤ a.length := fun {x hh h'} q => by
      unfold aCons bnd at q
      revert q
      cases f env hh with
      | none => intro q; cases q
      | some o =>
        cases o with
        | exc c h => intro q; cases q
        | val m h1 =>
          simp only
          cases fs env h1 with
          | none => intro q; cases q
          | some o =>
            cases o with
            | exc c h => intro q; cases q
            | val ms h2 =>
              intro q
              cases q
              exact Nat.le_add_left _ _
    have := this (x := fail) e
    rw [ea, List.length_map] at this
    exact this
  exact mr_val (mr_lst (Mr.mono hs' fun ms ⟨ds, e, g⟩ => ⟨ds, e, by have := g.1.1; omega, g⟩))
theorem al_is {f : ES} {x : PyData} (e : f env = rt (.d x)) (p : P x) : Mr kp h es (f env) (DatM P) := Mu.all e ⟨rfl, x, rfl, p⟩
/-- a walk over a known list, each turn alike -/
theorem mu_forA {itf : G.Env → Sm SIt} {p : Pat} {body : SS} {ds : List PyData} (I : G.Env → Ls → Prop) (hi : itf env = rt (.vals (ds.map M.d))) (h0 : I env es) (st : ∀ x ∈ ds, ∀ env o, I env o → ∃ env1, p.asg (.d x) env = some env1 ∧ Mu kp h o (body env1) fun r o' => r.1 = .nx ∧ I r.2 o') : Mu kp h es (sFor itf p body env) fun r o' => r.1 = .nx ∧ I r.2 o' := by
  refine mu_forK (fun _ => I) hi h0 fun i m hm env o hI => ?_
  rw [List.getElem?_map] at hm
  cases hx : ds[i]? with
  | none => rw [hx] at hm; cases hm
  | some x =>
    rw [hx] at hm
    cases hm
    exact st x (List.mem_of_getElem? hx) env o hI
theorem own_al {i j : Nat} {ds : List PyData} (e : env[i]? = some (some (.obj (h.length + j)))) (ej : es[j]? = some (some ds)) (g : Al P m ds) : Mr kp h es (eVar i env) (fun m' => ∃ ds, LsM h es m' ds ∧ Al P m ds) := mr_var e ⟨ds, .inl ⟨j, rfl, ej⟩, g⟩
/-- a new list: an own one and more things -/
theorem al_cat {i j : Nat} {ds : List PyData} {f : ES} (e : env[i]? = some (some (.obj (h.length + j)))) (ej : es[j]? = some (some ds)) (g : Al P m ds) (hf : Mr kp h es (f env) (fun m' => ∃ ds, m' = .d (.list ds) ∧ Al P n ds)) (hl : m + n ≤ 16777216) : Mr kp h es (nCat (eVar i) f env) (DatL (Al P (m + n))) :=
  mr_cat (own_al e ej g) (Mr.mono hf fun m ⟨ds, e, g⟩ => ⟨ds, .inr e, g⟩) fun xs ys hx hy => ⟨by have := hx.1; have := hy.1; omega, hx.app hy⟩
theorem mu_nil {R : Fl × G.Env → Ls → Prop} (k : R (.nx, env) es) : Mu kp h es (sNil env) R := Mu.rt k
end
end Q

/-! lists drawn: put together, walked over -/
namespace Q
open PySem PySem.Spec L2 G PySem.W
section
variable {kp : Nat} {h : Hh} {es : Ls} {env : G.Env} {P : PyData → Prop} {n m : Nat}
theorem al_add {f g : ES} (hf : Mr kp h es (f env) (fun m' => ∃ ds, m' = .d (.list ds) ∧ Al P m ds)) (hg : Mr kp h es (g env) (fun m' => ∃ ds, m' = .d (.list ds) ∧ Al P n ds)) (hl : m + n ≤ 16777216 := by decide) : Mr kp h es (e2 oAdd f g env) (fun m' => ∃ ds, m' = .d (.list ds) ∧ Al P (m + n) ds) :=
  mr_addL (A := Al P m) (B := Al P n) (Mr.mono hf fun x ⟨ds, e, a⟩ => ⟨ds, .inr e, a⟩) (Mr.mono hg fun x ⟨ds, e, a⟩ => ⟨ds, .inr e, a⟩) fun xs ys a b => ⟨by have := a.1; have := b.1; omega, a.app b⟩
theorem al_known {f : ES} {ds : List PyData} (e : f env = rt (.d (.list ds))) (a : Al P m ds) : Mr kp h es (f env) (fun m' => ∃ ds, m' = .d (.list ds) ∧ Al P m ds) := Mu.all e ⟨rfl, ds, rfl, a⟩
/-- a walk over a drawn list, each turn alike -/
theorem mu_forS {f : ES} {p : Pat} {body : SS} (I : G.Env → Ls → Prop) (hf : Mr kp h es (f env) (fun m' => ∃ ds, m' = .d (.list ds) ∧ Al P n ds)) (h0 : I env es) (st : ∀ x, P x → ∀ env o, I env o → ∃ env1, p.asg (.d x) env = some env1 ∧ Mu kp h o (body env1) fun r o' => r.1 = .nx ∧ I r.2 o') : Mu kp h es (sFor (iSeqF f) p body env) fun r o' => r.1 = .nx ∧ I r.2 o' := by
  refine (mu_for (I := fun _ => I) (seq_mr hf) h0 ?_).mono fun r o' ⟨a, xs, _, b⟩ => ⟨a, b⟩
  rintro xs ⟨ds, rfl, hd⟩ i m hm env o hI
  rw [List.getElem?_map] at hm
  cases hx : ds[i]? with
  | none => rw [hx] at hm; cases hm
  | some x =>
    rw [hx] at hm
    cases hm
    exact st x (hd.2 x (List.mem_of_getElem? hx)) env o hI
end
end Q

/-! things that are odd, by name -/
namespace Q
open PySem PySem.Spec L2 G PySem.W
theorem oddM_gen {kp : Nat} : Gen kp (m__law_odd [.obj kp]) (DatM fun x => x ∈ oddL) := by
  refine gen_fn ?_
  show Gen kp (b__law_odd [some (.obj kp), none]) _
  unfold b__law_odd
  refine gen_set (P := fun m => m = .d (.list oddL)) (Gen.all (a := .d (.list oddL)) rfl rfl) ?_
  rintro _ rfl
  have e : eVar 1 ([some (.obj kp), none].set 1 (some (.d (.list oddL)))) = rt (.d (.list oddL)) := rfl
  refine gen_ret (gen_pickD e ?_ fun x h => h)
  have := draw (kp := kp) (i := 0) (env := [some (.obj kp), some (.d (.list oddL))]) (f := eB nLen (aCons (eVar 1) aNil)) (a := 17) (b := 17) rfl (Gen.all (a := .d (.int 17)) rfl ⟨17, rfl, by decide, by decide⟩) (by decide) (by decide)
  exact this
end Q

/-! parts drawn: slices, tuples, one for each; sorted sets -/
namespace Q
open PySem PySem.Spec L2 G PySem.W
theorem two_t {f g : ES} {env : G.Env} {x y : PyData} (h : f env = rt (.d x)) (h2 : g env = rt (.d y)) : eTup (aCons f (aCons g aNil)) env = rt (.d (.tuple [x, y])) := by
  simp only [eTup, aCons, aNil, h, h2, bnd_rt]
  rfl
theorem one_t {f : ES} {env : G.Env} {x : PyData} (h : f env = rt (.d x)) : eTup (aCons f aNil) env = rt (.d (.tuple [x])) := by
  simp only [eTup, aCons, aNil, h, bnd_rt]
  rfl
theorem part_is {f : ES} {env : G.Env} {i : Int} (h : f env = rt (.d (.int i))) : oPart (some f) env = rt (some i) := by
  simp only [oPart, h, bnd_rt]
  rfl
section
variable {kp : Nat} {h : Hh} {es : Ls} {env : G.Env}
theorem mr_sl {f hi : ES} {xs : List PyData} {a b : Int} (hf : f env = rt (.d (.list xs))) (hh : Mr kp h es (hi env) (IntIn a b)) : Mr kp h es (eSl f none (some hi) env) (fun m => ∃ ys, m = .d (.list ys) ∧ ∃ i, a ≤ i ∧ i ≤ b ∧ ys = cutG xs none (some i)) := by
  unfold eSl
  rw [hf, bnd_rt]
  show Mr kp h es (bnd (rt none) _) _
  rw [bnd_rt]
  refine Mr.bnd (P := fun z => ∃ i, a ≤ i ∧ i ≤ b ∧ z = some i) (Mr.bnd hh fun m ⟨i, e, i0, i1⟩ => ?_) fun z ⟨i, i0, i1, e⟩ => ?_
  · subst e
    exact Mu.rt ⟨rfl, i, i0, i1, rfl⟩
  · subst e
    refine Mu.all (a := .d (.list (cutG xs none (some i)))) ?_ ⟨rfl, _, rfl, i, i0, i1, rfl⟩
    have := slice_l (f := f) (env := env) (lo := none) (hi := some (eC (.int i))) (l := none) (u := some i) hf rfl rfl
    unfold eSl at this
    rw [hf, bnd_rt] at this
    exact this
theorem mr_tup {f : ES} {P : List PyData → Prop} (hf : Mr kp h es (f env) (fun m => ∃ xs, m = .d (.list xs) ∧ P xs)) : Mr kp h es (eB nTup (aCons f aNil) env) (fun m => ∃ xs, m = .d (.tuple xs) ∧ P xs) := by
  unfold eB
  refine Mr.bnd (P := fun ms => ∃ xs, ms = [M.d (.list xs)] ∧ P xs) ?_ fun ms ⟨xs, e, p⟩ => ?_
  · refine Mr.bnd hf fun m ⟨xs, e, p⟩ => ?_
    subst e
    exact Mu.rt ⟨rfl, xs, rfl, p⟩
  · subst e
    exact Mu.all (tup_l (f := eC (.list xs)) (env := []) rfl) ⟨rfl, xs, rfl, p⟩
theorem mr_two {f g : ES} {A B : PyData → Prop} (hf : Mr kp h es (f env) (DatM A)) (hg : Mr kp h es (g env) (DatM B)) : Mr kp h es (eTup (aCons f (aCons g aNil)) env) (fun m => ∃ x y, m = .d (.tuple [x, y]) ∧ A x ∧ B y) := by
  unfold eTup
  refine Mr.bnd (P := fun ms => ∃ x y, ms = [M.d x, M.d y] ∧ A x ∧ B y) ?_ fun ms ⟨x, y, e, p⟩ => ?_
  · refine Mr.bnd hf fun m ⟨x, e, p⟩ => ?_
    subst e
    refine Mr.bnd (Mr.bnd hg fun m ⟨y, e, q⟩ => ?_) (P := fun ms => ∃ y, ms = [M.d y] ∧ B y) fun ms ⟨y, e, q⟩ => ?_
    · subst e
      exact Mu.rt ⟨rfl, y, rfl, q⟩
    · subst e
      exact Mu.rt ⟨rfl, x, y, rfl, p, q⟩
  · subst e
    exact Mu.all (a := .d (.tuple [x, y])) rfl ⟨rfl, x, y, rfl, p⟩
/-- one for each -/
theorem mr_compN {P : PyData → Prop} {p : Pat} {el : ES} : ∀ (xs : List M) (acc : List PyData), (∀ x ∈ acc, P x) → (∀ m ∈ xs, ∃ env1, p.asg m env = some env1 ∧ Mr kp h es (el env1) (DatM P)) → Mr kp h es (compL p bYes el env xs (acc.map M.d)) (DatL fun ds => ds.length = acc.length + xs.length ∧ ∀ x ∈ ds, P x)
  | [], acc, ha, _ => Mu.rt ⟨rfl, acc, rfl, rfl, ha⟩
  | m :: ms, acc, ha, st => by
    obtain ⟨env1, e1, e⟩ := st m (List.mem_cons_self ..)
    simp only [compL, e1]
    refine Mr.bnd (Mu.nox (Mu.rt (a := true) ⟨rfl, rfl⟩)) (P := fun b => b = true) fun b hb => ?_
    subst hb
    rw [if_pos rfl]
    refine Mr.bnd (Mu.nox e) fun y ⟨x, ey, px⟩ => ?_
    subst ey
    rw [show acc.map M.d ++ [M.d x] = (acc ++ [x]).map M.d by rw [List.map_append]; rfl]
    refine Mr.mono (mr_compN ms (acc ++ [x]) (fun y hy => ?_) fun m hm => st m (List.mem_cons_of_mem _ hm)) fun r ⟨ds, e2, hl, hp⟩ => ⟨ds, e2, by rw [List.length_append, List.length_singleton] at hl; rw [List.length_cons]; omega, hp⟩
    rcases List.mem_append.mp hy with hy | hy
    · exact ha y hy
    · rw [List.mem_singleton.mp hy]; exact px
end
section
variable {kp : Nat} {h : Hh} {es : Ls} {env : G.Env}
theorem mr_sortT {f : ES} {A : List Int → Prop} (hf : Mr kp h es (f env) (fun m => ∃ xs, m = .d (.tuple xs) ∧ ∃ ns : List Int, xs = ns.map PyData.int ∧ ns.length < 64 ∧ A ns)) : Mr kp h es (eVal (nSortSet f) env) (fun m => ∃ xs, m = .d (.list xs) ∧ ∃ ns : List Int, xs = (sortSet ns).map PyData.int ∧ A ns) := by
  unfold eVal
  refine Mr.bnd (P := fun ms => ∃ ns : List Int, ms = ((sortSet ns).map PyData.int).map M.d ∧ A ns) ?_ fun ms ⟨ns, e, a⟩ => ?_
  · unfold nSortSet
    refine Mr.bnd hf fun m ⟨xs, e, ns, e2, hl, a⟩ => ?_
    subst e2
    subst e
    refine Mu.all (a := ((sortSet ns).map PyData.int).map M.d) ?_ ⟨rfl, ns, rfl, a⟩
    funext hh
    have : (tupM (M.d (.tuple (ns.map PyData.int)))).bind intsM = some ns := by
      show intsM ((ns.map PyData.int).map M.d) = some ns
      rw [List.map_map]
      exact intsM_map ns
    simp only [this]
    rw [if_pos hl, List.map_map]
    rfl
  · subst e
    rw [asDs_map]
    exact Mu.rt ⟨rfl, _, rfl, ns, rfl, a⟩
theorem mr_addT {f g : ES} {A B : List PyData → Prop} {n : Nat} (hf : Mr kp h es (f env) (fun m => ∃ xs, m = .d (.tuple xs) ∧ A xs)) (hg : Mr kp h es (g env) (fun m => ∃ xs, m = .d (.tuple xs) ∧ B xs)) (hl : ∀ xs ys, A xs → B ys → xs.length + ys.length ≤ 16777216) : Mr kp h es (e2 oAdd f g env) (fun m => ∃ zs, m = .d (.tuple zs) ∧ ∃ xs ys, zs = xs ++ ys ∧ A xs ∧ B ys) :=
  mr_e2 hf hg fun x y ⟨xs, ex, a⟩ ⟨ys, ey, b⟩ => by
    subst ex
    subst ey
    have := add_t (f := eC (.tuple xs)) (g := eC (.tuple ys)) (env := []) rfl rfl (hl xs ys a b)
    simp only [e2, eC, bnd_rt] at this
    exact Mu.all this ⟨rfl, _, rfl, xs, ys, rfl, a, b⟩
/-- a turned tuple -/
theorem rev_t {f : ES} {xs : List PyData} (h : f env = rt (.d (.tuple xs))) : eRevA f env = rt (.d (.tuple xs.reverse)) := by
  unfold eRevA
  rw [h, bnd_rt]
  funext hh
  simp only [revA, lstM, tupM]
  rw [← List.map_reverse, mkTup_ds]
  rfl
theorem listS_t {f : ES} {xs : List PyData} (h : f env = rt (.d (.tuple xs))) : eVal (nListS (aCons f aNil)) env = rt (.d (.list xs)) := by
  have : nListS (aCons f aNil) env = rt (xs.map M.d) := by
    funext hh
    simp only [nListS, nB, aCons, aNil, h, bnd_rt]
    rfl
  exact val_of this
end
end Q

/-! the jobs that the law draws -/
namespace Q
open PySem PySem.Spec L2 G PySem.W
theorem okJs_snoc {J : List Job} {x : Job} (h : ∀ y ∈ J, OkJ y) (hx : OkJ x) : ∀ y ∈ J ++ [x], OkJ y := fun y hy => by
  rcases List.mem_append.mp hy with hy | hy
  · exact h y hy
  · rw [List.mem_singleton.mp hy]; exact hx
theorem jobs_gen {kp : Nat} : Gen kp (m__law_jobs [.obj kp]) (Is jsD OkJs) := fun h hp => by
  have pl : PotAt kp (h ++ [.lst []]) := hp.app flat_one
  obtain ⟨_, c1, en, near, rfl, n1, n2⟩ := pick3 (i := 0) (env := [some (.obj kp), none, none, none, none, none]) (x := 12) (y := 90) (z := 4000) (a := 12) (b := 4000) rfl (by decide) _ pl
  have e1 : eCell (nLst aNil) [some (.obj kp), none, none, none, none, none] h = some (.val (.obj h.length) (h ++ [.lst []])) := rfl
  have sp := par_at (i := 2) (j := 3) e1 en
  rw [List.set_append_left _ _ hp.lt] at sp
  have p1 : PotAt kp (h.set kp (.lst [.int c1]) ++ [.lst []]) := (hp.set c1).app flat_one
  obtain ⟨_, c2, er, q, rfl, q1, q2⟩ := drawC (i := 0) (n := 13) (env := [some (.obj kp), none, some (.obj h.length), some (.d (.int near)), none, none]) rfl (by decide) (by decide) _ p1
  rw [List.set_append_left _ _ (by rw [List.length_set]; exact hp.lt), List.set_set] at er
  have eit : iRng1F (aCons (eCall 2 m__law_take (aCons (eVar 0) (aCons (eC (.int 13)) aNil))) aNil) [some (.obj kp), none, some (.obj h.length), some (.d (.int near)), none, none] (h.set kp (.lst [.int c1]) ++ [.lst []]) = some (.val (.vals ((rngL 0 q).map fun i => M.d (.int i))) (h.set kp (.lst [.int c2]) ++ [.lst []])) := by
    unfold iRng1F
    rw [aCons, bnd_assoc, bnd_val er]
    simp only [aNil, bnd_rt, rng1_rt (show q.natAbs < 4611686018427387904 by omega)]
    rfl
  obtain ⟨env', h', el, ⟨c, J, v1, v4, v5, rfl, rfl, hl, ho⟩⟩ := forL_invN (fun k env h' => ∃ (c : Int) (J : List Job) (v1 v4 v5 : Option M), env = [some (.obj kp), v1, some (.obj h.length), some (.d (.int near)), v4, v5] ∧ h' = h.set kp (.lst [.int c]) ++ [.lst (J.map jD)] ∧ J.length = k ∧ ∀ x ∈ J, OkJ x)
    (p := .nm 1) (body := b__law_jobs_1) (xs := (rngL 0 q).map fun i => M.d (.int i)) (k := 0) (env := [some (.obj kp), none, some (.obj h.length), some (.d (.int near)), none, none]) (h := h.set kp (.lst [.int c2]) ++ [.lst []]) ⟨c2, [], none, none, none, rfl, rfl, rfl, fun _ h => nomatch h⟩ (by
      rintro i m hm env h' ⟨c, J, v1, v4, v5, rfl, rfl, hl, ho⟩
      rw [Nat.zero_add] at *
      have hi : i < 12 := by
        have := (List.getElem?_eq_some_iff.mp hm).1
        rw [List.length_map, len_rngL] at this
        omega
      have pp : ∀ c (cell : Cell), cell.flat = true → PotAt kp (h.set kp (.lst [.int c]) ++ [cell]) := fun c cell hc => (hp.set c).app (by unfold flatX; simp [hc])
      have setk : ∀ c c' (cell : Cell), (h.set kp (.lst [.int c]) ++ [cell]).set kp (.lst [.int c']) = h.set kp (.lst [.int c']) ++ [cell] := fun c c' cell => by
        rw [List.set_append_left _ _ (by rw [List.length_set]; exact hp.lt), List.set_set]
      obtain ⟨_, c3, eb, b, rfl, b1, b2⟩ := draw (i := 0) (a := near) (b := near) (f := eVar 3) (env := [some (.obj kp), some m, some (.obj h.length), some (.d (.int near)), v4, v5]) rfl (gen_var rfl ⟨near, rfl, Int.le_refl _, Int.le_refl _⟩) (by omega) (by omega) _ (pp c (.lst (J.map jD)) rfl)
      rw [setk] at eb
      have gj : Gen kp (eTup (aCons (eVar 4) (aCons (e2 oAdd (e2 oAdd (eVar 4) (eC (.int 1))) (eCall 2 m__law_take (aCons (eVar 0) (aCons (e2 oIx (eVal (nLst (aCons (eC (.int 4)) (aCons (eC (.int 60)) (aCons (eC (.int 5000)) aNil))))) (eCall 2 m__law_take (aCons (eVar 0) (aCons (eC (.int 3)) aNil)))) aNil)))) aNil)) [some (.obj kp), some m, some (.obj h.length), some (.d (.int near)), some (.d (.int b)), v5]) (Is jD OkJ) := by
        refine (gen_tup ((gen_consD (gen_varD (i := 4) (A := fun z => z = .int b) rfl rfl) fun x1 h1 => gen_consD (gen_dat (gen_add (gen_add (gen_var (P := IntIn b b) rfl ⟨b, rfl, Int.le_refl _, Int.le_refl _⟩) (gen_int (i := 1))) (draw (i := 0) (a := 4) (b := 5000) rfl (pick3 rfl (by decide)) (by decide) (by decide)))) fun x2 h2 => gen_nilD (P := fun ds => ds = []) rfl).mono fun ms ⟨ds, e, hl, p⟩ => ⟨ds, e, by omega, p⟩)).mono ?_
        rintro m ⟨ds, rfl, x1, ds1, rfl, rfl, x2, ds2, rfl, ⟨y, rfl, y1, y2⟩, rfl⟩
        exact ⟨(b, y), rfl, b1, by show b < y; omega, by show y ≤ 9999; omega⟩
      obtain ⟨_, c4, ej, x, rfl, okx⟩ := gj _ (pp c3 (.lst (J.map jD)) rfl)
      rw [setk] at ej
      have lc : ∀ c : Int, ∀ cell : Cell, (h.set kp (.lst [.int c]) ++ [cell])[h.length]? = some cell := fun c cell => by
        have := last_at (h := h.set kp (.lst [.int c])) (c := cell)
        rwa [List.length_set] at this
      have ga : ∃ (c5 : Int) (y : Job), eIf (bAnd (bO (e2 oNe (eVar 2) (eVal (nLst aNil)))) (bO (e2 oEq (eCall 2 m__law_take (aCons (eVar 0) (aCons (eC (.int 8)) aNil))) (eC (.int 0))))) (e2 oIx (eVar 2) (eNeg (eC (.int 1)))) (eVar 5) [some (.obj kp), some m, some (.obj h.length), some (.d (.int near)), some (.d (.int b)), some (.d (jD x))] (h.set kp (.lst [.int c4]) ++ [.lst (J.map jD)]) = some (.val (.d (jD y)) (h.set kp (.lst [.int c5]) ++ [.lst (J.map jD)])) ∧ OkJ y := by
        have t1 : bO (e2 oNe (eVar 2) (eVal (nLst aNil))) [some (.obj kp), some m, some (.obj h.length), some (.d (.int near)), some (.d (.int b)), some (.d (jD x))] (h.set kp (.lst [.int c4]) ++ [.lst (J.map jD)]) = some (.val (!decide (J = [])) (h.set kp (.lst [.int c4]) ++ [.lst (J.map jD)])) := by
          have lay : ∀ J : List Job, (Datum.toD J : PyData).canLay0 = true := fun J => by
            show PyData.canLayAll0 (J.map Datum.toD) = true
            induction J with
            | nil => rfl
            | cons a l ih => rw [List.map_cons, PyData.canLayAll0, ih]; rfl
          have e := eqD_of (α := List Job) (h := h.set kp (.lst [.int c4]) ++ [.lst (J.map jD)]) (x := .obj h.length) (y := .d (.list [])) (a := J) (b := []) (by simp only [rsv, lc]; rfl) rfl (lay J) (lay []) (by decide)
          show bnd (bnd (rt (M.obj h.length)) fun x => bnd (rt (M.d (.list []))) fun y => oNe x y) asB _ = _
          simp only [bnd_rt]
          have : oNe (.obj h.length) (.d (.list [])) (h.set kp (.lst [.int c4]) ++ [.lst (J.map jD)]) = some (.val (.d (.bool (!decide (J = [])))) (h.set kp (.lst [.int c4]) ++ [.lst (J.map jD)])) := by
            simp only [oNe, e]
          rw [bnd_val this]
          rfl
        by_cases hJ : J = []
        · refine ⟨c4, x, ?_, okx⟩
          unfold eIf bAnd
          rw [bnd_assoc, bnd_val t1, decide_eq_true hJ]
          rfl
        · obtain ⟨_, c5, e5, i5, rfl, _, _⟩ := drawC (i := 0) (n := 8) (env := [some (.obj kp), some m, some (.obj h.length), some (.d (.int near)), some (.d (.int b)), some (.d (jD x))]) rfl (by decide) (by decide) _ (pp c4 (.lst (J.map jD)) rfl)
          rw [setk] at e5
          have t2 : bO (e2 oEq (eCall 2 m__law_take (aCons (eVar 0) (aCons (eC (.int 8)) aNil))) (eC (.int 0))) [some (.obj kp), some m, some (.obj h.length), some (.d (.int near)), some (.d (.int b)), some (.d (jD x))] (h.set kp (.lst [.int c4]) ++ [.lst (J.map jD)]) = some (.val (decide (i5 = 0)) (h.set kp (.lst [.int c5]) ++ [.lst (J.map jD)])) := by
            unfold bO e2
            rw [bnd_assoc, bnd_val e5]
            simp only [eC, bnd_rt, eq_int, asB_b]
            rfl
          unfold eIf bAnd
          by_cases h0 : i5 = 0
          · obtain ⟨K, z, rfl⟩ : ∃ K z, J = K ++ [z] := ⟨J.dropLast, J.getLast hJ, (List.dropLast_concat_getLast hJ).symm⟩
            refine ⟨c5, z, ?_, ho z (List.mem_append.mpr (.inr (List.mem_singleton.mpr rfl)))⟩
            rw [bnd_assoc, bnd_val t1, decide_eq_false hJ]
            show bnd (bO _ _) _ _ = _
            rw [bnd_val t2, decide_eq_true h0, if_pos rfl]
            show bnd (rt (M.obj h.length)) (fun x => bnd (rt (M.d (.int (-1)))) fun y => oIx x y) _ = _
            simp only [bnd_rt]
            refine ix_cell (lc c5 _) ?_
            rw [List.map_append]
            exact atI_last
          · refine ⟨c5, x, ?_, okx⟩
            rw [bnd_assoc, bnd_val t1, decide_eq_false hJ]
            show bnd (bO _ _) _ _ = _
            rw [bnd_val t2, decide_eq_false h0, if_neg Bool.false_ne_true]
            rfl
      obtain ⟨c5, y, ea, oky⟩ := ga
      have eap := app_at (fo := eVar 2) (env := [some (.obj kp), some m, some (.obj h.length), some (.d (.int near)), some (.d (.int b)), some (.d (jD x))]) rfl (lc c4 _) ea (lc c5 _) (by rw [List.length_map]; show _ < 16777216; omega)
      have ls := last_set (h := h.set kp (.lst [.int c5])) (c := .lst (J.map jD)) (c' := .lst (J.map jD ++ [jD y]))
      rw [List.length_set] at ls
      rw [ls] at eap
      refine ⟨_, _, _, rfl, (seq_nx (set_val (p := .nm 4) eb rfl)).trans ((seq_nx (set_val (p := .nm 5) ej rfl)).trans (exp_val eap)), c5, J ++ [y], _, _, _, rfl, by rw [List.map_append]; rfl, by rw [List.length_append, hl]; rfl, okJs_snoc ho oky⟩)
  rw [List.length_map, len_rngL, Nat.zero_add] at hl
  have ls := last_set (h := h.set kp (.lst [.int c])) (c := .lst (J.map jD)) (c' := .dead)
  have la := last_at (h := h.set kp (.lst [.int c])) (c := .lst (J.map jD))
  rw [List.length_set] at ls la
  have ef : eFrz (eVar 2) [some (.obj kp), v1, some (.obj h.length), some (.d (.int near)), v4, v5] (h.set kp (.lst [.int c]) ++ [.lst (J.map jD)]) = some (.val (.d (jsD J)) (h.set kp (.lst [.int c]) ++ [.dead])) := by
    have v : eVar 2 [some (.obj kp), v1, some (.obj h.length), some (.d (.int near)), v4, v5] = rt (.obj h.length) := rfl
    unfold eFrz
    rw [v, bnd_rt]
    simp only [frzM, la, ls]
    rfl
  refine ⟨_, c, ?_, J, rfl, ⟨by omega, ho⟩⟩
  refine mkFnS_0 (l := [.dead]) (mkFn_val (n := 6) (g := b__law_jobs) (env' := [some (.obj kp), v1, some (.obj h.length), some (.d (.int near)), v4, v5]) ?_) (by rw [List.length_set]) (hp.set c).flat
  show b__law_jobs [some (.obj kp), none, none, none, none, none] h = _
  unfold b__law_jobs
  refine (seq_nx sp).trans ?_
  refine (seq_nx ((for_vals eit).trans el)).trans ?_
  exact ret_val ef
end Q

/-! law k73: what is drawn -/
namespace Q
open PySem PySem.Spec L2 G PySem.W
abbrev Ex (P : PyData → Prop) (n : Nat) (ds : List PyData) : Prop := ds.length = n ∧ ∀ x ∈ ds, P x
theorem Ex.cons {P : PyData → Prop} {n : Nat} {x : PyData} {xs : List PyData} (p : P x) (h : Ex P n xs) : Ex P (n + 1) (x :: xs) := ⟨by rw [List.length_cons, h.1], fun y hy => by
  rcases List.mem_cons.mp hy with rfl | hy
  · exact p
  · exact h.2 y hy⟩
abbrev P1 : PyData → Prop := Bd BIG 2 7000
abbrev Tz : PyData → Prop := Bd B3 10 4000000
theorem job_p1 {x : Job} (ok : OkJ x) : P1 (jD x) := by
  have := ok.a; have := ok.lt; have := ok.b
  exact (bd_tup (bdl_cons (bd_sm (i := x.1) (by omega)) (bdl_cons (bd_sm (i := x.2) (by omega)) bdl_nil))).mono (Nat.le_refl _) (by decide) (by decide)
theorem bdlB {B k n m : Nat} : ∀ {xs : List PyData}, (∀ x ∈ xs, Bd B k n x) → xs.length ≤ m → BdL B k ((n + 2) * m) xs
  | [], _, _ => bdl_nil.mono (Nat.le_refl _) (Nat.le_refl _) (Nat.zero_le _)
  | x :: xs, h, hl => by
    rw [List.length_cons] at hl
    obtain ⟨m, rfl⟩ : ∃ k, m = k + 1 := ⟨m - 1, by omega⟩
    have ih := bdlB (B := B) (k := k) (n := n) (m := m) (xs := xs) (fun y hy => h y (List.mem_cons_of_mem _ hy)) (by omega)
    refine (bdl_cons (h x (List.mem_cons_self ..)) ih).mono (Nat.le_refl _) (Nat.le_refl _) ?_
    rw [Nat.mul_succ]
    omega
theorem tz_list {ds : List PyData} {n : Nat} (a : Al P1 n ds) (hn : n ≤ 400) : Tz (.list ds) := (bd_list (bdlB a.2 (m := 400) (by have := a.1; omega))).mono BIG_le (by decide) (by decide)
theorem tz_tup {ds : List PyData} {n : Nat} (a : Al P1 n ds) (hn : n ≤ 400) : Tz (.tuple ds) := (bd_tup (bdlB a.2 (m := 400) (by have := a.1; omega))).mono BIG_le (by decide) (by decide)
theorem tz_dict {x : PyData} (b : Bd B3 9 3900000 x) : Tz (.dict [(.int 0, x)]) := by
  refine ⟨?_, ?_, ?_⟩
  · simp only [okD, okK, b.ok]
    decide
  · have := b.dep
    simp only [PyData.depth, PyData.depthKv, PyData.depth]
    omega
  · have := b.sz
    simp only [zD, zK]
    omega
theorem tz_p1 {x : PyData} (b : P1 x) : Tz x := b.mono BIG_le (by decide) (by decide)
theorem p1_narrow {x : PyData} (b : P1 x) : ∀ a ts, x = .tuple [a, .tuple ts] → ts.length < 16777216 := by
  rintro a ts rfl
  have := b.sz
  simp only [zD, zL] at this
  have := zL_len ts
  omega
theorem al_jobs {J : List Job} (h : OkJs J) : Al P1 12 (J.map jD) := ⟨by rw [List.length_map]; exact h.len, fun x hx => by
  obtain ⟨y, hy, rfl⟩ := List.mem_map.mp hx
  exact job_p1 (h.all y hy)⟩
def OL1 : List PyData := [.tuple [.int 0, .int 1], .tuple [.int 9998, .int 9999], .tuple [.int 9999, .int 9999], .tuple [.int 9999, .int 10000], .tuple [.int (-1), .int 3], .tuple [.int 5, .int 5], .tuple [.int 6, .int 5], .tuple [.int 0, .int 9999], .tuple [.int 0, .int 10000]]
def OL2 : List PyData := [.tuple [.int 3], .tuple [.int 3, .int 4, .int 5], .list [.int 3, .int 4], .tuple [.bool true, .int 4], .tuple [.int 0, .bool true], .tuple [.none, .int 4], .tuple [.int 3, .str "4"], .tuple [.int 3, .int (10 ^ 30)], .none]
theorem ol1 : Al P1 9 OL1 := ⟨by decide, by
  intro x hx
  simp only [OL1, List.mem_cons, List.not_mem_nil, or_false] at hx
  rcases hx with h | h | h | h | h | h | h | h | h <;> subst h <;> exact ⟨by decide +kernel, by decide +kernel, by decide +kernel⟩⟩
theorem ol2 : Al P1 9 OL2 := ⟨by decide, by
  intro x hx
  simp only [OL2, List.mem_cons, List.not_mem_nil, or_false] at hx
  rcases hx with h | h | h | h | h | h | h | h | h <;> subst h <;> exact ⟨by decide +kernel, by decide +kernel, by decide +kernel⟩⟩
theorem rep_is {f : ES} {env : G.Env} {xs : List PyData} {j : Nat} (e : f env = rt (.d (.list xs))) (hl : xs.length * j ≤ 1000) (hj : j ≤ 1000) : eVal (nRep f (eC (.int (j : Int)))) env = rt (.d (.list (List.replicate j xs).flatten)) := by
  refine val_of ?_
  unfold nRep
  rw [e, bnd_rt]
  show bnd (rt _) _ = _
  rw [bnd_rt]
  funext h
  have : opRep h (.d (.list xs)) (.d (.int (j : Int))) = some ((List.replicate j xs).flatten.map M.d) := by
    simp only [opRep, lstM]
    rw [if_pos, List.map_flatten, List.map_replicate, Int.toNat_natCast]
    rw [Bool.and_eq_true, Bool.and_eq_true, decide_eq_true_eq, decide_eq_true_eq, decide_eq_true_eq, List.length_map, Int.toNat_natCast]
    refine ⟨⟨by omega, by omega⟩, ?_⟩
    show xs.length * j ≤ 16777216
    omega
  rw [this]
  rfl
theorem Al.rep {P : PyData → Prop} {m : Nat} {xs : List PyData} (a : Al P m xs) : ∀ j : Nat, Al P (j * m) (List.replicate j xs).flatten
  | 0 => ⟨by simp, fun x hx => by simp at hx⟩
  | j + 1 => by
    rw [List.replicate_succ, List.flatten_cons, Nat.succ_mul, Nat.add_comm]
    exact a.app (Al.rep a j)
theorem Al.cut {P : PyData → Prop} {m : Nat} {xs : List PyData} (a : Al P m xs) (l u : Option Int) : Al P m (cutG xs l u) := by
  unfold cutG
  refine ⟨Nat.le_trans (List.length_take_le' ..) (by rw [List.length_drop]; have := a.1; omega), fun x hx => a.2 x (List.mem_of_mem_drop (List.mem_of_mem_take hx))⟩
section
variable {kp : Nat} {h : Hh} {es : Ls} {env : G.Env} {P : PyData → Prop} {n : Nat}
theorem mr_cut {f : ES} {lo hi : Option ES} {l u : Option Int} (hf : Mr kp h es (f env) (fun m => ∃ ds, m = .d (.list ds) ∧ Al P n ds)) (hlo : oPart lo env = rt l) (hhi : oPart hi env = rt u) : Mr kp h es (eSl f lo hi env) (fun m => ∃ ds, m = .d (.list ds) ∧ Al P n ds) := by
  unfold eSl
  refine Mr.bnd hf fun m ⟨ds, e, a⟩ => ?_
  subst e
  have := slice_l (f := fun _ => rt (.d (.list ds))) (env := env) rfl hlo hhi
  unfold eSl at this
  rw [bnd_rt] at this
  exact Mu.all this ⟨rfl, _, rfl, a.cut l u⟩
theorem ex_cons {f : ES} {fs : G.Env → Sm (List M)} (hf : Mr kp h es (f env) (DatM P)) (hs : Mr kp h es (fs env) (DatL (Ex P n))) : Mr kp h es (aCons f fs env) (DatL (Ex P (n + 1))) := mr_consD hf hs fun _ _ px g => g.cons px
theorem ex_nil : Mr kp h es (aNil env) (DatL (Ex P 0)) := mr_nilD ⟨rfl, fun _ h => by cases h⟩
theorem gx_cons {f : ES} {fs : G.Env → Sm (List M)} (hf : Gen kp (f env) (DatM P)) (hs : Gen kp (fs env) (DatL (Ex P n))) : Gen kp (aCons f fs env) (DatL (Ex P (n + 1))) := gen_consM hf hs fun _ _ px g => g.cons px
end
theorem ne_3 {f g : ES} {env : G.Env} {s : Str} (hs : s = "" ∨ s = "rest" ∨ s = "jobs") (h : f env = rt (.d (.list [.str s, .str s, .str s]))) (h2 : g env = rt (.d (.list [.str s, .str s, .str s]))) : bO (e2 oNe f g) env = rt false := by
  refine bO_rt ?_
  simp only [e2, h, h2, bnd_rt]
  have la : (PyData.list [.str s, .str s, .str s]).canLay0 = true := by rcases hs with rfl | rfl | rfl <;> decide +kernel
  have := ne_D (α := List Str) (a := [s, s, s]) (b := [s, s, s]) la la (by decide)
  rw [decide_eq_true rfl] at this
  exact this
theorem due_in {x r : PyData} : dueW x r = "" ∨ dueW x r = "rest" ∨ dueW x r = "jobs" := by
  unfold dueW
  cases jobsB x <;> cases wB 0 200 r <;> simp
theorem three_of {s : Str} {ds : List PyData} (h : Ex (fun x => x = .str s) 3 ds) : ds = [.str s, .str s, .str s] := by
  match ds, h with
  | [a, b, c], ⟨_, h⟩ =>
    rw [h a (by simp), h b (by simp), h c (by simp)]
  | [], ⟨h, _⟩ => cases h
  | [_], ⟨h, _⟩ => cases h
  | [_, _], ⟨h, _⟩ => cases h
  | _ :: _ :: _ :: _ :: _, ⟨h, _⟩ => simp at h
end Q

/-! law k73 -/
namespace Q
open PySem PySem.Spec L2 G PySem.W
abbrev E73 (ns : List Int) (k : Int) (kp : Nat) (v3 v4 v5 v6 v7 v8 v9 v10 v11 v12 v13 v14 v15 v16 : Option M) : G.Env := [some (.scr ns), some (.d (.int k)), some (.obj kp), v3, v4, v5, v6, v7, v8, v9, v10, v11, v12, v13, v14, v15, v16]
section
variable {kp : Nat} {h : Hh}
/-- what is told, thrice -/
theorem told3 {es : Ls} {ns : List Int} {k : Int} {x r t : PyData} {v3 v4 v5 v6 v7 v8 v12 v13 v14 v15 v16 : Option M} (hp : PotAt kp h) (ht : P1 t) : Mr kp h es (eVal (nComp (iRng1F (aCons (eC (.int 3)) aNil)) (.nm 16) bYes (eCall 4 m__law_told (aCons (eVar 16) (aCons (eVar 9) (aCons (eVar 11) (aCons (eVar 10) aNil))))) [16]) (E73 ns k kp v3 v4 v5 v6 v7 v8 (some (.d x)) (some (.d t)) (some (.d r)) v12 v13 v14 v15 v16)) (fun m => m = .d (.list [.str (dueW x r), .str (dueW x r), .str (dueW x r)])) := by
  refine Mr.mono (mr_val (P := Ex (fun y => y = .str (dueW x r)) 3) ?_) fun m ⟨ds, e, hd⟩ => by rw [e, three_of hd]
  rw [comp_rt (rng1F (n := 3) rfl (by decide)) (by decide)]
  refine Mr.mono (mr_compN (P := fun y => y = .str (dueW x r)) ((rngL 0 3).map fun i => M.d (.int i)) [] (fun _ h => by cases h) fun m hm => ?_) fun m ⟨ds, e, hl, hd⟩ => ⟨ds, e, by rw [hl]; rfl, hd⟩
  obtain ⟨w, hw, rfl⟩ := List.mem_map.mp hm
  rw [mem_rngL] at hw
  refine ⟨E73 ns k kp v3 v4 v5 v6 v7 v8 (some (.d x)) (some (.d t)) (some (.d r)) v12 v13 v14 v15 (some (.d (.int w))), rfl, ?_⟩
  exact Mu.get (a := .d (.str (dueW x r))) (es' := es) (fun c => call_val (ms := [.d (.int w), .d x, .d r, .d t]) rfl rfl (told_H (by omega) (by omega) (Mt.pot hp).flat (p1_narrow ht))) ⟨rfl, _, rfl, rfl⟩
theorem law4 {es : Ls} {ns : List Int} {k : Int} {x r t : PyData} {v3 v4 v5 v6 v7 v8 v12 v14 v15 v16 : Option M} (hp : PotAt kp h) (hx : Tz x) (ht : P1 t) : Mu kp h es (b_law_4 (E73 ns k kp v3 v4 v5 v6 v7 v8 (some (.d x)) (some (.d t)) (some (.d r)) v12 (some (.d (.str x.shown))) v14 v15 v16)) fun res es' => res.1 = .nx ∧ ∃ v14 v15 v16, res.2 = E73 ns k kp v3 v4 v5 v6 v7 v8 (some (.d x)) (some (.d t)) (some (.d r)) v12 (some (.d (.str x.shown))) v14 v15 v16 ∧ es' = es := by
  unfold b_law_4
  refine mu_set (P := fun m => m = .d (.str "jobs")) (Mu.all (a := .d (.str "jobs")) rfl ⟨rfl, rfl⟩) ?_
  rintro _ rfl
  refine mu_at (env' := E73 ns k kp v3 v4 v5 v6 v7 v8 (some (.d x)) (some (.d t)) (some (.d r)) v12 (some (.d (.str x.shown))) (some (.d (.str "jobs"))) v15 v16) ?_
  have tt : bO (eCall 1 m__law_are_jobs (aCons (eVar 9) aNil)) (E73 ns k kp v3 v4 v5 v6 v7 v8 (some (.d x)) (some (.d t)) (some (.d r)) v12 (some (.d (.str x.shown))) (some (.d (.str "jobs"))) v15 v16) = rt (jobsB x) := bO_rt (call1 (g := eVar 9) rfl (are_jobs_x x))
  have es1 : sIf (bO (eCall 1 m__law_are_jobs (aCons (eVar 9) aNil))) (sSet (.nm 14) (eIf (bO (eCall 3 m__law_within (aCons (eVar 11) (aCons (eC (.int 0)) (aCons (eC (.int 200)) aNil))))) (eC (.str "")) (eC (.str "rest")))) sNil (E73 ns k kp v3 v4 v5 v6 v7 v8 (some (.d x)) (some (.d t)) (some (.d r)) v12 (some (.d (.str x.shown))) (some (.d (.str "jobs"))) v15 v16) = rt (.nx, E73 ns k kp v3 v4 v5 v6 v7 v8 (some (.d x)) (some (.d t)) (some (.d r)) v12 (some (.d (.str x.shown))) (some (.d (.str (dueW x r)))) v15 v16) := by
    cases hb : jobsB x with
    | false =>
      rw [hb] at tt
      have : dueW x r = "jobs" := by unfold dueW; rw [hb]; rfl
      rw [this]
      exact if_nil tt
    | true =>
      rw [hb] at tt
      have : dueW x r = (if wB 0 200 r = true then ("" : Str) else ("rest" : Str)) := by unfold dueW; rw [hb]; rfl
      rw [this, if_T tt]
      refine set_rt (m := .d (.str (if wB 0 200 r = true then "" else "rest"))) ?_ rfl
      unfold eIf
      rw [bO_rt (call_lw_x (f := eVar 11) (x := r) rfl), bnd_rt]
      cases wB 0 200 r <;> rfl
  refine mu_nx (A := fun env' es' => env' = E73 ns k kp v3 v4 v5 v6 v7 v8 (some (.d x)) (some (.d t)) (some (.d r)) v12 (some (.d (.str x.shown))) (some (.d (.str (dueW x r)))) v15 v16 ∧ es' = es) (Mu.all es1 ⟨rfl, rfl, rfl⟩) ?_
  rintro _ _ ⟨rfl, rfl⟩
  refine mu_set (told3 hp ht) ?_
  rintro _ rfl
  refine mu_at (env' := E73 ns k kp v3 v4 v5 v6 v7 v8 (some (.d x)) (some (.d t)) (some (.d r)) v12 (some (.d (.str x.shown))) (some (.d (.str (dueW x r)))) (some (.d (.list [.str (dueW x r), .str (dueW x r), .str (dueW x r)]))) v16) ?_
  exact mu_ifN (Mu.all (bOr_f (ne_3 due_in (var_rt rfl) (rep_is (j := 3) (xs := [.str (dueW x r)]) rfl (by show 1 * 3 ≤ 1000; decide) (by decide))) (ne_same (repr_is (var_rt rfl) hx big_lt (by decide) (by decide)) (var_rt rfl))) ⟨rfl, rfl⟩) ⟨rfl, _, _, _, rfl, rfl⟩
theorem law3 {es : Ls} {ns : List Int} {k : Int} {x : PyData} {rs : List PyData} {v3 v4 v5 v6 v7 v10 v11 v12 v13 v14 v15 v16 : Option M} (hp : PotAt kp h) (hx : Tz x) (hr : Ex P1 13 rs) : Mu kp h es (b_law_3 (E73 ns k kp v3 v4 v5 v6 v7 (some (.d (.list rs))) (some (.d x)) v10 v11 v12 v13 v14 v15 v16)) fun res es' => res.1 = .nx ∧ ∃ v10 v11 v12 v13 v14 v15 v16, res.2 = E73 ns k kp v3 v4 v5 v6 v7 (some (.d (.list rs))) (some (.d x)) v10 v11 v12 v13 v14 v15 v16 ∧ es' = es := by
  unfold b_law_3
  refine mu_par (A := DatM P1) (B := fun m => m = .d (.str x.shown)) (Mr.gen hp (gen_pickD (ds := rs) rfl ((drawC (i := 2) (n := 13) rfl (by decide) (by decide)).mono fun m h => by rw [hr.1]; exact h) hr.2)) (Mu.all (repr_is (var_rt rfl) hx big_lt (by decide) (by decide)) ⟨rfl, rfl⟩) ?_
  rintro _ _ ⟨r, rfl, pr⟩ rfl
  refine mu_at (env' := E73 ns k kp v3 v4 v5 v6 v7 (some (.d (.list rs))) (some (.d x)) v10 v11 (some (.d r)) (some (.d (.str x.shown))) v14 v15 v16) ?_
  refine mu_set (P := DatM P1) (Mr.gen hp (gen_pickG (n := 4) (P := P1) (gx_cons (Gen.all (a := .d (.list [])) rfl ⟨_, rfl, ⟨by decide +kernel, by decide +kernel, by decide +kernel⟩⟩) (gx_cons (Gen.all (a := .d (.tuple [.int 0, .tuple [.int 0]])) rfl ⟨_, rfl, ⟨by decide +kernel, by decide +kernel, by decide +kernel⟩⟩) (gx_cons (Gen.all (a := .d .none) rfl ⟨_, rfl, ⟨by decide +kernel, by decide +kernel, by decide +kernel⟩⟩) (gx_cons ((call1_gen (n := 0) (i := 2) rfl oddM_gen).mono fun m ⟨x, e, hx⟩ => ⟨x, e, (odd_bd x hx).mono (Nat.le_refl _) (Nat.le_refl _) (by decide)⟩) (gen_nilM ⟨rfl, fun _ h => by cases h⟩))))) (by decide) (drawC (i := 2) (n := 4) rfl (by decide) (by decide)))) ?_
  rintro _ ⟨t, rfl, pt⟩
  refine mu_at (env' := E73 ns k kp v3 v4 v5 v6 v7 (some (.d (.list rs))) (some (.d x)) (some (.d t)) v11 (some (.d r)) (some (.d (.str x.shown))) v14 v15 v16) ?_
  refine (mu_forA (ds := [r, .int 9]) (fun env' es' => ∃ v11 v14 v15 v16, env' = E73 ns k kp v3 v4 v5 v6 v7 (some (.d (.list rs))) (some (.d x)) (some (.d t)) v11 (some (.d r)) (some (.d (.str x.shown))) v14 v15 v16 ∧ es' = es) (seqF_t (two_t rfl rfl)) ⟨v11, v14, v15, v16, rfl, rfl⟩ ?_).mono fun r' o' ⟨a, v11, v14, v15, v16, e1, e2⟩ => ⟨a, _, _, _, _, _, _, _, e1, e2⟩
  rintro y hy env o ⟨v11, v14, v15, v16, rfl, rfl⟩
  exact ⟨_, rfl, (law4 hp hx pt).mono fun r' o' ⟨a, v14, v15, v16, e1, e2⟩ => ⟨a, _, v14, v15, v16, e1, e2⟩⟩
end
theorem tz_jobs {J : List Job} (hJ : OkJs J) : Bd B3 9 3900000 (jsD J) := (bd_list (bdlB (al_jobs hJ).2 (m := 400) (by have := (al_jobs hJ).1; omega))).mono BIG_le (by decide) (by decide)
theorem tz_nil : Tz (.list []) := ⟨by decide +kernel, by decide +kernel, by decide +kernel⟩
theorem p1_dec {x : PyData} (h : okD BIG x = true) (h2 : x.depth ≤ 2) (h3 : zD x ≤ 7000) : P1 x := ⟨h, h2, h3⟩
theorem p1_int {i : Int} (h : i.natAbs ≤ 1000000) : P1 (.int i) := (bd_sm h).mono (Nat.le_refl _) (by decide) (by decide)
theorem law_ok (ns : List Int) (hl : ns.length ≤ 63) : ∀ {K : PySem.W.Frag}, ∀ H : Hp, Only H → ∀ a, SqL K H a (ns.map V.int) → sp0 K 1 m_law [.ref a] H (fun v _ => v = .bl true) fun _ _ _ => False := by
  refine law_by (n := 14) (N := 8) (by decide) (by decide) rfl rfl rfl ?_ ns hl
  intro ns k h kp vs hk hvs hp
  match vs, hvs with
  | [v3, v4, v5, v6, v7, v8, v9, v10, v11, v12, v13, v14, v15, v16], _ =>
  refine mu_set (Mr.gen hp (call1_gen (n := 0) (i := 2) rfl jobs_gen)) ?_
  rintro _ ⟨J, rfl, hJ⟩
  have hJl := hJ.len
  refine mu_at (env' := E73 ns k kp (some (.d (jsD J))) v4 v5 v6 v7 v8 v9 v10 v11 v12 v13 v14 v15 v16) ?_
  refine mu_set (P := IntIn 0 J.length) (Mr.mono (Mr.gen hp (draw (i := 2) (a := (J.length : Int) + 1) (b := (J.length : Int) + 1) rfl (Gen.all (a := .d (.int ((J.length : Int) + 1))) (add_is (len_js (J := J) (i := 3) rfl) rfl) ⟨_, rfl, Int.le_refl _, Int.le_refl _⟩) (by omega) (by omega))) fun m h => h.mono (Int.le_refl _) (by omega)) ?_
  rintro _ ⟨q, rfl, q0, q1⟩
  refine mu_at (env' := E73 ns k kp (some (.d (jsD J))) (some (.d (.int q))) v5 v6 v7 v8 v9 v10 v11 v12 v13 v14 v15 v16) ?_
  have aJ := al_jobs hJ
  have odd : ∀ {es : Ls} {v5 v6 v7 v8 v9 v10 v11 v12 v13 v14 v15 v16 : Option M}, Mr kp h es (eCall 1 m__law_odd (aCons (eVar 2) aNil) (E73 ns k kp (some (.d (jsD J))) (some (.d (.int q))) v5 v6 v7 v8 v9 v10 v11 v12 v13 v14 v15 v16)) (DatM P1) := fun {es v5 v6 v7 v8 v9 v10 v11 v12 v13 v14 v15 v16} => Mr.mono (Mr.gen hp (call1_gen (n := 0) (i := 2) rfl oddM_gen)) fun m ⟨x, e, hx⟩ => ⟨x, e, (odd_bd x hx).mono (Nat.le_refl _) (Nat.le_refl _) (by decide)⟩
  have rep : eVal (nRep (eVar 3) (eC (.int 13))) (E73 ns k kp (some (.d (jsD J))) (some (.d (.int q))) v5 v6 v7 v8 v9 v10 v11 v12 v13 v14 v15 v16) = rt (.d (.list (List.replicate 13 (J.map jD)).flatten)) := rep_is (j := 13) (xs := J.map jD) rfl (by rw [List.length_map]; omega) (by decide)
  have repO : eVal (nRep (eVal (nLst (aCons (eTup (aCons (eC (.int 0)) (aCons (eC (.int 1)) aNil))) aNil))) (eC (.int 13))) (E73 ns k kp (some (.d (jsD J))) (some (.d (.int q))) v5 v6 v7 v8 v9 v10 v11 v12 v13 v14 v15 v16) = rt (.d (.list (List.replicate 13 [PyData.tuple [.int 0, .int 1]]).flatten)) := rep_is (j := 13) (xs := [.tuple [.int 0, .int 1]]) rfl (by decide) (by decide)
  have a01 : Al P1 1 [PyData.tuple [.int 0, .int 1]] := Al.one (p1_dec (by decide +kernel) (by decide +kernel) (by decide +kernel))
  refine mu_setM (mu_cell (P := Al Tz 7) (mr_lst (Mr.mono (al_cons (al_is (x := jsD J) rfl (tz_list aJ (by decide))) (al_cons (Mr.mono (mr_cut (u := some 12) (al_known rep (aJ.rep 13)) rfl (part_is rfl)) fun m ⟨ds, e, a⟩ => ⟨_, e, tz_list a (by decide)⟩) (al_cons (Mr.mono (mr_cut (u := some 13) (al_add (al_known rep (aJ.rep 13)) (al_known repO (a01.rep 13))) rfl (part_is rfl)) fun m ⟨ds, e, a⟩ => ⟨_, e, tz_list a (by decide)⟩) (al_cons (al_is (x := .tuple (J.map jD)) (tup_l rfl) (tz_tup aJ (by decide))) (al_cons (al_is (x := .dict [(.int 0, jsD J)]) rfl (tz_dict (tz_jobs hJ))) (al_cons (Mr.mono odd fun m ⟨x, e, p⟩ => ⟨x, e, tz_p1 p⟩) (al_cons (al_is (x := .list []) rfl tz_nil) al_nil))))))) fun ms ⟨ds, e, g⟩ => ⟨ds, e, by have := g.1; omega, g⟩)) (Q := fun m es' => ∃ ds, Al Tz 7 ds ∧ m = .obj (h.length + 0) ∧ es' = [some ds]) fun ds hd => ⟨ds, hd, rfl, rfl⟩) ?_
  rintro _ _ ⟨ds, hds, rfl, rfl⟩
  refine mu_at (env' := E73 ns k kp (some (.d (jsD J))) (some (.d (.int q))) (some (.obj (h.length + 0))) v6 v7 v8 v9 v10 v11 v12 v13 v14 v15 v16) ?_
  refine mu_set (P := fun m => m = .d (.list OL1)) (Mu.all (a := .d (.list OL1)) rfl ⟨rfl, rfl⟩) ?_
  rintro _ rfl
  refine mu_at (env' := E73 ns k kp (some (.d (jsD J))) (some (.d (.int q))) (some (.obj (h.length + 0))) (some (.d (.list OL1))) v7 v8 v9 v10 v11 v12 v13 v14 v15 v16) ?_
  refine mu_set (al_add (al_known rfl ol1) (al_known (ds := OL2) rfl ol2)) ?_
  rintro _ ⟨os, rfl, hos⟩
  refine mu_at (env' := E73 ns k kp (some (.d (jsD J))) (some (.d (.int q))) (some (.obj (h.length + 0))) (some (.d (.list os))) v7 v8 v9 v10 v11 v12 v13 v14 v15 v16) ?_
  refine mu_nx (A := fun env' es' => ∃ v7 ds, Al Tz 40 ds ∧ env' = E73 ns k kp (some (.d (jsD J))) (some (.d (.int q))) (some (.obj (h.length + 0))) (some (.d (.list os))) v7 v8 v9 v10 v11 v12 v13 v14 v15 v16 ∧ es' = [some ds]) ((mu_for (I := fun i env' es' => ∃ v7 ds, Al Tz (7 + i) ds ∧ env' = E73 ns k kp (some (.d (jsD J))) (some (.d (.int q))) (some (.obj (h.length + 0))) (some (.d (.list os))) v7 v8 v9 v10 v11 v12 v13 v14 v15 v16 ∧ es' = [some ds]) (seq_mr (al_add (al_known rfl hos) (al_lst (al_cons odd al_nil)))) ⟨v7, ds, hds, rfl, rfl⟩ ?_).mono ?_) ?_
  · rintro _ ⟨ys, rfl, hys⟩ i m hm env o ⟨v7, ds, hd, rfl, rfl⟩
    rw [List.getElem?_map] at hm
    cases hx : ys[i]? with
    | none => rw [hx] at hm; cases hm
    | some x =>
      rw [hx] at hm
      cases hm
      have hi : i < 19 := by
        have := (List.getElem?_eq_some_iff.mp hx).1
        have := hys.1
        omega
      have px := hys.2 x (List.mem_of_getElem? hx)
      refine ⟨E73 ns k kp (some (.d (jsD J))) (some (.d (.int q))) (some (.obj (h.length + 0))) (some (.d (.list os))) (some (.d x)) v8 v9 v10 v11 v12 v13 v14 v15 v16, rfl, ?_⟩
      unfold b_law_2
      refine mu_app (i := 5) (j := 0) (ds := ds) (P := Tz) rfl rfl (by have := hd.1; omega) (Mr.mono (mr_cut (u := some 12) (al_add (al_add (mr_cut (u := some q) (al_known (ds := J.map jD) rfl aJ) rfl (part_is rfl)) (al_lst (al_cons (al_is (x := x) rfl px) al_nil))) (mr_cut (l := some (q + 1)) (al_known (ds := J.map jD) rfl aJ) (part_is (add_is rfl rfl)) rfl)) rfl (part_is rfl)) fun m ⟨zs, e, a⟩ => ⟨_, e, tz_list a (by decide)⟩) fun y hy => ⟨rfl, some (.d x), ds ++ [y], ?_, rfl, rfl⟩
      exact hd.app (Al.one hy)
  · rintro r o' ⟨a, xs, ⟨ys, rfl, hys⟩, v7, ds, hd, e1, e2⟩
    refine ⟨a, v7, ds, hd.mono ?_ fun _ h => h, e1, e2⟩
    rw [List.length_map]
    have := hys.1
    omega
  rintro _ _ ⟨v7, ds, hds, rfl, rfl⟩
  refine mu_set (P := fun m => ∃ rs, m = .d (.list rs) ∧ Ex P1 13 rs) (mr_val (mr_lst (Mr.mono (ex_cons (al_is (x := .int 0) rfl (p1_int (by decide))) (ex_cons (al_is (x := .int 1) rfl (p1_int (by decide))) (ex_cons (al_is (x := .int 200) rfl (p1_int (by decide))) (ex_cons (al_is (x := .int 201) rfl (p1_int (by decide))) (ex_cons (al_is (x := .int (-1)) rfl (p1_int (by decide))) (ex_cons (al_is (x := .bool true) rfl (p1_dec (by decide +kernel) (by decide +kernel) (by decide +kernel))) (ex_cons (al_is (x := .none) rfl (p1_dec (by decide +kernel) (by decide +kernel) (by decide +kernel))) (ex_cons (al_is (x := .str "1") rfl (p1_dec (by decide +kernel) (by decide +kernel) (by decide +kernel))) (ex_cons (al_is (x := .int (10 ^ 30)) rfl (p1_dec (by decide +kernel) (by decide +kernel) (by decide +kernel))) (ex_cons (al_is (x := .tuple [.int 1]) rfl (p1_dec (by decide +kernel) (by decide +kernel) (by decide +kernel))) (ex_cons (al_is (x := .list [.int 1]) rfl (p1_dec (by decide +kernel) (by decide +kernel) (by decide +kernel))) (ex_cons (Mr.mono (Mr.gen hp (add_int (i := 1) rfl (drawC (i := 2) (n := 200) rfl (by decide) (by decide)))) fun m ⟨i, e, i0, i1⟩ => ⟨_, e, p1_int (by omega)⟩) (ex_cons odd ex_nil))))))))))))) fun ms ⟨ds, e, g⟩ => ⟨ds, e, by rw [g.1]; decide, g⟩))) ?_
  rintro _ ⟨rs, rfl, hrs⟩
  refine mu_at (env' := E73 ns k kp (some (.d (jsD J))) (some (.d (.int q))) (some (.obj (h.length + 0))) (some (.d (.list os))) v7 (some (.d (.list rs))) v9 v10 v11 v12 v13 v14 v15 v16) ?_
  refine (mu_forO (fun _ env' es' => ∃ v9 v10 v11 v12 v13 v14 v15 v16, env' = E73 ns k kp (some (.d (jsD J))) (some (.d (.int q))) (some (.obj (h.length + 0))) (some (.d (.list os))) v7 (some (.d (.list rs))) v9 v10 v11 v12 v13 v14 v15 v16 ∧ es' = [some ds]) (i := 5) (j := 0) (ds := ds) rfl ⟨v9, v10, v11, v12, v13, v14, v15, v16, rfl, rfl⟩ (fun _ _ es' ⟨_, _, _, _, _, _, _, _, _, e⟩ => by rw [e]; rfl) ?_).mono fun r o' ⟨a, v9, v10, v11, v12, v13, v14, v15, v16, e1, e2⟩ => ⟨a, _, (by rfl : [some (M.d (jsD J)), some (.d (.int q)), some (.obj (h.length + 0)), some (.d (.list os)), v7, some (.d (.list rs)), v9, v10, v11, v12, v13, v14, v15, v16].length = 14), e1⟩
  rintro n y hy env o ⟨v9, v10, v11, v12, v13, v14, v15, v16, rfl, rfl⟩
  refine ⟨E73 ns k kp (some (.d (jsD J))) (some (.d (.int q))) (some (.obj (h.length + 0))) (some (.d (.list os))) v7 (some (.d (.list rs))) (some (.d y)) v10 v11 v12 v13 v14 v15 v16, rfl, ?_⟩
  exact (law3 hp (hds.2 y (List.mem_of_getElem? hy)) hrs).mono fun r o' ⟨a, v10, v11, v12, v13, v14, v15, v16, e1, e2⟩ => ⟨a, _, _, _, _, _, _, _, _, e1, e2⟩
end Q

open PySem PySem.W PyProof.Rows
set_option maxHeartbeats 0 in
theorem PySem.Challenge.cw_guidesea_k73_jobs_and_rests_refused_holds : PySem.Challenge.rw_guidesea_k73_jobs_and_rests_refused.Holds := by
  w_on; o_law; k_head; (case hw => w_witness2)
  k_fill
  refine G.walk_ofG (l := PySem.Challenge.rw_guidesea_k73_jobs_and_rests_refused) (n := 63) (k := 7) (x := "_law_script") (sp := fun w => G.sp0 _ 1 Q.m_law) rfl (by decide) rfl ⟨rfl, by decide, by decide⟩ (fun w h Y => PySem.W.kIn_of Y) ?F (fun w H a ns hl hO hS => Q.law_ok ns hl H hO a hS)
  case F =>
    intro w mg fa h KX G hmg
    refine' Q.law_fn (Q.txt_mk KX G ?a0 ?l0 ?c0 ?k0 ?a1 ?l1 ?c1 ?k1 ?a2 ?l2 ?c2 ?k2 ?a3 ?l3 ?c3 ?k3 ?a4 ?l4 ?c4 ?k4 ?a5 ?l5 ?c5 ?k5 ?a6 ?l6 ?c6 ?k6 ?a7 ?l7 ?c7 ?k7 ?a8 ?l8 ?c8 ?k8 ?a9 ?l9 ?c9 ?k9 ?a10 ?l10 ?c10 ?k10 ?a11 ?l11 ?c11 ?k11 ?a12 ?l12 ?c12 ?k12 ?a13 ?l13 ?c13 ?k13 ?a14 ?l14 ?c14 ?k14 ?a15 ?l15 ?c15 ?k15 ?a16 ?l16 ?c16 ?k16 ?a17 ?l17 ?c17 ?k17 ?a18 ?l18 ?c18 ?k18 ?a19 ?l19 ?c19 ?k19 ?a20 ?l20 ?c20 ?k20 ?a21 ?l21 ?c21 ?k21 ?a22 ?l22 ?c22 ?k22 ?u0 ?u1 ?u2 ?z0 ?z1 ?z2 ?z3 ?z4 ?z5 ?z6 ?z7 ?z8 ?z9 ?z10 ?z11 ?z12 ?z13 ?z14 ?z15 ?x0 ?x1 ?x2 ?x3 ?x4 ?x5 ?x6 ?x7 ?x8 ?x9 ?x10 ?x11 ?x12 ?x13 ?x14 ?x15 ?x16 ?x17 ?x18 ?x19 ?x20 ?yt) hmg
    (case a0 => k_is); (case l0 => k_is); (case c0 => k_is); (case k0 => k_is); (case a1 => k_is); (case l1 => k_is); (case c1 => k_is); (case k1 => k_is); (case a2 => k_is); (case l2 => k_is); (case c2 => k_is); (case k2 => k_is); (case a3 => k_is); (case l3 => k_is); (case c3 => k_is); (case k3 => k_is); (case a4 => k_is); (case l4 => k_is); (case c4 => k_is); (case k4 => k_is); (case a5 => k_is); (case l5 => k_is); (case c5 => k_is); (case k5 => k_is); (case a6 => k_is); (case l6 => k_is); (case c6 => k_is); (case k6 => k_is); (case a7 => k_is); (case l7 => k_is); (case c7 => k_is); (case k7 => k_is); (case a8 => k_is); (case l8 => k_is); (case c8 => k_is); (case k8 => k_is); (case a9 => k_is); (case l9 => k_is); (case c9 => k_is); (case k9 => k_is); (case a10 => k_is); (case l10 => k_is); (case c10 => k_is); (case k10 => k_is); (case a11 => k_is); (case l11 => k_is); (case c11 => k_is); (case k11 => k_is); (case a12 => k_is); (case l12 => k_is); (case c12 => k_is); (case k12 => k_is); (case a13 => k_is); (case l13 => k_is); (case c13 => k_is); (case k13 => k_is); (case a14 => k_is); (case l14 => k_is); (case c14 => k_is); (case k14 => k_is); (case a15 => k_is); (case l15 => k_is); (case c15 => k_is); (case k15 => k_is); (case a16 => k_is); (case l16 => k_is); (case c16 => k_is); (case k16 => k_is); (case a17 => k_is); (case l17 => k_is); (case c17 => k_is); (case k17 => k_is); (case a18 => k_is); (case l18 => k_is); (case c18 => k_is); (case k18 => k_is); (case a19 => k_is); (case l19 => k_is); (case c19 => k_is); (case k19 => k_is); (case a20 => k_is); (case l20 => k_is); (case c20 => k_is); (case k20 => k_is); (case a21 => k_is); (case l21 => k_is); (case c21 => k_is); (case k21 => k_is); (case a22 => k_is); (case l22 => k_is); (case c22 => k_is); (case k22 => k_is); (case u0 => k_is); (case u1 => k_is); (case u2 => k_is); (case z0 => k_is); (case z1 => k_is); (case z2 => k_is); (case z3 => k_is); (case z4 => k_is); (case z5 => k_is); (case z6 => k_is); (case z7 => k_is); (case z8 => k_is); (case z9 => k_is); (case z10 => k_is); (case z11 => k_is); (case z12 => k_is); (case z13 => k_is); (case z14 => k_is); (case z15 => k_is); (case x0 => k_is); (case x1 => k_is); (case x2 => k_is); (case x3 => k_is); (case x4 => k_is); (case x5 => k_is); (case x6 => k_is); (case x7 => k_is); (case x8 => k_is); (case x9 => k_is); (case x10 => k_is); (case x11 => k_is); (case x12 => k_is); (case x13 => k_is); (case x14 => k_is); (case x15 => k_is); (case x16 => k_is); (case x17 => k_is); (case x18 => k_is); (case x19 => k_is); (case x20 => k_is); (case yt => kernel_rfl)

