import PyProof.Rows.All
import Wide.All
import OpenK.AllK
import Wide.FinOn
import HandS.ForMost
import HandS.Exc
import HandS.TryOnly
import HandS.ExcOwn
import HandS.WordsExc
import HandS.ExcIs
import HandS.Lambda
import HandS.Wide
import HandS.TupMul
import HandS.TupAny
import HandS.Gcd
import HandS.Star
import HandS.IsInst
import HandS.Rev
import HandS.Defaults
import PyProof.ListMulRoad
import PyProof.FactsAll.tuple_2
import PyProof.ReprRoads
import PyProof.CallFns
import HandS.Zip
import KE.KStateDown
import Lean
import HandS.Ends
import HandS.More
import HandS.Words
import HandS.Head0
import HandS.Head1
import HandS.Head2
import HandS.HeadEnd
import HandS.HeadHook1
import HandS.HeadHook2
import HandS.HeadHook3
import HandS.HeadHook4
import HandS.EndTab
import HandS.HeadWalk
import PyProof.ReprLen
import HandS.Head3
import PySem.Challenge.RW_skinswithin_k46_rings_with_lost_ones
set_option Elab.async false
set_option linter.all false
set_option maxRecDepth 100000
set_option maxHeartbeats 1000000
/-! Mi: a plain machine of values and a store of lists and dicts; programs as functions of it; each rule of the hand layer read as a rule of this machine. -/
namespace Mi
open PySem PySem.Spec PyProof.Rows L2

/-! ### values, stores, the monad -/
inductive W where
  | non | bl (b : Bool) | int (i : Int) | str (x : Str) | tup (ws : List W) | ref (l : Nat) | exc (c : Str)
inductive Ob where
  | lst (ws : List W) | frz (ws : List W) | dk (kvs : List (Key × W))
abbrev Store := List Ob
inductive Rs (A : Type) where
  | stuck | ok (a : A) (S : Store) | raise (e : W) (S : Store)
def M (A : Type) := Store → Rs A
def M.pure {A : Type} (a : A) : M A := fun S => .ok a S
def M.bind {A B : Type} (m : M A) (k : A → M B) : M B := fun S => match m S with
  | .stuck => .stuck
  | .ok a S' => k a S'
  | .raise e S' => .raise e S'
instance : Monad M where
  pure := M.pure
  bind := M.bind
def M.stuck {A : Type} : M A := fun _ => .stuck
def M.raise {A : Type} (e : W) : M A := fun S => .raise e S
theorem bind_ok {A B : Type} {m : M A} {k : A → M B} {S S' : Store} {a : A} (h : m S = .ok a S') : (m >>= k) S = k a S' := by
  show M.bind m k S = _
  unfold M.bind
  rw [h]
theorem bind_raise {A B : Type} {m : M A} {k : A → M B} {S S' : Store} {e : W} (h : m S = .raise e S') : (m >>= k) S = .raise e S' := by
  show M.bind m k S = _
  unfold M.bind
  rw [h]
theorem bind_stuck {A B : Type} {m : M A} {k : A → M B} {S : Store} (h : m S = .stuck) : (m >>= k) S = .stuck := by
  show M.bind m k S = _
  unfold M.bind
  rw [h]
theorem pure_eq {A : Type} {a : A} {S : Store} : (pure a : M A) S = .ok a S := rfl
abbrev Rho := List (Option W)

/-! ### the tables of the text -/
structure Gx where
  K : PySem.W.Frag
  mg : Str → Option Value
  tb : List (Addr × Str)
/-- an exception object that was caught, of the class cls, at a -/
def ExC (cls : Value) (a : Addr) : HO := .ext fun h => ∃ (oe : Obj) (vs : Array Value), h.get? a = some oe ∧ Zc cls none oe ∧ oe.data = .fields vs
def ExAt (G : Gx) (H : Hp) (c : Str) (a : Addr) : Prop := ∃ C, G.mg c = some (.ref C) ∧ H a = some (ExC (.ref C) a)

mutual
inductive RelW (G : Gx) (α : List Addr) (H : Hp) : W → V → Prop where
  | non : RelW G α H .non .non
  | bl (b : Bool) : RelW G α H (.bl b) (.bl b)
  | int (i : Int) : RelW G α H (.int i) (.int i)
  | str (x : Str) : RelW G α H (.str x) (.str x)
  | tup {ws : List W} {a : Addr} {vs : List V} (h : SqT G.K H a vs) (r : RelWs G α H ws vs) : RelW G α H (.tup ws) (.ref a)
  | ref {l : Nat} {a : Addr} (h : α[l]? = some a) : RelW G α H (.ref l) (.ref a)
  | exc {c : Str} {a : Addr} (h : ExAt G H c a) : RelW G α H (.exc c) (.ref a)
inductive RelWs (G : Gx) (α : List Addr) (H : Hp) : List W → List V → Prop where
  | nil : RelWs G α H [] []
  | cons {w : W} {v : V} {ws : List W} {vs : List V} (h : RelW G α H w v) (r : RelWs G α H ws vs) : RelWs G α H (w :: ws) (v :: vs)
end

/-! ### what stays -/
def Stb : HO → Bool
  | .tup _ => true
  | .frz _ _ => true
  | .ext _ => true
  | _ => false
def Le (H H' : Hp) : Prop := ∀ a o, H a = some o → Stb o = true → H' a = some o
theorem Le.refl (H : Hp) : Le H H := fun _ _ h _ => h
theorem Le.trans {H H1 H2 : Hp} (a : Le H H1) (b : Le H1 H2) : Le H H2 := fun c o h s => b c o (a c o h s) s
theorem Le.new {H : Hp} {p : Addr} {o : HO} (h : H p = none) : Le H (upd H p o) := fun a u e _ => by
  rw [upd_ne (ne_of_none e h)]
  exact e
theorem Le.put {H : Hp} {p : Addr} {o u : HO} (h : H p = some u) (hu : Stb u = false) : Le H (upd H p o) := fun a z e s => by
  have n : a ≠ p := fun q => by
    rw [q, h] at e
    cases e
    rw [hu] at s
    cases s
  rw [upd_ne n]
  exact e
theorem Le.sqT {K : PySem.W.Frag} {H H' : Hp} {a : Addr} {vs : List V} (l : Le H H') (h : SqT K H a vs) : SqT K H' a vs := by
  rcases h with (h | ⟨o, h⟩) | h
  · exact .inl (.inl (l _ _ h rfl))
  · exact .inl (.inr ⟨o, l _ _ h rfl⟩)
  · exact .inr h
theorem Le.exAt {G : Gx} {H H' : Hp} {c : Str} {a : Addr} (l : Le H H') (h : ExAt G H c a) : ExAt G H' c a := by
  obtain ⟨C, h1, h2⟩ := h
  exact ⟨C, h1, l _ _ h2 rfl⟩
theorem pre_get {α α' : List Addr} {l : Nat} {a : Addr} (p : α <+: α') (h : α[l]? = some a) : α'[l]? = some a := by
  obtain ⟨β, rfl⟩ := p
  have := (List.getElem?_eq_some_iff.mp h).1
  rw [List.getElem?_append_left this]
  exact h
section
variable {G : Gx} {α α' : List Addr} {H H' : Hp}
mutual
theorem RelW.mono (p : α <+: α') (l : Le H H') : ∀ {w : W} {v : V}, RelW G α H w v → RelW G α' H' w v
  | _, _, .non => .non
  | _, _, .bl b => .bl b
  | _, _, .int i => .int i
  | _, _, .str x => .str x
  | _, _, .tup h r => .tup (l.sqT h) (RelWs.mono p l r)
  | _, _, .ref h => .ref (pre_get p h)
  | _, _, .exc h => .exc (l.exAt h)
theorem RelWs.mono (p : α <+: α') (l : Le H H') : ∀ {ws : List W} {vs : List V}, RelWs G α H ws vs → RelWs G α' H' ws vs
  | _, _, .nil => .nil
  | _, _, .cons h r => .cons (RelW.mono p l h) (RelWs.mono p l r)
end
theorem RelWs.length : ∀ {ws : List W} {vs : List V}, RelWs G α H ws vs → ws.length = vs.length
  | _, _, .nil => rfl
  | _, _, .cons _ r => by simp [RelWs.length r]
theorem RelWs.append : ∀ {ws us : List W} {vs zs : List V}, RelWs G α H ws vs → RelWs G α H us zs → RelWs G α H (ws ++ us) (vs ++ zs)
  | _, _, _, _, .nil, q => q
  | _, _, _, _, .cons h r, q => .cons h (RelWs.append r q)
theorem RelWs.get : ∀ {ws : List W} {vs : List V} {i : Nat} {w : W}, RelWs G α H ws vs → ws[i]? = some w → ∃ v, vs[i]? = some v ∧ RelW G α H w v
  | _, _, _, _, .nil, e => by simp at e
  | _, _, 0, _, .cons h _, e => by
    simp at e
    subst e
    exact ⟨_, by simp, h⟩
  | _, _, i + 1, _, .cons _ r, e => by
    obtain ⟨v, e', h⟩ := RelWs.get (i := i) r (by simpa using e)
    exact ⟨v, by simpa using e', h⟩
theorem RelWs.getV : ∀ {ws : List W} {vs : List V} {i : Nat} {v : V}, RelWs G α H ws vs → vs[i]? = some v → ∃ w, ws[i]? = some w ∧ RelW G α H w v
  | _, _, _, _, .nil, e => by simp at e
  | _, _, 0, _, .cons h _, e => by
    simp at e
    subst e
    exact ⟨_, by simp, h⟩
  | _, _, i + 1, _, .cons _ r, e => by
    obtain ⟨v, e', h⟩ := RelWs.getV (i := i) r (by simpa using e)
    exact ⟨v, by simpa using e', h⟩
theorem RelWs.set {w : W} {v : V} (h : RelW G α H w v) : ∀ {ws : List W} {vs : List V} (i : Nat), RelWs G α H ws vs → RelWs G α H (ws.set i w) (vs.set i v)
  | _, _, _, .nil => .nil
  | _, _, 0, .cons _ r => .cons h r
  | _, _, i + 1, .cons q r => .cons q (RelWs.set h i r)
theorem RelWs.take : ∀ {ws : List W} {vs : List V} (n : Nat), RelWs G α H ws vs → RelWs G α H (ws.take n) (vs.take n)
  | _, _, 0, _ => .nil
  | _, _, _ + 1, .nil => .nil
  | _, _, n + 1, .cons h r => .cons h (RelWs.take n r)
theorem RelWs.drop : ∀ {ws : List W} {vs : List V} (n : Nat), RelWs G α H ws vs → RelWs G α H (ws.drop n) (vs.drop n)
  | _, _, 0, r => r
  | _, _, _ + 1, .nil => .nil
  | _, _, n + 1, .cons _ r => RelWs.drop n r
theorem RelWs.eraseIdx : ∀ {ws : List W} {vs : List V} (n : Nat), RelWs G α H ws vs → RelWs G α H (ws.eraseIdx n) (vs.eraseIdx n)
  | _, _, _, .nil => .nil
  | _, _, 0, .cons _ r => r
  | _, _, n + 1, .cons h r => .cons h (RelWs.eraseIdx n r)
theorem RelWs.reverse {ws : List W} {vs : List V} (r : RelWs G α H ws vs) : RelWs G α H ws.reverse vs.reverse := by
  induction ws generalizing vs with
  | nil => cases r; exact .nil
  | cons w ws ih =>
    cases r with
    | cons h r =>
      rw [List.reverse_cons, List.reverse_cons]
      exact (ih r).append (.cons h .nil)
theorem RelWs.replicate {w : W} {v : V} (h : RelW G α H w v) : ∀ n, RelWs G α H (List.replicate n w) (List.replicate n v)
  | 0 => .nil
  | n + 1 => .cons h (RelWs.replicate h n)
end

/-! ### the store beside the heap -/
def RelK (G : Gx) (α : List Addr) (H : Hp) (kvs : List (Key × W)) (us : List (Key × V)) : Prop := Paired (fun (p : Key × W) (q : Key × V) => p.1 = q.1 ∧ RelW G α H p.2 q.2) kvs us
def SimO (G : Gx) (α : List Addr) (H : Hp) : Ob → Addr → Prop
  | .lst ws, a => ∃ vs, H a = some (.lst vs) ∧ RelWs G α H ws vs
  | .frz ws, a => ∃ vs o, H a = some (.frz o (.lst vs)) ∧ RelWs G α H ws vs
  | .dk kvs, a => ∃ us, H a = some (.dK us) ∧ RelK G α H kvs us
structure Sim (G : Gx) (α : List Addr) (S : Store) (H : Hp) : Prop where
  len : α.length = S.length
  nd : α.Nodup
  ob : ∀ (l : Nat) (o : Ob) (a : Addr), S[l]? = some o → α[l]? = some a → SimO G α H o a
  tabs : LamX.Tabs G.tb H
theorem RelK.mono {G : Gx} {α α' : List Addr} {H H' : Hp} {kvs : List (Key × W)} {us : List (Key × V)} (p : α <+: α') (l : Le H H') (r : RelK G α H kvs us) : RelK G α' H' kvs us :=
  Paired.mapP r fun _ _ z => ⟨z.1, z.2.mono p l⟩
/-- the objects that the store tells stand as they stood -/
theorem SimO.mono {G : Gx} {α α' : List Addr} {H H' : Hp} {o : Ob} {a : Addr} (p : α <+: α') (l : Le H H') (h : H' a = H a) (s : SimO G α H o a) : SimO G α' H' o a := by
  cases o with
  | lst ws =>
    obtain ⟨vs, e, r⟩ := s
    exact ⟨vs, h.trans e, r.mono p l⟩
  | frz ws =>
    obtain ⟨vs, o, e, r⟩ := s
    exact ⟨vs, o, h.trans e, r.mono p l⟩
  | dk kvs =>
    obtain ⟨us, e, r⟩ := s
    exact ⟨us, h.trans e, r.mono p l⟩
theorem SimO.some {G : Gx} {α : List Addr} {H : Hp} {o : Ob} {a : Addr} (s : SimO G α H o a) : ∃ u, H a = some u ∧ (∀ ps, u ≠ .tbl ps) ∧ (∀ φ, u ≠ .ext φ) := by
  cases o with
  | lst ws =>
    obtain ⟨vs, e, r⟩ := s
    exact ⟨_, e, fun ps z => (by cases z), fun φ z => (by cases z)⟩
  | frz ws =>
    obtain ⟨vs, o, e, r⟩ := s
    exact ⟨_, e, fun ps z => (by cases z), fun φ z => (by cases z)⟩
  | dk kvs =>
    obtain ⟨us, e, r⟩ := s
    exact ⟨_, e, fun ps z => (by cases z), fun φ z => (by cases z)⟩
theorem tabs_keep {tb : List (Addr × Str)} {H H' : Hp} (t : LamX.Tabs tb H) (e : ∀ b o, H b = some o → ((∃ ps, o = .tbl ps) ∨ (∃ φ, o = .ext φ)) → H' b = some o) : LamX.Tabs tb H' := fun p hp => by
  obtain ⟨ps, h1, h2, h3⟩ := t p hp
  refine ⟨ps, e _ _ h1 (.inl ⟨_, rfl⟩), h2, fun pos cv hc => ?_⟩
  obtain ⟨c, e1, e2⟩ := h3 pos cv hc
  exact ⟨c, e1, e _ _ e2 (.inr ⟨_, rfl⟩)⟩
section
variable {G : Gx} {α : List Addr} {S : Store} {H : Hp}
theorem Sim.get (s : Sim G α S H) {l : Nat} {o : Ob} (h : S[l]? = some o) : ∃ a, α[l]? = some a ∧ SimO G α H o a := by
  have hl := (List.getElem?_eq_some_iff.mp h).1
  have hl' : l < α.length := by rw [s.len]; exact hl
  exact ⟨α[l], by simp [hl'], s.ob l o _ h (by simp [hl'])⟩
theorem Sim.mem (s : Sim G α S H) {a : Addr} (h : a ∈ α) : ∃ u, H a = some u ∧ (∀ ps, u ≠ .tbl ps) ∧ (∀ φ, u ≠ .ext φ) := by
  obtain ⟨l, hl, e⟩ := List.mem_iff_getElem.mp h
  have hS : l < S.length := by rw [← s.len]; exact hl
  exact (s.ob l S[l] a (by simp [hS]) (by rw [← e]; simp [hl])).some
/-- a new object of the store at a new address -/
theorem Sim.new (s : Sim G α S H) {p : Addr} {u : HO} {o : Ob} (hp : H p = none) (h : SimO G (α ++ [p]) (upd H p u) o p) : Sim G (α ++ [p]) (S ++ [o]) (upd H p u) := by
  have np : p ∉ α := fun z => by
    obtain ⟨v, e, _⟩ := s.mem z
    rw [hp] at e
    cases e
  refine ⟨by simp [s.len], ?_, fun l o' a h1 h2 => ?_, tabs_keep s.tabs fun b o e _ => by rw [upd_ne (ne_of_none e hp)]; exact e⟩
  · rw [List.nodup_append]
    refine ⟨s.nd, by simp, fun x hx y hy => ?_⟩
    simp at hy
    subst hy
    exact fun z => np (z ▸ hx)
  · by_cases hl : l < S.length
    · rw [List.getElem?_append_left hl] at h1
      rw [List.getElem?_append_left (by rw [s.len]; exact hl)] at h2
      have q := s.ob l o' a h1 h2
      refine q.mono (List.prefix_append _ _) (Le.new hp) ?_
      obtain ⟨v, e, _⟩ := q.some
      rw [upd_ne (ne_of_none e hp)]
    · have hl2 := (List.getElem?_eq_some_iff.mp h1).1
      rw [List.length_append, List.length_singleton] at hl2
      have e : l = S.length := by omega
      subst e
      rw [List.getElem?_append_right (Nat.le_refl _)] at h1
      rw [List.getElem?_append_right (by rw [s.len]; exact Nat.le_refl _)] at h2
      simp at h1
      rw [s.len] at h2
      simp at h2
      subst h1 h2
      exact h
/-- a new object that the store does not tell -/
theorem Sim.beside (s : Sim G α S H) {p : Addr} {u : HO} (hp : H p = none) : Sim G α S (upd H p u) := by
  refine ⟨s.len, s.nd, fun l o a h1 h2 => ?_, tabs_keep s.tabs fun b o e _ => by rw [upd_ne (ne_of_none e hp)]; exact e⟩
  have q := s.ob l o a h1 h2
  refine q.mono (List.prefix_refl _) (Le.new hp) ?_
  obtain ⟨v, e, _⟩ := q.some
  rw [upd_ne (ne_of_none e hp)]
/-- an object of the store is written -/
theorem Sim.put (s : Sim G α S H) {l : Nat} {p : Addr} {u u' : HO} {o : Ob} (hl : α[l]? = some p) (hu : H p = some u) (hs : Stb u = false) (h : SimO G α (upd H p u') o p) : Sim G α (S.set l o) (upd H p u') := by
  have hp : p ∈ α := List.mem_of_getElem? hl
  obtain ⟨v, e, n1, n2⟩ := s.mem hp
  rw [hu] at e
  cases e
  refine ⟨by simp [s.len], s.nd, fun j o' a h1 h2 => ?_, tabs_keep s.tabs fun b o e z => ?_⟩
  · by_cases hj : j = l
    · subst hj
      rw [hl] at h2
      cases h2
      have hlt : j < S.length := by
        have := (List.getElem?_eq_some_iff.mp h1).1
        simpa using this
      rw [List.getElem?_set_self hlt] at h1
      cases h1
      exact h
    · rw [List.getElem?_set_ne (Ne.symm hj)] at h1
      have q := s.ob j o' a h1 h2
      have na : a ≠ p := fun z => by
        subst z
        have i1 := (List.getElem?_eq_some_iff.mp h2)
        have i2 := (List.getElem?_eq_some_iff.mp hl)
        obtain ⟨g1, e1⟩ := i1
        obtain ⟨g2, e2⟩ := i2
        exact hj ((List.getElem_inj s.nd).mp (e1.trans e2.symm))
      exact q.mono (List.prefix_refl _) (Le.put hu hs) (upd_ne na)
  · have nb : b ≠ p := fun q => by
      rw [q, hu] at e
      cases e
      rcases z with ⟨ps, z⟩ | ⟨φ, z⟩
      · exact n1 ps z
      · exact n2 φ z
    rw [upd_ne nb]
    exact e
end

/-! ### the frame's slots -/
structure RelR (G : Gx) (α : List Addr) (H : Hp) (ρ : Rho) (σ : L2.St) : Prop where
  len : ρ.length = σ.length
  at_ : ∀ (i : Nat) (w : W), ρ[i]? = some (some w) → ∃ v, σ[i]? = some (some v) ∧ RelW G α H w v
theorem RelR.mono {G : Gx} {α α' : List Addr} {H H' : Hp} {ρ : Rho} {σ : L2.St} (p : α <+: α') (l : Le H H') (r : RelR G α H ρ σ) : RelR G α' H' ρ σ :=
  ⟨r.len, fun i w e => let ⟨v, e', q⟩ := r.at_ i w e; ⟨v, e', q.mono p l⟩⟩
theorem RelR.set {G : Gx} {α : List Addr} {H : Hp} {ρ : Rho} {σ : L2.St} {w : W} {v : V} (i : Nat) (r : RelR G α H ρ σ) (h : RelW G α H w v) : RelR G α H (ρ.set i (some w)) (σ.set i (some v)) := by
  refine ⟨by simp [r.len], fun j u e => ?_⟩
  by_cases hj : i = j
  · subst hj
    have hlt : i < ρ.length := by
      have := (List.getElem?_eq_some_iff.mp e).1
      simpa using this
    rw [List.getElem?_set_self hlt] at e
    cases e
    exact ⟨v, List.getElem?_set_self (by rw [← r.len]; exact hlt), h⟩
  · rw [List.getElem?_set_ne hj] at e
    obtain ⟨v', e', q⟩ := r.at_ j u e
    exact ⟨v', by rw [List.getElem?_set_ne hj]; exact e', q⟩

/-! ### what is got -/
def RelX (G : Gx) (e : W) (cls : Value) (d : Option Addr) : Prop := ∃ c C, e = .exc c ∧ cls = .ref C ∧ G.mg c = some (.ref C) ∧ d = none
/-- behind a run: the result and what follows -/
def Got (G : Gx) (E : XK) {A : Type} (α : List Addr) (H : Hp) (r : Rs A) (P : A → Store → List Addr → Hp → Prop) : Prop := match r with
  | .stuck => False
  | .ok a S' => ∀ α' H', α <+: α' → Le H H' → Sim G α' S' H' → P a S' α' H'
  | .raise e S' => ∀ α' H' cls d, α <+: α' → Le H H' → Sim G α' S' H' → RelX G e cls d → E cls d H'
section
variable {G : Gx} {E : XK} {A B : Type} {α α' : List Addr} {H H' : Hp} {S : Store}
theorem Got.weak {r : Rs A} {P : A → Store → List Addr → Hp → Prop} (g : Got G E α H r P) (p : α <+: α') (l : Le H H') : Got G E α' H' r P := by
  cases r with
  | stuck => exact g
  | ok a S' => exact fun β K q m s => g β K (p.trans q) (l.trans m) s
  | raise e S' => exact fun β K c d q m s => g β K c d (p.trans q) (l.trans m) s
theorem Got.imp {r : Rs A} {P P' : A → Store → List Addr → Hp → Prop} (g : Got G E α H r P) (h : ∀ a S' α' H', α <+: α' → Le H H' → Sim G α' S' H' → P a S' α' H' → P' a S' α' H') : Got G E α H r P' := by
  cases r with
  | stuck => exact g
  | ok a S' => exact fun β K q m s => h a S' β K q m s (g β K q m s)
  | raise e S' => exact g
theorem Got.bind {m : M A} {k : A → M B} {P : B → Store → List Addr → Hp → Prop} (g : Got G E α H ((m >>= k) S) P) : Got G E α H (m S) (fun a S' α' H' => Got G E α' H' (k a S') P) := by
  cases e : m S with
  | stuck =>
    rw [bind_stuck e] at g
    exact g
  | ok a S' =>
    rw [bind_ok e] at g
    exact fun β K q m s => g.weak q m
  | raise x S' =>
    rw [bind_raise e] at g
    exact g
theorem Got.pure {a : A} {P : A → Store → List Addr → Hp → Prop} (g : Got G E α H ((Pure.pure a : M A) S) P) (s : Sim G α S H) : P a S α H := g α H (List.prefix_refl _) (Le.refl _) s
theorem Got.of_pure {a : A} {P : A → Store → List Addr → Hp → Prop} (g : Got G E α H (.ok a S) P) (s : Sim G α S H) : P a S α H := g α H (List.prefix_refl _) (Le.refl _) s
end
end Mi

set_option maxHeartbeats 1000000
/-! Mi, defs: a def's promise told of the plain machine; a call; a body. The arounds bear that no container is being shown (guards). -/
namespace Mi
open PySem PySem.Spec PyProof.Rows L2

/-! ### readings -/
/-- what a run of the machine leaves, read as a reading of the hand layer -/
def tK (G : Gx) (E : XK) {A B : Type} (R : List Addr → Hp → A → B → Prop) (m : Rho → M A) (σ : L2.St) (H : Hp) (Q : B → Hp → Prop) : Prop :=
  ∃ α S ρ, Sim G α S H ∧ RelR G α H ρ σ ∧ Got G E α H (m ρ S) (fun a _ α' H' => ∀ b, R α' H' a b → Q b H')
abbrev tM (G : Gx) (E : XK) (m : Rho → M W) : TE := tK G E (RelW G) m
abbrev tB (G : Gx) (E : XK) (m : Rho → M Bool) : TT := tK G E (fun _ _ a b => a = b) m
abbrev tA (G : Gx) (E : XK) (m : Rho → M (List W)) : TA := tK G E (RelWs G) m
theorem Got.node {G : Gx} {E : XK} {A B C : Type} {R : List Addr → Hp → A → C → Prop} {mm : Rho → M A} {k : A → M B} {P : B → Store → List Addr → Hp → Prop} {α : List Addr} {S : Store} {ρ : Rho} {σ : L2.St} {H : Hp} {Q1 : C → Hp → Prop}
    (s : Sim G α S H) (r : RelR G α H ρ σ) (g : Got G E α H ((mm ρ >>= k) S) P)
    (c : ∀ a x α' S' H', α <+: α' → Le H H' → Sim G α' S' H' → RelR G α' H' ρ σ → R α' H' a x → Got G E α' H' (k a S') P → Q1 x H') : tK G E R mm σ H Q1 :=
  ⟨α, S, ρ, s, r, (Got.bind g).imp fun a S' α' H' p l s' g' x rx => c a x α' S' H' p l s' (r.mono p l) rx g'⟩
/-- a statement's flow -/
inductive Fl where
  | nx | bk | ct | rt (w : W)
abbrev St1 := Rho → M (Fl × Rho)
def FlQ (G : Gx) (D : Ends) (σ : L2.St) (α : List Addr) (H : Hp) : Fl → Prop
  | .nx => D.nx σ H
  | .bk => D.bk σ H
  | .ct => D.ct σ H
  | .rt w => ∀ v, RelW G α H w v → D.rt v H
def tS (G : Gx) (E : XK) (m : St1) : TS := fun D σ H =>
  ∃ α S ρ, Sim G α S H ∧ RelR G α H ρ σ ∧ Got G E α H (m ρ S) (fun a _ α' H' => ∀ σ', RelR G α' H' a.2 σ' → FlQ G D σ' α' H' a.1)

/-! ### a def's promise -/
abbrev Fm := List W → M W
/-- n arguments -/
def spM (G : Gx) (n : Nat) (m : Fm) : Sp := fun vs H Q E =>
  ∃ α S ws, Sim G α S H ∧ RelWs G α H ws vs ∧ ws.length = n ∧ Got G E α H (m ws S) (fun w _ α' H' => ∀ v, RelW G α' H' w v → Q v H')
structure FnM (P : Program) (w : World) (K : PySem.W.Frag) (mg : Str → Option Value) (base : Heap) (k : Nat) (f : Addr) (fd : FuncData) (ps : List Str) (sp : Sp) : Prop where
  len : ∀ vs H Q E, sp vs H Q E → vs.length = ps.length
  run : ∀ (A : Around) (outer : List Env) (s : Shared) (H : Hp) (args : Args) (us : List Value) (vs : List V) (Q : VK) (E : XK), A.guards = some [] → Room k A →
    Env0 P w K mg base A outer s H → BindsTo s fd args (ps.zip us) → Vals vs us → sp vs H Q E → codeAny (model P w) A (.call (.ref f) args) (CR (L2.CX P w) outer P w H s Q E) s
section
variable {P : Program} {w : World} {K : PySem.W.Frag} {mg : Str → Option Value} {base : Heap}
theorem FnM.mono {j k : Nat} {f : Addr} {fd : FuncData} {ps : List Str} {sp : Sp} (F : FnM P w K mg base j f fd ps sp) (h : j ≤ k) : FnM P w K mg base k f fd ps sp :=
  ⟨F.len, fun A outer s H args us vs Q E hg hr => F.run A outer s H args us vs Q E hg (hr.mono h)⟩
/-- the frame of a body -/
structure At (X : Cx) (E : XK) (k : Nat) : Prop where
  calm : X.calm = true
  nd : X.N.Nodup
  tk : Takes X (fun cls d _ H => E cls d H)
  own : PassesOwn (model X.prog X.w) X.A X.env X.xe
  room : Room k X.A
  gd : X.A.guards = some []
theorem At.mono {X : Cx} {E : XK} {j k : Nat} (a : At X E k) (h : j ≤ k) : At X E j := ⟨a.calm, a.nd, a.tk, a.own, a.room.mono h, a.gd⟩
abbrev cxM (P : Program) (w : World) (K : PySem.W.Frag) (mg : Str → Option Value) (base : Heap) (N : List Str) (qual : Str) (st : Stmt) (f : Addr) (cdv : Value) (A : Around) (outer : List Env) (s : Shared) (H : Hp) (E : XK) : Cx :=
  cxOf (L2.CX P w) P w K mg base N qual (defScope st) f cdv A outer s H E
/-- what the body gives to the caller -/
def fnM (n : Nat) (b : St1) : Fm := fun ws => do
  let r ← b (ws.map some ++ List.replicate (n - ws.length) none)
  match r.1 with
  | .rt w => pure w
  | .nx => pure .non
  | _ => M.stuck
theorem relR_start {G : Gx} {α : List Addr} {H : Hp} : ∀ {ws : List W} {vs : List V} (n : Nat), RelWs G α H ws vs → RelR G α H (ws.map some ++ List.replicate n none) (vs.map some ++ List.replicate n none) := fun {ws vs} n r => by
  refine ⟨by simp [r.length], fun i w e => ?_⟩
  by_cases hi : i < ws.length
  · rw [List.getElem?_append_left (by simpa using hi)] at e
    rw [List.getElem?_append_left (by rw [List.length_map, ← r.length]; exact hi)]
    rw [List.getElem?_map] at e
    cases q : ws[i]? with
    | none =>
      rw [q] at e
      cases e
    | some u =>
      rw [q] at e
      cases e
      obtain ⟨v, e2, h⟩ := r.get q
      exact ⟨v, by rw [List.getElem?_map, e2]; rfl, h⟩
  · rw [List.getElem?_append_right (by simp; omega)] at e
    have := List.mem_of_getElem? e
    have z := (List.mem_replicate.mp this).2
    cases z
/-- the code value of the def at f -/
def CdAt (K : PySem.W.Frag) (f : Addr) (qual : Str) (cdv : Value) : Prop := PySem.W.codeIn K cdv qual = true ∧ ∃ (oc : Value) (od : Option Addr) (fd : FuncData) (osl : Array (Option Value)), K.lookup f = some ⟨oc, od, .func fd, osl⟩ ∧ fd.code = cdv
theorem fnM_ofC {G : Gx} {x qual : Str} {st : Stmt} {f : Addr} {fd : FuncData} {N ps : List Str} {k : Nat} {b : St1} (F : Fun K x qual st f fd) (C : FnScope N ps (defScope st))
    (hb : ∀ (cdv : Value), CdAt K f qual cdv → ∀ (A : Around) (outer : List Env) (s : Shared) (H : Hp) (E : XK), At (cxM P w K mg base N qual st f cdv A outer s H E) E k → PSs (cxM P w K mg base N qual st f cdv A outer s H E) (defBody st) (tS G E b)) :
    FnM P w K mg base (k + 1) f fd ps (spM G ps.length (fnM N.length b)) := by
  obtain ⟨oc, od, kV, doc, pm, an, cdv, ct, osl, rfl, lk, hcd⟩ := F.ex
  have hlen : ∀ vs H Q E, spM G ps.length (fnM N.length b) vs H Q E → vs.length = ps.length := fun vs H Q E h => by
    obtain ⟨α, S, ws, _, r, e, _⟩ := h
    rw [← r.length, e]
  refine ⟨hlen, fun A outer s H args us vs Q E hgd hr e0 hbi r hsp => ?_⟩
  have hl := hlen _ _ _ _ hsp
  have KX : K.In s.heap := e0.mod.kin.keeps fun c o e => (e0.bs c o e).1
  have hkind : ∀ y ∈ ps.zip us, (defScope st).names.lookup y.1 = some .local ∨ ((defScope st).names.lookup y.1 = some .cell ∧ ((cellsFrom (s.heap.objs.size + 1) (defScope st).names []).lookup y.1).isSome = true) := fun ⟨n, v⟩ hy =>
    (C.par n (List.of_mem_zip hy).1).elim .inl fun q => .inr ⟨q, PySem.W.cellsFrom_some _ _ _ (.inl q)⟩
  refine codeAny_call_function hr.depth (KX _ _ lk) rfl C.co C.gen rfl (PySem.W.codeRec_of KX hcd) (hbi _ _ _ _ (wpAny_newFunctionEnv_cells C.kind hkind fun env he s1 x => ?_))
  subst he
  refine ⟨(e0.mod.nolimit.keeps fun c o e => (e0.bs c o e).1).keeps x.toInCall.keep, codeAny_func ?_⟩
  have I : Inv (cxM P w K mg base N qual st f cdv A outer s H E) [] (L2.start N vs) H s1 := inv_start C hr.hd e0 hl r x
  have at_ : At (cxM P w K mg base N qual st f cdv A outer s H E) E k := ⟨rfl, C.nd, takes_of rfl rfl rfl rfl, passes_of rfl, hr.deeper _, hgd⟩
  obtain ⟨α, S, ws, sm, rw_, en, g⟩ := hsp
  have q : tS G E b { nx := fun _ H' => Q .non H', rt := Q } (L2.start N vs) H := by
    refine ⟨α, S, _, sm, (show RelR G α H (ws.map some ++ List.replicate (N.length - ws.length) none) (L2.start N vs) from by unfold L2.start; rw [← rw_.length]; exact relR_start _ rw_), ?_⟩
    refine (Got.bind g).imp fun a S' α' H' p l s' g' σ' _ => ?_
    obtain ⟨fl, ρ'⟩ := a
    cases fl with
    | nx => exact g'.of_pure s' .non .non
    | bk => exact False.elim g'
    | ct => exact False.elim g'
    | rt u => exact fun v hv => g'.of_pure s' v hv
  refine wpAny_mono ((hb cdv ⟨hcd, _, _, _, _, lk, rfl⟩ A outer s H E at_).run [] s1 (L2.start N vs) H _ I q) (fun fl s' hs => ?_) fun e s' hs => hs
  cases fl with
  | ret u =>
    obtain ⟨v, σ', H', J, rv, z⟩ := hs
    exact ⟨v, H', J.os, J.bare, J.base, J.hok, rv, z⟩
  | next =>
    obtain ⟨σ', H', J, z⟩ := hs
    exact ⟨.non, H', J.os, J.bare, J.base, J.hok, rfl, z⟩
  | brk => exact hs.elim fun _ h => h.elim fun _ h => h.2.elim
  | cont => exact hs.elim fun _ h => h.elim fun _ h => h.2.elim
theorem fnM_of {G : Gx} {x qual : Str} {st : Stmt} {f : Addr} {fd : FuncData} {N ps : List Str} {k : Nat} {b : St1} (F : Fun K x qual st f fd) (C : FnScope N ps (defScope st))
    (hb : ∀ (cdv : Value) (A : Around) (outer : List Env) (s : Shared) (H : Hp) (E : XK), At (cxM P w K mg base N qual st f cdv A outer s H E) E k → PSs (cxM P w K mg base N qual st f cdv A outer s H E) (defBody st) (tS G E b)) :
    FnM P w K mg base (k + 1) f fd ps (spM G ps.length (fnM N.length b)) := fnM_ofC F C fun cdv _ => hb cdv
end

/-! ### a call -/
section
variable {X : Cx} {G : Gx} {E : XK} {k n : Nat} {f : Addr} {fd : FuncData} {ps : List Str} {m : Fm}
theorem run_m {pins : List (Addr × Obj)} {σ : L2.St} {H : Hp} {s : Shared} {Q : VK} {us : List Value} {vs : List V} (F : FnM X.prog X.w X.K X.mg X.base k f fd ps (spM G n m)) (a : At X E k) (hb : Binds X.K fd ps [])
    (I : Inv X pins σ H s) (r : Vals vs us) (h : spM G n m vs H Q E) : wpAny (model X.prog X.w) X.A (call (.ref f) us) (EP X pins σ Q) X.xe s := by
  have hl : us.length = ps.length := r.length.symm.trans (F.len _ _ _ _ h)
  have b := hb s us I.kIn (by rw [List.append_nil]; exact hl)
  rw [List.append_nil] at b
  refine wpAny_call (codeAny_mono (F.run X.A X.stack s H ⟨us, []⟩ us vs Q E a.gd a.room I.env0 b r h) fun z s' hq => ?_)
  cases z with
  | error e => exact passAt (W := fun cls d _ H => E cls d H) a.tk σ pins H s e s' I hq
  | ok fl =>
    cases fl with
    | ret u => exact I.after hq
    | next => exact False.elim hq
    | brk => exact False.elim hq
    | cont => exact False.elim hq
/-- f(e, ..) -/
theorem pm_call {x : Str} {p pos : Pos} {e : Expr} {es : List Expr} {ma : Rho → M (List W)} (F : FnM X.prog X.w X.K X.mg X.base k f fd ps (spM G ps.length m)) (a : At X E k) (hg : Gl X x) (hm : X.mg x = some (.ref f)) (hk : PySem.W.keepIn X.K (.ref f) = true) (hb : Binds X.K fd ps [])
    (hl : (e :: es).length = ps.length) (hw : ∀ ρ S ws S', ma ρ S = .ok ws S' → ws.length = (e :: es).length)
    (ha : PA X (e :: es) (tA G E ma)) (hdb : (x == ("__debug__" : Str)) = false := by decide) (he : starEach (e :: es) X.env = (false, eval e X.env) :: starEach es X.env := by rfl) (hpl : (backTo pos (starEach es X.env)).any (·.1) = false := by rfl) :
    PE X (.Call (.Name x p) (e :: es) [] pos) (tM G E fun ρ => ma ρ >>= m) := by
  refine ⟨fun pins s σ H Q I h => ?_⟩
  refine wpAny_Call_Name_kw (ld_glob I hg hm ?_ hdb)
  obtain ⟨α, S, ρ, sm, r, g⟩ := h
  have ht : tA G E ma σ H (fun vs H1 => spM G ps.length m vs H1 Q E) := by
    refine ⟨α, S, ρ, sm, r, ?_⟩
    have g' := Got.bind g
    cases e1 : ma ρ S with
    | stuck =>
      rw [e1] at g'
      exact g'
    | raise z S' =>
      rw [e1] at g'
      exact g'
    | ok ws S' =>
      rw [e1] at g'
      intro α' H' p1 l1 s1 vs rv
      exact ⟨α', S', ws, s1, rv, (hw _ _ _ _ e1).trans hl, g' α' H' p1 l1 s1⟩
  refine PySem.W.callWith_K (h₀ := X.base) I.ok.mod.kin hk (thn (ha.run pos pins s σ H _ I ht) fun us s1 ⟨vs, H1, I1, rv, q⟩ => ⟨I1.kIn, ?_⟩) he hpl
  exact run_m F a hb I1 rv q
end
end Mi

set_option maxHeartbeats 1000000
/-! Mi, expressions: names, constants, operators, tests, comparisons, displays, subscripts, slices, built-in calls, methods. -/
namespace Mi
open PySem PySem.Spec PyProof.Rows L2

abbrev Pv (G : Gx) (Q : VK) : W → Store → List Addr → Hp → Prop := fun w _ α' H' => ∀ v, RelW G α' H' w v → Q v H'
/-! ### inversions -/
section
variable {G : Gx} {α : List Addr} {H : Hp}
theorem RelW.int_inv {i : Int} {v : V} (h : RelW G α H (.int i) v) : v = .int i := by cases h; rfl
theorem RelW.bl_inv {b : Bool} {v : V} (h : RelW G α H (.bl b) v) : v = .bl b := by cases h; rfl
theorem RelW.non_inv {v : V} (h : RelW G α H .non v) : v = .non := by cases h; rfl
theorem RelW.str_inv {x : Str} {v : V} (h : RelW G α H (.str x) v) : v = .str x := by cases h; rfl
theorem RelW.tup_inv {ws : List W} {v : V} (h : RelW G α H (.tup ws) v) : ∃ a vs, v = .ref a ∧ SqT G.K H a vs ∧ RelWs G α H ws vs := by
  cases h with
  | tup h r => exact ⟨_, _, rfl, h, r⟩
theorem RelW.ref_inv {l : Nat} {v : V} (h : RelW G α H (.ref l) v) : ∃ a, v = .ref a ∧ α[l]? = some a := by
  cases h with
  | ref h => exact ⟨_, rfl, h⟩
theorem RelWs.nil_inv {vs : List V} (h : RelWs G α H [] vs) : vs = [] := by cases h; rfl
theorem RelWs.cons_inv {w : W} {ws : List W} {vs : List V} (h : RelWs G α H (w :: ws) vs) : ∃ v r, vs = v :: r ∧ RelW G α H w v ∧ RelWs G α H ws r := by
  cases h with
  | cons h r => exact ⟨_, _, rfl, h, r⟩
end

/-! ### reading and writing the store -/
def rdL (S : Store) (l : Nat) : Option (List W) := match S[l]? with
  | some (.lst ws) => some ws
  | some (.frz ws) => some ws
  | _ => none
def muL (S : Store) (l : Nat) : Option (List W) := match S[l]? with
  | some (.lst ws) => some ws
  | _ => none
def rdD (S : Store) (l : Nat) : Option (List (Key × W)) := match S[l]? with
  | some (.dk kvs) => some kvs
  | _ => none
section
variable {G : Gx} {α : List Addr} {S : Store} {H : Hp} {l : Nat} {a : Addr}
theorem muL_eq {ws : List W} (h : muL S l = some ws) : S[l]? = some (.lst ws) := by
  unfold muL at h
  split at h
  · cases h
    assumption
  · cases h
theorem rdD_eq {kvs : List (Key × W)} (h : rdD S l = some kvs) : S[l]? = some (.dk kvs) := by
  unfold rdD at h
  split at h
  · cases h
    assumption
  · cases h
theorem rdL_mu {ws : List W} (h : muL S l = some ws) : rdL S l = some ws := by
  unfold rdL
  rw [muL_eq h]
theorem Sim.rd (s : Sim G α S H) {ws : List W} (h : rdL S l = some ws) (ha : α[l]? = some a) : ∃ vs, SqL G.K H a vs ∧ RelWs G α H ws vs := by
  unfold rdL at h
  split at h
  · rename_i us e
    cases h
    obtain ⟨vs, e1, r⟩ := s.ob l _ a e ha
    exact ⟨vs, SqL.of e1, r⟩
  · rename_i us e
    cases h
    obtain ⟨vs, o, e1, r⟩ := s.ob l _ a e ha
    exact ⟨vs, .inl (.inr ⟨o, e1⟩), r⟩
  · cases h
theorem Sim.mu (s : Sim G α S H) {ws : List W} (h : muL S l = some ws) (ha : α[l]? = some a) : ∃ vs, H a = some (.lst vs) ∧ RelWs G α H ws vs := s.ob l _ a (muL_eq h) ha
theorem Sim.di (s : Sim G α S H) {kvs : List (Key × W)} (h : rdD S l = some kvs) (ha : α[l]? = some a) : ∃ us, H a = some (.dK us) ∧ RelK G α H kvs us := s.ob l _ a (rdD_eq h) ha
end
/-- a new object -/
def newO (o : Ob) : M W := fun S => .ok (.ref S.length) (S ++ [o])
def newL (ws : List W) : M W := fun S => if ws.length ≤ sizeLine then .ok (.ref S.length) (S ++ [.lst ws]) else .stuck
def newT (ws : List W) : M W := fun S => if ws.length ≤ sizeLine then .ok (.tup ws) S else .stuck
section
variable {G : Gx} {E : XK} {α : List Addr} {S : Store} {H : Hp} {Q : VK}
theorem got_newL {ws : List W} {vs : List V} (g : Got G E α H (newL ws S) (Pv G Q)) (s : Sim G α S H) (r : RelWs G α H ws vs) : vs.length ≤ sizeLine ∧ ∀ p, H p = none → Q (.ref p) (upd H p (.lst vs)) := by
  unfold newL at g
  split at g
  · rename_i hl
    refine ⟨by rw [← r.length]; exact hl, fun p hp => ?_⟩
    exact g (α ++ [p]) _ (List.prefix_append _ _) (Le.new hp) (s.new hp ⟨vs, upd_same, r.mono (List.prefix_append _ _) (Le.new hp)⟩) _ (.ref (by rw [← s.len]; simp))
  · exact False.elim g
theorem got_newT {ws : List W} {vs : List V} (g : Got G E α H (newT ws S) (Pv G Q)) (s : Sim G α S H) (r : RelWs G α H ws vs) : vs.length ≤ sizeLine ∧ ∀ p, H p = none → Q (.ref p) (upd H p (.tup vs)) := by
  unfold newT at g
  split at g
  · rename_i hl
    refine ⟨by rw [← r.length]; exact hl, fun p hp => ?_⟩
    exact g α _ (List.prefix_refl _) (Le.new hp) (s.beside hp) _ (.tup (SqT.of upd_same) (r.mono (List.prefix_refl _) (Le.new hp)))
  · exact False.elim g
/-- the tuple as it lies -/
theorem got_oldT {ws : List W} {vs : List V} {a : Addr} (g : Got G E α H (newT ws S) (Pv G Q)) (s : Sim G α S H) (h : SqT G.K H a vs) (r : RelWs G α H ws vs) : Q (.ref a) H := by
  unfold newT at g
  split at g
  · exact g α H (List.prefix_refl _) (Le.refl _) s _ (.tup h r)
  · exact False.elim g
theorem got_pureW {w : W} {v : V} (g : Got G E α H (.ok w S) (Pv G Q)) (s : Sim G α S H) (r : RelW G α H w v) : Q v H := g.of_pure s v r
/-- a list written -/
theorem got_put {l : Nat} {a : Addr} {us : List W} {vs zs : List V} {w : W} {v : V} (g : Got G E α H (.ok w (S.set l (.lst us))) (Pv G Q)) (s : Sim G α S H) (ha : α[l]? = some a) (h : H a = some (.lst vs)) (r : RelWs G α H us zs) (rv : RelW G α H w v) :
    Q v (upd H a (.lst zs)) :=
  g α _ (List.prefix_refl _) (Le.put h rfl) (s.put ha h rfl ⟨zs, upd_same, r.mono (List.prefix_refl _) (Le.put h rfl)⟩) _ (rv.mono (List.prefix_refl _) (Le.put h rfl))
end

/-! ### names, constants -/
def eVar (i : Nat) : Rho → M W := fun ρ S => match ρ[i]? with
  | some (some w) => .ok w S
  | _ => .stuck
def eC (w : W) : Rho → M W := fun _ => pure w
section
variable {X : Cx} {G : Gx} {E : XK}
theorem pm_var (i : Nat) {x : Str} {pos : Pos} (hN : X.N[i]? = some x := by rfl) (hv : Vis X.env.scope x := by first | exact Or.inl rfl | exact Or.inr (Or.inl rfl) | exact Or.inr (Or.inr rfl)) (hd : (x == ("__debug__" : Str)) = false := by decide)
    (hcd : (x == ("__classdict__" : Str)) = false := by decide) : PE X (.Name x pos) (tM G E (eVar i)) := by
  refine ⟨fun pins s σ H Q I h => (pe_var hN hv hd hcd).run pins s σ H Q I ?_⟩
  obtain ⟨α, S, ρ, sm, r, g⟩ := h
  unfold eVar at g
  split at g
  · rename_i w e
    obtain ⟨v, e2, rv⟩ := r.at_ i w e
    exact ⟨v, e2, g.of_pure sm v rv⟩
  · exact False.elim g
theorem pm_c {e : Expr} {w : W} {v : V} (he : PE X e (tC v)) (r : ∀ α H, RelW G α H w v) : PE X e (tM G E (eC w)) := by
  refine ⟨fun pins s σ H Q I h => he.run pins s σ H Q I ?_⟩
  obtain ⟨α, S, ρ, sm, _, g⟩ := h
  exact g.of_pure sm v (r α H)
theorem pm_int {i j pos} : PE X (.Constant (.int i) j pos) (tM G E (eC (.int i))) := pm_c pe_int fun _ _ => .int i
theorem pm_bl {b j pos} : PE X (.Constant (.bool b) j pos) (tM G E (eC (.bl b))) := pm_c pe_bl fun _ _ => .bl b
theorem pm_non {j pos} : PE X (.Constant .none j pos) (tM G E (eC .non)) := pm_c pe_non fun _ _ => .non
theorem pm_str {x j pos} : PE X (.Constant (.str x) j pos) (tM G E (eC (.str x))) := pm_c pe_str fun _ _ => .str x
/-- a module's int -/
theorem pm_gint {x : Str} {i : Int} {t : Tok} {pos : Pos} (hg : Gl X x) (hm : X.mg x = some (.int i t)) (hd : (x == ("__debug__" : Str)) = false := by decide) : PE X (.Name x pos) (tM G E (eC (.int i))) := pm_c (pe_glob (v := .int i) hg hm ⟨t, rfl⟩ hd) fun _ _ => .int i
end

/-! ### operators -/
def eOp (g : W → W → M W) (a b : Rho → M W) : Rho → M W := fun ρ => a ρ >>= fun x => b ρ >>= fun y => g x y
def eUn (g : W → M W) (a : Rho → M W) : Rho → M W := fun ρ => a ρ >>= g
def OpS (G : Gx) (E : XK) (r : R2) (g : W → W → M W) : Prop := ∀ (α : List Addr) (S : Store) (H : Hp) (x y : W) (u v : V) (Q : VK), Sim G α S H → RelW G α H x u → RelW G α H y v → Got G E α H (g x y S) (Pv G Q) → r u v H Q
section
variable {X : Cx} {G : Gx} {E : XK} {a b : Expr} {ma mb : Rho → M W} {pos : Pos} {r : R2} {g : W → W → M W}
theorem tM_op (hs : OpS G E r g) {σ : L2.St} {H : Hp} {Q : VK} (h : tM G E (eOp g ma mb) σ H Q) : tOp r (tM G E ma) (tM G E mb) σ H Q := by
  obtain ⟨α, S, ρ, s, rr, gg⟩ := h
  exact Got.node s rr gg fun x u α1 S1 H1 p1 l1 s1 r1 ru g1 => Got.node s1 r1 g1 fun y v α2 S2 H2 p2 l2 s2 r2 rv g2 => hs α2 S2 H2 x y u v Q s2 (ru.mono p2 l2) rv g2
theorem pm_op {op : Operator} (ho : OpR X (binaryOp op) r) (hs : OpS G E r g) (ha : PE X a (tM G E ma)) (hb : PE X b (tM G E mb)) : PE X (.BinOp a op b pos) (tM G E (eOp g ma mb)) :=
  ⟨fun pins s σ H Q I h => (pe_op ho ha hb).run pins s σ H Q I (tM_op hs h)⟩
theorem pm_cmp {op : CmpOp} (ho : OpR X (compareOp op) r) (hs : OpS G E r g) (ha : PE X a (tM G E ma)) (hb : PE X b (tM G E mb)) (hm : behindInMarks op b = false) : PE X (.Compare a [op] [b] pos) (tM G E (eOp g ma mb)) :=
  ⟨fun pins s σ H Q I h => (pe_cmpR ho ha hb hm).run pins s σ H Q I (tM_op hs h)⟩
theorem pm_ix (ho : IxR X r) (hs : OpS G E r g) (ha : PE X a (tM G E ma)) (hb : PE X b (tM G E mb)) (hp : PlainIx b) : PE X (.Subscript a b pos) (tM G E (eOp g ma mb)) :=
  ⟨fun pins s σ H Q I h => (pe_ix ho ha hb hp).run pins s σ H Q I (tM_op hs h)⟩
/-- whole numbers in, a value out -/
def gI (C : Int → Int → Prop) [∀ i j, Decidable (C i j)] (f : Int → Int → W) : W → W → M W := fun x y S => match x, y with
  | .int i, .int j => if C i j then .ok (f i j) S else .stuck
  | _, _ => .stuck
theorem opS_I {C : Int → Int → Prop} [∀ i j, Decidable (C i j)] {f : Int → Int → W} {fv : Int → Int → V} (hf : ∀ α H i j, RelW G α H (f i j) (fv i j)) : OpS G E (rI C fv) (gI C f) := by
  intro α S H x y u v Q s ru rv gg
  unfold gI at gg
  split at gg
  · rename_i i j
    rw [ru.int_inv, rv.int_inv]
    split at gg
    · rename_i hc
      exact ⟨i, j, rfl, rfl, hc, gg.of_pure s _ (hf α H i j)⟩
    · exact False.elim gg
  · exact False.elim gg
theorem opS_I0 {f : Int → Int → W} {fv : Int → Int → V} (hf : ∀ α H i j, RelW G α H (f i j) (fv i j)) : OpS G E (rI0 fv) (gI (fun _ _ => True) f) := by
  intro α S H x y u v Q s ru rv gg
  obtain ⟨i, j, h1, h2, _, q⟩ := opS_I (G := G) (E := E) hf α S H x y u v Q s ru rv gg
  exact ⟨i, j, h1, h2, q⟩
abbrev gSub : W → W → M W := gI (fun _ _ => True) fun i j => .int (i - j)
abbrev gFdv : W → W → M W := gI (fun _ j => 0 < j ∧ j.natAbs.log2 < 9000) fun i j => .int (i / j)
abbrev gMod : W → W → M W := gI (fun _ j => 0 < j) fun i j => .int (i % j)
abbrev gPow : W → W → M W := gI (fun i j => 0 ≤ j ∧ j ≤ 1000000 ∧ i.natAbs < 2 ^ 64) fun i j => .int (i ^ j.toNat)
abbrev gLt : W → W → M W := gI (fun _ _ => True) fun i j => .bl (decide (i < j))
abbrev gLe : W → W → M W := gI (fun _ _ => True) fun i j => .bl (decide (i ≤ j))
abbrev gGt : W → W → M W := gI (fun _ _ => True) fun i j => .bl (decide (j < i))
abbrev gGe : W → W → M W := gI (fun _ _ => True) fun i j => .bl (decide (j ≤ i))
theorem os_sub : OpS G E (rI0 fun i j => .int (i - j)) gSub := opS_I0 fun _ _ _ _ => .int _
theorem os_fdv : OpS G E (rI CDivW fun i j => .int (i / j)) gFdv := opS_I (C := fun _ j => 0 < j ∧ j.natAbs.log2 < 9000) fun _ _ _ _ => .int _
theorem os_mod : OpS G E (rI (fun _ j => 0 < j) fun i j => .int (i % j)) gMod := opS_I fun _ _ _ _ => .int _
theorem os_pow : OpS G E (rI CPow fun i j => .int (i ^ j.toNat)) gPow := opS_I (C := fun i j => 0 ≤ j ∧ j ≤ 1000000 ∧ i.natAbs < 2 ^ 64) fun _ _ _ _ => .int _
theorem os_lt : OpS G E (rI0 fun i j => .bl (decide (i < j))) gLt := opS_I0 fun _ _ _ _ => .bl _
theorem os_le : OpS G E (rI0 fun i j => .bl (decide (i ≤ j))) gLe := opS_I0 fun _ _ _ _ => .bl _
theorem os_gt : OpS G E (rI0 fun i j => .bl (decide (j < i))) gGt := opS_I0 fun _ _ _ _ => .bl _
theorem os_ge : OpS G E (rI0 fun i j => .bl (decide (j ≤ i))) gGe := opS_I0 fun _ _ _ _ => .bl _
/-! + of ints, texts, tuples, lists -/
def gAdd (x y : W) : M W := fun S => match x, y with
  | .int i, .int j => .ok (.int (i + j)) S
  | .str a, .str b => if a.length + b.length ≤ sizeLine then .ok (.str (a ++ b)) S else .stuck
  | .tup a, .tup b => newT (a ++ b) S
  | .ref l, .ref m => match muL S l, muL S m with
    | some a, some b => newL (a ++ b) S
    | _, _ => .stuck
  | _, _ => .stuck
def rAddA (K : PySem.W.Frag) : R2 := fun x y H Q => rI0 (fun i j => .int (i + j)) x y H Q ∨ (fun x y H Q => (∃ i j, x = .str i ∧ y = .str j ∧ i.length + j.length ≤ sizeLine ∧ Q (.str (i ++ j)) H) ∨ (fun x y H Q => rCatA K x y H Q ∨ rCat x y H Q) x y H Q) x y H Q
theorem op_addA : OpR X (binaryOp .Add) (rAddA X.K) := OpR.or op_add (OpR.or op_add_str (OpR.or op_catA op_cat))
theorem RelWs.isNil {α : List Addr} {H : Hp} {ws : List W} {vs : List V} (r : RelWs G α H ws vs) : vs = [] → ws = [] := fun e => by
  subst e
  cases r
  rfl
theorem os_add : OpS G E (rAddA G.K) gAdd := by
  intro α S H x y u v Q s ru rv gg
  unfold gAdd at gg
  split at gg
  · rw [ru.int_inv, rv.int_inv]
    exact .inl ⟨_, _, rfl, rfl, got_pureW gg s (.int _)⟩
  · rw [ru.str_inv, rv.str_inv]
    split at gg
    · rename_i hz
      exact .inr (.inl ⟨_, _, rfl, rfl, hz, got_pureW gg s (.str _)⟩)
    · exact False.elim gg
  · obtain ⟨a, vs, rfl, h1, r1⟩ := ru.tup_inv
    obtain ⟨b, zs, rfl, h2, r2⟩ := rv.tup_inv
    refine .inr (.inr (.inl ⟨a, b, vs, zs, rfl, rfl, h1, h2, ?_, fun e => ?_, fun _ e => ?_, fun _ _ => ?_⟩))
    · have q := (got_newT gg s (r1.append r2)).1
      rwa [List.length_append] at q
    · have e2 := r1.isNil e
      subst e2
      exact got_oldT gg s h2 r2
    · have e2 := r2.isNil e
      subst e2
      rw [List.append_nil] at gg
      exact got_oldT gg s h1 r1
    · exact (got_newT gg s (r1.append r2)).2
  · obtain ⟨a, rfl, h1⟩ := ru.ref_inv
    obtain ⟨b, rfl, h2⟩ := rv.ref_inv
    split at gg
    · rename_i us zs e1 e2
      obtain ⟨vs, k1, r1⟩ := s.mu e1 h1
      obtain ⟨xs, k2, r2⟩ := s.mu e2 h2
      have q := got_newL gg s (r1.append r2)
      exact .inr (.inr (.inr ⟨a, b, vs, xs, rfl, rfl, k1, k2, by rw [← List.length_append]; exact q.1, q.2⟩))
    · exact False.elim gg
  · exact False.elim gg
/-! * of ints, of a list or a tuple and an int -/
def mulOk (i j : Int) : Prop := (-(2 ^ 64) < i ∧ i < 2 ^ 64) ∨ (-(2 ^ 64) < j ∧ j < 2 ^ 64) ∨ i.natAbs.log2 + j.natAbs.log2 < 1000000
instance (i j : Int) : Decidable (mulOk i j) := inferInstanceAs (Decidable (_ ∨ _ ∨ _))
end
end Mi

set_option maxHeartbeats 4000000
/-! Mi, tuple * int for all counts: the same tuple, an empty one, a longer one. -/
namespace Mi
open PySem PySem.Spec PyProof.Rows L2
abbrev tupObj (items : Array Value) (n : Nat) (dd : Option Addr) (sl : Array (Option Value)) : Obj := { cls := .type "tuple", dict := dd, data := .seq items n, slots := sl }
theorem tupMul_same (l : Addr) (items : Array Value) (n : Nat) (dd : Option Addr) (sl : Array (Option Value)) (x : Int) (u : Tok) (c0 : (decide (x < -(2 ^ 63)) || decide (x ≥ 2 ^ 63)) = false) (c1 : (items.isEmpty || x == 1) = true) :
    Meets (Builtin.«tuple.__mul__» ⟨[.ref l, .int x u], []⟩) (fun _ R s => s.heap.get? l = some (tupObj items n dd sl) ∧ R (.ok (.ret (Value.ref l))) s) :=
  .of_wp fun prog w A R s h => by
    obtain ⟨hp, g, d, tk, os⟩ := s
    obtain ⟨hl, h⟩ := h
    have f1 := AutoSeq1.idx_int
    wp_walk using wpAny_loadPart' hl
    repeat (first
      | (refine wpAny_ite_false (decide_eq_false (by rw [c0]; simp)) ?_; wp_walk using wpAny_loadPart' hl)
      | (refine wpAny_ite_true (decide_eq_true (by rw [c1])) ?_; wp_walk using wpAny_loadPart' hl))
    exact ⟨_, rfl, h⟩
theorem tupMul_none (l : Addr) (items : Array Value) (n : Nat) (dd : Option Addr) (sl : Array (Option Value)) (x : Int) (u : Tok) (c0 : (decide (x < -(2 ^ 63)) || decide (x ≥ 2 ^ 63)) = false) (c1 : (items.isEmpty || x == 1) = false) (c2 : (decide (x ≤ 0) || items.isEmpty) = true) :
    Meets (Builtin.«tuple.__mul__» ⟨[.ref l, .int x u], []⟩) (fun _ R s => s.heap.get? l = some (tupObj items n dd sl) ∧
      R (.ok (.ret (Value.ref s.heap.objs.size))) { s with heap := s.heap.push { cls := Value.type "tuple", data := Data.seq #[] }, toks := s.toks }) :=
  .of_wp fun prog w A R s h => by
    obtain ⟨hp, g, d, tk, os⟩ := s
    obtain ⟨hl, h⟩ := h
    have f1 := AutoSeq1.idx_int
    wp_walk using wpAny_loadPart' hl
    repeat (first
      | (refine wpAny_ite_false (decide_eq_false (by rw [c0]; simp)) ?_; wp_walk using wpAny_loadPart' hl)
      | (refine wpAny_ite_false (decide_eq_false (by rw [c1]; simp)) ?_; wp_walk using wpAny_loadPart' hl)
      | (refine wpAny_ite_true (decide_eq_true (by rw [c2])) ?_; wp_walk using wpAny_loadPart' hl))
    exact ⟨_, rfl, h⟩
/-- t * k, by cases of k -/
def rRepA (K : PySem.W.Frag) : R2 := fun x y H Q => ∃ l k xs, x = .ref l ∧ y = .int k ∧ SqT K H l xs ∧ -(2 ^ 63) ≤ k ∧ k < 2 ^ 63 ∧ (xs = [] ∨ k = 1 → Q (.ref l) H) ∧ (xs ≠ [] → k ≤ 0 → ∀ p, H p = none → Q (.ref p) (upd H p (.tup []))) ∧
  (xs ≠ [] → 2 ≤ k → k ≤ 1000 ∧ xs.length ≤ 1000 ∧ ∀ p, H p = none → Q (.ref p) (upd H p (.tup (List.replicate k.toNat xs).flatten)))
section
variable {X : Cx}
theorem op_repA : OpR X (binaryOp .Mult) (rRepA X.K) := by
  intro pins s σ H x y v u Q I rx ry h
  obtain ⟨l, k, xs, rfl, rfl, hT, hlo, hhi, q0, q1, q2⟩ := h
  by_cases hb : xs ≠ [] ∧ 2 ≤ k
  · obtain ⟨a1, a2, a3⟩ := q2 hb.1 hb.2
    exact op_repT pins s σ H _ _ v u Q I rx ry ⟨l, k, xs, rfl, rfl, hT, hb.1, hb.2, a1, a2, a3⟩
  cases rx
  obtain ⟨t, rfl⟩ := ry
  obtain ⟨its, r, ⟨⟨cls, dd, data, sl⟩, ho, hc, n, hd⟩, hs⟩ := I.tuple hT
  simp only at hc hd
  subst hc hd
  have hle : its.length = xs.length := r.length.symm
  have c0 : (decide (k < -(2 ^ 63)) || decide (k ≥ 2 ^ 63)) = false := by
    rw [decide_eq_false (by omega), decide_eq_false (by omega)] <;> rfl
  have hemp : its.toArray.isEmpty = decide (xs = []) := by
    cases its with
    | nil =>
      have : xs = [] := List.eq_nil_of_length_eq_zero hle.symm
      rw [decide_eq_true this]
      rfl
    | cons a b =>
      have : xs ≠ [] := fun e => by rw [e] at hle; cases hle
      rw [decide_eq_false this]
      rfl
  have go : ∀ {R : Value → Shared → Prop} {S : PySem.Spec}, Meets (Builtin.«tuple.__mul__» ⟨[.ref l, .int k t], []⟩) S → S X.A (wants (EP X pins σ Q) X.xe) s →
      wpAny (model X.prog X.w) X.A (binaryOp .Mult (.ref l) (.int k t)) (EP X pins σ Q) X.xe s := fun {R S} mt q =>
    wpAny_binaryOp_repeat_ref (T := "tuple") (U := "int") (by decide) ⟨_, ho, rfl⟩ (fun z => typeIs_int z k t) noFill_tuple_mul F.fills_int_mul F.slot_int_rmul repeat_tuple F.slot_int_index.lookup
      (call_meets F.slot_int_rmul (typeIs_int s k t) F.entry_int_rmul (F.args_int_rmul_2 _ _) (int_rmul_tuple k t l its.toArray n dd sl)
        ⟨ho, rfl, ⟨_, ho, rfl⟩, call_meets F.slot_tuple_mul ⟨_, ho, rfl⟩ F.entry_tuple_mul (F.args_tuple_mul_2 _ _) mt q⟩)
  by_cases h1 : xs = [] ∨ k = 1
  · have c1 : (its.toArray.isEmpty || k == 1) = true := by
      rw [hemp]
      rcases h1 with z | z
      · rw [decide_eq_true z]; rfl
      · subst z
        simp
    exact go (R := fun _ _ => True) (tupMul_same l its.toArray n dd sl k t c0 c1) ⟨ho, .ref l, H, I, rfl, q0 h1⟩
  · have hx : xs ≠ [] := fun z => h1 (.inl z)
    have z1 : k ≠ 1 := fun z => h1 (.inr z)
    have hk : k ≤ 0 := by
      have z2 : ¬ 2 ≤ k := fun z => hb ⟨hx, z⟩
      omega
    have c1 : (its.toArray.isEmpty || k == 1) = false := by
      rw [hemp, decide_eq_false hx, Bool.false_or]
      exact beq_eq_false_iff_ne.mpr z1
    have c2 : (decide (k ≤ 0) || its.toArray.isEmpty) = true := by
      rw [decide_eq_true hk]
      rfl
    refine go (R := fun _ _ => True) (tupMul_none l its.toArray n dd sl k t c0 c1 c2) ⟨ho, .ref s.heap.objs.size, upd H s.heap.objs.size (.tup []), ?_, rfl, q1 hx hk _ (I.hok.fresh (Nat.le_refl _))⟩
    exact I.laid (t' := s.toks) (o := .tup []) (fun b ob q => Heap.get?_push_of_some _ q) (Nat.le_refl _) ⟨Nat.zero_le _, [], .nil, IsTup.new _ _⟩
end
def rMulA (K : PySem.W.Frag) : R2 := fun x y H Q => rI CMul (fun i j => .int (i * j)) x y H Q ∨ (fun x y H Q => rI CMulW (fun i j => .int (i * j)) x y H Q ∨ (fun x y H Q => rRepA K x y H Q ∨ rRep x y H Q) x y H Q) x y H Q
theorem op_mulA {X : Cx} : OpR X (binaryOp .Mult) (rMulA X.K) := OpR.or op_mul (OpR.or op_mulW (OpR.or op_repA op_rep))
/-- t * k on values -/
def tupTimes (a : List W) (k : Int) : M W := fun S => if a = [] ∨ k = 1 then newT a S else if k ≤ 0 then newT [] S else if k ≤ 1000 ∧ a.length ≤ 1000 then newT (List.replicate k.toNat a).flatten S else .stuck
instance decNil {A : Type} (a : List A) : Decidable (a = []) := match a with
  | [] => .isTrue rfl
  | _ :: _ => .isFalse (fun h => by cases h)
def gMul (x y : W) : M W := fun S => match x, y with
  | .int i, .int j => if mulOk i j then .ok (.int (i * j)) S else .stuck
  | .ref l, .int k => match muL S l with
    | some a => if -(2 ^ 63) ≤ k ∧ k < 2 ^ 63 ∧ a.length * k.toNat ≤ sizeLine then newL (List.replicate k.toNat a).flatten S else .stuck
    | _ => .stuck
  | .tup a, .int k => if -(2 ^ 63) ≤ k ∧ k < 2 ^ 63 then tupTimes a k S else .stuck
  | _, _ => .stuck
section
variable {G : Gx} {E : XK} {α : List Addr} {H : Hp}
theorem RelWs.rep {ws : List W} {vs : List V} (r : RelWs G α H ws vs) : ∀ n, RelWs G α H (List.replicate n ws).flatten (List.replicate n vs).flatten
  | 0 => .nil
  | n + 1 => by
    rw [List.replicate_succ, List.replicate_succ, List.flatten_cons, List.flatten_cons]
    exact r.append (r.rep n)
theorem RelWs.isNil' {ws : List W} {vs : List V} (r : RelWs G α H ws vs) (h : ws = []) : vs = [] := by
  subst h
  cases r
  rfl
theorem os_mul : OpS G E (rMulA G.K) gMul := by
  intro α S H x y u v Q s ru rv gg
  unfold gMul at gg
  split at gg
  · rename_i i j
    rw [ru.int_inv, rv.int_inv]
    split at gg
    · rename_i hc
      have q := got_pureW (v := .int (i * j)) gg s (.int _)
      rcases hc with hc | hc | hc
      · exact .inl ⟨_, _, rfl, rfl, .inl hc, q⟩
      · exact .inl ⟨_, _, rfl, rfl, .inr hc, q⟩
      · exact .inr (.inl ⟨_, _, rfl, rfl, hc, q⟩)
    · exact False.elim gg
  · obtain ⟨a, rfl, h1⟩ := ru.ref_inv
    rw [rv.int_inv]
    split at gg
    · rename_i us e1
      obtain ⟨vs, k1, r1⟩ := s.mu e1 h1
      split at gg
      · rename_i hk
        have q := got_newL gg s (r1.rep _)
        exact .inr (.inr (.inr ⟨a, _, vs, rfl, rfl, k1, hk.1, hk.2.1, by rw [← r1.length]; exact hk.2.2, q.2⟩))
      · exact False.elim gg
    · exact False.elim gg
  · obtain ⟨a, vs, rfl, h1, r1⟩ := ru.tup_inv
    rw [rv.int_inv]
    split at gg
    · rename_i hk
      unfold tupTimes at gg
      refine .inr (.inr (.inl ⟨a, _, vs, rfl, rfl, h1, hk.1, hk.2, fun z => ?_, fun z1 z2 => ?_, fun z1 z2 => ?_⟩))
      · rw [if_pos (z.imp r1.isNil id)] at gg
        exact got_oldT gg s h1 r1
      · rw [if_neg (fun z => z.elim (fun z => z1 (r1.isNil' z)) (fun z => by omega)), if_pos z2] at gg
        exact (got_newT gg s .nil).2
      · rw [if_neg (fun z => z.elim (fun z => z1 (r1.isNil' z)) (fun z => by omega)), if_neg (by omega)] at gg
        split at gg
        · rename_i hz
          exact ⟨hz.1, by rw [← r1.length]; exact hz.2, (got_newT gg s (r1.rep _)).2⟩
        · exact False.elim gg
    · exact False.elim gg
  · exact False.elim gg
end
end Mi

set_option maxHeartbeats 1000000
/-! Mi, tests: truth of bools, and, or, not, conditional expressions, chains; == and != of data; is None. -/
namespace Mi
open PySem PySem.Spec PyProof.Rows L2

def asB : W → M Bool
  | .bl b => pure b
  | _ => M.stuck
def toB (m : Rho → M W) : Rho → M Bool := fun ρ => m ρ >>= asB
def bNot (m : Rho → M Bool) : Rho → M Bool := fun ρ => m ρ >>= fun b => pure (!b)
def bAnd (a b : Rho → M Bool) : Rho → M Bool := fun ρ => a ρ >>= fun x => if x = true then b ρ else pure false
def bOr (a b : Rho → M Bool) : Rho → M Bool := fun ρ => a ρ >>= fun x => if x = true then pure true else b ρ
def eAnd (a b : Rho → M W) : Rho → M W := fun ρ => a ρ >>= fun x => asB x >>= fun c => if c = true then b ρ else pure (.bl false)
def eOr (a b : Rho → M W) : Rho → M W := fun ρ => a ρ >>= fun x => asB x >>= fun c => if c = true then pure (.bl true) else b ρ
def eNot (a : Rho → M W) : Rho → M W := fun ρ => a ρ >>= fun x => asB x >>= fun c => pure (.bl (!c))
def eIf (c : Rho → M Bool) (a b : Rho → M W) : Rho → M W := fun ρ => c ρ >>= fun x => if x = true then a ρ else b ρ
def gNeg : W → M W
  | .int i => pure (.int (-i))
  | _ => M.stuck
section
variable {X : Cx} {G : Gx} {E : XK} {a b c e : Expr} {ma mb mc : Rho → M W} {ta tb : Rho → M Bool} {pos : Pos} {rest : List Expr}
theorem got_asB {α : List Addr} {S : Store} {H : Hp} {w : W} {v : V} {A : Type} {k : Bool → M A} {P : A → Store → List Addr → Hp → Prop} (g : Got G E α H ((asB w >>= k) S) P) (r : RelW G α H w v) : ∃ d, v = .bl d ∧ Got G E α H (k d S) P := by
  cases w with
  | bl d =>
    exact ⟨d, r.bl_inv, g⟩
  | _ => exact False.elim g
theorem pb_val (h : PE X e (tM G E ma)) (he : ∀ whole, isTrue e X.env whole = (do let v ← whole; standAt e.pos; holding [v] (truthy v)) := by intro _; rfl) : PT X e (tB G E (toB ma)) := by
  refine ⟨fun pins s σ H Q I hq => (pt_val h he).run pins s σ H Q I ?_⟩
  obtain ⟨α, S, ρ, sm, rr, gg⟩ := hq
  refine Got.node sm rr gg fun x u α1 S1 H1 p1 l1 s1 r1 ru g1 => ?_
  cases x with
  | bl d =>
    rw [ru.bl_inv]
    exact ⟨d, rfl, g1.of_pure s1 d rfl⟩
  | _ => exact False.elim g1
theorem pb_cmp {op : CmpOp} {r : R2} {g : W → W → M W} (ho : OpR X (compareOp op) r) (hs : OpS G E r g) (ha : PE X a (tM G E ma)) (hb : PE X b (tM G E mb)) (hm : behindInMarks op b = false) : PT X (.Compare a [op] [b] pos) (tB G E (toB (eOp g ma mb))) := by
  refine ⟨fun pins s σ H Q I hq => (pt_cmpR ho ha hb hm).run pins s σ H Q I ?_⟩
  obtain ⟨α, S, ρ, sm, rr, gg⟩ := hq
  have h2 : tM G E (eOp g ma mb) σ H (fun x H' => ∃ k, x = .bl k ∧ Q k H') := by
    refine ⟨α, S, ρ, sm, rr, (Got.bind gg).imp fun x S1 α1 H1 p1 l1 s1 g1 v rv => ?_⟩
    cases x with
    | bl d =>
      rw [rv.bl_inv]
      exact ⟨d, rfl, g1.of_pure s1 d rfl⟩
    | _ => exact False.elim g1
  exact tM_op hs h2
theorem pb_not (h : PT X e (tB G E ta)) : PT X (.UnaryOp .Not e pos) (tB G E (bNot ta)) := by
  refine ⟨fun pins s σ H Q I hq => (pt_not h).run pins s σ H Q I ?_⟩
  obtain ⟨α, S, ρ, sm, rr, gg⟩ := hq
  refine Got.node sm rr gg fun x u α1 S1 H1 p1 l1 s1 r1 ru g1 => ?_
  subst ru
  exact g1.of_pure s1 _ rfl
theorem pb_and1 (h : PT X e (tB G E ta)) : PW X (.BoolOp .And [e] pos) (tB G E ta) := pw_and1 h
theorem pb_or1 (h : PT X e (tB G E ta)) : PW X (.BoolOp .Or [e] pos) (tB G E ta) := pw_or1 h
theorem pb_and (h1 : PT X a (tB G E ta)) (h2 : PW X (.BoolOp .And (b :: rest) pos) (tB G E tb)) : PW X (.BoolOp .And (a :: b :: rest) pos) (tB G E (bAnd ta tb)) := by
  refine ⟨fun wh pins s σ H Q I hq => (pw_and h1 h2).run wh pins s σ H Q I ?_⟩
  obtain ⟨α, S, ρ, sm, rr, gg⟩ := hq
  refine Got.node sm rr gg fun x u α1 S1 H1 p1 l1 s1 r1 ru g1 => ?_
  subst ru
  cases x with
  | true => exact ⟨α1, S1, ρ, s1, r1, g1⟩
  | false => exact g1.of_pure s1 _ rfl
theorem pb_or (h1 : PT X a (tB G E ta)) (h2 : PW X (.BoolOp .Or (b :: rest) pos) (tB G E tb)) : PW X (.BoolOp .Or (a :: b :: rest) pos) (tB G E (bOr ta tb)) := by
  refine ⟨fun wh pins s σ H Q I hq => (pw_or h1 h2).run wh pins s σ H Q I ?_⟩
  obtain ⟨α, S, ρ, sm, rr, gg⟩ := hq
  refine Got.node sm rr gg fun x u α1 S1 H1 p1 l1 s1 r1 ru g1 => ?_
  subst ru
  cases x with
  | true => exact g1.of_pure s1 _ rfl
  | false => exact ⟨α1, S1, ρ, s1, r1, g1⟩
theorem pm_one {op} (h : PE X e (tM G E ma)) : PE X (.BoolOp op [e] pos) (tM G E ma) := pe_one h
theorem pm_and (h1 : PE X a (tM G E ma)) (h2 : PE X (.BoolOp .And (b :: rest) pos) (tM G E mb)) : PE X (.BoolOp .And (a :: b :: rest) pos) (tM G E (eAnd ma mb)) := by
  refine ⟨fun pins s σ H Q I hq => (pe_and h1 h2).run pins s σ H Q I ?_⟩
  obtain ⟨α, S, ρ, sm, rr, gg⟩ := hq
  refine Got.node sm rr gg fun x u α1 S1 H1 p1 l1 s1 r1 ru g1 => ?_
  obtain ⟨d, rfl, g2⟩ := got_asB g1 ru
  refine ⟨d, rfl, ?_⟩
  cases d with
  | true => exact ⟨α1, S1, ρ, s1, r1, g2⟩
  | false => exact g2.of_pure s1 _ (.bl false)
theorem pm_or (h1 : PE X a (tM G E ma)) (h2 : PE X (.BoolOp .Or (b :: rest) pos) (tM G E mb)) : PE X (.BoolOp .Or (a :: b :: rest) pos) (tM G E (eOr ma mb)) := by
  refine ⟨fun pins s σ H Q I hq => (pe_or h1 h2).run pins s σ H Q I ?_⟩
  obtain ⟨α, S, ρ, sm, rr, gg⟩ := hq
  refine Got.node sm rr gg fun x u α1 S1 H1 p1 l1 s1 r1 ru g1 => ?_
  obtain ⟨d, rfl, g2⟩ := got_asB g1 ru
  refine ⟨d, rfl, ?_⟩
  cases d with
  | true => exact g2.of_pure s1 _ (.bl true)
  | false => exact ⟨α1, S1, ρ, s1, r1, g2⟩
theorem pm_not (h1 : PE X a (tM G E ma)) : PE X (.UnaryOp .Not a pos) (tM G E (eNot ma)) := by
  refine ⟨fun pins s σ H Q I hq => (pe_not h1).run pins s σ H Q I ?_⟩
  obtain ⟨α, S, ρ, sm, rr, gg⟩ := hq
  refine Got.node sm rr gg fun x u α1 S1 H1 p1 l1 s1 r1 ru g1 => ?_
  obtain ⟨d, rfl, g2⟩ := got_asB g1 ru
  exact ⟨d, rfl, g2.of_pure s1 _ (.bl _)⟩
theorem pm_if (hc : PT X c (tB G E ta)) (h1 : PE X a (tM G E ma)) (h2 : PE X b (tM G E mb)) : PE X (.IfExp c a b pos) (tM G E (eIf ta ma mb)) := by
  refine ⟨fun pins s σ H Q I hq => (pe_ifExp hc h1 h2).run pins s σ H Q I ?_⟩
  obtain ⟨α, S, ρ, sm, rr, gg⟩ := hq
  refine Got.node sm rr gg fun x u α1 S1 H1 p1 l1 s1 r1 ru g1 => ?_
  subst ru
  cases x with
  | true => exact ⟨α1, S1, ρ, s1, r1, g1⟩
  | false => exact ⟨α1, S1, ρ, s1, r1, g1⟩
theorem pm_neg (h1 : PE X a (tM G E ma)) : PE X (.UnaryOp .USub a pos) (tM G E (eUn gNeg ma)) := by
  refine ⟨fun pins s σ H Q I hq => (pe_un un_neg h1).run pins s σ H Q I ?_⟩
  obtain ⟨α, S, ρ, sm, rr, gg⟩ := hq
  refine Got.node sm rr gg fun x u α1 S1 H1 p1 l1 s1 r1 ru g1 => ?_
  cases x with
  | int i =>
    rw [ru.int_inv]
    exact ⟨i, rfl, g1.of_pure s1 _ (.int _)⟩
  | _ => exact False.elim g1
/-- a op b op' c -/
def eChain (g g' : W → W → M W) (a b c : Rho → M W) : Rho → M W := fun ρ => a ρ >>= fun x => b ρ >>= fun y => g x y >>= fun z => asB z >>= fun d => if d = true then c ρ >>= fun u => g' y u else pure (.bl false)
/-- an operator whose answer is told behind it -/
def OpSk (G : Gx) (E : XK) (r : R2) (g : W → W → M W) : Prop := ∀ (α : List Addr) (S : Store) (H : Hp) (x y : W) (u v : V) (Q : VK), Sim G α S H → RelW G α H x u → RelW G α H y v → Got G E α H (g x y S) (Pv G Q) → r u v H Q
theorem got_Pv {α : List Addr} {S : Store} {H : Hp} {x : M W} {k : W → M W} {P : W → Store → List Addr → Hp → Prop} (g : Got G E α H ((x >>= k) S) P) : Got G E α H (x S) (Pv G fun v H' => ∃ w α' S', Sim G α' S' H' ∧ α <+: α' ∧ Le H H' ∧ RelW G α' H' w v ∧ Got G E α' H' (k w S') P) :=
  (Got.bind g).imp fun w S' α' H' p l s g' v rv => ⟨w, α', S', s, p, l, rv, g'⟩
theorem tM_chain {g g' : W → W → M W} {r r' : R2} (hs : OpS G E r g) (hs' : OpS G E r' g') {σ : L2.St} {H : Hp} {Q : VK} (h : tM G E (eChain g g' ma mb mc) σ H Q) : tChain r r' (tM G E ma) (tM G E mb) (tM G E mc) σ H Q := by
  obtain ⟨α, S, ρ, sm, rr, gg⟩ := h
  refine Got.node sm rr gg fun x u α1 S1 H1 p1 l1 s1 r1 ru g1 => Got.node s1 r1 g1 fun y v α2 S2 H2 p2 l2 s2 r2 rv g2 => ?_
  refine hs α2 S2 H2 x y u v _ s2 (ru.mono p2 l2) rv ((got_Pv g2).imp fun w S3 α3 H3 _ _ _ q z rz => ?_)
  obtain ⟨w', α', S', s3, p3, l3, rw_, g3⟩ := q z rz
  obtain ⟨d, rfl, g4⟩ := got_asB g3 rw_
  refine ⟨d, rfl, ?_⟩
  cases d with
  | true =>
    refine Got.node s3 (r2.mono p3 l3) g4 fun t tv α4 S4 H4 p4 l4 s4 r4 rt g5 => ?_
    exact hs' α4 S4 H4 y t v tv Q s4 ((rv.mono p3 l3).mono p4 l4) rt g5
  | false => exact g4.of_pure s3 _ (.bl false)
theorem pm_chain {op op' : CmpOp} {r r' : R2} {g g' : W → W → M W} (ho : OpR X (compareOp op) r) (ho' : OpR X (compareOp op') r') (hs : OpS G E r g) (hs' : OpS G E r' g') (ha : PE X a (tM G E ma)) (hb : PE X b (tM G E mb)) (hc : PE X c (tM G E mc))
    (hm : lastMarks [op, op'] [b, c] = false := by with_unfolding_all rfl) : PE X (.Compare a [op, op'] [b, c] pos) (tM G E (eChain g g' ma mb mc)) :=
  ⟨fun pins s σ H Q I h => (pe_chain ho ho' ha hb hc hm).run pins s σ H Q I (tM_chain hs hs' h)⟩
end

/-! ### data -/
def allSome {A : Type} : List (Option A) → Option (List A)
  | [] => some []
  | none :: _ => none
  | some a :: r => (allSome r).map (a :: ·)
def dataW : Nat → Store → W → Option PyData
  | _, _, .non => some .none
  | _, _, .bl b => some (.bool b)
  | _, _, .int i => some (.int i)
  | _, _, .str x => some (.str x)
  | n + 1, S, .tup ws => (allSome (ws.map (dataW n S))).map .tuple
  | n + 1, S, .ref l => match rdL S l with
    | some ws => (allSome (ws.map (dataW n S))).map .list
    | none => none
  | _, _, _ => none
section
variable {X : Cx} {G : Gx} {E : XK} {α : List Addr} {S : Store} {H : Hp}
theorem dataW_list {n : Nat} (ih : ∀ {w : W} {v : V} {d : PyData}, RelW G α H w v → dataW n S w = some d → Dp G.K H v d) :
    ∀ {ws : List W} {vs : List V} {ds : List PyData}, RelWs G α H ws vs → allSome (ws.map (dataW n S)) = some ds → DpAll G.K H vs ds
  | [], _, _, r, e => by
    cases r
    cases e
    exact .nil
  | w :: ws, _, ds, r, e => by
    cases r with
    | cons h r =>
      rw [List.map_cons] at e
      cases q : dataW n S w with
      | none =>
        rw [q] at e
        cases e
      | some d =>
        rw [q] at e
        cases q2 : allSome (ws.map (dataW n S)) with
        | none =>
          unfold allSome at e
          rw [q2] at e
          cases e
        | some ds' =>
          unfold allSome at e
          rw [q2] at e
          cases e
          exact .cons (ih h q) (dataW_list ih r q2)
theorem dataW_ok (sm : Sim G α S H) : ∀ (n : Nat) {w : W} {v : V} {d : PyData}, RelW G α H w v → dataW n S w = some d → Dp G.K H v d := by
  intro n
  induction n with
  | zero =>
    intro w v d r e
    cases w with
    | non => cases r.non_inv; unfold dataW at e; cases e; exact .non
    | bl b => cases r.bl_inv; unfold dataW at e; cases e; exact .bl b
    | int i => cases r.int_inv; unfold dataW at e; cases e; exact .int i
    | str x => cases r.str_inv; unfold dataW at e; cases e; exact .str x
    | tup ws => unfold dataW at e; cases e
    | ref l => unfold dataW at e; cases e
    | exc c => unfold dataW at e; cases e
  | succ n ih =>
    intro w v d r e
    cases w with
    | non => cases r.non_inv; unfold dataW at e; cases e; exact .non
    | bl b => cases r.bl_inv; unfold dataW at e; cases e; exact .bl b
    | int i => cases r.int_inv; unfold dataW at e; cases e; exact .int i
    | str x => cases r.str_inv; unfold dataW at e; cases e; exact .str x
    | tup ws =>
      obtain ⟨a, vs, rfl, h, rs⟩ := r.tup_inv
      unfold dataW at e
      cases q : allSome (ws.map (dataW n S)) with
      | none => rw [q] at e; cases e
      | some ds =>
        rw [q] at e
        cases e
        exact .tup h (dataW_list ih rs q)
    | ref l =>
      obtain ⟨a, rfl, h⟩ := r.ref_inv
      unfold dataW at e
      split at e
      · rename_i ws hl
        obtain ⟨vs, h1, rs⟩ := sm.rd hl h
        cases q : allSome (ws.map (dataW n S)) with
        | none => rw [q] at e; cases e
        | some ds =>
          rw [q] at e
          cases e
          exact .lst h1 (dataW_list ih rs q)
      · cases e
    | exc c => unfold dataW at e; cases e
/-- how deep data are read -/
abbrev deepN : Nat := 8
def gEqB (neg : Bool) (x y : W) : M W := fun S => match dataW deepN S x, dataW deepN S y with
  | some d, some e => if SeqAt.shaped d = true ∧ SeqAt.shaped e = true then .ok (.bl (if neg = true then !PyData.eqv d e else PyData.eqv d e)) S else .stuck
  | _, _ => .stuck
abbrev gEq := gEqB false
abbrev gNe := gEqB true
theorem os_eq : OpS G E (rEqD G.K) gEq := by
  intro α S H x y u v Q s ru rv gg
  unfold gEq gEqB at gg
  split at gg
  · rename_i d e h1 h2
    split at gg
    · rename_i hs
      exact ⟨d, e, dataW_ok s _ ru h1, dataW_ok s _ rv h2, hs.1, hs.2, gg.of_pure s _ (.bl _)⟩
    · exact False.elim gg
  · exact False.elim gg
theorem os_ne : OpS G E (rNeD G.K) gNe := by
  intro α S H x y u v Q s ru rv gg
  unfold gNe gEqB at gg
  split at gg
  · rename_i d e h1 h2
    split at gg
    · rename_i hs
      exact ⟨d, e, dataW_ok s _ ru h1, dataW_ok s _ rv h2, hs.1, hs.2, gg.of_pure s _ (.bl _)⟩
    · exact False.elim gg
  · exact False.elim gg
/-! is None -/
def isNone : W → Bool
  | .non => true
  | _ => false
def gIsN : W → M W := fun w => pure (.bl (isNone w))
def gNotN : W → M W := fun w => pure (.bl (!isNone w))
theorem RelW.isNone {w : W} {v : V} (r : RelW G α H w v) : decide (v = .non) = isNone w := by
  cases r <;> first | rfl | exact decide_eq_false (by intro z; cases z)
variable {a : Expr} {ma : Rho → M W} {pos pos' : Pos} {j}
theorem pc_isNm (h : PE X a (tM G E ma)) : PC X .Is a (.Constant .none j pos') (tM G E (eUn gIsN ma)) := by
  refine ⟨fun pins s σ H Q I hq => (pc_isN h).run pins s σ H Q I ?_⟩
  obtain ⟨α, S, ρ, sm, rr, gg⟩ := hq
  refine Got.node sm rr gg fun x u α1 S1 H1 p1 l1 s1 r1 ru g1 => ?_
  rw [ru.isNone]
  exact g1.of_pure s1 _ (.bl _)
theorem pc_notNm (h : PE X a (tM G E ma)) : PC X .IsNot a (.Constant .none j pos') (tM G E (eUn gNotN ma)) := by
  refine ⟨fun pins s σ H Q I hq => (pc_notN h).run pins s σ H Q I ?_⟩
  obtain ⟨α, S, ρ, sm, rr, gg⟩ := hq
  refine Got.node sm rr gg fun x u α1 S1 H1 p1 l1 s1 r1 ru g1 => ?_
  rw [ru.isNone]
  exact g1.of_pure s1 _ (.bl _)
theorem pm_isN (h : PE X a (tM G E ma)) : PE X (.Compare a [.Is] [.Constant .none j pos'] pos) (tM G E (eUn gIsN ma)) := pe_cmp (pc_isNm h)
theorem pm_notN (h : PE X a (tM G E ma)) : PE X (.Compare a [.IsNot] [.Constant .none j pos'] pos) (tM G E (eUn gNotN ma)) := pe_cmp (pc_notNm h)
theorem tB_of {e : Expr} {m : Rho → M W} (h : PT X e (L2.tB (tM G E m))) : PT X e (tB G E (toB m)) := by
  refine ⟨fun pins s σ H Q I hq => h.run pins s σ H Q I ?_⟩
  obtain ⟨α, S, ρ, sm, rr, gg⟩ := hq
  refine Got.node sm rr gg fun x u α1 S1 H1 p1 l1 s1 r1 ru g1 => ?_
  cases x with
  | bl d =>
    rw [ru.bl_inv]
    exact ⟨d, rfl, g1.of_pure s1 d rfl⟩
  | _ => exact False.elim g1
theorem pb_isN (h : PE X a (tM G E ma)) : PT X (.Compare a [.Is] [.Constant .none j pos'] pos) (tB G E (toB (eUn gIsN ma))) := tB_of (pt_cmp (pc_isNm h))
theorem pb_notN (h : PE X a (tM G E ma)) : PT X (.Compare a [.IsNot] [.Constant .none j pos'] pos) (tB G E (toB (eUn gNotN ma))) := tB_of (pt_cmp (pc_notNm h))
end
end Mi

set_option maxHeartbeats 1000000
/-! Mi, collections: arguments, displays, subscripts, slices, built-in functions, methods of lists, dicts with text keys. -/
namespace Mi
open PySem PySem.Spec PyProof.Rows L2

/-! ### arguments, displays -/
structure PAn (X : Cx) (G : Gx) (E : XK) (es : List Expr) (m : Rho → M (List W)) : Prop where
  pa : PA X es (tA G E m)
  len : ∀ ρ S ws S', m ρ S = .ok ws S' → ws.length = es.length
def aNil : Rho → M (List W) := fun _ => pure []
def aCons (a : Rho → M W) (r : Rho → M (List W)) : Rho → M (List W) := fun ρ => a ρ >>= fun x => r ρ >>= fun xs => pure (x :: xs)
theorem bind_inv {A B : Type} {m : M A} {k : A → M B} {S S' : Store} {b : B} (h : (m >>= k) S = .ok b S') : ∃ a S1, m S = .ok a S1 ∧ k a S1 = .ok b S' := by
  cases e : m S with
  | stuck => rw [bind_stuck e] at h; cases h
  | raise x S1 => rw [bind_raise e] at h; cases h
  | ok a S1 => rw [bind_ok e] at h; exact ⟨a, S1, rfl, h⟩
/-- the items of a list or a tuple -/
def seqOf : W → M (List W) := fun w S => match w with
  | .tup ws => .ok ws S
  | .ref l => match rdL S l with
    | some ws => .ok ws S
    | none => .stuck
  | _ => .stuck
def aStar (a : Rho → M W) (r : Rho → M (List W)) : Rho → M (List W) := fun ρ => a ρ >>= fun x => seqOf x >>= fun us => r ρ >>= fun xs => pure (us ++ xs)
def eTup (m : Rho → M (List W)) : Rho → M W := fun ρ => m ρ >>= newT
def eLst (m : Rho → M (List W)) : Rho → M W := fun ρ => m ρ >>= newL
section
variable {X : Cx} {G : Gx} {E : XK} {e : Expr} {es : List Expr} {me : Rho → M W} {mr : Rho → M (List W)} {pos p : Pos}
theorem got_seqOf {α : List Addr} {S : Store} {H : Hp} {w : W} {v : V} {A : Type} {k : List W → M A} {P : A → Store → List Addr → Hp → Prop} (g : Got G E α H ((seqOf w >>= k) S) P) (s : Sim G α S H) (r : RelW G α H w v) :
    ∃ a vs us, v = .ref a ∧ (SqT G.K H a vs ∨ SqL G.K H a vs) ∧ RelWs G α H us vs ∧ Got G E α H (k us S) P := by
  cases w with
  | tup ws =>
    obtain ⟨a, vs, rfl, h, rs⟩ := r.tup_inv
    exact ⟨a, vs, ws, rfl, .inl h, rs, g⟩
  | ref l =>
    obtain ⟨a, rfl, h⟩ := r.ref_inv
    cases q : rdL S l with
    | none =>
      have : (seqOf (.ref l) >>= k) S = .stuck := bind_stuck (by show (match rdL S l with | some ws => _ | none => _) = _; rw [q])
      rw [this] at g
      exact False.elim g
    | some ws =>
      have : (seqOf (.ref l) >>= k) S = k ws S := bind_ok (by show (match rdL S l with | some ws => _ | none => _) = _; rw [q])
      rw [this] at g
      obtain ⟨vs, h1, rs⟩ := s.rd q h
      exact ⟨a, vs, ws, rfl, .inr h1, rs, g⟩
  | _ => exact False.elim g
theorem pan_nil : PAn X G E [] aNil := by
  refine ⟨⟨fun pos pins s σ H Q I h => pa_nil.run pos pins s σ H Q I ?_⟩, fun ρ S ws S' h => by cases h; rfl⟩
  obtain ⟨α, S, ρ, sm, rr, g⟩ := h
  exact g.of_pure sm [] .nil
theorem tA_cons {σ : L2.St} {H : Hp} {Q : List V → Hp → Prop} (h : tA G E (aCons me mr) σ H Q) : tCons (tM G E me) (tA G E mr) σ H Q := by
  obtain ⟨α, S, ρ, sm, rr, g⟩ := h
  exact Got.node sm rr g fun x u α1 S1 H1 p1 l1 s1 r1 ru g1 => Got.node s1 r1 g1 fun xs us α2 S2 H2 p2 l2 s2 r2 rus g2 => g2.of_pure s2 _ (.cons (ru.mono p2 l2) rus)
theorem pan_cons (h : PE X e (tM G E me)) (hr : PAn X G E es mr) (hs : starEach (e :: es) X.env = (false, eval e X.env) :: starEach es X.env := by rfl) : PAn X G E (e :: es) (aCons me mr) := by
  refine ⟨⟨fun pos pins s σ H Q I q => (pa_cons h hr.pa hs).run pos pins s σ H Q I (tA_cons q)⟩, fun ρ S ws S' q => ?_⟩
  obtain ⟨x, S1, _, q⟩ := bind_inv q
  obtain ⟨xs, S2, q1, q⟩ := bind_inv q
  cases q
  rw [List.length_cons, List.length_cons, hr.len _ _ _ _ q1]
theorem pa_nilM : PA X [] (tA G E aNil) := pan_nil.pa
theorem pa_consM (h : PE X e (tM G E me)) (hr : PA X es (tA G E mr)) (hs : starEach (e :: es) X.env = (false, eval e X.env) :: starEach es X.env := by rfl) : PA X (e :: es) (tA G E (aCons me mr)) :=
  ⟨fun pos pins s σ H Q I q => (pa_cons h hr hs).run pos pins s σ H Q I (tA_cons q)⟩
theorem pa_starM (hG : X.K = G.K) (h : PE X e (tM G E me)) (hr : PA X es (tA G E mr)) (hs : starEach (.Starred e p :: es) X.env = (true, eval e X.env) :: starEach es X.env := by rfl) : PA X (.Starred e p :: es) (tA G E (aStar me mr)) := by
  refine ⟨fun pos pins s σ H Q I q => (StX.pa_star h hr hs).run pos pins s σ H Q I ?_⟩
  obtain ⟨α, S, ρ, sm, rr, g⟩ := q
  refine Got.node sm rr g fun x u α1 S1 H1 p1 l1 s1 r1 ru g1 => ?_
  obtain ⟨a, vs, us, rfl, hsq, rus, g2⟩ := got_seqOf g1 s1 ru
  rw [hG]
  exact ⟨a, vs, rfl, hsq, Got.node s1 r1 g2 fun xs zs α2 S2 H2 p2 l2 s2 r2 rzs g3 => g3.of_pure s2 _ ((rus.mono p2 l2).append rzs)⟩
theorem pm_tup {x1} (h : PA X es (tA G E mr)) : PE X (.Tuple es x1 pos) (tM G E (eTup mr)) := by
  refine ⟨fun pins s σ H Q I q => (pe_tup h).run pins s σ H Q I ?_⟩
  obtain ⟨α, S, ρ, sm, rr, g⟩ := q
  exact Got.node sm rr g fun x u α1 S1 H1 p1 l1 s1 r1 ru g1 => got_newT g1 s1 ru
theorem pm_lst (h : PA X es (tA G E mr)) : PE X (.List es pos) (tM G E (eLst mr)) := by
  refine ⟨fun pins s σ H Q I q => (pe_lst h).run pins s σ H Q I ?_⟩
  obtain ⟨α, S, ρ, sm, rr, g⟩ := q
  exact Got.node sm rr g fun x u α1 S1 H1 p1 l1 s1 r1 ru g1 => got_newL g1 s1 ru
end

/-! ### subscripts -/
section
variable {G : Gx} {E : XK} {α : List Addr} {H : Hp}
theorem RelWs.atI {ws : List W} {vs : List V} {i : Int} {w : W} (r : RelWs G α H ws vs) (h : L2.atI ws i = some w) : ∃ v, L2.atI vs i = some v ∧ RelW G α H w v := by
  unfold L2.atI at h ⊢
  rw [← r.length]
  cases q : ixN ws.length i with
  | none => rw [q] at h; cases h
  | some j =>
    rw [q] at h
    exact r.get h
end
def gIx (x y : W) : M W := fun S => match x, y with
  | .tup ws, .int i => match L2.atI ws i with
    | some w => .ok w S
    | none => .stuck
  | .ref l, .int i => match rdL S l with
    | some ws => match L2.atI ws i with
      | some w => .ok w S
      | none => .stuck
    | none => .stuck
  | _, _ => .stuck
section
variable {X : Cx} {G : Gx} {E : XK}
theorem os_ix : OpS G E (rIx G.K) gIx := by
  intro α S H x y u v Q s ru rv gg
  unfold gIx at gg
  split at gg
  · rename_i ws i
    obtain ⟨a, vs, rfl, h, rs⟩ := ru.tup_inv
    rw [rv.int_inv]
    split at gg
    · rename_i w hw
      obtain ⟨v', h', rw_⟩ := rs.atI hw
      exact .inr (.inl ⟨a, vs, i, v', rfl, rfl, h, h', got_pureW gg s rw_⟩)
    · exact False.elim gg
  · rename_i l i
    obtain ⟨a, rfl, h⟩ := ru.ref_inv
    rw [rv.int_inv]
    split at gg
    · rename_i ws hl
      obtain ⟨vs, h1, rs⟩ := s.rd hl h
      split at gg
      · rename_i w hw
        obtain ⟨v', h', rw_⟩ := rs.atI hw
        exact .inl ⟨a, vs, i, v', rfl, rfl, h1, h', got_pureW gg s rw_⟩
      · exact False.elim gg
    · exact False.elim gg
  · exact False.elim gg
end
/-! slices -/
def asI : W → M (Option Int)
  | .int i => pure (some i)
  | _ => M.stuck
def oNo : Rho → M (Option Int) := fun _ => pure none
def oYes (m : Rho → M W) : Rho → M (Option Int) := fun ρ => m ρ >>= asI
abbrev tO (G : Gx) (E : XK) (m : Rho → M (Option Int)) : TO := tK G E (fun _ _ a b => a = b) m
def cutW (xs : List W) (lo hi : Option Int) : List W := (xs.drop (HT.sIx xs.length 0 lo)).take (HT.sIx xs.length xs.length hi - HT.sIx xs.length 0 lo)
def gSl (x : W) (lo hi : Option Int) : M W := fun S => match x with
  | .tup ws => if HT.sIx ws.length 0 lo = 0 ∧ HT.sIx ws.length ws.length hi = ws.length then .ok (.tup ws) S else newT (cutW ws lo hi) S
  | .ref l => match rdL S l with
    | some ws => newL (cutW ws lo hi) S
    | none => .stuck
  | _ => .stuck
def eSl (m : Rho → M W) (l h : Rho → M (Option Int)) : Rho → M W := fun ρ => m ρ >>= fun x => l ρ >>= fun lo => h ρ >>= fun hi => gSl x lo hi
section
variable {X : Cx} {G : Gx} {E : XK} {e a : Expr} {lo hi : Option Expr} {me : Rho → M W} {ml mh : Rho → M (Option Int)} {pos p2 : Pos}
theorem pmo_no : PO X none (tO G E oNo) := by
  refine ⟨fun pins s σ H Q I q => po_none.run pins s σ H Q I ?_⟩
  obtain ⟨α, S, ρ, sm, rr, g⟩ := q
  exact g.of_pure sm none rfl
theorem pmo_yes (h : PE X e (tM G E me)) : PO X (some e) (tO G E (oYes me)) := by
  refine ⟨fun pins s σ H Q I q => (po_some h).run pins s σ H Q I ?_⟩
  obtain ⟨α, S, ρ, sm, rr, g⟩ := q
  refine Got.node sm rr g fun x u α1 S1 H1 p1 l1 s1 r1 ru g1 => ?_
  cases x with
  | int i =>
    rw [ru.int_inv]
    exact ⟨i, rfl, g1.of_pure s1 _ rfl⟩
  | _ => exact False.elim g1
theorem RelWs.cut {α : List Addr} {H : Hp} {ws : List W} {vs : List V} (r : RelWs G α H ws vs) (lo hi : Option Int) : RelWs G α H (cutW ws lo hi) (cutV vs lo hi) := by
  unfold cutW cutV
  rw [← r.length]
  exact (r.drop _).take _
theorem pm_slice (hG : X.K = G.K) (h : PE X e (tM G E me)) (hl : PO X lo (tO G E ml)) (hh : PO X hi (tO G E mh)) : PE X (.Subscript e (.Slice lo hi none p2) pos) (tM G E (eSl me ml mh)) := by
  refine ⟨fun pins s σ H Q I q => (pe_slice (SlR.or sl_list sl_tupA) h hl hh).run pins s σ H Q I ?_⟩
  obtain ⟨α, S, ρ, sm, rr, g⟩ := q
  refine Got.node sm rr g fun x u α1 S1 H1 p1 l1 s1 r1 ru g1 => Got.node s1 r1 g1 fun lo' lo2 α2 S2 H2 p2 l2 s2 r2 e2 g2 => Got.node s2 r2 g2 fun hi' hi2 α3 S3 H3 p3 l3 s3 r3 e3 g3 => ?_
  subst e2 e3
  have ru3 := (ru.mono p2 l2).mono p3 l3
  rw [hG]
  unfold gSl at g3
  split at g3
  · rename_i ws
    obtain ⟨b, vs, rfl, hsq, rs⟩ := ru3.tup_inv
    refine .inr ⟨b, vs, rfl, hsq, fun hw => ?_, fun hw => ?_⟩
    · rw [← rs.length] at hw
      rw [if_pos hw] at g3
      exact got_pureW g3 s3 (.tup hsq rs)
    · rw [← rs.length] at hw
      rw [if_neg hw] at g3
      exact (got_newT g3 s3 (rs.cut _ _)).2
  · rename_i l
    obtain ⟨b, rfl, hb⟩ := ru3.ref_inv
    split at g3
    · rename_i ws hl
      obtain ⟨vs, h1, rs⟩ := s3.rd hl hb
      exact .inl ⟨b, vs, rfl, h1, (got_newL g3 s3 (rs.cut _ _)).2⟩
    · exact False.elim g3
  · exact False.elim g3
end
end Mi

set_option maxHeartbeats 1000000
/-! Mi, built-in functions, methods of lists, dicts with int and text keys. -/
namespace Mi
open PySem PySem.Spec PyProof.Rows L2

abbrev Fw := List W → M W
def CallS (G : Gx) (E : XK) (r : List V → Hp → VK → Prop) (g : Fw) : Prop := ∀ (α : List Addr) (S : Store) (H : Hp) (ws : List W) (vs : List V) (Q : VK), Sim G α S H → RelWs G α H ws vs → Got G E α H (g ws S) (Pv G Q) → r vs H Q
def eCall (g : Fw) (m : Rho → M (List W)) : Rho → M W := fun ρ => m ρ >>= g
section
variable {X : Cx} {G : Gx} {E : XK} {e : Expr} {es : List Expr} {mr : Rho → M (List W)} {x : Str} {p pos : Pos} {r : List V → Hp → VK → Prop} {g : Fw} {id : String}
theorem tM_cb (hs : CallS G E r g) {σ : L2.St} {H : Hp} {Q : VK} (h : tM G E (eCall g mr) σ H Q) : tCB r (tA G E mr) σ H Q := by
  obtain ⟨α, S, ρ, s, rr, gg⟩ := h
  exact Got.node s rr gg fun ws vs α1 S1 H1 p1 l1 s1 r1 rv g1 => hs α1 S1 H1 ws vs Q s1 rv g1
theorem pm_cb (hc : CallR X (.builtin id) r) (hs : CallS G E r g) (hg : Gl X x) (hm : X.mg x = none) (hv : bootBuiltins x = some (.builtin id)) (ha : PA X (e :: es) (tA G E mr)) (hn : x ≠ "__name__" := by decide) (hdb : (x == ("__debug__" : Str)) = false := by decide)
    (he : starEach (e :: es) X.env = (false, eval e X.env) :: starEach es X.env := by rfl) (hpl : (backTo pos (starEach es X.env)).any (·.1) = false := by rfl) : PE X (.Call (.Name x p) (e :: es) [] pos) (tM G E (eCall g mr)) :=
  ⟨fun pins s σ H Q I q => (pe_callB hc hg hm hv ha hn hdb he hpl).run pins s σ H Q I (tM_cb hs q)⟩
theorem pm_ct (hc : CallR X (.type id) r) (hs : CallS G E r g) (hg : Gl X x) (hm : X.mg x = none) (hv : bootBuiltins x = some (.type id)) (ha : PA X (e :: es) (tA G E mr)) (hn : x ≠ "__name__" := by decide) (hdb : (x == ("__debug__" : Str)) = false := by decide)
    (he : starEach (e :: es) X.env = (false, eval e X.env) :: starEach es X.env := by rfl) (hpl : (backTo pos (starEach es X.env)).any (·.1) = false := by rfl) : PE X (.Call (.Name x p) (e :: es) [] pos) (tM G E (eCall g mr)) :=
  ⟨fun pins s σ H Q I q => (pe_callTy hc hg hm hv ha hn hdb he hpl).run pins s σ H Q I (tM_cb hs q)⟩
/-- a module's name for a built-in function -/
theorem pm_cf (hc : CallR X (.builtin id) r) (hs : CallS G E r g) (hg : Gl X x) (hm : X.mg x = some (.builtin id)) (ha : PA X (e :: es) (tA G E mr)) (hdb : (x == ("__debug__" : Str)) = false := by decide)
    (he : starEach (e :: es) X.env = (false, eval e X.env) :: starEach es X.env := by rfl) (hpl : (backTo pos (starEach es X.env)).any (·.1) = false := by rfl) : PE X (.Call (.Name x p) (e :: es) [] pos) (tM G E (eCall g mr)) :=
  ⟨fun pins s σ H Q I q => (pe_callBfun hc hg hm ha hdb he hpl).run pins s σ H Q I (tM_cb hs q)⟩
end

/-! ### the functions -/
def gLen : Fw := fun ws S => match ws with
  | [.tup us] => .ok (.int us.length) S
  | [.ref l] => match rdL S l with
    | some us => .ok (.int us.length) S
    | none => .stuck
  | _ => .stuck
def gAbs : Fw
  | [.int i] => pure (.int (if i < 0 then -i else i))
  | _ => M.stuck
def gInt : Fw
  | [.int i] => pure (.int i)
  | [.bl b] => pure (.int (if b = true then 1 else 0))
  | _ => M.stuck
def gMin2 : Fw
  | [.int i, .int j] => pure (.int (if j < i then j else i))
  | _ => M.stuck
def gMax2 : Fw
  | [.int i, .int j] => pure (.int (if j > i then j else i))
  | _ => M.stuck
def gList : Fw := fun ws S => match ws with
  | [.tup us] => newL us S
  | [.ref l] => match rdL S l with
    | some us => newL us S
    | none => .stuck
  | _ => .stuck
def gTuple : Fw := fun ws S => match ws with
  | [.tup us] => .ok (.tup us) S
  | [.ref l] => match rdL S l with
    | some us => newT us S
    | none => .stuck
  | _ => .stuck
def asInts : List W → Option (List Int)
  | [] => some []
  | .int i :: r => (asInts r).map (i :: ·)
  | _ => none
def asBls : List W → Option (List Bool)
  | [] => some []
  | .bl b :: r => (asBls r).map (b :: ·)
  | _ => none
def gSum : Fw := fun ws S => match ws with
  | [.ref l] => match rdL S l with
    | some us => match asInts us with
      | some ns => .ok (.int ns.sum) S
      | none => .stuck
    | none => .stuck
  | _ => .stuck
def gAll : Fw := fun ws S => match ws with
  | [.ref l] => match rdL S l with
    | some us => match asBls us with
      | some bs => .ok (.bl (bs.all _root_.id)) S
      | none => .stuck
    | none => .stuck
  | _ => .stuck
def gAny : Fw := fun ws S => match ws with
  | [.ref l] => match rdL S l with
    | some us => match asBls us with
      | some bs => .ok (.bl (bs.any _root_.id)) S
      | none => .stuck
    | none => .stuck
  | _ => .stuck
def gGcd : Fw
  | [.int a, .int b] => pure (.int ((Nat.gcd a.natAbs b.natAbs : Nat) : Int))
  | _ => M.stuck
def showOk (d : PyData) : Prop := d.showable = true ∧ d.hasDict = false ∧ d.depth ≤ 60 ∧ d.shown.length ≤ sizeLine
instance (d : PyData) : Decidable (showOk d) := inferInstanceAs (Decidable (_ ∧ _ ∧ _ ∧ _))
def gRepr : Fw := fun ws S => match ws with
  | [w] => match dataW deepN S w with
    | some d => if showOk d then .ok (.str d.shown) S else .stuck
    | none => .stuck
  | _ => .stuck
section
variable {G : Gx} {E : XK} {α : List Addr} {S : Store} {H : Hp}
theorem one_inv {w : W} {vs : List V} (r : RelWs G α H [w] vs) : ∃ v, vs = [v] ∧ RelW G α H w v := by
  obtain ⟨v, t, rfl, h, q⟩ := r.cons_inv
  rw [q.nil_inv]
  exact ⟨v, rfl, h⟩
theorem two_inv {w u : W} {vs : List V} (r : RelWs G α H [w, u] vs) : ∃ v z, vs = [v, z] ∧ RelW G α H w v ∧ RelW G α H u z := by
  obtain ⟨v, t, rfl, h, q⟩ := r.cons_inv
  obtain ⟨z, rfl, h2⟩ := one_inv q
  exact ⟨v, z, rfl, h, h2⟩
theorem asInts_rel : ∀ {us : List W} {ns : List Int} {vs : List V}, asInts us = some ns → RelWs G α H us vs → vs = ns.map V.int
  | [], _, _, e, r => by
    cases e
    exact r.nil_inv
  | w :: us, ns, vs, e, r => by
    obtain ⟨v, t, rfl, h, q⟩ := r.cons_inv
    cases w with
    | int i =>
      unfold asInts at e
      cases q2 : asInts us with
      | none => rw [q2] at e; cases e
      | some ms =>
        rw [q2] at e
        cases e
        rw [h.int_inv, asInts_rel q2 q]
        rfl
    | _ => cases e
theorem asBls_rel : ∀ {us : List W} {ns : List Bool} {vs : List V}, asBls us = some ns → RelWs G α H us vs → vs = ns.map V.bl
  | [], _, _, e, r => by
    cases e
    exact r.nil_inv
  | w :: us, ns, vs, e, r => by
    obtain ⟨v, t, rfl, h, q⟩ := r.cons_inv
    cases w with
    | bl i =>
      unfold asBls at e
      cases q2 : asBls us with
      | none => rw [q2] at e; cases e
      | some ms =>
        rw [q2] at e
        cases e
        rw [h.bl_inv, asBls_rel q2 q]
        rfl
    | _ => cases e
theorem cs_len : CallS G E (fun xs H Q => ∃ p ys, xs = [.ref p] ∧ (SqL G.K H p ys ∨ SqT G.K H p ys) ∧ Q (.int ys.length) H) gLen := by
  intro α S H ws vs Q s r gg
  unfold gLen at gg
  split at gg
  · obtain ⟨v, rfl, h⟩ := one_inv r
    obtain ⟨a, zs, rfl, h1, rs⟩ := h.tup_inv
    refine ⟨a, zs, rfl, .inr h1, ?_⟩
    rw [← rs.length]
    exact got_pureW gg s (.int _)
  · obtain ⟨v, rfl, h⟩ := one_inv r
    obtain ⟨a, rfl, ha⟩ := h.ref_inv
    split at gg
    · rename_i us hl
      obtain ⟨zs, h1, rs⟩ := s.rd hl ha
      refine ⟨a, zs, rfl, .inl h1, ?_⟩
      rw [← rs.length]
      exact got_pureW gg s (.int _)
    · exact False.elim gg
  · exact False.elim gg
theorem cs_abs : CallS G E (fun xs H Q => ∃ i, xs = [.int i] ∧ Q (.int (if i < 0 then -i else i)) H) gAbs := by
  intro α S H ws vs Q s r gg
  unfold gAbs at gg
  split at gg
  · obtain ⟨v, rfl, h⟩ := one_inv r
    rw [h.int_inv]
    exact ⟨_, rfl, got_pureW gg s (.int _)⟩
  · exact False.elim gg
theorem cs_int : CallS G E (fun xs H Q => (∃ i, xs = [.int i] ∧ Q (.int i) H) ∨ ∃ k, xs = [.bl k] ∧ Q (.int (if k then 1 else 0)) H) gInt := by
  intro α S H ws vs Q s r gg
  unfold gInt at gg
  split at gg
  · obtain ⟨v, rfl, h⟩ := one_inv r
    rw [h.int_inv]
    exact .inl ⟨_, rfl, got_pureW gg s (.int _)⟩
  · obtain ⟨v, rfl, h⟩ := one_inv r
    rw [h.bl_inv]
    exact .inr ⟨_, rfl, got_pureW gg s (.int _)⟩
  · exact False.elim gg
theorem cs_min2 : CallS G E (fun xs H Q => ∃ i j, xs = [.int i, .int j] ∧ Q (.int (if j < i then j else i)) H) gMin2 := by
  intro α S H ws vs Q s r gg
  unfold gMin2 at gg
  split at gg
  · obtain ⟨v, z, rfl, h, h2⟩ := two_inv r
    rw [h.int_inv, h2.int_inv]
    exact ⟨_, _, rfl, got_pureW gg s (.int _)⟩
  · exact False.elim gg
theorem cs_max2 : CallS G E (fun xs H Q => ∃ i j, xs = [.int i, .int j] ∧ Q (.int (if j > i then j else i)) H) gMax2 := by
  intro α S H ws vs Q s r gg
  unfold gMax2 at gg
  split at gg
  · obtain ⟨v, z, rfl, h, h2⟩ := two_inv r
    rw [h.int_inv, h2.int_inv]
    exact ⟨_, _, rfl, got_pureW gg s (.int _)⟩
  · exact False.elim gg
theorem cs_list : CallS G E (fun xs H Q => ∃ p ys, xs = [.ref p] ∧ (SqL G.K H p ys ∨ SqT G.K H p ys) ∧ ∀ l, H l = none → Q (.ref l) (upd H l (.lst ys))) gList := by
  intro α S H ws vs Q s r gg
  unfold gList at gg
  split at gg
  · obtain ⟨v, rfl, h⟩ := one_inv r
    obtain ⟨a, zs, rfl, h1, rs⟩ := h.tup_inv
    exact ⟨a, zs, rfl, .inr h1, (got_newL gg s rs).2⟩
  · obtain ⟨v, rfl, h⟩ := one_inv r
    obtain ⟨a, rfl, ha⟩ := h.ref_inv
    split at gg
    · rename_i us hl
      obtain ⟨zs, h1, rs⟩ := s.rd hl ha
      exact ⟨a, zs, rfl, .inl h1, (got_newL gg s rs).2⟩
    · exact False.elim gg
  · exact False.elim gg
theorem cs_tuple : CallS G E (fun xs H Q => ∃ p ys, xs = [.ref p] ∧ ((SqL G.K H p ys ∧ ∀ l, H l = none → Q (.ref l) (upd H l (.tup ys))) ∨ (SqT G.K H p ys ∧ Q (.ref p) H))) gTuple := by
  intro α S H ws vs Q s r gg
  unfold gTuple at gg
  split at gg
  · obtain ⟨v, rfl, h⟩ := one_inv r
    obtain ⟨a, zs, rfl, h1, rs⟩ := h.tup_inv
    exact ⟨a, zs, rfl, .inr ⟨h1, got_pureW gg s (.tup h1 rs)⟩⟩
  · obtain ⟨v, rfl, h⟩ := one_inv r
    obtain ⟨a, rfl, ha⟩ := h.ref_inv
    split at gg
    · rename_i us hl
      obtain ⟨zs, h1, rs⟩ := s.rd hl ha
      exact ⟨a, zs, rfl, .inl ⟨h1, (got_newT gg s rs).2⟩⟩
    · exact False.elim gg
  · exact False.elim gg
theorem cs_sum : CallS G E (rSum G.K) gSum := by
  intro α S H ws vs Q s r gg
  unfold gSum at gg
  split at gg
  · obtain ⟨v, rfl, h⟩ := one_inv r
    obtain ⟨a, rfl, ha⟩ := h.ref_inv
    split at gg
    · rename_i us hl
      obtain ⟨zs, h1, rs⟩ := s.rd hl ha
      split at gg
      · rename_i ns e
        rw [asInts_rel e rs] at h1
        exact ⟨a, ns, rfl, h1, got_pureW gg s (.int _)⟩
      · exact False.elim gg
    · exact False.elim gg
  · exact False.elim gg
theorem cs_all : CallS G E (rAll G.K) gAll := by
  intro α S H ws vs Q s r gg
  unfold gAll at gg
  split at gg
  · obtain ⟨v, rfl, h⟩ := one_inv r
    obtain ⟨a, rfl, ha⟩ := h.ref_inv
    split at gg
    · rename_i us hl
      obtain ⟨zs, h1, rs⟩ := s.rd hl ha
      split at gg
      · rename_i ns e
        rw [asBls_rel e rs] at h1
        exact ⟨a, ns, rfl, h1, got_pureW gg s (.bl _)⟩
      · exact False.elim gg
    · exact False.elim gg
  · exact False.elim gg
theorem cs_any : CallS G E (rAny G.K) gAny := by
  intro α S H ws vs Q s r gg
  unfold gAny at gg
  split at gg
  · obtain ⟨v, rfl, h⟩ := one_inv r
    obtain ⟨a, rfl, ha⟩ := h.ref_inv
    split at gg
    · rename_i us hl
      obtain ⟨zs, h1, rs⟩ := s.rd hl ha
      split at gg
      · rename_i ns e
        rw [asBls_rel e rs] at h1
        exact ⟨a, ns, rfl, h1, got_pureW gg s (.bl _)⟩
      · exact False.elim gg
    · exact False.elim gg
  · exact False.elim gg
theorem cs_gcd : CallS G E rGcd gGcd := by
  intro α S H ws vs Q s r gg
  unfold gGcd at gg
  split at gg
  · obtain ⟨v, z, rfl, h, h2⟩ := two_inv r
    rw [h.int_inv, h2.int_inv]
    exact ⟨_, _, rfl, got_pureW gg s (.int _)⟩
  · exact False.elim gg
/-! repr -/
def rRepr (K : PySem.W.Frag) : List V → Hp → VK → Prop := fun xs H Q => ∃ x d, xs = [x] ∧ Dp K H x d ∧ showOk d ∧ Q (.str d.shown) H
theorem cr_repr {X : Cx} (hg : X.A.guards = some []) (hu : X.A.units + 64 < cLine) : CallR X (.builtin "repr") (rRepr X.K) := by
  intro pins s σ H xs us Q I r h
  obtain ⟨x, d, rfl, hd, ⟨h1, h2, h3, h4⟩, q⟩ := h
  obtain ⟨u, rfl, rx⟩ := vals1 r
  have big : ∀ {a : Addr}, u = .ref a → wpAny (model X.prog X.w) X.A (call (.builtin "repr") [u]) (EP X pins σ Q) X.xe s := fun {a} e => by
    subst e
    obtain ⟨as, rd⟩ := Dp.reads I d x _ hd rx
    exact repr_of_reads' rd h1 (fun z => by rw [h2] at z; cases z) hg (by omega) (fun _ _ z => z) (fun h' u tk hk => ⟨.str d.shown, H, I.kept (t' := tk) hk, ⟨_, rfl⟩, q⟩) h4
  cases hd with
  | non =>
    cases rx
    exact P.repr_of_none ⟨.str (PyData.shown .none), H, I.tok _, ⟨_, rfl⟩, q⟩
  | bl b =>
    cases rx
    exact P.repr_of_bool ⟨.str (PyData.shown (.bool b)), H, I.tok _, ⟨_, rfl⟩, q⟩
  | int i =>
    obtain ⟨t, rfl⟩ := rx
    exact P.repr_of_int (of_decide_eq_true h1) ⟨.str (PyData.shown (.int i)), H, I.tok _, ⟨_, rfl⟩, q⟩
  | str x =>
    obtain ⟨t, rfl⟩ := rx
    exact P.repr_of_str ⟨.str (PyData.shown (.str x)), H, I.tok _, ⟨_, rfl⟩, q⟩ h4
  | lst _ _ => exact big rx
  | tup _ _ => exact big rx
theorem cs_repr : CallS G E (rRepr G.K) gRepr := by
  intro α S H ws vs Q s r gg
  unfold gRepr at gg
  split at gg
  · obtain ⟨v, rfl, h⟩ := one_inv r
    split at gg
    · rename_i d e
      split at gg
      · rename_i hz
        exact ⟨v, d, rfl, dataW_ok s _ h e, hz, got_pureW gg s (.str _)⟩
      · exact False.elim gg
    · exact False.elim gg
  · exact False.elim gg
end
end Mi

set_option maxHeartbeats 1000000
/-! Mi, methods of lists, dicts with int and text keys, isinstance, tuple(reversed(..)). -/
namespace Mi
open PySem PySem.Spec PyProof.Rows L2

/-! ### methods of lists -/
def isL : W → M Unit := fun w S => match w with
  | .ref l => match rdL S l with
    | some _ => .ok () S
    | none => .stuck
  | _ => .stuck
abbrev Gm := W → List W → M W
def MthS (G : Gx) (E : XK) (r : V → List V → Hp → VK → Prop) (g : Gm) : Prop := ∀ (α : List Addr) (S : Store) (H : Hp) (w : W) (ws : List W) (v : V) (vs : List V) (Q : VK), Sim G α S H → RelW G α H w v → RelWs G α H ws vs → Got G E α H (g w ws S) (Pv G Q) → r v vs H Q
def eMth (g : Gm) (mo : Rho → M W) (mr : Rho → M (List W)) : Rho → M W := fun ρ => mo ρ >>= fun x => isL x >>= fun _ => mr ρ >>= fun xs => g x xs
def eMth0 (g : Gm) (mo : Rho → M W) : Rho → M W := fun ρ => mo ρ >>= fun x => isL x >>= fun _ => g x []
def gAppend : Gm := fun x xs S => match x, xs with
  | .ref l, [y] => match muL S l with
    | some ws => if ws.length < sizeLine then .ok .non (S.set l (.lst (ws ++ [y]))) else .stuck
    | none => .stuck
  | _, _ => .stuck
def gExtend : Gm := fun x xs S => match x, xs with
  | .ref l, [.ref m] => match muL S l, muL S m with
    | some ws, some us => if ws.length + us.length ≤ sizeLine then .ok .non (S.set l (.lst (ws ++ us))) else .stuck
    | _, _ => .stuck
  | _, _ => .stuck
def gPopAt : Gm := fun x xs S => match x, xs with
  | .ref l, [.int i] => match muL S l with
    | some ws => if -(2 ^ 63) ≤ i ∧ i < 2 ^ 63 then match seqIndex? i ws.length with
      | some k => match ws[k]? with
        | some y => .ok y (S.set l (.lst (ws.eraseIdx k)))
        | none => .stuck
      | none => .stuck
      else .stuck
    | none => .stuck
  | _, _ => .stuck
def gPop0 : Gm := fun x xs S => match x, xs with
  | .ref l, [] => match muL S l with
    | some ws => match ws[ws.length - 1]? with
      | some y => .ok y (S.set l (.lst ws.dropLast))
      | none => .stuck
    | none => .stuck
  | _, _ => .stuck
def gClear : Gm := fun x xs S => match x, xs with
  | .ref l, [] => match muL S l with
    | some _ => .ok .non (S.set l (.lst []))
    | none => .stuck
  | _, _ => .stuck
section
variable {G : Gx} {E : XK}
theorem RelWs.dropLast {α : List Addr} {H : Hp} {ws : List W} {vs : List V} (r : RelWs G α H ws vs) : RelWs G α H ws.dropLast vs.dropLast := by
  rw [List.dropLast_eq_take, List.dropLast_eq_take, r.length]
  exact r.take _
theorem ms_append : MthS G E rAppend gAppend := by
  intro α S H w ws v vs Q s rv rs gg
  unfold gAppend at gg
  split at gg
  · obtain ⟨a, rfl, ha⟩ := rv.ref_inv
    obtain ⟨z, rfl, hz⟩ := one_inv rs
    split at gg
    · rename_i us hm
      obtain ⟨xs, hx, rx⟩ := s.mu hm ha
      split at gg
      · rename_i hl
        exact ⟨a, xs, z, rfl, rfl, hx, by rw [← rx.length]; exact hl, got_put gg s ha hx (rx.append (.cons hz .nil)) .non⟩
      · exact False.elim gg
    · exact False.elim gg
  · exact False.elim gg
theorem ms_extend : MthS G E rExtend gExtend := by
  intro α S H w ws v vs Q s rv rs gg
  unfold gExtend at gg
  split at gg
  · obtain ⟨a, rfl, ha⟩ := rv.ref_inv
    obtain ⟨z, rfl, hz⟩ := one_inv rs
    obtain ⟨b, rfl, hb⟩ := hz.ref_inv
    split at gg
    · rename_i us zs hm hn
      obtain ⟨xs, hx, rx⟩ := s.mu hm ha
      obtain ⟨ys, hy, ry⟩ := s.mu hn hb
      split at gg
      · rename_i hl
        exact ⟨a, b, xs, ys, rfl, rfl, hx, hy, by rw [← rx.length, ← ry.length]; exact hl, got_put gg s ha hx (rx.append ry) .non⟩
      · exact False.elim gg
    · exact False.elim gg
  · exact False.elim gg
theorem ms_popAt : MthS G E rPopAt gPopAt := by
  intro α S H w ws v vs Q s rv rs gg
  unfold gPopAt at gg
  split at gg
  · obtain ⟨a, rfl, ha⟩ := rv.ref_inv
    obtain ⟨z, rfl, hz⟩ := one_inv rs
    rw [hz.int_inv]
    split at gg
    · rename_i us hm
      obtain ⟨xs, hx, rx⟩ := s.mu hm ha
      split at gg
      · rename_i hi
        split at gg
        · rename_i k hk
          split at gg
          · rename_i y hy
            obtain ⟨y', e, ry⟩ := rx.get hy
            exact ⟨a, xs, _, k, y', rfl, rfl, hx, hi.1, hi.2, by rw [← rx.length]; exact hk, e, got_put gg s ha hx (rx.eraseIdx k) ry⟩
          · exact False.elim gg
        · exact False.elim gg
      · exact False.elim gg
    · exact False.elim gg
  · exact False.elim gg
theorem ms_pop0 : MthS G E rPop gPop0 := by
  intro α S H w ws v vs Q s rv rs gg
  unfold gPop0 at gg
  split at gg
  · obtain ⟨a, rfl, ha⟩ := rv.ref_inv
    rw [rs.nil_inv]
    split at gg
    · rename_i us hm
      obtain ⟨xs, hx, rx⟩ := s.mu hm ha
      split at gg
      · rename_i y hy
        obtain ⟨y', e, ry⟩ := rx.get hy
        exact ⟨a, xs, y', rfl, rfl, hx, by rw [← rx.length]; exact e, got_put gg s ha hx rx.dropLast ry⟩
      · exact False.elim gg
    · exact False.elim gg
  · exact False.elim gg
theorem ms_clear : MthS G E rClear gClear := by
  intro α S H w ws v vs Q s rv rs gg
  unfold gClear at gg
  split at gg
  · obtain ⟨a, rfl, ha⟩ := rv.ref_inv
    rw [rs.nil_inv]
    split at gg
    · rename_i us hm
      obtain ⟨xs, hx, rx⟩ := s.mu hm ha
      exact ⟨a, xs, rfl, rfl, hx, got_put gg s ha hx .nil .non⟩
    · exact False.elim gg
  · exact False.elim gg
variable {X : Cx} {o e : Expr} {es : List Expr} {name : Str} {apos cpos : Pos} {mo : Rho → M W} {mr : Rho → M (List W)} {id : String} {r : V → List V → Hp → VK → Prop} {g : Gm}
theorem got_isL {α : List Addr} {S : Store} {H : Hp} {w : W} {v : V} {A : Type} {k : Unit → M A} {P : A → Store → List Addr → Hp → Prop} (g : Got G E α H ((isL w >>= k) S) P) (s : Sim G α S H) (r : RelW G α H w v) : tyV G.K "list" v H ∧ Got G E α H (k () S) P := by
  cases w with
  | ref l =>
    obtain ⟨a, rfl, h⟩ := r.ref_inv
    cases q : rdL S l with
    | none =>
      have : (isL (.ref l) >>= k) S = .stuck := bind_stuck (by show (match rdL S l with | some _ => _ | none => _) = _; rw [q])
      rw [this] at g
      exact False.elim g
    | some ws =>
      have : (isL (.ref l) >>= k) S = k () S := bind_ok (by show (match rdL S l with | some _ => _ | none => _) = _; rw [q])
      rw [this] at g
      obtain ⟨vs, h1, rs⟩ := s.rd q h
      exact ⟨.inl ⟨rfl, vs, h1⟩, g⟩
  | _ => exact False.elim g
theorem pm_bm (hG : X.K = G.K) (pa : PlainAttrs "list") (slot : Slot "list" name id) (hty : typeOf (.builtin id) = pure (.type "method_descriptor")) (hm : MtR X id r) (hs : MthS G E r g) (ho : PE X o (tM G E mo)) (ha : PA X (e :: es) (tA G E mr))
    (hbase : attributeBase o name X.env (eval o X.env) = eval o X.env := by rfl)
    (hfew : ((backTo cpos (starEach (e :: es) X.env)).all (fun x => !x.1) && (backToKw cpos (keywordEach [] X.env)).all (fun x => x.1.isSome)
      && decide ((e :: es).length + ([] : List Keyword).length + (if ([] : List Keyword).isEmpty then 0 else 1) < 30)) = true := by rfl)
    (hline : (apos.endLine == cpos.line) = true := by rfl) (hst : starEach (e :: es) X.env = (false, eval e X.env) :: starEach es X.env := by rfl) (hplain : (backTo cpos (starEach es X.env)).any (·.1) = false := by rfl) :
    PE X (.Call (.Attribute o name apos) (e :: es) [] cpos) (tM G E (eMth g mo mr)) := by
  refine ⟨fun pins s σ H Q I q => (pe_bm pa slot hty hm ho ha hbase hfew hline hst hplain).run pins s σ H Q I ?_⟩
  obtain ⟨α, S, ρ, sm, rr, gg⟩ := q
  refine Got.node sm rr gg fun x u α1 S1 H1 p1 l1 s1 r1 ru g1 => ?_
  obtain ⟨ty, g2⟩ := got_isL g1 s1 ru
  rw [hG]
  exact ⟨ty, Got.node s1 r1 g2 fun ws vs α2 S2 H2 p2 l2 s2 r2 rv g3 => hs α2 S2 H2 x ws u vs Q s2 (ru.mono p2 l2) rv g3⟩
theorem pm_bm0 (hG : X.K = G.K) (pa : PlainAttrs "list") (slot : Slot "list" name id) (hty : typeOf (.builtin id) = pure (.type "method_descriptor")) (hm : MtR X id r) (hs : MthS G E r g) (ho : PE X o (tM G E mo))
    (hbase : attributeBase o name X.env (eval o X.env) = eval o X.env := by rfl) (hline : (apos.endLine == cpos.line) = true := by rfl) : PE X (.Call (.Attribute o name apos) [] [] cpos) (tM G E (eMth0 g mo)) := by
  refine ⟨fun pins s σ H Q I q => (pe_bm0 pa slot hty hm ho hbase hline).run pins s σ H Q I ?_⟩
  obtain ⟨α, S, ρ, sm, rr, gg⟩ := q
  refine Got.node sm rr gg fun x u α1 S1 H1 p1 l1 s1 r1 ru g1 => ?_
  obtain ⟨ty, g2⟩ := got_isL g1 s1 ru
  rw [hG]
  exact ⟨ty, hs α1 S1 H1 x [] u [] Q s1 ru .nil g2⟩
end

/-! ### tuple(reversed(x)) -/
def gRevT : W → M W := fun w S => match w with
  | .ref l => match rdL S l with
    | some us => newT us.reverse S
    | none => .stuck
  | _ => .stuck
section
variable {X : Cx} {G : Gx} {E : XK} {e : Expr} {me : Rho → M W} {p p2 pos pos2 : Pos}
theorem pm_tupRev (hG : X.K = G.K) (hc : X.calm = true) (hg : Gl X "tuple") (hm : X.mg "tuple" = none) (hg2 : Gl X "reversed") (hm2 : X.mg "reversed" = none) (h : PE X e (tM G E me)) (hs : starEach [e] X.env = (false, eval e X.env) :: starEach [] X.env := by rfl)
    (hs2 : starEach [.Call (.Name "reversed" p2) [e] [] pos2] X.env = (false, eval (.Call (.Name "reversed" p2) [e] [] pos2) X.env) :: starEach [] X.env := by rfl) :
    PE X (.Call (.Name "tuple" p) [.Call (.Name "reversed" p2) [e] [] pos2] [] pos) (tM G E (eUn gRevT me)) := by
  refine ⟨fun pins s σ H Q I q => (RT.pe_tupRev hc hg hm hg2 hm2 h hs hs2).run pins s σ H Q I ?_⟩
  obtain ⟨α, S, ρ, sm, rr, gg⟩ := q
  refine Got.node sm rr gg fun x u α1 S1 H1 p1 l1 s1 r1 ru g1 => ?_
  unfold gRevT at g1
  split at g1
  · obtain ⟨a, rfl, ha⟩ := ru.ref_inv
    split at g1
    · rename_i us hl
      obtain ⟨vs, h1, rs⟩ := s1.rd hl ha
      rw [hG]
      exact ⟨a, vs, rfl, h1, (got_newT g1 s1 rs.reverse).2⟩
    · exact False.elim g1
  · exact False.elim g1
end

/-! ### dicts with int and text keys -/
def keyW : W → Option Key
  | .int i => some (.inl i)
  | .str x => some (.inr x)
  | _ => none
def valW (kvs : List (Key × W)) (k : Key) : Option W := (kvs.find? fun kv => decide (kv.1 = k)).map (·.2)
def putW (kvs : List (Key × W)) (k : Key) (w : W) : List (Key × W) := if (kvs.any fun p => decide (p.1 = k)) = true then kvs.map fun p => if p.1 = k then (p.1, w) else p else kvs ++ [(k, w)]
def gDGet (x y : W) : M W := fun S => match x, keyW y with
  | .ref l, some k => match rdD S l with
    | some kvs => match valW kvs k with
      | some w => .ok w S
      | none => .stuck
    | none => .stuck
  | _, _ => .stuck
section
variable {G : Gx} {E : XK} {α : List Addr} {S : Store} {H : Hp}
theorem RelW.key {w : W} {v : V} {k : Key} (r : RelW G α H w v) (h : keyW w = some k) : v = kV k := by
  cases w with
  | int i =>
    cases h
    exact r.int_inv
  | str x =>
    cases h
    exact r.str_inv
  | _ => cases h
theorem RelK.val {kvs : List (Key × W)} {us : List (Key × V)} {k : Key} {w : W} (r : RelK G α H kvs us) (h : valW kvs k = some w) : ∃ v, valV us k = some v ∧ RelW G α H w v := by
  induction r with
  | nil => cases h
  | @cons p q l1 l2 h1 h2 ih =>
    unfold valW at h
    unfold valV
    rw [List.find?_cons] at h ⊢
    rw [← h1.1]
    by_cases e : p.1 = k
    · rw [decide_eq_true e] at h
      simp only [decide_eq_true e]
      simp at h
      subst h
      exact ⟨q.2, rfl, h1.2⟩
    · simp only [decide_eq_false e] at h ⊢
      exact ih h
end
section
variable {X : Cx} {G : Gx} {E : XK} {o i : Expr} {mo mi : Rho → M W} {pos : Pos}
theorem pm_dget (hu : X.A.units + 1 < cLine) (ho : PE X o (tM G E mo)) (hi : PE X i (tM G E mi)) (hs : NoSl i) : PE X (.Subscript o i pos) (tM G E (eOp gDGet mo mi)) := by
  refine ⟨fun pins s σ H Q I q => (pe_dget hu ho hi hs).run pins s σ H Q I ?_⟩
  obtain ⟨α, S, ρ, sm, rr, gg⟩ := q
  refine Got.node sm rr gg fun x u α1 S1 H1 p1 l1 s1 r1 ru g1 => Got.node s1 r1 g1 fun y v α2 S2 H2 p2 l2 s2 r2 rv g2 => ?_
  unfold gDGet at g2
  split at g2
  · rename_i l k hk
    obtain ⟨a, rfl, ha⟩ := (ru.mono p2 l2).ref_inv
    split at g2
    · rename_i kvs hd
      obtain ⟨us, h1, rk⟩ := s2.di hd ha
      split at g2
      · rename_i w hw
        obtain ⟨z, hz, rz⟩ := rk.val hw
        exact ⟨a, z, rfl, by rw [rv.key hk, ← hz]; exact DGet.k h1, got_pureW g2 s2 rz⟩
      · exact False.elim g2
    · exact False.elim g2
  · exact False.elim g2
end
/-! o[k] = v of such a dict -/
def putD (x y z : W) : M Unit := fun S => match x, keyW y with
  | .ref l, some k => match rdD S l with
    | some kvs => if kvs.length < sizeLine then .ok () (S.set l (.dk (putW kvs k z))) else .stuck
    | none => .stuck
  | _, _ => .stuck
section
variable {G : Gx} {α : List Addr} {H : Hp}
theorem RelK.length {kvs : List (Key × W)} {us : List (Key × V)} (r : RelK G α H kvs us) : kvs.length = us.length := Paired.length r
theorem RelK.any {kvs : List (Key × W)} {us : List (Key × V)} {k : Key} (r : RelK G α H kvs us) : (kvs.any fun p => decide (p.1 = k)) = (us.any fun p => decide (p.1 = k)) := by
  induction r with
  | nil => rfl
  | @cons p q l1 l2 h1 h2 ih => rw [List.any_cons, List.any_cons, h1.1, ih]
theorem RelK.app {kvs kvs' : List (Key × W)} {us us' : List (Key × V)} (r : RelK G α H kvs us) (r' : RelK G α H kvs' us') : RelK G α H (kvs ++ kvs') (us ++ us') := by
  induction r with
  | nil => exact r'
  | cons h1 h2 ih => exact .cons h1 ih
theorem RelK.put {kvs : List (Key × W)} {us : List (Key × V)} {k : Key} {w : W} {v : V} (r : RelK G α H kvs us) (h : RelW G α H w v) : RelK G α H (putW kvs k w) (putK us k v) := by
  unfold putW putK
  rw [r.any]
  split
  · have go : ∀ {l1 : List (Key × W)} {l2 : List (Key × V)}, RelK G α H l1 l2 → RelK G α H (l1.map fun p => if p.1 = k then (p.1, w) else p) (l2.map fun p => if p.1 = k then (p.1, v) else p) := by
      intro l1 l2 q
      induction q with
      | nil => exact .nil
      | @cons p q l1 l2 h1 h2 ih =>
        refine .cons ?_ ih
        show (if p.1 = k then (p.1, w) else p).1 = (if q.1 = k then (q.1, v) else q).1 ∧ RelW G α H (if p.1 = k then (p.1, w) else p).2 (if q.1 = k then (q.1, v) else q).2
        rw [← h1.1]
        split
        · exact ⟨rfl, h⟩
        · exact h1
    exact go r
  · exact r.app (.cons ⟨rfl, h⟩ .nil)
end
end Mi

set_option maxHeartbeats 1000000
/-! Mi, statements: targets, assignments, if, return, what a for walks, for, while, comprehensions. -/
namespace Mi
open PySem PySem.Spec PyProof.Rows L2

/-! ### targets -/
abbrev Tg := W → Rho → M Rho
def tG (G : Gx) (E : XK) (m : Tg) : TG := fun v σ H Q => ∃ α S ρ w, Sim G α S H ∧ RelR G α H ρ σ ∧ RelW G α H w v ∧ Got G E α H (m w ρ S) (fun ρ' _ α' H' => ∀ σ', RelR G α' H' ρ' σ' → Q σ' H')
def tGs (G : Gx) (E : XK) (m : List W → Rho → M Rho) : TGs := fun vs σ H Q => ∃ α S ρ ws, Sim G α S H ∧ RelR G α H ρ σ ∧ RelWs G α H ws vs ∧ Got G E α H (m ws ρ S) (fun ρ' _ α' H' => ∀ σ', RelR G α' H' ρ' σ' → Q σ' H')
def gtN (i : Nat) : Tg := fun w ρ => pure (ρ.set i (some w))
def gtNil : List W → Rho → M Rho := fun ws ρ => match ws with
  | [] => pure ρ
  | _ => M.stuck
def gtCons (t : Tg) (u : List W → Rho → M Rho) : List W → Rho → M Rho := fun ws ρ => match ws with
  | w :: r => t w ρ >>= fun ρ' => u r ρ'
  | [] => M.stuck
def gtTup (n : Nat) (u : List W → Rho → M Rho) : Tg := fun w ρ => match w with
  | .tup ws => if ws.length = n then u ws ρ else M.stuck
  | _ => M.stuck
def putAt (x y z : W) : M Unit := fun S => match x, y with
  | .ref l, .int i => match muL S l with
    | some ws => match ixN ws.length i with
      | some j => .ok () (S.set l (.lst (ws.set j z)))
      | none => .stuck
    | none => .stuck
  | _, _ => .stuck
def gtSub (o i : Rho → M W) : Tg := fun w ρ => o ρ >>= fun x => i ρ >>= fun y => putAt x y w >>= fun _ => pure ρ
section
variable {X : Cx} {G : Gx} {E : XK} {pos : Pos}
theorem pg_nm {i : Nat} {x : Str} (hN : X.N.Nodup) (hi : X.N[i]? = some x) (hx : Loc X.env.scope x) (hf : X.fn x = true ∨ X.env.scope.names.lookup x = some .local := by first | exact .inl rfl | exact .inr rfl | assumption) : PG X (.Name x pos) (tG G E (gtN i)) := by
  refine ⟨fun pins s σ H v u Q I r h => (pg_name hN hi hx hf).run pins s σ H v u Q I r ?_⟩
  obtain ⟨α, S, ρ, w, sm, rr, rw_, g⟩ := h
  exact g.of_pure sm _ (rr.set i rw_)
theorem pgs_nilM : PGs X [] (tGs G E gtNil) := by
  refine ⟨fun pins s σ H vs us Q I r h => pgs_nil.run pins s σ H vs us Q I r ?_⟩
  obtain ⟨α, S, ρ, ws, sm, rr, rw_, g⟩ := h
  cases ws with
  | nil =>
    rw [rw_.nil_inv]
    exact ⟨rfl, g.of_pure sm _ rr⟩
  | cons w ws => exact False.elim g
theorem pgs_consM {e : Expr} {es : List Expr} {t : Tg} {u : List W → Rho → M Rho} (h1 : PG X e (tG G E t)) (h2 : PGs X es (tGs G E u)) (hq : (assignEach (e :: es) X.env).map (·.2) = assign e X.env :: (assignEach es X.env).map (·.2) := by rfl) : PGs X (e :: es) (tGs G E (gtCons t u)) := by
  refine ⟨fun pins s σ H vs us Q I r h => (pgs_cons h1 h2 hq).run pins s σ H vs us Q I r ?_⟩
  obtain ⟨α, S, ρ, ws, sm, rr, rw_, g⟩ := h
  cases ws with
  | nil => exact False.elim g
  | cons w ws =>
    obtain ⟨v, rs, rfl, hv, hrs⟩ := rw_.cons_inv
    refine ⟨v, rs, rfl, α, S, ρ, w, sm, rr, hv, ?_⟩
    exact (Got.bind g).imp fun ρ' S' α' H' p l s' g' σ' r' => ⟨α', S', ρ', ws, s', r', hrs.mono p l, g'⟩
theorem pg_tupM {es : List Expr} {k : Nat} {t : List W → Rho → M Rho} {n : Nat} (hG : X.K = G.K) (hc : X.calm = true) (h : PGs X es (tGs G E t))
    (hn : (assignEach es X.env).length = n := by rfl) (hst : (assignEach es X.env).findIdx? (·.1) = none := by rfl) : PG X (.Tuple es k pos) (tG G E (gtTup n t)) := by
  refine ⟨fun pins s σ H v u Q I r hq => (pg_tup hc h hn hst).run pins s σ H v u Q I r ?_⟩
  obtain ⟨α, S, ρ, w, sm, rr, rw_, g⟩ := hq
  cases w with
  | tup ws =>
    obtain ⟨a, vs, rfl, h1, rs⟩ := rw_.tup_inv
    have g' : Got G E α H ((if ws.length = n then t ws ρ else M.stuck) S) (fun ρ' _ α' H' => ∀ σ', RelR G α' H' ρ' σ' → Q σ' H') := g
    split at g'
    · rename_i hl
      rw [hG]
      exact ⟨a, vs, rfl, h1, rs.length.symm.trans hl, α, S, ρ, ws, sm, rr, rs, g'⟩
    · exact False.elim g'
  | _ => exact False.elim g
theorem pg_subM {o i : Expr} {mo mi : Rho → M W} (ho : PE X o (tM G E mo)) (hi : PE X i (tM G E mi))
    (ha : ∀ v, assign (.Subscript o i pos) X.env v = (do
      let ov ← holding [v] (eval o X.env)
      let iv ← holding [v, ov] (eval i X.env)
      standAt pos
      holding [v, ov, iv] (setItem ov iv v)
      release [v, ov, iv] []) := by intro _; rfl) : PG X (.Subscript o i pos) (tG G E (gtSub mo mi)) := by
  refine ⟨fun pins s σ H v u Q I r hq => (pg_sub ho hi set_list ha).run pins s σ H v u Q I r ?_⟩
  obtain ⟨α, S, ρ, w, sm, rr, rw_, g⟩ := hq
  refine Got.node sm rr g fun x z α1 S1 H1 p1 l1 s1 r1 rz g1 => Got.node s1 r1 g1 fun y t α2 S2 H2 p2 l2 s2 r2 rt g2 => ?_
  have g3 := Got.bind g2
  unfold putAt at g3
  split at g3
  · rename_i l i
    obtain ⟨a, rfl, ha'⟩ := (rz.mono p2 l2).ref_inv
    rw [rt.int_inv]
    split at g3
    · rename_i ws hm
      obtain ⟨vs, hv, rs⟩ := s2.mu hm ha'
      split at g3
      · rename_i j hj
        refine ⟨a, vs, i, j, rfl, rfl, hv, by rw [← rs.length]; exact hj, ?_⟩
        have le : Le H2 (upd H2 a (.lst (vs.set j v))) := Le.put hv rfl
        have rw2 := (rw_.mono p1 l1).mono p2 l2
        have sm3 : Sim G α2 (S2.set l (.lst (ws.set j w))) (upd H2 a (.lst (vs.set j v))) := s2.put ha' hv rfl ⟨vs.set j v, upd_same, (RelWs.set rw2 j rs).mono (List.prefix_refl _) le⟩
        exact (g3 α2 _ (List.prefix_refl _) le sm3).of_pure sm3 σ (r2.mono (List.prefix_refl _) le)
      · exact False.elim g3
    · exact False.elim g3
  · exact False.elim g3
end

/-! ### statements -/
def sNx : St1 := fun ρ => pure (.nx, ρ)
def sBk : St1 := fun ρ => pure (.bk, ρ)
def sCt : St1 := fun ρ => pure (.ct, ρ)
def sSeq (a b : St1) : St1 := fun ρ => a ρ >>= fun r => match r.1 with
  | .nx => b r.2
  | f => pure (f, r.2)
def sAsg (e : Rho → M W) (t : Tg) : St1 := fun ρ => e ρ >>= fun w => t w ρ >>= fun ρ' => pure (.nx, ρ')
def sExpr (e : Rho → M W) : St1 := fun ρ => e ρ >>= fun _ => pure (.nx, ρ)
def sRet (e : Rho → M W) : St1 := fun ρ => e ρ >>= fun w => pure (.rt w, ρ)
def sIf (c : Rho → M Bool) (a b : St1) : St1 := fun ρ => c ρ >>= fun x => if x = true then a ρ else b ρ
def sDPutM (o i v : Rho → M W) : St1 := fun ρ => v ρ >>= fun w => o ρ >>= fun x => i ρ >>= fun y => putD x y w >>= fun _ => pure (.nx, ρ)
section
variable {X : Cx} {G : Gx} {E : XK} {pos pos' : Pos} {st : Stmt} {rest : List Stmt} {e tg : Expr} {a b : St1} {me mo mi : Rho → M W} {t : Tg}
abbrev FlP (G : Gx) (D : Ends) : Fl × Rho → Store → List Addr → Hp → Prop := fun a _ α' H' => ∀ σ', RelR G α' H' a.2 σ' → FlQ G D σ' α' H' a.1
theorem pss_nilM : PSs X [] (tS G E sNx) := by
  refine ⟨fun pins s σ H D I h => pss_nil.run pins s σ H D I ?_⟩
  obtain ⟨α, S, ρ, sm, rr, g⟩ := h
  exact g.of_pure sm σ rr
theorem pss_consM (h1 : PS X st (tS G E a)) (h2 : PSs X rest (tS G E b)) : PSs X (st :: rest) (tS G E (sSeq a b)) := by
  refine ⟨fun pins s σ H D I h => (pss_cons h1 h2).run pins s σ H D I ?_⟩
  obtain ⟨α, S, ρ, sm, rr, g⟩ := h
  refine ⟨α, S, ρ, sm, rr, (Got.bind g).imp fun r S' α' H' p l s' g' σ' r' => ?_⟩
  obtain ⟨f, ρ'⟩ := r
  cases f with
  | nx => exact ⟨α', S', ρ', s', r', g'⟩
  | bk => exact g'.of_pure s' σ' r'
  | ct => exact g'.of_pure s' σ' r'
  | rt w => exact g'.of_pure s' σ' r'
theorem pss_oneM (h1 : PS X st (tS G E a)) : PSs X [st] (tS G E a) := pss_one h1
theorem tS_asg {g : TG} {te : TE} (he : ∀ σ H Q, tM G E me σ H Q → te σ H Q) (hg : ∀ v σ H Q, tG G E t v σ H Q → g v σ H Q) {σ : L2.St} {H : Hp} {D : Ends} (h : tS G E (sAsg me t) D σ H) : tAsg te g D σ H := by
  obtain ⟨α, S, ρ, sm, rr, gg⟩ := h
  refine he _ _ _ (Got.node sm rr gg fun x u α1 S1 H1 p1 l1 s1 r1 ru g1 => hg _ _ _ _ ⟨α1, S1, ρ, x, s1, r1, ru, ?_⟩)
  exact (Got.bind g1).imp fun ρ' S' α' H' p l s' g' σ' r' => g'.of_pure s' σ' r'
theorem ps_asgM (he : PE X e (tM G E me)) (hg : PG X tg (tG G E t)) (hs : swapsWithSole [tg] e pos.line X.env = pure false := by rfl) (hw : swappedStores [tg] e X.env = pure none := by rfl) (hq : (assignEach [tg] X.env).map (·.2) = [assign tg X.env] := by rfl) : PS X (.Assign [tg] e pos) (tS G E (sAsg me t)) :=
  ⟨fun pins s σ H D I h => (ps_asg he hg hs hw hq).run pins s σ H D I (tS_asg (fun _ _ _ q => q) (fun _ _ _ _ q => q) h)⟩
theorem ps_setM {i : Nat} {x : Str} (hN : X.N.Nodup) (hi : X.N[i]? = some x) (hx : Loc X.env.scope x) (he : PE X e (tM G E me)) (hs : swapsWith e (some (.Name x pos')) pos.line X.env = pure false := by rfl) (hf : X.fn x = true ∨ X.env.scope.names.lookup x = some .local := by first | exact .inl rfl | exact .inr rfl | assumption) :
    PS X (.Assign [.Name x pos'] e pos) (tS G E (sAsg me (gtN i))) := by
  refine ⟨fun pins s σ H D I h => (ps_set hN hi hx he hs hf).run pins s σ H D I ?_⟩
  refine tS_asg (G := G) (E := E) (me := me) (t := gtN i) (fun _ _ _ q => q) (fun v σ H Q q => ?_) h
  obtain ⟨α, S, ρ, w, sm, rr, rw_, g⟩ := q
  exact g.of_pure sm _ (rr.set i rw_)
theorem ps_exprM (he : PE X e (tM G E me)) (hs : swapsWith e none pos.line X.env = pure false := by rfl) : PS X (.Expr e pos) (tS G E (sExpr me)) := by
  refine ⟨fun pins s σ H D I h => (ps_expr he hs).run pins s σ H D I ?_⟩
  obtain ⟨α, S, ρ, sm, rr, gg⟩ := h
  exact Got.node sm rr gg fun x u α1 S1 H1 p1 l1 s1 r1 ru g1 => g1.of_pure s1 σ r1
theorem ps_retM (he : PE X e (tM G E me)) : PS X (.Return (some e) pos) (tS G E (sRet me)) := by
  refine ⟨fun pins s σ H D I h => (ps_ret he).run pins s σ H D I ?_⟩
  obtain ⟨α, S, ρ, sm, rr, gg⟩ := h
  exact Got.node sm rr gg fun x u α1 S1 H1 p1 l1 s1 r1 ru g1 => g1.of_pure s1 σ r1 u ru
theorem ps_ifM {c : Expr} {sa sb : List Stmt} {mc : Rho → M Bool} (hc : PT X c (tB G E mc)) (ha : PSs X sa (tS G E a)) (hb : PSs X sb (tS G E b)) : PS X (.If c sa sb pos) (tS G E (sIf mc a b)) := by
  refine ⟨fun pins s σ H D I h => (ps_if hc ha hb).run pins s σ H D I ?_⟩
  obtain ⟨α, S, ρ, sm, rr, gg⟩ := h
  refine Got.node sm rr gg fun x u α1 S1 H1 p1 l1 s1 r1 ru g1 => ?_
  subst ru
  cases x with
  | true => exact ⟨α1, S1, ρ, s1, r1, g1⟩
  | false => exact ⟨α1, S1, ρ, s1, r1, g1⟩
theorem ps_passM : PS X (.Pass pos) (tS G E sNx) := by
  refine ⟨fun pins s σ H D I h => ps_pass.run pins s σ H D I ?_⟩
  obtain ⟨α, S, ρ, sm, rr, g⟩ := h
  exact g.of_pure sm σ rr
theorem ps_breakM : PS X (.Break pos) (tS G E sBk) := by
  refine ⟨fun pins s σ H D I h => ps_break.run pins s σ H D I ?_⟩
  obtain ⟨α, S, ρ, sm, rr, g⟩ := h
  exact g.of_pure sm σ rr
theorem ps_contM : PS X (.Continue pos) (tS G E sCt) := by
  refine ⟨fun pins s σ H D I h => ps_continue.run pins s σ H D I ?_⟩
  obtain ⟨α, S, ρ, sm, rr, g⟩ := h
  exact g.of_pure sm σ rr
/-- d[k] = v -/
theorem ps_dputM {o i value : Expr} {mv : Rho → M W} (hu : X.A.units + 1 < cLine) (ho : PE X o (tM G E mo)) (hi : PE X i (tM G E mi)) (hv : PE X value (tM G E mv)) (hs : swapsWith value (some (.Subscript o i pos')) pos.line X.env = pure false := by rfl) :
    PS X (.Assign [.Subscript o i pos'] value pos) (tS G E (sDPutM mo mi mv)) := by
  refine ⟨fun pins s σ H D I h => (ps_dput hu ho hi hv hs).run pins s σ H D I ?_⟩
  obtain ⟨α, S, ρ, sm, rr, gg⟩ := h
  refine Got.node sm rr gg fun w v α1 S1 H1 p1 l1 s1 r1 rw_ g1 => Got.node s1 r1 g1 fun x u α2 S2 H2 p2 l2 s2 r2 ru g2 => Got.node s2 r2 g2 fun y z α3 S3 H3 p3 l3 s3 r3 rz g3 => ?_
  have g4 := Got.bind g3
  unfold putD at g4
  split at g4
  · rename_i l k hk
    obtain ⟨a', rfl, ha⟩ := (ru.mono p3 l3).ref_inv
    split at g4
    · rename_i kvs hd
      obtain ⟨us, h1, rk⟩ := s3.di hd ha
      split at g4
      · rename_i hl
        have le : Le H3 (upd H3 a' (.dK (putK us k v))) := Le.put h1 rfl
        have rw3 := (rw_.mono p2 l2).mono p3 l3
        have sm4 : Sim G α3 (S3.set l (.dk (putW kvs k w))) (upd H3 a' (.dK (putK us k v))) := s3.put ha h1 rfl ⟨putK us k v, upd_same, (rk.put rw3).mono (List.prefix_refl _) le⟩
        refine ⟨a', _, rfl, by rw [rz.key hk]; exact DPut.k h1 (by rw [← rk.length]; exact hl), ?_⟩
        exact (g4 α3 _ (List.prefix_refl _) le sm4).of_pure sm4 σ (r3.mono (List.prefix_refl _) le)
      · exact False.elim g4
    · exact False.elim g4
  · exact False.elim g4
end
end Mi

set_option maxHeartbeats 1000000
/-! Mi, loops: what is walked, for, while, list comprehensions, raise. -/
namespace Mi
open PySem PySem.Spec PyProof.Rows L2

structure Src where
  items : List W
  chk : Store → Prop
/-- the iterator J tells the items, as long as the check holds -/
structure JOk (G : Gx) (α0 : List Addr) (H0 : Hp) (J : It) (src : Src) : Prop where
  go : ∀ (α : List Addr) (S : Store) (H : Hp) (i : Nat) (w : W), α0 <+: α → Le H0 H → Sim G α S H → src.chk S → src.items[i]? = some w → J.go i H ∧ ∀ x H', J.yld i H x H' → Le H H' ∧ Sim G α S H' ∧ RelW G α H' w x
  stop : ∀ (α : List Addr) (S : Store) (H : Hp), α0 <+: α → Le H0 H → Sim G α S H → src.chk S → J.stop src.items.length H
def tSrc (G : Gx) (E : XK) (m : Rho → M Src) : TI := fun σ H R => ∃ α S ρ, Sim G α S H ∧ RelR G α H ρ σ ∧ Got G E α H (m ρ S) (fun src _ α' H' => ∀ J, JOk G α' H' J src → R J H')
abbrev IterM (X : Cx) (G : Gx) (E : XK) (tg iter : Expr) (m : Rho → M Src) : Prop := PI X tg iter (tSrc G E m)
/-! ### sources -/
def srcOf : W → M Src := fun w S => match w with
  | .tup ws => .ok ⟨ws, fun _ => True⟩ S
  | .ref l => match rdL S l with
    | some ws => .ok ⟨ws, fun S' => rdL S' l = some ws⟩ S
    | none => .stuck
  | _ => .stuck
def srcRng1 : List W → M Src := fun ws => match ws with
  | [.int j] => if -(2 ^ 62) ≤ j ∧ j < 2 ^ 62 then pure ⟨(List.range j.toNat).map fun (i : Nat) => W.int (0 + (i : Int)), fun _ => True⟩ else M.stuck
  | _ => M.stuck
def srcRng2 : List W → M Src := fun ws => match ws with
  | [.int i, .int j] => if -(2 ^ 62) ≤ i ∧ i < 2 ^ 62 ∧ -(2 ^ 62) ≤ j ∧ j < 2 ^ 62 then pure ⟨(List.range (j - i).toNat).map fun (k : Nat) => W.int (i + (k : Int)), fun _ => True⟩ else M.stuck
  | _ => M.stuck
section
variable {X : Cx} {G : Gx} {E : XK} {tg e : Expr} {me : Rho → M W} {mr : Rho → M (List W)} {p pos : Pos}
theorem jok_list {α0 : List Addr} {H0 : Hp} {a : Addr} {l : Nat} {ws : List W} (h : α0[l]? = some a) : JOk G α0 H0 (Itl G.K a) ⟨ws, fun S' => rdL S' l = some ws⟩ where
  go := fun α S H i w p _ sm hc hi => by
    obtain ⟨vs, h1, rs⟩ := sm.rd hc (pre_get p h)
    obtain ⟨v, hv, rv⟩ := rs.get hi
    refine ⟨⟨vs, v, h1, hv⟩, fun x H' hy => ?_⟩
    obtain ⟨rfl, q⟩ := hy
    have := q vs h1
    rw [hv] at this
    cases this
    exact ⟨Le.refl _, sm, rv⟩
  stop := fun α S H p _ sm hc => by
    obtain ⟨vs, h1, rs⟩ := sm.rd hc (pre_get p h)
    exact ⟨vs, h1, by rw [← rs.length]; exact Nat.le_refl _⟩
theorem jok_tup {α0 : List Addr} {H0 : Hp} {a : Addr} {ws : List W} {vs : List V} (h : SqT G.K H0 a vs) (r : RelWs G α0 H0 ws vs) : JOk G α0 H0 (Itt G.K a) ⟨ws, fun _ => True⟩ where
  go := fun α S H i w p l sm hc hi => by
    have h1 := l.sqT h
    obtain ⟨v, hv, rv⟩ := (r.mono p l).get hi
    refine ⟨⟨vs, v, h1, hv⟩, fun x H' hy => ?_⟩
    obtain ⟨rfl, q⟩ := hy
    have := q vs h1
    rw [hv] at this
    cases this
    exact ⟨Le.refl _, sm, rv⟩
  stop := fun α S H p l sm hc => ⟨vs, l.sqT h, by rw [← r.length]; exact Nat.le_refl _⟩
theorem rng_get {n : Nat} {lo : Int} {i : Nat} {w : W} (h : ((List.range n).map fun (k : Nat) => W.int (lo + (k : Int)))[i]? = some w) : i < n ∧ w = .int (lo + (i : Int)) := by
  rw [List.getElem?_map] at h
  by_cases hi : i < n
  · rw [List.getElem?_range hi] at h
    cases h
    exact ⟨hi, rfl⟩
  · rw [List.getElem?_eq_none (by simpa using hi)] at h
    cases h
theorem jok_rng {α0 : List Addr} {H0 : Hp} {lo : Int} {n : Nat} : JOk G α0 H0 (Itr lo n) ⟨(List.range n).map fun (k : Nat) => W.int (lo + (k : Int)), fun _ => True⟩ where
  go := fun α S H i w p l sm hc hi => by
    obtain ⟨h1, rfl⟩ := rng_get hi
    refine ⟨h1, fun x H' hy => ?_⟩
    obtain ⟨rfl, rfl⟩ := hy
    exact ⟨Le.refl _, sm, .int _⟩
  stop := fun α S H p l sm hc => by
    show n ≤ _
    simp
theorem got_any {A B : Type} {m : M A} {k : A → M B} {P : B → Store → List Addr → Hp → Prop} {α : List Addr} {S : Store} {H : Hp} (g : Got G E α H ((m >>= k) S) P) (P1 : A → Store → List Addr → Hp → Prop)
    (h : ∀ a S', m S = .ok a S' → ∀ α' H', α <+: α' → Le H H' → Sim G α' S' H' → Got G E α' H' (k a S') P → P1 a S' α' H') : Got G E α H (m S) P1 := by
  have g' := Got.bind g
  cases q : m S with
  | stuck => rw [q] at g'; exact g'
  | raise z S1 => rw [q] at g'; exact g'
  | ok a S1 =>
    rw [q] at g'
    exact fun α' H' p l s => h a S1 q α' H' p l s (g' α' H' p l s)
theorem iter_seq (hG : X.K = G.K) (h : PE X e (tM G E me)) : IterM X G E tg e (fun ρ => me ρ >>= srcOf) := by
  refine ⟨fun pins s σ H R I hq => ?_⟩
  obtain ⟨α, S, ρ, sm, rr, g⟩ := hq
  have g : Got G E α H ((me ρ >>= srcOf) S) (fun src _ α' H' => ∀ J, JOk G α' H' J src → R J H') := g
  by_cases ht : ∃ ws S1, me ρ S = .ok (.tup ws) S1
  · obtain ⟨ws, S1, q⟩ := ht
    refine (pi_tup h).run pins s σ H R I ⟨α, S, ρ, sm, rr, got_any g _ fun w S2 q2 α' H' p' l' s' g2 v rv => ?_⟩
    rw [q] at q2
    cases q2
    obtain ⟨a, vs, rfl, ha, rs⟩ := rv.tup_inv
    rw [hG]
    exact ⟨a, rfl, ⟨vs, ha⟩, g2.of_pure s' _ (jok_tup ha rs)⟩
  · refine (pi_list h).run pins s σ H R I ⟨α, S, ρ, sm, rr, got_any g _ fun w S2 q2 α' H' p' l' s' g2 v rv => ?_⟩
    cases w with
    | tup ws => exact (ht ⟨ws, S2, q2⟩).elim
    | ref l =>
      obtain ⟨a, rfl, ha⟩ := rv.ref_inv
      unfold srcOf at g2
      dsimp only at g2
      cases q3 : rdL S2 l with
      | none => rw [q3] at g2; exact False.elim g2
      | some ws =>
        rw [q3] at g2
        obtain ⟨vs, h1, rs⟩ := s'.rd q3 ha
        rw [hG]
        exact ⟨a, rfl, ⟨vs, h1⟩, g2.of_pure s' _ (jok_list ha)⟩
    | _ => exact False.elim g2
theorem iter_rng1 {a : Expr} (hg : Gl X "range") (hm : X.mg "range" = none) (ha : PA X [a] (tA G E mr)) (hs : starEach [a] X.env = [(false, eval a X.env)] := by rfl) : IterM X G E tg (.Call (.Name "range" p) [a] [] pos) (fun ρ => mr ρ >>= srcRng1) := by
  refine ⟨fun pins s σ H R I hq => (pi_range1 hg hm ha hs).run pins s σ H R I ?_⟩
  obtain ⟨α, S, ρ, sm, rr, g⟩ := hq
  refine ⟨α, S, ρ, sm, rr, got_any g _ fun ws S1 q α' H' p' l' s' g2 vs rv => ?_⟩
  unfold srcRng1 at g2
  split at g2
  · rename_i j
    obtain ⟨v, rfl, h1⟩ := one_inv rv
    rw [h1.int_inv]
    split at g2
    · rename_i hj
      exact ⟨j, rfl, hj.1, hj.2, g2.of_pure s' _ jok_rng⟩
    · exact False.elim g2
  · exact False.elim g2
theorem iter_rng2 {a b : Expr} (hg : Gl X "range") (hm : X.mg "range" = none) (ha : PA X [a, b] (tA G E mr)) (hs : starEach [a, b] X.env = [(false, eval a X.env), (false, eval b X.env)] := by rfl) (hs2 : starEach [b] X.env = [(false, eval b X.env)] := by rfl) :
    IterM X G E tg (.Call (.Name "range" p) [a, b] [] pos) (fun ρ => mr ρ >>= srcRng2) := by
  refine ⟨fun pins s σ H R I hq => (pi_range2 hg hm ha hs hs2).run pins s σ H R I ?_⟩
  obtain ⟨α, S, ρ, sm, rr, g⟩ := hq
  refine ⟨α, S, ρ, sm, rr, got_any g _ fun ws S1 q α' H' p' l' s' g2 vs rv => ?_⟩
  unfold srcRng2 at g2
  split at g2
  · rename_i i j
    obtain ⟨v, z, rfl, h1, h2⟩ := two_inv rv
    rw [h1.int_inv, h2.int_inv]
    split at g2
    · rename_i hj
      exact ⟨i, j, rfl, hj, g2.of_pure s' _ jok_rng⟩
    · exact False.elim g2
  · exact False.elim g2
end

/-! ### for -/
open Classical in
noncomputable def chkM (c : Store → Prop) : M Unit := fun S => if c S then .ok () S else .stuck
noncomputable def forGo (chk : Store → Prop) (t : Tg) (b : St1) : List W → Rho → M (Fl × Rho)
  | [], ρ => chkM chk >>= fun _ => pure (.nx, ρ)
  | w :: ws, ρ => chkM chk >>= fun _ => t w ρ >>= fun ρ1 => b ρ1 >>= fun r => match r.1 with
    | .nx => forGo chk t b ws r.2
    | .ct => forGo chk t b ws r.2
    | .bk => pure (.nx, r.2)
    | .rt v => pure (.rt v, r.2)
noncomputable def sFor (src : Rho → M Src) (t : Tg) (b : St1) : St1 := fun ρ => src ρ >>= fun s => forGo s.chk t b s.items ρ
section
variable {X : Cx} {G : Gx} {E : XK} {tg iter : Expr} {pos : Pos} {src : Rho → M Src} {t : Tg} {b : St1} {body : List Stmt}
theorem got_chk {A : Type} {c : Store → Prop} {k : Unit → M A} {P : A → Store → List Addr → Hp → Prop} {α : List Addr} {S : Store} {H : Hp} (g : Got G E α H ((chkM c >>= k) S) P) : c S ∧ Got G E α H (k () S) P := by
  by_cases h : c S
  · rw [bind_ok (a := ()) (S' := S) (by unfold chkM; rw [if_pos h])] at g
    exact ⟨h, g⟩
  · rw [bind_stuck (by unfold chkM; rw [if_neg h])] at g
    exact False.elim g
theorem ps_forM (hp : PassesOwn (model X.prog X.w) X.A X.env X.xe) (hc : X.calm = true) (hi : IterM X G E tg iter src) (hg : PG X tg (tG G E t)) (hb : PSs X body (tS G E b)) (hs : ∀ x, foldedSetIterable iter X.env x = pure x := by intro _; rfl) :
    PS X (.For tg iter body [] pos) (tS G E (sFor src t b)) := by
  refine ⟨fun pins s σ H D I h => (ps_for hp hc hi hg hb hs).run pins s σ H D I ?_⟩
  obtain ⟨α, S, ρ, sm, rr, g⟩ := h
  refine ⟨α, S, ρ, sm, rr, got_any g _ fun sr S1 q α1 H1 p1 l1 s1 g1 J hJ => ?_⟩
  refine ⟨fun i m σ' H' => m = sr.items.length - i ∧ i ≤ sr.items.length ∧ ∃ α2 S2 ρ2, α1 <+: α2 ∧ Le H1 H' ∧ Sim G α2 S2 H' ∧ RelR G α2 H' ρ2 σ' ∧ Got G E α2 H' (forGo sr.chk t b (sr.items.drop i) ρ2 S2) (FlP G D),
    ⟨_, rfl, Nat.zero_le _, α1, S1, ρ, List.prefix_refl _, Le.refl _, s1, rr.mono p1 l1, g1⟩, ?_⟩
  rintro i m σ' H' ⟨rfl, hi', α2, S2, ρ2, p2, l2, s2, r2, g2⟩
  by_cases hlt : i < sr.items.length
  · have hd : sr.items.drop i = sr.items[i] :: sr.items.drop (i + 1) := List.drop_eq_getElem_cons hlt
    rw [hd] at g2
    unfold forGo at g2
    obtain ⟨hck, g3⟩ := got_chk g2
    obtain ⟨hgo, hy⟩ := hJ.go α2 S2 H' i sr.items[i] p2 l2 s2 hck (by simp [hlt])
    refine .inr ⟨hgo, _, fun σ4 H4 h4 => ⟨sr.items.length - (i + 1), by omega, rfl, hlt, h4⟩, fun x H3 y => ?_⟩
    obtain ⟨l3, s3, rx⟩ := hy x H3 y
    refine ⟨α2, S2, ρ2, sr.items[i], s3, r2.mono (List.prefix_refl _) l3, rx, (Got.bind (g3.weak (List.prefix_refl _) l3)).imp fun ρ3 S4 α4 H4 p4 l4 s4 g4 σ4 r4 => ?_⟩
    refine ⟨α4, S4, ρ3, s4, r4, (Got.bind g4).imp fun r S5 α5 H5 p5 l5 s5 g5 σ5 r5 => ?_⟩
    obtain ⟨f, ρ5⟩ := r
    cases f with
    | nx => exact ⟨α5, S5, ρ5, p2.trans (p4.trans p5), l2.trans (l3.trans (l4.trans l5)), s5, r5, g5⟩
    | ct => exact ⟨α5, S5, ρ5, p2.trans (p4.trans p5), l2.trans (l3.trans (l4.trans l5)), s5, r5, g5⟩
    | bk => exact g5.of_pure s5 σ5 r5
    | rt w => exact g5.of_pure s5 σ5 r5
  · have e : i = sr.items.length := by omega
    subst e
    rw [List.drop_length] at g2
    unfold forGo at g2
    obtain ⟨hck, g3⟩ := got_chk g2
    exact .inl ⟨hJ.stop α2 S2 H' p2 l2 s2 hck, g3.of_pure s2 σ' r2⟩
end

/-! ### while -/
def whN (c : Rho → M Bool) (b : St1) : Nat → Rho → M (Fl × Rho)
  | 0, _ => M.stuck
  | n + 1, ρ => c ρ >>= fun x => if x = true then b ρ >>= fun r => match r.1 with
    | .nx => whN c b n r.2
    | .ct => whN c b n r.2
    | .bk => pure (.nx, r.2)
    | .rt v => pure (.rt v, r.2) else pure (.nx, ρ)
open Classical in
noncomputable def sWhile (c : Rho → M Bool) (b : St1) : St1 := fun ρ S => if h : ∃ n, whN c b n ρ S ≠ .stuck then whN c b h.choose ρ S else .stuck
section
variable {X : Cx} {G : Gx} {E : XK} {ce : Expr} {pos : Pos} {c : Rho → M Bool} {b : St1} {body : List Stmt}
theorem ps_whileM (hp : PassesOwn (model X.prog X.w) X.A X.env X.xe) (hc : PT X ce (tB G E c)) (hb : PSs X body (tS G E b)) : PS X (.While ce body [] pos) (tS G E (sWhile c b)) := by
  refine ⟨fun pins s σ H D I h => (ps_while hp hc hb).run pins s σ H D I ?_⟩
  obtain ⟨α, S, ρ, sm, rr, g⟩ := h
  have g0 : ∃ n, Got G E α H (whN c b n ρ S) (FlP G D) := by
    unfold sWhile at g
    by_cases hn : ∃ n, whN c b n ρ S ≠ .stuck
    · rw [dif_pos hn] at g
      exact ⟨_, g⟩
    · rw [dif_neg hn] at g
      exact False.elim g
  obtain ⟨n, gn⟩ := g0
  refine ⟨fun m σ' H' => ∃ α2 S2 ρ2, Sim G α2 S2 H' ∧ RelR G α2 H' ρ2 σ' ∧ Got G E α2 H' (whN c b m ρ2 S2) (FlP G D), ⟨n, α, S, ρ, sm, rr, gn⟩, ?_⟩
  rintro m σ' H' ⟨α2, S2, ρ2, s2, r2, g2⟩
  cases m with
  | zero => exact False.elim g2
  | succ m =>
    unfold whN at g2
    refine ⟨α2, S2, ρ2, s2, r2, got_any g2 _ fun x S3 q α3 H3 p3 l3 s3 g3 y hy => ?_⟩
    subst hy
    cases x with
    | true =>
      refine ⟨_, fun σ4 H4 h4 => ⟨m, Nat.lt_succ_self m, h4⟩, α3, S3, ρ2, s3, r2.mono p3 l3, (Got.bind g3).imp fun r S5 α5 H5 p5 l5 s5 g5 σ5 r5 => ?_⟩
      obtain ⟨f, ρ5⟩ := r
      cases f with
      | nx => exact ⟨α5, S5, ρ5, s5, r5, g5⟩
      | ct => exact ⟨α5, S5, ρ5, s5, r5, g5⟩
      | bk => exact g5.of_pure s5 σ5 r5
      | rt w => exact g5.of_pure s5 σ5 r5
    | false => exact g3.of_pure s3 σ' (r2.mono p3 l3)
theorem whN_mono {n m : Nat} {ρ : Rho} {S : Store} (h : n ≤ m) (hn : whN c b n ρ S ≠ .stuck) : whN c b m ρ S = whN c b n ρ S := by
  induction n generalizing m ρ S with
  | zero => exact (hn rfl).elim
  | succ n ih =>
    cases m with
    | zero => omega
    | succ m =>
      unfold whN at hn ⊢
      cases q : c ρ S with
      | stuck => rw [bind_stuck q] at hn; exact (hn rfl).elim
      | raise z S1 => rw [bind_raise q, bind_raise q]
      | ok x S1 =>
        rw [bind_ok q] at hn
        rw [bind_ok q, bind_ok q]
        cases x with
        | false => rfl
        | true =>
          rw [if_pos rfl] at hn
          rw [if_pos rfl, if_pos rfl]
          cases q2 : b ρ S1 with
          | stuck => rw [bind_stuck q2] at hn; exact (hn rfl).elim
          | raise z S2 => rw [bind_raise q2, bind_raise q2]
          | ok r S2 =>
            rw [bind_ok q2] at hn
            rw [bind_ok q2, bind_ok q2]
            obtain ⟨f, ρ2⟩ := r
            cases f with
            | nx => exact ih (by omega) hn
            | ct => exact ih (by omega) hn
            | bk => rfl
            | rt w => rfl
theorem sWhile_eq {n : Nat} {ρ : Rho} {S : Store} {r : Rs (Fl × Rho)} (h : whN c b n ρ S = r) (hr : r ≠ .stuck) : sWhile c b ρ S = r := by
  have hn : ∃ n, whN c b n ρ S ≠ .stuck := ⟨n, by rw [h]; exact hr⟩
  unfold sWhile
  rw [dif_pos hn, ← h]
  have h1 := hn.choose_spec
  have h2 : whN c b n ρ S ≠ .stuck := by rw [h]; exact hr
  rcases Nat.le_total n hn.choose with q | q
  · exact whN_mono q h2
  · exact (whN_mono q h1).symm
end
end Mi

set_option maxHeartbeats 1000000
/-! Mi, list comprehensions; raise. -/
namespace Mi
open PySem PySem.Spec PyProof.Rows L2

def noX {A : Type} (m : M A) : M A := fun S => match m S with
  | .raise _ _ => .stuck
  | r => r
def wipeR : Rho → List Nat → Rho
  | ρ, [] => ρ
  | ρ, v :: vs => (wipeR ρ vs).set v none
def newLoc : M Nat := fun S => .ok S.length (S ++ [.lst []])
def pushM (l : Nat) (y : W) : M Unit := fun S => match muL S l with
  | some ws => if ws.length < sizeLine then .ok () (S.set l (.lst (ws ++ [y]))) else .stuck
  | none => .stuck
def lcOne (t : Tg) (c : Rho → M Bool) (e : Rho → M W) (ρ : Rho) (l : Nat) (w : W) : M Unit := t w ρ >>= fun ρ1 => c ρ1 >>= fun b => if b = true then e ρ1 >>= fun y => pushM l y else pure ()
noncomputable def lcGo (chk : Store → Prop) (t : Tg) (c : Rho → M Bool) (e : Rho → M W) (ρ : Rho) (l : Nat) : List W → M W
  | [] => chkM chk >>= fun _ => pure (.ref l)
  | w :: ws => chkM chk >>= fun _ => noX (lcOne t c e ρ l w) >>= fun _ => lcGo chk t c e ρ l ws
noncomputable def eLc (src : Rho → M Src) (t : Tg) (c : Rho → M Bool) (e : Rho → M W) (vs : List Nat) : Rho → M W := fun ρ => src ρ >>= fun s => newLoc >>= fun l => lcGo s.chk t c e (wipeR ρ vs) l s.items
def cYes : Rho → M Bool := fun _ => pure true
/-- a target of the block: it stores to the block's own names alone -/
def GW (G : Gx) (vs : List Nat) (g : TG) (t : Tg) : Prop := ∀ (α : List Addr) (S : Store) (ρ : Rho) (σ : L2.St) (H : Hp) (w : W) (v : V) (Q : L2.St → Hp → Prop), Sim G α S H → RelR G α H ρ σ → RelW G α H w v →
  Got G E0 α H (t w ρ S) (fun ρ' _ α' H' => ∀ σ', RelR G α' H' ρ' σ' → wipe σ' vs = wipe σ vs → Q σ' H') → g v σ H Q
def GWs (G : Gx) (vs : List Nat) (g : TGs) (t : List W → Rho → M Rho) : Prop := ∀ (α : List Addr) (S : Store) (ρ : Rho) (σ : L2.St) (H : Hp) (ws : List W) (zs : List V) (Q : L2.St → Hp → Prop), Sim G α S H → RelR G α H ρ σ → RelWs G α H ws zs →
  Got G E0 α H (t ws ρ S) (fun ρ' _ α' H' => ∀ σ', RelR G α' H' ρ' σ' → wipe σ' vs = wipe σ vs → Q σ' H') → g zs σ H Q
section
variable {G : Gx} {E E' : XK} {α : List Addr} {S : Store} {H : Hp} {vs : List Nat}
theorem Got.noX {A : Type} {m : M A} {P : A → Store → List Addr → Hp → Prop} (g : Got G E α H (Mi.noX m S) P) : Got G E' α H (m S) P := by
  unfold Mi.noX at g
  cases q : m S with
  | stuck => rw [q] at g; exact g
  | raise z S1 => rw [q] at g; exact False.elim g
  | ok a S1 => rw [q] at g; exact g
theorem wipe_set {σ : L2.St} {i : Nat} {x : Option V} : ∀ {vs : List Nat}, i ∈ vs → wipe (σ.set i x) vs = wipe σ vs
  | v :: vs, h => by
    show (wipe (σ.set i x) vs).set v none = (wipe σ vs).set v none
    by_cases hv : i ∈ vs
    · rw [wipe_set hv]
    · have e : i = v := by
        rcases List.mem_cons.mp h with e | e
        · exact e
        · exact (hv e).elim
      subst e
      have go : ∀ {us : List Nat}, i ∉ us → wipe (σ.set i x) us = (wipe σ us).set i x := by
        intro us
        induction us with
        | nil => intro _; rfl
        | cons u us ih =>
          intro hu
          show (wipe (σ.set i x) us).set u none = ((wipe σ us).set u none).set i x
          rw [ih (fun z => hu (List.mem_cons_of_mem _ z)), List.set_comm]
          exact fun z => hu (by rw [z]; exact List.mem_cons_self)
      rw [go hv, List.set_set]
theorem gw_name {i : Nat} (hi : i ∈ vs) : GW G vs (gName i) (gtN i) := fun α S ρ σ H w v Q sm rr rw_ g => g.of_pure sm _ (rr.set i rw_) (wipe_set hi)
theorem gws_nil : GWs G vs gNil gtNil := fun α S ρ σ H ws zs Q sm rr rw_ g => by
  cases ws with
  | nil =>
    rw [rw_.nil_inv]
    exact ⟨rfl, g.of_pure sm σ rr rfl⟩
  | cons w ws => exact False.elim g
theorem gws_cons {g : TG} {t : Tg} {gs : TGs} {ts : List W → Rho → M Rho} (h1 : GW G vs g t) (h2 : GWs G vs gs ts) : GWs G vs (gCons g gs) (gtCons t ts) := fun α S ρ σ H ws zs Q sm rr rw_ gg => by
  cases ws with
  | nil => exact False.elim gg
  | cons w ws =>
    obtain ⟨v, rs, rfl, hv, hrs⟩ := rw_.cons_inv
    refine ⟨v, rs, rfl, h1 α S ρ σ H w v _ sm rr hv ((Got.bind gg).imp fun ρ' S' α' H' p l s' g' σ' r' e' => ?_)⟩
    refine h2 α' S' ρ' σ' H' ws rs Q s' r' (hrs.mono p l) (g'.imp fun ρ2 S2 α2 H2 p2 l2 s2 g2 σ2 r2 e2 => g2 σ2 r2 (e2.trans e'))
theorem gw_tup {gs : TGs} {ts : List W → Rho → M Rho} {n : Nat} (h : GWs G vs gs ts) : GW G vs (gTup G.K n gs) (gtTup n ts) := fun α S ρ σ H w v Q sm rr rw_ gg => by
  cases w with
  | tup ws =>
    obtain ⟨a, zs, rfl, h1, rs⟩ := rw_.tup_inv
    have g' : Got G E0 α H ((if ws.length = n then ts ws ρ else M.stuck) S) (fun ρ' _ α' H' => ∀ σ', RelR G α' H' ρ' σ' → wipe σ' vs = wipe σ vs → Q σ' H') := gg
    split at g'
    · rename_i hl
      exact ⟨a, zs, rfl, h1, rs.length.symm.trans hl, h α S ρ σ H ws zs Q sm rr rs g'⟩
    · exact False.elim g'
  | _ => exact False.elim gg
theorem RelR.wipe {ρ : Rho} {σ : L2.St} (r : RelR G α H ρ σ) : ∀ vs : List Nat, RelR G α H (wipeR ρ vs) (L2.wipe σ vs)
  | [] => r
  | v :: vs => by
    have q := r.wipe vs
    refine ⟨by show ((wipeR ρ vs).set v none).length = ((L2.wipe σ vs).set v none).length; rw [List.length_set, List.length_set, q.len], fun i w e => ?_⟩
    have e : ((wipeR ρ vs).set v none)[i]? = some (some w) := e
    show ∃ u, ((L2.wipe σ vs).set v none)[i]? = some (some u) ∧ _
    by_cases hi : v = i
    · subst hi
      by_cases hl : v < (wipeR ρ vs).length
      · rw [List.getElem?_set_self hl] at e
        cases e
      · rw [List.getElem?_eq_none (by simpa using hl)] at e
        cases e
    · rw [List.getElem?_set_ne hi] at e ⊢
      exact q.at_ i w e
theorem tM_lc {src : Rho → M Src} {t : Tg} {c : Rho → M Bool} {e : Rho → M W} {g : TG} {σ : L2.St} {Q : VK} (gw : GW G vs g t) (h : tM G E (eLc src t c e vs) σ H Q) : tLc (tSrc G E src) g (tB G E0 c) (tM G E0 e) vs σ H Q := by
  obtain ⟨α, S, ρ, sm, rr, g0⟩ := h
  refine ⟨α, S, ρ, sm, rr, got_any g0 _ fun sr S1 q α1 H1 p1 l1 s1 g1 J hJ => fun D hD => ?_⟩
  have g1 : Got G E α1 H1 (lcGo sr.chk t c e (wipeR ρ vs) S1.length sr.items (S1 ++ [.lst []])) (Pv G Q) := g1
  have hlen : S1.length = α1.length := s1.len.symm
  refine ⟨fun i m H' => m = sr.items.length - i ∧ i ≤ sr.items.length ∧ ∃ α2 S2, (α1 ++ [D]) <+: α2 ∧ Le H1 H' ∧ Sim G α2 S2 H' ∧ Got G E α2 H' (lcGo sr.chk t c e (wipeR ρ vs) S1.length (sr.items.drop i) S2) (Pv G Q),
    ⟨_, rfl, Nat.zero_le _, α1 ++ [D], S1 ++ [.lst []], List.prefix_refl _, Le.new hD, s1.new (o := .lst []) hD ⟨[], upd_same, .nil⟩, g1.weak (List.prefix_append _ _) (Le.new hD)⟩, ?_⟩
  rintro i m H' ⟨rfl, hi', α2, S2, p2, l2, s2, g2⟩
  have pp : α1 <+: α2 := (List.prefix_append _ _).trans p2
  have hDl : α2[S1.length]? = some D := pre_get p2 (by rw [hlen]; simp)
  by_cases hlt : i < sr.items.length
  · have hd : sr.items.drop i = sr.items[i] :: sr.items.drop (i + 1) := List.drop_eq_getElem_cons hlt
    rw [hd] at g2
    unfold lcGo at g2
    obtain ⟨hck, g3⟩ := got_chk g2
    obtain ⟨hgo, hy⟩ := hJ.go α2 S2 H' i sr.items[i] pp l2 s2 hck (by simp [hlt])
    refine .inr ⟨hgo, _, fun H4 h4 => ⟨sr.items.length - (i + 1), by omega, rfl, hlt, h4⟩, fun x H3 y => ?_⟩
    obtain ⟨l3, s3, rx⟩ := hy x H3 y
    have r0 : RelR G α2 H3 (wipeR ρ vs) (wipe σ vs) := ((rr.mono p1 l1).mono pp (l2.trans l3)).wipe vs
    have g4 : Got G E0 α2 H3 (lcOne t c e (wipeR ρ vs) S1.length sr.items[i] S2) _ := Got.noX (Got.bind (g3.weak (List.prefix_refl _) l3))
    unfold lcOne at g4
    refine gw α2 S2 _ _ H3 _ x _ s3 r0 rx ((Got.bind g4).imp fun ρ4 S4 α4 H4 p4 l4 s4 g5 σ4 r4 e4 => ⟨?_, ?_⟩)
    · rw [e4]
      have go : ∀ {us : List Nat} {τ : L2.St}, (∀ v ∈ us, v ∈ us) → wipe (wipe τ us) us = wipe τ us := by
        intro us τ _
        induction us with
        | nil => rfl
        | cons v us ih =>
          show (wipe ((wipe τ us).set v none) us).set v none = (wipe τ us).set v none
          by_cases hv : v ∈ us
          · rw [wipe_set hv, ih fun _ z => z]
          · have go2 : ∀ {zs : List Nat} {τ : L2.St}, v ∉ zs → wipe (τ.set v none) zs = (wipe τ zs).set v none := by
              intro zs
              induction zs with
              | nil => intro τ _; rfl
              | cons u zs ih2 =>
                intro τ hu
                show (wipe (τ.set v none) zs).set u none = ((wipe τ zs).set u none).set v none
                rw [ih2 (fun z => hu (List.mem_cons_of_mem _ z)), List.set_comm]
                exact fun z => hu (by rw [z]; exact List.mem_cons_self)
            rw [go2 hv, ih fun _ z => z, List.set_set]
      exact go fun _ z => z
    · refine ⟨α4, S4, ρ4, s4, r4, (Got.bind g5).imp fun b S5 α5 H5 p5 l5 s5 g6 b' hb' => ?_⟩
      subst hb'
      have nx : ∀ α6 S6 H6, α5 <+: α6 → Le H5 H6 → Sim G α6 S6 H6 → Got G E α6 H6 (lcGo sr.chk t c e (wipeR ρ vs) S1.length (sr.items.drop (i + 1)) S6) (Pv G Q) →
          ∃ α2 S2, (α1 ++ [D]) <+: α2 ∧ Le H1 H6 ∧ Sim G α2 S2 H6 ∧ Got G E α2 H6 (lcGo sr.chk t c e (wipeR ρ vs) S1.length (sr.items.drop (i + 1)) S2) (Pv G Q) :=
        fun α6 S6 H6 p6 l6 s6 g7 => ⟨α6, S6, p2.trans (p4.trans (p5.trans p6)), l2.trans (l3.trans (l4.trans (l5.trans l6))), s6, g7⟩
      cases b with
      | true =>
        refine ⟨α5, S5, ρ4, s5, r4.mono p5 l5, (Got.bind g6).imp fun y S6 α6 H6 p6 l6 s6 g7 z rz => ?_⟩
        unfold pushM at g7
        split at g7
        · rename_i ws hm
          have hD6 : α6[S1.length]? = some D := pre_get (p4.trans (p5.trans p6)) hDl
          obtain ⟨acc, ha, ra⟩ := s6.mu hm hD6
          split at g7
          · rename_i hl
            have le : Le H6 (upd H6 D (.lst (acc ++ [z]))) := Le.put ha rfl
            have s7 : Sim G α6 (S6.set S1.length (.lst (ws ++ [y]))) (upd H6 D (.lst (acc ++ [z]))) := s6.put hD6 ha rfl ⟨acc ++ [z], upd_same, (ra.append (.cons rz .nil)).mono (List.prefix_refl _) le⟩
            refine ⟨acc, ha, by rw [← ra.length]; exact hl, nx α6 _ _ p6 (l6.trans le) s7 ?_⟩
            exact g7 α6 _ (List.prefix_refl _) le s7
          · exact False.elim g7
        · exact False.elim g7
      | false =>
        exact nx α5 S5 H5 (List.prefix_refl _) (Le.refl _) s5 (g6 α5 H5 (List.prefix_refl _) (Le.refl _) s5)
  · have e : i = sr.items.length := by omega
    subst e
    rw [List.drop_length] at g2
    unfold lcGo at g2
    obtain ⟨hck, g3⟩ := got_chk g2
    exact .inl ⟨hJ.stop α2 S2 H' pp l2 s2 hck, g3.of_pure s2 _ (.ref hDl)⟩
variable {X : Cx} {elt tg iter : Expr} {ifs : List Expr} {scope : Scope} {own : List (Str × Nat)} {pos : Pos} {src : Rho → M Src} {t : Tg} {c : Rho → M Bool} {e : Rho → M W} {g : TG}
theorem pts_nilM : PTs X [] (tB G E cYes) := by
  refine ⟨fun pins s σ H Q I h => pts_nil.run pins s σ H Q I ?_⟩
  obtain ⟨α, S, ρ, sm, rr, gg⟩ := h
  exact gg.of_pure sm _ rfl
theorem pts_oneM {ce : Expr} (h : PT X ce (tB G E c)) : PTs X [ce] (tB G E c) := pts_one h
theorem pm_lc (hc : X.calm = true) (hN : X.N.Nodup) (hi : IterM X G E tg iter src) (ok : BlkOk X.N X.env.scope scope own) (gw : GW G (own.map (·.2)) g t)
    (hg : ∀ (s : Shared) (H : Hp) (C : Addr) (cl : List (Str × Addr)) (fp : List Addr), PG (X.blk s H scope (compEnvC scope cl C X.env) fp) tg g)
    (ht : ∀ (s : Shared) (H : Hp) (C : Addr) (cl : List (Str × Addr)) (fp : List Addr), PTs (X.blk s H scope (compEnvC scope cl C X.env) fp) ifs (tB G E0 c))
    (he : ∀ (s : Shared) (H : Hp) (C : Addr) (cl : List (Str × Addr)) (fp : List Addr), PE (X.blk s H scope (compEnvC scope cl C X.env) fp) elt (tM G E0 e)) (hs : ∀ x, foldedSetIterable iter X.env x = pure x := by intro _; rfl) :
    PE X (.ListComp elt [⟨tg, iter, ifs, 0⟩] scope pos) (tM G E (eLc src t c e (own.map (·.2)))) :=
  ⟨fun pins s σ H Q I h => (L2.pe_lc hc hN hi ok hg ht he hs).run pins s σ H Q I (tM_lc gw h)⟩
/-- name = [..] -/
theorem ps_lcM {i : Nat} {y : Str} {py spos : Pos} (hc : X.calm = true) (hN : X.N.Nodup) (hy : X.N[i]? = some y) (hyl : X.env.scope.names.lookup y = some .local)
    (hsw : swapsWith (.ListComp elt [⟨tg, iter, ifs, 0⟩] scope pos) (some (.Name y py)) spos.line X.env = pure true) (hi : IterM X G E tg iter src) (ok : BlkOk X.N X.env.scope scope own) (gw : GW G (own.map (·.2)) g t)
    (hg : ∀ (s : Shared) (H : Hp) (C : Addr) (cl : List (Str × Addr)) (fp : List Addr), PG (X.blk s H scope (compEnvC scope cl C X.env) fp) tg g)
    (ht : ∀ (s : Shared) (H : Hp) (C : Addr) (cl : List (Str × Addr)) (fp : List Addr), PTs (X.blk s H scope (compEnvC scope cl C X.env) fp) ifs (tB G E0 c))
    (he : ∀ (s : Shared) (H : Hp) (C : Addr) (cl : List (Str × Addr)) (fp : List Addr), PE (X.blk s H scope (compEnvC scope cl C X.env) fp) elt (tM G E0 e)) (hs : ∀ x, foldedSetIterable iter X.env x = pure x := by intro _; rfl) :
    PS X (.Assign [.Name y py] (.ListComp elt [⟨tg, iter, ifs, 0⟩] scope pos) spos) (tS G E (sAsg (eLc src t c e (own.map (·.2))) (gtN i))) := by
  refine ⟨fun pins s σ H D I h => (L2.ps_setLc hc hN hy hyl hsw hi ok hg ht he hs).run pins s σ H D I ?_⟩
  refine tS_asg (G := G) (E := E) (me := eLc src t c e (own.map (·.2))) (t := gtN i) (fun _ _ _ q => tM_lc gw q) (fun v σ H Q q => ?_) h
  obtain ⟨α, S, ρ, w, sm, rr, rw_, g⟩ := q
  exact g.of_pure sm _ (rr.set i rw_)
end
end Mi

set_option maxHeartbeats 1000000
/-! Mi, further: zip, raise, isinstance, calls with keywords, dict displays. -/
namespace Mi
open PySem PySem.Spec PyProof.Rows L2

/-! ### zip -/
def zipT (ws us : List W) : List W := (ws.zip us).map fun p => .tup [p.1, p.2]
def srcZip : List W → M Src := fun ws S => match ws with
  | [.tup a, .tup b] => .ok ⟨zipT a b, fun _ => True⟩ S
  | [.ref l, .ref m] => match rdL S l, rdL S m with
    | some a, some b => .ok ⟨zipT a b, fun S' => rdL S' l = some a ∧ rdL S' m = some b⟩ S
    | _, _ => .stuck
  | _ => .stuck
section
variable {X : Cx} {G : Gx} {E : XK} {e e2 : Expr} {mr : Rho → M (List W)} {p pos tpos : Pos} {elts : List Expr} {kk : Nat}
theorem zipT_get {ws us : List W} {i : Nat} {w : W} (h : (zipT ws us)[i]? = some w) : ∃ a b, ws[i]? = some a ∧ us[i]? = some b ∧ w = .tup [a, b] := by
  unfold zipT at h
  rw [List.getElem?_map] at h
  cases q : (ws.zip us)[i]? with
  | none => rw [q] at h; cases h
  | some x =>
    rw [q] at h
    cases h
    have := List.getElem?_zip_eq_some.mp q
    exact ⟨x.1, x.2, this.1, this.2, rfl⟩
theorem zipT_len {ws us : List W} : (zipT ws us).length = min ws.length us.length := by simp [zipT]
theorem pair_new {α : List Addr} {S : Store} {H : Hp} {T : Addr} {a b : W} {x y : V} (sm : Sim G α S H) (hT : H T = none) (ra : RelW G α H a x) (rb : RelW G α H b y) : Le H (upd H T (.tup [x, y])) ∧ Sim G α S (upd H T (.tup [x, y])) ∧ RelW G α (upd H T (.tup [x, y])) (.tup [a, b]) (.ref T) :=
  ⟨Le.new hT, sm.beside hT, .tup (SqT.of upd_same) ((RelWs.cons ra (.cons rb .nil)).mono (List.prefix_refl _) (Le.new hT))⟩
theorem jok_zipL {α0 : List Addr} {H0 : Hp} {a b : Addr} {l m : Nat} {ws us : List W} (h : α0[l]? = some a) (h2 : α0[m]? = some b) : JOk G α0 H0 (Itz G.K a b) ⟨zipT ws us, fun S' => rdL S' l = some ws ∧ rdL S' m = some us⟩ where
  go := fun α S H i w p _ sm hc hi => by
    obtain ⟨c1, c2⟩ := hc
    obtain ⟨x, y, e1, e2, rfl⟩ := zipT_get hi
    obtain ⟨vs, k1, rs⟩ := sm.rd c1 (pre_get p h)
    obtain ⟨zs, k2, rz⟩ := sm.rd c2 (pre_get p h2)
    obtain ⟨v, hv, rv⟩ := rs.get e1
    obtain ⟨z, hz, rv2⟩ := rz.get e2
    refine ⟨⟨vs, zs, v, z, k1, k2, hv, hz⟩, fun x' H' hy => ?_⟩
    obtain ⟨T, x2, y2, rfl, hT, rfl, q1, q2⟩ := hy
    have a1 := q1 vs k1
    have a2 := q2 zs k2
    rw [hv] at a1
    rw [hz] at a2
    cases a1
    cases a2
    exact pair_new sm hT rv rv2
  stop := fun α S H p _ sm hc => by
    obtain ⟨c1, c2⟩ := hc
    obtain ⟨vs, k1, rs⟩ := sm.rd c1 (pre_get p h)
    obtain ⟨zs, k2, rz⟩ := sm.rd c2 (pre_get p h2)
    refine ⟨vs, zs, k1, k2, ?_⟩
    show _ ≤ (zipT ws us).length ∨ _ ≤ (zipT ws us).length
    rw [zipT_len, ← rs.length, ← rz.length]
    omega
theorem jok_zipT {α0 : List Addr} {H0 : Hp} {a b : Addr} {ws us : List W} {vs zs : List V} (h : SqT G.K H0 a vs) (r : RelWs G α0 H0 ws vs) (h2 : SqT G.K H0 b zs) (r2 : RelWs G α0 H0 us zs) : JOk G α0 H0 (RZ.ItzT G.K a b) ⟨zipT ws us, fun _ => True⟩ where
  go := fun α S H i w p l sm hc hi => by
    obtain ⟨x, y, e1, e2, rfl⟩ := zipT_get hi
    have k1 := l.sqT h
    have k2 := l.sqT h2
    obtain ⟨v, hv, rv⟩ := (r.mono p l).get e1
    obtain ⟨z, hz, rv2⟩ := (r2.mono p l).get e2
    refine ⟨⟨vs, zs, v, z, k1, k2, hv, hz⟩, fun x' H' hy => ?_⟩
    obtain ⟨T, x2, y2, rfl, hT, rfl, q1, q2⟩ := hy
    have a1 := q1 vs k1
    have a2 := q2 zs k2
    rw [hv] at a1
    rw [hz] at a2
    cases a1
    cases a2
    exact pair_new sm hT rv rv2
  stop := fun α S H p l sm hc => by
    refine ⟨vs, zs, l.sqT h, l.sqT h2, ?_⟩
    show _ ≤ (zipT ws us).length ∨ _ ≤ (zipT ws us).length
    rw [zipT_len, ← r.length, ← r2.length]
    omega
theorem iter_zip (hG : X.K = G.K) (hg : Gl X "zip") (hm : X.mg "zip" = none) (ha : PA X [e, e2] (tA G E mr)) (hs : starEach [e, e2] X.env = (false, eval e X.env) :: starEach [e2] X.env := by rfl) (hpl : (backTo pos (starEach [e2] X.env)).any (·.1) = false := by rfl) :
    IterM X G E (.Tuple elts kk tpos) (.Call (.Name "zip" p) [e, e2] [] pos) (fun ρ => mr ρ >>= srcZip) := by
  refine ⟨fun pins s σ H R I hq => (RZ.pi_zipA hg hm ha hs hpl).run pins s σ H R I ?_⟩
  obtain ⟨α, S, ρ, sm, rr, g⟩ := hq
  refine ⟨α, S, ρ, sm, rr, got_any g _ fun ws S1 q α' H' p' l' s' g2 vs rv => ?_⟩
  unfold srcZip at g2
  rw [hG]
  split at g2
  · obtain ⟨v, z, rfl, h1, h2⟩ := two_inv rv
    obtain ⟨a, us, rfl, k1, r1⟩ := h1.tup_inv
    obtain ⟨b, zs, rfl, k2, r2⟩ := h2.tup_inv
    exact ⟨a, b, us, zs, rfl, .inr ⟨k1, k2, g2.of_pure s' _ (jok_zipT k1 r1 k2 r2)⟩⟩
  · obtain ⟨v, z, rfl, h1, h2⟩ := two_inv rv
    obtain ⟨a, rfl, k1⟩ := h1.ref_inv
    obtain ⟨b, rfl, k2⟩ := h2.ref_inv
    split at g2
    · rename_i us zs e1 e2
      obtain ⟨vs1, q1, _⟩ := s'.rd e1 k1
      obtain ⟨vs2, q2, _⟩ := s'.rd e2 k2
      exact ⟨a, b, vs1, vs2, rfl, .inl ⟨q1, q2, g2.of_pure s' _ (jok_zipL k1 k2)⟩⟩
    · exact False.elim g2
  · exact False.elim g2
end

/-! ### raise X('..') of an own class without own __init__ -/
def sRaise (c : Str) : St1 := fun _ => M.raise (.exc c)
theorem ps_raiseM {X : Cx} {G : Gx} {E : XK} {k : Nat} {x m : Str} {j : Nat} {C : Addr} {bmB : List Value} {B newId initId : String} {p p2 pos pos2 : Pos} (a : At X E k) (hmg : X.mg = G.mg) (F : ExcBaseFacts B newId initId bmB) (q : PySem.W.excIn X.K C bmB newId = true) (gC : X.mg x = some (.ref C))
    (kC : PySem.W.keepIn X.K (.ref C) = true) (r : Raises X (.ref C)) (hg : Gl X x) (hdb : (x == ("__debug__" : Str)) = false := by decide) :
    PS X (.Raise (some (.Call (.Name x p) [.Constant (.str m) j p2] [] pos)) none pos2) (tS G E (sRaise x)) := by
  refine ⟨fun pins s σ H D I h => (ps_raise a.calm a.tk (pmk_own F q gC kC r hg hdb)).run pins s σ H D I ?_⟩
  obtain ⟨α, S, ρ, sm, rr, g⟩ := h
  exact g α H (.ref C) none (List.prefix_refl _) (Le.refl _) sm ⟨x, C, rfl, rfl, by rw [← hmg]; exact gC, rfl⟩

/-! ### isinstance -/
def tyW (S : Store) : W → Option String
  | .non => some "NoneType"
  | .bl _ => some "bool"
  | .int _ => some "int"
  | .str _ => some "str"
  | .tup _ => some "tuple"
  | .ref l => match rdL S l with
    | some _ => some "list"
    | none => match rdD S l with
      | some _ => some "dict"
      | none => none
  | .exc _ => none
def kitBs (t : String) : List String → Option Bool
  | [] => some false
  | c :: cs => match kitB t c with
    | some true => some true
    | some false => kitBs t cs
    | none => none
def gIsT (cs : List String) : W → M W := fun w S => match tyW S w with
  | some t => match kitBs t cs with
    | some b => .ok (.bl b) S
    | none => .stuck
  | none => .stuck
section
variable {X : Cx} {G : Gx} {E : XK} {e : Expr} {me : Rho → M W} {p p1 p2 p3 pos : Pos}
theorem sqT_ty {K : PySem.W.Frag} {H : Hp} {a : Addr} {vs : List V} (h : SqT K H a vs) : TyX K H (.ref a) (.type "tuple") := by
  rcases h with (h | ⟨o, h⟩) | ⟨o, its, n, h, c, _⟩
  · exact .base (.tup h)
  · exact .fTuple h
  · exact .kTuple h c
theorem tyW_ok {α : List Addr} {S : Store} {H : Hp} {w : W} {v : V} {t : String} (sm : Sim G α S H) (r : RelW G α H w v) (h : tyW S w = some t) : TyX G.K H v (.type t) := by
  cases w with
  | non => cases h; rw [r.non_inv]; exact .base .non
  | bl b => cases h; rw [r.bl_inv]; exact .base (.bl b)
  | int i => cases h; rw [r.int_inv]; exact .base (.int i)
  | str x => cases h; rw [r.str_inv]; exact .base (.str x)
  | tup ws =>
    cases h
    obtain ⟨a, vs, rfl, h1, _⟩ := r.tup_inv
    exact sqT_ty h1
  | ref l =>
    obtain ⟨a, rfl, ha⟩ := r.ref_inv
    have h : (match rdL S l with | some _ => some "list" | none => match rdD S l with | some _ => some "dict" | none => none) = some t := h
    split at h
    · rename_i ws hl
      cases h
      obtain ⟨vs, h1, _⟩ := sm.rd hl ha
      rcases h1 with (h1 | ⟨o, h1⟩) | ⟨o, its, n, h1, c, _⟩
      · exact .base (.lst h1)
      · exact .base (.frz h1)
      · exact .kList h1 c
    · split at h
      · rename_i kvs hd
        cases h
        obtain ⟨us, h1, _⟩ := sm.di hd ha
        exact .base (.dK h1)
      · cases h
  | exc c => cases h
theorem kitBs_one {K : PySem.W.Frag} {t c : String} {b : Bool} (h : kitBs t [c] = some b) : PySem.W.kitOne K (.type t) (.type c) = some b := by
  unfold kitBs at h
  cases q : kitB t c with
  | none => rw [q] at h; cases h
  | some d =>
    rw [q] at h
    have e : b = d := by cases d <;> (cases h; rfl)
    rw [e]
    exact kit_ty q
theorem kitBs_any {K : PySem.W.Frag} {t : String} : ∀ {cs : List String} {b : Bool}, kitBs t cs = some b → PySem.W.kitAny K (.type t) (cs.map Value.type) = some b
  | [], b, h => by cases h; exact kitAny_nil
  | c :: cs, b, h => by
    unfold kitBs at h
    cases q : kitB t c with
    | none => rw [q] at h; cases h
    | some d =>
      rw [q] at h
      cases d with
      | true => cases h; exact kitAny_cons (kit_ty q) (fun z => by cases z) fun _ => rfl
      | false => exact kitAny_cons (kit_ty q) (fun _ => kitBs_any h) fun z => by cases z
/-- isinstance(e, T) -/
theorem pm_isi {T : Str} {Tn : String} (hG : X.K = G.K) (hg : Gl X "isinstance") (hm : X.mg "isinstance" = none) (h : PE X e (tM G E me)) (hgT : Gl X T) (hmT : X.mg T = none) (hv : bootBuiltins T = some (.type Tn)) (hn : T ≠ "__name__" := by decide) (hd : (T == ("__debug__" : Str)) = false := by decide)
    (he : starEach [e, .Name T p2] X.env = (false, eval e X.env) :: starEach [.Name T p2] X.env := by rfl) (he2 : starEach [.Name T p2] X.env = (false, eval (.Name T p2) X.env) :: starEach [] X.env := by rfl) (hpl : (backTo pos (starEach [.Name T p2] X.env)).any (·.1) = false := by rfl) :
    PE X (.Call (.Name "isinstance" p) [e, .Name T p2] [] pos) (tM G E (eUn (gIsT [Tn]) me)) := by
  have hT : PE X (.Name T p2) (tC (.ty Tn)) := pe_bltn (v := .ty Tn) hgT hmT hv rfl hn hd
  refine ⟨fun pins s σ H Q I q => (pe_callB call_isi hg hm boot_isinstance (pa_cons h (pa_cons hT pa_nil he2) he) (by decide) (by decide) he hpl).run pins s σ H Q I ?_⟩
  obtain ⟨α, S, ρ, sm, rr, gg⟩ := q
  refine Got.node sm rr gg fun x u α1 S1 H1 p1 l1 s1 r1 ru g1 => ?_
  unfold gIsT at g1
  split at g1
  · rename_i t ht
    split at g1
    · rename_i b hb
      rw [hG]
      exact ⟨u, .ty Tn, .type t, .type Tn, b, rfl, .ty Tn, tyW_ok s1 ru ht, kitBs_one hb, got_pureW g1 s1 (.bl b)⟩
    · exact False.elim g1
  · exact False.elim g1
/-- isinstance(e, (T, U)) -/
theorem pm_isi2 {T U : Str} {Tn Un : String} {k : Nat} (hG : X.K = G.K) (hg : Gl X "isinstance") (hm : X.mg "isinstance" = none) (h : PE X e (tM G E me)) (hgT : Gl X T) (hmT : X.mg T = none) (hv : bootBuiltins T = some (.type Tn)) (hgU : Gl X U) (hmU : X.mg U = none) (hvU : bootBuiltins U = some (.type Un))
    (hn : T ≠ "__name__" := by decide) (hd : (T == ("__debug__" : Str)) = false := by decide) (hnU : U ≠ "__name__" := by decide) (hdU : (U == ("__debug__" : Str)) = false := by decide)
    (he : starEach [e, .Tuple [.Name T p2, .Name U p3] k p1] X.env = (false, eval e X.env) :: starEach [.Tuple [.Name T p2, .Name U p3] k p1] X.env := by rfl)
    (he2 : starEach [.Tuple [.Name T p2, .Name U p3] k p1] X.env = (false, eval (.Tuple [.Name T p2, .Name U p3] k p1) X.env) :: starEach [] X.env := by rfl)
    (he3 : starEach [.Name T p2, .Name U p3] X.env = (false, eval (.Name T p2) X.env) :: starEach [.Name U p3] X.env := by rfl) (he4 : starEach [.Name U p3] X.env = (false, eval (.Name U p3) X.env) :: starEach [] X.env := by rfl)
    (hpl : (backTo pos (starEach [.Tuple [.Name T p2, .Name U p3] k p1] X.env)).any (·.1) = false := by rfl) :
    PE X (.Call (.Name "isinstance" p) [e, .Tuple [.Name T p2, .Name U p3] k p1] [] pos) (tM G E (eUn (gIsT [Tn, Un]) me)) := by
  have hT : PE X (.Name T p2) (tC (.ty Tn)) := pe_bltn (v := .ty Tn) hgT hmT hv rfl hn hd
  have hU : PE X (.Name U p3) (tC (.ty Un)) := pe_bltn (v := .ty Un) hgU hmU hvU rfl hnU hdU
  refine ⟨fun pins s σ H Q I q => (pe_callB call_isiT hg hm boot_isinstance (pa_cons h (pa_cons (pe_tup (pa_cons hT (pa_cons hU pa_nil he4) he3)) pa_nil he2) he) (by decide) (by decide) he hpl).run pins s σ H Q I ?_⟩
  obtain ⟨α, S, ρ, sm, rr, gg⟩ := q
  refine Got.node sm rr gg fun x u α1 S1 H1 p1 l1 s1 r1 ru g1 => ?_
  unfold gIsT at g1
  split at g1
  · rename_i t ht
    split at g1
    · rename_i b hb
      rw [hG]
      refine ⟨(by show 2 ≤ sizeLine; decide), fun tp htp => ?_⟩
      have le : Le H1 (upd H1 tp (.tup [.ty Tn, .ty Un])) := Le.new htp
      have s2 := s1.beside (u := .tup [.ty Tn, .ty Un]) htp
      exact ⟨u, tp, [.ty Tn, .ty Un], .type t, [.type Tn, .type Un], b, rfl, upd_same, .cons (.ty Tn) (.cons (.ty Un) .nil), tyW_ok s2 (ru.mono (List.prefix_refl _) le) ht, kitBs_any hb,
        g1 α1 _ (List.prefix_refl _) le s2 _ (.bl b)⟩
    · exact False.elim g1
  · exact False.elim g1
end

/-! ### calls with keywords -/
def kwPerm {A : Type} (ix : List Nat) (xs : List A) : List A := ix.filterMap (xs[·]?)
structure PKn (X : Cx) (G : Gx) (E : XK) (kws : List Keyword) (n : Nat) (m : Rho → M (List W)) : Prop where
  pk : PK X kws (tA G E m)
  len : ∀ ρ S ws S', m ρ S = .ok ws S' → ws.length = n
def eCallK (ix : List Nat) (ma mk : Rho → M (List W)) (m : Fm) : Rho → M W := fun ρ => ma ρ >>= fun xs => mk ρ >>= fun ys => m (kwPerm ix (xs ++ ys))
section
variable {X : Cx} {G : Gx} {E : XK} {e : Expr} {es : List Expr} {me : Rho → M W} {ma mk : Rho → M (List W)} {p pos kpos : Pos} {kws : List Keyword} {nm : Option Str} {k n : Nat} {f : Addr} {fd : FuncData} {ps ks : List Str} {m : Fm} {ix : List Nat} {x : Str}
theorem pkn_nil : PKn X G E [] 0 aNil := by
  refine ⟨⟨fun pos pins s σ H Q I h => pk_nil.run pos pins s σ H Q I ?_⟩, fun ρ S ws S' h => by cases h; rfl⟩
  obtain ⟨α, S, ρ, sm, rr, g⟩ := h
  exact g.of_pure sm [] .nil
theorem pkn_cons (h : PE X e (tM G E me)) (hr : PKn X G E kws n mk) : PKn X G E (⟨nm, e, kpos⟩ :: kws) (n + 1) (aCons me mk) := by
  refine ⟨⟨fun pos pins s σ H Q I q => (pk_cons h hr.pk).run pos pins s σ H Q I (tA_cons q)⟩, fun ρ S ws S' q => ?_⟩
  obtain ⟨x, S1, _, q⟩ := bind_inv q
  obtain ⟨xs, S2, q1, q⟩ := bind_inv q
  cases q
  rw [List.length_cons, hr.len _ _ _ _ q1]
theorem perm_rel {α : List Addr} {H : Hp} {ws : List W} {vs : List V} (r : RelWs G α H ws vs) : ∀ ix : List Nat, RelWs G α H (kwPerm ix ws) (kwPerm ix vs)
  | [] => .nil
  | i :: ix => by
    unfold kwPerm
    rw [List.filterMap_cons, List.filterMap_cons]
    cases q : ws[i]? with
    | none =>
      have : vs[i]? = none := by
        rw [List.getElem?_eq_none_iff] at q ⊢
        rw [← r.length]
        exact q
      rw [this]
      exact perm_rel r ix
    | some w =>
      obtain ⟨v, hv, rv⟩ := r.get q
      rw [hv]
      exact .cons rv (perm_rel r ix)
theorem perm_vals {vs : List V} {us : List Value} (r : Vals vs us) : ∀ ix : List Nat, Vals (kwPerm ix vs) (kwPerm ix us)
  | [] => .nil
  | i :: ix => by
    unfold kwPerm
    rw [List.filterMap_cons, List.filterMap_cons]
    cases q : vs[i]? with
    | none =>
      rw [r.none_of q]
      exact perm_vals r ix
    | some w =>
      obtain ⟨v, hv, rv⟩ := r.get q
      rw [hv]
      exact .cons rv (perm_vals r ix)
theorem run_mk {pins : List (Addr × Obj)} {σ : L2.St} {H : Hp} {s : Shared} {Q : VK} {us ws : List Value} {vs zs : List V} (F : FnM X.prog X.w X.K X.mg X.base k f fd ps (spM G n m)) (a : At X E k) (hl : us.length + ws.length = n) (hw : ws.length = ks.length)
    (hb : ∀ us ws : List Value, us.length + ws.length = n → ws.length = ks.length → bindArgs fd ⟨us, ks.zip ws⟩ = pure (ps.zip (kwPerm ix (us ++ ws))))
    (I : Inv X pins σ H s) (r : Vals vs us) (rz : Vals zs ws) (h : spM G n m (kwPerm ix (vs ++ zs)) H Q E) : wpAny (model X.prog X.w) X.A (call (.ref f) us (ks.zip ws)) (EP X pins σ Q) X.xe s := by
  have b : BindsTo s fd ⟨us, ks.zip ws⟩ (ps.zip (kwPerm ix (us ++ ws))) := .of_eq (hb us ws hl hw)
  refine wpAny_call (codeAny_mono (F.run X.A X.stack s H ⟨us, ks.zip ws⟩ _ _ Q E a.gd a.room I.env0 b (perm_vals (r.append rz) ix) h) fun z s' hq => ?_)
  cases z with
  | error e => exact passAt (W := fun cls d _ H => E cls d H) a.tk σ pins H s e s' I hq
  | ok fl =>
    cases fl with
    | ret u => exact I.after hq
    | next => exact False.elim hq
    | brk => exact False.elim hq
    | cont => exact False.elim hq
/-- f(k = v, ..) -/
theorem pm_callK0 (F : FnM X.prog X.w X.K X.mg X.base k f fd ps (spM G n m)) (a : At X E k) (hg : Gl X x) (hm : X.mg x = some (.ref f)) (hk : PySem.W.keepIn X.K (.ref f) = true)
    (hb : ∀ us ws : List Value, us.length + ws.length = n → ws.length = ks.length → bindArgs fd ⟨us, ks.zip ws⟩ = pure (ps.zip (kwPerm ix (us ++ ws)))) (hn : ks.length = n) (hp : ∀ ws : List W, ws.length = n → (kwPerm ix ws).length = n)
    (hkw : PKn X G E kws n mk) (hall : (backToKw pos (keywordEach kws X.env)).all (·.1.isSome) = true := by rfl) (hks : (backToKw pos (keywordEach kws X.env)).filterMap (·.1) = ks := by rfl)
    (hdb : (x == ("__debug__" : Str)) = false := by decide) (hpl : (backToKw pos (keywordEach kws X.env)).any (·.1.isNone) = false := by rfl) :
    PE X (.Call (.Name x p) [] kws pos) (tM G E (eCallK ix aNil mk m)) := by
  refine ⟨fun pins s σ H Q I h => ?_⟩
  refine wpAny_Call_Name_kw (ld_glob I hg hm ?_ hdb)
  obtain ⟨α, S, ρ, sm, r, g⟩ := h
  have g : Got G E α H ((mk ρ >>= fun ys => m (kwPerm ix ([] ++ ys))) S) (Pv G Q) := g
  have ht : tA G E mk σ H (fun zs H1 => zs.length = n ∧ spM G n m (kwPerm ix ([] ++ zs)) H1 Q E) := by
    refine ⟨α, S, ρ, sm, r, got_any g _ fun ys S1 q α' H' p' l' s' g2 vs rv => ?_⟩
    have hl := hkw.len _ _ _ _ q
    exact ⟨by rw [← rv.length]; exact hl, α', S1, kwPerm ix ([] ++ ys), s', perm_rel rv ix, hp _ hl, g2⟩
  refine PySem.W.callWith_KW0 (h₀ := X.base) I.ok.mod.kin hk hall ?_ hpl
  refine thn (hkw.pk.run pos pins s σ H _ I ht) fun ws s2 ⟨zs, H2, I2, rz, q1, q2⟩ => ⟨I2.kIn, ?_⟩
  rw [hks]
  have hwl : ws.length = n := rz.length.symm.trans q1
  exact run_mk (us := []) (vs := []) F a (by simpa using hwl) (hwl.trans hn.symm) hb I2 .nil rz q2
end

/-! ### dict displays with written keys -/
def mergeW (kvs more : List (Key × W)) : List (Key × W) := more.foldl (fun acc kv => putW acc kv.1 kv.2) kvs
def dispGo : List (Key × (Rho → M W)) → Rho → M (List (Key × W))
  | [], _ => pure []
  | (k, m) :: r, ρ => m ρ >>= fun w => dispGo r ρ >>= fun l => pure ((k, w) :: l)
def endDisp (l : Nat) (kvs : List (Key × W)) : M W := fun S => match rdD S l with
  | some [] => if kvs.length ≤ 15 then .ok (.ref l) (S.set l (.dk (mergeW [] kvs))) else .stuck
  | _ => .stuck
def newDk : M Nat := fun S => .ok S.length (S ++ [.dk []])
def eDisp (ms : List (Key × (Rho → M W))) : Rho → M W := fun ρ => newDk >>= fun l => dispGo ms ρ >>= fun kvs => endDisp l kvs
def eDict0 : Rho → M W := fun _ => newO (.dk [])
section
variable {X : Cx} {G : Gx} {E : XK} {pos : Pos}
theorem RelK.merge {α : List Addr} {H : Hp} {more : List (Key × W)} {m2 : List (Key × V)} (r2 : RelK G α H more m2) : ∀ {kvs : List (Key × W)} {us : List (Key × V)}, RelK G α H kvs us → RelK G α H (mergeW kvs more) (mergeK us m2) := by
  induction r2 with
  | nil => intro kvs us r; exact r
  | @cons p q l1 l2 h1 h2 ih =>
    intro kvs us r
    have : RelK G α H (putW kvs p.1 p.2) (putK us q.1 q.2) := by
      rw [← h1.1]
      exact r.put h1.2
    exact ih this
theorem tPairs_go : ∀ {ms : List (Key × (Rho → M W))} {α : List Addr} {S : Store} {ρ : Rho} {σ : L2.St} {H : Hp} {P : W → Store → List Addr → Hp → Prop} {k : List (Key × W) → M W} {Q : List (V × V) → Hp → Prop}, Sim G α S H → RelR G α H ρ σ → Got G E α H ((dispGo ms ρ >>= k) S) P →
    (∀ kvs us α' S' H', α <+: α' → Le H H' → Sim G α' S' H' → RelK G α' H' kvs us → Got G E α' H' (k kvs S') P → Q (us.map fun q => (kV q.1, q.2)) H') → tPairs (ms.map fun p => (tC (kV p.1), tM G E p.2)) σ H Q
  | [], α, S, ρ, σ, H, P, k, Q, sm, rr, g, h => h [] [] α S H (List.prefix_refl _) (Le.refl _) sm .nil g
  | (ky, m) :: r, α, S, ρ, σ, H, P, k, Q, sm, rr, g, h => by
    show tM G E m σ H (fun y H2 => tPairs (r.map fun p => (tC (kV p.1), tM G E p.2)) σ H2 fun ps H3 => Q ((kV ky, y) :: ps) H3)
    have g : Got G E α H ((m ρ >>= fun w => (dispGo r ρ >>= fun l => pure ((ky, w) :: l)) >>= k) S) P := by
      have e : (m ρ >>= fun w => (dispGo r ρ >>= fun l => pure ((ky, w) :: l)) >>= k) S = (dispGo ((ky, m) :: r) ρ >>= k) S := by
        show M.bind _ _ S = M.bind (M.bind _ _) _ S
        unfold M.bind
        cases m ρ S <;> rfl
      rw [e]
      exact g
    refine Got.node sm rr g fun w v α1 S1 H1 p1 l1 s1 r1 rv g1 => ?_
    have g1 : Got G E α1 H1 ((dispGo r ρ >>= fun l => k ((ky, w) :: l)) S1) P := by
      have e : (dispGo r ρ >>= fun l => k ((ky, w) :: l)) S1 = ((dispGo r ρ >>= fun l => pure ((ky, w) :: l)) >>= k) S1 := by
        show M.bind _ _ S1 = M.bind (M.bind _ _) _ S1
        unfold M.bind
        cases dispGo r ρ S1 <;> rfl
      rw [e]
      exact g1
    exact tPairs_go s1 r1 g1 fun kvs us α2 S2 H2 p2 l2 s2 rk g2 => h ((ky, w) :: kvs) ((ky, v) :: us) α2 S2 H2 (p1.trans p2) (l1.trans l2) s2 (.cons ⟨rfl, rv.mono p2 l2⟩ rk) g2
theorem pm_disp {keys : List (Option Expr)} {values : List Expr} {ms : List (Key × (Rho → M W))} (h : PPs X pos keys values (ms.map fun p => (tC (kV p.1), tM G E p.2))) (hall : keys.all (·.isSome) = true) (hl : keys.length = values.length) (h0 : keys ≠ []) (h15 : keys.length ≤ 15) :
    PE X (.Dict keys values pos) (tM G E (eDisp ms)) := by
  refine ⟨fun pins s σ H Q I q => (pe_disp h hall hl h0 h15).run pins s σ H Q I ?_⟩
  obtain ⟨α, S, ρ, sm, rr, g⟩ := q
  intro p hp
  have g : Got G E α H ((dispGo ms ρ >>= fun kvs => endDisp S.length kvs) (S ++ [.dk []])) (Pv G Q) := g
  have pp : α <+: α ++ [p] := List.prefix_append _ _
  have le : Le H (upd H p (.dK [])) := Le.new hp
  refine tPairs_go (sm.new (o := .dk []) hp ⟨[], upd_same, .nil⟩) (rr.mono pp le) (g.weak pp le) fun kvs us α' S' H' p' l' s' rk g' => ?_
  have hpl : α'[S.length]? = some p := pre_get p' (by rw [← sm.len]; simp)
  unfold endDisp at g'
  split at g'
  · rename_i hd
    obtain ⟨z, hz, rz⟩ := s'.di hd hpl
    cases rz
    split at g'
    · rename_i hle
      refine ⟨hz, us, rfl, by rw [← rk.length]; exact hle, ?_⟩
      have le2 : Le H' (upd H' p (.dK (mergeK [] us))) := Le.put hz rfl
      exact g' α' _ (List.prefix_refl _) le2 (s'.put hpl hz rfl ⟨_, upd_same, (rk.merge .nil).mono (List.prefix_refl _) le2⟩) _ (.ref hpl)
    · exact False.elim g'
  · exact False.elim g'
theorem pm_dict0 : PE X (.Dict [] [] pos) (tM G E eDict0) := by
  refine ⟨fun pins s σ H Q I q => pe_dnewK.run pins s σ H Q I ?_⟩
  obtain ⟨α, S, ρ, sm, rr, g⟩ := q
  intro p hp
  exact g (α ++ [p]) _ (List.prefix_append _ _) (Le.new hp) (sm.new (o := .dk []) hp ⟨[], upd_same, .nil⟩) _ (.ref (by rw [← sm.len]; simp))
end
end Mi

set_option maxHeartbeats 1000000
/-! Mi, a caught exception that stays: except X as n, where the thing is kept beyond the suite. -/
namespace Mi
open PySem PySem.Spec PyProof.Rows L2
section
variable {X : Cx} {pins : List (Addr × Obj)} {σ : L2.St} {H : Hp} {s : Shared}
/-- a pinned exception object that is new since the entry is told from now on -/
theorem inv_track {z : Addr} {oz : Obj} {cls : Value} (I : Inv X ((z, oz) :: pins) σ H s) (h0 : X.s_0.heap.get? z = none) (hz : Zc cls none oz) (hd : ∃ vs, oz.data = .fields vs) (hp : ∀ p ∈ X.pn ++ pins, p.1 ≠ z) : Inv X pins σ (upd H z (ExC cls z)) s := by
  obtain ⟨g1, g2, g3, g4, g5⟩ := I.pin (z, oz) (List.mem_append_right _ List.mem_cons_self)
  have old : ∀ {b : Addr} {o : Obj}, X.s_0.heap.get? b = some o → b ≠ z := fun e q => by
    rw [q, h0] at e
    cases e
  have known : ∀ {b : Addr} {u : HO}, H b = some u → upd H z (ExC cls z) b = some u := fun {b u} e => by
    rw [upd_ne (ne_of_none e g2)]
    exact e
  have still : ∀ {b : Addr}, H b = none → b ≠ z → upd H z (ExC cls z) b = none := fun {b} e q => by
    rw [upd_ne q]
    exact e
  refine ⟨I.ok, I.os, I.bare, ?_, I.loc, I.cell, still I.free (Ne.symm g3), fun x c e => ?_, fun p hm => ?_, ?_, I.len⟩
  · have u := I.base
    exact ⟨u.keep, u.slot, fun b o e1 e2 e3 => still (u.free b o e1 e2 e3) (old e1), u.there, fun b xs e => known (u.tups b xs e), fun b o v e => known (u.frzs b o v e), fun b ps e => by
      obtain ⟨more, q⟩ := u.tbls b ps e
      exact ⟨more, known q⟩⟩
  · refine still (I.freeC x c e) fun q => ?_
    obtain ⟨v, o, e1, e2⟩ := I.cell x c e
    rw [q, g1] at e1
    exact g5 v ((congrArg Obj.data (Option.some.inj e1)).trans e2)
  · have hm2 : p ∈ X.pn ++ ((z, oz) :: pins) := (List.mem_append.mp hm).elim (List.mem_append_left _) fun q => List.mem_append_right _ (List.mem_cons_of_mem _ q)
    obtain ⟨f1, f2, f3, f4, f5⟩ := I.pin p hm2
    exact ⟨f1, still f2 (hp p hm), f3, f4, f5⟩
  · intro b u e
    by_cases q : b = z
    · subst q
      rw [upd_same] at e
      cases e
      obtain ⟨vs, hv⟩ := hd
      exact ⟨⟨oz, vs, g1, hz, hv⟩, ⟨oz, g1⟩, fun h1 h2 ⟨o, ws, e1, e2, e3⟩ st => ⟨o, ws, st o e1, e2, e3⟩⟩
    · rw [upd_ne q] at e
      refine (I.hok b u e).stay (fun _ _ _ w => w) (fun c w => known w) fun c xs w => known w
end
/-- what 'except x as n' wishes when what was caught stays told behind the suite -/
def wKeep (K : PySem.W.Frag) (c : Value) (i : Nat) (ts : Addr → Value → TS) (Wout : WX) (D : Ends) : WX := fun cls d σ H =>
  ∃ b, PySem.W.exmOne K cls c = some b ∧
    (b = true → d = none ∧ ∀ a, H a = none → ts a cls { nx := fun σ' H' => H' a = none → D.nx (σ'.set i none) (upd H' a (ExC cls a)), rt := fun _ _ => False, bk := fun _ _ => False, ct := fun _ _ => False } (σ.set i (some (.ref a))) H) ∧
    (b = false → Wout cls d σ H)
section
variable {X : Cx} {x n : Str} {c : Value} {i : Nat} {body suite : List Stmt} {b₀ : Stmt} {np pos pos' : Pos} {tb : WX → TS} {ts : Addr → Value → TS} {Wout : WX}
theorem pins_drop {pins pn' : List (Addr × Obj)} {σ : L2.St} {H : Hp} {s : Shared} {a : Addr} {q : Addr × Obj} (J : Inv (X.suite a (q :: (X.pn ++ pins))) pn' σ H s) (ok : X.Ok) : Inv X (q :: pins) σ H s :=
  ⟨ok, J.os, J.bare, J.base, J.loc, J.cell, J.free, J.freeC, fun p hp => by
    refine J.pin p (List.mem_append_left _ ?_)
    rcases List.mem_append.mp hp with z | z
    · exact List.mem_cons_of_mem _ (List.mem_append_left _ z)
    · rcases List.mem_cons.mp z with e | e
      · rw [e]
        exact List.mem_cons_self
      · exact List.mem_cons_of_mem _ (List.mem_append_right _ e), J.hok, J.len⟩
theorem ps_try_keep (hstk : X.stack = X.env :: X.outer) (hfrm : X.env.frame = some X.env.locals) (hex : X.ex = []) (hnd : X.N.Nodup) (hi : X.N[i]? = some n) (hloc : X.env.kindOf n = some .local) (hcl : Names X x c) (tk : Takes X Wout)
    (hbody : ∀ (W : WX) (pn : List (Addr × Obj)) (xe : Value → Shared → Prop), Takes (X.tr pn xe) W → PassesOwn (model X.prog X.w) X.A X.env xe → PSs (X.tr pn xe) body (tb W))
    (hsuite : ∀ (a : Addr) (oe : Obj) (cls : Value) (pn : List (Addr × Obj)), PSs (X.suite a ((a, oe) :: pn)) (b₀ :: suite) (ts a cls)) :
    PS X (.Try body [.ExceptHandler (some (.Name x np)) (some n) (b₀ :: suite) pos'] [] [] pos) (fun D σ H => tb (wKeep X.K c i ts Wout D) D σ H) := by
  refine ⟨fun pins s σ H D I h => ?_⟩
  have okX := I.ok
  have frX : X.A.frames = some (X.env :: X.outer) := okX.frames.trans (congrArg some hstk)
  refine wpAny_Try_except ?_
  have bodyRun := (hbody (wKeep X.K c i ts Wout D) (X.pn ++ pins)
    (fun e t1 => wpAny (model X.prog X.w) X.A (noteFrame e X.env) (fun _ t2 => wpAny (model X.prog X.w) X.A (setFlight e none) (fun _ t3 => wpAny (model X.prog X.w) X.A (handleBy e X.env [.ExceptHandler (some (.Name x np)) (some n) (b₀ :: suite) pos']) (SP X pins D) X.xe t3) X.xe t2) X.xe t1)
    (fun u sA air => ?_) PassesOwn.looking).run [] s σ H D (I.toTry _) h
  · refine wpAny_mono bodyRun (fun fl sB hsp => ?_) fun _ _ q => q
    cases fl with
    | next =>
      obtain ⟨σB, HB, JB, qB⟩ := hsp
      exact wpAny_execs_nil ⟨σB, HB, JB.ofTry okX, qB⟩
    | brk =>
      obtain ⟨σB, HB, JB, qB⟩ := hsp
      exact ⟨σB, HB, JB.ofTry okX, qB⟩
    | cont =>
      obtain ⟨σB, HB, JB, qB⟩ := hsp
      exact ⟨σB, HB, JB.ofTry okX, qB⟩
    | ret w =>
      obtain ⟨vB, σB, HB, JB, rB, qB⟩ := hsp
      exact ⟨vB, σB, HB, JB.ofTry okX, rB, qB⟩
  · obtain ⟨a, G, sI, pins2, σA, HA, cls, d, rfl, JA, inG, up1, sky1, naA, osA, agA, b, eb, yes, no⟩ := air
    have J : Inv X pins σA HA sI := JA.ofTry okX
    rw [show (X.tr (X.pn ++ pins) _).stack = X.env :: X.outer from hstk] at sky1
    refine Sky.land Zc.steady frX hfrm sky1 fun g3 fly3 up3 => ?_
    have J3 : Inv X pins σA HA { sA with heap := g3 } := J.landed inG fly3.1 (up1.trans up3) osA agA
    obtain ⟨o3, v3, e3, z3, d3⟩ := fly3.there
    have notF : a ∉ frs (X.env :: X.outer) := fun hm => by
      obtain ⟨_, o', e', hn⟩ := fly3.2.2.1.mem hm
      rw [e3] at e'
      cases e'
      exact hn _ d3
    have neL : a ≠ X.env.locals := fun q => notF (List.mem_filterMap.mpr ⟨X.env, List.mem_cons_self, hfrm.trans (congrArg some q.symm)⟩)
    have neF : a ∉ X.fs := fun hm => by
      obtain ⟨e, m1, m2⟩ := List.mem_filterMap.mp hm
      exact notF (List.mem_filterMap.mpr ⟨e, List.mem_cons_of_mem _ m1, m2⟩)
    have gI : sI.heap.get? a = none := by
      cases q : sI.heap.get? a with
      | none => rfl
      | some o =>
        have w := inG a o q (by rw [hstk]; exact notF)
        rw [fly3.2.1] at w
        cases w
    have g0 : X.s_0.heap.get? a = none := by
      cases q : X.s_0.heap.get? a with
      | none => rfl
      | some o =>
        obtain ⟨o', w⟩ := J.base.there a o q (by rw [hex]; simp)
        rw [gI] at w
        cases w
    have nePin : ∀ p ∈ X.pn ++ pins, p.1 ≠ a := fun p hp q => by
      have w := (J.pin p hp).1
      rw [q, gI] at w
      cases w
    have T3 := J3.suite e3 d3 naA neL neF
    refine wpAny_handleBy_cons (codeAny_handlers_test ?_) (by intro q; cases q)
    have look : PySem.W.Looks (model X.prog X.w) g3 (typeOf (.ref a)) cls := fun A Q E t k q => wpAny_typeOf_ref (k _ _ e3) (by rw [z3.1]; exact q)
    have asked := PySem.W.exm_one (M := model X.prog X.w) (J3.kIn) look eb
    have named : ∀ {Q E : Value → Shared → Prop}, Q c { sA with heap := g3 } → wpAny (model X.prog X.w) (X.A.mark (some (.ref a))) (eval (.Name x np) X.env) Q E { sA with heap := g3 } := fun {Q E} q => by
      obtain ⟨c1, c2, c3 | ⟨c3, c4, c5⟩⟩ := hcl
      · exact ld_glob (X := X.suite a ((a, o3) :: (X.pn ++ pins))) T3 c1 c3 q c2
      · exact ld_blt (X := X.suite a ((a, o3) :: (X.pn ++ pins))) T3 c1 c3 c4 q c5 c2
    refine named (asked.here ?_)
    cases b with
    | true =>
      obtain ⟨dn, run⟩ := yes rfl
      subst dn
      refine codeAny_handlers_suite_as ?_
      refine HandSPX.lands_againZ fly3 fun g4 fly4 up4 => ?_
      have J4 : Inv X pins σA HA { sA with heap := g4 } := J.landed inG fly4.1 ((up1.trans up3).trans up4) osA agA
      obtain ⟨o4, v4, e4, z4, d4⟩ := fly4.there
      refine store_ok (X := X.suite a ((a, o4) :: (X.pn ++ pins))) (v := .ref a) (J4.suite e4 d4 naA neL neF) hnd hi (.inl hloc) rfl (fun s5 T5 => ?_) (.inr hloc)
      refine wpAny_mono ((hsuite a o4 cls (X.pn ++ pins)).run [] s5 _ HA _ T5 (run a naA)) (fun fl s6 q6 => ?_) (fun _ _ w => w.elim)
      cases fl with
      | next =>
        obtain ⟨σ6, H6, T6, k6⟩ := q6
        have P6 := pins_drop T6 okX
        have n6 : H6 a = none := (P6.pin (a, o4) (List.mem_append_right _ List.mem_cons_self)).2.1
        exact gone_ok P6 hnd hi hloc fun s7 J7 => ⟨_, _, inv_track J7 g0 z4 ⟨_, d4⟩ nePin, k6 n6⟩
      | brk =>
        obtain ⟨_, _, _, w⟩ := q6
        exact w.elim
      | cont =>
        obtain ⟨_, _, _, w⟩ := q6
        exact w.elim
      | ret u =>
        obtain ⟨_, _, _, _, _, w⟩ := q6
        exact w.elim
    | false =>
      show wpAny _ X.A (handleBy (.ref a) X.env []) _ _ _
      refine wpAny_handleBy_nil ?_
      obtain ⟨k1, k2, k3, oe, vs, T, oT, ts', he, hz, hd, h1, hr⟩ := id fly3
      unfold PySem.passOn
      refine wpAny_bind (wpAny_field he hd h1 ?_)
      rw [if_neg (show ¬ ((Value.ref T == Value.none) = true) from by simp)]
      have out : wpAny (model X.prog X.w) X.A (setFlight (.ref a) X.env.frame) (fun _ s4 => wpAny (model X.prog X.w) X.A (throw (.ref a) : Sem Flow) (SP X pins D) X.xe s4) X.xe { sA with heap := g3 } := by
        rw [hfrm]
        refine HandSPX.setFlight_upZ fly3 fun h4 hh4 up4 => wpAny_throw (tk _ _ ?_)
        exact ⟨a, G, sI, pins, σA, HA, cls, d, rfl, J, inG, (up1.trans up3).trans up4, .inr (.inr (by rw [hstk]; exact hh4)), naA, osA, agA, no rfl⟩
      first
        | exact wpAny_bind (wpAny_pure (wpAny_bind out))
        | exact wpAny_bind out
end
end Mi

set_option maxHeartbeats 1000000
/-! Mi, what a def of the law catches from a lambda: x(lambda: body). -/
namespace Mi
open PySem PySem.Spec PyProof.Rows L2

/-! ### the lambda, called in the def that got it -/
section
variable {X : Cx} {pins : List (Addr × Obj)} {σ : L2.St} {H : Hp} {s : Shared}
theorem act_run {CXg : CXT} {Eg : XK} {Ng : List Str} {qg : Str} {sg : Scope} {g f c' : Addr} {cdg pm ctv : Value} {params : Arguments} {body : Expr} {scope : Scope} {k i : Nat} {a : Str} {pn : List (Addr × Obj)} {xe : Value → Shared → Prop} {W : WX} {tb : XK → TE} {p1 p2 : Pos}
    (I : Inv X pins σ H s) (nd : X.N.Nodup) (L : LamX.LamS X.env.scope scope) (hf : s.heap.get? f = some (PySem.W.kla_obj "<lambda>" (X.env.qual ++ "<lambda>") params body scope (cloFrom X.env.cells scope.names []) pm c' ctv)) (hfn : H f = none) (hfr : f ∉ frs X.stack)
    (hbind : bindArgs (PySem.W.kla_fn "<lambda>" (X.env.qual ++ "<lambda>") params body scope (cloFrom X.env.cells scope.names []) pm (.ref c') ctv) ⟨[], []⟩ = pure []) (gd : X.A.guards = some [])
    (tk : Takes ((cxOf CXg X.prog X.w X.K X.mg X.base Ng qg sg g cdg X.A X.stack s H Eg).tr pn xe) W) (hr : Room (k + 1) (X.A.deeper (envOfC qg sg s.heap.objs.size g cdg)))
    (hbody : ∀ (A : Around) (outer : List Env) (s : Shared) (H : Hp) (E : XK), At (LamX.lamCx X A outer s H E scope f c') E k → PE (LamX.lamCx X A outer s H E scope f c') body (tb E))
    (hN : Ng[i]? = some a) (hv : Vis sg a) (hd : (a == ("__debug__" : Str)) = false := by decide) (hcd : (a == ("__classdict__" : Str)) = false := by decide) :
    PE ((cxOf CXg X.prog X.w X.K X.mg X.base Ng qg sg g cdg X.A X.stack s H Eg).tr pn xe) (.Call (.Name a p1) [] [] p2)
      (fun σZ HZ Q => σZ[i]? = some (some (.ref f)) ∧ HZ c' = some (LamX.CodeO c' (X.env.qual ++ "<lambda>")) ∧ tb (WE W σZ) σ HZ Q) := by
  refine ⟨fun pinsZ sZ σZ HZ Q IZ ⟨got, kc, ht⟩ => ?_⟩
  refine wpAny_Call_Name_kw (thn ((pe_var (pos := p1) (i := i) hN hv hd hcd).run pinsZ sZ σZ HZ (fun v Hv => v = .ref f ∧ Hv = HZ) IZ ⟨.ref f, got, rfl, rfl⟩) fun u s1 ⟨v, Hv, I1, rv, ev, eH⟩ => ?_)
  subst ev eH
  obtain rfl : u = Value.ref f := rv
  have fAt := I1.base.keep f _ hf hfn hfr (fun z => nomatch (show f ∈ ([] : List Addr) from z))
  refine PySem.W.callWith_F0 ⟨_, _, _, _, fAt⟩ ?_
  obtain ⟨⟨oc, vs, t, oc1, oc2, oc3⟩, _⟩ := I1.hok c' _ kc
  have went : codeAny (model X.prog X.w) (X.A.deeper (envOfC qg sg s.heap.objs.size g cdg)) (.call (.ref f) ⟨[], []⟩) (CR (L2.CX X.prog X.w) (envOfC qg sg s.heap.objs.size g cdg :: X.stack) X.prog X.w Hv s1 Q (WE W σZ)) s1 := by
    refine PySem.W.kla_callFunE hr.depth fAt rfl L.co L.gen rfl ⟨c', oc, vs, t, rfl, oc1, oc2, oc3⟩ ?_
    rw [hbind]
    refine wpAny_pure (wpAny_newFunctionEnv (fun y hy => (L.own y hy).2) (fun y hy => absurd hy (by simp)) (fun h₁ hns hsb => ⟨I1.nolimit.fresh _ hsb, ?_⟩) L.kind)
    have kp : ∀ b o, s1.heap.get? b = some o → h₁.get? b = some o := fun b o e => hsb.extBut b o (Nat.ne_of_lt (Heap.lt_size e)) (Heap.get?_push_of_some _ e)
    have J := LamX.lam_start2 (E := WE W σZ) (f := f) (c' := c') (tk := s1.toks + ([] : List (Str × Value)).length) I L I1.env0 hr.hd I1.base hns kp
    have fr : At (LamX.lamCx X (X.A.deeper (envOfC qg sg s.heap.objs.size g cdg)) (envOfC qg sg s.heap.objs.size g cdg :: X.stack) s1 Hv (WE W σZ) scope f c') (WE W σZ) k := ⟨rfl, nd, takes_of rfl rfl rfl rfl, passes_of rfl, hr.deeper _, gd⟩
    refine PySem.W.kla_codeExpr (wpAny_mono ((hbody _ _ s1 Hv (WE W σZ) fr).run [] _ _ Hv Q J ht) (fun v s' hq => ?_) fun e s' hq => hq)
    obtain ⟨w', H', J', rw', q⟩ := hq
    exact ⟨w', H', J'.os, J'.bare, J'.base, J'.hok, rw', q⟩
  refine wpAny_call (codeAny_mono went fun r s' hq => ?_)
  cases r with
  | error e => exact passAt tk σZ pinsZ Hv s1 e s' I1 hq
  | ok fl =>
    cases fl with
    | ret u => exact I1.after hq
    | next => exact False.elim hq
    | brk => exact False.elim hq
    | cont => exact False.elim hq
end

/-! ### x(lambda: body) -/
/-- the caught exception, or None -/
def eCaught (sub : Str → Option Bool) (mb : Rho → M W) : Rho → M W := fun ρ S => match mb ρ S with
  | .ok _ S' => .ok .non S'
  | .raise (.exc c) S' => match sub c with
    | some true => .ok (.exc c) S'
    | _ => .stuck
  | _ => .stuck
/-- caught = None; try: work() except CS as error: caught = error; return caught -/
structure CatchD (st : Stmt) (CSn : Str) : Prop where
  body : ∃ (j : Nat) (p1 p2 p3 p4 p5 p6 p7 p8 p9 p10 p11 p12 p13 p14 : Pos), defBody st = [.Assign [.Name "caught" p1] (.Constant .none j p2) p3,
    .Try [.Expr (.Call (.Name "work" p4) [] [] p5) p6] [.ExceptHandler (some (.Name CSn p7)) (some "error") [.Assign [.Name "caught" p8] (.Name "error" p9) p10] p11] [] [] p12, .Return (some (.Name "caught" p13)) p14]
  sc : FnScope ["work", "caught", "error"] ["work"] (defScope st)
  l1 : (defScope st).names.lookup ("work" : Str) = some .local
  l2 : (defScope st).names.lookup ("caught" : Str) = some .local
  l3 : (defScope st).names.lookup ("error" : Str) = some .local
  gl : (defScope st).names.lookup CSn = some .globalImplicit
  db : (CSn == ("__debug__" : Str)) = false
theorem extN_sim {G : Gx} {α : List Addr} {S : Store} {H H1 : Hp} (s : Sim G α S H) (e : LamX.ExtN H H1) (t : LamX.Tabs G.tb H1) : Le H H1 ∧ Sim G α S H1 := by
  have l : Le H H1 := fun a o h1 h2 => e a o h1 fun ps q => by
    rw [q] at h2
    cases h2
  refine ⟨l, s.len, s.nd, fun n o a h1 h2 => ?_, t⟩
  have q := s.ob n o a h1 h2
  obtain ⟨u, k1, k2, _⟩ := q.some
  exact q.mono (List.prefix_refl _) l ((e a u k1 k2).trans k1.symm)
section
variable {X : Cx} {G : Gx} {E : XK} {k : Nat}
theorem pm_caught {st : Stmt} {CSn xc : Str} {CS g c P : Addr} {fd : FuncData} {params : Arguments} {body : Expr} {scope : Scope} {p lpos pos : Pos} {sub : Str → Option Bool} {mb : Rho → M W} (D : CatchD st CSn) (F : L2.Fun X.K xc xc st g fd)
    (hK : X.K = G.K) (hM : X.mg = G.mg) (at_ : At X E (k + 2)) (hg : Gl X xc) (hm : X.mg xc = some (.ref g)) (hb : L2.Binds X.K fd ["work"] []) (hCS : X.mg CSn = some (.ref CS))
    (hsub : ∀ (c : Str) (C : Addr), sub c = some true → X.mg c = some (.ref C) → PySem.W.exmOne X.K (.ref C) (.ref CS) = some true)
    (TB : LamX.TabB X.base X.mg c P) (hcode : X.env.code = .ref c) (hmT : (P, X.env.qual ++ "<lambda>") ∈ G.tb) (hu : ∀ p ∈ G.tb, p.1 = P → p.2 = X.env.qual ++ "<lambda>") (L : LamX.LamS X.env.scope scope) (hdef : defaultsOf params X.env = ([], []))
    (hbind : ∀ (q : Str) (cl : List (Str × Addr)) (pm cv ctv : Value), bindArgs (PySem.W.kla_fn "<lambda>" q params body scope cl pm cv ctv) ⟨[], []⟩ = pure [])
    (hbody : ∀ (A : Around) (outer : List Env) (s : Shared) (H : Hp) (E : XK) (f c' : Addr), At (LamX.lamCx X A outer s H E scope f c') E k → PE (LamX.lamCx X A outer s H E scope f c') body (tM G E mb))
    (hdb : (xc == ("__debug__" : Str)) = false := by decide) :
    PE X (.Call (.Name xc p) [.Lambda params body scope lpos] [] pos) (tM G E (eCaught sub mb)) := by
  refine ⟨fun pins s σ H Q I h => ?_⟩
  obtain ⟨α, S, ρ, sm, r, got⟩ := h
  refine wpAny_Call_Name_kw (ld_glob I hg hm ?_ hdb)
  refine PySem.W.callWith_K (h₀ := X.base) I.ok.mod.kin F.kp ?_ (by rfl) (by rfl)
  show wpAny _ _ (spliced ((false, eval (.Lambda params body scope lpos) X.env) :: backTo pos (starEach [] X.env))) _ _ s
  refine Calls.spliced_cons (LamX.lam_make2 I TB hcode hmT hu sm.tabs hdef (L.has I.ok) fun f c' pm' ctv H1 s' I1 eN T1 hf hfn hfr hco => ?_)
  refine Calls.spliced_nil ⟨I1.kIn, ?_⟩
  obtain ⟨le1, sm1⟩ := extN_sim sm eN T1
  have r1 := r.mono (List.prefix_refl _) le1
  obtain ⟨oc, od, kV, doc, pm, an, cdv, ct, osl, efd, lk, hcd⟩ := F.ex
  subst efd
  obtain ⟨j, p1, p2, p3, p4, p5, p6, p7, p8, p9, p10, p11, p12, p13, p14, eb⟩ := D.body
  have rc : codeAny (model X.prog X.w) X.A (.call (.ref g) ⟨[.ref f], []⟩) (CR C8.CX0 X.stack X.prog X.w H1 s' Q C8.E0) s' := by
    refine LamX.run_ofS (N := ["work", "caught", "error"]) (ps := ["work"]) (us := [.ref f]) (vs := [.ref f]) lk hcd D.sc at_.room I1.env0 (hb s' [.ref f] I1.kIn rfl) (.cons rfl .nil) rfl fun hr' => ?_
    have ndN : (["work", "caught", "error"] : List Str).Nodup := D.sc.nd
    have glY : Gl (cxOf C8.CX0 X.prog X.w X.K X.mg X.base ["work", "caught", "error"] xc (defScope st) g cdv X.A X.stack s' H1 C8.E0).nox CSn := D.gl
    have tTry := ps_try_keep (X := (cxOf C8.CX0 X.prog X.w X.K X.mg X.base ["work", "caught", "error"] xc (defScope st) g cdv X.A X.stack s' H1 C8.E0).nox) (x := CSn) (n := "error") (c := .ref CS) (i := 2) (np := p7) (pos := p12) (pos' := p11) (b₀ := .Assign [.Name "caught" p8] (.Name "error" p9) p10) (suite := [])
      (body := [.Expr (.Call (.Name "work" p4) [] [] p5) p6]) (Wout := fun _ _ _ _ => False)
      (tb := fun W => tDrop fun σZ HZ Q => σZ[0]? = some (some (V.ref f)) ∧ HZ c' = some (LamX.CodeO c' (X.env.qual ++ "<lambda>")) ∧ tM G (WE W σZ) mb σ HZ Q) (ts := fun _ _ => tAsg (tVar 2) (gName 1))
      rfl rfl rfl ndN rfl D.l3 ⟨glY, D.db, .inl hCS⟩ LamX.takes0
      (fun W pn xe tk _ => pss_one (ps_expr (act_run (CXg := C8.CX0) (Eg := C8.E0) (k := k) (i := 0) (tb := fun E => tM G E mb) I1 at_.nd L hf hfn hfr (hbind _ _ _ _ _) at_.gd tk hr' (fun A outer s H E a => hbody A outer s H E f c' a) rfl (.inl D.l1))))
      (fun a oe cls pn => pss_one (ps_set (i := 1) ndN rfl (.inl D.l2) (pe_var (i := 2) rfl (.inl D.l3)) rfl (.inr D.l2)))
    have whole := pss_cons (ps_set (X := (cxOf C8.CX0 X.prog X.w X.K X.mg X.base ["work", "caught", "error"] xc (defScope st) g cdv X.A X.stack s' H1 C8.E0).nox) (i := 1) (pos' := p1) (pos := p3) ndN rfl (.inl D.l2) (pe_non (j := j) (pos := p2)) rfl (.inr D.l2)) (pss_cons tTry (pss_one (ps_ret (pos := p14) (pe_var (i := 1) (pos := p13) rfl (.inl D.l2)))))
    refine ⟨_, by rw [eb]; exact whole.nox, ?_⟩
    refine ⟨rfl, hco, α, S, ρ, sm1, r1, ?_⟩
    unfold eCaught at got
    cases e : mb ρ S with
    | stuck =>
      rw [e] at got
      exact got
    | ok w S' =>
      rw [e] at got
      intro α' H' q1 q2 q3 v _
      exact ⟨.non, rfl, got α' H' q1 (le1.trans q2) q3 .non .non⟩
    | raise z S' =>
      rw [e] at got
      intro α' H' cls d q1 q2 q3 rx
      obtain ⟨cn, C, rfl, rfl, hC, rfl⟩ := rx
      cases es : sub cn with
      | none =>
        dsimp only at got
        rw [es] at got
        exact got.elim
      | some b =>
        dsimp only at got
        rw [es] at got
        cases b with
        | false => exact got.elim
        | true =>
          refine ⟨true, hsub cn C es (by rw [hM]; exact hC), fun _ => ⟨rfl, fun a na => ?_⟩, fun z => nomatch z⟩
          refine ⟨.ref a, rfl, fun na' => ⟨.ref a, rfl, ?_⟩⟩
          refine got α' (upd H' a (ExC (.ref C) a)) q1 ((le1.trans q2).trans (Le.new na')) (q3.beside na') (.ref a) (.exc ⟨C, hC, upd_same⟩)
  refine wpAny_call (codeAny_mono rc fun r s2 hq => ?_)
  cases r with
  | error e => exact (show False from hq).elim
  | ok fl =>
    cases fl with
    | ret u => exact I1.after hq
    | next => exact False.elim hq
    | brk => exact False.elim hq
    | cont => exact False.elim hq
end
end Mi

set_option maxHeartbeats 1000000
/-! Mi: isinstance(e, C) of what was caught, C an own exception class. -/
namespace Mi
open PySem PySem.Spec PyProof.Rows L2
def gIsC (sub : Str → Option Bool) : W → M W
  | .non => fun S => .ok (.bl false) S
  | .exc c => fun S => match sub c with
    | some b => .ok (.bl b) S
    | none => .stuck
  | _ => fun _ => .stuck
/-- what the tables must say of the class at C, asked of the classes that sub tells -/
structure IsCF (K : PySem.W.Frag) (mg : Str → Option Value) (C : Addr) (sub : Str → Option Bool) : Prop where
  non : PySem.W.kitOne K (.type "NoneType") (.ref C) = some false
  exc : ∀ (c : Str) (D : Addr) (b : Bool), sub c = some b → mg c = some (.ref D) → ExcC K D ∧ PySem.W.kitOne K (.ref D) (.ref C) = some b
def rIsC (G : Gx) (C : Addr) (sub : Str → Option Bool) : List V → Hp → VK → Prop := fun xs H Q => ∃ (v : V) (b : Bool), xs = [v, .ref C] ∧ Q (.bl b) H ∧
  ((v = .non ∧ b = false) ∨ ∃ (c : Str) (a : Addr), v = .ref a ∧ ExAt G H c a ∧ sub c = some b)
section
variable {X : Cx} {G : Gx} {E : XK} {e : Expr} {me : Rho → M W} {p p2 pos : Pos}
theorem call_isC {C : Addr} {sub : Str → Option Bool} (hM : X.mg = G.mg) (F : IsCF X.K X.mg C sub) : CallR X (.builtin "isinstance") (rIsC G C sub) := by
  intro pins s σ H xs us Q I r h
  obtain ⟨v, b, rfl, hq, hv⟩ := h
  obtain ⟨u1, u2, rfl, r1, r2⟩ := vals2 r
  cases (show u2 = Value.ref C from r2)
  rcases hv with ⟨rfl, rfl⟩ | ⟨c, a, rfl, ⟨D, hD, hE⟩, hs⟩
  · cases (show u1 = Value.none from r1)
    exact PySem.W.kia_one PySem.W.kitx_none I.kIn trivial F.non (fun z => nomatch z) fun tk => ⟨.bl false, H, I.tok tk, rfl, hq⟩
  · cases (show u1 = Value.ref a from r1)
    obtain ⟨A, hk⟩ := F.exc c D b hs (by rw [hM]; exact hD)
    obtain ⟨⟨⟨oc, od, oda, osl⟩, vs, h1, h2, h3⟩, _⟩ := I.hok a _ hE
    obtain ⟨h4, h5⟩ := h2
    dsimp only at h3 h4 h5
    subst h3 h4 h5
    exact PySem.W.kia_one (PySem.W.handS_kitx_exc A.hg A.hk A.hs A.hd A.ha A.hn A.ht A.hm) I.kIn (show PySem.W.InstAt s.heap a _ D none from ⟨h1, rfl, rfl, trivial⟩) hk (fun z => nomatch z) fun tk => ⟨.bl b, H, I.tok tk, rfl, hq⟩
theorem pm_isc {T : Str} {C : Addr} {sub : Str → Option Bool} (hM : X.mg = G.mg) (F : IsCF X.K X.mg C sub) (hg : Gl X "isinstance") (hm : X.mg "isinstance" = none) (h : PE X e (tM G E me)) (hgT : Gl X T) (hmT : X.mg T = some (.ref C)) (hd : (T == ("__debug__" : Str)) = false := by decide)
    (he : starEach [e, .Name T p2] X.env = (false, eval e X.env) :: starEach [.Name T p2] X.env := by rfl) (he2 : starEach [.Name T p2] X.env = (false, eval (.Name T p2) X.env) :: starEach [] X.env := by rfl) (hpl : (backTo pos (starEach [.Name T p2] X.env)).any (·.1) = false := by rfl) :
    PE X (.Call (.Name "isinstance" p) [e, .Name T p2] [] pos) (tM G E (eUn (gIsC sub) me)) := by
  have hT : PE X (.Name T p2) (tC (.ref C)) := pe_glob hgT hmT rfl hd
  refine ⟨fun pins s σ H Q I q => (pe_callB (call_isC hM F) hg hm boot_isinstance (pa_cons h (pa_cons hT pa_nil he2) he) (by decide) (by decide) he hpl).run pins s σ H Q I ?_⟩
  obtain ⟨α, S, ρ, sm, rr, gg⟩ := q
  refine Got.node sm rr gg fun x u α1 S1 H1 p1 l1 s1 r1 ru g1 => ?_
  cases x with
  | non =>
    rw [ru.non_inv]
    exact ⟨.non, false, rfl, got_pureW g1 s1 (.bl false), .inl ⟨rfl, rfl⟩⟩
  | exc c =>
    unfold gIsC at g1
    dsimp only at g1
    cases ru with
    | exc hx =>
      cases hs : sub c with
      | none =>
        rw [hs] at g1
        exact g1.elim
      | some b =>
        rw [hs] at g1
        exact ⟨.ref _, b, rfl, got_pureW g1 s1 (.bl b), .inr ⟨c, _, rfl, hx, hs⟩⟩
  | _ => exact False.elim g1
end
end Mi

set_option maxHeartbeats 1000000
/-! Mi: a program's tables, what the printed derivations lean on. -/
namespace Mi
open PySem PySem.Spec PyProof.Rows L2

/-! ### built-in names -/
theorem bt_len : bootBuiltins "len" = some (.builtin "len") := by decide +kernel
theorem bt_abs : bootBuiltins "abs" = some (.builtin "abs") := by decide +kernel
theorem bt_int : bootBuiltins "int" = some (.type "int") := by decide +kernel
theorem bt_bool : bootBuiltins "bool" = some (.type "bool") := by decide +kernel
theorem bt_list : bootBuiltins "list" = some (.type "list") := by decide +kernel
theorem bt_tuple : bootBuiltins "tuple" = some (.type "tuple") := by decide +kernel
theorem bt_dict : bootBuiltins "dict" = some (.type "dict") := by decide +kernel
theorem bt_str : bootBuiltins "str" = some (.type "str") := by decide +kernel
theorem bt_min : bootBuiltins "min" = some (.builtin "min") := by decide +kernel
theorem bt_max : bootBuiltins "max" = some (.builtin "max") := by decide +kernel
theorem bt_sum : bootBuiltins "sum" = some (.builtin "sum") := by decide +kernel
theorem bt_all : bootBuiltins "all" = some (.builtin "all") := by decide +kernel
theorem bt_any : bootBuiltins "any" = some (.builtin "any") := by decide +kernel
theorem bt_repr : bootBuiltins "repr" = some (.builtin "repr") := by decide +kernel

/-! ### frames -/
theorem At.blk {X : Cx} {E : XK} {k : Nat} (a : At X E k) (s : Shared) (H : Hp) (scope : Scope) (cenv : Env) (fp : List Addr) : At (X.blk s H scope cenv fp) E0 k :=
  ⟨a.calm, a.nd, LamX.takes0, PassesOwn.never, a.room, a.gd⟩
theorem At.hu {X : Cx} {E : XK} {k : Nat} (a : At X E k) : X.A.units + 64 < cLine := a.room.units
theorem At.hu1 {X : Cx} {E : XK} {k : Nat} (a : At X E k) : X.A.units + 1 < cLine := hu_of a.room

/-! ### a, b = x, y -/
def sPar (i j : Nat) (ma : Rho → M (List W)) : St1 := fun ρ => ma ρ >>= fun ws => match ws with
  | [v, w] => pure (.nx, (ρ.set i (some v)).set j (some w))
  | _ => M.stuck
section
variable {X : Cx} {G : Gx} {E : XK}
theorem ps_parM {i j : Nat} {x y : Str} {a b : Expr} {ma : Rho → M (List W)} {px py pt pos : Pos} {kt k2 pt2} (hc : X.calm = true) (hN : X.N.Nodup) (hi : X.N[i]? = some x) (hj : X.N[j]? = some y) (hij : i ≠ j)
    (hx : X.env.scope.names.lookup x = some .local) (hy : X.env.scope.names.lookup y = some .local) (ha : PA X [a, b] (tA G E ma))
    (hw : swappedStores [.Tuple [.Name x px, .Name y py] kt pt] (.Tuple [a, b] k2 pt2) X.env = pure (some [x, y]) := by rfl)
    (hs : swapsWithSole [.Tuple [.Name x px, .Name y py] kt pt] (.Tuple [a, b] k2 pt2) pos.line X.env = pure false := by rfl) :
    PS X (.Assign [.Tuple [.Name x px, .Name y py] kt pt] (.Tuple [a, b] k2 pt2) pos) (tS G E (sPar i j ma)) := by
  refine ⟨fun pins s σ H D I h => (ps_par hc hN hi hj hij hx hy ha hw hs).run pins s σ H D I ?_⟩
  obtain ⟨α, S, ρ, sm, rr, gg⟩ := h
  refine Got.node sm rr gg fun ws us α1 S1 H1 p1 l1 s1 r1 rv g1 => ?_
  match ws, us, rv with
  | [v, w], _, .cons h1 (.cons h2 .nil) => exact ⟨_, _, rfl, g1.of_pure s1 _ ((r1.set i h1).set j h2)⟩
  | [], _, _ => exact False.elim g1
  | [_], _, _ => exact False.elim g1
  | _ :: _ :: _ :: _, _, _ => exact False.elim g1
end

/-! ### defs -/
theorem fun_ofD {K : PySem.W.Frag} {x : Str} {st : Stmt} {f : Addr} {fd : FuncData} (F : FunD K x x (defArgs st) (defBody st) (defScope st) [] [] f fd) : L2.Fun K x x st f fd := by
  obtain ⟨oc, od, dV, kV, doc, pm, an, cdv, ct, osl, e, lk, hcd, hD, hK⟩ := F.ex
  rcases hD with ⟨_, rfl⟩ | ⟨z, _⟩
  · exact ⟨⟨oc, od, kV, doc, pm, an, cdv, ct, osl, e, lk, hcd⟩, F.kp⟩
  · exact absurd rfl z
theorem cdAt_code {K : PySem.W.Frag} {p : Str × Option Str} {q : Str} {cdv : Value} (c : CdAt K (He.fAd K p) q cdv) : cdv = .ref (He.codeOf K p) := by
  obtain ⟨h, oc, od, fd, osl, lk, e⟩ := c
  obtain ⟨a, ea⟩ := He.codeIn_ref h
  rw [ea, He.codeOf_eq lk (e.trans ea)]
section
variable {K : PySem.W.Frag} {x q : Str} {st : Stmt} {f : Addr} {fd : FuncData}
/-- what the printed derivations say of the arguments -/
def ArgsN (x q : Str) (st : Stmt) (ps : List Str) : Prop := ∀ (kV doc pm : Value) (an : Option Addr) (cdv ct : Value) (us : List Value), us.length = ps.length → bindArgs (PySem.W.fnOf x q (defArgs st) (defBody st) (defScope st) .none kV doc pm an cdv ct) ⟨us, []⟩ = pure (ps.zip us)
theorem binds_of {ps : List Str} (F : L2.Fun K x q st f fd) (h : ArgsN x q st ps) : L2.Binds K fd ps [] := F.binds h
theorem bindsTo_of {ps : List Str} (F : L2.Fun K x q st f fd) (h : ArgsN x q st ps) (s : Shared) (us : List Value) (hl : us.length = ps.length) : BindsTo s fd ⟨us, []⟩ (ps.zip us) := by
  obtain ⟨oc, od, kV, doc, pm, an, cdv, ct, osl, rfl, lk, hcd⟩ := F.ex
  exact .of_eq (h kV doc pm an cdv ct us hl)
/-- only keywords, in the order ix of the parameters -/
def ArgsK (x q : Str) (st : Stmt) (ps ks : List Str) (ix : List Nat) : Prop := ∀ (kV doc pm : Value) (an : Option Addr) (cdv ct : Value) (us ws : List Value), us.length + ws.length = ps.length → ws.length = ks.length → bindArgs (PySem.W.fnOf x q (defArgs st) (defBody st) (defScope st) .none kV doc pm an cdv ct) ⟨us, ks.zip ws⟩ = pure (ps.zip (kwPerm ix (us ++ ws)))
theorem bindsK_of {ps ks : List Str} {ix : List Nat} (F : L2.Fun K x q st f fd) (h : ArgsK x q st ps ks ix) (us ws : List Value) (h1 : us.length + ws.length = ps.length) (h2 : ws.length = ks.length) : bindArgs fd ⟨us, ks.zip ws⟩ = pure (ps.zip (kwPerm ix (us ++ ws))) := by
  obtain ⟨oc, od, kV, doc, pm, an, cdv, ct, osl, rfl, lk, hcd⟩ := F.ex
  exact h kV doc pm an cdv ct us ws h1 h2
end
/-- a list that is written is as long as it is written -/
theorem len_nil {ρ : Rho} {S S' : Store} {ws : List W} (h : aNil ρ S = .ok ws S') : ws.length = 0 := by
  cases h
  rfl
theorem len_cons {me : Rho → M W} {mr : Rho → M (List W)} {n : Nat} (hr : ∀ ρ S ws S', mr ρ S = .ok ws S' → ws.length = n) : ∀ ρ S ws S', aCons me mr ρ S = .ok ws S' → ws.length = n + 1 := fun ρ S ws S' h => by
  obtain ⟨x, S1, _, h⟩ := bind_inv h
  obtain ⟨xs, S2, q1, h⟩ := bind_inv h
  cases h
  rw [List.length_cons, hr _ _ _ _ q1]
end Mi
namespace Mi
open PySem PySem.Spec PyProof.Rows L2
/-- the function record that stands at f -/
def fdK (K : PySem.W.Frag) (f : Addr) : FuncData := match K.lookup f with
  | some ⟨_, _, .func fd, _⟩ => fd
  | _ => PySem.W.fnOf Str.empty Str.empty (defArgs (.Pass ⟨0, 0, 0, 0⟩)) [] (defScope (.Pass ⟨0, 0, 0, 0⟩)) .none .none .none .none none .none .none
theorem fun_fdK {K : PySem.W.Frag} {x q : Str} {st : Stmt} {f : Addr} {fd : FuncData} (F : L2.Fun K x q st f fd) : L2.Fun K x q st f (fdK K f) := by
  obtain ⟨oc, od, kV, doc, pm, an, cdv, ct, osl, e, lk, hcd⟩ := F.ex
  have e2 : fdK K f = fd := by
    unfold fdK
    rw [lk]
  rw [e2]
  exact F
theorem tb_one {P : Addr} {y z : Str} (e : y = z) : ∀ p ∈ [(P, y)], p.1 = P → p.2 = z := fun p hp _ => by
  rw [List.mem_singleton.mp hp]
  exact e
/-- a class beside the class of a caught thing -/
def subOk (K : PySem.W.Frag) (D C : Addr) (b : Bool) : Bool := decide (PySem.W.findIn K (.ref D) "__getattribute__" = some (some (.builtin "BaseException.__getattribute__"))) && (decide (PySem.W.findIn K (.ref D) "__getattr__" = some none) && (decide (PySem.W.subIn K (.ref D) (.type "BaseException") = some true) &&
  (PySem.W.hasDictIn K D && (decide (PySem.W.findIn K (.ref D) "__class__" = some (some (.builtin "object.__class__"))) && (decide (PySem.W.specialIn K (.builtin "object.__class__") "__get__" = some (some (.builtin "getset_descriptor.__get__"))) && (decide (PySem.W.takesIn K (.builtin "object.__class__") = some true) &&
    (decide (PySem.W.mroIn K D (.type "object") = some true) && decide (PySem.W.kitOne K (.ref D) (.ref C) = some b))))))))
theorem subOk_ok {K : PySem.W.Frag} {D C : Addr} {b : Bool} (h : subOk K D C b = true) : ExcC K D ∧ PySem.W.kitOne K (.ref D) (.ref C) = some b := by
  unfold subOk at h
  simp only [Bool.and_eq_true, decide_eq_true_eq] at h
  obtain ⟨h1, h2, h3, h4, h5, h6, h7, h8, h9⟩ := h
  exact ⟨⟨h1, h2, h3, h4, h5, h6, h7, h8⟩, h9⟩
def nonOk (K : PySem.W.Frag) (C : Addr) : Bool := decide (PySem.W.kitOne K (.type "NoneType") (.ref C) = some false)
theorem nonOk_ok {K : PySem.W.Frag} {C : Addr} (h : nonOk K C = true) : PySem.W.kitOne K (.type "NoneType") (.ref C) = some false := of_decide_eq_true h
def bltOk (K : PySem.W.Frag) (x : Str) (id : String) : Bool := He.eqO (PySem.W.nsIn K mainGlobals x) (some (some (.builtin id)))
theorem bltOk_ok {K : PySem.W.Frag} {h : Heap} {mg : Str → Option Value} (X : K.In h) (G : h.Ns mainGlobals mg) {x : Str} {id : String} (c : bltOk K x id = true) : mg x = some (.builtin id) := PySem.W.mg_of X G (He.eqO_ok c)
/-- what a table of classes says, asked by name -/
def subT (l : List (Str × Bool)) : Str → Option Bool := fun c => l.lookup c
theorem subT_mem {l : List (Str × Bool)} {c : Str} {b : Bool} (h : subT l c = some b) : (c, b) ∈ l := PySem.mem_of_lookup h
end Mi
namespace Mi
open PySem PySem.Spec PyProof.Rows L2
theorem pw_pt {X : Cx} {e : Expr} {t : TT} (h : PW X e t) : PT X e t := h.pt
/-- the name that a frame's nested code begins with -/
abbrev envQ (x : Str) : Str := x ++ ".<locals>."
end Mi

set_option maxHeartbeats 1000000
/-! Mi, the end of a law: its def's promise of the plain machine, asked at the heap behind the top. -/
namespace Mi
open PySem PySem.Spec PyProof.Rows L2
/-- no list stands in K -/
def isLst (o : Obj) : Bool := match o.cls with
  | .type c => decide (c = "list")
  | _ => false
def NoL (K : PySem.W.Frag) : Prop := ∀ a o, K.lookup a = some o → isLst o = false
/-- the abstract heap behind the top: the script at a, the tables at T -/
def H0 (a : Addr) (o : Obj) (xs : List V) (T : List Addr) : Hp := fun b => if b = a then some (.frz o (.lst xs)) else if b ∈ T then some (.tbl #[]) else none
section
variable {a b : Addr} {o : Obj} {xs : List V} {T : List Addr}
theorem H0_a : H0 a o xs T a = some (.frz o (.lst xs)) := if_pos rfl
theorem H0_t (n : a ∉ T) (h : b ∈ T) : H0 a o xs T b = some (.tbl #[]) := (if_neg fun e => n (by rw [← e]; exact h)).trans (if_pos h)
theorem H0_n (h1 : b ≠ a) (h2 : b ∉ T) : H0 a o xs T b = none := (if_neg h1).trans (if_neg h2)
theorem H0_cases (b : Addr) : b = a ∨ b ∈ T ∨ H0 a o xs T b = none := by
  by_cases h1 : b = a
  · exact .inl h1
  · by_cases h2 : b ∈ T
    · exact .inr (.inl h2)
    · exact .inr (.inr (H0_n h1 h2))
end
theorem law_callM {P : Program} {w : World} {K : PySem.W.Frag} {mg mb : Str → Option Value} {k : Nat} {fa a : Addr} {cs : List (Addr × Addr)} {tb : List (Addr × Str)} {fd : FuncData} {x : Str} {m : Fm} {t : Shared} {vs : List Value} {ns : List Int}
    (KX : K.In t.heap) (nl : NoL K) (nsG : t.heap.Ns mainGlobals mg) (nsB : t.heap.Ns builtinsNs mb) (bo : ∀ x : Str, x ≠ "__name__" → mb x = bootBuiltins x) (lim : t.heap.NoLimit) (gen : t.gens = #[])
    (hT : ∀ p ∈ cs, t.heap.get? p.2 = some { cls := .none, data := .fields #[] }) (outK : ∀ p ∈ cs, K.lookup p.2 = none) (cod : ∀ p ∈ cs, PySem.W.CodeHd t.heap p.1 p.2)
    (mods : ∃ (bm : Addr) (ob : Obj), mg "__builtins__" = some (.ref bm) ∧ bm ≠ builtinsNs ∧ t.heap.get? bm = some ob ∧ ob.cls = .type "module" ∧ ob.dict = some builtinsNs ∧ ob.data = .plain)
    (ha : t.heap.get? a = some { cls := .type "list", data := .seq vs.toArray }) (hi : IntsAre vs ns) (hl : ns.length ≤ sizeLine) (room : Room k callerA) (htb : ∀ p ∈ tb, p.1 ∈ cs.map (·.2))
    (F : ∀ base : Heap, K.In base → base.Ns mainGlobals mg → (∀ p ∈ cs, LamX.TabB base mg p.1 p.2) → FnM P w K mg base k fa fd [x] (spM ⟨K, mg, tb⟩ 1 m)) (hbind : ∀ (s : Shared) (u : Value), BindsTo s fd ⟨[u], []⟩ [(x, u)])
    (hm : ∃ S', m [.ref 0] [.frz (ns.map W.int)] = .ok (.bl true) S') :
    codeAny (model P w) callerA (.call (.ref fa) ⟨[.ref a], []⟩) (fun r s' => r = .ok (.ret (.bool true)) ∧ OldK t.heap s'.heap ∧ s'.os = t.os ∧ AllBare s'.gens) t := by
  obtain ⟨T, eT⟩ : ∃ T, T = cs.map (·.2) := ⟨_, rfl⟩
  obtain ⟨oA, eA⟩ : ∃ o : Obj, o = { cls := .type "list", data := .seq vs.toArray } := ⟨_, rfl⟩
  rw [← eA] at ha
  have tabAt : ∀ b ∈ T, t.heap.get? b = some { cls := .none, data := .fields #[] } := fun b hb => by
    rw [eT] at hb
    obtain ⟨p, hp, e⟩ := List.mem_map.mp hb
    rw [← e]
    exact hT p hp
  have inT : ∀ p ∈ cs, p.2 ∈ T := fun p hp => by
    rw [eT]
    exact List.mem_map.mpr ⟨p, hp, rfl⟩
  have aNo : a ∉ T := fun z => by
    have q := (tabAt a z).symm.trans ha
    rw [eA] at q
    cases q
  obtain ⟨H, eH⟩ : ∃ H, H = H0 a oA (ns.map V.int) T := ⟨_, rfl⟩
  have Ha : H a = some (.frz oA (.lst (ns.map V.int))) := by rw [eH]; exact H0_a
  have Ht : ∀ b ∈ T, H b = some (.tbl #[]) := fun b hb => by rw [eH]; exact H0_t aNo hb
  have Hc : ∀ b, b = a ∨ b ∈ T ∨ H b = none := fun b => by rw [eH]; exact H0_cases b
  -- an object that is neither the script nor a table is not told
  have untold : ∀ {b : Addr} {o : Obj}, t.heap.get? b = some o → o.data ≠ .fields #[] → o.data ≠ oA.data → H b = none := fun {b o} e n1 n2 => by
    rcases Hc b with q | q | q
    · rw [q, ha] at e
      cases e
      exact (n2 rfl).elim
    · rw [tabAt b q] at e
      cases e
      exact (n1 rfl).elim
    · exact q
  have dA : oA.data = .seq vs.toArray := by rw [eA]
  have under : ∀ {b : Addr} {o : Obj}, t.heap.get? b = some o → H b = none → (hidT t.heap H).get? b = some o := fun e n => hidT_get e n
  have nsUnder : ∀ {b : Addr} {f : Str → Option Value}, t.heap.Ns b f → (hidT t.heap H).Ns b f := fun {b f} ⟨o, es, ep, e, d, r⟩ =>
    ⟨o, es, ep, under e (untold e (fun z => by rw [d] at z; cases z) fun z => by rw [d, dA] at z; cases z), d, r⟩
  have KB : K.In (hidT t.heap H) := fun b o e => under (KX b o e) (by
    rcases Hc b with q | q | q
    · have w1 := nl b o e
      have w2 := KX b o e
      rw [q, ha] at w2
      cases w2
      rw [eA] at w1
      cases w1
    · rw [eT] at q
      obtain ⟨p, hp, ep⟩ := List.mem_map.mp q
      rw [← ep, outK p hp] at e
      cases e
    · exact q)
  have okM : L2.Mod K mg (hidT t.heap H) := ⟨KB, nsUnder nsG, ⟨mb, nsUnder nsB, bo⟩, let ⟨mc, q1, q2⟩ := lim; ⟨mc, nsUnder q1, q2⟩⟩
  have TB : ∀ p ∈ cs, LamX.TabB (hidT t.heap H) mg p.1 p.2 := fun p hp => by
    have atP := hT p hp
    refine ⟨?_, ?_, fun z => ?_⟩
    · obtain ⟨o, us, file, tf, flags, tg, inF, text, tt, e1, r1, r2, r3, rest⟩ := cod p hp
      refine ⟨o, us, file, tf, flags, tg, inF, text, tt, under e1 (untold e1 (fun z => ?_) fun z => ?_), r1, r2, r3, rest⟩
      · rw [r2] at z
        cases z
        simp at r3
      · rw [r2, dA] at z
        cases z
    · obtain ⟨bm, ob, b1, b2, b3, b4, b5, b6⟩ := mods
      refine ⟨bm, ob, b1, b2, fun q => ?_, fun q => ?_, under b3 (untold b3 (fun z => ?_) fun z => ?_), b4, b5, b6⟩
      · obtain ⟨o, es, ep, e, hd, _⟩ := nsG
        rw [q, e] at b3
        cases b3
        rw [hd] at b6
        cases b6
      · rw [q, atP] at b3
        cases b3
        cases b6
      · rw [b6] at z
        cases z
      · rw [b6, dA] at z
        cases z
    · obtain ⟨o, es, ep, e, hd, _⟩ := nsG
      rw [z, atP] at e
      cases e
      cases hd
  have rv := vals_ints hi
  have hok : HOk P w H t.heap := fun b u z => by
    rcases Hc b with q | q | q
    · rw [q, Ha] at z
      cases z
      rw [q]
      exact ⟨ha, by rw [List.length_map]; exact hl, vs, _, rv, by rw [ha, eA]⟩
    · rw [Ht b q] at z
      cases z
      exact tabAt b q
    · rw [q] at z
      cases z
  have e0 : Env0 P w K mg (hidT t.heap H) callerA [] t H := ⟨rfl, okM, fun b o e => of_hidT e, Nat.le_of_eq (hidT_size _ _), trivial, fun b hb => absurd (show b ∈ ([] : List Addr) from hb) (by simp), hok, .of_eq gen⟩
  have wsV : ∀ l : List Int, RelWs ⟨K, mg, tb⟩ [a] H (l.map W.int) (l.map V.int) := fun l => by
    induction l with
    | nil => exact .nil
    | cons i l ih => exact .cons (.int i) ih
  have sm : Sim ⟨K, mg, tb⟩ [a] [.frz (ns.map W.int)] H := by
    refine ⟨rfl, by simp, fun l o b e1 e2 => ?_, fun p hp => LamX.TabS.nil (Ht _ (by rw [eT]; exact htb p hp))⟩
    cases l with
    | zero =>
      cases e1
      cases e2
      exact ⟨_, oA, Ha, wsV ns⟩
    | succ l => simp at e1
  have sp : spM ⟨K, mg, tb⟩ 1 m [.ref a] H (fun v _ => v = .bl true) fun _ _ _ => False := by
    obtain ⟨S', e⟩ := hm
    refine ⟨[a], _, [.ref 0], sm, .cons (.ref rfl) .nil, rfl, ?_⟩
    rw [e]
    exact fun _ _ _ _ _ v r => r.bl_inv
  refine codeAny_mono ((F _ KB (nsUnder nsG) TB).run callerA [] t H ⟨[.ref a], []⟩ [.ref a] [.ref a] _ _ rfl room e0 (hbind t (.ref a)) (.cons rfl .nil) sp) fun r s' h => ?_
  cases r with
  | error e =>
    obtain ⟨_, _, _, _, _, _, _, _, _, _, _, _, z⟩ := h
    exact z.elim
  | ok fl =>
    cases fl with
    | next => exact False.elim h
    | brk => exact False.elim h
    | cont => exact False.elim h
    | ret u =>
      obtain ⟨v, H', os, bare, un, ok2, rel, q⟩ := h
      have q : v = .bl true := q
      subst q
      obtain rfl : u = Value.bool true := rel
      have still : ∀ b o, b ∉ T → t.heap.get? b = some o → s'.heap.get? b = some o := fun b o nb e => by
        rcases Hc b with q | q | q
        · have z2 := un.frzs b oA _ (by rw [q]; exact Ha)
          rw [q, ha] at e
          cases e
          exact (ok2 b _ z2).1
        · exact (nb q).elim
        · exact un.keep b o e q (fun z => absurd (show b ∈ ([] : List Addr) from z) (by simp)) (by simp)
      have grew : ∀ b ∈ T, ∃ more : Array Value, s'.heap.get? b = some { cls := .none, data := .fields more } := fun b hb => by
        obtain ⟨more, z⟩ := un.tbls b #[] (Ht b hb)
        exact ⟨_, ok2 b _ z⟩
      refine ⟨rfl, ⟨fun b o e => ?_, fun b o e => ?_⟩, os, bare⟩
      · by_cases hb : b ∈ T
        · obtain ⟨more, hmo⟩ := grew b hb
          have hb2 := hb
          rw [eT] at hb2
          obtain ⟨p, hp, ep⟩ := List.mem_map.mp hb2
          subst ep
          rw [hT p hp] at e
          cases e
          exact .inr (.inl ⟨((cod p hp).tab (hT p hp)).isCodeTable, rfl, #[], more, rfl, by rw [Array.empty_append]; exact hmo⟩)
        · exact .inl (still b o hb e)
      · by_cases hb : b ∈ T
        · obtain ⟨more, hmo⟩ := grew b hb
          exact ⟨_, hmo⟩
        · exact ⟨o, still b o hb e⟩

/-! ### the head's facts, told of a part of the heap without lists -/
def frL (g : Addr → Option Obj) (as : List Addr) : PySem.W.Frag := (He.frT g as).filter fun q => !isLst q.2
theorem frL_mem {g : Addr → Option Obj} {as : List Addr} {a : Addr} {o : Obj} (h : (frL g as).lookup a = some o) : g a = some o ∧ He.emptyTab o = false ∧ isLst o = false := by
  obtain ⟨h1, h2⟩ := List.mem_filter.mp (He.lookup_mem h)
  obtain ⟨h3, h4⟩ := List.mem_filter.mp h1
  exact ⟨He.frG_mem h3, by simpa using h4, by simpa using h2⟩
abbrev obsM (n : Nat) (fa : List He.Fa) (fn : List He.DefD) (tf : List He.Defn) (ex : PySem.W.Frag → Bool) (g : Addr → Option Obj) : He.AlX := (He.obsT fa fn [] (frL g (He.asD g n)), ex (frL g (He.asD g n)) && He.tabsB g tf (frL g (He.asD g n)))
theorem saysM {n : Nat} {fa : List He.Fa} {fn : List He.DefD} {tf : List He.Defn} {ex : PySem.W.Frag → Bool} {w : World} {h : Heap} (e : obsM n fa fn tf ex h.get? = He.valX fn [] w) : He.SaysX fa fn [] tf ex w h (frL h.get? (He.asD h.get? n)) := by
  obtain ⟨e1, e2⟩ := Prod.mk.inj e
  obtain ⟨e3, e4⟩ := He.ba e2
  have each : ∀ p ∈ tf, PySem.W.codeHdIn (frL h.get? (He.asD h.get? n)) (He.cT (frL h.get? (He.asD h.get? n)) p).1 (He.cT (frL h.get? (He.asD h.get? n)) p).2 = true ∧ ∃ o, h.get? (He.cT (frL h.get? (He.asD h.get? n)) p).2 = some o ∧ He.emptyTab o = true := fun p hp => by
    obtain ⟨q1, q2⟩ := He.ba (List.all_eq_true.mp e4 p hp)
    refine ⟨q1, ?_⟩
    split at q2
    · rename_i o z
      exact ⟨o, z, q2⟩
    · cases q2
  refine ⟨e1, e3, fun p hp => (each p hp).1, fun p hp => ?_, fun p hp => ?_⟩
  · obtain ⟨_, o, z1, z2⟩ := each p hp
    cases q : (frL h.get? (He.asD h.get? n)).lookup (He.cT (frL h.get? (He.asD h.get? n)) p).2 with
    | none => rfl
    | some u =>
      obtain ⟨y1, y2, _⟩ := frL_mem q
      rw [z1] at y1
      cases y1
      rw [z2] at y2
      cases y2
  · obtain ⟨_, o, z1, z2⟩ := each p hp
    rw [z1, He.emptyTab_eq z2]
def hookM (n : Nat) (fa : List He.Fa) (fn : List He.DefD) (tf : List He.Defn) (ex : PySem.W.Frag → Bool) : PySem.W.Hook where
  α := He.AlX
  obs := fun s => obsM n fa fn tf ex s.heap.get?
  val := fun w => He.valX fn [] w
  says := fun w h => ∃ K : PySem.W.Frag, K.In h ∧ NoL K ∧ He.SaysX fa fn [] tf ex w h K
  of := fun _ h e => ⟨_, fun _ _ q => (frL_mem q).1, fun _ _ q => (frL_mem q).2.2, saysM e⟩
  keeps := fun _ _ _ ⟨K, k1, k2, c⟩ k => ⟨K, PySem.W.Frag.In.keeps k1 k, k2, ⟨c.t, c.more, c.hd, c.out, fun p hp => k _ _ (c.empty p hp)⟩⟩
theorem obsM_eq {n : Nat} {fa : List He.Fa} {fn : List He.DefD} {tf : List He.Defn} {ex : PySem.W.Frag → Bool} {g : Addr → Option Obj} {s : Shared} (h : ∀ a, g a = s.heap.get? a) : obsM n fa fn tf ex g = (hookM n fa fn tf ex).obs s := by
  rw [show g = s.heap.get? from funext h] <;> rfl
/-- what the law's promise must be, at the heap h behind the top -/
def LawM (l : PySem.W.OpenLaw) (w : World) (K : PySem.W.Frag) (k n : Nat) (x : Str) (mg : Str → Option Value) (fa : Addr) (h : Heap) : Prop :=
  ∃ (fd : FuncData) (cs : List (Addr × Addr)) (tb : List (Addr × Str)) (m : Fm), (∀ p ∈ cs, h.get? p.2 = some { cls := .none, data := .fields #[] }) ∧ (∀ p ∈ cs, K.lookup p.2 = none) ∧ (∀ p ∈ cs, PySem.W.CodeHd h p.1 p.2) ∧ (∀ p ∈ tb, p.1 ∈ cs.map (·.2)) ∧
    (∀ (s : Shared) (u : Value), BindsTo s fd ⟨[u], []⟩ [(x, u)]) ∧ (∀ base : Heap, K.In base → base.Ns mainGlobals mg → (∀ p ∈ cs, LamX.TabB base mg p.1 p.2) → FnM l.prog w K mg base k fa fd [x] (spM ⟨K, mg, tb⟩ 1 m)) ∧
    ∀ ns : List Int, ns.length ≤ n → (∀ z ∈ ns, Builtin.Int.intBits z ≤ 1048576) → ∃ S', m [.ref 0] [.frz (ns.map W.int)] = .ok (.bl true) S'
theorem walk_ofM {l : PySem.W.OpenLaw} {n k : Nat} {q : Program} {loose : List Str} {XP : (Str → Option Value) → Heap → Prop} {YP : World → Heap → Prop} {d : DefRec} {x : Str} (hn : l.most = some n) (hn2 : n ≤ sizeLine) (hdf : d.params.defaults = []) (hr : Room k callerA)
    (F : ∀ (w : World) (mg : Str → Option Value) (fa : Addr) (h : Heap), YP w h → h.Ns mainGlobals mg → mg d.name = some (.ref fa) → ∃ K : PySem.W.Frag, K.In h ∧ NoL K ∧ LawM l w K k n x mg fa h) : PySem.W.WalkO q loose XP YP l.row.toRowW d [] (fun f vs => PySem.call f vs) := by
  refine Att.attach_callB hn hdf fun w s₀ s₁ mg mb fa o pm cd doc a vs ns G Y ho hd hcd hmg hobj hints hlen hbits hg => ?_
  obtain ⟨K, KX, nl, fd, cs, tb, m, hT, nT, C, htb, hb, hF, hm⟩ := F w mg fa _ Y G.T.g hmg
  exact law_callM KX nl G.T.g G.T.b G.T.builtins G.T.nolimit hg hT nT C G.T.bmain hobj hints (Nat.le_trans hlen hn2) hr htb hF hb (hm ns hlen hbits)
end Mi

set_option maxHeartbeats 1000000
/-! Mi, reasoning: weakest preconditions of the plain machine. -/
namespace Mi
open PySem PySem.Spec PyProof.Rows L2

def Wp {A : Type} (m : M A) (S : Store) (P : A → Store → Prop) : Prop := match m S with
  | .ok a S' => P a S'
  | _ => False
section
variable {A B : Type} {m : M A} {S : Store} {P P' : A → Store → Prop}
theorem wp_ok {a : A} {S' : Store} (e : m S = .ok a S') (h : P a S') : Wp m S P := by
  unfold Wp
  rw [e]
  exact h
theorem wp_get (h : Wp m S P) : ∃ a S', m S = .ok a S' ∧ P a S' := by
  unfold Wp at h
  cases e : m S with
  | stuck => rw [e] at h; exact h.elim
  | raise z S' => rw [e] at h; exact h.elim
  | ok a S' => rw [e] at h; exact ⟨a, S', rfl, h⟩
theorem Wp.imp (h : Wp m S P) (f : ∀ a S', P a S' → P' a S') : Wp m S P' := by
  obtain ⟨a, S', e, q⟩ := wp_get h
  exact wp_ok e (f a S' q)
theorem wp_pure {a : A} {P : A → Store → Prop} : Wp (pure a : M A) S P = P a S := rfl
theorem wp_bind {k : A → M B} {P : B → Store → Prop} : Wp (m >>= k) S P = Wp m S (fun a S' => Wp (k a) S' P) := by
  unfold Wp
  cases e : m S with
  | stuck => rw [bind_stuck e]
  | raise z S' => rw [bind_raise e]
  | ok a S' => rw [bind_ok e]
theorem wp_if {c : Prop} [Decidable c] {x y : M A} : Wp (if c then x else y) S P = if c then Wp x S P else Wp y S P := by
  split <;> rfl
end
section
variable {S : Store} {P : W → Store → Prop} {ρ : Rho}
theorem wp_var {i : Nat} {w : W} (h : ρ[i]? = some (some w)) : Wp (eVar i ρ) S P = P w S := by
  have e : eVar i ρ S = .ok w S := by
    unfold eVar
    rw [h]
  unfold Wp
  rw [e]
theorem wp_c {w : W} : Wp (eC w ρ) S P = P w S := rfl
theorem wp_op {g : W → W → M W} {a b : Rho → M W} : Wp (eOp g a b ρ) S P = Wp (a ρ) S (fun x S1 => Wp (b ρ) S1 fun y S2 => Wp (g x y) S2 P) := by
  unfold eOp
  simp only [wp_bind]
theorem wp_un {g : W → M W} {a : Rho → M W} : Wp (eUn g a ρ) S P = Wp (a ρ) S (fun x S1 => Wp (g x) S1 P) := by
  unfold eUn
  simp only [wp_bind]
theorem wp_call {g : Fw} {m : Rho → M (List W)} : Wp (eCall g m ρ) S P = Wp (m ρ) S (fun x S1 => Wp (g x) S1 P) := by
  unfold eCall
  simp only [wp_bind]
theorem wp_nil {P : List W → Store → Prop} : Wp (aNil ρ) S P = P [] S := rfl
theorem wp_cons {a : Rho → M W} {r : Rho → M (List W)} {P : List W → Store → Prop} : Wp (aCons a r ρ) S P = Wp (a ρ) S (fun x S1 => Wp (r ρ) S1 fun xs S2 => P (x :: xs) S2) := by
  unfold aCons
  simp only [wp_bind, wp_pure]
theorem wp_star {a : Rho → M W} {r : Rho → M (List W)} {P : List W → Store → Prop} : Wp (aStar a r ρ) S P = Wp (a ρ) S (fun x S1 => Wp (seqOf x) S1 fun us S2 => Wp (r ρ) S2 fun xs S3 => P (us ++ xs) S3) := by
  unfold aStar
  simp only [wp_bind, wp_pure]
theorem wp_newT {ws : List W} : Wp (newT ws) S P = (ws.length ≤ sizeLine ∧ P (.tup ws) S) := by
  unfold Wp newT
  by_cases h : ws.length ≤ sizeLine
  · rw [if_pos h]
    exact propext ⟨fun q => ⟨h, q⟩, fun q => q.2⟩
  · rw [if_neg h]
    exact propext ⟨fun q => q.elim, fun q => h q.1⟩
theorem wp_newL {ws : List W} : Wp (newL ws) S P = (ws.length ≤ sizeLine ∧ P (.ref S.length) (S ++ [.lst ws])) := by
  unfold Wp newL
  by_cases h : ws.length ≤ sizeLine
  · rw [if_pos h]
    exact propext ⟨fun q => ⟨h, q⟩, fun q => q.2⟩
  · rw [if_neg h]
    exact propext ⟨fun q => q.elim, fun q => h q.1⟩
theorem wp_tup {m : Rho → M (List W)} : Wp (eTup m ρ) S P = Wp (m ρ) S (fun ws S1 => ws.length ≤ sizeLine ∧ P (.tup ws) S1) := by
  unfold eTup
  simp only [wp_bind, wp_newT]
theorem wp_lst {m : Rho → M (List W)} : Wp (eLst m ρ) S P = Wp (m ρ) S (fun ws S1 => ws.length ≤ sizeLine ∧ P (.ref S1.length) (S1 ++ [.lst ws])) := by
  unfold eLst
  simp only [wp_bind, wp_newL]
/-! tests -/
theorem wp_toB {m : Rho → M W} {P : Bool → Store → Prop} : Wp (toB m ρ) S P = Wp (m ρ) S (fun x S1 => ∃ b, x = .bl b ∧ P b S1) := by
  unfold toB
  rw [wp_bind]
  congr 1
  funext x S1
  cases x with
  | bl b => exact propext ⟨fun q => ⟨b, rfl, q⟩, fun ⟨c, e, q⟩ => by cases e; exact q⟩
  | _ => exact propext ⟨fun q => False.elim q, fun ⟨c, e, _⟩ => by cases e⟩
theorem wp_asB {w : W} {P : Bool → Store → Prop} : Wp (asB w) S P = ∃ b, w = .bl b ∧ P b S := by
  cases w with
  | bl b => exact propext ⟨fun q => ⟨b, rfl, q⟩, fun ⟨c, e, q⟩ => by cases e; exact q⟩
  | _ => exact propext ⟨fun q => False.elim q, fun ⟨c, e, _⟩ => by cases e⟩
theorem wp_bNot {m : Rho → M Bool} {P : Bool → Store → Prop} : Wp (bNot m ρ) S P = Wp (m ρ) S (fun b S1 => P (!b) S1) := by
  unfold bNot
  simp only [wp_bind, wp_pure]
theorem wp_bAnd {a b : Rho → M Bool} {P : Bool → Store → Prop} : Wp (bAnd a b ρ) S P = Wp (a ρ) S (fun x S1 => if x = true then Wp (b ρ) S1 P else P false S1) := by
  unfold bAnd
  simp only [wp_bind, wp_if, wp_pure]
theorem wp_bOr {a b : Rho → M Bool} {P : Bool → Store → Prop} : Wp (bOr a b ρ) S P = Wp (a ρ) S (fun x S1 => if x = true then P true S1 else Wp (b ρ) S1 P) := by
  unfold bOr
  simp only [wp_bind, wp_if, wp_pure]
theorem wp_eAnd {a b : Rho → M W} : Wp (eAnd a b ρ) S P = Wp (a ρ) S (fun x S1 => ∃ c, x = .bl c ∧ if c = true then Wp (b ρ) S1 P else P (.bl false) S1) := by
  unfold eAnd
  simp only [wp_bind, wp_asB, wp_if, wp_pure]
theorem wp_eOr {a b : Rho → M W} : Wp (eOr a b ρ) S P = Wp (a ρ) S (fun x S1 => ∃ c, x = .bl c ∧ if c = true then P (.bl true) S1 else Wp (b ρ) S1 P) := by
  unfold eOr
  simp only [wp_bind, wp_asB, wp_if, wp_pure]
theorem wp_eNot {a : Rho → M W} : Wp (eNot a ρ) S P = Wp (a ρ) S (fun x S1 => ∃ c, x = .bl c ∧ P (.bl (!c)) S1) := by
  unfold eNot
  simp only [wp_bind, wp_asB, wp_pure]
theorem wp_eIf {c : Rho → M Bool} {a b : Rho → M W} : Wp (eIf c a b ρ) S P = Wp (c ρ) S (fun x S1 => if x = true then Wp (a ρ) S1 P else Wp (b ρ) S1 P) := by
  unfold eIf
  simp only [wp_bind, wp_if]
theorem wp_chain {g g' : W → W → M W} {a b c : Rho → M W} : Wp (eChain g g' a b c ρ) S P = Wp (a ρ) S (fun x S1 => Wp (b ρ) S1 fun y S2 => Wp (g x y) S2 fun z S3 => ∃ d, z = .bl d ∧ if d = true then Wp (c ρ) S3 (fun t S4 => Wp (g' y t) S4 P) else P (.bl false) S3) := by
  unfold eChain
  simp only [wp_bind, wp_asB, wp_if, wp_pure]
end
/-! ### statements -/
abbrev PSt := Fl → Rho → Store → Prop
def Ws (m : M (Fl × Rho)) (S : Store) (Q : PSt) : Prop := Wp m S fun r S' => Q r.1 r.2 S'
section
variable {S : Store} {Q : PSt} {ρ : Rho}
theorem ws_nx : Ws (sNx ρ) S Q = Q .nx ρ S := rfl
theorem ws_bk : Ws (sBk ρ) S Q = Q .bk ρ S := rfl
theorem ws_ct : Ws (sCt ρ) S Q = Q .ct ρ S := rfl
theorem ws_seq {a b : St1} : Ws (sSeq a b ρ) S Q = Ws (a ρ) S (fun f ρ1 S1 => match f with | .nx => Ws (b ρ1) S1 Q | f => Q f ρ1 S1) := by
  unfold Ws sSeq
  rw [wp_bind]
  congr 1
  funext r S1
  obtain ⟨f, ρ1⟩ := r
  cases f <;> rfl
theorem ws_asg {e : Rho → M W} {t : Tg} : Ws (sAsg e t ρ) S Q = Wp (e ρ) S (fun w S1 => Wp (t w ρ) S1 fun ρ1 S2 => Q .nx ρ1 S2) := by
  unfold Ws sAsg
  simp only [wp_bind, wp_pure]
theorem ws_expr {e : Rho → M W} : Ws (sExpr e ρ) S Q = Wp (e ρ) S (fun _ S1 => Q .nx ρ S1) := by
  unfold Ws sExpr
  simp only [wp_bind, wp_pure]
theorem ws_ret {e : Rho → M W} : Ws (sRet e ρ) S Q = Wp (e ρ) S (fun w S1 => Q (.rt w) ρ S1) := by
  unfold Ws sRet
  simp only [wp_bind, wp_pure]
theorem ws_if {c : Rho → M Bool} {a b : St1} : Ws (sIf c a b ρ) S Q = Wp (c ρ) S (fun x S1 => if x = true then Ws (a ρ) S1 Q else Ws (b ρ) S1 Q) := by
  unfold Ws sIf
  simp only [wp_bind, wp_if]
theorem ws_par {i j : Nat} {ma : Rho → M (List W)} : Ws (sPar i j ma ρ) S Q = Wp (ma ρ) S (fun ws S1 => ∃ v w, ws = [v, w] ∧ Q .nx ((ρ.set i (some v)).set j (some w)) S1) := by
  unfold Ws sPar
  rw [wp_bind]
  congr 1
  funext ws S1
  match ws with
  | [v, w] => exact propext ⟨fun q => ⟨v, w, rfl, q⟩, fun ⟨_, _, e, q⟩ => by cases e; exact q⟩
  | [] => exact propext ⟨fun q => False.elim q, fun ⟨_, _, e, _⟩ => by cases e⟩
  | [_] => exact propext ⟨fun q => False.elim q, fun ⟨_, _, e, _⟩ => by cases e⟩
  | _ :: _ :: _ :: _ => exact propext ⟨fun q => False.elim q, fun ⟨_, _, e, _⟩ => by cases e⟩
theorem ws_dput {o i v : Rho → M W} : Ws (sDPutM o i v ρ) S Q = Wp (v ρ) S (fun w S1 => Wp (o ρ) S1 fun x S2 => Wp (i ρ) S2 fun y S3 => Wp (putD x y w) S3 fun _ S4 => Q .nx ρ S4) := by
  unfold Ws sDPutM
  simp only [wp_bind, wp_pure]
theorem wp_gtN {i : Nat} {w : W} {P : Rho → Store → Prop} : Wp (gtN i w ρ) S P = P (ρ.set i (some w)) S := rfl
theorem wp_gtNil {P : Rho → Store → Prop} : Wp (gtNil [] ρ) S P = P ρ S := rfl
theorem wp_gtCons {t : Tg} {u : List W → Rho → M Rho} {w : W} {r : List W} {P : Rho → Store → Prop} : Wp (gtCons t u (w :: r) ρ) S P = Wp (t w ρ) S (fun ρ1 S1 => Wp (u r ρ1) S1 P) := by
  unfold gtCons
  rw [wp_bind]
theorem wp_gtTup {n : Nat} {u : List W → Rho → M Rho} {ws : List W} (h : ws.length = n) {P : Rho → Store → Prop} : Wp (gtTup n u (.tup ws) ρ) S P = Wp (u ws ρ) S P := by
  have e : gtTup n u (.tup ws) ρ = u ws ρ := if_pos h
  rw [e]
theorem wp_gtSub {o i : Rho → M W} {w : W} {P : Rho → Store → Prop} : Wp (gtSub o i w ρ) S P = Wp (o ρ) S (fun x S1 => Wp (i ρ) S1 fun y S2 => Wp (putAt x y w) S2 fun _ S3 => P ρ S3) := by
  unfold gtSub
  simp only [wp_bind, wp_pure]
theorem wp_fn {n : Nat} {b : St1} {ws : List W} {P : W → Store → Prop} (h : Ws (b (ws.map some ++ List.replicate (n - ws.length) none)) S (fun f _ S' => match f with | .rt w => P w S' | .nx => P .non S' | _ => False)) : Wp (fnM n b ws) S P := by
  unfold fnM
  rw [wp_bind]
  refine Wp.imp h fun r S' q => ?_
  obtain ⟨f, ρ1⟩ := r
  cases f <;> first | exact q | exact False.elim q
end
/-! ### loops -/
section
variable {chk : Store → Prop} {t : Tg} {b : St1} {Q : PSt}
theorem wp_chk {A : Type} {k : Unit → M A} {S : Store} {P : A → Store → Prop} (h : chk S) (q : Wp (k ()) S P) : Wp (chkM chk >>= k) S P := by
  rw [wp_bind]
  unfold Wp chkM
  rw [if_pos h]
  exact q
theorem ws_forGo (J : Nat → Rho → Store → Prop) {items : List W} (hchk : ∀ i ρ S, J i ρ S → chk S)
    (step : ∀ i w ρ S, items[i]? = some w → J i ρ S → Wp (t w ρ) S fun ρ1 S1 => Ws (b ρ1) S1 fun f ρ2 S2 => match f with | .nx => J (i + 1) ρ2 S2 | .ct => J (i + 1) ρ2 S2 | .bk => Q .nx ρ2 S2 | .rt v => Q (.rt v) ρ2 S2)
    (fin : ∀ ρ S, J items.length ρ S → Q .nx ρ S) : ∀ (ws : List W) (i : Nat) (ρ : Rho) (S : Store), items.drop i = ws → i + ws.length = items.length → J i ρ S → Ws (forGo chk t b ws ρ) S Q
  | [], i, ρ, S, e, hl, h => by
    unfold forGo
    refine wp_chk (hchk _ _ _ h) ?_
    have : i = items.length := by simpa using hl
    subst this
    exact fin ρ S h
  | w :: ws, i, ρ, S, e, hl, h => by
    unfold forGo
    refine wp_chk (hchk _ _ _ h) ?_
    have hi : items[i]? = some w := by
      have := congrArg (fun l => l[0]?) e
      simpa [List.getElem?_drop] using this
    have ed : items.drop (i + 1) = ws := by
      rw [← List.drop_drop, e]
      rfl
    rw [wp_bind]
    refine Wp.imp (step i w ρ S hi h) fun ρ1 S1 q => ?_
    show Wp (b ρ1 >>= _) S1 _
    rw [wp_bind]
    refine Wp.imp q fun r S2 q2 => ?_
    obtain ⟨f, ρ2⟩ := r
    cases f with
    | nx => exact ws_forGo J hchk step fin ws (i + 1) ρ2 S2 ed (by simp at hl; omega) q2
    | ct => exact ws_forGo J hchk step fin ws (i + 1) ρ2 S2 ed (by simp at hl; omega) q2
    | bk => exact q2
    | rt v => exact q2
theorem ws_for {src : Rho → M Src} {ρ : Rho} {S : Store} (h : Wp (src ρ) S fun s S1 => ∃ J : Nat → Rho → Store → Prop, J 0 ρ S1 ∧ (∀ i ρ S, J i ρ S → s.chk S) ∧
    (∀ i w ρ S, s.items[i]? = some w → J i ρ S → Wp (t w ρ) S fun ρ1 S1 => Ws (b ρ1) S1 fun f ρ2 S2 => match f with | .nx => J (i + 1) ρ2 S2 | .ct => J (i + 1) ρ2 S2 | .bk => Q .nx ρ2 S2 | .rt v => Q (.rt v) ρ2 S2) ∧
    (∀ ρ S, J s.items.length ρ S → Q .nx ρ S)) : Ws (sFor src t b ρ) S Q := by
  unfold Ws sFor
  rw [wp_bind]
  refine Wp.imp h fun s S1 q => ?_
  obtain ⟨J, h0, h1, h2, h3⟩ := q
  exact ws_forGo J h1 h2 h3 s.items 0 ρ S1 rfl (by simp) h0
/-- while: a run in at most n laps -/
theorem whN_more {c : Rho → M Bool} {b : St1} : ∀ {n k : Nat} {ρ : Rho} {S : Store}, whN c b n ρ S ≠ .stuck → n ≤ k → whN c b k ρ S = whN c b n ρ S
  | 0, _, ρ, S, h, _ => (h rfl).elim
  | n + 1, 0, _, _, _, hk => by omega
  | n + 1, k + 1, ρ, S, h, hk => by
    have e1 : ∀ m, whN c b (m + 1) ρ = (c ρ >>= fun x => if x = true then b ρ >>= fun r => match r.1 with
      | .nx => whN c b m r.2
      | .ct => whN c b m r.2
      | .bk => pure (.nx, r.2)
      | .rt v => pure (.rt v, r.2) else pure (.nx, ρ)) := fun _ => rfl
    rw [e1] at h ⊢
    rw [e1]
    cases hc : c ρ S with
    | stuck => rw [bind_stuck hc, bind_stuck hc]
    | raise z S1 => rw [bind_raise hc, bind_raise hc]
    | ok x S1 =>
      rw [bind_ok hc] at h
      rw [bind_ok hc, bind_ok hc]
      cases x with
      | false => rfl
      | true =>
        rw [if_pos rfl] at h ⊢
        rw [if_pos rfl]
        cases hb : b ρ S1 with
        | stuck => rw [bind_stuck hb, bind_stuck hb]
        | raise z S2 => rw [bind_raise hb, bind_raise hb]
        | ok r S2 =>
          rw [bind_ok hb] at h
          rw [bind_ok hb, bind_ok hb]
          obtain ⟨f, ρ2⟩ := r
          cases f with
          | nx => exact whN_more h (by omega)
          | ct => exact whN_more h (by omega)
          | bk => rfl
          | rt v => rfl
theorem ws_while {c : Rho → M Bool} {b : St1} {ρ : Rho} {S : Store} (n : Nat) (h : Ws (whN c b n ρ) S Q) : Ws (sWhile c b ρ) S Q := by
  obtain ⟨r, S', e, q⟩ := wp_get h
  have ex : ∃ k, whN c b k ρ S ≠ .stuck := ⟨n, by rw [e]; intro z; cases z⟩
  refine wp_ok (a := r) (S' := S') ?_ q
  unfold sWhile
  rw [dif_pos ex]
  have h1 := ex.choose_spec
  rcases Nat.le_total n ex.choose with hk | hk
  · rw [whN_more (by rw [e]; intro z; cases z) hk, e]
  · rw [← whN_more h1 hk, e]
/-- while, by a count that falls -/
theorem ws_whileJ {c : Rho → M Bool} {b : St1} (J : Nat → Rho → Store → Prop)
    (step : ∀ n ρ S, J n ρ S → Wp (c ρ) S fun x S1 => if x = true then Ws (b ρ) S1 fun f ρ2 S2 => match f with | .nx => ∃ k, k < n ∧ J k ρ2 S2 | .ct => ∃ k, k < n ∧ J k ρ2 S2 | .bk => Q .nx ρ2 S2 | .rt v => Q (.rt v) ρ2 S2 else Q .nx ρ S1) :
    ∀ (n : Nat) (ρ : Rho) (S : Store), J n ρ S → Ws (whN c b (n + 1) ρ) S Q := by
  intro n
  induction n using Nat.strongRecOn with
  | ind n ih =>
    intro ρ S h
    have e1 : whN c b (n + 1) ρ = (c ρ >>= fun x => if x = true then b ρ >>= fun r => match r.1 with
      | .nx => whN c b n r.2
      | .ct => whN c b n r.2
      | .bk => pure (.nx, r.2)
      | .rt v => pure (.rt v, r.2) else pure (.nx, ρ)) := rfl
    unfold Ws
    rw [e1, wp_bind]
    have more : ∀ k ρ2 S2, k < n → J k ρ2 S2 → Wp (whN c b n ρ2) S2 fun r S' => Q r.1 r.2 S' := fun k ρ2 S2 hk hj => by
      obtain ⟨r, S', e, q⟩ := wp_get (ih k hk ρ2 S2 hj)
      refine wp_ok (a := r) (S' := S') ?_ q
      rw [whN_more (by rw [e]; intro z; cases z) (show k + 1 ≤ n from hk), e]
    refine Wp.imp (step n ρ S h) fun x S1 q => ?_
    cases x with
    | false => exact q
    | true =>
      rw [if_pos rfl] at q ⊢
      rw [wp_bind]
      refine Wp.imp q fun r S2 q2 => ?_
      obtain ⟨f, ρ2⟩ := r
      cases f with
      | nx => exact q2.elim fun k hk => more k ρ2 S2 hk.1 hk.2
      | ct => exact q2.elim fun k hk => more k ρ2 S2 hk.1 hk.2
      | bk => exact q2
      | rt v => exact q2
theorem ws_whileN {c : Rho → M Bool} {b : St1} {ρ : Rho} {S : Store} (J : Nat → Rho → Store → Prop) (n : Nat) (h0 : J n ρ S)
    (step : ∀ n ρ S, J n ρ S → Wp (c ρ) S fun x S1 => if x = true then Ws (b ρ) S1 fun f ρ2 S2 => match f with | .nx => ∃ k, k < n ∧ J k ρ2 S2 | .ct => ∃ k, k < n ∧ J k ρ2 S2 | .bk => Q .nx ρ2 S2 | .rt v => Q (.rt v) ρ2 S2 else Q .nx ρ S1) : Ws (sWhile c b ρ) S Q :=
  ws_while (n + 1) (ws_whileJ J step n ρ S h0)
end
/-! ### comprehensions -/
section
variable {t : Tg} {c : Rho → M Bool} {e : Rho → M W} {P : W → Store → Prop}
theorem wp_noX {A : Type} {m : M A} {S : Store} {P : A → Store → Prop} (h : Wp m S P) : Wp (noX m) S P := by
  obtain ⟨a, S', e, q⟩ := wp_get h
  refine wp_ok (a := a) (S' := S') ?_ q
  unfold noX
  rw [e]
theorem wp_push {l : Nat} {y : W} {S : Store} {ws : List W} {P : Unit → Store → Prop} (h : S[l]? = some (.lst ws)) (hl : ws.length < sizeLine) (q : P () (S.set l (.lst (ws ++ [y])))) : Wp (pushM l y) S P := by
  refine wp_ok (a := ()) (S' := S.set l (.lst (ws ++ [y]))) ?_ q
  unfold pushM muL
  rw [h]
  exact if_pos hl
theorem wp_lcGo {chk : Store → Prop} {ρ : Rho} {l : Nat} {items : List W} (J : Nat → List W → Store → Prop) (hsz : items.length ≤ sizeLine) (hchk : ∀ i out S, J i out S → chk S) (hlen : ∀ i out S, J i out S → out.length ≤ i)
    (step : ∀ i w out S, items[i]? = some w → J i out S → Wp (t w ρ) S fun ρ1 S1 => Wp (c ρ1) S1 fun b S2 => if b = true then Wp (e ρ1) S2 (fun y S3 => S3[l]? = some (.lst out) ∧ J (i + 1) (out ++ [y]) (S3.set l (.lst (out ++ [y])))) else J (i + 1) out S2)
    (fin : ∀ out S, J items.length out S → P (.ref l) S) : ∀ (ws : List W) (i : Nat) (out : List W) (S : Store), items.drop i = ws → i + ws.length = items.length → J i out S → Wp (lcGo chk t c e ρ l ws) S P
  | [], i, out, S, ed, hl, h => by
    unfold lcGo
    refine wp_chk (hchk _ _ _ h) ?_
    have : i = items.length := by simpa using hl
    subst this
    exact fin out S h
  | w :: ws, i, out, S, ed, hl, h => by
    unfold lcGo
    refine wp_chk (hchk _ _ _ h) ?_
    have hi : items[i]? = some w := by
      have := congrArg (fun l => l[0]?) ed
      simpa [List.getElem?_drop] using this
    have e2 : items.drop (i + 1) = ws := by
      rw [← List.drop_drop, ed]
      rfl
    have hlt : i < items.length := (List.getElem?_eq_some_iff.mp hi).1
    rw [wp_bind]
    refine wp_noX ?_
    unfold lcOne
    rw [wp_bind]
    refine Wp.imp (step i w out S hi h) fun ρ1 S1 q => ?_
    rw [wp_bind]
    refine Wp.imp q fun b S2 q2 => ?_
    cases b with
    | false => exact wp_lcGo J hsz hchk hlen step fin ws (i + 1) out S2 e2 (by simp at hl; omega) q2
    | true =>
      rw [if_pos rfl] at q2 ⊢
      rw [wp_bind]
      refine Wp.imp q2 fun y S3 q3 => ?_
      have hol := hlen _ _ _ h
      exact wp_push q3.1 (by omega) (wp_lcGo J hsz hchk hlen step fin ws (i + 1) (out ++ [y]) _ e2 (by simp at hl; omega) q3.2)
theorem wp_lc {src : Rho → M Src} {vs : List Nat} {ρ : Rho} {S : Store} (h : Wp (src ρ) S fun s S1 => s.items.length ≤ sizeLine ∧ ∃ J : Nat → List W → Store → Prop, J 0 [] (S1 ++ [.lst []]) ∧ (∀ i out S, J i out S → s.chk S) ∧ (∀ i out S, J i out S → out.length ≤ i) ∧
    (∀ i w out S, s.items[i]? = some w → J i out S → Wp (t w (wipeR ρ vs)) S fun ρ1 S2 => Wp (c ρ1) S2 fun b S3 => if b = true then Wp (e ρ1) S3 (fun y S4 => S4[S1.length]? = some (.lst out) ∧ J (i + 1) (out ++ [y]) (S4.set S1.length (.lst (out ++ [y])))) else J (i + 1) out S3) ∧
    (∀ out S, J s.items.length out S → P (.ref S1.length) S)) : Wp (eLc src t c e vs ρ) S P := by
  unfold eLc
  rw [wp_bind]
  refine Wp.imp h fun s S1 q => ?_
  obtain ⟨hsz, J, h0, h1, h2, h3, h4⟩ := q
  exact wp_lcGo J hsz h1 h2 h3 h4 s.items 0 [] (S1 ++ [.lst []]) rfl (by simp) h0
end
end Mi

set_option maxHeartbeats 1000000
/-! Mi, reasoning: the stepping tactic, stores that grow, the functions' rules. -/
namespace Mi
open PySem PySem.Spec PyProof.Rows L2
def vr (o : Option (Option W)) (P : W → Prop) : Prop := match o with
  | some (some w) => P w
  | _ => False
theorem vr_some {w : W} {P : W → Prop} : vr (some (some w)) P = P w := rfl
theorem wp_var' {i : Nat} {ρ : Rho} {S : Store} {P : W → Store → Prop} : Wp (eVar i ρ) S P = vr ρ[i]? fun w => P w S := by
  cases e : ρ[i]? with
  | none =>
    have : eVar i ρ S = .stuck := by unfold eVar; rw [e]
    unfold Wp
    rw [this]
    rfl
  | some o =>
    cases o with
    | none =>
      have : eVar i ρ S = .stuck := by unfold eVar; rw [e]
      unfold Wp
      rw [this]
      rfl
    | some w => exact wp_var e
theorem wp_cYes {ρ : Rho} {S : Store} {P : Bool → Store → Prop} : Wp (cYes ρ) S P = P true S := rfl
theorem wp_isN {w : W} {S : Store} {P : W → Store → Prop} : Wp (gIsN w) S P = P (.bl (isNone w)) S := rfl
theorem wp_notN {w : W} {S : Store} {P : W → Store → Prop} : Wp (gNotN w) S P = P (.bl (!isNone w)) S := rfl
theorem wp_oNo {ρ : Rho} {S : Store} {P : Option Int → Store → Prop} : Wp (oNo ρ) S P = P none S := rfl
theorem wp_oYes {m : Rho → M W} {ρ : Rho} {S : Store} {P : Option Int → Store → Prop} : Wp (oYes m ρ) S P = Wp (m ρ) S (fun x S1 => ∃ i, x = .int i ∧ P (some i) S1) := by
  unfold oYes
  rw [wp_bind]
  congr 1
  funext x S1
  cases x with
  | int b => exact propext ⟨fun q => ⟨b, rfl, q⟩, fun ⟨c, e, q⟩ => by cases e; exact q⟩
  | _ => exact propext ⟨fun q => False.elim q, fun ⟨c, e, _⟩ => by cases e⟩
theorem wp_sl {m : Rho → M W} {l h : Rho → M (Option Int)} {ρ : Rho} {S : Store} {P : W → Store → Prop} : Wp (eSl m l h ρ) S P = Wp (m ρ) S (fun x S1 => Wp (l ρ) S1 fun lo S2 => Wp (h ρ) S2 fun hi S3 => Wp (gSl x lo hi) S3 P) := by
  unfold eSl
  simp only [wp_bind]
theorem wp_mth {g : Gm} {mo : Rho → M W} {mr : Rho → M (List W)} {ρ : Rho} {S : Store} {P : W → Store → Prop} : Wp (eMth g mo mr ρ) S P = Wp (mo ρ) S (fun x S1 => Wp (isL x) S1 fun _ S2 => Wp (mr ρ) S2 fun xs S3 => Wp (g x xs) S3 P) := by
  unfold eMth
  simp only [wp_bind]
theorem wp_mth0 {g : Gm} {mo : Rho → M W} {ρ : Rho} {S : Store} {P : W → Store → Prop} : Wp (eMth0 g mo ρ) S P = Wp (mo ρ) S (fun x S1 => Wp (isL x) S1 fun _ S2 => Wp (g x []) S2 P) := by
  unfold eMth0
  simp only [wp_bind]
theorem wp_callK {ix : List Nat} {ma mk : Rho → M (List W)} {m : Fm} {ρ : Rho} {S : Store} {P : W → Store → Prop} : Wp (eCallK ix ma mk m ρ) S P = Wp (ma ρ) S (fun xs S1 => Wp (mk ρ) S1 fun ys S2 => Wp (m (kwPerm ix (xs ++ ys))) S2 P) := by
  unfold eCallK
  simp only [wp_bind]
/-! ### whole numbers -/
section
variable {S : Store} {P : W → Store → Prop} {i j : Int}
theorem wp_gI {C : Int → Int → Prop} [∀ i j, Decidable (C i j)] {f : Int → Int → W} : Wp (gI C f (.int i) (.int j)) S P = (C i j ∧ P (f i j) S) := by
  have e : gI C f (.int i) (.int j) S = if C i j then .ok (f i j) S else .stuck := rfl
  unfold Wp
  rw [e]
  by_cases h : C i j
  · rw [if_pos h]
    exact propext ⟨fun q => ⟨h, q⟩, fun q => q.2⟩
  · rw [if_neg h]
    exact propext ⟨fun q => q.elim, fun q => h q.1⟩
theorem wp_sub : Wp (gSub (.int i) (.int j)) S P = P (.int (i - j)) S := by
  unfold gSub
  rw [wp_gI]
  simp
theorem wp_fdv : Wp (gFdv (.int i) (.int j)) S P = ((0 < j ∧ j.natAbs.log2 < 9000) ∧ P (.int (i / j)) S) := wp_gI
theorem wp_mod : Wp (gMod (.int i) (.int j)) S P = (0 < j ∧ P (.int (i % j)) S) := wp_gI
theorem wp_pow : Wp (gPow (.int i) (.int j)) S P = ((0 ≤ j ∧ j ≤ 1000000 ∧ i.natAbs < 2 ^ 64) ∧ P (.int (i ^ j.toNat)) S) := wp_gI
theorem wp_lt : Wp (gLt (.int i) (.int j)) S P = P (.bl (decide (i < j))) S := by
  unfold gLt
  rw [wp_gI]
  simp
theorem wp_le : Wp (gLe (.int i) (.int j)) S P = P (.bl (decide (i ≤ j))) S := by
  unfold gLe
  rw [wp_gI]
  simp
theorem wp_gt : Wp (gGt (.int i) (.int j)) S P = P (.bl (decide (j < i))) S := by
  unfold gGt
  rw [wp_gI]
  simp
theorem wp_ge : Wp (gGe (.int i) (.int j)) S P = P (.bl (decide (j ≤ i))) S := by
  unfold gGe
  rw [wp_gI]
  simp
theorem wp_add : Wp (gAdd (.int i) (.int j)) S P = P (.int (i + j)) S := rfl
theorem wp_mul : Wp (gMul (.int i) (.int j)) S P = (mulOk i j ∧ P (.int (i * j)) S) := by
  have e : gMul (.int i) (.int j) S = if mulOk i j then .ok (.int (i * j)) S else .stuck := rfl
  unfold Wp
  rw [e]
  by_cases h : mulOk i j
  · rw [if_pos h]
    exact propext ⟨fun q => ⟨h, q⟩, fun q => q.2⟩
  · rw [if_neg h]
    exact propext ⟨fun q => q.elim, fun q => h q.1⟩
theorem wp_neg : Wp (gNeg (.int i)) S P = P (.int (-i)) S := rfl
theorem wp_addT {a b : List W} : Wp (gAdd (.tup a) (.tup b)) S P = (((a ++ b).length ≤ sizeLine) ∧ P (.tup (a ++ b)) S) := wp_newT
theorem wp_eqI : Wp (gEqB false (.int i) (.int j)) S P = P (.bl (i == j)) S := rfl
theorem wp_neI : Wp (gEqB true (.int i) (.int j)) S P = P (.bl (!(i == j))) S := rfl
theorem wp_abs : Wp (gAbs [.int i]) S P = P (.int (if i < 0 then -i else i)) S := rfl
theorem wp_int : Wp (gInt [.int i]) S P = P (.int i) S := rfl
theorem wp_min2 : Wp (gMin2 [.int i, .int j]) S P = P (.int (if j < i then j else i)) S := rfl
theorem wp_max2 : Wp (gMax2 [.int i, .int j]) S P = P (.int (if j > i then j else i)) S := rfl
theorem wp_gcd : Wp (gGcd [.int i, .int j]) S P = P (.int ((Nat.gcd i.natAbs j.natAbs : Nat) : Int)) S := rfl
theorem wp_lenT {us : List W} : Wp (gLen [.tup us]) S P = P (.int us.length) S := rfl
theorem wp_tupT {us : List W} : Wp (gTuple [.tup us]) S P = P (.tup us) S := rfl
theorem wp_listT {us : List W} : Wp (gList [.tup us]) S P = ((us.length ≤ sizeLine) ∧ P (.ref S.length) (S ++ [.lst us])) := wp_newL
theorem wp_ixT {us : List W} {w : W} (h : L2.atI us i = some w) : Wp (gIx (.tup us) (.int i)) S P = P w S := by
  have e : gIx (.tup us) (.int i) S = .ok w S := by
    show (match L2.atI us i with | some w => Rs.ok w S | none => .stuck) = _
    rw [h]
  unfold Wp
  rw [e]
end
/-! ### stores that grow -/
section
variable {S S' : Store} {l : Nat} {ws : List W}
theorem rdL_of (h : S[l]? = some (.lst ws)) : rdL S l = some ws := by unfold rdL; rw [h]
theorem rdF_of (h : S[l]? = some (.frz ws)) : rdL S l = some ws := by unfold rdL; rw [h]
theorem muL_of (h : S[l]? = some (.lst ws)) : muL S l = some ws := by unfold muL; rw [h]
theorem rdD_of {kvs : List (Key × W)} (h : S[l]? = some (.dk kvs)) : rdD S l = some kvs := by unfold rdD; rw [h]
theorem pre_at {o : Ob} (p : S <+: S') (h : S[l]? = some o) : S'[l]? = some o := by
  obtain ⟨t, rfl⟩ := p
  rw [List.getElem?_append_left (List.getElem?_eq_some_iff.mp h).1]
  exact h
theorem pre_rd (p : S <+: S') (h : rdL S l = some ws) : rdL S' l = some ws := by
  unfold rdL at h ⊢
  cases e : S[l]? with
  | none => rw [e] at h; cases h
  | some o => rw [pre_at p e]; rw [e] at h; exact h
theorem pre_rdD {kvs : List (Key × W)} (p : S <+: S') (h : rdD S l = some kvs) : rdD S' l = some kvs := by
  unfold rdD at h ⊢
  cases e : S[l]? with
  | none => rw [e] at h; cases h
  | some o => rw [pre_at p e]; rw [e] at h; exact h
theorem pre_app (p : S <+: S') (t : Store) : S <+: S' ++ t := p.trans (List.prefix_append _ _)
theorem pre_set {o : Ob} (p : S <+: S') (h : S.length ≤ l) : S <+: S'.set l o := by
  obtain ⟨t, rfl⟩ := p
  rw [List.set_append_right _ _ h]
  exact List.prefix_append _ _
theorem at_new {o : Ob} : (S ++ [o])[S.length]? = some o := by simp
theorem at_app {o : Ob} {t : Store} (h : S[l]? = some o) : (S ++ t)[l]? = some o := pre_at (List.prefix_append _ _) h
theorem at_set {o u : Ob} (h : S[l]? = some o) : (S.set l u)[l]? = some u := List.getElem?_set_self (List.getElem?_eq_some_iff.mp h).1
theorem at_setN {o u : Ob} {k : Nat} (h : S[l]? = some o) (n : k ≠ l) : (S.set k u)[l]? = some o := by rw [List.getElem?_set_ne n]; exact h
end
section
variable {S : Store} {P : W → Store → Prop} {l : Nat} {ws : List W}
theorem wp_lenR (h : rdL S l = some ws) : Wp (gLen [.ref l]) S P = P (.int ws.length) S := by
  have e : gLen [.ref l] S = .ok (.int ws.length) S := by
    show (match rdL S l with | some us => Rs.ok (W.int us.length) S | none => .stuck) = _
    rw [h]
  unfold Wp
  rw [e]
theorem wp_ixR {i : Int} {w : W} (h : rdL S l = some ws) (h2 : L2.atI ws i = some w) : Wp (gIx (.ref l) (.int i)) S P = P w S := by
  have e : gIx (.ref l) (.int i) S = .ok w S := by
    show (match rdL S l with | some ws => (match L2.atI ws i with | some w => Rs.ok w S | none => .stuck) | none => .stuck) = _
    rw [h]
    dsimp only
    rw [h2]
  unfold Wp
  rw [e]
theorem wp_listR (h : rdL S l = some ws) : Wp (gList [.ref l]) S P = (ws.length ≤ sizeLine ∧ P (.ref S.length) (S ++ [.lst ws])) := by
  have e : gList [.ref l] S = newL ws S := by
    show (match rdL S l with | some us => newL us S | none => .stuck) = _
    rw [h]
  rw [← wp_newL]
  unfold Wp
  rw [e]
theorem wp_tupleR (h : rdL S l = some ws) : Wp (gTuple [.ref l]) S P = (ws.length ≤ sizeLine ∧ P (.tup ws) S) := by
  have e : gTuple [.ref l] S = newT ws S := by
    show (match rdL S l with | some us => newT us S | none => .stuck) = _
    rw [h]
  rw [← wp_newT]
  unfold Wp
  rw [e]
theorem wp_revT (h : rdL S l = some ws) : Wp (gRevT (.ref l)) S P = (ws.reverse.length ≤ sizeLine ∧ P (.tup ws.reverse) S) := by
  have e : gRevT (.ref l) S = newT ws.reverse S := by
    show (match rdL S l with | some us => newT us.reverse S | none => .stuck) = _
    rw [h]
  rw [← wp_newT]
  unfold Wp
  rw [e]
theorem wp_seqT {P : List W → Store → Prop} : Wp (seqOf (.tup ws)) S P = P ws S := rfl
theorem wp_seqR {P : List W → Store → Prop} (h : rdL S l = some ws) : Wp (seqOf (.ref l)) S P = P ws S := by
  have e : seqOf (.ref l) S = .ok ws S := by
    show (match rdL S l with | some ws => Rs.ok ws S | none => .stuck) = _
    rw [h]
  unfold Wp
  rw [e]
theorem wp_isL {P : Unit → Store → Prop} (h : rdL S l = some ws) : Wp (isL (.ref l)) S P = P () S := by
  have e : isL (.ref l) S = .ok () S := by
    show (match rdL S l with | some _ => Rs.ok () S | none => .stuck) = _
    rw [h]
  unfold Wp
  rw [e]
theorem wp_append {y : W} (h : S[l]? = some (.lst ws)) : Wp (gAppend (.ref l) [y]) S P = (ws.length < sizeLine ∧ P .non (S.set l (.lst (ws ++ [y])))) := by
  have e : gAppend (.ref l) [y] S = if ws.length < sizeLine then .ok .non (S.set l (.lst (ws ++ [y]))) else .stuck := by
    show (match muL S l with | some ws => (if ws.length < sizeLine then Rs.ok W.non (S.set l (.lst (ws ++ [y]))) else .stuck) | none => .stuck) = _
    rw [muL_of h]
  unfold Wp
  rw [e]
  by_cases q : ws.length < sizeLine
  · rw [if_pos q]
    exact propext ⟨fun r => ⟨q, r⟩, fun r => r.2⟩
  · rw [if_neg q]
    exact propext ⟨fun r => r.elim, fun r => q r.1⟩
theorem wp_popAt {i : Int} {k : Nat} {y : W} (h : S[l]? = some (.lst ws)) (hi : -(2 ^ 63) ≤ i ∧ i < 2 ^ 63) (hk : seqIndex? i ws.length = some k) (hy : ws[k]? = some y) : Wp (gPopAt (.ref l) [.int i]) S P = P y (S.set l (.lst (ws.eraseIdx k))) := by
  have e : gPopAt (.ref l) [.int i] S = .ok y (S.set l (.lst (ws.eraseIdx k))) := by
    show (match muL S l with | some ws => (if -(2 ^ 63) ≤ i ∧ i < 2 ^ 63 then (match seqIndex? i ws.length with | some k => (match ws[k]? with | some y => Rs.ok y (S.set l (.lst (ws.eraseIdx k))) | none => .stuck) | none => .stuck) else .stuck) | none => .stuck) = _
    rw [muL_of h]
    dsimp only
    rw [if_pos hi, hk]
    dsimp only
    rw [hy]
  unfold Wp
  rw [e]
theorem wp_putAt {i : Int} {j : Nat} {z : W} {P : Unit → Store → Prop} (h : S[l]? = some (.lst ws)) (hj : ixN ws.length i = some j) : Wp (putAt (.ref l) (.int i) z) S P = P () (S.set l (.lst (ws.set j z))) := by
  have e : putAt (.ref l) (.int i) z S = .ok () (S.set l (.lst (ws.set j z))) := by
    show (match muL S l with | some ws => (match ixN ws.length i with | some j => Rs.ok () (S.set l (.lst (ws.set j z))) | none => .stuck) | none => .stuck) = _
    rw [muL_of h]
    dsimp only
    rw [hj]
  unfold Wp
  rw [e]
theorem wp_dget {kvs : List (Key × W)} {k : Key} {y w : W} (h : S[l]? = some (.dk kvs)) (hk : keyW y = some k) (hv : valW kvs k = some w) : Wp (gDGet (.ref l) y) S P = P w S := by
  have e : gDGet (.ref l) y S = .ok w S := by
    show (match (W.ref l), keyW y with | .ref l, some k => (match rdD S l with | some kvs => (match valW kvs k with | some w => Rs.ok w S | none => .stuck) | none => .stuck) | _, _ => .stuck) = _
    rw [hk]
    dsimp only
    rw [rdD_of h]
    dsimp only
    rw [hv]
  unfold Wp
  rw [e]
theorem wp_isT {cs : List String} {t : String} {b : Bool} {w : W} (h : tyW S w = some t) (h2 : kitBs t cs = some b) : Wp (gIsT cs w) S P = P (.bl b) S := by
  have e : gIsT cs w S = .ok (.bl b) S := by
    show (match tyW S w with | some t => (match kitBs t cs with | some b => Rs.ok (W.bl b) S | none => .stuck) | none => .stuck) = _
    rw [h]
    dsimp only
    rw [h2]
  unfold Wp
  rw [e]
theorem wp_src {P : Src → Store → Prop} : Wp (srcOf (.tup ws)) S P = P ⟨ws, fun _ => True⟩ S := rfl
theorem wp_srcR {P : Src → Store → Prop} (h : rdL S l = some ws) : Wp (srcOf (.ref l)) S P = P ⟨ws, fun S' => rdL S' l = some ws⟩ S := by
  have e : srcOf (.ref l) S = .ok ⟨ws, fun S' => rdL S' l = some ws⟩ S := by
    show (match rdL S l with | some ws => Rs.ok (⟨ws, fun S' => rdL S' l = some ws⟩ : Src) S | none => .stuck) = _
    rw [h]
  unfold Wp
  rw [e]
def rngW (i : Int) (n : Nat) : List W := (List.range n).map fun (k : Nat) => W.int (i + (k : Int))
theorem rngW_get {i : Int} {n k : Nat} {w : W} (h : (rngW i n)[k]? = some w) : k < n ∧ w = .int (i + (k : Int)) := by
  unfold rngW at h
  rw [List.getElem?_map] at h
  cases e : (List.range n)[k]? with
  | none => rw [e] at h; cases h
  | some x =>
    rw [e] at h
    obtain ⟨h1, h2⟩ := List.getElem?_eq_some_iff.mp e
    simp at h1 h2
    subst h2
    cases h
    exact ⟨h1, rfl⟩
theorem rngW_len {i : Int} {n : Nat} : (rngW i n).length = n := by simp [rngW]
theorem wp_rng1 {j : Int} {P : Src → Store → Prop} : Wp (srcRng1 [.int j]) S P = ((-(2 ^ 62) ≤ j ∧ j < 2 ^ 62) ∧ P ⟨rngW 0 j.toNat, fun _ => True⟩ S) := by
  show Wp (if -(2 ^ 62) ≤ j ∧ j < 2 ^ 62 then pure (⟨rngW 0 j.toNat, fun _ => True⟩ : Src) else M.stuck) S P = _
  rw [wp_if]
  by_cases q : -(2 ^ 62) ≤ j ∧ j < 2 ^ 62
  · rw [if_pos q, wp_pure]
    exact propext ⟨fun r => ⟨q, r⟩, fun r => r.2⟩
  · rw [if_neg q]
    exact propext ⟨fun r => False.elim r, fun r => q r.1⟩
theorem wp_rng2 {i j : Int} {P : Src → Store → Prop} : Wp (srcRng2 [.int i, .int j]) S P = ((-(2 ^ 62) ≤ i ∧ i < 2 ^ 62 ∧ -(2 ^ 62) ≤ j ∧ j < 2 ^ 62) ∧ P ⟨rngW i (j - i).toNat, fun _ => True⟩ S) := by
  show Wp (if -(2 ^ 62) ≤ i ∧ i < 2 ^ 62 ∧ -(2 ^ 62) ≤ j ∧ j < 2 ^ 62 then pure (⟨rngW i (j - i).toNat, fun _ => True⟩ : Src) else M.stuck) S P = _
  rw [wp_if]
  by_cases q : -(2 ^ 62) ≤ i ∧ i < 2 ^ 62 ∧ -(2 ^ 62) ≤ j ∧ j < 2 ^ 62
  · rw [if_pos q, wp_pure]
    exact propext ⟨fun r => ⟨q, r⟩, fun r => r.2⟩
  · rw [if_neg q]
    exact propext ⟨fun r => False.elim r, fun r => q r.1⟩
end
/-! ### indices -/
theorem atI_nat {A : Type} {ws : List A} {k : Nat} {w : A} (h : ws[k]? = some w) : L2.atI ws (k : Int) = some w := by
  have hk := (List.getElem?_eq_some_iff.mp h).1
  unfold L2.atI L2.ixN
  have e1 : (0 : Int) ≤ (k : Int) ∧ (k : Int) < (ws.length : Int) := ⟨by omega, by omega⟩
  simp only [e1, and_self, if_true, h, Int.toNat_natCast]
  first | rfl | simp [h]
/-! ### the stepping -/

end Mi

set_option maxHeartbeats 1000000
/-! Mi, reasoning: comprehensions that only read, all, sum, exceptions. -/
namespace Mi
open PySem PySem.Spec PyProof.Rows L2
section
variable {t : Tg} {c : Rho → M Bool} {e : Rho → M W} {P : W → Store → Prop} {src : Rho → M Src} {vs : List Nat} {ρ : Rho} {S : Store}
/-- [e for t in src if c], where nothing old is written -/
theorem wp_lcP (items : List W) (p : W → Bool) (f : W → W) (hl : items.length ≤ sizeLine) (hsrc : Wp (src ρ) S fun s S1 => S <+: S1 ∧ s.items = items ∧ ∀ S', S1 <+: S' → s.chk S')
    (step : ∀ w ∈ items, ∀ S', S <+: S' → Wp (t w (wipeR ρ vs)) S' fun ρ1 S1 => Wp (c ρ1) S1 fun b S2 => b = p w ∧ S' <+: S2 ∧ (p w = true → Wp (e ρ1) S2 fun y S3 => y = f w ∧ S' <+: S3))
    (fin : ∀ S' l, S <+: S' → S.length ≤ l → S'[l]? = some (.lst ((items.filter p).map f)) → P (.ref l) S') : Wp (eLc src t c e vs ρ) S P := by
  refine wp_lc (Wp.imp hsrc fun s S1 ⟨h1, h2, h3⟩ => ?_)
  subst h2
  have hle : S.length ≤ S1.length := h1.length_le
  refine ⟨hl, fun i out S' => S1 <+: S' ∧ S'[S1.length]? = some (.lst out) ∧ out = ((s.items.take i).filter p).map f, ⟨List.prefix_append _ _, at_new, rfl⟩, fun i out S' j => h3 S' j.1, fun i out S' j => ?_, fun i w out S' hi j => ?_, fun out S' j => ?_⟩
  · rw [j.2.2, List.length_map]
    exact Nat.le_trans (List.length_filter_le _ _) (by simp; omega)
  · obtain ⟨j1, j2, j3⟩ := j
    refine Wp.imp (step w (List.mem_of_getElem? hi) S' (h1.trans j1)) fun ρ1 S2 q => Wp.imp q fun b S3 ⟨q1, q2, q3⟩ => ?_
    have et : s.items.take (i + 1) = s.items.take i ++ [w] := by rw [List.take_succ, hi]; rfl
    subst q1
    cases hp : p w with
    | false =>
      simp only [Bool.false_eq_true, if_false]
      refine ⟨j1.trans q2, pre_at q2 j2, ?_⟩
      rw [et, List.filter_append, List.map_append, ← j3]
      simp [hp]
    | true =>
      simp only [if_true]
      refine Wp.imp (q3 hp) fun y S4 ⟨q4, q5⟩ => ?_
      subst q4
      have a4 := pre_at q5 j2
      refine ⟨a4, pre_set (j1.trans q5) (Nat.le_refl _), at_set a4, ?_⟩
      rw [et, List.filter_append, List.map_append, ← j3]
      simp [hp]
  · obtain ⟨j1, j2, j3⟩ := j
    rw [List.take_length] at j3
    subst j3
    exact fin S' S1.length (h1.trans j1) hle j2
/-- .. without a condition -/
theorem wp_lcM (items : List W) (f : W → W) (hl : items.length ≤ sizeLine) (hsrc : Wp (src ρ) S fun s S1 => S <+: S1 ∧ s.items = items ∧ ∀ S', S1 <+: S' → s.chk S')
    (step : ∀ w ∈ items, ∀ S', S <+: S' → Wp (t w (wipeR ρ vs)) S' fun ρ1 S1 => S' <+: S1 ∧ Wp (e ρ1) S1 fun y S3 => y = f w ∧ S' <+: S3)
    (fin : ∀ S' l, S <+: S' → S.length ≤ l → S'[l]? = some (.lst (items.map f)) → P (.ref l) S') : Wp (eLc src t cYes e vs ρ) S P := by
  refine wp_lcP items (fun _ => true) f hl hsrc (fun w hw S' hS => Wp.imp (step w hw S' hS) fun ρ1 S1 q => ?_) fun S' l h1 h2 h3 => fin S' l h1 h2 (by rw [h3, List.filter_eq_self.mpr (fun _ _ => rfl)])
  exact ⟨rfl, q.1, fun _ => q.2⟩
end
section
variable {S : Store} {P : W → Store → Prop} {l : Nat} {ws : List W}
theorem asBls_map {A : Type} (g : A → Bool) : ∀ xs : List A, asBls (xs.map fun x => W.bl (g x)) = some (xs.map g)
  | [] => rfl
  | x :: xs => by
    show (asBls (xs.map fun x => W.bl (g x))).map (g x :: ·) = _
    rw [asBls_map g xs]
    rfl
theorem asInts_map {A : Type} (g : A → Int) : ∀ xs : List A, asInts (xs.map fun x => W.int (g x)) = some (xs.map g)
  | [] => rfl
  | x :: xs => by
    show (asInts (xs.map fun x => W.int (g x))).map (g x :: ·) = _
    rw [asInts_map g xs]
    rfl
theorem wp_all {A : Type} {xs : List A} {g : A → Bool} (h : S[l]? = some (.lst (xs.map fun x => W.bl (g x)))) : Wp (gAll [.ref l]) S P = P (.bl (xs.all g)) S := by
  have e : gAll [.ref l] S = .ok (.bl (xs.all g)) S := by
    show (match rdL S l with | some us => (match asBls us with | some bs => Rs.ok (W.bl (bs.all _root_.id)) S | none => .stuck) | none => .stuck) = _
    rw [rdL_of h]
    dsimp only
    rw [asBls_map]
    dsimp only
    rw [List.all_map]
    rfl
  unfold Wp
  rw [e]
theorem wp_sum {A : Type} {xs : List A} {g : A → Int} (h : S[l]? = some (.lst (xs.map fun x => W.int (g x)))) : Wp (gSum [.ref l]) S P = P (.int (xs.map g).sum) S := by
  have e : gSum [.ref l] S = .ok (.int (xs.map g).sum) S := by
    show (match rdL S l with | some us => (match asInts us with | some bs => Rs.ok (W.int bs.sum) S | none => .stuck) | none => .stuck) = _
    rw [rdL_of h]
    dsimp only
    rw [asInts_map]
  unfold Wp
  rw [e]
end
/-! ### exceptions -/
def Wx {A : Type} (m : M A) (S : Store) (E : W → Store → Prop) : Prop := match m S with
  | .raise e S' => E e S'
  | _ => False
section
variable {A B : Type} {m : M A} {S : Store} {E : W → Store → Prop}
theorem wx_get (h : Wx m S E) : ∃ e S', m S = .raise e S' ∧ E e S' := by
  unfold Wx at h
  cases q : m S with
  | stuck => rw [q] at h; exact h.elim
  | ok a S' => rw [q] at h; exact h.elim
  | raise e S' => rw [q] at h; exact ⟨e, S', rfl, h⟩
theorem wx_of {e : W} {S' : Store} (q : m S = .raise e S') (h : E e S') : Wx m S E := by
  unfold Wx
  rw [q]
  exact h
theorem wx_left {k : A → M B} (h : Wx m S E) : Wx (m >>= k) S E := by
  obtain ⟨e, S', q, r⟩ := wx_get h
  exact wx_of (bind_raise q) r
theorem wx_right {k : A → M B} (h : Wp m S fun a S' => Wx (k a) S' E) : Wx (m >>= k) S E := by
  obtain ⟨a, S', q, r⟩ := wp_get h
  obtain ⟨e, S2, q2, r2⟩ := wx_get r
  exact wx_of ((bind_ok q).trans q2) r2
theorem wx_fn {n : Nat} {b : St1} {ws : List W} (h : Wx (b (ws.map some ++ List.replicate (n - ws.length) none)) S E) : Wx (fnM n b ws) S E := wx_left h
theorem wx_seq1 {a b : St1} {ρ : Rho} (h : Wx (a ρ) S E) : Wx (sSeq a b ρ) S E := wx_left h
theorem wx_seq2 {a b : St1} {ρ : Rho} (h : Ws (a ρ) S fun f ρ1 S1 => f = .nx ∧ Wx (b ρ1) S1 E) : Wx (sSeq a b ρ) S E := by
  refine wx_right (Wp.imp h fun r S1 q => ?_)
  obtain ⟨f, ρ1⟩ := r
  obtain ⟨q1, q2⟩ := q
  cases q1
  exact q2
theorem wx_if1 {c : Rho → M Bool} {a b : St1} {ρ : Rho} (h : Wp (c ρ) S fun x S1 => x = true ∧ Wx (a ρ) S1 E) : Wx (sIf c a b ρ) S E := by
  refine wx_right (Wp.imp h fun x S1 q => ?_)
  rw [if_pos q.1]
  exact q.2
theorem wx_raise {c : Str} {ρ : Rho} (h : E (.exc c) S) : Wx (sRaise c ρ) S E := h
/-- caught -/
theorem wp_caught {sub : Str → Option Bool} {mb : Rho → M W} {ρ : Rho} {P : W → Store → Prop} {c : Str} (hs : sub c = some true) (h : Wx (mb ρ) S fun e S' => e = .exc c ∧ P (.exc c) S') : Wp (eCaught sub mb ρ) S P := by
  obtain ⟨e, S', q, rfl, r⟩ := wx_get h
  refine wp_ok (a := .exc c) (S' := S') ?_ r
  unfold eCaught
  rw [q]
  dsimp only
  rw [hs]
theorem wp_isC {sub : Str → Option Bool} {c : Str} {b : Bool} {P : W → Store → Prop} (h : sub c = some b) : Wp (gIsC sub (.exc c)) S P = P (.bl b) S := by
  have e : gIsC sub (.exc c) S = .ok (.bl b) S := by
    show (match sub c with | some b => Rs.ok (W.bl b) S | none => .stuck) = _
    rw [h]
  unfold Wp
  rw [e]
end
end Mi

set_option maxHeartbeats 1000000
/-! Mi, reasoning: data that are compared, dicts. -/
namespace Mi
open PySem PySem.Spec PyProof.Rows L2
theorem allSome_map {A B C : Type} {f : A → Option C} {h : B → A} {g : B → C} : ∀ {xs : List B}, (∀ x ∈ xs, f (h x) = some (g x)) → allSome ((xs.map h).map f) = some (xs.map g)
  | [], _ => rfl
  | x :: xs, q => by
    have ih := allSome_map (f := f) (h := h) (g := g) (xs := xs) fun y hy => q y (List.mem_cons_of_mem _ hy)
    have e : (((x :: xs).map h).map f) = f (h x) :: (xs.map h).map f := rfl
    rw [e, q x List.mem_cons_self]
    show (allSome ((xs.map h).map f)).map (g x :: ·) = _
    rw [ih]
    rfl
theorem layAll_map {B : Type} {g : B → PyData} : ∀ {xs : List B}, (∀ x ∈ xs, (g x).canLay0 = true) → PyData.canLayAll0 (xs.map g) = true
  | [], _ => by simp [PyData.canLayAll0]
  | x :: xs, q => by
    simp only [List.map_cons, PyData.canLayAll0, q x List.mem_cons_self, layAll_map (g := g) fun y hy => q y (List.mem_cons_of_mem _ hy), Bool.and_self]
theorem depAll_map {B : Type} {g : B → PyData} {n : Nat} : ∀ {xs : List B}, (∀ x ∈ xs, (g x).depth ≤ n) → PyData.depthAll (xs.map g) ≤ n
  | [], _ => by simp [PyData.depthAll]
  | x :: xs, q => by
    simp only [List.map_cons, PyData.depthAll]
    exact Nat.max_le.mpr ⟨q x List.mem_cons_self, depAll_map (g := g) fun y hy => q y (List.mem_cons_of_mem _ hy)⟩
/-- the value reads as these data, and they may be compared -/
structure Dat (S : Store) (n : Nat) (w : W) (d : PyData) : Prop where
  rd : dataW n S w = some d
  lay : d.canLay0 = true
  dep : d.depth ≤ n
theorem dat_int {S : Store} {n : Nat} {i : Int} : Dat S n (.int i) (.int i) := ⟨by cases n <;> rfl, by simp [PyData.canLay0], by simp [PyData.depth]⟩
theorem dat_tup {S : Store} {n : Nat} {B : Type} {xs : List B} {f : B → W} {g : B → PyData} (h : ∀ x ∈ xs, Dat S n (f x) (g x)) : Dat S (n + 1) (.tup (xs.map f)) (.tuple (xs.map g)) := by
  refine ⟨?_, ?_, ?_⟩
  · show (allSome ((xs.map f).map (dataW n S))).map PyData.tuple = _
    rw [allSome_map (g := g) fun x hx => (h x hx).rd]
    rfl
  · simp only [PyData.canLay0]
    exact layAll_map fun x hx => (h x hx).lay
  · simp only [PyData.depth]
    have := depAll_map (g := g) fun x hx => (h x hx).dep
    omega
theorem dat_tup2 {S : Store} {n : Nat} {a b : W} {d e : PyData} (h1 : Dat S n a d) (h2 : Dat S n b e) : Dat S (n + 1) (.tup [a, b]) (.tuple [d, e]) := by
  have q := dat_tup (S := S) (n := n) (xs := [(a, d), (b, e)]) (f := fun p => p.1) (g := fun p => p.2) fun x hx => by
    rcases List.mem_cons.mp hx with rfl | hx
    · exact h1
    · rw [List.mem_singleton.mp hx]
      exact h2
  exact q
theorem dat_lst {S : Store} {n l : Nat} {B : Type} {xs : List B} {f : B → W} {g : B → PyData} (hl : rdL S l = some (xs.map f)) (h : ∀ x ∈ xs, Dat S n (f x) (g x)) : Dat S (n + 1) (.ref l) (.list (xs.map g)) := by
  refine ⟨?_, ?_, ?_⟩
  · show (match rdL S l with | some ws => (allSome (ws.map (dataW n S))).map PyData.list | none => none) = _
    rw [hl]
    dsimp only
    rw [allSome_map (g := g) fun x hx => (h x hx).rd]
    rfl
  · simp only [PyData.canLay0]
    exact layAll_map fun x hx => (h x hx).lay
  · simp only [PyData.depth]
    have := depAll_map (g := g) fun x hx => (h x hx).dep
    omega
theorem Dat.shaped {S : Store} {w : W} {d : PyData} (h : Dat S 8 w d) : SeqAt.shaped d = true := by
  unfold SeqAt.shaped
  rw [h.lay, decide_eq_true (Nat.le_trans h.dep (by decide))]
  rfl
theorem wp_eqD {S : Store} {neg : Bool} {x y : W} {d e : PyData} {P : W → Store → Prop} (hx : Dat S 8 x d) (hy : Dat S 8 y e) : Wp (gEqB neg x y) S P = P (.bl (if neg = true then !PyData.eqv d e else PyData.eqv d e)) S := by
  have q : gEqB neg x y S = .ok (.bl (if neg = true then !PyData.eqv d e else PyData.eqv d e)) S := by
    have e0 : gEqB neg x y S = match dataW deepN S x, dataW deepN S y with
      | some d, some e => if SeqAt.shaped d = true ∧ SeqAt.shaped e = true then .ok (.bl (if neg = true then !PyData.eqv d e else PyData.eqv d e)) S else .stuck
      | _, _ => .stuck := rfl
    rw [e0, show dataW deepN S x = some d from hx.rd, show dataW deepN S y = some e from hy.rd]
    exact if_pos ⟨hx.shaped, hy.shaped⟩
  unfold Wp
  rw [q]
theorem Dat.up {S : Store} {n : Nat} {w : W} {d : PyData} (h : Dat S n w d) (hn : dataW (n + 1) S w = some d) : Dat S (n + 1) w d := ⟨hn, h.lay, Nat.le_succ_of_le h.dep⟩
/-- one datum is itself -/
theorem eqv_same {S : Store} {n : Nat} {w : W} {d : PyData} (h : Dat S n w d) : PyData.eqv d d = true := SeqAt.eqv_refl d h.lay
theorem wp_putD {S : Store} {l : Nat} {kvs : List (Key × W)} {k : Key} {y z : W} {P : Unit → Store → Prop} (h : S[l]? = some (.dk kvs)) (hk : keyW y = some k) (hl : kvs.length < sizeLine) : Wp (putD (.ref l) y z) S P = P () (S.set l (.dk (putW kvs k z))) := by
  have e : putD (.ref l) y z S = .ok () (S.set l (.dk (putW kvs k z))) := by
    have e0 : putD (.ref l) y z S = match W.ref l, keyW y with
      | .ref l, some k => match rdD S l with
        | some kvs => if kvs.length < sizeLine then .ok () (S.set l (.dk (putW kvs k z))) else .stuck
        | none => .stuck
      | _, _ => .stuck := rfl
    rw [e0, hk]
    dsimp only
    rw [rdD_of h]
    exact if_pos hl
  unfold Wp
  rw [e]
end Mi

set_option maxHeartbeats 1000000
/-! K46, the arithmetic: chains of divisors by gcds of products. -/
namespace K46M
/-- the gcd of the products of k of the numbers -/
def Dl : Nat → List Nat → Nat
  | 0, _ => 1
  | _ + 1, [] => 0
  | k + 1, x :: xs => Nat.gcd (Dl (k + 1) xs) (x * Dl k xs)
theorem Dl_zero {l : List Nat} : Dl 0 l = 1 := by cases l <;> rfl
theorem Dl_two {k x y : Nat} {l : List Nat} : Dl (k + 2) (x :: y :: l) = Nat.gcd (Dl (k + 2) l) (Nat.gcd (Nat.gcd x y * Dl (k + 1) l) (x * y * Dl k l)) := by
  show Nat.gcd (Nat.gcd (Dl (k + 2) l) (y * Dl (k + 1) l)) (x * Nat.gcd (Dl (k + 1) l) (y * Dl k l)) = _
  rw [← Nat.gcd_mul_left, Nat.gcd_assoc, ← Nat.gcd_assoc (y * _), ← Nat.gcd_mul_right, Nat.gcd_comm (y * _), Nat.mul_assoc]
theorem Dl_two1 {x y : Nat} {l : List Nat} : Dl 1 (x :: y :: l) = Nat.gcd (Dl 1 l) (Nat.gcd x y) := by
  show Nat.gcd (Nat.gcd (Dl 1 l) (y * Dl 0 l)) (x * Dl 0 (y :: l)) = _
  rw [Dl_zero, Dl_zero, Nat.mul_one, Nat.mul_one, Nat.gcd_assoc, Nat.gcd_comm y x]
theorem Dl_swap (k x y : Nat) (l : List Nat) : Dl k (x :: y :: l) = Dl k (y :: x :: l) := by
  match k with
  | 0 => rfl
  | 1 => rw [Dl_two1, Dl_two1, Nat.gcd_comm x y]
  | k + 2 => rw [Dl_two, Dl_two, Nat.gcd_comm x y, Nat.mul_comm x y]
theorem gcd_gl (x y : Nat) : Nat.gcd (Nat.gcd x y) (Nat.lcm x y) = Nat.gcd x y := Nat.gcd_eq_left (Nat.dvd_trans (Nat.gcd_dvd_left x y) (Nat.dvd_lcm_left x y))
theorem Dl_gl (k x y : Nat) (l : List Nat) : Dl k (Nat.gcd x y :: Nat.lcm x y :: l) = Dl k (x :: y :: l) := by
  match k with
  | 0 => rfl
  | 1 => rw [Dl_two1, Dl_two1, gcd_gl]
  | k + 2 => rw [Dl_two, Dl_two, gcd_gl, Nat.gcd_mul_lcm]
theorem Dl_cong {l m : List Nat} (h : ∀ k, Dl k l = Dl k m) (x k : Nat) : Dl k (x :: l) = Dl k (x :: m) := by
  match k with
  | 0 => rfl
  | k + 1 =>
    show Nat.gcd (Dl (k + 1) l) (x * Dl k l) = Nat.gcd (Dl (k + 1) m) (x * Dl k m)
    rw [h, h]
theorem Dl_perm {l m : List Nat} (p : l.Perm m) : ∀ k, Dl k l = Dl k m := by
  induction p with
  | nil => exact fun _ => rfl
  | cons x p ih => exact fun k => Dl_cong ih x k
  | swap x y l => exact fun k => Dl_swap k y x l
  | trans p q ih1 ih2 => exact fun k => (ih1 k).trans (ih2 k)
theorem Dl_tail {k x : Nat} {l : List Nat} : Dl k (x :: l) ∣ Dl k l := by
  cases k with
  | zero => rw [Dl_zero, Dl_zero]; exact Nat.dvd_refl 1
  | succ k => exact Nat.gcd_dvd_left _ _
theorem Dl_dv {x : Nat} : ∀ {l : List Nat} (k : Nat), (∀ y ∈ l, x ∣ y) → x * Dl k l ∣ Dl (k + 1) l
  | [], k, _ => Nat.dvd_zero _
  | y :: ys, k, h => by
    refine Nat.dvd_gcd ?_ ?_
    · exact Nat.dvd_trans (Nat.mul_dvd_mul (Nat.dvd_refl x) Dl_tail) (Dl_dv k fun z hz => h z (List.mem_cons_of_mem _ hz))
    · exact Nat.mul_dvd_mul (h y List.mem_cons_self) Dl_tail
theorem Dl_head {x k : Nat} {l : List Nat} (h : ∀ y ∈ l, x ∣ y) : Dl (k + 1) (x :: l) = x * Dl k l := by
  show Nat.gcd (Dl (k + 1) l) (x * Dl k l) = _
  exact Nat.gcd_eq_right (Dl_dv k h)
theorem Dl_big : ∀ {l : List Nat} {k : Nat}, l.length < k → Dl k l = 0
  | [], k + 1, _ => rfl
  | x :: l, k + 1, h => by
    show Nat.gcd (Dl (k + 1) l) (x * Dl k l) = 0
    rw [Dl_big (by simp at h; omega), Dl_big (by simp at h; omega)]
    simp

/-! ### numbers apart from ones -/
def T (l : List Nat) (j : Nat) : Nat := Dl (l.length - j) l
theorem T_perm {l m : List Nat} (p : l.Perm m) : T l = T m := by
  funext j
  unfold T
  rw [p.length_eq, Dl_perm p]
theorem T_one {l : List Nat} : T (1 :: l) = T l := by
  funext j
  unfold T
  by_cases h : j ≤ l.length
  · have e : (1 :: l).length - j = (l.length - j) + 1 := by simp; omega
    rw [e, Dl_head (fun y _ => Nat.one_dvd y), Nat.one_mul]
  · have e : (1 :: l).length - j = 0 := by simp; omega
    have e2 : l.length - j = 0 := by omega
    rw [e, e2, Dl_zero, Dl_zero]
theorem T_ones : ∀ {o l : List Nat}, (∀ x ∈ o, x = 1) → T (o ++ l) = T l
  | [], _, _ => rfl
  | x :: o, l, h => by
    rw [h x List.mem_cons_self]
    exact T_one.trans (T_ones fun z hz => h z (List.mem_cons_of_mem _ hz))
theorem T_filter {l : List Nat} (h : ∀ x ∈ l, 0 < x) : T (l.filter fun x => decide (1 < x)) = T l := by
  have p := List.filter_append_perm (fun x => decide (1 < x)) l
  rw [← T_perm p, T_perm List.perm_append_comm]
  refine (T_ones fun x hx => ?_).symm
  obtain ⟨h1, h2⟩ := List.mem_filter.mp hx
  have := h x h1
  simp at h2
  omega
theorem T_cong {l m : List Nat} (x : Nat) (h : T l = T m) : T (x :: l) = T (x :: m) := by
  have key : ∀ {l m : List Nat}, l.length ≤ m.length → T l = T m → T (x :: l) = T (x :: m) := fun {l m} hl h => by
    obtain ⟨o, eo⟩ : ∃ o, o = List.replicate (m.length - l.length) 1 := ⟨_, rfl⟩
    have ho : ∀ y ∈ o, y = 1 := fun y hy => by rw [eo] at hy; exact (List.mem_replicate.mp hy).2
    have hlen : (o ++ l).length = m.length := by rw [eo]; simp; omega
    have hT : T (o ++ l) = T m := (T_ones ho).trans h
    have hD : ∀ k, Dl k (o ++ l) = Dl k m := fun k => by
      by_cases hk : k ≤ m.length
      · have := congrFun hT (m.length - k)
        unfold T at this
        rw [hlen, show m.length - (m.length - k) = k from by omega] at this
        exact this
      · rw [Dl_big (by omega), Dl_big (by omega)]
    have e1 : T (x :: (o ++ l)) = T (x :: m) := by
      funext j
      unfold T
      rw [show (x :: (o ++ l)).length = (x :: m).length from by simp at hlen ⊢; omega]
      exact Dl_cong hD x _
    rw [← e1, T_perm (show (x :: (o ++ l)).Perm (o ++ x :: l) from List.perm_middle.symm), T_ones ho]
  rcases Nat.le_total l.length m.length with q | q
  · exact key q h
  · exact (key q h.symm).symm
theorem T_app {l m : List Nat} (h : T l = T m) : ∀ a : List Nat, T (a ++ l) = T (a ++ m)
  | [] => h
  | x :: a => T_cong x (T_app h a)

/-! ### chains -/
abbrev Up (l : List Nat) : Prop := l.Pairwise (· ∣ ·)
theorem up_pos : ∀ {l : List Nat} {k : Nat}, Up l → (∀ x ∈ l, 1 < x) → k ≤ l.length → 0 < Dl k l
  | _, 0, _, _, _ => by rw [Dl_zero]; omega
  | x :: l, k + 1, h, hx, hk => by
    have h := List.pairwise_cons.mp h
    rw [Dl_head h.1]
    exact Nat.mul_pos (by have := hx x List.mem_cons_self; omega) (up_pos h.2 (fun y hy => hx y (List.mem_cons_of_mem _ hy)) (by simp at hk; omega))
theorem up_gt {x k : Nat} {l : List Nat} (h : Up (x :: l)) (hx : ∀ y ∈ x :: l, 1 < y) (hk : k ≤ l.length) : 1 < Dl (k + 1) (x :: l) := by
  have h := List.pairwise_cons.mp h
  rw [Dl_head h.1]
  have h1 := up_pos h.2 (fun y hy => hx y (List.mem_cons_of_mem _ hy)) hk
  have h2 := hx x List.mem_cons_self
  exact Nat.lt_of_lt_of_le h2 (Nat.le_mul_of_pos_right x h1)
theorem up_len {l m : List Nat} (h2 : Up m) (g2 : ∀ x ∈ m, 1 < x) (h : T l = T m) : ¬ l.length < m.length := fun lt => by
  have e := congrFun h l.length
  unfold T at e
  rw [Nat.sub_self, Dl_zero] at e
  cases m with
  | nil => simp at lt
  | cons y m =>
    have hk : (y :: m).length - l.length = (m.length - l.length) + 1 := by simp at lt ⊢; omega
    rw [hk] at e
    have := up_gt h2 g2 (k := m.length - l.length) (by omega)
    omega
theorem up_same : ∀ {l m : List Nat}, l.length = m.length → Up l → Up m → (∀ x ∈ l, 1 < x) → (∀ k, k ≤ l.length → Dl k l = Dl k m) → l = m
  | [], [], _, _, _, _, _ => rfl
  | x :: l, y :: m, hl, h1, h2, g, hD => by
    have h1 := List.pairwise_cons.mp h1
    have h2 := List.pairwise_cons.mp h2
    have e1 := hD 1 (by simp)
    rw [Dl_head h1.1, Dl_head h2.1, Dl_zero, Dl_zero, Nat.mul_one, Nat.mul_one] at e1
    subst e1
    refine congrArg (x :: ·) (up_same (by simpa using hl) h1.2 h2.2 (fun z hz => g z (List.mem_cons_of_mem _ hz)) fun k hk => ?_)
    have e2 := hD (k + 1) (by simp; omega)
    rw [Dl_head h1.1, Dl_head h2.1] at e2
    exact Nat.eq_of_mul_eq_mul_left (by have := g x List.mem_cons_self; omega) e2
theorem up_uniq {l m : List Nat} (h1 : Up l) (h2 : Up m) (g1 : ∀ x ∈ l, 1 < x) (g2 : ∀ x ∈ m, 1 < x) (h : T l = T m) : l = m := by
  have e : l.length = m.length := by
    have a := up_len h2 g2 h
    have b := up_len h1 g1 h.symm
    omega
  refine up_same e h1 h2 g1 fun k hk => ?_
  have := congrFun h (l.length - k)
  unfold T at this
  rw [← e, show l.length - (l.length - k) = k from by omega] at this
  exact this

/-! ### the library's way: numbers put into a falling chain -/
def ins : List Nat → Nat → List Nat × Nat
  | [], n => ([], n)
  | c :: cs, n => (Nat.lcm c n :: (ins cs (Nat.gcd c n)).1, (ins cs (Nat.gcd c n)).2)
theorem ins_len : ∀ (c : List Nat) (n : Nat), (ins c n).1.length = c.length
  | [], _ => rfl
  | c :: cs, n => by
    show (ins cs _).1.length + 1 = _
    rw [ins_len cs]
    rfl
theorem ins_D : ∀ (c : List Nat) (n k : Nat), Dl k ((ins c n).2 :: (ins c n).1) = Dl k (n :: c)
  | [], _, _ => rfl
  | c :: cs, n, k => by
    show Dl k ((ins cs (Nat.gcd c n)).2 :: Nat.lcm c n :: (ins cs (Nat.gcd c n)).1) = _
    exact (Dl_swap k _ _ _).trans ((Dl_cong (ins_D cs (Nat.gcd c n)) (Nat.lcm c n) k).trans ((Dl_swap k _ _ _).trans ((Dl_gl k c n cs).trans (Dl_swap k _ _ _))))
theorem ins_dvd {B : Nat} : ∀ (c : List Nat) (n : Nat), (∀ x ∈ c, x ∣ B) → n ∣ B → (∀ x ∈ (ins c n).1, x ∣ B) ∧ (ins c n).2 ∣ n
  | [], n, _, h => ⟨fun x hx => by simp [ins] at hx, Nat.dvd_refl n⟩
  | c :: cs, n, hc, h => by
    have hcB := hc c List.mem_cons_self
    obtain ⟨h1, h2⟩ := ins_dvd cs (Nat.gcd c n) (fun x hx => hc x (List.mem_cons_of_mem _ hx)) (Nat.dvd_trans (Nat.gcd_dvd_left c n) hcB)
    refine ⟨fun x hx => ?_, Nat.dvd_trans h2 (Nat.gcd_dvd_right c n)⟩
    rcases List.mem_cons.mp hx with e | e
    · rw [e]
      exact Nat.lcm_dvd hcB h
    · exact h1 x e
abbrev Dn (l : List Nat) : Prop := l.Pairwise (fun a b => b ∣ a)
theorem ins_chain : ∀ (c : List Nat) (n : Nat), Dn c → Dn (ins c n).1 ∧ ∀ x ∈ (ins c n).1, (ins c n).2 ∣ x
  | [], n, _ => ⟨List.Pairwise.nil, fun x hx => by simp [ins] at hx⟩
  | c :: cs, n, h => by
    have h := List.pairwise_cons.mp h
    obtain ⟨h1, h2⟩ := ins_chain cs (Nat.gcd c n) h.2
    obtain ⟨h3, h4⟩ := ins_dvd (B := Nat.lcm c n) cs (Nat.gcd c n) (fun x hx => Nat.dvd_trans (h.1 x hx) (Nat.dvd_lcm_left c n)) (Nat.dvd_trans (Nat.gcd_dvd_left c n) (Nat.dvd_lcm_left c n))
    refine ⟨List.pairwise_cons.mpr ⟨h3, h1⟩, fun x hx => ?_⟩
    rcases List.mem_cons.mp hx with e | e
    · rw [e]
      exact Nat.dvd_trans h4 (Nat.dvd_trans (Nat.gcd_dvd_left c n) (Nat.dvd_lcm_left c n))
    · exact h2 x e
theorem ins_pos : ∀ (c : List Nat) (n : Nat), (∀ x ∈ c, 1 < x) → 0 < n → (∀ x ∈ (ins c n).1, 1 < x) ∧ 0 < (ins c n).2
  | [], n, _, h => ⟨fun x hx => by simp [ins] at hx, h⟩
  | c :: cs, n, hc, h => by
    have h0 := hc c List.mem_cons_self
    obtain ⟨h1, h2⟩ := ins_pos cs (Nat.gcd c n) (fun x hx => hc x (List.mem_cons_of_mem _ hx)) (Nat.gcd_pos_of_pos_right c h)
    refine ⟨fun x hx => ?_, h2⟩
    rcases List.mem_cons.mp hx with e | e
    · rw [e]
      exact Nat.lt_of_lt_of_le h0 (Nat.le_of_dvd (Nat.lcm_pos (by omega) h) (Nat.dvd_lcm_left c n))
    · exact h1 x e
def join1 (c : List Nat) (n : Nat) : List Nat := if 1 < (ins c n).2 then (ins c n).1 ++ [(ins c n).2] else (ins c n).1
def joinL (l : List Nat) : List Nat := l.foldl join1 []
/-- what a chain in the making is -/
structure Fine (c : List Nat) (l : List Nat) : Prop where
  dn : Dn c
  gt : ∀ x ∈ c, 1 < x
  same : T c = T l
theorem T_ins {c : List Nat} {n : Nat} : T ((ins c n).2 :: (ins c n).1) = T (n :: c) := by
  funext j
  unfold T
  rw [show ((ins c n).2 :: (ins c n).1).length = (n :: c).length from by simp [ins_len]]
  exact ins_D c n _
theorem join1_fine {c l : List Nat} {n : Nat} (h : Fine c l) (hn : 0 < n) : Fine (join1 c n) (n :: l) := by
  obtain ⟨h1, h2⟩ := ins_chain c n h.dn
  obtain ⟨h3, h4⟩ := ins_pos c n h.gt hn
  have e := (T_ins (c := c) (n := n)).trans (T_cong n h.same)
  unfold join1
  split
  · rename_i g
    refine ⟨List.pairwise_append.mpr ⟨h1, List.pairwise_singleton _ _, fun a ha b hb => ?_⟩, fun x hx => ?_, ?_⟩
    · rw [List.mem_singleton.mp hb]
      exact h2 a ha
    · rcases List.mem_append.mp hx with q | q
      · exact h3 x q
      · rw [List.mem_singleton.mp q]
        exact g
    · rw [← e]
      exact T_perm List.perm_append_comm
  · rename_i g
    refine ⟨h1, h3, ?_⟩
    have e1 : (ins c n).2 = 1 := by omega
    rw [← e, e1, T_one]
theorem foldl_fine : ∀ (l : List Nat) {c m : List Nat}, Fine c m → (∀ x ∈ l, 0 < x) → Fine (l.foldl join1 c) (l ++ m)
  | [], _, _, h, _ => h
  | x :: l, c, m, h, hp => by
    have q := foldl_fine l (join1_fine h (hp x List.mem_cons_self)) fun y hy => hp y (List.mem_cons_of_mem _ hy)
    refine ⟨q.dn, q.gt, q.same.trans (T_perm ?_)⟩
    exact List.perm_middle
theorem joinL_fine {l : List Nat} (h : ∀ x ∈ l, 0 < x) : Fine (joinL l) l := by
  have q := foldl_fine l (c := []) (m := []) ⟨List.Pairwise.nil, fun x hx => by simp at hx, rfl⟩ h
  rw [List.append_nil] at q
  exact q
theorem joinL_up {l : List Nat} (h : ∀ x ∈ l, 0 < x) : Up (joinL l).reverse ∧ (∀ x ∈ (joinL l).reverse, 1 < x) ∧ T (joinL l).reverse = T l := by
  have q := joinL_fine h
  exact ⟨List.pairwise_reverse.mpr q.dn, fun x hx => q.gt x (List.mem_reverse.mp hx), (T_perm (List.reverse_perm _)).trans q.same⟩
/-- the numbers alone count, up to what T sees -/
theorem joinL_eq {l m : List Nat} (hl : ∀ x ∈ l, 0 < x) (hm : ∀ x ∈ m, 0 < x) (h : T l = T m) : (joinL l).reverse = (joinL m).reverse := by
  obtain ⟨a1, a2, a3⟩ := joinL_up hl
  obtain ⟨b1, b2, b3⟩ := joinL_up hm
  exact up_uniq a1 b1 a2 b2 (a3.trans (h.trans b3.symm))
theorem joinL_of_up {l m : List Nat} (hm : ∀ x ∈ m, 0 < x) (h1 : Up l) (h2 : ∀ x ∈ l, 1 < x) (h : T l = T m) : (joinL m).reverse = l := by
  obtain ⟨b1, b2, b3⟩ := joinL_up hm
  exact up_uniq b1 h1 b2 h2 (b3.trans h.symm)
theorem joinL_len : ∀ {l c : List Nat}, (l.foldl join1 c).length ≤ c.length + l.length
  | [], c => by simp
  | x :: l, c => by
    have h := joinL_len (l := l) (c := join1 c x)
    have h2 : (join1 c x).length ≤ c.length + 1 := by
      unfold join1
      split <;> simp [ins_len]
    simp only [List.foldl_cons, List.length_cons]
    omega
/-- each number of the chain divides what each given number divides -/
theorem joinL_dvd {B : Nat} : ∀ {l c : List Nat}, (∀ x ∈ c, x ∣ B) → (∀ x ∈ l, x ∣ B) → ∀ x ∈ l.foldl join1 c, x ∣ B
  | [], _, hc, _ => hc
  | n :: l, c, hc, hl => by
    refine joinL_dvd (l := l) (c := join1 c n) (fun x hx => ?_) fun x hx => hl x (List.mem_cons_of_mem _ hx)
    obtain ⟨h1, h2⟩ := ins_dvd c n hc (hl n List.mem_cons_self)
    unfold join1 at hx
    split at hx
    · rcases List.mem_append.mp hx with q | q
      · exact h1 x q
      · rw [List.mem_singleton.mp q]
        exact Nat.dvd_trans h2 (hl n List.mem_cons_self)
    · exact h1 x hx
end K46M

set_option maxHeartbeats 1000000
/-! K46, the law's own way: pairs of numbers, the longest Euclid. -/
namespace K46M
/-! ### two places of a list -/
theorem set1_perm {A : Type} : ∀ {t : List A} {j : Nat} {y : A}, t[j]? = some y → ∃ r, t.Perm (y :: r) ∧ ∀ b, (t.set j b).Perm (b :: r)
  | [], _, _, h => by simp at h
  | z :: t, 0, y, h => by
    simp at h
    subst h
    exact ⟨t, List.Perm.refl _, fun b => List.Perm.refl _⟩
  | z :: t, j + 1, y, h => by
    obtain ⟨r, h1, h2⟩ := set1_perm (t := t) (j := j) (y := y) (by simpa using h)
    exact ⟨z :: r, (h1.cons z).trans (List.Perm.swap y z r), fun b => ((h2 b).cons z).trans (List.Perm.swap b z r)⟩
theorem set2_perm {A : Type} : ∀ {c : List A} {i j : Nat} {x y : A}, i < j → c[i]? = some x → c[j]? = some y → ∃ r, c.Perm (x :: y :: r) ∧ ∀ a b, ((c.set i a).set j b).Perm (a :: b :: r)
  | [], _, _, _, _, _, h, _ => by simp at h
  | z :: t, 0, 0, _, _, h, _, _ => by omega
  | z :: t, 0, j + 1, x, y, _, h1, h2 => by
    simp at h1
    subst h1
    obtain ⟨r, q1, q2⟩ := set1_perm (t := t) (j := j) (y := y) (by simpa using h2)
    exact ⟨r, q1.cons z, fun a b => (q2 b).cons a⟩
  | z :: t, i + 1, 0, _, _, h, _, _ => by omega
  | z :: t, i + 1, j + 1, x, y, hij, h1, h2 => by
    obtain ⟨r, q1, q2⟩ := set2_perm (c := t) (i := i) (j := j) (x := x) (y := y) (by omega) (by simpa using h1) (by simpa using h2)
    have mv : ∀ a b : A, (z :: a :: b :: r).Perm (a :: b :: z :: r) := fun a b => (List.Perm.swap a z (b :: r)).trans ((List.Perm.swap b z r).cons a)
    exact ⟨z :: r, (q1.cons z).trans (mv x y), fun a b => ((q2 a b).cons z).trans (mv a b)⟩
/-- the pairs below (i, j) are done -/
structure Tri (N : Nat) (c0 : List Nat) (i j : Nat) (c : List Nat) : Prop where
  len : c.length = c0.length
  same : ∀ k, Dl k c = Dl k c0
  pos : ∀ x ∈ c, 0 < x
  dv : ∀ x ∈ c, x ∣ N
  low : ∀ (p q x y : Nat), p < i → p < q → c[p]? = some x → c[q]? = some y → x ∣ y
  row : ∀ (q x y : Nat), i < q → q < j → c[i]? = some x → c[q]? = some y → x ∣ y
theorem tri_step {N : Nat} {c0 c : List Nat} {i j x y : Nat} (h : Tri N c0 i j c) (hij : i < j) (hx : c[i]? = some x) (hy : c[j]? = some y) : Tri N c0 i (j + 1) ((c.set i (Nat.gcd x y)).set j (Nat.lcm x y)) := by
  obtain ⟨r, p1, p2⟩ := set2_perm hij hx hy
  have hi := (List.getElem?_eq_some_iff.mp hx).1
  have hj := (List.getElem?_eq_some_iff.mp hy).1
  have px := h.pos x (List.mem_of_getElem? hx)
  have py := h.pos y (List.mem_of_getElem? hy)
  have at_ : ∀ q, ((c.set i (Nat.gcd x y)).set j (Nat.lcm x y))[q]? = if q = j then some (Nat.lcm x y) else if q = i then some (Nat.gcd x y) else c[q]? := fun q => by
    by_cases e1 : q = j
    · subst e1
      rw [if_pos rfl, List.getElem?_set_self (by simpa using hj)]
    · rw [if_neg e1, List.getElem?_set_ne (Ne.symm e1)]
      by_cases e2 : q = i
      · subst e2
        rw [if_pos rfl, List.getElem?_set_self hi]
      · rw [if_neg e2, List.getElem?_set_ne (Ne.symm e2)]
  have mem_ : ∀ z ∈ (c.set i (Nat.gcd x y)).set j (Nat.lcm x y), z = Nat.lcm x y ∨ z = Nat.gcd x y ∨ z ∈ c := fun z hz => by
    rcases List.mem_or_eq_of_mem_set hz with q | q
    · rcases List.mem_or_eq_of_mem_set q with q | q
      · exact .inr (.inr q)
      · exact .inr (.inl q)
    · exact .inl q
  refine ⟨by simp [h.len], fun k => ?_, fun z hz => ?_, fun z hz => ?_, fun p q u v hp hq eu ev => ?_, fun q u v hq hq2 eu ev => ?_⟩
  · rw [Dl_perm (p2 _ _), Dl_gl, ← Dl_perm p1]
    exact h.same k
  · rcases mem_ z hz with e | e | e
    · rw [e]; exact Nat.lcm_pos px py
    · rw [e]; exact Nat.gcd_pos_of_pos_left _ px
    · exact h.pos z e
  · rcases mem_ z hz with e | e | e
    · rw [e]; exact Nat.lcm_dvd (h.dv x (List.mem_of_getElem? hx)) (h.dv y (List.mem_of_getElem? hy))
    · rw [e]; exact Nat.dvd_trans (Nat.gcd_dvd_left x y) (h.dv x (List.mem_of_getElem? hx))
    · exact h.dv z e
  · rw [at_, if_neg (by omega), if_neg (by omega)] at eu
    rw [at_] at ev
    split at ev
    · cases ev
      exact Nat.dvd_trans (h.low p j u y hp (by omega) eu hy) (Nat.dvd_lcm_right x y)
    · split at ev
      · cases ev
        exact Nat.dvd_gcd (h.low p i u x hp (by omega) eu hx) (h.low p j u y hp (by omega) eu hy)
      · exact h.low p q u v hp hq eu ev
  · rw [at_, if_neg (by omega), if_pos rfl] at eu
    cases eu
    rw [at_] at ev
    split at ev
    · cases ev
      exact Nat.dvd_trans (Nat.gcd_dvd_left x y) (Nat.dvd_lcm_left x y)
    · rename_i nj
      split at ev
      · omega
      · exact Nat.dvd_trans (Nat.gcd_dvd_left x y) (h.row q x v hq (by omega) hx ev)
theorem tri_next {N : Nat} {c0 c : List Nat} {i : Nat} (h : Tri N c0 i c0.length c) (k : Nat) (hk : k ≤ i + 2) : Tri N c0 (i + 1) k c := by
  refine ⟨h.len, h.same, h.pos, h.dv, fun p q x y hp hq ex ey => ?_, fun q x y h1 h2 => by omega⟩
  by_cases e : p = i
  · subst e
    exact h.row q x y hq (by have := (List.getElem?_eq_some_iff.mp ey).1; rw [h.len] at this; omega) ex ey
  · exact h.low p q x y (by omega) hq ex ey
theorem tri_more {N : Nat} {c0 c : List Nat} {i j k : Nat} (h : Tri N c0 i j c) (hk : k ≤ i + 1) : Tri N c0 i k c := ⟨h.len, h.same, h.pos, h.dv, h.low, fun q x y h1 h2 => by omega⟩
theorem tri_up {N : Nat} {c0 c : List Nat} {j : Nat} (h : Tri N c0 c0.length j c) : Up c := by
  refine List.pairwise_iff_getElem.mpr fun p q hp hq hpq => ?_
  exact h.low p q c[p] c[q] (by rw [← h.len]; omega) hpq (by simp [hp]) (by simp [hq])
/-- the chain of the law -/
theorem tri_chain {N : Nat} {c0 c : List Nat} {j : Nat} (h : Tri N c0 c0.length j c) : Up (c.filter fun x => decide (1 < x)) ∧ (∀ x ∈ c.filter (fun x => decide (1 < x)), 1 < x) ∧ T (c.filter fun x => decide (1 < x)) = T c0 := by
  refine ⟨(tri_up h).filter _, fun x hx => by simpa using (List.mem_filter.mp hx).2, (T_filter h.pos).trans ?_⟩
  funext k
  unfold T
  rw [h.len]
  exact h.same _
/-- together, and the library's way -/
theorem tri_join {N : Nat} {c0 c : List Nat} {j : Nat} (h : Tri N c0 c0.length j c) (h0 : ∀ x ∈ c0, 0 < x) : (joinL c0).reverse = c.filter fun x => decide (1 < x) := by
  obtain ⟨h1, h2, h3⟩ := tri_chain h
  exact joinL_of_up h0 h1 h2 h3

/-! ### Euclid's laps -/
def fp : Nat → Nat × Nat
  | 0 => (0, 1)
  | n + 1 => ((fp n).2, (fp n).1 + (fp n).2)
def fib (n : Nat) : Nat := (fp n).1
theorem fib_two (n : Nat) : fib (n + 2) = fib n + fib (n + 1) := rfl
theorem fib_pos : ∀ n, 0 < fib (n + 1)
  | 0 => by decide
  | n + 1 => by
    rw [fib_two]
    have := fib_pos n
    omega
/-- n laps are enough -/
def Laps (n a b : Nat) : Prop := b < fib (n + 1) ∨ (0 < b ∧ a % b < fib n)
theorem laps_step {n a b : Nat} (h : Laps (n + 1) a b) (hb : 0 < b) : Laps n b (a % b) := by
  rcases h with h | h
  · by_cases q : a % b < fib (n + 1)
    · exact .inl q
    · have hr : 0 < a % b := by have := fib_pos n; omega
      refine .inr ⟨hr, ?_⟩
      have hlt := Nat.mod_lt a hb
      have e : b % (a % b) = (b - a % b) % (a % b) := Nat.mod_eq_sub_mod (Nat.le_of_lt hlt)
      have h2 : b % (a % b) ≤ b - a % b := by rw [e]; exact Nat.mod_le _ _
      have h3 : fib (n + 2) = fib n + fib (n + 1) := rfl
      have h4 : b < fib (n + 2) := h
      omega
  · exact .inl h.2
theorem laps_end {a b : Nat} (h : Laps 0 a b) : b = 0 := by
  rcases h with h | h
  · have : fib (0 + 1) = 1 := rfl
    omega
  · have : fib 0 = 0 := rfl
    omega
theorem fib_big : 2 ^ 230 < fib 401 := by decide +kernel
theorem laps_400 {a b : Nat} (h : b < 2 ^ 230) : Laps 400 a b := .inl (Nat.lt_trans h fib_big)
end K46M

set_option maxHeartbeats 2000000
/-! K46: the text in the words of Mi (printed by gen.py). -/
namespace K46
open PySem PySem.Spec PyProof.Rows L2 Mi
def top (i : Nat) : Stmt := PySem.Challenge.pw_skinswithin_k46_rings_with_lost_ones.main.body.getD i (.Pass ⟨0, 0, 0, 0⟩)
noncomputable section
def sub_SkinError : Str → Option Bool := subT [("BadLost", true), ("BadRings", true)]
def isc_BadLost : Str → Option Bool := subT [("BadLost", true), ("BadRings", false)]
def isc_BadRings : Str → Option Bool := subT [("BadLost", false), ("BadRings", true)]
structure Fx (K : PySem.W.Frag) (mg : Str → Option Value) : Prop where
  f_is_number : L2.Fun K "is_number" "is_number" (top 6) (He.ga K "is_number") (fdK K (He.ga K "is_number"))
  g_is_number : mg "is_number" = some (.ref (He.ga K "is_number"))
  f_is_between : L2.Fun K "is_between" "is_between" (top 7) (He.ga K "is_between") (fdK K (He.ga K "is_between"))
  g_is_between : mg "is_between" = some (.ref (He.ga K "is_between"))
  f_is_list : L2.Fun K "is_list" "is_list" (top 8) (He.ga K "is_list") (fdK K (He.ga K "is_list"))
  g_is_list : mg "is_list" = some (.ref (He.ga K "is_list"))
  f_is_tuple : L2.Fun K "is_tuple" "is_tuple" (top 9) (He.ga K "is_tuple") (fdK K (He.ga K "is_tuple"))
  g_is_tuple : mg "is_tuple" = some (.ref (He.ga K "is_tuple"))
  f_are_rings : L2.Fun K "are_rings" "are_rings" (top 12) (He.ga K "are_rings") (fdK K (He.ga K "are_rings"))
  g_are_rings : mg "are_rings" = some (.ref (He.ga K "are_rings"))
  f_joined_rings : L2.Fun K "joined_rings" "joined_rings" (top 13) (He.ga K "joined_rings") (fdK K (He.ga K "joined_rings"))
  g_joined_rings : mg "joined_rings" = some (.ref (He.ga K "joined_rings"))
  f_with_lost : L2.Fun K "with_lost" "with_lost" (top 14) (He.ga K "with_lost") (fdK K (He.ga K "with_lost"))
  g_with_lost : mg "with_lost" = some (.ref (He.ga K "with_lost"))
  f_rings_with : L2.Fun K "rings_with" "rings_with" (top 15) (He.ga K "rings_with") (fdK K (He.ga K "rings_with"))
  g_rings_with : mg "rings_with" = some (.ref (He.ga K "rings_with"))
  f__law_begun : L2.Fun K "_law_begun" "_law_begun" (top 17) (He.ga K "_law_begun") (fdK K (He.ga K "_law_begun"))
  g__law_begun : mg "_law_begun" = some (.ref (He.ga K "_law_begun"))
  f__law_mixed : L2.Fun K "_law_mixed" "_law_mixed" (top 18) (He.ga K "_law_mixed") (fdK K (He.ga K "_law_mixed"))
  g__law_mixed : mg "_law_mixed" = some (.ref (He.ga K "_law_mixed"))
  f__law_take : L2.Fun K "_law_take" "_law_take" (top 19) (He.ga K "_law_take") (fdK K (He.ga K "_law_take"))
  g__law_take : mg "_law_take" = some (.ref (He.ga K "_law_take"))
  f__law_pick : L2.Fun K "_law_pick" "_law_pick" (top 20) (He.ga K "_law_pick") (fdK K (He.ga K "_law_pick"))
  g__law_pick : mg "_law_pick" = some (.ref (He.ga K "_law_pick"))
  f__law_caught : L2.Fun K "_law_caught" "_law_caught" (top 21) (He.ga K "_law_caught") (fdK K (He.ga K "_law_caught"))
  g__law_caught : mg "_law_caught" = some (.ref (He.ga K "_law_caught"))
  f__law_shuffled : L2.Fun K "_law_shuffled" "_law_shuffled" (top 22) (He.ga K "_law_shuffled") (fdK K (He.ga K "_law_shuffled"))
  g__law_shuffled : mg "_law_shuffled" = some (.ref (He.ga K "_law_shuffled"))
  f__law_gcd : L2.Fun K "_law_gcd" "_law_gcd" (top 23) (He.ga K "_law_gcd") (fdK K (He.ga K "_law_gcd"))
  g__law_gcd : mg "_law_gcd" = some (.ref (He.ga K "_law_gcd"))
  f__law_together : L2.Fun K "_law_together" "_law_together" (top 24) (He.ga K "_law_together") (fdK K (He.ga K "_law_together"))
  g__law_together : mg "_law_together" = some (.ref (He.ga K "_law_together"))
  f__law_one : L2.Fun K "_law_one" "_law_one" (top 25) (He.ga K "_law_one") (fdK K (He.ga K "_law_one"))
  g__law_one : mg "_law_one" = some (.ref (He.ga K "_law_one"))
  f_law : L2.Fun K "law" "law" (top 26) (He.ga K "law") (fdK K (He.ga K "law"))
  g_law : mg "law" = some (.ref (He.ga K "law"))
  g_SkinError : mg "SkinError" = some (.ref (He.ga K "SkinError"))
  g_BadRings : mg "BadRings" = some (.ref (He.ga K "BadRings"))
  g_BadLost : mg "BadLost" = some (.ref (He.ga K "BadLost"))
  n_abs : mg "abs" = none
  n_all : mg "all" = none
  n_bool : mg "bool" = none
  n_int : mg "int" = none
  n_isinstance : mg "isinstance" = none
  n_len : mg "len" = none
  n_list : mg "list" = none
  n_min : mg "min" = none
  n_range : mg "range" = none
  n_repr : mg "repr" = none
  n_reversed : mg "reversed" = none
  n_sum : mg "sum" = none
  n_tuple : mg "tuple" = none
  n_zip : mg "zip" = none
  i_MOST_RINGS : ∃ t, mg "MOST_RINGS" = some (.int 60 t)
  b_gcd : mg "gcd" = some (.builtin "math.gcd")
  e_BadLost : PySem.W.excIn K (He.ga K "BadLost") He.veBase "ValueError.__new__" = true ∧ PySem.W.keepIn K (.ref (He.ga K "BadLost")) = true ∧ PySem.W.subIn K (.ref (He.ga K "BadLost")) (.type "BaseException") = some true ∧ PySem.W.typeIn K (.ref (He.ga K "BadLost")) = some (.type "type")
  e_BadRings : PySem.W.excIn K (He.ga K "BadRings") He.veBase "ValueError.__new__" = true ∧ PySem.W.keepIn K (.ref (He.ga K "BadRings")) = true ∧ PySem.W.subIn K (.ref (He.ga K "BadRings")) (.type "BaseException") = some true ∧ PySem.W.typeIn K (.ref (He.ga K "BadRings")) = some (.type "type")
  sub_SkinError : ∀ (d : Str) (D : Addr), sub_SkinError d = some true → mg d = some (.ref D) → PySem.W.exmOne K (.ref D) (.ref (He.ga K "SkinError")) = some true
  isc_BadLost : IsCF K mg (He.ga K "BadLost") isc_BadLost
  isc_BadRings : IsCF K mg (He.ga K "BadRings") isc_BadRings
abbrev s_is_number : Stmt := top 6
theorem ar_is_number : ArgsN "is_number" "is_number" s_is_number ["thing"] := fun _ _ _ _ _ _ us hl => match us, hl with | [_], _ => rfl
theorem sc_is_number : FnScope ["thing"] ["thing"] (defScope s_is_number) := ⟨rfl, rfl, rfl, by decide +kernel, rfl, by decide +kernel, by decide +kernel⟩
def b_is_number : St1 := sRet (eAnd (eUn (gIsT ["int"]) (eVar 0)) (eNot (eUn (gIsT ["bool"]) (eVar 0))))
def m_is_number : Fm := fnM 1 b_is_number
theorem ok_is_number {P : Program} {w : World} {K : PySem.W.Frag} {mg : Str → Option Value} {base : Heap} {tb : List (Addr × Str)} (c : Fx K mg) :
    FnM P w K mg base 1 (He.ga K "is_number") (fdK K (He.ga K "is_number")) ["thing"] (spM ⟨K, mg, tb⟩ 1 m_is_number) :=
  fnM_of c.f_is_number sc_is_number fun cdv A outer s H E a => (pss_oneM (ps_retM (pm_and (pm_isi rfl rfl c.n_isinstance (pm_var 0) rfl c.n_int bt_int) (pm_one (pm_not (pm_isi rfl rfl c.n_isinstance (pm_var 0) rfl c.n_bool bt_bool))))))
abbrev s_is_between : Stmt := top 7
theorem ar_is_between : ArgsN "is_between" "is_between" s_is_between ["thing", "low", "high"] := fun _ _ _ _ _ _ us hl => match us, hl with | [_, _, _], _ => rfl
theorem sc_is_between : FnScope ["thing", "low", "high"] ["thing", "low", "high"] (defScope s_is_between) := ⟨rfl, rfl, rfl, by decide +kernel, rfl, by decide +kernel, by decide +kernel⟩
def b_is_between : St1 := sRet (eAnd ((fun ρ => (aCons (eVar 0) (aNil)) ρ >>= m_is_number)) (eChain gLe gLe (eVar 1) (eVar 0) (eVar 2)))
def m_is_between : Fm := fnM 3 b_is_between
theorem ok_is_between {P : Program} {w : World} {K : PySem.W.Frag} {mg : Str → Option Value} {base : Heap} {tb : List (Addr × Str)} (c : Fx K mg) :
    FnM P w K mg base 2 (He.ga K "is_between") (fdK K (He.ga K "is_between")) ["thing", "low", "high"] (spM ⟨K, mg, tb⟩ 3 m_is_between) :=
  fnM_of c.f_is_between sc_is_between fun cdv A outer s H E a => (pss_oneM (ps_retM (pm_and (pm_call ((ok_is_number c).mono (by decide)) a rfl c.g_is_number c.f_is_number.kp (binds_of c.f_is_number ar_is_number) rfl (len_cons (fun _ _ _ _ h => len_nil h)) (pa_consM (pm_var 0) pa_nilM)) (pm_one (pm_chain op_le op_le os_le os_le (pm_var 1) (pm_var 0) (pm_var 2))))))
abbrev s_is_list : Stmt := top 8
theorem ar_is_list : ArgsN "is_list" "is_list" s_is_list ["thing"] := fun _ _ _ _ _ _ us hl => match us, hl with | [_], _ => rfl
theorem sc_is_list : FnScope ["thing"] ["thing"] (defScope s_is_list) := ⟨rfl, rfl, rfl, by decide +kernel, rfl, by decide +kernel, by decide +kernel⟩
def b_is_list : St1 := sRet (eUn (gIsT ["list", "tuple"]) (eVar 0))
def m_is_list : Fm := fnM 1 b_is_list
theorem ok_is_list {P : Program} {w : World} {K : PySem.W.Frag} {mg : Str → Option Value} {base : Heap} {tb : List (Addr × Str)} (c : Fx K mg) :
    FnM P w K mg base 1 (He.ga K "is_list") (fdK K (He.ga K "is_list")) ["thing"] (spM ⟨K, mg, tb⟩ 1 m_is_list) :=
  fnM_of c.f_is_list sc_is_list fun cdv A outer s H E a => (pss_oneM (ps_retM (pm_isi2 rfl rfl c.n_isinstance (pm_var 0) rfl c.n_list bt_list rfl c.n_tuple bt_tuple)))
abbrev s_is_tuple : Stmt := top 9
theorem ar_is_tuple : ArgsN "is_tuple" "is_tuple" s_is_tuple ["thing", "size"] := fun _ _ _ _ _ _ us hl => match us, hl with | [_, _], _ => rfl
theorem sc_is_tuple : FnScope ["thing", "size"] ["thing", "size"] (defScope s_is_tuple) := ⟨rfl, rfl, rfl, by decide +kernel, rfl, by decide +kernel, by decide +kernel⟩
def b_is_tuple : St1 := sRet (eAnd (eUn (gIsT ["tuple"]) (eVar 0)) (eOp gEq (eCall gLen (aCons (eVar 0) (aNil))) (eVar 1)))
def m_is_tuple : Fm := fnM 2 b_is_tuple
theorem ok_is_tuple {P : Program} {w : World} {K : PySem.W.Frag} {mg : Str → Option Value} {base : Heap} {tb : List (Addr × Str)} (c : Fx K mg) :
    FnM P w K mg base 1 (He.ga K "is_tuple") (fdK K (He.ga K "is_tuple")) ["thing", "size"] (spM ⟨K, mg, tb⟩ 2 m_is_tuple) :=
  fnM_of c.f_is_tuple sc_is_tuple fun cdv A outer s H E a => (pss_oneM (ps_retM (pm_and (pm_isi rfl rfl c.n_isinstance (pm_var 0) rfl c.n_tuple bt_tuple) (pm_one (pm_cmp (op_eqD a.hu) os_eq (pm_cb call_len_seq cs_len rfl c.n_len bt_len (pa_consM (pm_var 0) pa_nilM)) (pm_var 1) rfl)))))
abbrev s_are_rings : Stmt := top 12
theorem ar_are_rings : ArgsN "are_rings" "are_rings" s_are_rings ["thing"] := fun _ _ _ _ _ _ us hl => match us, hl with | [_], _ => rfl
theorem sc_are_rings : FnScope ["thing", "twists", "twist", "more"] ["thing"] (defScope s_are_rings) := ⟨rfl, rfl, rfl, by decide +kernel, rfl, by decide +kernel, by decide +kernel⟩
def b_are_rings : St1 := sSeq (sIf (bOr (bNot (toB ((fun ρ => (aCons (eVar 0) (aCons (eC (.int 2)) (aNil))) ρ >>= m_is_tuple)))) (bOr (bNot (toB ((fun ρ => (aCons (eOp gIx (eVar 0) (eC (.int 0))) (aNil)) ρ >>= m_is_number)))) (bOr (toB (eOp gLt (eOp gIx (eVar 0) (eC (.int 0))) (eC (.int 0)))) (bNot (toB (eUn (gIsT ["tuple"]) (eOp gIx (eVar 0) (eC (.int 1))))))))) (sRet (eC (.bl false))) (sNx)) (sSeq (sAsg (eOp gIx (eVar 0) (eC (.int 1))) (gtN 1)) (sSeq (sIf (bNot (toB (eCall gAll (aCons (eLc (fun ρ => (eVar 1) ρ >>= srcOf) (gtN 2) (cYes) (eAnd ((fun ρ => (aCons (eVar 2) (aNil)) ρ >>= m_is_number)) (eOp gGt (eVar 2) (eC (.int 1)))) [2]) (aNil))))) (sRet (eC (.bl false))) (sNx)) (sRet (eCall gAll (aCons (eLc (fun ρ => (aCons (eVar 1) (aCons (eSl (eVar 1) (oYes (eC (.int 1))) oNo) (aNil))) ρ >>= srcZip) (gtTup 2 (gtCons (gtN 2) (gtCons (gtN 3) gtNil))) (cYes) (eOp gEq (eOp gMod (eVar 3) (eVar 2)) (eC (.int 0))) [2, 3]) (aNil))))))
def m_are_rings : Fm := fnM 4 b_are_rings
theorem ok_are_rings {P : Program} {w : World} {K : PySem.W.Frag} {mg : Str → Option Value} {base : Heap} {tb : List (Addr × Str)} (c : Fx K mg) :
    FnM P w K mg base 2 (He.ga K "are_rings") (fdK K (He.ga K "are_rings")) ["thing"] (spM ⟨K, mg, tb⟩ 1 m_are_rings) :=
  fnM_of c.f_are_rings sc_are_rings fun cdv A outer s H E a => (pss_consM (ps_ifM (pw_pt (pb_or (pb_not (pb_val (pm_call ((ok_is_tuple c).mono (by decide)) a rfl c.g_is_tuple c.f_is_tuple.kp (binds_of c.f_is_tuple ar_is_tuple) rfl (len_cons (len_cons (fun _ _ _ _ h => len_nil h))) (pa_consM (pm_var 0) (pa_consM pm_int pa_nilM))))) (pb_or (pb_not (pb_val (pm_call ((ok_is_number c).mono (by decide)) a rfl c.g_is_number c.f_is_number.kp (binds_of c.f_is_number ar_is_number) rfl (len_cons (fun _ _ _ _ h => len_nil h)) (pa_consM (pm_ix ix_seq os_ix (pm_var 0) pm_int (by intro _ _; rfl)) pa_nilM)))) (pb_or (pb_cmp op_lt os_lt (pm_ix ix_seq os_ix (pm_var 0) pm_int (by intro _ _; rfl)) pm_int rfl) (pb_or1 (pb_not (pb_val (pm_isi rfl rfl c.n_isinstance (pm_ix ix_seq os_ix (pm_var 0) pm_int (by intro _ _; rfl)) rfl c.n_tuple bt_tuple)))))))) (pss_oneM (ps_retM pm_bl)) pss_nilM) (pss_consM (ps_setM a.nd (i := 1) rfl (.inl rfl) (pm_ix ix_seq os_ix (pm_var 0) pm_int (by intro _ _; rfl))) (pss_consM (ps_ifM (pb_not (pb_val (pm_cb (cr_all a.calm) cs_all rfl c.n_all bt_all (pa_consM (pm_lc a.calm a.nd (own := [("twist", 2)]) (iter_seq rfl (pm_var 1)) (blkOk_by rfl) (gw_name (by decide)) (fun _ _ _ _ _ => (pg_name a.nd (i := 2) rfl (.inl rfl))) (fun _ _ _ _ _ => pts_nilM) (fun _ _ _ _ _ => (pm_and (pm_call ((ok_is_number c).mono (by decide)) (a.blk _ _ _ _ _) rfl c.g_is_number c.f_is_number.kp (binds_of c.f_is_number ar_is_number) rfl (len_cons (fun _ _ _ _ h => len_nil h)) (pa_consM (pm_var 2) pa_nilM)) (pm_one (pm_cmp op_gt os_gt (pm_var 2) pm_int rfl))))) pa_nilM)))) (pss_oneM (ps_retM pm_bl)) pss_nilM) (pss_oneM (ps_retM (pm_cb (cr_all a.calm) cs_all rfl c.n_all bt_all (pa_consM (pm_lc a.calm a.nd (own := [("twist", 2), ("more", 3)]) (iter_zip rfl rfl c.n_zip (pa_consM (pm_var 1) (pa_consM (pm_slice rfl (pm_var 1) (pmo_yes pm_int) pmo_no) pa_nilM))) (blkOk_by rfl) (gw_tup (gws_cons (gw_name (by decide)) (gws_cons (gw_name (by decide)) gws_nil))) (fun _ _ _ _ _ => (pg_tup a.calm (pgs_cons (pg_name a.nd (i := 2) rfl (.inl rfl)) (pgs_cons (pg_name a.nd (i := 3) rfl (.inl rfl)) pgs_nil)))) (fun _ _ _ _ _ => pts_nilM) (fun _ _ _ _ _ => (pm_cmp (op_eqD (a.blk _ _ _ _ _).hu) os_eq (pm_op op_mod os_mod (pm_var 3) (pm_var 2)) pm_int rfl))) pa_nilM)))))))
abbrev s_joined_rings : Stmt := top 13
theorem ar_joined_rings : ArgsN "joined_rings" "joined_rings" s_joined_rings ["some"] := fun _ _ _ _ _ _ us hl => match us, hl with | [_], _ => rfl
theorem sc_joined_rings : FnScope ["some", "chain", "free", "twists", "number", "at", "common"] ["some"] (defScope s_joined_rings) := ⟨rfl, rfl, rfl, by decide +kernel, rfl, by decide +kernel, by decide +kernel⟩
def b_joined_rings : St1 := sSeq (sAsg (eLst (aNil)) (gtN 1)) (sSeq (sFor (fun ρ => (eVar 0) ρ >>= srcOf) (gtTup 2 (gtCons (gtN 2) (gtCons (gtN 3) gtNil))) (sFor (fun ρ => (eVar 3) ρ >>= srcOf) (gtN 4) (sSeq (sFor (fun ρ => (aCons (eCall gLen (aCons (eVar 1) (aNil))) (aNil)) ρ >>= srcRng1) (gtN 5) (sSeq (sAsg (eCall gGcd (aCons (eOp gIx (eVar 1) (eVar 5)) (aCons (eVar 4) (aNil)))) (gtN 6)) (sAsg (eTup (aCons (eOp gFdv (eOp gMul (eOp gIx (eVar 1) (eVar 5)) (eVar 4)) (eVar 6)) (aCons (eVar 6) (aNil)))) (gtTup 2 (gtCons (gtSub (eVar 1) (eVar 5)) (gtCons (gtN 4) gtNil)))))) (sIf (toB (eOp gGt (eVar 4) (eC (.int 1)))) (sExpr (eMth gAppend (eVar 1) (aCons (eVar 4) (aNil)))) (sNx))))) (sRet (eTup (aCons (eCall gSum (aCons (eLc (fun ρ => (eVar 0) ρ >>= srcOf) (gtTup 2 (gtCons (gtN 2) (gtCons (gtN 3) gtNil))) (cYes) (eVar 2) [2, 3]) (aNil))) (aCons (eUn gRevT (eVar 1)) (aNil))))))
def m_joined_rings : Fm := fnM 7 b_joined_rings
theorem ok_joined_rings {P : Program} {w : World} {K : PySem.W.Frag} {mg : Str → Option Value} {base : Heap} {tb : List (Addr × Str)} (c : Fx K mg) :
    FnM P w K mg base 1 (He.ga K "joined_rings") (fdK K (He.ga K "joined_rings")) ["some"] (spM ⟨K, mg, tb⟩ 1 m_joined_rings) :=
  fnM_of c.f_joined_rings sc_joined_rings fun cdv A outer s H E a => (pss_consM (ps_setM a.nd (i := 1) rfl (.inl rfl) (pm_lst pa_nilM)) (pss_consM (ps_forM a.own a.calm (iter_seq rfl (pm_var 0)) (pg_tupM rfl a.calm (pgs_consM (pg_nm a.nd (i := 2) rfl (.inl rfl)) (pgs_consM (pg_nm a.nd (i := 3) rfl (.inl rfl)) pgs_nilM))) (pss_oneM (ps_forM a.own a.calm (iter_seq rfl (pm_var 3)) (pg_nm a.nd (i := 4) rfl (.inl rfl)) (pss_consM (ps_forM a.own a.calm (iter_rng1 rfl c.n_range (pa_consM (pm_cb call_len_seq cs_len rfl c.n_len bt_len (pa_consM (pm_var 1) pa_nilM)) pa_nilM)) (pg_nm a.nd (i := 5) rfl (.inl rfl)) (pss_consM (ps_setM a.nd (i := 6) rfl (.inl rfl) (pm_cf cr_gcd cs_gcd rfl c.b_gcd (pa_consM (pm_ix ix_seq os_ix (pm_var 1) (pm_var 5) (by intro _ _; rfl)) (pa_consM (pm_var 4) pa_nilM)))) (pss_oneM (ps_asgM (pm_tup (pa_consM (pm_op op_fdivW os_fdv (pm_op op_mulA os_mul (pm_ix ix_seq os_ix (pm_var 1) (pm_var 5) (by intro _ _; rfl)) (pm_var 4)) (pm_var 6)) (pa_consM (pm_var 6) pa_nilM))) (pg_tupM rfl a.calm (pgs_consM (pg_subM (pm_var 1) (pm_var 5)) (pgs_consM (pg_nm a.nd (i := 4) rfl (.inl rfl)) pgs_nilM))))))) (pss_oneM (ps_ifM (pb_cmp op_gt os_gt (pm_var 4) pm_int rfl) (pss_oneM (ps_exprM (pm_bm rfl F.plainAttrs_list F.slot_list_append rfl mt_append ms_append (pm_var 1) (pa_consM (pm_var 4) pa_nilM)))) pss_nilM)))))) (pss_oneM (ps_retM (pm_tup (pa_consM (pm_cb (cr_sum a.calm) cs_sum rfl c.n_sum bt_sum (pa_consM (pm_lc a.calm a.nd (own := [("free", 2), ("twists", 3)]) (iter_seq rfl (pm_var 0)) (blkOk_by rfl) (gw_tup (gws_cons (gw_name (by decide)) (gws_cons (gw_name (by decide)) gws_nil))) (fun _ _ _ _ _ => (pg_tup a.calm (pgs_cons (pg_name a.nd (i := 2) rfl (.inl rfl)) (pgs_cons (pg_name a.nd (i := 3) rfl (.inl rfl)) pgs_nil)))) (fun _ _ _ _ _ => pts_nilM) (fun _ _ _ _ _ => (pm_var 2))) pa_nilM)) (pa_consM (pm_tupRev rfl a.calm rfl c.n_tuple rfl c.n_reversed (pm_var 1)) pa_nilM)))))))
abbrev s_with_lost : Stmt := top 14
theorem ar_with_lost : ArgsN "with_lost" "with_lost" s_with_lost ["some", "triple"] := fun _ _ _ _ _ _ us hl => match us, hl with | [_, _], _ => rfl
theorem sc_with_lost : FnScope ["some", "triple"] ["some", "triple"] (defScope s_with_lost) := ⟨rfl, rfl, rfl, by decide +kernel, rfl, by decide +kernel, by decide +kernel⟩
def b_with_lost : St1 := sRet ((fun ρ => (aCons (eLst (aStar (eVar 0) (aCons (eTup (aCons (eOp gIx (eVar 1) (eC (.int 0))) (aCons (eOp gMul (eTup (aCons (eC (.int 2)) (aNil))) (eOp gIx (eVar 1) (eC (.int 1)))) (aNil)))) (aCons (eTup (aCons (eC (.int 0)) (aCons (eOp gMul (eTup (aCons (eC (.int 3)) (aNil))) (eOp gIx (eVar 1) (eC (.int 2)))) (aNil)))) (aNil))))) (aNil)) ρ >>= m_joined_rings))
def m_with_lost : Fm := fnM 2 b_with_lost
theorem ok_with_lost {P : Program} {w : World} {K : PySem.W.Frag} {mg : Str → Option Value} {base : Heap} {tb : List (Addr × Str)} (c : Fx K mg) :
    FnM P w K mg base 2 (He.ga K "with_lost") (fdK K (He.ga K "with_lost")) ["some", "triple"] (spM ⟨K, mg, tb⟩ 2 m_with_lost) :=
  fnM_of c.f_with_lost sc_with_lost fun cdv A outer s H E a => (pss_oneM (ps_retM (pm_call ((ok_joined_rings c).mono (by decide)) a rfl c.g_joined_rings c.f_joined_rings.kp (binds_of c.f_joined_rings ar_joined_rings) rfl (len_cons (fun _ _ _ _ h => len_nil h)) (pa_consM (pm_lst (pa_starM rfl (pm_var 0) (pa_consM (pm_tup (pa_consM (pm_ix ix_seq os_ix (pm_var 1) pm_int (by intro _ _; rfl)) (pa_consM (pm_op op_mulA os_mul (pm_tup (pa_consM pm_int pa_nilM)) (pm_ix ix_seq os_ix (pm_var 1) pm_int (by intro _ _; rfl))) pa_nilM))) (pa_consM (pm_tup (pa_consM pm_int (pa_consM (pm_op op_mulA os_mul (pm_tup (pa_consM pm_int pa_nilM)) (pm_ix ix_seq os_ix (pm_var 1) pm_int (by intro _ _; rfl))) pa_nilM))) pa_nilM)))) pa_nilM))))
abbrev s_rings_with : Stmt := top 15
theorem ar_rings_with : ArgsN "rings_with" "rings_with" s_rings_with ["rings", "lost"] := fun _ _ _ _ _ _ us hl => match us, hl with | [_, _], _ => rfl
theorem sc_rings_with : FnScope ["rings", "lost", "thing", "number"] ["rings", "lost"] (defScope s_rings_with) := ⟨rfl, rfl, rfl, by decide +kernel, rfl, by decide +kernel, by decide +kernel⟩
def b_rings_with : St1 := sSeq (sIf (bOr (bNot (toB ((fun ρ => (aCons (eVar 0) (aNil)) ρ >>= m_is_list)))) (bOr (toB (eOp gGt (eCall gLen (aCons (eVar 0) (aNil))) (eC (.int 60)))) (bNot (toB (eCall gAll (aCons (eLc (fun ρ => (eVar 0) ρ >>= srcOf) (gtN 2) (cYes) ((fun ρ => (aCons (eVar 2) (aNil)) ρ >>= m_are_rings)) [2]) (aNil))))))) (sRaise "BadRings") (sNx)) (sSeq (sIf (bOr (bNot (toB ((fun ρ => (aCons (eVar 1) (aCons (eC (.int 3)) (aNil))) ρ >>= m_is_tuple)))) (bNot (toB (eCall gAll (aCons (eLc (fun ρ => (eVar 1) ρ >>= srcOf) (gtN 3) (cYes) ((fun ρ => (aCons (eVar 3) (aCons (eC (.int 0)) (aCons (eC (.int 60)) (aNil)))) ρ >>= m_is_between)) [3]) (aNil)))))) (sRaise "BadLost") (sNx)) (sRet ((fun ρ => (aCons (eCall gList (aCons (eVar 0) (aNil))) (aCons (eVar 1) (aNil))) ρ >>= m_with_lost))))
def m_rings_with : Fm := fnM 4 b_rings_with
theorem ok_rings_with {P : Program} {w : World} {K : PySem.W.Frag} {mg : Str → Option Value} {base : Heap} {tb : List (Addr × Str)} (c : Fx K mg) :
    FnM P w K mg base 3 (He.ga K "rings_with") (fdK K (He.ga K "rings_with")) ["rings", "lost"] (spM ⟨K, mg, tb⟩ 2 m_rings_with) :=
  fnM_of c.f_rings_with sc_rings_with fun cdv A outer s H E a => (pss_consM (ps_ifM (pw_pt (pb_or (pb_not (pb_val (pm_call ((ok_is_list c).mono (by decide)) a rfl c.g_is_list c.f_is_list.kp (binds_of c.f_is_list ar_is_list) rfl (len_cons (fun _ _ _ _ h => len_nil h)) (pa_consM (pm_var 0) pa_nilM)))) (pb_or (pb_cmp op_gt os_gt (pm_cb call_len_seq cs_len rfl c.n_len bt_len (pa_consM (pm_var 0) pa_nilM)) (pm_gint rfl (Classical.choose_spec c.i_MOST_RINGS)) rfl) (pb_or1 (pb_not (pb_val (pm_cb (cr_all a.calm) cs_all rfl c.n_all bt_all (pa_consM (pm_lc a.calm a.nd (own := [("thing", 2)]) (iter_seq rfl (pm_var 0)) (blkOk_by rfl) (gw_name (by decide)) (fun _ _ _ _ _ => (pg_name a.nd (i := 2) rfl (.inl rfl))) (fun _ _ _ _ _ => pts_nilM) (fun _ _ _ _ _ => (pm_call ((ok_are_rings c).mono (by decide)) (a.blk _ _ _ _ _) rfl c.g_are_rings c.f_are_rings.kp (binds_of c.f_are_rings ar_are_rings) rfl (len_cons (fun _ _ _ _ h => len_nil h)) (pa_consM (pm_var 2) pa_nilM)))) pa_nilM)))))))) (pss_oneM (ps_raiseM a rfl F.excBase_ValueError c.e_BadRings.1 c.g_BadRings c.e_BadRings.2.1 (raises_own c.e_BadRings.2.2.1 c.e_BadRings.2.2.2) rfl)) pss_nilM) (pss_consM (ps_ifM (pw_pt (pb_or (pb_not (pb_val (pm_call ((ok_is_tuple c).mono (by decide)) a rfl c.g_is_tuple c.f_is_tuple.kp (binds_of c.f_is_tuple ar_is_tuple) rfl (len_cons (len_cons (fun _ _ _ _ h => len_nil h))) (pa_consM (pm_var 1) (pa_consM pm_int pa_nilM))))) (pb_or1 (pb_not (pb_val (pm_cb (cr_all a.calm) cs_all rfl c.n_all bt_all (pa_consM (pm_lc a.calm a.nd (own := [("number", 3)]) (iter_seq rfl (pm_var 1)) (blkOk_by rfl) (gw_name (by decide)) (fun _ _ _ _ _ => (pg_name a.nd (i := 3) rfl (.inl rfl))) (fun _ _ _ _ _ => pts_nilM) (fun _ _ _ _ _ => (pm_call ((ok_is_between c).mono (by decide)) (a.blk _ _ _ _ _) rfl c.g_is_between c.f_is_between.kp (binds_of c.f_is_between ar_is_between) rfl (len_cons (len_cons (len_cons (fun _ _ _ _ h => len_nil h)))) (pa_consM (pm_var 3) (pa_consM pm_int (pa_consM (pm_gint rfl (Classical.choose_spec c.i_MOST_RINGS)) pa_nilM)))))) pa_nilM))))))) (pss_oneM (ps_raiseM a rfl F.excBase_ValueError c.e_BadLost.1 c.g_BadLost c.e_BadLost.2.1 (raises_own c.e_BadLost.2.2.1 c.e_BadLost.2.2.2) rfl)) pss_nilM) (pss_oneM (ps_retM (pm_call ((ok_with_lost c).mono (by decide)) a rfl c.g_with_lost c.f_with_lost.kp (binds_of c.f_with_lost ar_with_lost) rfl (len_cons (len_cons (fun _ _ _ _ h => len_nil h))) (pa_consM (pm_ct call_list_of cs_list rfl c.n_list bt_list (pa_consM (pm_var 0) pa_nilM)) (pa_consM (pm_var 1) pa_nilM)))))))
abbrev s__law_begun : Stmt := top 17
theorem ar__law_begun : ArgsN "_law_begun" "_law_begun" s__law_begun ["script"] := fun _ _ _ _ _ _ us hl => match us, hl with | [_], _ => rfl
theorem sc__law_begun : FnScope ["script", "large", "cell"] ["script"] (defScope s__law_begun) := ⟨rfl, rfl, rfl, by decide +kernel, rfl, by decide +kernel, by decide +kernel⟩
def b__law_begun : St1 := sSeq (sAsg (eLc (fun ρ => (eVar 0) ρ >>= srcOf) (gtN 2) (toB (eOp gGe (eCall gAbs (aCons (eVar 2) (aNil))) (eOp gPow (eC (.int 10)) (eC (.int 18))))) (eOp gSub (eCall gAbs (aCons (eVar 2) (aNil))) (eOp gPow (eC (.int 10)) (eC (.int 18)))) [2]) (gtN 1)) (sRet (eDisp [(.inr "large", eVar 1), (.inr "rest", eC (.int 0)), (.inr "cells", eLc (fun ρ => (eVar 0) ρ >>= srcOf) (gtN 2) (cYes) (eCall gAbs (aCons (eVar 2) (aNil))) [2]), (.inr "many", eC (.int 0))]))
def m__law_begun : Fm := fnM 3 b__law_begun
theorem ok__law_begun {P : Program} {w : World} {K : PySem.W.Frag} {mg : Str → Option Value} {base : Heap} {tb : List (Addr × Str)} (c : Fx K mg) :
    FnM P w K mg base 1 (He.ga K "_law_begun") (fdK K (He.ga K "_law_begun")) ["script"] (spM ⟨K, mg, tb⟩ 1 m__law_begun) :=
  fnM_of c.f__law_begun sc__law_begun fun cdv A outer s H E a => (pss_consM (ps_lcM a.calm a.nd (i := 1) rfl rfl (sw_true rfl rfl rfl rfl) (own := [("cell", 2)]) (iter_seq rfl (pm_var 0)) (blkOk_by rfl) (gw_name (by decide)) (fun _ _ _ _ _ => (pg_name a.nd (i := 2) rfl (.inl rfl))) (fun _ _ _ _ _ => (pts_oneM (pb_cmp op_ge os_ge (pm_cb call_abs cs_abs rfl c.n_abs bt_abs (pa_consM (pm_var 2) pa_nilM)) (pm_op op_pow os_pow pm_int pm_int) rfl))) (fun _ _ _ _ _ => (pm_op op_sub os_sub (pm_cb call_abs cs_abs rfl c.n_abs bt_abs (pa_consM (pm_var 2) pa_nilM)) (pm_op op_pow os_pow pm_int pm_int)))) (pss_oneM (ps_retM (pm_disp (ms := [(.inr "large", eVar 1), (.inr "rest", eC (.int 0)), (.inr "cells", eLc (fun ρ => (eVar 0) ρ >>= srcOf) (gtN 2) (cYes) (eCall gAbs (aCons (eVar 2) (aNil))) [2]), (.inr "many", eC (.int 0))]) (pps_cons pe_str (pm_var 1) (pps_cons pe_str pm_int (pps_cons pe_str (pm_lc a.calm a.nd (own := [("cell", 2)]) (iter_seq rfl (pm_var 0)) (blkOk_by rfl) (gw_name (by decide)) (fun _ _ _ _ _ => (pg_name a.nd (i := 2) rfl (.inl rfl))) (fun _ _ _ _ _ => pts_nilM) (fun _ _ _ _ _ => (pm_cb call_abs cs_abs rfl c.n_abs bt_abs (pa_consM (pm_var 2) pa_nilM)))) (pps_cons pe_str pm_int pps_nil)))) rfl rfl (by simp) (by decide)))))
abbrev s__law_mixed : Stmt := top 18
theorem ar__law_mixed : ArgsN "_law_mixed" "_law_mixed" s__law_mixed ["draw"] := fun _ _ _ _ _ _ us hl => match us, hl with | [_], _ => rfl
theorem sc__law_mixed : FnScope ["draw", "great", "many", "found", "blend", "cell"] ["draw"] (defScope s__law_mixed) := ⟨rfl, rfl, rfl, by decide +kernel, rfl, by decide +kernel, by decide +kernel⟩
def b__law_mixed : St1 := sSeq (sDPutM (eVar 0) (eC (.str "many")) (eOp gAdd (eOp gDGet (eVar 0) (eC (.str "many"))) (eC (.int 1)))) (sSeq (sPar 2 3 (aCons (eCall gInt (aCons (eOp gDGet (eVar 0) (eC (.str "many"))) (aNil))) (aCons (eC (.int 0)) (aNil)))) (sSeq (sFor (fun ρ => (eLst (aCons (eC (.int 2147483629)) (aCons (eC (.int 2147483587)) (aCons (eC (.int 2147483579)) (aNil))))) ρ >>= srcOf) (gtN 1) (sSeq (sAsg (eOp gMod (eCall gInt (aCons (eOp gAdd (eOp gMul (eVar 2) (eC (.int 69621))) (eOp gFdv (eVar 1) (eC (.int 7)))) (aNil))) (eVar 1)) (gtN 4)) (sSeq (sFor (fun ρ => (eOp gDGet (eVar 0) (eC (.str "cells"))) ρ >>= srcOf) (gtN 5) (sAsg (eOp gMod (eCall gInt (aCons (eOp gAdd (eOp gAdd (eOp gMul (eVar 4) (eC (.int 48271))) (eCall gInt (aCons (eVar 5) (aNil)))) (eC (.int 1))) (aNil))) (eVar 1)) (gtN 4))) (sAsg (eOp gAdd (eOp gMul (eVar 3) (eC (.int 2147483647))) (eOp gMod (eCall gInt (aCons (eOp gPow (eVar 4) (eC (.int 5))) (aNil))) (eVar 1))) (gtN 3))))) (sRet (eVar 3))))
def m__law_mixed : Fm := fnM 6 b__law_mixed
theorem ok__law_mixed {P : Program} {w : World} {K : PySem.W.Frag} {mg : Str → Option Value} {base : Heap} {tb : List (Addr × Str)} (c : Fx K mg) :
    FnM P w K mg base 1 (He.ga K "_law_mixed") (fdK K (He.ga K "_law_mixed")) ["draw"] (spM ⟨K, mg, tb⟩ 1 m__law_mixed) :=
  fnM_of c.f__law_mixed sc__law_mixed fun cdv A outer s H E a => (pss_consM (ps_dputM a.hu1 (pm_var 0) pm_str (pm_op op_addA os_add (pm_dget a.hu1 (pm_var 0) pm_str (by intro _ _; rfl)) pm_int)) (pss_consM (ps_parM a.calm a.nd (i := 2) (j := 3) rfl rfl (by decide) rfl rfl (pa_consM (pm_ct call_int1 cs_int rfl c.n_int bt_int (pa_consM (pm_dget a.hu1 (pm_var 0) pm_str (by intro _ _; rfl)) pa_nilM)) (pa_consM pm_int pa_nilM))) (pss_consM (ps_forM a.own a.calm (iter_seq rfl (pm_lst (pa_consM pm_int (pa_consM pm_int (pa_consM pm_int pa_nilM))))) (pg_nm a.nd (i := 1) rfl (.inl rfl)) (pss_consM (ps_setM a.nd (i := 4) rfl (.inl rfl) (pm_op op_mod os_mod (pm_ct call_int1 cs_int rfl c.n_int bt_int (pa_consM (pm_op op_addA os_add (pm_op op_mulA os_mul (pm_var 2) pm_int) (pm_op op_fdivW os_fdv (pm_var 1) pm_int)) pa_nilM)) (pm_var 1))) (pss_consM (ps_forM a.own a.calm (iter_seq rfl (pm_dget a.hu1 (pm_var 0) pm_str (by intro _ _; rfl))) (pg_nm a.nd (i := 5) rfl (.inl rfl)) (pss_oneM (ps_setM a.nd (i := 4) rfl (.inl rfl) (pm_op op_mod os_mod (pm_ct call_int1 cs_int rfl c.n_int bt_int (pa_consM (pm_op op_addA os_add (pm_op op_addA os_add (pm_op op_mulA os_mul (pm_var 4) pm_int) (pm_ct call_int1 cs_int rfl c.n_int bt_int (pa_consM (pm_var 5) pa_nilM))) pm_int) pa_nilM)) (pm_var 1))))) (pss_oneM (ps_setM a.nd (i := 3) rfl (.inl rfl) (pm_op op_addA os_add (pm_op op_mulA os_mul (pm_var 3) pm_int) (pm_op op_mod os_mod (pm_ct call_int1 cs_int rfl c.n_int bt_int (pa_consM (pm_op op_pow os_pow (pm_var 4) pm_int) pa_nilM)) (pm_var 1)))))))) (pss_oneM (ps_retM (pm_var 3))))))
abbrev s__law_take : Stmt := top 19
theorem ar__law_take : ArgsN "_law_take" "_law_take" s__law_take ["draw", "size"] := fun _ _ _ _ _ _ us hl => match us, hl with | [_, _], _ => rfl
theorem sc__law_take : FnScope ["draw", "size", "found"] ["draw", "size"] (defScope s__law_take) := ⟨rfl, rfl, rfl, by decide +kernel, rfl, by decide +kernel, by decide +kernel⟩
def b__law_take : St1 := sSeq (sIf (toB (eOp gEq (eOp gDGet (eVar 0) (eC (.str "rest"))) (eC (.int 0)))) (sDPutM (eVar 0) (eC (.str "rest")) (eIf (toB (eOp gNe (eOp gDGet (eVar 0) (eC (.str "large"))) (eLst (aNil)))) (eMth gPopAt (eOp gDGet (eVar 0) (eC (.str "large"))) (aCons (eC (.int 0)) (aNil))) ((fun ρ => (aCons (eVar 0) (aNil)) ρ >>= m__law_mixed)))) (sNx)) (sSeq (sAsg (eOp gMod (eCall gInt (aCons (eOp gDGet (eVar 0) (eC (.str "rest"))) (aNil))) (eVar 1)) (gtN 2)) (sSeq (sDPutM (eVar 0) (eC (.str "rest")) (eOp gFdv (eCall gInt (aCons (eOp gDGet (eVar 0) (eC (.str "rest"))) (aNil))) (eVar 1))) (sRet (eVar 2))))
def m__law_take : Fm := fnM 3 b__law_take
theorem ok__law_take {P : Program} {w : World} {K : PySem.W.Frag} {mg : Str → Option Value} {base : Heap} {tb : List (Addr × Str)} (c : Fx K mg) :
    FnM P w K mg base 2 (He.ga K "_law_take") (fdK K (He.ga K "_law_take")) ["draw", "size"] (spM ⟨K, mg, tb⟩ 2 m__law_take) :=
  fnM_of c.f__law_take sc__law_take fun cdv A outer s H E a => (pss_consM (ps_ifM (pb_cmp (op_eqD a.hu) os_eq (pm_dget a.hu1 (pm_var 0) pm_str (by intro _ _; rfl)) pm_int rfl) (pss_oneM (ps_dputM a.hu1 (pm_var 0) pm_str (pm_if (pb_cmp (op_neD a.hu) os_ne (pm_dget a.hu1 (pm_var 0) pm_str (by intro _ _; rfl)) (pm_lst pa_nilM) rfl) (pm_bm rfl F.plainAttrs_list F.slot_list_pop rfl mt_popAt ms_popAt (pm_dget a.hu1 (pm_var 0) pm_str (by intro _ _; rfl)) (pa_consM pm_int pa_nilM)) (pm_call ((ok__law_mixed c).mono (by decide)) a rfl c.g__law_mixed c.f__law_mixed.kp (binds_of c.f__law_mixed ar__law_mixed) rfl (len_cons (fun _ _ _ _ h => len_nil h)) (pa_consM (pm_var 0) pa_nilM))))) pss_nilM) (pss_consM (ps_setM a.nd (i := 2) rfl (.inl rfl) (pm_op op_mod os_mod (pm_ct call_int1 cs_int rfl c.n_int bt_int (pa_consM (pm_dget a.hu1 (pm_var 0) pm_str (by intro _ _; rfl)) pa_nilM)) (pm_var 1))) (pss_consM (ps_dputM a.hu1 (pm_var 0) pm_str (pm_op op_fdivW os_fdv (pm_ct call_int1 cs_int rfl c.n_int bt_int (pa_consM (pm_dget a.hu1 (pm_var 0) pm_str (by intro _ _; rfl)) pa_nilM)) (pm_var 1))) (pss_oneM (ps_retM (pm_var 2))))))
abbrev s__law_pick : Stmt := top 20
theorem ar__law_pick : ArgsN "_law_pick" "_law_pick" s__law_pick ["draw", "some"] := fun _ _ _ _ _ _ us hl => match us, hl with | [_, _], _ => rfl
theorem sc__law_pick : FnScope ["draw", "some"] ["draw", "some"] (defScope s__law_pick) := ⟨rfl, rfl, rfl, by decide +kernel, rfl, by decide +kernel, by decide +kernel⟩
def b__law_pick : St1 := sRet (eOp gIx (eVar 1) ((fun ρ => (aCons (eVar 0) (aCons (eCall gLen (aCons (eVar 1) (aNil))) (aNil))) ρ >>= m__law_take)))
def m__law_pick : Fm := fnM 2 b__law_pick
theorem ok__law_pick {P : Program} {w : World} {K : PySem.W.Frag} {mg : Str → Option Value} {base : Heap} {tb : List (Addr × Str)} (c : Fx K mg) :
    FnM P w K mg base 3 (He.ga K "_law_pick") (fdK K (He.ga K "_law_pick")) ["draw", "some"] (spM ⟨K, mg, tb⟩ 2 m__law_pick) :=
  fnM_of c.f__law_pick sc__law_pick fun cdv A outer s H E a => (pss_oneM (ps_retM (pm_ix ix_seq os_ix (pm_var 1) (pm_call ((ok__law_take c).mono (by decide)) a rfl c.g__law_take c.f__law_take.kp (binds_of c.f__law_take ar__law_take) rfl (len_cons (len_cons (fun _ _ _ _ h => len_nil h))) (pa_consM (pm_var 0) (pa_consM (pm_cb call_len_seq cs_len rfl c.n_len bt_len (pa_consM (pm_var 1) pa_nilM)) pa_nilM))) (by intro _ _; rfl))))
abbrev s__law_caught : Stmt := top 21
theorem ar__law_caught : ArgsN "_law_caught" "_law_caught" s__law_caught ["work"] := fun _ _ _ _ _ _ us hl => match us, hl with | [_], _ => rfl
theorem cat__law_caught : CatchD s__law_caught "SkinError" := ⟨⟨_, _, _, _, _, _, _, _, _, _, _, _, _, _, _, rfl⟩, ⟨rfl, rfl, rfl, by decide +kernel, rfl, by decide +kernel, by decide +kernel⟩, rfl, rfl, rfl, rfl, rfl⟩
abbrev s__law_shuffled : Stmt := top 22
theorem ar__law_shuffled : ArgsN "_law_shuffled" "_law_shuffled" s__law_shuffled ["draw", "some"] := fun _ _ _ _ _ _ us hl => match us, hl with | [_, _], _ => rfl
theorem sc__law_shuffled : FnScope ["draw", "some", "left", "found"] ["draw", "some"] (defScope s__law_shuffled) := ⟨rfl, rfl, rfl, by decide +kernel, rfl, by decide +kernel, by decide +kernel⟩
def b__law_shuffled : St1 := sSeq (sPar 2 3 (aCons (eCall gList (aCons (eVar 1) (aNil))) (aCons (eLst (aNil)) (aNil)))) (sSeq (sWhile (toB (eOp gNe (eVar 2) (eLst (aNil)))) (sExpr (eMth gAppend (eVar 3) (aCons (eMth gPopAt (eVar 2) (aCons ((fun ρ => (aCons (eVar 0) (aCons (eCall gLen (aCons (eVar 2) (aNil))) (aNil))) ρ >>= m__law_take)) (aNil))) (aNil))))) (sRet (eVar 3)))
def m__law_shuffled : Fm := fnM 4 b__law_shuffled
theorem ok__law_shuffled {P : Program} {w : World} {K : PySem.W.Frag} {mg : Str → Option Value} {base : Heap} {tb : List (Addr × Str)} (c : Fx K mg) :
    FnM P w K mg base 3 (He.ga K "_law_shuffled") (fdK K (He.ga K "_law_shuffled")) ["draw", "some"] (spM ⟨K, mg, tb⟩ 2 m__law_shuffled) :=
  fnM_of c.f__law_shuffled sc__law_shuffled fun cdv A outer s H E a => (pss_consM (ps_parM a.calm a.nd (i := 2) (j := 3) rfl rfl (by decide) rfl rfl (pa_consM (pm_ct call_list_of cs_list rfl c.n_list bt_list (pa_consM (pm_var 1) pa_nilM)) (pa_consM (pm_lst pa_nilM) pa_nilM))) (pss_consM (ps_whileM a.own (pb_cmp (op_neD a.hu) os_ne (pm_var 2) (pm_lst pa_nilM) rfl) (pss_oneM (ps_exprM (pm_bm rfl F.plainAttrs_list F.slot_list_append rfl mt_append ms_append (pm_var 3) (pa_consM (pm_bm rfl F.plainAttrs_list F.slot_list_pop rfl mt_popAt ms_popAt (pm_var 2) (pa_consM (pm_call ((ok__law_take c).mono (by decide)) a rfl c.g__law_take c.f__law_take.kp (binds_of c.f__law_take ar__law_take) rfl (len_cons (len_cons (fun _ _ _ _ h => len_nil h))) (pa_consM (pm_var 0) (pa_consM (pm_cb call_len_seq cs_len rfl c.n_len bt_len (pa_consM (pm_var 2) pa_nilM)) pa_nilM))) pa_nilM)) pa_nilM))))) (pss_oneM (ps_retM (pm_var 3)))))
abbrev s__law_gcd : Stmt := top 23
theorem ar__law_gcd : ArgsN "_law_gcd" "_law_gcd" s__law_gcd ["one", "other"] := fun _ _ _ _ _ _ us hl => match us, hl with | [_, _], _ => rfl
theorem sc__law_gcd : FnScope ["one", "other", "lap"] ["one", "other"] (defScope s__law_gcd) := ⟨rfl, rfl, rfl, by decide +kernel, rfl, by decide +kernel, by decide +kernel⟩
def b__law_gcd : St1 := sSeq (sFor (fun ρ => (aCons (eC (.int 400)) (aNil)) ρ >>= srcRng1) (gtN 2) (sSeq (sIf (toB (eOp gEq (eVar 1) (eC (.int 0)))) (sBk) (sNx)) (sPar 0 1 (aCons (eVar 1) (aCons (eOp gMod (eCall gInt (aCons (eVar 0) (aNil))) (eVar 1)) (aNil)))))) (sRet (eVar 0))
def m__law_gcd : Fm := fnM 3 b__law_gcd
theorem ok__law_gcd {P : Program} {w : World} {K : PySem.W.Frag} {mg : Str → Option Value} {base : Heap} {tb : List (Addr × Str)} (c : Fx K mg) :
    FnM P w K mg base 1 (He.ga K "_law_gcd") (fdK K (He.ga K "_law_gcd")) ["one", "other"] (spM ⟨K, mg, tb⟩ 2 m__law_gcd) :=
  fnM_of c.f__law_gcd sc__law_gcd fun cdv A outer s H E a => (pss_consM (ps_forM a.own a.calm (iter_rng1 rfl c.n_range (pa_consM pm_int pa_nilM)) (pg_nm a.nd (i := 2) rfl (.inl rfl)) (pss_consM (ps_ifM (pb_cmp (op_eqD a.hu) os_eq (pm_var 1) pm_int rfl) (pss_oneM ps_breakM) pss_nilM) (pss_oneM (ps_parM a.calm a.nd (i := 0) (j := 1) rfl rfl (by decide) rfl rfl (pa_consM (pm_var 1) (pa_consM (pm_op op_mod os_mod (pm_ct call_int1 cs_int rfl c.n_int bt_int (pa_consM (pm_var 0) pa_nilM)) (pm_var 1)) pa_nilM)))))) (pss_oneM (ps_retM (pm_var 0))))
abbrev s__law_together : Stmt := top 24
theorem ar__law_together : ArgsN "_law_together" "_law_together" s__law_together ["some", "lost_here"] := fun _ _ _ _ _ _ us hl => match us, hl with | [_, _], _ => rfl
theorem sc__law_together : FnScope ["some", "lost_here", "one", "i", "free", "chain", "j", "both", "item"] ["some", "lost_here"] (defScope s__law_together) := ⟨rfl, rfl, rfl, by decide +kernel, rfl, by decide +kernel, by decide +kernel⟩
def b__law_together : St1 := sSeq (sPar 4 5 (aCons (eOp gIx (eVar 1) (eC (.int 0))) (aCons (eLst (aNil)) (aNil)))) (sSeq (sFor (fun ρ => (eOp gAdd (eVar 0) (eLst (aCons (eTup (aCons (eC (.int 0)) (aCons (eOp gMul (eTup (aCons (eC (.int 2)) (aNil))) (eOp gIx (eVar 1) (eC (.int 1)))) (aNil)))) (aCons (eTup (aCons (eC (.int 0)) (aCons (eOp gMul (eTup (aCons (eC (.int 3)) (aNil))) (eOp gIx (eVar 1) (eC (.int 2)))) (aNil)))) (aNil))))) ρ >>= srcOf) (gtN 2) (sPar 4 5 (aCons (eOp gAdd (eVar 4) (eOp gIx (eVar 2) (eC (.int 0)))) (aCons (eOp gAdd (eVar 5) (eCall gList (aCons (eOp gIx (eVar 2) (eC (.int 1))) (aNil)))) (aNil))))) (sSeq (sFor (fun ρ => (aCons (eCall gLen (aCons (eVar 5) (aNil))) (aNil)) ρ >>= srcRng1) (gtN 3) (sFor (fun ρ => (aCons (eOp gAdd (eVar 3) (eC (.int 1))) (aCons (eCall gLen (aCons (eVar 5) (aNil))) (aNil))) ρ >>= srcRng2) (gtN 6) (sSeq (sAsg ((fun ρ => (aCons (eOp gIx (eVar 5) (eVar 3)) (aCons (eOp gIx (eVar 5) (eVar 6)) (aNil))) ρ >>= m__law_gcd)) (gtN 7)) (sAsg (eTup (aCons (eVar 7) (aCons (eOp gFdv (eOp gMul (eOp gIx (eVar 5) (eVar 3)) (eOp gIx (eVar 5) (eVar 6))) (eVar 7)) (aNil)))) (gtTup 2 (gtCons (gtSub (eVar 5) (eVar 3)) (gtCons (gtSub (eVar 5) (eVar 6)) gtNil))))))) (sRet (eTup (aCons (eVar 4) (aCons (eCall gTuple (aCons (eLc (fun ρ => (eVar 5) ρ >>= srcOf) (gtN 8) (toB (eOp gGt (eVar 8) (eC (.int 1)))) (eVar 8) [8]) (aNil))) (aNil)))))))
def m__law_together : Fm := fnM 9 b__law_together
theorem ok__law_together {P : Program} {w : World} {K : PySem.W.Frag} {mg : Str → Option Value} {base : Heap} {tb : List (Addr × Str)} (c : Fx K mg) :
    FnM P w K mg base 2 (He.ga K "_law_together") (fdK K (He.ga K "_law_together")) ["some", "lost_here"] (spM ⟨K, mg, tb⟩ 2 m__law_together) :=
  fnM_of c.f__law_together sc__law_together fun cdv A outer s H E a => (pss_consM (ps_parM a.calm a.nd (i := 4) (j := 5) rfl rfl (by decide) rfl rfl (pa_consM (pm_ix ix_seq os_ix (pm_var 1) pm_int (by intro _ _; rfl)) (pa_consM (pm_lst pa_nilM) pa_nilM))) (pss_consM (ps_forM a.own a.calm (iter_seq rfl (pm_op op_addA os_add (pm_var 0) (pm_lst (pa_consM (pm_tup (pa_consM pm_int (pa_consM (pm_op op_mulA os_mul (pm_tup (pa_consM pm_int pa_nilM)) (pm_ix ix_seq os_ix (pm_var 1) pm_int (by intro _ _; rfl))) pa_nilM))) (pa_consM (pm_tup (pa_consM pm_int (pa_consM (pm_op op_mulA os_mul (pm_tup (pa_consM pm_int pa_nilM)) (pm_ix ix_seq os_ix (pm_var 1) pm_int (by intro _ _; rfl))) pa_nilM))) pa_nilM))))) (pg_nm a.nd (i := 2) rfl (.inl rfl)) (pss_oneM (ps_parM a.calm a.nd (i := 4) (j := 5) rfl rfl (by decide) rfl rfl (pa_consM (pm_op op_addA os_add (pm_var 4) (pm_ix ix_seq os_ix (pm_var 2) pm_int (by intro _ _; rfl))) (pa_consM (pm_op op_addA os_add (pm_var 5) (pm_ct call_list_of cs_list rfl c.n_list bt_list (pa_consM (pm_ix ix_seq os_ix (pm_var 2) pm_int (by intro _ _; rfl)) pa_nilM))) pa_nilM))))) (pss_consM (ps_forM a.own a.calm (iter_rng1 rfl c.n_range (pa_consM (pm_cb call_len_seq cs_len rfl c.n_len bt_len (pa_consM (pm_var 5) pa_nilM)) pa_nilM)) (pg_nm a.nd (i := 3) rfl (.inl rfl)) (pss_oneM (ps_forM a.own a.calm (iter_rng2 rfl c.n_range (pa_consM (pm_op op_addA os_add (pm_var 3) pm_int) (pa_consM (pm_cb call_len_seq cs_len rfl c.n_len bt_len (pa_consM (pm_var 5) pa_nilM)) pa_nilM))) (pg_nm a.nd (i := 6) rfl (.inl rfl)) (pss_consM (ps_setM a.nd (i := 7) rfl (.inl rfl) (pm_call ((ok__law_gcd c).mono (by decide)) a rfl c.g__law_gcd c.f__law_gcd.kp (binds_of c.f__law_gcd ar__law_gcd) rfl (len_cons (len_cons (fun _ _ _ _ h => len_nil h))) (pa_consM (pm_ix ix_seq os_ix (pm_var 5) (pm_var 3) (by intro _ _; rfl)) (pa_consM (pm_ix ix_seq os_ix (pm_var 5) (pm_var 6) (by intro _ _; rfl)) pa_nilM)))) (pss_oneM (ps_asgM (pm_tup (pa_consM (pm_var 7) (pa_consM (pm_op op_fdivW os_fdv (pm_op op_mulA os_mul (pm_ix ix_seq os_ix (pm_var 5) (pm_var 3) (by intro _ _; rfl)) (pm_ix ix_seq os_ix (pm_var 5) (pm_var 6) (by intro _ _; rfl))) (pm_var 7)) pa_nilM))) (pg_tupM rfl a.calm (pgs_consM (pg_subM (pm_var 5) (pm_var 3)) (pgs_consM (pg_subM (pm_var 5) (pm_var 6)) pgs_nilM))))))))) (pss_oneM (ps_retM (pm_tup (pa_consM (pm_var 4) (pa_consM (pm_ct call_tuple_of cs_tuple rfl c.n_tuple bt_tuple (pa_consM (pm_lc a.calm a.nd (own := [("item", 8)]) (iter_seq rfl (pm_var 5)) (blkOk_by rfl) (gw_name (by decide)) (fun _ _ _ _ _ => (pg_name a.nd (i := 8) rfl (.inl rfl))) (fun _ _ _ _ _ => (pts_oneM (pb_cmp op_gt os_gt (pm_var 8) pm_int rfl))) (fun _ _ _ _ _ => (pm_var 8))) pa_nilM)) pa_nilM))))))))
abbrev s__law_one : Stmt := top 25
theorem ar__law_one : ArgsN "_law_one" "_law_one" s__law_one ["draw"] := fun _ _ _ _ _ _ us hl => match us, hl with | [_], _ => rfl
theorem sc__law_one : FnScope ["draw", "lap", "chain", "here"] ["draw"] (defScope s__law_one) := ⟨rfl, rfl, rfl, by decide +kernel, rfl, by decide +kernel, by decide +kernel⟩
def b__law_one : St1 := sSeq (sPar 2 3 (aCons (eLst (aNil)) (aCons (eC (.int 1)) (aNil)))) (sSeq (sFor (fun ρ => (aCons ((fun ρ => (aCons (eVar 0) (aCons (eC (.int 4)) (aNil))) ρ >>= m__law_take)) (aNil)) ρ >>= srcRng1) (gtN 1) (sSeq (sAsg (eOp gMul (eVar 3) ((fun ρ => (aCons (eVar 0) (aCons (eLst (aCons (eC (.int 1)) (aCons (eC (.int 1)) (aCons (eC (.int 2)) (aCons (eC (.int 3)) (aCons (eC (.int 4)) (aCons (eC (.int 5)) (aCons (eC (.int 6)) (aCons (eC (.int 7)) (aCons (eOp gAdd (eOp gPow (eC (.int 10)) (eC (.int 20))) (eC (.int 39))) (aNil))))))))))) (aNil))) ρ >>= m__law_pick))) (gtN 3)) (sAsg (eOp gAdd (eVar 2) (eIf (toB (eOp gGt (eVar 3) (eC (.int 1)))) (eLst (aCons (eVar 3) (aNil))) (eLst (aNil)))) (gtN 2)))) (sRet (eTup (aCons ((fun ρ => (aCons (eVar 0) (aCons (eLst (aCons (eC (.int 0)) (aCons (eC (.int 0)) (aCons (eC (.int 1)) (aCons (eC (.int 2)) (aCons (eOp gPow (eC (.int 10)) (eC (.int 30))) (aNil))))))) (aNil))) ρ >>= m__law_pick)) (aCons (eCall gTuple (aCons (eVar 2) (aNil))) (aNil))))))
def m__law_one : Fm := fnM 4 b__law_one
theorem ok__law_one {P : Program} {w : World} {K : PySem.W.Frag} {mg : Str → Option Value} {base : Heap} {tb : List (Addr × Str)} (c : Fx K mg) :
    FnM P w K mg base 4 (He.ga K "_law_one") (fdK K (He.ga K "_law_one")) ["draw"] (spM ⟨K, mg, tb⟩ 1 m__law_one) :=
  fnM_of c.f__law_one sc__law_one fun cdv A outer s H E a => (pss_consM (ps_parM a.calm a.nd (i := 2) (j := 3) rfl rfl (by decide) rfl rfl (pa_consM (pm_lst pa_nilM) (pa_consM pm_int pa_nilM))) (pss_consM (ps_forM a.own a.calm (iter_rng1 rfl c.n_range (pa_consM (pm_call ((ok__law_take c).mono (by decide)) a rfl c.g__law_take c.f__law_take.kp (binds_of c.f__law_take ar__law_take) rfl (len_cons (len_cons (fun _ _ _ _ h => len_nil h))) (pa_consM (pm_var 0) (pa_consM pm_int pa_nilM))) pa_nilM)) (pg_nm a.nd (i := 1) rfl (.inl rfl)) (pss_consM (ps_setM a.nd (i := 3) rfl (.inl rfl) (pm_op op_mulA os_mul (pm_var 3) (pm_call ((ok__law_pick c).mono (by decide)) a rfl c.g__law_pick c.f__law_pick.kp (binds_of c.f__law_pick ar__law_pick) rfl (len_cons (len_cons (fun _ _ _ _ h => len_nil h))) (pa_consM (pm_var 0) (pa_consM (pm_lst (pa_consM pm_int (pa_consM pm_int (pa_consM pm_int (pa_consM pm_int (pa_consM pm_int (pa_consM pm_int (pa_consM pm_int (pa_consM pm_int (pa_consM (pm_op op_addA os_add (pm_op op_pow os_pow pm_int pm_int) pm_int) pa_nilM)))))))))) pa_nilM))))) (pss_oneM (ps_setM a.nd (i := 2) rfl (.inl rfl) (pm_op op_addA os_add (pm_var 2) (pm_if (pb_cmp op_gt os_gt (pm_var 3) pm_int rfl) (pm_lst (pa_consM (pm_var 3) pa_nilM)) (pm_lst pa_nilM))))))) (pss_oneM (ps_retM (pm_tup (pa_consM (pm_call ((ok__law_pick c).mono (by decide)) a rfl c.g__law_pick c.f__law_pick.kp (binds_of c.f__law_pick ar__law_pick) rfl (len_cons (len_cons (fun _ _ _ _ h => len_nil h))) (pa_consM (pm_var 0) (pa_consM (pm_lst (pa_consM pm_int (pa_consM pm_int (pa_consM pm_int (pa_consM pm_int (pa_consM (pm_op op_pow os_pow pm_int pm_int) pa_nilM)))))) pa_nilM))) (pa_consM (pm_ct call_tuple_of cs_tuple rfl c.n_tuple bt_tuple (pa_consM (pm_var 2) pa_nilM)) pa_nilM)))))))
abbrev s_law : Stmt := top 26
theorem ar_law : ArgsN "law" "law" s_law ["script"] := fun _ _ _ _ _ _ us hl => match us, hl with | [_], _ => rfl
theorem sc_law : FnScope ["script", "draw", "lap", "some", "triple", "spot", "odd", "bad", "wrong", "given", "due", "k"] ["script"] (defScope s_law) := ⟨rfl, rfl, rfl, by decide +kernel, rfl, by decide +kernel, by decide +kernel⟩
theorem ak_rings_with_lost_rings : ArgsK "rings_with" "rings_with" s_rings_with ["rings", "lost"] ["lost", "rings"] [1, 0] := fun _ _ _ _ _ _ us ws h1 h2 => match ws, h2, us, h1 with | [_, _], _, [], _ => rfl
theorem kwl_rings_with_lost_rings : ∀ ws : List W, ws.length = 2 → (kwPerm [1, 0] ws).length = 2 := fun ws h => match ws, h with | [_, _], _ => rfl
def b_law : St1 := sSeq (sAsg ((fun ρ => (aCons (eVar 0) (aNil)) ρ >>= m__law_begun)) (gtN 1)) (sSeq (sFor (fun ρ => (aCons (eOp gAdd (eC (.int 3)) (eCall gMin2 (aCons (eCall gLen (aCons (eVar 0) (aNil))) (aCons (eC (.int 3)) (aNil))))) (aNil)) ρ >>= srcRng1) (gtN 2) (sSeq (sAsg (eLc (fun ρ => (aCons ((fun ρ => (aCons (eVar 1) (aCons (eLst (aCons (eC (.int 0)) (aCons (eC (.int 1)) (aCons (eC (.int 2)) (aCons (eC (.int 3)) (aCons (eC (.int 5)) (aCons (eC (.int 60)) (aNil)))))))) (aNil))) ρ >>= m__law_pick)) (aNil)) ρ >>= srcRng1) (gtN 11) (cYes) ((fun ρ => (aCons (eVar 1) (aNil)) ρ >>= m__law_one)) [11]) (gtN 3)) (sSeq (sAsg (eCall gTuple (aCons (eLc (fun ρ => (aCons (eC (.int 3)) (aNil)) ρ >>= srcRng1) (gtN 11) (cYes) ((fun ρ => (aCons (eVar 1) (aCons (eLst (aCons (eC (.int 0)) (aCons (eC (.int 0)) (aCons (eC (.int 1)) (aCons (eC (.int 2)) (aCons (eC (.int 3)) (aCons (eC (.int 60)) (aNil)))))))) (aNil))) ρ >>= m__law_pick)) [11]) (aNil))) (gtN 4)) (sSeq (sPar 9 10 (aCons (eCall gList (aCons (eVar 3) (aNil))) (aCons ((fun ρ => (aCons (eVar 3) (aCons (eVar 4) (aNil))) ρ >>= m__law_together)) (aNil)))) (sSeq (sIf (bOr (toB (eOp gNe (eCall gRepr (aCons ((fun ρ => (aCons (eVar 3) (aCons (eVar 4) (aNil))) ρ >>= m_rings_with)) (aNil))) (eCall gRepr (aCons (eVar 10) (aNil))))) (bOr (toB (eOp gNe (eVar 3) (eVar 9))) (toB (eOp gNe (eCallK [1, 0] aNil (aCons (eVar 4) (aCons (eCall gTuple (aCons ((fun ρ => (aCons (eVar 1) (aCons (eVar 3) (aNil))) ρ >>= m__law_shuffled)) (aNil))) (aNil))) m_rings_with) (eVar 10))))) (sRet (eC (.bl false))) (sNx)) (sSeq (sAsg ((fun ρ => (aCons (eVar 1) (aCons (eOp gAdd (eCall gLen (aCons (eVar 3) (aNil))) (eC (.int 1))) (aNil))) ρ >>= m__law_take)) (gtN 5)) (sSeq (sIf (toB (eOp gNe ((fun ρ => (aCons (eLst (aCons ((fun ρ => (aCons (eSl (eVar 3) oNo (oYes (eVar 5))) (aCons (eTup (aCons (eC (.int 0)) (aCons (eC (.int 0)) (aCons (eC (.int 0)) (aNil))))) (aNil))) ρ >>= m_rings_with)) (aCons ((fun ρ => (aCons (eSl (eVar 3) (oYes (eVar 5)) oNo) (aCons (eVar 4) (aNil))) ρ >>= m_rings_with)) (aNil)))) (aCons (eTup (aCons (eC (.int 0)) (aCons (eC (.int 0)) (aCons (eC (.int 0)) (aNil))))) (aNil))) ρ >>= m_rings_with)) (eVar 10))) (sRet (eC (.bl false))) (sNx)) (sSeq (sAsg ((fun ρ => (aCons (eVar 1) (aCons (eLst (aCons (eC .non) (aCons (eTup (aCons (eC (.int 0)) (aCons (eC (.int 0)) (aNil)))) (aCons (eLst (aCons (eC (.int 0)) (aCons (eC (.int 0)) (aCons (eC (.int 0)) (aNil))))) (aCons (eTup (aCons (eC (.int 0)) (aCons (eC (.int 0)) (aCons (eC (.int 61)) (aNil))))) (aCons (eTup (aCons (eUn gNeg (eC (.int 1))) (aCons (eC (.int 0)) (aCons (eC (.int 0)) (aNil))))) (aCons (eTup (aCons (eC (.bl true)) (aCons (eC (.int 0)) (aCons (eC (.int 0)) (aNil))))) (aCons (eTup (aCons (eC (.int 0)) (aCons (eC (.int 0)) (aCons (eC .non) (aNil))))) (aCons (eC (.int 3)) (aCons (eDict0) (aNil))))))))))) (aNil))) ρ >>= m__law_pick)) (gtN 6)) (sSeq (sAsg (eLst (aCons (eTup (aCons (eC (.int 0)) (aCons (eTup (aCons (eC (.int 1)) (aNil))) (aNil)))) (aCons (eTup (aCons (eUn gNeg (eC (.int 1))) (aCons (eTup (aNil)) (aNil)))) (aCons (eTup (aCons (eC (.int 0)) (aCons (eTup (aCons (eC (.int 2)) (aCons (eC (.int 3)) (aNil)))) (aNil)))) (aCons (eTup (aCons (eC (.int 0)) (aCons (eLst (aCons (eC (.int 2)) (aNil))) (aNil)))) (aCons (eTup (aCons (eC (.int 0)) (aCons (eTup (aCons (eC (.int 0)) (aNil))) (aNil)))) (aCons (eTup (aCons (eC (.bl true)) (aCons (eTup (aNil)) (aNil)))) (aCons (eTup (aCons (eC (.int 0)) (aNil))) (aCons (eTup (aCons (eC (.int 0)) (aCons (eTup (aNil)) (aCons (eC (.int 0)) (aNil))))) (aCons (eLst (aCons (eC (.int 0)) (aCons (eTup (aNil)) (aNil)))) (aCons (eC .non) (aCons (eTup (aCons (eC (.int 0)) (aCons (eTup (aCons (eC (.int 4)) (aCons (eC (.int 2)) (aNil)))) (aNil)))) (aCons (eTup (aCons (eC (.int 0)) (aCons (eTup (aCons (eC (.bl true)) (aCons (eC (.int 2)) (aNil)))) (aNil)))) (aCons (eTup (aCons (eC (.str "0")) (aCons (eTup (aNil)) (aNil)))) (aNil))))))))))))))) (gtN 7)) (sSeq (sAsg ((fun ρ => (aCons (eVar 1) (aCons (eLst (aCons (eC .non) (aCons (eC (.int 5)) (aCons (eDict0) (aCons (eC (.str "rings")) (aCons (eLst (aCons ((fun ρ => (aCons (eVar 1) (aCons (eVar 7) (aNil))) ρ >>= m__law_pick)) (aNil))) (aCons (eOp gAdd (eSl (eVar 3) oNo (oYes (eC (.int 59)))) (eLst (aCons ((fun ρ => (aCons (eVar 1) (aCons (eVar 7) (aNil))) ρ >>= m__law_pick)) (aNil)))) (aCons (eOp gMul (eLst (aCons (eTup (aCons (eC (.int 0)) (aCons (eTup (aNil)) (aNil)))) (aNil))) (eC (.int 61))) (aNil))))))))) (aNil))) ρ >>= m__law_pick)) (gtN 8)) (sSeq (sIf (bNot (toB (eUn (gIsC isc_BadRings) (eCaught sub_SkinError ((fun ρ => (aCons (eVar 8) (aCons (eVar 6) (aNil))) ρ >>= m_rings_with)))))) (sRet (eC (.bl false))) (sNx)) (sIf (bNot (toB (eUn (gIsC isc_BadLost) (eCaught sub_SkinError ((fun ρ => (aCons (eVar 3) (aCons (eVar 6) (aNil))) ρ >>= m_rings_with)))))) (sRet (eC (.bl false))) (sNx))))))))))))) (sRet (eC (.bl true))))
def m_law : Fm := fnM 12 b_law
abbrev tb_law (K : PySem.W.Frag) : List (Addr × Str) := [((He.tabOf K (He.codeOf K ("law", none))), envQ "law" ++ "<lambda>")]
theorem ok_law {P : Program} {w : World} {K : PySem.W.Frag} {mg : Str → Option Value} {base : Heap} (c : Fx K mg) (TB : LamX.TabB base mg (He.codeOf K ("law", none)) (He.tabOf K (He.codeOf K ("law", none)))) :
    FnM P w K mg base 6 (He.ga K "law") (fdK K (He.ga K "law")) ["script"] (spM ⟨K, mg, tb_law K⟩ 1 m_law) := by
  refine fnM_ofC c.f_law sc_law fun cdv hcd A outer s H E a => ?_
  obtain rfl := cdAt_code (p := ("law", none)) hcd
  exact (pss_consM (ps_setM a.nd (i := 1) rfl (.inr rfl) (pm_call ((ok__law_begun c).mono (by decide)) a rfl c.g__law_begun c.f__law_begun.kp (binds_of c.f__law_begun ar__law_begun) rfl (len_cons (fun _ _ _ _ h => len_nil h)) (pa_consM (pm_var 0) pa_nilM))) (pss_consM (ps_forM a.own a.calm (iter_rng1 rfl c.n_range (pa_consM (pm_op op_addA os_add pm_int (pm_cb (call_min2 a.calm) cs_min2 rfl c.n_min bt_min (pa_consM (pm_cb call_len_seq cs_len rfl c.n_len bt_len (pa_consM (pm_var 0) pa_nilM)) (pa_consM pm_int pa_nilM)))) pa_nilM)) (pg_nm a.nd (i := 2) rfl (.inl rfl)) (pss_consM (ps_setM a.nd (i := 3) rfl (.inr rfl) (pm_lc a.calm a.nd (own := [("k", 11)]) (iter_rng1 rfl c.n_range (pa_consM (pm_call ((ok__law_pick c).mono (by decide)) a rfl c.g__law_pick c.f__law_pick.kp (binds_of c.f__law_pick ar__law_pick) rfl (len_cons (len_cons (fun _ _ _ _ h => len_nil h))) (pa_consM (pm_var 1) (pa_consM (pm_lst (pa_consM pm_int (pa_consM pm_int (pa_consM pm_int (pa_consM pm_int (pa_consM pm_int (pa_consM pm_int pa_nilM))))))) pa_nilM))) pa_nilM)) (blkOk_by rfl) (gw_name (by decide)) (fun _ _ _ _ _ => (pg_name a.nd (i := 11) rfl (.inl rfl))) (fun _ _ _ _ _ => pts_nilM) (fun _ _ _ _ _ => (pm_call ((ok__law_one c).mono (by decide)) (a.blk _ _ _ _ _) rfl c.g__law_one c.f__law_one.kp (binds_of c.f__law_one ar__law_one) rfl (len_cons (fun _ _ _ _ h => len_nil h)) (pa_consM (pm_var 1) pa_nilM))))) (pss_consM (ps_setM a.nd (i := 4) rfl (.inl rfl) (pm_ct call_tuple_of cs_tuple rfl c.n_tuple bt_tuple (pa_consM (pm_lc a.calm a.nd (own := [("k", 11)]) (iter_rng1 rfl c.n_range (pa_consM pm_int pa_nilM)) (blkOk_by rfl) (gw_name (by decide)) (fun _ _ _ _ _ => (pg_name a.nd (i := 11) rfl (.inl rfl))) (fun _ _ _ _ _ => pts_nilM) (fun _ _ _ _ _ => (pm_call ((ok__law_pick c).mono (by decide)) (a.blk _ _ _ _ _) rfl c.g__law_pick c.f__law_pick.kp (binds_of c.f__law_pick ar__law_pick) rfl (len_cons (len_cons (fun _ _ _ _ h => len_nil h))) (pa_consM (pm_var 1) (pa_consM (pm_lst (pa_consM pm_int (pa_consM pm_int (pa_consM pm_int (pa_consM pm_int (pa_consM pm_int (pa_consM pm_int pa_nilM))))))) pa_nilM))))) pa_nilM))) (pss_consM (ps_parM a.calm a.nd (i := 9) (j := 10) rfl rfl (by decide) rfl rfl (pa_consM (pm_ct call_list_of cs_list rfl c.n_list bt_list (pa_consM (pm_var 3) pa_nilM)) (pa_consM (pm_call ((ok__law_together c).mono (by decide)) a rfl c.g__law_together c.f__law_together.kp (binds_of c.f__law_together ar__law_together) rfl (len_cons (len_cons (fun _ _ _ _ h => len_nil h))) (pa_consM (pm_var 3) (pa_consM (pm_var 4) pa_nilM))) pa_nilM))) (pss_consM (ps_ifM (pw_pt (pb_or (pb_cmp (op_neD a.hu) os_ne (pm_cb (cr_repr a.gd a.hu) cs_repr rfl c.n_repr bt_repr (pa_consM (pm_call ((ok_rings_with c).mono (by decide)) a rfl c.g_rings_with c.f_rings_with.kp (binds_of c.f_rings_with ar_rings_with) rfl (len_cons (len_cons (fun _ _ _ _ h => len_nil h))) (pa_consM (pm_var 3) (pa_consM (pm_var 4) pa_nilM))) pa_nilM)) (pm_cb (cr_repr a.gd a.hu) cs_repr rfl c.n_repr bt_repr (pa_consM (pm_var 10) pa_nilM)) rfl) (pb_or (pb_cmp (op_neD a.hu) os_ne (pm_var 3) (pm_var 9) rfl) (pb_or1 (pb_cmp (op_neD a.hu) os_ne (pm_callK0 ((ok_rings_with c).mono (by decide)) a rfl c.g_rings_with c.f_rings_with.kp (bindsK_of c.f_rings_with ak_rings_with_lost_rings) rfl (kwl_rings_with_lost_rings) (pkn_cons (pm_var 4) (pkn_cons (pm_ct call_tuple_of cs_tuple rfl c.n_tuple bt_tuple (pa_consM (pm_call ((ok__law_shuffled c).mono (by decide)) a rfl c.g__law_shuffled c.f__law_shuffled.kp (binds_of c.f__law_shuffled ar__law_shuffled) rfl (len_cons (len_cons (fun _ _ _ _ h => len_nil h))) (pa_consM (pm_var 1) (pa_consM (pm_var 3) pa_nilM))) pa_nilM)) pkn_nil))) (pm_var 10) rfl))))) (pss_oneM (ps_retM pm_bl)) pss_nilM) (pss_consM (ps_setM a.nd (i := 5) rfl (.inl rfl) (pm_call ((ok__law_take c).mono (by decide)) a rfl c.g__law_take c.f__law_take.kp (binds_of c.f__law_take ar__law_take) rfl (len_cons (len_cons (fun _ _ _ _ h => len_nil h))) (pa_consM (pm_var 1) (pa_consM (pm_op op_addA os_add (pm_cb call_len_seq cs_len rfl c.n_len bt_len (pa_consM (pm_var 3) pa_nilM)) pm_int) pa_nilM)))) (pss_consM (ps_ifM (pb_cmp (op_neD a.hu) os_ne (pm_call ((ok_rings_with c).mono (by decide)) a rfl c.g_rings_with c.f_rings_with.kp (binds_of c.f_rings_with ar_rings_with) rfl (len_cons (len_cons (fun _ _ _ _ h => len_nil h))) (pa_consM (pm_lst (pa_consM (pm_call ((ok_rings_with c).mono (by decide)) a rfl c.g_rings_with c.f_rings_with.kp (binds_of c.f_rings_with ar_rings_with) rfl (len_cons (len_cons (fun _ _ _ _ h => len_nil h))) (pa_consM (pm_slice rfl (pm_var 3) pmo_no (pmo_yes (pm_var 5))) (pa_consM (pm_tup (pa_consM pm_int (pa_consM pm_int (pa_consM pm_int pa_nilM)))) pa_nilM))) (pa_consM (pm_call ((ok_rings_with c).mono (by decide)) a rfl c.g_rings_with c.f_rings_with.kp (binds_of c.f_rings_with ar_rings_with) rfl (len_cons (len_cons (fun _ _ _ _ h => len_nil h))) (pa_consM (pm_slice rfl (pm_var 3) (pmo_yes (pm_var 5)) pmo_no) (pa_consM (pm_var 4) pa_nilM))) pa_nilM))) (pa_consM (pm_tup (pa_consM pm_int (pa_consM pm_int (pa_consM pm_int pa_nilM)))) pa_nilM))) (pm_var 10) rfl) (pss_oneM (ps_retM pm_bl)) pss_nilM) (pss_consM (ps_setM a.nd (i := 6) rfl (.inr rfl) (pm_call ((ok__law_pick c).mono (by decide)) a rfl c.g__law_pick c.f__law_pick.kp (binds_of c.f__law_pick ar__law_pick) rfl (len_cons (len_cons (fun _ _ _ _ h => len_nil h))) (pa_consM (pm_var 1) (pa_consM (pm_lst (pa_consM pm_non (pa_consM (pm_tup (pa_consM pm_int (pa_consM pm_int pa_nilM))) (pa_consM (pm_lst (pa_consM pm_int (pa_consM pm_int (pa_consM pm_int pa_nilM)))) (pa_consM (pm_tup (pa_consM pm_int (pa_consM pm_int (pa_consM pm_int pa_nilM)))) (pa_consM (pm_tup (pa_consM (pm_neg pm_int) (pa_consM pm_int (pa_consM pm_int pa_nilM)))) (pa_consM (pm_tup (pa_consM pm_bl (pa_consM pm_int (pa_consM pm_int pa_nilM)))) (pa_consM (pm_tup (pa_consM pm_int (pa_consM pm_int (pa_consM pm_non pa_nilM)))) (pa_consM pm_int (pa_consM pm_dict0 pa_nilM)))))))))) pa_nilM)))) (pss_consM (ps_setM a.nd (i := 7) rfl (.inl rfl) (pm_lst (pa_consM (pm_tup (pa_consM pm_int (pa_consM (pm_tup (pa_consM pm_int pa_nilM)) pa_nilM))) (pa_consM (pm_tup (pa_consM (pm_neg pm_int) (pa_consM (pm_tup pa_nilM) pa_nilM))) (pa_consM (pm_tup (pa_consM pm_int (pa_consM (pm_tup (pa_consM pm_int (pa_consM pm_int pa_nilM))) pa_nilM))) (pa_consM (pm_tup (pa_consM pm_int (pa_consM (pm_lst (pa_consM pm_int pa_nilM)) pa_nilM))) (pa_consM (pm_tup (pa_consM pm_int (pa_consM (pm_tup (pa_consM pm_int pa_nilM)) pa_nilM))) (pa_consM (pm_tup (pa_consM pm_bl (pa_consM (pm_tup pa_nilM) pa_nilM))) (pa_consM (pm_tup (pa_consM pm_int pa_nilM)) (pa_consM (pm_tup (pa_consM pm_int (pa_consM (pm_tup pa_nilM) (pa_consM pm_int pa_nilM)))) (pa_consM (pm_lst (pa_consM pm_int (pa_consM (pm_tup pa_nilM) pa_nilM))) (pa_consM pm_non (pa_consM (pm_tup (pa_consM pm_int (pa_consM (pm_tup (pa_consM pm_int (pa_consM pm_int pa_nilM))) pa_nilM))) (pa_consM (pm_tup (pa_consM pm_int (pa_consM (pm_tup (pa_consM pm_bl (pa_consM pm_int pa_nilM))) pa_nilM))) (pa_consM (pm_tup (pa_consM pm_str (pa_consM (pm_tup pa_nilM) pa_nilM))) pa_nilM))))))))))))))) (pss_consM (ps_setM a.nd (i := 8) rfl (.inr rfl) (pm_call ((ok__law_pick c).mono (by decide)) a rfl c.g__law_pick c.f__law_pick.kp (binds_of c.f__law_pick ar__law_pick) rfl (len_cons (len_cons (fun _ _ _ _ h => len_nil h))) (pa_consM (pm_var 1) (pa_consM (pm_lst (pa_consM pm_non (pa_consM pm_int (pa_consM pm_dict0 (pa_consM pm_str (pa_consM (pm_lst (pa_consM (pm_call ((ok__law_pick c).mono (by decide)) a rfl c.g__law_pick c.f__law_pick.kp (binds_of c.f__law_pick ar__law_pick) rfl (len_cons (len_cons (fun _ _ _ _ h => len_nil h))) (pa_consM (pm_var 1) (pa_consM (pm_var 7) pa_nilM))) pa_nilM)) (pa_consM (pm_op op_addA os_add (pm_slice rfl (pm_var 3) pmo_no (pmo_yes pm_int)) (pm_lst (pa_consM (pm_call ((ok__law_pick c).mono (by decide)) a rfl c.g__law_pick c.f__law_pick.kp (binds_of c.f__law_pick ar__law_pick) rfl (len_cons (len_cons (fun _ _ _ _ h => len_nil h))) (pa_consM (pm_var 1) (pa_consM (pm_var 7) pa_nilM))) pa_nilM))) (pa_consM (pm_op op_mulA os_mul (pm_lst (pa_consM (pm_tup (pa_consM pm_int (pa_consM (pm_tup pa_nilM) pa_nilM))) pa_nilM)) pm_int) pa_nilM)))))))) pa_nilM)))) (pss_consM (ps_ifM (pb_not (pb_val (pm_isc rfl c.isc_BadRings rfl c.n_isinstance (pm_caught (k := 3) cat__law_caught c.f__law_caught rfl rfl a rfl c.g__law_caught (binds_of c.f__law_caught ar__law_caught) c.g_SkinError c.sub_SkinError TB rfl (List.mem_singleton.mpr rfl) (tb_one rfl) (LamX.lamS_by rfl) rfl (fun _ _ _ _ _ => rfl) (fun A outer s H E f c2 a2 => (pm_call ((ok_rings_with c).mono (by decide)) a2 rfl c.g_rings_with c.f_rings_with.kp (binds_of c.f_rings_with ar_rings_with) rfl (len_cons (len_cons (fun _ _ _ _ h => len_nil h))) (pa_consM (pm_var 8) (pa_consM (pm_var 6) pa_nilM))))) rfl c.g_BadRings))) (pss_oneM (ps_retM pm_bl)) pss_nilM) (pss_oneM (ps_ifM (pb_not (pb_val (pm_isc rfl c.isc_BadLost rfl c.n_isinstance (pm_caught (k := 3) cat__law_caught c.f__law_caught rfl rfl a rfl c.g__law_caught (binds_of c.f__law_caught ar__law_caught) c.g_SkinError c.sub_SkinError TB rfl (List.mem_singleton.mpr rfl) (tb_one rfl) (LamX.lamS_by rfl) rfl (fun _ _ _ _ _ => rfl) (fun A outer s H E f c2 a2 => (pm_call ((ok_rings_with c).mono (by decide)) a2 rfl c.g_rings_with c.f_rings_with.kp (binds_of c.f_rings_with ar_rings_with) rfl (len_cons (len_cons (fun _ _ _ _ h => len_nil h))) (pa_consM (pm_var 3) (pa_consM (pm_var 6) pa_nilM))))) rfl c.g_BadLost))) (pss_oneM (ps_retM pm_bl)) pss_nilM))))))))))))) (pss_oneM (ps_retM pm_bl))))
def fa : List He.Fa := [.glo "is_number", .glo "is_between", .glo "is_list", .glo "is_tuple", .glo "are_rings", .glo "joined_rings", .glo "with_lost", .glo "rings_with", .glo "_law_begun", .glo "_law_mixed", .glo "_law_take", .glo "_law_pick", .glo "_law_caught", .glo "_law_shuffled", .glo "_law_gcd", .glo "_law_together", .glo "_law_one", .glo "law", .glo "SkinError", .glo "BadRings", .glo "BadLost", .free "abs", .free "all", .free "bool", .free "int", .free "isinstance", .free "len", .free "list", .free "min", .free "range", .free "repr", .free "reversed", .free "sum", .free "tuple", .free "zip", .int "MOST_RINGS" 60, .exc "BadLost", .exc "BadRings", .exm "BadLost" "SkinError" true, .exm "BadRings" "SkinError" true]
def d_is_number : He.DefD := ⟨("is_number", none), "is_number", "is_number", defArgs s_is_number, defBody s_is_number, defScope s_is_number, [], []⟩
def d_is_between : He.DefD := ⟨("is_between", none), "is_between", "is_between", defArgs s_is_between, defBody s_is_between, defScope s_is_between, [], []⟩
def d_is_list : He.DefD := ⟨("is_list", none), "is_list", "is_list", defArgs s_is_list, defBody s_is_list, defScope s_is_list, [], []⟩
def d_is_tuple : He.DefD := ⟨("is_tuple", none), "is_tuple", "is_tuple", defArgs s_is_tuple, defBody s_is_tuple, defScope s_is_tuple, [], []⟩
def d_are_rings : He.DefD := ⟨("are_rings", none), "are_rings", "are_rings", defArgs s_are_rings, defBody s_are_rings, defScope s_are_rings, [], []⟩
def d_joined_rings : He.DefD := ⟨("joined_rings", none), "joined_rings", "joined_rings", defArgs s_joined_rings, defBody s_joined_rings, defScope s_joined_rings, [], []⟩
def d_with_lost : He.DefD := ⟨("with_lost", none), "with_lost", "with_lost", defArgs s_with_lost, defBody s_with_lost, defScope s_with_lost, [], []⟩
def d_rings_with : He.DefD := ⟨("rings_with", none), "rings_with", "rings_with", defArgs s_rings_with, defBody s_rings_with, defScope s_rings_with, [], []⟩
def d__law_begun : He.DefD := ⟨("_law_begun", none), "_law_begun", "_law_begun", defArgs s__law_begun, defBody s__law_begun, defScope s__law_begun, [], []⟩
def d__law_mixed : He.DefD := ⟨("_law_mixed", none), "_law_mixed", "_law_mixed", defArgs s__law_mixed, defBody s__law_mixed, defScope s__law_mixed, [], []⟩
def d__law_take : He.DefD := ⟨("_law_take", none), "_law_take", "_law_take", defArgs s__law_take, defBody s__law_take, defScope s__law_take, [], []⟩
def d__law_pick : He.DefD := ⟨("_law_pick", none), "_law_pick", "_law_pick", defArgs s__law_pick, defBody s__law_pick, defScope s__law_pick, [], []⟩
def d__law_caught : He.DefD := ⟨("_law_caught", none), "_law_caught", "_law_caught", defArgs s__law_caught, defBody s__law_caught, defScope s__law_caught, [], []⟩
def d__law_shuffled : He.DefD := ⟨("_law_shuffled", none), "_law_shuffled", "_law_shuffled", defArgs s__law_shuffled, defBody s__law_shuffled, defScope s__law_shuffled, [], []⟩
def d__law_gcd : He.DefD := ⟨("_law_gcd", none), "_law_gcd", "_law_gcd", defArgs s__law_gcd, defBody s__law_gcd, defScope s__law_gcd, [], []⟩
def d__law_together : He.DefD := ⟨("_law_together", none), "_law_together", "_law_together", defArgs s__law_together, defBody s__law_together, defScope s__law_together, [], []⟩
def d__law_one : He.DefD := ⟨("_law_one", none), "_law_one", "_law_one", defArgs s__law_one, defBody s__law_one, defScope s__law_one, [], []⟩
def d_law : He.DefD := ⟨("law", none), "law", "law", defArgs s_law, defBody s_law, defScope s_law, [], []⟩
def fn : List He.DefD := [d_is_number, d_is_between, d_is_list, d_is_tuple, d_are_rings, d_joined_rings, d_with_lost, d_rings_with, d__law_begun, d__law_mixed, d__law_take, d__law_pick, d__law_caught, d__law_shuffled, d__law_gcd, d__law_together, d__law_one, d_law]
def ex (K : PySem.W.Frag) : Bool := (bltOk K "gcd" "math.gcd" && (nonOk K (He.ga K "BadLost") && (nonOk K (He.ga K "BadRings") && (subOk K (He.ga K "BadLost") (He.ga K "BadLost") true && (subOk K (He.ga K "BadRings") (He.ga K "BadLost") false && (subOk K (He.ga K "BadLost") (He.ga K "BadRings") false && (subOk K (He.ga K "BadRings") (He.ga K "BadRings") true && true)))))))
def tf : List He.Defn := [("law", none)]
theorem fx_of {w : World} {h : Heap} {K : PySem.W.Frag} {mg : Str → Option Value} (X : K.In h) (G : h.Ns mainGlobals mg) (c : He.SaysX fa fn [] tf ex w h K) : Fx K mg := by
  have D : ∀ (i : Nat) {d : He.DefD}, fn[i]? = some d → ∃ fd, FunD K d.name d.qual d.params d.body d.scope (d.dvs K) (d.kws K) (He.fAd K d.at_) fd := fun i d h => c.t.d.def_ i h
  have A : ∀ (i : Nat) {f : He.Fa}, fa[i]? = some f → f.ok K = true := fun i f h => c.t.d.fact i h
  have e0 := c.more
  obtain ⟨x0, e1⟩ := He.ba (show (_ && _) = true from e0)
  obtain ⟨x1, e2⟩ := He.ba (show (_ && _) = true from e1)
  obtain ⟨x2, e3⟩ := He.ba (show (_ && _) = true from e2)
  obtain ⟨x3, e4⟩ := He.ba (show (_ && _) = true from e3)
  obtain ⟨x4, e5⟩ := He.ba (show (_ && _) = true from e4)
  obtain ⟨x5, e6⟩ := He.ba (show (_ && _) = true from e5)
  obtain ⟨x6, e7⟩ := He.ba (show (_ && _) = true from e6)
  exact {
    f_is_number := (D 0 (d := d_is_number) rfl).elim fun fd F => fun_fdK (fun_ofD F)
    f_is_between := (D 1 (d := d_is_between) rfl).elim fun fd F => fun_fdK (fun_ofD F)
    f_is_list := (D 2 (d := d_is_list) rfl).elim fun fd F => fun_fdK (fun_ofD F)
    f_is_tuple := (D 3 (d := d_is_tuple) rfl).elim fun fd F => fun_fdK (fun_ofD F)
    f_are_rings := (D 4 (d := d_are_rings) rfl).elim fun fd F => fun_fdK (fun_ofD F)
    f_joined_rings := (D 5 (d := d_joined_rings) rfl).elim fun fd F => fun_fdK (fun_ofD F)
    f_with_lost := (D 6 (d := d_with_lost) rfl).elim fun fd F => fun_fdK (fun_ofD F)
    f_rings_with := (D 7 (d := d_rings_with) rfl).elim fun fd F => fun_fdK (fun_ofD F)
    f__law_begun := (D 8 (d := d__law_begun) rfl).elim fun fd F => fun_fdK (fun_ofD F)
    f__law_mixed := (D 9 (d := d__law_mixed) rfl).elim fun fd F => fun_fdK (fun_ofD F)
    f__law_take := (D 10 (d := d__law_take) rfl).elim fun fd F => fun_fdK (fun_ofD F)
    f__law_pick := (D 11 (d := d__law_pick) rfl).elim fun fd F => fun_fdK (fun_ofD F)
    f__law_caught := (D 12 (d := d__law_caught) rfl).elim fun fd F => fun_fdK (fun_ofD F)
    f__law_shuffled := (D 13 (d := d__law_shuffled) rfl).elim fun fd F => fun_fdK (fun_ofD F)
    f__law_gcd := (D 14 (d := d__law_gcd) rfl).elim fun fd F => fun_fdK (fun_ofD F)
    f__law_together := (D 15 (d := d__law_together) rfl).elim fun fd F => fun_fdK (fun_ofD F)
    f__law_one := (D 16 (d := d__law_one) rfl).elim fun fd F => fun_fdK (fun_ofD F)
    f_law := (D 17 (d := d_law) rfl).elim fun fd F => fun_fdK (fun_ofD F)
    g_is_number := He.glo_ok X G (A 0 (f := .glo "is_number") rfl)
    g_is_between := He.glo_ok X G (A 1 (f := .glo "is_between") rfl)
    g_is_list := He.glo_ok X G (A 2 (f := .glo "is_list") rfl)
    g_is_tuple := He.glo_ok X G (A 3 (f := .glo "is_tuple") rfl)
    g_are_rings := He.glo_ok X G (A 4 (f := .glo "are_rings") rfl)
    g_joined_rings := He.glo_ok X G (A 5 (f := .glo "joined_rings") rfl)
    g_with_lost := He.glo_ok X G (A 6 (f := .glo "with_lost") rfl)
    g_rings_with := He.glo_ok X G (A 7 (f := .glo "rings_with") rfl)
    g__law_begun := He.glo_ok X G (A 8 (f := .glo "_law_begun") rfl)
    g__law_mixed := He.glo_ok X G (A 9 (f := .glo "_law_mixed") rfl)
    g__law_take := He.glo_ok X G (A 10 (f := .glo "_law_take") rfl)
    g__law_pick := He.glo_ok X G (A 11 (f := .glo "_law_pick") rfl)
    g__law_caught := He.glo_ok X G (A 12 (f := .glo "_law_caught") rfl)
    g__law_shuffled := He.glo_ok X G (A 13 (f := .glo "_law_shuffled") rfl)
    g__law_gcd := He.glo_ok X G (A 14 (f := .glo "_law_gcd") rfl)
    g__law_together := He.glo_ok X G (A 15 (f := .glo "_law_together") rfl)
    g__law_one := He.glo_ok X G (A 16 (f := .glo "_law_one") rfl)
    g_law := He.glo_ok X G (A 17 (f := .glo "law") rfl)
    g_SkinError := He.glo_ok X G (A 18 (f := .glo "SkinError") rfl)
    g_BadRings := He.glo_ok X G (A 19 (f := .glo "BadRings") rfl)
    g_BadLost := He.glo_ok X G (A 20 (f := .glo "BadLost") rfl)
    n_abs := He.free_ok X G (A 21 (f := .free "abs") rfl)
    n_all := He.free_ok X G (A 22 (f := .free "all") rfl)
    n_bool := He.free_ok X G (A 23 (f := .free "bool") rfl)
    n_int := He.free_ok X G (A 24 (f := .free "int") rfl)
    n_isinstance := He.free_ok X G (A 25 (f := .free "isinstance") rfl)
    n_len := He.free_ok X G (A 26 (f := .free "len") rfl)
    n_list := He.free_ok X G (A 27 (f := .free "list") rfl)
    n_min := He.free_ok X G (A 28 (f := .free "min") rfl)
    n_range := He.free_ok X G (A 29 (f := .free "range") rfl)
    n_repr := He.free_ok X G (A 30 (f := .free "repr") rfl)
    n_reversed := He.free_ok X G (A 31 (f := .free "reversed") rfl)
    n_sum := He.free_ok X G (A 32 (f := .free "sum") rfl)
    n_tuple := He.free_ok X G (A 33 (f := .free "tuple") rfl)
    n_zip := He.free_ok X G (A 34 (f := .free "zip") rfl)
    i_MOST_RINGS := He.int_ok X G (A 35 (f := .int "MOST_RINGS" 60) rfl)
    e_BadLost := He.exc_ok (A 36 (f := .exc "BadLost") rfl)
    e_BadRings := He.exc_ok (A 37 (f := .exc "BadRings") rfl)
    b_gcd := bltOk_ok X G x0
    sub_SkinError := fun d D0 hd hm => by
      have hmem := subT_mem hd
      simp only [List.mem_cons, List.not_mem_nil, or_false, Prod.mk.injEq] at hmem
      rcases hmem with ⟨rfl, hb⟩ | ⟨rfl, hb⟩
      · cases hm.symm.trans (He.glo_ok X G (A 20 (f := .glo "BadLost") rfl)); exact He.exm_ok (A 38 (f := .exm "BadLost" "SkinError" true) rfl)
      · cases hm.symm.trans (He.glo_ok X G (A 19 (f := .glo "BadRings") rfl)); exact He.exm_ok (A 39 (f := .exm "BadRings" "SkinError" true) rfl)
    isc_BadLost := ⟨nonOk_ok x1, fun d D0 b hd hm => by
      have hmem := subT_mem hd
      simp only [List.mem_cons, List.not_mem_nil, or_false, Prod.mk.injEq] at hmem
      rcases hmem with ⟨rfl, rfl⟩ | ⟨rfl, rfl⟩
      · cases hm.symm.trans (He.glo_ok X G (A 20 (f := .glo "BadLost") rfl)); exact subOk_ok x3
      · cases hm.symm.trans (He.glo_ok X G (A 19 (f := .glo "BadRings") rfl)); exact subOk_ok x4⟩
    isc_BadRings := ⟨nonOk_ok x2, fun d D0 b hd hm => by
      have hmem := subT_mem hd
      simp only [List.mem_cons, List.not_mem_nil, or_false, Prod.mk.injEq] at hmem
      rcases hmem with ⟨rfl, rfl⟩ | ⟨rfl, rfl⟩
      · cases hm.symm.trans (He.glo_ok X G (A 20 (f := .glo "BadLost") rfl)); exact subOk_ok x5
      · cases hm.symm.trans (He.glo_ok X G (A 19 (f := .glo "BadRings") rfl)); exact subOk_ok x6⟩
  }
end
end K46


set_option maxHeartbeats 1000000
/-! K46, the plain law. -/
namespace K46
open PySem PySem.Spec PyProof.Rows L2 Mi
local macro_rules | `(tactic| walk_at "mi") => `(tactic| simp only [wp_bind, wp_pure, wp_var', vr_some, wp_c, wp_op, wp_un, wp_call, wp_nil, wp_cons, wp_star, wp_tup, wp_lst, wp_toB, wp_asB, wp_bNot, wp_bAnd, wp_bOr, wp_eAnd, wp_eOr, wp_eNot, wp_eIf, wp_chain, ws_nx, ws_bk, ws_ct, ws_seq, ws_asg, ws_expr, ws_ret, ws_if, ws_par, ws_dput, wp_gtN, wp_gtNil, wp_gtCons, wp_gtSub, wp_cYes, wp_isN, wp_notN, wp_oNo, wp_oYes, wp_sl, wp_mth, wp_mth0, wp_callK, wp_sub, wp_fdv, wp_mod, wp_pow, wp_lt, wp_le, wp_gt, wp_ge, wp_add, wp_mul, wp_neg, wp_addT, wp_eqI, wp_neI, wp_abs, wp_int, wp_min2, wp_max2, wp_gcd, wp_lenT, wp_tupT, wp_listT, wp_seqT, wp_src, wp_rng1, wp_rng2, List.getElem?_cons_zero, List.getElem?_cons_succ, List.set_cons_zero, List.set_cons_succ, List.map_cons, List.map_nil, List.length_cons, List.length_nil, List.replicate_succ, List.replicate_zero, List.cons_append, List.nil_append, Nat.zero_add, wipeR, W.bl.injEq, W.int.injEq, exists_eq_left', exists_eq_left, exists_eq', Bool.not_true, Bool.not_false, if_true, Bool.false_eq_true, if_false, true_and, and_true, and_self])
/-! ### kinds -/
def isNum : W → Bool
  | .int _ => true
  | _ => false
def isBo : W → Bool
  | .bl _ => true
  | _ => false
def isTp : W → Bool
  | .tup _ => true
  | _ => false
def isLs (S : Store) : W → Bool
  | .ref l => (rdL S l).isSome
  | _ => false
/-- the kinds that are asked about -/
def Kn (S : Store) (w : W) : Prop := ∃ t, tyW S w = some t
theorem kn_int {S : Store} {i : Int} : Kn S (.int i) := ⟨_, rfl⟩
theorem kn_tup {S : Store} {ws : List W} : Kn S (.tup ws) := ⟨_, rfl⟩
theorem kn_lst {S : Store} {l : Nat} {ws : List W} (h : rdL S l = some ws) : Kn S (.ref l) := ⟨"list", by
  show (match rdL S l with | some _ => some "list" | none => _) = _
  rw [h]⟩
theorem kn_dk {S : Store} {l : Nat} {kvs : List (Key × W)} (h : S[l]? = some (.dk kvs)) : Kn S (.ref l) := ⟨"dict", by
  show (match rdL S l with | some _ => some "list" | none => (match rdD S l with | some _ => some "dict" | none => none)) = _
  have e : rdL S l = none := by unfold rdL; rw [h]
  rw [e, rdD_of h]⟩
theorem Kn.cases {S : Store} {w : W} (k : Kn S w) : tyW S w = some "NoneType" ∧ w = .non ∨ (∃ b, tyW S w = some "bool" ∧ w = .bl b) ∨ (∃ i, tyW S w = some "int" ∧ w = .int i) ∨ (∃ x, tyW S w = some "str" ∧ w = .str x) ∨ (∃ ws, tyW S w = some "tuple" ∧ w = .tup ws) ∨
    (∃ l, tyW S w = some "list" ∧ w = .ref l ∧ isLs S w = true) ∨ ∃ l, tyW S w = some "dict" ∧ w = .ref l ∧ isLs S w = false := by
  obtain ⟨t, h⟩ := k
  cases w with
  | non => exact .inl ⟨rfl, rfl⟩
  | bl b => exact .inr (.inl ⟨b, rfl, rfl⟩)
  | int i => exact .inr (.inr (.inl ⟨i, rfl, rfl⟩))
  | str x => exact .inr (.inr (.inr (.inl ⟨x, rfl, rfl⟩)))
  | tup ws => exact .inr (.inr (.inr (.inr (.inl ⟨ws, rfl, rfl⟩))))
  | exc c => cases h
  | ref l =>
    have e : tyW S (.ref l) = match rdL S l with
      | some _ => some "list"
      | none => match rdD S l with
        | some _ => some "dict"
        | none => none := rfl
    cases q : rdL S l with
    | some us =>
      rw [q] at e
      exact .inr (.inr (.inr (.inr (.inr (.inl ⟨l, e, rfl, by show (rdL S l).isSome = true; rw [q]; rfl⟩)))))
    | none =>
      rw [q] at e
      cases q2 : rdD S l with
      | some us =>
        rw [q2] at e
        exact .inr (.inr (.inr (.inr (.inr (.inr ⟨l, e, rfl, by show (rdL S l).isSome = false; rw [q]; rfl⟩)))))
      | none =>
        rw [q2] at e
        rw [h] at e
        cases e
theorem kinds : kitBs "NoneType" ["int"] = some false ∧ kitBs "bool" ["int"] = some true ∧ kitBs "int" ["int"] = some true ∧ kitBs "str" ["int"] = some false ∧ kitBs "tuple" ["int"] = some false ∧ kitBs "list" ["int"] = some false ∧ kitBs "dict" ["int"] = some false := by decide +kernel
theorem kinds_b : kitBs "NoneType" ["bool"] = some false ∧ kitBs "bool" ["bool"] = some true ∧ kitBs "int" ["bool"] = some false ∧ kitBs "str" ["bool"] = some false ∧ kitBs "tuple" ["bool"] = some false ∧ kitBs "list" ["bool"] = some false ∧ kitBs "dict" ["bool"] = some false := by decide +kernel
theorem kinds_t : kitBs "NoneType" ["tuple"] = some false ∧ kitBs "bool" ["tuple"] = some false ∧ kitBs "int" ["tuple"] = some false ∧ kitBs "str" ["tuple"] = some false ∧ kitBs "tuple" ["tuple"] = some true ∧ kitBs "list" ["tuple"] = some false ∧ kitBs "dict" ["tuple"] = some false := by decide +kernel
theorem kinds_s : kitBs "NoneType" ["list", "tuple"] = some false ∧ kitBs "bool" ["list", "tuple"] = some false ∧ kitBs "int" ["list", "tuple"] = some false ∧ kitBs "str" ["list", "tuple"] = some false ∧ kitBs "tuple" ["list", "tuple"] = some true ∧ kitBs "list" ["list", "tuple"] = some true ∧ kitBs "dict" ["list", "tuple"] = some false := by decide +kernel
section
variable {S : Store} {P : W → Store → Prop} {w : W}
theorem wp_kind {cs : List String} {f : W → Bool} (k : Kn S w) (h : kitBs "NoneType" cs = some (f .non) ∧ (∀ b, kitBs "bool" cs = some (f (.bl b))) ∧ (∀ i, kitBs "int" cs = some (f (.int i))) ∧ (∀ x, kitBs "str" cs = some (f (.str x))) ∧ (∀ ws, kitBs "tuple" cs = some (f (.tup ws))) ∧
    (isLs S w = true → kitBs "list" cs = some (f w)) ∧ (∀ l, w = .ref l → isLs S w = false → kitBs "dict" cs = some (f w))) : Wp (gIsT cs w) S P = P (.bl (f w)) S := by
  obtain ⟨h1, h2, h3, h4, h5, h6, h7⟩ := h
  rcases k.cases with ⟨e, rfl⟩ | ⟨b, e, rfl⟩ | ⟨i, e, rfl⟩ | ⟨x, e, rfl⟩ | ⟨ws, e, rfl⟩ | ⟨l, e, e2, e3⟩ | ⟨l, e, e2, e3⟩
  · exact wp_isT e h1
  · exact wp_isT e (h2 b)
  · exact wp_isT e (h3 i)
  · exact wp_isT e (h4 x)
  · exact wp_isT e (h5 ws)
  · exact wp_isT e (h6 e3)
  · exact wp_isT e (h7 l e2 e3)
theorem wp_kInt (k : Kn S w) : Wp (gIsT ["int"] w) S P = P (.bl (isNum w || isBo w)) S := by
  obtain ⟨a1, a2, a3, a4, a5, a6, a7⟩ := kinds
  refine wp_kind (f := fun w => isNum w || isBo w) k ⟨a1, fun _ => a2, fun _ => a3, fun _ => a4, fun _ => a5, fun h => ?_, fun l e h => by rw [e]; exact a7⟩
  cases w <;> first | exact a6 | cases h
theorem wp_kBool (k : Kn S w) : Wp (gIsT ["bool"] w) S P = P (.bl (isBo w)) S := by
  obtain ⟨a1, a2, a3, a4, a5, a6, a7⟩ := kinds_b
  refine wp_kind (f := isBo) k ⟨a1, fun _ => a2, fun _ => a3, fun _ => a4, fun _ => a5, fun h => ?_, fun l e h => by rw [e]; exact a7⟩
  cases w <;> first | exact a6 | cases h
theorem wp_kTup (k : Kn S w) : Wp (gIsT ["tuple"] w) S P = P (.bl (isTp w)) S := by
  obtain ⟨a1, a2, a3, a4, a5, a6, a7⟩ := kinds_t
  refine wp_kind (f := isTp) k ⟨a1, fun _ => a2, fun _ => a3, fun _ => a4, fun _ => a5, fun h => ?_, fun l e h => by rw [e]; exact a7⟩
  cases w <;> first | exact a6 | cases h
theorem wp_kSeq (k : Kn S w) : Wp (gIsT ["list", "tuple"] w) S P = P (.bl (isTp w || isLs S w)) S := by
  obtain ⟨a1, a2, a3, a4, a5, a6, a7⟩ := kinds_s
  refine wp_kind (f := fun w => isTp w || isLs S w) k ⟨a1, fun _ => a2, fun _ => a3, fun _ => a4, fun _ => a5, fun h => ?_, fun l e h => ?_⟩
  · rw [h, Bool.or_true]
    exact a6
  · rw [h, e]
    exact a7
/-! ### the library: kinds -/
theorem is_number (k : Kn S w) (h : P (.bl (isNum w)) S) : Wp (m_is_number [w]) S P := by
  refine wp_fn ?_
  unfold b_is_number
  walk_at "mi"
  rw [wp_kInt k]
  refine ⟨_, rfl, ?_⟩
  cases w <;> simp only [isNum, isBo, Bool.or_false, Bool.or_true, Bool.false_eq_true, if_false, if_true] <;> first | exact h | skip
  · rw [wp_kBool k]
    exact ⟨true, rfl, h⟩
  · rw [wp_kBool k]
    exact ⟨false, rfl, h⟩
def btw (lo hi : Int) : W → Bool
  | .int i => decide (lo ≤ i) && decide (i ≤ hi)
  | _ => false
theorem is_between {lo hi : Int} (k : Kn S w) (h : P (.bl (btw lo hi w)) S) : Wp (m_is_between [w, .int lo, .int hi]) S P := by
  refine wp_fn ?_
  unfold b_is_between
  walk_at "mi"
  refine is_number k ⟨_, rfl, ?_⟩
  cases w <;> simp only [isNum, Bool.false_eq_true, if_false, if_true] <;> first | exact h | skip
  rename_i i
  have h : P (.bl (decide (lo ≤ i) && decide (i ≤ hi))) S := h
  walk_at "mi"
  by_cases q : lo ≤ i
  · rw [decide_eq_true q] at h ⊢
    exact h
  · rw [decide_eq_false q] at h ⊢
    exact h
theorem is_list (k : Kn S w) (h : P (.bl (isTp w || isLs S w)) S) : Wp (m_is_list [w]) S P := by
  refine wp_fn ?_
  unfold b_is_list
  walk_at "mi"
  rw [wp_kSeq k]
  exact h
def tupN (n : Int) : W → Bool
  | .tup ws => (ws.length : Int) == n
  | _ => false
theorem is_tuple {n : Int} (k : Kn S w) (h : P (.bl (tupN n w)) S) : Wp (m_is_tuple [w, .int n]) S P := by
  refine wp_fn ?_
  unfold b_is_tuple
  walk_at "mi"
  rw [wp_kTup k]
  refine ⟨_, rfl, ?_⟩
  cases w <;> simp only [isTp, Bool.false_eq_true, if_false, if_true] <;> first | exact h | skip
end
end K46

set_option maxHeartbeats 1000000
/-! K46, the plain law. -/
namespace K46
open PySem PySem.Spec PyProof.Rows L2 Mi
local macro_rules | `(tactic| walk_at "mi") => `(tactic| simp only [wp_bind, wp_pure, wp_var', vr_some, wp_c, wp_op, wp_un, wp_call, wp_nil, wp_cons, wp_star, wp_tup, wp_lst, wp_toB, wp_asB, wp_bNot, wp_bAnd, wp_bOr, wp_eAnd, wp_eOr, wp_eNot, wp_eIf, wp_chain, ws_nx, ws_bk, ws_ct, ws_seq, ws_asg, ws_expr, ws_ret, ws_if, ws_par, ws_dput, wp_gtN, wp_gtNil, wp_gtCons, wp_gtSub, wp_cYes, wp_isN, wp_notN, wp_oNo, wp_oYes, wp_sl, wp_mth, wp_mth0, wp_callK, wp_sub, wp_fdv, wp_mod, wp_pow, wp_lt, wp_le, wp_gt, wp_ge, wp_add, wp_mul, wp_neg, wp_addT, wp_eqI, wp_neI, wp_abs, wp_int, wp_min2, wp_max2, wp_gcd, wp_lenT, wp_tupT, wp_listT, wp_seqT, wp_src, wp_rng1, wp_rng2, List.getElem?_cons_zero, List.getElem?_cons_succ, List.set_cons_zero, List.set_cons_succ, List.map_cons, List.map_nil, List.length_cons, List.length_nil, List.replicate_succ, List.replicate_zero, List.cons_append, List.nil_append, Nat.zero_add, wipeR, W.bl.injEq, W.int.injEq, exists_eq_left', exists_eq_left, exists_eq', Bool.not_true, Bool.not_false, if_true, Bool.false_eq_true, if_false, true_and, and_true, and_self])
/-! ### the library: rings -/
def num1 : W → Bool
  | .int i => decide (1 < i)
  | _ => false
def rem0 : W × W → Bool
  | (.int a, .int b) => b % a == 0
  | _ => false
def ringB : W → Bool
  | .tup [.int a, .tup ts] => decide (0 ≤ a) && (ts.all num1 && (ts.zip ts.tail).all rem0)
  | _ => false
/-- a thing whose parts' kinds are known -/
def KnR (S : Store) (x : W) : Prop := Kn S x ∧ ∀ ws, x = .tup ws → (∀ w ∈ ws, Kn S w) ∧ ∀ ts, .tup ts ∈ ws → (∀ t ∈ ts, Kn S t) ∧ ts.length ≤ sizeLine
theorem Kn.pre {S S' : Store} {w : W} (p : S <+: S') (k : Kn S w) : Kn S' w := by
  obtain ⟨t, h⟩ := k
  cases w with
  | ref l =>
    have e : ∀ T : Store, tyW T (.ref l) = match rdL T l with
      | some _ => some "list"
      | none => match rdD T l with
        | some _ => some "dict"
        | none => none := fun _ => rfl
    rw [e] at h
    cases q : rdL S l with
    | some us => exact kn_lst (pre_rd p q)
    | none =>
      rw [q] at h
      cases q2 : rdD S l with
      | none => rw [q2] at h; cases h
      | some kvs => exact kn_dk (pre_at p (rdD_eq q2))
  | _ => exact ⟨t, h⟩
def rem0W : W → W
  | .tup [a, b] => .bl (rem0 (a, b))
  | _ => .non
theorem zip_rem {a b : List W} : (zipT a b).map rem0W = (a.zip b).map fun p => W.bl (rem0 p) := by
  unfold zipT
  rw [List.map_map]
  rfl
theorem wp_tailT {S : Store} {P : W → Store → Prop} {ts : List W} (h : ts.length ≤ sizeLine) : Wp (gSl (.tup ts) (some 1) none) S P = P (.tup ts.tail) S := by
  have e2 : HT.sIx ts.length ts.length none = ts.length := rfl
  cases ts with
  | nil => rfl
  | cons x r =>
    have e1 : HT.sIx (x :: r).length 0 (some 1) = 1 := by
      simp [HT.sIx]
    have e : gSl (.tup (x :: r)) (some 1) none S = newT (cutW (x :: r) (some 1) none) S := by
      have e0 : gSl (.tup (x :: r)) (some 1) none S = if HT.sIx (x :: r).length 0 (some 1) = 0 ∧ HT.sIx (x :: r).length (x :: r).length none = (x :: r).length then .ok (.tup (x :: r)) S else newT (cutW (x :: r) (some 1) none) S := rfl
      rw [e0, e1, if_neg (fun z => by have := z.1; omega)]
    have e3 : cutW (x :: r) (some 1) none = r := by
      unfold cutW
      rw [e1, e2]
      simp
    rw [e3] at e
    have q : Wp (gSl (.tup (x :: r)) (some 1) none) S P = Wp (newT r) S P := by
      unfold Wp
      rw [e]
    rw [q, wp_newT]
    exact propext ⟨fun z => z.2, fun z => ⟨by simp at h; omega, z⟩⟩
section
variable {S : Store} {P : W → Store → Prop}
theorem are_rings {x : W} (k : KnR S x) (h : ∀ S', S <+: S' → P (.bl (ringB x)) S') : Wp (m_are_rings [x]) S P := by
  have h0 := h S (List.prefix_refl _)
  refine wp_fn ?_
  unfold b_are_rings
  walk_at "mi"
  refine is_tuple k.1 ⟨_, rfl, ?_⟩
  have no : ∀ {b : Bool}, b = false → ringB x = false → (if (!b) = true then P (.bl false) S else False) := fun e1 e2 => by
    rw [e1]
    rw [e2] at h0
    exact h0
  cases x with
  | tup ws =>
    obtain ⟨k1, k2⟩ := k.2 ws rfl
    match ws, k1, k2, h, h0 with
    | [], _, _, h, h0 =>
      rw [show tupN 2 (.tup []) = false from rfl]
      exact h0
    | [a], _, _, h, h0 =>
      rw [show tupN 2 (.tup [a]) = false from rfl]
      rw [show ringB (.tup [a]) = false from by cases a <;> rfl] at h0
      exact h0
    | a :: b :: c :: r, _, _, h, h0 =>
      have e : tupN 2 (.tup (a :: b :: c :: r)) = false := by
        show (((a :: b :: c :: r).length : Int) == 2) = false
        simp
        omega
      rw [e]
      rw [show ringB (.tup (a :: b :: c :: r)) = false from by cases a <;> first | rfl | (cases b <;> rfl)] at h0
      exact h0
    | [f, u], k1, k2, h, h0 =>
      have e : tupN 2 (.tup [f, u]) = true := rfl
      rw [e]
      have i0 : L2.atI [f, u] 0 = some f := rfl
      have i1 : L2.atI [f, u] 1 = some u := rfl
      simp only [Bool.not_true, Bool.false_eq_true, if_false]
      rw [wp_ixT i0]
      refine is_number (k1 f List.mem_cons_self) ⟨_, rfl, ?_⟩
      cases f with
      | int a =>
        simp only [isNum, Bool.not_true, Bool.false_eq_true, if_false]
        rw [wp_ixT i0]
        walk_at "mi"
        by_cases ha : a < 0
        · rw [decide_eq_true ha, if_pos rfl]
          have e2 : ringB (.tup [.int a, u]) = false := by
            have e3 : decide (0 ≤ a) = false := decide_eq_false (by omega)
            cases u <;> first | rfl | (show (decide (0 ≤ a) && _) = false; rw [e3]; rfl)
          rw [e2] at h0
          exact h0
        · rw [decide_eq_false ha, if_neg (by simp)]
          have e3 : decide (0 ≤ a) = true := decide_eq_true (by omega)
          rw [wp_ixT i1, wp_kTup (k1 u (by simp))]
          refine ⟨_, rfl, ?_⟩
          cases u with
          | tup ts =>
            simp only [isTp, Bool.not_true, Bool.false_eq_true, if_false]
            rw [wp_ixT i1]
            obtain ⟨kt, hsz⟩ := k2 ts (by simp)
            refine wp_lcM ts (fun w => .bl (num1 w)) hsz ?_ (fun w hw S' hS => ?_) fun S' l h1 h2 h3 => ?_
            · walk_at "mi"
              exact ⟨List.prefix_refl _, fun _ _ => trivial⟩
            · walk_at "mi"
              refine ⟨List.prefix_refl _, is_number ((kt w hw).pre hS) ⟨_, rfl, ?_⟩⟩
              cases w with
              | int i =>
                simp only [isNum, if_true]
                rw [wp_gt]
                exact ⟨rfl, List.prefix_refl _⟩
              | _ => exact ⟨rfl, List.prefix_refl _⟩
            · rw [wp_all h3]
              refine ⟨_, rfl, ?_⟩
              have hh := h S' h1
              have e4 : ringB (.tup [.int a, .tup ts]) = (ts.all num1 && (ts.zip ts.tail).all rem0) := by
                show (decide (0 ≤ a) && _) = _
                rw [e3, Bool.true_and]
              cases q : ts.all num1 with
              | false =>
                rw [e4, q] at hh
                exact hh
              | true =>
                simp only [Bool.not_true, Bool.false_eq_true, if_false]
                refine wp_lcM (zipT ts ts.tail) rem0W (by rw [zipT_len]; exact Nat.le_trans (Nat.min_le_left _ _) hsz) ?_ (fun w hw S2 hS => ?_) fun S2 l2 g1 g2 g3 => ?_
                · walk_at "mi"
                  rw [wp_tailT hsz]
                  exact ⟨List.prefix_refl _, rfl, fun _ _ => trivial⟩
                · obtain ⟨i, hi⟩ := List.mem_iff_getElem?.mp hw
                  obtain ⟨x1, x2, e5, e6, rfl⟩ := zipT_get hi
                  have m1 := List.all_eq_true.mp q x1 (List.mem_of_getElem? e5)
                  have m2 := List.all_eq_true.mp q x2 (List.mem_of_mem_tail (List.mem_of_getElem? e6))
                  cases x1 <;> first | cases m1 | skip
                  cases x2 <;> first | cases m2 | skip
                  rename_i a1 a2
                  have g1 : 1 < a1 := of_decide_eq_true m1
                  rw [wp_gtTup (n := 2) rfl]
                  walk_at "mi"
                  exact ⟨List.prefix_refl _, by omega, rfl, List.prefix_refl _⟩
                · rw [zip_rem] at g3
                  rw [wp_all (xs := ts.zip ts.tail) (g := rem0) g3]
                  rw [e4, q, Bool.true_and] at h
                  exact h S2 (h1.trans g1)
          | _ =>
            simp only [isTp, Bool.not_false, if_true]
            exact h0
      | _ =>
        simp only [isNum, Bool.not_false, if_true]
        exact h0
  | _ => exact h0
end
end K46

set_option maxHeartbeats 1000000
/-! K46, the plain law. -/
namespace K46
open PySem PySem.Spec PyProof.Rows L2 Mi
local macro_rules | `(tactic| walk_at "mi") => `(tactic| simp only [wp_bind, wp_pure, wp_var', vr_some, wp_c, wp_op, wp_un, wp_call, wp_nil, wp_cons, wp_star, wp_tup, wp_lst, wp_toB, wp_asB, wp_bNot, wp_bAnd, wp_bOr, wp_eAnd, wp_eOr, wp_eNot, wp_eIf, wp_chain, ws_nx, ws_bk, ws_ct, ws_seq, ws_asg, ws_expr, ws_ret, ws_if, ws_par, ws_dput, wp_gtN, wp_gtNil, wp_gtCons, wp_gtSub, wp_cYes, wp_isN, wp_notN, wp_oNo, wp_oYes, wp_sl, wp_mth, wp_mth0, wp_callK, wp_sub, wp_fdv, wp_mod, wp_pow, wp_lt, wp_le, wp_gt, wp_ge, wp_add, wp_mul, wp_neg, wp_addT, wp_eqI, wp_neI, wp_abs, wp_int, wp_min2, wp_max2, wp_gcd, wp_lenT, wp_tupT, wp_listT, wp_seqT, wp_src, wp_rng1, wp_rng2, List.getElem?_cons_zero, List.getElem?_cons_succ, List.set_cons_zero, List.set_cons_succ, List.map_cons, List.map_nil, List.length_cons, List.length_nil, List.replicate_succ, List.replicate_zero, List.cons_append, List.nil_append, Nat.zero_add, wipeR, W.bl.injEq, W.int.injEq, exists_eq_left', exists_eq_left, exists_eq', Bool.not_true, Bool.not_false, if_true, Bool.false_eq_true, if_false, true_and, and_true, and_self])
open K46M
/-! ### the library: rings joined -/
def nW (n : Nat) : W := .int (n : Int)
abbrev Rg := Int × List Nat
def rgW (r : Rg) : W := .tup [.int r.1, .tup (r.2.map nW)]
def insP : Nat → List Nat → Nat → List Nat × Nat
  | 0, c, n => (c, n)
  | _ + 1, [], n => ([], n)
  | k + 1, c :: cs, n => (Nat.lcm c n :: (insP k cs (Nat.gcd c n)).1, (insP k cs (Nat.gcd c n)).2)
theorem insP_step : ∀ {k : Nat} {c : List Nat} {n x : Nat}, c[k]? = some x → insP (k + 1) c n = ((insP k c n).1.set k (Nat.lcm x (insP k c n).2), Nat.gcd x (insP k c n).2)
  | 0, [], n, x, h => by simp at h
  | 0, y :: cs, n, x, h => by
    simp at h
    subst h
    cases cs <;> rfl
  | k + 1, [], n, x, h => by simp at h
  | k + 1, y :: cs, n, x, h => by
    have ih := insP_step (k := k) (c := cs) (n := Nat.gcd y n) (x := x) (by simpa using h)
    show (Nat.lcm y n :: (insP (k + 1) cs (Nat.gcd y n)).1, (insP (k + 1) cs (Nat.gcd y n)).2) = _
    rw [ih]
    rfl
theorem insP_at : ∀ {k : Nat} {c : List Nat} {n : Nat}, (insP k c n).1[k]? = c[k]?
  | 0, _, _ => rfl
  | k + 1, [], _ => rfl
  | k + 1, y :: cs, n => by
    show (Nat.lcm y n :: (insP k cs (Nat.gcd y n)).1)[k + 1]? = _
    rw [List.getElem?_cons_succ, List.getElem?_cons_succ]
    exact insP_at
theorem insP_len : ∀ {k : Nat} {c : List Nat} {n : Nat}, (insP k c n).1.length = c.length
  | 0, _, _ => rfl
  | k + 1, [], _ => rfl
  | k + 1, y :: cs, n => by
    show (insP k cs (Nat.gcd y n)).1.length + 1 = _
    rw [insP_len]
    rfl
theorem insP_all : ∀ {c : List Nat} {n : Nat}, insP c.length c n = ins c n
  | [], _ => rfl
  | y :: cs, n => by
    show (Nat.lcm y n :: (insP cs.length cs (Nat.gcd y n)).1, (insP cs.length cs (Nat.gcd y n)).2) = _
    rw [insP_all]
    rfl
theorem insP_dvd : ∀ {k : Nat} {c : List Nat} {n : Nat}, (insP k c n).2 ∣ n
  | 0, _, _ => Nat.dvd_refl _
  | k + 1, [], _ => Nat.dvd_refl _
  | k + 1, y :: cs, n => Nat.dvd_trans (insP_dvd (k := k) (c := cs)) (Nat.gcd_dvd_right y n)
theorem nW_at {c : List Nat} {k x : Nat} (h : c[k]? = some x) : L2.atI (c.map nW) (k : Int) = some (nW x) := Mi.atI_nat (by rw [List.getElem?_map, h]; rfl)
theorem log_of {x N : Nat} (h : x ∣ N) (hN : 0 < N) (hb : N < 2 ^ 230) : x.log2 < 230 := by
  have h1 := Nat.le_of_dvd hN h
  have h2 : x ≠ 0 := fun z => by
    rw [z] at h
    have := Nat.eq_zero_of_zero_dvd h
    omega
  exact (Nat.log2_lt h2).mpr (by omega)
theorem le_sum : ∀ {l : List Nat} {x : Nat}, x ∈ l → x ≤ l.sum
  | [], _, h => by simp at h
  | y :: l, x, h => by
    rw [List.sum_cons]
    rcases List.mem_cons.mp h with e | e
    · omega
    · have := le_sum e
      omega
theorem natAbs_nat (n : Nat) : ((n : Int)).natAbs = n := rfl
theorem mulOk_nat {x y N : Nat} (hx : x ∣ N) (hy : y ∣ N) (hN : 0 < N) (hb : N < 2 ^ 230) : mulOk (x : Int) (y : Int) := by
  refine .inr (.inr ?_)
  rw [natAbs_nat, natAbs_nat]
  have h1 := log_of hx hN hb
  have h2 := log_of hy hN hb
  omega
theorem lcm_int {x m : Nat} : (x : Int) * (m : Int) / ((Nat.gcd x m : Nat) : Int) = ((Nat.lcm x m : Nat) : Int) := by
  unfold Nat.lcm
  rw [← Int.natCast_mul, ← Int.natCast_ediv]
theorem ixN_nat {n k : Nat} (h : k < n) : L2.ixN n (k : Int) = some k := by
  have := @Mi.atI_nat Nat (List.range n) k k (by simp [h])
  unfold L2.ixN
  have e1 : (0 : Int) ≤ (k : Int) ∧ (k : Int) < (n : Int) := ⟨by omega, by omega⟩
  simp only [e1, and_self, if_true, Int.toNat_natCast]
section
variable {S : Store} {P : W → Store → Prop} {N : Nat}
/-- the numbers of the rings divide N -/
structure Good (N : Nat) (rs : List Rg) : Prop where
  pos : 0 < N
  big : N < 2 ^ 230
  all : ∀ r ∈ rs, ∀ x ∈ r.2, 0 < x ∧ x ∣ N
  few : (rs.flatMap (·.2)).length ≤ 100000
def ch (rs : List Rg) (i : Nat) : List Nat := joinL ((rs.take i).flatMap (·.2))
theorem ch_next {rs : List Rg} {i : Nat} {r : Rg} (h : rs[i]? = some r) : ch rs (i + 1) = r.2.foldl join1 (ch rs i) := by
  unfold ch joinL
  rw [List.take_succ, h, List.flatMap_append, List.foldl_append]
  simp
/-- a chain of numbers that divide N, on the way -/
structure Mid (N : Nat) (c : List Nat) : Prop where
  dv : ∀ x ∈ c, 1 < x ∧ x ∣ N
theorem mid_join {c : List Nat} {n : Nat} (h : Mid N c) (hn : 0 < n) (hd : n ∣ N) : Mid N (join1 c n) := by
  obtain ⟨a1, a2⟩ := ins_pos c n (fun x hx => (h.dv x hx).1) hn
  obtain ⟨b1, b2⟩ := ins_dvd (B := N) c n (fun x hx => (h.dv x hx).2) hd
  refine ⟨fun x hx => ?_⟩
  unfold join1 at hx
  split at hx
  · rename_i g
    rcases List.mem_append.mp hx with q | q
    · exact ⟨a1 x q, b1 x q⟩
    · rw [List.mem_singleton.mp q]
      exact ⟨g, Nat.dvd_trans b2 hd⟩
  · exact ⟨a1 x hx, b1 x hx⟩
theorem mid_fold : ∀ {l c : List Nat}, Mid N c → (∀ x ∈ l, 0 < x ∧ x ∣ N) → Mid N (l.foldl join1 c)
  | [], _, h, _ => h
  | x :: l, c, h, hl => mid_fold (l := l) (c := join1 c x) (mid_join h (hl x List.mem_cons_self).1 (hl x List.mem_cons_self).2) fun y hy => hl y (List.mem_cons_of_mem _ hy)
theorem fold_len {l c : List Nat} : (l.foldl join1 c).length ≤ c.length + l.length := joinL_len
theorem joined {l : Nat} {rs : List Rg} (hr : rdL S l = some (rs.map rgW)) (hn : rs.length ≤ 100000) (G : Good N rs)
    (h : ∀ S', S <+: S' → P (.tup [.int (rs.map (·.1)).sum, .tup ((joinL (rs.flatMap (·.2))).reverse.map nW)]) S') : Wp (m_joined_rings [.ref l]) S P := by
  refine wp_fn ?_
  unfold b_joined_rings
  walk_at "mi"
  refine ⟨by decide, ?_⟩
  refine ws_for ?_
  walk_at "mi"
  rw [wp_srcR (pre_rd (List.prefix_append _ _) hr)]
  refine ⟨fun i ρ S' => ∃ x2 x3 x4 x5 x6, ρ = [some (.ref l), some (.ref S.length), x2, x3, x4, x5, x6] ∧ S <+: S' ∧ S'[S.length]? = some (.lst ((ch rs i).map nW)), ⟨none, none, none, none, none, rfl, List.prefix_append _ _, at_new⟩, fun i ρ S' ⟨_, _, _, _, _, _, h1, _⟩ => pre_rd h1 hr, ?_, ?_⟩
  · intro i w ρ S1 hi ⟨x2, x3, x4, x5, x6, hρ, p1, c1⟩
    subst hρ
    obtain ⟨r, hri, rfl⟩ : ∃ r, rs[i]? = some r ∧ w = rgW r := by
      rw [List.getElem?_map] at hi
      cases q : rs[i]? with
      | none => rw [q] at hi; cases hi
      | some r => rw [q] at hi; cases hi; exact ⟨r, rfl, rfl⟩
    have hrm := List.mem_of_getElem? hri
    have hm0 : Mid N (ch rs i) := mid_fold ⟨fun x hx => by simp at hx⟩ fun x hx => by
      obtain ⟨r', h1, h2⟩ := List.mem_flatMap.mp hx
      exact G.all r' (List.mem_of_mem_take h1) x h2
    have hsz0 : (ch rs i).length ≤ 100000 := by
      have h1 := fold_len (l := (rs.take i).flatMap (·.2)) (c := [])
      have h2 : ((rs.take i).flatMap (·.2)).length ≤ (rs.flatMap (·.2)).length := by
        conv => rhs; rw [← List.take_append_drop i rs, List.flatMap_append, List.length_append]
        omega
      have h3 := G.few
      unfold ch joinL
      simp only [List.length_nil] at h1
      omega
    unfold rgW
    rw [wp_gtTup (n := 2) rfl]
    walk_at "mi"
    refine ws_for ?_
    walk_at "mi"
    have hrl : r.2.length ≤ 100000 := by
      have h2 : r.2.length ≤ (rs.flatMap (·.2)).length := by
        rw [List.length_flatMap]
        exact le_sum (List.mem_map.mpr ⟨r, hrm, rfl⟩)
      have := G.few
      omega
    refine ⟨fun j ρ S' => ∃ y2 y3 y4 y5 y6, ρ = [some (.ref l), some (.ref S.length), y2, y3, y4, y5, y6] ∧ S <+: S' ∧ S'[S.length]? = some (.lst (((r.2.take j).foldl join1 (ch rs i)).map nW)), ⟨_, _, _, _, _, rfl, p1, c1⟩, fun _ _ _ _ => trivial, ?_, ?_⟩
    · intro j w2 ρ S2 hj ⟨y2, y3, y4, y5, y6, hρ, p2, c2⟩
      subst hρ
      obtain ⟨n, hnj, rfl⟩ : ∃ n, r.2[j]? = some n ∧ w2 = nW n := by
        rw [List.getElem?_map] at hj
        cases q : r.2[j]? with
        | none => rw [q] at hj; cases hj
        | some r => rw [q] at hj; cases hj; exact ⟨r, rfl, rfl⟩
      obtain ⟨hn0, hnN⟩ := G.all r hrm n (List.mem_of_getElem? hnj)
      generalize hc : (r.2.take j).foldl join1 (ch rs i) = c0 at c2
      have hm : Mid N c0 := by
        rw [← hc]
        exact mid_fold hm0 fun x hx => G.all r hrm x (List.mem_of_mem_take hx)
      have hsz : c0.length ≤ 200000 := by
        have := fold_len (l := r.2.take j) (c := ch rs i)
        rw [hc] at this
        have h4 : (r.2.take j).length ≤ r.2.length := by simp; omega
        omega
      walk_at "mi"
      refine ws_for ?_
      walk_at "mi"
      rw [wp_lenR (rdL_of c2)]
      walk_at "mi"
      rw [List.length_map]
      refine ⟨⟨by omega, by omega⟩, ?_⟩
      refine ⟨fun k ρ S' => ∃ z2 z3 z5 z6, ρ = [some (.ref l), some (.ref S.length), z2, z3, some (nW (insP k c0 n).2), z5, z6] ∧ S <+: S' ∧ S'[S.length]? = some (.lst ((insP k c0 n).1.map nW)), ⟨_, _, _, _, rfl, p2, c2⟩, fun _ _ _ _ => trivial, ?_, ?_⟩
      · intro k w3 ρ S3 hk ⟨z2, z3, z5, z6, hρ, p3, c3⟩
        subst hρ
        obtain ⟨hk1, rfl⟩ := rngW_get hk
        have hk2 : k < c0.length := by simpa using hk1
        obtain ⟨x, hx⟩ : ∃ x, c0[k]? = some x := ⟨c0[k], by simp [hk2]⟩
        have hx2 : (insP k c0 n).1[k]? = some x := insP_at.trans hx
        obtain ⟨x1, xN⟩ := hm.dv x (List.mem_of_getElem? hx)
        have mN : (insP k c0 n).2 ∣ N := Nat.dvd_trans insP_dvd hnN
        walk_at "mi"
        rw [Int.zero_add]
        rw [wp_ixR (rdL_of c3) (nW_at hx2)]
        unfold nW
        walk_at "mi"
        rw [wp_ixR (rdL_of c3) (nW_at hx2)]
        unfold nW
        walk_at "mi"
        simp only [natAbs_nat]
        have hg : 0 < Nat.gcd x (insP k c0 n).2 := Nat.gcd_pos_of_pos_left _ (by omega)
        have hgN : Nat.gcd x (insP k c0 n).2 ∣ N := Nat.dvd_trans (Nat.gcd_dvd_left _ _) xN
        refine ⟨mulOk_nat xN mN G.pos G.big, ⟨by omega, by have := log_of hgN G.pos G.big; omega⟩, by decide, ?_⟩
        rw [wp_gtTup (n := 2) rfl]
        walk_at "mi"
        rw [wp_putAt c3 (ixN_nat (by rw [List.length_map, insP_len]; exact hk2))]
        rw [lcm_int]
        refine ⟨z2, z3, some (.int (k : Int)), some (.int ((Nat.gcd x (insP k c0 n).2 : Nat) : Int)), ?_, pre_set p3 (Nat.le_refl _), ?_⟩
        · rw [insP_step hx]
        · rw [at_set c3, insP_step hx, List.map_set]
          rfl
      · intro ρ S3 ⟨z2, z3, z5, z6, hρ, p3, c3⟩
        subst hρ
        have et : r.2.take (j + 1) = r.2.take j ++ [n] := by rw [List.take_succ, hnj]; rfl
        have ej : (r.2.take (j + 1)).foldl join1 (ch rs i) = join1 c0 n := by rw [et, List.foldl_append, hc]; rfl
        rw [rngW_len, Int.toNat_natCast, insP_all] at c3
        rw [rngW_len, Int.toNat_natCast, insP_all]
        unfold nW
        walk_at "mi"
        by_cases hg : 1 < (ins c0 n).2
        · rw [decide_eq_true (by omega), if_pos rfl]
          rw [wp_isL (rdL_of c3), wp_append c3]
          refine ⟨by rw [List.length_map, ins_len]; rw [PySem.sizeLine_eq]; omega, _, _, _, _, _, rfl, pre_set p3 (Nat.le_refl _), ?_⟩
          rw [at_set c3, ej]
          unfold join1
          rw [if_pos hg, List.map_append]
          rfl
        · rw [decide_eq_false (by omega), if_neg (by simp)]
          refine ⟨_, _, _, _, _, rfl, p3, ?_⟩
          rw [c3, ej]
          unfold join1
          rw [if_neg hg]
          rfl
    · intro ρ S2 ⟨y2, y3, y4, y5, y6, hρ, p2, c2⟩
      subst hρ
      rw [List.length_map, List.take_length] at c2
      exact ⟨_, _, _, _, _, rfl, p2, by rw [ch_next hri]; exact c2⟩
  · intro ρ S1 ⟨x2, x3, x4, x5, x6, hρ, p1, c1⟩
    subst hρ
    rw [List.length_map] at c1
    have ec : ch rs rs.length = joinL (rs.flatMap (·.2)) := by unfold ch; rw [List.take_length]
    have hlen : (joinL (rs.flatMap (·.2))).length ≤ 100000 := by
      have h1 := fold_len (l := rs.flatMap (·.2)) (c := [])
      have := G.few
      unfold joinL
      simp only [List.length_nil] at h1
      omega
    rw [ec] at c1
    walk_at "mi"
    refine wp_lcM (rs.map rgW) (fun w => match w with | .tup [f, _] => f | _ => .non) (by rw [List.length_map, PySem.sizeLine_eq]; omega) ?_ (fun w hw S' hS => ?_) fun S' l2 h1 h2 h3 => ?_
    · walk_at "mi"
      rw [wp_srcR (pre_rd p1 hr)]
      exact ⟨List.prefix_refl _, rfl, fun S' h1 => pre_rd (p1.trans h1) hr⟩
    · obtain ⟨r, hr2, rfl⟩ := List.mem_map.mp hw
      unfold rgW
      rw [wp_gtTup (n := 2) rfl]
      walk_at "mi"
      exact List.prefix_refl _
    · rw [List.map_map] at h3
      rw [wp_sum (xs := rs) (g := fun r => r.1) h3]
      rw [wp_revT (rdL_of (pre_at h1 c1))]
      refine ⟨by rw [List.length_reverse, List.length_map, PySem.sizeLine_eq]; omega, ?_⟩
      refine ⟨by rw [PySem.sizeLine_eq]; omega, ?_⟩
      have := h S' (p1.trans h1)
      rw [List.map_reverse] at this
      exact this
end
end K46

set_option maxHeartbeats 1000000
/-! K46, the plain law. -/
namespace K46
open PySem PySem.Spec PyProof.Rows L2 Mi
local macro_rules | `(tactic| walk_at "mi") => `(tactic| simp only [wp_bind, wp_pure, wp_var', vr_some, wp_c, wp_op, wp_un, wp_call, wp_nil, wp_cons, wp_star, wp_tup, wp_lst, wp_toB, wp_asB, wp_bNot, wp_bAnd, wp_bOr, wp_eAnd, wp_eOr, wp_eNot, wp_eIf, wp_chain, ws_nx, ws_bk, ws_ct, ws_seq, ws_asg, ws_expr, ws_ret, ws_if, ws_par, ws_dput, wp_gtN, wp_gtNil, wp_gtCons, wp_gtSub, wp_cYes, wp_isN, wp_notN, wp_oNo, wp_oYes, wp_sl, wp_mth, wp_mth0, wp_callK, wp_sub, wp_fdv, wp_mod, wp_pow, wp_lt, wp_le, wp_gt, wp_ge, wp_add, wp_mul, wp_neg, wp_addT, wp_eqI, wp_neI, wp_abs, wp_int, wp_min2, wp_max2, wp_gcd, wp_lenT, wp_tupT, wp_listT, wp_seqT, wp_src, wp_rng1, wp_rng2, List.getElem?_cons_zero, List.getElem?_cons_succ, List.set_cons_zero, List.set_cons_succ, List.map_cons, List.map_nil, List.length_cons, List.length_nil, List.replicate_succ, List.replicate_zero, List.cons_append, List.nil_append, Nat.zero_add, wipeR, W.bl.injEq, W.int.injEq, exists_eq_left', exists_eq_left, exists_eq', Bool.not_true, Bool.not_false, if_true, Bool.false_eq_true, if_false, true_and, and_true, and_self])
open K46M
/-! ### the library: what is lost, the checks -/
def joinR (rs : List Rg) : Rg := ((rs.map (·.1)).sum, (joinL (rs.flatMap (·.2))).reverse)
def lostR (a b c : Nat) : List Rg := [((a : Int), List.replicate b 2), (0, List.replicate c 3)]
def tripW (a b c : Nat) : W := .tup [nW a, nW b, nW c]
section
variable {S : Store} {P : W → Store → Prop} {N : Nat}
theorem rep_e0 {n k : Nat} : gMul (.tup [nW n]) (.int (k : Int)) S = if -(2 ^ 63) ≤ (k : Int) ∧ (k : Int) < 2 ^ 63 then tupTimes [nW n] (k : Int) S else .stuck := rfl
theorem rep_e1 {n k : Nat} : tupTimes [nW n] (k : Int) S = if [nW n] = [] ∨ (k : Int) = 1 then newT [nW n] S else if (k : Int) ≤ 0 then newT [] S else if (k : Int) ≤ 1000 ∧ [nW n].length ≤ 1000 then newT (List.replicate (k : Int).toNat [nW n]).flatten S else .stuck := by
  unfold tupTimes
  rfl
theorem rep_ef {n : Nat} : ∀ m, (List.replicate m [nW n]).flatten = (List.replicate m n).map nW := fun m => by
  induction m with
  | zero => rfl
  | succ m ih => rw [List.replicate_succ, List.flatten_cons, ih, List.replicate_succ, List.map_cons]; rfl
theorem rep_e {n k : Nat} (hk : k ≤ 1000) : gMul (.tup [nW n]) (.int (k : Int)) S = newT ((List.replicate k n).map nW) S := by
  rw [rep_e0, if_pos ⟨by omega, by omega⟩, rep_e1]
  by_cases k1 : k = 1
  · rw [if_pos (.inr (by rw [k1]; rfl)), k1]
    rfl
  · rw [if_neg (by rintro (z | z)
                   · cases z
                   · omega)]
    by_cases k0 : k = 0
    · rw [if_pos (by omega), k0]
      rfl
    · rw [if_neg (by omega), if_pos ⟨by omega, by simp⟩, Int.toNat_natCast, rep_ef]
theorem rep_len {n k : Nat} (hk : k ≤ 1000) : ((List.replicate k n).map nW).length ≤ sizeLine := by
  have e : ((List.replicate k n).map nW).length = k := by simp
  rw [e]
  exact Nat.le_trans hk (by decide)
theorem wp_same {A : Type} {m m' : M A} {S : Store} {P : A → Store → Prop} (h : m S = m' S) : Wp m S P = Wp m' S P := by
  unfold Wp
  rw [h]
theorem wp_rep {n k : Nat} (hk : k ≤ 1000) : Wp (gMul (.tup [nW n]) (.int (k : Int))) S P = P (.tup ((List.replicate k n).map nW)) S := by
  rw [wp_same (rep_e hk), wp_newT]
  exact propext (and_iff_right (rep_len hk))
theorem wp_rep2 {k : Nat} (hk : k ≤ 1000) : Wp (gMul (.tup [.int 2]) (.int (k : Int))) S P = P (.tup ((List.replicate k 2).map nW)) S := wp_rep (n := 2) hk
theorem wp_rep3 {k : Nat} (hk : k ≤ 1000) : Wp (gMul (.tup [.int 3]) (.int (k : Int))) S P = P (.tup ((List.replicate k 3).map nW)) S := wp_rep (n := 3) hk
theorem with_lost {l a b c : Nat} {rs : List Rg} (hr : rdL S l = some (rs.map rgW)) (hn : rs.length ≤ 1000) (hb : b ≤ 1000) (hc : c ≤ 1000) (G : Good N (rs ++ lostR a b c)) (h : ∀ S', S <+: S' → P (rgW (joinR (rs ++ lostR a b c))) S') : Wp (m_with_lost [.ref l, tripW a b c]) S P := by
  refine wp_fn ?_
  unfold b_with_lost tripW
  walk_at "mi"
  rw [wp_seqR hr, wp_ixT (show L2.atI [nW a, nW b, nW c] 0 = some (nW a) from rfl)]
  refine ⟨by decide, ?_⟩
  rw [wp_ixT (show L2.atI [nW a, nW b, nW c] 1 = some (W.int (b : Int)) from rfl), wp_rep2 hb]
  refine ⟨by decide, by decide, ?_⟩
  rw [wp_ixT (show L2.atI [nW a, nW b, nW c] 2 = some (W.int (c : Int)) from rfl), wp_rep3 hc]
  refine ⟨by decide, ?_⟩
  have eL : rs.map rgW ++ [W.tup [nW a, .tup ((List.replicate b 2).map nW)], .tup [.int 0, .tup ((List.replicate c 3).map nW)]] = (rs ++ lostR a b c).map rgW := by
    rw [List.map_append]
    rfl
  rw [eL]
  refine ⟨by rw [List.length_map, List.length_append, PySem.sizeLine_eq]; show _ + 2 ≤ _; omega, ?_⟩
  refine joined (rs := rs ++ lostR a b c) (rdL_of at_new) (by rw [List.length_append]; show _ + 2 ≤ _; omega) G fun S' hS => ?_
  exact h S' ((List.prefix_append _ _).trans hS)
/-! the checks -/
noncomputable def c1 : Rho → M Bool := bOr (bNot (toB (fun ρ => aCons (eVar 0) aNil ρ >>= m_is_list))) (bOr (toB (eOp gGt (eCall gLen (aCons (eVar 0) aNil)) (eC (.int 60)))) (bNot (toB (eCall gAll (aCons (eLc (fun ρ => eVar 0 ρ >>= srcOf) (gtN 2) cYes (fun ρ => aCons (eVar 2) aNil ρ >>= m_are_rings) [2]) aNil)))))
noncomputable def c2 : Rho → M Bool := bOr (bNot (toB (fun ρ => aCons (eVar 1) (aCons (eC (.int 3)) aNil) ρ >>= m_is_tuple))) (bNot (toB (eCall gAll (aCons (eLc (fun ρ => eVar 1 ρ >>= srcOf) (gtN 3) cYes (fun ρ => aCons (eVar 3) (aCons (eC (.int 0)) (aCons (eC (.int 60)) aNil)) ρ >>= m_is_between) [3]) aNil))))
noncomputable def rest : St1 := sRet (fun ρ => aCons (eCall gList (aCons (eVar 0) aNil)) (aCons (eVar 1) aNil) ρ >>= m_with_lost)
theorem b_rw : b_rings_with = sSeq (sIf c1 (sRaise "BadRings") sNx) (sSeq (sIf c2 (sRaise "BadLost") sNx) rest) := rfl
/-- a list or a tuple of these -/
def SeqW (S : Store) (x : W) (ws : List W) : Prop := x = .tup ws ∨ ∃ l, x = .ref l ∧ rdL S l = some ws
theorem SeqW.pre {S S' : Store} {x : W} {ws : List W} (p : S <+: S') (h : SeqW S x ws) : SeqW S' x ws := h.imp id fun ⟨l, e, q⟩ => ⟨l, e, pre_rd p q⟩
theorem SeqW.kn {x : W} {ws : List W} (h : SeqW S x ws) : Kn S x := by
  rcases h with rfl | ⟨l, rfl, q⟩
  · exact kn_tup
  · exact kn_lst q
theorem SeqW.is {x : W} {ws : List W} (h : SeqW S x ws) : (isTp x || isLs S x) = true := by
  rcases h with rfl | ⟨l, rfl, q⟩
  · rfl
  · show (false || (rdL S l).isSome) = true
    rw [q]
    rfl
theorem SeqW.len {x : W} {ws : List W} (h : SeqW S x ws) : Wp (gLen [x]) S P = P (.int ws.length) S := by
  rcases h with rfl | ⟨l, rfl, q⟩
  · rfl
  · exact wp_lenR q
theorem SeqW.src {x : W} {ws : List W} (h : SeqW S x ws) {Q : Src → Store → Prop} (q : ∀ s : Src, s.items = ws → (∀ S', S <+: S' → s.chk S') → Q s S) : Wp (srcOf x) S Q := by
  rcases h with rfl | ⟨l, rfl, e⟩
  · exact q ⟨ws, fun _ => True⟩ rfl fun _ _ => trivial
  · rw [wp_srcR e]
    exact q _ rfl fun S' p => pre_rd p e
/-- no list, no tuple -/
theorem c1_no {x y : W} {o2 o3 : Option W} (k : Kn S x) (h : (isTp x || isLs S x) = false) {Q : Bool → Store → Prop} (q : Q true S) : Wp (c1 [some x, y, o2, o3]) S Q := by
  unfold c1
  walk_at "mi"
  refine is_list k ⟨_, rfl, ?_⟩
  rw [h]
  exact q
theorem c1_long {x y : W} {o2 o3 : Option W} {ws : List W} (h : SeqW S x ws) (hl : 60 < ws.length) {Q : Bool → Store → Prop} (q : Q true S) : Wp (c1 [some x, y, o2, o3]) S Q := by
  unfold c1
  walk_at "mi"
  refine is_list h.kn ⟨_, rfl, ?_⟩
  rw [h.is]
  simp only [Bool.not_true, Bool.false_eq_true, if_false]
  rw [h.len]
  walk_at "mi"
  rw [decide_eq_true (by omega), if_pos rfl]
  exact q
theorem c1_all {x y : W} {o2 o3 : Option W} {ws : List W} (h : SeqW S x ws) (hl : ws.length ≤ 60) (hk : ∀ w ∈ ws, KnR S w) {Q : Bool → Store → Prop} (q : ∀ S', S <+: S' → Q (!(ws.all ringB)) S') : Wp (c1 [some x, y, o2, o3]) S Q := by
  unfold c1
  walk_at "mi"
  refine is_list h.kn ⟨_, rfl, ?_⟩
  rw [h.is]
  simp only [Bool.not_true, Bool.false_eq_true, if_false]
  rw [h.len]
  walk_at "mi"
  rw [decide_eq_false (by omega), if_neg (by simp)]
  refine wp_lcM ws (fun w => .bl (ringB w)) (by rw [PySem.sizeLine_eq]; omega) ?_ (fun w hw S' hS => ?_) fun S' l h1 h2 h3 => ?_
  · walk_at "mi"
    exact h.src fun s e1 e2 => ⟨List.prefix_refl _, e1, e2⟩
  · walk_at "mi"
    refine ⟨List.prefix_refl _, are_rings ?_ fun S2 h2 => ⟨rfl, h2⟩⟩
    obtain ⟨k1, k2⟩ := hk w hw
    exact ⟨k1.pre hS, fun us e => ⟨fun u hu => ((k2 us e).1 u hu).pre hS, fun ts ht => ⟨fun t h3 => (((k2 us e).2 ts ht).1 t h3).pre hS, ((k2 us e).2 ts ht).2⟩⟩⟩
  · rw [wp_all h3]
    exact ⟨_, rfl, q S' h1⟩
def lostB (x : W) : Bool := tupN 3 x && match x with
  | .tup ws => ws.all (btw 0 60)
  | _ => false
theorem c2_ok {x y : W} {o2 o3 : Option W} (k : Kn S y) (k2 : ∀ ws, y = .tup ws → ∀ w ∈ ws, Kn S w) {Q : Bool → Store → Prop} (q : ∀ S', S <+: S' → Q (!(lostB y)) S') : Wp (c2 [some x, some y, o2, o3]) S Q := by
  have q0 := q S (List.prefix_refl _)
  unfold c2
  walk_at "mi"
  refine is_tuple k ⟨_, rfl, ?_⟩
  cases e : tupN 3 y with
  | false =>
    unfold lostB at q0
    rw [e] at q0
    exact q0
  | true =>
    simp only [Bool.not_true, Bool.false_eq_true, if_false]
    cases y with
    | tup ws =>
      have hl : (ws.length : Int) = 3 := eq_of_beq e
      refine wp_lcM ws (fun w => .bl (btw 0 60 w)) (by rw [PySem.sizeLine_eq]; omega) ?_ (fun w hw S' hS => ?_) fun S' l h1 h2 h3 => ?_
      · walk_at "mi"
        exact ⟨List.prefix_refl _, fun _ _ => trivial⟩
      · walk_at "mi"
        exact ⟨List.prefix_refl _, is_between ((k2 ws rfl w hw).pre hS) ⟨rfl, List.prefix_refl _⟩⟩
      · rw [wp_all h3]
        refine ⟨_, rfl, ?_⟩
        have := q S' h1
        unfold lostB at this
        rw [e] at this
        exact this
    | _ => cases e
end
end K46

set_option maxHeartbeats 1000000
/-! K46, the plain law. -/
namespace K46
open PySem PySem.Spec PyProof.Rows L2 Mi
local macro_rules | `(tactic| walk_at "mi") => `(tactic| simp only [wp_bind, wp_pure, wp_var', vr_some, wp_c, wp_op, wp_un, wp_call, wp_nil, wp_cons, wp_star, wp_tup, wp_lst, wp_toB, wp_asB, wp_bNot, wp_bAnd, wp_bOr, wp_eAnd, wp_eOr, wp_eNot, wp_eIf, wp_chain, ws_nx, ws_bk, ws_ct, ws_seq, ws_asg, ws_expr, ws_ret, ws_if, ws_par, ws_dput, wp_gtN, wp_gtNil, wp_gtCons, wp_gtSub, wp_cYes, wp_isN, wp_notN, wp_oNo, wp_oYes, wp_sl, wp_mth, wp_mth0, wp_callK, wp_sub, wp_fdv, wp_mod, wp_pow, wp_lt, wp_le, wp_gt, wp_ge, wp_add, wp_mul, wp_neg, wp_addT, wp_eqI, wp_neI, wp_abs, wp_int, wp_min2, wp_max2, wp_gcd, wp_lenT, wp_tupT, wp_listT, wp_seqT, wp_src, wp_rng1, wp_rng2, List.getElem?_cons_zero, List.getElem?_cons_succ, List.set_cons_zero, List.set_cons_succ, List.map_cons, List.map_nil, List.length_cons, List.length_nil, List.replicate_succ, List.replicate_zero, List.cons_append, List.nil_append, Nat.zero_add, wipeR, W.bl.injEq, W.int.injEq, exists_eq_left', exists_eq_left, exists_eq', Bool.not_true, Bool.not_false, if_true, Bool.false_eq_true, if_false, true_and, and_true, and_self])
open K46M
/-! ### the library: rings_with -/
/-- rings that are rings -/
structure VR (r : Rg) : Prop where
  nn : 0 ≤ r.1
  up : Up r.2
  gt : ∀ x ∈ r.2, 1 < x
theorem vr_zip : ∀ {ts : List Nat}, Up ts → (((ts.map nW).zip (ts.map nW).tail).all rem0) = true
  | [], _ => rfl
  | [x], _ => rfl
  | x :: y :: ts, h => by
    have h := List.pairwise_cons.mp h
    have ih := vr_zip (ts := y :: ts) h.2
    show (rem0 (nW x, nW y) && ((((y :: ts).map nW).zip ((y :: ts).map nW).tail).all rem0)) = true
    rw [ih, Bool.and_true]
    show ((y : Int) % (x : Int) == 0) = true
    have d := h.1 y List.mem_cons_self
    rw [beq_iff_eq, ← Int.natCast_emod, Nat.mod_eq_zero_of_dvd d]
    rfl
theorem vr_ring {r : Rg} (h : VR r) : ringB (rgW r) = true := by
  show (decide (0 ≤ r.1) && ((r.2.map nW).all num1 && ((r.2.map nW).zip (r.2.map nW).tail).all rem0)) = true
  rw [decide_eq_true h.nn, vr_zip h.up, Bool.and_true, Bool.true_and, List.all_map, List.all_eq_true]
  intro x hx
  have := h.gt x hx
  exact decide_eq_true (show (1 : Int) < (x : Int) by omega)
section
variable {S : Store} {P : W → Store → Prop} {N : Nat}
theorem knR_rg {r : Rg} (h : r.2.length ≤ sizeLine) : KnR S (rgW r) := by
  refine ⟨kn_tup, fun ws e => ?_⟩
  cases e
  refine ⟨fun w hw => ?_, fun ts ht => ?_⟩
  · rcases List.mem_cons.mp hw with rfl | hw
    · exact kn_int
    · rw [List.mem_singleton.mp hw]
      exact kn_tup
  · rcases List.mem_cons.mp ht with e | e
    · cases e
    · cases List.mem_singleton.mp e
      exact ⟨fun t h2 => by
        obtain ⟨x, _, rfl⟩ := List.mem_map.mp h2
        exact kn_int, by rw [List.length_map]; exact h⟩
theorem lost_trip {a b c : Nat} (ha : a ≤ 60) (hb : b ≤ 60) (hc : c ≤ 60) : lostB (tripW a b c) = true := by
  have e : ∀ x : Nat, x ≤ 60 → btw 0 60 (nW x) = true := fun x hx => by
    show (decide ((0 : Int) ≤ (x : Int)) && decide ((x : Int) ≤ 60)) = true
    rw [decide_eq_true (by omega), decide_eq_true (by omega)]
    rfl
  show (tupN 3 (tripW a b c) && (btw 0 60 (nW a) && (btw 0 60 (nW b) && (btw 0 60 (nW c) && true)))) = true
  rw [e a ha, e b hb, e c hc]
  rfl
theorem kn_trip {a b c : Nat} : Kn S (tripW a b c) ∧ ∀ ws, tripW a b c = .tup ws → ∀ w ∈ ws, Kn S w := ⟨kn_tup, fun ws e w hw => by
  cases e
  simp only [List.mem_cons, List.not_mem_nil, or_false] at hw
  rcases hw with rfl | rfl | rfl <;> exact kn_int⟩
theorem Kn2.pre {S' : Store} {y : W} (p : S <+: S') (h : ∀ ws, y = .tup ws → ∀ w ∈ ws, Kn S w) : ∀ ws, y = .tup ws → ∀ w ∈ ws, Kn S' w := fun ws e w hw => (h ws e w hw).pre p
theorem rings_ok {x : W} {rs : List Rg} {a b c : Nat} (hx : SeqW S x (rs.map rgW)) (hl : rs.length ≤ 60) (hv : ∀ r ∈ rs, VR r) (hz : ∀ r ∈ rs, r.2.length ≤ 100000) (ha : a ≤ 60) (hb : b ≤ 60) (hc : c ≤ 60) (G : Good N (rs ++ lostR a b c))
    (h : ∀ S', S <+: S' → P (rgW (joinR (rs ++ lostR a b c))) S') : Wp (m_rings_with [x, tripW a b c]) S P := by
  refine wp_fn ?_
  rw [b_rw]
  walk_at "mi"
  refine c1_all hx (by rw [List.length_map]; exact hl) (fun w hw => ?_) fun S1 p1 => ?_
  · obtain ⟨r, hr, rfl⟩ := List.mem_map.mp hw
    exact knR_rg (Nat.le_trans (hz r hr) (by decide))
  · have e : (rs.map rgW).all ringB = true := by
      rw [List.all_map, List.all_eq_true]
      exact fun r hr => vr_ring (hv r hr)
    rw [e]
    simp only [Bool.not_true, Bool.false_eq_true, if_false]
    refine c2_ok kn_trip.1 kn_trip.2 fun S2 p2 => ?_
    rw [lost_trip ha hb hc]
    simp only [Bool.not_true, Bool.false_eq_true, if_false]
    unfold rest
    walk_at "mi"
    have p3 := p1.trans p2
    have fin : ∀ S3, S2 <+: S3 → ∀ S4, S3 <+: S4 → P (rgW (joinR (rs ++ lostR a b c))) S4 := fun S3 q S4 q2 => h S4 (p3.trans (q.trans q2))
    have sz : (rs.map rgW).length ≤ sizeLine := by rw [List.length_map]; exact Nat.le_trans hl (by decide)
    rcases hx.pre p3 with rfl | ⟨l, rfl, e2⟩
    · rw [wp_listT]
      exact ⟨sz, with_lost (rs := rs) (rdL_of at_new) (by omega) (by omega) (by omega) G (fin _ (List.prefix_append _ _))⟩
    · rw [wp_listR e2]
      exact ⟨sz, with_lost (rs := rs) (rdL_of at_new) (by omega) (by omega) (by omega) G (fin _ (List.prefix_append _ _))⟩
/-- refused: the rings -/
theorem rings_no1 {x y : W} {E : W → Store → Prop} (h : Wp (c1 [some x, some y, none, none]) S fun b S' => b = true ∧ E (.exc "BadRings") S') : Wx (m_rings_with [x, y]) S E := by
  refine wx_fn ?_
  rw [b_rw]
  refine wx_seq1 (wx_if1 (Wp.imp h fun b S' q => ⟨q.1, wx_raise q.2⟩))
/-- refused: what is lost -/
theorem rings_no2 {x y : W} {E : W → Store → Prop} (h : Wp (c1 [some x, some y, none, none]) S fun b S' => b = false ∧ Wp (c2 [some x, some y, none, none]) S' fun b S2 => b = true ∧ E (.exc "BadLost") S2) : Wx (m_rings_with [x, y]) S E := by
  refine wx_fn ?_
  rw [b_rw]
  refine wx_seq2 ?_
  rw [ws_if]
  refine Wp.imp h fun b S' q => ?_
  rw [q.1]
  refine ⟨rfl, wx_seq1 (wx_if1 (Wp.imp q.2 fun b S' q => ⟨q.1, wx_raise q.2⟩))⟩
end
end K46

set_option maxHeartbeats 1000000
/-! K46, the plain law. -/
namespace K46
open PySem PySem.Spec PyProof.Rows L2 Mi
local macro_rules | `(tactic| walk_at "mi") => `(tactic| simp only [wp_bind, wp_pure, wp_var', vr_some, wp_c, wp_op, wp_un, wp_call, wp_nil, wp_cons, wp_star, wp_tup, wp_lst, wp_toB, wp_asB, wp_bNot, wp_bAnd, wp_bOr, wp_eAnd, wp_eOr, wp_eNot, wp_eIf, wp_chain, ws_nx, ws_bk, ws_ct, ws_seq, ws_asg, ws_expr, ws_ret, ws_if, ws_par, ws_dput, wp_gtN, wp_gtNil, wp_gtCons, wp_gtSub, wp_cYes, wp_isN, wp_notN, wp_oNo, wp_oYes, wp_sl, wp_mth, wp_mth0, wp_callK, wp_sub, wp_fdv, wp_mod, wp_pow, wp_lt, wp_le, wp_gt, wp_ge, wp_add, wp_mul, wp_neg, wp_addT, wp_eqI, wp_neI, wp_abs, wp_int, wp_min2, wp_max2, wp_gcd, wp_lenT, wp_tupT, wp_listT, wp_seqT, wp_src, wp_rng1, wp_rng2, List.getElem?_cons_zero, List.getElem?_cons_succ, List.set_cons_zero, List.set_cons_succ, List.map_cons, List.map_nil, List.length_cons, List.length_nil, List.replicate_succ, List.replicate_zero, List.cons_append, List.nil_append, Nat.zero_add, wipeR, W.bl.injEq, W.int.injEq, exists_eq_left', exists_eq_left, exists_eq', Bool.not_true, Bool.not_false, if_true, Bool.false_eq_true, if_false, true_and, and_true, and_self])
open K46M
/-! ### the draws -/
def dkW (g c : Nat) (r m : Int) : List (Key × W) := [(.inr "large", .ref g), (.inr "rest", .int r), (.inr "cells", .ref c), (.inr "many", .int m)]
/-- a draw at d: its great numbers at g, the cells at c -/
structure Dr (d g c : Nat) (S : Store) : Prop where
  at_ : ∃ (r m : Int), S[d]? = some (.dk (dkW g c r m))
  large : ∃ xs : List Int, S[g]? = some (.lst (xs.map W.int))
  cells : ∃ xs : List Int, S[c]? = some (.lst (xs.map W.int))
  dg : d ≠ g
  dc : d ≠ c
  gc : g ≠ c
/-- all but the draw stays -/
structure Kp (d g : Nat) (S S' : Store) : Prop where
  len : S.length ≤ S'.length
  at_ : ∀ l o, l ≠ d → l ≠ g → S[l]? = some o → S'[l]? = some o
theorem Kp.refl {d g : Nat} {S : Store} : Kp d g S S := ⟨Nat.le_refl _, fun _ _ _ _ h => h⟩
theorem Kp.trans {d g : Nat} {S S1 S2 : Store} (a : Kp d g S S1) (b : Kp d g S1 S2) : Kp d g S S2 := ⟨Nat.le_trans a.len b.len, fun l o h1 h2 h => b.at_ l o h1 h2 (a.at_ l o h1 h2 h)⟩
theorem Kp.pre {d g : Nat} {S S' : Store} (p : S <+: S') : Kp d g S S' := ⟨p.length_le, fun _ _ _ _ h => pre_at p h⟩
theorem Kp.setD {d g : Nat} {S : Store} {o : Ob} : Kp d g S (S.set d o) := ⟨by simp, fun l o' h1 _ h => at_setN h (Ne.symm h1)⟩
theorem Kp.setG {d g : Nat} {S : Store} {o : Ob} : Kp d g S (S.set g o) := ⟨by simp, fun l o' _ h2 h => at_setN h (Ne.symm h2)⟩
theorem Kp.rd {d g l : Nat} {S S' : Store} {ws : List W} (k : Kp d g S S') (h1 : l ≠ d) (h2 : l ≠ g) (h : rdL S l = some ws) : rdL S' l = some ws := by
  unfold rdL at h ⊢
  cases e : S[l]? with
  | none => rw [e] at h; cases h
  | some o => rw [k.at_ l o h1 h2 e]; rw [e] at h; exact h
theorem Dr.pre {d g c : Nat} {S S' : Store} (p : S <+: S') (h : Dr d g c S) : Dr d g c S' := by
  obtain ⟨⟨r, m, h1⟩, ⟨xs, h2⟩, ⟨ys, h3⟩, a, b, e⟩ := h
  exact ⟨⟨r, m, pre_at p h1⟩, ⟨xs, pre_at p h2⟩, ⟨ys, pre_at p h3⟩, a, b, e⟩
theorem put_rest {g c : Nat} {r m z : Int} : putW (dkW g c r m) (.inr "rest") (.int z) = dkW g c z m := by rfl
theorem put_many {g c : Nat} {r m z : Int} : putW (dkW g c r m) (.inr "many") (.int z) = dkW g c r z := by rfl
theorem get_rest {g c : Nat} {r m : Int} : valW (dkW g c r m) (.inr "rest") = some (.int r) := by rfl
theorem get_many {g c : Nat} {r m : Int} : valW (dkW g c r m) (.inr "many") = some (.int m) := by rfl
theorem get_large {g c : Nat} {r m : Int} : valW (dkW g c r m) (.inr "large") = some (.ref g) := by rfl
theorem get_cells {g c : Nat} {r m : Int} : valW (dkW g c r m) (.inr "cells") = some (.ref c) := by rfl
section
variable {S : Store} {P : W → Store → Prop} {d g c : Nat}
theorem dk_small {g c : Nat} {r m : Int} : (dkW g c r m).length < sizeLine := by show 4 < _; decide
theorem mixed (h : Dr d g c S) (q : ∀ S' (v : Int), Dr d g c S' → Kp d g S S' → P (.int v) S') : Wp (m__law_mixed [.ref d]) S P := by
  obtain ⟨⟨r, m, hd⟩, ⟨xs, hg⟩, ⟨ys, hc⟩, n1, n2, n3⟩ := h
  refine wp_fn ?_
  unfold b__law_mixed
  walk_at "mi"
  rw [wp_dget hd rfl get_many]
  walk_at "mi"
  rw [wp_putD hd rfl dk_small, put_many]
  have hd1 : (S.set d (.dk (dkW g c r (m + 1))))[d]? = some (.dk (dkW g c r (m + 1))) := at_set hd
  rw [wp_dget hd1 rfl get_many]
  walk_at "mi"
  refine ⟨_, _, rfl, ?_⟩
  refine ws_for ?_
  walk_at "mi"
  refine ⟨by decide, ?_⟩
  rw [wp_srcR (rdL_of at_new)]
  generalize hS : S.set d (.dk (dkW g c r (m + 1))) ++ [.lst [.int 2147483629, .int 2147483587, .int 2147483579]] = S1
  have p1 : S.set d (.dk (dkW g c r (m + 1))) <+: S1 := by rw [← hS]; exact List.prefix_append _ _
  have hc1 : S1[c]? = some (.lst (ys.map W.int)) := pre_at p1 (at_setN hc n2)
  have hd2 := pre_at p1 hd1
  have D1 : Dr d g c S1 := ⟨⟨_, _, hd2⟩, ⟨xs, pre_at p1 (at_setN hg n1)⟩, ⟨ys, hc1⟩, n1, n2, n3⟩
  have K1 : Kp d g S S1 := Kp.setD.trans (Kp.pre p1)
  have hl : rdL S1 (S.set d (.dk (dkW g c r (m + 1)))).length = some [.int 2147483629, .int 2147483587, .int 2147483579] := by rw [← hS]; exact rdL_of at_new
  refine ⟨fun i ρ S' => S' = S1 ∧ ∃ (x1 x4 x5 : Option W) (v : Int), ρ = [some (.ref d), x1, some (.int (m + 1)), some (.int v), x4, x5], ⟨rfl, _, _, _, _, rfl⟩, fun i ρ S' j => by rw [j.1]; exact hl, ?_, ?_⟩
  · intro i w ρ S' hi ⟨e, x1, x4, x5, v, hρ⟩
    subst e hρ
    have hw : ∃ n : Int, w = .int n ∧ 0 < n ∧ n < 2 ^ 31 := by
      have hm := List.mem_of_getElem? hi
      simp only [List.mem_cons, List.not_mem_nil, or_false] at hm
      rcases hm with rfl | rfl | rfl <;> exact ⟨_, rfl, by decide, by decide⟩
    obtain ⟨n, rfl, n0, nb⟩ := hw
    walk_at "mi"
    refine ⟨.inr (.inl ⟨by decide, by decide⟩), ⟨by decide, by decide⟩, n0, ?_⟩
    refine ws_for ?_
    walk_at "mi"
    rw [wp_dget hd2 rfl get_cells, wp_srcR (rdL_of hc1)]
    refine ⟨fun j ρ T => T = S' ∧ ∃ (y5 : Option W) (b : Int), ρ = [some (.ref d), some (.int n), some (.int (m + 1)), some (.int v), some (.int b), y5] ∧ 0 ≤ b ∧ b < n, ⟨rfl, _, _, rfl, Int.emod_nonneg _ (by omega), Int.emod_lt_of_pos _ n0⟩, fun j ρ T q => by rw [q.1]; exact rdL_of hc1, ?_, ?_⟩
    · intro j w2 ρ T hj ⟨e, y5, b, hρ, b0, b1⟩
      subst e hρ
      obtain ⟨z, rfl⟩ : ∃ z, w2 = .int z := by
        rw [List.getElem?_map] at hj
        cases q : ys[j]? with
        | none => rw [q] at hj; cases hj
        | some z => rw [q] at hj; cases hj; exact ⟨z, rfl⟩
      walk_at "mi"
      exact ⟨.inr (.inl ⟨by decide, by decide⟩), n0, _, _, rfl, Int.emod_nonneg _ (by omega), Int.emod_lt_of_pos _ n0⟩
    · intro ρ T ⟨e, y5, b, hρ, b0, b1⟩
      subst e hρ
      walk_at "mi"
      refine ⟨.inr (.inl ⟨by decide, by decide⟩), ⟨by decide, by decide, by omega⟩, n0, _, _, _, _, rfl⟩
  · intro ρ S' ⟨e, x1, x4, x5, v, hρ⟩
    subst e hρ
    walk_at "mi"
    exact q _ v D1 K1
end
end K46

set_option maxHeartbeats 1000000
/-! K46, the plain law. -/
namespace K46
open PySem PySem.Spec PyProof.Rows L2 Mi
local macro_rules | `(tactic| walk_at "mi") => `(tactic| simp only [wp_bind, wp_pure, wp_var', vr_some, wp_c, wp_op, wp_un, wp_call, wp_nil, wp_cons, wp_star, wp_tup, wp_lst, wp_toB, wp_asB, wp_bNot, wp_bAnd, wp_bOr, wp_eAnd, wp_eOr, wp_eNot, wp_eIf, wp_chain, ws_nx, ws_bk, ws_ct, ws_seq, ws_asg, ws_expr, ws_ret, ws_if, ws_par, ws_dput, wp_gtN, wp_gtNil, wp_gtCons, wp_gtSub, wp_cYes, wp_isN, wp_notN, wp_oNo, wp_oYes, wp_sl, wp_mth, wp_mth0, wp_callK, wp_sub, wp_fdv, wp_mod, wp_pow, wp_lt, wp_le, wp_gt, wp_ge, wp_add, wp_mul, wp_neg, wp_addT, wp_eqI, wp_neI, wp_abs, wp_int, wp_min2, wp_max2, wp_gcd, wp_lenT, wp_tupT, wp_listT, wp_seqT, wp_src, wp_rng1, wp_rng2, List.getElem?_cons_zero, List.getElem?_cons_succ, List.set_cons_zero, List.set_cons_succ, List.map_cons, List.map_nil, List.length_cons, List.length_nil, List.replicate_succ, List.replicate_zero, List.cons_append, List.nil_append, Nat.zero_add, wipeR, W.bl.injEq, W.int.injEq, exists_eq_left', exists_eq_left, exists_eq', Bool.not_true, Bool.not_false, if_true, Bool.false_eq_true, if_false, true_and, and_true, and_self])
open K46M
section
variable {S : Store} {P : W → Store → Prop} {d g c : Nat}
theorem dat_ints {S : Store} {n l : Nat} {xs : List Int} (h : rdL S l = some (xs.map W.int)) : Dat S (n + 1) (.ref l) (.list (xs.map PyData.int)) := dat_lst (f := W.int) h fun x _ => dat_int
theorem eqv_nil {xs : List Int} : PyData.eqv (.list (xs.map PyData.int)) (.list (([] : List Int).map PyData.int)) = xs.isEmpty := by
  cases xs <;> simp [PyData.eqv, PyData.eqvAll]
theorem ws_seqI {a b : St1} {ρ ρ1 : Rho} {Q : PSt} {R : Store → Prop} (h : Ws (a ρ) S fun f ρ2 S1 => f = .nx ∧ ρ2 = ρ1 ∧ R S1) (q : ∀ S1, R S1 → Ws (b ρ1) S1 Q) : Ws (sSeq a b ρ) S Q := by
  rw [ws_seq]
  refine Wp.imp h fun r S1 ⟨h1, h2, h3⟩ => ?_
  obtain ⟨f, ρ2⟩ := r
  subst h1 h2
  exact q S1 h3
theorem take {z : Int} (h : Dr d g c S) (hz : 0 < z) (hb : z.natAbs.log2 < 9000) (q : ∀ S' (v : Int), Dr d g c S' → Kp d g S S' → 0 ≤ v → v < z → P (.int v) S') : Wp (m__law_take [.ref d, .int z]) S P := by
  refine wp_fn ?_
  unfold b__law_take
  refine ws_seqI (ρ1 := [some (.ref d), some (.int z), none]) (R := fun S1 => Dr d g c S1 ∧ Kp d g S S1) ?_ fun S1 ⟨D, K⟩ => ?_
  · obtain ⟨⟨r, m, hd⟩, ⟨xs, hg⟩, ⟨ys, hc⟩, n1, n2, n3⟩ := id h
    walk_at "mi"
    rw [wp_dget hd rfl get_rest]
    walk_at "mi"
    by_cases hr : r = 0
    · rw [beq_iff_eq.mpr hr, if_pos rfl]
      rw [wp_dget hd rfl get_large]
      refine ⟨by decide, ?_⟩
      have p1 : S <+: S ++ [.lst []] := List.prefix_append _ _
      rw [wp_eqD (dat_ints (rdL_of (pre_at p1 hg))) (dat_ints (xs := []) (rdL_of at_new))]
      refine ⟨_, rfl, ?_⟩
      rw [eqv_nil]
      cases xs with
      | nil =>
        simp only [List.isEmpty_nil, Bool.not_true, if_true, Bool.false_eq_true, if_false]
        refine mixed (h.pre p1) fun S2 v D2 K2 => ?_
        obtain ⟨⟨r2, m2, hd2⟩, ⟨xs2, hg2⟩, ⟨ys2, hc2⟩, _, _, _⟩ := D2
        rw [wp_putD hd2 rfl dk_small, put_rest]
        exact ⟨⟨⟨v, m2, at_set hd2⟩, ⟨xs2, at_setN hg2 n1⟩, ⟨ys2, at_setN hc2 n2⟩, n1, n2, n3⟩, (Kp.pre p1).trans (K2.trans Kp.setD)⟩
      | cons x xs =>
        simp only [List.isEmpty_cons, Bool.not_false, if_true]
        rw [wp_dget (pre_at p1 hd) rfl get_large]
        rw [wp_isL (rdL_of (pre_at p1 hg)), wp_popAt (pre_at p1 hg) ⟨by decide, by decide⟩ (k := 0) (by
          show (if (0 : Int) ≤ 0 && (0 : Int) < (((x :: xs).map W.int).length : Int) then some (0 : Int).toNat else none) = some 0
          rw [if_pos (by simp)]
          rfl) rfl]
        have hd2 : ((S ++ [Ob.lst []]).set g (Ob.lst (((x :: xs).map W.int).eraseIdx 0)))[d]? = some (Ob.dk (dkW g c r m)) := at_setN (pre_at p1 hd) (Ne.symm n1)
        rw [wp_putD hd2 rfl dk_small, put_rest]
        exact ⟨⟨⟨x, m, at_set hd2⟩, ⟨xs, at_setN (at_set (pre_at p1 hg)) n1⟩, ⟨ys, at_setN (at_setN (pre_at p1 hc) n3) n2⟩, n1, n2, n3⟩, (Kp.pre p1).trans (Kp.setG.trans Kp.setD)⟩
    · rw [show (r == 0) = false from by rw [beq_eq_false_iff_ne]; exact hr]
      rw [if_neg (by simp)]
      exact ⟨h, Kp.refl⟩
  · obtain ⟨⟨r, m, hd⟩, ⟨xs, hg⟩, ⟨ys, hc⟩, n1, n2, n3⟩ := D
    walk_at "mi"
    rw [wp_dget hd rfl get_rest]
    walk_at "mi"
    refine ⟨hz, ?_⟩
    rw [wp_dget hd rfl get_rest]
    walk_at "mi"
    refine ⟨⟨hz, hb⟩, ?_⟩
    rw [wp_putD hd rfl dk_small, put_rest]
    exact q _ _ ⟨⟨_, m, at_set hd⟩, ⟨xs, at_setN hg n1⟩, ⟨ys, at_setN hc n2⟩, n1, n2, n3⟩ (K.trans Kp.setD) (Int.emod_nonneg _ (by omega)) (Int.emod_lt_of_pos _ hz)
/-- one of a list -/
theorem pick {l : Nat} {ws : List W} (h : Dr d g c S) (hl : rdL S l = some ws) (hn : 0 < ws.length) (hs : ws.length ≤ sizeLine) (h1 : l ≠ d) (h2 : l ≠ g) (q : ∀ S' w, Dr d g c S' → Kp d g S S' → w ∈ ws → P w S') : Wp (m__law_pick [.ref d, .ref l]) S P := by
  refine wp_fn ?_
  unfold b__law_pick
  walk_at "mi"
  rw [wp_lenR hl]
  refine take h (by omega) ?_ fun S' v D K v0 v1 => ?_
  · have : (ws.length : Int).natAbs = ws.length := rfl
    rw [this]
    have h3 : ws.length < 2 ^ 25 := Nat.lt_of_le_of_lt hs (by decide)
    have h4 := (Nat.log2_lt (by omega)).mpr h3
    omega
  · have hv : v.toNat < ws.length := by omega
    have e : v = ((v.toNat : Nat) : Int) := by omega
    rw [e, wp_ixR (K.rd h1 h2 hl) (Mi.atI_nat (w := ws[v.toNat]) (by simp [hv]))]
    exact q S' _ D K (List.getElem_mem hv)
theorem wp_disp {ms : List (Key × (Rho → M W))} {ρ : Rho} : Wp (eDisp ms ρ) S P = Wp (dispGo ms ρ) (S ++ [.dk []]) (fun kvs S1 => Wp (endDisp S.length kvs) S1 P) := by
  unfold eDisp
  rw [wp_bind]
  show Wp (dispGo ms ρ >>= _) (S ++ [.dk []]) P = _
  rw [wp_bind]
theorem wp_dgo0 {ρ : Rho} {P : List (Key × W) → Store → Prop} : Wp (dispGo [] ρ) S P = P [] S := rfl
theorem wp_dgo {k : Key} {m : Rho → M W} {r : List (Key × (Rho → M W))} {ρ : Rho} {P : List (Key × W) → Store → Prop} : Wp (dispGo ((k, m) :: r) ρ) S P = Wp (m ρ) S (fun w S1 => Wp (dispGo r ρ) S1 fun l S2 => P ((k, w) :: l) S2) := by
  show Wp (m ρ >>= fun w => dispGo r ρ >>= fun l => pure ((k, w) :: l)) S P = _
  simp only [wp_bind, wp_pure]
theorem wp_dend {l : Nat} {kvs : List (Key × W)} (h : S[l]? = some (.dk [])) (hl : kvs.length ≤ 15) : Wp (endDisp l kvs) S P = P (.ref l) (S.set l (.dk (mergeW [] kvs))) := by
  have e : endDisp l kvs S = .ok (.ref l) (S.set l (.dk (mergeW [] kvs))) := by
    unfold endDisp
    rw [rdD_of h]
    exact if_pos hl
  unfold Wp
  rw [e]
theorem fm_ints {p : W → Bool} {f : W → W} (hf : ∀ i : Int, ∃ z, f (.int i) = .int z) : ∀ ns : List Int, ∃ xs : List Int, some (Ob.lst (((ns.map W.int).filter p).map f)) = some (Ob.lst (xs.map W.int))
  | [] => ⟨[], rfl⟩
  | i :: ns => by
    obtain ⟨xs, e⟩ := fm_ints (p := p) (f := f) hf ns
    have e2 : ((ns.map W.int).filter p).map f = xs.map W.int := by
      have := Option.some.inj e
      injection this
    rw [List.map_cons, List.filter_cons]
    by_cases h : p (.int i) = true
    · obtain ⟨z, hz⟩ := hf i
      refine ⟨z :: xs, ?_⟩
      rw [if_pos h, List.map_cons, e2, hz]
      rfl
    · rw [if_neg h]
      exact ⟨xs, e⟩
/-- the draw, made of the script -/
theorem begun {l : Nat} {ns : List Int} (hl : rdL S l = some (ns.map W.int)) (hn : ns.length ≤ 100000) (q : ∀ S' d g c, S <+: S' → S.length ≤ d → S.length ≤ g → Dr d g c S' → P (.ref d) S') : Wp (m__law_begun [.ref l]) S P := by
  refine wp_fn ?_
  unfold b__law_begun
  walk_at "mi"
  refine wp_lcP (ns.map W.int) (fun w => match w with | .int i => decide (10 ^ 18 ≤ (if i < 0 then -i else i)) | _ => false) (fun w => match w with | .int i => .int ((if i < 0 then -i else i) - 10 ^ 18) | _ => .non) (by rw [List.length_map, PySem.sizeLine_eq]; omega) ?_ (fun w hw S' hS => ?_) fun S1 g p1 g1 hg => ?_
  · walk_at "mi"
    rw [wp_srcR hl]
    exact ⟨List.prefix_refl _, rfl, fun S' p => pre_rd p hl⟩
  · obtain ⟨i, hi, rfl⟩ := List.mem_map.mp hw
    walk_at "mi"
    refine ⟨⟨by decide, by decide, by decide⟩, ?_⟩
    refine ⟨rfl, List.prefix_refl _, fun _ => ⟨⟨by decide, by decide, by decide⟩, rfl, List.prefix_refl _⟩⟩
  · have hg0 : ∃ xs : List Int, S1[g]? = some (.lst (xs.map W.int)) := by
      rw [hg]
      exact fm_ints (fun i => ⟨_, rfl⟩) ns
    rw [wp_disp, wp_dgo]
    walk_at "mi"
    simp only [wp_dgo, wp_dgo0]
    walk_at "mi"
    have hd1 : (S1 ++ [.dk []])[S1.length]? = some (.dk []) := at_new
    have p2 : S1 <+: S1 ++ [.dk []] := List.prefix_append _ _
    refine wp_lcM (ns.map W.int) (fun w => match w with | .int i => .int (if i < 0 then -i else i) | _ => .non) (by rw [List.length_map, PySem.sizeLine_eq]; omega) ?_ (fun w hw S' hS => ?_) fun S2 c p3 c1 hc => ?_
    · walk_at "mi"
      rw [wp_srcR (pre_rd (p1.trans p2) hl)]
      exact ⟨List.prefix_refl _, rfl, fun S' p => pre_rd ((p1.trans p2).trans p) hl⟩
    · obtain ⟨i, hi, rfl⟩ := List.mem_map.mp hw
      walk_at "mi"
      exact List.prefix_refl _
    · have hd2 := pre_at p3 hd1
      rw [wp_dend hd2 (by show 4 ≤ 15; decide)]
      have em : mergeW [] [(.inr "large", .ref g), (.inr "rest", .int 0), (.inr "cells", .ref c), (.inr "many", .int 0)] = dkW g c 0 0 := rfl
      rw [em]
      have g2 : g < S1.length := by
        obtain ⟨xs, e⟩ := hg0
        exact (List.getElem?_eq_some_iff.mp e).1
      have d1 : S.length ≤ S1.length := p1.length_le
      have lc : (S1 ++ [Ob.dk []]).length = S1.length + 1 := by simp
      refine q _ S1.length g c (pre_set ((p1.trans p2).trans p3) d1) d1 g1 ⟨⟨0, 0, at_set hd2⟩, ?_, ?_, by omega, by omega, by omega⟩
      · obtain ⟨xs, e⟩ := hg0
        exact ⟨xs, at_setN (pre_at p3 (pre_at p2 e)) (by omega)⟩
      · refine ⟨ns.map fun i => if i < 0 then -i else i, at_setN ?_ (by omega)⟩
        rw [hc, List.map_map, List.map_map]
        rfl
end
end K46

set_option maxHeartbeats 1000000
/-! K46, the plain law. -/
namespace K46
open PySem PySem.Spec PyProof.Rows L2 Mi
local macro_rules | `(tactic| walk_at "mi") => `(tactic| simp only [wp_bind, wp_pure, wp_var', vr_some, wp_c, wp_op, wp_un, wp_call, wp_nil, wp_cons, wp_star, wp_tup, wp_lst, wp_toB, wp_asB, wp_bNot, wp_bAnd, wp_bOr, wp_eAnd, wp_eOr, wp_eNot, wp_eIf, wp_chain, ws_nx, ws_bk, ws_ct, ws_seq, ws_asg, ws_expr, ws_ret, ws_if, ws_par, ws_dput, wp_gtN, wp_gtNil, wp_gtCons, wp_gtSub, wp_cYes, wp_isN, wp_notN, wp_oNo, wp_oYes, wp_sl, wp_mth, wp_mth0, wp_callK, wp_sub, wp_fdv, wp_mod, wp_pow, wp_lt, wp_le, wp_gt, wp_ge, wp_add, wp_mul, wp_neg, wp_addT, wp_eqI, wp_neI, wp_abs, wp_int, wp_min2, wp_max2, wp_gcd, wp_lenT, wp_tupT, wp_listT, wp_seqT, wp_src, wp_rng1, wp_rng2, List.getElem?_cons_zero, List.getElem?_cons_succ, List.set_cons_zero, List.set_cons_succ, List.map_cons, List.map_nil, List.length_cons, List.length_nil, List.replicate_succ, List.replicate_zero, List.cons_append, List.nil_append, Nat.zero_add, wipeR, W.bl.injEq, W.int.injEq, exists_eq_left', exists_eq_left, exists_eq', Bool.not_true, Bool.not_false, if_true, Bool.false_eq_true, if_false, true_and, and_true, and_self])
open K46M
section
variable {S : Store} {P : W → Store → Prop} {N : Nat}
theorem law_gcd {a b : Nat} (hb : b < 2 ^ 230) (h : P (nW (Nat.gcd a b)) S) : Wp (m__law_gcd [nW a, nW b]) S P := by
  refine wp_fn ?_
  unfold b__law_gcd
  walk_at "mi"
  refine ws_for ?_
  walk_at "mi"
  refine ⟨⟨by decide, by decide⟩, ?_⟩
  refine ⟨fun i ρ S' => S' = S ∧ ∃ (x y : Nat) (o : Option W), ρ = [some (nW x), some (nW y), o] ∧ Nat.gcd x y = Nat.gcd a b ∧ Laps (400 - i) x y, ⟨rfl, a, b, none, rfl, rfl, laps_400 hb⟩, fun _ _ _ _ => trivial, ?_, ?_⟩
  · intro i w ρ S' hi ⟨e, x, y, o, hρ, hg, hL⟩
    subst e hρ
    obtain ⟨hi1, rfl⟩ := rngW_get hi
    have hi2 : i < 400 := hi1
    unfold nW
    walk_at "mi"
    by_cases hy : y = 0
    · subst hy
      rw [show (((0 : Nat) : Int) == 0) = true from rfl, if_pos rfl]
      rw [Nat.gcd_zero_right] at hg
      rw [← hg] at h
      exact h
    · rw [show ((y : Int) == 0) = false from by rw [beq_eq_false_iff_ne]; omega, if_neg (by simp)]
      refine ⟨by omega, _, _, rfl, ?_⟩
      have e3 : 400 - i = (400 - (i + 1)) + 1 := by omega
      rw [e3] at hL
      refine ⟨y, x % y, _, rfl, ?_, laps_step hL (by omega)⟩
      rw [← hg, Nat.gcd_comm x y, Nat.gcd_rec y x, Nat.gcd_comm]
  · intro ρ S' ⟨e, x, y, o, hρ, hg, hL⟩
    subst e hρ
    have hl : (rngW 0 (Int.toNat 400)).length = 400 := by rw [rngW_len]; rfl
    have hL : Laps (400 - (rngW 0 (Int.toNat 400)).length) x y := hL
    rw [hl] at hL
    have hy := laps_end hL
    subst hy
    rw [Nat.gcd_zero_right] at hg
    rw [← hg] at h
    unfold nW
    walk_at "mi"
    exact h
theorem wp_addL {l m : Nat} {a b : List W} (h1 : S[l]? = some (.lst a)) (h2 : S[m]? = some (.lst b)) : Wp (gAdd (.ref l) (.ref m)) S P = ((a ++ b).length ≤ sizeLine ∧ P (.ref S.length) (S ++ [.lst (a ++ b)])) := by
  have e : gAdd (.ref l) (.ref m) S = newL (a ++ b) S := by
    have e0 : gAdd (.ref l) (.ref m) S = match muL S l, muL S m with
      | some a, some b => newL (a ++ b) S
      | _, _ => .stuck := rfl
    rw [e0, muL_of h1, muL_of h2]
  rw [wp_same e, wp_newL]
theorem together {l a b c : Nat} {rs : List Rg} {w : W} (hw : w = tripW a b c) (hr : S[l]? = some (.lst (rs.map rgW))) (hn : rs.length ≤ 1000) (hb : b ≤ 1000) (hc : c ≤ 1000) (G : Good N (rs ++ lostR a b c)) (h : ∀ S', S <+: S' → P (rgW (joinR (rs ++ lostR a b c))) S') : Wp (m__law_together [.ref l, w]) S P := by
  have t0 : ∀ (S : Store) (P : W → Store → Prop), Wp (gIx w (.int 0)) S P = P (nW a) S := fun S P => by rw [hw]; exact wp_ixT rfl
  have t1 : ∀ (S : Store) (P : W → Store → Prop), Wp (gIx w (.int 1)) S P = P (.int (b : Int)) S := fun S P => by rw [hw]; exact wp_ixT rfl
  have t2 : ∀ (S : Store) (P : W → Store → Prop), Wp (gIx w (.int 2)) S P = P (.int (c : Int)) S := fun S P => by rw [hw]; exact wp_ixT rfl
  clear hw
  refine wp_fn ?_
  unfold b__law_together
  walk_at "mi"
  rw [t0]
  refine ⟨by decide, _, _, rfl, ?_⟩
  refine ws_for ?_
  walk_at "mi"
  rw [t1, wp_rep2 hb]
  refine ⟨by decide, ?_⟩
  rw [t2, wp_rep3 hc]
  refine ⟨by decide, by decide, ?_⟩
  have p0 : S <+: S ++ [Ob.lst []] := List.prefix_append _ _
  rw [wp_addL (pre_at (p0.trans (List.prefix_append _ _)) hr) at_new]
  have sz : (rs.map rgW ++ [W.tup [.int 0, .tup ((List.replicate b 2).map nW)], .tup [.int 0, .tup ((List.replicate c 3).map nW)]]).length ≤ sizeLine := by
    rw [List.length_append, List.length_map, PySem.sizeLine_eq]
    show _ + 2 ≤ _
    omega
  refine ⟨by decide, by decide, sz, ?_⟩
  rw [wp_srcR (rdL_of at_new)]
  obtain ⟨rs2, hrs2⟩ : ∃ rs2 : List Rg, rs2 = rs ++ [(0, List.replicate b 2), (0, List.replicate c 3)] := ⟨_, rfl⟩
  have eL : rs.map rgW ++ [W.tup [.int 0, .tup ((List.replicate b 2).map nW)], .tup [.int 0, .tup ((List.replicate c 3).map nW)]] = rs2.map rgW := by
    rw [hrs2, List.map_append]
    rfl
  rw [eL]
  generalize hS3 : S ++ [Ob.lst []] ++ [Ob.lst [W.tup [.int 0, .tup ((List.replicate b 2).map nW)], .tup [.int 0, .tup ((List.replicate c 3).map nW)]]] = S3
  have p3 : S ++ [Ob.lst []] <+: S3 := by rw [← hS3]; exact List.prefix_append _ _
  have eN : rs2.flatMap (·.2) = (rs ++ lostR a b c).flatMap (·.2) := by
    rw [hrs2, List.flatMap_append, List.flatMap_append]
    rfl
  have eF : (a : Int) + (rs2.map (·.1)).sum = ((rs ++ lostR a b c).map (·.1)).sum := by
    rw [hrs2, List.map_append, List.map_append, List.sum_append, List.sum_append]
    show (a : Int) + ((rs.map (·.1)).sum + (0 + (0 + 0))) = (rs.map (·.1)).sum + ((a : Int) + (0 + 0))
    omega
  have few : (rs2.flatMap (·.2)).length ≤ 100000 := by rw [eN]; exact G.few
  have pos0 : ∀ x ∈ rs2.flatMap (·.2), 0 < x ∧ x ∣ N := fun x hx => by
    rw [eN] at hx
    obtain ⟨r, h1, h2⟩ := List.mem_flatMap.mp hx
    exact G.all r h1 x h2
  have hread : ∀ S', S3 ++ [Ob.lst (rs2.map rgW)] <+: S' → rdL S' S3.length = some (rs2.map rgW) := fun S' p => rdL_of (pre_at p at_new)
  refine ⟨fun i ρ S' => ∃ x2 x3 x6 x7 x8 cl, ρ = [some (.ref l), some w, x2, x3, some (.int ((a : Int) + ((rs2.take i).map (·.1)).sum)), some (.ref cl), x6, x7, x8] ∧ S3 ++ [Ob.lst (rs2.map rgW)] <+: S' ∧ S'[cl]? = some (.lst (((rs2.take i).flatMap (·.2)).map nW)) ∧ S.length ≤ cl,
    ⟨none, none, none, none, none, _, by simp [nW], List.prefix_refl _, pre_at (p3.trans (List.prefix_append _ _)) at_new, Nat.le_refl _⟩, fun i ρ S' ⟨_, _, _, _, _, _, _, p, _⟩ => hread S' p, ?_, ?_⟩
  · intro i w ρ S4 hi ⟨x2, x3, x6, x7, x8, cl, hρ, p4, hcl, clS⟩
    subst hρ
    obtain ⟨r, hri, rfl⟩ : ∃ r, rs2[i]? = some r ∧ w = rgW r := by
      rw [List.getElem?_map] at hi
      cases q : rs2[i]? with
      | none => rw [q] at hi; cases hi
      | some r => rw [q] at hi; cases hi; exact ⟨r, rfl, rfl⟩
    have et : rs2.take (i + 1) = rs2.take i ++ [r] := by rw [List.take_succ, hri]; rfl
    have hlen : ((rs2.take (i + 1)).flatMap (·.2)).length ≤ (rs2.flatMap (·.2)).length := by
      conv => rhs; rw [← List.take_append_drop (i + 1) rs2, List.flatMap_append, List.length_append]
      omega
    have hlen2 : ((rs2.take i).flatMap (·.2)).length + r.2.length ≤ 100000 := by
      rw [et, List.flatMap_append, List.length_append, show ([r] : List Rg).flatMap (·.2) = r.2 from by simp] at hlen
      omega
    unfold rgW
    walk_at "mi"
    rw [wp_ixT (show L2.atI [W.int r.1, W.tup (r.2.map nW)] 0 = some (.int r.1) from rfl)]
    walk_at "mi"
    rw [wp_ixT (show L2.atI [W.int r.1, W.tup (r.2.map nW)] 1 = some (.tup (r.2.map nW)) from rfl)]
    walk_at "mi"
    refine ⟨by rw [List.length_map, PySem.sizeLine_eq]; omega, ?_⟩
    rw [wp_addL (at_app hcl) at_new]
    refine ⟨by rw [List.length_append, List.length_map, List.length_map, PySem.sizeLine_eq]; omega, _, _, rfl, ?_⟩
    have hS4 : S <+: S4 := ((p0.trans p3).trans (List.prefix_append _ _)).trans p4
    have es : (a : Int) + ((rs2.take (i + 1)).map (·.1)).sum = (a : Int) + ((rs2.take i).map (·.1)).sum + r.1 := by
      rw [et, List.map_append, List.sum_append]
      simp only [List.map_cons, List.map_nil, List.sum_cons, List.sum_nil]
      omega
    refine ⟨some (.tup [.int r.1, .tup (r.2.map nW)]), x3, x6, x7, x8, _, ?_, p4.trans ((List.prefix_append _ _).trans (List.prefix_append _ _)), at_new.trans ?_, ?_⟩
    · rw [es]
    · rw [et, List.flatMap_append, List.map_append, show ([r] : List Rg).flatMap (·.2) = r.2 from by simp]
    · have := hS4.length_le
      simp
      omega
  · intro ρ S4 ⟨x2, x3, x6, x7, x8, cl, hρ, p4, hcl, clS⟩
    subst hρ
    rw [List.length_map] at hcl
    have hcl : S4[cl]? = some (.lst ((rs2.flatMap (·.2)).map nW)) := by rw [hcl, List.take_length]
    rw [List.length_map, List.take_length, eF]
    generalize hc0 : rs2.flatMap (·.2) = c0 at hcl few pos0
    have hS4 : S <+: S4 := ((p0.trans p3).trans (List.prefix_append _ _)).trans p4
    -- the pairs
    refine ws_for ?_
    walk_at "mi"
    rw [wp_lenR (rdL_of hcl)]
    walk_at "mi"
    rw [List.length_map]
    refine ⟨⟨by omega, by omega⟩, ?_⟩
    refine ⟨fun i ρ S' => ∃ y2 y3 y6 y7 y8 cs, ρ = [some (.ref l), some w, y2, y3, some (.int ((rs ++ lostR a b c).map (·.1)).sum), some (.ref cl), y6, y7, y8] ∧ S <+: S' ∧ S'[cl]? = some (.lst (cs.map nW)) ∧ Tri N c0 i (i + 1) cs,
      ⟨_, _, _, _, _, c0, rfl, hS4, hcl, ⟨rfl, fun _ => rfl, fun x hx => (pos0 x hx).1, fun x hx => (pos0 x hx).2, fun p q x y h1 => by omega, fun q x y h1 h2 => by omega⟩⟩, fun _ _ _ _ => trivial, ?_, ?_⟩
    · intro i w2 ρ S5 hi ⟨y2, y3, y6, y7, y8, cs, hρ, p5, h5, T5⟩
      subst hρ
      obtain ⟨hi1, rfl⟩ := rngW_get hi
      have hi2 : i < c0.length := by simpa using hi1
      rw [Int.zero_add]
      walk_at "mi"
      refine ws_for ?_
      walk_at "mi"
      rw [wp_lenR (rdL_of h5)]
      walk_at "mi"
      rw [List.length_map, T5.len]
      refine ⟨⟨by omega, by omega, by omega, by omega⟩, ?_⟩
      have en : ((c0.length : Int) - ((i : Int) + 1)).toNat = c0.length - (i + 1) := by omega
      rw [en]
      refine ⟨fun k ρ S' => ∃ z6 z7 z8 ds, ρ = [some (.ref l), some w, y2, some (.int (i : Int)), some (.int ((rs ++ lostR a b c).map (·.1)).sum), some (.ref cl), z6, z7, z8] ∧ S <+: S' ∧ S'[cl]? = some (.lst (ds.map nW)) ∧ Tri N c0 i (i + 1 + k) ds,
        ⟨_, _, _, cs, rfl, p5, h5, T5⟩, fun _ _ _ _ => trivial, ?_, ?_⟩
      · intro k w3 ρ S6 hk ⟨z6, z7, z8, ds, hρ, p6, h6, T6⟩
        subst hρ
        obtain ⟨hk1, rfl⟩ := rngW_get hk
        have hj : i + 1 + k < ds.length := by rw [T6.len]; omega
        have hi3 : i < ds.length := by omega
        obtain ⟨x, hx⟩ : ∃ x, ds[i]? = some x := ⟨ds[i], by simp [hi3]⟩
        obtain ⟨y, hy⟩ : ∃ y, ds[i + 1 + k]? = some y := ⟨ds[i + 1 + k], by simp [hj]⟩
        have ej : (i : Int) + 1 + (k : Int) = ((i + 1 + k : Nat) : Int) := by omega
        rw [ej]
        have xN := T6.dv x (List.mem_of_getElem? hx)
        have yN := T6.dv y (List.mem_of_getElem? hy)
        have yp := T6.pos y (List.mem_of_getElem? hy)
        walk_at "mi"
        rw [wp_ixR (rdL_of h6) (nW_at hx), wp_ixR (rdL_of h6) (nW_at hy)]
        refine law_gcd (Nat.lt_of_le_of_lt (Nat.le_of_dvd G.pos yN) G.big) ?_
        rw [wp_ixR (rdL_of h6) (nW_at hx), wp_ixR (rdL_of h6) (nW_at hy)]
        unfold nW
        walk_at "mi"
        have gN : Nat.gcd x y ∣ N := Nat.dvd_trans (Nat.gcd_dvd_left _ _) xN
        have gp : 0 < Nat.gcd x y := Nat.gcd_pos_of_pos_right _ yp
        refine ⟨mulOk_nat xN yN G.pos G.big, ⟨by omega, by rw [natAbs_nat]; have := log_of gN G.pos G.big; omega⟩, by decide, ?_⟩
        rw [wp_gtTup (n := 2) rfl]
        walk_at "mi"
        rw [wp_putAt h6 (ixN_nat (by rw [List.length_map]; exact hi3))]
        rw [wp_putAt (at_set h6) (ixN_nat (by rw [List.length_set, List.length_map]; exact hj))]
        rw [lcm_int]
        refine ⟨_, _, _, (ds.set i (Nat.gcd x y)).set (i + 1 + k) (Nat.lcm x y), rfl, pre_set (pre_set p6 clS) clS, (at_set (at_set h6)).trans ?_, tri_step T6 (show i < i + 1 + k by omega) hx hy⟩
        rw [List.map_set, List.map_set]
        rfl
      · intro ρ S6 ⟨z6, z7, z8, ds, hρ, p6, h6, T6⟩
        subst hρ
        rw [rngW_len] at T6
        have e1 : i + 1 + (c0.length - (i + 1)) = c0.length := by omega
        rw [e1] at T6
        exact ⟨_, _, _, _, _, ds, rfl, p6, h6, tri_next T6 (i + 1 + 1) (by omega)⟩
    · intro ρ S5 ⟨y2, y3, y6, y7, y8, cs, hρ, p5, h5, T5⟩
      subst hρ
      rw [rngW_len, Int.toNat_natCast] at T5
      walk_at "mi"
      refine wp_lcP (cs.map nW) (fun w => match w with | .int i => decide (1 < i) | _ => false) (fun w => w) (by rw [List.length_map, T5.len, PySem.sizeLine_eq]; omega) ?_ (fun w hw S' hS => ?_) fun S' l2 h1 h2 h3 => ?_
      · walk_at "mi"
        rw [wp_srcR (rdL_of h5)]
        exact ⟨List.prefix_refl _, rfl, fun S' p => rdL_of (pre_at p h5)⟩
      · obtain ⟨x, hx, rfl⟩ := List.mem_map.mp hw
        unfold nW
        walk_at "mi"
        exact ⟨List.prefix_refl _, fun _ => List.prefix_refl _⟩
      · have em : ((cs.map nW).filter (fun w => match w with | .int i => decide (1 < i) | _ => false)).map (fun w => w) = (cs.filter fun x => decide (1 < x)).map nW := by
          rw [List.map_id', List.filter_map]
          congr 1
          refine List.filter_congr fun x _ => ?_
          show decide ((1 : Int) < (x : Int)) = decide (1 < x)
          by_cases q : 1 < x
          · rw [decide_eq_true q, decide_eq_true (by omega)]
          · rw [decide_eq_false q, decide_eq_false (by omega)]
        rw [em] at h3
        have hz : ((cs.filter fun x => decide (1 < x)).map nW).length ≤ sizeLine := by
          rw [List.length_map, PySem.sizeLine_eq]
          have := List.length_filter_le (fun x => decide (1 < x)) cs
          rw [T5.len] at this
          omega
        rw [wp_tupleR (rdL_of h3)]
        refine ⟨hz, by decide, ?_⟩
        have hq := h S' (p5.trans h1)
        unfold joinR at hq
        rw [← eN, hc0, tri_join T5 fun x hx => (pos0 x hx).1] at hq
        exact hq
end
end K46

set_option maxHeartbeats 1000000
/-! K46, the plain law. -/
namespace K46
open PySem PySem.Spec PyProof.Rows L2 Mi
local macro_rules | `(tactic| walk_at "mi") => `(tactic| simp only [wp_bind, wp_pure, wp_var', vr_some, wp_c, wp_op, wp_un, wp_call, wp_nil, wp_cons, wp_star, wp_tup, wp_lst, wp_toB, wp_asB, wp_bNot, wp_bAnd, wp_bOr, wp_eAnd, wp_eOr, wp_eNot, wp_eIf, wp_chain, ws_nx, ws_bk, ws_ct, ws_seq, ws_asg, ws_expr, ws_ret, ws_if, ws_par, ws_dput, wp_gtN, wp_gtNil, wp_gtCons, wp_gtSub, wp_cYes, wp_isN, wp_notN, wp_oNo, wp_oYes, wp_sl, wp_mth, wp_mth0, wp_callK, wp_sub, wp_fdv, wp_mod, wp_pow, wp_lt, wp_le, wp_gt, wp_ge, wp_add, wp_mul, wp_neg, wp_addT, wp_eqI, wp_neI, wp_abs, wp_int, wp_min2, wp_max2, wp_gcd, wp_lenT, wp_tupT, wp_listT, wp_seqT, wp_src, wp_rng1, wp_rng2, List.getElem?_cons_zero, List.getElem?_cons_succ, List.set_cons_zero, List.set_cons_succ, List.map_cons, List.map_nil, List.length_cons, List.length_nil, List.replicate_succ, List.replicate_zero, List.cons_append, List.nil_append, Nat.zero_add, wipeR, W.bl.injEq, W.int.injEq, exists_eq_left', exists_eq_left, exists_eq', Bool.not_true, Bool.not_false, if_true, Bool.false_eq_true, if_false, true_and, and_true, and_self])
open K46M
def BB : Nat := 420 * (10 ^ 20 + 39)
def BN : Nat := BB ^ 3
theorem BN_pos : 0 < BN := by decide
theorem BN_big : BN < 2 ^ 230 := by decide
/-- what the law draws -/
structure OneR (r : Rg) : Prop where
  vr : VR r
  len : r.2.length ≤ 3
  dv : ∀ x ∈ r.2, x ∣ BN
  top : r.1 ≤ 10 ^ 30
section
variable {S : Store} {P : W → Store → Prop} {d g c : Nat}
theorem Dr.ltD (h : Dr d g c S) : d < S.length := let ⟨_, _, e⟩ := h.at_; (List.getElem?_eq_some_iff.mp e).1
theorem Dr.ltG (h : Dr d g c S) : g < S.length := let ⟨_, e⟩ := h.large; (List.getElem?_eq_some_iff.mp e).1
theorem pick_here {w : W} (hw : w ∈ [W.int 1, .int 1, .int 2, .int 3, .int 4, .int 5, .int 6, .int 7, .int (10 ^ Int.toNat 20 + 39)]) : ∃ m : Nat, w = nW m ∧ 0 < m ∧ m ∣ BB := by
  simp only [List.mem_cons, List.not_mem_nil, or_false] at hw
  rcases hw with e | e | e | e | e | e | e | e | e
  · exact ⟨1, e, by decide, by decide⟩
  · exact ⟨1, e, by decide, by decide⟩
  · exact ⟨2, e, by decide, by decide⟩
  · exact ⟨3, e, by decide, by decide⟩
  · exact ⟨4, e, by decide, by decide⟩
  · exact ⟨5, e, by decide, by decide⟩
  · exact ⟨6, e, by decide, by decide⟩
  · exact ⟨7, e, by decide, by decide⟩
  · exact ⟨100000000000000000039, e.trans (congrArg W.int (by decide)), by decide, by decide⟩
theorem one (h : Dr d g c S) (q : ∀ S' r, Dr d g c S' → Kp d g S S' → OneR r → P (rgW r) S') : Wp (m__law_one [.ref d]) S P := by
  have hd := h.ltD
  have hg := h.ltG
  refine wp_fn ?_
  unfold b__law_one
  walk_at "mi"
  refine ⟨by decide, _, _, rfl, ?_⟩
  refine ws_for ?_
  walk_at "mi"
  have p0 : S <+: S ++ [Ob.lst []] := List.prefix_append _ _
  refine take (h.pre p0) (by decide) (by decide) fun S1 v D1 K1 v0 v1 => ?_
  walk_at "mi"
  refine ⟨⟨by omega, by omega⟩, ?_⟩
  have K01 : Kp d g S S1 := (Kp.pre p0).trans K1
  have c1 : S1[S.length]? = some (.lst []) := K1.at_ _ _ (by omega) (by omega) at_new
  refine ⟨fun i ρ S' => ∃ (x1 : Option W) (cl n : Nat) (ch : List Nat), ρ = [some (.ref d), x1, some (.ref cl), some (nW n)] ∧ Dr d g c S' ∧ Kp d g S S' ∧ S'[cl]? = some (.lst (ch.map nW)) ∧ S.length ≤ cl ∧ Up ch ∧ (∀ x ∈ ch, 1 < x ∧ x ∣ n) ∧ 0 < n ∧ n ∣ BB ^ i ∧ ch.length ≤ i,
    ⟨none, S.length, 1, [], rfl, D1, K01, c1, Nat.le_refl _, List.Pairwise.nil, fun x hx => by simp at hx, by omega, by simp, Nat.le_refl _⟩, fun _ _ _ _ => trivial, ?_, ?_⟩
  · intro i w ρ S2 hi ⟨x1, cl, n, ch, hρ, D2, K2, c2, hcl, hu, hx, hn, hnB, hlen⟩
    subst hρ
    obtain ⟨hi1, rfl⟩ := rngW_get hi
    have hi2 : i < 3 := by
      have : i < v.toNat := hi1
      omega
    walk_at "mi"
    refine ⟨⟨by decide, by decide, by decide⟩, by decide, ?_⟩
    have l2 : S.length ≤ S2.length := K2.len
    refine pick (D2.pre (List.prefix_append _ _)) (rdL_of at_new) (by decide) (by decide) (by omega) (by omega) fun S3 w D3 K3 hw => ?_
    obtain ⟨m, ew, hm0, hmB⟩ := pick_here hw
    subst ew
    have K23 : Kp d g S2 S3 := (Kp.pre (List.prefix_append _ _)).trans K3
    have c3 : S3[cl]? = some (.lst (ch.map nW)) := K23.at_ _ _ (by omega) (by omega) c2
    have hB1 : n * m ∣ BB ^ (i + 1) := by
      rw [Nat.pow_succ]
      exact Nat.mul_dvd_mul hnB hmB
    have l3 : S.length ≤ S3.length := Nat.le_trans l2 K23.len
    unfold nW
    walk_at "mi"
    have nb : n ≤ 2 ^ 230 := by
      have h1 : BB ^ i ∣ BB ^ 3 := Nat.pow_dvd_pow _ (by omega)
      exact Nat.le_trans (Nat.le_of_dvd (by decide) (Nat.dvd_trans hnB h1)) (by decide)
    have nN : n ∣ BN := Nat.dvd_trans hnB (Nat.pow_dvd_pow _ (by omega))
    have mN : m ∣ BN := Nat.dvd_trans hmB (by decide : BB ∣ BN)
    refine ⟨mulOk_nat nN mN BN_pos BN_big, ?_⟩
    rw [← Int.natCast_mul]
    by_cases hb : 1 < n * m
    · rw [decide_eq_true (by omega), if_pos rfl]
      refine ⟨by decide, ?_⟩
      rw [wp_addL (at_app c3) at_new]
      refine ⟨by rw [List.length_append, List.length_map, PySem.sizeLine_eq]; show _ + 1 ≤ _; omega, some (.int (i : Int)), _, n * m, ch ++ [n * m], by rw [Int.zero_add], D3.pre ((List.prefix_append _ _).trans (List.prefix_append _ _)), (K2.trans K23).trans (Kp.pre ((List.prefix_append _ _).trans (List.prefix_append _ _))), at_new.trans (by rw [List.map_append]; rfl), by simp; omega, ?_, ?_, by omega, hB1, by rw [List.length_append]; show _ + 1 ≤ _; omega⟩
      · refine List.pairwise_append.mpr ⟨hu, List.pairwise_singleton _ _, fun x hx1 y hy => ?_⟩
        rw [List.mem_singleton.mp hy]
        exact Nat.dvd_trans (hx x hx1).2 (Nat.dvd_mul_right _ _)
      · intro x hx1
        rcases List.mem_append.mp hx1 with e | e
        · exact ⟨(hx x e).1, Nat.dvd_trans (hx x e).2 (Nat.dvd_mul_right _ _)⟩
        · rw [List.mem_singleton.mp e]
          exact ⟨hb, Nat.dvd_refl _⟩
    · rw [decide_eq_false (by omega), if_neg (by simp)]
      refine ⟨by decide, ?_⟩
      rw [wp_addL (at_app c3) at_new]
      refine ⟨by rw [List.length_append, List.length_map, PySem.sizeLine_eq]; show _ + 0 ≤ _; omega, some (.int (i : Int)), _, n * m, ch, by rw [Int.zero_add], D3.pre ((List.prefix_append _ _).trans (List.prefix_append _ _)), (K2.trans K23).trans (Kp.pre ((List.prefix_append _ _).trans (List.prefix_append _ _))), at_new.trans (by rw [List.append_nil]; rfl), by simp; omega, hu, fun x e => ⟨(hx x e).1, Nat.dvd_trans (hx x e).2 (Nat.dvd_mul_right _ _)⟩, Nat.mul_pos hn hm0, hB1, by omega⟩
  · intro ρ S2 ⟨x1, cl, n, ch, hρ, D2, K2, c2, hcl, hu, hx, hn, hnB, hlen⟩
    subst hρ
    rw [rngW_len] at hnB hlen
    walk_at "mi"
    refine ⟨⟨by decide, by decide, by decide⟩, by decide, ?_⟩
    have l2 : S.length ≤ S2.length := K2.len
    refine pick (D2.pre (List.prefix_append _ _)) (rdL_of at_new) (by decide) (by decide) (by omega) (by omega) fun S3 w D3 K3 hw => ?_
    obtain ⟨f, rfl, f0, f1⟩ : ∃ f : Int, w = .int f ∧ 0 ≤ f ∧ f ≤ 10 ^ 30 := by
      simp only [List.mem_cons, List.not_mem_nil, or_false] at hw
      rcases hw with rfl | rfl | rfl | rfl | rfl <;> exact ⟨_, rfl, by decide, by decide⟩
    have K23 : Kp d g S2 S3 := (Kp.pre (List.prefix_append _ _)).trans K3
    have c3 : S3[cl]? = some (.lst (ch.map nW)) := K23.at_ _ _ (by omega) (by omega) c2
    rw [wp_tupleR (rdL_of c3)]
    refine ⟨by rw [List.length_map, PySem.sizeLine_eq]; omega, by decide, ?_⟩
    exact q S3 (f, ch) D3 (K2.trans K23) ⟨⟨f0, hu, fun x e => (hx x e).1⟩, by show ch.length ≤ 3; omega, fun x e => Nat.dvd_trans (hx x e).2 (Nat.dvd_trans hnB (Nat.pow_dvd_pow _ (by omega))), f1⟩
end
end K46

set_option maxHeartbeats 1000000
/-! K46, the plain law. -/
namespace K46
open PySem PySem.Spec PyProof.Rows L2 Mi
local macro_rules | `(tactic| walk_at "mi") => `(tactic| simp only [wp_bind, wp_pure, wp_var', vr_some, wp_c, wp_op, wp_un, wp_call, wp_nil, wp_cons, wp_star, wp_tup, wp_lst, wp_toB, wp_asB, wp_bNot, wp_bAnd, wp_bOr, wp_eAnd, wp_eOr, wp_eNot, wp_eIf, wp_chain, ws_nx, ws_bk, ws_ct, ws_seq, ws_asg, ws_expr, ws_ret, ws_if, ws_par, ws_dput, wp_gtN, wp_gtNil, wp_gtCons, wp_gtSub, wp_cYes, wp_isN, wp_notN, wp_oNo, wp_oYes, wp_sl, wp_mth, wp_mth0, wp_callK, wp_sub, wp_fdv, wp_mod, wp_pow, wp_lt, wp_le, wp_gt, wp_ge, wp_add, wp_mul, wp_neg, wp_addT, wp_eqI, wp_neI, wp_abs, wp_int, wp_min2, wp_max2, wp_gcd, wp_lenT, wp_tupT, wp_listT, wp_seqT, wp_src, wp_rng1, wp_rng2, List.getElem?_cons_zero, List.getElem?_cons_succ, List.set_cons_zero, List.set_cons_succ, List.map_cons, List.map_nil, List.length_cons, List.length_nil, List.replicate_succ, List.replicate_zero, List.cons_append, List.nil_append, Nat.zero_add, wipeR, W.bl.injEq, W.int.injEq, exists_eq_left', exists_eq_left, exists_eq', Bool.not_true, Bool.not_false, if_true, Bool.false_eq_true, if_false, true_and, and_true, and_self])
open K46M
theorem erase_map {A B : Type} {f : A → B} : ∀ {l : List A} {k : Nat}, (l.map f).eraseIdx k = (l.eraseIdx k).map f
  | [], _ => rfl
  | x :: l, 0 => rfl
  | x :: l, k + 1 => by
    show f x :: (l.map f).eraseIdx k = f x :: (l.eraseIdx k).map f
    rw [erase_map]
theorem erase_perm {A : Type} : ∀ {l : List A} {k : Nat} {y : A}, l[k]? = some y → (y :: l.eraseIdx k).Perm l
  | [], _, _, h => by simp at h
  | x :: l, 0, y, h => by
    simp at h
    rw [h]
    exact List.Perm.refl _
  | x :: l, k + 1, y, h => by
    have ih := erase_perm (l := l) (k := k) (y := y) (by simpa using h)
    exact (List.Perm.swap x y _).trans (ih.cons x)
/-! ### rings as data -/
def nD (n : Nat) : PyData := .int (n : Int)
def rgD (r : Rg) : PyData := .tuple [.int r.1, .tuple (r.2.map nD)]
theorem dat_rg {S : Store} {n : Nat} {r : Rg} : Dat S (n + 2) (rgW r) (rgD r) := dat_tup2 dat_int (dat_tup fun x _ => dat_int)
theorem dat_rgs {S : Store} {l : Nat} {rs : List Rg} (h : rdL S l = some (rs.map rgW)) : Dat S 8 (.ref l) (.list (rs.map rgD)) := dat_lst (n := 7) h fun x _ => dat_rg
theorem eqv_nilR {rs : List Rg} : PyData.eqv (.list (rs.map rgD)) (.list (([] : List Rg).map rgD)) = rs.isEmpty := by
  cases rs <;> simp [PyData.eqv, PyData.eqvAll]
theorem eqv_rg {r : Rg} : PyData.eqv (rgD r) (rgD r) = true := eqv_same (dat_rg (S := []) (n := 0) (r := r))
theorem eqv_rgs {rs : List Rg} : PyData.eqv (.list (rs.map rgD)) (.list (rs.map rgD)) = true := by
  have h : (PyData.list (rs.map rgD)).canLay0 = true := by
    simp only [PyData.canLay0]
    exact layAll_map fun x _ => (dat_rg (S := []) (n := 0) (r := x)).lay
  exact SeqAt.eqv_refl _ h
theorem sum_le {B : Nat} : ∀ {l : List Nat}, (∀ x ∈ l, x ≤ B) → l.sum ≤ B * l.length
  | [], _ => by simp
  | x :: l, h => by
    have h1 := h x List.mem_cons_self
    have h2 := sum_le (l := l) fun y hy => h y (List.mem_cons_of_mem _ hy)
    rw [List.sum_cons, List.length_cons, Nat.mul_succ]
    omega
theorem shown_int {i : Int} (h : i.natAbs.log2 < 1920) : (PyData.int i).shown.length ≤ 1921 := by
  simp only [PyData.shown]
  exact int_text_len_1921 h
theorem shownAll_map {A : Type} {f : A → PyData} : ∀ {l : List A}, PyData.shownAll (l.map f) = l.map fun x => (f x).shown
  | [] => by simp [PyData.shownAll]
  | x :: l => by
    simp only [List.map_cons, PyData.shownAll]
    rw [shownAll_map]
theorem showableAll_map {A : Type} {f : A → PyData} : ∀ {l : List A}, (∀ x ∈ l, (f x).showable = true) → PyData.showableAll (l.map f) = true
  | [], _ => by simp [PyData.showableAll]
  | x :: l, h => by
    simp only [List.map_cons, PyData.showableAll]
    rw [h x List.mem_cons_self, showableAll_map fun y hy => h y (List.mem_cons_of_mem _ hy)]
    rfl
/-- rings may be shown -/
theorem show_rg {r : Rg} (h1 : r.1.natAbs.log2 < 1920) (h2 : ∀ x ∈ r.2, x.log2 < 1920) (h3 : r.2.length ≤ 5000) : showOk (rgD r) := by
  refine ⟨?_, ?_, ?_, ?_⟩
  · unfold rgD
    simp only [PyData.showable, PyData.showableAll, Bool.and_true, Bool.and_eq_true, decide_eq_true_eq]
    exact ⟨h1, showableAll_map fun x hx => by unfold nD; simp only [PyData.showable, decide_eq_true_eq]; exact h2 x hx⟩
  · exact PyData.hasDict_of_canLay _ (dat_rg (S := []) (n := 0) (r := r)).lay
  · exact Nat.le_trans (dat_rg (S := []) (n := 0) (r := r)).dep (by decide)
  · unfold rgD
    simp only [PyData.shown, PyData.shownAll]
    have e1 := tupleText_len_le [(toString r.1 : Str), tupleText (PyData.shownAll (r.2.map nD))]
    have e2 := tupleText_len_le (PyData.shownAll (r.2.map nD))
    rw [shownAll_map] at e2
    have e3 : ((r.2.map fun x => (nD x).shown).map (·.length)).sum ≤ 1921 * r.2.length := by
      have := sum_le (B := 1921) (l := (r.2.map fun x => (nD x).shown).map (·.length)) fun y hy => by
        obtain ⟨t, ht, rfl⟩ := List.mem_map.mp hy
        obtain ⟨x, hx, rfl⟩ := List.mem_map.mp ht
        exact shown_int (h2 x hx)
      simpa using this
    have e4 : (toString r.1 : Str).length ≤ 1921 := int_text_len_1921 h1
    rw [shownAll_map] at e1 ⊢
    simp only [List.map_cons, List.map_nil, List.sum_cons, List.sum_nil, List.length_cons, List.length_nil, List.length_map] at e1 e2
    have hs : sizeLine = 16777216 := PySem.sizeLine_eq
    rw [hs]
    omega
section
variable {S : Store} {P : W → Store → Prop} {d g c : Nat}
theorem wp_repr {r : Rg} (h : showOk (rgD r)) : Wp (gRepr [rgW r]) S P = P (.str (rgD r).shown) S := by
  have e : gRepr [rgW r] S = .ok (.str (rgD r).shown) S := by
    have e0 : gRepr [rgW r] S = match dataW deepN S (rgW r) with
      | some d => if showOk d then .ok (.str d.shown) S else .stuck
      | none => .stuck := rfl
    rw [e0, show dataW deepN S (rgW r) = some (rgD r) from (dat_rg (n := 6)).rd]
    exact if_pos h
  unfold Wp
  rw [e]
theorem Dr.ltC (h : Dr d g c S) : c < S.length := let ⟨_, e⟩ := h.cells; (List.getElem?_eq_some_iff.mp e).1
theorem Dr.setN {k : Nat} {o : Ob} (h : Dr d g c S) (h1 : k ≠ d) (h2 : k ≠ g) (h3 : k ≠ c) : Dr d g c (S.set k o) := by
  obtain ⟨⟨r, m, e1⟩, ⟨xs, e2⟩, ⟨ys, e3⟩, n1, n2, n3⟩ := h
  exact ⟨⟨r, m, at_setN e1 h1⟩, ⟨xs, at_setN e2 h2⟩, ⟨ys, at_setN e3 h3⟩, n1, n2, n3⟩
theorem Kp.setN {k : Nat} {o : Ob} {S S1 : Store} (K : Kp d g S S1) (hk : S.length ≤ k) : Kp d g S (S1.set k o) :=
  ⟨by rw [List.length_set]; exact K.len, fun l o' h1 h2 h => at_setN (K.at_ l o' h1 h2 h) (by have := (List.getElem?_eq_some_iff.mp h).1; omega)⟩
/-- the rings in some order -/
theorem shuffled {l : Nat} {rs : List Rg} (h : Dr d g c S) (hl : rdL S l = some (rs.map rgW)) (h1 : l ≠ d) (h2 : l ≠ g) (hn : rs.length ≤ 1000) (q : ∀ (S' : Store) (l' : Nat) (rs' : List Rg), Dr d g c S' → Kp d g S S' → S'[l']? = some (.lst (rs'.map rgW)) → S.length ≤ l' → rs'.Perm rs → P (.ref l') S') : Wp (m__law_shuffled [.ref d, .ref l]) S P := by
  have hd := h.ltD
  have hg := h.ltG
  refine wp_fn ?_
  unfold b__law_shuffled
  walk_at "mi"
  rw [wp_listR hl]
  refine ⟨by rw [List.length_map, PySem.sizeLine_eq]; omega, by decide, _, _, rfl, ?_⟩
  obtain ⟨a, ha⟩ : ∃ a, a = S.length := ⟨_, rfl⟩
  obtain ⟨b, hb⟩ : ∃ b, b = (S ++ [Ob.lst (rs.map rgW)]).length := ⟨_, rfl⟩
  have hb2 : b = a + 1 := by rw [hb, ha]; simp
  rw [← ha, ← hb]
  refine ws_whileN (fun n ρ S' => ρ = [some (.ref d), some (.ref l), some (.ref a), some (.ref b)] ∧ Dr d g c S' ∧ Kp d g S S' ∧ ∃ lf fd : List Rg, S'[a]? = some (.lst (lf.map rgW)) ∧ S'[b]? = some (.lst (fd.map rgW)) ∧ lf.length = n ∧ (lf ++ fd).Perm rs) rs.length
    ⟨rfl, h.pre ((List.prefix_append _ _).trans (List.prefix_append _ _)), Kp.pre ((List.prefix_append _ _).trans (List.prefix_append _ _)), rs, [], by rw [ha]; exact at_app at_new, by rw [hb]; exact at_new, rfl, by simp⟩ ?_
  intro n ρ S1 ⟨hρ, D1, K1, lf, fd, ca, cb, hn1, hp⟩
  subst hρ
  have lenAll : lf.length + fd.length = rs.length := by
    have := hp.length_eq
    rw [List.length_append] at this
    exact this
  walk_at "mi"
  refine ⟨by decide, ?_⟩
  have p1 : S1 <+: S1 ++ [Ob.lst []] := List.prefix_append _ _
  rw [wp_eqD (dat_rgs (rdL_of (pre_at p1 ca))) (dat_rgs (rs := []) (rdL_of at_new))]
  refine ⟨_, rfl, ?_⟩
  rw [eqv_nilR]
  cases lf with
  | nil =>
    simp only [List.isEmpty_nil, Bool.not_true, if_true, Bool.false_eq_true, if_false]
    exact q _ b fd (D1.pre p1) (K1.trans (Kp.pre p1)) (pre_at p1 cb) (by omega) (by simpa using hp)
  | cons y0 lf0 =>
    simp only [List.isEmpty_cons, Bool.not_false, if_true]
    obtain ⟨lf, elf⟩ : ∃ lf, lf = y0 :: lf0 := ⟨_, rfl⟩
    rw [← elf] at ca hn1 hp lenAll
    have hpos : 0 < lf.length := by rw [elf]; simp
    have ca2 := pre_at p1 ca
    have cb2 := pre_at p1 cb
    have lS : S.length ≤ S1.length := K1.len
    rw [wp_isL (rdL_of cb2), wp_isL (rdL_of ca2), wp_lenR (rdL_of ca2)]
    rw [List.length_map]
    refine take (D1.pre p1) (by omega) ?_ fun S2 v D2 K2 v0 v1 => ?_
    · rw [natAbs_nat]
      have := (Nat.log2_lt (n := lf.length) (k := 20) (by omega)).mpr (by omega)
      omega
    · have ca3 := K2.at_ a _ (by omega) (by omega) ca2
      have cb3 := K2.at_ b _ (by omega) (by omega) cb2
      have hv : v.toNat < lf.length := by omega
      have hk : (lf.map rgW)[v.toNat]? = some (rgW lf[v.toNat]) := by rw [List.getElem?_map]; simp [hv]
      rw [wp_popAt ca3 ⟨by omega, by omega⟩ (k := v.toNat) (by
        show (if (0 : Int) ≤ (if v < 0 then v + ((lf.map rgW).length : Int) else v) && (if v < 0 then v + ((lf.map rgW).length : Int) else v) < ((lf.map rgW).length : Int) then some (if v < 0 then v + ((lf.map rgW).length : Int) else v).toNat else none) = some v.toNat
        rw [if_neg (show ¬ v < 0 by omega), if_pos (by simp; omega)]) hk]
      have cb4 : (S2.set a (.lst ((lf.map rgW).eraseIdx v.toNat)))[b]? = some (.lst (fd.map rgW)) := at_setN cb3 (by omega)
      rw [wp_append cb4]
      refine ⟨by rw [List.length_map, PySem.sizeLine_eq]; omega, lf.length - 1, by omega, ?_, ?_, lf.eraseIdx v.toNat, fd ++ [lf[v.toNat]], ?_, ?_, ?_, ?_⟩
      · have hc := h.ltC
        exact (D2.setN (by omega) (by omega) (by omega)).setN (by omega) (by omega) (by omega)
      · exact ((K1.trans ((Kp.pre p1).trans K2)).setN (by omega)).setN (by omega)
      · refine at_setN ((at_set ca3).trans ?_) (by omega)
        rw [erase_map]
      · refine (at_set cb4).trans ?_
        rw [List.map_append]
        rfl
      · rw [List.length_eraseIdx, if_pos hv]
      · have e1 := erase_perm (l := lf) (k := v.toNat) (y := lf[v.toNat]) (by simp [hv])
        refine List.Perm.trans ?_ hp
        refine List.Perm.trans ?_ (e1.append_right fd)
        rw [← List.append_assoc]
        exact List.perm_append_comm
end
end K46

set_option maxHeartbeats 1000000
/-! K46, the plain law. -/
namespace K46
open PySem PySem.Spec PyProof.Rows L2 Mi
local macro_rules | `(tactic| walk_at "mi") => `(tactic| simp only [wp_bind, wp_pure, wp_var', vr_some, wp_c, wp_op, wp_un, wp_call, wp_nil, wp_cons, wp_star, wp_tup, wp_lst, wp_toB, wp_asB, wp_bNot, wp_bAnd, wp_bOr, wp_eAnd, wp_eOr, wp_eNot, wp_eIf, wp_chain, ws_nx, ws_bk, ws_ct, ws_seq, ws_asg, ws_expr, ws_ret, ws_if, ws_par, ws_dput, wp_gtN, wp_gtNil, wp_gtCons, wp_gtSub, wp_cYes, wp_isN, wp_notN, wp_oNo, wp_oYes, wp_sl, wp_mth, wp_mth0, wp_callK, wp_sub, wp_fdv, wp_mod, wp_pow, wp_lt, wp_le, wp_gt, wp_ge, wp_add, wp_mul, wp_neg, wp_addT, wp_eqI, wp_neI, wp_abs, wp_int, wp_min2, wp_max2, wp_gcd, wp_lenT, wp_tupT, wp_listT, wp_seqT, wp_src, wp_rng1, wp_rng2, List.getElem?_cons_zero, List.getElem?_cons_succ, List.set_cons_zero, List.set_cons_succ, List.map_cons, List.map_nil, List.length_cons, List.length_nil, List.replicate_succ, List.replicate_zero, List.cons_append, List.nil_append, Nat.zero_add, wipeR, W.bl.injEq, W.int.injEq, exists_eq_left', exists_eq_left, exists_eq', Bool.not_true, Bool.not_false, if_true, Bool.false_eq_true, if_false, true_and, and_true, and_self])
open K46M
/-! ### texts of signs -/
theorem ok_app {x y : Str} (h1 : PyData.strOk x = true) (h2 : PyData.strOk y = true) : PyData.strOk (x ++ y) = true := by
  have e : (x ++ y).cps = x.cps ++ y.cps := rfl
  unfold PyData.strOk at *
  rw [e, Array.all_append, h1, h2]
  rfl
theorem char_ok (c : Char) : c.toNat < 0x110000 := by
  have h := c.valid
  rcases h with h | h
  · exact Nat.lt_trans h (by decide)
  · exact h.2
theorem ok_of (s : String) : PyData.strOk (Str.ofString s) = true := by
  have e : (Str.ofString s).cps.toList = s.toList.map Char.toNat := cpsOfBytes_string s
  unfold PyData.strOk
  rw [← Array.all_toList, e, List.all_map, List.all_eq_true]
  exact fun c _ => decide_eq_true (char_ok c)
theorem ok_join {sep : Str} (hs : PyData.strOk sep = true) : ∀ {ts : List Str}, (∀ t ∈ ts, PyData.strOk t = true) → PyData.strOk (Str.join sep ts) = true
  | [], _ => ok_of ""
  | [x], h => h x (by simp)
  | x :: y :: r, h => by
    show PyData.strOk (x ++ sep ++ Str.join sep (y :: r)) = true
    exact ok_app (ok_app (h x (by simp)) hs) (ok_join hs fun t ht => h t (List.mem_cons_of_mem _ ht))
theorem ok_tuple {ts : List Str} (h : ∀ t ∈ ts, PyData.strOk t = true) : PyData.strOk (tupleText ts) = true := by
  unfold tupleText
  refine ok_app (ok_app (ok_of "(") (ok_join (ok_of ", ") h)) ?_
  split
  · exact ok_of ",)"
  · exact ok_of ")"
theorem ok_shown {r : Rg} : PyData.strOk (rgD r).shown = true := by
  unfold rgD
  simp only [PyData.shown, PyData.shownAll]
  refine ok_tuple fun t ht => ?_
  rcases List.mem_cons.mp ht with e | e
  · rw [e]
    exact ok_of _
  · rw [List.mem_singleton.mp e]
    refine ok_tuple fun t ht => ?_
    rw [shownAll_map] at ht
    obtain ⟨x, _, rfl⟩ := List.mem_map.mp ht
    unfold nD
    simp only [PyData.shown]
    exact ok_of _
theorem dat_str {S : Store} {n : Nat} {x : Str} (h : PyData.strOk x = true) : Dat S n (.str x) (.str x) := ⟨by cases n <;> rfl, by simp only [PyData.canLay0]; exact h, by simp [PyData.depth]⟩

/-! ### what is drawn, and what is due -/
structure Drawn (rs : List Rg) (a b c : Nat) : Prop where
  len : rs.length ≤ 60
  all : ∀ r ∈ rs, OneR r
  a : a ≤ 60
  b : b ≤ 60
  c : c ≤ 60
theorem sum_lenR : ∀ {rs : List Rg}, (∀ r ∈ rs, r.2.length ≤ 3) → (rs.flatMap (·.2)).length ≤ 3 * rs.length
  | [], _ => by simp
  | r :: rs, h => by
    have h1 := h r List.mem_cons_self
    have h2 := sum_lenR (rs := rs) fun x hx => h x (List.mem_cons_of_mem _ hx)
    rw [List.flatMap_cons, List.length_append, List.length_cons]
    omega
theorem lost_len {a b c : Nat} : ((lostR a b c).flatMap (·.2)).length = b + c := by
  unfold lostR
  simp
theorem lost_all {a b c : Nat} : ∀ r ∈ lostR a b c, ∀ x ∈ r.2, 0 < x ∧ x ∣ BN := by
  intro r hr x hx
  unfold lostR at hr
  rcases List.mem_cons.mp hr with e | e
  · rw [e] at hx
    rw [List.eq_of_mem_replicate hx]
    exact ⟨by decide, by decide⟩
  · rw [List.mem_singleton.mp e] at hx
    rw [List.eq_of_mem_replicate hx]
    exact ⟨by decide, by decide⟩
theorem Drawn.good {rs : List Rg} {a b c : Nat} (h : Drawn rs a b c) : Good BN (rs ++ lostR a b c) := by
  refine ⟨BN_pos, BN_big, fun r hr => ?_, ?_⟩
  · rcases List.mem_append.mp hr with e | e
    · exact fun x hx => ⟨by have := (h.all r e).vr.gt x hx; omega, (h.all r e).dv x hx⟩
    · exact lost_all r e
  · rw [List.flatMap_append, List.length_append, lost_len]
    have := sum_lenR (rs := rs) fun r hr => (h.all r hr).len
    have := h.len
    have := h.b
    have := h.c
    omega
/-- numbers of rings -/
abbrev nums (rs : List Rg) : List Nat := rs.flatMap (·.2)
theorem joinR_eq {x y : List Rg} (hx : ∀ n ∈ nums x, 0 < n) (hy : ∀ n ∈ nums y, 0 < n) (hs : (x.map (·.1)).sum = (y.map (·.1)).sum) (hT : T (nums x) = T (nums y)) : joinR x = joinR y := by
  unfold joinR
  rw [hs, joinL_eq hx hy hT]
theorem nums_app {x y : List Rg} : nums (x ++ y) = nums x ++ nums y := List.flatMap_append
theorem sum_app {x y : List Rg} : ((x ++ y).map (·.1)).sum = (x.map (·.1)).sum + (y.map (·.1)).sum := by rw [List.map_append, List.sum_append]
theorem nums_perm {x y : List Rg} (p : x.Perm y) : (nums x).Perm (nums y) := by
  induction p with
  | nil => exact List.Perm.refl _
  | cons r p ih => exact ih.append_left r.2
  | swap r s l =>
    show (s.2 ++ (r.2 ++ nums l)).Perm (r.2 ++ (s.2 ++ nums l))
    rw [← List.append_assoc, ← List.append_assoc]
    exact List.perm_append_comm.append_right _
  | trans p q h1 h2 => exact h1.trans h2
theorem sum_perm : ∀ {x y : List Int}, x.Perm y → x.sum = y.sum := fun p => by
  induction p with
  | nil => rfl
  | cons a p ih => rw [List.sum_cons, List.sum_cons, ih]
  | swap a b l => rw [List.sum_cons, List.sum_cons, List.sum_cons, List.sum_cons]; omega
  | trans p q h1 h2 => exact h1.trans h2
theorem good_pos {N : Nat} {x : List Rg} (G : Good N x) : ∀ n ∈ nums x, 0 < n := fun n hn => by
  obtain ⟨r, h1, h2⟩ := List.mem_flatMap.mp hn
  exact (G.all r h1 n h2).1
theorem joinR_perm {x y : List Rg} (p : x.Perm y) (hx : ∀ n ∈ nums x, 0 < n) : joinR x = joinR y :=
  joinR_eq hx (fun n hn => hx n ((nums_perm p).mem_iff.mpr hn)) (sum_perm (p.map _)) (T_perm (nums_perm p))
/-- joined rings are rings again, and of the same numbers -/
theorem joinR_vr {x : List Rg} (hx : ∀ n ∈ nums x, 0 < n) (hs : 0 ≤ (x.map (·.1)).sum) : VR (joinR x) ∧ T (joinR x).2 = T (nums x) := by
  obtain ⟨h1, h2, h3⟩ := joinL_up hx
  exact ⟨⟨hs, h1, h2⟩, h3⟩
theorem joinR_dv {N : Nat} {x : List Rg} (G : Good N x) : ∀ n ∈ (joinR x).2, 0 < n ∧ n ∣ N := fun n hn => by
  have h1 := joinR_vr (good_pos G) (x := x)
  have hn2 : n ∈ joinL (nums x) := List.mem_reverse.mp hn
  have h2 : n ∣ N := joinL_dvd (B := N) (l := nums x) (c := []) (fun x hx => by simp at hx) (fun y hy => by
    obtain ⟨r, q1, q2⟩ := List.mem_flatMap.mp hy
    exact (G.all r q1 y q2).2) n hn2
  exact ⟨Nat.pos_of_dvd_of_pos h2 G.pos, h2⟩
theorem joinR_len {x : List Rg} : (joinR x).2.length ≤ (nums x).length := by
  show (joinL (nums x)).reverse.length ≤ _
  rw [List.length_reverse]
  have h := joinL_len (l := nums x) (c := [])
  rw [List.length_nil, Nat.zero_add] at h
  exact h
end K46

set_option maxHeartbeats 200000
/-! K46, the plain law. -/
namespace K46
open PySem PySem.Spec PyProof.Rows L2 Mi
local macro_rules | `(tactic| walk_at "mi") => `(tactic| simp only [wp_bind, wp_pure, wp_var', vr_some, wp_c, wp_op, wp_un, wp_call, wp_nil, wp_cons, wp_star, wp_tup, wp_lst, wp_toB, wp_asB, wp_bNot, wp_bAnd, wp_bOr, wp_eAnd, wp_eOr, wp_eNot, wp_eIf, wp_chain, ws_nx, ws_bk, ws_ct, ws_seq, ws_asg, ws_expr, ws_ret, ws_if, ws_par, ws_dput, wp_gtN, wp_gtNil, wp_gtCons, wp_gtSub, wp_cYes, wp_isN, wp_notN, wp_oNo, wp_oYes, wp_sl, wp_mth, wp_mth0, wp_callK, wp_sub, wp_fdv, wp_mod, wp_pow, wp_lt, wp_le, wp_gt, wp_ge, wp_add, wp_mul, wp_neg, wp_addT, wp_eqI, wp_neI, wp_abs, wp_int, wp_min2, wp_max2, wp_gcd, wp_lenT, wp_tupT, wp_listT, wp_seqT, wp_src, wp_rng1, wp_rng2, List.getElem?_cons_zero, List.getElem?_cons_succ, List.set_cons_zero, List.set_cons_succ, List.map_cons, List.map_nil, List.length_cons, List.length_nil, List.replicate_succ, List.replicate_zero, List.cons_append, List.nil_append, Nat.zero_add, wipeR, W.bl.injEq, W.int.injEq, exists_eq_left', exists_eq_left, exists_eq', Bool.not_true, Bool.not_false, if_true, Bool.false_eq_true, if_false, true_and, and_true, and_self])
open K46M
/-! ### things that are refused -/
def atom : W → Bool
  | .non => true
  | .bl _ => true
  | .int _ => true
  | .str _ => true
  | _ => false
def flat : W → Bool
  | .tup ws => ws.all atom
  | w => atom w
def flat2 : W → Bool
  | .tup ws => ws.all flat
  | w => atom w
theorem kn_atom {S : Store} {w : W} (h : atom w = true) : Kn S w := by
  cases w <;> first | exact ⟨_, rfl⟩ | cases h
theorem kn_flat {S : Store} {w : W} (h : flat w = true) : Kn S w := by
  cases w <;> first | exact ⟨_, rfl⟩ | cases h
section
variable {S S' : Store} {d g c : Nat} {w : W}
/-- a list or a dict of the store that no draw writes -/
def Obj (d g : Nat) (S : Store) (l : Nat) : Prop := l ≠ d ∧ l ≠ g ∧ ((∃ ws, S[l]? = some (.lst ws)) ∨ ∃ kvs, S[l]? = some (.dk kvs))
theorem Obj.kp {l : Nat} (K : Kp d g S S') (h : Obj d g S l) : Obj d g S' l := ⟨h.1, h.2.1, h.2.2.imp (fun ⟨ws, e⟩ => ⟨ws, K.at_ _ _ h.1 h.2.1 e⟩) fun ⟨ws, e⟩ => ⟨ws, K.at_ _ _ h.1 h.2.1 e⟩⟩
theorem Obj.kn {l : Nat} (h : Obj d g S l) : Kn S (.ref l) := by
  rcases h.2.2 with ⟨ws, e⟩ | ⟨ws, e⟩
  · exact kn_lst (rdL_of e)
  · exact kn_dk e
def OddV (d g : Nat) (S : Store) (w : W) : Prop := (∃ l, w = .ref l ∧ Obj d g S l) ∨ (flat w = true ∧ lostB w = false)
theorem OddV.kp (K : Kp d g S S') (h : OddV d g S w) : OddV d g S' w := h.imp (fun ⟨l, e, o⟩ => ⟨l, e, o.kp K⟩) id
theorem OddV.ok (h : OddV d g S w) : Kn S w ∧ (∀ ws, w = .tup ws → ∀ x ∈ ws, Kn S x) ∧ lostB w = false := by
  rcases h with ⟨l, rfl, o⟩ | ⟨h1, h2⟩
  · exact ⟨o.kn, fun ws e => (nomatch e), rfl⟩
  · refine ⟨kn_flat h1, fun ws e x hx => ?_, h2⟩
    subst e
    exact kn_atom (List.all_eq_true.mp h1 x hx)
def BadV (d g : Nat) (S : Store) (w : W) : Prop := (∃ l, w = .ref l ∧ Obj d g S l) ∨ (∃ l, w = .tup [.int 0, .ref l] ∧ Obj d g S l) ∨ (flat2 w = true ∧ ringB w = false ∧ ∀ ws, w = .tup ws → ∀ ts, .tup ts ∈ ws → ts.length ≤ sizeLine)
theorem BadV.kp (K : Kp d g S S') (h : BadV d g S w) : BadV d g S' w := h.imp (fun ⟨l, e, o⟩ => ⟨l, e, o.kp K⟩) (Or.imp (fun ⟨l, e, o⟩ => ⟨l, e, o.kp K⟩) id)
theorem BadV.ok (h : BadV d g S w) : KnR S w ∧ ringB w = false := by
  rcases h with ⟨l, rfl, o⟩ | ⟨l, rfl, o⟩ | ⟨h1, h2, h3⟩
  · exact ⟨⟨o.kn, fun ws e => (nomatch e)⟩, rfl⟩
  · refine ⟨⟨kn_tup, fun ws e => ?_⟩, rfl⟩
    cases e
    refine ⟨fun x hx => ?_, fun ts ht => ?_⟩
    · rcases List.mem_cons.mp hx with e | e
      · rw [e]; exact kn_int
      · rw [List.mem_singleton.mp e]; exact o.kn
    · rcases List.mem_cons.mp ht with e | e
      · cases e
      · cases List.mem_singleton.mp e
  · refine ⟨⟨?_, fun ws e => ?_⟩, h2⟩
    · cases w <;> first | exact ⟨_, rfl⟩ | cases h1
    · subst e
      refine ⟨fun x hx => kn_flat (List.all_eq_true.mp h1 x hx), fun ts ht => ⟨fun t h4 => ?_, h3 ws rfl ts ht⟩⟩
      exact kn_atom (List.all_eq_true.mp (show ts.all atom = true from List.all_eq_true.mp h1 _ ht) t h4)
/-- no rings: neither a list nor a tuple, too long, or with a bad one -/
def WrongV (d g : Nat) (S : Store) (w : W) : Prop := atom w = true ∨ (∃ l, w = .ref l ∧ l ≠ d ∧ l ≠ g ∧ ∃ kvs, S[l]? = some (.dk kvs)) ∨ (∃ l ws, w = .ref l ∧ l ≠ d ∧ l ≠ g ∧ S[l]? = some (.lst ws) ∧ 60 < ws.length) ∨
  ∃ (l : Nat) (rs : List Rg) (b : W), w = .ref l ∧ l ≠ d ∧ l ≠ g ∧ S[l]? = some (.lst (rs.map rgW ++ [b])) ∧ rs.length ≤ 59 ∧ (∀ r ∈ rs, r.2.length ≤ sizeLine) ∧ BadV d g S b
theorem WrongV.kp (K : Kp d g S S') (h : WrongV d g S w) : WrongV d g S' w := by
  rcases h with h | h | h | h
  · exact .inl h
  · obtain ⟨l, e, n1, n2, kvs, q⟩ := h
    exact .inr (.inl ⟨l, e, n1, n2, kvs, K.at_ _ _ n1 n2 q⟩)
  · obtain ⟨l, ws, e, n1, n2, q, r⟩ := h
    exact .inr (.inr (.inl ⟨l, ws, e, n1, n2, K.at_ _ _ n1 n2 q, r⟩))
  · obtain ⟨l, rs, b, e, n1, n2, q, r1, r2, r3⟩ := h
    exact .inr (.inr (.inr ⟨l, rs, b, e, n1, n2, K.at_ _ _ n1 n2 q, r1, r2, r3.kp K⟩))
theorem WrongV.c1a {y : W} {o2 o3 : Option W} {Q : Bool → Store → Prop} (h : atom w = true) (q : Q true S) : Wp (c1 [some w, some y, o2, o3]) S Q :=
  c1_no (kn_atom h) (by cases w <;> first | rfl | cases h) q
theorem WrongV.c1d {l : Nat} {kvs : List (Key × W)} {y : W} {o2 o3 : Option W} {Q : Bool → Store → Prop} (e : S[l]? = some (.dk kvs)) (q : Q true S) : Wp (c1 [some (.ref l), some y, o2, o3]) S Q := by
  refine c1_no (kn_dk e) ?_ q
  have e2 : rdL S l = none := by unfold rdL; rw [e]
  show (false || (rdL S l).isSome) = false
  rw [e2]
  rfl
theorem WrongV.c1b {l : Nat} {rs : List Rg} {b : W} {y : W} {o2 o3 : Option W} {Q : Bool → Store → Prop} (e : S[l]? = some (.lst (rs.map rgW ++ [b]))) (r1 : rs.length ≤ 59) (r2 : ∀ r ∈ rs, r.2.length ≤ sizeLine) (r3 : BadV d g S b) (q : ∀ S', S <+: S' → Q true S') :
    Wp (c1 [some (.ref l), some y, o2, o3]) S Q := by
  have hl : (rs.map rgW ++ [b]).length ≤ 60 := by
    rw [List.length_append, List.length_map, List.length_singleton]
    omega
  refine c1_all (.inr ⟨l, rfl, rdL_of e⟩) hl (fun x hx => ?_) fun S' p => ?_
  · rcases List.mem_append.mp hx with z | z
    · obtain ⟨r, hr, e4⟩ := List.mem_map.mp z
      rw [← e4]
      exact knR_rg (r2 r hr)
    · rw [List.mem_singleton.mp z]
      exact r3.ok.1
  · have e2 : (rs.map rgW ++ [b]).all ringB = false := by
      rw [List.all_append]
      show (_ && (ringB b && true)) = false
      rw [r3.ok.2]
      simp
    rw [e2]
    exact q S' p
theorem WrongV.c1 (h : WrongV d g S w) {y : W} {o2 o3 : Option W} {Q : Bool → Store → Prop} (q : ∀ S', S <+: S' → Q true S') : Wp (K46.c1 [some w, some y, o2, o3]) S Q := by
  have q0 := q S (List.prefix_refl _)
  rcases h with h | h | h | h
  · exact WrongV.c1a h q0
  · obtain ⟨l, e0, n1, n2, kvs, e⟩ := h
    rw [e0]
    exact WrongV.c1d e q0
  · obtain ⟨l, ws, e0, n1, n2, e, r⟩ := h
    rw [e0]
    exact c1_long (.inr ⟨l, rfl, rdL_of e⟩) r q0
  · obtain ⟨l, rs, b, e0, n1, n2, e, r1, r2, r3⟩ := h
    rw [e0]
    exact WrongV.c1b e r1 r2 r3 q
end
section
variable {S : Store} {P : W → Store → Prop} {d g c : Nat}
/-- the rings that are drawn -/
theorem st_some {x0 x2 x3 x4 x5 x6 x7 x8 x9 x10 x11 : Option W} (h : Dr d g c S) (q : ∀ (S' : Store) (l : Nat) (rs : List Rg), Dr d g c S' → Kp d g S S' → S.length ≤ l → S'[l]? = some (.lst (rs.map rgW)) → rs.length ≤ 60 → (∀ r ∈ rs, OneR r) → P (.ref l) S') :
    Wp (eLc (fun ρ => (aCons (fun ρ => aCons (eVar 1) (aCons (eLst (aCons (eC (.int 0)) (aCons (eC (.int 1)) (aCons (eC (.int 2)) (aCons (eC (.int 3)) (aCons (eC (.int 5)) (aCons (eC (.int 60)) aNil))))))) aNil) ρ >>= m__law_pick) aNil) ρ >>= srcRng1) (gtN 11) cYes (fun ρ => aCons (eVar 1) aNil ρ >>= m__law_one) [11]
      [x0, some (.ref d), x2, x3, x4, x5, x6, x7, x8, x9, x10, x11]) S P := by
  have hd := h.ltD
  have hg := h.ltG
  refine wp_lc ?_
  walk_at "mi"
  refine ⟨by decide, ?_⟩
  have p0 : S <+: S ++ [Ob.lst [.int 0, .int 1, .int 2, .int 3, .int 5, .int 60]] := List.prefix_append _ _
  refine pick (h.pre p0) (rdL_of at_new) (by decide) (by decide) (by omega) (by omega) fun S1 w D1 K1 hw => ?_
  obtain ⟨n, en, hn⟩ : ∃ n : Nat, w = nW n ∧ n ≤ 60 := by
    simp only [List.mem_cons, List.not_mem_nil, or_false] at hw
    rcases hw with e | e | e | e | e | e
    · exact ⟨0, e, by decide⟩
    · exact ⟨1, e, by decide⟩
    · exact ⟨2, e, by decide⟩
    · exact ⟨3, e, by decide⟩
    · exact ⟨5, e, by decide⟩
    · exact ⟨60, e, by decide⟩
  subst en
  unfold nW
  walk_at "mi"
  have K01 := (Kp.pre p0).trans K1
  have l1 : S.length ≤ S1.length := K01.len
  rw [rngW_len, Int.toNat_natCast]
  refine ⟨⟨by omega, by omega⟩, by rw [PySem.sizeLine_eq]; omega, ?_⟩
  refine ⟨fun i out S' => Dr d g c S' ∧ Kp d g S S' ∧ S'[S1.length]? = some (.lst out) ∧ ∃ rs : List Rg, out = rs.map rgW ∧ rs.length = i ∧ ∀ r ∈ rs, OneR r, ⟨D1.pre (List.prefix_append _ _), K01.trans (Kp.pre (List.prefix_append _ _)), at_new, [], rfl, rfl, fun r hr => by simp at hr⟩, fun _ _ _ _ => trivial, fun i out S' ⟨_, _, _, rs, e1, e2, _⟩ => by rw [e1, List.length_map, e2]; exact Nat.le_refl _, ?_, ?_⟩
  · intro i w out S' hi ⟨D2, K2, c2, rs, e1, e2, e3⟩
    walk_at "mi"
    refine one D2 fun S3 r D3 K3 hr => ?_
    have c3 := K3.at_ _ _ (by omega) (by omega) c2
    have hc := h.ltC
    refine ⟨c3, D3.setN (by omega) (by omega) (by omega), (K2.trans K3).setN l1, at_set c3, rs ++ [r], by rw [e1, List.map_append]; rfl, by rw [List.length_append, e2]; rfl, fun x hx => ?_⟩
    rcases List.mem_append.mp hx with z | z
    · exact e3 x z
    · rw [List.mem_singleton.mp z]
      exact hr
  · intro out S' ⟨D2, K2, c2, rs, e1, e2, e3⟩
    rw [e1] at c2
    exact q S' _ rs D2 K2 l1 c2 (by omega) e3
/-- what is lost -/
theorem st_trip {x0 x2 x3 x4 x5 x6 x7 x8 x9 x10 x11 : Option W} (h : Dr d g c S) (q : ∀ (S' : Store) (l a b k : Nat), Dr d g c S' → Kp d g S S' → S'[l]? = some (.lst [nW a, nW b, nW k]) → a ≤ 60 → b ≤ 60 → k ≤ 60 → P (.ref l) S') :
    Wp (eLc (fun ρ => (aCons (eC (.int 3)) aNil) ρ >>= srcRng1) (gtN 11) cYes (fun ρ => aCons (eVar 1) (aCons (eLst (aCons (eC (.int 0)) (aCons (eC (.int 0)) (aCons (eC (.int 1)) (aCons (eC (.int 2)) (aCons (eC (.int 3)) (aCons (eC (.int 60)) aNil))))))) aNil) ρ >>= m__law_pick) [11]
      [x0, some (.ref d), x2, x3, x4, x5, x6, x7, x8, x9, x10, x11]) S P := by
  have hd := h.ltD
  have hg := h.ltG
  have hc := h.ltC
  refine wp_lc ?_
  walk_at "mi"
  refine ⟨⟨by decide, by decide⟩, by rw [rngW_len]; decide, ?_⟩
  refine ⟨fun i out S' => Dr d g c S' ∧ Kp d g S S' ∧ S'[S.length]? = some (.lst out) ∧ ∃ ts : List Nat, out = ts.map nW ∧ ts.length = i ∧ ∀ t ∈ ts, t ≤ 60, ⟨h.pre (List.prefix_append _ _), Kp.pre (List.prefix_append _ _), at_new, [], rfl, rfl, fun r hr => by simp at hr⟩, fun _ _ _ _ => trivial, fun i out S' ⟨_, _, _, rs, e1, e2, _⟩ => by rw [e1, List.length_map, e2]; exact Nat.le_refl _, ?_, ?_⟩
  · intro i w out S' hi ⟨D2, K2, c2, ts, e1, e2, e3⟩
    walk_at "mi"
    refine ⟨by decide, ?_⟩
    have l2 : S.length ≤ S'.length := K2.len
    have p2 : S' <+: S' ++ [Ob.lst [.int 0, .int 0, .int 1, .int 2, .int 3, .int 60]] := List.prefix_append _ _
    refine pick (D2.pre p2) (rdL_of at_new) (by decide) (by decide) (by omega) (by omega) fun S3 w D3 K3 hw => ?_
    obtain ⟨n, en, hn⟩ : ∃ n : Nat, w = nW n ∧ n ≤ 60 := by
      simp only [List.mem_cons, List.not_mem_nil, or_false] at hw
      rcases hw with e | e | e | e | e | e
      · exact ⟨0, e, by decide⟩
      · exact ⟨0, e, by decide⟩
      · exact ⟨1, e, by decide⟩
      · exact ⟨2, e, by decide⟩
      · exact ⟨3, e, by decide⟩
      · exact ⟨60, e, by decide⟩
    have c3 := K3.at_ _ _ (by omega) (by omega) (pre_at p2 c2)
    refine ⟨c3, D3.setN (by omega) (by omega) (by omega), (K2.trans ((Kp.pre p2).trans K3)).setN (Nat.le_refl _), at_set c3, ts ++ [n], by rw [e1, en, List.map_append]; rfl, by rw [List.length_append, e2]; rfl, fun x hx => ?_⟩
    rcases List.mem_append.mp hx with z | z
    · exact e3 x z
    · rw [List.mem_singleton.mp z]
      exact hn
  · intro out S' ⟨D2, K2, c2, ts, e1, e2, e3⟩
    rw [rngW_len] at e2
    have e2 : ts.length = 3 := e2
    match ts, e2, e1, e3 with
    | [a, b, k], _, e1, e3 =>
      rw [e1] at c2
      exact q S' _ a b k D2 K2 c2 (e3 a (by simp)) (e3 b (by simp)) (e3 k (by simp))
end
end K46

set_option maxHeartbeats 400000
/-! K46, the plain law. -/
namespace K46
open PySem PySem.Spec PyProof.Rows L2 Mi
local macro_rules | `(tactic| walk_at "mi") => `(tactic| simp only [wp_bind, wp_pure, wp_var', vr_some, wp_c, wp_op, wp_un, wp_call, wp_nil, wp_cons, wp_star, wp_tup, wp_lst, wp_toB, wp_asB, wp_bNot, wp_bAnd, wp_bOr, wp_eAnd, wp_eOr, wp_eNot, wp_eIf, wp_chain, ws_nx, ws_bk, ws_ct, ws_seq, ws_asg, ws_expr, ws_ret, ws_if, ws_par, ws_dput, wp_gtN, wp_gtNil, wp_gtCons, wp_gtSub, wp_cYes, wp_isN, wp_notN, wp_oNo, wp_oYes, wp_sl, wp_mth, wp_mth0, wp_callK, wp_sub, wp_fdv, wp_mod, wp_pow, wp_lt, wp_le, wp_gt, wp_ge, wp_add, wp_mul, wp_neg, wp_addT, wp_eqI, wp_neI, wp_abs, wp_int, wp_min2, wp_max2, wp_gcd, wp_lenT, wp_tupT, wp_listT, wp_seqT, wp_src, wp_rng1, wp_rng2, List.getElem?_cons_zero, List.getElem?_cons_succ, List.set_cons_zero, List.set_cons_succ, List.map_cons, List.map_nil, List.length_cons, List.length_nil, List.replicate_succ, List.replicate_zero, List.cons_append, List.nil_append, Nat.zero_add, wipeR, W.bl.injEq, W.int.injEq, exists_eq_left', exists_eq_left, exists_eq', Bool.not_true, Bool.not_false, if_true, Bool.false_eq_true, if_false, true_and, and_true, and_self])
open K46M
theorem wp_dict0 {ρ : Rho} {S : Store} {P : W → Store → Prop} : Wp (eDict0 ρ) S P = P (.ref S.length) (S ++ [.dk []]) := rfl
theorem wp_addLL {S : Store} {P : W → Store → Prop} {l m : Nat} {a b : List W} (h1 : S[l]? = some (.lst a)) (h2 : S[m]? = some (.lst b)) : Wp (gAdd (.ref l) (.ref m)) S P = ((a ++ b).length ≤ sizeLine ∧ P (.ref S.length) (S ++ [.lst (a ++ b)])) := wp_addL h1 h2
noncomputable def eOdd : Rho → M W := ((fun ρ => (aCons (eVar 1) (aCons (eLst (aCons (eC .non) (aCons (eTup (aCons (eC (.int 0)) (aCons (eC (.int 0)) (aNil)))) (aCons (eLst (aCons (eC (.int 0)) (aCons (eC (.int 0)) (aCons (eC (.int 0)) (aNil))))) (aCons (eTup (aCons (eC (.int 0)) (aCons (eC (.int 0)) (aCons (eC (.int 61)) (aNil))))) (aCons (eTup (aCons (eUn gNeg (eC (.int 1))) (aCons (eC (.int 0)) (aCons (eC (.int 0)) (aNil))))) (aCons (eTup (aCons (eC (.bl true)) (aCons (eC (.int 0)) (aCons (eC (.int 0)) (aNil))))) (aCons (eTup (aCons (eC (.int 0)) (aCons (eC (.int 0)) (aCons (eC .non) (aNil))))) (aCons (eC (.int 3)) (aCons (eDict0) (aNil))))))))))) (aNil))) ρ >>= m__law_pick))
noncomputable def eBad : Rho → M W := (eLst (aCons (eTup (aCons (eC (.int 0)) (aCons (eTup (aCons (eC (.int 1)) (aNil))) (aNil)))) (aCons (eTup (aCons (eUn gNeg (eC (.int 1))) (aCons (eTup (aNil)) (aNil)))) (aCons (eTup (aCons (eC (.int 0)) (aCons (eTup (aCons (eC (.int 2)) (aCons (eC (.int 3)) (aNil)))) (aNil)))) (aCons (eTup (aCons (eC (.int 0)) (aCons (eLst (aCons (eC (.int 2)) (aNil))) (aNil)))) (aCons (eTup (aCons (eC (.int 0)) (aCons (eTup (aCons (eC (.int 0)) (aNil))) (aNil)))) (aCons (eTup (aCons (eC (.bl true)) (aCons (eTup (aNil)) (aNil)))) (aCons (eTup (aCons (eC (.int 0)) (aNil))) (aCons (eTup (aCons (eC (.int 0)) (aCons (eTup (aNil)) (aCons (eC (.int 0)) (aNil))))) (aCons (eLst (aCons (eC (.int 0)) (aCons (eTup (aNil)) (aNil)))) (aCons (eC .non) (aCons (eTup (aCons (eC (.int 0)) (aCons (eTup (aCons (eC (.int 4)) (aCons (eC (.int 2)) (aNil)))) (aNil)))) (aCons (eTup (aCons (eC (.int 0)) (aCons (eTup (aCons (eC (.bl true)) (aCons (eC (.int 2)) (aNil)))) (aNil)))) (aCons (eTup (aCons (eC (.str "0")) (aCons (eTup (aNil)) (aNil)))) (aNil)))))))))))))))
noncomputable def eWrong : Rho → M W := ((fun ρ => (aCons (eVar 1) (aCons (eLst (aCons (eC .non) (aCons (eC (.int 5)) (aCons (eDict0) (aCons (eC (.str "rings")) (aCons (eLst (aCons ((fun ρ => (aCons (eVar 1) (aCons (eVar 7) (aNil))) ρ >>= m__law_pick)) (aNil))) (aCons (eOp gAdd (eSl (eVar 3) oNo (oYes (eC (.int 59)))) (eLst (aCons ((fun ρ => (aCons (eVar 1) (aCons (eVar 7) (aNil))) ρ >>= m__law_pick)) (aNil)))) (aCons (eOp gMul (eLst (aCons (eTup (aCons (eC (.int 0)) (aCons (eTup (aNil)) (aNil)))) (aNil))) (eC (.int 61))) (aNil))))))))) (aNil))) ρ >>= m__law_pick))
section
variable {S : Store} {P : W → Store → Prop} {d g c : Nat} {x0 x2 x3 x4 x5 x6 x7 x8 x9 x10 x11 : Option W}
theorem st_odd (h : Dr d g c S) (q : ∀ (S' : Store) (w : W), Dr d g c S' → Kp d g S S' → OddV d g S' w → P w S') : Wp (eOdd [x0, some (.ref d), x2, x3, x4, x5, x6, x7, x8, x9, x10, x11]) S P := by
  have hd := h.ltD
  have hg := h.ltG
  unfold eOdd
  walk_at "mi"
  simp only [wp_dict0]
  refine ⟨by decide, by decide, by decide, by decide, by decide, by decide, by decide, ?_⟩
  have p1 : S <+: S ++ [Ob.lst [.int 0, .int 0, .int 0]] ++ [Ob.dk []] := (List.prefix_append _ _).trans (List.prefix_append _ _)
  have o1 : (S ++ [Ob.lst [.int 0, .int 0, .int 0]] ++ [Ob.dk []])[S.length]? = some (.lst [.int 0, .int 0, .int 0]) := at_app at_new
  have o2 : (S ++ [Ob.lst [.int 0, .int 0, .int 0]] ++ [Ob.dk []])[(S ++ [Ob.lst [.int 0, .int 0, .int 0]]).length]? = some (.dk []) := at_new
  have l2 : (S ++ [Ob.lst [.int 0, .int 0, .int 0]]).length = S.length + 1 := by simp
  rw [l2] at o2 ⊢
  generalize S ++ [Ob.lst [.int 0, .int 0, .int 0]] ++ [Ob.dk []] = T at p1 o1 o2 ⊢
  have lT : S.length ≤ T.length := p1.length_le
  refine pick ((h.pre p1).pre (List.prefix_append _ _)) (rdL_of at_new) (by show 0 < 9; decide) (by show 9 ≤ _; decide) (by omega) (by omega) fun S' w D K hw => ?_
  have K2 : Kp d g T S' := (Kp.pre (List.prefix_append _ _)).trans K
  refine q S' w D ((Kp.pre p1).trans K2) ?_
  refine OddV.kp K2 ?_
  simp only [List.mem_cons, List.not_mem_nil, or_false] at hw
  rcases hw with e | e | e | e | e | e | e | e | e <;> rw [e]
  · exact .inr ⟨rfl, rfl⟩
  · exact .inr ⟨rfl, rfl⟩
  · exact .inl ⟨_, rfl, by omega, by omega, .inl ⟨_, o1⟩⟩
  · exact .inr ⟨rfl, by decide⟩
  · exact .inr ⟨rfl, by decide⟩
  · exact .inr ⟨rfl, by decide⟩
  · exact .inr ⟨rfl, by decide⟩
  · exact .inr ⟨rfl, rfl⟩
  · exact .inl ⟨_, rfl, by omega, by omega, .inr ⟨_, o2⟩⟩
theorem st_bad {ρ : Rho} (h : Dr d g c S) (q : ∀ (S' : Store) (l : Nat) (ws : List W), Dr d g c S' → Kp d g S S' → S.length ≤ l → S'[l]? = some (.lst ws) → (∀ w ∈ ws, BadV d g S' w) → 0 < ws.length → ws.length ≤ 100 → P (.ref l) S') : Wp (eBad ρ) S P := by
  have hd := h.ltD
  have hg := h.ltG
  unfold eBad
  walk_at "mi"
  refine ⟨by decide, by decide, by decide, by decide, by decide, by decide, by decide, by decide, by decide, by decide, by decide, by decide, by decide, by decide, by decide, by decide, by decide, by decide, by decide, by decide, by decide, by decide, by decide, by decide, ?_⟩
  have l2 : (S ++ [Ob.lst [.int 2]]).length = S.length + 1 := by simp
  have p1 : S <+: S ++ [Ob.lst [.int 2]] ++ [Ob.lst [.int 0, .tup []]] := (List.prefix_append _ _).trans (List.prefix_append _ _)
  have o1 : (S ++ [Ob.lst [.int 2]] ++ [Ob.lst [.int 0, .tup []]])[S.length]? = some (.lst [.int 2]) := at_app at_new
  have o2 : (S ++ [Ob.lst [.int 2]] ++ [Ob.lst [.int 0, .tup []]])[(S ++ [Ob.lst [.int 2]]).length]? = some (.lst [.int 0, .tup []]) := at_new
  rw [l2] at o2 ⊢
  generalize S ++ [Ob.lst [.int 2]] ++ [Ob.lst [.int 0, .tup []]] = T at p1 o1 o2 ⊢
  have lT : S.length ≤ T.length := p1.length_le
  have p2 : ∀ o : Ob, T <+: T ++ [o] := fun o => List.prefix_append _ _
  refine q _ _ _ ((h.pre p1).pre (p2 _)) (Kp.pre (p1.trans (p2 _))) lT at_new (fun w hw => BadV.kp (Kp.pre (p2 _)) ?_) (by show 0 < 13; decide) (by show 13 ≤ 100; decide)
  have noT : ∀ (ws : List W), (∀ ts, W.tup ts ∈ ws → ts.length ≤ 2) → ∀ us, W.tup ws = .tup us → ∀ ts, W.tup ts ∈ us → ts.length ≤ sizeLine := fun ws h us e ts ht => by
    cases e
    exact Nat.le_trans (h ts ht) (by decide)
  have one : ∀ (x : W) (ts : List W), atom x = true → ts.length ≤ 2 → ∀ us, W.tup [x, .tup ts] = .tup us → ∀ t, W.tup t ∈ us → t.length ≤ sizeLine := fun x ts hx ht => noT _ fun t hm => by
    rcases List.mem_cons.mp hm with e | e
    · rw [← e] at hx
      cases hx
    · cases List.mem_singleton.mp e
      exact ht
  simp only [List.mem_cons, List.not_mem_nil, or_false] at hw
  rcases hw with e | e | e | e | e | e | e | e | e | e | e | e | e <;> rw [e]
  · exact .inr (.inr ⟨rfl, by decide, one _ _ rfl (by decide)⟩)
  · exact .inr (.inr ⟨rfl, by decide, one _ _ rfl (by decide)⟩)
  · exact .inr (.inr ⟨rfl, by decide, one _ _ rfl (by decide)⟩)
  · exact .inr (.inl ⟨_, rfl, by omega, by omega, .inl ⟨_, o1⟩⟩)
  · exact .inr (.inr ⟨rfl, by decide, one _ _ rfl (by decide)⟩)
  · exact .inr (.inr ⟨rfl, rfl, one _ _ rfl (by decide)⟩)
  · exact .inr (.inr ⟨rfl, rfl, noT _ fun t hm => by cases List.mem_singleton.mp hm⟩)
  · refine .inr (.inr ⟨rfl, rfl, noT _ fun t hm => ?_⟩)
    simp only [List.mem_cons, List.not_mem_nil, or_false] at hm
    rcases hm with e | e | e
    · cases e
    · cases e
      decide
    · cases e
  · exact .inl ⟨_, rfl, by omega, by omega, .inl ⟨_, o2⟩⟩
  · exact .inr (.inr ⟨rfl, rfl, fun us e => (nomatch e)⟩)
  · exact .inr (.inr ⟨rfl, by decide, one _ _ rfl (by decide)⟩)
  · exact .inr (.inr ⟨rfl, by decide, one _ _ rfl (by decide)⟩)
  · exact .inr (.inr ⟨rfl, rfl, one _ _ rfl (by decide)⟩)
theorem wp_mulL {a : List W} {l : Nat} (e : S[l]? = some (.lst a)) (ha : a.length = 1) : Wp (gMul (.ref l) (.int 61)) S P = P (.ref S.length) (S ++ [.lst (List.replicate 61 a).flatten]) := by
  have e0 : gMul (.ref l) (.int 61) S = match muL S l with
    | some a => if -(2 ^ 63) ≤ (61 : Int) ∧ (61 : Int) < 2 ^ 63 ∧ a.length * (61 : Int).toNat ≤ sizeLine then newL (List.replicate (61 : Int).toNat a).flatten S else .stuck
    | _ => .stuck := rfl
  have e1 : gMul (.ref l) (.int 61) S = newL (List.replicate 61 a).flatten S := by
    rw [e0, muL_of e]
    dsimp only
    rw [if_pos ⟨by decide, by decide, by rw [ha]; decide⟩]
    rfl
  rw [wp_same e1, wp_newL]
  have hl : (List.replicate 61 a).flatten.length ≤ sizeLine := by
    rw [List.length_flatten, List.map_replicate, ha]
    decide
  exact propext (and_iff_right hl)
theorem wp_slL {l : Nat} {ws : List W} {lo hi : Option Int} (e : S[l]? = some (.lst ws)) : Wp (gSl (.ref l) lo hi) S P = ((cutW ws lo hi).length ≤ sizeLine ∧ P (.ref S.length) (S ++ [.lst (cutW ws lo hi)])) := by
  have e0 : gSl (.ref l) lo hi S = match rdL S l with
    | some ws => newL (cutW ws lo hi) S
    | none => .stuck := rfl
  have e1 : gSl (.ref l) lo hi S = newL (cutW ws lo hi) S := by rw [e0, rdL_of e]
  rw [wp_same e1, wp_newL]
theorem cut_take {ws : List W} {k : Nat} : cutW ws none (some (k : Int)) = ws.take k := by
  unfold cutW
  rw [HT.sIx_none, HT.sIx_nat]
  simp only [List.drop_zero, Nat.sub_zero]
  rw [Nat.min_def]
  split
  · rfl
  · rw [List.take_length, List.take_of_length_le (by omega)]
theorem cut_drop {ws : List W} {k : Nat} (hk : k ≤ ws.length) : cutW ws (some (k : Int)) none = ws.drop k := by
  unfold cutW
  rw [HT.sIx_none, HT.sIx_nat, Nat.min_eq_left hk]
  rw [List.take_of_length_le (by rw [List.length_drop]; omega)]
end
end K46

set_option maxHeartbeats 400000
/-! K46, the plain law. -/
namespace K46
open PySem PySem.Spec PyProof.Rows L2 Mi
local macro_rules | `(tactic| walk_at "mi") => `(tactic| simp only [wp_bind, wp_pure, wp_var', vr_some, wp_c, wp_op, wp_un, wp_call, wp_nil, wp_cons, wp_star, wp_tup, wp_lst, wp_toB, wp_asB, wp_bNot, wp_bAnd, wp_bOr, wp_eAnd, wp_eOr, wp_eNot, wp_eIf, wp_chain, ws_nx, ws_bk, ws_ct, ws_seq, ws_asg, ws_expr, ws_ret, ws_if, ws_par, ws_dput, wp_gtN, wp_gtNil, wp_gtCons, wp_gtSub, wp_cYes, wp_isN, wp_notN, wp_oNo, wp_oYes, wp_sl, wp_mth, wp_mth0, wp_callK, wp_sub, wp_fdv, wp_mod, wp_pow, wp_lt, wp_le, wp_gt, wp_ge, wp_add, wp_mul, wp_neg, wp_addT, wp_eqI, wp_neI, wp_abs, wp_int, wp_min2, wp_max2, wp_gcd, wp_lenT, wp_tupT, wp_listT, wp_seqT, wp_src, wp_rng1, wp_rng2, List.getElem?_cons_zero, List.getElem?_cons_succ, List.set_cons_zero, List.set_cons_succ, List.map_cons, List.map_nil, List.length_cons, List.length_nil, List.replicate_succ, List.replicate_zero, List.cons_append, List.nil_append, Nat.zero_add, wipeR, W.bl.injEq, W.int.injEq, exists_eq_left', exists_eq_left, exists_eq', Bool.not_true, Bool.not_false, if_true, Bool.false_eq_true, if_false, true_and, and_true, and_self])
open K46M
section
variable {S : Store} {P : W → Store → Prop} {d g c : Nat} {x0 x2 x4 x5 x6 x8 x9 x10 x11 : Option W}
theorem st_wrong {l lb : Nat} {rs : List Rg} {ws : List W} (h : Dr d g c S) (hl : S[l]? = some (.lst (rs.map rgW))) (l1 : l ≠ d) (l2 : l ≠ g) (hz : ∀ r ∈ rs, r.2.length ≤ sizeLine) (hn : rs.length ≤ 1000) (hb : S[lb]? = some (.lst ws)) (b1 : lb ≠ d) (b2 : lb ≠ g) (hbad : ∀ w ∈ ws, BadV d g S w) (w0 : 0 < ws.length) (w1 : ws.length ≤ 100)
    (q : ∀ (S' : Store) (w : W), Dr d g c S' → Kp d g S S' → WrongV d g S' w → P w S') : Wp (eWrong [x0, some (.ref d), x2, some (.ref l), x4, x5, x6, some (.ref lb), x8, x9, x10, x11]) S P := by
  have hd := h.ltD
  have hg := h.ltG
  have ww : ws.length ≤ sizeLine := Nat.le_trans w1 (by decide)
  unfold eWrong
  walk_at "mi"
  simp only [wp_dict0]
  have p1 : S <+: S ++ [Ob.dk []] := List.prefix_append _ _
  have o1 : (S ++ [Ob.dk []])[S.length]? = some (.dk []) := at_new
  have lT : (S ++ [Ob.dk []]).length = S.length + 1 := by simp
  generalize S ++ [Ob.dk []] = T at p1 o1 lT ⊢
  refine pick (h.pre p1) (rdL_of (pre_at p1 hb)) w0 ww b1 b2 fun S1 u1 D1 K1 hu1 => ?_
  have B1 : BadV d g S1 u1 := ((hbad u1 hu1).kp (Kp.pre p1)).kp K1
  have K01 : Kp d g S S1 := (Kp.pre p1).trans K1
  have o11 := K1.at_ _ _ (by omega) (by omega) o1
  have L1 : S.length + 1 ≤ S1.length := by rw [← lT]; exact K1.len
  refine ⟨by decide, ?_⟩
  have hl1 := K01.at_ _ _ l1 l2 hl
  have hb1 := K01.at_ _ _ b1 b2 hb
  have p2 : S1 <+: S1 ++ [Ob.lst [u1]] := List.prefix_append _ _
  rw [wp_slL (pre_at p2 hl1)]
  rw [show (some (59 : Int)) = some ((59 : Nat) : Int) from rfl, cut_take, List.map_take.symm]
  have hr59 : (rs.take 59).length ≤ 59 := by simp; omega
  refine ⟨by rw [List.length_map]; exact Nat.le_trans hr59 (by decide), ?_⟩
  have p3 : S1 ++ [Ob.lst [u1]] <+: S1 ++ [Ob.lst [u1]] ++ [Ob.lst ((rs.take 59).map rgW)] := List.prefix_append _ _
  have o2 : (S1 ++ [Ob.lst [u1]])[S1.length]? = some (.lst [u1]) := at_new
  have L2 : (S1 ++ [Ob.lst [u1]]).length = S1.length + 1 := by simp
  generalize S1 ++ [Ob.lst [u1]] = S2 at p2 p3 o2 L2 ⊢
  have o3 : (S2 ++ [Ob.lst ((rs.take 59).map rgW)])[S2.length]? = some (.lst ((rs.take 59).map rgW)) := at_new
  have L3 : (S2 ++ [Ob.lst ((rs.take 59).map rgW)]).length = S2.length + 1 := by simp
  generalize S2 ++ [Ob.lst ((rs.take 59).map rgW)] = S3 at p3 o3 L3 ⊢
  have p13 := p2.trans p3
  refine pick (D1.pre p13) (rdL_of (pre_at p13 hb1)) w0 ww b1 b2 fun S4 u2 D4 K4 hu2 => ?_
  have K14 : Kp d g S1 S4 := (Kp.pre p13).trans K4
  have B2 : BadV d g S4 u2 := ((hbad u2 hu2).kp K01).kp K14
  have L4 : S3.length ≤ S4.length := K4.len
  refine ⟨by decide, ?_⟩
  have o34 := K4.at_ _ _ (by omega) (by omega) o3
  rw [wp_addL (at_app o34) at_new]
  refine ⟨by rw [List.length_append, List.length_map]; exact Nat.le_trans (Nat.add_le_add_right hr59 1) (by decide), by decide, by decide, by decide, ?_⟩
  have p4 : S4 <+: S4 ++ [Ob.lst [u2]] ++ [Ob.lst ((rs.take 59).map rgW ++ [u2])] := (List.prefix_append _ _).trans (List.prefix_append _ _)
  have o5 : (S4 ++ [Ob.lst [u2]] ++ [Ob.lst ((rs.take 59).map rgW ++ [u2])])[(S4 ++ [Ob.lst [u2]]).length]? = some (.lst ((rs.take 59).map rgW ++ [u2])) := at_new
  have L5 : (S4 ++ [Ob.lst [u2]]).length = S4.length + 1 := by simp
  rw [L5] at o5 ⊢
  have L6 : (S4 ++ [Ob.lst [u2]] ++ [Ob.lst ((rs.take 59).map rgW ++ [u2])]).length = S4.length + 2 := by simp
  generalize S4 ++ [Ob.lst [u2]] ++ [Ob.lst ((rs.take 59).map rgW ++ [u2])] = S6 at p4 o5 L6 ⊢
  rw [wp_mulL at_new rfl]
  have p6 : S6 <+: S6 ++ [Ob.lst [.tup [.int 0, .tup []]]] ++ [Ob.lst (List.replicate 61 [W.tup [.int 0, .tup []]]).flatten] := (List.prefix_append _ _).trans (List.prefix_append _ _)
  have o7 : (S6 ++ [Ob.lst [.tup [.int 0, .tup []]]] ++ [Ob.lst (List.replicate 61 [W.tup [.int 0, .tup []]]).flatten])[(S6 ++ [Ob.lst [.tup [.int 0, .tup []]]]).length]? = some (.lst (List.replicate 61 [W.tup [.int 0, .tup []]]).flatten) := at_new
  have L7 : (S6 ++ [Ob.lst [W.tup [.int 0, .tup []]]]).length = S6.length + 1 := by simp
  rw [L7] at o7 ⊢
  have L8 : (S6 ++ [Ob.lst [.tup [.int 0, .tup []]]] ++ [Ob.lst (List.replicate 61 [W.tup [.int 0, .tup []]]).flatten]).length = S6.length + 2 := by simp
  generalize S6 ++ [Ob.lst [.tup [.int 0, .tup []]]] ++ [Ob.lst (List.replicate 61 [W.tup [.int 0, .tup []]]).flatten] = S8 at p6 o7 L8 ⊢
  refine ⟨by decide, ?_⟩
  have p48 := p4.trans p6
  refine pick ((D4.pre p48).pre (List.prefix_append _ _)) (rdL_of at_new) (by show 0 < 7; decide) (by show 7 ≤ _; decide) (by omega) (by omega) fun S9 w D9 K9 hw => ?_
  have K89 : Kp d g S8 S9 := (Kp.pre (List.prefix_append _ _)).trans K9
  refine q S9 w D9 (K01.trans (K14.trans ((Kp.pre p48).trans K89))) (WrongV.kp K89 ?_)
  have KB : Kp d g S1 S8 := K14.trans (Kp.pre p48)
  simp only [List.mem_cons, List.not_mem_nil, or_false] at hw
  rcases hw with e | e | e | e | e | e | e <;> rw [e]
  · exact .inl rfl
  · exact .inl rfl
  · exact .inr (.inl ⟨_, rfl, by omega, by omega, _, KB.at_ _ _ (by omega) (by omega) o11⟩)
  · exact .inl rfl
  · exact .inr (.inr (.inr ⟨_, [], u1, rfl, by omega, by omega, pre_at p48 (K4.at_ _ _ (by omega) (by omega) (pre_at p3 o2)), by decide, fun r hr => by simp at hr, B1.kp KB⟩))
  · exact .inr (.inr (.inr ⟨_, rs.take 59, u2, rfl, by omega, by omega, pre_at p6 o5, hr59, fun r hr => hz r (List.mem_of_mem_take hr), B2.kp (Kp.pre p48)⟩))
  · exact .inr (.inr (.inl ⟨_, _, rfl, by omega, by omega, o7, by decide⟩))
end
end K46

set_option maxHeartbeats 400000
/-! K46, the plain law. -/
namespace K46
open PySem PySem.Spec PyProof.Rows L2 Mi
local macro_rules | `(tactic| walk_at "mi") => `(tactic| simp only [wp_bind, wp_pure, wp_var', vr_some, wp_c, wp_op, wp_un, wp_call, wp_nil, wp_cons, wp_star, wp_tup, wp_lst, wp_toB, wp_asB, wp_bNot, wp_bAnd, wp_bOr, wp_eAnd, wp_eOr, wp_eNot, wp_eIf, wp_chain, ws_nx, ws_bk, ws_ct, ws_seq, ws_asg, ws_expr, ws_ret, ws_if, ws_par, ws_dput, wp_gtN, wp_gtNil, wp_gtCons, wp_gtSub, wp_cYes, wp_isN, wp_notN, wp_oNo, wp_oYes, wp_sl, wp_mth, wp_mth0, wp_callK, wp_sub, wp_fdv, wp_mod, wp_pow, wp_lt, wp_le, wp_gt, wp_ge, wp_add, wp_mul, wp_neg, wp_addT, wp_eqI, wp_neI, wp_abs, wp_int, wp_min2, wp_max2, wp_gcd, wp_lenT, wp_tupT, wp_listT, wp_seqT, wp_src, wp_rng1, wp_rng2, List.getElem?_cons_zero, List.getElem?_cons_succ, List.set_cons_zero, List.set_cons_succ, List.map_cons, List.map_nil, List.length_cons, List.length_nil, List.replicate_succ, List.replicate_zero, List.cons_append, List.nil_append, Nat.zero_add, wipeR, W.bl.injEq, W.int.injEq, exists_eq_left', exists_eq_left, exists_eq', Bool.not_true, Bool.not_false, if_true, Bool.false_eq_true, if_false, true_and, and_true, and_self])
open K46M
noncomputable def eSome : Rho → M W := (eLc (fun ρ => (aCons ((fun ρ => (aCons (eVar 1) (aCons (eLst (aCons (eC (.int 0)) (aCons (eC (.int 1)) (aCons (eC (.int 2)) (aCons (eC (.int 3)) (aCons (eC (.int 5)) (aCons (eC (.int 60)) (aNil)))))))) (aNil))) ρ >>= m__law_pick)) (aNil)) ρ >>= srcRng1) (gtN 11) (cYes) ((fun ρ => (aCons (eVar 1) (aNil)) ρ >>= m__law_one)) [11])
noncomputable def eTrip : Rho → M W := (eCall gTuple (aCons (eLc (fun ρ => (aCons (eC (.int 3)) (aNil)) ρ >>= srcRng1) (gtN 11) (cYes) ((fun ρ => (aCons (eVar 1) (aCons (eLst (aCons (eC (.int 0)) (aCons (eC (.int 0)) (aCons (eC (.int 1)) (aCons (eC (.int 2)) (aCons (eC (.int 3)) (aCons (eC (.int 60)) (aNil)))))))) (aNil))) ρ >>= m__law_pick)) [11]) (aNil)))
noncomputable def cnd1 : Rho → M Bool := (bOr (toB (eOp gNe (eCall gRepr (aCons ((fun ρ => (aCons (eVar 3) (aCons (eVar 4) (aNil))) ρ >>= m_rings_with)) (aNil))) (eCall gRepr (aCons (eVar 10) (aNil))))) (bOr (toB (eOp gNe (eVar 3) (eVar 9))) (toB (eOp gNe (eCallK [1, 0] aNil (aCons (eVar 4) (aCons (eCall gTuple (aCons ((fun ρ => (aCons (eVar 1) (aCons (eVar 3) (aNil))) ρ >>= m__law_shuffled)) (aNil))) (aNil))) m_rings_with) (eVar 10)))))
noncomputable def cnd2 : Rho → M Bool := (toB (eOp gNe ((fun ρ => (aCons (eLst (aCons ((fun ρ => (aCons (eSl (eVar 3) oNo (oYes (eVar 5))) (aCons (eTup (aCons (eC (.int 0)) (aCons (eC (.int 0)) (aCons (eC (.int 0)) (aNil))))) (aNil))) ρ >>= m_rings_with)) (aCons ((fun ρ => (aCons (eSl (eVar 3) (oYes (eVar 5)) oNo) (aCons (eVar 4) (aNil))) ρ >>= m_rings_with)) (aNil)))) (aCons (eTup (aCons (eC (.int 0)) (aCons (eC (.int 0)) (aCons (eC (.int 0)) (aNil))))) (aNil))) ρ >>= m_rings_with)) (eVar 10)))
noncomputable def cnd3 : Rho → M Bool := (bNot (toB (eUn (gIsC isc_BadRings) (eCaught sub_SkinError ((fun ρ => (aCons (eVar 8) (aCons (eVar 6) (aNil))) ρ >>= m_rings_with))))))
noncomputable def cnd4 : Rho → M Bool := (bNot (toB (eUn (gIsC isc_BadLost) (eCaught sub_SkinError ((fun ρ => (aCons (eVar 3) (aCons (eVar 6) (aNil))) ρ >>= m_rings_with))))))
theorem b_law_eq : b_law = sSeq (sAsg ((fun ρ => (aCons (eVar 0) (aNil)) ρ >>= m__law_begun)) (gtN 1)) (sSeq (sFor (fun ρ => (aCons (eOp gAdd (eC (.int 3)) (eCall gMin2 (aCons (eCall gLen (aCons (eVar 0) (aNil))) (aCons (eC (.int 3)) (aNil))))) (aNil)) ρ >>= srcRng1) (gtN 2) (sSeq (sAsg eSome (gtN 3)) (sSeq (sAsg eTrip (gtN 4)) (sSeq (sPar 9 10 (aCons (eCall gList (aCons (eVar 3) (aNil))) (aCons ((fun ρ => (aCons (eVar 3) (aCons (eVar 4) (aNil))) ρ >>= m__law_together)) (aNil)))) (sSeq (sIf cnd1 (sRet (eC (.bl false))) (sNx)) (sSeq (sAsg ((fun ρ => (aCons (eVar 1) (aCons (eOp gAdd (eCall gLen (aCons (eVar 3) (aNil))) (eC (.int 1))) (aNil))) ρ >>= m__law_take)) (gtN 5)) (sSeq (sIf cnd2 (sRet (eC (.bl false))) (sNx)) (sSeq (sAsg eOdd (gtN 6)) (sSeq (sAsg eBad (gtN 7)) (sSeq (sAsg eWrong (gtN 8)) (sSeq (sIf cnd3 (sRet (eC (.bl false))) (sNx)) (sIf cnd4 (sRet (eC (.bl false))) (sNx))))))))))))) (sRet (eC (.bl true)))) := rfl

section
variable {S : Store} {P : W → Store → Prop} {d g c : Nat} {x0 x2 x5 x6 x7 x8 x11 : Option W}
theorem Drawn.pos {rs : List Rg} {a b k : Nat} (h : Drawn rs a b k) : ∀ n ∈ nums (rs ++ lostR a b k), 0 < n := good_pos h.good
theorem Drawn.vr {rs : List Rg} {a b k : Nat} (h : Drawn rs a b k) : ∀ r ∈ rs, VR r := fun r hr => (h.all r hr).vr
theorem Drawn.lens {rs : List Rg} {a b k : Nat} (h : Drawn rs a b k) : ∀ r ∈ rs, r.2.length ≤ 100000 := fun r hr => Nat.le_trans (h.all r hr).len (by decide)
theorem sum_bound {B : Int} (hB : 0 ≤ B) : ∀ {l : List Int}, (∀ x ∈ l, 0 ≤ x ∧ x ≤ B) → 0 ≤ l.sum ∧ l.sum ≤ B * (l.length : Int)
  | [], _ => by simp
  | x :: l, h => by
    have h1 := h x List.mem_cons_self
    have h2 := sum_bound hB (l := l) fun y hy => h y (List.mem_cons_of_mem _ hy)
    rw [List.sum_cons, List.length_cons]
    have e : B * ((l.length + 1 : Nat) : Int) = B * (l.length : Int) + B := by
      rw [Int.natCast_add, Int.mul_add]
      simp
    rw [e]
    omega
theorem Drawn.sum {rs : List Rg} {a b k : Nat} (h : Drawn rs a b k) : 0 ≤ ((rs ++ lostR a b k).map (·.1)).sum ∧ ((rs ++ lostR a b k).map (·.1)).sum ≤ 10 ^ 30 * 62 := by
  have q := sum_bound (B := 10 ^ 30) (by decide) (l := (rs ++ lostR a b k).map (·.1)) fun x hx => by
    obtain ⟨r, hr, e⟩ := List.mem_map.mp hx
    rw [← e]
    rcases List.mem_append.mp hr with z | z
    · exact ⟨(h.all r z).vr.nn, (h.all r z).top⟩
    · have ha := h.a
      unfold lostR at z
      rcases List.mem_cons.mp z with z | z
      · rw [z]
        exact ⟨by show (0 : Int) ≤ (a : Int); omega, by show (a : Int) ≤ _; omega⟩
      · rw [List.mem_singleton.mp z]
        exact ⟨by show (0 : Int) ≤ 0; omega, by show (0 : Int) ≤ 10 ^ 30; decide⟩
  have hl : ((rs ++ lostR a b k).map (·.1)).length ≤ 62 := by
    rw [List.length_map, List.length_append]
    show _ + 2 ≤ _
    have := h.len
    omega
  refine ⟨q.1, Int.le_trans q.2 ?_⟩
  exact Int.mul_le_mul_of_nonneg_left (by omega) (by decide)
theorem Drawn.show {rs : List Rg} {a b k : Nat} (h : Drawn rs a b k) : showOk (rgD (joinR (rs ++ lostR a b k))) := by
  refine show_rg ?_ (fun x hx => ?_) ?_
  · have q := h.sum
    show Nat.log2 (Int.natAbs (List.sum ((rs ++ lostR a b k).map (fun r : Rg => r.1)))) < 1920
    generalize List.sum ((rs ++ lostR a b k).map (fun r : Rg => r.1)) = z at q ⊢
    have hz : z.natAbs < 2 ^ 200 := by
      have e : (10 ^ 30 * 62 : Int) < 2 ^ 200 := by decide
      omega
    by_cases z0 : z.natAbs = 0
    · rw [z0]; decide
    · have := (Nat.log2_lt z0).mpr hz
      omega
  · obtain ⟨h1, h2⟩ := joinR_dv h.good x hx
    have := log_of h2 BN_pos BN_big
    omega
  · have h1 := joinR_len (x := rs ++ lostR a b k)
    have h2 := h.good.few
    have h3 : (nums (rs ++ lostR a b k)).length ≤ 3 * 60 + 120 := by
      rw [nums_app, List.length_append, show (nums (lostR a b k)).length = b + k from lost_len]
      have h5 : (nums rs).length ≤ 3 * rs.length := sum_lenR (rs := rs) fun r hr => (h.all r hr).len
      have := h.len
      have := h.b
      have := h.c
      omega
    omega
theorem Drawn.perm {rs rs' : List Rg} {a b k : Nat} (h : Drawn rs a b k) (p : rs'.Perm rs) : Drawn rs' a b k ∧ joinR (rs' ++ lostR a b k) = joinR (rs ++ lostR a b k) := by
  refine ⟨⟨by rw [p.length_eq]; exact h.len, fun r hr => h.all r (p.mem_iff.mp hr), h.a, h.b, h.c⟩, ?_⟩
  exact (joinR_perm (p.append_right _).symm h.pos).symm
theorem kwp {w v : W} : kwPerm [1, 0] ([] ++ [w, v]) = [v, w] := rfl
theorem st_cnd1 {l lg a b k : Nat} {rs : List Rg} (h : Dr d g c S) (hl : S[l]? = some (.lst (rs.map rgW))) (l1 : l ≠ d) (l2 : l ≠ g) (hlg : S[lg]? = some (.lst (rs.map rgW))) (W0 : Drawn rs a b k) {Q : Bool → Store → Prop} (q : ∀ S', Dr d g c S' → Kp d g S S' → Q false S') :
    Wp (cnd1 [x0, some (.ref d), x2, some (.ref l), some (tripW a b k), x5, x6, x7, x8, some (.ref lg), some (rgW (joinR (rs ++ lostR a b k))), x11]) S Q := by
  unfold cnd1
  walk_at "mi"
  refine rings_ok (.inr ⟨l, rfl, rdL_of hl⟩) W0.len W0.vr W0.lens W0.a W0.b W0.c W0.good fun S1 p1 => ?_
  rw [wp_repr W0.show, wp_repr W0.show]
  rw [wp_eqD (dat_str ok_shown) (dat_str ok_shown)]
  refine ⟨_, rfl, ?_⟩
  have e1 : PyData.eqv (.str (rgD (joinR (rs ++ lostR a b k))).shown) (.str (rgD (joinR (rs ++ lostR a b k))).shown) = true := eqv_same (dat_str (S := []) (n := 0) ok_shown)
  rw [e1]
  simp only [Bool.not_true, if_true, Bool.false_eq_true, if_false]
  rw [wp_eqD (dat_rgs (rdL_of (pre_at p1 hl))) (dat_rgs (rdL_of (pre_at p1 hlg)))]
  refine ⟨_, rfl, ?_⟩
  rw [eqv_rgs]
  simp only [Bool.not_true, if_true, Bool.false_eq_true, if_false]
  have hn := W0.len
  refine shuffled (h.pre p1) (rdL_of (pre_at p1 hl)) l1 l2 (by omega) fun S2 l' rs' D2 K2 c2 _ hp => ?_
  rw [wp_tupleR (rdL_of c2)]
  obtain ⟨W1, e2⟩ := W0.perm hp
  refine ⟨by rw [List.length_map]; exact Nat.le_trans W1.len (by decide), ?_⟩
  rw [show kwPerm [1, 0] [tripW a b k, W.tup (rs'.map rgW)] = [W.tup (rs'.map rgW), tripW a b k] from rfl]
  refine rings_ok (rs := rs') (.inl rfl) W1.len W1.vr W1.lens W1.a W1.b W1.c W1.good fun S3 p3 => ?_
  rw [e2, wp_eqD dat_rg dat_rg]
  refine ⟨_, rfl, ?_⟩
  rw [eqv_rg]
  exact q S3 (D2.pre p3) ((Kp.pre p1).trans (K2.trans (Kp.pre p3)))
end
end K46

set_option maxHeartbeats 400000
/-! K46, the plain law. -/
namespace K46
open PySem PySem.Spec PyProof.Rows L2 Mi
local macro_rules | `(tactic| walk_at "mi") => `(tactic| simp only [wp_bind, wp_pure, wp_var', vr_some, wp_c, wp_op, wp_un, wp_call, wp_nil, wp_cons, wp_star, wp_tup, wp_lst, wp_toB, wp_asB, wp_bNot, wp_bAnd, wp_bOr, wp_eAnd, wp_eOr, wp_eNot, wp_eIf, wp_chain, ws_nx, ws_bk, ws_ct, ws_seq, ws_asg, ws_expr, ws_ret, ws_if, ws_par, ws_dput, wp_gtN, wp_gtNil, wp_gtCons, wp_gtSub, wp_cYes, wp_isN, wp_notN, wp_oNo, wp_oYes, wp_sl, wp_mth, wp_mth0, wp_callK, wp_sub, wp_fdv, wp_mod, wp_pow, wp_lt, wp_le, wp_gt, wp_ge, wp_add, wp_mul, wp_neg, wp_addT, wp_eqI, wp_neI, wp_abs, wp_int, wp_min2, wp_max2, wp_gcd, wp_lenT, wp_tupT, wp_listT, wp_seqT, wp_src, wp_rng1, wp_rng2, List.getElem?_cons_zero, List.getElem?_cons_succ, List.set_cons_zero, List.set_cons_succ, List.map_cons, List.map_nil, List.length_cons, List.length_nil, List.replicate_succ, List.replicate_zero, List.cons_append, List.nil_append, Nat.zero_add, wipeR, W.bl.injEq, W.int.injEq, exists_eq_left', exists_eq_left, exists_eq', Bool.not_true, Bool.not_false, if_true, Bool.false_eq_true, if_false, true_and, and_true, and_self])
open K46M
theorem Drawn.sub {rs rs' : List Rg} {a b k a' b' k' : Nat} (h : Drawn rs a b k) (hs : ∀ r ∈ rs', r ∈ rs) (hl : rs'.length ≤ rs.length) (ha : a' ≤ 60) (hb : b' ≤ 60) (hk : k' ≤ 60) : Drawn rs' a' b' k' :=
  ⟨Nat.le_trans hl h.len, fun r hr => h.all r (hs r hr), ha, hb, hk⟩
theorem joinR_few {rs : List Rg} {a b k : Nat} (h : Drawn rs a b k) : (joinR (rs ++ lostR a b k)).2.length ≤ 300 := by
  have h1 := joinR_len (x := rs ++ lostR a b k)
  have h3 : (nums (rs ++ lostR a b k)).length ≤ 3 * 60 + 120 := by
    rw [nums_app, List.length_append, show (nums (lostR a b k)).length = b + k from lost_len]
    have h5 : (nums rs).length ≤ 3 * rs.length := sum_lenR (rs := rs) fun r hr => (h.all r hr).len
    have := h.len
    have := h.b
    have := h.c
    omega
  omega
/-- two halves, joined -/
theorem halves {rs : List Rg} {a b k v : Nat} (h : Drawn rs a b k) : let A := joinR (rs.take v ++ lostR 0 0 0); let B := joinR (rs.drop v ++ lostR a b k)
    VR A ∧ VR B ∧ Good BN ([A, B] ++ lostR 0 0 0) ∧ joinR ([A, B] ++ lostR 0 0 0) = joinR (rs ++ lostR a b k) := by
  intro A B
  have hA : Drawn (rs.take v) 0 0 0 := h.sub (fun r hr => List.mem_of_mem_take hr) (by simp; omega) (by decide) (by decide) (by decide)
  have hB : Drawn (rs.drop v) a b k := h.sub (fun r hr => List.mem_of_mem_drop hr) (by simp) h.a h.b h.c
  obtain ⟨vA, tA⟩ := joinR_vr hA.pos hA.sum.1
  obtain ⟨vB, tB⟩ := joinR_vr hB.pos hB.sum.1
  have eN : nums ([A, B] ++ lostR 0 0 0) = A.2 ++ B.2 := by
    show A.2 ++ (B.2 ++ ([] ++ ([] ++ []))) = _
    simp
  have lA : A.2.length ≤ 300 := joinR_few hA
  have lB : B.2.length ≤ 300 := joinR_few hB
  have G : Good BN ([A, B] ++ lostR 0 0 0) := by
    refine ⟨BN_pos, BN_big, fun r hr => ?_, ?_⟩
    · rcases List.mem_append.mp hr with e | e
      · rcases List.mem_cons.mp e with e | e
        · rw [e]
          exact joinR_dv hA.good
        · rw [List.mem_singleton.mp e]
          exact joinR_dv hB.good
      · exact lost_all r e
    · show (nums ([A, B] ++ lostR 0 0 0)).length ≤ _
      rw [eN, List.length_append]
      omega
  refine ⟨vA, vB, G, joinR_eq (good_pos G) h.pos ?_ ?_⟩
  · show A.1 + (B.1 + (((0 : Nat) : Int) + (0 + 0))) = _
    have e1 : A.1 = ((rs.take v).map (·.1)).sum + (((lostR 0 0 0).map (·.1)).sum) := sum_app
    have e2 : B.1 = ((rs.drop v).map (·.1)).sum + ((lostR a b k).map (·.1)).sum := sum_app
    have e3 : ((lostR 0 0 0).map (·.1)).sum = 0 := rfl
    have e4 : (rs.map (·.1)).sum = ((rs.take v).map (·.1)).sum + ((rs.drop v).map (·.1)).sum := by rw [← sum_app, List.take_append_drop]
    rw [sum_app, e4, e1, e2, e3]
    omega
  · rw [eN, T_app (l := B.2) (m := nums (rs.drop v ++ lostR a b k)) tB, T_perm List.perm_append_comm, T_app tA, T_perm List.perm_append_comm]
    congr 1
    rw [nums_app, nums_app, nums_app, show nums (lostR 0 0 0) = [] from rfl, List.append_nil, ← List.append_assoc, ← nums_app, List.take_append_drop]
section
variable {S : Store} {P : W → Store → Prop} {d g c : Nat} {x0 x1 x2 x6 x7 x8 x9 x11 : Option W}
theorem st_cnd2 {l a b k v : Nat} {rs : List Rg} (hl : S[l]? = some (.lst (rs.map rgW))) (hv : v ≤ rs.length) (W0 : Drawn rs a b k) {Q : Bool → Store → Prop} (q : ∀ S', S <+: S' → Q false S') :
    Wp (cnd2 [x0, x1, x2, some (.ref l), some (tripW a b k), some (.int (v : Int)), x6, x7, x8, x9, some (rgW (joinR (rs ++ lostR a b k))), x11]) S Q := by
  obtain ⟨vA, vB, G, eJ⟩ := halves (v := v) W0
  have hA : Drawn (rs.take v) 0 0 0 := W0.sub (fun r hr => List.mem_of_mem_take hr) (by simp; omega) (by decide) (by decide) (by decide)
  have hB : Drawn (rs.drop v) a b k := W0.sub (fun r hr => List.mem_of_mem_drop hr) (by simp) W0.a W0.b W0.c
  unfold cnd2
  walk_at "mi"
  rw [wp_slL hl, cut_take, ← List.map_take]
  refine ⟨by rw [List.length_map]; exact Nat.le_trans hA.len (by decide), by decide, ?_⟩
  rw [show W.tup [.int 0, .int 0, .int 0] = tripW 0 0 0 from rfl]
  have p1 : S <+: S ++ [Ob.lst ((rs.take v).map rgW)] := List.prefix_append _ _
  refine rings_ok (rs := rs.take v) (.inr ⟨_, rfl, rdL_of at_new⟩) hA.len hA.vr hA.lens hA.a hA.b hA.c hA.good fun S2 p2 => ?_
  have hl2 := pre_at (p1.trans p2) hl
  rw [wp_slL hl2, cut_drop (by rw [List.length_map]; exact hv), ← List.map_drop]
  refine ⟨by rw [List.length_map]; exact Nat.le_trans hB.len (by decide), ?_⟩
  have p3 : S2 <+: S2 ++ [Ob.lst ((rs.drop v).map rgW)] := List.prefix_append _ _
  refine rings_ok (rs := rs.drop v) (.inr ⟨_, rfl, rdL_of at_new⟩) hB.len hB.vr hB.lens hB.a hB.b hB.c hB.good fun S4 p4 => ?_
  refine ⟨by decide, by decide, ?_⟩
  have lA := joinR_few hA
  have lB := joinR_few hB
  refine rings_ok (rs := [joinR (rs.take v ++ lostR 0 0 0), joinR (rs.drop v ++ lostR a b k)]) (a := 0) (b := 0) (c := 0) (.inr ⟨_, rfl, rdL_of at_new⟩) (by show 2 ≤ 60; decide) (fun r hr => ?_) (fun r hr => ?_) (by decide) (by decide) (by decide) G fun S5 p5 => ?_
  · rcases List.mem_cons.mp hr with e | e
    · rw [e]; exact vA
    · rw [List.mem_singleton.mp e]; exact vB
  · rcases List.mem_cons.mp hr with e | e
    · rw [e]; omega
    · rw [List.mem_singleton.mp e]; omega
  · rw [eJ, wp_eqD dat_rg dat_rg]
    refine ⟨_, rfl, ?_⟩
    rw [eqv_rg]
    exact q S5 ((p1.trans p2).trans ((p3.trans p4).trans ((List.prefix_append _ _).trans p5)))
/-- refused, caught, of the right class -/
theorem st_cnd3 {x3 x4 x5 x9 x10 : Option W} {w y : W} (hw : WrongV d g S w) {Q : Bool → Store → Prop} (q : ∀ S', S <+: S' → Q false S') :
    Wp (cnd3 [x0, x1, x2, x3, x4, x5, some y, x7, some w, x9, x10, x11]) S Q := by
  unfold cnd3
  walk_at "mi"
  refine wp_caught (c := "BadRings") (by decide) (wx_right ?_)
  walk_at "mi"
  refine rings_no1 (hw.c1 fun S' p => ⟨rfl, rfl, ?_⟩)
  rw [wp_isC (b := true) (by decide)]
  exact ⟨true, rfl, q S' p⟩
theorem st_cnd4 {x4 x5 x8 x9 x10 : Option W} {y : W} {l : Nat} {rs : List Rg} {a b k : Nat} (hl : S[l]? = some (.lst (rs.map rgW))) (W0 : Drawn rs a b k) (hy : OddV d g S y) {Q : Bool → Store → Prop} (q : ∀ S', S <+: S' → Q false S') :
    Wp (cnd4 [x0, x1, x2, some (.ref l), x4, x5, some y, x7, x8, x9, x10, x11]) S Q := by
  unfold cnd4
  walk_at "mi"
  refine wp_caught (c := "BadLost") (by decide) (wx_right ?_)
  walk_at "mi"
  have hr : (rs.map rgW).all ringB = true := by
    rw [List.all_map, List.all_eq_true]
    exact fun r hr => vr_ring (W0.vr r hr)
  refine rings_no2 (c1_all (.inr ⟨l, rfl, rdL_of hl⟩) (by rw [List.length_map]; exact W0.len) (fun x hx => ?_) fun S1 p1 => ?_)
  · obtain ⟨r, hr, e⟩ := List.mem_map.mp hx
    rw [← e]
    exact knR_rg (Nat.le_trans (W0.lens r hr) (by decide))
  · rw [hr]
    refine ⟨rfl, ?_⟩
    obtain ⟨k1, k2, k3⟩ := (hy.kp (Kp.pre p1)).ok
    refine c2_ok k1 k2 fun S2 p2 => ?_
    rw [k3]
    refine ⟨rfl, rfl, ?_⟩
    rw [wp_isC (b := true) (by decide)]
    exact ⟨true, rfl, q S2 (p1.trans p2)⟩
end
/-! ### the law -/
theorem law_plain (ns : List Int) (hn : ns.length ≤ 63) : ∃ S', m_law [.ref 0] [.frz (ns.map W.int)] = .ok (.bl true) S' := by
  have main : Wp (m_law [.ref 0]) [.frz (ns.map W.int)] fun w _ => w = .bl true := by
    refine wp_fn ?_
    rw [b_law_eq]
    walk_at "mi"
    have hr0 : rdL [Ob.frz (ns.map W.int)] 0 = some (ns.map W.int) := rfl
    refine begun hr0 (by omega) fun S1 d g c p1 d0 g0 D1 => ?_
    have hr1 := pre_rd p1 hr0
    refine ws_for ?_
    walk_at "mi"
    rw [wp_lenR hr1]
    walk_at "mi"
    rw [List.length_map]
    refine ⟨⟨by split <;> omega, by split <;> omega⟩, ?_⟩
    refine ⟨fun i ρ S' => ∃ x2 x3 x4 x5 x6 x7 x8 x9 x10 x11, ρ = [some (.ref 0), some (.ref d), x2, x3, x4, x5, x6, x7, x8, x9, x10, x11] ∧ Dr d g c S', ⟨_, _, _, _, _, _, _, _, _, _, rfl, D1⟩, fun _ _ _ _ => trivial, ?_, ?_⟩
    · intro i w ρ S2 hi ⟨x2, x3, x4, x5, x6, x7, x8, x9, x10, x11, hρ, D2⟩
      subst hρ
      walk_at "mi"
      refine st_some D2 fun S3 l rs D3 K3 lS hl hlen hall => ?_
      have hd := D2.ltD
      have hg := D2.ltG
      unfold eTrip
      walk_at "mi"
      refine st_trip D3 fun S4 lt a b k D4 K4 hlt ha hb hk => ?_
      have W0 : Drawn rs a b k := ⟨hlen, hall, ha, hb, hk⟩
      rw [wp_tupleR (rdL_of hlt)]
      refine ⟨by show 3 ≤ _; decide, ?_⟩
      rw [show W.tup [nW a, nW b, nW k] = tripW a b k from rfl]
      have hl4 := K4.at_ l _ (by omega) (by omega) hl
      rw [wp_listR (rdL_of hl4)]
      refine ⟨by rw [List.length_map]; exact Nat.le_trans hlen (by decide), ?_⟩
      have p5 : S4 <+: S4 ++ [Ob.lst (rs.map rgW)] := List.prefix_append _ _
      have hlg : (S4 ++ [Ob.lst (rs.map rgW)])[S4.length]? = some (.lst (rs.map rgW)) := at_new
      generalize hw3 : tripW a b k = t3
      refine together hw3.symm (pre_at p5 hl4) (by omega) (by omega) (by omega) W0.good fun S6 p6 => ?_
      subst hw3
      refine ⟨_, _, rfl, ?_⟩
      have D6 := (D4.pre p5).pre p6
      have hl6 := pre_at p6 (pre_at p5 hl4)
      have hlg6 := pre_at p6 hlg
      refine st_cnd1 D6 hl6 (by omega) (by omega) hlg6 W0 fun S7 D7 K7 => ?_
      simp only [Bool.false_eq_true, if_false]
      have hl7 := K7.at_ l _ (by omega) (by omega) hl6
      rw [wp_lenR (rdL_of hl7)]
      walk_at "mi"
      rw [List.length_map]
      refine take D7 (by omega) ?_ fun S8 v D8 K8 v0 v1 => ?_
      · have e : ((rs.length : Int) + 1).natAbs = rs.length + 1 := by omega
        rw [e]
        have := (Nat.log2_lt (n := rs.length + 1) (k := 20) (by omega)).mpr (by omega)
        omega
      have hl8 := K8.at_ l _ (by omega) (by omega) hl7
      have ev : v = ((v.toNat : Nat) : Int) := by omega
      rw [ev]
      refine st_cnd2 hl8 (by omega) W0 fun S9 p9 => ?_
      simp only [Bool.false_eq_true, if_false]
      have D9 := D8.pre p9
      have hl9 := pre_at p9 hl8
      refine st_odd D9 fun S10 y D10 K10 hy => ?_
      have hl10 := K10.at_ l _ (by omega) (by omega) hl9
      refine st_bad D10 fun S11 lb ws D11 K11 lbS hlb hbad w0 w1 => ?_
      have hl11 := K11.at_ l _ (by omega) (by omega) hl10
      have hd10 := D10.ltD
      have hg10 := D10.ltG
      refine st_wrong D11 hl11 (by omega) (by omega) (fun r hr => Nat.le_trans (W0.lens r hr) (by decide)) (by omega) hlb (by omega) (by omega) hbad w0 w1 fun S12 w12 D12 K12 hw => ?_
      refine st_cnd3 hw fun S13 p13 => ?_
      simp only [Bool.false_eq_true, if_false]
      have hl13 := pre_at p13 (K12.at_ l _ (by omega) (by omega) hl11)
      have hy13 := ((hy.kp K11).kp K12).kp (Kp.pre p13)
      refine st_cnd4 hl13 W0 hy13 fun S14 p14 => ?_
      simp only [Bool.false_eq_true, if_false]
      exact ⟨_, _, _, _, _, _, _, _, _, _, rfl, (D12.pre p13).pre p14⟩
    · intro ρ S2 ⟨x2, x3, x4, x5, x6, x7, x8, x9, x10, x11, hρ, D2⟩
      subst hρ
      exact trivial
  obtain ⟨w, S', e, h⟩ := wp_get main
  exact ⟨S', by rw [e, h]⟩
end K46

set_option maxHeartbeats 0
/-! K46H: the head (printed by gen.py). -/
namespace K46
open PySem PySem.Spec PyProof.Rows L2 Mi
abbrev R : PySem.W.OpenRow := PySem.W.OpenLaw.row PySem.Challenge.rw_skinswithin_k46_rings_with_lost_ones
abbrev hk : PySem.W.Hook := hookM 4 fa fn tf ex
def ob (s : PySem.W.SharedT) : He.AlX := obsM 4 fa fn tf ex (HandSHeadRun.getT s)
theorem ob_eq (s : PySem.W.SharedT) : ob s = hk.obs s.abs := obsM_eq (HandSHeadRun.getT_eq s)
def names0 : List Str := ["__name__", "SkinError", "BadRings", "BadLost", "is_number", "is_between", "is_list", "is_tuple", "MOST_RINGS", "are_rings", "joined_rings", "with_lost", "rings_with", "_law_begun", "_law_mixed", "_law_take", "_law_pick", "_law_caught", "_law_shuffled", "_law_gcd", "_law_together", "_law_one"]
abbrev names : List Str := names0
theorem run (w : World) : HandSHeadRun.RunEqI R (PySem.W.view R.prog [0, 26]) hk ob 6000 names w := by
  unfold HandSHeadRun.RunEqI
  kernel_rfl
/-- the claim at the heap behind the top, from what the plain machine says of the law -/
theorem lawM (hm : ∀ ns : List Int, ns.length ≤ 63 → (∀ z ∈ ns, Builtin.Int.intBits z ≤ 1048576) → ∃ S', m_law [.ref 0] [.frz (ns.map Mi.W.int)] = .ok (.bl true) S') {w : World} {mg : Str → Option Value} {f : Addr} {h : Heap}
    (Y : hk.says w h) (G : h.Ns mainGlobals mg) (hfa : mg ("law" : Str) = some (.ref f)) : ∃ K : PySem.W.Frag, K.In h ∧ NoL K ∧ LawM PySem.Challenge.rw_skinswithin_k46_rings_with_lost_ones w K 6 63 "script" mg f h := by
  obtain ⟨K, X, nl, c⟩ := Y
  have F := fx_of X G c
  have e := hfa.symm.trans F.g_law
  cases e
  refine ⟨K, X, nl, _, [He.cT K ("law", none)], tb_law K, m_law, fun p hp => ?_, fun p hp => ?_, fun p hp => ?_, fun p hp => ?_, fun s u => bindsTo_of F.f_law ar_law s [u] rfl, fun base _ _ TB => ok_law F (TB _ (List.mem_singleton.mpr rfl)), hm⟩
  · rw [List.mem_singleton.mp hp]
    exact c.empty _ (List.mem_singleton.mpr rfl)
  · rw [List.mem_singleton.mp hp]
    exact c.out _ (List.mem_singleton.mpr rfl)
  · rw [List.mem_singleton.mp hp]
    exact PySem.W.codeHd_of_K X (c.hd _ (List.mem_singleton.mpr rfl))
  · rw [List.mem_singleton.mp hp]
    exact List.mem_singleton.mpr rfl
end K46
open PySem PySem.W PySem.Calls PyProof.Rows
theorem K46.holds_of (hm : ∀ ns : List Int, ns.length ≤ 63 → (∀ z ∈ ns, Builtin.Int.intBits z ≤ 1048576) → ∃ S', K46.m_law [.ref 0] [.frz (ns.map Mi.W.int)] = .ok (.bl true) S') : PySem.Challenge.rw_skinswithin_k46_rings_with_lost_ones.Holds := by
  w_on; o_law
  refine HandSHeadRun.head_imp (r := OpenLaw.row PySem.Challenge.rw_skinswithin_k46_rings_with_lost_ones) (q := view (OpenLaw.row PySem.Challenge.rw_skinswithin_k46_rings_with_lost_ones).prog [0, 26]) (H := K46.hk) (ob := K46.ob) (M := 6000) (loose := K46.names) (d := HandSHeadRun.topDef (OpenLaw.row PySem.Challenge.rw_skinswithin_k46_rings_with_lost_ones).prog 26) (kwd := []) K46.ob_eq
    K46.run (by kernel_rfl) (by kernel_rfl) (by kernel_rfl) (by rfl) (by first | assumption | decide +kernel) (by decide +kernel) ⟨rfl, rfl, rfl, rfl, rfl, by decide +kernel⟩ ?hw ?hc
  case hw => w_witness2
  case hc =>
    refine Mi.walk_ofM (l := PySem.Challenge.rw_skinswithin_k46_rings_with_lost_ones) (n := 63) (k := 6) (x := "script") rfl (by decide) (by kernel_rfl) ⟨rfl, by decide, by decide⟩ ?F
    intro w mg fa h Y G hmg0
    have hmg : mg ("law" : PySem.Str) = some (.ref fa) := by
      have e : (HandSHeadRun.topDef (OpenLaw.row PySem.Challenge.rw_skinswithin_k46_rings_with_lost_ones).prog 26).name = ("law" : PySem.Str) := by kernel_rfl
      rw [← e]
      exact hmg0
    exact K46.lawM hm Y G hmg

theorem PySem.Challenge.cw_skinswithin_k46_rings_with_lost_ones_holds : PySem.Challenge.rw_skinswithin_k46_rings_with_lost_ones.Holds :=
  K46.holds_of fun ns h _ => K46.law_plain ns h
